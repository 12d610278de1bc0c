/- A drawn number, or the nearest that is kept, comes back of its bytes; a text, too; a number that is cut does not. No condition. -/
import Derived.Test.YtgncojbnejdplaaMFnNumsDef
set_option linter.unusedVariables false
set_option linter.unusedSimpArgs false
namespace Go.Proofs.Ytgncojbnejdplaa.MPureFnNums
open Go.RowKit Go.Proofs.Ytgncojbnejdplaa.MFnNums Go.Proofs.YtgncojbnejdplaaW.PrintWords Go.Proofs.YtgncojbnejdplaaW.PrintLast Go.Proofs.YtgncojbnejdplaaW.PrintMore

theorem wrap_id {i : Int} (h0 : -9223372036854775808 ≤ i) (h1 : i ≤ 9223372036854775807) : wrap64 i = i := by unfold wrap64; omega
theorem wrap_succ {i n : Nat} (h : i < n) (hn : n ≤ 9223372036854775807) : wrap64 ((i : Int) + 1) = ((i + 1 : Nat) : Int) := by unfold wrap64; omega
theorem rd_nat (xs : List Int) (i : Nat) : rd xs (i : Int) = xs.getD i 0 := by simp [rd]
theorem take_set_succ {α : Type} (l : List α) (i : Nat) (x : α) (h : i < l.length) : (l.set i x).take (i + 1) = l.take i ++ [x] := by
  rw [List.take_succ_eq_append_getElem (by simpa using h), List.getElem_set_self, List.take_set_of_le (Nat.le_refl _)]
theorem take_succ_getD {α : Type} (l : List α) (i : Nat) (d : α) (h : i < l.length) : l.take (i + 1) = l.take i ++ [l.getD i d] := by
  rw [List.take_succ_eq_append_getElem h, List.getD_eq_getElem?_getD, List.getElem?_eq_getElem h]
  rfl
theorem take_all {α : Type} {l m : List α} {n : Nat} (h : l.take n = m) (hl : l.length = n) : l = m := by
  rw [← h, ← hl, List.take_length]
theorem wf_u8 {x : Int} (h : (Lit.int .u8 x).wf = true) : 0 ≤ x ∧ x ≤ 255 := by
  simp [Lit.wf, IntKind.min, IntKind.max, IntKind.signed, IntKind.bits] at h
  omega
theorem wf_i64 {x : Int} (h : (Lit.int .i64 x).wf = true) : -9223372036854775808 ≤ x ∧ x ≤ 9223372036854775807 := by
  simp [Lit.wf, IntKind.min, IntKind.max, IntKind.signed, IntKind.bits] at h
  omega

theorem fill_loop {β : Type} (L : Nat → List β → Int → Option (List β)) (n : Nat) (g : Nat → β) (z : β)
    (hs : ∀ (i : Nat) (out : List β) (r : List β), i < n → out.length = n → Ev (fun k => L k (out.set i (g i)) ((i + 1 : Nat) : Int)) r → Ev (fun k => L k out (i : Int)) r)
    (he : ∀ out : List β, out.length = n → Ev (fun k => L k out (n : Int)) out) : Ev (fun k => L k (List.replicate n z) 0) ((List.range n).map g) := by
  have key : ∀ (d i : Nat) (out : List β), i + d = n → out.length = n → out.take i = (List.range i).map g → Ev (fun k => L k out (i : Int)) ((List.range n).map g) := by
    intro d
    induction d with
    | zero =>
      intro i out hi hl ht
      have : i = n := by omega
      subst this
      have e := take_all ht hl
      rw [← e]
      exact he out hl
    | succ d ih =>
      intro i out hi hl ht
      refine hs i out _ (by omega) hl (ih (i + 1) _ (by omega) (by simp [hl]) ?_)
      rw [take_set_succ _ _ _ (by omega), ht, List.range_succ, List.map_append]
      rfl
  exact key n 0 _ (by omega) (by simp) (by simp)
/-- A row that is written from the left: element i becomes g i, and a state goes along. -/
theorem mark_loop {β σ : Type} (L : Nat → List β → σ → Int → Option (σ × List β)) (n : Nat) (g : Nat → β) (st : Nat → σ)
    (hs : ∀ (i : Nat) (out : List β) (r : σ × List β), i < n → out.length = n → Ev (fun k => L k (out.set i (g i)) (st (i + 1)) ((i + 1 : Nat) : Int)) r → Ev (fun k => L k out (st i) (i : Int)) r)
    (he : ∀ out : List β, out.length = n → Ev (fun k => L k out (st n) (n : Int)) (st n, out)) (l : List β) (hl : l.length = n) : Ev (fun k => L k l (st 0) 0) (st n, (List.range n).map g) := by
  have key : ∀ (d i : Nat) (out : List β), i + d = n → out.length = n → out.take i = (List.range i).map g → Ev (fun k => L k out (st i) (i : Int)) (st n, (List.range n).map g) := by
    intro d
    induction d with
    | zero =>
      intro i out hi hl ht
      have : i = n := by omega
      subst this
      have e := take_all ht hl
      rw [← e]
      exact he out hl
    | succ d ih =>
      intro i out hi hl ht
      refine hs i out _ (by omega) hl (ih (i + 1) _ (by omega) (by simp [hl]) ?_)
      rw [take_set_succ _ _ _ (by omega), ht, List.range_succ, List.map_append]
      rfl
  exact key n 0 _ (by omega) hl (by simp)
theorem scan_loop {ρ : Type} (g : Nat → Nat → Option ρ) (n : Nat) (r : ρ) (hs : ∀ i, i < n → Ev (g (i + 1)) r → Ev (g i) r) (he : Ev (g n) r) : Ev (g 0) r := by
  have key : ∀ (d i : Nat), i + d = n → Ev (g i) r := by
    intro d
    induction d with
    | zero => intro i hi; have : i = n := by omega
              subst this; exact he
    | succ d ih => intro i hi; exact hs i (by omega) (ih (i + 1) (by omega))
  exact key n 0 (by omega)
theorem range_map_get {α β : Type} (l : List α) (f : α → β) (d : α) : (List.range l.length).map (fun i => f (l.getD i d)) = l.map f := by
  apply List.ext_getElem?
  intro i
  rw [List.getElem?_map, List.getElem?_map]
  by_cases h : i < l.length
  · simp [h, List.getD_eq_getElem?_getD]
  · rw [List.getElem?_eq_none (by simp; omega), List.getElem?_eq_none (by omega)]
    rfl
theorem range_map_getD {β : Type} (n i : Nat) (g : Nat → β) (d : β) (h : i < n) : ((List.range n).map g).getD i d = g i := by
  simp [List.getD_eq_getElem?_getD, h]
theorem Ev.bind' {α β : Type} {g : Nat → Option α} {f : Nat → α → Option β} {a : α} {r : β} (h : Ev g a) (k : Ev (fun n => f n a) r) : Ev (fun n => (g n).bind (f n)) r := Ev.bind h k
theorem Ev.cond {α : Type} {g f : Nat → Option α} {r : α} (h : ∃ K, ∀ k, K ≤ k → g k = f k) (k : Ev f r) : Ev g r := by
  obtain ⟨K, h⟩ := h
  obtain ⟨K', k⟩ := k
  exact ⟨K + K', fun n hn => by rw [h n (by omega)]; exact k n (by omega)⟩
/-- One round: at n + 1 it is what it is at n of another. -/
theorem Ev.round {α : Type} {g f : Nat → Option α} {r : α} (h : ∃ K, ∀ k, K ≤ k → g (k + 1) = f k) (k : Ev f r) : Ev g r := by
  obtain ⟨K, h⟩ := h
  obtain ⟨K', k⟩ := k
  exact ⟨K + K' + 1, fun n hn => by
    obtain ⟨m, rfl⟩ : ∃ m, n = m + 1 := ⟨n - 1, by omega⟩
    rw [h m (by omega)]; exact k m (by omega)⟩
theorem Ev.ends {α : Type} {g : Nat → Option α} {r : α} (h : ∀ k, g (k + 1) = some r) : Ev g r := ⟨1, fun n hn => by
  obtain ⟨m, rfl⟩ : ∃ m, n = m + 1 := ⟨n - 1, by omega⟩
  exact h m⟩
theorem Ev.all {α : Type} {g : Nat → Option α} {r : α} (h : ∀ k, g k = some r) : Ev g r := ⟨0, fun n _ => h n⟩

/-- Both come to one answer, of which P holds. -/
def Both {α : Type} (P : α → Prop) (f g : Nat → Option α) : Prop := ∃ r, P r ∧ Ev f r ∧ Ev g r
namespace Both
variable {α β : Type} {P : α → Prop} {f f' g g' : Nat → Option α}
theorem step (h1 : ∀ k, f (k + 1) = f' k) (h2 : ∀ k, g (k + 1) = g' k) (h : Both P f' g') : Both P f g := by
  obtain ⟨r, hp, a, b⟩ := h
  exact ⟨r, hp, Ev.step h1 a, Ev.step h2 b⟩
theorem left (h1 : ∀ k, f (k + 1) = f' k) (h : Both P f' g) : Both P f g := by
  obtain ⟨r, hp, a, b⟩ := h
  exact ⟨r, hp, Ev.step h1 a, b⟩
theorem right (h2 : ∀ k, g (k + 1) = g' k) (h : Both P f g') : Both P f g := by
  obtain ⟨r, hp, a, b⟩ := h
  exact ⟨r, hp, a, Ev.step h2 b⟩
theorem ret (r : α) (h : P r) : Both P (fun _ => some r) (fun _ => some r) := ⟨r, h, Ev.now r, Ev.now r⟩
theorem ite {c : Prop} [Decidable c] (h1 : c → Both P f g) (h2 : ¬ c → Both P f' g') : Both P (fun k => if c then f k else f' k) (fun k => if c then g k else g' k) := by
  by_cases h : c
  · simpa only [if_pos h] using h1 h
  · simpa only [if_neg h] using h2 h
theorem bind {Q : β → Prop} {p q : Nat → Option β} {F G : Nat → β → Option α} (h : Both Q p q) (k : ∀ b, Q b → Both P (fun n => F n b) (fun n => G n b)) : Both P (fun n => (p n).bind (F n)) (fun n => (q n).bind (G n)) := by
  obtain ⟨b, hq, h1, h2⟩ := h
  obtain ⟨r, hp, a, c⟩ := k b hq
  exact ⟨r, hp, Ev.bind h1 a, Ev.bind h2 c⟩
theorem of {r : α} (h1 : Ev f r) (h2 : Ev g r) (hp : P r) : Both P f g := ⟨r, hp, h1, h2⟩
theorem eq {r : α} (h1 : Ev f r) (h2 : Ev g r) : Both (fun x => x = r) f g := ⟨r, rfl, h1, h2⟩
theorem any {Q : α → Prop} (h : Both Q f g) : Both (fun _ => True) f g := by
  obtain ⟨r, _, a, b⟩ := h
  exact ⟨r, trivial, a, b⟩
theorem mono {P' : α → Prop} (h : Both P f g) (hi : ∀ r, P r → P' r) : Both P' f g := by
  obtain ⟨r, hp, a, b⟩ := h
  exact ⟨r, hi r hp, a, b⟩
end Both
/-- It comes to an answer, of which P holds. -/
def Comes {α : Type} (P : α → Prop) (f : Nat → Option α) : Prop := ∃ r, P r ∧ Ev f r
namespace Comes
variable {α β : Type} {P : α → Prop} {f f' : Nat → Option α}
theorem step (h1 : ∀ k, f (k + 1) = f' k) (h : Comes P f') : Comes P f := by
  obtain ⟨r, hp, a⟩ := h
  exact ⟨r, hp, Ev.step h1 a⟩
theorem ret (r : α) (h : P r) : Comes P (fun _ => some r) := ⟨r, h, Ev.now r⟩
theorem ite {c : Prop} [Decidable c] (h1 : c → Comes P f) (h2 : ¬ c → Comes P f') : Comes P (fun k => if c then f k else f' k) := by
  by_cases h : c
  · simpa only [if_pos h] using h1 h
  · simpa only [if_neg h] using h2 h
theorem bind {Q : β → Prop} {p : Nat → Option β} {F : Nat → β → Option α} (h : Comes Q p) (k : ∀ b, Q b → Comes P (fun n => F n b)) : Comes P (fun n => (p n).bind (F n)) := by
  obtain ⟨b, hq, h1⟩ := h
  obtain ⟨r, hp, a⟩ := k b hq
  exact ⟨r, hp, Ev.bind h1 a⟩
theorem mono {P' : α → Prop} (h : Comes P f) (hi : ∀ r, P r → P' r) : Comes P' f := by
  obtain ⟨r, hp, a⟩ := h
  exact ⟨r, hi r hp, a⟩
theorem rounds (h : Comes P f) : ∃ k r, f k = some r ∧ P r := by
  obtain ⟨r, hp, a⟩ := h
  obtain ⟨k, hk⟩ := a.rounds
  exact ⟨k, r, hk, hp⟩
theorem true_ {f : Nat → Option Bool} (h : Comes (fun b => b = true) f) : ∃ k, f k = some true := by
  obtain ⟨k, r, hk, rfl⟩ := h.rounds
  exact ⟨k, hk⟩
theorem some_ (o : Option α) (r : α) (h : o = some r) (hp : P r) : Comes P (fun _ => o) := ⟨r, hp, Ev.all (fun _ => h)⟩
end Comes

theorem and255 (n : Int) : Go.bits .and .i64 n 255 = n % 256 := by
  have h255 : (BitVec.ofInt 64 255).toNat = 2 ^ 8 - 1 := by decide
  have key : (BitVec.ofInt 64 n &&& BitVec.ofInt 64 255).toNat = (n % ((2 ^ 64 : Nat) : Int)).toNat % 2 ^ 8 := by
    rw [BitVec.toNat_and, BitVec.toNat_ofInt, h255, Nat.and_two_pow_sub_one_eq_mod]
  show IntKind.i64.wrap ((BitVec.ofInt 64 n &&& BitVec.ofInt 64 255).toNat : Nat) = n % 256
  rw [key, IntKind.wrap_i64]
  omega
/-- A place in the drawn bytes. -/
def At (b : List Int) (i : Int) : Prop := 0 ≤ i ∧ i ≤ (b.length : Int)
theorem l1New_comes (b : List Int) (hb : b.length ≤ 1048576) : Comes (fun r => r.1 = b ∧ r.2.1 = 0) (fun k => spec_l1New.f k b) := by
  have key : ∀ (d i : Nat) (x : Int), i + d = b.length → Comes (fun r => r.1 = b ∧ r.2.1 = 0) (fun k => spec_l1New.l0 k b x (i : Int)) := by
    intro d
    induction d with
    | zero =>
      intro i x hi
      refine Comes.step (fun k => spec_l1New.l0.eq_2 ..) ?_
      have e1 : ((i : Int) < (b.length : Int)) = False := eq_false (by omega)
      simp only [e1, if_false]
      exact Comes.ret _ ⟨rfl, rfl⟩
    | succ d ih =>
      intro i x hi
      refine Comes.step (fun k => spec_l1New.l0.eq_2 ..) ?_
      have e1 : ((i : Int) < (b.length : Int)) = True := eq_true (by omega)
      have e2 : (0 ≤ (i : Int)) = True := eq_true (by omega)
      have ew : wrap64 ((i : Int) + 1) = ((i + 1 : Nat) : Int) := wrap_succ (n := b.length) (by omega) (by omega)
      simp only [e1, e2, if_true, ew]
      exact Comes.ite (fun _ => ih (i + 1) _ (by omega)) (fun _ => Comes.ret _ ⟨rfl, rfl⟩)
  exact key b.length 0 _ (by omega)
theorem l1Byte_some (b : List Int) (i x : Int) (hb : b.length ≤ 1048576) (hi : At b i) : ∃ v j y, spec_l1Byte.f b i x = some (v, j, y) ∧ 0 ≤ v ∧ v ≤ 255 ∧ At b j := by
  unfold At at hi ⊢
  simp only [spec_l1Byte.f, and255]
  by_cases h : i < (b.length : Int)
  · rw [if_pos h, if_pos hi.1, wrap_id (i := i + 1) (by omega) (by omega)]
    exact ⟨_, _, _, rfl, by omega, by omega, by omega⟩
  · rw [if_neg h]
    exact ⟨_, _, _, rfl, by omega, by omega, hi⟩
theorem l1Below_some (b : List Int) (i x n : Int) (hb : b.length ≤ 1048576) (hi : At b i) : ∃ v j y, spec_l1Below.f b i x n = some (v, j, y) ∧ 0 ≤ v ∧ (0 < n → v < n) ∧ (n ≤ 0 → v = 0) ∧ At b j := by
  simp only [spec_l1Below.f]
  by_cases h0 : n ≤ 0
  · rw [if_pos h0]
    exact ⟨_, _, _, rfl, by omega, by omega, fun _ => rfl, hi⟩
  · rw [if_neg h0]
    have hp : 0 < n := by omega
    have hn : ¬ n = 0 := by omega
    by_cases h1 : n ≤ 256
    · rw [if_pos h1]
      obtain ⟨v, j, y, e, v0, v1, hj⟩ := l1Byte_some b i x hb hi
      simp only [e, Option.bind_some]
      rw [if_neg hn, Int.tmod_eq_emod_of_nonneg v0]
      exact ⟨_, _, _, rfl, Int.emod_nonneg _ hn, fun _ => Int.emod_lt_of_pos _ hp, fun h => absurd h h0, hj⟩
    · rw [if_neg h1]
      obtain ⟨v, j, y, e, v0, v1, hj⟩ := l1Byte_some b i x hb hi
      obtain ⟨v', j', y', e', v0', v1', hj'⟩ := l1Byte_some b j y hb hj
      obtain ⟨v2, j2, y2, e2, v02, v12, hj2⟩ := l1Byte_some b j' y' hb hj'
      simp only [e, e', e2, Option.bind_some]
      rw [if_neg hn, wrap_id (i := v * 65536) (by omega) (by omega), wrap_id (i := v' * 256) (by omega) (by omega), wrap_id (i := v * 65536 + v' * 256) (by omega) (by omega), wrap_id (i := v * 65536 + v' * 256 + v2) (by omega) (by omega), Int.tmod_eq_emod_of_nonneg (by omega)]
      exact ⟨_, _, _, rfl, Int.emod_nonneg _ hn, fun _ => Int.emod_lt_of_pos _ hp, fun h => absurd h h0, hj2⟩

theorem l1Int_some (b : List Int) (i x : Int) (l : List Int) (hb : b.length ≤ 1048576) (hi : At b i) (hl : 0 < l.length) : ∃ v j y, spec_l1Int.f b i x l = some (v, j, y) ∧ v ∈ l ∧ At b j := by
  obtain ⟨v, j, y, e, v0, v1, _, hj⟩ := l1Below_some b i x (l.length : Int) hb hi
  have v1 := v1 (by omega)
  simp only [spec_l1Int.f, e, Option.bind_some]
  rw [if_pos v0, if_pos v1]
  refine ⟨_, _, _, rfl, ?_, hj⟩
  unfold rd
  rw [List.getD_eq_getElem?_getD, List.getElem?_eq_getElem (show v.toNat < l.length by omega)]
  exact List.getElem_mem _

theorem wraps_i64 (n : Int) (h0 : 0 ≤ n) (h1 : n < 2 ^ 63) : IntKind.i64.wrap n = n := by rw [IntKind.wrap_i64]; omega
theorem and127 {x : Int} (h0 : 0 ≤ x) (h1 : x < 9223372036854775808) : Go.bits .and .i64 x 127 = x % 128 := by
  have h := bits_mask .i64 63 (by decide) wraps_i64 7 (by decide) x h0 (by omega)
  simpa using h
theorem or7 {x y : Int} (h0 : 0 ≤ x) (h1 : x < 9223372036854775808) (hx : x % 128 = 0) (hy0 : 0 ≤ y) (hy : y < 128) : Go.bits .or .i64 x y = x + y :=
  bits_join .i64 63 (by decide) wraps_i64 7 x y h0 (by simpa using hx) (by omega) hy0 (by omega) (by omega)
theorem or_128 {y : Int} (hy0 : 0 ≤ y) (hy : y < 128) : Go.bits .or .i64 y 128 = y + 128 := by
  obtain ⟨b, rfl⟩ := Int.eq_ofNat_of_zero_le hy0
  have h := (bits_nat .i64 63 (by decide) wraps_i64 b 128 (by omega) (by decide)).2
  have h2 := Nat.two_pow_add_eq_or_of_lt (i := 7) (b := b) (by omega) 1
  rw [Nat.or_comm] at h2
  have h3 : Go.bits .or .i64 ((b : Nat) : Int) 128 = ((b ||| 128 : Nat) : Int) := h
  have h4 : (b ||| 128 : Nat) = 128 + b := by simpa using h2.symm
  rw [h3, h4]
  omega
theorem shr_eq {x : Int} {s : Int} (j : Nat) (hs : s = (j : Int)) (hj : j ≤ 64) : shr .i64 x s = x / 2 ^ j := by
  subst hs
  unfold shr
  rw [Int.toNat_natCast, Nat.min_eq_left (by simpa [IntKind.bits] using hj)]

def BytesIn (b : List Int) : Prop := ∀ i : Int, 0 ≤ rd b i ∧ rd b i ≤ 255
theorem bytesIn_of {b : List Int} (h : ∀ x ∈ b, (Lit.int .u8 x).wf = true) : BytesIn b := by
  intro i
  unfold rd
  rw [List.getD_eq_getElem?_getD]
  cases e : b[i.toNat]? with
  | none => simp
  | some x => exact wf_u8 (h x (List.mem_of_getElem? e))
theorem BytesIn.mem {b : List Int} (h : BytesIn b) : ∀ x ∈ b, 0 ≤ x ∧ x ≤ 255 := by
  intro x hx
  obtain ⟨i, hi, rfl⟩ := List.mem_iff_getElem.1 hx
  have := h (i : Int)
  simpa [rd, List.getD_eq_getElem?_getD, List.getElem?_eq_getElem hi] using this
theorem BytesIn.of_mem {b : List Int} (h : ∀ x ∈ b, 0 ≤ x ∧ x ≤ 255) : BytesIn b := by
  intro i
  unfold rd
  rw [List.getD_eq_getElem?_getD]
  cases e : b[i.toNat]? with
  | none => simp
  | some x => exact h x (List.mem_of_getElem? e)
theorem BytesIn.nat {b : List Int} (h : BytesIn b) : ∀ x ∈ b, x.toNat < 4294967296 := fun x hx => by have := h.mem x hx; omega
theorem drop_cons_rd {b : List Int} {i : Nat} (h : i < b.length) : b.drop i = rd b (i : Int) :: b.drop (i + 1) := by
  rw [List.drop_eq_getElem_cons h, rd_nat, List.getD_eq_getElem?_getD, List.getElem?_eq_getElem h]
  rfl

def getR (b : List Int) (at_ : Int) : Nat → Int → Int → Int × Int × Bool
  | 0, _, _ => (0, 0, false)
  | d + 1, n, k => if 0 ≤ at_ ∧ at_ + k < (b.length : Int) then
      (if k = 0 ∧ rd b (at_ + k) = 128 then (0, 0, false) else
        if rd b (at_ + k) < 128 then (if n * 128 + rd b (at_ + k) % 128 > 1000000000 then (0, 0, false) else (n * 128 + rd b (at_ + k) % 128, at_ + k + 1, true))
        else getR b at_ d (n * 128 + rd b (at_ + k) % 128) (k + 1)) else (0, 0, false)
def topR : Nat → Int
  | 0 => 0
  | k + 1 => topR k * 128 + 127
theorem topR_le (k : Nat) (h : k ≤ 5) : topR k ≤ 34359738367 := by
  have : k = 0 ∨ k = 1 ∨ k = 2 ∨ k = 3 ∨ k = 4 ∨ k = 5 := by omega
  rcases this with rfl | rfl | rfl | rfl | rfl | rfl <;> decide

theorem getR_range (b : List Int) (hb : BytesIn b) (at_ : Int) : ∀ (d : Nat) (n k : Int), 0 ≤ k → 0 ≤ n → (getR b at_ d n k).2.2 = true →
    0 ≤ (getR b at_ d n k).1 ∧ (getR b at_ d n k).1 ≤ 1000000000 ∧ at_ + k + 1 ≤ (getR b at_ d n k).2.1 ∧ 0 ≤ at_ ∧ (getR b at_ d n k).2.1 ≤ b.length := by
  intro d
  induction d with
  | zero => intro n k hk hn h; simp [getR] at h
  | succ d ih =>
    intro n k hk hn h
    have hc := hb (at_ + k)
    unfold getR at h ⊢
    by_cases hr : 0 ≤ at_ ∧ at_ + k < (b.length : Int)
    · rw [if_pos hr] at h ⊢
      by_cases h1 : k = 0 ∧ rd b (at_ + k) = 128
      · rw [if_pos h1] at h; simp at h
      · rw [if_neg h1] at h ⊢
        by_cases h2 : rd b (at_ + k) < 128
        · rw [if_pos h2] at h ⊢
          by_cases h3 : n * 128 + rd b (at_ + k) % 128 > 1000000000
          · rw [if_pos h3] at h; simp at h
          · rw [if_neg h3]
            refine ⟨?_, ?_, ?_, ?_, ?_⟩ <;> first | omega | (dsimp only; omega)
        · rw [if_neg h2] at h ⊢
          obtain ⟨a1, a2, a3, a4, a5⟩ := ih _ (k + 1) (by omega) (by omega) h
          exact ⟨a1, a2, by omega, a4, a5⟩
    · rw [if_neg hr] at h; simp at h
def textR (b : List Int) (at_ : Int) : ByteArray × Int × Bool :=
  if (getR b at_ 5 0 0).2.2 = true then
    (if (getR b at_ 5 0 0).1 > (b.length : Int) - (getR b at_ 5 0 0).2.1 then ((⟨#[]⟩ : ByteArray), 0, false)
     else (strOfNums ((b.take ((getR b at_ 5 0 0).2.1 + (getR b at_ 5 0 0).1).toNat).drop ((getR b at_ 5 0 0).2.1).toNat), (getR b at_ 5 0 0).2.1 + (getR b at_ 5 0 0).1, true))
  else ((⟨#[]⟩ : ByteArray), 0, false)

/-- The bytes of a number, 0 to 10^9. -/
def numB (n : Int) : List Int :=
  if n < 128 then [n % 128] else if n < 16384 then [n / 128 % 128 + 128, n % 128] else if n < 2097152 then [n / 16384 % 128 + 128, n / 128 % 128 + 128, n % 128]
  else if n < 268435456 then [n / 2097152 % 128 + 128, n / 16384 % 128 + 128, n / 128 % 128 + 128, n % 128]
  else [n / 268435456 % 128 + 128, n / 2097152 % 128 + 128, n / 16384 % 128 + 128, n / 128 % 128 + 128, n % 128]
theorem numB_length (n : Int) : 1 ≤ (numB n).length ∧ (numB n).length ≤ 5 := by unfold numB; (repeat' split) <;> simp
def clampN (n : Int) : Int := if n > 1000000000 then 1000000000 else if n < 0 then 0 else n
theorem clampN_range (n : Int) : 0 ≤ clampN n ∧ clampN n ≤ 1000000000 := by unfold clampN; (repeat' split) <;> omega
theorem impl_put_l1 (n : Int) (h0 : 0 ≤ n) (h1 : n ≤ 1000000000) (q : Nat) (out : List Int) (ho : out.length < 140737488355328) (s : Nat) (hs0 : 0 < s) (hs : s ≤ 28) :
    impl_addNum.l1 (q + 1) out n (s : Int) = impl_addNum.l1 q (out ++ [n / 2 ^ s % 128 + 128]) n ((s : Int) - 7) := by
  have hp : 0 ≤ n / 2 ^ s ∧ n / 2 ^ s ≤ n := ⟨Int.ediv_nonneg h0 (Int.le_of_lt (Int.pow_pos (by decide))), Int.ediv_le_self _ h0⟩
  simp only [impl_addNum.l1]
  rw [if_pos (by omega), if_pos (by omega), if_pos ho, shr_eq s rfl (by omega), and127 hp.1 (by omega), wrap_id (by omega) (by omega), wrap_id (by omega) (by omega)]
  congr 3
  omega
theorem impl_put_end (n : Int) (h0 : 0 ≤ n) (h1 : n ≤ 1000000000) (q : Nat) (out : List Int) (ho : out.length < 140737488355328) : impl_addNum.l1 (q + 1) out n 0 = some (out ++ [n % 128]) := by
  simp only [impl_addNum.l1]
  rw [if_neg (by omega), if_pos ho, and127 h0 (by omega)]
  congr 3
  omega
theorem impl_put_l0 (n : Int) (h0 : 0 ≤ n) (h1 : n ≤ 1000000000) (q : Nat) (out : List Int) (s : Nat) (hs : s ≤ 28) :
    impl_addNum.l0 (q + 1) out n (s : Int) = if n / 2 ^ s > 127 then impl_addNum.l0 q out n ((s + 7 : Nat) : Int) else impl_addNum.l1 q out n (s : Int) := by
  simp only [impl_addNum.l0]
  rw [if_pos (by omega), shr_eq s rfl (by omega), wrap_id (i := (s : Int) + 7) (by omega) (by omega)]
  rfl
theorem impl_addNum_at (n : Int) (out : List Int) (ho : out.length + 5 < 140737488355328) (q : Nat) : impl_addNum.f (q + 12) out n = some (out ++ numB (clampN n)) := by
  have hc := clampN_range n
  have e : mx 0 (mn n 1000000000) = clampN n := by unfold mx mn clampN; (repeat' split) <;> omega
  unfold impl_addNum.f
  rw [e]
  generalize clampN n = m at hc
  obtain ⟨h0, h1⟩ := hc
  have l1 := fun q out ho s hs0 hs => impl_put_l1 m h0 h1 q out ho s hs0 hs
  have l0 := fun q out s hs => impl_put_l0 m h0 h1 q out s hs
  have en := fun q out ho => impl_put_end m h0 h1 q out ho
  unfold numB
  rw [show (0 : Int) = ((0 : Nat) : Int) from rfl, l0 (q + 11) out 0 (by omega)]
  by_cases c1 : m < 128
  · rw [if_neg (by omega), if_pos c1]
    exact en (q + 10) out (by omega)
  rw [if_pos (by omega), if_neg c1, l0 (q + 10) out 7 (by omega)]
  by_cases c2 : m < 16384
  · rw [if_neg (by omega), if_pos c2, l1 (q + 9) out (by omega) 7 (by omega) (by omega)]
    have := en (q + 8) (out ++ [m / 2 ^ 7 % 128 + 128]) (by simp; omega)
    simpa using this
  rw [if_pos (by omega), if_neg c2, l0 (q + 9) out 14 (by omega)]
  by_cases c3 : m < 2097152
  · rw [if_neg (by omega), if_pos c3, l1 (q + 8) out (by omega) 14 (by omega) (by omega)]
    have a := l1 (q + 7) (out ++ [m / 2 ^ 14 % 128 + 128]) (by simp; omega) 7 (by omega) (by omega)
    have b := en (q + 6) ((out ++ [m / 2 ^ 14 % 128 + 128]) ++ [m / 2 ^ 7 % 128 + 128]) (by simp; omega)
    have a' : impl_addNum.l1 (q + 8) (out ++ [m / 2 ^ 14 % 128 + 128]) m (((14 : Nat) : Int) - 7) = _ := a
    rw [a']
    have b' : impl_addNum.l1 (q + 7) ((out ++ [m / 2 ^ 14 % 128 + 128]) ++ [m / 2 ^ 7 % 128 + 128]) m (((7 : Nat) : Int) - 7) = _ := b
    rw [b']
    simp
  rw [if_pos (by omega), if_neg c3, l0 (q + 8) out 21 (by omega)]
  by_cases c4 : m < 268435456
  · rw [if_neg (by omega), if_pos c4, l1 (q + 7) out (by omega) 21 (by omega) (by omega)]
    have a := l1 (q + 6) (out ++ [m / 2 ^ 21 % 128 + 128]) (by simp; omega) 14 (by omega) (by omega)
    have b := l1 (q + 5) ((out ++ [m / 2 ^ 21 % 128 + 128]) ++ [m / 2 ^ 14 % 128 + 128]) (by simp; omega) 7 (by omega) (by omega)
    have c := en (q + 4) (((out ++ [m / 2 ^ 21 % 128 + 128]) ++ [m / 2 ^ 14 % 128 + 128]) ++ [m / 2 ^ 7 % 128 + 128]) (by simp; omega)
    have a' : impl_addNum.l1 (q + 7) (out ++ [m / 2 ^ 21 % 128 + 128]) m (((21 : Nat) : Int) - 7) = _ := a
    rw [a']
    have b' : impl_addNum.l1 (q + 6) ((out ++ [m / 2 ^ 21 % 128 + 128]) ++ [m / 2 ^ 14 % 128 + 128]) m (((14 : Nat) : Int) - 7) = _ := b
    rw [b']
    have c' : impl_addNum.l1 (q + 5) (((out ++ [m / 2 ^ 21 % 128 + 128]) ++ [m / 2 ^ 14 % 128 + 128]) ++ [m / 2 ^ 7 % 128 + 128]) m (((7 : Nat) : Int) - 7) = _ := c
    rw [c']
    simp
  rw [if_pos (by omega), if_neg c4, l0 (q + 7) out 28 (by omega), if_neg (by omega), l1 (q + 6) out (by omega) 28 (by omega) (by omega)]
  have a := l1 (q + 5) (out ++ [m / 2 ^ 28 % 128 + 128]) (by simp; omega) 21 (by omega) (by omega)
  have b := l1 (q + 4) ((out ++ [m / 2 ^ 28 % 128 + 128]) ++ [m / 2 ^ 21 % 128 + 128]) (by simp; omega) 14 (by omega) (by omega)
  have c := l1 (q + 3) (((out ++ [m / 2 ^ 28 % 128 + 128]) ++ [m / 2 ^ 21 % 128 + 128]) ++ [m / 2 ^ 14 % 128 + 128]) (by simp; omega) 7 (by omega) (by omega)
  have d := en (q + 2) ((((out ++ [m / 2 ^ 28 % 128 + 128]) ++ [m / 2 ^ 21 % 128 + 128]) ++ [m / 2 ^ 14 % 128 + 128]) ++ [m / 2 ^ 7 % 128 + 128]) (by simp; omega)
  have a' : impl_addNum.l1 (q + 6) (out ++ [m / 2 ^ 28 % 128 + 128]) m (((28 : Nat) : Int) - 7) = _ := a
  rw [a']
  have b' : impl_addNum.l1 (q + 5) ((out ++ [m / 2 ^ 28 % 128 + 128]) ++ [m / 2 ^ 21 % 128 + 128]) m (((21 : Nat) : Int) - 7) = _ := b
  rw [b']
  have c' : impl_addNum.l1 (q + 4) (((out ++ [m / 2 ^ 28 % 128 + 128]) ++ [m / 2 ^ 21 % 128 + 128]) ++ [m / 2 ^ 14 % 128 + 128]) m (((14 : Nat) : Int) - 7) = _ := c
  rw [c']
  have d' : impl_addNum.l1 (q + 3) ((((out ++ [m / 2 ^ 28 % 128 + 128]) ++ [m / 2 ^ 21 % 128 + 128]) ++ [m / 2 ^ 14 % 128 + 128]) ++ [m / 2 ^ 7 % 128 + 128]) m (((7 : Nat) : Int) - 7) = _ := d
  rw [d']
  simp
theorem impl_addNum_ev (n : Int) (out : List Int) (ho : out.length + 5 < 140737488355328) : Ev (fun k => impl_addNum.f k out n) (out ++ numB (clampN n)) :=
  ⟨12, fun k hk => by obtain ⟨q, rfl⟩ : ∃ q, k = q + 12 := ⟨k - 12, by omega⟩; exact impl_addNum_at n out ho q⟩

def textB (s : ByteArray) : List Int := numB (clampN (s.size : Int)) ++ bytesOf s
theorem textB_length (s : ByteArray) : (textB s).length ≤ s.size + 5 := by
  have := numB_length (clampN (s.size : Int))
  unfold textB
  rw [List.length_append, bytesOf_length]
  omega

theorem BytesIn.set {l : List Int} (h : BytesIn l) (i : Nat) (x : Int) (h0 : 0 ≤ x) (h1 : x ≤ 255) : BytesIn (l.set i x) := by
  apply BytesIn.of_mem
  intro y hy
  rcases List.mem_or_eq_of_mem_set hy with hm | rfl
  · exact h.mem y hm
  · exact ⟨h0, h1⟩
theorem BytesIn.append {l m : List Int} (h : BytesIn l) (h' : BytesIn m) : BytesIn (l ++ m) := by
  apply BytesIn.of_mem
  intro y hy
  rcases List.mem_append.1 hy with hm | hm
  · exact h.mem y hm
  · exact h'.mem y hm
theorem BytesIn.nil : BytesIn [] := BytesIn.of_mem (by simp)
theorem BytesIn.one {x : Int} (h0 : 0 ≤ x) (h1 : x ≤ 255) : BytesIn [x] := BytesIn.of_mem (by intro y hy; rw [List.mem_singleton] at hy; subst hy; exact ⟨h0, h1⟩)

theorem bytesOf_in (s : ByteArray) : BytesIn (bytesOf s) := by
  apply BytesIn.of_mem
  intro x hx
  simp only [bytesOf, List.mem_map] at hx
  obtain ⟨b, _, rfl⟩ := hx
  have := b.toNat_lt
  omega

theorem numB_in (n : Int) (h0 : 0 ≤ n) (h1 : n ≤ 1000000000) : BytesIn (numB n) := by
  apply BytesIn.of_mem
  unfold numB
  intro x hx
  (repeat' split at hx) <;> simp only [List.mem_cons, List.not_mem_nil, or_false] at hx <;> omega
theorem numC_in (n : Int) : BytesIn (numB (clampN n)) := numB_in _ (clampN_range n).1 (clampN_range n).2
theorem textB_in (s : ByteArray) : BytesIn (textB s) := (numC_in _).append (bytesOf_in s)

theorem rd_at (b pre rest : List Int) (x : Int) : rd (b ++ (pre ++ x :: rest)) ((b.length : Int) + (pre.length : Int)) = x := by
  have e : (b.length : Int) + (pre.length : Int) = ((b.length + pre.length : Nat) : Int) := by omega
  rw [e, rd_nat, List.getD_eq_getElem?_getD, List.getElem?_append_right (by omega), Nat.add_sub_cancel_left, List.getElem?_append_right (Nat.le_refl _), Nat.sub_self]
  rfl
def valN (n : Int) (ds : List Int) : Int := ds.foldl (fun a d => a * 128 + d % 128) n
/-- A number's bytes are read: each but the last is 128 or more. -/
theorem getR_num (b rest : List Int) (e : Int) (he0 : 0 ≤ e) (he : e < 128) : ∀ (ds pre : List Int) (d : Nat) (n : Int), ds.length < d → (∀ x ∈ ds, 128 ≤ x) → (pre = [] → ∀ x t, ds = x :: t → x ≠ 128) → (pre ≠ [] ∨ ds ≠ [] ∨ True) → valN n ds * 128 + e ≤ 1000000000 →
    getR (b ++ (pre ++ (ds ++ e :: rest))) (b.length : Int) d n (pre.length : Int) = (valN n ds * 128 + e, (b.length : Int) + (pre.length : Int) + (ds.length : Int) + 1, true) := by
  intro ds
  induction ds with
  | nil =>
    intro pre d n hd _ _ _ hv
    obtain ⟨d', rfl⟩ : ∃ d', d = d' + 1 := ⟨d - 1, by have : ([] : List Int).length = 0 := rfl; omega⟩
    unfold getR
    have hl : (b ++ (pre ++ ([] ++ e :: rest))).length = b.length + (pre.length + (rest.length + 1)) := by simp
    simp only [List.nil_append] at hl ⊢
    simp only [valN, List.foldl_nil] at hv ⊢
    rw [if_pos ⟨by omega, by omega⟩, rd_at, if_neg (by omega), if_pos he, if_neg (by omega)]
    have : e % 128 = e := by omega
    rw [this]
    simp
  | cons x t ih =>
    intro pre d n hd hs hf _ hv
    obtain ⟨d', rfl⟩ : ∃ d', d = d' + 1 := ⟨d - 1, by rw [List.length_cons] at hd; omega⟩
    have hx := hs x (by simp)
    unfold getR
    have hl : (b ++ (pre ++ (x :: t ++ e :: rest))).length = b.length + (pre.length + (t.length + 1 + (rest.length + 1))) := by simp; omega
    have hr : rd (b ++ (pre ++ (x :: t ++ e :: rest))) ((b.length : Int) + (pre.length : Int)) = x := rd_at b pre (t ++ e :: rest) x
    have h128 : ¬ ((pre.length : Int) = 0 ∧ x = 128) := by
      rintro ⟨h0, h1⟩
      have hp : pre = [] := List.length_eq_zero_iff.1 (by omega)
      exact hf hp x t rfl h1
    rw [if_pos ⟨by omega, by omega⟩, hr, if_neg h128, if_neg (by omega)]
    have h := ih (pre ++ [x]) d' (n * 128 + x % 128) (by rw [List.length_cons] at hd; omega) (fun y hy => hs y (by simp [hy])) (fun hp => by simp at hp) (.inr (.inr trivial)) hv
    have e1 : b ++ ((pre ++ [x]) ++ (t ++ e :: rest)) = b ++ (pre ++ (x :: t ++ e :: rest)) := by simp
    have e2 : ((pre ++ [x]).length : Int) = (pre.length : Int) + 1 := by simp
    rw [e1, e2] at h
    rw [h]
    have e3 : (b.length : Int) + ((pre.length : Int) + 1) + (t.length : Int) + 1 = (b.length : Int) + (pre.length : Int) + ((x :: t).length : Int) + 1 := by rw [List.length_cons]; omega
    rw [e3]
    rfl
/-- What lacks its last byte is no number. -/
theorem getR_cut (b : List Int) : ∀ (ds pre : List Int) (d : Nat) (n : Int), (∀ x ∈ ds, 128 ≤ x) → (getR (b ++ (pre ++ ds)) (b.length : Int) d n (pre.length : Int)).2.2 = false := by
  intro ds
  induction ds with
  | nil =>
    intro pre d n _
    cases d with
    | zero => rfl
    | succ d =>
      unfold getR
      rw [if_neg (by simp)]
  | cons x t ih =>
    intro pre d n hs
    cases d with
    | zero => rfl
    | succ d =>
      unfold getR
      have hl : (b ++ (pre ++ x :: t)).length = b.length + (pre.length + (t.length + 1)) := by simp
      rw [if_pos ⟨by omega, by omega⟩, rd_at]
      have hx := hs x (by simp)
      by_cases h : (pre.length : Int) = 0 ∧ x = 128
      · rw [if_pos h]
      · rw [if_neg h, if_neg (by omega)]
        have h := ih (pre ++ [x]) d (n * 128 + x % 128) (fun y hy => hs y (by simp [hy]))
        have e1 : b ++ ((pre ++ [x]) ++ t) = b ++ (pre ++ x :: t) := by simp
        have e2 : ((pre ++ [x]).length : Int) = (pre.length : Int) + 1 := by simp
        rw [e1, e2] at h
        exact h
/-- The bytes of a number: those but the last, and the last. -/
theorem numB_split (m : Int) (h0 : 0 ≤ m) (h1 : m ≤ 1000000000) : ∃ ds e, numB m = ds ++ [e] ∧ ds.length < 5 ∧ (∀ x ∈ ds, 128 ≤ x) ∧ (∀ x t, ds = x :: t → x ≠ 128) ∧ 0 ≤ e ∧ e < 128 ∧ valN 0 ds * 128 + e = m := by
  unfold numB
  by_cases c1 : m < 128
  · rw [if_pos c1]
    exact ⟨[], m % 128, rfl, by simp, by simp, by simp, by omega, by omega, by simp only [valN, List.foldl_nil]; omega⟩
  rw [if_neg c1]
  by_cases c2 : m < 16384
  · rw [if_pos c2]
    refine ⟨[m / 128 % 128 + 128], m % 128, rfl, by simp, ?_, ?_, by omega, by omega, by simp only [valN, List.foldl_nil, List.foldl_cons]; omega⟩
    · intro x hx; simp only [List.mem_cons, List.not_mem_nil, or_false] at hx; omega
    · intro x t hx; injection hx with hx _; omega
  rw [if_neg c2]
  by_cases c3 : m < 2097152
  · rw [if_pos c3]
    refine ⟨[m / 16384 % 128 + 128, m / 128 % 128 + 128], m % 128, rfl, by simp, ?_, ?_, by omega, by omega, by simp only [valN, List.foldl_nil, List.foldl_cons]; omega⟩
    · intro x hx; simp only [List.mem_cons, List.not_mem_nil, or_false] at hx; omega
    · intro x t hx; injection hx with hx _; omega
  rw [if_neg c3]
  by_cases c4 : m < 268435456
  · rw [if_pos c4]
    refine ⟨[m / 2097152 % 128 + 128, m / 16384 % 128 + 128, m / 128 % 128 + 128], m % 128, rfl, by simp, ?_, ?_, by omega, by omega, by simp only [valN, List.foldl_nil, List.foldl_cons]; omega⟩
    · intro x hx; simp only [List.mem_cons, List.not_mem_nil, or_false] at hx; omega
    · intro x t hx; injection hx with hx _; omega
  rw [if_neg c4]
  refine ⟨[m / 268435456 % 128 + 128, m / 2097152 % 128 + 128, m / 16384 % 128 + 128, m / 128 % 128 + 128], m % 128, rfl, by simp, ?_, ?_, by omega, by omega, by simp only [valN, List.foldl_nil, List.foldl_cons]; omega⟩
  · intro x hx; simp only [List.mem_cons, List.not_mem_nil, or_false] at hx; omega
  · intro x t hx; injection hx with hx _; omega
theorem getR_numB (b rest : List Int) (m : Int) (h0 : 0 ≤ m) (h1 : m ≤ 1000000000) : getR (b ++ (numB m ++ rest)) (b.length : Int) 5 0 0 = (m, (b.length : Int) + ((numB m).length : Int), true) := by
  obtain ⟨ds, e, he, hl, hs, hf, e0, e1, hv⟩ := numB_split m h0 h1
  have h := getR_num b rest e e0 e1 ds [] 5 0 hl hs (fun _ => hf) (.inr (.inr trivial)) (by omega)
  have q : b ++ ([] ++ (ds ++ e :: rest)) = b ++ (numB m ++ rest) := by rw [he]; simp
  rw [q] at h
  rw [he] at h ⊢
  have l : ((ds ++ [e]).length : Int) = (ds.length : Int) + 1 := by simp
  rw [l, ← hv]
  simpa [Int.add_assoc] using h
theorem cut_numB (b : List Int) (m : Int) (h0 : 0 ≤ m) (h1 : m ≤ 1000000000) : (getR ((b ++ numB m).take ((b ++ numB m).length - 1)) (b.length : Int) 5 0 0).2.2 = false := by
  obtain ⟨ds, e, he, hl, hs, _⟩ := numB_split m h0 h1
  have q : (b ++ numB m).take ((b ++ numB m).length - 1) = b ++ ([] ++ ds) := by
    rw [he, ← List.append_assoc]
    have l : ((b ++ ds) ++ [e]).length - 1 = (b ++ ds).length := by simp
    rw [l, List.take_left']
    · simp
    · rfl
  rw [q]
  exact getR_cut b ds [] 5 0 hs
theorem str_bytes (s : ByteArray) : strOfNums (bytesOf s) = s := by
  have h : (strOfNums (bytesOf s)).data = s.data := by
    apply Array.toList_inj.1
    rw [strOfNums_data, bytesOf, List.map_map]
    conv => rhs; rw [← List.map_id s.data.toList]
    apply List.map_congr_left
    intro x _
    simp
  cases s
  simpa [strOfNums] using h
theorem textR_textB (b : List Int) (s : ByteArray) (hs : s.size ≤ 1000000000) : textR (b ++ textB s) (b.length : Int) = (s, ((b ++ textB s).length : Int), true) := by
  have hc : clampN (s.size : Int) = (s.size : Int) := by unfold clampN; rw [if_neg (by omega), if_neg (by omega)]
  have g := getR_numB b (bytesOf s) (s.size : Int) (by omega) (by omega)
  unfold textR textB
  rw [hc, g]
  have l : (b ++ (numB (s.size : Int) ++ bytesOf s)).length = b.length + ((numB (s.size : Int)).length + s.size) := by rw [List.length_append, List.length_append, bytesOf_length]
  dsimp only
  rw [if_pos rfl, if_neg (by omega)]
  have t1 : ((b.length : Int) + ((numB (s.size : Int)).length : Int) + (s.size : Int)).toNat = (b ++ (numB (s.size : Int) ++ bytesOf s)).length := by omega
  have t2 : ((b.length : Int) + ((numB (s.size : Int)).length : Int)).toNat = (b ++ numB (s.size : Int)).length := by rw [List.length_append]; omega
  rw [t1, t2, List.take_length, ← List.append_assoc, List.drop_left', str_bytes]
  · have : (b.length : Int) + ((numB (s.size : Int)).length : Int) + (s.size : Int) = (((b ++ numB (s.size : Int)) ++ bytesOf s).length : Int) := by rw [List.append_assoc]; omega
    rw [this]
  · rfl

theorem impl_addText_ev (s : ByteArray) (xs : List Int) (ho : xs.length + s.size + 10 < 140737488355328) : Ev (fun k => impl_addText.f k xs s) (xs ++ textB s) := by
  obtain ⟨K, h⟩ := impl_addNum_ev (s.size : Int) xs (by omega)
  have hl := numB_length (clampN (s.size : Int))
  dsimp only at h
  refine ⟨K, fun k hk => ?_⟩
  simp only [impl_addText.f]
  rw [h k hk, Option.bind_some, if_pos (by rw [List.length_append]; omega), List.append_assoc]
  rfl

theorem copyBytes_eq (xs : List Int) (ho : xs.length + 5 < 140737488355328) : impl_copyBytes.f xs = some xs := by
  simp only [impl_copyBytes.f, List.nil_append, List.length_nil]
  rw [if_pos (by omega)]

theorem impl_putNum_ev (n : Int) (xs : List Int) (ho : xs.length + 5 < 140737488355328) : Ev (fun k => impl_PutNum.f k xs n) (xs ++ numB (clampN n)) := by
  obtain ⟨K, h⟩ := impl_addNum_ev n xs ho
  refine ⟨K, fun k hk => ?_⟩
  have h := h k hk
  dsimp only at h ⊢
  simp only [impl_PutNum.f]
  rw [copyBytes_eq xs ho, Option.bind_some, h, Option.bind_some]

theorem impl_getNum_l0 (b : List Int) (hb : BytesIn b) (hn : b.length ≤ 281474976710656) (at_ : Int) (ha : at_ ≤ 9223372036854775807) : ∀ (d : Nat) (n : Int) (k : Nat), k + d = 5 → 0 ≤ n → n ≤ topR k →
    Ev (fun q => impl_GetNum.l0 q b at_ n (k : Int)) (getR b at_ d n (k : Int)) := by
  intro d
  induction d with
  | zero =>
    intro n k hk h0 h1
    refine Ev.step (f := fun q => impl_GetNum.j1 q b at_ n (k : Int) false) (fun q => ?_) (Ev.step (f := fun _ => some (0, 0, false)) (fun q => ?_) (Ev.now _))
    · simp only [impl_GetNum.l0]
      rw [if_neg (by omega)]
    · simp [impl_GetNum.j1]
  | succ d ih =>
    intro n k hk h0 h1
    have ht := topR_le k (by omega)
    have hc := hb (at_ + (k : Int))
    have hl : wrap64 ((b.length : Int) - (k : Int)) = (b.length : Int) - (k : Int) := wrap_id (by omega) (by omega)
    unfold getR
    by_cases hr : 0 ≤ at_ ∧ at_ + (k : Int) < (b.length : Int)
    · rw [if_pos hr]
      have hw : wrap64 (at_ + (k : Int)) = at_ + (k : Int) := wrap_id (by omega) (by omega)
      have hwc : wrap64 (rd b (at_ + (k : Int))) = rd b (at_ + (k : Int)) := wrap_id (by omega) (by omega)
      have hwn : wrap64 (n * 128) = n * 128 := wrap_id (by omega) (by omega)
      have hmod : Int.tmod (rd b (at_ + (k : Int))) 128 = rd b (at_ + (k : Int)) % 128 := Int.tmod_eq_emod_of_nonneg (by omega)
      have hws : wrap64 (n * 128 + rd b (at_ + (k : Int)) % 128) = n * 128 + rd b (at_ + (k : Int)) % 128 := wrap_id (by omega) (by omega)
      refine Ev.step (f := fun q => impl_GetNum.j1 q b at_ n (k : Int) true) (fun q => ?_) ?_
      · simp only [impl_GetNum.l0]
        rw [if_pos (by omega), if_pos (by omega), hl, decide_eq_true (by omega)]
      · by_cases h128 : (k : Int) = 0 ∧ rd b (at_ + (k : Int)) = 128
        · rw [if_pos h128]
          refine Ev.step (f := fun q => impl_GetNum.j2 q b at_ n (k : Int) (rd b (at_ + (k : Int))) true) (fun q => ?_) (Ev.step (f := fun _ => some (0, 0, false)) (fun q => ?_) (Ev.now _))
          · simp only [impl_GetNum.j1, hw, hwc]
            rw [if_pos trivial, if_pos (by omega), if_pos (by omega), if_pos h128.1]
            simp [h128.2]
          · simp [impl_GetNum.j2]
        · rw [if_neg h128]
          refine Ev.step (f := fun q => impl_GetNum.j2 q b at_ n (k : Int) (rd b (at_ + (k : Int))) false) (fun q => ?_) ?_
          · simp only [impl_GetNum.j1, hw, hwc]
            rw [if_pos trivial, if_pos (by omega), if_pos (by omega)]
            by_cases hk0 : (k : Int) = 0
            · rw [if_pos hk0]
              have : rd b (at_ + (k : Int)) ≠ 128 := fun e => h128 ⟨hk0, e⟩
              rw [beq_eq_false_iff_ne.2 this]
            · rw [if_neg hk0]
          · by_cases hlt : rd b (at_ + (k : Int)) < 128
            · rw [if_pos hlt]
              refine Ev.step (f := fun _ => some _) (fun q => ?_) (Ev.now _)
              simp only [impl_GetNum.j2, hwn, hmod, hws, hw]
              rw [if_neg (by simp), if_neg (by omega)]
              by_cases hg : n * 128 + rd b (at_ + (k : Int)) % 128 > 1000000000
              · rw [if_pos hg, if_pos hg]
              · rw [if_neg hg, if_neg hg, wrap_id (i := at_ + (k : Int) + 1) (by omega) (by omega)]
            · rw [if_neg hlt]
              have h2 : topR (k + 1) = topR k * 128 + 127 := rfl
              refine Ev.step (f := fun q => impl_GetNum.l0 q b at_ (n * 128 + rd b (at_ + (k : Int)) % 128) ((k + 1 : Nat) : Int)) (fun q => ?_) ?_
              · simp only [impl_GetNum.j2, hwn, hmod, hws]
                rw [if_neg (by simp), if_pos (by omega), wrap_id (i := (k : Int) + 1) (by omega) (by omega)]
                rfl
              · exact ih _ (k + 1) (by omega) (by omega) (by omega)
    · rw [if_neg hr]
      refine Ev.step (f := fun q => impl_GetNum.j1 q b at_ n (k : Int) false) (fun q => ?_) (Ev.step (f := fun _ => some (0, 0, false)) (fun q => ?_) (Ev.now _))
      · simp only [impl_GetNum.l0]
        rw [if_pos (by omega)]
        by_cases h3 : at_ ≥ 0
        · rw [if_pos h3, hl, decide_eq_false (by omega)]
        · rw [if_neg h3]
      · simp [impl_GetNum.j1]
theorem impl_getNum_ev (b : List Int) (hb : BytesIn b) (hn : b.length ≤ 281474976710656) (at_ : Int) (ha : at_ ≤ 9223372036854775807) : Ev (fun q => impl_GetNum.f q b at_) (getR b at_ 5 0 0) :=
  impl_getNum_l0 b hb hn at_ ha 5 0 0 rfl (Int.le_refl 0) (Int.le_refl 0)

theorem impl_getText_ev (b : List Int) (hb : BytesIn b) (hn : b.length ≤ 281474976710656) (at_ : Int) (ha : at_ ≤ 9223372036854775807) : Ev (fun q => impl_GetText.f q b at_) (textR b at_) := by
  obtain ⟨K, h⟩ := impl_getNum_ev b hb (by omega) at_ ha
  dsimp only at h
  refine ⟨K, fun q hq => ?_⟩
  simp only [impl_GetText.f]
  rw [h q hq, Option.bind_some]
  unfold textR
  have hr := getR_range b hb at_ 5 0 0 (Int.le_refl 0) (Int.le_refl 0)
  generalize getR b at_ 5 0 0 = g at hr ⊢
  by_cases h1 : g.2.2 = true
  · obtain ⟨a1, a2, a3, a4, a5⟩ := hr h1
    rw [if_pos h1, if_pos h1, wrap_id (i := (b.length : Int) - g.2.1) (by omega) (by omega)]
    by_cases h2 : g.1 > (b.length : Int) - g.2.1
    · rw [if_pos h2, if_pos h2]
    · rw [if_neg h2, if_neg h2, wrap_id (i := g.2.1 + g.1) (by omega) (by omega), if_pos (by omega), if_pos (by omega), if_pos (by omega)]
  · rw [if_neg h1, if_neg h1]

theorem l1Bytes_comes (b : List Int) (i x n : Int) (hb : b.length ≤ 1048576) (hi : At b i) (h0 : 0 ≤ n) (hn : n ≤ 9) : Comes (fun r => BytesIn r.1 ∧ r.1.length ≤ 9 ∧ At b r.2.1) (fun k => spec_l1Bytes.f k b i x n) := by
  obtain ⟨m, rfl⟩ := Int.eq_ofNat_of_zero_le h0
  have key : ∀ (d j : Nat) (out : List Int) (i x : Int), j + d = m → At b i → BytesIn out → out.length = j → Comes (fun r => BytesIn r.1 ∧ r.1.length ≤ 9 ∧ At b r.2.1) (fun k => spec_l1Bytes.l0 k (m : Int) out (j : Int) b i x) := by
    intro d
    induction d with
    | zero =>
      intro j out i x hj hi ho hl
      refine Comes.step (fun k => spec_l1Bytes.l0.eq_2 ..) ?_
      have e1 : ((j : Int) < (m : Int)) = False := eq_false (by omega)
      simp only [e1, if_false]
      exact Comes.ret _ ⟨ho, by dsimp only; omega, hi⟩
    | succ d ih =>
      intro j out i x hj hi ho hl
      refine Comes.step (fun k => spec_l1Bytes.l0.eq_2 ..) ?_
      have e1 : ((j : Int) < (m : Int)) = True := eq_true (by omega)
      have ew : wrap64 ((j : Int) + 1) = ((j + 1 : Nat) : Int) := wrap_succ (n := m) (by omega) (by omega)
      obtain ⟨v, j2, y2, e2, v0, v1, hj2⟩ := l1Byte_some b i x hb hi
      have e3 : (out.length < 140737488355328) = True := eq_true (by omega)
      simp only [e1, e2, e3, ew, if_true, Option.bind_some]
      exact ih (j + 1) _ _ _ (by omega) hj2 (ho.append (BytesIn.one (by omega) (by omega))) (by simp [hl])
  exact key m 0 [] i x (by omega) hi BytesIn.nil rfl
theorem l1Some_comes (b : List Int) (i x : Int) (hb : b.length ≤ 1048576) (hi : At b i) : Comes (fun r => BytesIn r.1 ∧ r.1.length ≤ 9 ∧ At b r.2.1) (fun k => spec_l1Some.f k b i x) := by
  simp only [spec_l1Some.f]
  obtain ⟨v, j, y, e, hm, hj⟩ := l1Int_some b i x ([0, 1, 2, 5, 9] : List Int) hb hi (by simp)
  simp only [e, Option.bind_some]
  simp only [List.mem_cons, List.not_mem_nil, or_false] at hm
  exact Comes.bind (l1Bytes_comes b j y v hb hj (by omega) (by omega)) (fun r hr => Comes.ret _ hr)
theorem drawNum_comes (b : List Int) (hb : b.length ≤ 1048576) : Comes (fun r => BytesIn r.1 ∧ r.1.length ≤ 9) (fun k => spec_DrawPutNum.f k b) := by
  simp only [spec_DrawPutNum.f]
  refine Comes.bind (l1New_comes b hb) (fun n hn => ?_)
  obtain ⟨n1, n2, n3⟩ := n
  dsimp only at hn
  obtain ⟨rfl, rfl⟩ := hn
  refine Comes.bind (l1Some_comes n1 0 n3 hb ⟨by omega, by omega⟩) (fun r hr => ?_)
  obtain ⟨v, j, y, e, _, _, _, hj⟩ := l1Below_some n1 r.2.1 r.2.2 100000 hb hr.2.2
  simp only [e, Option.bind_some]
  obtain ⟨v2, j2, y2, e2, _, _⟩ := l1Int_some n1 j y ([0, 1, 127, 128, 16383, 16384, 2097151, 2097152, 268435455, 268435456, 1000000000, 1000000001, (-1), 9223372036854775807, v] : List Int) hb hj (by simp)
  simp only [e2, Option.bind_some]
  exact Comes.ret _ ⟨hr.1, hr.2.1⟩
theorem drawText_comes (b : List Int) (hb : b.length ≤ 1048576) : Comes (fun r => BytesIn r.1 ∧ r.1.length ≤ 9 ∧ r.2.size ≤ 9) (fun k => spec_DrawPutText.f k b) := by
  simp only [spec_DrawPutText.f]
  refine Comes.bind (l1New_comes b hb) (fun n hn => ?_)
  obtain ⟨n1, n2, n3⟩ := n
  dsimp only at hn
  obtain ⟨rfl, rfl⟩ := hn
  refine Comes.bind (l1Some_comes n1 0 n3 hb ⟨by omega, by omega⟩) (fun r hr => ?_)
  refine Comes.bind (l1Some_comes n1 r.2.1 r.2.2 hb hr.2.2) (fun q hq => ?_)
  exact Comes.ret _ ⟨hr.1, hr.2.1, by dsimp only; rw [strOfNums_size]; exact hq.2.1⟩
theorem FnNums : laws_FnNums.Pure := by
  intro b hb
  refine Comes.true_ ?_
  simp only [laws_FnNums.f, laws_big.f, Option.bind_some]
  refine Comes.ite (fun _ => Comes.ret true rfl) (fun hn => ?_)
  have hl : b.length ≤ 1048576 := by
    have : ¬ ((b.length : Int) > 1048576) := by simpa using hn
    omega
  refine Comes.bind (drawNum_comes b hl) (fun r hr => ?_)
  obtain ⟨xs, n⟩ := r
  obtain ⟨hin, hxl⟩ := hr
  dsimp only at hin hxl ⊢
  have hc := clampN_range n
  have nl := numB_length (clampN n)
  have yl : (xs ++ numB (clampN n)).length = xs.length + (numB (clampN n)).length := List.length_append
  have yin : BytesIn (xs ++ numB (clampN n)) := hin.append (numC_in n)
  refine Comes.bind (Q := fun y => y = xs ++ numB (clampN n)) ⟨_, rfl, impl_putNum_ev n xs (by omega)⟩ (fun y hy => ?_)
  subst hy
  have g1 := getR_numB xs [] (clampN n) hc.1 hc.2
  rw [List.append_nil] at g1
  refine Comes.bind (Q := fun y => y = (clampN n, (xs.length : Int) + ((numB (clampN n)).length : Int), true)) ⟨_, rfl, by have h := impl_getNum_ev (xs ++ numB (clampN n)) yin (by omega) (xs.length : Int) (by omega); rw [g1] at h; exact h⟩ (fun g hg => ?_)
  subst hg
  have j2 : Comes (fun v => v = true) (fun k => laws_FnNums.j2 k b xs (xs ++ numB (clampN n)) false) := by
    refine Comes.step (fun k => laws_FnNums.j2.eq_2 ..) ?_
    have w1 : wrap64 (((xs ++ numB (clampN n)).length : Int) - 1) = (((xs ++ numB (clampN n)).length - 1 : Nat) : Int) := (wrap_id (by omega) (by omega)).trans (by omega)
    have e1 : (0 ≤ (((xs ++ numB (clampN n)).length - 1 : Nat) : Int)) = True := eq_true (by omega)
    have e2 : ((((xs ++ numB (clampN n)).length - 1 : Nat) : Int) ≤ ((xs ++ numB (clampN n)).length : Int)) = True := eq_true (by omega)
    simp only [Bool.false_eq_true, if_false, w1, e1, e2, if_true, Int.toNat_natCast]
    have cin : BytesIn ((xs ++ numB (clampN n)).take ((xs ++ numB (clampN n)).length - 1)) := BytesIn.of_mem (fun z hz => yin.mem z (List.mem_of_mem_take hz))
    have cl : ((xs ++ numB (clampN n)).take ((xs ++ numB (clampN n)).length - 1)).length ≤ 14 := by rw [List.length_take]; omega
    have cg := cut_numB xs (clampN n) hc.1 hc.2
    refine Comes.bind (Q := fun y => y.2.2 = false) ⟨_, cg, impl_getNum_ev _ cin (by omega) (xs.length : Int) (by omega)⟩ (fun g hg => ?_)
    refine Comes.bind (drawText_comes b hl) (fun p hp => ?_)
    obtain ⟨zs, s⟩ := p
    obtain ⟨zin, zl, sl⟩ := hp
    dsimp only at zin zl sl ⊢
    have tl := textB_length s
    have tin : BytesIn (zs ++ textB s) := zin.append (textB_in s)
    have zsl : (zs ++ textB s).length = zs.length + (textB s).length := List.length_append
    have put : Ev (fun k => impl_PutText.f k zs s) (zs ++ textB s) := by
      obtain ⟨K, h⟩ := impl_addText_ev s zs (by omega)
      dsimp only at h
      refine ⟨K, fun k hk => ?_⟩
      simp only [impl_PutText.f]
      rw [copyBytes_eq zs (by omega), Option.bind_some, h k hk, Option.bind_some]
    refine Comes.bind (Q := fun y => y = zs ++ textB s) ⟨_, rfl, put⟩ (fun y hy => ?_)
    subst hy
    have tr := textR_textB zs s (by omega)
    refine Comes.bind (Q := fun y => y = (s, ((zs ++ textB s).length : Int), true)) ⟨_, rfl, by have h := impl_getText_ev (zs ++ textB s) tin (by omega) (zs.length : Int) (by omega); rw [tr] at h; exact h⟩ (fun t ht => ?_)
    subst ht
    simp only [hg, Bool.false_eq_true, if_false, if_true]
    exact Comes.ret _ (by simp)
  have j1 : Comes (fun v => v = true) (fun k => laws_FnNums.j1 k b xs (xs ++ numB (clampN n)) (clampN n) ((xs.length : Int) + ((numB (clampN n)).length : Int)) true (clampN n)) := by
    refine Comes.step (fun k => laws_FnNums.j1.eq_2 ..) ?_
    have e : ((xs.length : Int) + ((numB (clampN n)).length : Int) != ((xs ++ numB (clampN n)).length : Int)) = false := by
      rw [yl]
      simp
    simp only [if_true, e]
    exact j2
  have c0 : clampN n = if n > 1000000000 then 1000000000 else if n < 0 then 0 else n := rfl
  have j0 : ∀ x : Int, (n < 0 → clampN n = 0) → (¬ n < 0 → clampN n = x) → Comes (fun v => v = true) (fun k => laws_FnNums.j0 k b xs n (xs ++ numB (clampN n)) (clampN n) ((xs.length : Int) + ((numB (clampN n)).length : Int)) true x) := by
    intro x h1 h2
    refine Comes.step (fun k => laws_FnNums.j0.eq_2 ..) ?_
    refine Comes.ite (fun hlt => ?_) (fun hge => ?_)
    · have := j1
      rw [h1 hlt] at this ⊢
      exact this
    · have := j1
      rw [h2 hge] at this ⊢
      exact this
  refine Comes.ite (fun hbig => j0 _ (fun h => by omega) (fun _ => by rw [c0, if_pos hbig])) (fun hs => j0 _ (fun h => by rw [c0, if_neg hs, if_pos h]) (fun h => by rw [c0, if_neg hs, if_neg h]))

end Go.Proofs.Ytgncojbnejdplaa.MPureFnNums
