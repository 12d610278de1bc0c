/- A drawn body comes back of its frame, with what is behind it left; a bit that is turned, and a byte that is lacking, are told. No condition. -/
import Derived.Test.YtgncojbnejdplaaMFnFramesDef
set_option linter.unusedVariables false
set_option linter.unusedSimpArgs false
namespace Go.Proofs.Ytgncojbnejdplaa.MPureFnFrames
open Go.RowKit Go.Proofs.Ytgncojbnejdplaa.MFnFrames Go.Proofs.YtgncojbnejdplaaW.PrintWords Go.Proofs.YtgncojbnejdplaaW.PrintLast Go.Proofs.YtgncojbnejdplaaW.PrintMore

theorem wrap_id {i : Int} (h0 : -9223372036854775808 ≤ i) (h1 : i ≤ 9223372036854775807) : wrap64 i = i := by unfold wrap64; omega
theorem wrap_succ {i n : Nat} (h : i < n) (hn : n ≤ 9223372036854775807) : wrap64 ((i : Int) + 1) = ((i + 1 : Nat) : Int) := by unfold wrap64; omega
theorem rd_nat (xs : List Int) (i : Nat) : rd xs (i : Int) = xs.getD i 0 := by simp [rd]
theorem take_set_succ {α : Type} (l : List α) (i : Nat) (x : α) (h : i < l.length) : (l.set i x).take (i + 1) = l.take i ++ [x] := by
  rw [List.take_succ_eq_append_getElem (by simpa using h), List.getElem_set_self, List.take_set_of_le (Nat.le_refl _)]
theorem take_succ_getD {α : Type} (l : List α) (i : Nat) (d : α) (h : i < l.length) : l.take (i + 1) = l.take i ++ [l.getD i d] := by
  rw [List.take_succ_eq_append_getElem h, List.getD_eq_getElem?_getD, List.getElem?_eq_getElem h]
  rfl
theorem take_all {α : Type} {l m : List α} {n : Nat} (h : l.take n = m) (hl : l.length = n) : l = m := by
  rw [← h, ← hl, List.take_length]
theorem wf_u8 {x : Int} (h : (Lit.int .u8 x).wf = true) : 0 ≤ x ∧ x ≤ 255 := by
  simp [Lit.wf, IntKind.min, IntKind.max, IntKind.signed, IntKind.bits] at h
  omega
theorem wf_i64 {x : Int} (h : (Lit.int .i64 x).wf = true) : -9223372036854775808 ≤ x ∧ x ≤ 9223372036854775807 := by
  simp [Lit.wf, IntKind.min, IntKind.max, IntKind.signed, IntKind.bits] at h
  omega

theorem fill_loop {β : Type} (L : Nat → List β → Int → Option (List β)) (n : Nat) (g : Nat → β) (z : β)
    (hs : ∀ (i : Nat) (out : List β) (r : List β), i < n → out.length = n → Ev (fun k => L k (out.set i (g i)) ((i + 1 : Nat) : Int)) r → Ev (fun k => L k out (i : Int)) r)
    (he : ∀ out : List β, out.length = n → Ev (fun k => L k out (n : Int)) out) : Ev (fun k => L k (List.replicate n z) 0) ((List.range n).map g) := by
  have key : ∀ (d i : Nat) (out : List β), i + d = n → out.length = n → out.take i = (List.range i).map g → Ev (fun k => L k out (i : Int)) ((List.range n).map g) := by
    intro d
    induction d with
    | zero =>
      intro i out hi hl ht
      have : i = n := by omega
      subst this
      have e := take_all ht hl
      rw [← e]
      exact he out hl
    | succ d ih =>
      intro i out hi hl ht
      refine hs i out _ (by omega) hl (ih (i + 1) _ (by omega) (by simp [hl]) ?_)
      rw [take_set_succ _ _ _ (by omega), ht, List.range_succ, List.map_append]
      rfl
  exact key n 0 _ (by omega) (by simp) (by simp)
/-- A row that is written from the left: element i becomes g i, and a state goes along. -/
theorem mark_loop {β σ : Type} (L : Nat → List β → σ → Int → Option (σ × List β)) (n : Nat) (g : Nat → β) (st : Nat → σ)
    (hs : ∀ (i : Nat) (out : List β) (r : σ × List β), i < n → out.length = n → Ev (fun k => L k (out.set i (g i)) (st (i + 1)) ((i + 1 : Nat) : Int)) r → Ev (fun k => L k out (st i) (i : Int)) r)
    (he : ∀ out : List β, out.length = n → Ev (fun k => L k out (st n) (n : Int)) (st n, out)) (l : List β) (hl : l.length = n) : Ev (fun k => L k l (st 0) 0) (st n, (List.range n).map g) := by
  have key : ∀ (d i : Nat) (out : List β), i + d = n → out.length = n → out.take i = (List.range i).map g → Ev (fun k => L k out (st i) (i : Int)) (st n, (List.range n).map g) := by
    intro d
    induction d with
    | zero =>
      intro i out hi hl ht
      have : i = n := by omega
      subst this
      have e := take_all ht hl
      rw [← e]
      exact he out hl
    | succ d ih =>
      intro i out hi hl ht
      refine hs i out _ (by omega) hl (ih (i + 1) _ (by omega) (by simp [hl]) ?_)
      rw [take_set_succ _ _ _ (by omega), ht, List.range_succ, List.map_append]
      rfl
  exact key n 0 _ (by omega) hl (by simp)
theorem scan_loop {ρ : Type} (g : Nat → Nat → Option ρ) (n : Nat) (r : ρ) (hs : ∀ i, i < n → Ev (g (i + 1)) r → Ev (g i) r) (he : Ev (g n) r) : Ev (g 0) r := by
  have key : ∀ (d i : Nat), i + d = n → Ev (g i) r := by
    intro d
    induction d with
    | zero => intro i hi; have : i = n := by omega
              subst this; exact he
    | succ d ih => intro i hi; exact hs i (by omega) (ih (i + 1) (by omega))
  exact key n 0 (by omega)
theorem range_map_get {α β : Type} (l : List α) (f : α → β) (d : α) : (List.range l.length).map (fun i => f (l.getD i d)) = l.map f := by
  apply List.ext_getElem?
  intro i
  rw [List.getElem?_map, List.getElem?_map]
  by_cases h : i < l.length
  · simp [h, List.getD_eq_getElem?_getD]
  · rw [List.getElem?_eq_none (by simp; omega), List.getElem?_eq_none (by omega)]
    rfl
theorem range_map_getD {β : Type} (n i : Nat) (g : Nat → β) (d : β) (h : i < n) : ((List.range n).map g).getD i d = g i := by
  simp [List.getD_eq_getElem?_getD, h]
theorem Ev.bind' {α β : Type} {g : Nat → Option α} {f : Nat → α → Option β} {a : α} {r : β} (h : Ev g a) (k : Ev (fun n => f n a) r) : Ev (fun n => (g n).bind (f n)) r := Ev.bind h k
theorem Ev.cond {α : Type} {g f : Nat → Option α} {r : α} (h : ∃ K, ∀ k, K ≤ k → g k = f k) (k : Ev f r) : Ev g r := by
  obtain ⟨K, h⟩ := h
  obtain ⟨K', k⟩ := k
  exact ⟨K + K', fun n hn => by rw [h n (by omega)]; exact k n (by omega)⟩
/-- One round: at n + 1 it is what it is at n of another. -/
theorem Ev.round {α : Type} {g f : Nat → Option α} {r : α} (h : ∃ K, ∀ k, K ≤ k → g (k + 1) = f k) (k : Ev f r) : Ev g r := by
  obtain ⟨K, h⟩ := h
  obtain ⟨K', k⟩ := k
  exact ⟨K + K' + 1, fun n hn => by
    obtain ⟨m, rfl⟩ : ∃ m, n = m + 1 := ⟨n - 1, by omega⟩
    rw [h m (by omega)]; exact k m (by omega)⟩
theorem Ev.ends {α : Type} {g : Nat → Option α} {r : α} (h : ∀ k, g (k + 1) = some r) : Ev g r := ⟨1, fun n hn => by
  obtain ⟨m, rfl⟩ : ∃ m, n = m + 1 := ⟨n - 1, by omega⟩
  exact h m⟩
theorem Ev.all {α : Type} {g : Nat → Option α} {r : α} (h : ∀ k, g k = some r) : Ev g r := ⟨0, fun n _ => h n⟩

/-- Both come to one answer, of which P holds. -/
def Both {α : Type} (P : α → Prop) (f g : Nat → Option α) : Prop := ∃ r, P r ∧ Ev f r ∧ Ev g r
namespace Both
variable {α β : Type} {P : α → Prop} {f f' g g' : Nat → Option α}
theorem step (h1 : ∀ k, f (k + 1) = f' k) (h2 : ∀ k, g (k + 1) = g' k) (h : Both P f' g') : Both P f g := by
  obtain ⟨r, hp, a, b⟩ := h
  exact ⟨r, hp, Ev.step h1 a, Ev.step h2 b⟩
theorem left (h1 : ∀ k, f (k + 1) = f' k) (h : Both P f' g) : Both P f g := by
  obtain ⟨r, hp, a, b⟩ := h
  exact ⟨r, hp, Ev.step h1 a, b⟩
theorem right (h2 : ∀ k, g (k + 1) = g' k) (h : Both P f g') : Both P f g := by
  obtain ⟨r, hp, a, b⟩ := h
  exact ⟨r, hp, a, Ev.step h2 b⟩
theorem ret (r : α) (h : P r) : Both P (fun _ => some r) (fun _ => some r) := ⟨r, h, Ev.now r, Ev.now r⟩
theorem ite {c : Prop} [Decidable c] (h1 : c → Both P f g) (h2 : ¬ c → Both P f' g') : Both P (fun k => if c then f k else f' k) (fun k => if c then g k else g' k) := by
  by_cases h : c
  · simpa only [if_pos h] using h1 h
  · simpa only [if_neg h] using h2 h
theorem bind {Q : β → Prop} {p q : Nat → Option β} {F G : Nat → β → Option α} (h : Both Q p q) (k : ∀ b, Q b → Both P (fun n => F n b) (fun n => G n b)) : Both P (fun n => (p n).bind (F n)) (fun n => (q n).bind (G n)) := by
  obtain ⟨b, hq, h1, h2⟩ := h
  obtain ⟨r, hp, a, c⟩ := k b hq
  exact ⟨r, hp, Ev.bind h1 a, Ev.bind h2 c⟩
theorem of {r : α} (h1 : Ev f r) (h2 : Ev g r) (hp : P r) : Both P f g := ⟨r, hp, h1, h2⟩
theorem eq {r : α} (h1 : Ev f r) (h2 : Ev g r) : Both (fun x => x = r) f g := ⟨r, rfl, h1, h2⟩
theorem any {Q : α → Prop} (h : Both Q f g) : Both (fun _ => True) f g := by
  obtain ⟨r, _, a, b⟩ := h
  exact ⟨r, trivial, a, b⟩
theorem mono {P' : α → Prop} (h : Both P f g) (hi : ∀ r, P r → P' r) : Both P' f g := by
  obtain ⟨r, hp, a, b⟩ := h
  exact ⟨r, hi r hp, a, b⟩
end Both
/-- It comes to an answer, of which P holds. -/
def Comes {α : Type} (P : α → Prop) (f : Nat → Option α) : Prop := ∃ r, P r ∧ Ev f r
namespace Comes
variable {α β : Type} {P : α → Prop} {f f' : Nat → Option α}
theorem step (h1 : ∀ k, f (k + 1) = f' k) (h : Comes P f') : Comes P f := by
  obtain ⟨r, hp, a⟩ := h
  exact ⟨r, hp, Ev.step h1 a⟩
theorem ret (r : α) (h : P r) : Comes P (fun _ => some r) := ⟨r, h, Ev.now r⟩
theorem ite {c : Prop} [Decidable c] (h1 : c → Comes P f) (h2 : ¬ c → Comes P f') : Comes P (fun k => if c then f k else f' k) := by
  by_cases h : c
  · simpa only [if_pos h] using h1 h
  · simpa only [if_neg h] using h2 h
theorem bind {Q : β → Prop} {p : Nat → Option β} {F : Nat → β → Option α} (h : Comes Q p) (k : ∀ b, Q b → Comes P (fun n => F n b)) : Comes P (fun n => (p n).bind (F n)) := by
  obtain ⟨b, hq, h1⟩ := h
  obtain ⟨r, hp, a⟩ := k b hq
  exact ⟨r, hp, Ev.bind h1 a⟩
theorem mono {P' : α → Prop} (h : Comes P f) (hi : ∀ r, P r → P' r) : Comes P' f := by
  obtain ⟨r, hp, a⟩ := h
  exact ⟨r, hi r hp, a⟩
theorem rounds (h : Comes P f) : ∃ k r, f k = some r ∧ P r := by
  obtain ⟨r, hp, a⟩ := h
  obtain ⟨k, hk⟩ := a.rounds
  exact ⟨k, r, hk, hp⟩
theorem true_ {f : Nat → Option Bool} (h : Comes (fun b => b = true) f) : ∃ k, f k = some true := by
  obtain ⟨k, r, hk, rfl⟩ := h.rounds
  exact ⟨k, hk⟩
theorem some_ (o : Option α) (r : α) (h : o = some r) (hp : P r) : Comes P (fun _ => o) := ⟨r, hp, Ev.all (fun _ => h)⟩
end Comes

theorem and255 (n : Int) : Go.bits .and .i64 n 255 = n % 256 := by
  have h255 : (BitVec.ofInt 64 255).toNat = 2 ^ 8 - 1 := by decide
  have key : (BitVec.ofInt 64 n &&& BitVec.ofInt 64 255).toNat = (n % ((2 ^ 64 : Nat) : Int)).toNat % 2 ^ 8 := by
    rw [BitVec.toNat_and, BitVec.toNat_ofInt, h255, Nat.and_two_pow_sub_one_eq_mod]
  show IntKind.i64.wrap ((BitVec.ofInt 64 n &&& BitVec.ofInt 64 255).toNat : Nat) = n % 256
  rw [key, IntKind.wrap_i64]
  omega
/-- A place in the drawn bytes. -/
def At (b : List Int) (i : Int) : Prop := 0 ≤ i ∧ i ≤ (b.length : Int)
theorem l1Byte_some (b : List Int) (i x : Int) (hb : b.length ≤ 1048576) (hi : At b i) : ∃ v j y, spec_l1Byte.f b i x = some (v, j, y) ∧ 0 ≤ v ∧ v ≤ 255 ∧ At b j := by
  unfold At at hi ⊢
  simp only [spec_l1Byte.f, and255]
  by_cases h : i < (b.length : Int)
  · rw [if_pos h, if_pos hi.1, wrap_id (i := i + 1) (by omega) (by omega)]
    exact ⟨_, _, _, rfl, by omega, by omega, by omega⟩
  · rw [if_neg h]
    exact ⟨_, _, _, rfl, by omega, by omega, hi⟩
theorem l1Below_some (b : List Int) (i x n : Int) (hb : b.length ≤ 1048576) (hi : At b i) : ∃ v j y, spec_l1Below.f b i x n = some (v, j, y) ∧ 0 ≤ v ∧ (0 < n → v < n) ∧ (n ≤ 0 → v = 0) ∧ At b j := by
  simp only [spec_l1Below.f]
  by_cases h0 : n ≤ 0
  · rw [if_pos h0]
    exact ⟨_, _, _, rfl, by omega, by omega, fun _ => rfl, hi⟩
  · rw [if_neg h0]
    have hp : 0 < n := by omega
    have hn : ¬ n = 0 := by omega
    by_cases h1 : n ≤ 256
    · rw [if_pos h1]
      obtain ⟨v, j, y, e, v0, v1, hj⟩ := l1Byte_some b i x hb hi
      simp only [e, Option.bind_some]
      rw [if_neg hn, Int.tmod_eq_emod_of_nonneg v0]
      exact ⟨_, _, _, rfl, Int.emod_nonneg _ hn, fun _ => Int.emod_lt_of_pos _ hp, fun h => absurd h h0, hj⟩
    · rw [if_neg h1]
      obtain ⟨v, j, y, e, v0, v1, hj⟩ := l1Byte_some b i x hb hi
      obtain ⟨v', j', y', e', v0', v1', hj'⟩ := l1Byte_some b j y hb hj
      obtain ⟨v2, j2, y2, e2, v02, v12, hj2⟩ := l1Byte_some b j' y' hb hj'
      simp only [e, e', e2, Option.bind_some]
      rw [if_neg hn, wrap_id (i := v * 65536) (by omega) (by omega), wrap_id (i := v' * 256) (by omega) (by omega), wrap_id (i := v * 65536 + v' * 256) (by omega) (by omega), wrap_id (i := v * 65536 + v' * 256 + v2) (by omega) (by omega), Int.tmod_eq_emod_of_nonneg (by omega)]
      exact ⟨_, _, _, rfl, Int.emod_nonneg _ hn, fun _ => Int.emod_lt_of_pos _ hp, fun h => absurd h h0, hj2⟩

theorem l1New_comes (b : List Int) (hb : b.length ≤ 1048576) : Comes (fun r => r.1 = b ∧ r.2.1 = 0) (fun k => spec_l1New.f k b) := by
  have key : ∀ (d i : Nat) (x : Int), i + d = b.length → Comes (fun r => r.1 = b ∧ r.2.1 = 0) (fun k => spec_l1New.l0 k b x (i : Int)) := by
    intro d
    induction d with
    | zero =>
      intro i x hi
      refine Comes.step (fun k => spec_l1New.l0.eq_2 ..) ?_
      have e1 : ((i : Int) < (b.length : Int)) = False := eq_false (by omega)
      simp only [e1, if_false]
      refine Comes.step (fun k => spec_l1New.j1.eq_2 ..) ?_
      simp only [Bool.false_eq_true, if_false]
      exact Comes.ret _ ⟨rfl, rfl⟩
    | succ d ih =>
      intro i x hi
      refine Comes.step (fun k => spec_l1New.l0.eq_2 ..) ?_
      have e1 : ((i : Int) < (b.length : Int)) = True := eq_true (by omega)
      have e2 : (0 ≤ (i : Int)) = True := eq_true (by omega)
      have ew : wrap64 ((i : Int) + 1) = ((i + 1 : Nat) : Int) := wrap_succ (n := b.length) (by omega) (by omega)
      simp only [e1, if_true]
      have join : ∀ q : Bool, Comes (fun r => r.1 = b ∧ r.2.1 = 0) (fun k => spec_l1New.j1 k b x (i : Int) q) := by
        intro q
        refine Comes.step (fun k => spec_l1New.j1.eq_2 ..) ?_
        simp only [e1, e2, if_true, ew]
        exact Comes.ite (fun _ => ih (i + 1) _ (by omega)) (fun _ => Comes.ret _ ⟨rfl, rfl⟩)
      exact join _
  exact key b.length 0 _ (by omega)

theorem l1Int_some (b : List Int) (i x : Int) (l : List Int) (hb : b.length ≤ 1048576) (hi : At b i) (hl : 0 < l.length) : ∃ v j y, spec_l1Int.f b i x l = some (v, j, y) ∧ v ∈ l ∧ At b j := by
  obtain ⟨v, j, y, e, v0, v1, _, hj⟩ := l1Below_some b i x (l.length : Int) hb hi
  have v1 := v1 (by omega)
  simp only [spec_l1Int.f, e, Option.bind_some]
  rw [if_pos v0, if_pos v1]
  refine ⟨_, _, _, rfl, ?_, hj⟩
  unfold rd
  rw [List.getD_eq_getElem?_getD, List.getElem?_eq_getElem (show v.toNat < l.length by omega)]
  exact List.getElem_mem _

theorem wraps_i64 (n : Int) (h0 : 0 ≤ n) (h1 : n < 2 ^ 63) : IntKind.i64.wrap n = n := by rw [IntKind.wrap_i64]; omega
theorem and127 {x : Int} (h0 : 0 ≤ x) (h1 : x < 9223372036854775808) : Go.bits .and .i64 x 127 = x % 128 := by
  have h := bits_mask .i64 63 (by decide) wraps_i64 7 (by decide) x h0 (by omega)
  simpa using h
theorem or7 {x y : Int} (h0 : 0 ≤ x) (h1 : x < 9223372036854775808) (hx : x % 128 = 0) (hy0 : 0 ≤ y) (hy : y < 128) : Go.bits .or .i64 x y = x + y :=
  bits_join .i64 63 (by decide) wraps_i64 7 x y h0 (by simpa using hx) (by omega) hy0 (by omega) (by omega)
theorem or_128 {y : Int} (hy0 : 0 ≤ y) (hy : y < 128) : Go.bits .or .i64 y 128 = y + 128 := by
  obtain ⟨b, rfl⟩ := Int.eq_ofNat_of_zero_le hy0
  have h := (bits_nat .i64 63 (by decide) wraps_i64 b 128 (by omega) (by decide)).2
  have h2 := Nat.two_pow_add_eq_or_of_lt (i := 7) (b := b) (by omega) 1
  rw [Nat.or_comm] at h2
  have h3 : Go.bits .or .i64 ((b : Nat) : Int) 128 = ((b ||| 128 : Nat) : Int) := h
  have h4 : (b ||| 128 : Nat) = 128 + b := by simpa using h2.symm
  rw [h3, h4]
  omega
theorem shr_eq {x : Int} {s : Int} (j : Nat) (hs : s = (j : Int)) (hj : j ≤ 64) : shr .i64 x s = x / 2 ^ j := by
  subst hs
  unfold shr
  rw [Int.toNat_natCast, Nat.min_eq_left (by simpa [IntKind.bits] using hj)]

/-- The bytes of a number, 0 to 10^9. -/
def numB (n : Int) : List Int :=
  if n < 128 then [n % 128] else if n < 16384 then [n / 128 % 128 + 128, n % 128] else if n < 2097152 then [n / 16384 % 128 + 128, n / 128 % 128 + 128, n % 128]
  else if n < 268435456 then [n / 2097152 % 128 + 128, n / 16384 % 128 + 128, n / 128 % 128 + 128, n % 128]
  else [n / 268435456 % 128 + 128, n / 2097152 % 128 + 128, n / 16384 % 128 + 128, n / 128 % 128 + 128, n % 128]
theorem numB_length (n : Int) : 1 ≤ (numB n).length ∧ (numB n).length ≤ 5 := by unfold numB; (repeat' split) <;> simp
def clampN (n : Int) : Int := if n > 1000000000 then 1000000000 else if n < 0 then 0 else n
theorem clampN_range (n : Int) : 0 ≤ clampN n ∧ clampN n ≤ 1000000000 := by unfold clampN; (repeat' split) <;> omega
theorem impl_put_l1 (n : Int) (h0 : 0 ≤ n) (h1 : n ≤ 1000000000) (q : Nat) (out : List Int) (ho : out.length < 140737488355328) (s : Nat) (hs0 : 0 < s) (hs : s ≤ 28) :
    impl_addNum.l1 (q + 1) out n (s : Int) = impl_addNum.l1 q (out ++ [n / 2 ^ s % 128 + 128]) n ((s : Int) - 7) := by
  have hp : 0 ≤ n / 2 ^ s ∧ n / 2 ^ s ≤ n := ⟨Int.ediv_nonneg h0 (Int.le_of_lt (Int.pow_pos (by decide))), Int.ediv_le_self _ h0⟩
  simp only [impl_addNum.l1]
  rw [if_pos (by omega), if_pos (by omega), if_pos ho, shr_eq s rfl (by omega), and127 hp.1 (by omega), wrap_id (by omega) (by omega), wrap_id (by omega) (by omega)]
  congr 3
  omega
theorem impl_put_end (n : Int) (h0 : 0 ≤ n) (h1 : n ≤ 1000000000) (q : Nat) (out : List Int) (ho : out.length < 140737488355328) : impl_addNum.l1 (q + 1) out n 0 = some (out ++ [n % 128]) := by
  simp only [impl_addNum.l1]
  rw [if_neg (by omega), if_pos ho, and127 h0 (by omega)]
  congr 3
  omega
theorem impl_put_l0 (n : Int) (h0 : 0 ≤ n) (h1 : n ≤ 1000000000) (q : Nat) (out : List Int) (s : Nat) (hs : s ≤ 28) :
    impl_addNum.l0 (q + 1) out n (s : Int) = if n / 2 ^ s > 127 then impl_addNum.l0 q out n ((s + 7 : Nat) : Int) else impl_addNum.l1 q out n (s : Int) := by
  simp only [impl_addNum.l0]
  rw [if_pos (by omega), shr_eq s rfl (by omega), wrap_id (i := (s : Int) + 7) (by omega) (by omega)]
  rfl
theorem impl_addNum_at (n : Int) (out : List Int) (ho : out.length + 5 < 140737488355328) (q : Nat) : impl_addNum.f (q + 12) out n = some (out ++ numB (clampN n)) := by
  have hc := clampN_range n
  have e : mx 0 (mn n 1000000000) = clampN n := by unfold mx mn clampN; (repeat' split) <;> omega
  unfold impl_addNum.f
  rw [e]
  generalize clampN n = m at hc
  obtain ⟨h0, h1⟩ := hc
  have l1 := fun q out ho s hs0 hs => impl_put_l1 m h0 h1 q out ho s hs0 hs
  have l0 := fun q out s hs => impl_put_l0 m h0 h1 q out s hs
  have en := fun q out ho => impl_put_end m h0 h1 q out ho
  unfold numB
  rw [show (0 : Int) = ((0 : Nat) : Int) from rfl, l0 (q + 11) out 0 (by omega)]
  by_cases c1 : m < 128
  · rw [if_neg (by omega), if_pos c1]
    exact en (q + 10) out (by omega)
  rw [if_pos (by omega), if_neg c1, l0 (q + 10) out 7 (by omega)]
  by_cases c2 : m < 16384
  · rw [if_neg (by omega), if_pos c2, l1 (q + 9) out (by omega) 7 (by omega) (by omega)]
    have := en (q + 8) (out ++ [m / 2 ^ 7 % 128 + 128]) (by simp; omega)
    simpa using this
  rw [if_pos (by omega), if_neg c2, l0 (q + 9) out 14 (by omega)]
  by_cases c3 : m < 2097152
  · rw [if_neg (by omega), if_pos c3, l1 (q + 8) out (by omega) 14 (by omega) (by omega)]
    have a := l1 (q + 7) (out ++ [m / 2 ^ 14 % 128 + 128]) (by simp; omega) 7 (by omega) (by omega)
    have b := en (q + 6) ((out ++ [m / 2 ^ 14 % 128 + 128]) ++ [m / 2 ^ 7 % 128 + 128]) (by simp; omega)
    have a' : impl_addNum.l1 (q + 8) (out ++ [m / 2 ^ 14 % 128 + 128]) m (((14 : Nat) : Int) - 7) = _ := a
    rw [a']
    have b' : impl_addNum.l1 (q + 7) ((out ++ [m / 2 ^ 14 % 128 + 128]) ++ [m / 2 ^ 7 % 128 + 128]) m (((7 : Nat) : Int) - 7) = _ := b
    rw [b']
    simp
  rw [if_pos (by omega), if_neg c3, l0 (q + 8) out 21 (by omega)]
  by_cases c4 : m < 268435456
  · rw [if_neg (by omega), if_pos c4, l1 (q + 7) out (by omega) 21 (by omega) (by omega)]
    have a := l1 (q + 6) (out ++ [m / 2 ^ 21 % 128 + 128]) (by simp; omega) 14 (by omega) (by omega)
    have b := l1 (q + 5) ((out ++ [m / 2 ^ 21 % 128 + 128]) ++ [m / 2 ^ 14 % 128 + 128]) (by simp; omega) 7 (by omega) (by omega)
    have c := en (q + 4) (((out ++ [m / 2 ^ 21 % 128 + 128]) ++ [m / 2 ^ 14 % 128 + 128]) ++ [m / 2 ^ 7 % 128 + 128]) (by simp; omega)
    have a' : impl_addNum.l1 (q + 7) (out ++ [m / 2 ^ 21 % 128 + 128]) m (((21 : Nat) : Int) - 7) = _ := a
    rw [a']
    have b' : impl_addNum.l1 (q + 6) ((out ++ [m / 2 ^ 21 % 128 + 128]) ++ [m / 2 ^ 14 % 128 + 128]) m (((14 : Nat) : Int) - 7) = _ := b
    rw [b']
    have c' : impl_addNum.l1 (q + 5) (((out ++ [m / 2 ^ 21 % 128 + 128]) ++ [m / 2 ^ 14 % 128 + 128]) ++ [m / 2 ^ 7 % 128 + 128]) m (((7 : Nat) : Int) - 7) = _ := c
    rw [c']
    simp
  rw [if_pos (by omega), if_neg c4, l0 (q + 7) out 28 (by omega), if_neg (by omega), l1 (q + 6) out (by omega) 28 (by omega) (by omega)]
  have a := l1 (q + 5) (out ++ [m / 2 ^ 28 % 128 + 128]) (by simp; omega) 21 (by omega) (by omega)
  have b := l1 (q + 4) ((out ++ [m / 2 ^ 28 % 128 + 128]) ++ [m / 2 ^ 21 % 128 + 128]) (by simp; omega) 14 (by omega) (by omega)
  have c := l1 (q + 3) (((out ++ [m / 2 ^ 28 % 128 + 128]) ++ [m / 2 ^ 21 % 128 + 128]) ++ [m / 2 ^ 14 % 128 + 128]) (by simp; omega) 7 (by omega) (by omega)
  have d := en (q + 2) ((((out ++ [m / 2 ^ 28 % 128 + 128]) ++ [m / 2 ^ 21 % 128 + 128]) ++ [m / 2 ^ 14 % 128 + 128]) ++ [m / 2 ^ 7 % 128 + 128]) (by simp; omega)
  have a' : impl_addNum.l1 (q + 6) (out ++ [m / 2 ^ 28 % 128 + 128]) m (((28 : Nat) : Int) - 7) = _ := a
  rw [a']
  have b' : impl_addNum.l1 (q + 5) ((out ++ [m / 2 ^ 28 % 128 + 128]) ++ [m / 2 ^ 21 % 128 + 128]) m (((21 : Nat) : Int) - 7) = _ := b
  rw [b']
  have c' : impl_addNum.l1 (q + 4) (((out ++ [m / 2 ^ 28 % 128 + 128]) ++ [m / 2 ^ 21 % 128 + 128]) ++ [m / 2 ^ 14 % 128 + 128]) m (((14 : Nat) : Int) - 7) = _ := c
  rw [c']
  have d' : impl_addNum.l1 (q + 3) ((((out ++ [m / 2 ^ 28 % 128 + 128]) ++ [m / 2 ^ 21 % 128 + 128]) ++ [m / 2 ^ 14 % 128 + 128]) ++ [m / 2 ^ 7 % 128 + 128]) m (((7 : Nat) : Int) - 7) = _ := d
  rw [d']
  simp
theorem impl_addNum_ev (n : Int) (out : List Int) (ho : out.length + 5 < 140737488355328) : Ev (fun k => impl_addNum.f k out n) (out ++ numB (clampN n)) :=
  ⟨12, fun k hk => by obtain ⟨q, rfl⟩ : ∃ q, k = q + 12 := ⟨k - 12, by omega⟩; exact impl_addNum_at n out ho q⟩

def BytesIn (b : List Int) : Prop := ∀ i : Int, 0 ≤ rd b i ∧ rd b i ≤ 255
theorem bytesIn_of {b : List Int} (h : ∀ x ∈ b, (Lit.int .u8 x).wf = true) : BytesIn b := by
  intro i
  unfold rd
  rw [List.getD_eq_getElem?_getD]
  cases e : b[i.toNat]? with
  | none => simp
  | some x => exact wf_u8 (h x (List.mem_of_getElem? e))
theorem BytesIn.mem {b : List Int} (h : BytesIn b) : ∀ x ∈ b, 0 ≤ x ∧ x ≤ 255 := by
  intro x hx
  obtain ⟨i, hi, rfl⟩ := List.mem_iff_getElem.1 hx
  have := h (i : Int)
  simpa [rd, List.getD_eq_getElem?_getD, List.getElem?_eq_getElem hi] using this
theorem BytesIn.of_mem {b : List Int} (h : ∀ x ∈ b, 0 ≤ x ∧ x ≤ 255) : BytesIn b := by
  intro i
  unfold rd
  rw [List.getD_eq_getElem?_getD]
  cases e : b[i.toNat]? with
  | none => simp
  | some x => exact h x (List.mem_of_getElem? e)
theorem BytesIn.nat {b : List Int} (h : BytesIn b) : ∀ x ∈ b, x.toNat < 4294967296 := fun x hx => by have := h.mem x hx; omega
theorem drop_cons_rd {b : List Int} {i : Nat} (h : i < b.length) : b.drop i = rd b (i : Int) :: b.drop (i + 1) := by
  rw [List.drop_eq_getElem_cons h, rd_nat, List.getD_eq_getElem?_getD, List.getElem?_eq_getElem h]
  rfl

theorem ofInt64 (a : Nat) (ha : a < 18446744073709551616) : (BitVec.ofInt 64 (a : Int)).toNat = a := by
  rw [BitVec.ofInt_natCast, BitVec.toNat_ofNat]; exact Nat.mod_eq_of_lt (by omega)
theorem ofInt32 (a : Nat) (ha : a < 4294967296) : (BitVec.ofInt 32 (a : Int)).toNat = a := by
  rw [BitVec.ofInt_natCast, BitVec.toNat_ofNat]; exact Nat.mod_eq_of_lt (by omega)
theorem xor_i64 (a b : Nat) (ha : a < 4294967296) (hb : b < 4294967296) : Go.bits .xor .i64 (a : Int) (b : Int) = ((a ^^^ b : Nat) : Int) := by
  have hx : a ^^^ b < 2 ^ 32 := Nat.xor_lt_two_pow (by omega) (by omega)
  show IntKind.i64.wrap ((BitVec.ofInt 64 (a : Int) ^^^ BitVec.ofInt 64 (b : Int)).toNat : Int) = _
  rw [BitVec.toNat_xor, ofInt64 a (by omega), ofInt64 b (by omega), IntKind.wrap_i64]
  omega
theorem xor_u32 (a b : Nat) (ha : a < 4294967296) (hb : b < 4294967296) : Go.bits .xor .u32 (a : Int) (b : Int) = ((a ^^^ b : Nat) : Int) := by
  have hx : a ^^^ b < 2 ^ 32 := Nat.xor_lt_two_pow (by omega) (by omega)
  show IntKind.u32.wrap ((BitVec.ofInt 32 (a : Int) ^^^ BitVec.ofInt 32 (b : Int)).toNat : Int) = _
  rw [BitVec.toNat_xor, ofInt32 a ha, ofInt32 b hb, IntKind.wrap_u32]
  omega
theorem xor_i64' (a : Nat) (v : Int) (ha : a < 4294967296) (h0 : 0 ≤ v) (h1 : v < 4294967296) : Go.bits .xor .i64 (a : Int) v = ((a ^^^ v.toNat : Nat) : Int) := by
  obtain ⟨c, rfl⟩ := Int.eq_ofNat_of_zero_le h0
  simpa using xor_i64 a c ha (by omega)
theorem and1_i64 (a : Nat) (ha : a < 4294967296) : Go.bits .and .i64 (a : Int) 1 = ((a % 2 : Nat) : Int) := by
  have h := bits_mask .i64 63 (by decide) wraps_i64 1 (by decide) (a : Int) (by omega) (by omega)
  have h2 : Go.bits .and .i64 (a : Int) 1 = (a : Int) % 2 := by simpa using h
  rw [h2]
  omega
theorem wraps_u32 (n : Int) (h0 : 0 ≤ n) (h1 : n < 2 ^ 32) : IntKind.u32.wrap n = n := by rw [IntKind.wrap_u32]; omega
theorem and1_u32 (a : Nat) (ha : a < 4294967296) : Go.bits .and .u32 (a : Int) 1 = ((a % 2 : Nat) : Int) := by
  have h := bits_mask .u32 32 (by decide) wraps_u32 1 (by decide) (a : Int) (by omega) (by omega)
  have h2 : Go.bits .and .u32 (a : Int) 1 = (a : Int) % 2 := by simpa using h
  rw [h2]
  omega
def crc1 (x : Nat) : Nat := if x % 2 = 1 then x / 2 ^^^ 2197175160 else x / 2
def crcR : Nat → Nat → Nat
  | 0, x => x
  | n + 1, x => crcR n (crc1 x)
def crcB (x c : Nat) : Nat := crcR 8 (x ^^^ c)
def crcL : List Int → Nat → Nat
  | [], x => x
  | c :: l, x => crcL l (crcB x c.toNat)
/-- The sum of bytes, as a number. -/
def sumN (l : List Int) : Int := ((crcL l 4294967295 ^^^ 4294967295 : Nat) : Int)
theorem xor32 {a b : Nat} (ha : a < 4294967296) (hb : b < 4294967296) : a ^^^ b < 4294967296 := by
  have := Nat.xor_lt_two_pow (n := 32) (x := a) (y := b) (by omega) (by omega)
  omega
theorem crc1_lt {x : Nat} (h : x < 4294967296) : crc1 x < 4294967296 := by
  unfold crc1
  split
  · exact xor32 (by omega) (by omega)
  · omega
theorem crcR_lt : ∀ (n : Nat) {x : Nat}, x < 4294967296 → crcR n x < 4294967296
  | 0, _, h => h
  | n + 1, _, h => crcR_lt n (crc1_lt h)
theorem crcB_lt {x c : Nat} (h : x < 4294967296) (hc : c < 4294967296) : crcB x c < 4294967296 := crcR_lt 8 (xor32 h hc)
theorem crcL_lt : ∀ (l : List Int), (∀ c ∈ l, c.toNat < 4294967296) → ∀ {x : Nat}, x < 4294967296 → crcL l x < 4294967296
  | [], _, _, h => h
  | c :: l, hl, _, h => crcL_lt l (fun d hd => hl d (List.mem_cons_of_mem _ hd)) (crcB_lt h (hl c List.mem_cons_self))
theorem sumN_range {l : List Int} (h : ∀ c ∈ l, c.toNat < 4294967296) : 0 ≤ sumN l ∧ sumN l ≤ 4294967295 := by
  have := xor32 (crcL_lt l h (x := 4294967295) (by omega)) (b := 4294967295) (by omega)
  unfold sumN
  omega

theorem impl_sum_l1 (b : List Int) (n : Int) (i : Nat) (r : Int) (hi : i < 281474976710656) : ∀ (d x j : Nat), j + d = 8 → x < 4294967296 → Ev (fun q => impl_Sum.l0 q ((crcR d x : Nat) : Int) b n ((i + 1 : Nat) : Int)) r →
    Ev (fun q => impl_Sum.l1 q (x : Int) b n (i : Int) (j : Int)) r := by
  intro d
  induction d with
  | zero =>
    intro x j hj hx h
    refine Ev.step (f := fun q => impl_Sum.l0 q (x : Int) b n ((i + 1 : Nat) : Int)) (fun q => ?_) h
    simp only [impl_Sum.l1]
    rw [if_neg (by omega), wrap_id (i := (i : Int) + 1) (by omega) (by omega)]
    rfl
  | succ d ih =>
    intro x j hj hx h
    refine Ev.step (f := fun q => impl_Sum.l1 q ((crc1 x : Nat) : Int) b n (i : Int) ((j + 1 : Nat) : Int)) (fun q => ?_) (ih (crc1 x) (j + 1) (by omega) (crc1_lt hx) h)
    simp only [impl_Sum.l1]
    have hd : (x : Int) / 2 = ((x / 2 : Nat) : Int) := by omega
    rw [if_pos (by omega), and1_u32 x hx, hd, wrap_id (i := (j : Int) + 1) (by omega) (by omega)]
    have e2 : (2197175160 : Int) = ((2197175160 : Nat) : Int) := rfl
    rw [e2, xor_u32 (x / 2) 2197175160 (by omega) (by omega)]
    unfold crc1
    by_cases h1 : x % 2 = 1
    · rw [if_pos h1, if_pos (by omega)]
      rfl
    · rw [if_neg h1, if_neg (by omega)]
      rfl
theorem impl_sum_l0 (b : List Int) (hb : BytesIn b) (hn : b.length < 281474976710656) : ∀ (d x i : Nat), i + d = b.length → x < 4294967296 → Ev (fun q => impl_Sum.l0 q (x : Int) b (b.length : Int) (i : Int)) ((crcL (b.drop i) x ^^^ 4294967295 : Nat) : Int) := by
  intro d
  induction d with
  | zero =>
    intro x i hi hx
    rw [List.drop_eq_nil_of_le (by omega)]
    refine Ev.step (f := fun _ => some _) (fun q => ?_) (Ev.now _)
    simp only [impl_Sum.l0]
    rw [if_neg (by omega)]
    have e2 : (4294967295 : Int) = ((4294967295 : Nat) : Int) := rfl
    have hy := xor32 (a := 4294967295) (b := x) (by omega) hx
    rw [e2, xor_u32 4294967295 x (by omega) hx, wrap_id (by omega) (by omega), Nat.xor_comm]
    rfl
  | succ d ih =>
    intro x i hi hx
    have hc := hb (i : Int)
    rw [drop_cons_rd (by omega)]
    have hcn : rd b (i : Int) % 4294967296 = (((rd b (i : Int)).toNat : Nat) : Int) := by omega
    have hy : x ^^^ (rd b (i : Int)).toNat < 4294967296 := xor32 hx (by omega)
    refine Ev.step (f := fun q => impl_Sum.l1 q ((x ^^^ (rd b (i : Int)).toNat : Nat) : Int) b (b.length : Int) (i : Int) ((0 : Nat) : Int)) (fun q => ?_) (impl_sum_l1 b _ i _ (by omega) 8 _ 0 rfl hy (ih _ (i + 1) (by omega) (crcR_lt 8 hy)))
    simp only [impl_Sum.l0]
    rw [if_pos (by omega), if_pos (by omega), if_pos (by omega), hcn, xor_u32 x _ hx (by omega)]
    rfl
theorem impl_sum_ev (b : List Int) (hb : BytesIn b) (hn : b.length < 281474976710656) : Ev (fun q => impl_Sum.f q b) (sumN b) :=
  impl_sum_l0 b hb hn b.length 4294967295 0 (by omega) (by omega)

def fourB (a : Int) : List Int := [a / 16777216 % 256, a / 65536 % 256, a / 256 % 256, a % 256]
/-- A frame's bytes. -/
def frameB (l : List Int) : List Int := fourB (sumN l) ++ (numB (clampN (l.length : Int)) ++ l)
theorem frameB_length (l : List Int) : (frameB l).length = 4 + (numB (clampN (l.length : Int))).length + l.length := by
  unfold frameB fourB
  simp
  omega
theorem impl_frame_ev (l : List Int) (hb : BytesIn l) (hn : l.length ≤ 140737488000000) : Ev (fun k => impl_Frame.f k l) (frameB l) := by
  obtain ⟨K1, h1⟩ := impl_sum_ev l hb (by omega)
  obtain ⟨K2, h2⟩ := impl_addNum_ev (l.length : Int) (fourB (sumN l)) (by unfold fourB; simp)
  have hl := numB_length (clampN (l.length : Int))
  dsimp only at h1 h2
  refine ⟨K1 + K2, fun k hk => ?_⟩
  simp only [impl_Frame.f, impl_word.f]
  rw [h1 k (by omega), Option.bind_some, Option.bind_some]
  have h2 := h2 k (by omega)
  unfold fourB at h2
  rw [h2, Option.bind_some, if_pos (by rw [List.length_append]; simp; omega), List.append_assoc]
  rfl

def getR (b : List Int) (at_ : Int) : Nat → Int → Int → Int × Int × Bool
  | 0, _, _ => (0, 0, false)
  | d + 1, n, k => if 0 ≤ at_ ∧ at_ + k < (b.length : Int) then
      (if k = 0 ∧ rd b (at_ + k) = 128 then (0, 0, false) else
        if rd b (at_ + k) < 128 then (if n * 128 + rd b (at_ + k) % 128 > 1000000000 then (0, 0, false) else (n * 128 + rd b (at_ + k) % 128, at_ + k + 1, true))
        else getR b at_ d (n * 128 + rd b (at_ + k) % 128) (k + 1)) else (0, 0, false)
def topR : Nat → Int
  | 0 => 0
  | k + 1 => topR k * 128 + 127
theorem topR_le (k : Nat) (h : k ≤ 5) : topR k ≤ 34359738367 := by
  have : k = 0 ∨ k = 1 ∨ k = 2 ∨ k = 3 ∨ k = 4 ∨ k = 5 := by omega
  rcases this with rfl | rfl | rfl | rfl | rfl | rfl <;> decide

theorem getR_range (b : List Int) (hb : BytesIn b) (at_ : Int) : ∀ (d : Nat) (n k : Int), 0 ≤ k → 0 ≤ n → (getR b at_ d n k).2.2 = true →
    0 ≤ (getR b at_ d n k).1 ∧ (getR b at_ d n k).1 ≤ 1000000000 ∧ at_ + k + 1 ≤ (getR b at_ d n k).2.1 ∧ 0 ≤ at_ ∧ (getR b at_ d n k).2.1 ≤ b.length := by
  intro d
  induction d with
  | zero => intro n k hk hn h; simp [getR] at h
  | succ d ih =>
    intro n k hk hn h
    have hc := hb (at_ + k)
    unfold getR at h ⊢
    by_cases hr : 0 ≤ at_ ∧ at_ + k < (b.length : Int)
    · rw [if_pos hr] at h ⊢
      by_cases h1 : k = 0 ∧ rd b (at_ + k) = 128
      · rw [if_pos h1] at h; simp at h
      · rw [if_neg h1] at h ⊢
        by_cases h2 : rd b (at_ + k) < 128
        · rw [if_pos h2] at h ⊢
          by_cases h3 : n * 128 + rd b (at_ + k) % 128 > 1000000000
          · rw [if_pos h3] at h; simp at h
          · rw [if_neg h3]
            refine ⟨?_, ?_, ?_, ?_, ?_⟩ <;> first | omega | (dsimp only; omega)
        · rw [if_neg h2] at h ⊢
          obtain ⟨a1, a2, a3, a4, a5⟩ := ih _ (k + 1) (by omega) (by omega) h
          exact ⟨a1, a2, by omega, a4, a5⟩
    · rw [if_neg hr] at h; simp at h
def textR (b : List Int) (at_ : Int) : ByteArray × Int × Bool :=
  if (getR b at_ 5 0 0).2.2 = true then
    (if (getR b at_ 5 0 0).1 > (b.length : Int) - (getR b at_ 5 0 0).2.1 then ((⟨#[]⟩ : ByteArray), 0, false)
     else (strOfNums ((b.take ((getR b at_ 5 0 0).2.1 + (getR b at_ 5 0 0).1).toNat).drop ((getR b at_ 5 0 0).2.1).toNat), (getR b at_ 5 0 0).2.1 + (getR b at_ 5 0 0).1, true))
  else ((⟨#[]⟩ : ByteArray), 0, false)

theorem xor_cancel {a b c : Nat} (h : a ^^^ c = b ^^^ c) : a = b := by
  have h2 : (a ^^^ c) ^^^ c = (b ^^^ c) ^^^ c := by rw [h]
  rwa [Nat.xor_assoc, Nat.xor_assoc, Nat.xor_self, Nat.xor_zero, Nat.xor_zero] at h2
theorem xor_cancel_left {a b c : Nat} (h : c ^^^ a = c ^^^ b) : a = b := xor_cancel (c := c) (by rw [Nat.xor_comm a, Nat.xor_comm b]; exact h)
theorem crc_top {a : Nat} (h : a < 2147483648) : (a ^^^ 2197175160).testBit 31 = true := by
  rw [Nat.testBit_xor, Nat.testBit_lt_two_pow (by omega : a < 2 ^ 31)]
  decide
theorem crc1_inj {x y : Nat} (hx : x < 4294967296) (hy : y < 4294967296) (h : crc1 x = crc1 y) : x = y := by
  unfold crc1 at h
  have tx : (x / 2).testBit 31 = false := Nat.testBit_lt_two_pow (by omega : x / 2 < 2 ^ 31)
  have ty : (y / 2).testBit 31 = false := Nat.testBit_lt_two_pow (by omega : y / 2 < 2 ^ 31)
  split at h
  · split at h
    · have := xor_cancel h
      omega
    · have h1 := crc_top (a := x / 2) (by omega)
      rw [h, ty] at h1
      simp at h1
  · split at h
    · have h1 := crc_top (a := y / 2) (by omega)
      rw [← h, tx] at h1
      simp at h1
    · omega
theorem crcR_inj : ∀ (n : Nat) {x y : Nat}, x < 4294967296 → y < 4294967296 → crcR n x = crcR n y → x = y
  | 0, _, _, _, _, h => h
  | n + 1, _, _, hx, hy, h => crc1_inj hx hy (crcR_inj n (crc1_lt hx) (crc1_lt hy) h)
theorem crcL_inj : ∀ (l : List Int), (∀ c ∈ l, c.toNat < 4294967296) → ∀ {x y : Nat}, x < 4294967296 → y < 4294967296 → crcL l x = crcL l y → x = y
  | [], _, _, _, _, _, h => h
  | c :: l, hl, _, _, hx, hy, h => by
    have hc := hl c (by simp)
    have := crcL_inj l (fun d hd => hl d (by simp [hd])) (crcB_lt hx hc) (crcB_lt hy hc) h
    exact xor_cancel (crcR_inj 8 (xor32 hx hc) (xor32 hy hc) this)
/-- One byte turned turns the sum. -/
theorem crcL_set : ∀ (l : List Int), (∀ c ∈ l, c.toNat < 4294967296) → ∀ (i : Nat) (c : Int) {x : Nat}, x < 4294967296 → c.toNat < 4294967296 → i < l.length → (l.getD i 0).toNat ≠ c.toNat → crcL (l.set i c) x ≠ crcL l x
  | [], _, _, _, _, _, _, hi, _ => by simp at hi
  | d :: l, hl, 0, c, x, hx, hc, _, hne => fun h => by
    have hd := hl d (by simp)
    have := crcL_inj l (fun e he => hl e (by simp [he])) (crcB_lt hx hc) (crcB_lt hx hd) h
    have := xor_cancel_left (crcR_inj 8 (xor32 hx hc) (xor32 hx hd) this)
    exact hne this.symm
  | d :: l, hl, i + 1, c, x, hx, hc, hi, hne => crcL_set l (fun e he => hl e (by simp [he])) i c (crcB_lt hx (hl d (by simp))) hc (by simpa using hi) (by simpa using hne)

theorem bytesOf_in (s : ByteArray) : BytesIn (bytesOf s) := by
  apply BytesIn.of_mem
  intro x hx
  simp only [bytesOf, List.mem_map] at hx
  obtain ⟨b, _, rfl⟩ := hx
  have := b.toNat_lt
  omega

def wordR (b : List Int) (at_ : Int) : Int := rd b at_ * 16777216 + rd b (at_ + 1) * 65536 + rd b (at_ + 2) * 256 + rd b (at_ + 3)
/-- The body of a frame. -/
def unframeR (b : List Int) (at_ : Int) : List Int × Int × Bool :=
  if 0 ≤ at_ ∧ at_ ≤ (b.length : Int) - 4 then
    (if (textR b (at_ + 4)).2.2 = true ∧ sumN (bytesOf (textR b (at_ + 4)).1) = wordR b at_ then (bytesOf (textR b (at_ + 4)).1, (textR b (at_ + 4)).2.1, true) else ([], at_, false))
  else ([], at_, false)
theorem rd_app (p l : List Int) (i : Int) (hi : i = (p.length : Int)) (x : Int) (l' : List Int) (h : l = x :: l') : rd (p ++ l) i = x := by
  subst hi h
  rw [rd_nat, List.getD_eq_getElem?_getD, List.getElem?_append_right (Nat.le_refl _), Nat.sub_self]
  rfl
theorem bytes_str (l : List Int) (h : ∀ x ∈ l, 0 ≤ x ∧ x ≤ 255) : bytesOf (strOfNums l) = l := by
  unfold bytesOf
  rw [strOfNums_data, List.map_map]
  conv => rhs; rw [← List.map_id l]
  apply List.map_congr_left
  intro x hx
  have := h x hx
  simp only [Function.comp_apply, id_eq]
  have e : (UInt8.ofNat x.toNat).toNat = x.toNat := by
    rw [UInt8.toNat_ofNat']
    omega
  first | (rw [e]; omega) | (simp only [UInt8.toNat_ofNat']; omega)
theorem textR_short (p l : List Int) (n : Int) (i : Int) (hi : i = (p.length : Int)) (h0 : 0 ≤ n) (h1 : n < 128) : textR (p ++ n :: l) i = if n > (l.length : Int) then ((⟨#[]⟩ : ByteArray), 0, false) else (strOfNums (l.take n.toNat), i + 1 + n, true) := by
  have hr : rd (p ++ n :: l) (i + 0) = n := rd_app p (n :: l) (i + 0) (by omega) n l rfl
  have hl : (p ++ n :: l).length = p.length + (l.length + 1) := by simp
  have g : getR (p ++ n :: l) i 5 0 0 = (n, i + 1, true) := by
    unfold getR
    rw [hr, if_pos ⟨by omega, by omega⟩, if_neg (by omega), if_pos h1, if_neg (by omega)]
    have e : 0 * 128 + n % 128 = n := by omega
    rw [e]
    simp
  unfold textR
  rw [g, if_pos rfl]
  dsimp only
  by_cases hc : n > (l.length : Int)
  · rw [if_pos hc, if_pos (by omega)]
  · rw [if_neg hc, if_neg (by omega)]
    have e1 : (i + 1 + n).toNat = (p ++ [n]).length + n.toNat := by simp; omega
    have e2 : (i + 1).toNat = (p ++ [n]).length := by simp; omega
    have e3 : p ++ n :: l = (p ++ [n]) ++ l := by simp
    rw [e1, e2, e3, List.take_length_add_append, List.drop_left']
    rfl
theorem textR_end (p : List Int) (i : Int) (hi : (p.length : Int) ≤ i) : (textR p i).2.2 = false := by
  have g : getR p i 5 0 0 = (0, 0, false) := by
    unfold getR
    rw [if_neg (by omega)]
  unfold textR
  rw [g, if_neg (by simp)]
theorem numB_small {n : Int} (h0 : 0 ≤ n) (h1 : n < 128) : numB (clampN n) = [n] := by
  have hc : clampN n = n := by unfold clampN; rw [if_neg (by omega), if_neg (by omega)]
  unfold numB
  rw [hc, if_pos h1]
  congr 1
  omega
theorem frame_small {l : List Int} (h : l.length < 128) : frameB l = fourB (sumN l) ++ (l.length : Int) :: l := by
  unfold frameB
  rw [numB_small (by omega) (by omega)]
  rfl
theorem word_four (p rest : List Int) (a b c d : Int) (i : Int) (hi : i = (p.length : Int)) : wordR (p ++ a :: b :: c :: d :: rest) i = a * 16777216 + b * 65536 + c * 256 + d := by
  unfold wordR
  rw [rd_app p _ i hi a _ rfl]
  have e1 : p ++ a :: b :: c :: d :: rest = (p ++ [a]) ++ b :: c :: d :: rest := by simp
  have e2 : p ++ a :: b :: c :: d :: rest = (p ++ [a, b]) ++ c :: d :: rest := by simp
  have e3 : p ++ a :: b :: c :: d :: rest = (p ++ [a, b, c]) ++ d :: rest := by simp
  rw [show rd (p ++ a :: b :: c :: d :: rest) (i + 1) = b from by rw [e1]; exact rd_app _ _ _ (by simp; omega) b _ rfl, show rd (p ++ a :: b :: c :: d :: rest) (i + 2) = c from by rw [e2]; exact rd_app _ _ _ (by simp; omega) c _ rfl, show rd (p ++ a :: b :: c :: d :: rest) (i + 3) = d from by rw [e3]; exact rd_app _ _ _ (by simp; omega) d _ rfl]
/-- A frame whose first four bytes, and whose body, may be turned. -/
theorem unframe_any (p l rest : List Int) (a b c d : Int) (i : Int) (hi : i = (p.length : Int)) (hl : l.length < 128) (hb : ∀ x ∈ l, 0 ≤ x ∧ x ≤ 255) :
    unframeR (p ++ a :: b :: c :: d :: (l.length : Int) :: (l ++ rest)) i = if sumN l = a * 16777216 + b * 65536 + c * 256 + d then (l, i + 5 + (l.length : Int), true) else ([], i, false) := by
  have hlen : (p ++ a :: b :: c :: d :: (l.length : Int) :: (l ++ rest)).length = p.length + (l.length + rest.length + 5) := by simp
  have ht : textR (p ++ a :: b :: c :: d :: (l.length : Int) :: (l ++ rest)) (i + 4) = (strOfNums l, i + 4 + 1 + (l.length : Int), true) := by
    have e : p ++ a :: b :: c :: d :: (l.length : Int) :: (l ++ rest) = (p ++ [a, b, c, d]) ++ (l.length : Int) :: (l ++ rest) := by simp
    rw [e, textR_short (p ++ [a, b, c, d]) (l ++ rest) (l.length : Int) (i + 4) (by simp; omega) (by omega) (by omega), if_neg (by rw [List.length_append]; omega)]
    rw [Int.toNat_natCast, List.take_left']
    rfl
  unfold unframeR
  rw [if_pos ⟨by omega, by omega⟩, ht, word_four p _ a b c d i hi]
  dsimp only
  rw [bytes_str l hb]
  by_cases h : sumN l = a * 16777216 + b * 65536 + c * 256 + d
  · rw [if_pos ⟨rfl, h⟩, if_pos h]
    congr 2
    omega
  · rw [if_neg (fun hh => h hh.2), if_neg h]
theorem four_sum {s : Int} (h0 : 0 ≤ s) (h1 : s ≤ 4294967295) : s / 16777216 % 256 * 16777216 + s / 65536 % 256 * 65536 + s / 256 % 256 * 256 + s % 256 = s := by omega
theorem unframe_frame (p l rest : List Int) (i : Int) (hi : i = (p.length : Int)) (hl : l.length < 128) (hb : ∀ x ∈ l, 0 ≤ x ∧ x ≤ 255) : unframeR (p ++ (frameB l ++ rest)) i = (l, i + 5 + (l.length : Int), true) := by
  have hs := sumN_range (l := l) (fun x hx => by have := hb x hx; omega)
  rw [frame_small hl]
  unfold fourB
  have e : p ++ (([sumN l / 16777216 % 256, sumN l / 65536 % 256, sumN l / 256 % 256, sumN l % 256] ++ (l.length : Int) :: l) ++ rest) = p ++ (sumN l / 16777216 % 256) :: (sumN l / 65536 % 256) :: (sumN l / 256 % 256) :: (sumN l % 256) :: (l.length : Int) :: (l ++ rest) := by simp
  rw [e, unframe_any p l rest _ _ _ _ i hi hl hb, if_pos (four_sum hs.1 hs.2).symm]
/-- One byte turned, but that of the length: it is told. -/
theorem unframe_turned (l : List Int) (hl : l.length < 128) (hb : ∀ x ∈ l, 0 ≤ x ∧ x ≤ 255) (i : Nat) (v : Int) (hi : i < (frameB l).length) (h4 : i ≠ 4) (h0 : 0 ≤ v) (h1 : v ≤ 255) (hne : (frameB l).getD i 0 ≠ v) : (unframeR ((frameB l).set i v) 0).2.2 = false := by
  have hs := sumN_range (l := l) (fun x hx => by have := hb x hx; omega)
  rw [frame_small hl] at hi hne ⊢
  unfold fourB at hi hne ⊢
  have key : ∀ (a b c d : Int) (m : List Int), m.length = l.length → (∀ x ∈ m, 0 ≤ x ∧ x ≤ 255) → sumN m ≠ a * 16777216 + b * 65536 + c * 256 + d → (unframeR (a :: b :: c :: d :: (l.length : Int) :: m) 0).2.2 = false := by
    intro a b c d m hm hmb hne
    have h := unframe_any [] m [] a b c d 0 rfl (by omega) hmb
    rw [hm, List.append_nil, List.nil_append] at h
    rw [h, if_neg hne]
  rcases i with _ | _ | _ | _ | _ | i
  · refine key v _ _ _ l rfl hb ?_
    simp at hne
    omega
  · refine key _ v _ _ l rfl hb ?_
    simp at hne
    omega
  · refine key _ _ v _ l rfl hb ?_
    simp at hne
    omega
  · refine key _ _ _ v l rfl hb ?_
    simp at hne
    omega
  · exact absurd rfl h4
  · refine key _ _ _ _ (l.set i v) (by simp) (fun x hx => ?_) ?_
    · rcases List.mem_or_eq_of_mem_set hx with hx | rfl
      · exact hb x hx
      · exact ⟨h0, h1⟩
    · have hil : i < l.length := by simp at hi; omega
      have hne2 : l.getD i 0 ≠ v := by simpa using hne
      have hm : 0 ≤ l.getD i 0 ∧ l.getD i 0 ≤ 255 := hb _ (by
        rw [List.getD_eq_getElem?_getD, List.getElem?_eq_getElem hil]
        exact List.getElem_mem _)
      have hx := crcL_set l (fun c hc => by have := hb c hc; omega) i v (x := 4294967295) (by omega) (by omega) hil (by omega)
      have hd : sumN (l.set i v) ≠ sumN l := fun h => hx (xor_cancel (c := 4294967295) (by unfold sumN at h; omega))
      have := four_sum hs.1 hs.2
      omega
/-- Cut, it is told. -/
theorem unframe_cut (l : List Int) (hl : l.length < 128) (c : Nat) (hc : c < (frameB l).length) : (unframeR ((frameB l).take c) 0).2.2 = false := by
  rw [frame_small hl] at hc ⊢
  unfold fourB at hc ⊢
  have hc2 : c < l.length + 5 := by simp at hc; omega
  have hlen : ((([sumN l / 16777216 % 256, sumN l / 65536 % 256, sumN l / 256 % 256, sumN l % 256] ++ (l.length : Int) :: l)).take c).length = c := by
    rw [List.length_take]
    simp
    omega
  unfold unframeR
  by_cases h4 : c < 4
  · rw [if_neg (by omega)]
  · rw [if_pos ⟨by omega, by omega⟩]
    have ht : (textR (([sumN l / 16777216 % 256, sumN l / 65536 % 256, sumN l / 256 % 256, sumN l % 256] ++ (l.length : Int) :: l).take c) (0 + 4)).2.2 = false := by
      by_cases h5 : c = 4
      · exact textR_end _ _ (by omega)
      · have e : ([sumN l / 16777216 % 256, sumN l / 65536 % 256, sumN l / 256 % 256, sumN l % 256] ++ (l.length : Int) :: l).take c = [sumN l / 16777216 % 256, sumN l / 65536 % 256, sumN l / 256 % 256, sumN l % 256] ++ (l.length : Int) :: l.take (c - 5) := by
          obtain ⟨q, rfl⟩ : ∃ q, c = q + 5 := ⟨c - 5, by omega⟩
          simp
        rw [e, textR_short _ (l.take (c - 5)) (l.length : Int) (0 + 4) rfl (by omega) (by omega), if_pos (by rw [List.length_take]; omega)]
    rw [if_neg (fun h => by rw [ht] at h; simp at h)]

theorem impl_getNum_l0 (b : List Int) (hb : BytesIn b) (hn : b.length ≤ 281474976710656) (at_ : Int) (ha : at_ ≤ 9223372036854775807) : ∀ (d : Nat) (n : Int) (k : Nat), k + d = 5 → 0 ≤ n → n ≤ topR k →
    Ev (fun q => impl_GetNum.l0 q b at_ n (k : Int)) (getR b at_ d n (k : Int)) := by
  intro d
  induction d with
  | zero =>
    intro n k hk h0 h1
    refine Ev.step (f := fun q => impl_GetNum.j1 q b at_ n (k : Int) false) (fun q => ?_) (Ev.step (f := fun _ => some (0, 0, false)) (fun q => ?_) (Ev.now _))
    · simp only [impl_GetNum.l0]
      rw [if_neg (by omega)]
    · simp [impl_GetNum.j1]
  | succ d ih =>
    intro n k hk h0 h1
    have ht := topR_le k (by omega)
    have hc := hb (at_ + (k : Int))
    have hl : wrap64 ((b.length : Int) - (k : Int)) = (b.length : Int) - (k : Int) := wrap_id (by omega) (by omega)
    unfold getR
    by_cases hr : 0 ≤ at_ ∧ at_ + (k : Int) < (b.length : Int)
    · rw [if_pos hr]
      have hw : wrap64 (at_ + (k : Int)) = at_ + (k : Int) := wrap_id (by omega) (by omega)
      have hwc : wrap64 (rd b (at_ + (k : Int))) = rd b (at_ + (k : Int)) := wrap_id (by omega) (by omega)
      have hwn : wrap64 (n * 128) = n * 128 := wrap_id (by omega) (by omega)
      have hmod : Int.tmod (rd b (at_ + (k : Int))) 128 = rd b (at_ + (k : Int)) % 128 := Int.tmod_eq_emod_of_nonneg (by omega)
      have hws : wrap64 (n * 128 + rd b (at_ + (k : Int)) % 128) = n * 128 + rd b (at_ + (k : Int)) % 128 := wrap_id (by omega) (by omega)
      refine Ev.step (f := fun q => impl_GetNum.j1 q b at_ n (k : Int) true) (fun q => ?_) ?_
      · simp only [impl_GetNum.l0]
        rw [if_pos (by omega), if_pos (by omega), hl, decide_eq_true (by omega)]
      · by_cases h128 : (k : Int) = 0 ∧ rd b (at_ + (k : Int)) = 128
        · rw [if_pos h128]
          refine Ev.step (f := fun q => impl_GetNum.j2 q b at_ n (k : Int) (rd b (at_ + (k : Int))) true) (fun q => ?_) (Ev.step (f := fun _ => some (0, 0, false)) (fun q => ?_) (Ev.now _))
          · simp only [impl_GetNum.j1, hw, hwc]
            rw [if_pos trivial, if_pos (by omega), if_pos (by omega), if_pos h128.1]
            simp [h128.2]
          · simp [impl_GetNum.j2]
        · rw [if_neg h128]
          refine Ev.step (f := fun q => impl_GetNum.j2 q b at_ n (k : Int) (rd b (at_ + (k : Int))) false) (fun q => ?_) ?_
          · simp only [impl_GetNum.j1, hw, hwc]
            rw [if_pos trivial, if_pos (by omega), if_pos (by omega)]
            by_cases hk0 : (k : Int) = 0
            · rw [if_pos hk0]
              have : rd b (at_ + (k : Int)) ≠ 128 := fun e => h128 ⟨hk0, e⟩
              rw [beq_eq_false_iff_ne.2 this]
            · rw [if_neg hk0]
          · by_cases hlt : rd b (at_ + (k : Int)) < 128
            · rw [if_pos hlt]
              refine Ev.step (f := fun _ => some _) (fun q => ?_) (Ev.now _)
              simp only [impl_GetNum.j2, hwn, hmod, hws, hw]
              rw [if_neg (by simp), if_neg (by omega)]
              by_cases hg : n * 128 + rd b (at_ + (k : Int)) % 128 > 1000000000
              · rw [if_pos hg, if_pos hg]
              · rw [if_neg hg, if_neg hg, wrap_id (i := at_ + (k : Int) + 1) (by omega) (by omega)]
            · rw [if_neg hlt]
              have h2 : topR (k + 1) = topR k * 128 + 127 := rfl
              refine Ev.step (f := fun q => impl_GetNum.l0 q b at_ (n * 128 + rd b (at_ + (k : Int)) % 128) ((k + 1 : Nat) : Int)) (fun q => ?_) ?_
              · simp only [impl_GetNum.j2, hwn, hmod, hws]
                rw [if_neg (by simp), if_pos (by omega), wrap_id (i := (k : Int) + 1) (by omega) (by omega)]
                rfl
              · exact ih _ (k + 1) (by omega) (by omega) (by omega)
    · rw [if_neg hr]
      refine Ev.step (f := fun q => impl_GetNum.j1 q b at_ n (k : Int) false) (fun q => ?_) (Ev.step (f := fun _ => some (0, 0, false)) (fun q => ?_) (Ev.now _))
      · simp only [impl_GetNum.l0]
        rw [if_pos (by omega)]
        by_cases h3 : at_ ≥ 0
        · rw [if_pos h3, hl, decide_eq_false (by omega)]
        · rw [if_neg h3]
      · simp [impl_GetNum.j1]
theorem impl_getNum_ev (b : List Int) (hb : BytesIn b) (hn : b.length ≤ 281474976710656) (at_ : Int) (ha : at_ ≤ 9223372036854775807) : Ev (fun q => impl_GetNum.f q b at_) (getR b at_ 5 0 0) :=
  impl_getNum_l0 b hb hn at_ ha 5 0 0 rfl (Int.le_refl 0) (Int.le_refl 0)

theorem impl_getText_ev (b : List Int) (hb : BytesIn b) (hn : b.length ≤ 281474976710656) (at_ : Int) (ha : at_ ≤ 9223372036854775807) : Ev (fun q => impl_GetText.f q b at_) (textR b at_) := by
  obtain ⟨K, h⟩ := impl_getNum_ev b hb (by omega) at_ ha
  dsimp only at h
  refine ⟨K, fun q hq => ?_⟩
  simp only [impl_GetText.f]
  rw [h q hq, Option.bind_some]
  unfold textR
  have hr := getR_range b hb at_ 5 0 0 (Int.le_refl 0) (Int.le_refl 0)
  generalize getR b at_ 5 0 0 = g at hr ⊢
  by_cases h1 : g.2.2 = true
  · obtain ⟨a1, a2, a3, a4, a5⟩ := hr h1
    rw [if_pos h1, if_pos h1, wrap_id (i := (b.length : Int) - g.2.1) (by omega) (by omega)]
    by_cases h2 : g.1 > (b.length : Int) - g.2.1
    · rw [if_pos h2, if_pos h2]
    · rw [if_neg h2, if_neg h2, wrap_id (i := g.2.1 + g.1) (by omega) (by omega), if_pos (by omega), if_pos (by omega), if_pos (by omega)]
  · rw [if_neg h1, if_neg h1]

theorem in_eq (a b c : Int) : impl_in.f a b c = some (decide (b ≤ a) && decide (a ≤ c)) := by
  unfold impl_in.f
  by_cases h : a ≥ b
  · rw [if_pos h, decide_eq_true (show b ≤ a from h), Bool.true_and]
  · rw [if_neg h, decide_eq_false (show ¬ b ≤ a from h), Bool.false_and]

theorem conv_some (s : ByteArray) (h : s.size ≤ 4611686018427387904) : mp_convB.f s = some (bytesOf s) := by
  unfold mp_convB.f
  rw [if_pos h]
theorem strOf_size (l : List Int) : (strOfNums l).size = l.length := by simp [strOfNums_size]
theorem textR_size (b : List Int) (i : Int) : (textR b i).1.size ≤ b.length := by
  unfold textR
  split
  · split
    · exact Nat.zero_le _
    · dsimp only
      rw [strOf_size, List.length_drop, List.length_take]
      omega
  · exact Nat.zero_le _
theorem or_i64 (m : Nat) {x y : Int} (hm : m ≤ 62) (h0 : 0 ≤ x) (h1 : x < 9223372036854775808) (hx : x % 2 ^ m = 0) (hy0 : 0 ≤ y) (hy : y < 2 ^ m) (hs : x + y < 9223372036854775808) : Go.bits .or .i64 x y = x + y :=
  bits_join .i64 63 (by decide) wraps_i64 m x y h0 hx (by omega) hy0 hy (by omega)
theorem wordAt_ev (b : List Int) (hb : BytesIn b) (i : Nat) (hi : i + 4 ≤ b.length) (hn : b.length ≤ 281474976710656) : impl_wordAt.f b (i : Int) = some (wordR b (i : Int)) := by
  have c0 := hb (i : Int)
  have c1 := hb ((i : Int) + 1)
  have c2 := hb ((i : Int) + 2)
  have c3 := hb ((i : Int) + 3)
  have w1 : wrap64 ((i : Int) + 1) = (i : Int) + 1 := wrap_id (by omega) (by omega)
  have w2 : wrap64 ((i : Int) + 2) = (i : Int) + 2 := wrap_id (by omega) (by omega)
  have w3 : wrap64 ((i : Int) + 3) = (i : Int) + 3 := wrap_id (by omega) (by omega)
  unfold impl_wordAt.f
  rw [w1, w2, w3, if_pos (by omega), if_pos (by omega), if_pos (by omega), if_pos (by omega), if_pos (by omega), if_pos (by omega), if_pos (by omega), if_pos (by omega)]
  unfold wordR
  generalize rd b (i : Int) = a0 at c0
  generalize rd b ((i : Int) + 1) = a1 at c1
  generalize rd b ((i : Int) + 2) = a2 at c2
  generalize rd b ((i : Int) + 3) = a3 at c3
  rw [wrap_id (i := a0) (by omega) (by omega), wrap_id (i := a1) (by omega) (by omega), wrap_id (i := a2) (by omega) (by omega), wrap_id (i := a3) (by omega) (by omega), wrap_id (i := a0 * 16777216) (by omega) (by omega), wrap_id (i := a1 * 65536) (by omega) (by omega), wrap_id (i := a2 * 256) (by omega) (by omega)]
  rw [or_i64 24 (x := a0 * 16777216) (y := a1 * 65536) (by omega) (by omega) (by omega) (by omega) (by omega) (by omega) (by omega), or_i64 16 (x := a0 * 16777216 + a1 * 65536) (y := a2 * 256) (by omega) (by omega) (by omega) (by omega) (by omega) (by omega) (by omega), or_i64 8 (x := a0 * 16777216 + a1 * 65536 + a2 * 256) (y := a3) (by omega) (by omega) (by omega) (by omega) (by omega) (by omega) (by omega)]
theorem implUnframe_ev (b : List Int) (hb : BytesIn b) (hn : b.length ≤ 281474976710000) (i : Nat) (hi : i ≤ 281474976710656) : Ev (fun k => impl_Unframe.f k b (i : Int)) (unframeR b (i : Int)) := by
  have hw : wrap64 ((b.length : Int) - 4) = (b.length : Int) - 4 := wrap_id (by omega) (by omega)
  have hw4 : wrap64 ((i : Int) + 4) = (i : Int) + 4 := wrap_id (by omega) (by omega)
  simp only [impl_Unframe.f, in_eq, hw, hw4, Option.bind_some]
  unfold unframeR
  by_cases hc : (0 : Int) ≤ (i : Int) ∧ (i : Int) ≤ (b.length : Int) - 4
  · rw [if_pos hc]
    have hd : (decide ((0 : Int) ≤ (i : Int)) && decide ((i : Int) ≤ (b.length : Int) - 4)) = true := by rw [decide_eq_true hc.1, decide_eq_true hc.2]; rfl
    have jt : Ev (fun k => impl_Unframe.j0 k (i : Int) (textR b ((i : Int) + 4)).1 (textR b ((i : Int) + 4)).2.1 true) ([], (i : Int), false) := Ev.ends (fun k => by simp only [impl_Unframe.j0]; rw [if_pos trivial])
    refine Ev.congr (f := fun k => (impl_GetText.f k b ((i : Int) + 4)).bind fun bt131 => (if bt131.2.2 = true then ((mp_convB.f bt131.1).bind fun t134 => ((impl_Sum.f k t134).bind fun t137 => ((impl_wordAt.f b (i : Int)).bind fun t138 => (impl_Unframe.j0 k (i : Int) bt131.1 bt131.2.1 (t137 != t138))))) else (impl_Unframe.j0 k (i : Int) bt131.1 bt131.2.1 true))) (fun k => by rw [if_pos hd]) ?_
    refine Ev.bind' (impl_getText_ev b hb (by omega) ((i : Int) + 4) (by omega)) ?_
    have hsz := textR_size b ((i : Int) + 4)
    generalize textR b ((i : Int) + 4) = t at jt hsz ⊢
    have hts : t.1.size ≤ 4611686018427387904 := by omega
    have hi4 : i + 4 ≤ b.length := by omega
    by_cases ht : t.2.2 = true
    · refine Ev.congr (f := fun k => (impl_Sum.f k (bytesOf t.1)).bind fun t137 => (impl_Unframe.j0 k (i : Int) t.1 t.2.1 (t137 != wordR b (i : Int)))) (fun k => by rw [if_pos ht, conv_some t.1 hts, Option.bind_some, wordAt_ev b hb i hi4 (by omega)]; rfl) ?_
      refine Ev.bind' (impl_sum_ev (bytesOf t.1) (bytesOf_in t.1) (by rw [bytesOf_length]; omega)) ?_
      by_cases hs : sumN (bytesOf t.1) = wordR b (i : Int)
      · rw [if_pos ⟨ht, hs⟩, hs, bne_self_eq_false]
        refine Ev.ends (fun k => ?_)
        simp only [impl_Unframe.j0]
        rw [if_neg (by decide), conv_some t.1 hts, Option.bind_some]
      · rw [if_neg (fun h => hs h.2), bne_iff_ne.2 hs]
        exact jt
    · rw [if_neg (fun h => ht h.1)]
      exact Ev.congr (fun k => by rw [if_neg ht]) jt
  · rw [if_neg hc]
    have hd : (decide ((0 : Int) ≤ (i : Int)) && decide ((i : Int) ≤ (b.length : Int) - 4)) = false := by
      rw [Bool.and_eq_false_iff]
      by_cases h : (0 : Int) ≤ (i : Int)
      · exact .inr (decide_eq_false (fun h2 => hc ⟨h, h2⟩))
      · exact .inl (decide_eq_false h)
    exact Ev.all (fun k => by rw [if_neg (by rw [hd]; decide)])

theorem frame_len {l : List Int} (h : l.length < 128) : (frameB l).length = l.length + 5 := by
  rw [frame_small h]
  unfold fourB
  simp
theorem frame_bytes {l : List Int} (hl : l.length < 128) (hb : ∀ x ∈ l, 0 ≤ x ∧ x ≤ 255) : ∀ x ∈ frameB l, 0 ≤ x ∧ x ≤ 255 := by
  rw [frame_small hl]
  unfold fourB
  intro x hx
  simp only [List.cons_append, List.nil_append, List.mem_cons] at hx
  rcases hx with rfl | rfl | rfl | rfl | rfl | hx
  · omega
  · omega
  · omega
  · omega
  · omega
  · exact hb x hx
theorem same_ev (l : List Int) (hl : l.length ≤ 1048576) : Ev (fun k => laws_sameBytes.f k l l) true := by
  refine Ev.congr (fun k => ?_) (scan_loop (fun i k => laws_sameBytes.l0 k l l (i : Int)) l.length true (fun i hi h => ?_) ?_)
  · simp only [laws_sameBytes.f]
    rw [if_pos trivial]
    rfl
  · refine Ev.step (fun k => ?_) h
    simp only [laws_sameBytes.l0]
    rw [if_pos (by omega), if_pos (by omega), if_pos (by omega), if_pos trivial, wrap_succ (n := l.length) hi (by omega)]
  · refine Ev.ends (fun k => ?_)
    simp only [laws_sameBytes.l0]
    rw [if_neg (by omega)]
theorem at_some (b : List Int) (hb : BytesIn b) (hn : b.length ≤ 1048576) (i : Nat) (hi : i ≤ 1000) : ∃ t, laws_at.f b (i : Int) = some t ∧ 0 ≤ t ∧ t ≤ 255 := by
  have c := hb (i : Int)
  unfold laws_at.f
  by_cases h : (i : Int) < (b.length : Int)
  · rw [if_pos h, if_pos (by omega), wrap_id (by omega) (by omega)]
    exact ⟨_, rfl, c.1, c.2⟩
  · rw [if_neg h]
    refine ⟨_, rfl, ?_⟩
    rw [wrap_id (i := (i : Int) * 31) (by omega) (by omega), wrap_id (i := (b.length : Int) * 7) (by omega) (by omega), wrap_id (by omega) (by omega), Int.tmod_eq_emod_of_nonneg (by omega)]
    omega
theorem l1Bytes_comes (b : List Int) (i x : Int) (n : Nat) (hb : b.length ≤ 1048576) (hi : At b i) (hn : n ≤ 100) : Comes (fun r => r.1.length = n ∧ ∀ y ∈ r.1, 0 ≤ y ∧ y ≤ 255) (fun k => spec_l1Bytes.f k b i x (n : Int)) := by
  have key : ∀ (d m : Nat) (i x : Int) (out : List Int), m + d = n → At b i → out.length = m → (∀ y ∈ out, 0 ≤ y ∧ y ≤ 255) → Comes (fun r => r.1.length = n ∧ ∀ y ∈ r.1, 0 ≤ y ∧ y ≤ 255) (fun k => spec_l1Bytes.l0 k (n : Int) out (m : Int) b i x) := by
    intro d
    induction d with
    | zero =>
      intro m i x out hm hi hl ho
      refine Comes.step (fun k => spec_l1Bytes.l0.eq_2 ..) ?_
      have e1 : ((m : Int) < (n : Int)) = False := eq_false (by omega)
      simp only [e1, if_false]
      exact Comes.ret _ ⟨by dsimp only; omega, ho⟩
    | succ d ih =>
      intro m i x out hm hi hl ho
      refine Comes.step (fun k => spec_l1Bytes.l0.eq_2 ..) ?_
      have e1 : ((m : Int) < (n : Int)) = True := eq_true (by omega)
      have e2 : (out.length < 140737488355328) = True := eq_true (by omega)
      have ew : wrap64 ((m : Int) + 1) = ((m + 1 : Nat) : Int) := wrap_succ (n := n) (by omega) (by omega)
      obtain ⟨v, j, y, e, v0, v1, hj⟩ := l1Byte_some b i x hb hi
      simp only [e1, e2, ew, e, if_true, Option.bind_some]
      refine ih (m + 1) j y _ (by omega) hj (by rw [List.length_append]; simp only [List.length_cons, List.length_nil]; omega) (fun z hz => ?_)
      rcases List.mem_append.1 hz with hz | hz
      · exact ho z hz
      · have : z = v % 256 := by simpa using hz
        omega
  simp only [spec_l1Bytes.f]
  exact key n 0 i x [] (by omega) hi rfl (by simp)
theorem frameDraw_comes (b : List Int) (hb : b.length ≤ 1048576) : Comes (fun r => r.length ≤ 9 ∧ ∀ y ∈ r, 0 ≤ y ∧ y ≤ 255) (fun k => spec_DrawFrame.f k b) := by
  simp only [spec_DrawFrame.f, spec_l1Some.f]
  refine Comes.bind (l1New_comes b hb) (fun n hn => ?_)
  obtain ⟨n1, n2, n3⟩ := n
  dsimp only at hn
  obtain ⟨rfl, rfl⟩ := hn
  obtain ⟨t, j, y, e, hm, hj⟩ := l1Int_some n1 0 n3 ([0, 1, 2, 5, 9] : List Int) hb ⟨by omega, by omega⟩ (by simp)
  simp only [e, Option.bind_some]
  have ht : 0 ≤ t ∧ t ≤ 9 := by
    simp only [List.mem_cons, List.not_mem_nil, or_false] at hm
    omega
  obtain ⟨q, rfl⟩ := Int.eq_ofNat_of_zero_le ht.1
  refine Comes.bind (Q := fun r => r.1.length ≤ 9 ∧ ∀ y ∈ r.1, 0 ≤ y ∧ y ≤ 255) (Comes.bind ((l1Bytes_comes n1 j y q hb hj (by omega)).mono (fun r hr => hr)) (fun r hr => Comes.ret _ ⟨by have := hr.1; dsimp only; omega, hr.2⟩)) (fun r hr => Comes.ret _ hr)
theorem ofInt8 (a : Nat) (ha : a < 256) : (BitVec.ofInt 8 (a : Int)).toNat = a := by
  rw [BitVec.ofInt_natCast, BitVec.toNat_ofNat]; exact Nat.mod_eq_of_lt (by omega)
theorem xor_u8 (a b : Nat) (ha : a < 256) (hb : b < 256) : Go.bits .xor .u8 (a : Int) (b : Int) = ((a ^^^ b : Nat) : Int) := by
  have hx : a ^^^ b < 2 ^ 8 := Nat.xor_lt_two_pow (by omega) (by omega)
  show IntKind.u8.wrap ((BitVec.ofInt 8 (a : Int) ^^^ BitVec.ofInt 8 (b : Int)).toNat : Int) = _
  rw [BitVec.toNat_xor, ofInt8 a ha, ofInt8 b hb, IntKind.wrap_u8]
  omega
theorem turn_bit (x m : Int) (h0 : 0 ≤ x) (h1 : x ≤ 255) (hm0 : 0 ≤ m) (hm : m ≤ 7) : 0 ≤ Go.bits .xor .u8 x (shl .u8 1 m) ∧ Go.bits .xor .u8 x (shl .u8 1 m) ≤ 255 ∧ x ≠ Go.bits .xor .u8 x (shl .u8 1 m) := by
  obtain ⟨a, rfl⟩ := Int.eq_ofNat_of_zero_le h0
  have key : ∀ p : Nat, 0 < p → p < 256 → shl .u8 1 m = (p : Int) → 0 ≤ Go.bits .xor .u8 (a : Int) (shl .u8 1 m) ∧ Go.bits .xor .u8 (a : Int) (shl .u8 1 m) ≤ 255 ∧ (a : Int) ≠ Go.bits .xor .u8 (a : Int) (shl .u8 1 m) := by
    intro p hp0 hp e
    rw [e, xor_u8 a p (by omega) hp]
    have hx : a ^^^ p < 2 ^ 8 := Nat.xor_lt_two_pow (by omega) (by omega)
    refine ⟨by omega, by omega, fun h => ?_⟩
    have h2 : a ^^^ p = a ^^^ 0 := by rw [Nat.xor_zero]; omega
    have := xor_cancel_left h2
    omega
  have hc : m = 0 ∨ m = 1 ∨ m = 2 ∨ m = 3 ∨ m = 4 ∨ m = 5 ∨ m = 6 ∨ m = 7 := by omega
  rcases hc with rfl | rfl | rfl | rfl | rfl | rfl | rfl | rfl
  · exact key 1 (by omega) (by omega) (by decide)
  · exact key 2 (by omega) (by omega) (by decide)
  · exact key 4 (by omega) (by omega) (by decide)
  · exact key 8 (by omega) (by omega) (by decide)
  · exact key 16 (by omega) (by omega) (by decide)
  · exact key 32 (by omega) (by omega) (by decide)
  · exact key 64 (by omega) (by omega) (by decide)
  · exact key 128 (by omega) (by omega) (by decide)
theorem records_two (l : List Int) (hl : l.length ≤ 9) (hb : ∀ x ∈ l, 0 ≤ x ∧ x ≤ 255) : Ev (fun k => impl_Records.f k (frameB l ++ frameB l)) ([l, l], (((frameB l).length + (frameB l).length : Nat) : Int)) := by
  have hF : (frameB l).length = l.length + 5 := frame_len (by omega)
  have hlen : (frameB l ++ frameB l).length = (frameB l).length + (frameB l).length := List.length_append
  have hB : BytesIn (frameB l ++ frameB l) := BytesIn.of_mem (fun x hx => (List.mem_append.1 hx).elim (frame_bytes (by omega) hb x) (frame_bytes (by omega) hb x))
  obtain ⟨K0, e0⟩ := implUnframe_ev (frameB l ++ frameB l) hB (by omega) 0 (by omega)
  obtain ⟨K1, e1⟩ := implUnframe_ev (frameB l ++ frameB l) hB (by omega) (frameB l).length (by omega)
  obtain ⟨K2, e2⟩ := implUnframe_ev (frameB l ++ frameB l) hB (by omega) ((frameB l).length + (frameB l).length) (by omega)
  have u0 : unframeR (frameB l ++ frameB l) ((0 : Nat) : Int) = (l, ((frameB l).length : Int), true) := by
    have := unframe_frame [] l (frameB l) 0 rfl (by omega) hb
    rw [List.nil_append] at this
    rw [show ((0 : Nat) : Int) = 0 from rfl, this, hF]
    congr 2
    omega
  have u1 : unframeR (frameB l ++ frameB l) ((frameB l).length : Int) = (l, (((frameB l).length + (frameB l).length : Nat) : Int), true) := by
    have := unframe_frame (frameB l) l [] ((frameB l).length : Int) rfl (by omega) hb
    rw [List.append_nil] at this
    rw [this]
    congr 2
    omega
  have u2 : unframeR (frameB l ++ frameB l) (((frameB l).length + (frameB l).length : Nat) : Int) = ([], (((frameB l).length + (frameB l).length : Nat) : Int), false) := by
    unfold unframeR
    rw [if_neg (by omega)]
  rw [u0] at e0
  rw [u1] at e1
  rw [u2] at e2
  dsimp only at e0 e1 e2
  have s2 : Ev (fun k => impl_Records.l0 k (frameB l ++ frameB l) [l, l] (((frameB l).length + (frameB l).length : Nat) : Int)) ([l, l], (((frameB l).length + (frameB l).length : Nat) : Int)) := by
    refine Ev.round (f := fun _ => some _) ⟨K2, fun k hk => ?_⟩ (Ev.now _)
    simp only [impl_Records.l0]
    rw [e2 k hk, Option.bind_some, if_neg (by simp)]
  have s1 : Ev (fun k => impl_Records.l0 k (frameB l ++ frameB l) [l] ((frameB l).length : Int)) ([l, l], (((frameB l).length + (frameB l).length : Nat) : Int)) := by
    refine Ev.round ⟨K1, fun k hk => ?_⟩ s2
    simp only [impl_Records.l0]
    rw [e1 k hk, Option.bind_some, if_pos rfl, if_pos (by simp)]
    rfl
  refine Ev.round (g := fun k => impl_Records.l0 k (frameB l ++ frameB l) [] 0) ⟨K0, fun k hk => ?_⟩ s1
  simp only [impl_Records.l0]
  rw [show impl_Unframe.f k (frameB l ++ frameB l) 0 = _ from e0 k hk, Option.bind_some, if_pos rfl, if_pos (by simp)]
  rfl
theorem frames_j1 (x0 l : List Int) (hx : BytesIn x0) (hxn : x0.length ≤ 1048576) (hl : l.length ≤ 9) (hb : ∀ x ∈ l, 0 ≤ x ∧ x ≤ 255) (q : Int) (hq0 : 0 ≤ q) (hq : q < 8 * ((frameB l).length : Int)) (h4 : q / 8 ≠ 4) : Comes (fun b => b = true) (fun k => laws_FnFrames.j1 k x0 l (frameB l) q) := by
  have hF : (frameB l).length = l.length + 5 := frame_len (by omega)
  have hfb := frame_bytes (l := l) (by omega) hb
  have hB : BytesIn (frameB l) := BytesIn.of_mem hfb
  obtain ⟨i, hi⟩ := Int.eq_ofNat_of_zero_le (show 0 ≤ q / 8 by omega)
  have hiF : i < (frameB l).length := by omega
  have hmod : 0 ≤ q % 8 ∧ q % 8 ≤ 7 := by omega
  have hxi := hfb _ (show (frameB l).getD i 0 ∈ frameB l by rw [List.getD_eq_getElem?_getD, List.getElem?_eq_getElem hiF]; exact List.getElem_mem _)
  obtain ⟨v0, v1, vne⟩ := turn_bit ((frameB l).getD i 0) (q % 8) hxi.1 hxi.2 hmod.1 hmod.2
  have ut := unframe_turned l (by omega) hb i _ hiF (by omega) v0 v1 vne
  obtain ⟨t, et, ht0, ht1⟩ := at_some x0 hx hxn 4 (by omega)
  have uc := unframe_cut l (by omega) (t % ((frameB l).length : Int)).toNat (by
    have := Int.emod_lt_of_pos t (show 0 < ((frameB l).length : Int) by omega)
    have := Int.emod_nonneg t (show ((frameB l).length : Int) ≠ 0 by omega)
    omega)
  have hBt : BytesIn ((frameB l).set i (Go.bits .xor .u8 ((frameB l).getD i 0) (shl .u8 1 (q % 8)))) := BytesIn.of_mem (fun y hy => by
    rcases List.mem_or_eq_of_mem_set hy with hy | rfl
    · exact hfb y hy
    · exact ⟨v0, v1⟩)
  have hBc : BytesIn ((frameB l).take (t % ((frameB l).length : Int)).toNat) := BytesIn.of_mem (fun y hy => hfb y (List.mem_of_mem_take hy))
  obtain ⟨K1, e1⟩ := implUnframe_ev _ hBt (by rw [List.length_set]; omega) 0 (by omega)
  obtain ⟨K2, e2⟩ := implUnframe_ev _ hBc (by rw [List.length_take]; omega) 0 (by omega)
  obtain ⟨K3, e3⟩ := records_two l hl hb
  obtain ⟨K4, e4⟩ := same_ev l (by omega)
  dsimp only at e1 e2 e3 e4
  refine ⟨true, rfl, Ev.round (f := fun _ => some true) ⟨K1 + K2 + K3 + K4, fun k hk => ?_⟩ (Ev.now true)⟩
  have hm0 := Int.emod_nonneg t (show ((frameB l).length : Int) ≠ 0 by omega)
  have hm1 := Int.emod_lt_of_pos t (show 0 < ((frameB l).length : Int) by omega)
  have hwd : wrap64 (Int.tdiv q 8) = (i : Int) := by rw [Int.tdiv_eq_ediv_of_nonneg hq0, hi, wrap_id (by omega) (by omega)]
  have hwm : IntKind.u64.wrap (Int.tmod q 8) = q % 8 := by rw [Int.tmod_eq_emod_of_nonneg hq0, IntKind.wrap_u64]; omega
  have htm : Int.tmod t ((frameB l).length : Int) = t % ((frameB l).length : Int) := Int.tmod_eq_emod_of_nonneg ht0
  have hw2 : wrap64 (2 * ((frameB l).length : Int)) = (((frameB l).length + (frameB l).length : Nat) : Int) := by rw [wrap_id (by omega) (by omega)]; omega
  simp only [laws_FnFrames.j1, Option.bind_some, List.nil_append, List.length_nil, Nat.zero_add, hwd, hwm, htm, hw2, rd_nat, Int.toNat_natCast]
  rw [if_pos (by omega), if_pos (by omega), if_pos (by omega), if_pos hmod.1, show impl_Unframe.f k ((frameB l).set i (Go.bits .xor .u8 ((frameB l).getD i 0) (shl .u8 1 (q % 8)))) 0 = _ from e1 k (by omega), Option.bind_some, show laws_at.f x0 4 = some t from et, Option.bind_some, if_neg (by omega), htm, if_pos hm0, if_pos (by omega), show impl_Unframe.f k ((frameB l).take (t % ((frameB l).length : Int)).toNat) 0 = _ from e2 k (by omega), Option.bind_some, if_pos (by omega), if_pos (by omega), e3 k (by omega), Option.bind_some]
  rw [show (unframeR ((frameB l).set i (Go.bits .xor .u8 ((frameB l).getD i 0) (shl .u8 1 (q % 8)))) ((0 : Nat) : Int)).2.2 = false from ut, if_neg (by decide), show (unframeR ((frameB l).take (t % ((frameB l).length : Int)).toNat) ((0 : Nat) : Int)).2.2 = false from uc, if_neg (by decide)]
  rw [if_pos (by rfl), if_pos rfl, if_pos (by simp), show rd_L2 [l, l] 1 = l from rfl, e4 k (by omega), Option.bind_some]
theorem FnFrames : laws_FnFrames.Pure := by
  intro b hb
  refine Comes.true_ ?_
  simp only [laws_FnFrames.f, laws_big.f, Option.bind_some]
  refine Comes.ite (fun _ => Comes.ret true rfl) (fun hn => ?_)
  have hlb : b.length ≤ 1048576 := by
    have : ¬ ((b.length : Int) > 1048576) := by simpa using hn
    omega
  have hB := bytesIn_of hb.2
  refine Comes.bind (frameDraw_comes b hlb) (fun l hl => ?_)
  obtain ⟨hl9, hlb2⟩ := hl
  have hF : (frameB l).length = l.length + 5 := frame_len (by omega)
  refine Comes.bind (Q := fun r => r = frameB l) ⟨_, rfl, impl_frame_ev l (BytesIn.of_mem hlb2) (by omega)⟩ (fun F hFe => ?_)
  subst hFe
  have hBf : BytesIn (frameB l ++ [7, 7]) := BytesIn.of_mem (fun x hx => by
    rcases List.mem_append.1 hx with hx | hx
    · exact frame_bytes (by omega) hlb2 x hx
    · simp only [List.mem_cons, List.not_mem_nil, or_false] at hx
      omega)
  simp only [List.nil_append, List.length_nil, Nat.zero_add, List.length_cons]
  have hc1 : ((frameB l).length < 140737488355328) = True := eq_true (by omega)
  have hc2 : ((frameB l).length + (1 + 1) < 140737488355328) = True := eq_true (by omega)
  simp only [hc1, hc2, if_true, Nat.reduceAdd]
  have u0 : unframeR (frameB l ++ [7, 7]) ((0 : Nat) : Int) = (l, ((frameB l).length : Int), true) := by
    have := unframe_frame [] l [7, 7] 0 rfl (by omega) hlb2
    rw [List.nil_append] at this
    rw [show ((0 : Nat) : Int) = 0 from rfl, this, hF]
    congr 2
    omega
  have ue := implUnframe_ev (frameB l ++ [7, 7]) hBf (by rw [List.length_append]; simp only [List.length_cons, List.length_nil]; omega) 0 (by omega)
  rw [u0] at ue
  refine Comes.bind (Q := fun r => r = (l, ((frameB l).length : Int), true)) ⟨_, rfl, ue⟩ (fun r hr => ?_)
  subst hr
  simp only [if_true]
  refine Comes.bind (Q := fun r => r = true) ⟨_, rfl, same_ev l (by omega)⟩ (fun r hr => ?_)
  subst hr
  simp only [if_true]
  rw [show decide (((frameB l).length : Int) < 5) = false from decide_eq_false (by omega)]
  refine Comes.step (fun k => laws_FnFrames.j0.eq_2 ..) ?_
  obtain ⟨t2, e2, a0, a1⟩ := at_some b hB hlb 2 (by omega)
  obtain ⟨t3, e3, b0, b1⟩ := at_some b hB hlb 3 (by omega)
  have w1 : wrap64 (8 * ((frameB l).length : Int)) = 8 * ((frameB l).length : Int) := wrap_id (by omega) (by omega)
  have w2 : wrap64 (wrap64 (t2 * 256) + t3) = t2 * 256 + t3 := by rw [wrap_id (i := t2 * 256) (by omega) (by omega), wrap_id (by omega) (by omega)]
  have m0 := Int.emod_nonneg (t2 * 256 + t3) (show (8 * ((frameB l).length : Int)) ≠ 0 by omega)
  have m1 := Int.emod_lt_of_pos (t2 * 256 + t3) (show 0 < 8 * ((frameB l).length : Int) by omega)
  have htm : Int.tmod (t2 * 256 + t3) (8 * ((frameB l).length : Int)) = (t2 * 256 + t3) % (8 * ((frameB l).length : Int)) := Int.tmod_eq_emod_of_nonneg (by omega)
  simp only [Bool.false_eq_true, if_false, show laws_at.f b 2 = some t2 from e2, show laws_at.f b 3 = some t3 from e3, Option.bind_some, w1, w2, htm]
  generalize (t2 * 256 + t3) % (8 * ((frameB l).length : Int)) = q at m0 m1
  have wq : wrap64 (Int.tdiv q 8) = q / 8 := by rw [Int.tdiv_eq_ediv_of_nonneg m0, wrap_id (by omega) (by omega)]
  have wq8 : q / 8 = 4 → wrap64 (q - 8) = q - 8 := fun _ => wrap_id (by omega) (by omega)
  have hc3 : ((8 * ((frameB l).length : Int)) = 0) = False := eq_false (by omega)
  simp only [wq, hc3, if_false]
  refine Comes.ite (fun h4 => ?_) (fun h4 => frames_j1 b l hB hlb hl9 hlb2 q m0 m1 h4)
  rw [wq8 h4]
  exact frames_j1 b l hB hlb hl9 hlb2 (q - 8) (by omega) (by omega) (by omega)

end Go.Proofs.Ytgncojbnejdplaa.MPureFnFrames
