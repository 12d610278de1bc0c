/- The tables that Overlap names, for a drawn manifest, level and two keys, are just those of the level whose range meets the two keys', in order. No condition. -/
import Derived.Test.YtgncojbnejdplaaMFnOverlapsDef
set_option linter.unusedVariables false
set_option linter.unusedSimpArgs false
namespace Go.Proofs.Ytgncojbnejdplaa.MPureFnOverlaps
open Go.RowKit Go.Proofs.Ytgncojbnejdplaa.MFnOverlaps Go.Proofs.YtgncojbnejdplaaW.PrintWords Go.Proofs.YtgncojbnejdplaaW.PrintLast Go.Proofs.YtgncojbnejdplaaW.PrintMore

theorem wrap_id {i : Int} (h0 : -9223372036854775808 ≤ i) (h1 : i ≤ 9223372036854775807) : wrap64 i = i := by unfold wrap64; omega
theorem wrap_succ {i n : Nat} (h : i < n) (hn : n ≤ 9223372036854775807) : wrap64 ((i : Int) + 1) = ((i + 1 : Nat) : Int) := by unfold wrap64; omega
theorem rd_nat (xs : List Int) (i : Nat) : rd xs (i : Int) = xs.getD i 0 := by simp [rd]
theorem take_set_succ {α : Type} (l : List α) (i : Nat) (x : α) (h : i < l.length) : (l.set i x).take (i + 1) = l.take i ++ [x] := by
  rw [List.take_succ_eq_append_getElem (by simpa using h), List.getElem_set_self, List.take_set_of_le (Nat.le_refl _)]
theorem take_succ_getD {α : Type} (l : List α) (i : Nat) (d : α) (h : i < l.length) : l.take (i + 1) = l.take i ++ [l.getD i d] := by
  rw [List.take_succ_eq_append_getElem h, List.getD_eq_getElem?_getD, List.getElem?_eq_getElem h]
  rfl
theorem take_all {α : Type} {l m : List α} {n : Nat} (h : l.take n = m) (hl : l.length = n) : l = m := by
  rw [← h, ← hl, List.take_length]
theorem wf_u8 {x : Int} (h : (Lit.int .u8 x).wf = true) : 0 ≤ x ∧ x ≤ 255 := by
  simp [Lit.wf, IntKind.min, IntKind.max, IntKind.signed, IntKind.bits] at h
  omega
theorem wf_i64 {x : Int} (h : (Lit.int .i64 x).wf = true) : -9223372036854775808 ≤ x ∧ x ≤ 9223372036854775807 := by
  simp [Lit.wf, IntKind.min, IntKind.max, IntKind.signed, IntKind.bits] at h
  omega

theorem fill_loop {β : Type} (L : Nat → List β → Int → Option (List β)) (n : Nat) (g : Nat → β) (z : β)
    (hs : ∀ (i : Nat) (out : List β) (r : List β), i < n → out.length = n → Ev (fun k => L k (out.set i (g i)) ((i + 1 : Nat) : Int)) r → Ev (fun k => L k out (i : Int)) r)
    (he : ∀ out : List β, out.length = n → Ev (fun k => L k out (n : Int)) out) : Ev (fun k => L k (List.replicate n z) 0) ((List.range n).map g) := by
  have key : ∀ (d i : Nat) (out : List β), i + d = n → out.length = n → out.take i = (List.range i).map g → Ev (fun k => L k out (i : Int)) ((List.range n).map g) := by
    intro d
    induction d with
    | zero =>
      intro i out hi hl ht
      have : i = n := by omega
      subst this
      have e := take_all ht hl
      rw [← e]
      exact he out hl
    | succ d ih =>
      intro i out hi hl ht
      refine hs i out _ (by omega) hl (ih (i + 1) _ (by omega) (by simp [hl]) ?_)
      rw [take_set_succ _ _ _ (by omega), ht, List.range_succ, List.map_append]
      rfl
  exact key n 0 _ (by omega) (by simp) (by simp)
/-- A row that is written from the left: element i becomes g i, and a state goes along. -/
theorem mark_loop {β σ : Type} (L : Nat → List β → σ → Int → Option (σ × List β)) (n : Nat) (g : Nat → β) (st : Nat → σ)
    (hs : ∀ (i : Nat) (out : List β) (r : σ × List β), i < n → out.length = n → Ev (fun k => L k (out.set i (g i)) (st (i + 1)) ((i + 1 : Nat) : Int)) r → Ev (fun k => L k out (st i) (i : Int)) r)
    (he : ∀ out : List β, out.length = n → Ev (fun k => L k out (st n) (n : Int)) (st n, out)) (l : List β) (hl : l.length = n) : Ev (fun k => L k l (st 0) 0) (st n, (List.range n).map g) := by
  have key : ∀ (d i : Nat) (out : List β), i + d = n → out.length = n → out.take i = (List.range i).map g → Ev (fun k => L k out (st i) (i : Int)) (st n, (List.range n).map g) := by
    intro d
    induction d with
    | zero =>
      intro i out hi hl ht
      have : i = n := by omega
      subst this
      have e := take_all ht hl
      rw [← e]
      exact he out hl
    | succ d ih =>
      intro i out hi hl ht
      refine hs i out _ (by omega) hl (ih (i + 1) _ (by omega) (by simp [hl]) ?_)
      rw [take_set_succ _ _ _ (by omega), ht, List.range_succ, List.map_append]
      rfl
  exact key n 0 _ (by omega) hl (by simp)
theorem scan_loop {ρ : Type} (g : Nat → Nat → Option ρ) (n : Nat) (r : ρ) (hs : ∀ i, i < n → Ev (g (i + 1)) r → Ev (g i) r) (he : Ev (g n) r) : Ev (g 0) r := by
  have key : ∀ (d i : Nat), i + d = n → Ev (g i) r := by
    intro d
    induction d with
    | zero => intro i hi; have : i = n := by omega
              subst this; exact he
    | succ d ih => intro i hi; exact hs i (by omega) (ih (i + 1) (by omega))
  exact key n 0 (by omega)
theorem range_map_get {α β : Type} (l : List α) (f : α → β) (d : α) : (List.range l.length).map (fun i => f (l.getD i d)) = l.map f := by
  apply List.ext_getElem?
  intro i
  rw [List.getElem?_map, List.getElem?_map]
  by_cases h : i < l.length
  · simp [h, List.getD_eq_getElem?_getD]
  · rw [List.getElem?_eq_none (by simp; omega), List.getElem?_eq_none (by omega)]
    rfl
theorem range_map_getD {β : Type} (n i : Nat) (g : Nat → β) (d : β) (h : i < n) : ((List.range n).map g).getD i d = g i := by
  simp [List.getD_eq_getElem?_getD, h]
theorem Ev.bind' {α β : Type} {g : Nat → Option α} {f : Nat → α → Option β} {a : α} {r : β} (h : Ev g a) (k : Ev (fun n => f n a) r) : Ev (fun n => (g n).bind (f n)) r := Ev.bind h k
theorem Ev.cond {α : Type} {g f : Nat → Option α} {r : α} (h : ∃ K, ∀ k, K ≤ k → g k = f k) (k : Ev f r) : Ev g r := by
  obtain ⟨K, h⟩ := h
  obtain ⟨K', k⟩ := k
  exact ⟨K + K', fun n hn => by rw [h n (by omega)]; exact k n (by omega)⟩
/-- One round: at n + 1 it is what it is at n of another. -/
theorem Ev.round {α : Type} {g f : Nat → Option α} {r : α} (h : ∃ K, ∀ k, K ≤ k → g (k + 1) = f k) (k : Ev f r) : Ev g r := by
  obtain ⟨K, h⟩ := h
  obtain ⟨K', k⟩ := k
  exact ⟨K + K' + 1, fun n hn => by
    obtain ⟨m, rfl⟩ : ∃ m, n = m + 1 := ⟨n - 1, by omega⟩
    rw [h m (by omega)]; exact k m (by omega)⟩
theorem Ev.ends {α : Type} {g : Nat → Option α} {r : α} (h : ∀ k, g (k + 1) = some r) : Ev g r := ⟨1, fun n hn => by
  obtain ⟨m, rfl⟩ : ∃ m, n = m + 1 := ⟨n - 1, by omega⟩
  exact h m⟩
theorem Ev.all {α : Type} {g : Nat → Option α} {r : α} (h : ∀ k, g k = some r) : Ev g r := ⟨0, fun n _ => h n⟩

/-- Both come to one answer, of which P holds. -/
def Both {α : Type} (P : α → Prop) (f g : Nat → Option α) : Prop := ∃ r, P r ∧ Ev f r ∧ Ev g r
namespace Both
variable {α β : Type} {P : α → Prop} {f f' g g' : Nat → Option α}
theorem step (h1 : ∀ k, f (k + 1) = f' k) (h2 : ∀ k, g (k + 1) = g' k) (h : Both P f' g') : Both P f g := by
  obtain ⟨r, hp, a, b⟩ := h
  exact ⟨r, hp, Ev.step h1 a, Ev.step h2 b⟩
theorem left (h1 : ∀ k, f (k + 1) = f' k) (h : Both P f' g) : Both P f g := by
  obtain ⟨r, hp, a, b⟩ := h
  exact ⟨r, hp, Ev.step h1 a, b⟩
theorem right (h2 : ∀ k, g (k + 1) = g' k) (h : Both P f g') : Both P f g := by
  obtain ⟨r, hp, a, b⟩ := h
  exact ⟨r, hp, a, Ev.step h2 b⟩
theorem ret (r : α) (h : P r) : Both P (fun _ => some r) (fun _ => some r) := ⟨r, h, Ev.now r, Ev.now r⟩
theorem ite {c : Prop} [Decidable c] (h1 : c → Both P f g) (h2 : ¬ c → Both P f' g') : Both P (fun k => if c then f k else f' k) (fun k => if c then g k else g' k) := by
  by_cases h : c
  · simpa only [if_pos h] using h1 h
  · simpa only [if_neg h] using h2 h
theorem bind {Q : β → Prop} {p q : Nat → Option β} {F G : Nat → β → Option α} (h : Both Q p q) (k : ∀ b, Q b → Both P (fun n => F n b) (fun n => G n b)) : Both P (fun n => (p n).bind (F n)) (fun n => (q n).bind (G n)) := by
  obtain ⟨b, hq, h1, h2⟩ := h
  obtain ⟨r, hp, a, c⟩ := k b hq
  exact ⟨r, hp, Ev.bind h1 a, Ev.bind h2 c⟩
theorem of {r : α} (h1 : Ev f r) (h2 : Ev g r) (hp : P r) : Both P f g := ⟨r, hp, h1, h2⟩
theorem eq {r : α} (h1 : Ev f r) (h2 : Ev g r) : Both (fun x => x = r) f g := ⟨r, rfl, h1, h2⟩
theorem any {Q : α → Prop} (h : Both Q f g) : Both (fun _ => True) f g := by
  obtain ⟨r, _, a, b⟩ := h
  exact ⟨r, trivial, a, b⟩
theorem mono {P' : α → Prop} (h : Both P f g) (hi : ∀ r, P r → P' r) : Both P' f g := by
  obtain ⟨r, hp, a, b⟩ := h
  exact ⟨r, hi r hp, a, b⟩
end Both
/-- It comes to an answer, of which P holds. -/
def Comes {α : Type} (P : α → Prop) (f : Nat → Option α) : Prop := ∃ r, P r ∧ Ev f r
namespace Comes
variable {α β : Type} {P : α → Prop} {f f' : Nat → Option α}
theorem step (h1 : ∀ k, f (k + 1) = f' k) (h : Comes P f') : Comes P f := by
  obtain ⟨r, hp, a⟩ := h
  exact ⟨r, hp, Ev.step h1 a⟩
theorem ret (r : α) (h : P r) : Comes P (fun _ => some r) := ⟨r, h, Ev.now r⟩
theorem ite {c : Prop} [Decidable c] (h1 : c → Comes P f) (h2 : ¬ c → Comes P f') : Comes P (fun k => if c then f k else f' k) := by
  by_cases h : c
  · simpa only [if_pos h] using h1 h
  · simpa only [if_neg h] using h2 h
theorem bind {Q : β → Prop} {p : Nat → Option β} {F : Nat → β → Option α} (h : Comes Q p) (k : ∀ b, Q b → Comes P (fun n => F n b)) : Comes P (fun n => (p n).bind (F n)) := by
  obtain ⟨b, hq, h1⟩ := h
  obtain ⟨r, hp, a⟩ := k b hq
  exact ⟨r, hp, Ev.bind h1 a⟩
theorem mono {P' : α → Prop} (h : Comes P f) (hi : ∀ r, P r → P' r) : Comes P' f := by
  obtain ⟨r, hp, a⟩ := h
  exact ⟨r, hi r hp, a⟩
theorem rounds (h : Comes P f) : ∃ k r, f k = some r ∧ P r := by
  obtain ⟨r, hp, a⟩ := h
  obtain ⟨k, hk⟩ := a.rounds
  exact ⟨k, r, hk, hp⟩
theorem true_ {f : Nat → Option Bool} (h : Comes (fun b => b = true) f) : ∃ k, f k = some true := by
  obtain ⟨k, r, hk, rfl⟩ := h.rounds
  exact ⟨k, hk⟩
theorem some_ (o : Option α) (r : α) (h : o = some r) (hp : P r) : Comes P (fun _ => o) := ⟨r, hp, Ev.all (fun _ => h)⟩
end Comes

theorem and255 (n : Int) : Go.bits .and .i64 n 255 = n % 256 := by
  have h255 : (BitVec.ofInt 64 255).toNat = 2 ^ 8 - 1 := by decide
  have key : (BitVec.ofInt 64 n &&& BitVec.ofInt 64 255).toNat = (n % ((2 ^ 64 : Nat) : Int)).toNat % 2 ^ 8 := by
    rw [BitVec.toNat_and, BitVec.toNat_ofInt, h255, Nat.and_two_pow_sub_one_eq_mod]
  show IntKind.i64.wrap ((BitVec.ofInt 64 n &&& BitVec.ofInt 64 255).toNat : Nat) = n % 256
  rw [key, IntKind.wrap_i64]
  omega
/-- A place in the drawn bytes. -/
def At (b : List Int) (i : Int) : Prop := 0 ≤ i ∧ i ≤ (b.length : Int)
theorem l1New_comes (b : List Int) (hb : b.length ≤ 1048576) : Comes (fun r => r.1 = b ∧ r.2.1 = 0) (fun k => spec_l1New.f k b) := by
  have key : ∀ (d i : Nat) (x : Int), i + d = b.length → Comes (fun r => r.1 = b ∧ r.2.1 = 0) (fun k => spec_l1New.l0 k b x (i : Int)) := by
    intro d
    induction d with
    | zero =>
      intro i x hi
      refine Comes.step (fun k => spec_l1New.l0.eq_2 ..) ?_
      have e1 : ((i : Int) < (b.length : Int)) = False := eq_false (by omega)
      simp only [e1, if_false]
      exact Comes.ret _ ⟨rfl, rfl⟩
    | succ d ih =>
      intro i x hi
      refine Comes.step (fun k => spec_l1New.l0.eq_2 ..) ?_
      have e1 : ((i : Int) < (b.length : Int)) = True := eq_true (by omega)
      have e2 : (0 ≤ (i : Int)) = True := eq_true (by omega)
      have ew : wrap64 ((i : Int) + 1) = ((i + 1 : Nat) : Int) := wrap_succ (n := b.length) (by omega) (by omega)
      simp only [e1, e2, if_true, ew]
      exact Comes.ite (fun _ => ih (i + 1) _ (by omega)) (fun _ => Comes.ret _ ⟨rfl, rfl⟩)
  exact key b.length 0 _ (by omega)
theorem l1Byte_some (b : List Int) (i x : Int) (hb : b.length ≤ 1048576) (hi : At b i) : ∃ v j y, spec_l1Byte.f b i x = some (v, j, y) ∧ 0 ≤ v ∧ v ≤ 255 ∧ At b j := by
  unfold At at hi ⊢
  simp only [spec_l1Byte.f, and255]
  by_cases h : i < (b.length : Int)
  · rw [if_pos h, if_pos hi.1, wrap_id (i := i + 1) (by omega) (by omega)]
    exact ⟨_, _, _, rfl, by omega, by omega, by omega⟩
  · rw [if_neg h]
    exact ⟨_, _, _, rfl, by omega, by omega, hi⟩
theorem l1Below_some (b : List Int) (i x n : Int) (hb : b.length ≤ 1048576) (hi : At b i) : ∃ v j y, spec_l1Below.f b i x n = some (v, j, y) ∧ 0 ≤ v ∧ (0 < n → v < n) ∧ (n ≤ 0 → v = 0) ∧ At b j := by
  simp only [spec_l1Below.f]
  by_cases h0 : n ≤ 0
  · rw [if_pos h0]
    exact ⟨_, _, _, rfl, by omega, by omega, fun _ => rfl, hi⟩
  · rw [if_neg h0]
    have hp : 0 < n := by omega
    have hn : ¬ n = 0 := by omega
    by_cases h1 : n ≤ 256
    · rw [if_pos h1]
      obtain ⟨v, j, y, e, v0, v1, hj⟩ := l1Byte_some b i x hb hi
      simp only [e, Option.bind_some]
      rw [if_neg hn, Int.tmod_eq_emod_of_nonneg v0]
      exact ⟨_, _, _, rfl, Int.emod_nonneg _ hn, fun _ => Int.emod_lt_of_pos _ hp, fun h => absurd h h0, hj⟩
    · rw [if_neg h1]
      obtain ⟨v, j, y, e, v0, v1, hj⟩ := l1Byte_some b i x hb hi
      obtain ⟨v', j', y', e', v0', v1', hj'⟩ := l1Byte_some b j y hb hj
      obtain ⟨v2, j2, y2, e2, v02, v12, hj2⟩ := l1Byte_some b j' y' hb hj'
      simp only [e, e', e2, Option.bind_some]
      rw [if_neg hn, wrap_id (i := v * 65536) (by omega) (by omega), wrap_id (i := v' * 256) (by omega) (by omega), wrap_id (i := v * 65536 + v' * 256) (by omega) (by omega), wrap_id (i := v * 65536 + v' * 256 + v2) (by omega) (by omega), Int.tmod_eq_emod_of_nonneg (by omega)]
      exact ⟨_, _, _, rfl, Int.emod_nonneg _ hn, fun _ => Int.emod_lt_of_pos _ hp, fun h => absurd h h0, hj2⟩

theorem l1Str_some (b : List Int) (i x : Int) (l : List ByteArray) (hb : b.length ≤ 1048576) (hi : At b i) (hl : 0 < l.length) : ∃ v j y, spec_l1Str.f b i x l = some (v, j, y) ∧ v ∈ l ∧ At b j := by
  obtain ⟨v, j, y, e, v0, v1, _, hj⟩ := l1Below_some b i x (l.length : Int) hb hi
  have v1 := v1 (by omega)
  simp only [spec_l1Str.f, e, Option.bind_some]
  rw [if_pos v0, if_pos v1]
  refine ⟨_, _, _, rfl, ?_, hj⟩
  unfold rdOf
  rw [List.getD_eq_getElem?_getD, List.getElem?_eq_getElem (show v.toNat < l.length by omega)]
  exact List.getElem_mem _
theorem l4Key_some (b : List Int) (i x : Int) (hb : b.length ≤ 1048576) (hi : At b i) : ∃ v j y, spec_l4Key.f b i x = some (v, j, y) ∧ At b j := by
  simp only [spec_l4Key.f]
  have key : ∀ l : List ByteArray, 0 < l.length → ∃ v j y, ((spec_l1Str.f b i x l).bind fun bt => some (bt.1, bt.2.1, bt.2.2)) = some (v, j, y) ∧ At b j := by
    intro l hl
    obtain ⟨v, j, y, e, _, hj⟩ := l1Str_some b i x l hb hi hl
    exact ⟨v, j, y, by rw [e, Option.bind_some], hj⟩
  exact key _ (Nat.succ_pos _)

theorem l1Int_some (b : List Int) (i x : Int) (l : List Int) (hb : b.length ≤ 1048576) (hi : At b i) (hl : 0 < l.length) : ∃ v j y, spec_l1Int.f b i x l = some (v, j, y) ∧ v ∈ l ∧ At b j := by
  obtain ⟨v, j, y, e, v0, v1, _, hj⟩ := l1Below_some b i x (l.length : Int) hb hi
  have v1 := v1 (by omega)
  simp only [spec_l1Int.f, e, Option.bind_some]
  rw [if_pos v0, if_pos v1]
  refine ⟨_, _, _, rfl, ?_, hj⟩
  unfold rd
  rw [List.getD_eq_getElem?_getD, List.getElem?_eq_getElem (show v.toNat < l.length by omega)]
  exact List.getElem_mem _

theorem l1In_eq (a b c : Int) : spec_l1In.f a b c = some (decide (b ≤ a) && decide (a ≤ c)) := by
  unfold spec_l1In.f
  by_cases h : a ≥ b
  · rw [if_pos h, decide_eq_true (show b ≤ a from h), Bool.true_and]
  · rw [if_neg h, decide_eq_false (show ¬ b ≤ a from h), Bool.false_and]

theorem ite_and (a b : Bool) : (if a = true then some b else some false) = some (a && b) := by cases a <;> rfl
theorem ite_some {c : Prop} [Decidable c] (a b : Bool) : (if c then some a else some b) = some (if c then a else b) := by split <;> rfl
theorem neq_self (b : Bool) : (if (b != b) = true then (some false : Option Bool) else some true) = some true := by cases b <;> rfl

theorem metaOk_some (a b : Int) (l : List S46) (c d : Int) (p q : ByteArray) : ∃ r, spec_l6Meta.f a b l c d p q = some r := by
  simp only [spec_l6Meta.f, spec_l6Key.f, l1In_eq, Option.bind_some]
  (repeat' split) <;> exact ⟨_, rfl⟩
theorem manOk_comes (xs : List S46) (hn : xs.length ≤ 1048576) (a b : Int) : Comes (fun _ => True) (fun k => spec_ManOk.f k a b xs) := by
  have l1 : ∀ (i : Nat), i ≤ xs.length → ∀ (m0 m1 : Int) (m2 m3 : ByteArray), Comes (fun _ => True) (fun k => spec_ManOk.l0 k (wrap64 ((i : Int) + 1)) a b xs) → ∀ (d j : Nat), j + d = i → Comes (fun _ => True) (fun k => spec_ManOk.l1 k (i : Int) (j : Int) a b xs m0 m1 m2 m3) := by
    intro i hi m0 m1 m2 m3 hc d
    induction d with
    | zero =>
      intro j hj
      refine Comes.step (fun k => spec_ManOk.l1.eq_2 ..) ?_
      have e1 : ((j : Int) < (i : Int)) = False := eq_false (by omega)
      simp only [e1, if_false]
      exact hc
    | succ d ih =>
      intro j hj
      refine Comes.step (fun k => spec_ManOk.l1.eq_2 ..) ?_
      have e1 : ((j : Int) < (i : Int)) = True := eq_true (by omega)
      have e3 : (0 ≤ (j : Int)) = True := eq_true (by omega)
      have e4 : ((j : Int) < (xs.length : Int)) = True := eq_true (by omega)
      have ew : wrap64 ((j : Int) + 1) = ((j + 1 : Nat) : Int) := wrap_succ (n := xs.length) (by omega) (by omega)
      have nx := ih (j + 1) (by omega)
      simp only [e1, e3, e4, if_true, ew]
      exact Comes.ite (fun _ => Comes.ite (fun _ => Comes.ite (fun _ => nx) (fun _ => Comes.ite (fun _ => nx) (fun _ => Comes.ret _ trivial))) (fun _ => nx)) (fun _ => nx)
  have l0 : ∀ (d i : Nat), i + d = xs.length → Comes (fun _ => True) (fun k => spec_ManOk.l0 k (i : Int) a b xs) := by
    intro d
    induction d with
    | zero =>
      intro i hi
      refine Comes.step (fun k => spec_ManOk.l0.eq_2 ..) ?_
      have e1 : ((i : Int) < (xs.length : Int)) = False := eq_false (by omega)
      simp only [e1, if_false]
      exact Comes.ret _ trivial
    | succ d ih =>
      intro i hi
      refine Comes.step (fun k => spec_ManOk.l0.eq_2 ..) ?_
      have e1 : ((i : Int) < (xs.length : Int)) = True := eq_true (by omega)
      have e2 : (0 ≤ (i : Int)) = True := eq_true (by omega)
      have ew : wrap64 ((i : Int) + 1) = ((i + 1 : Nat) : Int) := wrap_succ (n := xs.length) (by omega) (by omega)
      obtain ⟨t, ht⟩ := metaOk_some a b xs (rd_T46 xs (i : Int)).f0 (rd_T46 xs (i : Int)).f1 (rd_T46 xs (i : Int)).f2 (rd_T46 xs (i : Int)).f3
      simp only [e1, e2, if_true, ht, Option.bind_some]
      have join : ∀ (g : Bool) (m0 m1 : Int) (m2 m3 : ByteArray), Comes (fun _ => True) (fun k => spec_ManOk.j2 k (i : Int) g a b xs m0 m1 m2 m3) := by
        intro g m0 m1 m2 m3
        refine Comes.step (fun k => spec_ManOk.j2.eq_2 ..) ?_
        refine Comes.ite (fun _ => Comes.ret _ trivial) (fun _ => l1 i (by omega) m0 m1 m2 m3 ?_ i 0 (by omega))
        rw [ew]
        exact ih (i + 1) (by omega)
      refine Comes.ite (fun _ => Comes.ite (fun hp => ?_) (fun _ => join _ _ _ _ _)) (fun _ => join _ _ _ _ _)
      have ew2 : wrap64 ((i : Int) - 1) = (i : Int) - 1 := wrap_id (by omega) (by omega)
      have e3 : (0 ≤ (i : Int) - 1) = True := eq_true (by omega)
      have e4 : ((i : Int) - 1 < (xs.length : Int)) = True := eq_true (by omega)
      simp only [ew2, e3, e4, if_true]
      exact join _ _ _ _ _
  have j0 : ∀ g : Bool, Comes (fun _ => True) (fun k => spec_ManOk.j0 k g a b xs) := by
    intro g
    refine Comes.step (fun k => spec_ManOk.j0.eq_2 ..) ?_
    exact Comes.ite (fun _ => Comes.ret _ trivial) (fun _ => l0 xs.length 0 (by omega))
  simp only [spec_ManOk.f, l1In_eq, Option.bind_some]
  exact Comes.ite (fun _ => Comes.ite (fun _ => j0 _) (fun _ => j0 _)) (fun _ => j0 _)

theorem l6Draw_comes (b : List Int) (i x : Int) (hb : b.length ≤ 1048576) (hi : At b i) : Comes (fun r => r.2.2.1.length ≤ 6 ∧ At b r.2.2.2.1) (fun k => spec_l6Draw.f k b i x) := by
  have key : ∀ (d : Nat) (i x m n : Int) (xs : List S46), d ≤ 6 → At b i → xs.length + d ≤ 6 → Comes (fun r => r.2.2.1.length ≤ 6 ∧ At b r.2.2.2.1) (fun k => spec_l6Draw.l0 k (d : Int) b i x m n xs) := by
    intro d
    induction d with
    | zero =>
      intro i x m n xs hd hi hl
      refine Comes.step (fun k => spec_l6Draw.l0.eq_2 ..) ?_
      have e1 : (((0 : Nat) : Int) > 0) = False := eq_false (by omega)
      simp only [e1, if_false]
      exact Comes.ret _ ⟨by dsimp only; omega, hi⟩
    | succ d ih =>
      intro i x m n xs hd hi hl
      refine Comes.step (fun k => spec_l6Draw.l0.eq_2 ..) ?_
      have e1 : (((d + 1 : Nat) : Int) > 0) = True := eq_true (by omega)
      obtain ⟨s, j, y, e, hj⟩ := l4Key_some b i x hb hi
      obtain ⟨s', j', y', e', hj'⟩ := l4Key_some b j y hb hj
      simp only [e1, if_true, e, e', Option.bind_some]
      have join : ∀ (p q : ByteArray), Comes (fun r => r.2.2.1.length ≤ 6 ∧ At b r.2.2.2.1) (fun k => spec_l6Draw.j1 k ((d + 1 : Nat) : Int) p q b j' y' m n xs) := by
        intro p q
        refine Comes.step (fun k => spec_l6Draw.j1.eq_2 ..) ?_
        obtain ⟨v, j2, y2, e2, _, _, _, hj2⟩ := l1Below_some b j' y' 4 hb hj'
        have c1 : (([] : List S46).length + xs.length < 2932031007402) = True := eq_true (by simp only [List.length_nil]; omega)
        have ew : wrap64 (((d + 1 : Nat) : Int) - 1) = (d : Int) := (wrap_id (by omega) (by omega)).trans (by omega)
        simp only [Option.bind_some, c1, if_true, e2, List.nil_append, ew]
        have c2 : (xs.length + [(⟨m, v, p, q⟩ : S46)].length < 2932031007402) = True := eq_true (by simp only [List.length_cons, List.length_nil]; omega)
        simp only [c2, if_true]
        have zl : (xs ++ [(⟨m, v, p, q⟩ : S46)]).length = xs.length + 1 := by simp
        exact Comes.bind (manOk_comes _ (by omega) _ _) (fun t _ => Comes.ite (fun _ => ih _ _ _ _ _ (by omega) hj2 (by omega)) (fun _ => ih _ _ _ _ _ (by omega) hj2 (by omega)))
      exact Comes.ite (fun _ => join _ _) (fun _ => join _ _)
  simp only [spec_l6Draw.f]
  obtain ⟨v, j, y, e, v0, v1, _, hj⟩ := l1Below_some b i x 6 hb hi
  have v1 := v1 (by omega)
  simp only [e, Option.bind_some]
  obtain ⟨d, rfl⟩ := Int.eq_ofNat_of_zero_le v0
  exact key d j y 2 1 [] (by omega) hj (by simp only [List.length_nil]; omega)
theorem l6DrawAny_comes (b : List Int) (i x : Int) (hb : b.length ≤ 1048576) (hi : At b i) : Comes (fun r => r.2.2.1.length ≤ 7 ∧ At b r.2.2.2.1) (fun k => spec_l6DrawAny.f k b i x) := by
  simp only [spec_l6DrawAny.f]
  refine Comes.bind (l6Draw_comes b i x hb hi) (fun r hr => ?_)
  obtain ⟨v, j, y, e, _, _, _, hj⟩ := l1Below_some b r.2.2.2.1 r.2.2.2.2 10 hb hr.2
  simp only [e, Option.bind_some]
  refine Comes.ite (fun _ => ?_) (fun _ => Comes.ite (fun _ => ?_) (fun _ => Comes.ite (fun _ => ?_) (fun _ => Comes.ret _ ⟨by dsimp only; omega, hj⟩)))
  · obtain ⟨v2, j2, y2, e2, _, hj2⟩ := l1Int_some b j y ([0, 1, 100000, 100001] : List Int) hb hj (by simp)
    simp only [e2, Option.bind_some]
    exact Comes.ret _ ⟨by dsimp only; omega, hj2⟩
  · obtain ⟨v2, j2, y2, e2, _, hj2⟩ := l1Int_some b j y ([(-1), 0, r.1] : List Int) hb hj (by simp)
    simp only [e2, Option.bind_some]
    exact Comes.ret _ ⟨by dsimp only; omega, hj2⟩
  · obtain ⟨v2, j2, y2, e2, _, _, _, hj2⟩ := l1Below_some b j y 4 hb hj
    obtain ⟨v3, j3, y3, e3, _, _, _, hj3⟩ := l1Below_some b j2 y2 5 hb hj2
    obtain ⟨s4, j4, y4, e4, hj4⟩ := l4Key_some b j3 y3 hb hj3
    obtain ⟨s5, j5, y5, e5, hj5⟩ := l4Key_some b j4 y4 hb hj4
    have c : (r.2.2.1.length < 2932031007402) = True := eq_true (by omega)
    simp only [e2, e3, e4, e5, c, if_true, Option.bind_some]
    exact Comes.ret _ ⟨by simp only [List.length_append, List.length_cons, List.length_nil]; omega, hj5⟩
theorem drawOverlap_comes (b : List Int) (hb : b.length ≤ 1048576) : Comes (fun r => r.2.2.1.length ≤ 7) (fun k => spec_DrawOverlap.f k b) := by
  simp only [spec_DrawOverlap.f]
  refine Comes.bind (l1New_comes b hb) (fun n hn => ?_)
  obtain ⟨n1, n2, n3⟩ := n
  dsimp only at hn
  obtain ⟨rfl, rfl⟩ := hn
  refine Comes.bind (l6DrawAny_comes n1 0 n3 hb ⟨by omega, by omega⟩) (fun r hr => ?_)
  obtain ⟨v, j, y, e, _, _, _, hj⟩ := l1Below_some n1 r.2.2.2.1 r.2.2.2.2 4 hb hr.2
  obtain ⟨s4, j4, y4, e4, hj4⟩ := l4Key_some n1 j y hb hj
  obtain ⟨s5, j5, y5, e5, hj5⟩ := l4Key_some n1 j4 y4 hb hj4
  simp only [e, e4, e5, Option.bind_some]
  exact Comes.ret _ hr.1

theorem overlap_law (xs : List S46) (hn : xs.length ≤ 1048576) (c a b : Int) (p q : ByteArray) : ∃ r : List Int, Ev (fun k => impl_Overlap.f k a b xs c p q) r ∧ Ev (fun k => laws_FnOverlaps.l0 k c p q r 0 0 a b xs) true := by
  have key : ∀ (d i : Nat) (out : List Int), i + d = xs.length → out.length ≤ i → ∃ r : List Int, (∃ t, r = out ++ t ∧ r.length ≤ xs.length) ∧ Ev (fun k => impl_Overlap.l0 k c p q out xs (xs.length : Int) (i : Int)) r ∧ Ev (fun k => laws_FnOverlaps.l0 k c p q r (out.length : Int) (i : Int) a b xs) true := by
    intro d
    induction d with
    | zero =>
      intro i out hi ho
      refine ⟨out, ⟨[], by simp, by omega⟩, ?_, ?_⟩
      · refine Ev.ends (fun k => ?_)
        simp only [impl_Overlap.l0]
        rw [if_neg (by omega)]
      · refine Ev.ends (fun k => ?_)
        simp only [laws_FnOverlaps.l0]
        rw [if_neg (by omega)]
        simp
    | succ d ih =>
      intro i out hi ho
      have e1 : ((i : Int) < (xs.length : Int)) = True := eq_true (by omega)
      have e2 : (0 ≤ (i : Int)) = True := eq_true (by omega)
      have e3 : (out.length < 17592186044416) = True := eq_true (by omega)
      have ew : wrap64 ((i : Int) + 1) = ((i + 1 : Nat) : Int) := wrap_succ (n := xs.length) (by omega) (by omega)
      have eo : wrap64 ((out.length : Int) + 1) = ((out.length + 1 : Nat) : Int) := wrap_succ (n := xs.length) (by omega) (by omega)
      generalize hx : rd_T46 xs (i : Int) = x
      have skip : ∀ r : List Int, (∃ t, r = out ++ t ∧ r.length ≤ xs.length) → Ev (fun k => laws_FnOverlaps.l0 k c p q r (out.length : Int) ((i + 1 : Nat) : Int) a b xs) true → Ev (fun k => laws_FnOverlaps.j1 k c p q r (out.length : Int) (i : Int) false a b xs x.f0 x.f1 x.f2 x.f3) true := by
        intro r _ h
        refine Ev.step (fun k => ?_) h
        simp only [laws_FnOverlaps.j1, ew]
        rw [if_neg (by simp)]
      by_cases c1 : x.f1 = c
      · by_cases c2 : Op.bytesLess q.toList x.f2.toList = true
        · obtain ⟨r, h0, h1, h2⟩ := ih (i + 1) out (by omega) (by omega)
          refine ⟨r, h0, Ev.step (fun k => ?_) h1, Ev.step (fun k => ?_) (skip r h0 h2)⟩
          · simp only [impl_Overlap.l0, hx, e1, e2, ew, c1, c2, impl_meets.f, if_true, Option.bind_some, Bool.false_eq_true, if_false]
          · simp only [laws_FnOverlaps.l0, hx, e1, e2, c1, c2, if_true]
        · by_cases c3 : Op.bytesLess x.f3.toList p.toList = true
          · obtain ⟨r, h0, h1, h2⟩ := ih (i + 1) out (by omega) (by omega)
            have c2' := eq_false c2
            refine ⟨r, h0, Ev.step (fun k => ?_) h1, Ev.step (fun k => ?_) (skip r h0 h2)⟩
            · simp only [impl_Overlap.l0, hx, e1, e2, ew, c1, c2', c3, impl_meets.f, if_true, if_false, Option.bind_some, Bool.not_true, Bool.false_eq_true]
            · simp only [laws_FnOverlaps.l0, hx, e1, e2, c1, c2', c3, if_true, if_false, Bool.not_true]
          · obtain ⟨r, ⟨t, ht, hl⟩, h1, h2⟩ := ih (i + 1) (out ++ [x.f0]) (by omega) (by simp; omega)
            have c2' := eq_false c2
            have c3' := eq_false_of_ne_true c3
            have hr : r = out ++ (x.f0 :: t) := by rw [ht]; simp
            have hlr : r.length = out.length + (t.length + 1) := by rw [hr, List.length_append, List.length_cons]
            have hz : (out ++ [x.f0]).length = out.length + 1 := by simp
            rw [hz] at h2
            refine ⟨r, ⟨_, hr, hl⟩, Ev.step (fun k => ?_) h1, ?_⟩
            · simp only [impl_Overlap.l0, hx, e1, e2, e3, ew, c1, c2', c3', impl_meets.f, if_true, if_false, Option.bind_some, Bool.not_false]
            · have hj : Ev (fun k => laws_FnOverlaps.j1 k c p q r (out.length : Int) (i : Int) true a b xs x.f0 x.f1 x.f2 x.f3) true := by
                refine Ev.step (fun k => ?_) h2
                have q1 : ((out.length : Int) ≥ (r.length : Int)) = False := eq_false (by omega)
                have q2 : (0 ≤ (out.length : Int)) = True := eq_true (by omega)
                have q3 : ((out.length : Int) < (r.length : Int)) = True := eq_true (by omega)
                have q4 : rd r (out.length : Int) = x.f0 := by
                  rw [rd_nat, hr, List.getD_eq_getElem?_getD, List.getElem?_append_right (Nat.le_refl _), Nat.sub_self]
                  rfl
                simp only [laws_FnOverlaps.j1, q1, q2, q3, q4, eo, ew, if_true, if_false]
              refine Ev.step (fun k => ?_) hj
              simp only [laws_FnOverlaps.l0, hx, e1, e2, c1, c2', c3', if_true, if_false, Bool.not_false]
      · obtain ⟨r, h0, h1, h2⟩ := ih (i + 1) out (by omega) (by omega)
        have c1' := eq_false c1
        refine ⟨r, h0, Ev.step (fun k => ?_) h1, Ev.step (fun k => ?_) (skip r h0 h2)⟩
        · simp only [impl_Overlap.l0, hx, e1, e2, ew, c1', if_true, if_false]
        · simp only [laws_FnOverlaps.l0, hx, e1, e2, c1', if_true, if_false]
  obtain ⟨r, _, h1, h2⟩ := key xs.length 0 [] (by omega) (by simp)
  exact ⟨r, h1, h2⟩
theorem FnOverlaps : laws_FnOverlaps.Pure := by
  intro b hb
  refine Comes.true_ ?_
  simp only [laws_FnOverlaps.f, laws_big.f, Option.bind_some]
  refine Comes.ite (fun _ => Comes.ret true rfl) (fun hn => ?_)
  have hl : b.length ≤ 1048576 := by
    have : ¬ ((b.length : Int) > 1048576) := by simpa using hn
    omega
  refine Comes.bind (drawOverlap_comes b hl) (fun r hr => ?_)
  obtain ⟨s, h1, h2⟩ := overlap_law r.2.2.1 (by omega) r.2.2.2.1 r.1 r.2.1 r.2.2.2.2.1 r.2.2.2.2.2
  exact ⟨true, rfl, Ev.bind h1 h2⟩

end Go.Proofs.Ytgncojbnejdplaa.MPureFnOverlaps
