/- On the way to a key in a drawn table each leap goes farther right, to a lesser key; it ends at the last lesser one. No condition. -/
import Derived.Test.YtbepbgfkajnlbaaMFnLeapsDef
set_option linter.unusedVariables false
set_option linter.unusedSimpArgs false
namespace Go.Proofs.Ytbepbgfkajnlbaa.MPureFnLeaps
open Go.RowKit Go.Proofs.Ytbepbgfkajnlbaa.MFnLeaps Go.Proofs.YtbepbgfkajnlbaaW.PrintWords Go.Proofs.YtbepbgfkajnlbaaW.PrintLast Go.Proofs.YtbepbgfkajnlbaaW.PrintMore

theorem wrap_id {i : Int} (h0 : -9223372036854775808 ≤ i) (h1 : i ≤ 9223372036854775807) : wrap64 i = i := by unfold wrap64; omega
theorem wrap_succ {i n : Nat} (h : i < n) (hn : n ≤ 9223372036854775807) : wrap64 ((i : Int) + 1) = ((i + 1 : Nat) : Int) := by unfold wrap64; omega
theorem rd_nat (xs : List Int) (i : Nat) : rd xs (i : Int) = xs.getD i 0 := by simp [rd]
theorem take_set_succ {α : Type} (l : List α) (i : Nat) (x : α) (h : i < l.length) : (l.set i x).take (i + 1) = l.take i ++ [x] := by
  rw [List.take_succ_eq_append_getElem (by simpa using h), List.getElem_set_self, List.take_set_of_le (Nat.le_refl _)]
theorem take_succ_getD {α : Type} (l : List α) (i : Nat) (d : α) (h : i < l.length) : l.take (i + 1) = l.take i ++ [l.getD i d] := by
  rw [List.take_succ_eq_append_getElem h, List.getD_eq_getElem?_getD, List.getElem?_eq_getElem h]
  rfl
theorem take_all {α : Type} {l m : List α} {n : Nat} (h : l.take n = m) (hl : l.length = n) : l = m := by
  rw [← h, ← hl, List.take_length]
theorem wf_u8 {x : Int} (h : (Lit.int .u8 x).wf = true) : 0 ≤ x ∧ x ≤ 255 := by
  simp [Lit.wf, IntKind.min, IntKind.max, IntKind.signed, IntKind.bits] at h
  omega
theorem wf_i64 {x : Int} (h : (Lit.int .i64 x).wf = true) : -9223372036854775808 ≤ x ∧ x ≤ 9223372036854775807 := by
  simp [Lit.wf, IntKind.min, IntKind.max, IntKind.signed, IntKind.bits] at h
  omega

theorem fill_loop {β : Type} (L : Nat → List β → Int → Option (List β)) (n : Nat) (g : Nat → β) (z : β)
    (hs : ∀ (i : Nat) (out : List β) (r : List β), i < n → out.length = n → Ev (fun k => L k (out.set i (g i)) ((i + 1 : Nat) : Int)) r → Ev (fun k => L k out (i : Int)) r)
    (he : ∀ out : List β, out.length = n → Ev (fun k => L k out (n : Int)) out) : Ev (fun k => L k (List.replicate n z) 0) ((List.range n).map g) := by
  have key : ∀ (d i : Nat) (out : List β), i + d = n → out.length = n → out.take i = (List.range i).map g → Ev (fun k => L k out (i : Int)) ((List.range n).map g) := by
    intro d
    induction d with
    | zero =>
      intro i out hi hl ht
      have : i = n := by omega
      subst this
      have e := take_all ht hl
      rw [← e]
      exact he out hl
    | succ d ih =>
      intro i out hi hl ht
      refine hs i out _ (by omega) hl (ih (i + 1) _ (by omega) (by simp [hl]) ?_)
      rw [take_set_succ _ _ _ (by omega), ht, List.range_succ, List.map_append]
      rfl
  exact key n 0 _ (by omega) (by simp) (by simp)
/-- A row that is written from the left: element i becomes g i, and a state goes along. -/
theorem mark_loop {β σ : Type} (L : Nat → List β → σ → Int → Option (σ × List β)) (n : Nat) (g : Nat → β) (st : Nat → σ)
    (hs : ∀ (i : Nat) (out : List β) (r : σ × List β), i < n → out.length = n → Ev (fun k => L k (out.set i (g i)) (st (i + 1)) ((i + 1 : Nat) : Int)) r → Ev (fun k => L k out (st i) (i : Int)) r)
    (he : ∀ out : List β, out.length = n → Ev (fun k => L k out (st n) (n : Int)) (st n, out)) (l : List β) (hl : l.length = n) : Ev (fun k => L k l (st 0) 0) (st n, (List.range n).map g) := by
  have key : ∀ (d i : Nat) (out : List β), i + d = n → out.length = n → out.take i = (List.range i).map g → Ev (fun k => L k out (st i) (i : Int)) (st n, (List.range n).map g) := by
    intro d
    induction d with
    | zero =>
      intro i out hi hl ht
      have : i = n := by omega
      subst this
      have e := take_all ht hl
      rw [← e]
      exact he out hl
    | succ d ih =>
      intro i out hi hl ht
      refine hs i out _ (by omega) hl (ih (i + 1) _ (by omega) (by simp [hl]) ?_)
      rw [take_set_succ _ _ _ (by omega), ht, List.range_succ, List.map_append]
      rfl
  exact key n 0 _ (by omega) hl (by simp)
theorem scan_loop {ρ : Type} (g : Nat → Nat → Option ρ) (n : Nat) (r : ρ) (hs : ∀ i, i < n → Ev (g (i + 1)) r → Ev (g i) r) (he : Ev (g n) r) : Ev (g 0) r := by
  have key : ∀ (d i : Nat), i + d = n → Ev (g i) r := by
    intro d
    induction d with
    | zero => intro i hi; have : i = n := by omega
              subst this; exact he
    | succ d ih => intro i hi; exact hs i (by omega) (ih (i + 1) (by omega))
  exact key n 0 (by omega)
theorem range_map_get {α β : Type} (l : List α) (f : α → β) (d : α) : (List.range l.length).map (fun i => f (l.getD i d)) = l.map f := by
  apply List.ext_getElem?
  intro i
  rw [List.getElem?_map, List.getElem?_map]
  by_cases h : i < l.length
  · simp [h, List.getD_eq_getElem?_getD]
  · rw [List.getElem?_eq_none (by simp; omega), List.getElem?_eq_none (by omega)]
    rfl
theorem range_map_getD {β : Type} (n i : Nat) (g : Nat → β) (d : β) (h : i < n) : ((List.range n).map g).getD i d = g i := by
  simp [List.getD_eq_getElem?_getD, h]
theorem Ev.bind' {α β : Type} {g : Nat → Option α} {f : Nat → α → Option β} {a : α} {r : β} (h : Ev g a) (k : Ev (fun n => f n a) r) : Ev (fun n => (g n).bind (f n)) r := Ev.bind h k
theorem Ev.cond {α : Type} {g f : Nat → Option α} {r : α} (h : ∃ K, ∀ k, K ≤ k → g k = f k) (k : Ev f r) : Ev g r := by
  obtain ⟨K, h⟩ := h
  obtain ⟨K', k⟩ := k
  exact ⟨K + K', fun n hn => by rw [h n (by omega)]; exact k n (by omega)⟩
/-- One round: at n + 1 it is what it is at n of another. -/
theorem Ev.round {α : Type} {g f : Nat → Option α} {r : α} (h : ∃ K, ∀ k, K ≤ k → g (k + 1) = f k) (k : Ev f r) : Ev g r := by
  obtain ⟨K, h⟩ := h
  obtain ⟨K', k⟩ := k
  exact ⟨K + K' + 1, fun n hn => by
    obtain ⟨m, rfl⟩ : ∃ m, n = m + 1 := ⟨n - 1, by omega⟩
    rw [h m (by omega)]; exact k m (by omega)⟩
theorem Ev.ends {α : Type} {g : Nat → Option α} {r : α} (h : ∀ k, g (k + 1) = some r) : Ev g r := ⟨1, fun n hn => by
  obtain ⟨m, rfl⟩ : ∃ m, n = m + 1 := ⟨n - 1, by omega⟩
  exact h m⟩
theorem Ev.all {α : Type} {g : Nat → Option α} {r : α} (h : ∀ k, g k = some r) : Ev g r := ⟨0, fun n _ => h n⟩

/-- Both come to one answer, of which P holds. -/
def Both {α : Type} (P : α → Prop) (f g : Nat → Option α) : Prop := ∃ r, P r ∧ Ev f r ∧ Ev g r
namespace Both
variable {α β : Type} {P : α → Prop} {f f' g g' : Nat → Option α}
theorem step (h1 : ∀ k, f (k + 1) = f' k) (h2 : ∀ k, g (k + 1) = g' k) (h : Both P f' g') : Both P f g := by
  obtain ⟨r, hp, a, b⟩ := h
  exact ⟨r, hp, Ev.step h1 a, Ev.step h2 b⟩
theorem left (h1 : ∀ k, f (k + 1) = f' k) (h : Both P f' g) : Both P f g := by
  obtain ⟨r, hp, a, b⟩ := h
  exact ⟨r, hp, Ev.step h1 a, b⟩
theorem right (h2 : ∀ k, g (k + 1) = g' k) (h : Both P f g') : Both P f g := by
  obtain ⟨r, hp, a, b⟩ := h
  exact ⟨r, hp, a, Ev.step h2 b⟩
theorem ret (r : α) (h : P r) : Both P (fun _ => some r) (fun _ => some r) := ⟨r, h, Ev.now r, Ev.now r⟩
theorem ite {c : Prop} [Decidable c] (h1 : c → Both P f g) (h2 : ¬ c → Both P f' g') : Both P (fun k => if c then f k else f' k) (fun k => if c then g k else g' k) := by
  by_cases h : c
  · simpa only [if_pos h] using h1 h
  · simpa only [if_neg h] using h2 h
theorem bind {Q : β → Prop} {p q : Nat → Option β} {F G : Nat → β → Option α} (h : Both Q p q) (k : ∀ b, Q b → Both P (fun n => F n b) (fun n => G n b)) : Both P (fun n => (p n).bind (F n)) (fun n => (q n).bind (G n)) := by
  obtain ⟨b, hq, h1, h2⟩ := h
  obtain ⟨r, hp, a, c⟩ := k b hq
  exact ⟨r, hp, Ev.bind h1 a, Ev.bind h2 c⟩
theorem of {r : α} (h1 : Ev f r) (h2 : Ev g r) (hp : P r) : Both P f g := ⟨r, hp, h1, h2⟩
theorem eq {r : α} (h1 : Ev f r) (h2 : Ev g r) : Both (fun x => x = r) f g := ⟨r, rfl, h1, h2⟩
theorem any {Q : α → Prop} (h : Both Q f g) : Both (fun _ => True) f g := by
  obtain ⟨r, _, a, b⟩ := h
  exact ⟨r, trivial, a, b⟩
theorem mono {P' : α → Prop} (h : Both P f g) (hi : ∀ r, P r → P' r) : Both P' f g := by
  obtain ⟨r, hp, a, b⟩ := h
  exact ⟨r, hi r hp, a, b⟩
end Both
/-- It comes to an answer, of which P holds. -/
def Comes {α : Type} (P : α → Prop) (f : Nat → Option α) : Prop := ∃ r, P r ∧ Ev f r
namespace Comes
variable {α β : Type} {P : α → Prop} {f f' : Nat → Option α}
theorem step (h1 : ∀ k, f (k + 1) = f' k) (h : Comes P f') : Comes P f := by
  obtain ⟨r, hp, a⟩ := h
  exact ⟨r, hp, Ev.step h1 a⟩
theorem ret (r : α) (h : P r) : Comes P (fun _ => some r) := ⟨r, h, Ev.now r⟩
theorem ite {c : Prop} [Decidable c] (h1 : c → Comes P f) (h2 : ¬ c → Comes P f') : Comes P (fun k => if c then f k else f' k) := by
  by_cases h : c
  · simpa only [if_pos h] using h1 h
  · simpa only [if_neg h] using h2 h
theorem bind {Q : β → Prop} {p : Nat → Option β} {F : Nat → β → Option α} (h : Comes Q p) (k : ∀ b, Q b → Comes P (fun n => F n b)) : Comes P (fun n => (p n).bind (F n)) := by
  obtain ⟨b, hq, h1⟩ := h
  obtain ⟨r, hp, a⟩ := k b hq
  exact ⟨r, hp, Ev.bind h1 a⟩
theorem mono {P' : α → Prop} (h : Comes P f) (hi : ∀ r, P r → P' r) : Comes P' f := by
  obtain ⟨r, hp, a⟩ := h
  exact ⟨r, hi r hp, a⟩
theorem rounds (h : Comes P f) : ∃ k r, f k = some r ∧ P r := by
  obtain ⟨r, hp, a⟩ := h
  obtain ⟨k, hk⟩ := a.rounds
  exact ⟨k, r, hk, hp⟩
theorem true_ {f : Nat → Option Bool} (h : Comes (fun b => b = true) f) : ∃ k, f k = some true := by
  obtain ⟨k, r, hk, rfl⟩ := h.rounds
  exact ⟨k, hk⟩
theorem some_ (o : Option α) (r : α) (h : o = some r) (hp : P r) : Comes P (fun _ => o) := ⟨r, hp, Ev.all (fun _ => h)⟩
end Comes

theorem and255 (n : Int) : Go.bits .and .i64 n 255 = n % 256 := by
  have h255 : (BitVec.ofInt 64 255).toNat = 2 ^ 8 - 1 := by decide
  have key : (BitVec.ofInt 64 n &&& BitVec.ofInt 64 255).toNat = (n % ((2 ^ 64 : Nat) : Int)).toNat % 2 ^ 8 := by
    rw [BitVec.toNat_and, BitVec.toNat_ofInt, h255, Nat.and_two_pow_sub_one_eq_mod]
  show IntKind.i64.wrap ((BitVec.ofInt 64 n &&& BitVec.ofInt 64 255).toNat : Nat) = n % 256
  rw [key, IntKind.wrap_i64]
  omega
/-- A place in the drawn bytes. -/
def At (b : List Int) (i : Int) : Prop := 0 ≤ i ∧ i ≤ (b.length : Int)
theorem l1Byte_some (b : List Int) (i x : Int) (hb : b.length ≤ 1048576) (hi : At b i) : ∃ v j y, spec_l1Byte.f b i x = some (v, j, y) ∧ 0 ≤ v ∧ v ≤ 255 ∧ At b j := by
  unfold At at hi ⊢
  simp only [spec_l1Byte.f, and255]
  by_cases h : i < (b.length : Int)
  · rw [if_pos h, if_pos hi.1, wrap_id (i := i + 1) (by omega) (by omega)]
    exact ⟨_, _, _, rfl, by omega, by omega, by omega⟩
  · rw [if_neg h]
    exact ⟨_, _, _, rfl, by omega, by omega, hi⟩
theorem l1Below_some (b : List Int) (i x n : Int) (hb : b.length ≤ 1048576) (hi : At b i) : ∃ v j y, spec_l1Below.f b i x n = some (v, j, y) ∧ 0 ≤ v ∧ (0 < n → v < n) ∧ (n ≤ 0 → v = 0) ∧ At b j := by
  simp only [spec_l1Below.f]
  by_cases h0 : n ≤ 0
  · rw [if_pos h0]
    exact ⟨_, _, _, rfl, by omega, by omega, fun _ => rfl, hi⟩
  · rw [if_neg h0]
    have hp : 0 < n := by omega
    have hn : ¬ n = 0 := by omega
    by_cases h1 : n ≤ 256
    · rw [if_pos h1]
      obtain ⟨v, j, y, e, v0, v1, hj⟩ := l1Byte_some b i x hb hi
      simp only [e, Option.bind_some]
      rw [if_neg hn, Int.tmod_eq_emod_of_nonneg v0]
      exact ⟨_, _, _, rfl, Int.emod_nonneg _ hn, fun _ => Int.emod_lt_of_pos _ hp, fun h => absurd h h0, hj⟩
    · rw [if_neg h1]
      obtain ⟨v, j, y, e, v0, v1, hj⟩ := l1Byte_some b i x hb hi
      obtain ⟨v', j', y', e', v0', v1', hj'⟩ := l1Byte_some b j y hb hj
      obtain ⟨v2, j2, y2, e2, v02, v12, hj2⟩ := l1Byte_some b j' y' hb hj'
      simp only [e, e', e2, Option.bind_some]
      rw [if_neg hn, wrap_id (i := v * 65536) (by omega) (by omega), wrap_id (i := v' * 256) (by omega) (by omega), wrap_id (i := v * 65536 + v' * 256) (by omega) (by omega), wrap_id (i := v * 65536 + v' * 256 + v2) (by omega) (by omega), Int.tmod_eq_emod_of_nonneg (by omega)]
      exact ⟨_, _, _, rfl, Int.emod_nonneg _ hn, fun _ => Int.emod_lt_of_pos _ hp, fun h => absurd h h0, hj2⟩

theorem l1New_comes (b : List Int) (hb : b.length ≤ 1048576) : Comes (fun r => r.1 = b ∧ r.2.1 = 0) (fun k => spec_l1New.f k b) := by
  have key : ∀ (d i : Nat) (x : Int), i + d = b.length → Comes (fun r => r.1 = b ∧ r.2.1 = 0) (fun k => spec_l1New.l0 k b x (i : Int)) := by
    intro d
    induction d with
    | zero =>
      intro i x hi
      refine Comes.step (fun k => spec_l1New.l0.eq_2 ..) ?_
      have e1 : ((i : Int) < (b.length : Int)) = False := eq_false (by omega)
      simp only [e1, if_false]
      refine Comes.step (fun k => spec_l1New.j1.eq_2 ..) ?_
      simp only [Bool.false_eq_true, if_false]
      exact Comes.ret _ ⟨rfl, rfl⟩
    | succ d ih =>
      intro i x hi
      refine Comes.step (fun k => spec_l1New.l0.eq_2 ..) ?_
      have e1 : ((i : Int) < (b.length : Int)) = True := eq_true (by omega)
      have e2 : (0 ≤ (i : Int)) = True := eq_true (by omega)
      have ew : wrap64 ((i : Int) + 1) = ((i + 1 : Nat) : Int) := wrap_succ (n := b.length) (by omega) (by omega)
      simp only [e1, if_true]
      have join : ∀ q : Bool, Comes (fun r => r.1 = b ∧ r.2.1 = 0) (fun k => spec_l1New.j1 k b x (i : Int) q) := by
        intro q
        refine Comes.step (fun k => spec_l1New.j1.eq_2 ..) ?_
        simp only [e1, e2, if_true, ew]
        exact Comes.ite (fun _ => ih (i + 1) _ (by omega)) (fun _ => Comes.ret _ ⟨rfl, rfl⟩)
      exact join _
  exact key b.length 0 _ (by omega)

theorem l1In_eq (a b c : Int) : spec_l1In.f a b c = some (decide (b ≤ a) && decide (a ≤ c)) := by
  unfold spec_l1In.f
  by_cases h : a ≥ b
  · rw [if_pos h, decide_eq_true (show b ≤ a from h), Bool.true_and]
  · rw [if_neg h, decide_eq_false (show ¬ b ≤ a from h), Bool.false_and]

theorem in_eq (a b c : Int) : impl_in.f a b c = some (decide (b ≤ a) && decide (a ≤ c)) := by
  unfold impl_in.f
  by_cases h : a ≥ b
  · rw [if_pos h, decide_eq_true (show b ≤ a from h), Bool.true_and]
  · rw [if_neg h, decide_eq_false (show ¬ b ≤ a from h), Bool.false_and]

theorem ite_and (a b : Bool) : (if a = true then some b else some false) = some (a && b) := by cases a <;> rfl
theorem ite_some {c : Prop} [Decidable c] (a b : Bool) : (if c then some a else some b) = some (if c then a else b) := by split <;> rfl
theorem neq_self (b : Bool) : (if (b != b) = true then (some false : Option Bool) else some true) = some true := by cases b <;> rfl

theorem pairOk_eq (a b : ByteArray) (c : Bool) : impl_PairOk.f a b c = spec_PairOk.f a b c := by
  simp only [impl_PairOk.f, spec_PairOk.f, impl_keyOk.f, in_eq, l1In_eq, Option.bind_some]
theorem pairOk_some (a b : ByteArray) (c : Bool) : ∃ r, spec_PairOk.f a b c = some r := by
  simp only [spec_PairOk.f, l1In_eq, Option.bind_some]
  (repeat' split) <;> exact ⟨_, rfl⟩

/-- What MemOk says of a table. -/
def pokR (a b : ByteArray) (c : Bool) : Bool := if (decide (1 ≤ (a.size : Int)) && decide ((a.size : Int) ≤ 20)) = true then (if (b.size : Int) ≤ 20 then (if c = true then (b.toList == ([] : List UInt8)) else true) else false) else false
theorem pokR_eq (a b : ByteArray) (c : Bool) : spec_PairOk.f a b c = some (pokR a b c) := by
  simp only [spec_PairOk.f, l1In_eq, Option.bind_some, pokR]
  (repeat' split) <;> rfl
theorem pokR_eq' (a b : ByteArray) (c : Bool) : impl_PairOk.f a b c = some (pokR a b c) := by rw [pairOk_eq, pokR_eq]
def nodeAt (xs : List S35) (i : Nat) : S35 := xs.getD i z35
theorem rd_node (xs : List S35) (i : Nat) : rd_T35 xs (i : Int) = nodeAt xs i := by simp only [rd_T35, Int.toNat_natCast, nodeAt]
theorem rd_node_pred (xs : List S35) (i : Nat) (h : 0 < i) : rd_T35 xs ((i : Int) - 1) = nodeAt xs (i - 1) := by
  have e : (i : Int) - 1 = ((i - 1 : Nat) : Int) := by omega
  rw [e, rd_node]
structure NodeGood (xs : List S35) (i : Nat) : Prop where
  pair : pokR (nodeAt xs i).f0.f0 (nodeAt xs i).f0.f1 (nodeAt xs i).f0.f2 = true
  low : 1 ≤ (nodeAt xs i).f1
  high : (nodeAt xs i).f1 ≤ 4
  less : 0 < i → Op.bytesLess (nodeAt xs (i - 1)).f0.f0.toList (nodeAt xs i).f0.f0.toList = true
structure MemGood (xs : List S35) : Prop where
  size : xs.length ≤ 60
  node : ∀ i, i < xs.length → NodeGood xs i
theorem impl_memOk_true (xs : List S35) (h : MemGood xs) : Ev (fun k => impl_MemOk.f k xs) true := by
  have hs := h.size
  have key : ∀ (d i : Nat), i + d = xs.length → Ev (fun k => impl_MemOk.l0 k xs (xs.length : Int) (i : Int) xs) true := by
    intro d
    induction d with
    | zero =>
      intro i hi
      refine Ev.ends (fun k => ?_)
      simp only [impl_MemOk.l0]
      rw [if_neg (by omega), decide_eq_true (by omega)]
    | succ d ih =>
      intro i hi
      have g := h.node i (by omega)
      have e1 : ((i : Int) < (xs.length : Int)) = True := eq_true (by omega)
      have e2 : (0 ≤ (i : Int)) = True := eq_true (by omega)
      have ew : wrap64 ((i : Int) + 1) = ((i + 1 : Nat) : Int) := wrap_succ (n := xs.length) (by omega) (by omega)
      have e5 : (decide (1 ≤ (nodeAt xs i).f1) && decide ((nodeAt xs i).f1 ≤ 4)) = true := by simp [g.low, g.high]
      have j1 : Ev (fun k => impl_MemOk.j1 k xs (xs.length : Int) (i : Int) false xs) true := by
        refine Ev.step (fun k => ?_) (ih (i + 1) (by omega))
        simp only [impl_MemOk.j1, ew, Bool.false_eq_true, if_false]
      refine Ev.step (fun k => ?_) j1
      simp only [impl_MemOk.l0, e1, e2, if_true, pokR_eq', in_eq, Option.bind_some, rd_node, g.pair, e5]
      by_cases hp : (i : Int) > 0
      · have ew2 : wrap64 ((i : Int) - 1) = (i : Int) - 1 := wrap_id (by omega) (by omega)
        have e3 : (0 ≤ (i : Int) - 1) = True := eq_true (by omega)
        have e4 : ((i : Int) - 1 < (xs.length : Int)) = True := eq_true (by omega)
        have ep : ((i : Int) > 0) = True := eq_true hp
        simp only [ep, ew2, e3, e4, if_true, rd_node_pred xs i (by omega), g.less (by omega), Bool.not_true]
      · rw [if_neg hp]
  exact key xs.length 0 (by omega)
/-- MemOk of the reference comes to an answer; where it is true, the table is good. -/
theorem spec_memOk_says (xs : List S35) (hn : xs.length ≤ 1048576) : Both (fun r => r = true → MemGood xs) (fun k => spec_MemOk.f k xs) (fun k => impl_MemOk.f k xs) := by
  have key : ∀ (d i : Nat), i + d = xs.length → (∀ j, j < i → NodeGood xs j) → Both (fun r => r = true → MemGood xs) (fun k => spec_MemOk.l0 k (i : Int) xs) (fun k => impl_MemOk.l0 k xs (xs.length : Int) (i : Int) xs) := by
    intro d
    induction d with
    | zero =>
      intro i hi hg
      refine Both.step (fun k => spec_MemOk.l0.eq_2 ..) (fun k => impl_MemOk.l0.eq_2 ..) ?_
      have e1 : ((i : Int) < (xs.length : Int)) = False := eq_false (by omega)
      simp only [e1, if_false]
      exact Both.ret _ (fun h => ⟨by have h := of_decide_eq_true h; omega, fun j hj => hg j (by omega)⟩)
    | succ d ih =>
      intro i hi hg
      refine Both.step (fun k => spec_MemOk.l0.eq_2 ..) (fun k => impl_MemOk.l0.eq_2 ..) ?_
      have e1 : ((i : Int) < (xs.length : Int)) = True := eq_true (by omega)
      have e2 : (0 ≤ (i : Int)) = True := eq_true (by omega)
      have ew : wrap64 ((i : Int) + 1) = ((i + 1 : Nat) : Int) := wrap_succ (n := xs.length) (by omega) (by omega)
      have join : ∀ q : Bool, (q = false → NodeGood xs i) → Both (fun r => r = true → MemGood xs) (fun k => spec_MemOk.j1 k (i : Int) q xs) (fun k => impl_MemOk.j1 k xs (xs.length : Int) (i : Int) q xs) := by
        intro q hq
        refine Both.step (fun k => spec_MemOk.j1.eq_2 ..) (fun k => impl_MemOk.j1.eq_2 ..) ?_
        simp only [ew]
        refine Both.ite (fun _ => Both.ret _ (fun h => by simp at h)) (fun hf => ih (i + 1) (by omega) (fun j hj => ?_))
        by_cases he : j = i
        · subst he; exact hq (eq_false_of_ne_true hf)
        · exact hg j (by omega)
      simp only [e1, e2, if_true, pokR_eq, pokR_eq', in_eq, l1In_eq, Option.bind_some, rd_node]
      refine Both.ite (fun c1 => Both.ite (fun c2 => Both.ite (fun hp => ?_) (fun hp => ?_)) (fun _ => join true (by simp))) (fun _ => join true (by simp))
      · have ew2 : wrap64 ((i : Int) - 1) = (i : Int) - 1 := wrap_id (by omega) (by omega)
        have e3 : (0 ≤ (i : Int) - 1) = True := eq_true (by omega)
        have e4 : ((i : Int) - 1 < (xs.length : Int)) = True := eq_true (by omega)
        simp only [ew2, e3, e4, if_true, rd_node_pred xs i (by omega)]
        rw [Bool.and_eq_true, decide_eq_true_eq, decide_eq_true_eq] at c2
        exact join _ (fun c3 => ⟨c1, c2.1, c2.2, fun _ => by simpa using c3⟩)
      · rw [Bool.and_eq_true, decide_eq_true_eq, decide_eq_true_eq] at c2
        exact join _ (fun _ => ⟨c1, c2.1, c2.2, fun h => by omega⟩)
  exact key xs.length 0 (by omega) (fun j hj => by omega)

/-- MemPut of the reference: how long its answer is. -/
theorem specPut_comes (xs : List S35) (hn : xs.length ≤ 1048576) (p v : ByteArray) (g : Bool) (h : Int) : Comes (fun r => r.1.length ≤ xs.length + 1) (fun k => spec_MemPut.f k xs p v g h) := by
  have j0t : Comes (fun r : List S35 × Bool => r.1.length ≤ xs.length + 1) (fun k => spec_MemPut.j0 k h true p v g xs) := by
    refine Comes.step (fun k => spec_MemPut.j0.eq_2 ..) ?_
    simp only [if_true]
    exact Comes.ret _ (Nat.le_succ _)
  have j3 : ∀ (i : Nat) (b : Bool), i ≤ xs.length → (b = true → i < xs.length) → Comes (fun r : List S35 × Bool => r.1.length ≤ xs.length + 1) (fun k => spec_MemPut.j3 k h (i : Int) b p v g xs) := by
    intro i b hi hb
    refine Comes.step (fun k => spec_MemPut.j3.eq_2 ..) ?_
    have e2 : (0 ≤ (i : Int)) = True := eq_true (by omega)
    cases b with
    | true =>
      have e1 : ((i : Int) < (xs.length : Int)) = True := eq_true (by have := hb rfl; omega)
      simp only [e1, e2, if_true]
      exact Comes.ret _ (by simp only [List.length_set]; omega)
    | false =>
      have e3 : ((i : Int) ≤ (xs.length : Int)) = True := eq_true (by omega)
      have lt : (xs.take i).length = i := by rw [List.length_take]; omega
      have ld : (xs.drop i).length = xs.length - i := List.length_drop
      simp only [Bool.false_eq_true, if_false, e2, e3, if_true, Option.bind_some, Int.toNat_natCast, List.nil_append, List.length_nil, Nat.zero_add, lt]
      refine Comes.ite (fun _ => Comes.ret _ (Nat.le_succ _)) (fun _ => ?_)
      have c1 : (i < 2932031007402) = True := eq_true (by omega)
      have c2 : ((xs.take i ++ [(⟨(⟨p, v, g⟩ : S33), h⟩ : S35)]).length + (xs.drop i).length < 2932031007402) = True := eq_true (by rw [List.length_append]; simp only [List.length_cons, List.length_nil]; omega)
      simp only [c1, c2, if_true]
      exact Comes.ret _ (by simp only [List.length_append, List.length_cons, List.length_nil, lt, ld]; omega)
  have l0 : ∀ (d i : Nat), i + d = xs.length → Comes (fun r : List S35 × Bool => r.1.length ≤ xs.length + 1) (fun k => spec_MemPut.l0 k h (i : Int) p v g xs) := by
    have j2f : ∀ (i : Nat), i ≤ xs.length → Comes (fun r : List S35 × Bool => r.1.length ≤ xs.length + 1) (fun k => spec_MemPut.j2 k h (i : Int) false p v g xs) := by
      intro i hi
      refine Comes.step (fun k => spec_MemPut.j2.eq_2 ..) ?_
      have e2 : (0 ≤ (i : Int)) = True := eq_true (by omega)
      simp only [Bool.false_eq_true, if_false, e2, if_true]
      exact Comes.ite (fun hl => j3 i _ hi (fun _ => by omega)) (fun _ => j3 i false hi (fun h => by simp at h))
    intro d
    induction d with
    | zero =>
      intro i hi
      refine Comes.step (fun k => spec_MemPut.l0.eq_2 ..) ?_
      have e1 : ((i : Int) < (xs.length : Int)) = False := eq_false (by omega)
      simp only [e1, if_false]
      exact j2f i (by omega)
    | succ d ih =>
      intro i hi
      refine Comes.step (fun k => spec_MemPut.l0.eq_2 ..) ?_
      have e1 : ((i : Int) < (xs.length : Int)) = True := eq_true (by omega)
      have e2 : (0 ≤ (i : Int)) = True := eq_true (by omega)
      simp only [e1, e2, if_true]
      cases hb : Op.bytesLess (((rd_T35 xs (i : Int)).f0.f0).toList) p.toList with
      | false => exact j2f i (by omega)
      | true =>
        refine Comes.step (fun k => spec_MemPut.j2.eq_2 ..) ?_
        have ew : wrap64 ((i : Int) + 1) = ((i + 1 : Nat) : Int) := wrap_succ (n := xs.length) (by omega) (by omega)
        simp only [if_true, ew]
        exact ih (i + 1) (by omega)
  have j0 : ∀ b : Bool, Comes (fun r : List S35 × Bool => r.1.length ≤ xs.length + 1) (fun k => spec_MemPut.j0 k h b p v g xs) := by
    intro b
    cases b with
    | true => exact j0t
    | false =>
      refine Comes.step (fun k => spec_MemPut.j0.eq_2 ..) ?_
      simp only [Bool.false_eq_true, if_false]
      exact l0 xs.length 0 (by omega)
  obtain ⟨ok, _, h1, _⟩ := spec_memOk_says xs hn
  have c1 : (xs.length < 2932031007402) = True := eq_true (by omega)
  simp only [spec_MemPut.f, Option.bind_some, List.nil_append, List.length_nil, Nat.zero_add, c1, if_true, pokR_eq, l1In_eq]
  refine Comes.bind (Q := fun r => r = ok) ⟨ok, rfl, h1⟩ (fun q hq => ?_)
  exact Comes.ite (fun _ => Comes.ite (fun _ => j0 _) (fun _ => j0t)) (fun _ => j0t)

theorem l1Str_some (b : List Int) (i x : Int) (l : List ByteArray) (hb : b.length ≤ 1048576) (hi : At b i) (hl : 0 < l.length) : ∃ v j y, spec_l1Str.f b i x l = some (v, j, y) ∧ v ∈ l ∧ At b j := by
  obtain ⟨v, j, y, e, v0, v1, _, hj⟩ := l1Below_some b i x (l.length : Int) hb hi
  have v1 := v1 (by omega)
  simp only [spec_l1Str.f, e, Option.bind_some]
  rw [if_pos v0, if_pos v1]
  refine ⟨_, _, _, rfl, ?_, hj⟩
  unfold rdOf
  rw [List.getD_eq_getElem?_getD, List.getElem?_eq_getElem (show v.toNat < l.length by omega)]
  exact List.getElem_mem _
theorem l4Key_some (b : List Int) (i x : Int) (hb : b.length ≤ 1048576) (hi : At b i) : ∃ v j y, spec_l4Key.f b i x = some (v, j, y) ∧ At b j := by
  simp only [spec_l4Key.f]
  have key : ∀ l : List ByteArray, 0 < l.length → ∃ v j y, ((spec_l1Str.f b i x l).bind fun bt => some (bt.1, bt.2.1, bt.2.2)) = some (v, j, y) ∧ At b j := by
    intro l hl
    obtain ⟨v, j, y, e, _, hj⟩ := l1Str_some b i x l hb hi hl
    exact ⟨v, j, y, by rw [e, Option.bind_some], hj⟩
  exact key _ (Nat.succ_pos _)

theorem l1Once_some (b : List Int) (i x n : Int) (hb : b.length ≤ 1048576) (hi : At b i) : ∃ v j y, spec_l1Once.f b i x n = some (v, j, y) ∧ At b j := by
  obtain ⟨v, j, y, e, _, _, _, hj⟩ := l1Below_some b i x n hb hi
  simp only [spec_l1Once.f, e, Option.bind_some]
  exact ⟨_, _, _, rfl, hj⟩
theorem l4Pair_some (b : List Int) (i x : Int) (hb : b.length ≤ 1048576) (hi : At b i) : ∃ p v g j y, spec_l4Pair.f b i x = some (p, v, g, j, y) ∧ At b j := by
  obtain ⟨s, j, y, e, hj⟩ := l4Key_some b i x hb hi
  obtain ⟨o, j2, y2, e2, hj2⟩ := l1Once_some b j y 5 hb hj
  simp only [spec_l4Pair.f, e, e2, Option.bind_some]
  by_cases ho : o = true
  · rw [if_pos ho]
    exact ⟨_, _, _, _, _, rfl, hj2⟩
  · rw [if_neg ho]
    have key : ∀ l : List ByteArray, 0 < l.length → ∃ p v g j y, ((spec_l1Str.f b j2 y2 l).bind fun bt149 => (some (s, bt149.1, o, bt149.2.1, bt149.2.2))) = some (p, v, g, j, y) ∧ At b j := by
      intro l hl
      obtain ⟨v, j3, y3, e3, _, hj3⟩ := l1Str_some b j2 y2 l hb hj2 hl
      exact ⟨_, _, _, _, _, by rw [e3, Option.bind_some], hj3⟩
    exact key _ (Nat.succ_pos _)
theorem l4PairAny_some (b : List Int) (i x : Int) (hb : b.length ≤ 1048576) (hi : At b i) : ∃ p v g j y, spec_l4PairAny.f b i x = some (p, v, g, j, y) ∧ At b j := by
  obtain ⟨p, v, g, j, y, e, hj⟩ := l4Pair_some b i x hb hi
  obtain ⟨o, j2, y2, e2, _, _, _, hj2⟩ := l1Below_some b j y 14 hb hj
  simp only [spec_l4PairAny.f, e, e2, Option.bind_some]
  by_cases h0 : o = 0
  · rw [if_pos h0]
    have key : ∀ l : List ByteArray, 0 < l.length → ∃ p' v' g' j y, ((spec_l1Str.f b j2 y2 l).bind fun bt165 => (some (bt165.1, v, g, bt165.2.1, bt165.2.2))) = some (p', v', g', j, y) ∧ At b j := by
      intro l hl
      obtain ⟨w, j3, y3, e3, _, hj3⟩ := l1Str_some b j2 y2 l hb hj2 hl
      exact ⟨_, _, _, _, _, by rw [e3, Option.bind_some], hj3⟩
    exact key _ (Nat.succ_pos _)
  · rw [if_neg h0]
    (repeat' split) <;> exact ⟨_, _, _, _, _, rfl, hj2⟩

theorem l4Draw_comes (b : List Int) (i x n : Int) (hb : b.length ≤ 1048576) (hi : At b i) (hn : n ≤ 1000) : Comes (fun r => r.1.length ≤ 1000 ∧ At b r.2.1) (fun k => spec_l4Draw.f k b i x n) := by
  have key : ∀ (d : Nat) (i x : Int) (xs : List S35), d ≤ 1000 → At b i → xs.length + d ≤ 1000 → Comes (fun r => r.1.length ≤ 1000 ∧ At b r.2.1) (fun k => spec_l4Draw.l0 k (d : Int) b i x xs) := by
    intro d
    induction d with
    | zero =>
      intro i x xs hd hi hl
      refine Comes.step (fun k => spec_l4Draw.l0.eq_2 ..) ?_
      have e1 : (((0 : Nat) : Int) > 0) = False := eq_false (by omega)
      simp only [e1, if_false]
      exact Comes.ret _ ⟨by dsimp only; omega, hi⟩
    | succ d ih =>
      intro i x xs hd hi hl
      refine Comes.step (fun k => spec_l4Draw.l0.eq_2 ..) ?_
      have e1 : (((d + 1 : Nat) : Int) > 0) = True := eq_true (by omega)
      have ew : wrap64 (((d + 1 : Nat) : Int) - 1) = (d : Int) := (wrap_id (by omega) (by omega)).trans (by omega)
      obtain ⟨p, v, g, j, y, e, hj⟩ := l4Pair_some b i x hb hi
      obtain ⟨t, j2, y2, e2, _, _, _, hj2⟩ := l1Below_some b j y 4 hb hj
      simp only [e1, if_true, e, e2, ew, Option.bind_some]
      exact Comes.bind (specPut_comes xs (by omega) p v g (wrap64 (1 + t))) (fun q hq => ih _ _ _ (by omega) hj2 (by omega))
  simp only [spec_l4Draw.f]
  obtain ⟨v, j, y, e, v0, v1, v2, hj⟩ := l1Below_some b i x n hb hi
  simp only [e, Option.bind_some]
  obtain ⟨d, rfl⟩ := Int.eq_ofNat_of_zero_le v0
  have hd : d ≤ 1000 := by
    by_cases h0 : 0 < n
    · have := v1 h0; omega
    · have := v2 (by omega); omega
  exact key d j y [] hd hj (by simp only [List.length_nil]; omega)
theorem l4DrawAny_comes (b : List Int) (i x n : Int) (hb : b.length ≤ 1048576) (hi : At b i) (hn : n ≤ 1000) : Comes (fun r => r.1.length ≤ 1001 ∧ At b r.2.1) (fun k => spec_l4DrawAny.f k b i x n) := by
  simp only [spec_l4DrawAny.f]
  refine Comes.bind (l4Draw_comes b i x n hb hi hn) (fun r hr => ?_)
  obtain ⟨v, j, y, e, _, _, _, hj⟩ := l1Below_some b r.2.1 r.2.2 12 hb hr.2
  obtain ⟨p, w, g, j2, y2, e2, hj2⟩ := l4PairAny_some b j y hb hj
  obtain ⟨t, j3, y3, e3, _, _, _, hj3⟩ := l1Below_some b j2 y2 6 hb hj2
  have c : (r.1.length < 2932031007402) = True := eq_true (by omega)
  simp only [e, e2, e3, c, if_true, Option.bind_some]
  exact Comes.ite (fun _ => Comes.ret _ ⟨by simp only [List.length_append, List.length_cons, List.length_nil]; omega, hj3⟩) (fun _ => Comes.ret _ ⟨by dsimp only; omega, hj⟩)

theorem bl_total : ∀ a b : List UInt8, (Op.bytesLess a b || a == b) = !(Op.bytesLess b a)
  | [], [] => rfl
  | [], _ :: _ => rfl
  | _ :: _, [] => rfl
  | a :: x, b :: y => by
    have ih := bl_total x y
    simp only [Op.bytesLess]
    by_cases h1 : a < b
    · have h2 : ¬ b < a := fun h => by simp only [UInt8.lt_iff_toNat_lt] at h1 h; omega
      have h3 : ¬ (b = a) := fun h => by subst h; simp only [UInt8.lt_iff_toNat_lt] at h1; omega
      simp [h1, h2, h3]
    · by_cases h2 : b < a
      · have h3 : ¬ (a = b) := fun h => by subst h; simp only [UInt8.lt_iff_toNat_lt] at h2; omega
        simp [h1, h2, h3]
      · have h3 : a = b := by
          apply UInt8.toNat_inj.1
          simp only [UInt8.lt_iff_toNat_lt] at h1 h2
          omega
        subst h3
        simpa using ih
theorem bl_irrefl (a : List UInt8) : Op.bytesLess a a = false := by
  have h := bl_total a a
  simp at h
  cases hq : Op.bytesLess a a with
  | false => rfl
  | true => rw [hq] at h; simp at h
theorem bl_ne {a b : List UInt8} (h : Op.bytesLess a b = true) : a ≠ b := fun e => by subst e; rw [bl_irrefl] at h; simp at h
theorem bl_of {a b : List UInt8} (h : Op.bytesLess a b = false) (hne : a ≠ b) : Op.bytesLess b a = true := by
  have t := bl_total a b
  rw [h, beq_eq_false_iff_ne.2 hne] at t
  simpa using t.symm
theorem bl_trans : ∀ {a b c : List UInt8}, Op.bytesLess a b = true → Op.bytesLess b c = true → Op.bytesLess a c = true
  | _, _, [], _, h2 => by rename_i a b _; cases b <;> simp [Op.bytesLess] at h2
  | [], _, _ :: _, _, _ => rfl
  | a :: x, [], c :: z, h1, _ => by simp [Op.bytesLess] at h1
  | a :: x, b :: y, c :: z, h1, h2 => by
    have ih := @bl_trans x y z
    simp only [Op.bytesLess] at h1 h2 ⊢
    by_cases h3 : a < b
    · by_cases h4 : b < c
      · have : a < c := by simp only [UInt8.lt_iff_toNat_lt] at *; omega
        simp [this]
      · by_cases h5 : b = c
        · subst h5; simp [h3]
        · simp [h4, h5] at h2
    · by_cases h5 : a = b
      · subst h5
        by_cases h4 : a < c
        · simp [h4]
        · by_cases h6 : a = c
          · subst h6; simp [h3] at h1 h2 ⊢; exact ih h1 h2
          · simp [h4, h6] at h2
      · simp [h3, h5] at h1

def twr (xs : List S35) (i : Nat) : Int := (rd_T35 xs (i : Int)).f1
def lessK (xs : List S35) (key : ByteArray) (i : Nat) : Bool := Op.bytesLess (((rd_T35 xs (i : Int)).f0.f0).toList) key.toList
/-- The next one that is so high, from i on; d are left. -/
def nxtR (xs : List S35) (h : Int) : Nat → Nat → Nat
  | 0, i => i
  | d + 1, i => if twr xs i < h then nxtR xs h d (i + 1) else i
/-- The leaps on one height. -/
def levelR (xs : List S35) (key : ByteArray) (h : Int) : Nat → List Int → Nat → Nat → List Int × Nat
  | 0, out, a, _ => (out, a)
  | d + 1, out, a, i => if twr xs i < h then levelR xs key h d out a (i + 1) else if lessK xs key i = true then levelR xs key h d (out ++ [(i : Int)]) (i + 1) (i + 1) else (out, a)
def leapsR (xs : List S35) (key : ByteArray) : Nat → List Int → Nat → List Int
  | 0, out, _ => out
  | h + 1, out, a => leapsR xs key h (levelR xs key ((h : Int) + 1) (xs.length - a) out a a).1 (levelR xs key ((h : Int) + 1) (xs.length - a) out a a).2
theorem levelR_small (xs : List S35) (key : ByteArray) (h : Int) : ∀ (d : Nat) (out : List Int) (a i : Nat), i + d = xs.length → a ≤ xs.length → (levelR xs key h d out a i).1.length ≤ out.length + d ∧ (levelR xs key h d out a i).2 ≤ xs.length := by
  intro d
  induction d with
  | zero => intro out a i _ ha; exact ⟨by simp [levelR], ha⟩
  | succ d ih =>
    intro out a i hi ha
    unfold levelR
    split
    · have := ih out a (i + 1) (by omega) ha
      exact ⟨by omega, this.2⟩
    · split
      · have := ih (out ++ [(i : Int)]) (i + 1) (i + 1) (by omega) (by omega)
        rw [List.length_append] at this
        simp only [List.length_cons, List.length_nil] at this
        exact ⟨by omega, this.2⟩
      · exact ⟨Nat.le_add_right _ _, ha⟩
theorem leapsR_length (xs : List S35) (key : ByteArray) : ∀ (h : Nat) (out : List Int) (a : Nat), a ≤ xs.length → (leapsR xs key h out a).length ≤ out.length + h * xs.length := by
  intro h
  induction h with
  | zero => intro out a _; simp [leapsR]
  | succ h ih =>
    intro out a ha
    unfold leapsR
    have h1 := levelR_small xs key ((h : Int) + 1) (xs.length - a) out a a (by omega) ha
    have h2 := ih (levelR xs key ((h : Int) + 1) (xs.length - a) out a a).1 _ h1.2
    rw [Nat.succ_mul]
    omega
theorem next_ev (xs : List S35) (hn : xs.length ≤ 1048576) (h : Int) (at_ : Int) (i : Nat) (hi : i ≤ xs.length) (hat : wrap64 (at_ + 1) = (i : Int)) : Ev (fun k => impl_Mem_next.f k xs at_ h) ((nxtR xs h (xs.length - i) i : Nat) : Int) := by
  have key : ∀ (d i : Nat), i + d = xs.length → Ev (fun k => impl_Mem_next.l0 k (i : Int) h xs) ((nxtR xs h d i : Nat) : Int) := by
    intro d
    induction d with
    | zero =>
      intro i hi
      refine Ev.step (f := fun k => impl_Mem_next.j1 k (i : Int) h false xs) (fun k => ?_) (Ev.ends (fun k => ?_))
      · simp only [impl_Mem_next.l0]
        rw [if_neg (by omega)]
      · simp only [impl_Mem_next.j1]
        rw [if_neg (by decide)]
        rfl
    | succ d ih =>
      intro i hi
      unfold nxtR
      refine Ev.step (f := fun k => impl_Mem_next.j1 k (i : Int) h (decide (twr xs i < h)) xs) (fun k => ?_) ?_
      · simp only [impl_Mem_next.l0]
        rw [if_pos (by omega), if_pos (by omega)]
        rfl
      · by_cases ht : twr xs i < h
        · rw [if_pos ht, decide_eq_true ht]
          refine Ev.step (fun k => ?_) (ih (i + 1) (by omega))
          simp only [impl_Mem_next.j1]
          rw [if_pos trivial, wrap_succ (n := xs.length) (by omega) (by omega)]
        · rw [if_neg ht, decide_eq_false ht]
          refine Ev.ends (fun k => ?_)
          simp only [impl_Mem_next.j1]
          rw [if_neg (by decide)]
  have h := key (xs.length - i) i (by omega)
  simp only [impl_Mem_next.f, hat]
  exact h
theorem implLevel (xs : List S35) (hn : xs.length ≤ 1048576) (key : ByteArray) (h : Int) (r : List Int) : ∀ (d i a : Nat) (out : List Int), i + d = xs.length → out.length + d ≤ 8796093022208 →
    Ev (fun k => impl_Leaps.l0 k key (levelR xs key h d out a i).1 (((levelR xs key h d out a i).2 : Int) - 1) (wrap64 (h - 1)) xs) r → Ev (fun k => impl_Leaps.l1 k key out ((a : Int) - 1) h ((nxtR xs h d i : Nat) : Int) xs) r := by
  intro d
  induction d with
  | zero =>
    intro i a out hi _ hr
    rw [show nxtR xs h 0 i = i from rfl]
    refine Ev.step (f := fun k => impl_Leaps.j2 k key out ((a : Int) - 1) h (i : Int) false xs) (fun k => ?_) (Ev.step (fun k => ?_) hr)
    · simp only [impl_Leaps.l1]
      rw [if_neg (by omega)]
    · simp only [impl_Leaps.j2]
      rw [if_neg (by decide)]
      rfl
  | succ d ih =>
    intro i a out hi hb hr
    unfold levelR at hr
    unfold nxtR
    by_cases ht : twr xs i < h
    · rw [if_pos ht] at hr ⊢
      exact ih (i + 1) a out (by omega) (by omega) hr
    · rw [if_neg ht] at hr ⊢
      refine Ev.step (f := fun k => impl_Leaps.j2 k key out ((a : Int) - 1) h (i : Int) (lessK xs key i) xs) (fun k => ?_) ?_
      · simp only [impl_Leaps.l1]
        rw [if_pos (by omega), if_pos (by omega)]
        rfl
      · cases hk : lessK xs key i
        · rw [hk, if_neg (by decide)] at hr
          refine Ev.step (fun k => ?_) hr
          simp only [impl_Leaps.j2]
          rw [if_neg (by decide)]
        · rw [hk, if_pos rfl] at hr
          obtain ⟨K, e⟩ := next_ev xs hn h (i : Int) (i + 1) (by omega) (wrap_succ (n := xs.length) (by omega) (by omega))
          rw [show xs.length - (i + 1) = d from by omega] at e
          dsimp only at e
          have nx := ih (i + 1) (i + 1) (out ++ [(i : Int)]) (by omega) (by rw [List.length_append]; simp only [List.length_cons, List.length_nil]; omega) hr
          rw [show (((i + 1 : Nat) : Int) - 1) = (i : Int) from by omega] at nx
          refine Ev.round ⟨K, fun k hk => ?_⟩ nx
          simp only [impl_Leaps.j2]
          rw [if_pos trivial, if_pos (by omega), e k hk, Option.bind_some]
theorem implLeaps_l0 (xs : List S35) (hn : xs.length ≤ 1048576) (key : ByteArray) : ∀ (h : Nat) (out : List Int) (a : Nat), h ≤ 4 → a ≤ xs.length → out.length + h * xs.length ≤ 8796093022208 → Ev (fun k => impl_Leaps.l0 k key out ((a : Int) - 1) (h : Int) xs) (leapsR xs key h out a) := by
  intro h
  induction h with
  | zero =>
    intro out a _ _ _
    refine Ev.ends (fun k => ?_)
    simp only [impl_Leaps.l0]
    rw [if_neg (by omega)]
    rfl
  | succ h ih =>
    intro out a h4 ha hb
    rw [Nat.succ_mul] at hb
    have hs := levelR_small xs key ((h : Int) + 1) (xs.length - a) out a a (by omega) ha
    have nx := ih (levelR xs key ((h : Int) + 1) (xs.length - a) out a a).1 (levelR xs key ((h : Int) + 1) (xs.length - a) out a a).2 (by omega) hs.2 (by omega)
    have e1 : ((h + 1 : Nat) : Int) = (h : Int) + 1 := by omega
    rw [e1]
    unfold leapsR
    obtain ⟨K, e⟩ := next_ev xs hn ((h : Int) + 1) ((a : Int) - 1) a ha (by rw [wrap_id (by omega) (by omega)]; omega)
    dsimp only at e
    refine Ev.round ⟨K, fun k hk => ?_⟩ (implLevel xs hn key ((h : Int) + 1) _ (xs.length - a) a a out (by omega) (by omega) (by rw [show wrap64 ((h : Int) + 1 - 1) = (h : Int) from by rw [wrap_id (by omega) (by omega)]; omega]; exact nx))
    simp only [impl_Leaps.l0]
    rw [if_pos (by omega), e k hk, Option.bind_some]
theorem implLeaps_ev (xs : List S35) (hn : xs.length ≤ 1048576) (key : ByteArray) : Ev (fun k => impl_Leaps.f k xs key) (leapsR xs key 4 [] 0) :=
  implLeaps_l0 xs hn key 4 [] 0 (Nat.le_refl _) (Nat.zero_le _) (by simp only [List.length_nil]; omega)

theorem drawMemGet_comes (b : List Int) (hb : b.length ≤ 1048576) : Comes (fun r => r.1.length ≤ 1001) (fun k => spec_DrawLeaps.f k b) := by
  simp only [spec_DrawLeaps.f, spec_DrawMemGet.f]
  refine Comes.bind (Q := fun r => r.1.length ≤ 1001) ?_ (fun r hr => Comes.ret _ hr)
  refine Comes.bind (l1New_comes b hb) (fun n hn => ?_)
  obtain ⟨n1, n2, n3⟩ := n
  dsimp only at hn
  obtain ⟨rfl, rfl⟩ := hn
  have hsz : ∃ t, spec_l1Size.f n1 14 = some t ∧ t ≤ 1000 := by
    simp only [spec_l1Size.f, wrap64]
    split
    · exact ⟨_, rfl, by omega⟩
    · exact ⟨_, rfl, by omega⟩
  obtain ⟨t, ht, hle⟩ := hsz
  simp only [ht, Option.bind_some]
  refine Comes.bind (l4DrawAny_comes n1 0 n3 t hb ⟨by omega, by omega⟩ hle) (fun r hr => ?_)
  obtain ⟨s, j, y, e, hj⟩ := l4Key_some n1 r.2.1 r.2.2 hb hr.2
  simp only [e, Option.bind_some]
  exact Comes.ret _ hr.1
theorem key_lt {xs : List S35} (h : MemGood xs) : ∀ (d i : Nat), i + d + 1 < xs.length → Op.bytesLess (nodeAt xs i).f0.f0.toList (nodeAt xs (i + d + 1)).f0.f0.toList = true := by
  intro d
  induction d with
  | zero => intro i hi; exact (h.node (i + 1) (by omega)).less (by omega)
  | succ d ih => intro i hi; exact bl_trans (ih i (by omega)) ((h.node (i + d + 2) (by omega)).less (by omega))
theorem lessK_node (xs : List S35) (key : ByteArray) (i : Nat) : lessK xs key i = Op.bytesLess (nodeAt xs i).f0.f0.toList key.toList := by
  unfold lessK
  rw [rd_node]
theorem less_cut {xs : List S35} (h : MemGood xs) (key : ByteArray) : ∃ L, L ≤ xs.length ∧ ∀ i, i < xs.length → lessK xs key i = decide (i < L) := by
  have hp : ∀ i j, i < j → j < xs.length → lessK xs key j = true → lessK xs key i = true := by
    intro i j hij hj hl
    rw [lessK_node] at hl ⊢
    have := key_lt h (j - i - 1) i (by omega)
    rw [show i + (j - i - 1) + 1 = j from by omega] at this
    exact bl_trans this hl
  have key2 : ∀ (n : Nat), n ≤ xs.length → ∃ L, L ≤ n ∧ ∀ i, i < n → lessK xs key i = decide (i < L) := by
    intro n
    induction n with
    | zero => intro _; exact ⟨0, Nat.le_refl _, fun i hi => by omega⟩
    | succ n ih =>
      intro hn
      obtain ⟨L, hL, hl⟩ := ih (by omega)
      cases hc : lessK xs key n
      · refine ⟨L, by omega, fun i hi => ?_⟩
        by_cases e : i = n
        · subst e
          rw [hc, decide_eq_false (by omega)]
        · exact hl i (by omega)
      · refine ⟨n + 1, Nat.le_refl _, fun i hi => ?_⟩
        rw [decide_eq_true hi]
        by_cases e : i = n
        · subst e; exact hc
        · exact hp i n (by omega) (by omega) hc
  exact key2 xs.length (Nat.le_refl _)
structure Way (L : Nat) (out : List Int) (a : Nat) : Prop where
  rise : out.Pairwise (fun x y => x < y)
  all : ∀ x ∈ out, 0 ≤ x ∧ x < (a : Int)
  low : a ≤ L
  last : (out = [] ∧ a = 0) ∨ ∃ o, out = o ++ [(a : Int) - 1]
theorem Way.push {L : Nat} {out : List Int} {a i : Nat} (h : Way L out a) (ha : a ≤ i) (hi : i < L) : Way L (out ++ [(i : Int)]) (i + 1) := by
  refine ⟨List.pairwise_append.2 ⟨h.rise, by simp, fun x hx y hy => ?_⟩, fun x hx => ?_, by omega, .inr ⟨out, by congr 2; omega⟩⟩
  · have h1 := h.all x hx
    rw [List.mem_singleton.1 hy]
    omega
  · rcases List.mem_append.1 hx with hx | hx
    · have := h.all x hx
      omega
    · rw [List.mem_singleton.1 hx]
      omega
theorem level_way {xs : List S35} {key : ByteArray} {L : Nat} (hl : ∀ i, i < xs.length → lessK xs key i = decide (i < L)) (h : Int) : ∀ (d i a : Nat) (out : List Int), i + d = xs.length → a ≤ i → Way L out a → Way L (levelR xs key h d out a i).1 (levelR xs key h d out a i).2 := by
  intro d
  induction d with
  | zero => intro i a out _ _ hw; exact hw
  | succ d ih =>
    intro i a out hi ha hw
    unfold levelR
    split
    · exact ih (i + 1) a out (by omega) (by omega) hw
    · split
      · rename_i hk
        rw [hl i (by omega)] at hk
        exact ih (i + 1) (i + 1) _ (by omega) (Nat.le_refl _) (hw.push ha (of_decide_eq_true hk))
      · exact hw
theorem level_one {xs : List S35} {key : ByteArray} {L : Nat} (hL : L ≤ xs.length) (hl : ∀ i, i < xs.length → lessK xs key i = decide (i < L)) (ht : ∀ i, i < xs.length → ¬ twr xs i < 1) : ∀ (d i : Nat) (out : List Int), i + d = xs.length → i ≤ L → (levelR xs key 1 d out i i).2 = L := by
  intro d
  induction d with
  | zero => intro i out hi hiL; show i = L; omega
  | succ d ih =>
    intro i out hi hiL
    unfold levelR
    rw [if_neg (ht i (by omega)), hl i (by omega)]
    by_cases hc : i < L
    · rw [if_pos (decide_eq_true hc)]
      exact ih (i + 1) _ (by omega) (by omega)
    · rw [if_neg (by simpa using hc)]
      show i = L
      omega
theorem leaps_way {xs : List S35} {key : ByteArray} {L : Nat} (hL : L ≤ xs.length) (hl : ∀ i, i < xs.length → lessK xs key i = decide (i < L)) (ht : ∀ i, i < xs.length → ¬ twr xs i < 1) : ∀ (h : Nat) (out : List Int) (a : Nat), 0 < h → Way L out a → Way L (leapsR xs key h out a) L := by
  intro h
  induction h with
  | zero => intro _ _ h0; omega
  | succ h ih =>
    intro out a _ hw
    have haL := hw.low
    have hw2 := level_way hl ((h : Int) + 1) (xs.length - a) a a out (by omega) (Nat.le_refl _) hw
    unfold leapsR
    by_cases h0 : h = 0
    · subst h0
      have e1 : ((0 : Nat) : Int) + 1 = 1 := rfl
      rw [e1] at hw2 ⊢
      have h1 := level_one hL hl ht (xs.length - a) a out (by omega) haL
      rw [h1] at hw2
      exact hw2
    · exact ih _ _ (by omega) hw2
theorem FnLeaps : laws_FnLeaps.Pure := by
  intro b hb
  refine Comes.true_ ?_
  simp only [laws_FnLeaps.f, laws_big.f, Option.bind_some]
  refine Comes.ite (fun _ => Comes.ret true rfl) (fun hn => ?_)
  have hlb : b.length ≤ 1048576 := by
    have : ¬ ((b.length : Int) > 1048576) := by simpa using hn
    omega
  refine Comes.bind (drawMemGet_comes b hlb) (fun dr hdr => ?_)
  obtain ⟨xs, key⟩ := dr
  dsimp only at hdr ⊢
  refine Comes.bind (Q := fun r => r = leapsR xs key 4 [] 0) ⟨_, rfl, implLeaps_ev xs (by omega) key⟩ (fun l hl0 => ?_)
  obtain ⟨ok, hok, h1, h2⟩ := spec_memOk_says xs (by omega)
  refine Comes.bind (Q := fun r => r = ok) ⟨ok, rfl, h1⟩ (fun q hq => ?_)
  subst hq
  cases hq : q with
  | false =>
    rw [hq] at h2
    simp only [Bool.false_eq_true, if_false]
    refine Comes.bind (Q := fun r => r = false) ⟨false, rfl, h2⟩ (fun z hz => ?_)
    subst hz
    exact Comes.ret _ rfl
  | true =>
    have hg := hok hq
    rw [hq] at h2
    simp only [if_true]
    have hsz := hg.size
    obtain ⟨L, hL, hl⟩ := less_cut hg key
    have ht : ∀ i, i < xs.length → ¬ twr xs i < 1 := fun i hi => by
      have := (hg.node i hi).low
      unfold twr
      rw [rd_node]
      omega
    have hw := leaps_way hL hl ht 4 [] 0 (by omega) ⟨by simp, by simp, by omega, .inl ⟨rfl, rfl⟩⟩
    have hll := leapsR_length xs key 4 [] 0 (Nat.zero_le _)
    rw [List.length_nil] at hll
    rw [← hl0] at hw hll
    have hget : ∀ j, j < l.length → rd l (j : Int) ∈ l := fun j hj => by
      rw [rd_nat, List.getD_eq_getElem?_getD, List.getElem?_eq_getElem hj]
      exact List.getElem_mem _
    have hend : Ev (fun k => laws_FnLeaps.l1 k l (L : Int) (l.length : Int) xs) true := by
      obtain ⟨K, e⟩ := h2
      dsimp only at e
      refine Ev.round (f := fun _ => some true) ⟨K, fun k hk => ?_⟩ (Ev.now true)
      simp only [laws_FnLeaps.l1]
      rw [if_neg (by omega)]
      rcases hw.last with ⟨h3, h4⟩ | ⟨o, h3⟩
      · subst h3 h4
        rw [if_pos (by simp), if_pos (by rfl), e k hk, Option.bind_some]
      · have hL0 : 0 < L := by
          have := (hw.all ((L : Int) - 1) (by rw [h3]; simp)).1
          omega
        have hlen : l.length = o.length + 1 := by rw [h3]; simp
        have b1 : ((L : Int) == 0) = false := beq_eq_false_iff_ne.2 (by omega)
        have b2 : ((l.length : Int) == 0) = false := beq_eq_false_iff_ne.2 (by omega)
        have hrd : rd l ((l.length : Int) - 1) = (L : Int) - 1 := by
          rw [show (l.length : Int) - 1 = (o.length : Int) from by omega, rd_nat, h3, List.getD_eq_getElem?_getD, List.getElem?_append_right (Nat.le_refl _), Nat.sub_self]
          rfl
        rw [b1, b2, if_pos (by rfl), if_neg (by omega), wrap_id (i := (l.length : Int) - 1) (by omega) (by omega), if_pos (by omega), if_pos (by omega), hrd, wrap_id (i := (L : Int) - 1) (by omega) (by omega), if_pos rfl, e k hk, Option.bind_some]
    have hl1 : ∀ (d j : Nat), j + d = l.length → Ev (fun k => laws_FnLeaps.l1 k l (L : Int) (j : Int) xs) true := by
      intro d
      induction d with
      | zero =>
        intro j hj
        have : j = l.length := by omega
        subst this
        exact hend
      | succ d ih =>
        intro j hj
        have hm := hw.all _ (hget j (by omega))
        have j2 : Ev (fun k => laws_FnLeaps.j2 k l (L : Int) (j : Int) false xs) true := by
          refine Ev.step (fun k => ?_) (ih (j + 1) (by omega))
          simp only [laws_FnLeaps.j2]
          rw [if_neg (by decide), wrap_succ (n := l.length) (by omega) (by omega)]
        refine Ev.step (fun k => ?_) j2
        simp only [laws_FnLeaps.l1]
        rw [if_pos (by omega), if_pos (by omega), if_neg (by omega), if_neg (by omega)]
        by_cases hj0 : (j : Int) > 0
        · have hlt : rd l ((j : Int) - 1) < rd l (j : Int) := by
            have h5 := List.pairwise_iff_getElem.1 hw.rise (j - 1) j (by omega) (by omega) (by omega)
            rw [show (j : Int) - 1 = ((j - 1 : Nat) : Int) from by omega, rd_nat, rd_nat, List.getD_eq_getElem?_getD, List.getD_eq_getElem?_getD, List.getElem?_eq_getElem (show j - 1 < l.length by omega), List.getElem?_eq_getElem (show j < l.length by omega)]
            exact h5
          rw [if_pos hj0, wrap_id (i := (j : Int) - 1) (by omega) (by omega), if_pos (by omega), if_pos (by omega), decide_eq_false (by omega)]
        · rw [if_neg hj0]
    have hc : ∀ (d i : Nat), i + d = xs.length → Ev (fun k => laws_FnLeaps.l0 k key l (((if i < L then i else L) : Nat) : Int) (i : Int) xs) true := by
      intro d
      induction d with
      | zero =>
        intro i hi
        rw [if_neg (by omega)]
        refine Ev.step (fun k => ?_) (hl1 l.length 0 (by omega))
        simp only [laws_FnLeaps.l0]
        rw [if_neg (by omega)]
        rfl
      | succ d ih =>
        intro i hi
        have hk := hl i (by omega)
        have nx := ih (i + 1) (by omega)
        by_cases hc : i < L
        · rw [decide_eq_true hc] at hk
          rw [if_pos hc]
          have e : (((if i + 1 < L then i + 1 else L) : Nat) : Int) = ((i + 1 : Nat) : Int) := by split <;> omega
          rw [e] at nx
          refine Ev.step (fun k => ?_) nx
          simp only [laws_FnLeaps.l0]
          rw [if_pos (by omega), if_pos (by omega), if_pos (show Op.bytesLess (((rd_T35 xs (i : Int)).f0.f0).toList) key.toList = true from hk), wrap_succ (n := xs.length) (by omega) (by omega)]
        · rw [decide_eq_false hc] at hk
          rw [if_neg hc]
          rw [if_neg (show ¬ i + 1 < L by omega)] at nx
          refine Ev.step (fun k => ?_) nx
          simp only [laws_FnLeaps.l0]
          rw [if_pos (by omega), if_pos (by omega), if_neg (show ¬ Op.bytesLess (((rd_T35 xs (i : Int)).f0.f0).toList) key.toList = true from Bool.eq_false_iff.1 hk), wrap_succ (n := xs.length) (by omega) (by omega)]
    have hfin := hc xs.length 0 (by omega)
    have e0 : (((if 0 < L then 0 else L) : Nat) : Int) = 0 := by split <;> omega
    rw [e0] at hfin
    exact ⟨true, rfl, hfin⟩

end Go.Proofs.Ytbepbgfkajnlbaa.MPureFnLeaps
