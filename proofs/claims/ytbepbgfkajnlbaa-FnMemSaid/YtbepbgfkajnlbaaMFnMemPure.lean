/- What is put into a drawn table in memory is found, and the others are as they were; keys rise. No condition. -/
import Derived.Test.YtbepbgfkajnlbaaMFnMemDef
set_option linter.unusedVariables false
set_option linter.unusedSimpArgs false
namespace Go.Proofs.Ytbepbgfkajnlbaa.MPureFnMem
open Go.RowKit Go.Proofs.Ytbepbgfkajnlbaa.MFnMem Go.Proofs.YtbepbgfkajnlbaaW.PrintWords Go.Proofs.YtbepbgfkajnlbaaW.PrintLast Go.Proofs.YtbepbgfkajnlbaaW.PrintMore

theorem wrap_id {i : Int} (h0 : -9223372036854775808 ≤ i) (h1 : i ≤ 9223372036854775807) : wrap64 i = i := by unfold wrap64; omega
theorem wrap_succ {i n : Nat} (h : i < n) (hn : n ≤ 9223372036854775807) : wrap64 ((i : Int) + 1) = ((i + 1 : Nat) : Int) := by unfold wrap64; omega
theorem rd_nat (xs : List Int) (i : Nat) : rd xs (i : Int) = xs.getD i 0 := by simp [rd]
theorem take_set_succ {α : Type} (l : List α) (i : Nat) (x : α) (h : i < l.length) : (l.set i x).take (i + 1) = l.take i ++ [x] := by
  rw [List.take_succ_eq_append_getElem (by simpa using h), List.getElem_set_self, List.take_set_of_le (Nat.le_refl _)]
theorem take_succ_getD {α : Type} (l : List α) (i : Nat) (d : α) (h : i < l.length) : l.take (i + 1) = l.take i ++ [l.getD i d] := by
  rw [List.take_succ_eq_append_getElem h, List.getD_eq_getElem?_getD, List.getElem?_eq_getElem h]
  rfl
theorem take_all {α : Type} {l m : List α} {n : Nat} (h : l.take n = m) (hl : l.length = n) : l = m := by
  rw [← h, ← hl, List.take_length]
theorem wf_u8 {x : Int} (h : (Lit.int .u8 x).wf = true) : 0 ≤ x ∧ x ≤ 255 := by
  simp [Lit.wf, IntKind.min, IntKind.max, IntKind.signed, IntKind.bits] at h
  omega
theorem wf_i64 {x : Int} (h : (Lit.int .i64 x).wf = true) : -9223372036854775808 ≤ x ∧ x ≤ 9223372036854775807 := by
  simp [Lit.wf, IntKind.min, IntKind.max, IntKind.signed, IntKind.bits] at h
  omega

theorem fill_loop {β : Type} (L : Nat → List β → Int → Option (List β)) (n : Nat) (g : Nat → β) (z : β)
    (hs : ∀ (i : Nat) (out : List β) (r : List β), i < n → out.length = n → Ev (fun k => L k (out.set i (g i)) ((i + 1 : Nat) : Int)) r → Ev (fun k => L k out (i : Int)) r)
    (he : ∀ out : List β, out.length = n → Ev (fun k => L k out (n : Int)) out) : Ev (fun k => L k (List.replicate n z) 0) ((List.range n).map g) := by
  have key : ∀ (d i : Nat) (out : List β), i + d = n → out.length = n → out.take i = (List.range i).map g → Ev (fun k => L k out (i : Int)) ((List.range n).map g) := by
    intro d
    induction d with
    | zero =>
      intro i out hi hl ht
      have : i = n := by omega
      subst this
      have e := take_all ht hl
      rw [← e]
      exact he out hl
    | succ d ih =>
      intro i out hi hl ht
      refine hs i out _ (by omega) hl (ih (i + 1) _ (by omega) (by simp [hl]) ?_)
      rw [take_set_succ _ _ _ (by omega), ht, List.range_succ, List.map_append]
      rfl
  exact key n 0 _ (by omega) (by simp) (by simp)
/-- A row that is written from the left: element i becomes g i, and a state goes along. -/
theorem mark_loop {β σ : Type} (L : Nat → List β → σ → Int → Option (σ × List β)) (n : Nat) (g : Nat → β) (st : Nat → σ)
    (hs : ∀ (i : Nat) (out : List β) (r : σ × List β), i < n → out.length = n → Ev (fun k => L k (out.set i (g i)) (st (i + 1)) ((i + 1 : Nat) : Int)) r → Ev (fun k => L k out (st i) (i : Int)) r)
    (he : ∀ out : List β, out.length = n → Ev (fun k => L k out (st n) (n : Int)) (st n, out)) (l : List β) (hl : l.length = n) : Ev (fun k => L k l (st 0) 0) (st n, (List.range n).map g) := by
  have key : ∀ (d i : Nat) (out : List β), i + d = n → out.length = n → out.take i = (List.range i).map g → Ev (fun k => L k out (st i) (i : Int)) (st n, (List.range n).map g) := by
    intro d
    induction d with
    | zero =>
      intro i out hi hl ht
      have : i = n := by omega
      subst this
      have e := take_all ht hl
      rw [← e]
      exact he out hl
    | succ d ih =>
      intro i out hi hl ht
      refine hs i out _ (by omega) hl (ih (i + 1) _ (by omega) (by simp [hl]) ?_)
      rw [take_set_succ _ _ _ (by omega), ht, List.range_succ, List.map_append]
      rfl
  exact key n 0 _ (by omega) hl (by simp)
theorem scan_loop {ρ : Type} (g : Nat → Nat → Option ρ) (n : Nat) (r : ρ) (hs : ∀ i, i < n → Ev (g (i + 1)) r → Ev (g i) r) (he : Ev (g n) r) : Ev (g 0) r := by
  have key : ∀ (d i : Nat), i + d = n → Ev (g i) r := by
    intro d
    induction d with
    | zero => intro i hi; have : i = n := by omega
              subst this; exact he
    | succ d ih => intro i hi; exact hs i (by omega) (ih (i + 1) (by omega))
  exact key n 0 (by omega)
theorem range_map_get {α β : Type} (l : List α) (f : α → β) (d : α) : (List.range l.length).map (fun i => f (l.getD i d)) = l.map f := by
  apply List.ext_getElem?
  intro i
  rw [List.getElem?_map, List.getElem?_map]
  by_cases h : i < l.length
  · simp [h, List.getD_eq_getElem?_getD]
  · rw [List.getElem?_eq_none (by simp; omega), List.getElem?_eq_none (by omega)]
    rfl
theorem range_map_getD {β : Type} (n i : Nat) (g : Nat → β) (d : β) (h : i < n) : ((List.range n).map g).getD i d = g i := by
  simp [List.getD_eq_getElem?_getD, h]
theorem Ev.bind' {α β : Type} {g : Nat → Option α} {f : Nat → α → Option β} {a : α} {r : β} (h : Ev g a) (k : Ev (fun n => f n a) r) : Ev (fun n => (g n).bind (f n)) r := Ev.bind h k
theorem Ev.cond {α : Type} {g f : Nat → Option α} {r : α} (h : ∃ K, ∀ k, K ≤ k → g k = f k) (k : Ev f r) : Ev g r := by
  obtain ⟨K, h⟩ := h
  obtain ⟨K', k⟩ := k
  exact ⟨K + K', fun n hn => by rw [h n (by omega)]; exact k n (by omega)⟩
/-- One round: at n + 1 it is what it is at n of another. -/
theorem Ev.round {α : Type} {g f : Nat → Option α} {r : α} (h : ∃ K, ∀ k, K ≤ k → g (k + 1) = f k) (k : Ev f r) : Ev g r := by
  obtain ⟨K, h⟩ := h
  obtain ⟨K', k⟩ := k
  exact ⟨K + K' + 1, fun n hn => by
    obtain ⟨m, rfl⟩ : ∃ m, n = m + 1 := ⟨n - 1, by omega⟩
    rw [h m (by omega)]; exact k m (by omega)⟩
theorem Ev.ends {α : Type} {g : Nat → Option α} {r : α} (h : ∀ k, g (k + 1) = some r) : Ev g r := ⟨1, fun n hn => by
  obtain ⟨m, rfl⟩ : ∃ m, n = m + 1 := ⟨n - 1, by omega⟩
  exact h m⟩
theorem Ev.all {α : Type} {g : Nat → Option α} {r : α} (h : ∀ k, g k = some r) : Ev g r := ⟨0, fun n _ => h n⟩

/-- Both come to one answer, of which P holds. -/
def Both {α : Type} (P : α → Prop) (f g : Nat → Option α) : Prop := ∃ r, P r ∧ Ev f r ∧ Ev g r
namespace Both
variable {α β : Type} {P : α → Prop} {f f' g g' : Nat → Option α}
theorem step (h1 : ∀ k, f (k + 1) = f' k) (h2 : ∀ k, g (k + 1) = g' k) (h : Both P f' g') : Both P f g := by
  obtain ⟨r, hp, a, b⟩ := h
  exact ⟨r, hp, Ev.step h1 a, Ev.step h2 b⟩
theorem left (h1 : ∀ k, f (k + 1) = f' k) (h : Both P f' g) : Both P f g := by
  obtain ⟨r, hp, a, b⟩ := h
  exact ⟨r, hp, Ev.step h1 a, b⟩
theorem right (h2 : ∀ k, g (k + 1) = g' k) (h : Both P f g') : Both P f g := by
  obtain ⟨r, hp, a, b⟩ := h
  exact ⟨r, hp, a, Ev.step h2 b⟩
theorem ret (r : α) (h : P r) : Both P (fun _ => some r) (fun _ => some r) := ⟨r, h, Ev.now r, Ev.now r⟩
theorem ite {c : Prop} [Decidable c] (h1 : c → Both P f g) (h2 : ¬ c → Both P f' g') : Both P (fun k => if c then f k else f' k) (fun k => if c then g k else g' k) := by
  by_cases h : c
  · simpa only [if_pos h] using h1 h
  · simpa only [if_neg h] using h2 h
theorem bind {Q : β → Prop} {p q : Nat → Option β} {F G : Nat → β → Option α} (h : Both Q p q) (k : ∀ b, Q b → Both P (fun n => F n b) (fun n => G n b)) : Both P (fun n => (p n).bind (F n)) (fun n => (q n).bind (G n)) := by
  obtain ⟨b, hq, h1, h2⟩ := h
  obtain ⟨r, hp, a, c⟩ := k b hq
  exact ⟨r, hp, Ev.bind h1 a, Ev.bind h2 c⟩
theorem of {r : α} (h1 : Ev f r) (h2 : Ev g r) (hp : P r) : Both P f g := ⟨r, hp, h1, h2⟩
theorem eq {r : α} (h1 : Ev f r) (h2 : Ev g r) : Both (fun x => x = r) f g := ⟨r, rfl, h1, h2⟩
theorem any {Q : α → Prop} (h : Both Q f g) : Both (fun _ => True) f g := by
  obtain ⟨r, _, a, b⟩ := h
  exact ⟨r, trivial, a, b⟩
theorem mono {P' : α → Prop} (h : Both P f g) (hi : ∀ r, P r → P' r) : Both P' f g := by
  obtain ⟨r, hp, a, b⟩ := h
  exact ⟨r, hi r hp, a, b⟩
end Both
/-- It comes to an answer, of which P holds. -/
def Comes {α : Type} (P : α → Prop) (f : Nat → Option α) : Prop := ∃ r, P r ∧ Ev f r
namespace Comes
variable {α β : Type} {P : α → Prop} {f f' : Nat → Option α}
theorem step (h1 : ∀ k, f (k + 1) = f' k) (h : Comes P f') : Comes P f := by
  obtain ⟨r, hp, a⟩ := h
  exact ⟨r, hp, Ev.step h1 a⟩
theorem ret (r : α) (h : P r) : Comes P (fun _ => some r) := ⟨r, h, Ev.now r⟩
theorem ite {c : Prop} [Decidable c] (h1 : c → Comes P f) (h2 : ¬ c → Comes P f') : Comes P (fun k => if c then f k else f' k) := by
  by_cases h : c
  · simpa only [if_pos h] using h1 h
  · simpa only [if_neg h] using h2 h
theorem bind {Q : β → Prop} {p : Nat → Option β} {F : Nat → β → Option α} (h : Comes Q p) (k : ∀ b, Q b → Comes P (fun n => F n b)) : Comes P (fun n => (p n).bind (F n)) := by
  obtain ⟨b, hq, h1⟩ := h
  obtain ⟨r, hp, a⟩ := k b hq
  exact ⟨r, hp, Ev.bind h1 a⟩
theorem mono {P' : α → Prop} (h : Comes P f) (hi : ∀ r, P r → P' r) : Comes P' f := by
  obtain ⟨r, hp, a⟩ := h
  exact ⟨r, hi r hp, a⟩
theorem rounds (h : Comes P f) : ∃ k r, f k = some r ∧ P r := by
  obtain ⟨r, hp, a⟩ := h
  obtain ⟨k, hk⟩ := a.rounds
  exact ⟨k, r, hk, hp⟩
theorem true_ {f : Nat → Option Bool} (h : Comes (fun b => b = true) f) : ∃ k, f k = some true := by
  obtain ⟨k, r, hk, rfl⟩ := h.rounds
  exact ⟨k, hk⟩
theorem some_ (o : Option α) (r : α) (h : o = some r) (hp : P r) : Comes P (fun _ => o) := ⟨r, hp, Ev.all (fun _ => h)⟩
end Comes

theorem and255 (n : Int) : Go.bits .and .i64 n 255 = n % 256 := by
  have h255 : (BitVec.ofInt 64 255).toNat = 2 ^ 8 - 1 := by decide
  have key : (BitVec.ofInt 64 n &&& BitVec.ofInt 64 255).toNat = (n % ((2 ^ 64 : Nat) : Int)).toNat % 2 ^ 8 := by
    rw [BitVec.toNat_and, BitVec.toNat_ofInt, h255, Nat.and_two_pow_sub_one_eq_mod]
  show IntKind.i64.wrap ((BitVec.ofInt 64 n &&& BitVec.ofInt 64 255).toNat : Nat) = n % 256
  rw [key, IntKind.wrap_i64]
  omega
/-- A place in the drawn bytes. -/
def At (b : List Int) (i : Int) : Prop := 0 ≤ i ∧ i ≤ (b.length : Int)
theorem l1Byte_some (b : List Int) (i x : Int) (hb : b.length ≤ 1048576) (hi : At b i) : ∃ v j y, spec_l1Byte.f b i x = some (v, j, y) ∧ 0 ≤ v ∧ v ≤ 255 ∧ At b j := by
  unfold At at hi ⊢
  simp only [spec_l1Byte.f, and255]
  by_cases h : i < (b.length : Int)
  · rw [if_pos h, if_pos hi.1, wrap_id (i := i + 1) (by omega) (by omega)]
    exact ⟨_, _, _, rfl, by omega, by omega, by omega⟩
  · rw [if_neg h]
    exact ⟨_, _, _, rfl, by omega, by omega, hi⟩
theorem l1Below_some (b : List Int) (i x n : Int) (hb : b.length ≤ 1048576) (hi : At b i) : ∃ v j y, spec_l1Below.f b i x n = some (v, j, y) ∧ 0 ≤ v ∧ (0 < n → v < n) ∧ (n ≤ 0 → v = 0) ∧ At b j := by
  simp only [spec_l1Below.f]
  by_cases h0 : n ≤ 0
  · rw [if_pos h0]
    exact ⟨_, _, _, rfl, by omega, by omega, fun _ => rfl, hi⟩
  · rw [if_neg h0]
    have hp : 0 < n := by omega
    have hn : ¬ n = 0 := by omega
    by_cases h1 : n ≤ 256
    · rw [if_pos h1]
      obtain ⟨v, j, y, e, v0, v1, hj⟩ := l1Byte_some b i x hb hi
      simp only [e, Option.bind_some]
      rw [if_neg hn, Int.tmod_eq_emod_of_nonneg v0]
      exact ⟨_, _, _, rfl, Int.emod_nonneg _ hn, fun _ => Int.emod_lt_of_pos _ hp, fun h => absurd h h0, hj⟩
    · rw [if_neg h1]
      obtain ⟨v, j, y, e, v0, v1, hj⟩ := l1Byte_some b i x hb hi
      obtain ⟨v', j', y', e', v0', v1', hj'⟩ := l1Byte_some b j y hb hj
      obtain ⟨v2, j2, y2, e2, v02, v12, hj2⟩ := l1Byte_some b j' y' hb hj'
      simp only [e, e', e2, Option.bind_some]
      rw [if_neg hn, wrap_id (i := v * 65536) (by omega) (by omega), wrap_id (i := v' * 256) (by omega) (by omega), wrap_id (i := v * 65536 + v' * 256) (by omega) (by omega), wrap_id (i := v * 65536 + v' * 256 + v2) (by omega) (by omega), Int.tmod_eq_emod_of_nonneg (by omega)]
      exact ⟨_, _, _, rfl, Int.emod_nonneg _ hn, fun _ => Int.emod_lt_of_pos _ hp, fun h => absurd h h0, hj2⟩

theorem l1New_comes (b : List Int) (hb : b.length ≤ 1048576) : Comes (fun r => r.1 = b ∧ r.2.1 = 0) (fun k => spec_l1New.f k b) := by
  have key : ∀ (d i : Nat) (x : Int), i + d = b.length → Comes (fun r => r.1 = b ∧ r.2.1 = 0) (fun k => spec_l1New.l0 k b x (i : Int)) := by
    intro d
    induction d with
    | zero =>
      intro i x hi
      refine Comes.step (fun k => spec_l1New.l0.eq_2 ..) ?_
      have e1 : ((i : Int) < (b.length : Int)) = False := eq_false (by omega)
      simp only [e1, if_false]
      refine Comes.step (fun k => spec_l1New.j1.eq_2 ..) ?_
      simp only [Bool.false_eq_true, if_false]
      exact Comes.ret _ ⟨rfl, rfl⟩
    | succ d ih =>
      intro i x hi
      refine Comes.step (fun k => spec_l1New.l0.eq_2 ..) ?_
      have e1 : ((i : Int) < (b.length : Int)) = True := eq_true (by omega)
      have e2 : (0 ≤ (i : Int)) = True := eq_true (by omega)
      have ew : wrap64 ((i : Int) + 1) = ((i + 1 : Nat) : Int) := wrap_succ (n := b.length) (by omega) (by omega)
      simp only [e1, if_true]
      have join : ∀ q : Bool, Comes (fun r => r.1 = b ∧ r.2.1 = 0) (fun k => spec_l1New.j1 k b x (i : Int) q) := by
        intro q
        refine Comes.step (fun k => spec_l1New.j1.eq_2 ..) ?_
        simp only [e1, e2, if_true, ew]
        exact Comes.ite (fun _ => ih (i + 1) _ (by omega)) (fun _ => Comes.ret _ ⟨rfl, rfl⟩)
      exact join _
  exact key b.length 0 _ (by omega)

theorem l1In_eq (a b c : Int) : spec_l1In.f a b c = some (decide (b ≤ a) && decide (a ≤ c)) := by
  unfold spec_l1In.f
  by_cases h : a ≥ b
  · rw [if_pos h, decide_eq_true (show b ≤ a from h), Bool.true_and]
  · rw [if_neg h, decide_eq_false (show ¬ b ≤ a from h), Bool.false_and]

theorem in_eq (a b c : Int) : impl_in.f a b c = some (decide (b ≤ a) && decide (a ≤ c)) := by
  unfold impl_in.f
  by_cases h : a ≥ b
  · rw [if_pos h, decide_eq_true (show b ≤ a from h), Bool.true_and]
  · rw [if_neg h, decide_eq_false (show ¬ b ≤ a from h), Bool.false_and]

theorem ite_and (a b : Bool) : (if a = true then some b else some false) = some (a && b) := by cases a <;> rfl
theorem ite_some {c : Prop} [Decidable c] (a b : Bool) : (if c then some a else some b) = some (if c then a else b) := by split <;> rfl
theorem neq_self (b : Bool) : (if (b != b) = true then (some false : Option Bool) else some true) = some true := by cases b <;> rfl

theorem pairOk_eq (a b : ByteArray) (c : Bool) : impl_PairOk.f a b c = spec_PairOk.f a b c := by
  simp only [impl_PairOk.f, spec_PairOk.f, impl_keyOk.f, in_eq, l1In_eq, Option.bind_some]
theorem pairOk_some (a b : ByteArray) (c : Bool) : ∃ r, spec_PairOk.f a b c = some r := by
  simp only [spec_PairOk.f, l1In_eq, Option.bind_some]
  (repeat' split) <;> exact ⟨_, rfl⟩

/-- What MemOk says of a table. -/
def pokR (a b : ByteArray) (c : Bool) : Bool := if (decide (1 ≤ (a.size : Int)) && decide ((a.size : Int) ≤ 20)) = true then (if (b.size : Int) ≤ 20 then (if c = true then (b.toList == ([] : List UInt8)) else true) else false) else false
theorem pokR_eq (a b : ByteArray) (c : Bool) : spec_PairOk.f a b c = some (pokR a b c) := by
  simp only [spec_PairOk.f, l1In_eq, Option.bind_some, pokR]
  (repeat' split) <;> rfl
theorem pokR_eq' (a b : ByteArray) (c : Bool) : impl_PairOk.f a b c = some (pokR a b c) := by rw [pairOk_eq, pokR_eq]
def nodeAt (xs : List S35) (i : Nat) : S35 := xs.getD i z35
theorem rd_node (xs : List S35) (i : Nat) : rd_T35 xs (i : Int) = nodeAt xs i := by simp only [rd_T35, Int.toNat_natCast, nodeAt]
theorem rd_node_pred (xs : List S35) (i : Nat) (h : 0 < i) : rd_T35 xs ((i : Int) - 1) = nodeAt xs (i - 1) := by
  have e : (i : Int) - 1 = ((i - 1 : Nat) : Int) := by omega
  rw [e, rd_node]
structure NodeGood (xs : List S35) (i : Nat) : Prop where
  pair : pokR (nodeAt xs i).f0.f0 (nodeAt xs i).f0.f1 (nodeAt xs i).f0.f2 = true
  low : 1 ≤ (nodeAt xs i).f1
  high : (nodeAt xs i).f1 ≤ 4
  less : 0 < i → Op.bytesLess (nodeAt xs (i - 1)).f0.f0.toList (nodeAt xs i).f0.f0.toList = true
structure MemGood (xs : List S35) : Prop where
  size : xs.length ≤ 60
  node : ∀ i, i < xs.length → NodeGood xs i
theorem impl_memOk_true (xs : List S35) (h : MemGood xs) : Ev (fun k => impl_MemOk.f k xs) true := by
  have hs := h.size
  have key : ∀ (d i : Nat), i + d = xs.length → Ev (fun k => impl_MemOk.l0 k xs (xs.length : Int) (i : Int) xs) true := by
    intro d
    induction d with
    | zero =>
      intro i hi
      refine Ev.ends (fun k => ?_)
      simp only [impl_MemOk.l0]
      rw [if_neg (by omega), decide_eq_true (by omega)]
    | succ d ih =>
      intro i hi
      have g := h.node i (by omega)
      have e1 : ((i : Int) < (xs.length : Int)) = True := eq_true (by omega)
      have e2 : (0 ≤ (i : Int)) = True := eq_true (by omega)
      have ew : wrap64 ((i : Int) + 1) = ((i + 1 : Nat) : Int) := wrap_succ (n := xs.length) (by omega) (by omega)
      have e5 : (decide (1 ≤ (nodeAt xs i).f1) && decide ((nodeAt xs i).f1 ≤ 4)) = true := by simp [g.low, g.high]
      have j1 : Ev (fun k => impl_MemOk.j1 k xs (xs.length : Int) (i : Int) false xs) true := by
        refine Ev.step (fun k => ?_) (ih (i + 1) (by omega))
        simp only [impl_MemOk.j1, ew, Bool.false_eq_true, if_false]
      refine Ev.step (fun k => ?_) j1
      simp only [impl_MemOk.l0, e1, e2, if_true, pokR_eq', in_eq, Option.bind_some, rd_node, g.pair, e5]
      by_cases hp : (i : Int) > 0
      · have ew2 : wrap64 ((i : Int) - 1) = (i : Int) - 1 := wrap_id (by omega) (by omega)
        have e3 : (0 ≤ (i : Int) - 1) = True := eq_true (by omega)
        have e4 : ((i : Int) - 1 < (xs.length : Int)) = True := eq_true (by omega)
        have ep : ((i : Int) > 0) = True := eq_true hp
        simp only [ep, ew2, e3, e4, if_true, rd_node_pred xs i (by omega), g.less (by omega), Bool.not_true]
      · rw [if_neg hp]
  exact key xs.length 0 (by omega)
/-- MemOk of the reference comes to an answer; where it is true, the table is good. -/
theorem spec_memOk_says (xs : List S35) (hn : xs.length ≤ 1048576) : Both (fun r => r = true → MemGood xs) (fun k => spec_MemOk.f k xs) (fun k => impl_MemOk.f k xs) := by
  have key : ∀ (d i : Nat), i + d = xs.length → (∀ j, j < i → NodeGood xs j) → Both (fun r => r = true → MemGood xs) (fun k => spec_MemOk.l0 k (i : Int) xs) (fun k => impl_MemOk.l0 k xs (xs.length : Int) (i : Int) xs) := by
    intro d
    induction d with
    | zero =>
      intro i hi hg
      refine Both.step (fun k => spec_MemOk.l0.eq_2 ..) (fun k => impl_MemOk.l0.eq_2 ..) ?_
      have e1 : ((i : Int) < (xs.length : Int)) = False := eq_false (by omega)
      simp only [e1, if_false]
      exact Both.ret _ (fun h => ⟨by have h := of_decide_eq_true h; omega, fun j hj => hg j (by omega)⟩)
    | succ d ih =>
      intro i hi hg
      refine Both.step (fun k => spec_MemOk.l0.eq_2 ..) (fun k => impl_MemOk.l0.eq_2 ..) ?_
      have e1 : ((i : Int) < (xs.length : Int)) = True := eq_true (by omega)
      have e2 : (0 ≤ (i : Int)) = True := eq_true (by omega)
      have ew : wrap64 ((i : Int) + 1) = ((i + 1 : Nat) : Int) := wrap_succ (n := xs.length) (by omega) (by omega)
      have join : ∀ q : Bool, (q = false → NodeGood xs i) → Both (fun r => r = true → MemGood xs) (fun k => spec_MemOk.j1 k (i : Int) q xs) (fun k => impl_MemOk.j1 k xs (xs.length : Int) (i : Int) q xs) := by
        intro q hq
        refine Both.step (fun k => spec_MemOk.j1.eq_2 ..) (fun k => impl_MemOk.j1.eq_2 ..) ?_
        simp only [ew]
        refine Both.ite (fun _ => Both.ret _ (fun h => by simp at h)) (fun hf => ih (i + 1) (by omega) (fun j hj => ?_))
        by_cases he : j = i
        · subst he; exact hq (eq_false_of_ne_true hf)
        · exact hg j (by omega)
      simp only [e1, e2, if_true, pokR_eq, pokR_eq', in_eq, l1In_eq, Option.bind_some, rd_node]
      refine Both.ite (fun c1 => Both.ite (fun c2 => Both.ite (fun hp => ?_) (fun hp => ?_)) (fun _ => join true (by simp))) (fun _ => join true (by simp))
      · have ew2 : wrap64 ((i : Int) - 1) = (i : Int) - 1 := wrap_id (by omega) (by omega)
        have e3 : (0 ≤ (i : Int) - 1) = True := eq_true (by omega)
        have e4 : ((i : Int) - 1 < (xs.length : Int)) = True := eq_true (by omega)
        simp only [ew2, e3, e4, if_true, rd_node_pred xs i (by omega)]
        rw [Bool.and_eq_true, decide_eq_true_eq, decide_eq_true_eq] at c2
        exact join _ (fun c3 => ⟨c1, c2.1, c2.2, fun _ => by simpa using c3⟩)
      · rw [Bool.and_eq_true, decide_eq_true_eq, decide_eq_true_eq] at c2
        exact join _ (fun _ => ⟨c1, c2.1, c2.2, fun h => by omega⟩)
  exact key xs.length 0 (by omega) (fun j hj => by omega)

def PutSays (xs : List S35) (p v : ByteArray) (g : Bool) (h : Int) (r : List S35 × Bool) : Prop :=
  (r.2 = false → r.1 = xs) ∧ (r.2 = true → MemGood xs ∧ pokR p v g = true ∧ 1 ≤ h ∧ h ≤ 4 ∧ ∃ i, i ≤ xs.length ∧ (∀ j, j < i → Op.bytesLess (nodeAt xs j).f0.f0.toList p.toList = true) ∧
    ((i < xs.length ∧ (nodeAt xs i).f0.f0.toList = p.toList ∧ r.1 = xs.set i (⟨⟨p, v, g⟩, (nodeAt xs i).f1⟩ : S35)) ∨
     ((i < xs.length → Op.bytesLess (nodeAt xs i).f0.f0.toList p.toList = false ∧ (nodeAt xs i).f0.f0.toList ≠ p.toList) ∧ xs.length < 60 ∧ r.1 = xs.take i ++ [(⟨⟨p, v, g⟩, h⟩ : S35)] ++ xs.drop i)))
theorem PutSays.no (xs : List S35) (p v : ByteArray) (g : Bool) (h : Int) : PutSays xs p v g h (xs, false) := ⟨fun _ => rfl, fun e => by simp at e⟩
theorem memPut_says (xs : List S35) (hn : xs.length ≤ 1048576) (p v : ByteArray) (g : Bool) (h : Int) : Both (PutSays xs p v g h) (fun k => spec_MemPut.f k xs p v g h) (fun k => impl_MemPut.f k xs p v g h) := by
  have j3 : MemGood xs → pokR p v g = true → 1 ≤ h → h ≤ 4 → ∀ (i : Nat) (b : Bool), i ≤ xs.length → (∀ j, j < i → Op.bytesLess (nodeAt xs j).f0.f0.toList p.toList = true) → (b = true → i < xs.length ∧ (nodeAt xs i).f0.f0.toList = p.toList) → (b = false → i < xs.length → Op.bytesLess (nodeAt xs i).f0.f0.toList p.toList = false ∧ (nodeAt xs i).f0.f0.toList ≠ p.toList) →
      Both (PutSays xs p v g h) (fun k => spec_MemPut.j3 k h (i : Int) b p v g xs) (fun k => impl_MemPut.j3 k h (i : Int) b xs p v g xs) := by
    intro hg hp hl hh i b hi hlt hbt hbf
    have h60 := hg.size
    refine Both.step (fun k => spec_MemPut.j3.eq_2 ..) (fun k => impl_MemPut.j3.eq_2 ..) ?_
    have e2 : (0 ≤ (i : Int)) = True := eq_true (by omega)
    have e3 : ((i : Int) ≤ (xs.length : Int)) = True := eq_true (by omega)
    refine Both.ite (fun ht => ?_) (fun hf => ?_)
    · have hb := hbt ht
      have e1 : ((i : Int) < (xs.length : Int)) = True := eq_true (by omega)
      simp only [e1, e2, if_true, rd_node, Int.toNat_natCast]
      exact Both.ret _ ⟨fun e => by simp at e, fun _ => ⟨hg, hp, hl, hh, i, hi, hlt, .inl ⟨hb.1, hb.2, rfl⟩⟩⟩
    · have hb := hbf (eq_false_of_ne_true hf)
      by_cases hc : (xs.length : Int) = 60
      · have q1 : ((xs.length : Int) ≥ 60) = True := eq_true (by omega)
        have q2 : ((xs.length : Int) = 60) = True := eq_true hc
        simp only [q1, q2, if_true]
        exact Both.ret _ (PutSays.no ..)
      · have q1 : ((xs.length : Int) ≥ 60) = False := eq_false (by omega)
        have q2 : ((xs.length : Int) = 60) = False := eq_false hc
        have l1 : (xs.take i).length = i := by rw [List.length_take]; omega
        have l2 : (xs.drop i).length = xs.length - i := List.length_drop
        simp only [q1, q2, e2, e3, if_true, if_false, Option.bind_some, Int.toNat_natCast, List.nil_append, List.length_nil, List.length_append, List.length_cons, l1, l2]
        have z1 : (0 + i < 2932031007402) = True := eq_true (by omega)
        have z2 : (i < 2932031007402) = True := eq_true (by omega)
        have z3 : (i + (0 + 1) < 2932031007402) = True := eq_true (by omega)
        have z4 : (i + (0 + 1) + (xs.length - i) < 2932031007402) = True := eq_true (by omega)
        have z5 : (0 + i + (0 + 1) + (xs.length - i) < 2932031007402) = True := eq_true (by omega)
        have z6 : (0 + i + (0 + 1) < 2932031007402) = True := eq_true (by omega)
        simp only [z1, z2, z3, z4, z5, z6, if_true]
        exact Both.ret _ ⟨fun e => by simp at e, fun _ => ⟨hg, hp, hl, hh, i, hi, hlt, .inr ⟨hb, by omega, rfl⟩⟩⟩
  have out : Both (PutSays xs p v g h) (fun k => spec_MemPut.j0 k h true p v g xs) (fun k => impl_MemPut.j0 k h true xs p v g xs) := by
    refine Both.step (fun k => spec_MemPut.j0.eq_2 ..) (fun k => impl_MemPut.j0.eq_2 ..) ?_
    simp only [if_true]
    exact Both.ret _ (PutSays.no ..)
  have l0 : MemGood xs → pokR p v g = true → 1 ≤ h → h ≤ 4 → ∀ (d i : Nat), i + d = xs.length → (∀ j, j < i → Op.bytesLess (nodeAt xs j).f0.f0.toList p.toList = true) → Both (PutSays xs p v g h) (fun k => spec_MemPut.l0 k h (i : Int) p v g xs) (fun k => impl_MemPut.l0 k h (i : Int) xs p v g xs) := by
    intro hg hp hl hh d
    induction d with
    | zero =>
      intro i hi hlt
      have e1 : ((i : Int) < (xs.length : Int)) = False := eq_false (by omega)
      refine Both.step (fun k => spec_MemPut.l0.eq_2 ..) (fun k => impl_MemPut.l0.eq_2 ..) ?_
      simp only [e1, if_false]
      refine Both.step (fun k => spec_MemPut.j2.eq_2 ..) (fun k => impl_MemPut.j2.eq_2 ..) ?_
      simp only [e1, Bool.false_eq_true, if_false]
      exact j3 hg hp hl hh i false (by omega) hlt (by simp) (fun _ hc => by omega)
    | succ d ih =>
      intro i hi hlt
      have e1 : ((i : Int) < (xs.length : Int)) = True := eq_true (by omega)
      have e2 : (0 ≤ (i : Int)) = True := eq_true (by omega)
      have ew : wrap64 ((i : Int) + 1) = ((i + 1 : Nat) : Int) := wrap_succ (n := xs.length) (by omega) (by omega)
      refine Both.step (fun k => spec_MemPut.l0.eq_2 ..) (fun k => impl_MemPut.l0.eq_2 ..) ?_
      simp only [e1, e2, if_true, rd_node]
      refine Both.step (fun k => spec_MemPut.j2.eq_2 ..) (fun k => impl_MemPut.j2.eq_2 ..) ?_
      simp only [e1, e2, if_true, rd_node, ew]
      refine Both.ite (fun hc => ih (i + 1) (by omega) (fun j hj => ?_)) (fun hc => ?_)
      · by_cases he : j = i
        · subst he; exact hc
        · exact hlt j (by omega)
      · have hc' := eq_false_of_ne_true hc
        refine j3 hg hp hl hh i _ (by omega) hlt (fun hb => ⟨by omega, by simpa using hb⟩) (fun hb _ => ⟨hc', by simpa using hb⟩)
  have c1 : (([] : List S35).length + xs.length < 2932031007402) = True := eq_true (by simp only [List.length_nil]; omega)
  simp only [spec_MemPut.f, impl_MemPut.f, impl_copyMem.f, Option.bind_some, c1, if_true, List.nil_append, in_eq, l1In_eq, pokR_eq, pokR_eq']
  refine Both.bind (spec_memOk_says xs hn) (fun b hb => ?_)
  refine Both.ite (fun hbt => ?_) (fun _ => out)
  refine Both.ite (fun hp => ?_) (fun _ => out)
  refine Both.step (fun k => spec_MemPut.j0.eq_2 ..) (fun k => impl_MemPut.j0.eq_2 ..) ?_
  refine Both.ite (fun _ => Both.ret _ (PutSays.no ..)) (fun hh => ?_)
  have hh' : (decide (1 ≤ h) && decide (h ≤ 4)) = true := by
    cases hq : (decide (1 ≤ h) && decide (h ≤ 4)) with
    | true => rfl
    | false => rw [hq] at hh; exact absurd rfl hh
  rw [Bool.and_eq_true, decide_eq_true_eq, decide_eq_true_eq] at hh'
  exact l0 (hb hbt) hp hh'.1 hh'.2 xs.length 0 (by omega) (fun j hj => by omega)

theorem bl_total : ∀ a b : List UInt8, (Op.bytesLess a b || a == b) = !(Op.bytesLess b a)
  | [], [] => rfl
  | [], _ :: _ => rfl
  | _ :: _, [] => rfl
  | a :: x, b :: y => by
    have ih := bl_total x y
    simp only [Op.bytesLess]
    by_cases h1 : a < b
    · have h2 : ¬ b < a := fun h => by simp only [UInt8.lt_iff_toNat_lt] at h1 h; omega
      have h3 : ¬ (b = a) := fun h => by subst h; simp only [UInt8.lt_iff_toNat_lt] at h1; omega
      simp [h1, h2, h3]
    · by_cases h2 : b < a
      · have h3 : ¬ (a = b) := fun h => by subst h; simp only [UInt8.lt_iff_toNat_lt] at h2; omega
        simp [h1, h2, h3]
      · have h3 : a = b := by
          apply UInt8.toNat_inj.1
          simp only [UInt8.lt_iff_toNat_lt] at h1 h2
          omega
        subst h3
        simpa using ih
theorem bl_irrefl (a : List UInt8) : Op.bytesLess a a = false := by
  have h := bl_total a a
  simp at h
  cases hq : Op.bytesLess a a with
  | false => rfl
  | true => rw [hq] at h; simp at h
theorem bl_ne {a b : List UInt8} (h : Op.bytesLess a b = true) : a ≠ b := fun e => by subst e; rw [bl_irrefl] at h; simp at h
theorem bl_of {a b : List UInt8} (h : Op.bytesLess a b = false) (hne : a ≠ b) : Op.bytesLess b a = true := by
  have t := bl_total a b
  rw [h, beq_eq_false_iff_ne.2 hne] at t
  simpa using t.symm
theorem bl_trans : ∀ {a b c : List UInt8}, Op.bytesLess a b = true → Op.bytesLess b c = true → Op.bytesLess a c = true
  | _, _, [], _, h2 => by rename_i a b _; cases b <;> simp [Op.bytesLess] at h2
  | [], _, _ :: _, _, _ => rfl
  | a :: x, [], c :: z, h1, _ => by simp [Op.bytesLess] at h1
  | a :: x, b :: y, c :: z, h1, h2 => by
    have ih := @bl_trans x y z
    simp only [Op.bytesLess] at h1 h2 ⊢
    by_cases h3 : a < b
    · by_cases h4 : b < c
      · have : a < c := by simp only [UInt8.lt_iff_toNat_lt] at *; omega
        simp [this]
      · by_cases h5 : b = c
        · subst h5; simp [h3]
        · simp [h4, h5] at h2
    · by_cases h5 : a = b
      · subst h5
        by_cases h4 : a < c
        · simp [h4]
        · by_cases h6 : a = c
          · subst h6; simp [h3] at h1 h2 ⊢; exact ih h1 h2
          · simp [h4, h6] at h2
      · simp [h3, h5] at h1

abbrev keyAt (xs : List S35) (i : Nat) : List UInt8 := (nodeAt xs i).f0.f0.toList
theorem MemGood.lt {xs : List S35} (h : MemGood xs) : ∀ (d i : Nat), i + 1 + d < xs.length → Op.bytesLess (keyAt xs i) (keyAt xs (i + 1 + d)) = true := by
  intro d
  induction d with
  | zero => intro i hi; exact (h.node (i + 1) (by omega)).less (by omega)
  | succ d ih =>
    intro i hi
    have a := ih i (by omega)
    have b := (h.node (i + 1 + (d + 1)) (by omega)).less (by omega)
    have e : i + 1 + (d + 1) - 1 = i + 1 + d := by omega
    rw [e] at b
    exact bl_trans a b
theorem MemGood.lt' {xs : List S35} (h : MemGood xs) {i j : Nat} (hij : i < j) (hj : j < xs.length) : Op.bytesLess (keyAt xs i) (keyAt xs j) = true := by
  have := h.lt (j - i - 1) i (by omega)
  have e : i + 1 + (j - i - 1) = j := by omega
  rwa [e] at this
theorem memGet_at (xs : List S35) (hn : xs.length ≤ 1048576) (s : ByteArray) (i : Nat) (hi : i < xs.length) (he : keyAt xs i = s.toList) (hne : ∀ j, j < i → keyAt xs j ≠ s.toList) : Ev (fun k => impl_MemGet.f k xs s) ((nodeAt xs i).f0.f0, (nodeAt xs i).f0.f1, (nodeAt xs i).f0.f2, true) := by
  have key : ∀ (d j : Nat), j + d = i → Ev (fun k => impl_MemGet.l0 k s xs (xs.length : Int) (j : Int)) ((nodeAt xs i).f0.f0, (nodeAt xs i).f0.f1, (nodeAt xs i).f0.f2, true) := by
    intro d
    induction d with
    | zero =>
      intro j hj
      have : j = i := by omega
      subst this
      refine Ev.ends (fun k => ?_)
      simp only [impl_MemGet.l0, rd_node]
      rw [if_pos (by omega), if_pos (by omega), if_pos (by omega), if_pos he]
    | succ d ih =>
      intro j hj
      refine Ev.step (fun k => ?_) (ih (j + 1) (by omega))
      simp only [impl_MemGet.l0, rd_node]
      rw [if_pos (by omega), if_pos (by omega), if_pos (by omega), if_neg (hne j (by omega)), wrap_succ (n := xs.length) (by omega) (by omega)]
  exact key i 0 (by omega)
theorem memGet_no (xs : List S35) (hn : xs.length ≤ 1048576) (s : ByteArray) (hne : ∀ j, j < xs.length → keyAt xs j ≠ s.toList) : Ev (fun k => impl_MemGet.f k xs s) ((⟨#[]⟩ : ByteArray), (⟨#[]⟩ : ByteArray), false, false) := by
  have key : ∀ (d j : Nat), j + d = xs.length → Ev (fun k => impl_MemGet.l0 k s xs (xs.length : Int) (j : Int)) ((⟨#[]⟩ : ByteArray), (⟨#[]⟩ : ByteArray), false, false) := by
    intro d
    induction d with
    | zero =>
      intro j hj
      refine Ev.ends (fun k => ?_)
      simp only [impl_MemGet.l0]
      rw [if_neg (by omega)]
    | succ d ih =>
      intro j hj
      refine Ev.step (fun k => ?_) (ih (j + 1) (by omega))
      simp only [impl_MemGet.l0, rd_node]
      rw [if_pos (by omega), if_pos (by omega), if_pos (by omega), if_neg (hne j (by omega)), wrap_succ (n := xs.length) (by omega) (by omega)]
  exact key xs.length 0 (by omega)
theorem memGet_good {xs : List S35} (h : MemGood xs) (s : ByteArray) (i : Nat) (hi : i < xs.length) (he : keyAt xs i = s.toList) : Ev (fun k => impl_MemGet.f k xs s) ((nodeAt xs i).f0.f0, (nodeAt xs i).f0.f1, (nodeAt xs i).f0.f2, true) :=
  memGet_at xs (by have := h.size; omega) s i hi he (fun j hj => by rw [← he]; exact bl_ne (h.lt' hj hi))
theorem node_set (xs : List S35) (i j : Nat) (x : S35) (hi : i < xs.length) : nodeAt (xs.set i x) j = if j = i then x else nodeAt xs j := by
  unfold nodeAt
  by_cases h : j = i
  · subst h; rw [if_pos rfl, List.getD_eq_getElem?_getD, List.getElem?_set_self hi]; rfl
  · rw [if_neg h, List.getD_eq_getElem?_getD, List.getD_eq_getElem?_getD, List.getElem?_set_ne (by omega)]
theorem node_put (xs : List S35) (i j : Nat) (x : S35) (hi : i ≤ xs.length) : nodeAt (xs.take i ++ [x] ++ xs.drop i) j = if j < i then nodeAt xs j else if j = i then x else nodeAt xs (j - 1) := by
  unfold nodeAt
  have l1 : (xs.take i).length = i := by rw [List.length_take]; omega
  simp only [List.getD_eq_getElem?_getD, List.append_assoc]
  by_cases h : j < i
  · rw [if_pos h, List.getElem?_append_left (by omega), List.getElem?_take, if_pos h]
  · rw [if_neg h, List.getElem?_append_right (by omega), l1]
    by_cases h2 : j = i
    · subst h2; rw [if_pos rfl, Nat.sub_self]; rfl
    · rw [if_neg h2]
      have e : j - i = (j - i - 1) + 1 := by omega
      rw [e, List.singleton_append, List.getElem?_cons_succ, List.getElem?_drop]
      have e2 : i + (j - i - 1) = j - 1 := by omega
      rw [e2]
theorem put_good {xs : List S35} {p v : ByteArray} {g : Bool} {h : Int} {r : List S35 × Bool} (hr : PutSays xs p v g h r) (ht : r.2 = true) :
    MemGood r.1 ∧ pokR p v g = true ∧ (∃ i, i < r.1.length ∧ (nodeAt r.1 i).f0 = ⟨p, v, g⟩) ∧ (∀ j, j < xs.length → ∃ m, m < r.1.length ∧ keyAt r.1 m = keyAt xs j ∧ (keyAt xs j ≠ p.toList → (nodeAt r.1 m).f0 = (nodeAt xs j).f0)) ∧
      (((∃ i, i < xs.length ∧ keyAt xs i = p.toList) ∧ r.1.length = xs.length) ∨ ((∀ j, j < xs.length → keyAt xs j ≠ p.toList) ∧ r.1.length = xs.length + 1)) ∧ MemGood xs := by
  obtain ⟨hg, hp, hl, hh, i, hi, hlt, hc⟩ := hr.2 ht
  have hs := hg.size
  rcases hc with ⟨hi2, he, e⟩ | ⟨hge, h60, e⟩
  · have en : ∀ j, nodeAt r.1 j = if j = i then ⟨⟨p, v, g⟩, (nodeAt xs i).f1⟩ else nodeAt xs j := fun j => by rw [e]; exact node_set xs i j _ hi2
    have el : r.1.length = xs.length := by rw [e, List.length_set]
    have ek : ∀ j, keyAt r.1 j = keyAt xs j := fun j => by
      unfold keyAt; rw [en]
      by_cases hj : j = i
      · subst hj; rw [if_pos rfl]; exact he.symm
      · rw [if_neg hj]
    refine ⟨⟨by omega, fun j hj => ?_⟩, hp, ⟨i, by omega, by rw [en, if_pos rfl]⟩, fun j hj => ⟨j, by omega, ek j, fun hne => ?_⟩, .inl ⟨⟨i, hi2, he⟩, el⟩, hg⟩
    · have gj := hg.node j (by omega)
      refine ⟨?_, ?_, ?_, fun h0 => ?_⟩
      · rw [en]; by_cases hj2 : j = i
        · rw [if_pos hj2]; exact hp
        · rw [if_neg hj2]; exact gj.pair
      · rw [en]; by_cases hj2 : j = i
        · subst hj2; rw [if_pos rfl]; exact gj.low
        · rw [if_neg hj2]; exact gj.low
      · rw [en]; by_cases hj2 : j = i
        · subst hj2; rw [if_pos rfl]; exact gj.high
        · rw [if_neg hj2]; exact gj.high
      · have := gj.less h0
        have a := ek (j - 1); have b := ek j
        unfold keyAt at a b
        rw [a, b]; exact this
    · rw [en, if_neg (fun hj2 => by subst hj2; exact hne he)]
  · have en : ∀ j, nodeAt r.1 j = if j < i then nodeAt xs j else if j = i then ⟨⟨p, v, g⟩, h⟩ else nodeAt xs (j - 1) := fun j => by rw [e]; exact node_put xs i j _ hi
    have el : r.1.length = xs.length + 1 := by rw [e]; simp only [List.length_append, List.length_take, List.length_drop, List.length_cons, List.length_nil]; omega
    have hgt : ∀ j, i ≤ j → j < xs.length → Op.bytesLess p.toList (keyAt xs j) = true := fun j h1 h2 => by
      have h3 := hge (by omega)
      have h4 := bl_of h3.1 h3.2
      by_cases hj : j = i
      · subst hj; exact h4
      · exact bl_trans h4 (hg.lt' (by omega) h2)
    refine ⟨⟨by omega, fun j hj => ?_⟩, hp, ⟨i, by omega, by rw [en, if_neg (by omega), if_pos rfl]⟩, fun j hj => ?_, .inr ⟨fun j hj => ?_, el⟩, hg⟩
    · by_cases h1 : j < i
      · have gj := hg.node j (by omega)
        refine ⟨by rw [en, if_pos h1]; exact gj.pair, by rw [en, if_pos h1]; exact gj.low, by rw [en, if_pos h1]; exact gj.high, fun h0 => ?_⟩
        rw [en, en, if_pos h1, if_pos (by omega)]; exact gj.less h0
      · by_cases h2 : j = i
        · subst h2
          refine ⟨by rw [en, if_neg h1, if_pos rfl]; exact hp, by rw [en, if_neg h1, if_pos rfl]; exact hl, by rw [en, if_neg h1, if_pos rfl]; exact hh, fun h0 => ?_⟩
          rw [en, en, if_neg h1, if_pos rfl, if_pos (by omega)]; exact hlt _ (by omega)
        · have gj := hg.node (j - 1) (by omega)
          refine ⟨by rw [en, if_neg h1, if_neg h2]; exact gj.pair, by rw [en, if_neg h1, if_neg h2]; exact gj.low, by rw [en, if_neg h1, if_neg h2]; exact gj.high, fun h0 => ?_⟩
          rw [en (j - 1), en j, if_neg h1, if_neg h2, if_neg (by omega)]
          by_cases h3 : j - 1 = i
          · rw [if_pos h3]; exact hgt (j - 1) (by omega) (by omega)
          · rw [if_neg h3]; exact gj.less (by omega)
    · by_cases h1 : j < i
      · exact ⟨j, by omega, by unfold keyAt; rw [en, if_pos h1], fun _ => by rw [en, if_pos h1]⟩
      · refine ⟨j + 1, by omega, ?_, fun _ => ?_⟩
        · unfold keyAt; rw [en, if_neg (by omega), if_neg (by omega)]; rfl
        · rw [en, if_neg (by omega), if_neg (by omega)]; rfl
    · by_cases h1 : j < i
      · exact bl_ne (hlt j h1)
      · exact fun hq => bl_ne (hgt j (by omega) hj) hq.symm

theorem l1Str_some (b : List Int) (i x : Int) (l : List ByteArray) (hb : b.length ≤ 1048576) (hi : At b i) (hl : 0 < l.length) : ∃ v j y, spec_l1Str.f b i x l = some (v, j, y) ∧ v ∈ l ∧ At b j := by
  obtain ⟨v, j, y, e, v0, v1, _, hj⟩ := l1Below_some b i x (l.length : Int) hb hi
  have v1 := v1 (by omega)
  simp only [spec_l1Str.f, e, Option.bind_some]
  rw [if_pos v0, if_pos v1]
  refine ⟨_, _, _, rfl, ?_, hj⟩
  unfold rdOf
  rw [List.getD_eq_getElem?_getD, List.getElem?_eq_getElem (show v.toNat < l.length by omega)]
  exact List.getElem_mem _
theorem l4Key_some (b : List Int) (i x : Int) (hb : b.length ≤ 1048576) (hi : At b i) : ∃ v j y, spec_l4Key.f b i x = some (v, j, y) ∧ At b j := by
  simp only [spec_l4Key.f]
  have key : ∀ l : List ByteArray, 0 < l.length → ∃ v j y, ((spec_l1Str.f b i x l).bind fun bt => some (bt.1, bt.2.1, bt.2.2)) = some (v, j, y) ∧ At b j := by
    intro l hl
    obtain ⟨v, j, y, e, _, hj⟩ := l1Str_some b i x l hb hi hl
    exact ⟨v, j, y, by rw [e, Option.bind_some], hj⟩
  exact key _ (Nat.succ_pos _)

theorem l1Once_some (b : List Int) (i x n : Int) (hb : b.length ≤ 1048576) (hi : At b i) : ∃ v j y, spec_l1Once.f b i x n = some (v, j, y) ∧ At b j := by
  obtain ⟨v, j, y, e, _, _, _, hj⟩ := l1Below_some b i x n hb hi
  simp only [spec_l1Once.f, e, Option.bind_some]
  exact ⟨_, _, _, rfl, hj⟩
theorem l4Pair_some (b : List Int) (i x : Int) (hb : b.length ≤ 1048576) (hi : At b i) : ∃ p v g j y, spec_l4Pair.f b i x = some (p, v, g, j, y) ∧ At b j := by
  obtain ⟨s, j, y, e, hj⟩ := l4Key_some b i x hb hi
  obtain ⟨o, j2, y2, e2, hj2⟩ := l1Once_some b j y 5 hb hj
  simp only [spec_l4Pair.f, e, e2, Option.bind_some]
  by_cases ho : o = true
  · rw [if_pos ho]
    exact ⟨_, _, _, _, _, rfl, hj2⟩
  · rw [if_neg ho]
    have key : ∀ l : List ByteArray, 0 < l.length → ∃ p v g j y, ((spec_l1Str.f b j2 y2 l).bind fun bt149 => (some (s, bt149.1, o, bt149.2.1, bt149.2.2))) = some (p, v, g, j, y) ∧ At b j := by
      intro l hl
      obtain ⟨v, j3, y3, e3, _, hj3⟩ := l1Str_some b j2 y2 l hb hj2 hl
      exact ⟨_, _, _, _, _, by rw [e3, Option.bind_some], hj3⟩
    exact key _ (Nat.succ_pos _)
theorem l4PairAny_some (b : List Int) (i x : Int) (hb : b.length ≤ 1048576) (hi : At b i) : ∃ p v g j y, spec_l4PairAny.f b i x = some (p, v, g, j, y) ∧ At b j := by
  obtain ⟨p, v, g, j, y, e, hj⟩ := l4Pair_some b i x hb hi
  obtain ⟨o, j2, y2, e2, _, _, _, hj2⟩ := l1Below_some b j y 14 hb hj
  simp only [spec_l4PairAny.f, e, e2, Option.bind_some]
  by_cases h0 : o = 0
  · rw [if_pos h0]
    have key : ∀ l : List ByteArray, 0 < l.length → ∃ p' v' g' j y, ((spec_l1Str.f b j2 y2 l).bind fun bt165 => (some (bt165.1, v, g, bt165.2.1, bt165.2.2))) = some (p', v', g', j, y) ∧ At b j := by
      intro l hl
      obtain ⟨w, j3, y3, e3, _, hj3⟩ := l1Str_some b j2 y2 l hb hj2 hl
      exact ⟨_, _, _, _, _, by rw [e3, Option.bind_some], hj3⟩
    exact key _ (Nat.succ_pos _)
  · rw [if_neg h0]
    (repeat' split) <;> exact ⟨_, _, _, _, _, rfl, hj2⟩

theorem l1Int_some (b : List Int) (i x : Int) (l : List Int) (hb : b.length ≤ 1048576) (hi : At b i) (hl : 0 < l.length) : ∃ v j y, spec_l1Int.f b i x l = some (v, j, y) ∧ v ∈ l ∧ At b j := by
  obtain ⟨v, j, y, e, v0, v1, _, hj⟩ := l1Below_some b i x (l.length : Int) hb hi
  have v1 := v1 (by omega)
  simp only [spec_l1Int.f, e, Option.bind_some]
  rw [if_pos v0, if_pos v1]
  refine ⟨_, _, _, rfl, ?_, hj⟩
  unfold rd
  rw [List.getD_eq_getElem?_getD, List.getElem?_eq_getElem (show v.toNat < l.length by omega)]
  exact List.getElem_mem _

theorem PutSays.len {xs : List S35} {p v : ByteArray} {g : Bool} {h : Int} {r : List S35 × Bool} (hr : PutSays xs p v g h r) : r.1.length ≤ xs.length + 1 := by
  cases ht : r.2 with
  | false => rw [hr.1 ht]; omega
  | true =>
    obtain ⟨_, _, _, _, hc, _⟩ := put_good hr ht
    rcases hc with ⟨_, e⟩ | ⟨_, e⟩ <;> omega
theorem l4Draw_comes (b : List Int) (i x n : Int) (hb : b.length ≤ 1048576) (hi : At b i) (hn : n ≤ 1000) : Comes (fun r => r.1.length ≤ 1000 ∧ At b r.2.1) (fun k => spec_l4Draw.f k b i x n) := by
  have key : ∀ (d : Nat) (i x : Int) (xs : List S35), d ≤ 1000 → At b i → xs.length + d ≤ 1000 → Comes (fun r => r.1.length ≤ 1000 ∧ At b r.2.1) (fun k => spec_l4Draw.l0 k (d : Int) b i x xs) := by
    intro d
    induction d with
    | zero =>
      intro i x xs hd hi hl
      refine Comes.step (fun k => spec_l4Draw.l0.eq_2 ..) ?_
      have e1 : (((0 : Nat) : Int) > 0) = False := eq_false (by omega)
      simp only [e1, if_false]
      exact Comes.ret _ ⟨by dsimp only; omega, hi⟩
    | succ d ih =>
      intro i x xs hd hi hl
      refine Comes.step (fun k => spec_l4Draw.l0.eq_2 ..) ?_
      have e1 : (((d + 1 : Nat) : Int) > 0) = True := eq_true (by omega)
      have ew : wrap64 (((d + 1 : Nat) : Int) - 1) = (d : Int) := (wrap_id (by omega) (by omega)).trans (by omega)
      obtain ⟨p, v, g, j, y, e, hj⟩ := l4Pair_some b i x hb hi
      obtain ⟨t, j2, y2, e2, _, _, _, hj2⟩ := l1Below_some b j y 4 hb hj
      simp only [e1, if_true, e, e2, ew, Option.bind_some]
      obtain ⟨r, hr, h1, _⟩ := memPut_says xs (by omega) p v g (wrap64 (1 + t))
      have hl2 := hr.len
      exact Comes.bind (Q := fun q => q = r) ⟨r, rfl, h1⟩ (fun q hq => by subst hq; exact ih _ _ _ (by omega) hj2 (by omega))
  simp only [spec_l4Draw.f]
  obtain ⟨v, j, y, e, v0, v1, v2, hj⟩ := l1Below_some b i x n hb hi
  simp only [e, Option.bind_some]
  obtain ⟨d, rfl⟩ := Int.eq_ofNat_of_zero_le v0
  have hd : d ≤ 1000 := by
    by_cases h0 : 0 < n
    · have := v1 h0; omega
    · have := v2 (by omega); omega
  exact key d j y [] hd hj (by simp only [List.length_nil]; omega)
theorem l4DrawAny_comes (b : List Int) (i x n : Int) (hb : b.length ≤ 1048576) (hi : At b i) (hn : n ≤ 1000) : Comes (fun r => r.1.length ≤ 1001 ∧ At b r.2.1) (fun k => spec_l4DrawAny.f k b i x n) := by
  simp only [spec_l4DrawAny.f]
  refine Comes.bind (l4Draw_comes b i x n hb hi hn) (fun r hr => ?_)
  obtain ⟨v, j, y, e, _, _, _, hj⟩ := l1Below_some b r.2.1 r.2.2 12 hb hr.2
  obtain ⟨p, w, g, j2, y2, e2, hj2⟩ := l4PairAny_some b j y hb hj
  obtain ⟨t, j3, y3, e3, _, _, _, hj3⟩ := l1Below_some b j2 y2 6 hb hj2
  have c : (r.1.length < 2932031007402) = True := eq_true (by omega)
  simp only [e, e2, e3, c, if_true, Option.bind_some]
  exact Comes.ite (fun _ => Comes.ret _ ⟨by simp only [List.length_append, List.length_cons, List.length_nil]; omega, hj3⟩) (fun _ => Comes.ret _ ⟨by dsimp only; omega, hj⟩)

theorem drawMemPut_comes (b : List Int) (hb : b.length ≤ 1048576) : Comes (fun r => r.1.length ≤ 1001) (fun k => spec_DrawMemPut.f k b) := by
  have j1 : ∀ (i x : Int) (xs : List S35), At b i → xs.length ≤ 1001 → Comes (fun r => r.1.length ≤ 1001) (fun k => spec_DrawMemPut.j1 k b i x xs) := by
    intro i x xs hi hl
    refine Comes.step (fun k => spec_DrawMemPut.j1.eq_2 ..) ?_
    obtain ⟨p, v, g, j, y, e, hj⟩ := l4PairAny_some b i x hb hi
    obtain ⟨t, j2, y2, e2, _, _⟩ := l1Int_some b j y ([1, 2, 4, 4, 0, 5] : List Int) hb hj (by simp)
    simp only [e, e2, Option.bind_some]
    exact Comes.ret _ hl
  have l0 : ∀ (d n : Nat) (i x : Int) (xs : List S35), n + d = 60 → At b i → xs.length = n → Comes (fun r => r.1.length ≤ 1001) (fun k => spec_DrawMemPut.l0 k (n : Int) b i x xs) := by
    intro d
    induction d with
    | zero =>
      intro n i x xs hn hi hl
      refine Comes.step (fun k => spec_DrawMemPut.l0.eq_2 ..) ?_
      obtain ⟨t, j, y, e, v0, v1, _, hj⟩ := l1Below_some b i x 2 hb hi
      have v1 := v1 (by omega)
      have w1 : wrap64 (60 - t) = 60 - t := wrap_id (by omega) (by omega)
      have e1 : ((n : Int) < 60 - t) = False := eq_false (by omega)
      simp only [e, Option.bind_some, w1, e1, if_false]
      exact j1 _ _ _ hj (by omega)
    | succ d ih =>
      intro n i x xs hn hi hl
      refine Comes.step (fun k => spec_DrawMemPut.l0.eq_2 ..) ?_
      obtain ⟨t, j, y, e, v0, v1, _, hj⟩ := l1Below_some b i x 2 hb hi
      simp only [e, Option.bind_some, strOfNums_size, List.length_cons, List.length_nil]
      refine Comes.ite (fun _ => ?_) (fun _ => j1 _ _ _ hj (by omega))
      have ew : wrap64 ((n : Int) + 1) = ((n + 1 : Nat) : Int) := wrap_succ (n := 60) (by omega) (by omega)
      have c1 : (1 + (0 + 1 + 1) ≤ 9223372036854775807) = True := eq_true (by omega)
      have c2 : (xs.length < 2932031007402) = True := eq_true (by omega)
      simp only [c1, c2, ew, if_true]
      exact ih (n + 1) _ _ _ (by omega) hj (by simp [hl])
  simp only [spec_DrawMemPut.f]
  refine Comes.bind (l1New_comes b hb) (fun n hn => ?_)
  obtain ⟨n1, n2, n3⟩ := n
  dsimp only at hn
  obtain ⟨rfl, rfl⟩ := hn
  have hsz : ∃ t, spec_l1Size.f n1 14 = some t ∧ t ≤ 1000 := by
    simp only [spec_l1Size.f, wrap64]
    split
    · exact ⟨_, rfl, by omega⟩
    · exact ⟨_, rfl, by omega⟩
  obtain ⟨t, ht, hle⟩ := hsz
  simp only [ht, Option.bind_some]
  refine Comes.bind (l4DrawAny_comes n1 0 n3 t hb ⟨by omega, by omega⟩ hle) (fun r hr => ?_)
  obtain ⟨o, j, y, e, hj⟩ := l1Once_some n1 r.2.1 r.2.2 30 hb hr.2
  simp only [e, Option.bind_some]
  exact Comes.ite (fun _ => l0 60 0 _ _ [] (by omega) hj rfl) (fun _ => j1 _ _ _ hj hr.1)
theorem mem_law (xs ys : List S35) (hn : xs.length ≤ 1048576) (p v : ByteArray) (g : Bool) (hy : MemGood ys) (hp : pokR p v g = true) (hm : ∀ j, j < xs.length → ∃ m, m < ys.length ∧ keyAt ys m = keyAt xs j ∧ (keyAt xs j ≠ p.toList → (nodeAt ys m).f0 = (nodeAt xs j).f0)) (had : Bool) (hh : (((ys.length : Int) == (xs.length : Int)) == had) = true) :
    Ev (fun k => laws_FnMem.l0 k true had 0 xs p v g ys p v g) true := by
  have key : ∀ (d i : Nat), i + d = xs.length → Ev (fun k => laws_FnMem.l0 k true had (i : Int) xs p v g ys p v g) true := by
    intro d
    induction d with
    | zero =>
      intro i hi
      obtain ⟨K, h⟩ := impl_memOk_true ys hy
      dsimp only at h
      refine Ev.round (f := fun _ => some true) ⟨K, fun k hk => ?_⟩ (Ev.now true)
      have e1 : ((i : Int) < (xs.length : Int)) = False := eq_false (by omega)
      simp only [laws_FnMem.l0, e1, if_false, if_true, h k hk, Option.bind_some, pokR_eq', hp, hh]
      simp
    | succ d ih =>
      intro i hi
      obtain ⟨m, hml, hk1, hk2⟩ := hm i (by omega)
      obtain ⟨K, h⟩ := memGet_good hy (nodeAt xs i).f0.f0 m hml hk1
      dsimp only at h
      have e1 : ((i : Int) < (xs.length : Int)) = True := eq_true (by omega)
      have e2 : (0 ≤ (i : Int)) = True := eq_true (by omega)
      have ew : wrap64 ((i : Int) + 1) = ((i + 1 : Nat) : Int) := wrap_succ (n := xs.length) (by omega) (by omega)
      have j2 : Ev (fun k => laws_FnMem.j2 k true had (i : Int) false xs p v g ys p v g) true := by
        refine Ev.step (fun k => ?_) (ih (i + 1) (by omega))
        simp only [laws_FnMem.j2, ew, Bool.false_eq_true, if_false]
      refine Ev.round ⟨K, fun k hk => ?_⟩ j2
      simp only [laws_FnMem.l0, e1, e2, if_true, rd_node, h k hk, Option.bind_some]
      by_cases hq : (nodeAt xs i).f0.f0.toList = p.toList
      · rw [if_pos hq]
      · rw [if_neg hq, hk2 hq]
        simp
  exact key xs.length 0 (by omega)
theorem FnMem : laws_FnMem.Pure := by
  intro b hb
  refine Comes.true_ ?_
  simp only [laws_FnMem.f, laws_big.f, Option.bind_some]
  refine Comes.ite (fun _ => Comes.ret true rfl) (fun hn => ?_)
  have hl : b.length ≤ 1048576 := by
    have : ¬ ((b.length : Int) > 1048576) := by simpa using hn
    omega
  refine Comes.bind (drawMemPut_comes b hl) (fun d hd => ?_)
  obtain ⟨xs, p, v, g, h⟩ := d
  dsimp only at hd ⊢
  obtain ⟨r, hr, h1, h2⟩ := memPut_says xs (by omega) p v g h
  refine Comes.bind (Q := fun q => q = r) ⟨r, rfl, h2⟩ (fun q hq => ?_)
  subst hq
  refine Comes.bind (Q := fun q' => q' = q) ⟨q, rfl, h1⟩ (fun q' hq' => ?_)
  subst hq'
  simp only [bne_self_eq_false, Bool.false_eq_true, if_false]
  refine Comes.step (fun k => laws_FnMem.j0.eq_2 ..) ?_
  cases ht : q'.2 with
  | false =>
    have e := hr.1 ht
    simp only [Bool.not_false, if_true, beq_self_eq_true, e]
    exact Comes.ret _ rfl
  | true =>
    obtain ⟨hy, hp, ⟨i, hi, hx⟩, hm, hc, hg⟩ := put_good hr ht
    simp only [Bool.not_true, Bool.false_eq_true, if_false]
    have a1 := memGet_good hy p i hi (by unfold keyAt; rw [hx])
    rw [hx] at a1
    refine Comes.bind (Q := fun z => z = (p, v, g, true)) ⟨_, rfl, a1⟩ (fun z hz => ?_)
    subst hz
    rcases hc with ⟨⟨j, hj, hk⟩, hlen⟩ | ⟨hno, hlen⟩
    · refine Comes.bind (Q := fun z => z.2.2.2 = true) ⟨_, rfl, memGet_good hg p j hj hk⟩ (fun z hz => ?_)
      rw [hz]
      exact ⟨true, rfl, mem_law xs q'.1 (by omega) p v g hy hp hm true (by rw [hlen]; simp)⟩
    · refine Comes.bind (Q := fun z => z.2.2.2 = false) ⟨_, rfl, memGet_no xs (by omega) p hno⟩ (fun z hz => ?_)
      rw [hz]
      have hne : ((q'.1.length : Int) == (xs.length : Int)) = false := beq_eq_false_iff_ne.2 (by omega)
      exact ⟨true, rfl, mem_law xs q'.1 (by omega) p v g hy hp hm false (by rw [hne]; rfl)⟩

end Go.Proofs.Ytbepbgfkajnlbaa.MPureFnMem
