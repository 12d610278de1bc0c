/- Drawn lists merged have each key once, from the first list that has it; a range has just what is within. No condition. -/
import Derived.Test.YtbepbgfkajnlbaaMFnMergedDef
set_option linter.unusedVariables false
set_option linter.unusedSimpArgs false
namespace Go.Proofs.Ytbepbgfkajnlbaa.MPureFnMerged
open Go.RowKit Go.Proofs.Ytbepbgfkajnlbaa.MFnMerged Go.Proofs.YtbepbgfkajnlbaaW.PrintWords Go.Proofs.YtbepbgfkajnlbaaW.PrintLast Go.Proofs.YtbepbgfkajnlbaaW.PrintMore

theorem wrap_id {i : Int} (h0 : -9223372036854775808 ≤ i) (h1 : i ≤ 9223372036854775807) : wrap64 i = i := by unfold wrap64; omega
theorem wrap_succ {i n : Nat} (h : i < n) (hn : n ≤ 9223372036854775807) : wrap64 ((i : Int) + 1) = ((i + 1 : Nat) : Int) := by unfold wrap64; omega
theorem rd_nat (xs : List Int) (i : Nat) : rd xs (i : Int) = xs.getD i 0 := by simp [rd]
theorem take_set_succ {α : Type} (l : List α) (i : Nat) (x : α) (h : i < l.length) : (l.set i x).take (i + 1) = l.take i ++ [x] := by
  rw [List.take_succ_eq_append_getElem (by simpa using h), List.getElem_set_self, List.take_set_of_le (Nat.le_refl _)]
theorem take_succ_getD {α : Type} (l : List α) (i : Nat) (d : α) (h : i < l.length) : l.take (i + 1) = l.take i ++ [l.getD i d] := by
  rw [List.take_succ_eq_append_getElem h, List.getD_eq_getElem?_getD, List.getElem?_eq_getElem h]
  rfl
theorem take_all {α : Type} {l m : List α} {n : Nat} (h : l.take n = m) (hl : l.length = n) : l = m := by
  rw [← h, ← hl, List.take_length]
theorem wf_u8 {x : Int} (h : (Lit.int .u8 x).wf = true) : 0 ≤ x ∧ x ≤ 255 := by
  simp [Lit.wf, IntKind.min, IntKind.max, IntKind.signed, IntKind.bits] at h
  omega
theorem wf_i64 {x : Int} (h : (Lit.int .i64 x).wf = true) : -9223372036854775808 ≤ x ∧ x ≤ 9223372036854775807 := by
  simp [Lit.wf, IntKind.min, IntKind.max, IntKind.signed, IntKind.bits] at h
  omega

theorem fill_loop {β : Type} (L : Nat → List β → Int → Option (List β)) (n : Nat) (g : Nat → β) (z : β)
    (hs : ∀ (i : Nat) (out : List β) (r : List β), i < n → out.length = n → Ev (fun k => L k (out.set i (g i)) ((i + 1 : Nat) : Int)) r → Ev (fun k => L k out (i : Int)) r)
    (he : ∀ out : List β, out.length = n → Ev (fun k => L k out (n : Int)) out) : Ev (fun k => L k (List.replicate n z) 0) ((List.range n).map g) := by
  have key : ∀ (d i : Nat) (out : List β), i + d = n → out.length = n → out.take i = (List.range i).map g → Ev (fun k => L k out (i : Int)) ((List.range n).map g) := by
    intro d
    induction d with
    | zero =>
      intro i out hi hl ht
      have : i = n := by omega
      subst this
      have e := take_all ht hl
      rw [← e]
      exact he out hl
    | succ d ih =>
      intro i out hi hl ht
      refine hs i out _ (by omega) hl (ih (i + 1) _ (by omega) (by simp [hl]) ?_)
      rw [take_set_succ _ _ _ (by omega), ht, List.range_succ, List.map_append]
      rfl
  exact key n 0 _ (by omega) (by simp) (by simp)
/-- A row that is written from the left: element i becomes g i, and a state goes along. -/
theorem mark_loop {β σ : Type} (L : Nat → List β → σ → Int → Option (σ × List β)) (n : Nat) (g : Nat → β) (st : Nat → σ)
    (hs : ∀ (i : Nat) (out : List β) (r : σ × List β), i < n → out.length = n → Ev (fun k => L k (out.set i (g i)) (st (i + 1)) ((i + 1 : Nat) : Int)) r → Ev (fun k => L k out (st i) (i : Int)) r)
    (he : ∀ out : List β, out.length = n → Ev (fun k => L k out (st n) (n : Int)) (st n, out)) (l : List β) (hl : l.length = n) : Ev (fun k => L k l (st 0) 0) (st n, (List.range n).map g) := by
  have key : ∀ (d i : Nat) (out : List β), i + d = n → out.length = n → out.take i = (List.range i).map g → Ev (fun k => L k out (st i) (i : Int)) (st n, (List.range n).map g) := by
    intro d
    induction d with
    | zero =>
      intro i out hi hl ht
      have : i = n := by omega
      subst this
      have e := take_all ht hl
      rw [← e]
      exact he out hl
    | succ d ih =>
      intro i out hi hl ht
      refine hs i out _ (by omega) hl (ih (i + 1) _ (by omega) (by simp [hl]) ?_)
      rw [take_set_succ _ _ _ (by omega), ht, List.range_succ, List.map_append]
      rfl
  exact key n 0 _ (by omega) hl (by simp)
theorem scan_loop {ρ : Type} (g : Nat → Nat → Option ρ) (n : Nat) (r : ρ) (hs : ∀ i, i < n → Ev (g (i + 1)) r → Ev (g i) r) (he : Ev (g n) r) : Ev (g 0) r := by
  have key : ∀ (d i : Nat), i + d = n → Ev (g i) r := by
    intro d
    induction d with
    | zero => intro i hi; have : i = n := by omega
              subst this; exact he
    | succ d ih => intro i hi; exact hs i (by omega) (ih (i + 1) (by omega))
  exact key n 0 (by omega)
theorem range_map_get {α β : Type} (l : List α) (f : α → β) (d : α) : (List.range l.length).map (fun i => f (l.getD i d)) = l.map f := by
  apply List.ext_getElem?
  intro i
  rw [List.getElem?_map, List.getElem?_map]
  by_cases h : i < l.length
  · simp [h, List.getD_eq_getElem?_getD]
  · rw [List.getElem?_eq_none (by simp; omega), List.getElem?_eq_none (by omega)]
    rfl
theorem range_map_getD {β : Type} (n i : Nat) (g : Nat → β) (d : β) (h : i < n) : ((List.range n).map g).getD i d = g i := by
  simp [List.getD_eq_getElem?_getD, h]
theorem Ev.bind' {α β : Type} {g : Nat → Option α} {f : Nat → α → Option β} {a : α} {r : β} (h : Ev g a) (k : Ev (fun n => f n a) r) : Ev (fun n => (g n).bind (f n)) r := Ev.bind h k
theorem Ev.cond {α : Type} {g f : Nat → Option α} {r : α} (h : ∃ K, ∀ k, K ≤ k → g k = f k) (k : Ev f r) : Ev g r := by
  obtain ⟨K, h⟩ := h
  obtain ⟨K', k⟩ := k
  exact ⟨K + K', fun n hn => by rw [h n (by omega)]; exact k n (by omega)⟩
/-- One round: at n + 1 it is what it is at n of another. -/
theorem Ev.round {α : Type} {g f : Nat → Option α} {r : α} (h : ∃ K, ∀ k, K ≤ k → g (k + 1) = f k) (k : Ev f r) : Ev g r := by
  obtain ⟨K, h⟩ := h
  obtain ⟨K', k⟩ := k
  exact ⟨K + K' + 1, fun n hn => by
    obtain ⟨m, rfl⟩ : ∃ m, n = m + 1 := ⟨n - 1, by omega⟩
    rw [h m (by omega)]; exact k m (by omega)⟩
theorem Ev.ends {α : Type} {g : Nat → Option α} {r : α} (h : ∀ k, g (k + 1) = some r) : Ev g r := ⟨1, fun n hn => by
  obtain ⟨m, rfl⟩ : ∃ m, n = m + 1 := ⟨n - 1, by omega⟩
  exact h m⟩
theorem Ev.all {α : Type} {g : Nat → Option α} {r : α} (h : ∀ k, g k = some r) : Ev g r := ⟨0, fun n _ => h n⟩

/-- Both come to one answer, of which P holds. -/
def Both {α : Type} (P : α → Prop) (f g : Nat → Option α) : Prop := ∃ r, P r ∧ Ev f r ∧ Ev g r
namespace Both
variable {α β : Type} {P : α → Prop} {f f' g g' : Nat → Option α}
theorem step (h1 : ∀ k, f (k + 1) = f' k) (h2 : ∀ k, g (k + 1) = g' k) (h : Both P f' g') : Both P f g := by
  obtain ⟨r, hp, a, b⟩ := h
  exact ⟨r, hp, Ev.step h1 a, Ev.step h2 b⟩
theorem left (h1 : ∀ k, f (k + 1) = f' k) (h : Both P f' g) : Both P f g := by
  obtain ⟨r, hp, a, b⟩ := h
  exact ⟨r, hp, Ev.step h1 a, b⟩
theorem right (h2 : ∀ k, g (k + 1) = g' k) (h : Both P f g') : Both P f g := by
  obtain ⟨r, hp, a, b⟩ := h
  exact ⟨r, hp, a, Ev.step h2 b⟩
theorem ret (r : α) (h : P r) : Both P (fun _ => some r) (fun _ => some r) := ⟨r, h, Ev.now r, Ev.now r⟩
theorem ite {c : Prop} [Decidable c] (h1 : c → Both P f g) (h2 : ¬ c → Both P f' g') : Both P (fun k => if c then f k else f' k) (fun k => if c then g k else g' k) := by
  by_cases h : c
  · simpa only [if_pos h] using h1 h
  · simpa only [if_neg h] using h2 h
theorem bind {Q : β → Prop} {p q : Nat → Option β} {F G : Nat → β → Option α} (h : Both Q p q) (k : ∀ b, Q b → Both P (fun n => F n b) (fun n => G n b)) : Both P (fun n => (p n).bind (F n)) (fun n => (q n).bind (G n)) := by
  obtain ⟨b, hq, h1, h2⟩ := h
  obtain ⟨r, hp, a, c⟩ := k b hq
  exact ⟨r, hp, Ev.bind h1 a, Ev.bind h2 c⟩
theorem of {r : α} (h1 : Ev f r) (h2 : Ev g r) (hp : P r) : Both P f g := ⟨r, hp, h1, h2⟩
theorem eq {r : α} (h1 : Ev f r) (h2 : Ev g r) : Both (fun x => x = r) f g := ⟨r, rfl, h1, h2⟩
theorem any {Q : α → Prop} (h : Both Q f g) : Both (fun _ => True) f g := by
  obtain ⟨r, _, a, b⟩ := h
  exact ⟨r, trivial, a, b⟩
theorem mono {P' : α → Prop} (h : Both P f g) (hi : ∀ r, P r → P' r) : Both P' f g := by
  obtain ⟨r, hp, a, b⟩ := h
  exact ⟨r, hi r hp, a, b⟩
end Both
/-- It comes to an answer, of which P holds. -/
def Comes {α : Type} (P : α → Prop) (f : Nat → Option α) : Prop := ∃ r, P r ∧ Ev f r
namespace Comes
variable {α β : Type} {P : α → Prop} {f f' : Nat → Option α}
theorem step (h1 : ∀ k, f (k + 1) = f' k) (h : Comes P f') : Comes P f := by
  obtain ⟨r, hp, a⟩ := h
  exact ⟨r, hp, Ev.step h1 a⟩
theorem ret (r : α) (h : P r) : Comes P (fun _ => some r) := ⟨r, h, Ev.now r⟩
theorem ite {c : Prop} [Decidable c] (h1 : c → Comes P f) (h2 : ¬ c → Comes P f') : Comes P (fun k => if c then f k else f' k) := by
  by_cases h : c
  · simpa only [if_pos h] using h1 h
  · simpa only [if_neg h] using h2 h
theorem bind {Q : β → Prop} {p : Nat → Option β} {F : Nat → β → Option α} (h : Comes Q p) (k : ∀ b, Q b → Comes P (fun n => F n b)) : Comes P (fun n => (p n).bind (F n)) := by
  obtain ⟨b, hq, h1⟩ := h
  obtain ⟨r, hp, a⟩ := k b hq
  exact ⟨r, hp, Ev.bind h1 a⟩
theorem mono {P' : α → Prop} (h : Comes P f) (hi : ∀ r, P r → P' r) : Comes P' f := by
  obtain ⟨r, hp, a⟩ := h
  exact ⟨r, hi r hp, a⟩
theorem rounds (h : Comes P f) : ∃ k r, f k = some r ∧ P r := by
  obtain ⟨r, hp, a⟩ := h
  obtain ⟨k, hk⟩ := a.rounds
  exact ⟨k, r, hk, hp⟩
theorem true_ {f : Nat → Option Bool} (h : Comes (fun b => b = true) f) : ∃ k, f k = some true := by
  obtain ⟨k, r, hk, rfl⟩ := h.rounds
  exact ⟨k, hk⟩
theorem some_ (o : Option α) (r : α) (h : o = some r) (hp : P r) : Comes P (fun _ => o) := ⟨r, hp, Ev.all (fun _ => h)⟩
end Comes

theorem and255 (n : Int) : Go.bits .and .i64 n 255 = n % 256 := by
  have h255 : (BitVec.ofInt 64 255).toNat = 2 ^ 8 - 1 := by decide
  have key : (BitVec.ofInt 64 n &&& BitVec.ofInt 64 255).toNat = (n % ((2 ^ 64 : Nat) : Int)).toNat % 2 ^ 8 := by
    rw [BitVec.toNat_and, BitVec.toNat_ofInt, h255, Nat.and_two_pow_sub_one_eq_mod]
  show IntKind.i64.wrap ((BitVec.ofInt 64 n &&& BitVec.ofInt 64 255).toNat : Nat) = n % 256
  rw [key, IntKind.wrap_i64]
  omega
/-- A place in the drawn bytes. -/
def At (b : List Int) (i : Int) : Prop := 0 ≤ i ∧ i ≤ (b.length : Int)
theorem l1Byte_some (b : List Int) (i x : Int) (hb : b.length ≤ 1048576) (hi : At b i) : ∃ v j y, spec_l1Byte.f b i x = some (v, j, y) ∧ 0 ≤ v ∧ v ≤ 255 ∧ At b j := by
  unfold At at hi ⊢
  simp only [spec_l1Byte.f, and255]
  by_cases h : i < (b.length : Int)
  · rw [if_pos h, if_pos hi.1, wrap_id (i := i + 1) (by omega) (by omega)]
    exact ⟨_, _, _, rfl, by omega, by omega, by omega⟩
  · rw [if_neg h]
    exact ⟨_, _, _, rfl, by omega, by omega, hi⟩
theorem l1Below_some (b : List Int) (i x n : Int) (hb : b.length ≤ 1048576) (hi : At b i) : ∃ v j y, spec_l1Below.f b i x n = some (v, j, y) ∧ 0 ≤ v ∧ (0 < n → v < n) ∧ (n ≤ 0 → v = 0) ∧ At b j := by
  simp only [spec_l1Below.f]
  by_cases h0 : n ≤ 0
  · rw [if_pos h0]
    exact ⟨_, _, _, rfl, by omega, by omega, fun _ => rfl, hi⟩
  · rw [if_neg h0]
    have hp : 0 < n := by omega
    have hn : ¬ n = 0 := by omega
    by_cases h1 : n ≤ 256
    · rw [if_pos h1]
      obtain ⟨v, j, y, e, v0, v1, hj⟩ := l1Byte_some b i x hb hi
      simp only [e, Option.bind_some]
      rw [if_neg hn, Int.tmod_eq_emod_of_nonneg v0]
      exact ⟨_, _, _, rfl, Int.emod_nonneg _ hn, fun _ => Int.emod_lt_of_pos _ hp, fun h => absurd h h0, hj⟩
    · rw [if_neg h1]
      obtain ⟨v, j, y, e, v0, v1, hj⟩ := l1Byte_some b i x hb hi
      obtain ⟨v', j', y', e', v0', v1', hj'⟩ := l1Byte_some b j y hb hj
      obtain ⟨v2, j2, y2, e2, v02, v12, hj2⟩ := l1Byte_some b j' y' hb hj'
      simp only [e, e', e2, Option.bind_some]
      rw [if_neg hn, wrap_id (i := v * 65536) (by omega) (by omega), wrap_id (i := v' * 256) (by omega) (by omega), wrap_id (i := v * 65536 + v' * 256) (by omega) (by omega), wrap_id (i := v * 65536 + v' * 256 + v2) (by omega) (by omega), Int.tmod_eq_emod_of_nonneg (by omega)]
      exact ⟨_, _, _, rfl, Int.emod_nonneg _ hn, fun _ => Int.emod_lt_of_pos _ hp, fun h => absurd h h0, hj2⟩

theorem l1New_comes (b : List Int) (hb : b.length ≤ 1048576) : Comes (fun r => r.1 = b ∧ r.2.1 = 0) (fun k => spec_l1New.f k b) := by
  have key : ∀ (d i : Nat) (x : Int), i + d = b.length → Comes (fun r => r.1 = b ∧ r.2.1 = 0) (fun k => spec_l1New.l0 k b x (i : Int)) := by
    intro d
    induction d with
    | zero =>
      intro i x hi
      refine Comes.step (fun k => spec_l1New.l0.eq_2 ..) ?_
      have e1 : ((i : Int) < (b.length : Int)) = False := eq_false (by omega)
      simp only [e1, if_false]
      refine Comes.step (fun k => spec_l1New.j1.eq_2 ..) ?_
      simp only [Bool.false_eq_true, if_false]
      exact Comes.ret _ ⟨rfl, rfl⟩
    | succ d ih =>
      intro i x hi
      refine Comes.step (fun k => spec_l1New.l0.eq_2 ..) ?_
      have e1 : ((i : Int) < (b.length : Int)) = True := eq_true (by omega)
      have e2 : (0 ≤ (i : Int)) = True := eq_true (by omega)
      have ew : wrap64 ((i : Int) + 1) = ((i + 1 : Nat) : Int) := wrap_succ (n := b.length) (by omega) (by omega)
      simp only [e1, if_true]
      have join : ∀ q : Bool, Comes (fun r => r.1 = b ∧ r.2.1 = 0) (fun k => spec_l1New.j1 k b x (i : Int) q) := by
        intro q
        refine Comes.step (fun k => spec_l1New.j1.eq_2 ..) ?_
        simp only [e1, e2, if_true, ew]
        exact Comes.ite (fun _ => ih (i + 1) _ (by omega)) (fun _ => Comes.ret _ ⟨rfl, rfl⟩)
      exact join _
  exact key b.length 0 _ (by omega)

theorem l1In_eq (a b c : Int) : spec_l1In.f a b c = some (decide (b ≤ a) && decide (a ≤ c)) := by
  unfold spec_l1In.f
  by_cases h : a ≥ b
  · rw [if_pos h, decide_eq_true (show b ≤ a from h), Bool.true_and]
  · rw [if_neg h, decide_eq_false (show ¬ b ≤ a from h), Bool.false_and]

theorem in_eq (a b c : Int) : impl_in.f a b c = some (decide (b ≤ a) && decide (a ≤ c)) := by
  unfold impl_in.f
  by_cases h : a ≥ b
  · rw [if_pos h, decide_eq_true (show b ≤ a from h), Bool.true_and]
  · rw [if_neg h, decide_eq_false (show ¬ b ≤ a from h), Bool.false_and]

theorem ite_and (a b : Bool) : (if a = true then some b else some false) = some (a && b) := by cases a <;> rfl
theorem ite_some {c : Prop} [Decidable c] (a b : Bool) : (if c then some a else some b) = some (if c then a else b) := by split <;> rfl
theorem neq_self (b : Bool) : (if (b != b) = true then (some false : Option Bool) else some true) = some true := by cases b <;> rfl

theorem pairOk_eq (a b : ByteArray) (c : Bool) : impl_PairOk.f a b c = spec_PairOk.f a b c := by
  simp only [impl_PairOk.f, spec_PairOk.f, impl_keyOk.f, in_eq, l1In_eq, Option.bind_some]
theorem pairOk_some (a b : ByteArray) (c : Bool) : ∃ r, spec_PairOk.f a b c = some r := by
  simp only [spec_PairOk.f, l1In_eq, Option.bind_some]
  (repeat' split) <;> exact ⟨_, rfl⟩

theorem memOk1_comes (xs : List S35) (hn : xs.length ≤ 1048576) : Comes (fun r => r = true → xs.length ≤ 60) (fun k => spec_MemOk.f k xs) := by
  have j1 : ∀ (i : Nat) (b : Bool), i < xs.length → Comes (fun r => r = true → xs.length ≤ 60) (fun k => spec_MemOk.l0 k ((i + 1 : Nat) : Int) xs) → Comes (fun r => r = true → xs.length ≤ 60) (fun k => spec_MemOk.j1 k (i : Int) b xs) := by
    intro i b hi h
    refine Comes.step (fun k => spec_MemOk.j1.eq_2 ..) ?_
    have ew : wrap64 ((i : Int) + 1) = ((i + 1 : Nat) : Int) := wrap_succ (n := xs.length) (by omega) (by omega)
    simp only [ew]
    exact Comes.ite (fun _ => Comes.ret _ (fun h => by simp at h)) (fun _ => h)
  have key : ∀ (d i : Nat), i + d = xs.length → Comes (fun r => r = true → xs.length ≤ 60) (fun k => spec_MemOk.l0 k (i : Int) xs) := by
    intro d
    induction d with
    | zero =>
      intro i hi
      refine Comes.step (fun k => spec_MemOk.l0.eq_2 ..) ?_
      have e1 : ((i : Int) < (xs.length : Int)) = False := eq_false (by omega)
      simp only [e1, if_false]
      exact Comes.ret _ (fun h => by have h := of_decide_eq_true h; omega)
    | succ d ih =>
      intro i hi
      have n1 := fun b => j1 i b (by omega) (ih (i + 1) (by omega))
      refine Comes.step (fun k => spec_MemOk.l0.eq_2 ..) ?_
      have e1 : ((i : Int) < (xs.length : Int)) = True := eq_true (by omega)
      have e2 : (0 ≤ (i : Int)) = True := eq_true (by omega)
      simp only [e1, e2, if_true, l1In_eq]
      obtain ⟨b, hb⟩ := pairOk_some (rd_T35 xs (i : Int)).f0.f0 (rd_T35 xs (i : Int)).f0.f1 (rd_T35 xs (i : Int)).f0.f2
      simp only [hb, Option.bind_some]
      refine Comes.ite (fun _ => Comes.ite (fun _ => Comes.ite (fun hp => ?_) (fun _ => n1 _)) (fun _ => n1 _)) (fun _ => n1 _)
      have ew2 : wrap64 ((i : Int) - 1) = (i : Int) - 1 := wrap_id (by omega) (by omega)
      have e3 : (0 ≤ (i : Int) - 1) = True := eq_true (by omega)
      have e4 : ((i : Int) - 1 < (xs.length : Int)) = True := eq_true (by omega)
      simp only [ew2, e3, e4, if_true]
      exact n1 _
  exact key xs.length 0 (by omega)
theorem memPut1_comes (xs : List S35) (hn : xs.length ≤ 1048576) (p v : ByteArray) (g : Bool) (h : Int) : Comes (fun r => r.1.length ≤ xs.length + 1) (fun k => spec_MemPut.f k xs p v g h)  := by
  have j3 : xs.length ≤ 60 → ∀ (i : Nat) (b : Bool), i ≤ xs.length → (b = true → i < xs.length) → Comes (fun r => r.1.length ≤ xs.length + 1) (fun k => spec_MemPut.j3 k h (i : Int) b p v g xs)  := by
    intro h60 i b hi hb
    refine Comes.step (fun k => spec_MemPut.j3.eq_2 ..) ?_
    have e2 : (0 ≤ (i : Int)) = True := eq_true (by omega)
    have e3 : ((i : Int) ≤ (xs.length : Int)) = True := eq_true (by omega)
    refine Comes.ite (fun hbt => ?_) (fun hbf => ?_)
    · have e1 : ((i : Int) < (xs.length : Int)) = True := eq_true (by have := hb hbt; omega)
      simp only [e1, e2, if_true]
      exact Comes.ret _ (by simp only [List.length_set]; omega)
    · by_cases hc : (xs.length : Int) = 60
      · have q1 : ((xs.length : Int) ≥ 60) = True := eq_true (by omega)
        have q2 : ((xs.length : Int) = 60) = True := eq_true hc
        simp only [q1, q2, if_true]
        exact Comes.ret _ (by dsimp only; omega)
      · have q1 : ((xs.length : Int) ≥ 60) = False := eq_false (by omega)
        have q2 : ((xs.length : Int) = 60) = False := eq_false hc
        have l1 : (xs.take i).length = i := by rw [List.length_take]; omega
        have l2 : (xs.drop i).length = xs.length - i := List.length_drop
        simp only [q1, q2, e2, e3, if_true, if_false, Option.bind_some, Int.toNat_natCast, List.nil_append, List.length_nil, List.length_append, List.length_cons, l1, l2]
        have z1 : (0 + i < 2932031007402) = True := eq_true (by omega)
        have z2 : (i < 2932031007402) = True := eq_true (by omega)
        have z3 : (i + (0 + 1) < 2932031007402) = True := eq_true (by omega)
        have z4 : (i + (0 + 1) + (xs.length - i) < 2932031007402) = True := eq_true (by omega)
        have z5 : (0 + i + (0 + 1) + (xs.length - i) < 2932031007402) = True := eq_true (by omega)
        have z6 : (0 + i + (0 + 1) < 2932031007402) = True := eq_true (by omega)
        simp only [z1, z2, z3, z4, z5, z6, if_true]
        refine Comes.ret _ ?_
        dsimp only
        rw [List.length_append, List.length_append, l1, l2]
        simp only [List.length_cons, List.length_nil]
        omega
  have l0 : xs.length ≤ 60 → ∀ (d i : Nat), i + d = xs.length → Comes (fun r => r.1.length ≤ xs.length + 1) (fun k => spec_MemPut.l0 k h (i : Int) p v g xs)  := by
    intro h60 d
    induction d with
    | zero =>
      intro i hi
      refine Comes.step (fun k => spec_MemPut.l0.eq_2 ..) ?_
      have e1 : ((i : Int) < (xs.length : Int)) = False := eq_false (by omega)
      simp only [e1, if_false]
      refine Comes.step (fun k => spec_MemPut.j2.eq_2 ..) ?_
      simp only [e1, if_false, Bool.false_eq_true]
      exact j3 h60 i false (by omega) (by simp)
    | succ d ih =>
      intro i hi
      refine Comes.step (fun k => spec_MemPut.l0.eq_2 ..) ?_
      have e1 : ((i : Int) < (xs.length : Int)) = True := eq_true (by omega)
      have e2 : (0 ≤ (i : Int)) = True := eq_true (by omega)
      have ew : wrap64 ((i : Int) + 1) = ((i + 1 : Nat) : Int) := wrap_succ (n := xs.length) (by omega) (by omega)
      simp only [e1, e2, if_true]
      refine Comes.step (fun k => spec_MemPut.j2.eq_2 ..) ?_
      simp only [e1, e2, ew, if_true]
      exact Comes.ite (fun _ => ih (i + 1) (by omega)) (fun _ => j3 h60 i _ (by omega) (fun _ => by omega))
  have out : Comes (fun r => r.1.length ≤ xs.length + 1) (fun k => spec_MemPut.j0 k h true p v g xs)  := by
    refine Comes.step (fun k => spec_MemPut.j0.eq_2 ..) ?_
    simp only [if_true]
    exact Comes.ret _ (by dsimp only; omega)
  have c1 : (([] : List S35).length + xs.length < 2932031007402) = True := eq_true (by simp only [List.length_nil]; omega)
  simp only [spec_MemPut.f, Option.bind_some, c1, if_true, List.nil_append, l1In_eq]
  refine Comes.bind (memOk1_comes xs hn) (fun b hb => ?_)
  refine Comes.ite (fun hbt => ?_) (fun _ => out)
  obtain ⟨q, hq⟩ := pairOk_some p v g
  simp only [hq, Option.bind_some]
  refine Comes.ite (fun _ => ?_) (fun _ => out)
  refine Comes.step (fun k => spec_MemPut.j0.eq_2 ..) ?_
  exact Comes.ite (fun _ => Comes.ret _ (by simp)) (fun _ => l0 (hb hbt) xs.length 0 (by omega))

theorem l1Str_some (b : List Int) (i x : Int) (l : List ByteArray) (hb : b.length ≤ 1048576) (hi : At b i) (hl : 0 < l.length) : ∃ v j y, spec_l1Str.f b i x l = some (v, j, y) ∧ v ∈ l ∧ At b j := by
  obtain ⟨v, j, y, e, v0, v1, _, hj⟩ := l1Below_some b i x (l.length : Int) hb hi
  have v1 := v1 (by omega)
  simp only [spec_l1Str.f, e, Option.bind_some]
  rw [if_pos v0, if_pos v1]
  refine ⟨_, _, _, rfl, ?_, hj⟩
  unfold rdOf
  rw [List.getD_eq_getElem?_getD, List.getElem?_eq_getElem (show v.toNat < l.length by omega)]
  exact List.getElem_mem _
theorem l4Key_some (b : List Int) (i x : Int) (hb : b.length ≤ 1048576) (hi : At b i) : ∃ v j y, spec_l4Key.f b i x = some (v, j, y) ∧ At b j := by
  simp only [spec_l4Key.f]
  have key : ∀ l : List ByteArray, 0 < l.length → ∃ v j y, ((spec_l1Str.f b i x l).bind fun bt => some (bt.1, bt.2.1, bt.2.2)) = some (v, j, y) ∧ At b j := by
    intro l hl
    obtain ⟨v, j, y, e, _, hj⟩ := l1Str_some b i x l hb hi hl
    exact ⟨v, j, y, by rw [e, Option.bind_some], hj⟩
  exact key _ (Nat.succ_pos _)

theorem l1Once_some (b : List Int) (i x n : Int) (hb : b.length ≤ 1048576) (hi : At b i) : ∃ v j y, spec_l1Once.f b i x n = some (v, j, y) ∧ At b j := by
  obtain ⟨v, j, y, e, _, _, _, hj⟩ := l1Below_some b i x n hb hi
  simp only [spec_l1Once.f, e, Option.bind_some]
  exact ⟨_, _, _, rfl, hj⟩
theorem l4Pair_some (b : List Int) (i x : Int) (hb : b.length ≤ 1048576) (hi : At b i) : ∃ p v g j y, spec_l4Pair.f b i x = some (p, v, g, j, y) ∧ At b j := by
  obtain ⟨s, j, y, e, hj⟩ := l4Key_some b i x hb hi
  obtain ⟨o, j2, y2, e2, hj2⟩ := l1Once_some b j y 5 hb hj
  simp only [spec_l4Pair.f, e, e2, Option.bind_some]
  by_cases ho : o = true
  · rw [if_pos ho]
    exact ⟨_, _, _, _, _, rfl, hj2⟩
  · rw [if_neg ho]
    have key : ∀ l : List ByteArray, 0 < l.length → ∃ p v g j y, ((spec_l1Str.f b j2 y2 l).bind fun bt149 => (some (s, bt149.1, o, bt149.2.1, bt149.2.2))) = some (p, v, g, j, y) ∧ At b j := by
      intro l hl
      obtain ⟨v, j3, y3, e3, _, hj3⟩ := l1Str_some b j2 y2 l hb hj2 hl
      exact ⟨_, _, _, _, _, by rw [e3, Option.bind_some], hj3⟩
    exact key _ (Nat.succ_pos _)
theorem l4PairAny_some (b : List Int) (i x : Int) (hb : b.length ≤ 1048576) (hi : At b i) : ∃ p v g j y, spec_l4PairAny.f b i x = some (p, v, g, j, y) ∧ At b j := by
  obtain ⟨p, v, g, j, y, e, hj⟩ := l4Pair_some b i x hb hi
  obtain ⟨o, j2, y2, e2, _, _, _, hj2⟩ := l1Below_some b j y 14 hb hj
  simp only [spec_l4PairAny.f, e, e2, Option.bind_some]
  by_cases h0 : o = 0
  · rw [if_pos h0]
    have key : ∀ l : List ByteArray, 0 < l.length → ∃ p' v' g' j y, ((spec_l1Str.f b j2 y2 l).bind fun bt165 => (some (bt165.1, v, g, bt165.2.1, bt165.2.2))) = some (p', v', g', j, y) ∧ At b j := by
      intro l hl
      obtain ⟨w, j3, y3, e3, _, hj3⟩ := l1Str_some b j2 y2 l hb hj2 hl
      exact ⟨_, _, _, _, _, by rw [e3, Option.bind_some], hj3⟩
    exact key _ (Nat.succ_pos _)
  · rw [if_neg h0]
    (repeat' split) <;> exact ⟨_, _, _, _, _, rfl, hj2⟩

theorem l4Draw_comes (b : List Int) (i x n : Int) (hb : b.length ≤ 1048576) (hi : At b i) (hn : n ≤ 1000) : Comes (fun r => r.1.length ≤ 1000 ∧ At b r.2.1) (fun k => spec_l4Draw.f k b i x n) := by
  have key : ∀ (d : Nat) (i x : Int) (xs : List S35), d ≤ 1000 → At b i → xs.length + d ≤ 1000 → Comes (fun r => r.1.length ≤ 1000 ∧ At b r.2.1) (fun k => spec_l4Draw.l0 k (d : Int) b i x xs) := by
    intro d
    induction d with
    | zero =>
      intro i x xs hd hi hl
      refine Comes.step (fun k => spec_l4Draw.l0.eq_2 ..) ?_
      have e1 : (((0 : Nat) : Int) > 0) = False := eq_false (by omega)
      simp only [e1, if_false]
      exact Comes.ret _ ⟨by dsimp only; omega, hi⟩
    | succ d ih =>
      intro i x xs hd hi hl
      refine Comes.step (fun k => spec_l4Draw.l0.eq_2 ..) ?_
      have e1 : (((d + 1 : Nat) : Int) > 0) = True := eq_true (by omega)
      have ew : wrap64 (((d + 1 : Nat) : Int) - 1) = (d : Int) := (wrap_id (by omega) (by omega)).trans (by omega)
      obtain ⟨p, v, g, j, y, e, hj⟩ := l4Pair_some b i x hb hi
      obtain ⟨t, j2, y2, e2, _, _, _, hj2⟩ := l1Below_some b j y 4 hb hj
      simp only [e1, if_true, e, e2, ew, Option.bind_some]
      obtain ⟨r, hl2, h1⟩ := memPut1_comes xs (by omega) p v g (wrap64 (1 + t))
      exact Comes.bind (Q := fun q => q = r) ⟨r, rfl, h1⟩ (fun q hq => by subst hq; exact ih _ _ _ (by omega) hj2 (by omega))
  simp only [spec_l4Draw.f]
  obtain ⟨v, j, y, e, v0, v1, v2, hj⟩ := l1Below_some b i x n hb hi
  simp only [e, Option.bind_some]
  obtain ⟨d, rfl⟩ := Int.eq_ofNat_of_zero_le v0
  have hd : d ≤ 1000 := by
    by_cases h0 : 0 < n
    · have := v1 h0; omega
    · have := v2 (by omega); omega
  exact key d j y [] hd hj (by simp only [List.length_nil]; omega)

theorem bl_total : ∀ a b : List UInt8, (Op.bytesLess a b || a == b) = !(Op.bytesLess b a)
  | [], [] => rfl
  | [], _ :: _ => rfl
  | _ :: _, [] => rfl
  | a :: x, b :: y => by
    have ih := bl_total x y
    simp only [Op.bytesLess]
    by_cases h1 : a < b
    · have h2 : ¬ b < a := fun h => by simp only [UInt8.lt_iff_toNat_lt] at h1 h; omega
      have h3 : ¬ (b = a) := fun h => by subst h; simp only [UInt8.lt_iff_toNat_lt] at h1; omega
      simp [h1, h2, h3]
    · by_cases h2 : b < a
      · have h3 : ¬ (a = b) := fun h => by subst h; simp only [UInt8.lt_iff_toNat_lt] at h2; omega
        simp [h1, h2, h3]
      · have h3 : a = b := by
          apply UInt8.toNat_inj.1
          simp only [UInt8.lt_iff_toNat_lt] at h1 h2
          omega
        subst h3
        simpa using ih
theorem bl_irrefl (a : List UInt8) : Op.bytesLess a a = false := by
  have h := bl_total a a
  simp at h
  cases hq : Op.bytesLess a a with
  | false => rfl
  | true => rw [hq] at h; simp at h
theorem bl_ne {a b : List UInt8} (h : Op.bytesLess a b = true) : a ≠ b := fun e => by subst e; rw [bl_irrefl] at h; simp at h
theorem bl_of {a b : List UInt8} (h : Op.bytesLess a b = false) (hne : a ≠ b) : Op.bytesLess b a = true := by
  have t := bl_total a b
  rw [h, beq_eq_false_iff_ne.2 hne] at t
  simpa using t.symm
theorem bl_trans : ∀ {a b c : List UInt8}, Op.bytesLess a b = true → Op.bytesLess b c = true → Op.bytesLess a c = true
  | _, _, [], _, h2 => by rename_i a b _; cases b <;> simp [Op.bytesLess] at h2
  | [], _, _ :: _, _, _ => rfl
  | a :: x, [], c :: z, h1, _ => by simp [Op.bytesLess] at h1
  | a :: x, b :: y, c :: z, h1, h2 => by
    have ih := @bl_trans x y z
    simp only [Op.bytesLess] at h1 h2 ⊢
    by_cases h3 : a < b
    · by_cases h4 : b < c
      · have : a < c := by simp only [UInt8.lt_iff_toNat_lt] at *; omega
        simp [this]
      · by_cases h5 : b = c
        · subst h5; simp [h3]
        · simp [h4, h5] at h2
    · by_cases h5 : a = b
      · subst h5
        by_cases h4 : a < c
        · simp [h4]
        · by_cases h6 : a = c
          · subst h6; simp [h3] at h1 h2 ⊢; exact ih h1 h2
          · simp [h4, h6] at h2
      · simp [h3, h5] at h1

abbrev kk (x : S33) : List UInt8 := x.f0.toList
def ltk (a b : S33) : Prop := Op.bytesLess (kk a) (kk b) = true
theorem ltk_trans {a b c : S33} (h1 : ltk a b) (h2 : ltk b c) : ltk a c := bl_trans h1 h2
theorem ltk_ne {a b : S33} (h : ltk a b) : kk a ≠ kk b := bl_ne h
theorem ltk_irr {a : S33} (h : ltk a a) : False := bl_ne h rfl
theorem ltk_of {a b : S33} (h : ¬ ltk a b) (hne : kk a ≠ kk b) : ltk b a := bl_of (by simpa [ltk] using h) hne
abbrev Asc (l : List S33) : Prop := l.Pairwise ltk
theorem rdP_drop {l : List S33} {i : Nat} (h : i < l.length) : l.drop i = rd_T33 l (i : Int) :: l.drop (i + 1) := by
  rw [List.drop_eq_getElem_cons h]
  congr 1
  simp [rd_T33, List.getD_eq_getElem?_getD, List.getElem?_eq_getElem h]
/-- Two lists merged; the first one counts. -/
def mg : List S33 → List S33 → List S33
  | [], b => b
  | x :: a, [] => x :: a
  | x :: a, y :: b => if Op.bytesLess (kk x) (kk y) = true then x :: mg a (y :: b) else if Op.bytesLess (kk y) (kk x) = true then y :: mg (x :: a) b else x :: mg a b
termination_by a b => a.length + b.length
theorem mg_nil (b : List S33) : mg [] b = b := by rw [mg]
theorem mg_nil2 (a : List S33) : mg a [] = a := by cases a <;> rw [mg]
theorem mg_cons (x y : S33) (a b : List S33) : mg (x :: a) (y :: b) = if Op.bytesLess (kk x) (kk y) = true then x :: mg a (y :: b) else if Op.bytesLess (kk y) (kk x) = true then y :: mg (x :: a) b else x :: mg a b := by rw [mg]
theorem mg_facts : ∀ (d : Nat) (a b : List S33), a.length + b.length = d → Asc a → Asc b → Asc (mg a b) ∧ (∀ q, q ∈ mg a b ↔ q ∈ a ∨ (q ∈ b ∧ ∀ x ∈ a, kk x ≠ kk q)) ∧ (mg a b).length ≤ a.length + b.length := by
  intro d
  induction d using Nat.strongRecOn with
  | _ d ih =>
    intro a b hd ha hb
    match a, b, hd, ha, hb with
    | [], b, _, _, hb => rw [mg_nil]; exact ⟨hb, fun q => by simp, by simp⟩
    | x :: a, [], _, ha, _ => rw [mg_nil2]; exact ⟨ha, fun q => by simp, by simp⟩
    | x :: a, y :: b, hd, ha, hb =>
      have hxa := List.pairwise_cons.1 ha
      have hyb := List.pairwise_cons.1 hb
      simp only [List.length_cons] at hd
      rw [mg_cons]
      by_cases h1 : Op.bytesLess (kk x) (kk y) = true
      · rw [if_pos h1]
        obtain ⟨i1, i2, i3⟩ := ih (a.length + (y :: b).length) (by simp only [List.length_cons]; omega) a (y :: b) rfl hxa.2 hb
        have hl : ∀ q ∈ y :: b, ltk x q := fun q hq => by
          rcases List.mem_cons.1 hq with rfl | hq
          · exact h1
          · exact ltk_trans h1 (hyb.1 q hq)
        refine ⟨List.pairwise_cons.2 ⟨fun q hq => ?_, i1⟩, fun q => ?_, by simp only [List.length_cons] at i3 ⊢; omega⟩
        · rcases (i2 q).1 hq with hq | hq
          · exact hxa.1 q hq
          · exact hl q hq.1
        · rw [List.mem_cons (b := x) (l := mg a (y :: b)), i2, List.mem_cons (b := x) (l := a)]
          constructor
          · rintro (h | h | h)
            · exact .inl (.inl h)
            · exact .inl (.inr h)
            · exact .inr ⟨h.1, fun z hz => by
                rcases List.mem_cons.1 hz with rfl | hz
                · exact ltk_ne (hl q h.1)
                · exact h.2 z hz⟩
          · rintro ((h | h) | h)
            · exact .inl h
            · exact .inr (.inl h)
            · exact .inr (.inr ⟨h.1, fun z hz => h.2 z (List.mem_cons_of_mem _ hz)⟩)
      · rw [if_neg h1]
        by_cases h2 : Op.bytesLess (kk y) (kk x) = true
        · rw [if_pos h2]
          obtain ⟨i1, i2, i3⟩ := ih ((x :: a).length + b.length) (by simp only [List.length_cons]; omega) (x :: a) b rfl ha hyb.2
          have hl : ∀ q ∈ x :: a, ltk y q := fun q hq => by
            rcases List.mem_cons.1 hq with rfl | hq
            · exact h2
            · exact ltk_trans h2 (hxa.1 q hq)
          refine ⟨List.pairwise_cons.2 ⟨fun q hq => ?_, i1⟩, fun q => ?_, by simp only [List.length_cons] at i3 ⊢; omega⟩
          · rcases (i2 q).1 hq with hq | hq
            · exact hl q hq
            · exact hyb.1 q hq.1
          · rw [List.mem_cons, i2, List.mem_cons (a := q) (b := y)]
            constructor
            · rintro (rfl | h | h)
              · exact .inr ⟨.inl rfl, fun z hz => (ltk_ne (hl z hz)).symm⟩
              · exact .inl h
              · exact .inr ⟨.inr h.1, h.2⟩
            · rintro (h | ⟨h | h, h3⟩)
              · exact .inr (.inl h)
              · exact .inl h
              · exact .inr (.inr ⟨h, h3⟩)
        · rw [if_neg h2]
          have hk : kk x = kk y := Classical.byContradiction fun hne => h2 (ltk_of (a := x) (b := y) h1 hne)
          obtain ⟨i1, i2, i3⟩ := ih (a.length + b.length) (by omega) a b rfl hxa.2 hyb.2
          have hl : ∀ q ∈ b, ltk x q := fun q hq => by
            have := hyb.1 q hq
            unfold ltk at this ⊢
            rw [hk]
            exact this
          refine ⟨List.pairwise_cons.2 ⟨fun q hq => ?_, i1⟩, fun q => ?_, by simp only [List.length_cons] at i3 ⊢; omega⟩
          · rcases (i2 q).1 hq with hq | hq
            · exact hxa.1 q hq
            · exact hl q hq.1
          · rw [List.mem_cons, i2, List.mem_cons, List.mem_cons]
            constructor
            · rintro (h | h | h)
              · exact .inl (.inl h)
              · exact .inl (.inr h)
              · exact .inr ⟨.inr h.1, fun z hz => by
                  rcases List.mem_cons.1 hz with rfl | hz
                  · exact ltk_ne (hl q h.1)
                  · exact h.2 z hz⟩
            · rintro ((h | h) | ⟨h | h, h3⟩)
              · exact .inl h
              · exact .inr (.inl h)
              · exact absurd (hk.trans (by rw [h])) (h3 x (List.mem_cons_self ..))
              · exact .inr (.inr ⟨h, fun z hz => h3 z (List.mem_cons_of_mem _ hz)⟩)
theorem asc_ext : ∀ (l1 l2 : List S33), Asc l1 → Asc l2 → (∀ q, q ∈ l1 ↔ q ∈ l2) → l1 = l2
  | [], [], _, _, _ => rfl
  | [], y :: b, _, _, h => absurd ((h y).2 (List.mem_cons_self ..)) (by simp)
  | x :: a, [], _, _, h => absurd ((h x).1 (List.mem_cons_self ..)) (by simp)
  | x :: a, y :: b, h1, h2, h => by
    have hx := List.pairwise_cons.1 h1
    have hy := List.pairwise_cons.1 h2
    have hxy : x = y := by
      rcases List.mem_cons.1 ((h x).1 (List.mem_cons_self ..)) with e | e
      · exact e
      · rcases List.mem_cons.1 ((h y).2 (List.mem_cons_self ..)) with e2 | e2
        · exact e2.symm
        · exact (ltk_irr (ltk_trans (hy.1 x e) (hx.1 y e2))).elim
    subst hxy
    congr 1
    refine asc_ext a b hx.2 hy.2 (fun q => ⟨fun hq => ?_, fun hq => ?_⟩)
    · rcases List.mem_cons.1 ((h q).1 (List.mem_cons_of_mem _ hq)) with e | e
      · subst e; exact (ltk_irr (hx.1 q hq)).elim
      · exact e
    · rcases List.mem_cons.1 ((h q).2 (List.mem_cons_of_mem _ hq)) with e | e
      · subst e; exact (ltk_irr (hy.1 q hq)).elim
      · exact e
/-- The pair that a key has: of the first list that has the key. -/
def Sel : List (List S33) → S33 → Prop
  | [], _ => False
  | l :: ls, q => q ∈ l ∨ ((∀ x ∈ l, kk x ≠ kk q) ∧ Sel ls q)
def tot : List (List S33) → Nat
  | [] => 0
  | l :: ls => l.length + tot ls
theorem fold_facts : ∀ (ls : List (List S33)) (acc : List S33), Asc acc → (∀ l ∈ ls, Asc l) → Asc (ls.foldl mg acc) ∧ (∀ q, q ∈ ls.foldl mg acc ↔ q ∈ acc ∨ ((∀ x ∈ acc, kk x ≠ kk q) ∧ Sel ls q)) ∧ (ls.foldl mg acc).length ≤ acc.length + tot ls
  | [], acc, h, _ => ⟨h, fun q => by simp [Sel], by simp [tot]⟩
  | l :: ls, acc, h, hl => by
    obtain ⟨m1, m2, m3⟩ := mg_facts _ acc l rfl h (hl l (List.mem_cons_self ..))
    obtain ⟨i1, i2, i3⟩ := fold_facts ls (mg acc l) m1 (fun x hx => hl x (List.mem_cons_of_mem _ hx))
    refine ⟨i1, fun q => ?_, by simp only [List.foldl_cons, tot]; omega⟩
    rw [List.foldl_cons, i2, m2]
    have hk : (∀ x ∈ mg acc l, kk x ≠ kk q) ↔ (∀ x ∈ acc, kk x ≠ kk q) ∧ (∀ x ∈ l, kk x ≠ kk q) := by
      constructor
      · intro hm
        have ha : ∀ x ∈ acc, kk x ≠ kk q := fun x hx => hm x ((m2 x).2 (.inl hx))
        refine ⟨ha, fun x hx he => ?_⟩
        by_cases hz : ∃ z ∈ acc, kk z = kk x
        · obtain ⟨z, hz, hz2⟩ := hz
          exact ha z hz (hz2.trans he)
        · exact hm x ((m2 x).2 (.inr ⟨hx, fun z hz1 hz2 => hz ⟨z, hz1, hz2⟩⟩)) he
      · rintro ⟨ha, hb⟩ x hx
        rcases (m2 x).1 hx with hx | hx
        · exact ha x hx
        · exact hb x hx.1
    rw [hk]
    simp only [Sel]
    constructor
    · rintro ((h | h) | ⟨⟨h1, h2⟩, h3⟩)
      · exact .inl h
      · exact .inr ⟨h.2, .inl h.1⟩
      · exact .inr ⟨h1, .inr ⟨h2, h3⟩⟩
    · rintro (h | ⟨h1, h2 | ⟨h2, h3⟩⟩)
      · exact .inl (.inl h)
      · exact .inl (.inr ⟨h2, h1⟩)
      · exact .inr ⟨⟨h1, h2⟩, h3⟩
/-- The merge in the reference: of two lists. -/
theorem l4Merge_ev (a b : List S33) (hn : a.length + b.length ≤ 1000000000) : Ev (fun k => spec_l4Merge.f k a b) (mg a b) := by
  have key : ∀ (d i j : Nat) (out : List S33), (a.length - i) + (b.length - j) = d → i ≤ a.length → j ≤ b.length → out.length ≤ i + j → Ev (fun k => spec_l4Merge.l0 k a b out (i : Int) (j : Int)) (out ++ mg (a.drop i) (b.drop j)) := by
    intro d
    induction d using Nat.strongRecOn with
    | _ d ih =>
      intro i j out hd hi hj ho
      by_cases h1 : i < a.length
      · refine Ev.step (f := fun k => spec_l4Merge.j1 k a b out (i : Int) (j : Int) true) (fun k => ?_) ?_
        · simp only [spec_l4Merge.l0]
          rw [if_pos (by omega)]
        have takeA : Ev (fun k => spec_l4Merge.l0 k a b (out ++ [rd_T33 a (i : Int)]) ((i + 1 : Nat) : Int) (j : Int)) (out ++ rd_T33 a (i : Int) :: mg (a.drop (i + 1)) (b.drop j)) := by
          have := ih _ (by omega) (i + 1) j (out ++ [rd_T33 a (i : Int)]) rfl (by omega) hj (by simp; omega)
          rw [List.append_assoc] at this
          exact this
        by_cases h2 : j < b.length
        · refine Ev.step (f := fun k => spec_l4Merge.j2 k a b out (i : Int) (j : Int) (Op.bytesLess (kk (rd_T33 a (i : Int))) (kk (rd_T33 b (j : Int))))) (fun k => ?_) ?_
          · simp only [spec_l4Merge.j1]
            rw [if_pos trivial, if_neg (by omega), if_pos (by omega), if_pos (by omega), if_pos (by omega), if_pos (by omega)]
          rw [rdP_drop h1, rdP_drop h2, mg_cons]
          by_cases c1 : Op.bytesLess (kk (rd_T33 a (i : Int))) (kk (rd_T33 b (j : Int))) = true
          · rw [if_pos c1, c1]
            rw [← rdP_drop h2]
            refine Ev.step (fun k => ?_) takeA
            simp only [spec_l4Merge.j2]
            rw [if_pos trivial, if_pos (by omega), if_pos (by omega), if_pos (by omega), wrap_succ (n := a.length) h1 (by omega)]
          · rw [if_neg c1, show Op.bytesLess (kk (rd_T33 a (i : Int))) (kk (rd_T33 b (j : Int))) = false from by simpa using c1]
            refine Ev.step (f := fun k => spec_l4Merge.j3 k a b out (i : Int) (j : Int) (Op.bytesLess (kk (rd_T33 b (j : Int))) (kk (rd_T33 a (i : Int))))) (fun k => ?_) ?_
            · simp only [spec_l4Merge.j2]
              rw [if_neg (by decide), if_neg (by omega), if_pos (by omega), if_pos (by omega), if_pos (by omega), if_pos (by omega)]
            by_cases c2 : Op.bytesLess (kk (rd_T33 b (j : Int))) (kk (rd_T33 a (i : Int))) = true
            · rw [if_pos c2, c2, ← rdP_drop h1]
              have := ih _ (by omega) i (j + 1) (out ++ [rd_T33 b (j : Int)]) rfl hi (by omega) (by simp; omega)
              rw [List.append_assoc] at this
              refine Ev.step (fun k => ?_) this
              simp only [spec_l4Merge.j3]
              rw [if_pos trivial, if_pos (by omega), if_pos (by omega), if_pos (by omega), wrap_succ (n := b.length) h2 (by omega)]
            · rw [if_neg c2, show Op.bytesLess (kk (rd_T33 b (j : Int))) (kk (rd_T33 a (i : Int))) = false from by simpa using c2]
              have := ih _ (by omega) (i + 1) (j + 1) (out ++ [rd_T33 a (i : Int)]) rfl (by omega) (by omega) (by simp; omega)
              rw [List.append_assoc] at this
              refine Ev.step (fun k => ?_) this
              simp only [spec_l4Merge.j3]
              rw [if_neg (by decide), if_pos (by omega), if_pos (by omega), if_pos (by omega), wrap_succ (n := a.length) h1 (by omega), wrap_succ (n := b.length) h2 (by omega)]
        · have hjb : j = b.length := by omega
          subst hjb
          rw [rdP_drop h1, List.drop_length, mg_nil2]
          rw [List.drop_length, mg_nil2] at takeA
          refine Ev.step (f := fun k => spec_l4Merge.j2 k a b out (i : Int) (b.length : Int) true) (fun k => ?_) (Ev.step (fun k => ?_) takeA)
          · simp only [spec_l4Merge.j1]
            rw [if_pos trivial, if_pos trivial]
          · simp only [spec_l4Merge.j2]
            rw [if_pos trivial, if_pos (by omega), if_pos (by omega), if_pos (by omega), wrap_succ (n := a.length) h1 (by omega)]
      · have hia : i = a.length := by omega
        subst hia
        rw [List.drop_length, mg_nil]
        by_cases h2 : j < b.length
        · have := ih _ (by omega) a.length (j + 1) (out ++ [rd_T33 b (j : Int)]) rfl hi (by omega) (by simp; omega)
          rw [List.append_assoc, List.drop_length, mg_nil] at this
          rw [rdP_drop h2]
          refine Ev.step (f := fun k => spec_l4Merge.j1 k a b out (a.length : Int) (j : Int) true) (fun k => ?_) (Ev.step (f := fun k => spec_l4Merge.j2 k a b out (a.length : Int) (j : Int) false) (fun k => ?_) (Ev.step (f := fun k => spec_l4Merge.j3 k a b out (a.length : Int) (j : Int) true) (fun k => ?_) (Ev.step (fun k => ?_) this)))
          · simp only [spec_l4Merge.l0]
            rw [if_neg (by omega), decide_eq_true (by omega)]
          · simp only [spec_l4Merge.j1]
            rw [if_pos trivial, if_neg (by omega), if_neg (by omega)]
          · simp only [spec_l4Merge.j2]
            rw [if_neg (by decide), if_pos trivial]
          · simp only [spec_l4Merge.j3]
            rw [if_pos trivial, if_pos (by omega), if_pos (by omega), if_pos (by omega), wrap_succ (n := b.length) h2 (by omega)]
        · have hjb : j = b.length := by omega
          subst hjb
          rw [List.drop_length, List.append_nil]
          refine Ev.step (f := fun k => spec_l4Merge.j1 k a b out (a.length : Int) (b.length : Int) false) (fun k => ?_) (Ev.ends (fun k => ?_))
          · simp only [spec_l4Merge.l0]
            rw [if_neg (by omega), decide_eq_false (by omega)]
          · simp only [spec_l4Merge.j1]
            rw [if_neg (by decide)]
  have := key _ 0 0 [] rfl (by omega) (by omega) (by simp)
  simpa [spec_l4Merge.f] using this
def keepB (drop : Bool) (p : S33) : Bool := !(drop && p.f2)
theorem l4There_ev (l : List S33) (hn : l.length ≤ 1000000000) : Ev (fun k => spec_l4There.f k l) (l.filter (keepB true)) := by
  have key : ∀ (d i : Nat) (out : List S33), i + d = l.length → out.length ≤ i → Ev (fun k => spec_l4There.l0 k l out (i : Int)) (out ++ (l.drop i).filter (keepB true)) := by
    intro d
    induction d with
    | zero =>
      intro i out hi ho
      have : i = l.length := by omega
      subst this
      rw [List.drop_length, List.filter_nil, List.append_nil]
      refine Ev.ends (fun k => ?_)
      simp only [spec_l4There.l0]
      rw [if_neg (by omega)]
    | succ d ih =>
      intro i out hi ho
      rw [rdP_drop (show i < l.length by omega)]
      cases hg : (rd_T33 l (i : Int)).f2
      · have := ih (i + 1) (out ++ [rd_T33 l (i : Int)]) (by omega) (by simp; omega)
        rw [List.append_assoc] at this
        rw [List.filter_cons_of_pos (by simp [keepB, hg])]
        refine Ev.step (fun k => ?_) this
        simp only [spec_l4There.l0]
        rw [if_pos (by omega), if_pos (by omega), hg, if_neg (by decide), if_pos (by omega), wrap_succ (n := l.length) (by omega) (by omega)]
        simp only [← hg]
      · rw [List.filter_cons_of_neg (by simp [keepB, hg])]
        refine Ev.step (fun k => ?_) (ih (i + 1) out (by omega) (by omega))
        simp only [spec_l4There.l0]
        rw [if_pos (by omega), if_pos (by omega), hg, if_pos rfl, wrap_succ (n := l.length) (by omega) (by omega)]
  have := key l.length 0 [] (by omega) (by simp)
  simpa [spec_l4There.f] using this

section
variable (L : List (List S33))
def len_ (i : Nat) : Nat := (rd_L4 L (i : Int)).length
def el (i m : Nat) : S33 := rd_T33 (rd_L4 L (i : Int)) (m : Int)
def SelA (a : Nat → Nat) (q : S33) : Prop := ∃ i m, i < L.length ∧ a i ≤ m ∧ m < len_ L i ∧ q = el L i m ∧ ∀ j, j < i → ∀ m', a j ≤ m' → m' < len_ L j → kk (el L j m') ≠ kk q
def AscL : Prop := ∀ i, i < L.length → ∀ m m', m < m' → m' < len_ L i → ltk (el L i m) (el L i m')
def atL (a : Nat → Nat) : List Int := (List.range L.length).map (fun i => ((a i : Nat) : Int))
theorem atL_length (a : Nat → Nat) : (atL L a).length = L.length := by simp [atL]
theorem rd_atL (a : Nat → Nat) {i : Nat} (h : i < L.length) : rd (atL L a) (i : Int) = ((a i : Nat) : Int) := by
  rw [rd_nat]
  exact range_map_getD L.length i _ _ h
def sumN (f : Nat → Nat) : Nat → Nat
  | 0 => 0
  | n + 1 => sumN f n + f n
theorem sumN_le {f g : Nat → Nat} : ∀ n, (∀ i, i < n → f i ≤ g i) → sumN f n ≤ sumN g n
  | 0, _ => Nat.le_refl _
  | n + 1, h => by
    have := sumN_le n (fun i hi => h i (by omega))
    have := h n (by omega)
    simp only [sumN]
    omega
theorem sumN_lt {f g : Nat → Nat} : ∀ n, (∀ i, i < n → f i ≤ g i) → ∀ c, c < n → f c < g c → sumN f n < sumN g n
  | 0, _, c, hc, _ => by omega
  | n + 1, h, c, hc, hl => by
    have h1 := h n (by omega)
    simp only [sumN]
    by_cases he : c = n
    · subst he
      have := sumN_le c (fun i hi => h i (by omega))
      omega
    · have := sumN_lt n (fun i hi => h i (by omega)) c (by omega) hl
      omega
/-- How far the merge is. -/
structure Inv (a : Nat → Nat) (R : List S33) : Prop where
  le : ∀ i, i < L.length → a i ≤ len_ L i
  asc : Asc R
  lt : ∀ r ∈ R, ∀ i, i < L.length → ∀ m, a i ≤ m → m < len_ L i → ltk r (el L i m)
  sel : ∀ q, SelA L (fun _ => 0) q ↔ q ∈ R ∨ SelA L a q
  few : R.length ≤ sumN a L.length
def Bst (a : Nat → Nat) (i : Nat) (b : Int) : Prop :=
  (b = -1 ∧ ∀ j, j < i → len_ L j ≤ a j) ∨ (∃ c : Nat, b = (c : Int) ∧ c < i ∧ a c < len_ L c ∧ (∀ j, j < i → a j < len_ L j → ¬ ltk (el L j (a j)) (el L c (a c))) ∧ (∀ j, j < c → a j < len_ L j → ltk (el L c (a c)) (el L j (a j))))
def nextA (a : Nat → Nat) (p : S33) (j : Nat) : Nat := if a j < len_ L j ∧ kk (el L j (a j)) = kk p then a j + 1 else a j
theorem inv_next (hL : AscL L) {a : Nat → Nat} {R : List S33} (h : Inv L a R) {c : Nat} (hc : c < L.length) (hac : a c < len_ L c) (hmin : ∀ j, j < L.length → a j < len_ L j → ¬ ltk (el L j (a j)) (el L c (a c))) (hfst : ∀ j, j < c → a j < len_ L j → ltk (el L c (a c)) (el L j (a j))) :
    Inv L (nextA L a (el L c (a c))) (R ++ [el L c (a c)]) ∧ sumN a L.length < sumN (nextA L a (el L c (a c))) L.length := by
  have hge : ∀ j, j < L.length → ∀ m, a j ≤ m → m < len_ L j → kk (el L j m) = kk (el L c (a c)) ∨ ltk (el L c (a c)) (el L j m) := by
    intro j hj m h1 h2
    by_cases hm : m = a j
    · subst hm
      by_cases he : kk (el L j (a j)) = kk (el L c (a c))
      · exact .inl he
      · exact .inr (ltk_of (hmin j hj h2) he)
    · right
      have hl := hL j hj (a j) m (by omega) h2
      by_cases he : kk (el L j (a j)) = kk (el L c (a c))
      · unfold ltk at hl ⊢
        rw [← he]
        exact hl
      · exact ltk_trans (ltk_of (hmin j hj (by omega)) he) hl
  have hgt : ∀ j, j < L.length → ∀ m, nextA L a (el L c (a c)) j ≤ m → m < len_ L j → ltk (el L c (a c)) (el L j m) := by
    intro j hj m h1 h2
    unfold nextA at h1
    by_cases hb : a j < len_ L j ∧ kk (el L j (a j)) = kk (el L c (a c))
    · rw [if_pos hb] at h1
      have hl := hL j hj (a j) m (by omega) h2
      unfold ltk at hl ⊢
      rw [← hb.2]
      exact hl
    · rw [if_neg hb] at h1
      rcases hge j hj m h1 h2 with he | he
      · exfalso
        by_cases hm : m = a j
        · subst hm; exact hb ⟨h2, he⟩
        · have hl := hL j hj (a j) m (by omega) h2
          rcases hge j hj (a j) (Nat.le_refl _) (by omega) with h3 | h3
          · exact hb ⟨by omega, h3⟩
          · exact ltk_ne (ltk_trans h3 hl) he.symm
      · exact he
  have hle : ∀ j, a j ≤ nextA L a (el L c (a c)) j := by
    intro j
    unfold nextA
    split <;> omega
  have hcn : a c < nextA L a (el L c (a c)) c := by
    unfold nextA
    rw [if_pos ⟨hac, rfl⟩]
    omega
  have hsum := sumN_lt L.length (fun i _ => hle i) c hc hcn
  have hpR : ∀ r ∈ R, ltk r (el L c (a c)) := fun r hr => h.lt r hr c hc (a c) (Nat.le_refl _) hac
  refine ⟨⟨fun i hi => ?_, ?_, fun r hr i hi m h1 h2 => ?_, fun q => ?_, by simp only [List.length_append, List.length_cons, List.length_nil]; have := h.few; omega⟩, hsum⟩
  · have := h.le i hi
    unfold nextA
    split
    · omega
    · exact this
  · show List.Pairwise ltk _
    rw [List.pairwise_append]
    exact ⟨h.asc, List.pairwise_singleton _ _, fun r hr x hx => by rw [List.mem_singleton.1 hx]; exact hpR r hr⟩
  · rcases List.mem_append.1 hr with hr | hr
    · exact h.lt r hr i hi m (Nat.le_trans (hle i) h1) h2
    · rw [List.mem_singleton.1 hr]
      exact hgt i hi m h1 h2
  · rw [h.sel, List.mem_append, List.mem_singleton]
    constructor
    · rintro (hq | ⟨i, m, h1, h2, h3, rfl, h5⟩)
      · exact .inl (.inl hq)
      · by_cases he : kk (el L i m) = kk (el L c (a c))
        · -- it is the one that is taken
          have hm : m = a i := Classical.byContradiction fun hne => by
            have hl := hL i h1 (a i) m (by omega) h3
            rcases hge i h1 (a i) (Nat.le_refl _) (by omega) with h6 | h6
            · exact ltk_ne hl (h6.trans he.symm)
            · exact ltk_ne (ltk_trans h6 hl) he.symm
          subst hm
          have hic : i = c := by
            rcases Nat.lt_trichotomy i c with h6 | h6 | h6
            · exact absurd he.symm (ltk_ne (hfst i h6 h3))
            · exact h6
            · exact absurd he.symm (h5 c h6 (a c) (Nat.le_refl _) hac)
          subst hic
          exact .inl (.inr rfl)
        · refine .inr ⟨i, m, h1, ?_, h3, rfl, fun j hj m' h6 h7 => h5 j hj m' (Nat.le_trans (hle j) h6) h7⟩
          unfold nextA
          split
          · rename_i hb
            by_cases hm : m = a i
            · subst hm; exact absurd hb.2 he
            · omega
          · exact h2
    · rintro ((hq | rfl) | ⟨i, m, h1, h2, h3, rfl, h5⟩)
      · exact .inl hq
      · exact .inr ⟨c, a c, hc, Nat.le_refl _, hac, rfl, fun j hj m' h6 h7 he => by
          rcases Nat.lt_or_ge (a j) m' with h8 | h8
          · exact ltk_ne (ltk_trans (hfst j hj (by omega)) (hL j (by omega) (a j) m' h8 h7)) he.symm
          · have : m' = a j := by omega
            subst this
            exact ltk_ne (hfst j hj h7) he.symm⟩
      · have hgt2 := hgt i h1 m h2 h3
        refine .inr ⟨i, m, h1, Nat.le_trans (hle i) h2, h3, rfl, fun j hj m' h6 h7 => ?_⟩
        by_cases h8 : nextA L a (el L c (a c)) j ≤ m'
        · exact h5 j hj m' h8 h7
        · intro he
          have hb : a j < len_ L j ∧ kk (el L j (a j)) = kk (el L c (a c)) := Classical.byContradiction fun hb => by
            unfold nextA at h8
            rw [if_neg hb] at h8
            omega
          unfold nextA at h8
          rw [if_pos hb] at h8
          have : m' = a j := by omega
          subst this
          exact ltk_ne hgt2 (hb.2.symm.trans he)
theorem atL_set (a a' : Nat → Nat) {i : Nat} (hi : i < L.length) (v : Nat) (hv : a' i = v) : (atL L (fun j => if j < i then a' j else a j)).set i ((v : Nat) : Int) = atL L (fun j => if j < i + 1 then a' j else a j) := by
  apply List.ext_getElem
  · simp [atL]
  · intro m h1 h2
    have hm : m < L.length := by simpa [atL] using h2
    rw [List.getElem_set]
    simp only [atL, List.getElem_map, List.getElem_range]
    by_cases he : i = m
    · subst he
      rw [if_pos rfl, if_pos (by omega), hv]
    · rw [if_neg he]
      by_cases hlt : m < i
      · rw [if_pos hlt, if_pos (by omega)]
      · rw [if_neg hlt, if_neg (by omega)]
theorem atL_same (a a' : Nat → Nat) {i : Nat} (hv : a' i = a i) : atL L (fun j => if j < i then a' j else a j) = atL L (fun j => if j < i + 1 then a' j else a j) := by
  unfold atL
  refine List.map_congr_left (fun m _ => ?_)
  dsimp only
  by_cases h1 : m < i
  · rw [if_pos h1, if_pos (by omega)]
  · rw [if_neg h1]
    by_cases h2 : m = i
    · subst h2; rw [if_pos (by omega), hv]
    · rw [if_neg (by omega)]
theorem impl_merge_ev (drop : Bool) (hN : L.length ≤ 1000000) (hT : sumN (len_ L) L.length ≤ 1000000000) (hL : AscL L) :
    ∃ R, Inv L (len_ L) R ∧ Ev (fun k => impl_merge.f k L drop) (R.filter (keepB drop)) := by
  have hlen : ∀ i, i < L.length → len_ L i ≤ 1000000000 := by
    intro i hi
    have : ∀ n, i < n → len_ L i ≤ sumN (len_ L) n := by
      intro n
      induction n with
      | zero => intro h; omega
      | succ n ih =>
        intro h
        simp only [sumN]
        by_cases he : i = n
        · subst he; omega
        · have := ih (by omega); omega
    have := this _ hi
    omega
  have main : ∀ (d : Nat) (a : Nat → Nat) (R : List S33), sumN (len_ L) L.length - sumN a L.length = d → Inv L a R → ∃ R', Inv L (len_ L) R' ∧ Ev (fun k => impl_merge.l0 k L drop (atL L a) (R.filter (keepB drop))) (R'.filter (keepB drop)) := by
    intro d
    induction d using Nat.strongRecOn with
    | _ d ih =>
      intro a R hd hinv
      have hfl : (R.filter (keepB drop)).length ≤ 1000000000 := by
        have := List.length_filter_le (keepB drop) R
        have := hinv.few
        have := sumN_le L.length hinv.le
        omega
      -- the writes
      have wr : ∀ c, c < L.length → a c < len_ L c → (∀ j, j < L.length → a j < len_ L j → ¬ ltk (el L j (a j)) (el L c (a c))) → (∀ j, j < c → a j < len_ L j → ltk (el L c (a c)) (el L j (a j))) →
          ∃ R', Inv L (len_ L) R' ∧ Ev (fun k => impl_merge.l2 k L drop (atL L a) (R.filter (keepB drop)) L (L.length : Int) 0 (el L c (a c)).f0 (el L c (a c)).f1 (el L c (a c)).f2) (R'.filter (keepB drop)) := by
        intro c hc hac hmin hfst
        obtain ⟨hi2, hlt⟩ := inv_next L hL hinv hc hac hmin hfst
        have hs2 := sumN_le L.length hi2.le
        obtain ⟨R', hR1, hR2⟩ := ih _ (by omega) (nextA L a (el L c (a c))) (R ++ [el L c (a c)]) rfl hi2
        refine ⟨R', hR1, ?_⟩
        have walk : ∀ (d i : Nat), i + d = L.length → Ev (fun k => impl_merge.l2 k L drop (atL L (fun j => if j < i then nextA L a (el L c (a c)) j else a j)) (R.filter (keepB drop)) L (L.length : Int) (i : Int) (el L c (a c)).f0 (el L c (a c)).f1 (el L c (a c)).f2) (R'.filter (keepB drop)) := by
          intro d
          induction d with
          | zero =>
            intro i hi
            have hil : i = L.length := by omega
            subst hil
            have hat : atL L (fun j => if j < L.length then nextA L a (el L c (a c)) j else a j) = atL L (nextA L a (el L c (a c))) := by
              unfold atL
              exact List.map_congr_left (fun m hm => by dsimp only; rw [if_pos (by simpa using hm)])
            rw [hat]
            refine Ev.step (f := fun k => impl_merge.j5 k L drop (atL L (nextA L a (el L c (a c)))) (R.filter (keepB drop)) (keepB drop (el L c (a c))) (el L c (a c)).f0 (el L c (a c)).f1 (el L c (a c)).f2) (fun k => ?_) (Ev.step (fun k => ?_) hR2)
            · simp only [impl_merge.l2]
              rw [if_neg (by omega)]
              cases drop
              · rw [if_neg (by decide)]
                rfl
              · rw [if_pos rfl]
                rfl
            · simp only [impl_merge.j5]
              rw [List.filter_append]
              cases hk : keepB drop (el L c (a c))
              · rw [if_neg (by decide), List.filter_cons_of_neg (by rw [hk]; decide), List.filter_nil, List.append_nil]
              · rw [if_pos rfl, if_pos (by omega), List.filter_cons_of_pos hk, List.filter_nil]
          | succ d ih2 =>
            intro i hi
            have hiL : i < L.length := by omega
            have hrd : rd (atL L (fun j => if j < i then nextA L a (el L c (a c)) j else a j)) (i : Int) = ((a i : Nat) : Int) := by
              rw [rd_atL L _ hiL, if_neg (by omega)]
            have hai := hinv.le i hiL
            have hli := hlen i hiL
            have hnx := ih2 (i + 1) (by omega)
            have hlf : len_ L i = (rd_L4 L (i : Int)).length := rfl
            by_cases hb : a i < len_ L i ∧ kk (el L i (a i)) = kk (el L c (a c))
            · have hv : nextA L a (el L c (a c)) i = a i + 1 := by unfold nextA; rw [if_pos hb]
              have h2' : ((rd_T33 (rd_L4 L (i : Int)) ((a i : Nat) : Int)).f0.toList == (el L c (a c)).f0.toList) = true := by
                rw [beq_iff_eq]
                exact hb.2
              refine Ev.step (f := fun k => impl_merge.j4 k L drop (atL L (fun j => if j < i then nextA L a (el L c (a c)) j else a j)) (R.filter (keepB drop)) (i : Int) L (L.length : Int) (i : Int) true (el L c (a c)).f0 (el L c (a c)).f1 (el L c (a c)).f2) (fun k => ?_) (Ev.step (fun k => ?_) hnx)
              · simp only [impl_merge.l2, hrd, atL_length]
                rw [if_pos (by omega), if_pos (by omega), if_pos (by omega), if_pos (by omega), if_pos (by omega), if_pos (by omega), h2']
              · simp only [impl_merge.j4, hrd, atL_length]
                rw [if_pos trivial, if_pos (by omega), if_pos (by omega), Int.toNat_natCast, wrap_succ (n := len_ L i) hb.1 (by omega), atL_set L a _ hiL (a i + 1) hv, wrap_succ (n := L.length) hiL (by omega)]
            · have hv : nextA L a (el L c (a c)) i = a i := by unfold nextA; rw [if_neg hb]
              refine Ev.step (f := fun k => impl_merge.j4 k L drop (atL L (fun j => if j < i then nextA L a (el L c (a c)) j else a j)) (R.filter (keepB drop)) (i : Int) L (L.length : Int) (i : Int) false (el L c (a c)).f0 (el L c (a c)).f1 (el L c (a c)).f2) (fun k => ?_) (Ev.step (fun k => ?_) hnx)
              · simp only [impl_merge.l2, hrd, atL_length]
                rw [if_pos (by omega), if_pos (by omega), if_pos (by omega), if_pos (by omega)]
                by_cases h1 : a i < len_ L i
                · have h2' : ((rd_T33 (rd_L4 L (i : Int)) ((a i : Nat) : Int)).f0.toList == (el L c (a c)).f0.toList) = false := by
                    rw [beq_eq_false_iff_ne]
                    exact fun h => hb ⟨h1, h⟩
                  rw [if_pos (by omega), if_pos (by omega), h2']
                · rw [if_neg (by omega)]
              · simp only [impl_merge.j4]
                rw [if_neg (by decide), atL_same L a _ hv, wrap_succ (n := L.length) hiL (by omega)]
        have := walk L.length 0 (by omega)
        have hat : atL L (fun j => if j < 0 then nextA L a (el L c (a c)) j else a j) = atL L a := by
          unfold atL
          exact List.map_congr_left (fun m _ => by dsimp only; rw [if_neg (by omega)])
        rw [hat] at this
        exact this
      -- the search
      have look : ∀ (d i : Nat) (b : Int), i + d = L.length → Bst L a i b → ∃ R', Inv L (len_ L) R' ∧ Ev (fun k => impl_merge.l1 k L drop (atL L a) (R.filter (keepB drop)) b L (L.length : Int) (i : Int)) (R'.filter (keepB drop)) := by
        intro d
        induction d with
        | zero =>
          intro i b hi hb
          have hil : i = L.length := by omega
          subst hil
          rcases hb with ⟨rfl, hall⟩ | ⟨c, rfl, hc, hac, hmin, hfst⟩
          · refine ⟨R, ⟨fun i _ => Nat.le_refl _, hinv.asc, fun r _ i _ m h1 h2 => by omega, fun q => ?_, Nat.le_trans hinv.few (sumN_le _ hinv.le)⟩, Ev.ends (fun k => ?_)⟩
            · rw [hinv.sel]
              constructor
              · rintro (h | ⟨i, m, h1, h2, h3, _⟩)
                · exact .inl h
                · have := hall i h1; omega
              · rintro (h | ⟨i, m, h1, h2, h3, _⟩)
                · exact .inl h
                · omega
            · simp only [impl_merge.l1]
              rw [if_neg (by omega), if_pos (by omega)]
          · obtain ⟨R', hR1, hR2⟩ := wr c hc hac hmin hfst
            refine ⟨R', hR1, Ev.step (fun k => ?_) hR2⟩
            have hlc : len_ L c = (rd_L4 L (c : Int)).length := rfl
            simp only [impl_merge.l1, rd_atL L a hc, atL_length]
            rw [if_neg (by omega), if_neg (by omega), if_pos (by omega), if_pos (by omega), if_pos (by omega), if_pos (by omega), if_pos (by omega)]
            rfl
        | succ d ih2 =>
          intro i b hi hb
          have hiL : i < L.length := by omega
          have hli : len_ L i = (rd_L4 L (i : Int)).length := rfl
          by_cases h1 : a i < len_ L i
          · rcases hb with ⟨rfl, hall⟩ | ⟨c, rfl, hc, hac, hmin, hfst⟩
            · obtain ⟨R', hR1, hR2⟩ := ih2 (i + 1) ((i : Nat) : Int) (by omega) (.inr ⟨i, rfl, by omega, h1, fun j hj hj2 hlt => by
                by_cases he : j = i
                · subst he; exact ltk_irr hlt
                · have := hall j (by omega); omega, fun j hj hj2 => by have := hall j hj; omega⟩)
              refine ⟨R', hR1, Ev.step (f := fun k => impl_merge.j2 k L drop (atL L a) (R.filter (keepB drop)) (-1) (i : Int) L (L.length : Int) (i : Int) true) (fun k => ?_) (Ev.step (fun k => ?_) hR2)⟩
              · simp only [impl_merge.l1, rd_atL L a hiL, atL_length]
                rw [if_pos (by omega), if_pos (by omega), if_pos (by omega), if_pos (by omega), if_pos (by omega), if_pos (by omega)]
              · simp only [impl_merge.j2]
                rw [if_pos trivial, wrap_succ (n := L.length) hiL (by omega)]
            · have hlc : len_ L c = (rd_L4 L (c : Int)).length := rfl
              by_cases h2 : ltk (el L i (a i)) (el L c (a c))
              · obtain ⟨R', hR1, hR2⟩ := ih2 (i + 1) ((i : Nat) : Int) (by omega) (.inr ⟨i, rfl, by omega, h1, fun j hj hj2 hlt => by
                  by_cases he : j = i
                  · subst he; exact ltk_irr hlt
                  · exact hmin j (by omega) hj2 (ltk_trans hlt h2), fun j hj hj2 => by
                  by_cases he : kk (el L j (a j)) = kk (el L c (a c))
                  · unfold ltk at h2 ⊢
                    rw [he]
                    exact h2
                  · exact ltk_trans h2 (ltk_of (hmin j hj hj2) he)⟩)
                have h2' : Op.bytesLess (rd_T33 (rd_L4 L (i : Int)) ((a i : Nat) : Int)).f0.toList (rd_T33 (rd_L4 L (c : Int)) ((a c : Nat) : Int)).f0.toList = true := h2
                refine ⟨R', hR1, Ev.step (f := fun k => impl_merge.j2 k L drop (atL L a) (R.filter (keepB drop)) (c : Int) (i : Int) L (L.length : Int) (i : Int) true) (fun k => ?_) (Ev.step (fun k => ?_) hR2)⟩
                · simp only [impl_merge.l1, rd_atL L a hiL, rd_atL L a (show c < L.length by omega), atL_length]
                  rw [if_pos (by omega), if_pos (by omega), if_pos (by omega), if_pos (by omega), if_pos (by omega), if_neg (by omega), if_pos (by omega), if_pos (by omega), if_pos (by omega), if_pos (by omega), if_pos (by omega), if_pos (by omega), h2']
                · simp only [impl_merge.j2]
                  rw [if_pos trivial, wrap_succ (n := L.length) hiL (by omega)]
              · obtain ⟨R', hR1, hR2⟩ := ih2 (i + 1) ((c : Nat) : Int) (by omega) (.inr ⟨c, rfl, by omega, hac, fun j hj hj2 => by
                  by_cases he : j = i
                  · subst he; exact h2
                  · exact hmin j (by omega) hj2, hfst⟩)
                have h2' : Op.bytesLess (rd_T33 (rd_L4 L (i : Int)) ((a i : Nat) : Int)).f0.toList (rd_T33 (rd_L4 L (c : Int)) ((a c : Nat) : Int)).f0.toList = false := (Bool.not_eq_true _).mp h2
                refine ⟨R', hR1, Ev.step (f := fun k => impl_merge.j2 k L drop (atL L a) (R.filter (keepB drop)) (c : Int) (i : Int) L (L.length : Int) (i : Int) false) (fun k => ?_) (Ev.step (fun k => ?_) hR2)⟩
                · simp only [impl_merge.l1, rd_atL L a hiL, rd_atL L a (show c < L.length by omega), atL_length]
                  rw [if_pos (by omega), if_pos (by omega), if_pos (by omega), if_pos (by omega), if_pos (by omega), if_neg (by omega), if_pos (by omega), if_pos (by omega), if_pos (by omega), if_pos (by omega), if_pos (by omega), if_pos (by omega), h2']
                · simp only [impl_merge.j2]
                  rw [if_neg (by decide), wrap_succ (n := L.length) hiL (by omega)]
          · obtain ⟨R', hR1, hR2⟩ := ih2 (i + 1) b (by omega) (by
              rcases hb with ⟨rfl, hall⟩ | ⟨c, rfl, hc, hac, hmin, hfst⟩
              · exact .inl ⟨rfl, fun j hj => by
                  by_cases he : j = i
                  · subst he; omega
                  · exact hall j (by omega)⟩
              · exact .inr ⟨c, rfl, by omega, hac, fun j hj hj2 => by
                  by_cases he : j = i
                  · subst he; omega
                  · exact hmin j (by omega) hj2, hfst⟩)
            refine ⟨R', hR1, Ev.step (f := fun k => impl_merge.j2 k L drop (atL L a) (R.filter (keepB drop)) b (i : Int) L (L.length : Int) (i : Int) false) (fun k => ?_) (Ev.step (fun k => ?_) hR2)⟩
            · simp only [impl_merge.l1, rd_atL L a hiL, atL_length]
              rw [if_pos (by omega), if_pos (by omega), if_pos (by omega), if_pos (by omega), if_neg (by omega)]
            · simp only [impl_merge.j2]
              rw [if_neg (by decide), wrap_succ (n := L.length) hiL (by omega)]
      obtain ⟨R', hR1, hR2⟩ := look L.length 0 (-1) (by omega) (.inl ⟨rfl, fun j hj => by omega⟩)
      refine ⟨R', hR1, Ev.step (fun k => ?_) hR2⟩
      simp only [impl_merge.l0]
      rfl
  obtain ⟨R', hR1, hR2⟩ := main _ (fun _ => 0) [] rfl ⟨fun i _ => Nat.zero_le _, List.Pairwise.nil, fun r hr => by simp at hr, fun q => by simp, by simp⟩
  refine ⟨R', hR1, Ev.congr (fun k => ?_) hR2⟩
  have hrep : List.replicate L.length (0 : Int) = atL L (fun _ => 0) := by
    apply List.ext_getElem
    · simp [atL]
    · intro m h1 h2
      simp [atL]
  simp only [impl_merge.f]
  rw [if_pos (by omega), Int.toNat_natCast, if_pos (by omega), hrep]
  rfl
end

theorem mg_len : ∀ (d : Nat) (a b : List S33), a.length + b.length = d → (mg a b).length ≤ a.length + b.length := by
  intro d
  induction d using Nat.strongRecOn with
  | _ d ih =>
    intro a b hd
    match a, b, hd with
    | [], b, _ => rw [mg_nil]; simp
    | x :: a, [], _ => rw [mg_nil2]; simp
    | x :: a, y :: b, hd =>
      simp only [List.length_cons] at hd
      rw [mg_cons]
      split
      · have := ih (a.length + (y :: b).length) (by simp only [List.length_cons]; omega) a (y :: b) rfl
        simp only [List.length_cons] at this ⊢
        omega
      · split
        · have := ih ((x :: a).length + b.length) (by simp only [List.length_cons]; omega) (x :: a) b rfl
          simp only [List.length_cons] at this ⊢
          omega
        · have := ih (a.length + b.length) (by omega) a b rfl
          simp only [List.length_cons] at this ⊢
          omega
theorem rising_says (xs : List S33) (hn : xs.length ≤ 1048576) : Both (fun r => r = true → ∀ m m', m < m' → m' < xs.length → ltk (rd_T33 xs (m : Int)) (rd_T33 xs (m' : Int))) (fun k => spec_l4Rising.f k xs) (fun k => impl_rising.f k xs) := by
  have key : ∀ (d i : Nat), i + d = xs.length → Both (fun r => r = true → ∀ m, i ≤ m → m < xs.length → 0 < m → ltk (rd_T33 xs ((m - 1 : Nat) : Int)) (rd_T33 xs (m : Int))) (fun k => spec_l4Rising.l0 k xs (i : Int)) (fun k => impl_rising.l0 k xs xs (xs.length : Int) (i : Int)) := by
    intro d
    induction d with
    | zero =>
      intro i hi
      refine Both.step (fun k => spec_l4Rising.l0.eq_2 ..) (fun k => impl_rising.l0.eq_2 ..) ?_
      have e1 : ((i : Int) < (xs.length : Int)) = False := eq_false (by omega)
      simp only [e1, if_false]
      exact Both.ret _ (fun _ m h1 h2 => by omega)
    | succ d ih =>
      intro i hi
      refine Both.step (fun k => spec_l4Rising.l0.eq_2 ..) (fun k => impl_rising.l0.eq_2 ..) ?_
      have e1 : ((i : Int) < (xs.length : Int)) = True := eq_true (by omega)
      have e2 : (0 ≤ (i : Int)) = True := eq_true (by omega)
      simp only [e1, e2, if_true, pairOk_eq]
      obtain ⟨b, hb⟩ := pairOk_some (rd_T33 xs (i : Int)).f0 (rd_T33 xs (i : Int)).f1 (rd_T33 xs (i : Int)).f2
      have ew : wrap64 ((i : Int) + 1) = ((i + 1 : Nat) : Int) := wrap_succ (n := xs.length) (by omega) (by omega)
      simp only [hb, Option.bind_some, ew]
      have hj : ∀ b' : Bool, (b' = false → 0 < i → ltk (rd_T33 xs ((i - 1 : Nat) : Int)) (rd_T33 xs (i : Int))) → Both (fun r => r = true → ∀ m, i ≤ m → m < xs.length → 0 < m → ltk (rd_T33 xs ((m - 1 : Nat) : Int)) (rd_T33 xs (m : Int))) (fun k => spec_l4Rising.j1 k xs (i : Int) b') (fun k => impl_rising.j1 k xs xs (xs.length : Int) (i : Int) b') := by
        intro b' hb'
        refine Both.step (fun k => spec_l4Rising.j1.eq_2 ..) (fun k => impl_rising.j1.eq_2 ..) ?_
        cases b'
        · simp only [Bool.false_eq_true, if_false, ew]
          refine (ih (i + 1) (by omega)).mono (fun r hr ht m h1 h2 h3 => ?_)
          by_cases he : m = i
          · subst he; exact hb' rfl h3
          · exact hr ht m (by omega) h2 h3
        · simp only [if_true]
          exact Both.ret false (fun h => by cases h)
      refine Both.ite (fun _ => Both.ite (fun hp => ?_) (fun hp => hj false (fun _ h => absurd h (by omega)))) (fun _ => hj true (fun h => by cases h))
      have ew2 : wrap64 ((i : Int) - 1) = ((i - 1 : Nat) : Int) := by rw [wrap_id (by omega) (by omega)]; omega
      have e3 : (0 ≤ ((i - 1 : Nat) : Int)) = True := eq_true (by omega)
      have e4 : (((i - 1 : Nat) : Int) < (xs.length : Int)) = True := eq_true (by omega)
      simp only [ew2, e3, e4, if_true]
      exact hj _ (fun h _ => by simpa [ltk] using h)
  refine (key xs.length 0 (by omega)).mono (fun r hr ht => ?_)
  have adj := hr ht
  have far : ∀ (d m : Nat), m + d + 1 < xs.length → ltk (rd_T33 xs (m : Int)) (rd_T33 xs ((m + d + 1 : Nat) : Int)) := by
    intro d
    induction d with
    | zero => intro m hm; exact adj (m + 1) (by omega) hm (by omega)
    | succ d ih =>
      intro m hm
      refine ltk_trans (ih m (by omega)) ?_
      have := adj (m + d + 1 + 1) (by omega) (by omega) (by omega)
      exact this
  intro m m' h1 h2
  have := far (m' - m - 1) m (by omega)
  rw [show m + (m' - m - 1) + 1 = m' from by omega] at this
  exact this
theorem asc_of {xs : List S33} (h : ∀ m m', m < m' → m' < xs.length → ltk (rd_T33 xs (m : Int)) (rd_T33 xs (m' : Int))) : Asc xs := by
  refine List.pairwise_iff_getElem.2 (fun i j hi hj hij => ?_)
  have := h i j hij hj
  simpa [rd_T33, List.getD_eq_getElem?_getD, List.getElem?_eq_getElem hi, List.getElem?_eq_getElem hj] using this
theorem mem_rdP {xs : List S33} {q : S33} : q ∈ xs ↔ ∃ m, m < xs.length ∧ q = rd_T33 xs (m : Int) := by
  rw [List.mem_iff_getElem]
  constructor
  · rintro ⟨m, hm, rfl⟩
    exact ⟨m, hm, by simp [rd_T33, List.getD_eq_getElem?_getD, List.getElem?_eq_getElem hm]⟩
  · rintro ⟨m, hm, rfl⟩
    exact ⟨m, hm, by simp [rd_T33, List.getD_eq_getElem?_getD, List.getElem?_eq_getElem hm]⟩
theorem sel_cons (l : List S33) (L : List (List S33)) (q : S33) : SelA (l :: L) (fun _ => 0) q ↔ q ∈ l ∨ ((∀ x ∈ l, kk x ≠ kk q) ∧ SelA L (fun _ => 0) q) := by
  have hl0 : len_ (l :: L) 0 = l.length := rfl
  have hls : ∀ i, len_ (l :: L) (i + 1) = len_ L i := fun i => rfl
  have he0 : ∀ m, el (l :: L) 0 m = rd_T33 l (m : Int) := fun m => rfl
  have hes : ∀ i m, el (l :: L) (i + 1) m = el L i m := fun i m => rfl
  constructor
  · rintro ⟨i, m, h1, _, h3, rfl, h5⟩
    cases i with
    | zero => exact .inl (mem_rdP.2 ⟨m, h3, rfl⟩)
    | succ i =>
      refine .inr ⟨fun x hx => ?_, i, m, by simpa using h1, Nat.zero_le _, h3, rfl, fun j hj m' _ h7 => h5 (j + 1) (by omega) m' (Nat.zero_le _) h7⟩
      obtain ⟨m', hm', rfl⟩ := mem_rdP.1 hx
      exact h5 0 (by omega) m' (Nat.zero_le _) hm'
  · rintro (h | ⟨h, i, m, h1, _, h3, rfl, h5⟩)
    · obtain ⟨m, hm, rfl⟩ := mem_rdP.1 h
      exact ⟨0, m, by simp, Nat.zero_le _, hm, rfl, fun j hj => by omega⟩
    · refine ⟨i + 1, m, by simpa using h1, Nat.zero_le _, h3, rfl, fun j hj m' _ h7 => ?_⟩
      cases j with
      | zero => exact h _ (mem_rdP.2 ⟨m', h7, rfl⟩)
      | succ j => exact h5 j (by omega) m' (Nat.zero_le _) h7
theorem sel_iff : ∀ (L : List (List S33)) (q : S33), SelA L (fun _ => 0) q ↔ Sel L q
  | [], q => ⟨fun ⟨i, m, h1, _⟩ => by simp at h1, fun h => h.elim⟩
  | l :: L, q => by
    rw [sel_cons, sel_iff L q]
    rfl
theorem inv_end {L : List (List S33)} {R : List S33} (h : Inv L (len_ L) R) (q : S33) : q ∈ R ↔ Sel L q := by
  rw [← sel_iff, h.sel]
  constructor
  · exact fun h => .inl h
  · rintro (h | ⟨i, m, _, h2, h3, _⟩)
    · exact h
    · omega
/-- What both answer. -/
theorem merge_both (L : List (List S33)) (drop : Bool) (hn : ∀ l ∈ L, l.length ≤ 1048576) (hN : L.length ≤ 1048576) :
    Both (fun r => r.length ≤ 11000000 ∧ (r = [] ∨ ∃ R, r = R.filter (keepB drop) ∧ Asc R ∧ (∀ q, q ∈ R ↔ Sel L q) ∧ ∀ l ∈ L, Asc l)) (fun k => spec_Merge.f k L drop) (fun k => impl_Merge.f k L drop) := by
  have hL : ∀ i, i < L.length → rd_L4 L (i : Int) ∈ L := fun i hi => by
    have : L.getD i [] = L[i] := by rw [List.getD_eq_getElem?_getD, List.getElem?_eq_getElem hi]; rfl
    show L.getD i [] ∈ L
    rw [this]
    exact List.getElem_mem hi
  have hr := fun i (hi : i < L.length) => rising_says (rd_L4 L (i : Int)) (hn _ (hL i hi))
  by_cases hbig : (L.length : Int) > 10
  · refine ⟨[], ⟨by simp, .inl rfl⟩, ?_, Ev.all (fun k => by simp only [impl_Merge.f]; rw [if_pos hbig])⟩
    obtain ⟨b, _, ⟨K, e1⟩, _⟩ := hr 0 (by omega)
    dsimp only at e1
    refine Ev.round (f := fun k => spec_Merge.j1 k L drop [] 0 true) ⟨K, fun k hk => ?_⟩ (Ev.ends (fun k => ?_))
    · simp only [spec_Merge.f, spec_Merge.l0]
      rw [if_pos (by omega), if_pos (by omega)]
      have e := e1 k hk
      rw [show (rd_L4 L 0) = rd_L4 L ((0 : Nat) : Int) from rfl, e, Option.bind_some]
      cases b
      · rw [if_neg (by decide)]
      · rw [if_pos rfl, decide_eq_true hbig]
    · simp only [spec_Merge.j1]
      rw [if_pos trivial]
  have hfin : ∀ i, (L.take i).foldl mg [] = (L.take i).foldl mg [] := fun _ => rfl
  have hacc : ∀ i, i ≤ L.length → ((L.take i).foldl mg []).length ≤ i * 1048576 := by
    intro i
    induction i with
    | zero => intro _; simp
    | succ i ih =>
      intro hi
      have h1 := ih (by omega)
      have h2 := hn _ (hL i (by omega))
      have : L.take (i + 1) = L.take i ++ [rd_L4 L (i : Int)] := by
        rw [take_succ_getD L i [] (by omega)]
        rfl
      rw [this, List.foldl_append]
      have h3 := mg_len _ ((L.take i).foldl mg []) (rd_L4 L (i : Int)) rfl
      simp only [List.foldl_cons, List.foldl_nil]
      omega
  have hstep : ∀ i, i < L.length → (L.take (i + 1)).foldl mg [] = mg ((L.take i).foldl mg []) (rd_L4 L (i : Int)) := by
    intro i hi
    rw [take_succ_getD L i [] hi, List.foldl_append]
    rfl
  by_cases hall : ∀ i, i < L.length → ∃ h : i < L.length, Ev (fun k => spec_l4Rising.f k (rd_L4 L (i : Int))) true ∧ Ev (fun k => impl_rising.f k (rd_L4 L (i : Int))) true ∧ ∀ m m', m < m' → m' < (rd_L4 L (i : Int)).length → ltk (rd_T33 (rd_L4 L (i : Int)) (m : Int)) (rd_T33 (rd_L4 L (i : Int)) (m' : Int))
  · -- all rise
    have hasc : ∀ l ∈ L, Asc l := by
      intro l hl
      obtain ⟨i, hi, rfl⟩ := List.mem_iff_getElem.1 hl
      obtain ⟨_, _, _, h⟩ := hall i hi
      have : rd_L4 L (i : Int) = L[i] := by
        show L.getD i [] = L[i]
        rw [List.getD_eq_getElem?_getD, List.getElem?_eq_getElem hi]
        rfl
      rw [this] at h
      exact asc_of h
    have hAL : AscL L := fun i hi m m' h1 h2 => (hall i hi).2.2.2 m m' h1 h2
    obtain ⟨f1, f2, _⟩ := fold_facts L [] List.Pairwise.nil hasc
    have hsum : sumN (len_ L) L.length ≤ 1000000000 := by
      have : ∀ n, n ≤ L.length → sumN (len_ L) n ≤ n * 1048576 := by
        intro n
        induction n with
        | zero => intro _; simp [sumN]
        | succ n ih =>
          intro h
          have h1 := ih (by omega)
          have h2 : len_ L n ≤ 1048576 := hn _ (hL n (by omega))
          simp only [sumN]
          omega
      have := this _ (Nat.le_refl _)
      omega
    obtain ⟨R, hR1, hR2⟩ := impl_merge_ev L drop (by omega) hsum hAL
    have hRf : R = L.foldl mg [] := asc_ext _ _ hR1.asc f1 (fun q => by rw [inv_end hR1, f2]; simp)
    have hRl : (L.foldl mg []).length ≤ 10485760 := by
      have := hacc L.length (Nat.le_refl _)
      rw [List.take_length] at this
      omega
    refine ⟨R.filter (keepB drop), ⟨?_, .inr ⟨R, rfl, hR1.asc, fun q => inv_end hR1 q, hasc⟩⟩, ?_, ?_⟩
    · have := List.length_filter_le (keepB drop) R
      rw [hRf] at this ⊢
      omega
    · -- the reference
      have key : ∀ (d i : Nat), i + d = L.length → Ev (fun k => spec_Merge.l0 k L drop ((L.take i).foldl mg []) (i : Int)) (R.filter (keepB drop)) := by
        intro d
        induction d with
        | zero =>
          intro i hi
          have : i = L.length := by omega
          subst this
          rw [List.take_length, hRf]
          cases drop
          · refine Ev.ends (fun k => ?_)
            simp only [spec_Merge.l0]
            rw [if_neg (by omega), if_neg (by decide), List.filter_eq_self.2 (fun a _ => show keepB false a = true from rfl)]
          · obtain ⟨K, e⟩ := l4There_ev (L.foldl mg []) (by omega)
            dsimp only at e
            refine Ev.round (f := fun _ => some _) ⟨K, fun k hk => ?_⟩ (Ev.now _)
            simp only [spec_Merge.l0]
            rw [if_neg (by omega), if_pos trivial, e k hk, Option.bind_some]
        | succ d ih =>
          intro i hi
          have hiL : i < L.length := by omega
          obtain ⟨_, ⟨K1, e1⟩, _, _⟩ := hall i hiL
          obtain ⟨K2, e2⟩ := l4Merge_ev ((L.take i).foldl mg []) (rd_L4 L (i : Int)) (by have := hacc i (by omega); have := hn _ (hL i hiL); omega)
          dsimp only at e1 e2
          have hnx := ih (i + 1) (by omega)
          rw [hstep i hiL] at hnx
          refine Ev.round (f := fun k => spec_Merge.j1 k L drop ((L.take i).foldl mg []) (i : Int) false) ⟨K1, fun k hk => ?_⟩ (Ev.round ⟨K2, fun k hk => ?_⟩ hnx)
          · simp only [spec_Merge.l0]
            rw [if_pos (by omega), if_pos (by omega), e1 k hk, Option.bind_some, if_pos rfl, decide_eq_false hbig]
          · simp only [spec_Merge.j1]
            rw [if_neg (by decide), if_pos (by omega), if_pos (by omega), e2 k hk, Option.bind_some, wrap_succ (n := L.length) hiL (by omega)]
      have := key L.length 0 (by omega)
      simpa [spec_Merge.f] using this
    · -- the program
      have key : ∀ (d i : Nat), i + d = L.length → Ev (fun k => impl_Merge.l0 k L drop L (L.length : Int) (i : Int)) (R.filter (keepB drop)) := by
        intro d
        induction d with
        | zero =>
          intro i hi
          obtain ⟨K, e⟩ := hR2
          dsimp only at e
          refine Ev.round (f := fun _ => some _) ⟨K, fun k hk => ?_⟩ (Ev.now _)
          simp only [impl_Merge.l0]
          rw [if_neg (by omega), e k hk, Option.bind_some]
        | succ d ih =>
          intro i hi
          have hiL : i < L.length := by omega
          obtain ⟨_, _, ⟨K1, e1⟩, _⟩ := hall i hiL
          dsimp only at e1
          refine Ev.round ⟨K1, fun k hk => ?_⟩ (ih (i + 1) (by omega))
          simp only [impl_Merge.l0]
          rw [if_pos (by omega), if_pos (by omega), if_pos (by omega), e1 k hk, Option.bind_some, if_pos rfl, wrap_succ (n := L.length) hiL (by omega)]
      have := key L.length 0 (by omega)
      refine Ev.congr (fun k => ?_) this
      simp only [impl_Merge.f]
      rw [if_neg hbig]
      rfl
  · -- one does not rise
    obtain ⟨i0, hi0⟩ := Classical.not_forall.1 hall
    have hi0L : i0 < L.length := Classical.byContradiction fun h => hi0 (fun h2 => absurd h2 h)
    have hbad : Ev (fun k => spec_l4Rising.f k (rd_L4 L (i0 : Int))) false ∧ Ev (fun k => impl_rising.f k (rd_L4 L (i0 : Int))) false := by
      obtain ⟨b, hb, h1, h2⟩ := hr i0 hi0L
      cases b
      · exact ⟨h1, h2⟩
      · exact absurd (fun _ => ⟨hi0L, h1, h2, hb rfl⟩) hi0
    refine ⟨[], ⟨by simp, .inl rfl⟩, ?_, ?_⟩
    · have key : ∀ (d i : Nat), i + d = i0 → Ev (fun k => spec_Merge.l0 k L drop ((L.take i).foldl mg []) (i : Int)) [] := by
        intro d
        induction d with
        | zero =>
          intro i hi
          have : i = i0 := by omega
          subst this
          obtain ⟨⟨K, e⟩, _⟩ := hbad
          dsimp only at e
          refine Ev.round (f := fun k => spec_Merge.j1 k L drop ((L.take i).foldl mg []) (i : Int) true) ⟨K, fun k hk => ?_⟩ (Ev.ends (fun k => ?_))
          · simp only [spec_Merge.l0]
            rw [if_pos (by omega), if_pos (by omega), e k hk, Option.bind_some, if_neg (by decide)]
          · simp only [spec_Merge.j1]
            rw [if_pos trivial]
        | succ d ih =>
          intro i hi
          have hiL : i < L.length := by omega
          obtain ⟨b, _, ⟨K1, e1⟩, _⟩ := hr i hiL
          dsimp only at e1
          cases b
          · refine Ev.round (f := fun k => spec_Merge.j1 k L drop ((L.take i).foldl mg []) (i : Int) true) ⟨K1, fun k hk => ?_⟩ (Ev.ends (fun k => ?_))
            · simp only [spec_Merge.l0]
              rw [if_pos (by omega), if_pos (by omega), e1 k hk, Option.bind_some, if_neg (by decide)]
            · simp only [spec_Merge.j1]
              rw [if_pos trivial]
          · obtain ⟨K2, e2⟩ := l4Merge_ev ((L.take i).foldl mg []) (rd_L4 L (i : Int)) (by have := hacc i (by omega); have := hn _ (hL i hiL); omega)
            dsimp only at e2
            have hnx := ih (i + 1) (by omega)
            rw [hstep i hiL] at hnx
            refine Ev.round (f := fun k => spec_Merge.j1 k L drop ((L.take i).foldl mg []) (i : Int) false) ⟨K1, fun k hk => ?_⟩ (Ev.round ⟨K2, fun k hk => ?_⟩ hnx)
            · simp only [spec_Merge.l0]
              rw [if_pos (by omega), if_pos (by omega), e1 k hk, Option.bind_some, if_pos rfl, decide_eq_false hbig]
            · simp only [spec_Merge.j1]
              rw [if_neg (by decide), if_pos (by omega), if_pos (by omega), e2 k hk, Option.bind_some, wrap_succ (n := L.length) hiL (by omega)]
      have := key i0 0 (by omega)
      simpa [spec_Merge.f] using this
    · have key : ∀ (d i : Nat), i + d = i0 → Ev (fun k => impl_Merge.l0 k L drop L (L.length : Int) (i : Int)) [] := by
        intro d
        induction d with
        | zero =>
          intro i hi
          have : i = i0 := by omega
          subst this
          obtain ⟨_, ⟨K, e⟩⟩ := hbad
          dsimp only at e
          refine Ev.round (f := fun _ => some _) ⟨K, fun k hk => ?_⟩ (Ev.now _)
          simp only [impl_Merge.l0]
          rw [if_pos (by omega), if_pos (by omega), if_pos (by omega), e k hk, Option.bind_some, if_neg (by decide)]
        | succ d ih =>
          intro i hi
          have hiL : i < L.length := by omega
          obtain ⟨b, _, _, ⟨K1, e1⟩⟩ := hr i hiL
          dsimp only at e1
          cases b
          · refine Ev.round (f := fun _ => some _) ⟨K1, fun k hk => ?_⟩ (Ev.now _)
            simp only [impl_Merge.l0]
            rw [if_pos (by omega), if_pos (by omega), if_pos (by omega), e1 k hk, Option.bind_some, if_neg (by decide)]
          · refine Ev.round ⟨K1, fun k hk => ?_⟩ (ih (i + 1) (by omega))
            simp only [impl_Merge.l0]
            rw [if_pos (by omega), if_pos (by omega), if_pos (by omega), e1 k hk, Option.bind_some, if_pos rfl, wrap_succ (n := L.length) hiL (by omega)]
      have := key i0 0 (by omega)
      refine Ev.congr (fun k => ?_) this
      simp only [impl_Merge.f]
      rw [if_neg hbig]
      rfl

theorem l4List_comes (b : List Int) (i x n : Int) (hb : b.length ≤ 1048576) (hi : At b i) (hn : n ≤ 1000) : Comes (fun r => r.1.length ≤ 1000 ∧ At b r.2.1) (fun k => spec_l4List.f k b i x n) := by
  have l0 : ∀ (d m : Nat) (y : List S33) (i x : Int) (xs : List S35), m + d = xs.length → xs.length ≤ 1000 → y.length = m → At b i → Comes (fun r => r.1.length ≤ 1000 ∧ At b r.2.1) (fun k => spec_l4List.l0 k y (m : Int) b i x xs) := by
    intro d
    induction d with
    | zero =>
      intro m y i x xs hm hx hy hi
      refine Comes.step (fun k => spec_l4List.l0.eq_2 ..) ?_
      have e1 : ((m : Int) < (xs.length : Int)) = False := eq_false (by omega)
      simp only [e1, if_false]
      exact Comes.ret _ ⟨by dsimp only; omega, hi⟩
    | succ d ih =>
      intro m y i x xs hm hx hy hi
      refine Comes.step (fun k => spec_l4List.l0.eq_2 ..) ?_
      have e1 : ((m : Int) < (xs.length : Int)) = True := eq_true (by omega)
      have e2 : (0 ≤ (m : Int)) = True := eq_true (by omega)
      have e3 : (y.length < 3518437208883) = True := eq_true (by omega)
      have ew : wrap64 ((m : Int) + 1) = ((m + 1 : Nat) : Int) := wrap_succ (n := xs.length) (by omega) (by omega)
      simp only [e1, e2, e3, ew, if_true]
      exact ih (m + 1) _ _ _ _ (by omega) hx (by simp [hy]) hi
  simp only [spec_l4List.f]
  refine Comes.bind (l4Draw_comes b i x n hb hi hn) (fun r hr => ?_)
  exact l0 r.1.length 0 [] _ _ r.1 (by omega) hr.1 rfl hr.2
theorem l4ListAny_comes (b : List Int) (i x n : Int) (hb : b.length ≤ 1048576) (hi : At b i) (hn : n ≤ 1000) : Comes (fun r => r.1.length ≤ 1001 ∧ At b r.2.1) (fun k => spec_l4ListAny.f k b i x n) := by
  simp only [spec_l4ListAny.f]
  refine Comes.bind (l4List_comes b i x n hb hi hn) (fun r hr => ?_)
  have hr1 : r.1.length ≤ 1000 := hr.1
  obtain ⟨o, j, y, e, hj⟩ := l1Once_some b r.2.1 r.2.2 12 hb hr.2
  simp only [e, Option.bind_some]
  refine Comes.ite (fun _ => ?_) (fun _ => Comes.ret _ ⟨by dsimp only; omega, hj⟩)
  obtain ⟨p, v, g, j2, y2, e2, hj2⟩ := l4PairAny_some b j y hb hj
  have c : (r.1.length < 3518437208883) = True := eq_true (by omega)
  simp only [e2, Option.bind_some, c, if_true]
  exact Comes.ret _ ⟨by simp; omega, hj2⟩
theorem drawMerge_comes (b : List Int) (hb : b.length ≤ 1048576) : Comes (fun r => (∀ l ∈ r.1, l.length ≤ 1048576) ∧ r.1.length ≤ 1048576) (fun k => spec_DrawMerge.f k b) := by
  have j1 : ∀ (xs : List (List S33)) (i x : Int), (∀ l ∈ xs, l.length ≤ 1001) → xs.length ≤ 1000 → At b i → Comes (fun r => (∀ l ∈ r.1, l.length ≤ 1048576) ∧ r.1.length ≤ 1048576) (fun k => spec_DrawMerge.j1 k xs b i x) := by
    intro xs i x h1 h2 hi
    refine Comes.step (fun k => spec_DrawMerge.j1.eq_2 ..) ?_
    obtain ⟨o, j, y, e, hj⟩ := l1Once_some b i x 30 hb hi
    simp only [e, Option.bind_some]
    refine Comes.ite (fun _ => ?_) (fun _ => ?_)
    · obtain ⟨t, j2, y2, e2, v0, v1, _, hj2⟩ := l1Below_some b j y 2 hb hj
      have v1 := v1 (by omega)
      have w : wrap64 (10 + t) = 10 + t := wrap_id (by omega) (by omega)
      have c1 : (0 ≤ 10 + t) = True := eq_true (by omega)
      have c2 : ((10 + t).toNat ≤ 11728124029610) = True := eq_true (by omega)
      simp only [e2, Option.bind_some, w, c1, c2, if_true]
      refine Comes.bind (l4List_comes b j2 y2 5 hb hj2 (by omega)) (fun r hr => ?_)
      have q1 : r.1.length ≤ 1000 := hr.1
      have c3 : (0 < ((List.replicate (10 + t).toNat ([] : List S33)).length : Int)) = True := eq_true (by rw [List.length_replicate]; omega)
      obtain ⟨o3, j3, y3, e3, hj3⟩ := l1Once_some b r.2.1 r.2.2 2 hb hr.2
      simp only [c3, if_true, e3, Option.bind_some]
      refine Comes.ret _ ⟨fun l hl => ?_, by simp; omega⟩
      rcases List.mem_or_eq_of_mem_set hl with hl | rfl
      · rw [List.eq_of_mem_replicate hl]; simp
      · omega
    · obtain ⟨o3, j3, y3, e3, hj3⟩ := l1Once_some b j y 2 hb hj
      simp only [e3, Option.bind_some]
      exact Comes.ret _ ⟨fun l hl => by have := h1 l hl; omega, by dsimp only; omega⟩
  have l0 : ∀ (n : Nat) (xs : List (List S33)) (i x : Int), (∀ l ∈ xs, l.length ≤ 1001) → xs.length + n ≤ 10 → At b i → Comes (fun r => (∀ l ∈ r.1, l.length ≤ 1048576) ∧ r.1.length ≤ 1048576) (fun k => spec_DrawMerge.l0 k xs (n : Int) b i x) := by
    intro n
    induction n with
    | zero =>
      intro xs i x h1 h2 hi
      refine Comes.step (fun k => spec_DrawMerge.l0.eq_2 ..) ?_
      have c1 : (((0 : Nat) : Int) > 0) = False := eq_false (by omega)
      obtain ⟨o, j, y, e, hj⟩ := l1Once_some b i x 8 hb hi
      simp only [c1, if_false, e, Option.bind_some]
      refine Comes.ite (fun _ => ?_) (fun _ => j1 _ _ _ h1 (by omega) hj)
      refine Comes.bind (l4ListAny_comes b j y 8 hb hj (by omega)) (fun r hr => ?_)
      have c2 : (xs.length < 5864062014805) = True := eq_true (by omega)
      have q1 : r.1.length ≤ 1001 := hr.1
      simp only [c2, if_true]
      exact j1 _ _ _ (fun l hl => by
        rcases List.mem_append.1 hl with h | h
        · exact h1 l h
        · rw [List.mem_singleton.1 h]; exact q1) (by simp; omega) hr.2
    | succ n ih =>
      intro xs i x h1 h2 hi
      refine Comes.step (fun k => spec_DrawMerge.l0.eq_2 ..) ?_
      have c1 : (((n + 1 : Nat) : Int) > 0) = True := eq_true (by omega)
      have w : wrap64 (((n + 1 : Nat) : Int) - 1) = (n : Int) := by rw [wrap_id (by omega) (by omega)]; omega
      simp only [c1, if_true]
      refine Comes.bind (l4List_comes b i x 8 hb hi (by omega)) (fun r hr => ?_)
      have c2 : (xs.length < 5864062014805) = True := eq_true (by omega)
      have q1 : r.1.length ≤ 1000 := hr.1
      simp only [c2, w, if_true]
      exact ih _ _ _ (fun l hl => by
        rcases List.mem_append.1 hl with h | h
        · exact h1 l h
        · rw [List.mem_singleton.1 h]; omega) (by simp; omega) hr.2
  simp only [spec_DrawMerge.f]
  refine Comes.bind (l1New_comes b hb) (fun n hn => ?_)
  obtain ⟨n1, n2, n3⟩ := n
  dsimp only at hn
  obtain ⟨rfl, rfl⟩ := hn
  obtain ⟨t, j, y, e, v0, v1, _, hj⟩ := l1Below_some n1 0 n3 5 hb ⟨by omega, by omega⟩
  have v1 := v1 (by omega)
  obtain ⟨m, rfl⟩ : ∃ m : Nat, t = (m : Int) := ⟨t.toNat, by omega⟩
  simp only [e, Option.bind_some]
  exact l0 m [] _ _ (by simp) (by simp; omega) hj
theorem samePairs_ev (xs : List S33) (hn : xs.length ≤ 11000000) : Ev (fun k => laws_samePairs.f k xs xs) true := by
  have key : ∀ (d i : Nat), i + d = xs.length → Ev (fun k => laws_samePairs.l0 k xs xs (i : Int)) true := by
    intro d
    induction d with
    | zero =>
      intro i hi
      refine Ev.ends (fun k => ?_)
      simp only [laws_samePairs.l0]
      rw [if_neg (by omega)]
    | succ d ih =>
      intro i hi
      refine Ev.step (fun k => ?_) (ih (i + 1) (by omega))
      simp only [laws_samePairs.l0]
      rw [if_pos (by omega), if_pos (by omega), if_pos (by omega), if_neg (by simp), wrap_succ (n := xs.length) (by omega) (by omega)]
  refine Ev.congr (fun k => ?_) (key xs.length 0 (by omega))
  simp only [laws_samePairs.f]
  rw [if_pos trivial]
  rfl
theorem range_law (xs : List S33) (hn : xs.length ≤ 11000000) : ∃ r : List S33, Ev (fun k => impl_Range.f k xs (⟨#[97, 98]⟩ : ByteArray) (⟨#[99]⟩ : ByteArray)) r ∧ Ev (fun k => laws_FnMerged.l3 k xs r 0 0) true := by
  have ea : (⟨#[97, 98]⟩ : ByteArray).toList = ([97, 98] : List UInt8) := by decide +kernel
  have eb : (⟨#[99]⟩ : ByteArray).toList = ([99] : List UInt8) := by decide +kernel
  have key : ∀ (d i : Nat) (out : List S33), i + d = xs.length → out.length ≤ i → ∃ r : List S33, (∃ t, r = out ++ t ∧ r.length ≤ xs.length) ∧ Ev (fun k => impl_Range.l0 k (⟨#[97, 98]⟩ : ByteArray) (⟨#[99]⟩ : ByteArray) out xs (xs.length : Int) (i : Int)) r ∧ Ev (fun k => laws_FnMerged.l3 k xs r (out.length : Int) (i : Int)) true := by
    intro d
    induction d with
    | zero =>
      intro i out hi ho
      refine ⟨out, ⟨[], by simp, by omega⟩, ?_, ?_⟩
      · refine Ev.ends (fun k => ?_)
        simp only [impl_Range.l0]
        rw [if_neg (by omega)]
      · refine Ev.ends (fun k => ?_)
        simp only [laws_FnMerged.l3]
        rw [if_neg (by omega)]
        simp
    | succ d ih =>
      intro i out hi ho
      have e1 : ((i : Int) < (xs.length : Int)) = True := eq_true (by omega)
      have e2 : (0 ≤ (i : Int)) = True := eq_true (by omega)
      have e3 : (out.length < 3518437208883) = True := eq_true (by omega)
      have ew : wrap64 ((i : Int) + 1) = ((i + 1 : Nat) : Int) := wrap_succ (n := xs.length) (by omega) (by omega)
      have eo : wrap64 ((out.length : Int) + 1) = ((out.length + 1 : Nat) : Int) := wrap_succ (n := xs.length) (by omega) (by omega)
      have en : (([99] : List UInt8) = ([] : List UInt8)) = False := eq_false (by simp)
      generalize hx : rd_T33 xs (i : Int) = x
      have skip : ∀ r : List S33, Ev (fun k => laws_FnMerged.l3 k xs r (out.length : Int) ((i + 1 : Nat) : Int)) true → Ev (fun k => laws_FnMerged.j7 k xs r (out.length : Int) (i : Int) false) true := by
        intro r h
        refine Ev.step (fun k => ?_) h
        simp only [laws_FnMerged.j7, ew]
        rw [if_neg (by simp)]
      have skipI : ∀ (r : List S33), Ev (fun k => impl_Range.l0 k (⟨#[97, 98]⟩ : ByteArray) (⟨#[99]⟩ : ByteArray) out xs (xs.length : Int) ((i + 1 : Nat) : Int)) r → Ev (fun k => impl_Range.j1 k (⟨#[97, 98]⟩ : ByteArray) (⟨#[99]⟩ : ByteArray) out xs (xs.length : Int) (i : Int) false x.f0 x.f1 x.f2) r := by
        intro r h
        refine Ev.step (fun k => ?_) h
        simp only [impl_Range.j1, ew]
        rw [if_neg (by simp)]
      by_cases c1 : Op.bytesLess x.f0.toList ([97, 98] : List UInt8) = true
      · obtain ⟨r, h0, h1, h2⟩ := ih (i + 1) out (by omega) (by omega)
        refine ⟨r, h0, Ev.step (fun k => ?_) (skipI r h1), Ev.step (fun k => ?_) (skip r h2)⟩
        · simp only [impl_Range.l0, hx, e1, e2, ea, c1, if_true]
        · simp only [laws_FnMerged.l3, hx, e1, e2, c1, if_true]
      · have c1' := eq_false_of_ne_true c1
        by_cases c2 : Op.bytesLess x.f0.toList ([99] : List UInt8) = true
        · obtain ⟨r, ⟨t, ht, hl⟩, h1, h2⟩ := ih (i + 1) (out ++ [x]) (by omega) (by simp; omega)
          have hr : r = out ++ (x :: t) := by rw [ht]; simp
          have hlr : r.length = out.length + (t.length + 1) := by rw [hr, List.length_append, List.length_cons]
          have hz : (out ++ [x]).length = out.length + 1 := by simp
          rw [hz] at h2
          refine ⟨r, ⟨_, hr, hl⟩, ?_, ?_⟩
          · have hj : Ev (fun k => impl_Range.j1 k (⟨#[97, 98]⟩ : ByteArray) (⟨#[99]⟩ : ByteArray) out xs (xs.length : Int) (i : Int) true x.f0 x.f1 x.f2) r := by
              refine Ev.step (fun k => ?_) h1
              simp only [impl_Range.j1, ew, e3, if_true]
            refine Ev.step (fun k => ?_) hj
            simp only [impl_Range.l0, hx, e1, e2, ea, eb, en, c1', c2, if_true, if_false, Bool.false_eq_true]
          · have q1 : ((out.length : Int) ≥ (r.length : Int)) = False := eq_false (by omega)
            have q2 : (0 ≤ (out.length : Int)) = True := eq_true (by omega)
            have q3 : ((out.length : Int) < (r.length : Int)) = True := eq_true (by omega)
            have q4 : rd_T33 r (out.length : Int) = x := by
              simp [rd_T33, hr, List.getD_eq_getElem?_getD]
            have hj8 : Ev (fun k => laws_FnMerged.j8 k xs r (out.length : Int) (i : Int) false) true := by
              refine Ev.step (fun k => ?_) h2
              simp only [laws_FnMerged.j8, eo, ew]
              rw [if_neg (by simp)]
            have hj : Ev (fun k => laws_FnMerged.j7 k xs r (out.length : Int) (i : Int) true) true := by
              refine Ev.step (fun k => ?_) hj8
              simp only [laws_FnMerged.j7, q1, q2, q3, q4, e1, e2, hx, if_true, if_false, beq_self_eq_true, Bool.not_true, Bool.or_false]
            refine Ev.step (fun k => ?_) hj
            simp only [laws_FnMerged.l3, hx, e1, e2, c1', c2, if_true, if_false, Bool.false_eq_true]
        · have c2' := eq_false_of_ne_true c2
          obtain ⟨r, h0, h1, h2⟩ := ih (i + 1) out (by omega) (by omega)
          refine ⟨r, h0, Ev.step (fun k => ?_) (skipI r h1), Ev.step (fun k => ?_) (skip r h2)⟩
          · simp only [impl_Range.l0, hx, e1, e2, ea, eb, en, c1', c2', if_true, if_false, Bool.false_eq_true]
          · simp only [laws_FnMerged.l3, hx, e1, e2, c1', c2', if_true, if_false, Bool.false_eq_true]
  obtain ⟨r, _, h1, h2⟩ := key xs.length 0 [] (by omega) (by simp)
  exact ⟨r, h1, h2⟩
theorem merged_law (L : List (List S33)) (drop : Bool) (r : List S33) (hN : L.length ≤ 1048576) (hl : ∀ l ∈ L, l.length ≤ 1048576) (hr : r.length ≤ 11000000) (hA : Asc r) (hD : ∀ p ∈ r, keepB drop p = true) (hS : ∀ q ∈ r, Sel L q) (hL : ∀ l ∈ L, Asc l) : Ev (fun k => laws_FnMerged.l0 k L drop r 0) true := by
  have main : ∀ (d i : Nat), i + d = r.length → Ev (fun k => laws_FnMerged.l0 k L drop r (i : Int)) true := by
    intro d
    induction d with
    | zero =>
      intro i hi
      obtain ⟨s, h1, h2⟩ := range_law r hr
      refine Ev.step (fun k => ?_) (Ev.bind' (f := fun k t => laws_FnMerged.l3 k r t 0 0) h1 h2)
      simp only [laws_FnMerged.l0]
      rw [if_neg (by omega)]
    | succ d ih =>
      intro i hi
      have hnx := ih (i + 1) (by omega)
      have hir : i < r.length := by omega
      have hq : rd_T33 r (i : Int) ∈ r := mem_rdP.2 ⟨i, hir, rfl⟩
      have ew : wrap64 ((i : Int) + 1) = ((i + 1 : Nat) : Int) := wrap_succ (n := r.length) (by omega) (by omega)
      have found : ∀ j : Nat, Ev (fun k => laws_FnMerged.l1 k L drop r (i : Int) true (j : Int)) true := by
        intro j
        refine Ev.step (f := fun k => laws_FnMerged.j3 k L drop r (i : Int) true (j : Int) false) (fun k => ?_) (Ev.step (fun k => ?_) hnx)
        · simp only [laws_FnMerged.l1, Bool.not_true]
          split <;> rfl
        · simp only [laws_FnMerged.j3, ew]
          rw [if_neg (by simp), if_pos trivial]
      have search : ∀ (d j : Nat), j + d = L.length → Sel (L.drop j) (rd_T33 r (i : Int)) → Ev (fun k => laws_FnMerged.l1 k L drop r (i : Int) false (j : Int)) true := by
        intro d
        induction d with
        | zero =>
          intro j hj hs
          rw [List.drop_eq_nil_of_le (by omega)] at hs
          exact hs.elim
        | succ d ih2 =>
          intro j hj hs
          have hjL : j < L.length := by omega
          have hmem : rd_L4 L (j : Int) ∈ L := by
            have : L.getD j [] = L[j] := by rw [List.getD_eq_getElem?_getD, List.getElem?_eq_getElem hjL]; rfl
            show L.getD j [] ∈ L
            rw [this]
            exact List.getElem_mem hjL
          have hdrop : L.drop j = rd_L4 L (j : Int) :: L.drop (j + 1) := by
            rw [List.drop_eq_getElem_cons hjL]
            show _ = L.getD j [] :: _
            rw [List.getD_eq_getElem?_getD, List.getElem?_eq_getElem hjL]
            rfl
          have ej : wrap64 ((j : Int) + 1) = ((j + 1 : Nat) : Int) := wrap_succ (n := L.length) hjL (by omega)
          have hlen := hl _ hmem
          have hasc := hL _ hmem
          generalize hlj : rd_L4 L (j : Int) = l at hmem hdrop hlen hasc
          have e1 : ((j : Int) < (L.length : Int)) = True := eq_true (by omega)
          have e2 : (0 ≤ (j : Int)) = True := eq_true (by omega)
          have e3 : (0 ≤ (i : Int)) = True := eq_true (by omega)
          have e4 : ((i : Int) < (r.length : Int)) = True := eq_true (by omega)
          have start : Ev (fun k => laws_FnMerged.l2 k L drop r (i : Int) false (j : Int) ((0 : Nat) : Int)) true → Ev (fun k => laws_FnMerged.l1 k L drop r (i : Int) false (j : Int)) true := by
            intro h
            refine Ev.step (f := fun k => laws_FnMerged.j3 k L drop r (i : Int) false (j : Int) true) (fun k => ?_) (Ev.step (fun k => ?_) h)
            · simp only [laws_FnMerged.l1, e1, if_true, Bool.not_false]
            · simp only [laws_FnMerged.j3, if_true]
              rfl
          have next : ∀ m : Nat, m < l.length → kk (rd_T33 l (m : Int)) ≠ kk (rd_T33 r (i : Int)) → Ev (fun k => laws_FnMerged.l2 k L drop r (i : Int) false (j : Int) ((m + 1 : Nat) : Int)) true → Ev (fun k => laws_FnMerged.l2 k L drop r (i : Int) false (j : Int) (m : Int)) true := by
            intro m hm hne h
            have m1 : ((m : Int) < (l.length : Int)) = True := eq_true (by omega)
            have m2 : (0 ≤ (m : Int)) = True := eq_true (by omega)
            have em : wrap64 ((m : Int) + 1) = ((m + 1 : Nat) : Int) := wrap_succ (n := l.length) hm (by omega)
            have hne' : ((rd_T33 l (m : Int)).f0.toList = (rd_T33 r (i : Int)).f0.toList) = False := eq_false hne
            refine Ev.step (f := fun k => laws_FnMerged.j5 k L drop r (i : Int) false (j : Int) (m : Int) true) (fun k => ?_) (Ev.step (fun k => ?_) h)
            · simp only [laws_FnMerged.l2, hlj, e1, e2, m1, if_true, Bool.not_false]
            · simp only [laws_FnMerged.j5, hlj, e1, e2, e3, e4, m1, m2, hne', em, if_true, if_false]
          rw [hdrop] at hs
          refine start ?_
          rcases hs with hin | ⟨hno, hs⟩
          · obtain ⟨m0, hm0, hq0⟩ := mem_rdP.1 hin
            have hlt : ∀ m, m < m0 → kk (rd_T33 l (m : Int)) ≠ kk (rd_T33 r (i : Int)) := by
              intro m hm
              rw [hq0]
              have := List.pairwise_iff_getElem.1 hasc m m0 (by omega) hm0 hm
              have h' : ltk (rd_T33 l (m : Int)) (rd_T33 l (m0 : Int)) := by
                simpa [rd_T33, List.getD_eq_getElem?_getD, List.getElem?_eq_getElem hm0, List.getElem?_eq_getElem (show m < l.length by omega)] using this
              exact ltk_ne h'
            have run : ∀ (d m : Nat), m + d = m0 → Ev (fun k => laws_FnMerged.l2 k L drop r (i : Int) false (j : Int) (m : Int)) true := by
              intro d
              induction d with
              | zero =>
                intro m hm
                have : m = m0 := by omega
                subst this
                have m1 : ((m : Int) < (l.length : Int)) = True := eq_true (by omega)
                have m2 : (0 ≤ (m : Int)) = True := eq_true (by omega)
                have em : wrap64 ((m : Int) + 1) = ((m + 1 : Nat) : Int) := wrap_succ (n := l.length) hm0 (by omega)
                refine Ev.step (f := fun k => laws_FnMerged.j5 k L drop r (i : Int) false (j : Int) (m : Int) true) (fun k => ?_) (Ev.step (f := fun k => laws_FnMerged.l2 k L drop r (i : Int) true (j : Int) ((m + 1 : Nat) : Int)) (fun k => ?_) (Ev.step (f := fun k => laws_FnMerged.j5 k L drop r (i : Int) true (j : Int) ((m + 1 : Nat) : Int) false) (fun k => ?_) (Ev.step (fun k => ?_) (found (j + 1)))))
                · simp only [laws_FnMerged.l2, hlj, e1, e2, m1, if_true, Bool.not_false]
                · simp only [laws_FnMerged.j5, hlj, e1, e2, e3, e4, m1, m2, ← hq0, em, if_true, if_false, beq_self_eq_true, Bool.not_true, Bool.or_false, Bool.false_eq_true]
                · simp only [laws_FnMerged.l2, hlj, e1, e2, if_true, Bool.not_true]
                  split <;> rfl
                · simp only [laws_FnMerged.j5, ej]
                  rw [if_neg (by simp)]
              | succ d ih3 =>
                intro m hm
                exact next m (by omega) (hlt m (by omega)) (ih3 (m + 1) (by omega))
            exact run m0 0 (by omega)
          · have hnx2 := ih2 (j + 1) (by omega) hs
            have run : ∀ (d m : Nat), m + d = l.length → Ev (fun k => laws_FnMerged.l2 k L drop r (i : Int) false (j : Int) (m : Int)) true := by
              intro d
              induction d with
              | zero =>
                intro m hm
                have m1 : ((m : Int) < (l.length : Int)) = False := eq_false (by omega)
                refine Ev.step (f := fun k => laws_FnMerged.j5 k L drop r (i : Int) false (j : Int) (m : Int) false) (fun k => ?_) (Ev.step (fun k => ?_) hnx2)
                · simp only [laws_FnMerged.l2, hlj, e1, e2, m1, if_true, if_false]
                · simp only [laws_FnMerged.j5, ej]
                  rw [if_neg (by simp)]
              | succ d ih3 =>
                intro m hm
                exact next m (by omega) (hno _ (mem_rdP.2 ⟨m, by omega, rfl⟩)) (ih3 (m + 1) (by omega))
            exact run l.length 0 (by omega)
      have hs0 := search L.length 0 (by omega) (by simpa using hS _ hq)
      have hj1 : Ev (fun k => laws_FnMerged.j1 k L drop r (i : Int) false) true := by
        refine Ev.step (fun k => ?_) hs0
        simp only [laws_FnMerged.j1]
        rw [if_neg (by simp)]
        rfl
      refine Ev.step (fun k => ?_) hj1
      have hdr : drop = true → (rd_T33 r (i : Int)).f2 = false := by
        intro h
        have := hD _ hq
        simpa [keepB, h] using this
      have e1 : ((i : Int) < (r.length : Int)) = True := eq_true (by omega)
      have e2 : (0 ≤ (i : Int)) = True := eq_true (by omega)
      by_cases h0 : (i : Int) > 0
      · have w : wrap64 ((i : Int) - 1) = ((i - 1 : Nat) : Int) := by rw [wrap_id (by omega) (by omega)]; omega
        have c1 : (0 ≤ ((i - 1 : Nat) : Int)) = True := eq_true (by omega)
        have c2 : (((i - 1 : Nat) : Int) < (r.length : Int)) = True := eq_true (by omega)
        have hlt : Op.bytesLess (rd_T33 r ((i - 1 : Nat) : Int)).f0.toList (rd_T33 r (i : Int)).f0.toList = true := by
          have := List.pairwise_iff_getElem.1 hA (i - 1) i (by omega) hir (by omega)
          have h' : ltk (rd_T33 r ((i - 1 : Nat) : Int)) (rd_T33 r (i : Int)) := by
            simpa [rd_T33, List.getD_eq_getElem?_getD, List.getElem?_eq_getElem hir, List.getElem?_eq_getElem (show i - 1 < r.length by omega)] using this
          exact h'
        have h0' := eq_true h0
        simp only [laws_FnMerged.l0, e1, e2, h0', w, c1, c2, hlt, if_true]
        by_cases hd : drop = true
        · rw [if_pos hd, hdr hd]
        · rw [if_neg hd]
      · have h0' := eq_false h0
        simp only [laws_FnMerged.l0, e1, e2, h0', if_true, if_false]
        by_cases hd : drop = true
        · rw [if_pos hd, hdr hd]
        · rw [if_neg hd]
  exact main r.length 0 (by omega)
theorem FnMerged : laws_FnMerged.Pure := by
  intro b hb
  refine Comes.true_ ?_
  simp only [laws_FnMerged.f, laws_big.f, Option.bind_some]
  refine Comes.ite (fun _ => Comes.ret true rfl) (fun hn => ?_)
  have hl : b.length ≤ 1048576 := by
    have : ¬ ((b.length : Int) > 1048576) := by simpa using hn
    omega
  refine Comes.bind (drawMerge_comes b hl) (fun d hd => ?_)
  obtain ⟨L, drop⟩ := d
  obtain ⟨hd1, hd2⟩ : (∀ l ∈ L, l.length ≤ 1048576) ∧ L.length ≤ 1048576 := hd
  obtain ⟨r, ⟨hr, hw⟩, h1, h2⟩ := merge_both L drop hd1 hd2
  have hs := samePairs_ev r hr
  have hm : Ev (fun k => laws_FnMerged.l0 k L drop r 0) true := by
    rcases hw with rfl | ⟨R, rfl, hA, hS, hL⟩
    · obtain ⟨s, h1, h2⟩ := range_law [] (by simp)
      refine Ev.step (fun k => ?_) (Ev.bind' (f := fun k t => laws_FnMerged.l3 k [] t 0 0) h1 h2)
      simp only [laws_FnMerged.l0]
      rw [if_neg (by simp)]
    · exact merged_law L drop _ hd2 hd1 hr (hA.filter _) (fun p hp => (List.mem_filter.1 hp).2) (fun q hq => (hS q).1 (List.mem_filter.1 hq).1) hL
  obtain ⟨K1, h1⟩ := h1
  obtain ⟨K2, h2⟩ := h2
  obtain ⟨K3, hs⟩ := hs
  obtain ⟨K4, hm⟩ := hm
  dsimp only at h1 h2 hs hm
  refine ⟨true, rfl, K1 + K2 + K3 + K4, fun k hk => ?_⟩
  dsimp only
  rw [h2 _ (by omega), Option.bind_some, h1 _ (by omega), Option.bind_some, hs _ (by omega), Option.bind_some, if_pos rfl, hm _ (by omega)]

end Go.Proofs.Ytbepbgfkajnlbaa.MPureFnMerged
