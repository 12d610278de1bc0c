/- FnStable: the order of a part of the drawn graph, closed under what is needed, agrees with that of the whole wherever one names the other. -/
import Derived.Test.YtgbejjeephipeaaMFnStableDef
set_option linter.unusedVariables false
set_option linter.unusedSimpArgs false
namespace Go.Proofs.Ytgbejjeephipeaa.MPureFnStable
open Go.RowKit Go.Proofs.Ytgbejjeephipeaa.MFnStable Go.Proofs.YtgbejjeephipeaaW.PrintWords Go.Proofs.YtgbejjeephipeaaW.PrintLast Go.Proofs.YtgbejjeephipeaaW.PrintMore

theorem wrap_id {i : Int} (h0 : -9223372036854775808 ≤ i) (h1 : i ≤ 9223372036854775807) : wrap64 i = i := by unfold wrap64; omega
theorem wrap_succ {i n : Nat} (h : i < n) (hn : n ≤ 9223372036854775807) : wrap64 ((i : Int) + 1) = ((i + 1 : Nat) : Int) := by unfold wrap64; omega
theorem rd_nat (xs : List Int) (i : Nat) : rd xs (i : Int) = xs.getD i 0 := by simp [rd]
theorem take_set_succ {α : Type} (l : List α) (i : Nat) (x : α) (h : i < l.length) : (l.set i x).take (i + 1) = l.take i ++ [x] := by
  rw [List.take_succ_eq_append_getElem (by simpa using h), List.getElem_set_self, List.take_set_of_le (Nat.le_refl _)]
theorem take_succ_getD {α : Type} (l : List α) (i : Nat) (d : α) (h : i < l.length) : l.take (i + 1) = l.take i ++ [l.getD i d] := by
  rw [List.take_succ_eq_append_getElem h, List.getD_eq_getElem?_getD, List.getElem?_eq_getElem h]
  rfl
theorem take_all {α : Type} {l m : List α} {n : Nat} (h : l.take n = m) (hl : l.length = n) : l = m := by
  rw [← h, ← hl, List.take_length]
theorem wf_u8 {x : Int} (h : (Lit.int .u8 x).wf = true) : 0 ≤ x ∧ x ≤ 255 := by
  simp [Lit.wf, IntKind.min, IntKind.max, IntKind.signed, IntKind.bits] at h
  omega
theorem wf_i64 {x : Int} (h : (Lit.int .i64 x).wf = true) : -9223372036854775808 ≤ x ∧ x ≤ 9223372036854775807 := by
  simp [Lit.wf, IntKind.min, IntKind.max, IntKind.signed, IntKind.bits] at h
  omega

theorem fill_loop {β : Type} (L : Nat → List β → Int → Option (List β)) (n : Nat) (g : Nat → β) (z : β)
    (hs : ∀ (i : Nat) (out : List β) (r : List β), i < n → out.length = n → Ev (fun k => L k (out.set i (g i)) ((i + 1 : Nat) : Int)) r → Ev (fun k => L k out (i : Int)) r)
    (he : ∀ out : List β, out.length = n → Ev (fun k => L k out (n : Int)) out) : Ev (fun k => L k (List.replicate n z) 0) ((List.range n).map g) := by
  have key : ∀ (d i : Nat) (out : List β), i + d = n → out.length = n → out.take i = (List.range i).map g → Ev (fun k => L k out (i : Int)) ((List.range n).map g) := by
    intro d
    induction d with
    | zero =>
      intro i out hi hl ht
      have : i = n := by omega
      subst this
      have e := take_all ht hl
      rw [← e]
      exact he out hl
    | succ d ih =>
      intro i out hi hl ht
      refine hs i out _ (by omega) hl (ih (i + 1) _ (by omega) (by simp [hl]) ?_)
      rw [take_set_succ _ _ _ (by omega), ht, List.range_succ, List.map_append]
      rfl
  exact key n 0 _ (by omega) (by simp) (by simp)
/-- A row that is written from the left: element i becomes g i, and a state goes along. -/
theorem mark_loop {β σ : Type} (L : Nat → List β → σ → Int → Option (σ × List β)) (n : Nat) (g : Nat → β) (st : Nat → σ)
    (hs : ∀ (i : Nat) (out : List β) (r : σ × List β), i < n → out.length = n → Ev (fun k => L k (out.set i (g i)) (st (i + 1)) ((i + 1 : Nat) : Int)) r → Ev (fun k => L k out (st i) (i : Int)) r)
    (he : ∀ out : List β, out.length = n → Ev (fun k => L k out (st n) (n : Int)) (st n, out)) (l : List β) (hl : l.length = n) : Ev (fun k => L k l (st 0) 0) (st n, (List.range n).map g) := by
  have key : ∀ (d i : Nat) (out : List β), i + d = n → out.length = n → out.take i = (List.range i).map g → Ev (fun k => L k out (st i) (i : Int)) (st n, (List.range n).map g) := by
    intro d
    induction d with
    | zero =>
      intro i out hi hl ht
      have : i = n := by omega
      subst this
      have e := take_all ht hl
      rw [← e]
      exact he out hl
    | succ d ih =>
      intro i out hi hl ht
      refine hs i out _ (by omega) hl (ih (i + 1) _ (by omega) (by simp [hl]) ?_)
      rw [take_set_succ _ _ _ (by omega), ht, List.range_succ, List.map_append]
      rfl
  exact key n 0 _ (by omega) hl (by simp)
theorem scan_loop {ρ : Type} (g : Nat → Nat → Option ρ) (n : Nat) (r : ρ) (hs : ∀ i, i < n → Ev (g (i + 1)) r → Ev (g i) r) (he : Ev (g n) r) : Ev (g 0) r := by
  have key : ∀ (d i : Nat), i + d = n → Ev (g i) r := by
    intro d
    induction d with
    | zero => intro i hi; have : i = n := by omega
              subst this; exact he
    | succ d ih => intro i hi; exact hs i (by omega) (ih (i + 1) (by omega))
  exact key n 0 (by omega)
theorem range_map_get {α β : Type} (l : List α) (f : α → β) (d : α) : (List.range l.length).map (fun i => f (l.getD i d)) = l.map f := by
  apply List.ext_getElem?
  intro i
  rw [List.getElem?_map, List.getElem?_map]
  by_cases h : i < l.length
  · simp [h, List.getD_eq_getElem?_getD]
  · rw [List.getElem?_eq_none (by simp; omega), List.getElem?_eq_none (by omega)]
    rfl
theorem range_map_getD {β : Type} (n i : Nat) (g : Nat → β) (d : β) (h : i < n) : ((List.range n).map g).getD i d = g i := by
  simp [List.getD_eq_getElem?_getD, h]
theorem Ev.bind' {α β : Type} {g : Nat → Option α} {f : Nat → α → Option β} {a : α} {r : β} (h : Ev g a) (k : Ev (fun n => f n a) r) : Ev (fun n => (g n).bind (f n)) r := Ev.bind h k
theorem Ev.cond {α : Type} {g f : Nat → Option α} {r : α} (h : ∃ K, ∀ k, K ≤ k → g k = f k) (k : Ev f r) : Ev g r := by
  obtain ⟨K, h⟩ := h
  obtain ⟨K', k⟩ := k
  exact ⟨K + K', fun n hn => by rw [h n (by omega)]; exact k n (by omega)⟩
/-- One round: at n + 1 it is what it is at n of another. -/
theorem Ev.round {α : Type} {g f : Nat → Option α} {r : α} (h : ∃ K, ∀ k, K ≤ k → g (k + 1) = f k) (k : Ev f r) : Ev g r := by
  obtain ⟨K, h⟩ := h
  obtain ⟨K', k⟩ := k
  exact ⟨K + K' + 1, fun n hn => by
    obtain ⟨m, rfl⟩ : ∃ m, n = m + 1 := ⟨n - 1, by omega⟩
    rw [h m (by omega)]; exact k m (by omega)⟩
theorem Ev.ends {α : Type} {g : Nat → Option α} {r : α} (h : ∀ k, g (k + 1) = some r) : Ev g r := ⟨1, fun n hn => by
  obtain ⟨m, rfl⟩ : ∃ m, n = m + 1 := ⟨n - 1, by omega⟩
  exact h m⟩
theorem Ev.all {α : Type} {g : Nat → Option α} {r : α} (h : ∀ k, g k = some r) : Ev g r := ⟨0, fun n _ => h n⟩

/-- Both come to one answer, of which P holds. -/
def Both {α : Type} (P : α → Prop) (f g : Nat → Option α) : Prop := ∃ r, P r ∧ Ev f r ∧ Ev g r
namespace Both
variable {α β : Type} {P : α → Prop} {f f' g g' : Nat → Option α}
theorem step (h1 : ∀ k, f (k + 1) = f' k) (h2 : ∀ k, g (k + 1) = g' k) (h : Both P f' g') : Both P f g := by
  obtain ⟨r, hp, a, b⟩ := h
  exact ⟨r, hp, Ev.step h1 a, Ev.step h2 b⟩
theorem left (h1 : ∀ k, f (k + 1) = f' k) (h : Both P f' g) : Both P f g := by
  obtain ⟨r, hp, a, b⟩ := h
  exact ⟨r, hp, Ev.step h1 a, b⟩
theorem right (h2 : ∀ k, g (k + 1) = g' k) (h : Both P f g') : Both P f g := by
  obtain ⟨r, hp, a, b⟩ := h
  exact ⟨r, hp, a, Ev.step h2 b⟩
theorem ret (r : α) (h : P r) : Both P (fun _ => some r) (fun _ => some r) := ⟨r, h, Ev.now r, Ev.now r⟩
theorem ite {c : Prop} [Decidable c] (h1 : c → Both P f g) (h2 : ¬ c → Both P f' g') : Both P (fun k => if c then f k else f' k) (fun k => if c then g k else g' k) := by
  by_cases h : c
  · simpa only [if_pos h] using h1 h
  · simpa only [if_neg h] using h2 h
theorem bind {Q : β → Prop} {p q : Nat → Option β} {F G : Nat → β → Option α} (h : Both Q p q) (k : ∀ b, Q b → Both P (fun n => F n b) (fun n => G n b)) : Both P (fun n => (p n).bind (F n)) (fun n => (q n).bind (G n)) := by
  obtain ⟨b, hq, h1, h2⟩ := h
  obtain ⟨r, hp, a, c⟩ := k b hq
  exact ⟨r, hp, Ev.bind h1 a, Ev.bind h2 c⟩
theorem of {r : α} (h1 : Ev f r) (h2 : Ev g r) (hp : P r) : Both P f g := ⟨r, hp, h1, h2⟩
theorem eq {r : α} (h1 : Ev f r) (h2 : Ev g r) : Both (fun x => x = r) f g := ⟨r, rfl, h1, h2⟩
theorem any {Q : α → Prop} (h : Both Q f g) : Both (fun _ => True) f g := by
  obtain ⟨r, _, a, b⟩ := h
  exact ⟨r, trivial, a, b⟩
theorem mono {P' : α → Prop} (h : Both P f g) (hi : ∀ r, P r → P' r) : Both P' f g := by
  obtain ⟨r, hp, a, b⟩ := h
  exact ⟨r, hi r hp, a, b⟩
end Both
/-- It comes to an answer, of which P holds. -/
def Comes {α : Type} (P : α → Prop) (f : Nat → Option α) : Prop := ∃ r, P r ∧ Ev f r
namespace Comes
variable {α β : Type} {P : α → Prop} {f f' : Nat → Option α}
theorem step (h1 : ∀ k, f (k + 1) = f' k) (h : Comes P f') : Comes P f := by
  obtain ⟨r, hp, a⟩ := h
  exact ⟨r, hp, Ev.step h1 a⟩
theorem ret (r : α) (h : P r) : Comes P (fun _ => some r) := ⟨r, h, Ev.now r⟩
theorem ite {c : Prop} [Decidable c] (h1 : c → Comes P f) (h2 : ¬ c → Comes P f') : Comes P (fun k => if c then f k else f' k) := by
  by_cases h : c
  · simpa only [if_pos h] using h1 h
  · simpa only [if_neg h] using h2 h
theorem bind {Q : β → Prop} {p : Nat → Option β} {F : Nat → β → Option α} (h : Comes Q p) (k : ∀ b, Q b → Comes P (fun n => F n b)) : Comes P (fun n => (p n).bind (F n)) := by
  obtain ⟨b, hq, h1⟩ := h
  obtain ⟨r, hp, a⟩ := k b hq
  exact ⟨r, hp, Ev.bind h1 a⟩
theorem mono {P' : α → Prop} (h : Comes P f) (hi : ∀ r, P r → P' r) : Comes P' f := by
  obtain ⟨r, hp, a⟩ := h
  exact ⟨r, hi r hp, a⟩
theorem rounds (h : Comes P f) : ∃ k r, f k = some r ∧ P r := by
  obtain ⟨r, hp, a⟩ := h
  obtain ⟨k, hk⟩ := a.rounds
  exact ⟨k, r, hk, hp⟩
theorem true_ {f : Nat → Option Bool} (h : Comes (fun b => b = true) f) : ∃ k, f k = some true := by
  obtain ⟨k, r, hk, rfl⟩ := h.rounds
  exact ⟨k, hk⟩
theorem some_ (o : Option α) (r : α) (h : o = some r) (hp : P r) : Comes P (fun _ => o) := ⟨r, hp, Ev.all (fun _ => h)⟩
end Comes

theorem l1In_eq (a b c : Int) : spec_l1In.f a b c = some (decide (b ≤ a) && decide (a ≤ c)) := by
  unfold spec_l1In.f
  by_cases h : a ≥ b
  · rw [if_pos h, decide_eq_true (show b ≤ a from h), Bool.true_and]
  · rw [if_neg h, decide_eq_false (show ¬ b ≤ a from h), Bool.false_and]

theorem in_eq (a b c : Int) : impl_in.f a b c = some (decide (b ≤ a) && decide (a ≤ c)) := by
  unfold impl_in.f
  by_cases h : a ≥ b
  · rw [if_pos h, decide_eq_true (show b ≤ a from h), Bool.true_and]
  · rw [if_neg h, decide_eq_false (show ¬ b ≤ a from h), Bool.false_and]

theorem ite_and (a b : Bool) : (if a = true then some b else some false) = some (a && b) := by cases a <;> rfl
theorem ite_some {c : Prop} [Decidable c] (a b : Bool) : (if c then some a else some b) = some (if c then a else b) := by split <;> rfl
theorem neq_self (b : Bool) : (if (b != b) = true then (some false : Option Bool) else some true) = some true := by cases b <;> rfl

def dotOkR (a b : Int) : Bool := (decide (1 ≤ a) && decide (a ≤ 7)) && (decide (1 ≤ b) && decide (b ≤ 999))
def dotLessR (a b c d : Int) : Bool := if a < c then true else if a = c then decide (b < d) else false
theorem spec_dotOk_eq (a b : Int) : spec_DotOk.f a b = some (dotOkR a b) := by
  simp only [spec_DotOk.f, l1In_eq, Option.bind_some, dotOkR]
  cases (decide (1 ≤ a) && decide (a ≤ 7)) <;> rfl
theorem impl_dotOk_eq (a b : Int) : impl_DotOk.f a b = some (dotOkR a b) := by
  simp only [impl_DotOk.f, in_eq, Option.bind_some, dotOkR]
  cases (decide (1 ≤ a) && decide (a ≤ 7)) <;> rfl
theorem spec_dotLess_eq (a b c d : Int) : spec_DotLess.f a b c d = some (dotLessR a b c d) := by
  simp only [spec_DotLess.f, dotLessR]
  (repeat' split) <;> rfl
theorem impl_dotLess_eq (a b c d : Int) : impl_DotLess.f a b c d = some (dotLessR a b c d) := by
  simp only [impl_DotLess.f, dotLessR]
  (repeat' split) <;> rfl
def depAt (xs : List S31) (i : Nat) : Bool := dotOkR (rd_T31 xs (i : Int)).f0 (rd_T31 xs (i : Int)).f1 && (if (i : Int) > 0 then dotLessR (rd_T31 xs ((i : Int) - 1)).f0 (rd_T31 xs ((i : Int) - 1)).f1 (rd_T31 xs (i : Int)).f0 (rd_T31 xs (i : Int)).f1 else true)
def depR (xs : List S31) : Nat → Nat → Bool
  | 0, _ => true
  | d + 1, i => depAt xs i && depR xs d (i + 1)
def eqAt (xs : List S31) (a b : Int) (i : Nat) : Bool := (rd_T31 xs (i : Int)).f0 == a && ((rd_T31 xs (i : Int)).f1 == b)
def hasR (xs : List S31) (a b : Int) : Nat → Nat → Bool
  | 0, _ => false
  | d + 1, i => eqAt xs a b i || hasR xs a b d (i + 1)
theorem spec_has_l0 (xs : List S31) (hn : xs.length ≤ 1048576) (a b : Int) : ∀ (d i : Nat), i + d = xs.length → Ev (fun k => spec_l8Has.l0 k xs (i : Int) a b) (hasR xs a b d i) := by
  intro d
  induction d with
  | zero =>
    intro i hi
    refine Ev.ends (fun k => ?_)
    simp only [spec_l8Has.l0]
    rw [if_neg (by omega)]
    rfl
  | succ d ih =>
    intro i hi
    have e1 : ((i : Int) < (xs.length : Int)) = True := eq_true (by omega)
    have e2 : (0 ≤ (i : Int)) = True := eq_true (by omega)
    have ew : wrap64 ((i : Int) + 1) = ((i + 1 : Nat) : Int) := wrap_succ (n := xs.length) (by omega) (by omega)
    unfold hasR
    by_cases h : eqAt xs a b i = true
    · refine Ev.ends (fun k => ?_)
      unfold eqAt at h
      simp only [spec_l8Has.l0, e1, e2, h, if_true]
      unfold eqAt
      rw [h, Bool.true_or]
    · have := ih (i + 1) (by omega)
      rw [eq_false_of_ne_true h, Bool.false_or]
      refine Ev.step (fun k => ?_) this
      unfold eqAt at h
      simp only [spec_l8Has.l0, e1, e2, ew, if_true]
      rw [if_neg h]
theorem spec_item_l0 (xs : List S31) (hn : xs.length ≤ 1048576) (a b : Int) : ∀ (d i : Nat), i + d = xs.length → Ev (fun k => spec_l8Item.l0 k (i : Int) a b xs) (depR xs d i) := by
  intro d
  induction d with
  | zero =>
    intro i hi
    refine Ev.ends (fun k => ?_)
    simp only [spec_l8Item.l0]
    rw [if_neg (by omega)]
    rfl
  | succ d ih =>
    intro i hi
    have e1 : ((i : Int) < (xs.length : Int)) = True := eq_true (by omega)
    have e2 : (0 ≤ (i : Int)) = True := eq_true (by omega)
    have ew : wrap64 ((i : Int) + 1) = ((i + 1 : Nat) : Int) := wrap_succ (n := xs.length) (by omega) (by omega)
    have nx := ih (i + 1) (by omega)
    unfold depR depAt
    by_cases h : dotOkR (rd_T31 xs (i : Int)).f0 (rd_T31 xs (i : Int)).f1 = true
    · by_cases hp : (i : Int) > 0
      · have ew2 : wrap64 ((i : Int) - 1) = (i : Int) - 1 := wrap_id (by omega) (by omega)
        have e3 : (0 ≤ (i : Int) - 1) = True := eq_true (by omega)
        have e4 : ((i : Int) - 1 < (xs.length : Int)) = True := eq_true (by omega)
        by_cases hl : dotLessR (rd_T31 xs ((i : Int) - 1)).f0 (rd_T31 xs ((i : Int) - 1)).f1 (rd_T31 xs (i : Int)).f0 (rd_T31 xs (i : Int)).f1 = true
        · rw [h, if_pos hp, hl, Bool.true_and, Bool.true_and]
          refine Ev.step (fun k => ?_) nx
          simp only [spec_l8Item.l0, spec_dotOk_eq, spec_dotLess_eq, Option.bind_some, e1, e2, ew, ew2, e3, e4, h, hl, hp, if_true]
        · rw [h, if_pos hp, eq_false_of_ne_true hl, Bool.and_false, Bool.false_and]
          refine Ev.ends (fun k => ?_)
          simp only [spec_l8Item.l0, spec_dotOk_eq, spec_dotLess_eq, Option.bind_some, e1, e2, ew, ew2, e3, e4, h, hp, if_true]
          rw [if_neg hl]
      · rw [h, if_neg hp, Bool.true_and, Bool.true_and]
        refine Ev.step (fun k => ?_) nx
        simp only [spec_l8Item.l0, spec_dotOk_eq, Option.bind_some, e1, e2, ew, h, if_true]
        rw [if_neg hp]
    · rw [eq_false_of_ne_true h, Bool.false_and, Bool.false_and]
      refine Ev.ends (fun k => ?_)
      simp only [spec_l8Item.l0, spec_dotOk_eq, Option.bind_some, e1, e2, if_true]
      rw [if_neg h]
theorem impl_deps_l0 (xs : List S31) (hn : xs.length ≤ 1048576) (a b : Int) : ∀ (d i : Nat), i + d = xs.length → Ev (fun k => impl_depsOk.l0 k xs xs (xs.length : Int) (i : Int) a b) (depR xs d i && (!(hasR xs a b d i) && decide ((xs.length : Int) ≤ 60))) := by
  intro d
  induction d with
  | zero =>
    intro i hi
    refine Ev.ends (fun k => ?_)
    simp only [impl_depsOk.l0]
    rw [if_neg (by omega)]
    rfl
  | succ d ih =>
    intro i hi
    have e1 : ((i : Int) < (xs.length : Int)) = True := eq_true (by omega)
    have e2 : (0 ≤ (i : Int)) = True := eq_true (by omega)
    have ew : wrap64 ((i : Int) + 1) = ((i + 1 : Nat) : Int) := wrap_succ (n := xs.length) (by omega) (by omega)
    have nx := ih (i + 1) (by omega)
    unfold depR hasR depAt
    by_cases h : dotOkR (rd_T31 xs (i : Int)).f0 (rd_T31 xs (i : Int)).f1 = true
    · by_cases hq : eqAt xs a b i = true
      · rw [hq, Bool.true_or, Bool.not_true, Bool.false_and, Bool.and_false]
        refine Ev.ends (fun k => ?_)
        unfold eqAt at hq
        simp only [impl_depsOk.l0, impl_dotOk_eq, Option.bind_some, e1, e2, h, hq, if_true]
      rw [eq_false_of_ne_true hq, Bool.false_or]
      unfold eqAt at hq
      by_cases hp : (i : Int) > 0
      · have ew2 : wrap64 ((i : Int) - 1) = (i : Int) - 1 := wrap_id (by omega) (by omega)
        have e3 : (0 ≤ (i : Int) - 1) = True := eq_true (by omega)
        have e4 : ((i : Int) - 1 < (xs.length : Int)) = True := eq_true (by omega)
        by_cases hl : dotLessR (rd_T31 xs ((i : Int) - 1)).f0 (rd_T31 xs ((i : Int) - 1)).f1 (rd_T31 xs (i : Int)).f0 (rd_T31 xs (i : Int)).f1 = true
        · rw [h, if_pos hp, hl, Bool.true_and, Bool.true_and]
          refine Ev.step (fun k => ?_) nx
          simp only [impl_depsOk.l0, impl_dotOk_eq, impl_dotLess_eq, Option.bind_some, e1, e2, ew, ew2, e3, e4, h, hl, hp, if_true]
          rw [if_neg hq]
        · rw [h, if_pos hp, eq_false_of_ne_true hl, Bool.and_false, Bool.false_and, Bool.false_and]
          refine Ev.ends (fun k => ?_)
          simp only [impl_depsOk.l0, impl_dotOk_eq, impl_dotLess_eq, Option.bind_some, e1, e2, ew, ew2, e3, e4, h, hp, if_true]
          rw [if_neg hq, if_neg hl]
      · rw [h, if_neg hp, Bool.true_and, Bool.true_and]
        refine Ev.step (fun k => ?_) nx
        simp only [impl_depsOk.l0, impl_dotOk_eq, Option.bind_some, e1, e2, ew, h, if_true]
        rw [if_neg hq, if_neg hp]
    · rw [eq_false_of_ne_true h, Bool.false_and, Bool.false_and, Bool.false_and]
      refine Ev.ends (fun k => ?_)
      simp only [impl_depsOk.l0, impl_dotOk_eq, Option.bind_some, e1, e2, if_true]
      rw [if_neg h]
def itemR (a b : Int) (xs : List S31) : Bool := dotOkR a b && (depR xs xs.length 0 && (!(hasR xs a b xs.length 0) && decide ((xs.length : Int) ≤ 60)))
theorem spec_item_ev (a b : Int) (xs : List S31) (hn : xs.length ≤ 1048576) : Ev (fun k => spec_l8Item.f k a b xs) (itemR a b xs) := by
  have j0t : Ev (fun k => spec_l8Item.j0 k true a b xs) false := Ev.ends (fun k => by simp only [spec_l8Item.j0]; rw [if_pos trivial])
  unfold itemR
  simp only [spec_l8Item.f, spec_dotOk_eq, Option.bind_some]
  by_cases h : dotOkR a b = true
  · simp only [h, if_true, Bool.true_and]
    by_cases h6 : (xs.length : Int) > 60
    · have e : decide ((xs.length : Int) ≤ 60) = false := decide_eq_false (by omega)
      simp only [if_pos h6, e, Bool.and_false]
      exact j0t
    · have e : decide ((xs.length : Int) ≤ 60) = true := decide_eq_true (by omega)
      simp only [if_neg h6, e, Bool.and_true]
      have hh : Ev (fun k => spec_l8Has.f k xs a b) (hasR xs a b xs.length 0) := spec_has_l0 xs hn a b xs.length 0 (by omega)
      refine Ev.bind' (f := fun n t => spec_l8Item.j0 n t a b xs) hh ?_
      by_cases hq : hasR xs a b xs.length 0 = true
      · simp only [hq, Bool.not_true, Bool.and_false]
        exact j0t
      · simp only [eq_false_of_ne_true hq, Bool.not_false, Bool.and_true]
        refine Ev.step (fun k => ?_) (spec_item_l0 xs hn a b xs.length 0 (by omega))
        simp only [spec_l8Item.j0]
        rw [if_neg (by simp)]
        rfl
  · simp only [eq_false_of_ne_true h, Bool.false_and, Bool.false_eq_true, if_false]
    exact j0t
theorem impl_deps_ev (a b : Int) (xs : List S31) (hn : xs.length ≤ 1048576) : Ev (fun k => impl_depsOk.f k a b xs) (depR xs xs.length 0 && (!(hasR xs a b xs.length 0) && decide ((xs.length : Int) ≤ 60))) := impl_deps_l0 xs hn a b xs.length 0 (by omega)
def asc (xs : List S33) (j : Nat) : Prop := dotLessR (rd_T33 xs ((j : Int) - 1)).f0.f0 (rd_T33 xs ((j : Int) - 1)).f0.f1 (rd_T33 xs (j : Int)).f0.f0 (rd_T33 xs (j : Int)).f0.f1 = true
theorem graphOk_asc (xs : List S33) (hn : xs.length ≤ 1048576) (hd : ∀ x ∈ xs, x.f1.length ≤ 1048576) : Both (fun r => r = true → ∀ j, 0 < j → j < xs.length → asc xs j) (fun k => spec_GraphOk.f k xs) (fun k => impl_GraphOk.f k xs) := by
  have key : ∀ (d i : Nat), i + d = xs.length → Both (fun r => r = true → ∀ j, i ≤ j → 0 < j → j < xs.length → asc xs j) (fun k => spec_GraphOk.l0 k (i : Int) xs) (fun k => impl_GraphOk.l0 k xs (xs.length : Int) (i : Int) xs) := by
    intro d
    induction d with
    | zero =>
      intro i hi
      refine Both.step (fun k => spec_GraphOk.l0.eq_2 ..) (fun k => impl_GraphOk.l0.eq_2 ..) ?_
      have e1 : ((i : Int) < (xs.length : Int)) = False := eq_false (by omega)
      simp only [e1, if_false]
      exact Both.ret _ (fun _ j h1 h2 h3 => by omega)
    | succ d ih =>
      intro i hi
      refine Both.step (fun k => spec_GraphOk.l0.eq_2 ..) (fun k => impl_GraphOk.l0.eq_2 ..) ?_
      have e1 : ((i : Int) < (xs.length : Int)) = True := eq_true (by omega)
      have e2 : (0 ≤ (i : Int)) = True := eq_true (by omega)
      have ew : wrap64 ((i : Int) + 1) = ((i + 1 : Nat) : Int) := wrap_succ (n := xs.length) (by omega) (by omega)
      have hm : (rd_T33 xs (i : Int)).f1.length ≤ 1048576 := hd _ (by
        simp only [rd_T33, Int.toNat_natCast]
        rw [List.getD_eq_getElem?_getD, List.getElem?_eq_getElem (show i < xs.length by omega)]
        exact List.getElem_mem _)
      simp only [e1, e2, if_true, ew, impl_dotOk_eq, Option.bind_some]
      have s1 := spec_item_ev (rd_T33 xs (i : Int)).f0.f0 (rd_T33 xs (i : Int)).f0.f1 _ hm
      have s2 := impl_deps_ev (rd_T33 xs (i : Int)).f0.f0 (rd_T33 xs (i : Int)).f0.f1 _ hm
      have tail : Both (fun r => r = true → ∀ j, i ≤ j → 0 < j → j < xs.length → asc xs j) (fun k => if (i : Int) > 0 then (if 0 ≤ (wrap64 ((i : Int) - 1)) then (if (wrap64 ((i : Int) - 1)) < (xs.length : Int) then ((spec_DotLess.f ((rd_T33 xs (wrap64 ((i : Int) - 1))).f0.f0) ((rd_T33 xs (wrap64 ((i : Int) - 1))).f0.f1) ((rd_T33 xs (i : Int)).f0.f0) ((rd_T33 xs (i : Int)).f0.f1)).bind fun t127 => (if t127 = true then (spec_GraphOk.l0 k ((i + 1 : Nat) : Int) xs) else (some false))) else (none)) else (none)) else (spec_GraphOk.l0 k ((i + 1 : Nat) : Int) xs)) (fun k => if (i : Int) > 0 then (if 0 ≤ (wrap64 ((i : Int) - 1)) then (if (wrap64 ((i : Int) - 1)) < (xs.length : Int) then ((impl_DotLess.f ((rd_T33 xs (wrap64 ((i : Int) - 1))).f0.f0) ((rd_T33 xs (wrap64 ((i : Int) - 1))).f0.f1) ((rd_T33 xs (i : Int)).f0.f0) ((rd_T33 xs (i : Int)).f0.f1)).bind fun t179 => (if t179 = true then (impl_GraphOk.l0 k xs (xs.length : Int) ((i + 1 : Nat) : Int) xs) else (some false))) else (none)) else (none)) else (impl_GraphOk.l0 k xs (xs.length : Int) ((i + 1 : Nat) : Int) xs)) := by
        refine Both.ite (fun hp => ?_) (fun hp => (ih (i + 1) (by omega)).mono (fun r hr h j h1 h2 h3 => hr h j (by omega) h2 h3))
        have ew2 : wrap64 ((i : Int) - 1) = (i : Int) - 1 := wrap_id (by omega) (by omega)
        have e3 : (0 ≤ (i : Int) - 1) = True := eq_true (by omega)
        have e4 : ((i : Int) - 1 < (xs.length : Int)) = True := eq_true (by omega)
        simp only [ew2, e3, e4, if_true, spec_dotLess_eq, impl_dotLess_eq, Option.bind_some]
        refine Both.ite (fun hl => (ih (i + 1) (by omega)).mono (fun r hr h j h1 h2 h3 => ?_)) (fun _ => Both.ret _ (fun h => by simp at h))
        by_cases e : j = i
        · subst e; exact hl
        · exact hr h j (by omega) h2 h3
      unfold itemR at s1
      by_cases h : dotOkR (rd_T33 xs (i : Int)).f0.f0 (rd_T33 xs (i : Int)).f0.f1 = true
      · rw [h, Bool.true_and] at s1
        simp only [h, if_true]
        exact Both.bind (Both.eq s1 s2) (fun b _ => Both.ite (fun _ => tail) (fun _ => Both.ret _ (fun h => by simp at h)))
      · rw [eq_false_of_ne_true h, Bool.false_and] at s1
        simp only [eq_false_of_ne_true h, Bool.false_eq_true, if_false]
        refine Both.of (r := false) (Ev.bind' (f := fun k (t : Bool) => if t = true then _ else _) s1 ?_) (Ev.now false) (fun h => by simp at h)
        simp only [Bool.false_eq_true, if_false]
        exact Ev.now false
  exact (key xs.length 0 (by omega)).mono (fun r hr h j h1 h2 => hr h j (by omega) h1 h2)
theorem graphOk_both (xs : List S33) (hn : xs.length ≤ 1048576) (hd : ∀ x ∈ xs, x.f1.length ≤ 1048576) : Both (fun _ => True) (fun k => spec_GraphOk.f k xs) (fun k => impl_GraphOk.f k xs) := (graphOk_asc xs hn hd).any

set_option linter.unusedSectionVars false
section reach
variable {D : Type} [DecidableEq D] (loc : D → Option Nat) (deps : Nat → List D)
/-- What is reached over one step or more. -/
inductive Rch : D → D → Prop
  | one {a b : D} {i : Nat} : loc a = some i → b ∈ deps i → Rch a b
  | more {a b c : D} {i : Nat} : Rch a b → loc b = some i → c ∈ deps i → Rch a c
theorem Rch.trans {a b c : D} (h1 : Rch loc deps a b) (h2 : Rch loc deps b c) : Rch loc deps a c := by
  induction h2 with
  | one h m => exact .more h1 h m
  | more _ h m ih => exact .more ih h m
def cnt (T o : List D) : Nat := T.countP (fun x => decide (x ∉ o))
theorem cnt_le (T : List D) (o : List D) (x : D) : cnt T (o ++ [x]) ≤ cnt T o := by
  unfold cnt
  refine List.countP_mono_left (fun y _ h => ?_)
  have h := of_decide_eq_true h
  exact decide_eq_true (fun hm => h (by simp [hm]))
theorem cnt_lt {T : List D} {o : List D} {x : D} (hx : x ∈ T) (ho : x ∉ o) : cnt T (o ++ [x]) + 1 ≤ cnt T o := by
  induction T with
  | nil => simp at hx
  | cons y T ih =>
    have hc : ∀ o : List D, cnt (y :: T) o = cnt T o + (if y ∉ o then 1 else 0) := fun o => by
      unfold cnt
      rw [List.countP_cons]
      simp
    rw [hc, hc]
    by_cases hy : y = x
    · subst hy
      rw [if_neg (by simp), if_pos ho]
      have := cnt_le T o y
      omega
    · have hx : x ∈ T := by
        rcases List.mem_cons.1 hx with h | h
        · exact absurd h.symm hy
        · exact h
      have := ih hx
      by_cases hm : y ∈ o
      · rw [if_neg (by simp [hm]), if_neg (by simp [hm])]; omega
      · rw [if_pos (by simp [hm, hy]), if_pos hm]; omega
def addAll (ds : List D) (s : List D × List D) : List D × List D := ds.foldl (fun s x => if x ∈ s.1 then s else (s.1 ++ [x], s.2 ++ [x])) s
theorem addAll_cons (x : D) (ds o t : List D) : addAll (x :: ds) (o, t) = addAll ds (if x ∈ o then (o, t) else (o ++ [x], t ++ [x])) := rfl
theorem addAll_spec (T : List D) : ∀ (ds o t : List D), (∀ x ∈ ds, x ∈ T) → ∃ ns, addAll ds (o, t) = (o ++ ns, t ++ ns) ∧ (∀ x ∈ ns, x ∈ ds) ∧ (∀ x ∈ ds, x ∈ o ++ ns) ∧ ns.length + cnt T (o ++ ns) ≤ cnt T o := by
  intro ds
  induction ds with
  | nil => intro o t _; exact ⟨[], by simp [addAll], by simp, by simp, by simp⟩
  | cons x ds ih =>
    intro o t hT
    rw [addAll_cons]
    by_cases hx : x ∈ o
    · rw [if_pos hx]
      obtain ⟨ns, h1, h2, h3, h4⟩ := ih o t (fun y hy => hT y (by simp [hy]))
      refine ⟨ns, h1, fun y hy => by simp [h2 y hy], fun y hy => ?_, h4⟩
      rcases List.mem_cons.1 hy with rfl | hy
      · simp [hx]
      · exact h3 y hy
    · rw [if_neg hx]
      obtain ⟨ns, h1, h2, h3, h4⟩ := ih (o ++ [x]) (t ++ [x]) (fun y hy => hT y (by simp [hy]))
      have hc := cnt_lt (hT x (by simp)) hx
      refine ⟨x :: ns, by rw [h1]; simp, fun y hy => ?_, fun y hy => ?_, ?_⟩
      · rcases List.mem_cons.1 hy with rfl | hy
        · simp
        · simp [h2 y hy]
      · rcases List.mem_cons.1 hy with rfl | hy
        · simp
        · have := h3 y hy
          simpa using this
      · have e : o ++ x :: ns = o ++ [x] ++ ns := by simp
        rw [e, List.length_cons]
        omega
def bfs : Nat → List D → List D → List D × Bool
  | _, o, [] => (o, true)
  | 0, _, _ :: _ => ([], false)
  | m + 1, o, y :: t => match loc y with
    | none => ([], false)
    | some i => bfs m (addAll (deps i) (o, t)).1 (addAll (deps i) (o, t)).2
structure Reached (d : D) (T : List D) (r : List D × Bool) : Prop where
  all : r.2 = true → ∀ x, x ∈ r.1 ↔ Rch loc deps d x
  whole : r.2 = true ↔ ∀ y, (y = d ∨ Rch loc deps d y) → loc y ≠ none
  none : r.2 = false → r.1 = []
  small : r.1.length ≤ T.length
theorem bfs_inv (T : List D) (hT : ∀ y i, loc y = some i → ∀ x ∈ deps i, x ∈ T) (d : D) : ∀ (m : Nat) (o t : List D), t.length + cnt T o ≤ m → o.length + cnt T o ≤ T.length →
    (∀ x ∈ t, x = d ∨ Rch loc deps d x) → (∀ x ∈ o, Rch loc deps d x) → (∀ y, (y = d ∨ y ∈ o) → y ∉ t → ∃ i, loc y = some i ∧ ∀ x ∈ deps i, x ∈ o) → Reached loc deps d T (bfs loc deps m o t) := by
  intro m
  induction m with
  | zero =>
    intro o t hm hl h1 h2 h3
    have ht : t = [] := List.length_eq_zero_iff.1 (by omega)
    subst ht
    have hall : ∀ x, Rch loc deps d x → x ∈ o := by
      intro x hx
      induction hx with
      | one h m =>
        obtain ⟨i, hi, hd⟩ := h3 d (.inl rfl) (by simp)
        rw [hi] at h; injection h with h; subst h
        exact hd _ m
      | more _ h m ih =>
        obtain ⟨i, hi, hd⟩ := h3 _ (.inr ih) (by simp)
        rw [hi] at h; injection h with h; subst h
        exact hd _ m
    refine ⟨fun _ x => ⟨h2 x, hall x⟩, ⟨fun _ y hy => ?_, fun _ => rfl⟩, fun h => by simp [bfs] at h, by simp only [bfs]; omega⟩
    obtain ⟨i, hi, _⟩ := h3 y (hy.imp id (hall y)) (by simp)
    rw [hi]; simp
  | succ m ih =>
    intro o t hm hl h1 h2 h3
    cases t with
    | nil =>
      have hall : ∀ x, Rch loc deps d x → x ∈ o := by
        intro x hx
        induction hx with
        | one h m =>
          obtain ⟨i, hi, hd⟩ := h3 d (.inl rfl) (by simp)
          rw [hi] at h; injection h with h; subst h
          exact hd _ m
        | more _ h m ih =>
          obtain ⟨i, hi, hd⟩ := h3 _ (.inr ih) (by simp)
          rw [hi] at h; injection h with h; subst h
          exact hd _ m
      refine ⟨fun _ x => ⟨h2 x, hall x⟩, ⟨fun _ y hy => ?_, fun _ => rfl⟩, fun h => by simp [bfs] at h, by simp only [bfs]; omega⟩
      obtain ⟨i, hi, _⟩ := h3 y (hy.imp id (hall y)) (by simp)
      rw [hi]; simp
    | cons y t =>
      simp only [bfs]
      cases hy : loc y with
      | none =>
        refine ⟨fun h => by simp at h, ⟨fun h => by simp at h, fun h => ?_⟩, fun _ => rfl, by simp⟩
        exact absurd hy (h y (h1 y (by simp)))
      | some i =>
        have hyR := h1 y (by simp)
        obtain ⟨ns, e, n1, n2, n3⟩ := addAll_spec T (deps i) o t (hT y i hy)
        simp only [e]
        have hnR : ∀ x ∈ deps i, Rch loc deps d x := fun x hx => by
          rcases hyR with rfl | hr
          · exact .one hy hx
          · exact .more hr hy hx
        refine ih (o ++ ns) (t ++ ns) (by rw [List.length_append]; rw [List.length_cons] at hm; omega) (by rw [List.length_append]; omega) (fun x hx => ?_) (fun x hx => ?_) (fun z hz hzt => ?_)
        · rcases List.mem_append.1 hx with hx | hx
          · exact h1 x (by simp [hx])
          · exact .inr (hnR x (n1 x hx))
        · rcases List.mem_append.1 hx with hx | hx
          · exact h2 x hx
          · exact hnR x (n1 x hx)
        · have hzt1 : z ∉ t := fun h => hzt (by simp [h])
          have hzn : z ∉ ns := fun h => hzt (by simp [h])
          by_cases hzy : z = y
          · subst hzy
            exact ⟨i, hy, n2⟩
          · obtain ⟨j, hj, hd⟩ := h3 z (hz.imp id (fun h => (List.mem_append.1 h).resolve_right hzn)) (fun h => (List.mem_cons.1 h).elim hzy hzt1)
            exact ⟨j, hj, fun x hx => List.mem_append.2 (.inl (hd x hx))⟩
theorem bfs_spec (T : List D) (hT : ∀ y i, loc y = some i → ∀ x ∈ deps i, x ∈ T) (d : D) (m : Nat) (hm : T.length + 1 ≤ m) : Reached loc deps d T (bfs loc deps m [] [d]) := by
  have hc : cnt T ([] : List D) ≤ T.length := List.countP_le_length
  refine bfs_inv loc deps T hT d m [] [d] (by simp only [List.length_cons, List.length_nil]; omega) (by simpa using hc) (fun x hx => .inl (by simpa using hx)) (fun x hx => by simp at hx) (fun y hy hn => ?_)
  rcases hy with rfl | hy
  · exact absurd (by simp) hn
  · simp at hy
/-- The reference's way: by places. -/
def addS (ds : List D) (s : List Bool × Bool × List Nat) : List Bool × Bool × List Nat := ds.foldl (fun s x => match loc x with
  | none => (s.1, false, s.2.2)
  | some j => if s.1.getD j false = true then s else (s.1.set j true, s.2.1, s.2.2 ++ [j])) s
def fls (met : List Bool) : Nat := met.countP (fun b => !b)
theorem fls_set {met : List Bool} {j : Nat} (hj : j < met.length) (h : met.getD j false ≠ true) : fls (met.set j true) + 1 = fls met := by
  induction met generalizing j with
  | nil => simp at hj
  | cons b met ih =>
    cases j with
    | zero =>
      simp at h
      subst h
      simp [fls]
    | succ j =>
      have := ih (j := j) (by simpa using hj) (by simpa using h)
      simp only [fls, List.set_cons_succ, List.countP_cons] at this ⊢
      omega
theorem getD_set_t (met : List Bool) (j p : Nat) (hj : j < met.length) : (met.set j true).getD p false = if p = j then true else met.getD p false := by
  by_cases h : p = j
  · subst h
    rw [if_pos rfl, List.getD_eq_getElem?_getD, List.getElem?_set_self (by omega)]
    rfl
  · rw [if_neg h, List.getD_eq_getElem?_getD, List.getElem?_set_ne (fun e => h e.symm), List.getD_eq_getElem?_getD]
theorem addS_spec (n : Nat) (hloc : ∀ x j, loc x = some j → j < n) : ∀ (ds : List D) (met : List Bool) (w : Bool) (q : List Nat), met.length = n → ∃ met' w' ns, addS loc ds (met, w, q) = (met', w', q ++ ns) ∧ met'.length = n ∧ ns.length + fls met' = fls met ∧
    (∀ p, met.getD p false = true → met'.getD p false = true) ∧ (∀ p, met'.getD p false = true → met.getD p false = true ∨ p ∈ ns) ∧ (∀ p ∈ ns, met'.getD p false = true ∧ ∃ x ∈ ds, loc x = some p) ∧ (w = false → w' = false) ∧
    (∀ x ∈ ds, (∀ j, loc x = some j → met'.getD j false = true) ∧ (loc x = none → w' = false)) ∧ (w' = false → w = false ∨ ∃ x ∈ ds, loc x = none) := by
  intro ds
  induction ds with
  | nil => intro met w q hn; exact ⟨met, w, [], by simp [addS], hn, by simp, fun _ h => h, fun _ h => .inl h, by simp, id, by simp, .inl⟩
  | cons x ds ih =>
    intro met w q hn
    have hc : addS loc (x :: ds) (met, w, q) = addS loc ds (match loc x with | none => (met, false, q) | some j => if met.getD j false = true then (met, w, q) else (met.set j true, w, q ++ [j])) := rfl
    rw [hc]
    cases hx : loc x with
    | none =>
      obtain ⟨met', w', ns, h1, h2, h3, h4, h5, h6, h7, h8, h9⟩ := ih met false q hn
      refine ⟨met', w', ns, h1, h2, h3, h4, h5, fun p hp => ⟨(h6 p hp).1, ?_⟩, fun _ => h7 rfl, fun y hy => ?_, fun _ => .inr ⟨x, by simp, hx⟩⟩
      · obtain ⟨y, hy, e⟩ := (h6 p hp).2
        exact ⟨y, by simp [hy], e⟩
      · rcases List.mem_cons.1 hy with rfl | hy
        · exact ⟨fun j hj => by rw [hx] at hj; simp at hj, fun _ => h7 rfl⟩
        · exact h8 y hy
    | some j =>
      have hj := hloc x j hx
      dsimp only
      by_cases hm : met.getD j false = true
      · rw [if_pos hm]
        obtain ⟨met', w', ns, h1, h2, h3, h4, h5, h6, h7, h8, h9⟩ := ih met w q hn
        refine ⟨met', w', ns, h1, h2, h3, h4, h5, fun p hp => ⟨(h6 p hp).1, ?_⟩, h7, fun y hy => ?_, fun h => ?_⟩
        · obtain ⟨y, hy, e⟩ := (h6 p hp).2
          exact ⟨y, by simp [hy], e⟩
        · rcases List.mem_cons.1 hy with rfl | hy
          · exact ⟨fun j' hj' => by rw [hx] at hj'; injection hj' with hj'; subst hj'; exact h4 _ hm, fun h => by rw [hx] at h; simp at h⟩
          · exact h8 y hy
        · rcases h9 h with h | ⟨y, hy, e⟩
          · exact .inl h
          · exact .inr ⟨y, by simp [hy], e⟩
      · rw [if_neg hm]
        obtain ⟨met', w', ns, h1, h2, h3, h4, h5, h6, h7, h8, h9⟩ := ih (met.set j true) w (q ++ [j]) (by simpa using hn)
        have hset := fun p => getD_set_t met j p (by omega)
        have hmj : met'.getD j false = true := h4 j (by rw [hset, if_pos rfl])
        refine ⟨met', w', j :: ns, by rw [h1]; simp, h2, ?_, fun p hp => h4 p ?_, fun p hp => ?_, fun p hp => ?_, h7, fun y hy => ?_, fun h => ?_⟩
        · rw [List.length_cons]
          have := fls_set (met := met) (j := j) (by omega) hm
          omega
        · rw [hset]; split
          · rfl
          · exact hp
        · rcases h5 p hp with h | h
          · rw [hset] at h
            split at h
            · rename_i e; subst e; exact .inr (by simp)
            · exact .inl h
          · exact .inr (by simp [h])
        · rcases List.mem_cons.1 hp with rfl | hp
          · exact ⟨hmj, x, by simp, hx⟩
          · refine ⟨(h6 p hp).1, ?_⟩
            obtain ⟨y, hy, e⟩ := (h6 p hp).2
            exact ⟨y, by simp [hy], e⟩
        · rcases List.mem_cons.1 hy with rfl | hy
          · exact ⟨fun j' hj' => by rw [hx] at hj'; injection hj' with hj'; subst hj'; exact hmj, fun h => by rw [hx] at h; simp at h⟩
          · exact h8 y hy
        · rcases h9 h with h | ⟨y, hy, e⟩
          · exact .inl h
          · exact .inr ⟨y, by simp [hy], e⟩
def bfsS : Nat → List Bool → Bool → List Nat → List Bool × Bool
  | _, met, w, [] => (met, w)
  | 0, met, w, _ :: _ => (met, w)
  | m + 1, met, w, j :: r => bfsS m (addS loc (deps j) (met, w, r)).1 (addS loc (deps j) (met, w, r)).2.1 (addS loc (deps j) (met, w, r)).2.2
structure ReachedS (dot : Nat → D) (n i : Nat) (r : List Bool × Bool) : Prop where
  len : r.1.length = n
  all : ∀ j, j < n → (r.1.getD j false = true ↔ Rch loc deps (dot i) (dot j))
  whole : r.2 = true ↔ ∀ y, Rch loc deps (dot i) y → loc y ≠ none
theorem bfsS_inv (n : Nat) (dot : Nat → D) (hdot : ∀ j, j < n → loc (dot j) = some j) (hloc : ∀ x j, loc x = some j → j < n ∧ dot j = x) (i : Nat) (hi : i < n) : ∀ (m : Nat) (met : List Bool) (w : Bool) (done r : List Nat), r.length + fls met ≤ m → met.length = n →
    i ∈ done ++ r → (∀ j ∈ done ++ r, j < n ∧ (j = i ∨ Rch loc deps (dot i) (dot j))) → (∀ j, met.getD j false = true → j ∈ done ++ r ∧ Rch loc deps (dot i) (dot j)) →
    (∀ j ∈ done, ∀ x ∈ deps j, (∀ p, loc x = some p → met.getD p false = true) ∧ (loc x = none → w = false)) → (w = false → ∃ x, Rch loc deps (dot i) x ∧ loc x = none) → ReachedS loc deps dot n i (bfsS loc deps m met w r) := by
  have fin : ∀ (met : List Bool) (w : Bool) (done : List Nat), met.length = n → i ∈ done → (∀ j, met.getD j false = true → j ∈ done ∧ Rch loc deps (dot i) (dot j)) →
      (∀ j ∈ done, ∀ x ∈ deps j, (∀ p, loc x = some p → met.getD p false = true) ∧ (loc x = none → w = false)) → (w = false → ∃ x, Rch loc deps (dot i) x ∧ loc x = none) → ReachedS loc deps dot n i (met, w) := by
    intro met w done hn hi0 h2 h3 h4
    have key : ∀ a x, Rch loc deps a x → a = dot i → (∀ p, loc x = some p → met.getD p false = true) ∧ (loc x = none → w = false) := by
      intro a x hx
      induction hx with
      | one h m =>
        intro ha
        subst ha
        rw [hdot i hi] at h; injection h with h; subst h
        exact h3 _ hi0 _ m
      | more _ h m ih =>
        intro ha
        exact h3 _ (h2 _ ((ih ha).1 _ h)).1 _ m
    refine ⟨hn, fun j hj => ⟨fun h => (h2 j h).2, fun h => (key _ _ h rfl).1 j (hdot j hj)⟩, ⟨fun h y hy hnone => ?_, fun h => ?_⟩⟩
    · have := (key _ _ hy rfl).2 hnone
      rw [this] at h; simp at h
    · cases hw : w with
      | true => rfl
      | false =>
        obtain ⟨x, hx, e⟩ := h4 hw
        exact absurd e (h x hx)
  intro m
  induction m with
  | zero =>
    intro met w done r hm hn hi0 h1 h2 h3 h4
    have hr : r = [] := List.length_eq_zero_iff.1 (by omega)
    subst hr
    rw [List.append_nil] at hi0 h1 h2
    simp only [bfsS]
    exact fin met w done hn hi0 h2 h3 h4
  | succ m ih =>
    intro met w done r hm hn hi0 h1 h2 h3 h4
    cases r with
    | nil =>
      rw [List.append_nil] at hi0 h1 h2
      simp only [bfsS]
      exact fin met w done hn hi0 h2 h3 h4
    | cons j r =>
      simp only [bfsS]
      obtain ⟨met', w', ns, e, a1, a2, a3, a4, a5, a6, a7, a8⟩ := addS_spec loc n (fun x p hp => (hloc x p hp).1) (deps j) met w r hn
      simp only [e]
      have hj := h1 j (by simp)
      have hdR : ∀ x ∈ deps j, Rch loc deps (dot i) x := fun x hx => by
        rcases hj.2 with rfl | hr
        · exact .one (hdot _ hj.1) hx
        · exact .more hr (hdot _ hj.1) hx
      have ea : (done ++ [j]) ++ (r ++ ns) = (done ++ j :: r) ++ ns := by simp
      have hns : ∀ p ∈ ns, p < n ∧ Rch loc deps (dot i) (dot p) := fun p hp => by
        obtain ⟨x, hx, hl⟩ := (a5 p hp).2
        obtain ⟨q1, q2⟩ := hloc x p hl
        exact ⟨q1, q2 ▸ hdR x hx⟩
      refine ih met' w' (done ++ [j]) (r ++ ns) (by rw [List.length_append]; rw [List.length_cons] at hm; omega) a1 (by rw [ea]; exact List.mem_append.2 (.inl hi0)) (fun p hp => ?_) (fun p hp => ?_) (fun p hp => ?_) (fun hw => ?_)
      · rw [ea] at hp
        rcases List.mem_append.1 hp with hp | hp
        · exact h1 p hp
        · exact ⟨(hns p hp).1, .inr (hns p hp).2⟩
      · rw [ea]
        rcases a4 p hp with h | h
        · exact ⟨List.mem_append.2 (.inl (h2 p h).1), (h2 p h).2⟩
        · exact ⟨List.mem_append.2 (.inr h), (hns p h).2⟩
      · rcases List.mem_append.1 hp with hp | hp
        · intro x hx
          have := h3 p hp x hx
          exact ⟨fun q hq => a3 _ (this.1 q hq), fun hq => a6 (this.2 hq)⟩
        · have hp : p = j := by simpa using hp
          subst hp
          exact a7
      · rcases a8 hw with h | ⟨x, hx, e⟩
        · exact h4 h
        · exact ⟨x, hdR x hx, e⟩
theorem bfsS_spec (n : Nat) (dot : Nat → D) (hdot : ∀ j, j < n → loc (dot j) = some j) (hloc : ∀ x j, loc x = some j → j < n ∧ dot j = x) (i : Nat) (hi : i < n) (m : Nat) (hm : n + 1 ≤ m) : ReachedS loc deps dot n i (bfsS loc deps m (List.replicate n false) true [i]) := by
  have hf : fls (List.replicate n false) ≤ n := by
    have := List.countP_le_length (p := fun b => !b) (l := List.replicate n false)
    simpa [fls] using this
  have hg : ∀ j, (List.replicate n false).getD j false = false := fun j => by
    rw [List.getD_eq_getElem?_getD]
    by_cases h : j < n
    · rw [List.getElem?_replicate, if_pos h]; rfl
    · rw [List.getElem?_replicate, if_neg h]; rfl
  refine bfsS_inv loc deps n dot hdot hloc i hi m _ true [] [i] (by simp only [List.length_cons, List.length_nil]; omega) (by simp) (by simp) (fun j hj => ?_) (fun j hj => ?_) (fun j hj => by simp at hj) (fun h => by simp at h)
  · have : j = i := by simpa using hj
    subst this
    exact ⟨hi, .inl rfl⟩
  · rw [hg j] at hj
    simp at hj
end reach

set_option linter.unusedSectionVars false
section sorted
variable {D : Type} [DecidableEq D] (less : D → D → Bool)
/-- Ascending dots with one more. -/
def ins : List D → D → List D
  | [], d => [d]
  | x :: l, d => if less x d = true then x :: ins l d else if x = d then x :: l else d :: x :: l
structure Strict : Prop where
  irr : ∀ a, less a a = false
  trans : ∀ {a b c}, less a b = true → less b c = true → less a c = true
  tot : ∀ {a b}, less a b = false → a ≠ b → less b a = true
def Asc (l : List D) : Prop := l.Pairwise (fun a b => less a b = true)
theorem mem_ins (l : List D) (d x : D) : x ∈ ins less l d ↔ x = d ∨ x ∈ l := by
  induction l with
  | nil => simp [ins]
  | cons y l ih =>
    unfold ins
    split
    · rw [List.mem_cons, ih, List.mem_cons]
      constructor
      · rintro (h | h | h)
        · exact .inr (.inl h)
        · exact .inl h
        · exact .inr (.inr h)
      · rintro (h | h | h)
        · exact .inr (.inl h)
        · exact .inl h
        · exact .inr (.inr h)
    · split
      · rename_i h
        subst h
        rw [List.mem_cons]
        constructor
        · exact .inr
        · rintro (h | h)
          · exact .inl h
          · exact h
      · rw [List.mem_cons]
theorem ins_length (l : List D) (d : D) : (ins less l d).length ≤ l.length + 1 := by
  induction l with
  | nil => simp [ins]
  | cons y l ih =>
    unfold ins
    split
    · simp only [List.length_cons]; omega
    · split <;> simp
theorem asc_ins (hs : Strict less) (l : List D) (d : D) (h : Asc less l) : Asc less (ins less l d) := by
  induction l with
  | nil => simp [ins, Asc]
  | cons y l ih =>
    have h1 := List.pairwise_cons.1 h
    unfold ins
    split
    · rename_i hl
      refine List.pairwise_cons.2 ⟨fun z hz => ?_, ih h1.2⟩
      rcases (mem_ins less l d z).1 hz with rfl | hz
      · exact hl
      · exact h1.1 z hz
    · rename_i hl
      split
      · exact h
      · rename_i hne
        have hdy := hs.tot (Bool.eq_false_iff.2 hl) hne
        refine List.pairwise_cons.2 ⟨fun z hz => ?_, h⟩
        rcases List.mem_cons.1 hz with rfl | hz
        · exact hdy
        · exact hs.trans hdy (h1.1 z hz)
theorem asc_ext (hs : Strict less) : ∀ (l m : List D), Asc less l → Asc less m → (∀ x, x ∈ l ↔ x ∈ m) → l = m
  | [], [], _, _, _ => rfl
  | [], y :: m, _, _, h => by have := (h y).2 (by simp); simp at this
  | y :: l, [], _, _, h => by have := (h y).1 (by simp); simp at this
  | x :: l, y :: m, hl, hm, h => by
    have h1 := List.pairwise_cons.1 hl
    have h2 := List.pairwise_cons.1 hm
    have e : x = y := by
      rcases List.mem_cons.1 ((h x).1 (by simp)) with e | hx
      · exact e
      · rcases List.mem_cons.1 ((h y).2 (by simp)) with e | hy
        · exact e.symm
        · have a := hs.trans (h1.1 y hy) (h2.1 x hx)
          rw [hs.irr] at a
          simp at a
    subst e
    have : l = m := asc_ext hs l m h1.2 h2.2 (fun z => ⟨fun hz => ?_, fun hz => ?_⟩)
    · rw [this]
    · rcases List.mem_cons.1 ((h z).1 (by simp [hz])) with rfl | h'
      · have a := h1.1 z hz
        rw [hs.irr] at a
        simp at a
      · exact h'
    · rcases List.mem_cons.1 ((h z).2 (by simp [hz])) with rfl | h'
      · have a := h2.1 z hz
        rw [hs.irr] at a
        simp at a
      · exact h'
/-- How far the lesser ones go. -/
def low (d : D) : List D → Nat
  | [] => 0
  | x :: l => if less x d = true then low d l + 1 else 0
theorem low_le (d : D) (l : List D) : low less d l ≤ l.length := by
  induction l with
  | nil => simp [low]
  | cons x l ih => unfold low; split <;> simp only [List.length_cons] <;> omega
theorem ins_eq (d z : D) (l : List D) : ins less l d = if low less d l < l.length ∧ l.getD (low less d l) z = d then l else l.take (low less d l) ++ d :: l.drop (low less d l) := by
  induction l with
  | nil => simp [ins, low]
  | cons x l ih =>
    unfold ins low
    by_cases h : less x d = true
    · rw [if_pos h, if_pos h, ih]
      simp only [List.length_cons, List.getD_cons_succ, Nat.add_lt_add_iff_right]
      split <;> simp
    · rw [if_neg h, if_neg h]
      simp only [List.length_cons, List.getD_cons_zero, List.take_zero, List.drop_zero, List.nil_append]
      by_cases e : x = d
      · rw [if_pos e, if_pos ⟨by omega, e⟩]
      · rw [if_neg e, if_neg (fun h => e h.2)]
end sorted

instance : DecidableEq S31 := fun a b => if h : a.f0 = b.f0 ∧ a.f1 = b.f1 then isTrue (by
  cases a; cases b
  obtain ⟨rfl, rfl⟩ := h
  rfl) else isFalse (fun e => h (by subst e; exact ⟨rfl, rfl⟩))
theorem dot_eq_iff (a b : S31) : (a.f0 == b.f0 && (a.f1 == b.f1)) = decide (a = b) := by
  by_cases h : a = b
  · subst h; simp
  · rw [decide_eq_false h]
    cases hq : (a.f0 == b.f0 && (a.f1 == b.f1)) with
    | false => rfl
    | true =>
      rw [Bool.and_eq_true, beq_iff_eq, beq_iff_eq] at hq
      cases a; cases b
      obtain ⟨rfl, rfl⟩ := hq
      exact absurd rfl h
theorem dot_pos {a b : S31} (h : a = b) : (a.f0 == b.f0 && (a.f1 == b.f1)) = true := by rw [dot_eq_iff]; exact decide_eq_true h
theorem dot_neg {a b : S31} (h : ¬ a = b) : ¬ (a.f0 == b.f0 && (a.f1 == b.f1)) = true := by rw [dot_eq_iff]; simpa using h
def lessD (a b : S31) : Bool := dotLessR a.f0 a.f1 b.f0 b.f1
theorem lessD_strict : Strict lessD := ⟨fun a => by simp [lessD, dotLessR], fun {a b c} h1 h2 => by
    simp only [lessD, dotLessR] at h1 h2 ⊢
    split at h1
    · split at h2
      · rw [if_pos (by omega)]
      · split at h2
        · rw [if_pos (by omega)]
        · simp at h2
    · split at h1
      · split at h2
        · rw [if_pos (by omega)]
        · split at h2
          · have h1 := of_decide_eq_true h1
            have h2 := of_decide_eq_true h2
            rw [if_neg (by omega), if_pos (by omega)]
            exact decide_eq_true (by omega)
          · simp at h2
      · simp at h1, fun {a b} h1 hne => by
    simp only [lessD, dotLessR] at h1 ⊢
    split at h1
    · simp at h1
    · split at h1
      · have h1 := of_decide_eq_false h1
        rw [if_neg (by omega), if_pos (by omega)]
        refine decide_eq_true ?_
        rcases Int.lt_or_gt_of_ne (a := a.f1) (b := b.f1) (fun e => hne (by cases a; cases b; simp_all)) with h | h
        · exact absurd h h1
        · exact h
      · rw [if_pos (by omega)]⟩
theorem drop_getD {α : Type} (l : List α) (i : Nat) (z : α) (h : i < l.length) : l.drop i = l.getD i z :: l.drop (i + 1) := by
  rw [List.drop_eq_getElem_cons h, List.getD_eq_getElem?_getD, List.getElem?_eq_getElem h]
  rfl
/-- The place of a command. -/
def locL (d : S31) : List S33 → Nat → Option Nat
  | [], _ => none
  | x :: l, i => if x.f0 = d then some i else locL d l (i + 1)
def locX (xs : List S33) (d : S31) : Option Nat := locL d xs 0
def depX (xs : List S33) (i : Nat) : List S31 := (xs.getD i z33).f1
def dotX (xs : List S33) (i : Nat) : S31 := (xs.getD i z33).f0
def allX (xs : List S33) : List S31 := xs.flatMap (fun x => x.f1)
def intO : Option Nat → Int
  | none => -1
  | some i => (i : Int)
theorem locL_some (d : S31) : ∀ (l : List S33) (i j : Nat), locL d l i = some j → i ≤ j ∧ j < i + l.length ∧ (l.getD (j - i) z33).f0 = d := by
  intro l
  induction l with
  | nil => intro i j h; simp [locL] at h
  | cons x l ih =>
    intro i j h
    unfold locL at h
    split at h
    · injection h with h
      subst h
      refine ⟨Nat.le_refl _, by simp, ?_⟩
      rw [Nat.sub_self, List.getD_cons_zero]
      assumption
    · obtain ⟨h1, h2, h3⟩ := ih _ _ h
      refine ⟨by omega, by rw [List.length_cons]; omega, ?_⟩
      have e : j - i = (j - (i + 1)) + 1 := by omega
      rw [e, List.getD_cons_succ]
      exact h3
theorem locL_none (d : S31) : ∀ (l : List S33) (i : Nat), locL d l i = none → ∀ x ∈ l, x.f0 ≠ d := by
  intro l
  induction l with
  | nil => intro i _ x hx; simp at hx
  | cons x l ih =>
    intro i h y hy
    unfold locL at h
    split at h
    · simp at h
    · rcases List.mem_cons.1 hy with rfl | hy
      · assumption
      · exact ih _ h y hy
theorem locX_some {xs : List S33} {d : S31} {j : Nat} (h : locX xs d = some j) : j < xs.length ∧ dotX xs j = d := by
  obtain ⟨_, h2, h3⟩ := locL_some d xs 0 j h
  exact ⟨by omega, h3⟩
theorem getI_mem {xs : List S33} {j : Nat} (h : j < xs.length) : xs.getD j z33 ∈ xs := by
  rw [List.getD_eq_getElem?_getD, List.getElem?_eq_getElem h]
  exact List.getElem_mem _
theorem depX_all {xs : List S33} (y : S31) (i : Nat) (h : locX xs y = some i) : ∀ x ∈ depX xs i, x ∈ allX xs := fun x hx => List.mem_flatMap.2 ⟨_, getI_mem (locX_some h).1, hx⟩
theorem allX_length (xs : List S33) (hd : ∀ x ∈ xs, x.f1.length ≤ 1048576) : (allX xs).length ≤ xs.length * 1048576 := by
  unfold allX
  induction xs with
  | nil => simp
  | cons x xs ih =>
    have h1 := hd x (by simp)
    have h2 := ih (fun y hy => hd y (by simp [hy]))
    rw [List.flatMap_cons, List.length_append, List.length_cons, Nat.succ_mul]
    omega
theorem asc_lt {xs : List S33} (h : ∀ j, 0 < j → j < xs.length → asc xs j) : ∀ (d i : Nat), i + d + 1 < xs.length → lessD (dotX xs i) (dotX xs (i + d + 1)) = true := by
  have hs : ∀ j, j + 1 < xs.length → lessD (dotX xs j) (dotX xs (j + 1)) = true := fun j hj => by
    have := h (j + 1) (by omega) hj
    unfold asc at this
    have e : ((j + 1 : Nat) : Int) - 1 = (j : Int) := by omega
    rw [e] at this
    exact this
  intro d
  induction d with
  | zero => intro i hi; exact hs i hi
  | succ d ih => intro i hi; exact lessD_strict.trans (ih i (by omega)) (hs (i + d + 1) hi)
theorem dotX_inj {xs : List S33} (h : ∀ j, 0 < j → j < xs.length → asc xs j) {i j : Nat} (hi : i < xs.length) (hj : j < xs.length) (e : dotX xs i = dotX xs j) : i = j := by
  rcases Nat.lt_trichotomy i j with hl | hl | hl
  · have := asc_lt h (j - i - 1) i (by omega)
    rw [show i + (j - i - 1) + 1 = j from by omega, e, lessD_strict.irr] at this
    simp at this
  · exact hl
  · have := asc_lt h (i - j - 1) j (by omega)
    rw [show j + (i - j - 1) + 1 = i from by omega, e, lessD_strict.irr] at this
    simp at this
theorem locX_dot {xs : List S33} (h : ∀ j, 0 < j → j < xs.length → asc xs j) {j : Nat} (hj : j < xs.length) : locX xs (dotX xs j) = some j := by
  cases e : locX xs (dotX xs j) with
  | none => exact absurd rfl (locL_none _ xs 0 e _ (getI_mem hj))
  | some i =>
    obtain ⟨h1, h2⟩ := locX_some e
    rw [dotX_inj h h1 hj h2]
theorem itemAt_ev (xs : List S33) (hn : xs.length ≤ 1048576) (d : S31) : Ev (fun k => impl_itemAt.f k xs d.f0 d.f1) (intO (locX xs d)) := by
  have key : ∀ (n i : Nat), i + n = xs.length → Ev (fun k => impl_itemAt.l0 k xs (xs.length : Int) (i : Int) d.f0 d.f1) (intO (locL d (xs.drop i) i)) := by
    intro n
    induction n with
    | zero =>
      intro i hi
      rw [List.drop_of_length_le (by omega)]
      refine Ev.ends (fun k => ?_)
      simp only [impl_itemAt.l0]
      rw [if_neg (by omega)]
      rfl
    | succ n ih =>
      intro i hi
      rw [drop_getD xs i z33 (by omega)]
      unfold locL
      by_cases h : (xs.getD i z33).f0 = d
      · rw [if_pos h]
        refine Ev.ends (fun k => ?_)
        simp only [impl_itemAt.l0]
        rw [if_pos (by omega), if_pos (by omega), if_pos (by omega), if_pos (dot_pos (a := (rd_T33 xs (i : Int)).f0) h)]
        rfl
      · rw [if_neg h]
        refine Ev.step (fun k => ?_) (ih (i + 1) (by omega))
        simp only [impl_itemAt.l0]
        rw [if_pos (by omega), if_pos (by omega), if_pos (by omega), if_neg (dot_neg (a := (rd_T33 xs (i : Int)).f0) h), wrap_succ (n := xs.length) (by omega) (by omega)]
  exact key xs.length 0 (by omega)
theorem l8At_ev (xs : List S33) (hn : xs.length ≤ 1048576) (d : S31) : Ev (fun k => spec_l8At.f k xs d.f0 d.f1) (intO (locX xs d)) := by
  have key : ∀ (n i : Nat), i + n = xs.length → Ev (fun k => spec_l8At.l0 k (i : Int) xs d.f0 d.f1) (intO (locL d (xs.drop i) i)) := by
    intro n
    induction n with
    | zero =>
      intro i hi
      rw [List.drop_of_length_le (by omega)]
      refine Ev.ends (fun k => ?_)
      simp only [spec_l8At.l0]
      rw [if_neg (by omega)]
      rfl
    | succ n ih =>
      intro i hi
      rw [drop_getD xs i z33 (by omega)]
      unfold locL
      by_cases h : (xs.getD i z33).f0 = d
      · rw [if_pos h]
        refine Ev.ends (fun k => ?_)
        simp only [spec_l8At.l0]
        rw [if_pos (by omega), if_pos (by omega), if_pos (dot_pos (a := (rd_T33 xs (i : Int)).f0) h)]
        rfl
      · rw [if_neg h]
        refine Ev.step (fun k => ?_) (ih (i + 1) (by omega))
        simp only [spec_l8At.l0]
        rw [if_pos (by omega), if_pos (by omega), if_neg (dot_neg (a := (rd_T33 xs (i : Int)).f0) h), wrap_succ (n := xs.length) (by omega) (by omega)]
  exact key xs.length 0 (by omega)
theorem hasDot_ev (l : List S31) (hn : l.length ≤ 4611686018427387904) (d : S31) : Ev (fun k => impl_hasDot.f k l d.f0 d.f1) (decide (d ∈ l)) := by
  have key : ∀ (n i : Nat), i + n = l.length → Ev (fun k => impl_hasDot.l0 k l (l.length : Int) (i : Int) d.f0 d.f1) (decide (d ∈ l.drop i)) := by
    intro n
    induction n with
    | zero =>
      intro i hi
      rw [List.drop_of_length_le (by omega)]
      refine Ev.ends (fun k => ?_)
      simp only [impl_hasDot.l0]
      rw [if_neg (by omega)]
      rfl
    | succ n ih =>
      intro i hi
      rw [drop_getD l i z31 (by omega)]
      by_cases h : l.getD i z31 = d
      · refine Ev.ends (fun k => ?_)
        simp only [impl_hasDot.l0]
        rw [if_pos (by omega), if_pos (by omega), if_pos (by omega), if_pos (dot_pos (a := rd_T31 l (i : Int)) h), h, decide_eq_true (by simp)]
      · have e : decide (d ∈ l.getD i z31 :: l.drop (i + 1)) = decide (d ∈ l.drop (i + 1)) := by
          rw [decide_eq_decide, List.mem_cons]
          exact ⟨fun hh => hh.resolve_left (fun e => h e.symm), .inr⟩
        rw [e]
        refine Ev.step (fun k => ?_) (ih (i + 1) (by omega))
        simp only [impl_hasDot.l0]
        rw [if_pos (by omega), if_pos (by omega), if_pos (by omega), if_neg (dot_neg (a := rd_T31 l (i : Int)) h), wrap_succ (n := l.length) (by omega) (by omega)]
  exact key l.length 0 (by omega)

theorem reached_l1 (xs : List S33) (ds : List S31) (hds : ds.length ≤ 1048576) : ∀ (n i : Nat), i + n = ds.length → ∀ (o t : List S31), o.length + n ≤ 4398046511104 → t.length + n ≤ 4398046511104 → ∀ r,
    Ev (fun k => impl_reached.l0 k (addAll (ds.drop i) (o, t)).1 (addAll (ds.drop i) (o, t)).2 xs) r → Ev (fun k => impl_reached.l1 k o t ds (ds.length : Int) (i : Int) xs) r := by
  intro n
  induction n with
  | zero =>
    intro i hi o t _ _ r h
    rw [List.drop_of_length_le (by omega)] at h
    refine Ev.step (fun k => ?_) h
    simp only [impl_reached.l1]
    rw [if_neg (by omega)]
    rfl
  | succ n ih =>
    intro i hi o t ho ht r h
    rw [drop_getD ds i z31 (by omega), addAll_cons, show ds.getD i z31 = rd_T31 ds (i : Int) from rfl] at h
    obtain ⟨K, e⟩ := hasDot_ev o (by omega) (rd_T31 ds (i : Int))
    dsimp only at e
    by_cases hm : rd_T31 ds (i : Int) ∈ o
    · rw [if_pos hm] at h
      refine Ev.round ⟨K, fun k hk => ?_⟩ (ih (i + 1) (by omega) o t (by omega) (by omega) r h)
      simp only [impl_reached.l1]
      rw [if_pos (by omega), if_pos (by omega), if_pos (by omega), e k hk, Option.bind_some, if_pos (decide_eq_true hm), wrap_succ (n := ds.length) (by omega) (by omega)]
    · rw [if_neg hm] at h
      refine Ev.round ⟨K, fun k hk => ?_⟩ (ih (i + 1) (by omega) (o ++ [rd_T31 ds (i : Int)]) (t ++ [rd_T31 ds (i : Int)]) (by rw [List.length_append]; simp only [List.length_cons, List.length_nil]; omega) (by rw [List.length_append]; simp only [List.length_cons, List.length_nil]; omega) r h)
      simp only [impl_reached.l1]
      rw [if_pos (by omega), if_pos (by omega), if_pos (by omega), e k hk, Option.bind_some, if_neg (by simp [hm]), if_pos (by omega), if_pos (by omega), wrap_succ (n := ds.length) (by omega) (by omega)]
theorem reached_l0 (xs : List S33) (hn : xs.length ≤ 1048576) (hd : ∀ x ∈ xs, x.f1.length ≤ 1048576) : ∀ (m : Nat) (o t : List S31), t.length + cnt (allX xs) o ≤ m → o.length + cnt (allX xs) o ≤ (allX xs).length → m ≤ (allX xs).length + 1 →
    Ev (fun k => impl_reached.l0 k o t xs) (bfs (locX xs) (depX xs) m o t) := by
  have hT := allX_length xs hd
  have hT2 : xs.length * 1048576 ≤ 1048576 * 1048576 := Nat.mul_le_mul_right _ hn
  have nil : ∀ (m : Nat) (o : List S31), Ev (fun k => impl_reached.l0 k o [] xs) (bfs (locX xs) (depX xs) m o []) := by
    intro m o
    refine Ev.ends (fun k => ?_)
    simp only [impl_reached.l0]
    rw [if_neg (by simp)]
    cases m <;> rfl
  intro m
  induction m with
  | zero =>
    intro o t hm _ _
    have ht : t = [] := List.length_eq_zero_iff.1 (by omega)
    subst ht
    exact nil 0 o
  | succ m ih =>
    intro o t hm hl hb
    cases t with
    | nil => exact nil _ o
    | cons y t =>
      rw [List.length_cons] at hm
      obtain ⟨K, e⟩ := itemAt_ev xs hn y
      dsimp only at e
      simp only [bfs]
      have hl0 : ((y :: t).length : Int) > 0 := by rw [List.length_cons]; omega
      have hrd : rd_T31 (y :: t) 0 = y := rfl
      cases hy : locX xs y with
      | none =>
        rw [hy] at e
        refine Ev.round (f := fun _ => some ([], false)) ⟨K, fun k hk => ?_⟩ (Ev.now _)
        simp only [impl_reached.l0, hrd]
        rw [if_pos hl0, if_pos (by omega), e k hk, Option.bind_some, if_pos (by omega), if_pos (by simp only [intO]; omega)]
      | some i =>
        rw [hy] at e
        have hi := (locX_some hy).1
        have hdi : (depX xs i).length ≤ 1048576 := hd _ (getI_mem hi)
        obtain ⟨ns, ea, _, _, hc⟩ := addAll_spec (allX xs) (depX xs i) o t (depX_all y i hy)
        refine Ev.round ⟨K, fun k hk => ?_⟩ (reached_l1 xs (depX xs i) hdi (depX xs i).length 0 (by omega) o t (by omega) (by omega) _ ?_)
        · simp only [impl_reached.l0, hrd]
          rw [if_pos hl0, if_pos (by omega), e k hk, Option.bind_some, if_pos (by omega), if_neg (by simp only [intO]; omega), if_pos (by simp only [intO]; omega), if_pos (by simp only [intO]; omega)]
          rfl
        · simp only [List.drop_zero, ea]
          exact ih (o ++ ns) (t ++ ns) (by rw [List.length_append]; omega) (by rw [List.length_append]; omega) (by omega)
def reachedR (xs : List S33) (d : S31) : List S31 × Bool := bfs (locX xs) (depX xs) ((allX xs).length + 1) [] [d]
theorem reached_ev (xs : List S33) (hn : xs.length ≤ 1048576) (hd : ∀ x ∈ xs, x.f1.length ≤ 1048576) (d : S31) : Ev (fun k => impl_reached.f k xs d.f0 d.f1) (reachedR xs d) := by
  have hc : cnt (allX xs) ([] : List S31) ≤ (allX xs).length := List.countP_le_length
  exact reached_l0 xs hn hd _ [] [d] (by simp only [List.length_cons, List.length_nil]; omega) (by simpa using hc) (by omega)
theorem reachedR_spec (xs : List S33) (d : S31) : Reached (locX xs) (depX xs) d (allX xs) (reachedR xs d) := bfs_spec (locX xs) (depX xs) (allX xs) (fun y i h => depX_all y i h) d _ (by omega)

/-- A row that grows by what is wanted. -/
theorem filt_loop {β γ : Type} (L : Nat → List β → Nat → Option γ) (n : Nat) (p : Nat → Bool) (h : Nat → β) (fin : List β → γ)
    (hs1 : ∀ (i : Nat) (out : List β) (r : γ), i < n → out.length ≤ i → p i = true → Ev (fun k => L k (out ++ [h i]) (i + 1)) r → Ev (fun k => L k out i) r)
    (hs0 : ∀ (i : Nat) (out : List β) (r : γ), i < n → out.length ≤ i → p i = false → Ev (fun k => L k out (i + 1)) r → Ev (fun k => L k out i) r)
    (he : ∀ out : List β, out.length ≤ n → Ev (fun k => L k out n) (fin out)) : Ev (fun k => L k [] 0) (fin (((List.range n).filter p).map h)) := by
  have key : ∀ (d i : Nat), i + d = n → Ev (fun k => L k (((List.range i).filter p).map h) i) (fin (((List.range n).filter p).map h)) := by
    intro d
    induction d with
    | zero =>
      intro i hi
      have : i = n := by omega
      subst this
      exact he _ (by rw [List.length_map]; exact Nat.le_trans (List.length_filter_le _ _) (by simp))
    | succ d ih =>
      intro i hi
      have hl : (((List.range i).filter p).map h).length ≤ i := by rw [List.length_map]; exact Nat.le_trans (List.length_filter_le _ _) (by simp)
      have hn := ih (i + 1) (by omega)
      rw [List.range_succ, List.filter_append, List.map_append] at hn
      cases hp : p i
      · refine hs0 i _ _ (by omega) hl hp ?_
        simpa [hp] using hn
      · refine hs1 i _ _ (by omega) hl hp ?_
        simpa [hp] using hn
  exact key n 0 (by omega)

/-! withDot -/
theorem withDot_j2 (l : List S31) (hl : l.length ≤ 4398046511104) (d : S31) (i : Nat) (hi : i ≤ l.length) (b : Bool) : Ev (fun k => impl_withDot.j2 k l (i : Int) b d.f0 d.f1) (if b = true then l else l.take i ++ d :: l.drop i) := by
  refine Ev.ends (fun k => ?_)
  cases b
  · have h1 : (l.take i).length = i := by rw [List.length_take]; omega
    have h2 : (l.drop i).length = l.length - i := List.length_drop
    simp only [impl_withDot.j2, impl_copyDots.f, List.nil_append, List.length_nil, Int.toNat_natCast, Nat.zero_add, Bool.false_eq_true, if_false]
    rw [if_pos (by omega), if_pos (by omega)]
    rw [if_pos (by omega), Option.bind_some, Option.bind_some, if_pos (by simp only [List.length_cons, List.length_nil]; omega), Option.bind_some, Option.bind_some, if_pos (by rw [List.length_append]; simp only [List.length_cons, List.length_nil]; omega)]
    simp
  · simp only [impl_withDot.j2, if_true]
theorem withDot_ev (l : List S31) (hl : l.length ≤ 4398046511104) (d : S31) : Ev (fun k => impl_withDot.f k l d.f0 d.f1) (ins lessD l d) := by
  have key : ∀ (n i : Nat), i + n = l.length → Ev (fun k => impl_withDot.l0 k l (i : Int) d.f0 d.f1) (if i + low lessD d (l.drop i) < l.length ∧ l.getD (i + low lessD d (l.drop i)) z31 = d then l else l.take (i + low lessD d (l.drop i)) ++ d :: l.drop (i + low lessD d (l.drop i))) := by
    have stop : ∀ i, i ≤ l.length → Ev (fun k => impl_withDot.j1 k l (i : Int) false d.f0 d.f1) (if i < l.length ∧ l.getD i z31 = d then l else l.take i ++ d :: l.drop i) := by
      intro i hi
      by_cases h : i < l.length
      · by_cases he : l.getD i z31 = d
        · rw [if_pos ⟨h, he⟩]
          have := withDot_j2 l hl d i hi true
          rw [if_pos rfl] at this
          refine Ev.step (fun k => ?_) this
          simp only [impl_withDot.j1]
          rw [if_neg (by decide), if_pos (by omega), if_pos (by omega), show ((rd_T31 l (i : Int)).f0 == d.f0 && (rd_T31 l (i : Int)).f1 == d.f1) = true from dot_pos (a := rd_T31 l (i : Int)) he]
        · rw [if_neg (fun h => he h.2)]
          have := withDot_j2 l hl d i hi false
          rw [if_neg (by decide)] at this
          refine Ev.step (fun k => ?_) this
          simp only [impl_withDot.j1]
          rw [if_neg (by decide), if_pos (by omega), if_pos (by omega), show ((rd_T31 l (i : Int)).f0 == d.f0 && (rd_T31 l (i : Int)).f1 == d.f1) = false from Bool.eq_false_iff.2 (dot_neg (a := rd_T31 l (i : Int)) he)]
      · rw [if_neg (fun hh => h hh.1)]
        have := withDot_j2 l hl d i hi false
        rw [if_neg (by decide)] at this
        refine Ev.step (fun k => ?_) this
        simp only [impl_withDot.j1]
        rw [if_neg (by decide), if_neg (by omega)]
    intro n
    induction n with
    | zero =>
      intro i hi
      rw [List.drop_of_length_le (by omega)]
      simp only [low, Nat.add_zero]
      refine Ev.step (fun k => ?_) (stop i (by omega))
      simp only [impl_withDot.l0]
      rw [if_neg (by omega)]
    | succ n ih =>
      intro i hi
      rw [drop_getD l i z31 (by omega)]
      unfold low
      by_cases h : lessD (l.getD i z31) d = true
      · rw [if_pos h]
        have nx := ih (i + 1) (by omega)
        have e : i + 1 + low lessD d (l.drop (i + 1)) = i + (low lessD d (l.drop (i + 1)) + 1) := by omega
        rw [e] at nx
        refine Ev.step (f := fun k => impl_withDot.j1 k l (i : Int) true d.f0 d.f1) (fun k => ?_) (Ev.step (fun k => ?_) nx)
        · simp only [impl_withDot.l0, impl_dotLess_eq, Option.bind_some]
          rw [if_pos (by omega), if_pos (by omega), show dotLessR (rd_T31 l (i : Int)).f0 (rd_T31 l (i : Int)).f1 d.f0 d.f1 = true from h]
        · simp only [impl_withDot.j1]
          rw [if_pos trivial, wrap_succ (n := l.length) (by omega) (by omega)]
      · rw [if_neg h, Nat.add_zero]
        refine Ev.step (fun k => ?_) (stop i (by omega))
        simp only [impl_withDot.l0, impl_dotLess_eq, Option.bind_some]
        rw [if_pos (by omega), if_pos (by omega), show dotLessR (rd_T31 l (i : Int)).f0 (rd_T31 l (i : Int)).f1 d.f0 d.f1 = false from Bool.eq_false_iff.2 h]
  have h := key l.length 0 (by omega)
  rw [List.drop_zero, Nat.zero_add, ← ins_eq] at h
  exact h
/-! the reference: by places -/
theorem rdB (met : List Bool) (j : Nat) : rdOf false met (j : Int) = met.getD j false := rfl
def reachR (xs : List S33) (i : Nat) : List Bool × Bool := bfsS (locX xs) (depX xs) (xs.length + 1) (List.replicate xs.length false) true [i]
theorem fls_replicate (n : Nat) : fls (List.replicate n false) ≤ n := by
  have := List.countP_le_length (p := fun b => !b) (l := List.replicate n false)
  simpa [fls] using this
theorem reachR_spec {xs : List S33} (ha : ∀ j, 0 < j → j < xs.length → asc xs j) (i : Nat) (hi : i < xs.length) : ReachedS (locX xs) (depX xs) (dotX xs) xs.length i (reachR xs i) :=
  bfsS_spec (locX xs) (depX xs) xs.length (dotX xs) (fun j hj => locX_dot ha hj) (fun x j h => locX_some h) i hi _ (Nat.le_refl _)
/-! Whole -/
def wholeR (xs : List S33) (ok : Bool) : List S31 := if ok = true then ((List.range xs.length).filter (fun i => (reachR xs i).2)).map (dotX xs) else []
theorem reach_whole {xs : List S33} (ha : ∀ j, 0 < j → j < xs.length → asc xs j) {i : Nat} (hi : i < xs.length) : (reachedR xs (dotX xs i)).2 = (reachR xs i).2 := by
  have h1 := (reachedR_spec xs (dotX xs i)).whole
  have h2 := (reachR_spec ha i hi).whole
  rw [Bool.eq_iff_iff, h1, h2]
  constructor
  · intro h y hy
    exact h y (.inr hy)
  · rintro h y (rfl | hy)
    · rw [locX_dot ha hi]; simp
    · exact h y hy
theorem asc_map {xs : List S33} (ha : ∀ j, 0 < j → j < xs.length → asc xs j) (p : Nat → Bool) (n : Nat) (hn : n ≤ xs.length) : Asc lessD (((List.range n).filter p).map (dotX xs)) := by
  unfold Asc
  rw [List.pairwise_map]
  refine List.Pairwise.imp_of_mem (R := fun i j => i < j) (fun {i j} hi hj hlt => ?_) (List.Pairwise.filter _ List.pairwise_lt_range)
  have h2 : j < n := by simpa using (List.mem_filter.1 hj).1
  have := asc_lt ha (j - i - 1) i (by omega)
  rwa [show i + (j - i - 1) + 1 = j from by omega] at this
theorem ins_last {xs : List S33} (ha : ∀ j, 0 < j → j < xs.length → asc xs j) (p : Nat → Bool) (i : Nat) (hi : i < xs.length) : ins lessD (((List.range i).filter p).map (dotX xs)) (dotX xs i) = ((List.range i).filter p).map (dotX xs) ++ [dotX xs i] := by
  have h1 := asc_map ha p i (by omega)
  refine asc_ext lessD lessD_strict _ _ (asc_ins lessD lessD_strict _ _ h1) (List.pairwise_append.2 ⟨h1, by simp, fun a hm b hb => ?_⟩) (fun x => ?_)
  · have : b = dotX xs i := by simpa using hb
    subst this
    obtain ⟨j, hj, rfl⟩ := List.mem_map.1 hm
    have h2 : j < i := by simpa using (List.mem_filter.1 hj).1
    have := asc_lt ha (i - j - 1) j (by omega)
    rwa [show j + (i - j - 1) + 1 = i from by omega] at this
  · rw [mem_ins, List.mem_append, List.mem_singleton]
    exact Or.comm

theorem implWhole_ev (xs : List S33) (hn : xs.length ≤ 1048576) (hd : ∀ x ∈ xs, x.f1.length ≤ 1048576) (ha : ∀ j, 0 < j → j < xs.length → asc xs j) : Ev (fun k => impl_Whole.l0 k [] xs (xs.length : Int) 0 xs) (((List.range xs.length).filter (fun i => (reachR xs i).2)).map (dotX xs)) := by
  have key : ∀ (n i : Nat), i + n = xs.length → Ev (fun k => impl_Whole.l0 k (((List.range i).filter (fun i => (reachR xs i).2)).map (dotX xs)) xs (xs.length : Int) (i : Int) xs) (((List.range xs.length).filter (fun i => (reachR xs i).2)).map (dotX xs)) := by
    intro n
    induction n with
    | zero =>
      intro i hi
      have : i = xs.length := by omega
      subst this
      refine Ev.ends (fun k => ?_)
      simp only [impl_Whole.l0]
      rw [if_neg (by omega)]
    | succ n ih =>
      intro i hi
      obtain ⟨K, e⟩ := reached_ev xs hn hd (dotX xs i)
      dsimp only at e
      have nx := ih (i + 1) (by omega)
      rw [List.range_succ, List.filter_append, List.map_append] at nx
      have hw := reach_whole ha (i := i) (by omega)
      have hlen : (((List.range i).filter (fun i => (reachR xs i).2)).map (dotX xs)).length ≤ i := by rw [List.length_map]; exact Nat.le_trans (List.length_filter_le _ _) (by simp)
      cases hb : (reachR xs i).2
      · rw [hb] at hw
        have hfi : List.filter (fun i => (reachR xs i).2) [i] = [] := by simp [hb]
        rw [hfi, List.map_nil, List.append_nil] at nx
        refine Ev.round ⟨K, fun k hk => ?_⟩ nx
        simp only [impl_Whole.l0]
        rw [if_pos (by omega), if_pos (by omega), if_pos (by omega), show rd_T33 xs (i : Int) = xs.getD i z33 from rfl, show impl_reached.f k xs (xs.getD i z33).f0.f0 (xs.getD i z33).f0.f1 = _ from e k hk, Option.bind_some, if_neg (by rw [hw]; decide), wrap_succ (n := xs.length) (by omega) (by omega)]
      · rw [hb] at hw
        have hfi : List.filter (fun i => (reachR xs i).2) [i] = [i] := by simp [hb]
        rw [hfi, List.map_cons, List.map_nil, ← ins_last ha _ i (by omega)] at nx
        obtain ⟨K2, e2⟩ := withDot_ev (((List.range i).filter (fun i => (reachR xs i).2)).map (dotX xs)) (by omega) (dotX xs i)
        dsimp only at e2
        refine Ev.round ⟨K + K2, fun k hk => ?_⟩ nx
        simp only [impl_Whole.l0]
        rw [if_pos (by omega), if_pos (by omega), if_pos (by omega), show rd_T33 xs (i : Int) = xs.getD i z33 from rfl, show impl_reached.f k xs (xs.getD i z33).f0.f0 (xs.getD i z33).f0.f1 = _ from e k (by omega), Option.bind_some, if_pos hw, show impl_withDot.f k (((List.range i).filter (fun i => (reachR xs i).2)).map (dotX xs)) (xs.getD i z33).f0.f0 (xs.getD i z33).f0.f1 = _ from e2 k (by omega), Option.bind_some, wrap_succ (n := xs.length) (by omega) (by omega)]
  exact key xs.length 0 (by omega)

def grpIn (xs : List S33) (k i : Nat) : Bool := (i == k) || ((reachR xs k).1.getD i false && (reachR xs i).1.getD k false)
def grpX (xs : List S33) (k : Nat) : List S31 := ((List.range xs.length).filter (grpIn xs k)).map (dotX xs)
def groupR (xs : List S33) (ok : Bool) (d : S31) : List S31 := if ok = true then match locX xs d with
  | none => []
  | some k => if (reachR xs k).2 = true then grpX xs k else [] else []
theorem groupR_length (xs : List S33) (ok : Bool) (d : S31) : (groupR xs ok d).length ≤ xs.length := by
  unfold groupR grpX
  split
  · split
    · simp
    · split
      · rw [List.length_map]; exact Nat.le_trans (List.length_filter_le _ _) (by simp)
      · simp
  · simp
theorem reachR_len {xs : List S33} (ha : ∀ j, 0 < j → j < xs.length → asc xs j) {i : Nat} (hi : i < xs.length) : (reachR xs i).1.length = xs.length := (reachR_spec ha i hi).len
def grpF (xs : List S33) (d : S31) (l o : List S31) : List S31 := l.foldl (fun o x => if d ∈ (reachedR xs x).1 then ins lessD o x else o) o
theorem grpF_asc (xs : List S33) (d : S31) : ∀ (l o : List S31), Asc lessD o → Asc lessD (grpF xs d l o) ∧ ∀ x, x ∈ grpF xs d l o ↔ x ∈ o ∨ (x ∈ l ∧ d ∈ (reachedR xs x).1) := by
  intro l
  induction l with
  | nil => intro o h; exact ⟨h, fun x => by simp [grpF]⟩
  | cons y l ih =>
    intro o h
    have hc : grpF xs d (y :: l) o = grpF xs d l (if d ∈ (reachedR xs y).1 then ins lessD o y else o) := rfl
    rw [hc]
    by_cases hy : d ∈ (reachedR xs y).1
    · rw [if_pos hy]
      obtain ⟨h1, h2⟩ := ih _ (asc_ins lessD lessD_strict o y h)
      refine ⟨h1, fun x => ?_⟩
      rw [h2, mem_ins, List.mem_cons]
      constructor
      · rintro ((rfl | h) | h)
        · exact .inr ⟨.inl rfl, hy⟩
        · exact .inl h
        · exact .inr ⟨.inr h.1, h.2⟩
      · rintro (h | ⟨rfl | h, h'⟩)
        · exact .inl (.inr h)
        · exact .inl (.inl rfl)
        · exact .inr ⟨h, h'⟩
    · rw [if_neg hy]
      obtain ⟨h1, h2⟩ := ih o h
      refine ⟨h1, fun x => ?_⟩
      rw [h2, List.mem_cons]
      constructor
      · rintro (h | h)
        · exact .inl h
        · exact .inr ⟨.inr h.1, h.2⟩
      · rintro (h | ⟨rfl | h, h'⟩)
        · exact .inl h
        · exact absurd h' hy
        · exact .inr ⟨h, h'⟩
theorem implGroup_l0 (xs : List S33) (hn : xs.length ≤ 1048576) (hd : ∀ x ∈ xs, x.f1.length ≤ 1048576) (d : S31) (l : List S31) (hl : l.length ≤ 2199023255552) : ∀ (n i : Nat), i + n = l.length → ∀ o : List S31, o.length ≤ i + 1 → Ev (fun k => impl_Group.l0 k o l (l.length : Int) (i : Int) xs d.f0 d.f1) (grpF xs d (l.drop i) o) := by
  have hT := allX_length xs hd
  have hT2 : xs.length * 1048576 ≤ 1048576 * 1048576 := Nat.mul_le_mul_right _ hn
  intro n
  induction n with
  | zero =>
    intro i hi o _
    rw [List.drop_of_length_le (by omega)]
    refine Ev.ends (fun k => ?_)
    simp only [impl_Group.l0]
    rw [if_neg (by omega)]
    rfl
  | succ n ih =>
    intro i hi o ho
    rw [drop_getD l i z31 (by omega), show l.getD i z31 = rd_T31 l (i : Int) from rfl]
    have hs := (reachedR_spec xs (rd_T31 l (i : Int))).small
    obtain ⟨K, e⟩ := reached_ev xs hn hd (rd_T31 l (i : Int))
    obtain ⟨K2, e2⟩ := hasDot_ev (reachedR xs (rd_T31 l (i : Int))).1 (by omega) d
    obtain ⟨K3, e3⟩ := withDot_ev o (by omega) (rd_T31 l (i : Int))
    dsimp only at e e2 e3
    have hc : grpF xs d (rd_T31 l (i : Int) :: l.drop (i + 1)) o = grpF xs d (l.drop (i + 1)) (if d ∈ (reachedR xs (rd_T31 l (i : Int))).1 then ins lessD o (rd_T31 l (i : Int)) else o) := rfl
    rw [hc]
    by_cases hm : d ∈ (reachedR xs (rd_T31 l (i : Int))).1
    · rw [if_pos hm]
      have hil := ins_length lessD o (rd_T31 l (i : Int))
      refine Ev.round ⟨K + K2 + K3, fun k hk => ?_⟩ (ih (i + 1) (by omega) (ins lessD o (rd_T31 l (i : Int))) (by omega))
      simp only [impl_Group.l0]
      rw [if_pos (by omega), if_pos (by omega), if_pos (by omega), e k (by omega), Option.bind_some, e2 k (by omega), Option.bind_some, if_pos (decide_eq_true hm), e3 k (by omega), Option.bind_some, wrap_succ (n := l.length) (by omega) (by omega)]
    · rw [if_neg hm]
      refine Ev.round ⟨K + K2 + K3, fun k hk => ?_⟩ (ih (i + 1) (by omega) o (by omega))
      simp only [impl_Group.l0]
      rw [if_pos (by omega), if_pos (by omega), if_pos (by omega), e k (by omega), Option.bind_some, e2 k (by omega), Option.bind_some, if_neg (by simp [hm]), wrap_succ (n := l.length) (by omega) (by omega)]
theorem group_eq {xs : List S33} (ha : ∀ j, 0 < j → j < xs.length → asc xs j) (d : S31) : (if (reachedR xs d).2 = true then grpF xs d (reachedR xs d).1 [d] else []) = groupR xs true d := by
  have hR := reachedR_spec xs d
  unfold groupR
  rw [if_pos rfl]
  cases hl : locX xs d with
  | none =>
    have hf : ¬ (reachedR xs d).2 = true := fun h => (hR.whole.1 h) d (.inl rfl) hl
    rw [if_neg hf]
  | some k =>
    obtain ⟨hk, hdk⟩ := locX_some hl
    have hw := reach_whole ha hk
    rw [hdk] at hw
    dsimp only
    rw [hw]
    by_cases hb : (reachR xs k).2 = true
    · rw [if_pos hb, if_pos hb]
      rw [hb] at hw
      obtain ⟨h1, h2⟩ := grpF_asc xs d (reachedR xs d).1 [d] (by simp [Asc])
      refine asc_ext lessD lessD_strict _ _ h1 (asc_map ha _ _ (Nat.le_refl _)) (fun x => ?_)
      have hall := hR.all hw
      have hwh := hR.whole.1 hw
      rw [h2, List.mem_singleton, hall, grpX, List.mem_map]
      have back : ∀ x, Rch (locX xs) (depX xs) d x → (d ∈ (reachedR xs x).1 ↔ Rch (locX xs) (depX xs) x d) := fun x hx => by
        have hX := reachedR_spec xs x
        refine hX.all (hX.whole.2 (fun y hy => hwh y (.inr ?_))) d
        rcases hy with rfl | hy
        · exact hx
        · exact hx.trans _ _ hy
      constructor
      · rintro (rfl | ⟨hx, hb2⟩)
        · refine ⟨k, List.mem_filter.2 ⟨by simpa using hk, ?_⟩, hdk⟩
          unfold grpIn
          rw [beq_self_eq_true, Bool.true_or]
        · have hx2 := (back x hx).1 hb2
          cases hlx : locX xs x with
          | none => exact absurd hlx (hwh x (.inr hx))
          | some i =>
            obtain ⟨hi, hdi⟩ := locX_some hlx
            refine ⟨i, List.mem_filter.2 ⟨by simpa using hi, ?_⟩, hdi⟩
            unfold grpIn
            rw [((reachR_spec ha k hk).all i hi).2 (by rw [hdk, hdi]; exact hx), ((reachR_spec ha i hi).all k hk).2 (by rw [hdk, hdi]; exact hx2), Bool.true_and, Bool.or_true]
      · rintro ⟨i, hi, rfl⟩
        obtain ⟨hi1, hi2⟩ := List.mem_filter.1 hi
        have hin : i < xs.length := by simpa using hi1
        unfold grpIn at hi2
        rw [Bool.or_eq_true, Bool.and_eq_true] at hi2
        rcases hi2 with h | ⟨h3, h4⟩
        · have : i = k := by simpa using h
          subst this
          exact .inl hdk
        · have r1 := ((reachR_spec ha k hk).all i hin).1 h3
          have r2 := ((reachR_spec ha i hin).all k hk).1 h4
          rw [hdk] at r1 r2
          exact .inr ⟨r1, (back _ r1).2 r2⟩
    · rw [if_neg hb, if_neg hb]
theorem implGroup_ev (xs : List S33) (hn : xs.length ≤ 1048576) (hd : ∀ x ∈ xs, x.f1.length ≤ 1048576) (ok : Bool) (ha : ok = true → ∀ j, 0 < j → j < xs.length → asc xs j) (h2 : Ev (fun k => impl_GraphOk.f k xs) ok) (d : S31) : Ev (fun k => impl_Group.f k xs d.f0 d.f1) (groupR xs ok d) := by
  have hT := allX_length xs hd
  have hT2 : xs.length * 1048576 ≤ 1048576 * 1048576 := Nat.mul_le_mul_right _ hn
  have hs := (reachedR_spec xs d).small
  have no : Ev (fun k => impl_Group.j0 k (reachedR xs d).1 true xs d.f0 d.f1) [] := Ev.ends (fun k => by simp only [impl_Group.j0]; rw [if_pos trivial])
  refine Ev.bind' (reached_ev xs hn hd d) ?_
  cases ok
  · have e : groupR xs false d = [] := by unfold groupR; rw [if_neg (by decide)]
    rw [e]
    cases (reachedR xs d).2
    · exact Ev.congr (fun k => by rw [if_neg (by decide)]) no
    · exact Ev.congr (fun k => by rw [if_pos rfl]) (Ev.bind' h2 no)
  · rw [← group_eq (ha rfl) d]
    cases hb : (reachedR xs d).2
    · rw [if_neg (by decide)]
      exact Ev.congr (fun k => by rw [if_neg (by decide)]) no
    · rw [if_pos rfl]
      refine Ev.congr (f := fun k => (impl_GraphOk.f k xs).bind fun t317 => (impl_Group.j0 k (reachedR xs d).1 (!t317) xs d.f0 d.f1)) (fun k => by rw [if_pos rfl]) (Ev.bind' h2 ?_)
      refine Ev.step (fun k => ?_) (implGroup_l0 xs hn hd d (reachedR xs d).1 (by omega) (reachedR xs d).1.length 0 (by omega) [d] (by simp))
      simp only [impl_Group.j0]
      rw [if_neg (by decide)]
      rfl

theorem cnt_mono {D : Type} [DecidableEq D] (T o o' : List D) (h : ∀ x, x ∈ o → x ∈ o') : cnt T o' ≤ cnt T o := by
  unfold cnt
  refine List.countP_mono_left (fun y _ hy => ?_)
  have hy := of_decide_eq_true hy
  exact decide_eq_true (fun hm => hy (h y hm))
theorem cnt_less {D : Type} [DecidableEq D] (T o o' : List D) (h : ∀ x, x ∈ o → x ∈ o') (x : D) (hx : x ∈ T) (ho : x ∉ o) (ho' : x ∈ o') : cnt T o' + 1 ≤ cnt T o := by
  have h1 := cnt_lt hx ho
  have h2 := cnt_mono T (o ++ [x]) o' (fun y hy => by
    rcases List.mem_append.1 hy with hy | hy
    · exact h y hy
    · rw [List.mem_singleton.1 hy]; exact ho')
  omega
def dotsX (xs : List S33) : List S31 := (List.range xs.length).map (dotX xs)
theorem mem_grpX {xs : List S33} (ha : ∀ j, 0 < j → j < xs.length → asc xs j) (k i : Nat) (hi : i < xs.length) : decide (dotX xs i ∈ grpX xs k) = grpIn xs k i := by
  rw [Bool.eq_iff_iff, decide_eq_true_iff, grpX, List.mem_map]
  constructor
  · rintro ⟨j, hj, e⟩
    obtain ⟨h1, h2⟩ := List.mem_filter.1 hj
    have := dotX_inj ha (by simpa using h1) hi e
    subst this
    exact h2
  · intro h
    exact ⟨i, List.mem_filter.2 ⟨by simpa using hi, h⟩, rfl⟩
def goodX (g out : List S31) (x : S31) : Bool := decide (x ∈ g) || decide (x ∈ out)
def readyX (xs : List S33) (k : Nat) (out : List S31) : Bool := ((List.range xs.length).filter (grpIn xs k)).all (fun i => (depX xs i).all (goodX (grpX xs k) out))
theorem impl_ready_l1 (xs : List S33) (g out : List S31) (hg : g.length ≤ 1048576) (ho : out.length ≤ 2199023255552) (q : Int) (ds : List S31) (hds : ds.length ≤ 1048576) (rest : Bool) (hrest : Ev (fun k => impl_ready.l0 k g out g (g.length : Int) (wrap64 (q + 1)) xs) rest) : ∀ (n i : Nat), i + n = ds.length → Ev (fun k => impl_ready.l1 k g out g (g.length : Int) q ds (ds.length : Int) (i : Int) xs) ((ds.drop i).all (goodX g out) && rest) := by
  intro n
  induction n with
  | zero =>
    intro i hi
    rw [List.drop_of_length_le (by omega)]
    refine Ev.step (fun k => ?_) hrest
    simp only [impl_ready.l1]
    rw [if_neg (by omega)]
  | succ n ih =>
    intro i hi
    rw [drop_getD ds i z31 (by omega), show ds.getD i z31 = rd_T31 ds (i : Int) from rfl, List.all_cons]
    obtain ⟨K, e⟩ := hasDot_ev g (by omega) (rd_T31 ds (i : Int))
    obtain ⟨K2, e2⟩ := hasDot_ev out (by omega) (rd_T31 ds (i : Int))
    dsimp only at e e2
    have jt : Ev (fun k => impl_ready.j2 k g out g (g.length : Int) q ds (ds.length : Int) (i : Int) true xs) false := Ev.ends (fun k => by simp only [impl_ready.j2]; rw [if_pos trivial])
    have jf : Ev (fun k => impl_ready.j2 k g out g (g.length : Int) q ds (ds.length : Int) (i : Int) false xs) ((ds.drop (i + 1)).all (goodX g out) && rest) := by
      refine Ev.step (fun k => ?_) (ih (i + 1) (by omega))
      simp only [impl_ready.j2]
      rw [if_neg (by decide), wrap_succ (n := ds.length) (by omega) (by omega)]
    have key : Ev (fun k => impl_ready.j2 k g out g (g.length : Int) q ds (ds.length : Int) (i : Int) (!(goodX g out (rd_T31 ds (i : Int)))) xs) ((goodX g out (rd_T31 ds (i : Int)) && (ds.drop (i + 1)).all (goodX g out)) && rest) := by
      cases goodX g out (rd_T31 ds (i : Int))
      · rw [Bool.false_and, Bool.false_and]; exact jt
      · rw [Bool.true_and]; exact jf
    refine Ev.round ⟨K + K2, fun k hk => ?_⟩ key
    simp only [impl_ready.l1, goodX]
    rw [if_pos (by omega), if_pos (by omega), if_pos (by omega), e k (by omega), Option.bind_some]
    cases decide (rd_T31 ds (i : Int) ∈ g)
    · rw [if_neg (by decide), e2 k (by omega), Option.bind_some, Bool.false_or]
    · rw [if_pos rfl, Bool.true_or]
      rfl
theorem impl_ready_ev (xs : List S33) (hn : xs.length ≤ 1048576) (hd : ∀ x ∈ xs, x.f1.length ≤ 1048576) (ha : ∀ j, 0 < j → j < xs.length → asc xs j) (k0 : Nat) (out : List S31) (ho : out.length ≤ 2199023255552) : Ev (fun k => impl_ready.f k xs (grpX xs k0) out) (readyX xs k0 out) := by
  have hg : (grpX xs k0).length ≤ xs.length := by unfold grpX; rw [List.length_map]; exact Nat.le_trans (List.length_filter_le _ _) (by simp)
  have hin : ∀ i ∈ (List.range xs.length).filter (grpIn xs k0), i < xs.length := fun i hi => by simpa using (List.mem_filter.1 hi).1
  have hlen : (grpX xs k0).length = ((List.range xs.length).filter (grpIn xs k0)).length := by unfold grpX; rw [List.length_map]
  have hget : ∀ i, i < ((List.range xs.length).filter (grpIn xs k0)).length → rd_T31 (grpX xs k0) (i : Int) = dotX xs (((List.range xs.length).filter (grpIn xs k0)).getD i 0) := by
    intro i hi
    show (grpX xs k0).getD i z31 = _
    unfold grpX
    rw [List.getD_eq_getElem?_getD, List.getElem?_map, List.getElem?_eq_getElem hi, List.getD_eq_getElem?_getD, List.getElem?_eq_getElem hi]
    rfl
  have key : ∀ (n i : Nat), i + n = ((List.range xs.length).filter (grpIn xs k0)).length → Ev (fun k => impl_ready.l0 k (grpX xs k0) out (grpX xs k0) ((grpX xs k0).length : Int) (i : Int) xs) ((((List.range xs.length).filter (grpIn xs k0)).drop i).all (fun i => (depX xs i).all (goodX (grpX xs k0) out))) := by
    intro n
    induction n with
    | zero =>
      intro i hi
      rw [List.drop_of_length_le (by omega)]
      refine Ev.ends (fun k => ?_)
      simp only [impl_ready.l0]
      rw [if_neg (by omega)]
      rfl
    | succ n ih =>
      intro i hi
      rw [drop_getD _ i 0 (by omega), List.all_cons]
      have hj : ((List.range xs.length).filter (grpIn xs k0)).getD i 0 < xs.length := hin _ (by
        rw [List.getD_eq_getElem?_getD, List.getElem?_eq_getElem (show i < ((List.range xs.length).filter (grpIn xs k0)).length by omega)]
        exact List.getElem_mem _)
      have hrd := hget i (by omega)
      generalize ((List.range xs.length).filter (grpIn xs k0)).getD i 0 = j at hj hrd
      have nx := ih (i + 1) (by omega)
      obtain ⟨K, e⟩ := itemAt_ev xs hn (dotX xs j)
      rw [locX_dot ha hj, show intO (some j) = (j : Int) from rfl] at e
      dsimp only at e
      refine Ev.round ⟨K, fun k hk => ?_⟩ (impl_ready_l1 xs (grpX xs k0) out (by omega) ho (i : Int) (depX xs j) (hd _ (getI_mem hj)) _ (by rw [wrap_succ (n := ((List.range xs.length).filter (grpIn xs k0)).length) (by omega) (by omega)]; exact nx) (depX xs j).length 0 (by omega))
      simp only [impl_ready.l0, hrd]
      rw [if_pos (by omega), if_pos (by omega), if_pos (by omega), e k hk, Option.bind_some, if_pos (by omega), if_pos (by omega)]
      rfl
  exact key ((List.range xs.length).filter (grpIn xs k0)).length 0 (by omega)
/-- The next command whose group can be done. -/
def nextX (xs : List S33) (out : List S31) (l : List Nat) : Option Nat := l.find? (fun k => (reachR xs k).2 && (!(decide (dotX xs k ∈ out)) && readyX xs k out))
def ordX (xs : List S33) : Nat → List S31 → List S31
  | 0, out => out
  | m + 1, out => match nextX xs out (List.range xs.length) with
    | none => out
    | some k => ordX xs m (out ++ grpX xs k)
theorem grpX_length (xs : List S33) (k : Nat) : (grpX xs k).length ≤ xs.length := by unfold grpX; rw [List.length_map]; exact Nat.le_trans (List.length_filter_le _ _) (by simp)
theorem grpX_self {xs : List S33} {k : Nat} (hk : k < xs.length) : dotX xs k ∈ grpX xs k := List.mem_map.2 ⟨k, List.mem_filter.2 ⟨by simpa using hk, by unfold grpIn; rw [beq_self_eq_true, Bool.true_or]⟩, rfl⟩
theorem nextX_some {xs : List S33} {out : List S31} {l : List Nat} {k : Nat} (h : nextX xs out l = some k) : k ∈ l ∧ (reachR xs k).2 = true ∧ dotX xs k ∉ out ∧ readyX xs k out = true := by
  have h1 := List.mem_of_find?_eq_some h
  have h2 := List.find?_some h
  simp only [Bool.and_eq_true, Bool.not_eq_true', decide_eq_false_iff_not] at h2
  exact ⟨h1, h2.1, h2.2.1, h2.2.2⟩
/-- How much is left, and what it costs. -/
theorem ord_step {xs : List S33} {out : List S31} {k : Nat} (hk : k < xs.length) (ho : dotX xs k ∉ out) : cnt (dotsX xs) (out ++ grpX xs k) + 1 ≤ cnt (dotsX xs) out :=
  cnt_less _ _ _ (fun x hx => List.mem_append.2 (.inl hx)) (dotX xs k) (List.mem_map.2 ⟨k, by simpa using hk, rfl⟩) ho (List.mem_append.2 (.inr (grpX_self hk)))
theorem ord_small {xs : List S33} {out : List S31} {k : Nat} (hk : k < xs.length) (ho : dotX xs k ∉ out) (h : out.length + cnt (dotsX xs) out * xs.length ≤ xs.length * xs.length) : (out ++ grpX xs k).length + cnt (dotsX xs) (out ++ grpX xs k) * xs.length ≤ xs.length * xs.length := by
  have h1 := ord_step hk ho
  have h2 := grpX_length xs k
  have h3 : (cnt (dotsX xs) (out ++ grpX xs k) + 1) * xs.length ≤ cnt (dotsX xs) out * xs.length := Nat.mul_le_mul_right _ h1
  rw [Nat.succ_mul] at h3
  rw [List.length_append]
  omega
theorem nextX_filter (xs : List S33) (out : List S31) (l : List Nat) : nextX xs out (l.filter (fun i => (reachR xs i).2)) = nextX xs out l := by
  unfold nextX
  rw [List.find?_filter]
  congr 1
  funext k
  cases (reachR xs k).2 <;> simp
theorem implOrder_l0 (xs : List S33) (hn : xs.length ≤ 1048576) (hd : ∀ x ∈ xs, x.f1.length ≤ 1048576) (ha : ∀ j, 0 < j → j < xs.length → asc xs j) (hgr : ∀ d : S31, Ev (fun k => impl_Group.f k xs d.f0 d.f1) (groupR xs true d)) : ∀ (m : Nat) (out : List S31), cnt (dotsX xs) out ≤ m → out.length + cnt (dotsX xs) out * xs.length ≤ xs.length * xs.length →
    Ev (fun k => impl_OrderOf.l0 k out (wholeR xs true) true xs) (ordX xs (m + 1) out) := by
  have hq : xs.length * xs.length ≤ 1048576 * 1048576 := Nat.mul_le_mul hn hn
  have loop : ∀ (m : Nat) (out : List S31), out.length ≤ 1099511627776 → (∀ k, k < xs.length → dotX xs k ∉ out → Ev (fun n => impl_OrderOf.l0 n (out ++ grpX xs k) (wholeR xs true) true xs) (ordX xs m (out ++ grpX xs k))) → Ev (fun k => impl_OrderOf.l0 k out (wholeR xs true) true xs) (ordX xs (m + 1) out) := by
    intro m out hol next
    have hW : wholeR xs true = ((List.range xs.length).filter (fun i => (reachR xs i).2)).map (dotX xs) := rfl
    have hin : ∀ i ∈ (List.range xs.length).filter (fun i => (reachR xs i).2), i < xs.length ∧ (reachR xs i).2 = true := fun i hi => ⟨by simpa using (List.mem_filter.1 hi).1, (List.mem_filter.1 hi).2⟩
    have hll : ((List.range xs.length).filter (fun i => (reachR xs i).2)).length ≤ xs.length := Nat.le_trans (List.length_filter_le _ _) (by simp)
    have hfin : ordX xs (m + 1) out = match nextX xs out ((List.range xs.length).filter (fun i => (reachR xs i).2)) with
      | none => out
      | some k => ordX xs m (out ++ grpX xs k) := by rw [nextX_filter]; rfl
    rw [hfin, hW]
    rw [hW] at next
    generalize (List.range xs.length).filter (fun i => (reachR xs i).2) = lw at hin hll next
    have hlen : (lw.map (dotX xs)).length = lw.length := by simp
    have hget : ∀ i, i < lw.length → rd_T31 (lw.map (dotX xs)) (i : Int) = dotX xs (lw.getD i 0) := by
      intro i hi
      show (lw.map (dotX xs)).getD i z31 = _
      rw [List.getD_eq_getElem?_getD, List.getElem?_map, List.getElem?_eq_getElem hi, List.getD_eq_getElem?_getD, List.getElem?_eq_getElem hi]
      rfl
    have key : ∀ (n i : Nat), i + n = lw.length → Ev (fun k => impl_OrderOf.l1 k out (lw.map (dotX xs)) false (lw.map (dotX xs)) ((lw.map (dotX xs)).length : Int) (i : Int) xs) (match nextX xs out (lw.drop i) with
      | none => out
      | some k => ordX xs m (out ++ grpX xs k)) := by
      intro n
      induction n with
      | zero =>
        intro i hi
        rw [List.drop_of_length_le (by omega)]
        refine Ev.step (f := fun k => impl_OrderOf.l0 k out (lw.map (dotX xs)) false xs) (fun k => ?_) (Ev.ends (fun k => ?_))
        · simp only [impl_OrderOf.l1]
          rw [if_neg (by omega)]
        · simp only [impl_OrderOf.l0]
          rw [if_neg (by decide)]
          rfl
      | succ n ih =>
        intro i hi
        have hmem : lw.getD i 0 ∈ lw := by
          rw [List.getD_eq_getElem?_getD, List.getElem?_eq_getElem (show i < lw.length by omega)]
          exact List.getElem_mem _
        rw [drop_getD lw i 0 (by omega)]
        have hrd := hget i (by omega)
        obtain ⟨hj, hwj⟩ := hin _ hmem
        generalize lw.getD i 0 = j at hj hwj hrd hmem
        obtain ⟨K1, e1⟩ := hasDot_ev out (by omega) (dotX xs j)
        obtain ⟨K2, e2⟩ := hgr (dotX xs j)
        have hg : groupR xs true (dotX xs j) = grpX xs j := by
          unfold groupR
          rw [if_pos rfl, locX_dot ha hj]
          dsimp only
          rw [if_pos hwj]
        rw [hg] at e2
        obtain ⟨K3, e3⟩ := impl_ready_ev xs hn hd ha j out (by omega)
        dsimp only at e1 e2 e3
        have nx := ih (i + 1) (by omega)
        have hgl := grpX_length xs j
        have hnext : nextX xs out (j :: lw.drop (i + 1)) = if (!(decide (dotX xs j ∈ out)) && readyX xs j out) = true then some j else nextX xs out (lw.drop (i + 1)) := by
          unfold nextX
          rw [List.find?_cons, hwj, Bool.true_and]
          cases (!(decide (dotX xs j ∈ out)) && readyX xs j out) <;> rfl
        rw [hnext]
        by_cases ho : dotX xs j ∈ out
        · have hd1 : decide (dotX xs j ∈ out) = true := decide_eq_true ho
          rw [hd1, Bool.not_true, Bool.false_and, if_neg (by decide)]
          rw [hd1] at e1
          refine Ev.round ⟨K1, fun k hk => ?_⟩ nx
          simp only [impl_OrderOf.l1, hrd]
          rw [if_pos (by omega), if_pos (by omega), if_pos (by omega), e1 k hk, Option.bind_some, if_pos rfl, wrap_succ (n := lw.length) (by omega) (by omega)]
        · have hd1 : decide (dotX xs j ∈ out) = false := decide_eq_false ho
          rw [hd1, Bool.not_false, Bool.true_and]
          rw [hd1] at e1
          cases hr : readyX xs j out
          · rw [if_neg (by decide)]
            rw [hr] at e3
            refine Ev.round ⟨K1 + K2 + K3, fun k hk => ?_⟩ nx
            simp only [impl_OrderOf.l1, hrd]
            rw [if_pos (by omega), if_pos (by omega), if_pos (by omega), e1 k (by omega), Option.bind_some, if_neg (by decide), e2 k (by omega), Option.bind_some, e3 k (by omega), Option.bind_some, if_neg (by decide), wrap_succ (n := lw.length) (by omega) (by omega)]
          · rw [if_pos rfl]
            rw [hr] at e3
            refine Ev.round ⟨K1 + K2 + K3, fun k hk => ?_⟩ (next j hj ho)
            simp only [impl_OrderOf.l1, hrd]
            rw [if_pos (by omega), if_pos (by omega), if_pos (by omega), e1 k (by omega), Option.bind_some, if_neg (by decide), e2 k (by omega), Option.bind_some, e3 k (by omega), Option.bind_some, if_pos rfl, if_pos (by omega)]
    refine Ev.step (fun k => ?_) (key lw.length 0 (by omega))
    simp only [impl_OrderOf.l0]
    rw [if_pos trivial]
    rfl
  intro m
  induction m with
  | zero =>
    intro out hm hb
    exact loop 0 out (by omega) (fun k hk ho => by have := ord_step hk ho; omega)
  | succ m ih =>
    intro out hm hb
    exact loop (m + 1) out (by omega) (fun k hk ho => ih _ (by have := ord_step hk ho; omega) (ord_small hk ho hb))
def orderR (xs : List S33) (ok : Bool) : List S31 := if ok = true then ordX xs (xs.length + 1) [] else []
theorem ordX_length (xs : List S33) : ∀ (m : Nat) (out : List S31), out.length + cnt (dotsX xs) out * xs.length ≤ xs.length * xs.length → (ordX xs m out).length ≤ xs.length * xs.length := by
  intro m
  induction m with
  | zero => intro out h; simp only [ordX]; omega
  | succ m ih =>
    intro out h
    simp only [ordX]
    split
    · omega
    · rename_i k hk
      obtain ⟨h1, _, h3, _⟩ := nextX_some hk
      exact ih _ (ord_small (by simpa using h1) h3 h)
theorem cnt_nil_le (xs : List S33) : cnt (dotsX xs) [] ≤ xs.length := by
  have : cnt (dotsX xs) [] ≤ (dotsX xs).length := List.countP_le_length
  simpa [dotsX] using this
theorem orderR_length (xs : List S33) (ok : Bool) : (orderR xs ok).length ≤ xs.length * xs.length := by
  have h := cnt_nil_le xs
  unfold orderR
  split
  · exact ordX_length xs _ [] (by have := Nat.mul_le_mul_right xs.length h; simp only [List.length_nil]; omega)
  · simp
theorem implOrder_ev (xs : List S33) (hn : xs.length ≤ 1048576) (hd : ∀ x ∈ xs, x.f1.length ≤ 1048576) (ok : Bool) (ha : ok = true → ∀ j, 0 < j → j < xs.length → asc xs j) (h2 : Ev (fun k => impl_GraphOk.f k xs) ok) : Ev (fun k => impl_OrderOf.f k xs) (orderR xs ok) := by
  have hc := cnt_nil_le xs
  have hc2 := Nat.mul_le_mul_right xs.length hc
  have hw : Ev (fun k => impl_Whole.f k xs) (wholeR xs ok) := by
    refine Ev.bind' h2 ?_
    unfold wholeR
    cases ok
    · exact Ev.all (fun k => by rw [if_neg (by decide), if_neg (by decide)])
    · rw [if_pos rfl]
      exact Ev.congr (fun k => by rw [if_pos rfl]) (implWhole_ev xs hn hd (ha rfl))
  refine Ev.bind' hw ?_
  cases ok
  · have e1 : wholeR xs false = [] := rfl
    have e2 : orderR xs false = [] := rfl
    rw [e1, e2]
    refine Ev.step (f := fun k => impl_OrderOf.l1 k [] [] false [] (([] : List S31).length : Int) 0 xs) (fun k => ?_) (Ev.step (f := fun k => impl_OrderOf.l0 k [] [] false xs) (fun k => ?_) (Ev.ends (fun k => ?_)))
    · simp only [impl_OrderOf.l0]
      rw [if_pos trivial]
    · simp only [impl_OrderOf.l1]
      rw [if_neg (by simp)]
    · simp only [impl_OrderOf.l0]
      rw [if_neg (by decide)]
  · have e2 : orderR xs true = ordX xs (xs.length + 1) [] := rfl
    rw [e2]
    exact implOrder_l0 xs hn hd (ha rfl) (fun d => implGroup_ev xs hn hd true ha h2 d) xs.length [] hc (by simp only [List.length_nil]; omega)

/-! What comes of a graph in which all that is named is there -/
theorem nodup_len {D : Type} [DecidableEq D] : ∀ (l m : List D), l.Nodup → (∀ x ∈ l, x ∈ m) → l.length ≤ m.length
  | [], _, _, _ => Nat.zero_le _
  | x :: l, m, h, hs => by
    have h1 := List.nodup_cons.1 h
    have hx := hs x (by simp)
    have h2 := nodup_len l (m.erase x) h1.2 (fun y hy => (List.mem_erase_of_ne (fun e => h1.1 (by rw [← e]; exact hy))).2 (hs y (by simp [hy])))
    rw [List.length_erase_of_mem hx] at h2
    have : 0 < m.length := List.length_pos_of_mem hx
    rw [List.length_cons]
    omega
theorem countP_strict {α : Type} (p q : α → Bool) : ∀ (l : List α), (∀ x ∈ l, p x = true → q x = true) → (∃ x ∈ l, p x = false ∧ q x = true) → l.countP p < l.countP q
  | [], _, h => by obtain ⟨x, hx, _⟩ := h; simp at hx
  | y :: l, hi, h => by
    have hle : l.countP p ≤ l.countP q := List.countP_mono_left (fun x hx hp => hi x (by simp [hx]) hp)
    rw [List.countP_cons, List.countP_cons]
    obtain ⟨x, hx, h1, h2⟩ := h
    rcases List.mem_cons.1 hx with rfl | hx
    · rw [h1, h2]
      simp
      omega
    · have ih := countP_strict p q l (fun x hx => hi x (by simp [hx])) ⟨x, hx, h1, h2⟩
      have hy := hi y (by simp)
      cases hp : p y
      · simp
        omega
      · rw [hy hp]
        simp
        omega
theorem asc_nodup {l : List S31} (h : Asc lessD l) : l.Nodup := by
  refine List.Pairwise.imp (fun {a b} hab he => ?_) h
  subst he
  rw [lessD_strict.irr] at hab
  simp at hab
theorem idx_ne {D : Type} [DecidableEq D] {x a : D} (l : List D) (h : ¬ x = a) : (x :: l).idxOf a = l.idxOf a + 1 := by
  have hb : (x == a) = false := beq_eq_false_iff_ne.2 h
  rw [List.idxOf_cons, hb]
  rfl
theorem asc_idx : ∀ (l : List S31), Asc lessD l → ∀ a b, a ∈ l → b ∈ l → (l.idxOf a < l.idxOf b ↔ lessD a b = true)
  | [], _, a, _, ha, _ => by simp at ha
  | x :: l, h, a, b, ha, hb => by
    have h1 := List.pairwise_cons.1 h
    by_cases ea : x = a
    · subst ea
      by_cases eb : x = b
      · subst eb
        rw [lessD_strict.irr]
        simp
      · have hb2 : b ∈ l := (List.mem_cons.1 hb).resolve_left (fun e => eb e.symm)
        have := h1.1 b hb2
        rw [this, List.idxOf_cons_self, idx_ne l eb]
        simp
    · have ha2 : a ∈ l := (List.mem_cons.1 ha).resolve_left (fun e => ea e.symm)
      by_cases eb : x = b
      · subst eb
        have h2 := h1.1 a ha2
        rw [List.idxOf_cons_self, idx_ne l ea]
        constructor
        · intro hh; omega
        · intro hh
          have := lessD_strict.trans h2 hh
          rw [lessD_strict.irr] at this
          simp at this
      · have hb2 : b ∈ l := (List.mem_cons.1 hb).resolve_left (fun e => eb e.symm)
        rw [idx_ne l ea, idx_ne l eb, Nat.succ_lt_succ_iff]
        exact asc_idx l h1.2 a b ha2 hb2
structure Full (xs : List S33) : Prop where
  asc : ∀ j, 0 < j → j < xs.length → asc xs j
  there : ∀ i, i < xs.length → ∀ x ∈ depX xs i, ∃ t, locX xs x = some t
abbrev RX (xs : List S33) := Rch (locX xs) (depX xs)
theorem Full.reach {xs : List S33} (h : Full xs) {a b : S31} (hr : RX xs a b) : ∃ t, locX xs b = some t := by
  cases hr with
  | one h1 hm => exact h.there _ (locX_some h1).1 _ hm
  | more _ h1 hm => exact h.there _ (locX_some h1).1 _ hm
theorem Full.whole {xs : List S33} (h : Full xs) {i : Nat} (hi : i < xs.length) : (reachR xs i).2 = true := by
  refine (reachR_spec h.asc i hi).whole.2 (fun y hy hn => ?_)
  obtain ⟨t, ht⟩ := h.reach hy
  rw [hn] at ht
  simp at ht
theorem grpIn_iff {xs : List S33} (h : Full xs) {i j : Nat} (hi : i < xs.length) (hj : j < xs.length) : grpIn xs i j = true ↔ j = i ∨ (RX xs (dotX xs i) (dotX xs j) ∧ RX xs (dotX xs j) (dotX xs i)) := by
  unfold grpIn
  rw [Bool.or_eq_true, Bool.and_eq_true, (reachR_spec h.asc i hi).all j hj, (reachR_spec h.asc j hj).all i hi]
  simp
theorem grp_symm {xs : List S33} (h : Full xs) {i j : Nat} (hi : i < xs.length) (hj : j < xs.length) (hg : grpIn xs i j = true) : grpIn xs j i = true := by
  rw [grpIn_iff h hi hj] at hg
  rw [grpIn_iff h hj hi]
  rcases hg with rfl | ⟨h1, h2⟩
  · exact .inl rfl
  · exact .inr ⟨h2, h1⟩
theorem grp_trans {xs : List S33} (h : Full xs) {i j k : Nat} (hi : i < xs.length) (hj : j < xs.length) (hk : k < xs.length) (h1 : grpIn xs i j = true) (h2 : grpIn xs j k = true) : grpIn xs i k = true := by
  rw [grpIn_iff h hi hj] at h1
  rw [grpIn_iff h hj hk] at h2
  rw [grpIn_iff h hi hk]
  rcases h1 with rfl | ⟨a1, a2⟩
  · exact h2
  · rcases h2 with rfl | ⟨b1, b2⟩
    · exact .inr ⟨a1, a2⟩
    · exact .inr ⟨a1.trans _ _ b1, b2.trans _ _ a2⟩
theorem mem_grpX' {xs : List S33} {k : Nat} {x : S31} (h : x ∈ grpX xs k) : ∃ j, j < xs.length ∧ grpIn xs k j = true ∧ dotX xs j = x := by
  obtain ⟨j, hj, e⟩ := List.mem_map.1 h
  obtain ⟨h1, h2⟩ := List.mem_filter.1 hj
  exact ⟨j, by simpa using h1, h2, e⟩
theorem grpX_of {xs : List S33} {k j : Nat} (hj : j < xs.length) (h : grpIn xs k j = true) : dotX xs j ∈ grpX xs k := List.mem_map.2 ⟨j, List.mem_filter.2 ⟨by simpa using hj, h⟩, rfl⟩
structure OrdInv (xs : List S33) (out : List S31) : Prop where
  nodup : out.Nodup
  mem : ∀ x ∈ out, ∃ i, i < xs.length ∧ dotX xs i = x
  closed : ∀ i j, i < xs.length → j < xs.length → dotX xs i ∈ out → grpIn xs i j = true → dotX xs j ∈ out
  ord : ∀ i, i < xs.length → dotX xs i ∈ out → ∀ x ∈ depX xs i, x ∈ out ∧ (out.idxOf (dotX xs i) < out.idxOf x ↔ RX xs x (dotX xs i) ∧ lessD (dotX xs i) x = true)
theorem OrdInv.nil (xs : List S33) : OrdInv xs [] := ⟨by simp, by simp, by simp, by simp⟩
theorem OrdInv.step {xs : List S33} (hF : Full xs) {out : List S31} (h : OrdInv xs out) {k : Nat} (hk : k < xs.length) (ho : dotX xs k ∉ out) (hr : readyX xs k out = true) : OrdInv xs (out ++ grpX xs k) := by
  have hasc : Asc lessD (grpX xs k) := asc_map hF.asc _ _ (Nat.le_refl _)
  have hdis : ∀ x, x ∈ grpX xs k → x ∉ out := by
    intro x hx hxo
    obtain ⟨j, hj, hg, rfl⟩ := mem_grpX' hx
    exact ho (h.closed j k hj hk hxo (grp_symm hF hk hj hg))
  refine ⟨List.nodup_append.2 ⟨h.nodup, asc_nodup hasc, fun a ha b hb e => hdis b hb (e ▸ ha)⟩, fun x hx => ?_, fun i j hi hj hm hg => ?_, fun i hi hm x hx => ?_⟩
  · rcases List.mem_append.1 hx with hx | hx
    · exact h.mem x hx
    · obtain ⟨j, hj, _, e⟩ := mem_grpX' hx
      exact ⟨j, hj, e⟩
  · rcases List.mem_append.1 hm with hm | hm
    · exact List.mem_append.2 (.inl (h.closed i j hi hj hm hg))
    · obtain ⟨i', hi', hg', e⟩ := mem_grpX' hm
      have := dotX_inj hF.asc hi' hi e
      subst this
      exact List.mem_append.2 (.inr (grpX_of hj (grp_trans hF hk hi' hj hg' hg)))
  · by_cases hm1 : dotX xs i ∈ out
    · obtain ⟨h1, h2⟩ := h.ord i hi hm1 x hx
      refine ⟨List.mem_append.2 (.inl h1), ?_⟩
      rw [List.idxOf_append, List.idxOf_append, if_pos hm1, if_pos h1]
      exact h2
    · have hmg := (List.mem_append.1 hm).resolve_left hm1
      obtain ⟨i', hi', hg, e⟩ := mem_grpX' hmg
      have := dotX_inj hF.asc hi' hi e
      subst this
      obtain ⟨t, ht⟩ := hF.there i' hi' x hx
      obtain ⟨htl, htd⟩ := locX_some ht
      have hstep : RX xs (dotX xs i') x := .one (locX_dot hF.asc hi') hx
      have hgood : goodX (grpX xs k) out x = true := by
        have h1 := List.all_eq_true.1 hr i' (List.mem_filter.2 ⟨by simpa using hi', hg⟩)
        exact List.all_eq_true.1 h1 x hx
      unfold goodX at hgood
      rw [Bool.or_eq_true, decide_eq_true_iff, decide_eq_true_iff] at hgood
      rw [List.idxOf_append, List.idxOf_append, if_neg hm1]
      by_cases hxo : x ∈ out
      · refine ⟨List.mem_append.2 (.inl hxo), ?_⟩
        rw [if_pos hxo]
        have hlt := List.idxOf_lt_length_iff.2 hxo
        constructor
        · intro hh; omega
        · rintro ⟨hb, _⟩
          exfalso
          have hgt : grpIn xs i' t = true := (grpIn_iff hF hi' htl).2 (.inr ⟨by rw [htd]; exact hstep, by rw [htd]; exact hb⟩)
          have hgk := grp_symm hF hk htl (grp_trans hF hk hi' htl hg hgt)
          exact ho (h.closed t k htl hk (by rw [htd]; exact hxo) hgk)
      · have hxg := hgood.resolve_right hxo
        refine ⟨List.mem_append.2 (.inr hxg), ?_⟩
        rw [if_neg hxo, Nat.add_lt_add_iff_right, asc_idx _ hasc _ _ hmg hxg]
        constructor
        · intro hl
          refine ⟨?_, hl⟩
          obtain ⟨t', ht', hg', e'⟩ := mem_grpX' hxg
          have hgt := grp_trans hF hi' hk ht' (grp_symm hF hk hi' hg) hg'
          rcases (grpIn_iff hF hi' ht').1 hgt with e2 | ⟨_, h2⟩
          · subst e2
            rw [e'] at hstep ⊢
            exact hstep
          · rw [← e']
            exact h2
        · exact fun hh => hh.2
/-- As long as one is lacking, one can be done. -/
theorem next_there {xs : List S33} (hF : Full xs) {out : List S31} (h : OrdInv xs out) (hn : nextX xs out (List.range xs.length) = none) : ∀ i, i < xs.length → dotX xs i ∈ out := by
  have hno : ∀ i, i < xs.length → dotX xs i ∉ out → readyX xs i out = false := by
    intro i hi ho
    have h1 := List.find?_eq_none.1 hn i (by simpa using hi)
    rw [hF.whole hi, decide_eq_false ho] at h1
    simpa using h1
  have key : ∀ (N i : Nat), i < xs.length → dotX xs i ∉ out → ((List.range xs.length).filter (fun j => !(decide (dotX xs j ∈ out)))).countP (fun j => (j == i) || (reachR xs i).1.getD j false) ≤ N → False := by
    intro N
    induction N with
    | zero =>
      intro i hi ho hc
      have hm : i ∈ (List.range xs.length).filter (fun j => !(decide (dotX xs j ∈ out))) := List.mem_filter.2 ⟨by simpa using hi, by simp [ho]⟩
      have := List.countP_pos_iff (p := fun j => (j == i) || (reachR xs i).1.getD j false).2 ⟨i, hm, by simp⟩
      omega
    | succ N ih =>
      intro i hi ho hc
      have hr := hno i hi ho
      obtain ⟨j, hj, hjx⟩ := List.all_eq_false.1 hr
      obtain ⟨x, hx, hxg⟩ := List.all_eq_false.1 (Bool.eq_false_iff.2 hjx)
      obtain ⟨hj1, hg⟩ := List.mem_filter.1 hj
      have hjl : j < xs.length := by simpa using hj1
      unfold goodX at hxg
      rw [Bool.or_eq_true, decide_eq_true_iff, decide_eq_true_iff] at hxg
      obtain ⟨t, ht⟩ := hF.there j hjl x hx
      obtain ⟨htl, htd⟩ := locX_some ht
      have hxo : x ∉ out := fun hh => hxg (.inr hh)
      have hxn : x ∉ grpX xs i := fun hh => hxg (.inl hh)
      have hit : RX xs (dotX xs i) x := by
        rcases (grpIn_iff hF hi hjl).1 hg with e | ⟨h1, _⟩
        · subst e; exact .one (locX_dot hF.asc hjl) hx
        · exact .more h1 (locX_dot hF.asc hjl) hx
      have hnti : ¬ RX xs x (dotX xs i) := fun hh => hxn (by
        rw [← htd]
        exact grpX_of htl ((grpIn_iff hF hi htl).2 (.inr ⟨by rw [htd]; exact hit, by rw [htd]; exact hh⟩)))
      have hne : i ≠ t := fun e => hxn (by rw [← htd, ← e]; exact grpX_self hi)
      refine ih t htl (by rw [htd]; exact hxo) ?_
      have hlt := countP_strict (fun q => (q == t) || (reachR xs t).1.getD q false) (fun q => (q == i) || (reachR xs i).1.getD q false) ((List.range xs.length).filter (fun j => !(decide (dotX xs j ∈ out)))) (fun q hq hp => ?_) ⟨i, List.mem_filter.2 ⟨by simpa using hi, by simp [ho]⟩, ?_, by simp⟩
      · omega
      · have hql : q < xs.length := by simpa using (List.mem_filter.1 hq).1
        rw [Bool.or_eq_true] at hp ⊢
        refine .inr (((reachR_spec hF.asc i hi).all q hql).2 ?_)
        rcases hp with hp | hp
        · have e : q = t := by simpa using hp
          rw [e, htd]
          exact hit
        · have := ((reachR_spec hF.asc t htl).all q hql).1 hp
          rw [htd] at this
          exact hit.trans _ _ this
      · rw [Bool.or_eq_false_iff]
        refine ⟨by simpa using hne, Bool.eq_false_iff.2 (fun hh => hnti ?_)⟩
        have := ((reachR_spec hF.asc t htl).all i hi).1 hh
        rw [htd] at this
        exact this
  intro i hi
  by_cases ho : dotX xs i ∈ out
  · exact ho
  · exact (key _ i hi ho (Nat.le_refl _)).elim
theorem ord_all {xs : List S33} (hF : Full xs) : ∀ (m : Nat) (out : List S31), OrdInv xs out → cnt (dotsX xs) out ≤ m → OrdInv xs (ordX xs (m + 1) out) ∧ ∀ i, i < xs.length → dotX xs i ∈ ordX xs (m + 1) out := by
  intro m
  induction m with
  | zero =>
    intro out h hc
    simp only [ordX]
    split
    · rename_i hn
      exact ⟨h, next_there hF h hn⟩
    · rename_i k hk
      obtain ⟨h1, _, h3, _⟩ := nextX_some hk
      have := ord_step (by simpa using h1) h3
      omega
  | succ m ih =>
    intro out h hc
    unfold ordX
    split
    · rename_i hn
      exact ⟨h, next_there hF h hn⟩
    · rename_i k hk
      obtain ⟨h1, _, h3, h4⟩ := nextX_some hk
      have hkl : k < xs.length := by simpa using h1
      have := ord_step hkl h3
      exact ih _ (h.step hF hkl h3 h4) (by omega)
theorem order_full {xs : List S33} (hF : Full xs) : OrdInv xs (orderR xs true) ∧ (∀ i, i < xs.length → dotX xs i ∈ orderR xs true) ∧ (orderR xs true).length = xs.length := by
  have e : orderR xs true = ordX xs (xs.length + 1) [] := rfl
  obtain ⟨h1, h2⟩ := ord_all hF xs.length [] (OrdInv.nil xs) (cnt_nil_le xs)
  rw [e]
  refine ⟨h1, h2, ?_⟩
  have hnd : (dotsX xs).Nodup := asc_nodup (by
    have := asc_map hF.asc (fun _ => true) xs.length (Nat.le_refl _)
    rwa [List.filter_eq_self.2 (fun _ _ => rfl)] at this)
  have hl : (dotsX xs).length = xs.length := by simp [dotsX]
  have a := nodup_len _ (dotsX xs) h1.nodup (fun x hx => by
    obtain ⟨i, hi, e⟩ := h1.mem x hx
    exact List.mem_map.2 ⟨i, by simpa using hi, e⟩)
  have b := nodup_len (dotsX xs) (ordX xs (xs.length + 1) []) hnd (fun x hx => by
    obtain ⟨i, hi, e⟩ := List.mem_map.1 hx
    rw [← e]
    exact h2 i (by simpa using hi))
  omega

theorem and255 (n : Int) : Go.bits .and .i64 n 255 = n % 256 := by
  have h255 : (BitVec.ofInt 64 255).toNat = 2 ^ 8 - 1 := by decide
  have key : (BitVec.ofInt 64 n &&& BitVec.ofInt 64 255).toNat = (n % ((2 ^ 64 : Nat) : Int)).toNat % 2 ^ 8 := by
    rw [BitVec.toNat_and, BitVec.toNat_ofInt, h255, Nat.and_two_pow_sub_one_eq_mod]
  show IntKind.i64.wrap ((BitVec.ofInt 64 n &&& BitVec.ofInt 64 255).toNat : Nat) = n % 256
  rw [key, IntKind.wrap_i64]
  omega
/-- A place in the drawn bytes. -/
def At (b : List Int) (i : Int) : Prop := 0 ≤ i ∧ i ≤ (b.length : Int)
theorem l1Byte_some (b : List Int) (i x : Int) (hb : b.length ≤ 1048576) (hi : At b i) : ∃ v j y, spec_l1Byte.f b i x = some (v, j, y) ∧ 0 ≤ v ∧ v ≤ 255 ∧ At b j := by
  unfold At at hi ⊢
  simp only [spec_l1Byte.f, and255]
  by_cases h : i < (b.length : Int)
  · rw [if_pos h, if_pos hi.1, wrap_id (i := i + 1) (by omega) (by omega)]
    exact ⟨_, _, _, rfl, by omega, by omega, by omega⟩
  · rw [if_neg h]
    exact ⟨_, _, _, rfl, by omega, by omega, hi⟩
theorem l1Below_some (b : List Int) (i x n : Int) (hb : b.length ≤ 1048576) (hi : At b i) : ∃ v j y, spec_l1Below.f b i x n = some (v, j, y) ∧ 0 ≤ v ∧ (0 < n → v < n) ∧ (n ≤ 0 → v = 0) ∧ At b j := by
  simp only [spec_l1Below.f]
  by_cases h0 : n ≤ 0
  · rw [if_pos h0]
    exact ⟨_, _, _, rfl, by omega, by omega, fun _ => rfl, hi⟩
  · rw [if_neg h0]
    have hp : 0 < n := by omega
    have hn : ¬ n = 0 := by omega
    by_cases h1 : n ≤ 256
    · rw [if_pos h1]
      obtain ⟨v, j, y, e, v0, v1, hj⟩ := l1Byte_some b i x hb hi
      simp only [e, Option.bind_some]
      rw [if_neg hn, Int.tmod_eq_emod_of_nonneg v0]
      exact ⟨_, _, _, rfl, Int.emod_nonneg _ hn, fun _ => Int.emod_lt_of_pos _ hp, fun h => absurd h h0, hj⟩
    · rw [if_neg h1]
      obtain ⟨v, j, y, e, v0, v1, hj⟩ := l1Byte_some b i x hb hi
      obtain ⟨v', j', y', e', v0', v1', hj'⟩ := l1Byte_some b j y hb hj
      obtain ⟨v2, j2, y2, e2, v02, v12, hj2⟩ := l1Byte_some b j' y' hb hj'
      simp only [e, e', e2, Option.bind_some]
      rw [if_neg hn, wrap_id (i := v * 65536) (by omega) (by omega), wrap_id (i := v' * 256) (by omega) (by omega), wrap_id (i := v * 65536 + v' * 256) (by omega) (by omega), wrap_id (i := v * 65536 + v' * 256 + v2) (by omega) (by omega), Int.tmod_eq_emod_of_nonneg (by omega)]
      exact ⟨_, _, _, rfl, Int.emod_nonneg _ hn, fun _ => Int.emod_lt_of_pos _ hp, fun h => absurd h h0, hj2⟩

theorem l1Once_some (b : List Int) (i x n : Int) (hb : b.length ≤ 1048576) (hi : At b i) : ∃ v j y, spec_l1Once.f b i x n = some (v, j, y) ∧ At b j := by
  obtain ⟨v, j, y, e, _, _, _, hj⟩ := l1Below_some b i x n hb hi
  simp only [spec_l1Once.f, e, Option.bind_some]
  exact ⟨_, _, _, rfl, hj⟩

/-! Putting a command -/
def goodI (x : S33) : Prop := itemR x.f0.f0 x.f0.f1 x.f1 = true
def insI (it : S33) : List S33 → List S33
  | [] => [it]
  | x :: l => if lessD it.f0 x.f0 = true then it :: x :: l else x :: insI it l
theorem mem_insI (it : S33) : ∀ (l : List S33) (x : S33), x ∈ insI it l ↔ x = it ∨ x ∈ l
  | [], x => by simp [insI]
  | y :: l, x => by
    unfold insI
    split
    · rw [List.mem_cons]
    · rw [List.mem_cons, mem_insI it l x, List.mem_cons]
      constructor
      · rintro (h | h | h)
        · exact .inr (.inl h)
        · exact .inl h
        · exact .inr (.inr h)
      · rintro (h | h | h)
        · exact .inr (.inl h)
        · exact .inl h
        · exact .inr (.inr h)
theorem insI_length (it : S33) : ∀ (l : List S33), (insI it l).length = l.length + 1
  | [] => rfl
  | y :: l => by
    unfold insI
    split
    · simp
    · simp [insI_length it l]
/-- Ascending commands. -/
def AscI (l : List S33) : Prop := l.Pairwise (fun a b => lessD a.f0 b.f0 = true)
theorem insI_asc (it : S33) : ∀ (l : List S33), AscI l → (∀ x ∈ l, x.f0 ≠ it.f0) → AscI (insI it l)
  | [], _, _ => by simp [insI, AscI]
  | y :: l, h, hn => by
    have h1 := List.pairwise_cons.1 h
    unfold insI
    split
    · rename_i hl
      refine List.pairwise_cons.2 ⟨fun z hz => ?_, h⟩
      rcases List.mem_cons.1 hz with rfl | hz
      · exact hl
      · exact lessD_strict.trans hl (h1.1 z hz)
    · rename_i hl
      refine List.pairwise_cons.2 ⟨fun z hz => ?_, insI_asc it l h1.2 (fun x hx => hn x (by simp [hx]))⟩
      rcases (mem_insI it l z).1 hz with rfl | hz
      · exact lessD_strict.tot (Bool.eq_false_iff.2 hl) (fun e => hn y (by simp) e.symm)
      · exact h1.1 z hz
theorem AscI.toAsc {l : List S33} (h : AscI l) : ∀ j, 0 < j → j < l.length → asc l j := by
  intro j h0 hj
  have h1 := List.pairwise_iff_getElem.1 h (j - 1) j (by omega) hj (by omega)
  have e1 : rd_T33 l ((j : Int) - 1) = l[j - 1] := by
    rw [show (j : Int) - 1 = ((j - 1 : Nat) : Int) from by omega]
    show l.getD (j - 1) z33 = _
    rw [List.getD_eq_getElem?_getD, List.getElem?_eq_getElem (by omega)]
    rfl
  have e2 : rd_T33 l (j : Int) = l[j] := by
    show l.getD j z33 = _
    rw [List.getD_eq_getElem?_getD, List.getElem?_eq_getElem hj]
    rfl
  unfold asc
  rw [e1, e2]
  exact h1
theorem implGraphOk_true (xs : List S33) (hn : xs.length ≤ 100) (hg : ∀ x ∈ xs, goodI x) (ha : AscI xs) : Ev (fun k => impl_GraphOk.f k xs) true := by
  have key : ∀ (d i : Nat), i + d = xs.length → Ev (fun k => impl_GraphOk.l0 k xs (xs.length : Int) (i : Int) xs) true := by
    intro d
    induction d with
    | zero =>
      intro i hi
      refine Ev.ends (fun k => ?_)
      simp only [impl_GraphOk.l0]
      rw [if_neg (by omega), decide_eq_true (by omega)]
    | succ d ih =>
      intro i hi
      have hm : rd_T33 xs (i : Int) ∈ xs := getI_mem (show i < xs.length by omega)
      have hgi := hg _ hm
      unfold goodI itemR at hgi
      rw [Bool.and_eq_true] at hgi
      have hl60 : (rd_T33 xs (i : Int)).f1.length ≤ 60 := by
        have := hgi.2
        rw [Bool.and_eq_true, Bool.and_eq_true] at this
        have := of_decide_eq_true this.2.2
        omega
      obtain ⟨K, e⟩ := impl_deps_ev (rd_T33 xs (i : Int)).f0.f0 (rd_T33 xs (i : Int)).f0.f1 (rd_T33 xs (i : Int)).f1 (by omega)
      rw [hgi.2] at e
      dsimp only at e
      refine Ev.round ⟨K, fun k hk => ?_⟩ (ih (i + 1) (by omega))
      simp only [impl_GraphOk.l0, impl_dotOk_eq, impl_dotLess_eq, Option.bind_some]
      rw [if_pos (by omega), if_pos (by omega), if_pos (by omega), if_pos hgi.1, e k hk, Option.bind_some, if_pos rfl]
      by_cases h0 : (i : Int) > 0
      · have hasc := ha.toAsc i (by omega) (by omega)
        unfold asc at hasc
        rw [if_pos h0, wrap_id (i := (i : Int) - 1) (by omega) (by omega), if_pos (by omega), if_pos (by omega), hasc, if_pos rfl, wrap_succ (n := xs.length) (by omega) (by omega)]
      · rw [if_neg h0, wrap_succ (n := xs.length) (by omega) (by omega)]
  exact key xs.length 0 (by omega)
theorem specGraphOk_true (xs : List S33) (hn : xs.length ≤ 100) (hg : ∀ x ∈ xs, goodI x) (hd : ∀ x ∈ xs, x.f1.length ≤ 1048576) (ha : AscI xs) : Ev (fun k => spec_GraphOk.f k xs) true := by
  obtain ⟨r, _, h1, K2, h2⟩ := graphOk_both xs (by omega) hd
  obtain ⟨K, h⟩ := implGraphOk_true xs hn hg ha
  have := (h (K + K2) (by omega)).symm.trans (h2 (K + K2) (by omega))
  injection this with this
  subst this
  exact h1
theorem copyDots_some (l : List S31) (h : l.length ≤ 1048576) : impl_copyDots.f l = some l := by
  simp only [impl_copyDots.f, List.nil_append, List.length_nil, Nat.zero_add]
  rw [if_pos (by omega)]
theorem copyGraph_ev (xs : List S33) (hn : xs.length ≤ 1048576) (hd : ∀ x ∈ xs, x.f1.length ≤ 1048576) : Ev (fun k => impl_copyGraph.f k xs) xs := by
  have loop := filt_loop (fun k out i => impl_copyGraph.l0 k xs (xs.length : Int) (i : Int) out) xs.length (fun _ => true) (fun (i : Nat) => rd_T33 xs (i : Int)) (fun out => out) (fun i out r hi ho _ h => ?_) (fun i out r hi ho hp h => by simp at hp) (fun out ho => ?_)
  · rw [List.filter_eq_self.2 (fun _ _ => rfl)] at loop
    have e : (List.range xs.length).map (fun (i : Nat) => rd_T33 xs (i : Int)) = xs := by
      have := range_map_get xs (fun x => x) z33
      rw [List.map_id'] at this
      exact this
    rw [e] at loop
    exact loop
  · have hm := hd _ (show rd_T33 xs (i : Int) ∈ xs from getI_mem hi)
    refine Ev.step (fun k => ?_) h
    simp only [impl_copyGraph.l0]
    rw [if_pos (by omega), if_pos (by omega), if_pos (by omega), copyDots_some _ hm, Option.bind_some, if_pos (by omega), wrap_succ (n := xs.length) (by omega) (by omega)]
  · refine Ev.ends (fun k => ?_)
    simp only [impl_copyGraph.l0]
    rw [if_neg (by omega)]
theorem graphPut_ev (xs : List S33) (hn : xs.length ≤ 99) (hd : ∀ x ∈ xs, x.f1.length ≤ 60) (it : S33) (hi0 : it.f1.length ≤ 60) (hloc : locX xs it.f0 = none) (hok : Ev (fun k => impl_GraphOk.f k (insI it xs)) true) : Ev (fun k => impl_GraphPut.f k xs it.f0.f0 it.f0.f1 it.f1) (insI it xs, true) := by
  have hd2 : ∀ x ∈ xs, x.f1.length ≤ 1048576 := fun x hx => by have := hd x hx; omega
  obtain ⟨K1, e1⟩ := itemAt_ev xs (by omega) it.f0
  rw [hloc] at e1
  obtain ⟨K2, e2⟩ := hok
  dsimp only at e1 e2
  have fin : Ev (fun k => impl_GraphPut.j1 k xs it.f0.f0 it.f0.f1 it.f1 (insI it xs)) (insI it xs, true) := by
    refine Ev.round (f := fun _ => some _) ⟨K1 + K2, fun k hk => ?_⟩ (Ev.now _)
    simp only [impl_GraphPut.j1]
    rw [e1 k (by omega), Option.bind_some, if_neg (by simp only [intO]; omega), e2 k (by omega), Option.bind_some, if_pos rfl]
  have done : ∀ (d i : Nat) (out : List S33), i + d = xs.length → out ++ xs.drop i = insI it xs → out.length ≤ 101 → Ev (fun k => impl_GraphPut.l0 k true xs (xs.length : Int) (i : Int) xs it.f0.f0 it.f0.f1 it.f1 out) (insI it xs, true) := by
    intro d
    induction d with
    | zero =>
      intro i out hi he _
      rw [List.drop_of_length_le (by omega), List.append_nil] at he
      subst he
      refine Ev.step (fun k => ?_) fin
      simp only [impl_GraphPut.l0]
      rw [if_neg (by omega), if_pos trivial]
    | succ d ih =>
      intro i out hi he ho
      have hlen := congrArg List.length he
      rw [List.length_append, List.length_drop, insI_length] at hlen
      rw [drop_getD xs i z33 (by omega)] at he
      refine Ev.step (fun k => ?_) (ih (i + 1) (out ++ [rd_T33 xs (i : Int)]) (by omega) (by rw [List.append_assoc]; exact he) (by rw [List.length_append]; simp only [List.length_cons, List.length_nil]; omega))
      simp only [impl_GraphPut.l0]
      rw [if_pos (by omega), if_pos (by omega), if_pos (by omega), if_pos trivial, if_pos (by omega), wrap_succ (n := xs.length) (by omega) (by omega)]
  have look : ∀ (d i : Nat), i + d = xs.length → xs.take i ++ insI it (xs.drop i) = insI it xs → Ev (fun k => impl_GraphPut.l0 k false xs (xs.length : Int) (i : Int) xs it.f0.f0 it.f0.f1 it.f1 (xs.take i)) (insI it xs, true) := by
    intro d
    induction d with
    | zero =>
      intro i hi he
      rw [List.drop_of_length_le (by omega)] at he
      have hl : (xs.take i).length ≤ 99 := by rw [List.length_take]; omega
      rw [← he] at fin
      rw [← he]
      refine Ev.step (fun k => ?_) fin
      simp only [impl_GraphPut.l0]
      rw [if_neg (by omega), if_neg (by decide), copyDots_some _ (by omega), Option.bind_some, if_pos (by omega)]
      rfl
    | succ d ih =>
      intro i hi he
      have hl : (xs.take i).length = i := by rw [List.length_take]; omega
      have hm := hd _ (show rd_T33 xs (i : Int) ∈ xs from getI_mem (show i < xs.length by omega))
      rw [drop_getD xs i z33 (by omega), show xs.getD i z33 = rd_T33 xs (i : Int) from rfl] at he
      have hu : insI it (rd_T33 xs (i : Int) :: xs.drop (i + 1)) = if lessD it.f0 (rd_T33 xs (i : Int)).f0 = true then it :: rd_T33 xs (i : Int) :: xs.drop (i + 1) else rd_T33 xs (i : Int) :: insI it (xs.drop (i + 1)) := rfl
      rw [hu] at he
      by_cases hc : lessD it.f0 (rd_T33 xs (i : Int)).f0 = true
      · rw [if_pos hc] at he
        refine Ev.step (fun k => ?_) (done d (i + 1) (xs.take i ++ [it] ++ [rd_T33 xs (i : Int)]) (by omega) (by simpa using he) (by simp only [List.length_append, List.length_cons, List.length_nil]; omega))
        simp only [impl_GraphPut.l0, impl_dotLess_eq, Option.bind_some]
        rw [if_pos (by omega), if_pos (by omega), if_pos (by omega), if_neg (by decide), show dotLessR it.f0.f0 it.f0.f1 (rd_T33 xs (i : Int)).f0.f0 (rd_T33 xs (i : Int)).f0.f1 = true from hc, if_pos rfl, copyDots_some _ (by omega), Option.bind_some, if_pos (by omega), if_pos (by simp only [List.length_append, List.length_cons, List.length_nil]; omega), wrap_succ (n := xs.length) (by omega) (by omega)]
      · rw [if_neg hc] at he
        have nx := ih (i + 1) (by omega) (by
          rw [take_succ_getD xs i z33 (by omega), List.append_assoc]
          exact he)
        rw [take_succ_getD xs i z33 (by omega)] at nx
        refine Ev.step (fun k => ?_) nx
        simp only [impl_GraphPut.l0, impl_dotLess_eq, Option.bind_some]
        rw [if_pos (by omega), if_pos (by omega), if_pos (by omega), if_neg (by decide), show dotLessR it.f0.f0 it.f0.f1 (rd_T33 xs (i : Int)).f0.f0 (rd_T33 xs (i : Int)).f0.f1 = false from Bool.eq_false_iff.2 hc, if_neg (by decide), if_pos (by omega), wrap_succ (n := xs.length) (by omega) (by omega)]
        rfl
  refine Ev.bind' (copyGraph_ev xs (by omega) hd2) ?_
  exact look xs.length 0 (by omega) rfl
/-! the reference's, for a command behind all others -/
theorem specPut_last (xs : List S33) (hn : xs.length ≤ 99) (hd : ∀ x ∈ xs, x.f1.length ≤ 60) (it : S33) (hi0 : it.f1.length ≤ 60) (hlast : ∀ x ∈ xs, lessD x.f0 it.f0 = true) (hok : Ev (fun k => spec_GraphOk.f k (xs ++ [it])) true) : Ev (fun k => spec_GraphPut.f k xs it.f0.f0 it.f0.f1 it.f1) (xs ++ [it], true) := by
  have hno : ∀ x ∈ xs, lessD it.f0 x.f0 = false := fun x hx => by
    cases hb : lessD it.f0 x.f0 with
    | false => rfl
    | true =>
      have := lessD_strict.trans hb (hlast x hx)
      rw [lessD_strict.irr] at this
      simp at this
  have hloc : locX xs it.f0 = none := by
    cases h : locX xs it.f0 with
    | none => rfl
    | some j =>
      obtain ⟨h1, h2⟩ := locX_some h
      have := hlast _ (getI_mem h1)
      rw [show (xs.getD j z33).f0 = it.f0 from h2, lessD_strict.irr] at this
      simp at this
  obtain ⟨K1, e1⟩ := l8At_ev xs (by omega) it.f0
  rw [hloc] at e1
  obtain ⟨K2, e2⟩ := hok
  dsimp only at e1 e2
  have copyI : ∀ x : S33, x.f1.length ≤ 60 → spec_l8CopyItem.f x.f0.f0 x.f0.f1 x.f1 = some (x.f0.f0, x.f0.f1, x.f1) := fun x hx => by
    simp only [spec_l8CopyItem.f, Option.bind_some, List.nil_append, List.length_nil, Nat.zero_add]
    rw [if_pos (by omega)]
  have fin : Ev (fun k => spec_GraphPut.j2 k xs it.f0.f0 it.f0.f1 it.f1 (xs ++ [it])) (xs ++ [it], true) := by
    refine Ev.round (f := fun k => spec_GraphPut.j3 k false xs (xs ++ [it])) ⟨K1 + K2, fun k hk => ?_⟩ (Ev.ends (fun k => ?_))
    · simp only [spec_GraphPut.j2]
      rw [e1 k (by omega), Option.bind_some, if_neg (by simp only [intO]; omega), e2 k (by omega), Option.bind_some]
      rfl
    · simp only [spec_GraphPut.j3]
      rw [if_neg (by decide)]
  have look : ∀ (d i : Nat), i + d = xs.length → Ev (fun k => spec_GraphPut.l0 k false (i : Int) xs it.f0.f0 it.f0.f1 it.f1 (xs.take i)) (xs ++ [it], true) := by
    intro d
    induction d with
    | zero =>
      intro i hi
      rw [List.take_of_length_le (by omega)]
      refine Ev.step (fun k => ?_) fin
      simp only [spec_GraphPut.l0]
      rw [if_neg (by omega), if_neg (by decide), copyI it hi0, Option.bind_some, if_pos (by omega)]
    | succ d ih =>
      intro i hi
      have hl : (xs.take i).length = i := by rw [List.length_take]; omega
      have hmem : rd_T33 xs (i : Int) ∈ xs := getI_mem (show i < xs.length by omega)
      have nx := ih (i + 1) (by omega)
      rw [take_succ_getD xs i z33 (by omega)] at nx
      refine Ev.step (f := fun k => spec_GraphPut.j1 k false (i : Int) false xs it.f0.f0 it.f0.f1 it.f1 (xs.take i)) (fun k => ?_) (Ev.step (fun k => ?_) nx)
      · simp only [spec_GraphPut.l0, spec_dotLess_eq, Option.bind_some]
        rw [if_pos (by omega), if_neg (by decide), if_pos (by omega), show dotLessR it.f0.f0 it.f0.f1 (rd_T33 xs (i : Int)).f0.f0 (rd_T33 xs (i : Int)).f0.f1 = false from hno _ hmem]
      · simp only [spec_GraphPut.j1]
        rw [if_neg (by decide), if_pos (by omega), if_pos (by omega), copyI _ (hd _ hmem), Option.bind_some, if_pos (by omega), wrap_succ (n := xs.length) (by omega) (by omega)]
        rfl
  exact look xs.length 0 (by omega)

theorem l1New_comes (b : List Int) (hb : b.length ≤ 1048576) : Comes (fun r => r.1 = b ∧ r.2.1 = 0) (fun k => spec_l1New.f k b) := by
  have key : ∀ (d i : Nat) (x : Int), i + d = b.length → Comes (fun r => r.1 = b ∧ r.2.1 = 0) (fun k => spec_l1New.l0 k b x (i : Int)) := by
    intro d
    induction d with
    | zero =>
      intro i x hi
      refine Comes.step (fun k => spec_l1New.l0.eq_2 ..) ?_
      have e1 : ((i : Int) < (b.length : Int)) = False := eq_false (by omega)
      simp only [e1, if_false]
      refine Comes.step (fun k => spec_l1New.j1.eq_2 ..) ?_
      simp only [Bool.false_eq_true, if_false]
      exact Comes.ret _ ⟨rfl, rfl⟩
    | succ d ih =>
      intro i x hi
      refine Comes.step (fun k => spec_l1New.l0.eq_2 ..) ?_
      have e1 : ((i : Int) < (b.length : Int)) = True := eq_true (by omega)
      have e2 : (0 ≤ (i : Int)) = True := eq_true (by omega)
      have ew : wrap64 ((i : Int) + 1) = ((i + 1 : Nat) : Int) := wrap_succ (n := b.length) (by omega) (by omega)
      simp only [e1, if_true]
      have join : ∀ q : Bool, Comes (fun r => r.1 = b ∧ r.2.1 = 0) (fun k => spec_l1New.j1 k b x (i : Int) q) := by
        intro q
        refine Comes.step (fun k => spec_l1New.j1.eq_2 ..) ?_
        simp only [e1, e2, if_true, ew]
        exact Comes.ite (fun _ => ih (i + 1) _ (by omega)) (fun _ => Comes.ret _ ⟨rfl, rfl⟩)
      exact join _
  exact key b.length 0 _ (by omega)

/-! The drawn graph -/
theorem item_good (a b : Int) (deps : List S31) (hab : dotOkR a b = true) (h : Asc lessD deps) (hr : ∀ x ∈ deps, dotOkR x.f0 x.f1 = true) (hD : (⟨a, b⟩ : S31) ∉ deps) (hl : deps.length ≤ 60) : itemR a b deps = true := by
  have hmem : ∀ i, i < deps.length → rd_T31 deps (i : Int) ∈ deps := fun i hi => by
    show deps.getD i z31 ∈ deps
    rw [List.getD_eq_getElem?_getD, List.getElem?_eq_getElem hi]
    exact List.getElem_mem _
  have h1 : ∀ (d i : Nat), i + d = deps.length → depR deps d i = true := by
    intro d
    induction d with
    | zero => intro i _; rfl
    | succ d ih =>
      intro i hi
      unfold depR depAt
      rw [ih (i + 1) (by omega), hr _ (hmem i (by omega))]
      by_cases h0 : (i : Int) > 0
      · rw [if_pos h0]
        have h2 := List.pairwise_iff_getElem.1 h (i - 1) i (by omega) (by omega) (by omega)
        have e1 : rd_T31 deps ((i : Int) - 1) = deps[i - 1] := by
          rw [show (i : Int) - 1 = ((i - 1 : Nat) : Int) from by omega]
          show deps.getD (i - 1) z31 = _
          rw [List.getD_eq_getElem?_getD, List.getElem?_eq_getElem (by omega)]
          rfl
        have e2 : rd_T31 deps (i : Int) = deps[i] := by
          show deps.getD i z31 = _
          rw [List.getD_eq_getElem?_getD, List.getElem?_eq_getElem (by omega)]
          rfl
        rw [e1, e2, show dotLessR deps[i - 1].f0 deps[i - 1].f1 deps[i].f0 deps[i].f1 = true from h2]
        rfl
      · rw [if_neg h0]
        rfl
  have h2 : ∀ (d i : Nat), i + d = deps.length → hasR deps a b d i = false := by
    intro d
    induction d with
    | zero => intro i _; rfl
    | succ d ih =>
      intro i hi
      unfold hasR eqAt
      rw [ih (i + 1) (by omega), Bool.or_false]
      have hne : rd_T31 deps (i : Int) ≠ (⟨a, b⟩ : S31) := fun e => hD (e ▸ hmem i (by omega))
      exact Bool.eq_false_iff.2 (dot_neg (a := rd_T31 deps (i : Int)) (b := (⟨a, b⟩ : S31)) hne)
  unfold itemR
  rw [hab, h1 _ 0 (by omega), h2 _ 0 (by omega), decide_eq_true (by omega)]
  rfl
theorem goodI_len {x : S33} (h : goodI x) : x.f1.length ≤ 60 := by
  unfold goodI itemR at h
  rw [Bool.and_eq_true, Bool.and_eq_true, Bool.and_eq_true] at h
  have := of_decide_eq_true h.2.2.2
  omega
def dotN (i : Nat) : S31 := (⟨1 + ((i / 4 : Nat) : Int), 1 + ((i % 4 : Nat) : Int)⟩ : S31)
theorem dotN_less {i m : Nat} (h : i < m) : lessD (dotN i) (dotN m) = true := by
  unfold lessD dotLessR dotN
  dsimp only
  by_cases h1 : i / 4 < m / 4
  · rw [if_pos (by omega)]
  · rw [if_neg (by omega), if_pos (by omega)]
    exact decide_eq_true (by omega)
structure GoodG (m : Nat) (xs : List S33) : Prop where
  len : xs.length = m
  dots : ∀ i, i < m → dotX xs i = dotN i
  good : ∀ x ∈ xs, goodI x
  deps : ∀ x ∈ xs, ∀ d ∈ x.f1, ∃ j, j < 12 ∧ d = dotN j
theorem getE_dot {xs : List S33} {i : Nat} (hi : i < xs.length) : xs[i].f0 = dotX xs i := by
  unfold dotX
  rw [List.getD_eq_getElem?_getD, List.getElem?_eq_getElem hi]
  rfl
theorem GoodG.ascI {m : Nat} {xs : List S33} (h : GoodG m xs) : AscI xs := by
  unfold AscI
  rw [List.pairwise_iff_getElem]
  intro i j hi hj hij
  rw [getE_dot hi, getE_dot hj, h.dots i (by rw [← h.len]; exact hi), h.dots j (by rw [← h.len]; exact hj)]
  exact dotN_less hij
theorem GoodG.push {m : Nat} {xs : List S33} (h : GoodG m xs) (it : S33) (h0 : it.f0 = dotN m) (hg : goodI it) (hd : ∀ d ∈ it.f1, ∃ j, j < 12 ∧ d = dotN j) : GoodG (m + 1) (xs ++ [it]) := by
  refine ⟨by simp [h.len], fun i hi => ?_, fun x hx => ?_, fun x hx => ?_⟩
  · by_cases e : i < m
    · rw [← h.dots i e]
      unfold dotX
      rw [List.getD_eq_getElem?_getD, List.getD_eq_getElem?_getD, List.getElem?_append_left (by rw [h.len]; exact e)]
    · have e2 : i = xs.length := by rw [h.len]; omega
      unfold dotX
      rw [List.getD_eq_getElem?_getD, e2, List.getElem?_append_right (Nat.le_refl _), Nat.sub_self]
      show it.f0 = dotN xs.length
      rw [h0, h.len]
  · rcases List.mem_append.1 hx with hx | hx
    · exact h.good x hx
    · rw [List.mem_singleton.1 hx]; exact hg
  · rcases List.mem_append.1 hx with hx | hx
    · exact h.deps x hx
    · rw [List.mem_singleton.1 hx]; exact hd
theorem GoodG.put {m : Nat} {xs : List S33} (h : GoodG m xs) (hm : m < 12) (it : S33) (h0 : it.f0 = dotN m) (hg : goodI it) (hd : ∀ d ∈ it.f1, ∃ j, j < 12 ∧ d = dotN j) : Ev (fun k => spec_GraphPut.f k xs it.f0.f0 it.f0.f1 it.f1) (xs ++ [it], true) := by
  have h2 := h.push it h0 hg hd
  refine specPut_last xs (by rw [h.len]; omega) (fun x hx => goodI_len (h.good x hx)) it (goodI_len hg) (fun x hx => ?_) (specGraphOk_true _ (by rw [h2.len]; omega) h2.good (fun x hx => by have := goodI_len (h2.good x hx); omega) h2.ascI)
  obtain ⟨i, hi, rfl⟩ := List.getElem_of_mem hx
  rw [getE_dot hi, h0, h.dots i (by rw [← h.len]; exact hi)]
  exact dotN_less (by rw [← h.len]; exact hi)
structure DepInv (D : S31) (a b : Nat) (deps : List S31) : Prop where
  asc : Asc lessD deps
  all : ∀ x ∈ deps, x ≠ D ∧ 1 ≤ x.f0 ∧ x.f0 ≤ 3 ∧ 1 ≤ x.f1 ∧ x.f1 ≤ 4 ∧ (x.f0 < (a : Int) ∨ (x.f0 = (a : Int) ∧ x.f1 < (b : Int)))
  len : deps.length ≤ (a - 1) * 4 + (b - 1)
theorem full_comes (bs : List Int) (p i0 x0 : Int) (hb : bs.length ≤ 1048576) (hi0 : At bs i0) : Comes (fun r => GoodG 12 r.1) (fun k => spec_l8Full.l0 k p 1 bs i0 x0 []) := by
  have deps2 : ∀ (r n : Nat) (hl1 : ∀ (i x : Int) (it : S33) (g : List S33), At bs i → GoodG (4 * (r - 1) + n) g → Comes (fun r => GoodG 12 r.1) (fun k => spec_l8Full.l1 k p (r : Int) ((n + 1 : Nat) : Int) bs i x g)), 1 ≤ r → r ≤ 3 → 1 ≤ n → n ≤ 4 → ∀ (g : List S33), GoodG (4 * (r - 1) + (n - 1)) g →
      ∀ (e a : Nat), a + e = 4 → 1 ≤ a → ∀ (i x : Int) (deps : List S31), At bs i → DepInv (⟨(r : Int), (n : Int)⟩ : S31) a 1 deps → Comes (fun r => GoodG 12 r.1) (fun k => spec_l8Full.l2 k p (r : Int) (n : Int) (a : Int) bs i x g (r : Int) (n : Int) deps) := by
    intro r n hl1 hr1 hr3 hn1 hn4 g hg e
    induction e with
    | zero =>
      intro a ha _ i x deps hi hd
      refine Comes.step (fun k => spec_l8Full.l2.eq_2 ..) ?_
      have e1 : ((a : Int) < 4) = False := eq_false (by omega)
      have ew : wrap64 ((n : Int) + 1) = ((n + 1 : Nat) : Int) := by rw [wrap_id (by omega) (by omega)]; omega
      simp only [e1, if_false, ew]
      have hD : (⟨(r : Int), (n : Int)⟩ : S31) = dotN (4 * (r - 1) + (n - 1)) := by
        unfold dotN
        have h1 : (4 * (r - 1) + (n - 1)) / 4 = r - 1 := by omega
        have h2 : (4 * (r - 1) + (n - 1)) % 4 = n - 1 := by omega
        rw [h1, h2]
        have h3 : 1 + ((r - 1 : Nat) : Int) = (r : Int) := by omega
        have h4 : 1 + ((n - 1 : Nat) : Int) = (n : Int) := by omega
        rw [h3, h4]
      have hok : ∀ x y : Int, 1 ≤ x → x ≤ 3 → 1 ≤ y → y ≤ 4 → dotOkR x y = true := fun x y h1 h2 h3 h4 => by
        unfold dotOkR
        rw [decide_eq_true h1, decide_eq_true (show x ≤ 7 by omega), decide_eq_true h3, decide_eq_true (show y ≤ 999 by omega)]
        rfl
      have hgood : goodI (⟨(⟨(r : Int), (n : Int)⟩ : S31), deps⟩ : S33) := item_good _ _ _ (hok (r : Int) (n : Int) (by omega) (by omega) (by omega) (by omega)) hd.asc (fun x hx => by
        obtain ⟨_, h1, h2, h3, h4, _⟩ := hd.all x hx
        exact hok _ _ h1 h2 h3 h4) (fun hm => (hd.all _ hm).1 rfl) (by have := hd.len; show deps.length ≤ 60; omega)
      have hdd : ∀ d ∈ deps, ∃ j, j < 12 ∧ d = dotN j := fun x hx => by
        obtain ⟨_, h1, h2, h3, h4, _⟩ := hd.all x hx
        refine ⟨(4 * (x.f0 - 1) + (x.f1 - 1)).toNat, by omega, ?_⟩
        obtain ⟨u, v⟩ := x
        dsimp only at h1 h2 h3 h4 ⊢
        unfold dotN
        have e1 : 1 + (((4 * (u - 1) + (v - 1)).toNat / 4 : Nat) : Int) = u := by omega
        have e2 : 1 + (((4 * (u - 1) + (v - 1)).toNat % 4 : Nat) : Int) = v := by omega
        rw [e1, e2]
      have hput := hg.put (by omega) (⟨(⟨(r : Int), (n : Int)⟩ : S31), deps⟩ : S33) hD hgood hdd
      have hpush := hg.push (⟨(⟨(r : Int), (n : Int)⟩ : S31), deps⟩ : S33) hD hgood hdd
      rw [show 4 * (r - 1) + (n - 1) + 1 = 4 * (r - 1) + n from by omega] at hpush
      refine Comes.bind (Q := fun q => q = (g ++ [(⟨(⟨(r : Int), (n : Int)⟩ : S31), deps⟩ : S33)], true)) ⟨_, rfl, hput⟩ (fun q hq => ?_)
      subst hq
      exact hl1 i x (⟨(⟨(r : Int), (n : Int)⟩ : S31), deps⟩ : S33) _ hi hpush
    | succ e ih =>
      intro a ha ha1 i x deps hi hd
      refine Comes.step (fun k => spec_l8Full.l2.eq_2 ..) ?_
      have e1 : ((a : Int) < 4) = True := eq_true (by omega)
      simp only [e1, if_true]
      have l3 : ∀ (d b : Nat), b + d = 5 → 1 ≤ b → ∀ (i x : Int) (deps : List S31), At bs i → DepInv (⟨(r : Int), (n : Int)⟩ : S31) a b deps → Comes (fun r => GoodG 12 r.1) (fun k => spec_l8Full.l3 k p (r : Int) (n : Int) (a : Int) (b : Int) bs i x g (r : Int) (n : Int) deps) := by
        intro d
        induction d with
        | zero =>
          intro b hb5 _ i x deps hi hd
          refine Comes.step (fun k => spec_l8Full.l3.eq_2 ..) ?_
          have e1 : ((b : Int) < 5) = False := eq_false (by omega)
          have ew : wrap64 ((a : Int) + 1) = ((a + 1 : Nat) : Int) := by rw [wrap_id (by omega) (by omega)]; omega
          simp only [e1, if_false, ew]
          refine ih (a + 1) (by omega) (by omega) i x deps hi ⟨hd.asc, fun y hy => ?_, by have := hd.len; omega⟩
          obtain ⟨h0, h1, h2, h3, h4, h5⟩ := hd.all y hy
          exact ⟨h0, h1, h2, h3, h4, .inl (by omega)⟩
        | succ d ihd =>
          intro b hb5 hb1 i x deps hi hd
          refine Comes.step (fun k => spec_l8Full.l3.eq_2 ..) ?_
          have e1 : ((b : Int) < 5) = True := eq_true (by omega)
          have ew : wrap64 ((b : Int) + 1) = ((b + 1 : Nat) : Int) := by rw [wrap_id (by omega) (by omega)]; omega
          have hlen := hd.len
          have e2 : (deps.length < 8796093022208) = True := eq_true (by omega)
          have mono : DepInv (⟨(r : Int), (n : Int)⟩ : S31) a (b + 1) deps := ⟨hd.asc, fun y hy => by
            obtain ⟨h0, h1, h2, h3, h4, h5⟩ := hd.all y hy
            exact ⟨h0, h1, h2, h3, h4, by omega⟩, by omega⟩
          have jf : ∀ i x, At bs i → Comes (fun r => GoodG 12 r.1) (fun k => spec_l8Full.j4 k p (r : Int) (n : Int) (a : Int) (b : Int) false bs i x g (r : Int) (n : Int) deps (a : Int) (b : Int)) := by
            intro i x hi
            refine Comes.step (fun k => spec_l8Full.j4.eq_2 ..) ?_
            simp only [Bool.false_eq_true, if_false, ew]
            exact ihd (b + 1) (by omega) (by omega) i x deps hi mono
          simp only [e1, if_true]
          refine Comes.ite (fun hne => ?_) (fun _ => jf i x hi)
          have hneD : (⟨(a : Int), (b : Int)⟩ : S31) ≠ (⟨(r : Int), (n : Int)⟩ : S31) := fun e => by
            injection e with e3 e4
            rw [e3, e4] at hne
            simp at hne
          obtain ⟨v, j, y, ev, hj⟩ := l1Once_some bs i x p hb hi
          simp only [ev, Option.bind_some]
          cases v with
          | false => exact jf j y hj
          | true =>
            refine Comes.step (fun k => spec_l8Full.j4.eq_2 ..) ?_
            simp only [if_true, e2, ew]
            refine ihd (b + 1) (by omega) (by omega) j y _ hj ⟨List.pairwise_append.2 ⟨hd.asc, by simp, fun u hu w hw => ?_⟩, fun u hu => ?_, by rw [List.length_append]; simp only [List.length_cons, List.length_nil]; omega⟩
            · obtain ⟨h0, h1, h2, h3, h4, h5⟩ := hd.all u hu
              rw [List.mem_singleton.1 hw]
              unfold lessD dotLessR
              dsimp only
              rcases h5 with h5 | ⟨h5, h6⟩
              · rw [if_pos h5]
              · rw [if_neg (by omega), if_pos h5]
                exact decide_eq_true h6
            · rcases List.mem_append.1 hu with hu | hu
              · obtain ⟨h0, h1, h2, h3, h4, h5⟩ := hd.all u hu
                exact ⟨h0, h1, h2, h3, h4, by omega⟩
              · rw [List.mem_singleton.1 hu]
                refine ⟨hneD, ?_, ?_, ?_, ?_, ?_⟩ <;> dsimp only <;> omega
      exact l3 4 1 (by omega) (by omega) i x deps hi hd
  have l0 : ∀ (e r : Nat), r + e = 4 → 1 ≤ r → ∀ (i x : Int) (g : List S33), At bs i → GoodG (4 * (r - 1)) g → Comes (fun r => GoodG 12 r.1) (fun k => spec_l8Full.l0 k p (r : Int) bs i x g) := by
    intro e
    induction e with
    | zero =>
      intro r hr _ i x g hi hg
      refine Comes.step (fun k => spec_l8Full.l0.eq_2 ..) ?_
      have e1 : ((r : Int) < 4) = False := eq_false (by omega)
      simp only [e1, if_false]
      refine Comes.ret _ ?_
      rw [show 4 * (r - 1) = 12 from by omega] at hg
      exact hg
    | succ e ih =>
      intro r hr hr1 i x g hi hg
      refine Comes.step (fun k => spec_l8Full.l0.eq_2 ..) ?_
      have e1 : ((r : Int) < 4) = True := eq_true (by omega)
      simp only [e1, if_true]
      have l1 : ∀ (d n : Nat), n + d = 5 → 1 ≤ n → ∀ (i x : Int) (g : List S33), At bs i → GoodG (4 * (r - 1) + (n - 1)) g → Comes (fun r => GoodG 12 r.1) (fun k => spec_l8Full.l1 k p (r : Int) (n : Int) bs i x g) := by
        intro d
        induction d with
        | zero =>
          intro n hn _ i x g hi hg
          refine Comes.step (fun k => spec_l8Full.l1.eq_2 ..) ?_
          have e1 : ((n : Int) < 5) = False := eq_false (by omega)
          have ew : wrap64 ((r : Int) + 1) = ((r + 1 : Nat) : Int) := by rw [wrap_id (by omega) (by omega)]; omega
          simp only [e1, if_false, ew]
          refine ih (r + 1) (by omega) (by omega) i x g hi ?_
          rw [show 4 * (r + 1 - 1) = 4 * (r - 1) + (n - 1) from by omega]
          exact hg
        | succ d ihn =>
          intro n hn hn1 i x g hi hg
          refine Comes.step (fun k => spec_l8Full.l1.eq_2 ..) ?_
          have e1 : ((n : Int) < 5) = True := eq_true (by omega)
          simp only [e1, if_true]
          refine deps2 r n (fun i x _ g hi hg => ihn (n + 1) (by omega) (by omega) i x g hi (by rw [show n + 1 - 1 = n from by omega]; exact hg)) hr1 (by omega) hn1 (by omega) g hg 3 1 (by omega) (by omega) i x [] hi ⟨by simp [Asc], by simp, by simp⟩
      exact l1 4 1 (by omega) (by omega) i x g hi (by rw [show 4 * (r - 1) + (1 - 1) = 4 * (r - 1) from by omega]; exact hg)
  exact l0 3 1 (by omega) (by omega) i0 x0 [] hi0 ⟨rfl, by simp, by simp, by simp⟩
theorem drawGraph_comes (b : List Int) (hb : b.length ≤ 1048576) : Comes (fun r => GoodG 12 r) (fun k => spec_DrawGraph.f k b) := by
  simp only [spec_DrawGraph.f, spec_l8Full.f]
  refine Comes.bind (l1New_comes b hb) (fun n hn => ?_)
  obtain ⟨n1, n2, n3⟩ := n
  dsimp only at hn
  obtain ⟨rfl, rfl⟩ := hn
  refine Comes.bind (Q := fun r => GoodG 12 r.1) ?_ (fun r hr => Comes.ret _ hr)
  obtain ⟨v, j, y, e, _, _, _, hj⟩ := l1Below_some n1 0 n3 6 hb ⟨by omega, by omega⟩
  simp only [e, Option.bind_some]
  exact full_comes n1 (wrap64 (2 + v)) j y hb hj

/-! The part drawn out of it -/
def placeI (l : List S31) (d : S31) : Int := if d ∈ l then ((l.idxOf d : Nat) : Int) else -1
theorem place_ev (l : List S31) (hl : l.length ≤ 1048576) (d : S31) : Ev (fun k => laws_place.f k l d.f0 d.f1) (placeI l d) := by
  have key : ∀ (n i : Nat), i + n = l.length → Ev (fun k => laws_place.l0 k l (i : Int) d.f0 d.f1) (if d ∈ l.drop i then ((i + (l.drop i).idxOf d : Nat) : Int) else -1) := by
    intro n
    induction n with
    | zero =>
      intro i hi
      rw [List.drop_of_length_le (by omega), if_neg (by simp)]
      refine Ev.ends (fun k => ?_)
      simp only [laws_place.l0]
      rw [if_neg (by omega)]
    | succ n ih =>
      intro i hi
      have hdr := drop_getD l i z31 (by omega)
      rw [show l.getD i z31 = rd_T31 l (i : Int) from rfl] at hdr
      by_cases he : rd_T31 l (i : Int) = d
      · rw [hdr, if_pos (by simp [he]), he, List.idxOf_cons_self]
        refine Ev.ends (fun k => ?_)
        simp only [laws_place.l0]
        rw [if_pos (by omega), if_pos (by omega), if_pos (dot_pos he)]
        rfl
      · have nx := ih (i + 1) (by omega)
        rw [hdr, idx_ne _ he]
        have hm : (d ∈ rd_T31 l (i : Int) :: l.drop (i + 1)) = (d ∈ l.drop (i + 1)) := propext ⟨fun h => (List.mem_cons.1 h).resolve_left (fun e => he e.symm), fun h => List.mem_cons.2 (.inr h)⟩
        simp only [hm]
        rw [show i + ((l.drop (i + 1)).idxOf d + 1) = i + 1 + (l.drop (i + 1)).idxOf d from by omega]
        refine Ev.step (fun k => ?_) nx
        simp only [laws_place.l0]
        rw [if_pos (by omega), if_pos (by omega), if_neg (dot_neg he), wrap_succ (n := l.length) (by omega) (by omega)]
  have := key l.length 0 (by omega)
  rw [List.drop_zero, Nat.zero_add] at this
  exact this
theorem Rch.mono {D : Type} [DecidableEq D] {loc1 loc2 : D → Option Nat} {d1 d2 : Nat → List D} (P : D → Prop) (h : ∀ b i, P b → loc1 b = some i → ∃ j, loc2 b = some j ∧ d2 j = d1 i) (hP : ∀ b i, P b → loc1 b = some i → ∀ c ∈ d1 i, P c) {a b : D} (r : Rch loc1 d1 a b) (pa : P a) : Rch loc2 d2 a b ∧ P b := by
  induction r with
  | one h1 hm =>
    obtain ⟨j, h2, e⟩ := h _ _ pa h1
    exact ⟨.one h2 (by rw [e]; exact hm), hP _ _ pa h1 _ hm⟩
  | more _ h1 hm ih =>
    obtain ⟨j, h2, e⟩ := h _ _ ih.2 h1
    exact ⟨.more ih.1 h2 (by rw [e]; exact hm), hP _ _ ih.2 h1 _ hm⟩
structure PartInv (g : List S33) (don todo : List S31) (part : List S33) : Prop where
  nd : (don ++ todo).Nodup
  inG : ∀ d ∈ don ++ todo, ∃ i, i < g.length ∧ dotX g i = d
  asc : AscI part
  len : part.length = don.length
  there : ∀ d ∈ don, ∃ x ∈ part, x.f0 = d
  sub : ∀ x ∈ part, x ∈ g ∧ x.f0 ∈ don
  closed : ∀ x ∈ part, ∀ d ∈ x.f1, d ∈ don ++ todo
theorem getE_mem {g : List S33} {x : S33} (h : x ∈ g) : ∃ i, i < g.length ∧ g.getD i z33 = x := by
  obtain ⟨i, hi, e⟩ := List.getElem_of_mem h
  refine ⟨i, hi, ?_⟩
  rw [List.getD_eq_getElem?_getD, List.getElem?_eq_getElem hi]
  exact e
theorem PartInv.qlen {g : List S33} {don todo : List S31} {part : List S33} (h : PartInv g don todo part) : (don ++ todo).length ≤ g.length := by
  have := nodup_len (don ++ todo) (dotsX g) h.nd (fun x hx => by
    obtain ⟨i, hi, e⟩ := h.inG x hx
    exact List.mem_map.2 ⟨i, by simpa using hi, e⟩)
  simpa [dotsX] using this
theorem PartInv.full {g : List S33} {don : List S31} {part : List S33} (h : PartInv g don [] part) : Full part := by
  refine ⟨h.asc.toAsc, fun i hi x hx => ?_⟩
  have hm := h.closed _ (getI_mem hi) x hx
  rw [List.append_nil] at hm
  obtain ⟨y, hy, e⟩ := h.there x hm
  obtain ⟨j, hj, ej⟩ := getE_mem hy
  refine ⟨j, ?_⟩
  rw [← e, ← ej]
  exact locX_dot h.asc.toAsc hj
/-- What the part knows of a dot is what the graph knows of it. -/
theorem PartInv.toG {g : List S33} {don todo : List S31} {part : List S33} (h : PartInv g don todo part) (hg : AscI g) {b : S31} {i : Nat} (hb : locX part b = some i) : ∃ j, locX g b = some j ∧ depX g j = depX part i := by
  obtain ⟨hi, e⟩ := locX_some hb
  obtain ⟨j, hj, ej⟩ := getE_mem (h.sub _ (getI_mem hi)).1
  refine ⟨j, ?_, by unfold depX; rw [ej]⟩
  have := locX_dot hg.toAsc hj
  unfold dotX at this e
  rw [ej, e] at this
  exact this
theorem PartInv.ofG {g : List S33} {don todo : List S31} {part : List S33} (h : PartInv g don todo part) (hg : AscI g) {b : S31} {j : Nat} (hd : b ∈ don) (hb : locX g b = some j) : ∃ i, locX part b = some i ∧ depX part i = depX g j := by
  obtain ⟨y, hy, e⟩ := h.there b hd
  obtain ⟨i, hi, ei⟩ := getE_mem hy
  have h1 : locX part b = some i := by
    rw [← e, ← ei]
    exact locX_dot h.asc.toAsc hi
  obtain ⟨j', h2, h3⟩ := h.toG hg h1
  rw [hb] at h2
  injection h2 with h2
  subst h2
  exact ⟨i, h1, h3.symm⟩
theorem PartInv.reach {g : List S33} {don : List S31} {part : List S33} (h : PartInv g don [] part) (hg : AscI g) {a b : S31} (ha : a ∈ don) : RX part a b ↔ RX g a b := by
  constructor
  · intro r
    exact (Rch.mono (fun _ => True) (fun b i _ hb => h.toG hg hb) (fun _ _ _ _ _ _ => trivial) r trivial).1
  · intro r
    refine (Rch.mono (fun d => d ∈ don) (fun b i hd hb => h.ofG hg hd hb) (fun b i hd hb c hc => ?_) r ha).1
    obtain ⟨i', h1, h2⟩ := h.ofG hg hd hb
    have := h.closed _ (getI_mem (locX_some h1).1) c (by
      show c ∈ depX part i'
      rw [h2]
      exact hc)
    simpa using this
/-- The next command is put. -/
theorem PartInv.put {g : List S33} {don todo : List S31} {part : List S33} (d : S31) (h : PartInv g don (d :: todo) part) {x : S33} (hx : x ∈ g) (hd : x.f0 = d) : locX part d = none ∧ AscI (insI x part) ∧ (∀ y ∈ insI x part, y ∈ g) := by
  have hdn : d ∉ don := fun hm => (List.nodup_append.1 h.nd).2.2 d hm d (by simp) rfl
  refine ⟨?_, insI_asc x part h.asc (fun y hy e => hdn (by rw [← hd, ← e]; exact (h.sub y hy).2)), fun y hy => ?_⟩
  · cases e : locX part d with
    | none => rfl
    | some i =>
      obtain ⟨hi, e2⟩ := locX_some e
      exact absurd (by rw [← e2]; exact (h.sub _ (getI_mem hi)).2) hdn
  · rcases (mem_insI x part y).1 hy with rfl | hy
    · exact hx
    · exact (h.sub y hy).1
/-- Its needs are queued. -/
structure QInv (g : List S33) (don : List S31) (d : S31) (todo : List S31) (x : S33) (part : List S33) (m : Nat) : Prop where
  nd : (don ++ d :: todo).Nodup
  inG : ∀ d' ∈ don ++ d :: todo, ∃ i, i < g.length ∧ dotX g i = d'
  asc : AscI (insI x part)
  len : part.length = don.length
  there : ∀ d' ∈ don, ∃ y ∈ part, y.f0 = d'
  sub : ∀ y ∈ part, y ∈ g ∧ y.f0 ∈ don
  closed : ∀ y ∈ part, ∀ d' ∈ y.f1, d' ∈ don ++ d :: todo
  took : ∀ d' ∈ x.f1.take m, d' ∈ don ++ d :: todo
theorem QInv.done {g : List S33} {don todo : List S31} {d : S31} {x : S33} {part : List S33} (h : QInv g don d todo x part x.f1.length) (hx : x ∈ g) (hd : x.f0 = d) : PartInv g (don ++ [d]) todo (insI x part) := by
  have hq : don ++ [d] ++ todo = don ++ d :: todo := by simp
  refine ⟨by rw [hq]; exact h.nd, by rw [hq]; exact h.inG, h.asc, by rw [insI_length, h.len]; simp, fun d' hm => ?_, fun y hy => ?_, fun y hy d' hm => ?_⟩
  · rcases List.mem_append.1 hm with hm | hm
    · obtain ⟨y, hy, e⟩ := h.there d' hm
      exact ⟨y, (mem_insI x part y).2 (.inr hy), e⟩
    · exact ⟨x, (mem_insI x part x).2 (.inl rfl), by rw [List.mem_singleton.1 hm]; exact hd⟩
  · rcases (mem_insI x part y).1 hy with rfl | hy
    · exact ⟨hx, by simp [hd]⟩
    · exact ⟨(h.sub y hy).1, List.mem_append.2 (.inl (h.sub y hy).2)⟩
  · rw [hq]
    rcases (mem_insI x part y).1 hy with rfl | hy
    · exact h.took d' (by rw [List.take_length]; exact hm)
    · exact h.closed y hy d' hm
theorem QInv.len_le {g : List S33} {don todo : List S31} {d : S31} {x : S33} {part : List S33} {m : Nat} (h : QInv g don d todo x part m) : (don ++ d :: todo).length ≤ g.length := by
  have := nodup_len (don ++ d :: todo) (dotsX g) h.nd (fun x hx => by
    obtain ⟨i, hi, e⟩ := h.inG x hx
    exact List.mem_map.2 ⟨i, by simpa using hi, e⟩)
  simpa [dotsX] using this
theorem rd_mid (don : List S31) (d : S31) (todo : List S31) : rd_T31 (don ++ d :: todo) (don.length : Int) = d := by
  show (don ++ d :: todo).getD don.length z31 = d
  rw [List.getD_eq_getElem?_getD, List.getElem?_append_right (Nat.le_refl _), Nat.sub_self]
  rfl

/-! Both orders agree -/
theorem getDot_mem {l : List S31} {m : Nat} (h : m < l.length) : rd_T31 l (m : Int) ∈ l := by
  show l.getD m z31 ∈ l
  rw [List.getD_eq_getElem?_getD, List.getElem?_eq_getElem h]
  exact List.getElem_mem _
structure OkG (g : List S33) : Prop where
  len : g.length ≤ 99
  good : ∀ x ∈ g, goodI x
  asc : AscI g
  full : Full g
theorem OkG.part {g : List S33} (hg : OkG g) {p : List S33} (hl : p.length ≤ 99) (ha : AscI p) (hs : ∀ y ∈ p, y ∈ g) : Ev (fun k => impl_GraphOk.f k p) true := implGraphOk_true p (by omega) (fun y hy => hg.good y (hs y hy)) ha
theorem order_ev (p : List S33) (hl : p.length ≤ 99) (hgd : ∀ x ∈ p, goodI x) (ha : AscI p) (hf : Full p) : Ev (fun k => impl_OrderOf.f k p) (orderR p true) := implOrder_ev p (by omega) (fun x hx => by have := goodI_len (hgd x hx); omega) true (fun _ => hf.asc) (implGraphOk_true p (by omega) hgd ha)
theorem less_iff {g : List S33} (hf : Full g) {i : Nat} (hi : i < g.length) {x : S31} (hx : x ∈ depX g i) : placeI (orderR g true) (dotX g i) < placeI (orderR g true) x ↔ RX g x (dotX g i) ∧ lessD (dotX g i) x = true := by
  obtain ⟨h1, h2, _⟩ := order_full hf
  obtain ⟨h3, h4⟩ := h1.ord i hi (h2 i hi) x hx
  unfold placeI
  rw [if_pos (h2 i hi), if_pos h3, Int.ofNat_lt]
  exact h4
theorem stable_end {g : List S33} (hg : OkG g) {don : List S31} {part : List S33} (h : PartInv g don [] part) : Ev (fun k => (impl_OrderOf.f k part).bind fun t447 => (if (t447.length : Int) = (part.length : Int) then (laws_FnStable.l3 k (orderR g true) t447 0 part) else (some false))) true := by
  have hq := h.qlen
  rw [List.append_nil] at hq
  have hl := h.len
  have hg99 := hg.len
  have hfp := h.full
  have hgp : ∀ x ∈ part, goodI x := fun x hx => hg.good x (h.sub x hx).1
  obtain ⟨_, _, ol⟩ := order_full hfp
  obtain ⟨_, _, ol0⟩ := order_full hg.full
  refine Ev.bind' (order_ev part (by omega) hgp h.asc hfp) ?_
  simp only [ol, if_true]
  have l4 : ∀ (i : Nat), i < part.length → (Ev (fun k => laws_FnStable.l3 k (orderR g true) (orderR part true) ((i + 1 : Nat) : Int) part) true) → ∀ (d m : Nat), m + d = (depX part i).length → Ev (fun k => laws_FnStable.l4 k (orderR g true) (orderR part true) (i : Int) (m : Int) part (dotX part i).f0 (dotX part i).f1) true := by
    intro i hi hnx d
    have hd60 : (depX part i).length ≤ 60 := goodI_len (hgp _ (getI_mem hi))
    induction d with
    | zero =>
      intro m hm
      refine Ev.step (fun k => ?_) hnx
      simp only [laws_FnStable.l4]
      rw [if_pos (by omega), if_pos (by omega), if_neg (by show ¬ ((m : Int) < ((depX part i).length : Int)); omega), wrap_succ (n := part.length) (by omega) (by omega)]
    | succ d ih =>
      intro m hm
      have hx : rd_T31 (depX part i) (m : Int) ∈ depX part i := getDot_mem (by omega)
      obtain ⟨K1, e1⟩ := place_ev (orderR g true) (by omega) (dotX part i)
      obtain ⟨K2, e2⟩ := place_ev (orderR g true) (by omega) (rd_T31 (depX part i) (m : Int))
      obtain ⟨K3, e3⟩ := place_ev (orderR part true) (by omega) (dotX part i)
      obtain ⟨K4, e4⟩ := place_ev (orderR part true) (by omega) (rd_T31 (depX part i) (m : Int))
      dsimp only at e1 e2 e3 e4
      have hsame : decide (placeI (orderR g true) (dotX part i) < placeI (orderR g true) (rd_T31 (depX part i) (m : Int))) = decide (placeI (orderR part true) (dotX part i) < placeI (orderR part true) (rd_T31 (depX part i) (m : Int))) := by
        obtain ⟨j, hj, ej⟩ := h.toG hg.asc (locX_dot hfp.asc hi)
        obtain ⟨hj1, hj2⟩ := locX_some hj
        have a1 := less_iff hg.full hj1 (x := rd_T31 (depX part i) (m : Int)) (by rw [ej]; exact hx)
        have a2 := less_iff hfp hi hx
        rw [hj2] at a1
        have hdn : rd_T31 (depX part i) (m : Int) ∈ don := by
          have := h.closed _ (getI_mem hi) _ hx
          simpa using this
        rw [h.reach hg.asc hdn] at a2
        exact decide_eq_decide.2 (a1.trans a2.symm)
      refine Ev.round (f := fun k => laws_FnStable.l4 k (orderR g true) (orderR part true) (i : Int) ((m + 1 : Nat) : Int) part (dotX part i).f0 (dotX part i).f1) ⟨K1 + K2 + K3 + K4, fun k hk => ?_⟩ (ih (m + 1) (by omega))
      simp only [laws_FnStable.l4]
      rw [if_pos (by omega), if_pos (by omega), if_pos (by show ((m : Int) < ((depX part i).length : Int)); omega), if_pos (by omega), e1 k (by omega), Option.bind_some]
      rw [show laws_place.f k (orderR g true) (rd_T31 (rd_T33 part (i : Int)).f1 (m : Int)).f0 (rd_T31 (rd_T33 part (i : Int)).f1 (m : Int)).f1 = _ from e2 k (by omega), Option.bind_some, e3 k (by omega), Option.bind_some]
      rw [show laws_place.f k (orderR part true) (rd_T31 (rd_T33 part (i : Int)).f1 (m : Int)).f0 (rd_T31 (rd_T33 part (i : Int)).f1 (m : Int)).f1 = _ from e4 k (by omega), Option.bind_some, hsame]
      rw [if_neg (by simp), wrap_succ (n := 60) (by omega) (by omega)]
  have l3 : ∀ (d i : Nat), i + d = part.length → Ev (fun k => laws_FnStable.l3 k (orderR g true) (orderR part true) (i : Int) part) true := by
    intro d
    induction d with
    | zero =>
      intro i hi
      refine Ev.ends (fun k => ?_)
      simp only [laws_FnStable.l3]
      rw [if_neg (by omega)]
    | succ d ih =>
      intro i hi
      refine Ev.step (f := fun k => laws_FnStable.l4 k (orderR g true) (orderR part true) (i : Int) ((0 : Nat) : Int) part (dotX part i).f0 (dotX part i).f1) (fun k => ?_) (l4 i (by omega) (ih (i + 1) (by omega)) (depX part i).length 0 (by omega))
      simp only [laws_FnStable.l3]
      rw [if_pos (by omega), if_pos (by omega)]
      rfl
  exact l3 part.length 0 (by omega)
theorem stable_l0 {g : List S33} (hg : OkG g) : ∀ (e : Nat) (don todo : List S31) (part : List S33), don.length + e = g.length → PartInv g don todo part → Ev (fun k => laws_FnStable.l0 k (orderR g true) (don ++ todo) (don.length : Int) g part) true := by
  have hg99 := hg.len
  intro e
  induction e with
  | zero =>
    intro don todo part he h
    have hq := h.qlen
    rw [List.length_append] at hq
    have ht : todo = [] := List.eq_nil_of_length_eq_zero (by omega)
    subst ht
    refine Ev.step (fun k => ?_) (stable_end hg h)
    simp only [laws_FnStable.l0]
    rw [if_neg (by rw [List.append_nil]; omega)]
  | succ e ih =>
    intro don todo part he h
    cases todo with
    | nil =>
      refine Ev.step (fun k => ?_) (stable_end hg h)
      simp only [laws_FnStable.l0]
      rw [if_neg (by rw [List.append_nil]; omega)]
    | cons d todo =>
      obtain ⟨i, hi, hdi⟩ := h.inG d (by simp)
      have hx : g.getD i z33 ∈ g := getI_mem hi
      obtain ⟨p1, p2, p3⟩ := h.put d hx hdi
      have hxl := goodI_len (hg.good _ hx)
      -- behind the place
      have after : ∀ (n j : Nat), j + n = g.length → i < j → ∀ (todo' : List S31), QInv g don d todo' (g.getD i z33) part (g.getD i z33).f1.length → Ev (fun k => laws_FnStable.l1 k (orderR g true) (don ++ d :: todo') (don.length : Int) (j : Int) g (insI (g.getD i z33) part)) true := by
        intro n
        induction n with
        | zero =>
          intro j hj _ todo' hQ
          have nx := ih (don ++ [d]) todo' _ (by rw [List.length_append]; simp only [List.length_cons, List.length_nil]; omega) (hQ.done hx hdi)
          rw [show don ++ [d] ++ todo' = don ++ d :: todo' from by simp, show (don ++ [d]).length = don.length + 1 from by simp] at nx
          refine Ev.step (fun k => ?_) nx
          simp only [laws_FnStable.l1]
          rw [if_neg (by omega), wrap_succ (n := g.length) (by omega) (by omega)]
        | succ n ihn =>
          intro j hj hij todo' hQ
          have hne : ¬ (dotX g j = d) := fun e => by
            have := dotX_inj hg.full.asc hi (show j < g.length by omega) (hdi.trans e.symm)
            omega
          have hl := hQ.len_le
          rw [List.length_append, List.length_cons] at hl
          refine Ev.step (fun k => ?_) (ihn (j + 1) (by omega) (by omega) todo' hQ)
          simp only [laws_FnStable.l1]
          rw [rd_mid, if_pos (by omega), if_pos (by omega), if_pos (by omega), if_pos (by rw [List.length_append, List.length_cons]; omega), if_pos (by
            rw [← Bool.not_and, Bool.not_eq_true']
            exact Bool.eq_false_iff.2 (dot_neg hne)), wrap_succ (n := g.length) (by omega) (by omega)]
      -- its needs
      have needs : ∀ (n m : Nat), m + n = (g.getD i z33).f1.length → ∀ (todo' : List S31), QInv g don d todo' (g.getD i z33) part m → Ev (fun k => laws_FnStable.l2 k (orderR g true) (don ++ d :: todo') (don.length : Int) (i : Int) (m : Int) g (insI (g.getD i z33) part)) true := by
        intro n
        induction n with
        | zero =>
          intro m hm todo' hQ
          have hm' : m = (g.getD i z33).f1.length := by omega
          subst hm'
          refine Ev.step (fun k => ?_) (after (g.length - (i + 1)) (i + 1) (by omega) (by omega) todo' hQ)
          simp only [laws_FnStable.l2]
          rw [if_pos (by omega), if_pos (by omega), if_neg (by show ¬ ((((g.getD i z33).f1.length : Nat) : Int) < ((g.getD i z33).f1.length : Int)); omega), wrap_succ (n := g.length) (by omega) (by omega)]
        | succ n ihn =>
          intro m hm todo' hQ
          have hl := hQ.len_le
          have hx2 : rd_T31 (g.getD i z33).f1 (m : Int) ∈ (g.getD i z33).f1 := getDot_mem (by omega)
          have htk : (g.getD i z33).f1.take (m + 1) = (g.getD i z33).f1.take m ++ [rd_T31 (g.getD i z33).f1 (m : Int)] := take_succ_getD _ m z31 (by omega)
          obtain ⟨K1, e1⟩ := place_ev (don ++ d :: todo') (by omega) (rd_T31 (g.getD i z33).f1 (m : Int))
          dsimp only at e1
          by_cases hin : rd_T31 (g.getD i z33).f1 (m : Int) ∈ don ++ d :: todo'
          · refine Ev.round (f := fun k => laws_FnStable.l2 k (orderR g true) (don ++ d :: todo') (don.length : Int) (i : Int) ((m + 1 : Nat) : Int) g (insI (g.getD i z33) part)) ⟨K1, fun k hk => ?_⟩ (ihn (m + 1) (by omega) todo' ⟨hQ.nd, hQ.inG, hQ.asc, hQ.len, hQ.there, hQ.sub, hQ.closed, fun d' hd' => ?_⟩)
            · simp only [laws_FnStable.l2]
              rw [if_pos (by omega), if_pos (by omega), if_pos (by show (m : Int) < ((g.getD i z33).f1.length : Int); omega), if_pos (by omega)]
              rw [show laws_place.f k (don ++ d :: todo') (rd_T31 (rd_T33 g (i : Int)).f1 (m : Int)).f0 (rd_T31 (rd_T33 g (i : Int)).f1 (m : Int)).f1 = _ from e1 k (by omega), Option.bind_some]
              unfold placeI
              rw [if_pos hin, if_neg (by omega), wrap_succ (n := 60) (by omega) (by omega)]
            · rw [htk] at hd'
              rcases List.mem_append.1 hd' with h1 | h1
              · exact hQ.took d' h1
              · rw [List.mem_singleton.1 h1]; exact hin
          · have hq2 : don ++ d :: (todo' ++ [rd_T31 (g.getD i z33).f1 (m : Int)]) = (don ++ d :: todo') ++ [rd_T31 (g.getD i z33).f1 (m : Int)] := by simp
            have nx := ihn (m + 1) (by omega) (todo' ++ [rd_T31 (g.getD i z33).f1 (m : Int)]) ⟨by
              rw [hq2]
              exact List.nodup_append.2 ⟨hQ.nd, by simp, fun a ha b hb e => hin (by rw [← List.mem_singleton.1 hb, ← e]; exact ha)⟩, fun d' hd' => by
              rw [hq2] at hd'
              rcases List.mem_append.1 hd' with h1 | h1
              · exact hQ.inG d' h1
              · rw [List.mem_singleton.1 h1]
                obtain ⟨t, ht⟩ := hg.full.there i hi _ hx2
                obtain ⟨h2, h3⟩ := locX_some ht
                exact ⟨t, h2, h3⟩, hQ.asc, hQ.len, hQ.there, hQ.sub, fun y hy d' hd' => by rw [hq2]; exact List.mem_append.2 (.inl (hQ.closed y hy d' hd')), fun d' hd' => by
              rw [hq2]
              rw [htk] at hd'
              rcases List.mem_append.1 hd' with h1 | h1
              · exact List.mem_append.2 (.inl (hQ.took d' h1))
              · exact List.mem_append.2 (.inr h1)⟩
            rw [hq2] at nx
            refine Ev.round ⟨K1, fun k hk => ?_⟩ nx
            simp only [laws_FnStable.l2]
            rw [if_pos (by omega), if_pos (by omega), if_pos (by show (m : Int) < ((g.getD i z33).f1.length : Int); omega), if_pos (by omega)]
            rw [show laws_place.f k (don ++ d :: todo') (rd_T31 (rd_T33 g (i : Int)).f1 (m : Int)).f0 (rd_T31 (rd_T33 g (i : Int)).f1 (m : Int)).f1 = _ from e1 k (by omega), Option.bind_some]
            unfold placeI
            rw [if_neg hin, if_pos (by decide), if_pos (by omega), wrap_succ (n := 60) (by omega) (by omega)]
            rfl
      -- up to the place
      have before : ∀ (n j : Nat), j + n = i → Ev (fun k => laws_FnStable.l1 k (orderR g true) (don ++ d :: todo) (don.length : Int) (j : Int) g part) true := by
        have hl := h.qlen
        rw [List.length_append, List.length_cons] at hl
        intro n
        induction n with
        | zero =>
          intro j hj
          have hj' : j = i := by omega
          subst hj'
          have hp3 : ∀ y ∈ insI (g.getD j z33) part, y ∈ g := p3
          have hpl := h.len
          have hok := hg.part (p := insI (g.getD j z33) part) (by rw [insI_length]; omega) p2 hp3
          obtain ⟨K1, e1⟩ := graphPut_ev part (by omega) (fun x hx => goodI_len (hg.good x (h.sub x hx).1)) (g.getD j z33) hxl (by rw [show (g.getD j z33).f0 = d from hdi]; exact p1) hok
          dsimp only at e1
          refine Ev.round (f := fun k => laws_FnStable.l2 k (orderR g true) (don ++ d :: todo) (don.length : Int) (j : Int) ((0 : Nat) : Int) g (insI (g.getD j z33) part)) ⟨K1, fun k hk => ?_⟩ (needs (g.getD j z33).f1.length 0 (by omega) todo ⟨h.nd, h.inG, p2, h.len, h.there, h.sub, h.closed, by simp⟩)
          simp only [laws_FnStable.l1]
          rw [rd_mid, if_pos (by omega), if_pos (by omega), if_pos (by omega), if_pos (by rw [List.length_append, List.length_cons]; omega), if_neg (by
            rw [← Bool.not_and, Bool.not_eq_true', Bool.not_eq_false]
            exact dot_pos hdi)]
          rw [show impl_GraphPut.f k part (rd_T33 g (j : Int)).f0.f0 (rd_T33 g (j : Int)).f0.f1 (rd_T33 g (j : Int)).f1 = _ from e1 k (by omega), Option.bind_some, if_pos rfl]
          rfl
        | succ n ihn =>
          intro j hj
          have hne : ¬ (dotX g j = d) := fun e => by
            have := dotX_inj hg.full.asc hi (show j < g.length by omega) (hdi.trans e.symm)
            omega
          refine Ev.step (fun k => ?_) (ihn (j + 1) (by omega))
          simp only [laws_FnStable.l1]
          rw [rd_mid, if_pos (by omega), if_pos (by omega), if_pos (by omega), if_pos (by rw [List.length_append, List.length_cons]; omega), if_pos (by
            rw [← Bool.not_and, Bool.not_eq_true']
            exact Bool.eq_false_iff.2 (dot_neg hne)), wrap_succ (n := g.length) (by omega) (by omega)]
      refine Ev.step (fun k => ?_) (before i 0 (by omega))
      simp only [laws_FnStable.l0]
      rw [if_pos (by rw [List.length_append, List.length_cons]; omega)]
      rfl

def BytesIn (b : List Int) : Prop := ∀ i : Int, 0 ≤ rd b i ∧ rd b i ≤ 255
theorem bytesIn_of {b : List Int} (h : ∀ x ∈ b, (Lit.int .u8 x).wf = true) : BytesIn b := by
  intro i
  unfold rd
  rw [List.getD_eq_getElem?_getD]
  cases e : b[i.toNat]? with
  | none => simp
  | some x => exact wf_u8 (h x (List.mem_of_getElem? e))
theorem BytesIn.mem {b : List Int} (h : BytesIn b) : ∀ x ∈ b, 0 ≤ x ∧ x ≤ 255 := by
  intro x hx
  obtain ⟨i, hi, rfl⟩ := List.mem_iff_getElem.1 hx
  have := h (i : Int)
  simpa [rd, List.getD_eq_getElem?_getD, List.getElem?_eq_getElem hi] using this
theorem BytesIn.of_mem {b : List Int} (h : ∀ x ∈ b, 0 ≤ x ∧ x ≤ 255) : BytesIn b := by
  intro i
  unfold rd
  rw [List.getD_eq_getElem?_getD]
  cases e : b[i.toNat]? with
  | none => simp
  | some x => exact h x (List.mem_of_getElem? e)
theorem BytesIn.nat {b : List Int} (h : BytesIn b) : ∀ x ∈ b, x.toNat < 4294967296 := fun x hx => by have := h.mem x hx; omega
theorem drop_cons_rd {b : List Int} {i : Nat} (h : i < b.length) : b.drop i = rd b (i : Int) :: b.drop (i + 1) := by
  rw [List.drop_eq_getElem_cons h, rd_nat, List.getD_eq_getElem?_getD, List.getElem?_eq_getElem h]
  rfl

theorem at_some (b : List Int) (hb : BytesIn b) (hn : b.length ≤ 1048576) (i : Nat) (hi : i ≤ 1000) : ∃ t, laws_at.f b (i : Int) = some t ∧ 0 ≤ t ∧ t ≤ 255 := by
  have c := hb (i : Int)
  unfold laws_at.f
  by_cases h : (i : Int) < (b.length : Int)
  · rw [if_pos h, if_pos (by omega), wrap_id (by omega) (by omega)]
    exact ⟨_, rfl, c.1, c.2⟩
  · rw [if_neg h]
    refine ⟨_, rfl, ?_⟩
    rw [wrap_id (i := (i : Int) * 31) (by omega) (by omega), wrap_id (i := (b.length : Int) * 7) (by omega) (by omega), wrap_id (by omega) (by omega), Int.tmod_eq_emod_of_nonneg (by omega)]
    omega

theorem GoodG.okG {g : List S33} (h : GoodG 12 g) : OkG g := by
  refine ⟨by rw [h.len]; omega, h.good, h.ascI, ⟨h.ascI.toAsc, fun i hi x hx => ?_⟩⟩
  obtain ⟨j, hj, e⟩ := h.deps _ (getI_mem hi) x hx
  refine ⟨j, ?_⟩
  rw [e, ← h.dots j hj]
  exact locX_dot h.ascI.toAsc (by rw [h.len]; exact hj)
theorem FnStable : laws_FnStable.Pure := by
  intro b hb
  refine Comes.true_ ?_
  simp only [laws_FnStable.f, laws_big.f, Option.bind_some]
  refine Comes.ite (fun _ => Comes.ret true rfl) (fun hn => ?_)
  have hlb : b.length ≤ 1048576 := by
    have : ¬ ((b.length : Int) > 1048576) := by simpa using hn
    omega
  have hB := bytesIn_of hb.2
  refine Comes.bind (drawGraph_comes b hlb) (fun g hg0 => ?_)
  have hg := hg0.okG
  have hl := hg0.len
  refine Comes.bind (Q := fun r => r = orderR g true) ⟨_, rfl, order_ev g (by omega) hg.good hg.asc hg.full⟩ (fun r hr => ?_)
  subst hr
  obtain ⟨_, _, ol⟩ := order_full hg.full
  simp only [ol, hl, if_true]
  refine Comes.step (fun k => laws_FnStable.j0.eq_2 ..) ?_
  obtain ⟨t2, e2, a0, a1⟩ := at_some b hB hlb 2 (by omega)
  have m0 := Int.emod_nonneg t2 (show (12 : Int) ≠ 0 by omega)
  have m1 := Int.emod_lt_of_pos t2 (show 0 < (12 : Int) by omega)
  have htm : Int.tmod t2 ((12 : Nat) : Int) = t2 % 12 := Int.tmod_eq_emod_of_nonneg (by omega)
  have hc : (((12 : Nat) : Int) = 0) = False := eq_false (by omega)
  have hc1 : (((12 : Nat) : Int) == 0) = false := by decide
  have hq0 : (0 ≤ t2 % 12) = True := eq_true m0
  have hq1 : (t2 % 12 < ((12 : Nat) : Int)) = True := eq_true (by omega)
  obtain ⟨q, hq⟩ : ∃ q : Nat, t2 % 12 = (q : Int) := ⟨(t2 % 12).toNat, by omega⟩
  simp only [hc1, Bool.false_eq_true, if_false, show laws_at.f b 2 = some t2 from e2, Option.bind_some, hl, htm, hc, hq0, hq1, if_true]
  rw [hq]
  refine ⟨true, rfl, ?_⟩
  have := stable_l0 hg 12 [] [dotX g q] [] (by rw [hl]; rfl) ⟨by simp, fun d hd => ⟨q, by omega, (by simpa using hd : d = dotX g q).symm⟩, by simp [AscI], rfl, by simp, by simp, by simp⟩
  exact this

end Go.Proofs.Ytgbejjeephipeaa.MPureFnStable
