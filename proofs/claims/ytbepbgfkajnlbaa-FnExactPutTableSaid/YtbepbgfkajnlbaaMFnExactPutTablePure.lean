/- PutTable of the program and of the reference answer the same, for all pairs; what it answers is new memory. No condition. -/
import Derived.Test.YtbepbgfkajnlbaaMFnExactPutTableDef
import Derived.Laws.Closers25b
set_option linter.unusedVariables false
set_option linter.unusedSimpArgs false
namespace Go.Proofs.Ytbepbgfkajnlbaa.MPureFnExactPutTable
open Go.RowKit Go.Proofs.Ytbepbgfkajnlbaa.MFnExactPutTable Go.Proofs.YtbepbgfkajnlbaaW.PrintWords Go.Proofs.YtbepbgfkajnlbaaW.PrintLast Go.Proofs.YtbepbgfkajnlbaaW.PrintMore

theorem wrap_id {i : Int} (h0 : -9223372036854775808 ≤ i) (h1 : i ≤ 9223372036854775807) : wrap64 i = i := by unfold wrap64; omega
theorem wrap_succ {i n : Nat} (h : i < n) (hn : n ≤ 9223372036854775807) : wrap64 ((i : Int) + 1) = ((i + 1 : Nat) : Int) := by unfold wrap64; omega
theorem rd_nat (xs : List Int) (i : Nat) : rd xs (i : Int) = xs.getD i 0 := by simp [rd]
theorem take_set_succ {α : Type} (l : List α) (i : Nat) (x : α) (h : i < l.length) : (l.set i x).take (i + 1) = l.take i ++ [x] := by
  rw [List.take_succ_eq_append_getElem (by simpa using h), List.getElem_set_self, List.take_set_of_le (Nat.le_refl _)]
theorem take_succ_getD {α : Type} (l : List α) (i : Nat) (d : α) (h : i < l.length) : l.take (i + 1) = l.take i ++ [l.getD i d] := by
  rw [List.take_succ_eq_append_getElem h, List.getD_eq_getElem?_getD, List.getElem?_eq_getElem h]
  rfl
theorem take_all {α : Type} {l m : List α} {n : Nat} (h : l.take n = m) (hl : l.length = n) : l = m := by
  rw [← h, ← hl, List.take_length]
theorem wf_u8 {x : Int} (h : (Lit.int .u8 x).wf = true) : 0 ≤ x ∧ x ≤ 255 := by
  simp [Lit.wf, IntKind.min, IntKind.max, IntKind.signed, IntKind.bits] at h
  omega
theorem wf_i64 {x : Int} (h : (Lit.int .i64 x).wf = true) : -9223372036854775808 ≤ x ∧ x ≤ 9223372036854775807 := by
  simp [Lit.wf, IntKind.min, IntKind.max, IntKind.signed, IntKind.bits] at h
  omega

theorem fill_loop {β : Type} (L : Nat → List β → Int → Option (List β)) (n : Nat) (g : Nat → β) (z : β)
    (hs : ∀ (i : Nat) (out : List β) (r : List β), i < n → out.length = n → Ev (fun k => L k (out.set i (g i)) ((i + 1 : Nat) : Int)) r → Ev (fun k => L k out (i : Int)) r)
    (he : ∀ out : List β, out.length = n → Ev (fun k => L k out (n : Int)) out) : Ev (fun k => L k (List.replicate n z) 0) ((List.range n).map g) := by
  have key : ∀ (d i : Nat) (out : List β), i + d = n → out.length = n → out.take i = (List.range i).map g → Ev (fun k => L k out (i : Int)) ((List.range n).map g) := by
    intro d
    induction d with
    | zero =>
      intro i out hi hl ht
      have : i = n := by omega
      subst this
      have e := take_all ht hl
      rw [← e]
      exact he out hl
    | succ d ih =>
      intro i out hi hl ht
      refine hs i out _ (by omega) hl (ih (i + 1) _ (by omega) (by simp [hl]) ?_)
      rw [take_set_succ _ _ _ (by omega), ht, List.range_succ, List.map_append]
      rfl
  exact key n 0 _ (by omega) (by simp) (by simp)
/-- A row that is written from the left: element i becomes g i, and a state goes along. -/
theorem mark_loop {β σ : Type} (L : Nat → List β → σ → Int → Option (σ × List β)) (n : Nat) (g : Nat → β) (st : Nat → σ)
    (hs : ∀ (i : Nat) (out : List β) (r : σ × List β), i < n → out.length = n → Ev (fun k => L k (out.set i (g i)) (st (i + 1)) ((i + 1 : Nat) : Int)) r → Ev (fun k => L k out (st i) (i : Int)) r)
    (he : ∀ out : List β, out.length = n → Ev (fun k => L k out (st n) (n : Int)) (st n, out)) (l : List β) (hl : l.length = n) : Ev (fun k => L k l (st 0) 0) (st n, (List.range n).map g) := by
  have key : ∀ (d i : Nat) (out : List β), i + d = n → out.length = n → out.take i = (List.range i).map g → Ev (fun k => L k out (st i) (i : Int)) (st n, (List.range n).map g) := by
    intro d
    induction d with
    | zero =>
      intro i out hi hl ht
      have : i = n := by omega
      subst this
      have e := take_all ht hl
      rw [← e]
      exact he out hl
    | succ d ih =>
      intro i out hi hl ht
      refine hs i out _ (by omega) hl (ih (i + 1) _ (by omega) (by simp [hl]) ?_)
      rw [take_set_succ _ _ _ (by omega), ht, List.range_succ, List.map_append]
      rfl
  exact key n 0 _ (by omega) hl (by simp)
theorem scan_loop {ρ : Type} (g : Nat → Nat → Option ρ) (n : Nat) (r : ρ) (hs : ∀ i, i < n → Ev (g (i + 1)) r → Ev (g i) r) (he : Ev (g n) r) : Ev (g 0) r := by
  have key : ∀ (d i : Nat), i + d = n → Ev (g i) r := by
    intro d
    induction d with
    | zero => intro i hi; have : i = n := by omega
              subst this; exact he
    | succ d ih => intro i hi; exact hs i (by omega) (ih (i + 1) (by omega))
  exact key n 0 (by omega)
theorem range_map_get {α β : Type} (l : List α) (f : α → β) (d : α) : (List.range l.length).map (fun i => f (l.getD i d)) = l.map f := by
  apply List.ext_getElem?
  intro i
  rw [List.getElem?_map, List.getElem?_map]
  by_cases h : i < l.length
  · simp [h, List.getD_eq_getElem?_getD]
  · rw [List.getElem?_eq_none (by simp; omega), List.getElem?_eq_none (by omega)]
    rfl
theorem range_map_getD {β : Type} (n i : Nat) (g : Nat → β) (d : β) (h : i < n) : ((List.range n).map g).getD i d = g i := by
  simp [List.getD_eq_getElem?_getD, h]
theorem Ev.bind' {α β : Type} {g : Nat → Option α} {f : Nat → α → Option β} {a : α} {r : β} (h : Ev g a) (k : Ev (fun n => f n a) r) : Ev (fun n => (g n).bind (f n)) r := Ev.bind h k
theorem Ev.cond {α : Type} {g f : Nat → Option α} {r : α} (h : ∃ K, ∀ k, K ≤ k → g k = f k) (k : Ev f r) : Ev g r := by
  obtain ⟨K, h⟩ := h
  obtain ⟨K', k⟩ := k
  exact ⟨K + K', fun n hn => by rw [h n (by omega)]; exact k n (by omega)⟩
/-- One round: at n + 1 it is what it is at n of another. -/
theorem Ev.round {α : Type} {g f : Nat → Option α} {r : α} (h : ∃ K, ∀ k, K ≤ k → g (k + 1) = f k) (k : Ev f r) : Ev g r := by
  obtain ⟨K, h⟩ := h
  obtain ⟨K', k⟩ := k
  exact ⟨K + K' + 1, fun n hn => by
    obtain ⟨m, rfl⟩ : ∃ m, n = m + 1 := ⟨n - 1, by omega⟩
    rw [h m (by omega)]; exact k m (by omega)⟩
theorem Ev.ends {α : Type} {g : Nat → Option α} {r : α} (h : ∀ k, g (k + 1) = some r) : Ev g r := ⟨1, fun n hn => by
  obtain ⟨m, rfl⟩ : ∃ m, n = m + 1 := ⟨n - 1, by omega⟩
  exact h m⟩
theorem Ev.all {α : Type} {g : Nat → Option α} {r : α} (h : ∀ k, g k = some r) : Ev g r := ⟨0, fun n _ => h n⟩

def toPair (x : S84) : S33 := (⟨x.f0, x.f1, x.f2⟩ : S33)
theorem toPairS_ev (l : List S84) (h : l.length ≤ 1048576) : Ev (fun k => laws_toPairS.f k l) (l.map toPair) := by
  have hf := fill_loop (fun k out i => laws_toPairS.l0 k l out i) l.length (fun i => toPair (l.getD i z84)) z33 (fun i out r hi hl h => ?_) (fun out hl => ?_)
  · rw [range_map_get] at hf
    refine Ev.congr (fun k => ?_) hf
    simp only [laws_toPairS.f]
    rw [if_pos (by omega), if_pos (by omega)]
    rfl
  · refine Ev.step (fun k => ?_) h
    simp only [laws_toPairS.l0, laws_toPair.f, Option.bind_some, rd_T84, Int.toNat_natCast]
    rw [if_pos (by omega), if_pos (by omega), if_pos (by omega), wrap_succ (n := l.length) hi (by omega)]
    rfl
  · refine Ev.ends (fun k => ?_)
    simp only [laws_toPairS.l0]
    rw [if_neg (by omega)]

theorem eqPair_self (x : S33) : laws_eqPair.f x.f0 x.f1 x.f2 x.f0 x.f1 x.f2 = some true := by
  simp [laws_eqPair.f]
theorem eqPairS_ev (l : List S33) (h : l.length ≤ 9223372036854775806) : Ev (fun k => laws_eqPairS.f k l l) true := by
  refine Ev.congr (fun k => ?_) (scan_loop (fun i k => laws_eqPairS.l0 k l l (i : Int)) l.length true (fun i hi h => ?_) ?_)
  · simp only [laws_eqPairS.f]
    rw [if_pos trivial]
    rfl
  · refine Ev.step (fun k => ?_) h
    simp only [laws_eqPairS.l0, eqPair_self, Option.bind_some]
    rw [if_pos (by omega), if_pos (by omega), if_pos (by omega), wrap_succ (n := l.length) hi (by omega)]
    rfl
  · refine Ev.ends (fun k => ?_)
    simp only [laws_eqPairS.l0]
    rw [if_neg (by omega)]

/-- Both come to one answer, of which P holds. -/
def Both {α : Type} (P : α → Prop) (f g : Nat → Option α) : Prop := ∃ r, P r ∧ Ev f r ∧ Ev g r
namespace Both
variable {α β : Type} {P : α → Prop} {f f' g g' : Nat → Option α}
theorem step (h1 : ∀ k, f (k + 1) = f' k) (h2 : ∀ k, g (k + 1) = g' k) (h : Both P f' g') : Both P f g := by
  obtain ⟨r, hp, a, b⟩ := h
  exact ⟨r, hp, Ev.step h1 a, Ev.step h2 b⟩
theorem left (h1 : ∀ k, f (k + 1) = f' k) (h : Both P f' g) : Both P f g := by
  obtain ⟨r, hp, a, b⟩ := h
  exact ⟨r, hp, Ev.step h1 a, b⟩
theorem right (h2 : ∀ k, g (k + 1) = g' k) (h : Both P f g') : Both P f g := by
  obtain ⟨r, hp, a, b⟩ := h
  exact ⟨r, hp, a, Ev.step h2 b⟩
theorem ret (r : α) (h : P r) : Both P (fun _ => some r) (fun _ => some r) := ⟨r, h, Ev.now r, Ev.now r⟩
theorem ite {c : Prop} [Decidable c] (h1 : c → Both P f g) (h2 : ¬ c → Both P f' g') : Both P (fun k => if c then f k else f' k) (fun k => if c then g k else g' k) := by
  by_cases h : c
  · simpa only [if_pos h] using h1 h
  · simpa only [if_neg h] using h2 h
theorem bind {Q : β → Prop} {p q : Nat → Option β} {F G : Nat → β → Option α} (h : Both Q p q) (k : ∀ b, Q b → Both P (fun n => F n b) (fun n => G n b)) : Both P (fun n => (p n).bind (F n)) (fun n => (q n).bind (G n)) := by
  obtain ⟨b, hq, h1, h2⟩ := h
  obtain ⟨r, hp, a, c⟩ := k b hq
  exact ⟨r, hp, Ev.bind h1 a, Ev.bind h2 c⟩
theorem of {r : α} (h1 : Ev f r) (h2 : Ev g r) (hp : P r) : Both P f g := ⟨r, hp, h1, h2⟩
theorem eq {r : α} (h1 : Ev f r) (h2 : Ev g r) : Both (fun x => x = r) f g := ⟨r, rfl, h1, h2⟩
theorem any {Q : α → Prop} (h : Both Q f g) : Both (fun _ => True) f g := by
  obtain ⟨r, _, a, b⟩ := h
  exact ⟨r, trivial, a, b⟩
theorem mono {P' : α → Prop} (h : Both P f g) (hi : ∀ r, P r → P' r) : Both P' f g := by
  obtain ⟨r, hp, a, b⟩ := h
  exact ⟨r, hi r hp, a, b⟩
end Both
/-- It comes to an answer, of which P holds. -/
def Comes {α : Type} (P : α → Prop) (f : Nat → Option α) : Prop := ∃ r, P r ∧ Ev f r
namespace Comes
variable {α β : Type} {P : α → Prop} {f f' : Nat → Option α}
theorem step (h1 : ∀ k, f (k + 1) = f' k) (h : Comes P f') : Comes P f := by
  obtain ⟨r, hp, a⟩ := h
  exact ⟨r, hp, Ev.step h1 a⟩
theorem ret (r : α) (h : P r) : Comes P (fun _ => some r) := ⟨r, h, Ev.now r⟩
theorem ite {c : Prop} [Decidable c] (h1 : c → Comes P f) (h2 : ¬ c → Comes P f') : Comes P (fun k => if c then f k else f' k) := by
  by_cases h : c
  · simpa only [if_pos h] using h1 h
  · simpa only [if_neg h] using h2 h
theorem bind {Q : β → Prop} {p : Nat → Option β} {F : Nat → β → Option α} (h : Comes Q p) (k : ∀ b, Q b → Comes P (fun n => F n b)) : Comes P (fun n => (p n).bind (F n)) := by
  obtain ⟨b, hq, h1⟩ := h
  obtain ⟨r, hp, a⟩ := k b hq
  exact ⟨r, hp, Ev.bind h1 a⟩
theorem mono {P' : α → Prop} (h : Comes P f) (hi : ∀ r, P r → P' r) : Comes P' f := by
  obtain ⟨r, hp, a⟩ := h
  exact ⟨r, hi r hp, a⟩
theorem rounds (h : Comes P f) : ∃ k r, f k = some r ∧ P r := by
  obtain ⟨r, hp, a⟩ := h
  obtain ⟨k, hk⟩ := a.rounds
  exact ⟨k, r, hk, hp⟩
theorem true_ {f : Nat → Option Bool} (h : Comes (fun b => b = true) f) : ∃ k, f k = some true := by
  obtain ⟨k, r, hk, rfl⟩ := h.rounds
  exact ⟨k, hk⟩
theorem some_ (o : Option α) (r : α) (h : o = some r) (hp : P r) : Comes P (fun _ => o) := ⟨r, hp, Ev.all (fun _ => h)⟩
end Comes

theorem sz_loop {α : Type} (l : List α) (z : α) (B : α → Prop) (F : Nat → Int → Int → Option Int) (g : Nat → Int → Nat → Option Int) (hl : l.length ≤ 9223372036854775806)
    (hF : ∀ (k : Nat) (a : Int) (i : Nat), i < l.length → 0 ≤ a → a ≤ 1048576 → F (k + 1) a (i : Int) = (g i a k).bind fun t => if t < 0 then some (-1) else F k t ((i + 1 : Nat) : Int))
    (hg : ∀ (i : Nat) (a : Int), i < l.length → 0 ≤ a → a ≤ 1048576 → Comes (fun t => t ≤ a ∧ (0 ≤ t → B (l.getD i z))) (g i a))
    (he : ∀ (k : Nat) (a : Int), F (k + 1) a (l.length : Int) = some a) (a : Int) (ha : 0 ≤ a) (hb : a ≤ 1048576) : Comes (fun t => t ≤ a ∧ (0 ≤ t → ∀ x ∈ l, B x)) (fun k => F k a 0) := by
  have key : ∀ (d i : Nat) (a : Int), i + d = l.length → 0 ≤ a → a ≤ 1048576 → Comes (fun t => t ≤ a ∧ (0 ≤ t → ∀ j, i ≤ j → j < l.length → B (l.getD j z))) (fun k => F k a (i : Int)) := by
    intro d
    induction d with
    | zero =>
      intro i a hi ha hb
      have : i = l.length := by omega
      subst this
      refine Comes.step (fun k => he k a) (Comes.ret a ⟨Int.le_refl a, fun _ j h1 h2 => by omega⟩)
    | succ d ih =>
      intro i a hi ha hb
      refine Comes.step (fun k => hF k a i (by omega) ha hb) (Comes.bind (hg i a (by omega) ha hb) (fun t ht => Comes.ite (fun _ => Comes.ret (-1) ⟨by omega, fun h => by omega⟩) (fun hn => ?_)))
      refine (ih (i + 1) t (by omega) (by omega) (by omega)).mono (fun r hr => ⟨by omega, fun h0 j h1 h2 => ?_⟩)
      by_cases hj : j = i
      · subst hj
        exact ht.2 (by omega)
      · exact hr.2 h0 j (by omega) h2
  refine (key l.length 0 a (by omega) ha hb).mono (fun r hr => ⟨hr.1, fun h0 x hx => ?_⟩)
  obtain ⟨j, hj, rfl⟩ := List.mem_iff_getElem.1 hx
  have := hr.2 h0 j (by omega) hj
  rwa [List.getD_eq_getElem?_getD, List.getElem?_eq_getElem hj] at this
theorem getD_mem {α : Type} {l : List α} {i : Nat} {z : α} (h : i < l.length) : l.getD i z ∈ l := by
  rw [List.getD_eq_getElem?_getD, List.getElem?_eq_getElem h]
  exact List.getElem_mem h

theorem szPair_comes (x : S84) (hx : x.f0.size ≤ maxLen ∧ x.f1.size ≤ maxLen) (a : Int) (ha : 0 ≤ a) (hb : a ≤ 1048576) : ∃ t, laws_szPair.f x.f0 x.f1 x.f2 a = some t ∧ t ≤ a ∧ (0 ≤ t → (x.f0.size : Int) + (x.f1.size : Int) ≤ a - t) := by
  unfold maxLen at hx
  simp only [laws_szPair.f, Option.bind_some, wrap64]
  (repeat' split) <;> first | exact ⟨_, rfl, by omega, by omega⟩ | (simp only [Option.bind_some]; (repeat' split) <;> exact ⟨_, rfl, by omega, by omega⟩)

theorem szPairS_comes (l : List S84) (hx : l.length ≤ maxLen ∧ ∀ x ∈ l, (x.f0.size ≤ maxLen ∧ x.f1.size ≤ maxLen)) (a : Int) (ha : 0 ≤ a) (hb : a ≤ 1048576) : Comes (fun t => t ≤ a ∧ (0 ≤ t → (l.length : Int) ≤ a - t)) (fun k => laws_szPairS.f k l a) := by
  have hl := hx.1
  unfold maxLen at hl
  have hw : wrap64 (a - (l.length : Int)) = a - (l.length : Int) := wrap_id (by omega) (by omega)
  simp only [laws_szPairS.f, hw]
  refine Comes.ite (fun _ => Comes.ret (-1) ⟨by omega, fun h => by omega⟩) (fun hn => ?_)
  refine (sz_loop l z84 (fun _ => True) (fun k a i => laws_szPairS.l0 k l a i) (fun i a _ => laws_szPair.f (l.getD i z84).f0 (l.getD i z84).f1 (l.getD i z84).f2 a) (by omega) (fun k a i hi _ _ => ?_) (fun i a hi ha hb => ?_) (fun k a => ?_) _ (by omega) (by omega)).mono (fun t ht => ⟨by omega, fun h => by omega⟩)
  · simp only [laws_szPairS.l0, rd_T84, Int.toNat_natCast]
    rw [if_pos (by omega), if_pos (by omega), wrap_succ (n := l.length) hi (by omega)]
  · obtain ⟨t, h1, h2, h3⟩ := szPair_comes (l.getD i z84) (hx.2 _ (getD_mem hi)) a ha hb
    exact Comes.some_ _ t h1 ⟨h2, fun _ => trivial⟩
  · simp only [laws_szPairS.l0]
    rw [if_neg (by omega)]

theorem szPairSb_comes (l : List S84) (hx : l.length ≤ maxLen ∧ ∀ x ∈ l, (x.f0.size ≤ maxLen ∧ x.f1.size ≤ maxLen)) (a : Int) (ha : 0 ≤ a) (hb : a ≤ 1048576) : Comes (fun t => t ≤ a ∧ (0 ≤ t → (l.length : Int) ≤ a - t ∧ ∀ x ∈ l, x.f0.size ≤ 1048576 ∧ x.f1.size ≤ 1048576)) (fun k => laws_szPairS.f k l a) := by
  have hl := hx.1
  unfold maxLen at hl
  have hw : wrap64 (a - (l.length : Int)) = a - (l.length : Int) := wrap_id (by omega) (by omega)
  simp only [laws_szPairS.f, hw]
  refine Comes.ite (fun _ => Comes.ret (-1) ⟨by omega, fun h => by omega⟩) (fun hn => ?_)
  refine (sz_loop l z84 (fun x => x.f0.size ≤ 1048576 ∧ x.f1.size ≤ 1048576) (fun k a i => laws_szPairS.l0 k l a i) (fun i a _ => laws_szPair.f (l.getD i z84).f0 (l.getD i z84).f1 (l.getD i z84).f2 a) (by omega) (fun k a i hi _ _ => ?_) (fun i a hi ha hb => ?_) (fun k a => ?_) _ (by omega) (by omega)).mono (fun t ht => ⟨by omega, fun h => ⟨by omega, ht.2 h⟩⟩)
  · simp only [laws_szPairS.l0, rd_T84, Int.toNat_natCast]
    rw [if_pos (by omega), if_pos (by omega), wrap_succ (n := l.length) hi (by omega)]
  · obtain ⟨t, h1, h2, h3⟩ := szPair_comes (l.getD i z84) (hx.2 _ (getD_mem hi)) a ha hb
    exact Comes.some_ _ t h1 ⟨h2, fun h0 => by have := h3 h0; omega⟩
  · simp only [laws_szPairS.l0]
    rw [if_neg (by omega)]

def mtR : Nat → Int → ByteArray → ByteArray
  | 0, _, s => s
  | d + 1, k, s => if k > 0 then mtR d (k / 10) (strOfNums [(48 + k % 10) % 256] ++ s) else s
/-- The text 'm' and the digits of k. -/
def mtext (k : Int) : ByteArray := if k ≤ 0 then ⟨#[109, 48]⟩ else ⟨#[109]⟩ ++ mtR 20 k ⟨#[]⟩
theorem markText_l0 : ∀ (d : Nat) (k : Int) (s : ByteArray), k < 10 ^ d → k ≤ 9223372036854775807 → s.size + d ≤ 9223372036854775806 → Ev (fun q => laws_markText.l0 q k s) (⟨#[109]⟩ ++ mtR d k s) := by
  intro d
  induction d with
  | zero =>
    intro k s hk hk2 hs
    refine Ev.ends (fun q => ?_)
    simp only [laws_markText.l0]
    rw [if_neg (by omega), if_pos (by omega)]
    rfl
  | succ d ih =>
    intro k s hk hk2 hs
    by_cases h0 : k > 0
    · have hp : (10 : Int) ^ (d + 1) = 10 ^ d * 10 := Int.pow_succ ..
      have hsz : (strOfNums [(48 + k % 10) % 256] ++ s).size = 1 + s.size := by rw [ByteArray.size_append]; rfl
      have hm : Int.tmod k 10 = k % 10 := Int.tmod_eq_emod_of_nonneg (by omega)
      have hd : Int.tdiv k 10 = k / 10 := Int.tdiv_eq_ediv_of_nonneg (by omega)
      have := ih (k / 10) (strOfNums [(48 + k % 10) % 256] ++ s) (by omega) (by omega) (by omega)
      unfold mtR
      rw [if_pos h0]
      refine Ev.step (fun q => ?_) this
      simp only [laws_markText.l0, Option.bind_some]
      rw [if_pos h0, hm, hd, wrap_id (i := 48 + k % 10) (by omega) (by omega), wrap_id (i := k / 10) (by omega) (by omega), if_pos (by rw [← ByteArray.size_append, hsz]; omega)]
    · unfold mtR
      rw [if_neg h0]
      refine Ev.ends (fun q => ?_)
      simp only [laws_markText.l0]
      rw [if_neg h0, if_pos (by omega)]
theorem markText_ev (k : Int) (h : k ≤ 9223372036854775807) : Ev (fun q => laws_markText.f q k) (mtext k) := by
  unfold mtext
  by_cases h0 : k ≤ 0
  · rw [if_pos h0]
    exact Ev.all (fun q => by simp only [laws_markText.f]; rw [if_pos h0])
  · rw [if_neg h0]
    refine Ev.congr (fun q => ?_) (markText_l0 20 k ⟨#[]⟩ (by omega) h (show (0 : Nat) + 20 ≤ 9223372036854775806 by omega))
    simp only [laws_markText.f]
    rw [if_neg h0]

theorem getD_set_eq {α : Type} {l : List α} {i : Nat} (x z : α) (h : i < l.length) : (l.set i x).getD i z = x := by
  rw [List.getD_eq_getElem?_getD, List.getElem?_set_self h]
  rfl

def mkPair (k : Int) : S33 := (⟨mtext (k), mtext (k + 1), (Int.tmod (k + 2) 3 == 0)⟩ : S33)
def mkPairL (a : Int) (n : Nat) : List S33 := (List.range n).map fun (i : Nat) => mkPair (a + 3 * (i : Int))
theorem mkPairL_length (a : Int) (n : Nat) : (mkPairL a n).length = n := by simp [mkPairL]
theorem markPairS_ev (l : List S33) (a : Int) (ha : 0 ≤ a) (hb : a + 3 * (l.length : Int) ≤ 4611686018427387904) : Ev (fun k => laws_markPairS.f k l a) (a + 3 * (l.length : Int), mkPairL a l.length) := by
  have hm := mark_loop (fun k out s i => laws_markPairS.l0 k out s i) l.length (fun i => mkPair (a + 3 * (i : Int))) (fun i => a + 3 * (i : Int)) (fun i out r hi hl h => ?_) (fun out hl => ?_) l rfl
  · refine Ev.congr (fun k => ?_) hm
    simp only [laws_markPairS.f]
    congr 1
    simp
  · (try dsimp only at h ⊢)
    obtain ⟨K0, h0⟩ := markText_ev (a + 3 * (i : Int)) (by omega)
    obtain ⟨K1, h1⟩ := markText_ev (a + 3 * (i : Int) + 1) (by omega)
    refine Ev.round ⟨0 + K0 + K1, fun k hk => ?_⟩ h
    have t0 := h0 k (by omega)
    have t1 := h1 k (by omega)
    dsimp only at t0 t1
    have e1 : ((i : Int) < (out.length : Int)) = True := eq_true (by omega)
    have e2 : (0 ≤ (i : Int)) = True := eq_true (by omega)
    have ew : wrap64 ((i : Int) + 1) = ((i + 1 : Nat) : Int) := wrap_succ (n := l.length) hi (by omega)
    have w1 : wrap64 (a + 3 * (i : Int) + 1) = a + 3 * (i : Int) + 1 := wrap_id (by omega) (by omega)
    have w2 : wrap64 (a + 3 * (i : Int) + 2) = a + 3 * (i : Int) + 2 := wrap_id (by omega) (by omega)
    have w3 : wrap64 (a + 3 * (i : Int) + 3) = a + 3 * (i : Int) + 3 := wrap_id (by omega) (by omega)
    have ad2 : a + 3 * (i : Int) + 1 + 1 = a + 3 * (i : Int) + 2 := by omega
    have ad3 : a + 3 * (i : Int) + 2 + 1 = a + 3 * (i : Int) + 3 := by omega
    have ae : a + 3 * (i : Int) + 3 = a + 3 * ((i + 1 : Nat) : Int) := by omega
    simp only [laws_markPairS.l0, e1, e2, if_true, t0, t1, Option.bind_some, w1, w2, ad2, w3, ad3, ew, rd_T33, Int.toNat_natCast, List.set_set, getD_set_eq _ _ (show i < out.length by omega)]
    (rw [ae]) <;> rfl
  · refine Ev.ends (fun k => ?_)
    simp only [laws_markPairS.l0]
    rw [if_neg (by omega)]

theorem eqByteS_l0 (xs : List Int) (hn : xs.length ≤ 9223372036854775806) : ∀ (d i : Nat), i + d = xs.length → Ev (fun k => laws_eqByteS.l0 k xs xs (i : Int)) true := by
  intro d
  induction d with
  | zero =>
    intro i hi
    refine Ev.step (f := fun _ => some true) (fun k => ?_) (Ev.now true)
    simp only [laws_eqByteS.l0]
    rw [if_neg (by omega)]
  | succ d ih =>
    intro i hi
    refine Ev.step (f := fun k => laws_eqByteS.l0 k xs xs ((i + 1 : Nat) : Int)) (fun k => ?_) (ih _ (by omega))
    simp only [laws_eqByteS.l0]
    rw [if_pos (by omega), if_pos (by omega), if_pos (by omega), if_pos trivial, wrap_succ (n := xs.length) (by omega) (by omega)]
theorem eqByteS_ev (xs : List Int) (hn : xs.length ≤ 9223372036854775806) : Ev (fun k => laws_eqByteS.f k xs xs) true := by
  refine Ev.congr (fun k => ?_) (eqByteS_l0 xs hn xs.length 0 (by omega))
  simp only [laws_eqByteS.f]
  rw [if_pos trivial]
  rfl

def markB (a : Int) (n : Nat) : List Int := (List.range n).map fun (j : Nat) => (a + (j : Int)) % 256
theorem markB_length (a : Int) (n : Nat) : (markB a n).length = n := by simp [markB]
theorem markB_succ (a : Int) (n : Nat) : markB a (n + 1) = markB a n ++ [(a + (n : Int)) % 256] := by simp [markB, List.range_succ]
theorem markB_get (a : Int) (n i : Nat) (h : i < n) : (markB a n).getD i 0 = (a + (i : Int)) % 256 := by
  simp [markB, List.getD_eq_getElem?_getD, h]
theorem markByteS_l0 (a : Int) (n : Nat) (ha : 0 ≤ a) (hb : a + n ≤ 9223372036854775806) : ∀ (d : Nat) (l : List Int) (i : Nat), i + d = n → l.length = n → l.take i = markB a i →
    Ev (fun k => laws_markByteS.l0 k l (a + (i : Int)) (i : Int)) (a + (n : Int), markB a n) := by
  intro d
  induction d with
  | zero =>
    intro l i hi hl ht
    have hin : i = n := by omega
    subst hin
    have e : l = markB a i := take_all ht hl
    refine Ev.step (f := fun _ => some (a + (i : Int), markB a i)) (fun k => ?_) (Ev.now _)
    simp only [laws_markByteS.l0]
    rw [if_neg (by omega), e]
  | succ d ih =>
    intro l i hi hl ht
    refine Ev.step (f := fun k => laws_markByteS.l0 k (l.set i ((a + (i : Int)) % 256)) (a + ((i + 1 : Nat) : Int)) ((i + 1 : Nat) : Int)) (fun k => ?_) (ih _ _ (by omega) (by simp [hl]) ?_)
    · simp only [laws_markByteS.l0]
      rw [if_pos (by omega), if_pos (by omega), wrap_succ (n := n) (by omega) (by omega), Int.toNat_natCast, wrap_id (i := a + (i : Int) + 1) (by omega) (by omega)]
      congr 1
      omega
    · rw [take_set_succ _ _ _ (by omega), markB_succ, ht]
theorem markByteS_ev (l : List Int) (a : Int) (ha : 0 ≤ a) (hb : a + l.length ≤ 9223372036854775806) : Ev (fun k => laws_markByteS.f k l a) (a + (l.length : Int), markB a l.length) := by
  refine Ev.congr (fun k => ?_) (markByteS_l0 a l.length ha hb l.length l 0 (by omega) rfl rfl)
  simp only [laws_markByteS.f]
  congr 1
  simp
theorem heldByteS_l0 (a : Int) (n : Nat) (ha : 0 ≤ a) (hb : a + n ≤ 9223372036854775806) : ∀ (d i : Nat), i + d = n → Ev (fun k => laws_heldByteS.l0 k (markB a n) (a + (i : Int)) (i : Int)) (a + (n : Int)) := by
  intro d
  induction d with
  | zero =>
    intro i hi
    have hin : i = n := by omega
    subst hin
    refine Ev.step (f := fun _ => some (a + (i : Int))) (fun k => ?_) (Ev.now _)
    simp only [laws_heldByteS.l0, markB_length]
    rw [if_neg (by omega)]
  | succ d ih =>
    intro i hi
    refine Ev.step (f := fun k => laws_heldByteS.l0 k (markB a n) (a + ((i + 1 : Nat) : Int)) ((i + 1 : Nat) : Int)) (fun k => ?_) (ih _ (by omega))
    simp only [laws_heldByteS.l0, markB_length]
    rw [if_pos (by omega), if_pos (by omega), rd_nat, if_pos (markB_get a n i (by omega)), wrap_succ (n := n) (by omega) (by omega), wrap_id (i := a + (i : Int) + 1) (by omega) (by omega)]
    congr 1
    omega
theorem heldByteS_ev (a : Int) (n : Nat) (ha : 0 ≤ a) (hb : a + n ≤ 9223372036854775806) : Ev (fun k => laws_heldByteS.f k (markB a n) a) (a + (n : Int)) := by
  refine Ev.congr (fun k => ?_) (heldByteS_l0 a n ha hb n 0 (by omega))
  simp only [laws_heldByteS.f]
  congr 1
  simp

theorem common_both (a b : ByteArray) (hb : b.size ≤ 1048576) : Both (fun r => 0 ≤ r ∧ r ≤ (b.size : Int)) (fun k => spec_l5Common.f k a b) (fun k => impl_common.f k a b) := by
  have key : ∀ (d i : Nat), i + d = b.size → Both (fun r => 0 ≤ r ∧ r ≤ (b.size : Int)) (fun k => spec_l5Common.l0 k a b (i : Int)) (fun k => impl_common.l0 k a b (i : Int)) := by
    intro d
    induction d with
    | zero =>
      intro i hi
      refine Both.step (fun k => spec_l5Common.l0.eq_2 ..) (fun k => impl_common.l0.eq_2 ..) ?_
      have e1 : ((i : Int) < (b.size : Int)) = False := eq_false (by omega)
      simp only [e1, if_false]
      exact Both.ite (fun _ => Both.ret _ (by omega)) (fun _ => Both.ret _ (by omega))
    | succ d ih =>
      intro i hi
      refine Both.step (fun k => spec_l5Common.l0.eq_2 ..) (fun k => impl_common.l0.eq_2 ..) ?_
      have e1 : ((i : Int) < (b.size : Int)) = True := eq_true (by omega)
      have e2 : (0 ≤ (i : Int)) = True := eq_true (by omega)
      have ew : wrap64 ((i : Int) + 1) = ((i + 1 : Nat) : Int) := wrap_succ (n := b.size) (by omega) (by omega)
      simp only [e1, e2, if_true, ew]
      exact Both.ite (fun _ => Both.ite (fun _ => ih (i + 1) (by omega)) (fun _ => Both.ret _ (by omega))) (fun _ => Both.ret _ (by omega))
  exact key b.size 0 (by omega)
theorem extract_le (s : ByteArray) (i : Nat) : (s.extract i s.size).size ≤ s.size := by
  rw [ByteArray.size_extract]
  omega

theorem wraps_i64 (n : Int) (h0 : 0 ≤ n) (h1 : n < 2 ^ 63) : IntKind.i64.wrap n = n := by rw [IntKind.wrap_i64]; omega
theorem and127 {x : Int} (h0 : 0 ≤ x) (h1 : x < 9223372036854775808) : Go.bits .and .i64 x 127 = x % 128 := by
  have h := bits_mask .i64 63 (by decide) wraps_i64 7 (by decide) x h0 (by omega)
  simpa using h
theorem or7 {x y : Int} (h0 : 0 ≤ x) (h1 : x < 9223372036854775808) (hx : x % 128 = 0) (hy0 : 0 ≤ y) (hy : y < 128) : Go.bits .or .i64 x y = x + y :=
  bits_join .i64 63 (by decide) wraps_i64 7 x y h0 (by simpa using hx) (by omega) hy0 (by omega) (by omega)
theorem or_128 {y : Int} (hy0 : 0 ≤ y) (hy : y < 128) : Go.bits .or .i64 y 128 = y + 128 := by
  obtain ⟨b, rfl⟩ := Int.eq_ofNat_of_zero_le hy0
  have h := (bits_nat .i64 63 (by decide) wraps_i64 b 128 (by omega) (by decide)).2
  have h2 := Nat.two_pow_add_eq_or_of_lt (i := 7) (b := b) (by omega) 1
  rw [Nat.or_comm] at h2
  have h3 : Go.bits .or .i64 ((b : Nat) : Int) 128 = ((b ||| 128 : Nat) : Int) := h
  have h4 : (b ||| 128 : Nat) = 128 + b := by simpa using h2.symm
  rw [h3, h4]
  omega
theorem shr_eq {x : Int} {s : Int} (j : Nat) (hs : s = (j : Int)) (hj : j ≤ 64) : shr .i64 x s = x / 2 ^ j := by
  subst hs
  unfold shr
  rw [Int.toNat_natCast, Nat.min_eq_left (by simpa [IntKind.bits] using hj)]

/-- The bytes of a number, 0 to 10^9. -/
def numB (n : Int) : List Int :=
  if n < 128 then [n % 128] else if n < 16384 then [n / 128 % 128 + 128, n % 128] else if n < 2097152 then [n / 16384 % 128 + 128, n / 128 % 128 + 128, n % 128]
  else if n < 268435456 then [n / 2097152 % 128 + 128, n / 16384 % 128 + 128, n / 128 % 128 + 128, n % 128]
  else [n / 268435456 % 128 + 128, n / 2097152 % 128 + 128, n / 16384 % 128 + 128, n / 128 % 128 + 128, n % 128]
theorem numB_length (n : Int) : 1 ≤ (numB n).length ∧ (numB n).length ≤ 5 := by unfold numB; (repeat' split) <;> simp
def clampN (n : Int) : Int := if n > 1000000000 then 1000000000 else if n < 0 then 0 else n
theorem clampN_range (n : Int) : 0 ≤ clampN n ∧ clampN n ≤ 1000000000 := by unfold clampN; (repeat' split) <;> omega
theorem impl_put_l1 (n : Int) (h0 : 0 ≤ n) (h1 : n ≤ 1000000000) (q : Nat) (out : List Int) (ho : out.length < 140737488355328) (s : Nat) (hs0 : 0 < s) (hs : s ≤ 28) :
    impl_addNum.l1 (q + 1) out n (s : Int) = impl_addNum.l1 q (out ++ [n / 2 ^ s % 128 + 128]) n ((s : Int) - 7) := by
  have hp : 0 ≤ n / 2 ^ s ∧ n / 2 ^ s ≤ n := ⟨Int.ediv_nonneg h0 (Int.le_of_lt (Int.pow_pos (by decide))), Int.ediv_le_self _ h0⟩
  simp only [impl_addNum.l1]
  rw [if_pos (by omega), if_pos (by omega), if_pos ho, shr_eq s rfl (by omega), and127 hp.1 (by omega), wrap_id (by omega) (by omega), wrap_id (by omega) (by omega)]
  congr 3
  omega
theorem impl_put_end (n : Int) (h0 : 0 ≤ n) (h1 : n ≤ 1000000000) (q : Nat) (out : List Int) (ho : out.length < 140737488355328) : impl_addNum.l1 (q + 1) out n 0 = some (out ++ [n % 128]) := by
  simp only [impl_addNum.l1]
  rw [if_neg (by omega), if_pos ho, and127 h0 (by omega)]
  congr 3
  omega
theorem impl_put_l0 (n : Int) (h0 : 0 ≤ n) (h1 : n ≤ 1000000000) (q : Nat) (out : List Int) (s : Nat) (hs : s ≤ 28) :
    impl_addNum.l0 (q + 1) out n (s : Int) = if n / 2 ^ s > 127 then impl_addNum.l0 q out n ((s + 7 : Nat) : Int) else impl_addNum.l1 q out n (s : Int) := by
  simp only [impl_addNum.l0]
  rw [if_pos (by omega), shr_eq s rfl (by omega), wrap_id (i := (s : Int) + 7) (by omega) (by omega)]
  rfl
theorem impl_addNum_at (n : Int) (out : List Int) (ho : out.length + 5 < 140737488355328) (q : Nat) : impl_addNum.f (q + 12) out n = some (out ++ numB (clampN n)) := by
  have hc := clampN_range n
  have e : mx 0 (mn n 1000000000) = clampN n := by unfold mx mn clampN; (repeat' split) <;> omega
  unfold impl_addNum.f
  rw [e]
  generalize clampN n = m at hc
  obtain ⟨h0, h1⟩ := hc
  have l1 := fun q out ho s hs0 hs => impl_put_l1 m h0 h1 q out ho s hs0 hs
  have l0 := fun q out s hs => impl_put_l0 m h0 h1 q out s hs
  have en := fun q out ho => impl_put_end m h0 h1 q out ho
  unfold numB
  rw [show (0 : Int) = ((0 : Nat) : Int) from rfl, l0 (q + 11) out 0 (by omega)]
  by_cases c1 : m < 128
  · rw [if_neg (by omega), if_pos c1]
    exact en (q + 10) out (by omega)
  rw [if_pos (by omega), if_neg c1, l0 (q + 10) out 7 (by omega)]
  by_cases c2 : m < 16384
  · rw [if_neg (by omega), if_pos c2, l1 (q + 9) out (by omega) 7 (by omega) (by omega)]
    have := en (q + 8) (out ++ [m / 2 ^ 7 % 128 + 128]) (by simp; omega)
    simpa using this
  rw [if_pos (by omega), if_neg c2, l0 (q + 9) out 14 (by omega)]
  by_cases c3 : m < 2097152
  · rw [if_neg (by omega), if_pos c3, l1 (q + 8) out (by omega) 14 (by omega) (by omega)]
    have a := l1 (q + 7) (out ++ [m / 2 ^ 14 % 128 + 128]) (by simp; omega) 7 (by omega) (by omega)
    have b := en (q + 6) ((out ++ [m / 2 ^ 14 % 128 + 128]) ++ [m / 2 ^ 7 % 128 + 128]) (by simp; omega)
    have a' : impl_addNum.l1 (q + 8) (out ++ [m / 2 ^ 14 % 128 + 128]) m (((14 : Nat) : Int) - 7) = _ := a
    rw [a']
    have b' : impl_addNum.l1 (q + 7) ((out ++ [m / 2 ^ 14 % 128 + 128]) ++ [m / 2 ^ 7 % 128 + 128]) m (((7 : Nat) : Int) - 7) = _ := b
    rw [b']
    simp
  rw [if_pos (by omega), if_neg c3, l0 (q + 8) out 21 (by omega)]
  by_cases c4 : m < 268435456
  · rw [if_neg (by omega), if_pos c4, l1 (q + 7) out (by omega) 21 (by omega) (by omega)]
    have a := l1 (q + 6) (out ++ [m / 2 ^ 21 % 128 + 128]) (by simp; omega) 14 (by omega) (by omega)
    have b := l1 (q + 5) ((out ++ [m / 2 ^ 21 % 128 + 128]) ++ [m / 2 ^ 14 % 128 + 128]) (by simp; omega) 7 (by omega) (by omega)
    have c := en (q + 4) (((out ++ [m / 2 ^ 21 % 128 + 128]) ++ [m / 2 ^ 14 % 128 + 128]) ++ [m / 2 ^ 7 % 128 + 128]) (by simp; omega)
    have a' : impl_addNum.l1 (q + 7) (out ++ [m / 2 ^ 21 % 128 + 128]) m (((21 : Nat) : Int) - 7) = _ := a
    rw [a']
    have b' : impl_addNum.l1 (q + 6) ((out ++ [m / 2 ^ 21 % 128 + 128]) ++ [m / 2 ^ 14 % 128 + 128]) m (((14 : Nat) : Int) - 7) = _ := b
    rw [b']
    have c' : impl_addNum.l1 (q + 5) (((out ++ [m / 2 ^ 21 % 128 + 128]) ++ [m / 2 ^ 14 % 128 + 128]) ++ [m / 2 ^ 7 % 128 + 128]) m (((7 : Nat) : Int) - 7) = _ := c
    rw [c']
    simp
  rw [if_pos (by omega), if_neg c4, l0 (q + 7) out 28 (by omega), if_neg (by omega), l1 (q + 6) out (by omega) 28 (by omega) (by omega)]
  have a := l1 (q + 5) (out ++ [m / 2 ^ 28 % 128 + 128]) (by simp; omega) 21 (by omega) (by omega)
  have b := l1 (q + 4) ((out ++ [m / 2 ^ 28 % 128 + 128]) ++ [m / 2 ^ 21 % 128 + 128]) (by simp; omega) 14 (by omega) (by omega)
  have c := l1 (q + 3) (((out ++ [m / 2 ^ 28 % 128 + 128]) ++ [m / 2 ^ 21 % 128 + 128]) ++ [m / 2 ^ 14 % 128 + 128]) (by simp; omega) 7 (by omega) (by omega)
  have d := en (q + 2) ((((out ++ [m / 2 ^ 28 % 128 + 128]) ++ [m / 2 ^ 21 % 128 + 128]) ++ [m / 2 ^ 14 % 128 + 128]) ++ [m / 2 ^ 7 % 128 + 128]) (by simp; omega)
  have a' : impl_addNum.l1 (q + 6) (out ++ [m / 2 ^ 28 % 128 + 128]) m (((28 : Nat) : Int) - 7) = _ := a
  rw [a']
  have b' : impl_addNum.l1 (q + 5) ((out ++ [m / 2 ^ 28 % 128 + 128]) ++ [m / 2 ^ 21 % 128 + 128]) m (((21 : Nat) : Int) - 7) = _ := b
  rw [b']
  have c' : impl_addNum.l1 (q + 4) (((out ++ [m / 2 ^ 28 % 128 + 128]) ++ [m / 2 ^ 21 % 128 + 128]) ++ [m / 2 ^ 14 % 128 + 128]) m (((14 : Nat) : Int) - 7) = _ := c
  rw [c']
  have d' : impl_addNum.l1 (q + 3) ((((out ++ [m / 2 ^ 28 % 128 + 128]) ++ [m / 2 ^ 21 % 128 + 128]) ++ [m / 2 ^ 14 % 128 + 128]) ++ [m / 2 ^ 7 % 128 + 128]) m (((7 : Nat) : Int) - 7) = _ := d
  rw [d']
  simp
theorem impl_addNum_ev (n : Int) (out : List Int) (ho : out.length + 5 < 140737488355328) : Ev (fun k => impl_addNum.f k out n) (out ++ numB (clampN n)) :=
  ⟨12, fun k hk => by obtain ⟨q, rfl⟩ : ∃ q, k = q + 12 := ⟨k - 12, by omega⟩; exact impl_addNum_at n out ho q⟩

theorem wrap_u64 (s : Nat) (h : s ≤ 64) : IntKind.u64.wrap ((s : Nat) : Int) = (s : Int) := by
  simp only [IntKind.wrap, IntKind.bits, IntKind.signed]
  simp
  omega
theorem spec_put_step (n : Int) (h0 : 0 ≤ n) (h1 : n ≤ 1000000000) (q : Nat) (out : List Int) (ho : out.length < 140737488355328) (hi : Bool) (s : Nat) (hs0 : 0 < s) (hs : s ≤ 28) :
    spec_PutNum.l0 (q + 1) n out hi (s : Int) = if hi = true ∨ n / 2 ^ s % 128 > 0 then spec_PutNum.l0 q n (out ++ [n / 2 ^ s % 128 + 128]) true ((s : Int) - 7) else spec_PutNum.l0 q n out hi ((s : Int) - 7) := by
  have hp : 0 ≤ n / 2 ^ s ∧ n / 2 ^ s ≤ n := ⟨Int.ediv_nonneg h0 (Int.le_of_lt (Int.pow_pos (by decide))), Int.ediv_le_self _ h0⟩
  simp only [spec_PutNum.l0]
  rw [if_pos (by omega), wrap_u64 s (by omega), if_pos (by omega), shr_eq s rfl (by omega), and127 hp.1 (by omega), or_128 (by omega) (by omega), wrap_id (i := (s : Int) - 7) (by omega) (by omega), if_pos ho]
  have e : (n / 2 ^ s % 128 + 128) % 256 = n / 2 ^ s % 128 + 128 := by omega
  rw [e]
  cases hi with
  | true => rw [if_pos rfl, if_pos (.inl rfl)]
  | false =>
    rw [if_neg (by simp)]
    by_cases hg : n / 2 ^ s % 128 > 0
    · rw [if_pos hg, if_pos (.inr hg)]
    · rw [if_neg hg, if_neg (by simp; omega)]
theorem spec_put_end (n : Int) (h0 : 0 ≤ n) (h1 : n ≤ 1000000000) (q : Nat) (out : List Int) (hi : Bool) (ho : out.length < 140737488355328) : spec_PutNum.l0 (q + 1) n out hi 0 = some (out ++ [n % 128]) := by
  simp only [spec_PutNum.l0]
  rw [if_neg (by omega), if_pos ho, and127 h0 (by omega)]
  congr 3
  omega
def specP (n : Int) (out : List Int) (hi : Bool) (s : Nat) : List Int × Bool := if hi = true ∨ n / 2 ^ s % 128 > 0 then (out ++ [n / 2 ^ s % 128 + 128], true) else (out, hi)
theorem spec_put_step' (n : Int) (h0 : 0 ≤ n) (h1 : n ≤ 1000000000) (q : Nat) (out : List Int) (ho : out.length < 140737488355328) (hi : Bool) (s t : Nat) (hs0 : 0 < s) (hs : s ≤ 28) (ht : t + 7 = s) :
    spec_PutNum.l0 (q + 1) n out hi (s : Int) = spec_PutNum.l0 q n (specP n out hi s).1 (specP n out hi s).2 (t : Int) := by
  rw [spec_put_step n h0 h1 q out ho hi s hs0 hs]
  have e : (s : Int) - 7 = (t : Int) := by omega
  rw [e]
  unfold specP
  split <;> rfl
theorem specP_length (n : Int) (out : List Int) (hi : Bool) (s : Nat) : (specP n out hi s).1.length ≤ out.length + 1 := by unfold specP; split <;> simp
theorem spec_put_all (n : Int) (h0 : 0 ≤ n) (h1 : n ≤ 1000000000) (q : Nat) (out : List Int) (ho : out.length + 5 < 140737488355328) : spec_PutNum.l0 (q + 5) n out false 28 = some (out ++ numB n) := by
  have l1 := specP_length n out false 28
  have l2 := specP_length n (specP n out false 28).1 (specP n out false 28).2 21
  have l3 := specP_length n (specP n (specP n out false 28).1 (specP n out false 28).2 21).1 (specP n (specP n out false 28).1 (specP n out false 28).2 21).2 14
  have l4 := specP_length n (specP n (specP n (specP n out false 28).1 (specP n out false 28).2 21).1 (specP n (specP n out false 28).1 (specP n out false 28).2 21).2 14).1 (specP n (specP n (specP n out false 28).1 (specP n out false 28).2 21).1 (specP n (specP n out false 28).1 (specP n out false 28).2 21).2 14).2 7
  have e1 : spec_PutNum.l0 (q + 5) n out false 28 = _ := spec_put_step' n h0 h1 (q + 4) out (by omega) false 28 21 (by omega) (by omega) rfl
  rw [e1, spec_put_step' n h0 h1 (q + 3) _ (by omega) _ 21 14 (by omega) (by omega) rfl, spec_put_step' n h0 h1 (q + 2) _ (by omega) _ 14 7 (by omega) (by omega) rfl, spec_put_step' n h0 h1 (q + 1) _ (by omega) _ 7 0 (by omega) (by omega) rfl]
  have e2 := spec_put_end n h0 h1 q (specP n (specP n (specP n (specP n out false 28).1 (specP n out false 28).2 21).1 (specP n (specP n out false 28).1 (specP n out false 28).2 21).2 14).1 (specP n (specP n (specP n out false 28).1 (specP n out false 28).2 21).1 (specP n (specP n out false 28).1 (specP n out false 28).2 21).2 14).2 7).1 (specP n (specP n (specP n (specP n out false 28).1 (specP n out false 28).2 21).1 (specP n (specP n out false 28).1 (specP n out false 28).2 21).2 14).1 (specP n (specP n (specP n out false 28).1 (specP n out false 28).2 21).1 (specP n (specP n out false 28).1 (specP n out false 28).2 21).2 14).2 7).2 (by omega)
  refine Eq.trans e2 ?_
  congr 1
  clear l1 l2 l3 l4 e1 e2
  have t (hi : Bool) (o : List Int) (s : Nat) (h : n / 2 ^ s % 128 > 0) : specP n o hi s = (o ++ [n / 2 ^ s % 128 + 128], true) := by unfold specP; rw [if_pos (.inr h)]
  have f (o : List Int) (s : Nat) (h : ¬ n / 2 ^ s % 128 > 0) : specP n o false s = (o, false) := by unfold specP; rw [if_neg (by simp; omega)]
  have y (o : List Int) (s : Nat) : specP n o true s = (o ++ [n / 2 ^ s % 128 + 128], true) := by unfold specP; rw [if_pos (.inl rfl)]
  unfold numB
  by_cases c1 : n < 128
  · rw [if_pos c1, f _ 28 (by omega), f _ 21 (by omega), f _ 14 (by omega), f _ 7 (by omega)]
  rw [if_neg c1]
  by_cases c2 : n < 16384
  · rw [if_pos c2, f _ 28 (by omega), f _ 21 (by omega), f _ 14 (by omega), t _ _ 7 (by omega)]
    simp
  rw [if_neg c2]
  by_cases c3 : n < 2097152
  · rw [if_pos c3, f _ 28 (by omega), f _ 21 (by omega), t _ _ 14 (by omega), y]
    simp
  rw [if_neg c3]
  by_cases c4 : n < 268435456
  · rw [if_pos c4, f _ 28 (by omega), t _ _ 21 (by omega), y, y]
    simp
  rw [if_neg c4, t _ _ 28 (by omega), y, y, y]
  simp
theorem spec_putNum_ev (n : Int) (xs : List Int) (ho : xs.length + 5 < 140737488355328) : Ev (fun k => spec_PutNum.f k xs n) (xs ++ numB (clampN n)) := by
  refine ⟨12, fun k hk => ?_⟩
  obtain ⟨q, rfl⟩ : ∃ q, k = q + 12 := ⟨k - 12, by omega⟩
  have hc := clampN_range n
  have ha := spec_put_all (clampN n) hc.1 hc.2
  dsimp only
  simp only [spec_PutNum.f, Option.bind_some, List.nil_append, List.length_nil]
  rw [if_pos (by omega)]
  have hj : ∀ m, spec_PutNum.j0 (q + 12) m xs = spec_PutNum.l0 (q + 10) (if m < 0 then 0 else m) xs false 28 := by
    intro m
    simp only [spec_PutNum.j0]
    split <;> simp only [spec_PutNum.j1]
  rw [hj, hj]
  unfold clampN at ha ⊢
  by_cases h1 : n > 1000000000
  · rw [if_pos h1] at ha ⊢
    rw [if_pos h1, if_neg (by omega)]
    exact ha (q + 5) xs ho
  · rw [if_neg h1] at ha ⊢
    rw [if_neg h1]
    exact ha (q + 5) xs ho

def BytesIn (b : List Int) : Prop := ∀ i : Int, 0 ≤ rd b i ∧ rd b i ≤ 255
theorem bytesIn_of {b : List Int} (h : ∀ x ∈ b, (Lit.int .u8 x).wf = true) : BytesIn b := by
  intro i
  unfold rd
  rw [List.getD_eq_getElem?_getD]
  cases e : b[i.toNat]? with
  | none => simp
  | some x => exact wf_u8 (h x (List.mem_of_getElem? e))
theorem BytesIn.mem {b : List Int} (h : BytesIn b) : ∀ x ∈ b, 0 ≤ x ∧ x ≤ 255 := by
  intro x hx
  obtain ⟨i, hi, rfl⟩ := List.mem_iff_getElem.1 hx
  have := h (i : Int)
  simpa [rd, List.getD_eq_getElem?_getD, List.getElem?_eq_getElem hi] using this
theorem BytesIn.of_mem {b : List Int} (h : ∀ x ∈ b, 0 ≤ x ∧ x ≤ 255) : BytesIn b := by
  intro i
  unfold rd
  rw [List.getD_eq_getElem?_getD]
  cases e : b[i.toNat]? with
  | none => simp
  | some x => exact h x (List.mem_of_getElem? e)
theorem BytesIn.nat {b : List Int} (h : BytesIn b) : ∀ x ∈ b, x.toNat < 4294967296 := fun x hx => by have := h.mem x hx; omega
theorem drop_cons_rd {b : List Int} {i : Nat} (h : i < b.length) : b.drop i = rd b (i : Int) :: b.drop (i + 1) := by
  rw [List.drop_eq_getElem_cons h, rd_nat, List.getD_eq_getElem?_getD, List.getElem?_eq_getElem h]
  rfl

theorem ofInt64 (a : Nat) (ha : a < 18446744073709551616) : (BitVec.ofInt 64 (a : Int)).toNat = a := by
  rw [BitVec.ofInt_natCast, BitVec.toNat_ofNat]; exact Nat.mod_eq_of_lt (by omega)
theorem ofInt32 (a : Nat) (ha : a < 4294967296) : (BitVec.ofInt 32 (a : Int)).toNat = a := by
  rw [BitVec.ofInt_natCast, BitVec.toNat_ofNat]; exact Nat.mod_eq_of_lt (by omega)
theorem xor_i64 (a b : Nat) (ha : a < 4294967296) (hb : b < 4294967296) : Go.bits .xor .i64 (a : Int) (b : Int) = ((a ^^^ b : Nat) : Int) := by
  have hx : a ^^^ b < 2 ^ 32 := Nat.xor_lt_two_pow (by omega) (by omega)
  show IntKind.i64.wrap ((BitVec.ofInt 64 (a : Int) ^^^ BitVec.ofInt 64 (b : Int)).toNat : Int) = _
  rw [BitVec.toNat_xor, ofInt64 a (by omega), ofInt64 b (by omega), IntKind.wrap_i64]
  omega
theorem xor_u32 (a b : Nat) (ha : a < 4294967296) (hb : b < 4294967296) : Go.bits .xor .u32 (a : Int) (b : Int) = ((a ^^^ b : Nat) : Int) := by
  have hx : a ^^^ b < 2 ^ 32 := Nat.xor_lt_two_pow (by omega) (by omega)
  show IntKind.u32.wrap ((BitVec.ofInt 32 (a : Int) ^^^ BitVec.ofInt 32 (b : Int)).toNat : Int) = _
  rw [BitVec.toNat_xor, ofInt32 a ha, ofInt32 b hb, IntKind.wrap_u32]
  omega
theorem xor_i64' (a : Nat) (v : Int) (ha : a < 4294967296) (h0 : 0 ≤ v) (h1 : v < 4294967296) : Go.bits .xor .i64 (a : Int) v = ((a ^^^ v.toNat : Nat) : Int) := by
  obtain ⟨c, rfl⟩ := Int.eq_ofNat_of_zero_le h0
  simpa using xor_i64 a c ha (by omega)
theorem and1_i64 (a : Nat) (ha : a < 4294967296) : Go.bits .and .i64 (a : Int) 1 = ((a % 2 : Nat) : Int) := by
  have h := bits_mask .i64 63 (by decide) wraps_i64 1 (by decide) (a : Int) (by omega) (by omega)
  have h2 : Go.bits .and .i64 (a : Int) 1 = (a : Int) % 2 := by simpa using h
  rw [h2]
  omega
theorem wraps_u32 (n : Int) (h0 : 0 ≤ n) (h1 : n < 2 ^ 32) : IntKind.u32.wrap n = n := by rw [IntKind.wrap_u32]; omega
theorem and1_u32 (a : Nat) (ha : a < 4294967296) : Go.bits .and .u32 (a : Int) 1 = ((a % 2 : Nat) : Int) := by
  have h := bits_mask .u32 32 (by decide) wraps_u32 1 (by decide) (a : Int) (by omega) (by omega)
  have h2 : Go.bits .and .u32 (a : Int) 1 = (a : Int) % 2 := by simpa using h
  rw [h2]
  omega
def crc1 (x : Nat) : Nat := if x % 2 = 1 then x / 2 ^^^ 2197175160 else x / 2
def crcR : Nat → Nat → Nat
  | 0, x => x
  | n + 1, x => crcR n (crc1 x)
def crcB (x c : Nat) : Nat := crcR 8 (x ^^^ c)
def crcL : List Int → Nat → Nat
  | [], x => x
  | c :: l, x => crcL l (crcB x c.toNat)
/-- The sum of bytes, as a number. -/
def sumN (l : List Int) : Int := ((crcL l 4294967295 ^^^ 4294967295 : Nat) : Int)
theorem xor32 {a b : Nat} (ha : a < 4294967296) (hb : b < 4294967296) : a ^^^ b < 4294967296 := by
  have := Nat.xor_lt_two_pow (n := 32) (x := a) (y := b) (by omega) (by omega)
  omega
theorem crc1_lt {x : Nat} (h : x < 4294967296) : crc1 x < 4294967296 := by
  unfold crc1
  split
  · exact xor32 (by omega) (by omega)
  · omega
theorem crcR_lt : ∀ (n : Nat) {x : Nat}, x < 4294967296 → crcR n x < 4294967296
  | 0, _, h => h
  | n + 1, _, h => crcR_lt n (crc1_lt h)
theorem crcB_lt {x c : Nat} (h : x < 4294967296) (hc : c < 4294967296) : crcB x c < 4294967296 := crcR_lt 8 (xor32 h hc)
theorem crcL_lt : ∀ (l : List Int), (∀ c ∈ l, c.toNat < 4294967296) → ∀ {x : Nat}, x < 4294967296 → crcL l x < 4294967296
  | [], _, _, h => h
  | c :: l, hl, _, h => crcL_lt l (fun d hd => hl d (List.mem_cons_of_mem _ hd)) (crcB_lt h (hl c List.mem_cons_self))
theorem sumN_range {l : List Int} (h : ∀ c ∈ l, c.toNat < 4294967296) : 0 ≤ sumN l ∧ sumN l ≤ 4294967295 := by
  have := xor32 (crcL_lt l h (x := 4294967295) (by omega)) (b := 4294967295) (by omega)
  unfold sumN
  omega

theorem spec_sum_l1 (b : List Int) (i : Nat) (r : Int) (hi : i < 281474976710656) : ∀ (d x j : Nat), j + d = 8 → x < 4294967296 → Ev (fun q => spec_Sum.l0 q b ((crcR d x : Nat) : Int) ((i + 1 : Nat) : Int)) r →
    Ev (fun q => spec_Sum.l1 q b (x : Int) (i : Int) (j : Int)) r := by
  intro d
  induction d with
  | zero =>
    intro x j hj hx h
    refine Ev.step (f := fun q => spec_Sum.l0 q b (x : Int) ((i + 1 : Nat) : Int)) (fun q => ?_) h
    simp only [spec_Sum.l1]
    rw [if_neg (by omega), wrap_id (i := (i : Int) + 1) (by omega) (by omega)]
    rfl
  | succ d ih =>
    intro x j hj hx h
    refine Ev.step (f := fun q => spec_Sum.l1 q b ((crc1 x : Nat) : Int) (i : Int) ((j + 1 : Nat) : Int)) (fun q => ?_) (ih (crc1 x) (j + 1) (by omega) (crc1_lt hx) h)
    simp only [spec_Sum.l1]
    have hd : (x : Int) / 2 = ((x / 2 : Nat) : Int) := by omega
    rw [if_pos (by omega), and1_i64 x hx, hd, wrap_id (i := (j : Int) + 1) (by omega) (by omega)]
    have e2 : (2197175160 : Int) = ((2197175160 : Nat) : Int) := rfl
    rw [e2, xor_i64 (x / 2) 2197175160 (by omega) (by omega)]
    unfold crc1
    by_cases h1 : x % 2 = 1
    · rw [if_pos h1, if_pos (by omega)]
      rfl
    · rw [if_neg h1, if_neg (by omega)]
      rfl
theorem spec_sum_l0 (b : List Int) (hb : BytesIn b) (hn : b.length < 281474976710656) : ∀ (d x i : Nat), i + d = b.length → x < 4294967296 → Ev (fun q => spec_Sum.l0 q b (x : Int) (i : Int)) ((crcL (b.drop i) x ^^^ 4294967295 : Nat) : Int) := by
  intro d
  induction d with
  | zero =>
    intro x i hi hx
    rw [List.drop_eq_nil_of_le (by omega)]
    refine Ev.step (f := fun _ => some _) (fun q => ?_) (Ev.now _)
    simp only [spec_Sum.l0]
    rw [if_neg (by omega)]
    have e2 : (4294967295 : Int) = ((4294967295 : Nat) : Int) := rfl
    rw [e2, xor_i64 x 4294967295 hx (by omega)]
    rfl
  | succ d ih =>
    intro x i hi hx
    have hc := hb (i : Int)
    rw [drop_cons_rd (by omega)]
    have hy : x ^^^ (rd b (i : Int)).toNat < 4294967296 := xor32 hx (by omega)
    refine Ev.step (f := fun q => spec_Sum.l1 q b ((x ^^^ (rd b (i : Int)).toNat : Nat) : Int) (i : Int) ((0 : Nat) : Int)) (fun q => ?_) (spec_sum_l1 b i _ (by omega) 8 _ 0 rfl hy (ih _ (i + 1) (by omega) (crcR_lt 8 hy)))
    simp only [spec_Sum.l0]
    rw [if_pos (by omega), if_pos (by omega), wrap_id (i := rd b (i : Int)) (by omega) (by omega), xor_i64' x _ hx (by omega) (by omega)]
    rfl
theorem spec_sum_ev (b : List Int) (hb : BytesIn b) (hn : b.length < 281474976710656) : Ev (fun q => spec_Sum.f q b) (sumN b) :=
  spec_sum_l0 b hb hn b.length 4294967295 0 (by omega) (by omega)

theorem impl_sum_l1 (b : List Int) (n : Int) (i : Nat) (r : Int) (hi : i < 281474976710656) : ∀ (d x j : Nat), j + d = 8 → x < 4294967296 → Ev (fun q => impl_Sum.l0 q ((crcR d x : Nat) : Int) b n ((i + 1 : Nat) : Int)) r →
    Ev (fun q => impl_Sum.l1 q (x : Int) b n (i : Int) (j : Int)) r := by
  intro d
  induction d with
  | zero =>
    intro x j hj hx h
    refine Ev.step (f := fun q => impl_Sum.l0 q (x : Int) b n ((i + 1 : Nat) : Int)) (fun q => ?_) h
    simp only [impl_Sum.l1]
    rw [if_neg (by omega), wrap_id (i := (i : Int) + 1) (by omega) (by omega)]
    rfl
  | succ d ih =>
    intro x j hj hx h
    refine Ev.step (f := fun q => impl_Sum.l1 q ((crc1 x : Nat) : Int) b n (i : Int) ((j + 1 : Nat) : Int)) (fun q => ?_) (ih (crc1 x) (j + 1) (by omega) (crc1_lt hx) h)
    simp only [impl_Sum.l1]
    have hd : (x : Int) / 2 = ((x / 2 : Nat) : Int) := by omega
    rw [if_pos (by omega), and1_u32 x hx, hd, wrap_id (i := (j : Int) + 1) (by omega) (by omega)]
    have e2 : (2197175160 : Int) = ((2197175160 : Nat) : Int) := rfl
    rw [e2, xor_u32 (x / 2) 2197175160 (by omega) (by omega)]
    unfold crc1
    by_cases h1 : x % 2 = 1
    · rw [if_pos h1, if_pos (by omega)]
      rfl
    · rw [if_neg h1, if_neg (by omega)]
      rfl
theorem impl_sum_l0 (b : List Int) (hb : BytesIn b) (hn : b.length < 281474976710656) : ∀ (d x i : Nat), i + d = b.length → x < 4294967296 → Ev (fun q => impl_Sum.l0 q (x : Int) b (b.length : Int) (i : Int)) ((crcL (b.drop i) x ^^^ 4294967295 : Nat) : Int) := by
  intro d
  induction d with
  | zero =>
    intro x i hi hx
    rw [List.drop_eq_nil_of_le (by omega)]
    refine Ev.step (f := fun _ => some _) (fun q => ?_) (Ev.now _)
    simp only [impl_Sum.l0]
    rw [if_neg (by omega)]
    have e2 : (4294967295 : Int) = ((4294967295 : Nat) : Int) := rfl
    have hy := xor32 (a := 4294967295) (b := x) (by omega) hx
    rw [e2, xor_u32 4294967295 x (by omega) hx, wrap_id (by omega) (by omega), Nat.xor_comm]
    rfl
  | succ d ih =>
    intro x i hi hx
    have hc := hb (i : Int)
    rw [drop_cons_rd (by omega)]
    have hcn : rd b (i : Int) % 4294967296 = (((rd b (i : Int)).toNat : Nat) : Int) := by omega
    have hy : x ^^^ (rd b (i : Int)).toNat < 4294967296 := xor32 hx (by omega)
    refine Ev.step (f := fun q => impl_Sum.l1 q ((x ^^^ (rd b (i : Int)).toNat : Nat) : Int) b (b.length : Int) (i : Int) ((0 : Nat) : Int)) (fun q => ?_) (impl_sum_l1 b _ i _ (by omega) 8 _ 0 rfl hy (ih _ (i + 1) (by omega) (crcR_lt 8 hy)))
    simp only [impl_Sum.l0]
    rw [if_pos (by omega), if_pos (by omega), if_pos (by omega), hcn, xor_u32 x _ hx (by omega)]
    rfl
theorem impl_sum_ev (b : List Int) (hb : BytesIn b) (hn : b.length < 281474976710656) : Ev (fun q => impl_Sum.f q b) (sumN b) :=
  impl_sum_l0 b hb hn b.length 4294967295 0 (by omega) (by omega)

def fourB (a : Int) : List Int := [a / 16777216 % 256, a / 65536 % 256, a / 256 % 256, a % 256]
/-- A frame's bytes. -/
def frameB (l : List Int) : List Int := fourB (sumN l) ++ (numB (clampN (l.length : Int)) ++ l)
theorem frameB_length (l : List Int) : (frameB l).length = 4 + (numB (clampN (l.length : Int))).length + l.length := by
  unfold frameB fourB
  simp
  omega
theorem spec_frame_ev (l : List Int) (hb : BytesIn l) (hn : l.length ≤ 140737488000000) : Ev (fun k => spec_Frame.f k l) (frameB l) := by
  obtain ⟨K1, h1⟩ := spec_sum_ev l hb (by omega)
  obtain ⟨K2, h2⟩ := spec_putNum_ev (l.length : Int) (fourB (sumN l)) (by unfold fourB; simp)
  have hl := numB_length (clampN (l.length : Int))
  dsimp only at h1 h2
  refine ⟨K1 + K2, fun k hk => ?_⟩
  simp only [spec_Frame.f, spec_l1Four.f]
  rw [h1 k (by omega), Option.bind_some, Option.bind_some]
  have h2 := h2 k (by omega)
  unfold fourB at h2
  rw [h2, Option.bind_some, if_pos (by rw [List.length_append]; simp; omega), List.append_assoc]
  rfl
theorem impl_frame_ev (l : List Int) (hb : BytesIn l) (hn : l.length ≤ 140737488000000) : Ev (fun k => impl_Frame.f k l) (frameB l) := by
  obtain ⟨K1, h1⟩ := impl_sum_ev l hb (by omega)
  obtain ⟨K2, h2⟩ := impl_addNum_ev (l.length : Int) (fourB (sumN l)) (by unfold fourB; simp)
  have hl := numB_length (clampN (l.length : Int))
  dsimp only at h1 h2
  refine ⟨K1 + K2, fun k hk => ?_⟩
  simp only [impl_Frame.f, impl_word.f]
  rw [h1 k (by omega), Option.bind_some, Option.bind_some]
  have h2 := h2 k (by omega)
  unfold fourB at h2
  rw [h2, Option.bind_some, if_pos (by rw [List.length_append]; simp; omega), List.append_assoc]
  rfl

def textB (s : ByteArray) : List Int := numB (clampN (s.size : Int)) ++ bytesOf s
theorem textB_length (s : ByteArray) : (textB s).length ≤ s.size + 5 := by
  have := numB_length (clampN (s.size : Int))
  unfold textB
  rw [List.length_append, bytesOf_length]
  omega

theorem spec_putText_ev (s : ByteArray) (xs : List Int) (ho : xs.length + s.size + 10 < 140737488355328) : Ev (fun k => spec_PutText.f k xs s) (xs ++ textB s) := by
  obtain ⟨K, h⟩ := spec_putNum_ev (s.size : Int) xs (by omega)
  have hl := numB_length (clampN (s.size : Int))
  dsimp only at h
  refine ⟨K, fun k hk => ?_⟩
  simp only [spec_PutText.f]
  rw [h k hk, Option.bind_some, if_pos (by rw [List.length_append]; omega), List.append_assoc]
  rfl

theorem impl_addText_ev (s : ByteArray) (xs : List Int) (ho : xs.length + s.size + 10 < 140737488355328) : Ev (fun k => impl_addText.f k xs s) (xs ++ textB s) := by
  obtain ⟨K, h⟩ := impl_addNum_ev (s.size : Int) xs (by omega)
  have hl := numB_length (clampN (s.size : Int))
  dsimp only at h
  refine ⟨K, fun k hk => ?_⟩
  simp only [impl_addText.f]
  rw [h k hk, Option.bind_some, if_pos (by rw [List.length_append]; omega), List.append_assoc]
  rfl



theorem BytesIn.set {l : List Int} (h : BytesIn l) (i : Nat) (x : Int) (h0 : 0 ≤ x) (h1 : x ≤ 255) : BytesIn (l.set i x) := by
  apply BytesIn.of_mem
  intro y hy
  rcases List.mem_or_eq_of_mem_set hy with hm | rfl
  · exact h.mem y hm
  · exact ⟨h0, h1⟩
theorem BytesIn.append {l m : List Int} (h : BytesIn l) (h' : BytesIn m) : BytesIn (l ++ m) := by
  apply BytesIn.of_mem
  intro y hy
  rcases List.mem_append.1 hy with hm | hm
  · exact h.mem y hm
  · exact h'.mem y hm
theorem BytesIn.nil : BytesIn [] := BytesIn.of_mem (by simp)
theorem BytesIn.one {x : Int} (h0 : 0 ≤ x) (h1 : x ≤ 255) : BytesIn [x] := BytesIn.of_mem (by intro y hy; rw [List.mem_singleton] at hy; subst hy; exact ⟨h0, h1⟩)

theorem bytesOf_in (s : ByteArray) : BytesIn (bytesOf s) := by
  apply BytesIn.of_mem
  intro x hx
  simp only [bytesOf, List.mem_map] at hx
  obtain ⟨b, _, rfl⟩ := hx
  have := b.toNat_lt
  omega

theorem numB_in (n : Int) (h0 : 0 ≤ n) (h1 : n ≤ 1000000000) : BytesIn (numB n) := by
  apply BytesIn.of_mem
  unfold numB
  intro x hx
  (repeat' split at hx) <;> simp only [List.mem_cons, List.not_mem_nil, or_false] at hx <;> omega
theorem numC_in (n : Int) : BytesIn (numB (clampN n)) := numB_in _ (clampN_range n).1 (clampN_range n).2
theorem textB_in (s : ByteArray) : BytesIn (textB s) := (numC_in _).append (bytesOf_in s)

theorem fourB_in (a : Int) : BytesIn (fourB a) := by
  apply BytesIn.of_mem
  unfold fourB
  intro x hx
  simp only [List.mem_cons, List.not_mem_nil, or_false] at hx
  omega
theorem frameB_in {l : List Int} (h : BytesIn l) : BytesIn (frameB l) := (fourB_in _).append ((numC_in _).append h)
theorem frameB_le (l : List Int) : (frameB l).length ≤ l.length + 9 := by
  have := frameB_length l
  have := numB_length (clampN (l.length : Int))
  omega

def SizesIn (l : List S33) : Prop := ∀ x ∈ l, x.f0.size ≤ 1048576 ∧ x.f1.size ≤ 1048576
theorem SizesIn.at {l : List S33} (h : SizesIn l) (i : Nat) (hi : i < l.length) : (rd_T33 l (i : Int)).f0.size ≤ 1048576 ∧ (rd_T33 l (i : Int)).f1.size ≤ 1048576 := by
  apply h
  simp only [rd_T33, Int.toNat_natCast]
  rw [List.getD_eq_getElem?_getD, List.getElem?_eq_getElem hi]
  exact List.getElem_mem _
theorem block_both (xs : List S33) (hn : xs.length ≤ 1048576) (hs : SizesIn xs) : Both (fun r => BytesIn r ∧ r.length ≤ xs.length * 2097200 + 9) (fun k => spec_l5Block.f k xs) (fun k => impl_putBlock.f k xs) := by
  have key : ∀ (d i : Nat) (out : List Int) (pv : ByteArray), i + d = xs.length → BytesIn out → out.length ≤ i * 2097200 → Both (fun r => BytesIn r ∧ r.length ≤ xs.length * 2097200 + 9) (fun k => spec_l5Block.l0 k xs out pv (i : Int)) (fun k => impl_putBlock.l0 k out pv xs (xs.length : Int) (i : Int)) := by
    intro d
    induction d with
    | zero =>
      intro i out pv hi ho hl
      refine Both.step (fun k => spec_l5Block.l0.eq_2 ..) (fun k => impl_putBlock.l0.eq_2 ..) ?_
      have e1 : ((i : Int) < (xs.length : Int)) = False := eq_false (by omega)
      simp only [e1, if_false]
      have := frameB_le out
      exact Both.bind (Both.eq (spec_frame_ev out ho (by omega)) (impl_frame_ev out ho (by omega))) (fun r hr => by
        (try dsimp only at hr)
        subst hr
        exact Both.ret _ ⟨frameB_in ho, by omega⟩)
    | succ d ih =>
      intro i out pv hi ho hl
      refine Both.step (fun k => spec_l5Block.l0.eq_2 ..) (fun k => impl_putBlock.l0.eq_2 ..) ?_
      have e1 : ((i : Int) < (xs.length : Int)) = True := eq_true (by omega)
      have e2 : (0 ≤ (i : Int)) = True := eq_true (by omega)
      have ew : wrap64 ((i : Int) + 1) = ((i + 1 : Nat) : Int) := wrap_succ (n := xs.length) (by omega) (by omega)
      have hz := hs.at i (by omega)
      simp only [e1, e2, if_true, ew]
      generalize rd_T33 xs (i : Int) = x at hz
      refine Both.bind (common_both pv x.f0 hz.1) (fun c hc => ?_)
      refine Both.bind (Both.eq (spec_putNum_ev c out (by omega)) (impl_addNum_ev c out (by omega))) (fun t ht => ?_)
      (try dsimp only at ht)
      have nl := numB_length (clampN c)
      have tl : t.length ≤ out.length + 5 := by rw [ht, List.length_append]; omega
      have tin : BytesIn t := by rw [ht]; exact ho.append (numC_in c)
      have c1 : (0 ≤ c) = True := eq_true hc.1
      have c2 : (c ≤ (x.f0.size : Int)) = True := eq_true hc.2
      simp only [c1, c2, if_true]
      have xl := extract_le x.f0 c.toNat
      refine Both.bind (Both.eq (spec_putText_ev (x.f0.extract c.toNat x.f0.size) t (by omega)) (impl_addText_ev (x.f0.extract c.toNat x.f0.size) t (by omega))) (fun u hu => ?_)
      (try dsimp only at hu)
      have ul : u.length ≤ t.length + (x.f0.size + 5) := by
        have := textB_length (x.f0.extract c.toNat x.f0.size)
        rw [hu, List.length_append]; omega
      have uin : BytesIn u := by rw [hu]; exact tin.append (textB_in _)
      have u1 : (u.length < 140737488355328) = True := eq_true (by omega)
      have fin : ∀ b : Int, 0 ≤ b → b ≤ 1 → Both (fun r => BytesIn r ∧ r.length ≤ xs.length * 2097200 + 9) (fun k => (spec_PutText.f k (u ++ [b]) x.f1).bind fun t181 => (spec_l5Block.l0 k xs t181 x.f0 ((i + 1 : Nat) : Int))) (fun k => (impl_addText.f k (u ++ [b]) x.f1).bind fun t339 => (impl_putBlock.l0 k t339 x.f0 xs (xs.length : Int) ((i + 1 : Nat) : Int))) := by
        intro b b0 b1
        have bl : (u ++ [b]).length = u.length + 1 := by simp
        refine Both.bind (Both.eq (spec_putText_ev x.f1 (u ++ [b]) (by omega)) (impl_addText_ev x.f1 (u ++ [b]) (by omega))) (fun v hv => ?_)
        (try dsimp only at hv)
        have vl : v.length ≤ u.length + 1 + (x.f1.size + 5) := by
          have := textB_length x.f1
          rw [hv, List.length_append]; omega
        refine ih (i + 1) v x.f0 (by omega) (by rw [hv]; exact (uin.append (BytesIn.one b0 (by omega))).append (textB_in _)) (by omega)
      by_cases hf : x.f2 = true
      · simp only [hf, impl_bit.f, u1, if_true, Option.bind_some]
        exact fin 1 (by omega) (by omega)
      · simp only [hf, impl_bit.f, u1, if_true, if_false, Bool.false_eq_true, Option.bind_some]
        exact fin 0 (by omega) (by omega)
  exact key xs.length 0 [] _ (by omega) BytesIn.nil (by simp)

theorem l1In_eq (a b c : Int) : spec_l1In.f a b c = some (decide (b ≤ a) && decide (a ≤ c)) := by
  unfold spec_l1In.f
  by_cases h : a ≥ b
  · rw [if_pos h, decide_eq_true (show b ≤ a from h), Bool.true_and]
  · rw [if_neg h, decide_eq_false (show ¬ b ≤ a from h), Bool.false_and]

theorem in_eq (a b c : Int) : impl_in.f a b c = some (decide (b ≤ a) && decide (a ≤ c)) := by
  unfold impl_in.f
  by_cases h : a ≥ b
  · rw [if_pos h, decide_eq_true (show b ≤ a from h), Bool.true_and]
  · rw [if_neg h, decide_eq_false (show ¬ b ≤ a from h), Bool.false_and]

theorem ite_and (a b : Bool) : (if a = true then some b else some false) = some (a && b) := by cases a <;> rfl
theorem ite_some {c : Prop} [Decidable c] (a b : Bool) : (if c then some a else some b) = some (if c then a else b) := by split <;> rfl
theorem neq_self (b : Bool) : (if (b != b) = true then (some false : Option Bool) else some true) = some true := by cases b <;> rfl

theorem pairOk_eq (a b : ByteArray) (c : Bool) : impl_PairOk.f a b c = spec_PairOk.f a b c := by
  simp only [impl_PairOk.f, spec_PairOk.f, impl_keyOk.f, in_eq, l1In_eq, Option.bind_some]
theorem pairOk_some (a b : ByteArray) (c : Bool) : ∃ r, spec_PairOk.f a b c = some r := by
  simp only [spec_PairOk.f, l1In_eq, Option.bind_some]
  (repeat' split) <;> exact ⟨_, rfl⟩

theorem rising_both (xs : List S33) (hn : xs.length ≤ 1048576) : Both (fun _ => True) (fun k => spec_l4Rising.f k xs) (fun k => impl_rising.f k xs) := by
  have key : ∀ (d i : Nat), i + d = xs.length → Both (fun _ => True) (fun k => spec_l4Rising.l0 k xs (i : Int)) (fun k => impl_rising.l0 k xs xs (xs.length : Int) (i : Int)) := by
    intro d
    induction d with
    | zero =>
      intro i hi
      refine Both.step (fun k => spec_l4Rising.l0.eq_2 ..) (fun k => impl_rising.l0.eq_2 ..) ?_
      have e1 : ((i : Int) < (xs.length : Int)) = False := eq_false (by omega)
      simp only [e1, if_false]
      exact Both.ret _ trivial
    | succ d ih =>
      intro i hi
      refine Both.step (fun k => spec_l4Rising.l0.eq_2 ..) (fun k => impl_rising.l0.eq_2 ..) ?_
      have e1 : ((i : Int) < (xs.length : Int)) = True := eq_true (by omega)
      have e2 : (0 ≤ (i : Int)) = True := eq_true (by omega)
      simp only [e1, e2, if_true, pairOk_eq]
      obtain ⟨b, hb⟩ := pairOk_some (rd_T33 xs (i : Int)).f0 (rd_T33 xs (i : Int)).f1 (rd_T33 xs (i : Int)).f2
      have ew : wrap64 ((i : Int) + 1) = ((i + 1 : Nat) : Int) := wrap_succ (n := xs.length) (by omega) (by omega)
      simp only [hb, Option.bind_some, ew]
      refine Both.ite (fun _ => Both.ite (fun hp => ?_) (fun _ => ih (i + 1) (by omega))) (fun _ => Both.ret _ trivial)
      have ew2 : wrap64 ((i : Int) - 1) = (i : Int) - 1 := wrap_id (by omega) (by omega)
      have e3 : (0 ≤ (i : Int) - 1) = True := eq_true (by omega)
      have e4 : ((i : Int) - 1 < (xs.length : Int)) = True := eq_true (by omega)
      simp only [ew2, e3, e4, if_true]
      exact Both.ite (fun _ => ih (i + 1) (by omega)) (fun _ => Both.ret _ trivial)
  exact key xs.length 0 (by omega)

def markR (s : ByteArray) : Int × Int := (sumN (bytesOf s) % 64, sumN (bytesOf s) / 64 % 64)
theorem markR_range (s : ByteArray) : 0 ≤ (markR s).1 ∧ (markR s).1 < 64 ∧ 0 ≤ (markR s).2 ∧ (markR s).2 < 64 := by unfold markR; dsimp only; omega
theorem mark_arith {t : Int} (h0 : 0 ≤ t) (h1 : t ≤ 4294967295) : (Int.tmod t 64, Int.tmod (wrap64 (Int.tdiv t 64)) 64) = (t % 64, t / 64 % 64) := by
  rw [Int.tmod_eq_emod_of_nonneg h0, Int.tdiv_eq_ediv_of_nonneg h0, wrap_id (by omega) (by omega), Int.tmod_eq_emod_of_nonneg (by omega)]
theorem spec_mark_ev (s : ByteArray) (h : s.size < 281474976710656) : Ev (fun k => spec_Mark.f k s) (markR s) := by
  obtain ⟨K, h2⟩ := spec_sum_ev (bytesOf s) (bytesOf_in s) (by rw [bytesOf_length]; omega)
  have hr := sumN_range (bytesOf_in s).nat
  dsimp only at h2
  refine ⟨K, fun k hk => ?_⟩
  simp only [spec_Mark.f]
  rw [if_pos (by omega), h2 k hk, Option.bind_some, mark_arith hr.1 hr.2]
  rfl
theorem impl_mark_ev (s : ByteArray) (h : s.size < 281474976710656) : Ev (fun k => impl_Mark.f k s) (markR s) := by
  obtain ⟨K, h2⟩ := impl_sum_ev (bytesOf s) (bytesOf_in s) (by rw [bytesOf_length]; omega)
  have hr := sumN_range (bytesOf_in s).nat
  dsimp only at h2
  refine ⟨K, fun k hk => ?_⟩
  simp only [impl_Mark.f]
  rw [if_pos (by omega), h2 k hk, Option.bind_some, mark_arith hr.1 hr.2]
  rfl

theorem div8 {t : Int} (h0 : 0 ≤ t) (h1 : t < 64) : wrap64 (Int.tdiv t 8) = t / 8 := by
  rw [Int.tdiv_eq_ediv_of_nonneg h0, wrap_id (by omega) (by omega)]
theorem mod8 {t : Int} (h0 : 0 ≤ t) : Int.tmod t 8 = t % 8 := Int.tmod_eq_emod_of_nonneg h0
theorem u64_small {t : Int} (h0 : 0 ≤ t) (h1 : t < 64) : IntKind.u64.wrap t = t := by
  simp only [IntKind.wrap, IntKind.bits, IntKind.signed]
  simp
  omega

theorem filterb_both (xs : List ByteArray) (hn : xs.length ≤ 1048576) (hs : ∀ x ∈ xs, x.size ≤ 1048576) : Both (fun r => r.length = 8 ∧ BytesIn r) (fun k => spec_Filter.f k xs) (fun k => impl_Filter.f k xs) := by
  have key : ∀ (d i : Nat) (out : List Int), i + d = xs.length → out.length = 8 → BytesIn out → Both (fun r => r.length = 8 ∧ BytesIn r) (fun k => spec_Filter.l0 k xs out (i : Int)) (fun k => impl_Filter.l0 k out xs (xs.length : Int) (i : Int)) := by
    intro d
    induction d with
    | zero =>
      intro i out hi ho hob
      refine Both.step (fun k => spec_Filter.l0.eq_2 ..) (fun k => impl_Filter.l0.eq_2 ..) ?_
      have e1 : ((i : Int) < (xs.length : Int)) = False := eq_false (by omega)
      simp only [e1, if_false]
      exact Both.ret _ ⟨ho, hob⟩
    | succ d ih =>
      intro i out hi ho hob
      refine Both.step (fun k => spec_Filter.l0.eq_2 ..) (fun k => impl_Filter.l0.eq_2 ..) ?_
      have e1 : ((i : Int) < (xs.length : Int)) = True := eq_true (by omega)
      have e2 : (0 ≤ (i : Int)) = True := eq_true (by omega)
      have ew : wrap64 ((i : Int) + 1) = ((i + 1 : Nat) : Int) := wrap_succ (n := xs.length) (by omega) (by omega)
      have eg : rdOf ByteArray.empty xs (i : Int) = xs.getD i ByteArray.empty := by simp [rdOf]
      have hm : (xs.getD i ByteArray.empty).size ≤ 1048576 := hs _ (by
        rw [List.getD_eq_getElem?_getD, List.getElem?_eq_getElem (show i < xs.length by omega)]
        exact List.getElem_mem _)
      simp only [e1, e2, if_true, ew, eg, Option.bind_some]
      refine Both.bind (Both.eq (spec_mark_ev _ (by omega)) (impl_mark_ev _ (by omega))) (fun b hb => ?_)
      obtain ⟨r1, r2, r3, r4⟩ := markR_range (xs.getD i ByteArray.empty)
      rw [← hb] at r1 r2 r3 r4
      have q1 : (0 ≤ b.1 / 8) = True := eq_true (by omega)
      have q2 : (b.1 / 8 < (out.length : Int)) = True := eq_true (by omega)
      have q3 : (0 ≤ b.1 % 8) = True := eq_true (by omega)
      have q4 : (0 ≤ b.2 / 8) = True := eq_true (by omega)
      have q5 : (b.2 / 8 < (out.length : Int)) = True := eq_true (by omega)
      have q6 : (0 ≤ b.2 % 8) = True := eq_true (by omega)
      have d1 := div8 r1 r2
      have d2 := div8 r3 r4
      have m1 := mod8 r1
      have m2 := mod8 r3
      have u1 := u64_small (t := b.1 % 8) (by omega) (by omega)
      have u2 := u64_small (t := b.2 % 8) (by omega) (by omega)
      simp only [d1, d2, m1, m2, u1, u2, q1, q2, q3, q4, q5, q6, if_true]
      exact ih (i + 1) _ (by omega) (by simp [ho]) ((hob.set _ _ (bits_lo_u8 ..) (bits_hi_u8 ..)).set _ _ (bits_lo_u8 ..) (bits_hi_u8 ..))
  have h8 : (8 ≤ 281474976710656) = True := eq_true (by omega)
  simp only [spec_Filter.f, impl_Filter.f, h8, if_true]
  exact key xs.length 0 _ (by omega) (by simp) (BytesIn.of_mem (by intro x hx; rw [List.mem_replicate] at hx; omega))

theorem SizesIn.cut {l : List S33} (h : SizesIn l) (a b : Nat) : SizesIn ((l.take b).drop a) := fun x hx => h x (List.mem_of_mem_take (List.mem_of_mem_drop hx))
theorem rd_cut (l : List S33) (a b i : Nat) (hi : a + i < b) : rd_T33 ((l.take b).drop a) (i : Int) = rd_T33 l ((a + i : Nat) : Int) := by
  simp only [rd_T33, Int.toNat_natCast, List.getD_eq_getElem?_getD, List.getElem?_drop, List.getElem?_take, if_pos hi]
theorem table_end (xs : List S33) (hn : xs.length ≤ 200) (hs : SizesIn xs) (out idx : List Int) (ho : BytesIn out) (hi : BytesIn idx) (lo : out.length ≤ 100000000000) (li : idx.length ≤ 100000000000) (c : Int) :
    Both (fun r => BytesIn r ∧ r.length ≤ 1000000000000) (fun k => spec_PutTable.l1 k xs out [] idx c 0) (fun k => impl_PutTable.l1 k out idx [] c xs (xs.length : Int) 0) := by
  have key : ∀ (d i : Nat) (ks : List ByteArray), i + d = xs.length → ks.length = i → (∀ x ∈ ks, x.size ≤ 1048576) → Both (fun r => BytesIn r ∧ r.length ≤ 1000000000000) (fun k => spec_PutTable.l1 k xs out ks idx c (i : Int)) (fun k => impl_PutTable.l1 k out idx ks c xs (xs.length : Int) (i : Int)) := by
    intro d
    induction d with
    | zero =>
      intro i ks hi' hk hz
      refine Both.step (fun k => spec_PutTable.l1.eq_2 ..) (fun k => impl_PutTable.l1.eq_2 ..) ?_
      have e1 : ((i : Int) < (xs.length : Int)) = False := eq_false (by omega)
      simp only [e1, if_false]
      refine Both.bind (Both.eq (spec_putNum_ev c [] (by simp)) (impl_addNum_ev c [] (by simp))) (fun t ht => ?_)
      simp only [List.nil_append] at ht
      have nl := numB_length (clampN c)
      have tl : t.length ≤ 5 := by rw [ht]; omega
      have c1 : (t.length + idx.length < 140737488355328) = True := eq_true (by omega)
      simp only [c1, if_true, Option.bind_some]
      have yin : BytesIn (t ++ idx) := by rw [ht]; exact (numC_in c).append hi
      have yl : (t ++ idx).length = t.length + idx.length := List.length_append
      generalize t ++ idx = y at yin yl
      refine Both.bind (filterb_both ks (by omega) hz) (fun f hf => ?_)
      have c2 : (y.length + f.length < 140737488355328) = True := eq_true (by omega)
      simp only [c2, if_true]
      have zin : BytesIn (y ++ f) := yin.append hf.2
      have zl : (y ++ f).length = y.length + f.length := List.length_append
      generalize y ++ f = z at zin zl
      refine Both.bind (Both.eq (spec_frame_ev z zin (by omega)) (impl_frame_ev z zin (by omega))) (fun g hg => ?_)
      (try dsimp only at hg)
      have gl := frameB_le z
      rw [← hg] at gl
      have gin : BytesIn g := by rw [hg]; exact frameB_in zin
      have c3 : (out.length + g.length < 140737488355328) = True := eq_true (by omega)
      simp only [c3, if_true, Option.bind_some, spec_l1Four.f, impl_word.f]
      have wl : (out ++ g).length = out.length + g.length := List.length_append
      have win : BytesIn (out ++ g) := ho.append gin
      generalize out ++ g = w at wl win
      have c4 : (w.length + [(out.length : Int) / 16777216 % 256, (out.length : Int) / 65536 % 256, (out.length : Int) / 256 % 256, (out.length : Int) % 256].length < 140737488355328) = True := eq_true (by simp only [List.length_cons, List.length_nil]; omega)
      simp only [c4, if_true]
      refine Both.ret _ ⟨win.append (fourB_in (out.length : Int)), ?_⟩
      rw [List.length_append]
      simp only [List.length_cons, List.length_nil]
      omega
    | succ d ih =>
      intro i ks hi' hk hz
      refine Both.step (fun k => spec_PutTable.l1.eq_2 ..) (fun k => impl_PutTable.l1.eq_2 ..) ?_
      have e1 : ((i : Int) < (xs.length : Int)) = True := eq_true (by omega)
      have e2 : (0 ≤ (i : Int)) = True := eq_true (by omega)
      have e3 : (ks.length < 8796093022208) = True := eq_true (by omega)
      have ew : wrap64 ((i : Int) + 1) = ((i + 1 : Nat) : Int) := wrap_succ (n := xs.length) (by omega) (by omega)
      simp only [e1, e2, e3, if_true, ew]
      refine ih (i + 1) _ (by omega) (by simp [hk]) ?_
      intro x hx
      rcases List.mem_append.1 hx with h | h
      · exact hz x h
      · rw [List.mem_singleton] at h
        subst h
        exact (hs.at i (by omega)).1
  exact key xs.length 0 [] (by omega) rfl (by simp)
theorem table_l0 (xs : List S33) (hn : xs.length ≤ 200) (hs : SizesIn xs) : ∀ (d i : Nat) (c : Int) (out idx : List Int), xs.length ≤ i + d → i ≤ 204 → BytesIn out → BytesIn idx → out.length ≤ i * 100000000 → idx.length ≤ i * 100000000 →
    Both (fun r => BytesIn r ∧ r.length ≤ 1000000000000) (fun k => spec_PutTable.l0 k xs out [] idx c (i : Int)) (fun k => impl_PutTable.l0 k xs out idx c (i : Int)) := by
  intro d
  induction d with
  | zero =>
    intro i c out idx hi hi2 ho hx lo lx
    refine Both.step (fun k => spec_PutTable.l0.eq_2 ..) (fun k => impl_PutTable.l0.eq_2 ..) ?_
    have e1 : ((i : Int) < (xs.length : Int)) = False := eq_false (by omega)
    simp only [e1, if_false]
    exact table_end xs hn hs out idx ho hx (by omega) (by omega) c
  | succ d ih =>
    intro i c out idx hi hi2 ho hx lo lx
    by_cases hlt : i < xs.length
    · refine Both.step (fun k => spec_PutTable.l0.eq_2 ..) (fun k => impl_PutTable.l0.eq_2 ..) ?_
      have e1 : ((i : Int) < (xs.length : Int)) = True := eq_true (by omega)
      have e2 : (0 ≤ (i : Int)) = True := eq_true (by omega)
      have w4 : wrap64 ((i : Int) + 4) = ((i + 4 : Nat) : Int) := (wrap_id (by omega) (by omega)).trans (by omega)
      -- the end of the block
      obtain ⟨e, he⟩ : ∃ e : Nat, e = min (i + 4) xs.length := ⟨_, rfl⟩
      have me : mn ((i + 4 : Nat) : Int) (xs.length : Int) = (e : Int) := by unfold mn; split <;> omega
      have me1 : (i : Int) ≤ (e : Int) := by omega
      have yl : ((xs.take e).drop i).length = e - i := by rw [List.length_drop, List.length_take]; omega
      have rl : rd_T33 ((xs.take e).drop i) ((e : Int) - (i : Int) - 1) = rd_T33 xs ((e : Int) - 1) := by
        have h := rd_cut xs i e (e - i - 1) (by omega)
        have q1 : ((e - i - 1 : Nat) : Int) = (e : Int) - (i : Int) - 1 := by omega
        have q2 : ((i + (e - i - 1) : Nat) : Int) = (e : Int) - 1 := by omega
        rw [q1, q2] at h
        exact h
      have body : Both (fun r => BytesIn r ∧ r.length ≤ 1000000000000)
          (fun k => (spec_PutText.f k idx ((rd_T33 xs ((e : Int) - 1)).f0)).bind fun t => (spec_PutNum.f k t (out.length : Int)).bind fun u => (spec_l5Block.f k ((xs.take e).drop i)).bind fun v => if out.length + v.length < 140737488355328 then spec_PutTable.l0 k xs (out ++ v) [] u (wrap64 (c + 1)) ((i + 4 : Nat) : Int) else none)
          (fun k => (impl_addText.f k idx ((rd_T33 xs ((e : Int) - 1)).f0)).bind fun t => (impl_addNum.f k t (out.length : Int)).bind fun u => (impl_putBlock.f k ((xs.take e).drop i)).bind fun v => if out.length + v.length < 140737488355328 then impl_PutTable.l0 k xs (out ++ v) u (wrap64 (c + 1)) ((i + 4 : Nat) : Int) else none) := by
        have hz := hs.at (e - 1) (by omega)
        have q : ((e - 1 : Nat) : Int) = (e : Int) - 1 := by omega
        rw [q] at hz
        generalize rd_T33 xs ((e : Int) - 1) = x at hz
        refine Both.bind (Both.eq (spec_putText_ev x.f0 idx (by omega)) (impl_addText_ev x.f0 idx (by omega))) (fun t ht => ?_)
        (try dsimp only at ht)
        have tl : t.length ≤ idx.length + (x.f0.size + 5) := by
          have := textB_length x.f0
          rw [ht, List.length_append]; omega
        have tin : BytesIn t := by rw [ht]; exact hx.append (textB_in _)
        refine Both.bind (Both.eq (spec_putNum_ev (out.length : Int) t (by omega)) (impl_addNum_ev (out.length : Int) t (by omega))) (fun u hu => ?_)
        (try dsimp only at hu)
        have ul : u.length ≤ t.length + 5 := by
          have := numB_length (clampN (out.length : Int))
          rw [hu, List.length_append]; omega
        have uin : BytesIn u := by rw [hu]; exact tin.append (numC_in _)
        refine Both.bind (block_both ((xs.take e).drop i) (by omega) (hs.cut i e)) (fun v hv => ?_)
        have vl := hv.2
        rw [yl] at vl
        have c1 : (out.length + v.length < 140737488355328) = True := eq_true (by omega)
        simp only [c1, if_true]
        exact ih (i + 4) _ (out ++ v) u (by omega) (by omega) (ho.append hv.1) uin (by rw [List.length_append]; omega) (by omega)
      have f1 : (0 ≤ (e : Int) - 1) = True := eq_true (by omega)
      have f2 : ((e : Int) - 1 < (xs.length : Int)) = True := eq_true (by omega)
      have f3 : ((i : Int) ≤ (e : Int)) = True := eq_true me1
      have f4 : ((e : Int) ≤ (xs.length : Int)) = True := eq_true (by omega)
      have f5 : (0 ≤ (e : Int) - (i : Int) - 1) = True := eq_true (by omega)
      have f6 : ((e : Int) - (i : Int) - 1 < (((xs.take e).drop i).length : Int)) = True := eq_true (by omega)
      have wy : wrap64 ((((xs.take e).drop i).length : Int) - 1) = (e : Int) - (i : Int) - 1 := (wrap_id (by omega) (by omega)).trans (by omega)
      by_cases h4 : ((i + 4 : Nat) : Int) > (xs.length : Int)
      · have ee : (xs.length : Int) = (e : Int) := by omega
        have wl : wrap64 ((e : Int) - 1) = (e : Int) - 1 := wrap_id (by omega) (by omega)
        have h4' : (((i + 4 : Nat) : Int) > (e : Int)) = True := eq_true (by omega)
        have e1' : ((i : Int) < (e : Int)) = True := eq_true (by omega)
        rw [ee] at me f2 f4
        have f7 : ((e : Int) ≤ (e : Int)) = True := eq_true (by omega)
        have f2' : ((e : Int) - 1 < (e : Int)) = True := eq_true (by omega)
        simp only [ee, e1', w4, h4', wl, me, e2, f1, f2', f3, f7, f5, f6, wy, rl, if_true, Option.bind_some, Int.toNat_natCast]
        exact body
      · have ee : ((i + 4 : Nat) : Int) = (e : Int) := by omega
        have wl : wrap64 ((e : Int) - 1) = (e : Int) - 1 := wrap_id (by omega) (by omega)
        rw [ee] at me w4 h4 body
        have h4' : ((e : Int) > (xs.length : Int)) = False := eq_false h4
        simp only [e1, w4, h4', wl, me, e2, f1, f2, f3, f4, f5, f6, wy, rl, if_true, if_false, Option.bind_some, Int.toNat_natCast]
        exact body
    · refine Both.step (fun k => spec_PutTable.l0.eq_2 ..) (fun k => impl_PutTable.l0.eq_2 ..) ?_
      have e1 : ((i : Int) < (xs.length : Int)) = False := eq_false (by omega)
      simp only [e1, if_false]
      exact table_end xs hn hs out idx ho hx (by omega) (by omega) c
theorem putTable_both (xs : List S33) (hn : xs.length ≤ 1048576) (hs : SizesIn xs) : Both (fun r => BytesIn r ∧ r.length ≤ 1000000000000) (fun k => spec_PutTable.f k xs) (fun k => impl_PutTable.f k xs) := by
  obtain ⟨b, _, h1, h2⟩ := rising_both xs hn
  have out : Both (fun r => BytesIn r ∧ r.length ≤ 1000000000000) (fun k => spec_PutTable.j0 k xs [] true) (fun k => impl_PutTable.j0 k xs true) := by
    refine Both.step (fun k => spec_PutTable.j0.eq_2 ..) (fun k => impl_PutTable.j0.eq_2 ..) ?_
    simp only [if_true]
    exact Both.ret _ ⟨BytesIn.nil, by simp⟩
  simp only [spec_PutTable.f, impl_PutTable.f, Option.bind_some, in_eq, l1In_eq]
  by_cases hc : (decide (1 ≤ (xs.length : Int)) && decide ((xs.length : Int) ≤ 200)) = true
  · have hl : xs.length ≤ 200 := by
      rw [Bool.and_eq_true, decide_eq_true_eq, decide_eq_true_eq] at hc
      omega
    simp only [hc, if_true, Bool.not_true]
    refine Both.bind (Both.eq h1 h2) (fun b' _ => ?_)
    cases b' with
    | true =>
      simp only [if_true, Bool.not_true]
      refine Both.step (fun k => spec_PutTable.j0.eq_2 ..) (fun k => impl_PutTable.j0.eq_2 ..) ?_
      simp only [Bool.false_eq_true, if_false]
      exact table_l0 xs hl hs 200 0 0 [] [] (by omega) (by omega) BytesIn.nil BytesIn.nil (by simp) (by simp)
    | false =>
      simp only [Bool.false_eq_true, if_false, Bool.not_false]
      exact out
  · have hc' := eq_false_of_ne_true hc
    simp only [hc', Bool.false_eq_true, if_false, Bool.not_false]
    obtain ⟨r, hr, o1, o2⟩ := out
    refine ⟨r, hr, ?_, o2⟩
    refine Ev.bind' (f := fun n (t : Bool) => if t = true then spec_PutTable.j0 n xs [] true else spec_PutTable.j0 n xs [] true) h1 ?_
    simpa using o1

theorem FnExactPutTable : laws_FnExactPutTable.Pure := by
  intro xs hx
  refine Comes.true_ ?_
  simp only [laws_FnExactPutTable.f]
  refine Comes.bind (szPairSb_comes xs ⟨hx.1, fun y hy => ⟨(hx.2 y hy).1, (hx.2 y hy).2.1⟩⟩ 1048576 (by omega) (by omega)) (fun t ht => Comes.ite (fun _ => Comes.ret true rfl) (fun hn => ?_))
  have hb := ht.2 (by omega)
  have hlen : xs.length ≤ 1048576 := by omega
  have hsz : SizesIn (xs.map toPair) := by
    intro y hy
    obtain ⟨z, hz, rfl⟩ := List.mem_map.1 hy
    exact hb.2 z hz
  obtain ⟨r, hr, h2, h3⟩ := putTable_both (xs.map toPair) (by simp; omega) hsz
  have hr2 := hr.2
  obtain ⟨K1, h1⟩ := toPairS_ev xs hlen
  obtain ⟨K2, h2⟩ := h2
  obtain ⟨K3, h3⟩ := h3
  obtain ⟨K4, h4⟩ := eqByteS_ev r (by omega)
  obtain ⟨K5, h5⟩ := eqPairS_ev (xs.map toPair) (by simp; omega)
  obtain ⟨K6, h6⟩ := markPairS_ev (xs.map toPair) 1 (by omega) (by simp; omega)
  obtain ⟨K7, h7⟩ := markByteS_ev r 1 (by omega) (by omega)
  obtain ⟨K8, h8⟩ := heldByteS_ev 1 r.length (by omega) (by omega)
  dsimp only at h1 h2 h3 h4 h5 h6 h7 h8
  refine ⟨true, rfl, K1 + K2 + K3 + K4 + K5 + K6 + K7 + K8 + 1, fun k hk => ?_⟩
  obtain ⟨m, rfl⟩ : ∃ m, k = m + 1 := ⟨k - 1, by omega⟩
  dsimp only
  rw [h1 _ (by omega), Option.bind_some, h2 _ (by omega), Option.bind_some, Option.bind_some, h3 _ (by omega), Option.bind_some, h4 _ (by omega), Option.bind_some, if_pos rfl, Option.bind_some, h5 _ (by omega), Option.bind_some, if_pos rfl, h6 _ (by omega), Option.bind_some, if_neg (by simp only []; omega), Option.bind_some]
  simp only [laws_FnExactPutTable.j0, Bool.not_true]
  rw [if_neg (by simp), h7 _ (by omega), Option.bind_some, h8 _ (by omega), Option.bind_some, if_neg (by omega), if_pos rfl, h1 _ (by omega), Option.bind_some, h3 _ (by omega), Option.bind_some, h4 _ (by omega), Option.bind_some, if_pos rfl, Option.bind_some, if_neg (by omega), if_pos rfl]

end Go.Proofs.Ytbepbgfkajnlbaa.MPureFnExactPutTable
