/- ManOk of the program and of the reference answer the same, for all manifests. No condition. -/
import Derived.Test.YtgncojbnejdplaaMFnExactManOkDef
set_option linter.unusedVariables false
set_option linter.unusedSimpArgs false
namespace Go.Proofs.Ytgncojbnejdplaa.MPureFnExactManOk
open Go.RowKit Go.Proofs.Ytgncojbnejdplaa.MFnExactManOk Go.Proofs.YtgncojbnejdplaaW.PrintWords Go.Proofs.YtgncojbnejdplaaW.PrintLast Go.Proofs.YtgncojbnejdplaaW.PrintMore

theorem wrap_id {i : Int} (h0 : -9223372036854775808 ≤ i) (h1 : i ≤ 9223372036854775807) : wrap64 i = i := by unfold wrap64; omega
theorem wrap_succ {i n : Nat} (h : i < n) (hn : n ≤ 9223372036854775807) : wrap64 ((i : Int) + 1) = ((i + 1 : Nat) : Int) := by unfold wrap64; omega
theorem rd_nat (xs : List Int) (i : Nat) : rd xs (i : Int) = xs.getD i 0 := by simp [rd]
theorem take_set_succ {α : Type} (l : List α) (i : Nat) (x : α) (h : i < l.length) : (l.set i x).take (i + 1) = l.take i ++ [x] := by
  rw [List.take_succ_eq_append_getElem (by simpa using h), List.getElem_set_self, List.take_set_of_le (Nat.le_refl _)]
theorem take_succ_getD {α : Type} (l : List α) (i : Nat) (d : α) (h : i < l.length) : l.take (i + 1) = l.take i ++ [l.getD i d] := by
  rw [List.take_succ_eq_append_getElem h, List.getD_eq_getElem?_getD, List.getElem?_eq_getElem h]
  rfl
theorem take_all {α : Type} {l m : List α} {n : Nat} (h : l.take n = m) (hl : l.length = n) : l = m := by
  rw [← h, ← hl, List.take_length]
theorem wf_u8 {x : Int} (h : (Lit.int .u8 x).wf = true) : 0 ≤ x ∧ x ≤ 255 := by
  simp [Lit.wf, IntKind.min, IntKind.max, IntKind.signed, IntKind.bits] at h
  omega
theorem wf_i64 {x : Int} (h : (Lit.int .i64 x).wf = true) : -9223372036854775808 ≤ x ∧ x ≤ 9223372036854775807 := by
  simp [Lit.wf, IntKind.min, IntKind.max, IntKind.signed, IntKind.bits] at h
  omega

theorem fill_loop {β : Type} (L : Nat → List β → Int → Option (List β)) (n : Nat) (g : Nat → β) (z : β)
    (hs : ∀ (i : Nat) (out : List β) (r : List β), i < n → out.length = n → Ev (fun k => L k (out.set i (g i)) ((i + 1 : Nat) : Int)) r → Ev (fun k => L k out (i : Int)) r)
    (he : ∀ out : List β, out.length = n → Ev (fun k => L k out (n : Int)) out) : Ev (fun k => L k (List.replicate n z) 0) ((List.range n).map g) := by
  have key : ∀ (d i : Nat) (out : List β), i + d = n → out.length = n → out.take i = (List.range i).map g → Ev (fun k => L k out (i : Int)) ((List.range n).map g) := by
    intro d
    induction d with
    | zero =>
      intro i out hi hl ht
      have : i = n := by omega
      subst this
      have e := take_all ht hl
      rw [← e]
      exact he out hl
    | succ d ih =>
      intro i out hi hl ht
      refine hs i out _ (by omega) hl (ih (i + 1) _ (by omega) (by simp [hl]) ?_)
      rw [take_set_succ _ _ _ (by omega), ht, List.range_succ, List.map_append]
      rfl
  exact key n 0 _ (by omega) (by simp) (by simp)
/-- A row that is written from the left: element i becomes g i, and a state goes along. -/
theorem mark_loop {β σ : Type} (L : Nat → List β → σ → Int → Option (σ × List β)) (n : Nat) (g : Nat → β) (st : Nat → σ)
    (hs : ∀ (i : Nat) (out : List β) (r : σ × List β), i < n → out.length = n → Ev (fun k => L k (out.set i (g i)) (st (i + 1)) ((i + 1 : Nat) : Int)) r → Ev (fun k => L k out (st i) (i : Int)) r)
    (he : ∀ out : List β, out.length = n → Ev (fun k => L k out (st n) (n : Int)) (st n, out)) (l : List β) (hl : l.length = n) : Ev (fun k => L k l (st 0) 0) (st n, (List.range n).map g) := by
  have key : ∀ (d i : Nat) (out : List β), i + d = n → out.length = n → out.take i = (List.range i).map g → Ev (fun k => L k out (st i) (i : Int)) (st n, (List.range n).map g) := by
    intro d
    induction d with
    | zero =>
      intro i out hi hl ht
      have : i = n := by omega
      subst this
      have e := take_all ht hl
      rw [← e]
      exact he out hl
    | succ d ih =>
      intro i out hi hl ht
      refine hs i out _ (by omega) hl (ih (i + 1) _ (by omega) (by simp [hl]) ?_)
      rw [take_set_succ _ _ _ (by omega), ht, List.range_succ, List.map_append]
      rfl
  exact key n 0 _ (by omega) hl (by simp)
theorem scan_loop {ρ : Type} (g : Nat → Nat → Option ρ) (n : Nat) (r : ρ) (hs : ∀ i, i < n → Ev (g (i + 1)) r → Ev (g i) r) (he : Ev (g n) r) : Ev (g 0) r := by
  have key : ∀ (d i : Nat), i + d = n → Ev (g i) r := by
    intro d
    induction d with
    | zero => intro i hi; have : i = n := by omega
              subst this; exact he
    | succ d ih => intro i hi; exact hs i (by omega) (ih (i + 1) (by omega))
  exact key n 0 (by omega)
theorem range_map_get {α β : Type} (l : List α) (f : α → β) (d : α) : (List.range l.length).map (fun i => f (l.getD i d)) = l.map f := by
  apply List.ext_getElem?
  intro i
  rw [List.getElem?_map, List.getElem?_map]
  by_cases h : i < l.length
  · simp [h, List.getD_eq_getElem?_getD]
  · rw [List.getElem?_eq_none (by simp; omega), List.getElem?_eq_none (by omega)]
    rfl
theorem range_map_getD {β : Type} (n i : Nat) (g : Nat → β) (d : β) (h : i < n) : ((List.range n).map g).getD i d = g i := by
  simp [List.getD_eq_getElem?_getD, h]
theorem Ev.bind' {α β : Type} {g : Nat → Option α} {f : Nat → α → Option β} {a : α} {r : β} (h : Ev g a) (k : Ev (fun n => f n a) r) : Ev (fun n => (g n).bind (f n)) r := Ev.bind h k
theorem Ev.cond {α : Type} {g f : Nat → Option α} {r : α} (h : ∃ K, ∀ k, K ≤ k → g k = f k) (k : Ev f r) : Ev g r := by
  obtain ⟨K, h⟩ := h
  obtain ⟨K', k⟩ := k
  exact ⟨K + K', fun n hn => by rw [h n (by omega)]; exact k n (by omega)⟩
/-- One round: at n + 1 it is what it is at n of another. -/
theorem Ev.round {α : Type} {g f : Nat → Option α} {r : α} (h : ∃ K, ∀ k, K ≤ k → g (k + 1) = f k) (k : Ev f r) : Ev g r := by
  obtain ⟨K, h⟩ := h
  obtain ⟨K', k⟩ := k
  exact ⟨K + K' + 1, fun n hn => by
    obtain ⟨m, rfl⟩ : ∃ m, n = m + 1 := ⟨n - 1, by omega⟩
    rw [h m (by omega)]; exact k m (by omega)⟩
theorem Ev.ends {α : Type} {g : Nat → Option α} {r : α} (h : ∀ k, g (k + 1) = some r) : Ev g r := ⟨1, fun n hn => by
  obtain ⟨m, rfl⟩ : ∃ m, n = m + 1 := ⟨n - 1, by omega⟩
  exact h m⟩
theorem Ev.all {α : Type} {g : Nat → Option α} {r : α} (h : ∀ k, g k = some r) : Ev g r := ⟨0, fun n _ => h n⟩

def toMeta (x : S135) : S46 := (⟨x.f0, x.f1, x.f2, x.f3⟩ : S46)
theorem toMetaS_ev (l : List S135) (h : l.length ≤ 1048576) : Ev (fun k => laws_toMetaS.f k l) (l.map toMeta) := by
  have hf := fill_loop (fun k out i => laws_toMetaS.l0 k l out i) l.length (fun i => toMeta (l.getD i z135)) z46 (fun i out r hi hl h => ?_) (fun out hl => ?_)
  · rw [range_map_get] at hf
    refine Ev.congr (fun k => ?_) hf
    simp only [laws_toMetaS.f]
    rw [if_pos (by omega), if_pos (by omega)]
    rfl
  · refine Ev.step (fun k => ?_) h
    simp only [laws_toMetaS.l0, laws_toMeta.f, Option.bind_some, rd_T135, Int.toNat_natCast]
    rw [if_pos (by omega), if_pos (by omega), if_pos (by omega), wrap_succ (n := l.length) hi (by omega)]
    rfl
  · refine Ev.ends (fun k => ?_)
    simp only [laws_toMetaS.l0]
    rw [if_neg (by omega)]

/-- Both come to one answer, of which P holds. -/
def Both {α : Type} (P : α → Prop) (f g : Nat → Option α) : Prop := ∃ r, P r ∧ Ev f r ∧ Ev g r
namespace Both
variable {α β : Type} {P : α → Prop} {f f' g g' : Nat → Option α}
theorem step (h1 : ∀ k, f (k + 1) = f' k) (h2 : ∀ k, g (k + 1) = g' k) (h : Both P f' g') : Both P f g := by
  obtain ⟨r, hp, a, b⟩ := h
  exact ⟨r, hp, Ev.step h1 a, Ev.step h2 b⟩
theorem left (h1 : ∀ k, f (k + 1) = f' k) (h : Both P f' g) : Both P f g := by
  obtain ⟨r, hp, a, b⟩ := h
  exact ⟨r, hp, Ev.step h1 a, b⟩
theorem right (h2 : ∀ k, g (k + 1) = g' k) (h : Both P f g') : Both P f g := by
  obtain ⟨r, hp, a, b⟩ := h
  exact ⟨r, hp, a, Ev.step h2 b⟩
theorem ret (r : α) (h : P r) : Both P (fun _ => some r) (fun _ => some r) := ⟨r, h, Ev.now r, Ev.now r⟩
theorem ite {c : Prop} [Decidable c] (h1 : c → Both P f g) (h2 : ¬ c → Both P f' g') : Both P (fun k => if c then f k else f' k) (fun k => if c then g k else g' k) := by
  by_cases h : c
  · simpa only [if_pos h] using h1 h
  · simpa only [if_neg h] using h2 h
theorem bind {Q : β → Prop} {p q : Nat → Option β} {F G : Nat → β → Option α} (h : Both Q p q) (k : ∀ b, Q b → Both P (fun n => F n b) (fun n => G n b)) : Both P (fun n => (p n).bind (F n)) (fun n => (q n).bind (G n)) := by
  obtain ⟨b, hq, h1, h2⟩ := h
  obtain ⟨r, hp, a, c⟩ := k b hq
  exact ⟨r, hp, Ev.bind h1 a, Ev.bind h2 c⟩
theorem of {r : α} (h1 : Ev f r) (h2 : Ev g r) (hp : P r) : Both P f g := ⟨r, hp, h1, h2⟩
theorem mono {P' : α → Prop} (h : Both P f g) (hi : ∀ r, P r → P' r) : Both P' f g := by
  obtain ⟨r, hp, a, b⟩ := h
  exact ⟨r, hi r hp, a, b⟩
end Both
/-- It comes to an answer, of which P holds. -/
def Comes {α : Type} (P : α → Prop) (f : Nat → Option α) : Prop := ∃ r, P r ∧ Ev f r
namespace Comes
variable {α β : Type} {P : α → Prop} {f f' : Nat → Option α}
theorem step (h1 : ∀ k, f (k + 1) = f' k) (h : Comes P f') : Comes P f := by
  obtain ⟨r, hp, a⟩ := h
  exact ⟨r, hp, Ev.step h1 a⟩
theorem ret (r : α) (h : P r) : Comes P (fun _ => some r) := ⟨r, h, Ev.now r⟩
theorem ite {c : Prop} [Decidable c] (h1 : c → Comes P f) (h2 : ¬ c → Comes P f') : Comes P (fun k => if c then f k else f' k) := by
  by_cases h : c
  · simpa only [if_pos h] using h1 h
  · simpa only [if_neg h] using h2 h
theorem bind {Q : β → Prop} {p : Nat → Option β} {F : Nat → β → Option α} (h : Comes Q p) (k : ∀ b, Q b → Comes P (fun n => F n b)) : Comes P (fun n => (p n).bind (F n)) := by
  obtain ⟨b, hq, h1⟩ := h
  obtain ⟨r, hp, a⟩ := k b hq
  exact ⟨r, hp, Ev.bind h1 a⟩
theorem mono {P' : α → Prop} (h : Comes P f) (hi : ∀ r, P r → P' r) : Comes P' f := by
  obtain ⟨r, hp, a⟩ := h
  exact ⟨r, hi r hp, a⟩
theorem rounds (h : Comes P f) : ∃ k r, f k = some r ∧ P r := by
  obtain ⟨r, hp, a⟩ := h
  obtain ⟨k, hk⟩ := a.rounds
  exact ⟨k, r, hk, hp⟩
theorem true_ {f : Nat → Option Bool} (h : Comes (fun b => b = true) f) : ∃ k, f k = some true := by
  obtain ⟨k, r, hk, rfl⟩ := h.rounds
  exact ⟨k, hk⟩
theorem some_ (o : Option α) (r : α) (h : o = some r) (hp : P r) : Comes P (fun _ => o) := ⟨r, hp, Ev.all (fun _ => h)⟩
end Comes

theorem sz_loop {α : Type} (l : List α) (z : α) (B : α → Prop) (F : Nat → Int → Int → Option Int) (g : Nat → Int → Nat → Option Int) (hl : l.length ≤ 9223372036854775806)
    (hF : ∀ (k : Nat) (a : Int) (i : Nat), i < l.length → 0 ≤ a → a ≤ 1048576 → F (k + 1) a (i : Int) = (g i a k).bind fun t => if t < 0 then some (-1) else F k t ((i + 1 : Nat) : Int))
    (hg : ∀ (i : Nat) (a : Int), i < l.length → 0 ≤ a → a ≤ 1048576 → Comes (fun t => t ≤ a ∧ (0 ≤ t → B (l.getD i z))) (g i a))
    (he : ∀ (k : Nat) (a : Int), F (k + 1) a (l.length : Int) = some a) (a : Int) (ha : 0 ≤ a) (hb : a ≤ 1048576) : Comes (fun t => t ≤ a ∧ (0 ≤ t → ∀ x ∈ l, B x)) (fun k => F k a 0) := by
  have key : ∀ (d i : Nat) (a : Int), i + d = l.length → 0 ≤ a → a ≤ 1048576 → Comes (fun t => t ≤ a ∧ (0 ≤ t → ∀ j, i ≤ j → j < l.length → B (l.getD j z))) (fun k => F k a (i : Int)) := by
    intro d
    induction d with
    | zero =>
      intro i a hi ha hb
      have : i = l.length := by omega
      subst this
      refine Comes.step (fun k => he k a) (Comes.ret a ⟨Int.le_refl a, fun _ j h1 h2 => by omega⟩)
    | succ d ih =>
      intro i a hi ha hb
      refine Comes.step (fun k => hF k a i (by omega) ha hb) (Comes.bind (hg i a (by omega) ha hb) (fun t ht => Comes.ite (fun _ => Comes.ret (-1) ⟨by omega, fun h => by omega⟩) (fun hn => ?_)))
      refine (ih (i + 1) t (by omega) (by omega) (by omega)).mono (fun r hr => ⟨by omega, fun h0 j h1 h2 => ?_⟩)
      by_cases hj : j = i
      · subst hj
        exact ht.2 (by omega)
      · exact hr.2 h0 j (by omega) h2
  refine (key l.length 0 a (by omega) ha hb).mono (fun r hr => ⟨hr.1, fun h0 x hx => ?_⟩)
  obtain ⟨j, hj, rfl⟩ := List.mem_iff_getElem.1 hx
  have := hr.2 h0 j (by omega) hj
  rwa [List.getD_eq_getElem?_getD, List.getElem?_eq_getElem hj] at this
theorem getD_mem {α : Type} {l : List α} {i : Nat} {z : α} (h : i < l.length) : l.getD i z ∈ l := by
  rw [List.getD_eq_getElem?_getD, List.getElem?_eq_getElem h]
  exact List.getElem_mem h

theorem szMeta_comes (x : S135) (hx : x.f2.size ≤ maxLen ∧ x.f3.size ≤ maxLen) (a : Int) (ha : 0 ≤ a) (hb : a ≤ 1048576) : ∃ t, laws_szMeta.f x.f0 x.f1 x.f2 x.f3 a = some t ∧ t ≤ a ∧ (0 ≤ t → (x.f2.size : Int) + (x.f3.size : Int) ≤ a - t) := by
  unfold maxLen at hx
  simp only [laws_szMeta.f, Option.bind_some, wrap64]
  (repeat' split) <;> first | exact ⟨_, rfl, by omega, by omega⟩ | (simp only [Option.bind_some]; (repeat' split) <;> exact ⟨_, rfl, by omega, by omega⟩)
theorem szMetaS_comes (l : List S135) (hx : l.length ≤ maxLen ∧ ∀ x ∈ l, (x.f2.size ≤ maxLen ∧ x.f3.size ≤ maxLen)) (a : Int) (ha : 0 ≤ a) (hb : a ≤ 1048576) : Comes (fun t => t ≤ a ∧ (0 ≤ t → (l.length : Int) ≤ a - t)) (fun k => laws_szMetaS.f k l a) := by
  have hl := hx.1
  unfold maxLen at hl
  have hw : wrap64 (a - (l.length : Int)) = a - (l.length : Int) := wrap_id (by omega) (by omega)
  simp only [laws_szMetaS.f, hw]
  refine Comes.ite (fun _ => Comes.ret (-1) ⟨by omega, fun h => by omega⟩) (fun hn => ?_)
  refine (sz_loop l z135 (fun _ => True) (fun k a i => laws_szMetaS.l0 k l a i) (fun i a _ => laws_szMeta.f (l.getD i z135).f0 (l.getD i z135).f1 (l.getD i z135).f2 (l.getD i z135).f3 a) (by omega) (fun k a i hi _ _ => ?_) (fun i a hi ha hb => ?_) (fun k a => ?_) _ (by omega) (by omega)).mono (fun t ht => ⟨by omega, fun h => by omega⟩)
  · simp only [laws_szMetaS.l0, rd_T135, Int.toNat_natCast]
    rw [if_pos (by omega), if_pos (by omega), wrap_succ (n := l.length) hi (by omega)]
  · obtain ⟨t, h1, h2, h3⟩ := szMeta_comes (l.getD i z135) (hx.2 _ (getD_mem hi)) a ha hb
    exact Comes.some_ _ t h1 ⟨h2, fun _ => trivial⟩
  · simp only [laws_szMetaS.l0]
    rw [if_neg (by omega)]

theorem eqMeta_self (x : S46) : laws_eqMeta.f x.f0 x.f1 x.f2 x.f3 x.f0 x.f1 x.f2 x.f3 = some true := by
  simp [laws_eqMeta.f]
theorem eqMetaS_ev (l : List S46) (h : l.length ≤ 9223372036854775806) : Ev (fun k => laws_eqMetaS.f k l l) true := by
  refine Ev.congr (fun k => ?_) (scan_loop (fun i k => laws_eqMetaS.l0 k l l (i : Int)) l.length true (fun i hi h => ?_) ?_)
  · simp only [laws_eqMetaS.f]
    rw [if_pos trivial]
    rfl
  · refine Ev.step (fun k => ?_) h
    simp only [laws_eqMetaS.l0, eqMeta_self, Option.bind_some]
    rw [if_pos (by omega), if_pos (by omega), if_pos (by omega), wrap_succ (n := l.length) hi (by omega)]
    rfl
  · refine Ev.ends (fun k => ?_)
    simp only [laws_eqMetaS.l0]
    rw [if_neg (by omega)]

/-- Each comes to an answer; Q holds of the two. -/
def Rel {α β : Type} (Q : α → β → Prop) (f : Nat → Option α) (g : Nat → Option β) : Prop := ∃ r s, Q r s ∧ Ev f r ∧ Ev g s
namespace Rel
variable {α β : Type} {Q : α → β → Prop} {f f' : Nat → Option α} {g g' : Nat → Option β}
theorem step (h1 : ∀ k, f (k + 1) = f' k) (h2 : ∀ k, g (k + 1) = g' k) (h : Rel Q f' g') : Rel Q f g := by
  obtain ⟨r, s, hp, a, b⟩ := h
  exact ⟨r, s, hp, Ev.step h1 a, Ev.step h2 b⟩
theorem left (h1 : ∀ k, f (k + 1) = f' k) (h : Rel Q f' g) : Rel Q f g := by
  obtain ⟨r, s, hp, a, b⟩ := h
  exact ⟨r, s, hp, Ev.step h1 a, b⟩
theorem right (h2 : ∀ k, g (k + 1) = g' k) (h : Rel Q f g') : Rel Q f g := by
  obtain ⟨r, s, hp, a, b⟩ := h
  exact ⟨r, s, hp, a, Ev.step h2 b⟩
theorem ret (r : α) (s : β) (h : Q r s) : Rel Q (fun _ => some r) (fun _ => some s) := ⟨r, s, h, Ev.now r, Ev.now s⟩
theorem ite {c : Prop} [Decidable c] (h1 : c → Rel Q f g) (h2 : ¬ c → Rel Q f' g') : Rel Q (fun k => if c then f k else f' k) (fun k => if c then g k else g' k) := by
  by_cases h : c
  · simpa only [if_pos h] using h1 h
  · simpa only [if_neg h] using h2 h
theorem bind {α' β' : Type} {R : α' → β' → Prop} {p : Nat → Option α'} {q : Nat → Option β'} {F : Nat → α' → Option α} {G : Nat → β' → Option β} (h : Rel R p q) (k : ∀ b c, R b c → Rel Q (fun n => F n b) (fun n => G n c)) : Rel Q (fun n => (p n).bind (F n)) (fun n => (q n).bind (G n)) := by
  obtain ⟨b, c, hq, h1, h2⟩ := h
  obtain ⟨r, s, hp, a, e⟩ := k b c hq
  exact ⟨r, s, hp, Ev.bind h1 a, Ev.bind h2 e⟩
theorem mono {Q' : α → β → Prop} (h : Rel Q f g) (hi : ∀ r s, Q r s → Q' r s) : Rel Q' f g := by
  obtain ⟨r, s, hp, a, b⟩ := h
  exact ⟨r, s, hi r s hp, a, b⟩
end Rel

theorem l1In_eq (a b c : Int) : spec_l1In.f a b c = some (decide (b ≤ a) && decide (a ≤ c)) := by
  unfold spec_l1In.f
  by_cases h : a ≥ b
  · rw [if_pos h, decide_eq_true (show b ≤ a from h), Bool.true_and]
  · rw [if_neg h, decide_eq_false (show ¬ b ≤ a from h), Bool.false_and]

theorem in_eq (a b c : Int) : impl_in.f a b c = some (decide (b ≤ a) && decide (a ≤ c)) := by
  unfold impl_in.f
  by_cases h : a ≥ b
  · rw [if_pos h, decide_eq_true (show b ≤ a from h), Bool.true_and]
  · rw [if_neg h, decide_eq_false (show ¬ b ≤ a from h), Bool.false_and]

theorem ite_and (a b : Bool) : (if a = true then some b else some false) = some (a && b) := by cases a <;> rfl
theorem ite_some {c : Prop} [Decidable c] (a b : Bool) : (if c then some a else some b) = some (if c then a else b) := by split <;> rfl
theorem neq_self (b : Bool) : (if (b != b) = true then (some false : Option Bool) else some true) = some true := by cases b <;> rfl

theorem metaOk_eq (a b : Int) (l : List S46) (c d : Int) (p q : ByteArray) : impl_metaOk.f a b l c d p q = spec_l6Meta.f a b l c d p q := by
  simp only [impl_metaOk.f, spec_l6Meta.f, impl_keyOk.f, spec_l6Key.f, in_eq, l1In_eq, Option.bind_some]
theorem metaOk_some (a b : Int) (l : List S46) (c d : Int) (p q : ByteArray) : ∃ r, spec_l6Meta.f a b l c d p q = some r := by
  simp only [spec_l6Meta.f, spec_l6Key.f, l1In_eq, Option.bind_some]
  (repeat' split) <;> exact ⟨_, rfl⟩
def manHead (a b n : Int) : Bool := if (decide (1 ≤ a) && decide (a ≤ 100000)) = true then (if (decide (0 ≤ b) && decide (b ≤ wrap64 (a - 1))) = true then decide (n ≤ 20) else false) else false
theorem manOk_l1 (xs ys : List S46) (hn : xs.length ≤ 1048576) (i : Nat) (hi : i ≤ xs.length) (hy : ys.length = i) (hr : ∀ j : Nat, j < i → rd_T46 ys (j : Int) = rd_T46 xs (j : Int)) (a b m0 m1 : Int) (m2 m3 : ByteArray) (H : Bool)
    (hc : Rel (fun r s => s = (r && H)) (fun k => spec_ManOk.l0 k (wrap64 ((i : Int) + 1)) a b xs) (fun k => impl_ManOk.l0 k xs (xs.length : Int) (wrap64 ((i : Int) + 1)) a b xs)) :
    Rel (fun r s => s = (r && H)) (fun k => spec_ManOk.l1 k (i : Int) 0 a b xs m0 m1 m2 m3) (fun k => impl_ManOk.l1 k xs (xs.length : Int) (i : Int) ys (ys.length : Int) 0 a b xs m0 m1 m2 m3) := by
  have key : ∀ (d j : Nat), j + d = i → Rel (fun r s => s = (r && H)) (fun k => spec_ManOk.l1 k (i : Int) (j : Int) a b xs m0 m1 m2 m3) (fun k => impl_ManOk.l1 k xs (xs.length : Int) (i : Int) ys (ys.length : Int) (j : Int) a b xs m0 m1 m2 m3) := by
    intro d
    induction d with
    | zero =>
      intro j hj
      refine Rel.step (fun k => spec_ManOk.l1.eq_2 ..) (fun k => impl_ManOk.l1.eq_2 ..) ?_
      have e1 : ((j : Int) < (i : Int)) = False := eq_false (by omega)
      have e2 : ((j : Int) < (ys.length : Int)) = False := eq_false (by omega)
      simp only [e1, e2, if_false]
      exact hc
    | succ d ih =>
      intro j hj
      refine Rel.step (fun k => spec_ManOk.l1.eq_2 ..) (fun k => impl_ManOk.l1.eq_2 ..) ?_
      have e1 : ((j : Int) < (i : Int)) = True := eq_true (by omega)
      have e2 : ((j : Int) < (ys.length : Int)) = True := eq_true (by omega)
      have e3 : (0 ≤ (j : Int)) = True := eq_true (by omega)
      have e4 : ((j : Int) < (xs.length : Int)) = True := eq_true (by omega)
      have ew : wrap64 ((j : Int) + 1) = ((j + 1 : Nat) : Int) := wrap_succ (n := xs.length) (by omega) (by omega)
      have er := hr j (by omega)
      simp only [e1, e2, e3, e4, if_true, ew, er]
      have nx := ih (j + 1) (by omega)
      refine Rel.ite (fun _ => ?_) (fun _ => nx)
      by_cases p1 : (rd_T46 xs (j : Int)).f1 = m1
      · simp only [p1, if_true, impl_meets.f]
        by_cases p2 : Op.bytesLess m3.toList (rd_T46 xs (j : Int)).f2.toList = true
        · by_cases p3 : Op.bytesLess (rd_T46 xs (j : Int)).f3.toList m2.toList = true
          · simpa [p2, p3] using nx
          · simpa [p2, p3] using nx
        · by_cases p3 : Op.bytesLess (rd_T46 xs (j : Int)).f3.toList m2.toList = true
          · simpa [p2, p3] using nx
          · simpa [p2, p3] using Rel.ret (Q := fun (r s : Bool) => s = (r && H)) false false rfl
      · have p2 : (m1 = (rd_T46 xs (j : Int)).f1) = False := eq_false (fun h => p1 h.symm)
        have p3 := eq_false p1
        simp only [p2, p3, if_false]
        exact nx
  exact key i 0 (by omega)
theorem manOk_loop (xs : List S46) (hn : xs.length ≤ 1048576) (a b : Int) : ∀ (d i : Nat), i + d = xs.length → Rel (fun r s => s = (r && manHead a b (xs.length : Int))) (fun k => spec_ManOk.l0 k (i : Int) a b xs) (fun k => impl_ManOk.l0 k xs (xs.length : Int) (i : Int) a b xs) := by
  intro d
  induction d with
  | zero =>
    intro i hi
    refine Rel.step (fun k => spec_ManOk.l0.eq_2 ..) (fun k => impl_ManOk.l0.eq_2 ..) ?_
    have e1 : ((i : Int) < (xs.length : Int)) = False := eq_false (by omega)
    simp only [e1, if_false, in_eq, Option.bind_some]
    have e : (if (decide (1 ≤ a) && decide (a ≤ 100000)) = true then (if (decide (0 ≤ b) && decide (b ≤ wrap64 (a - 1))) = true then some (decide ((xs.length : Int) ≤ 20)) else some false) else some false) = some (manHead a b (xs.length : Int)) := by
      unfold manHead
      (repeat' split) <;> rfl
    rw [e]
    exact Rel.ret _ _ (by simp)
  | succ d ih =>
    intro i hi
    refine Rel.step (fun k => spec_ManOk.l0.eq_2 ..) (fun k => impl_ManOk.l0.eq_2 ..) ?_
    have e1 : ((i : Int) < (xs.length : Int)) = True := eq_true (by omega)
    have e2 : (0 ≤ (i : Int)) = True := eq_true (by omega)
    have ew : wrap64 ((i : Int) + 1) = ((i + 1 : Nat) : Int) := wrap_succ (n := xs.length) (by omega) (by omega)
    obtain ⟨t, ht⟩ := metaOk_some a b xs (rd_T46 xs (i : Int)).f0 (rd_T46 xs (i : Int)).f1 (rd_T46 xs (i : Int)).f2 (rd_T46 xs (i : Int)).f3
    simp only [e1, e2, if_true, metaOk_eq, ht, Option.bind_some]
    have join : ∀ (g : Bool) (m0 m1 : Int) (m2 m3 : ByteArray), Rel (fun r s => s = (r && manHead a b (xs.length : Int))) (fun k => spec_ManOk.j2 k (i : Int) g a b xs m0 m1 m2 m3) (fun k => impl_ManOk.j1 k (i : Int) xs (xs.length : Int) (i : Int) g a b xs m0 m1 m2 m3) := by
      intro g m0 m1 m2 m3
      refine Rel.step (fun k => spec_ManOk.j2.eq_2 ..) (fun k => impl_ManOk.j1.eq_2 ..) ?_
      refine Rel.ite (fun _ => Rel.ret _ _ rfl) (fun _ => ?_)
      have e3 : ((i : Int) ≤ (xs.length : Int)) = True := eq_true (by omega)
      simp only [e2, e3, if_true, Option.bind_some, Int.toNat_natCast]
      refine manOk_l1 xs (xs.take i) hn i (by omega) (by rw [List.length_take]; omega) (fun j hj => ?_) a b m0 m1 m2 m3 _ ?_
      · simp only [rd_T46, Int.toNat_natCast, List.getD_eq_getElem?_getD, List.getElem?_take, if_pos hj]
      · rw [ew]
        exact ih (i + 1) (by omega)
    refine Rel.ite (fun _ => Rel.ite (fun hp => ?_) (fun _ => join _ _ _ _ _)) (fun _ => join _ _ _ _ _)
    have ew2 : wrap64 ((i : Int) - 1) = (i : Int) - 1 := wrap_id (by omega) (by omega)
    have e3 : (0 ≤ (i : Int) - 1) = True := eq_true (by omega)
    have e4 : ((i : Int) - 1 < (xs.length : Int)) = True := eq_true (by omega)
    simp only [ew2, e3, e4, if_true]
    exact join _ _ _ _ _
theorem manOk_both (xs : List S46) (hn : xs.length ≤ 1048576) (a b : Int) : ∃ r : Bool, Ev (fun k => spec_ManOk.f k a b xs) r ∧ Ev (fun k => impl_ManOk.f k a b xs) r := by
  obtain ⟨r, s, hq, h1, h2⟩ := manOk_loop xs hn a b xs.length 0 (by omega)
  refine ⟨s, ?_, h2⟩
  simp only [spec_ManOk.f, l1In_eq, Option.bind_some]
  unfold manHead at hq
  have j0t : Ev (fun k => spec_ManOk.j0 k true a b xs) false := Ev.ends (fun k => by simp only [spec_ManOk.j0]; rw [if_pos trivial])
  by_cases c1 : (decide (1 ≤ a) && decide (a ≤ 100000)) = true
  · rw [if_pos c1] at hq
    simp only [if_pos c1]
    by_cases c2 : (decide (0 ≤ b) && decide (b ≤ wrap64 (a - 1))) = true
    · rw [if_pos c2] at hq
      simp only [if_pos c2]
      by_cases c3 : (xs.length : Int) > 20
      · have e : decide ((xs.length : Int) ≤ 20) = false := decide_eq_false (by omega)
        have e' : decide ((xs.length : Int) > 20) = true := decide_eq_true c3
        rw [e, Bool.and_false] at hq
        simp only [e', hq]
        exact j0t
      · have e : decide ((xs.length : Int) ≤ 20) = true := decide_eq_true (by omega)
        have e' : decide ((xs.length : Int) > 20) = false := decide_eq_false c3
        rw [e, Bool.and_true] at hq
        simp only [e', hq]
        refine Ev.step (fun k => ?_) h1
        simp only [spec_ManOk.j0]
        rw [if_neg (by simp)]
        rfl
    · rw [if_neg c2, Bool.and_false] at hq
      simp only [if_neg c2, hq]
      exact j0t
  · rw [if_neg c1, Bool.and_false] at hq
    simp only [if_neg c1, hq]
    exact j0t

theorem FnExactManOk : laws_FnExactManOk.Pure := by
  intro x hx
  refine Comes.true_ ?_
  simp only [laws_FnExactManOk.f, laws_szManifest.f]
  refine Comes.bind (Q := fun t => t ≤ 1048576 ∧ (0 ≤ t → (x.f2.length : Int) ≤ 1048576 - t)) (Comes.bind (szMetaS_comes x.f2 ⟨hx.2.2.1, fun y hy => ⟨(hx.2.2.2 y hy).2.2.1, (hx.2.2.2 y hy).2.2.2⟩⟩ 1048576 (by omega) (by omega)) (fun t ht => Comes.ite (fun _ => Comes.ret (-1) ⟨by omega, fun h => by omega⟩) (fun hn => Comes.ret t ht))) (fun t ht => Comes.ite (fun _ => Comes.ret true rfl) (fun hn => ?_))
  have hlen : x.f2.length ≤ 1048576 := by omega
  obtain ⟨r, h2, h3⟩ := manOk_both (x.f2.map toMeta) (by simp; omega) x.f0 x.f1
  obtain ⟨K1, h1⟩ := toMetaS_ev x.f2 hlen
  obtain ⟨K2, h2⟩ := h2
  obtain ⟨K3, h3⟩ := h3
  obtain ⟨K4, h4⟩ := eqMetaS_ev (x.f2.map toMeta) (by simp; omega)
  dsimp only at h1 h2 h3 h4
  refine ⟨true, rfl, K1 + K2 + K3 + K4, fun k hk => ?_⟩
  have t1 : laws_toManifest.f k x.f0 x.f1 x.f2 = some (x.f0, x.f1, x.f2.map toMeta) := by simp only [laws_toManifest.f]; rw [h1 k (by omega), Option.bind_some]
  have t4 : laws_eqManifest.f k x.f0 x.f1 (x.f2.map toMeta) x.f0 x.f1 (x.f2.map toMeta) = some true := by simp only [laws_eqManifest.f]; rw [if_pos trivial, if_pos trivial, h4 k (by omega), Option.bind_some, if_pos rfl]
  dsimp only
  rw [t1, Option.bind_some, h2 k (by omega), Option.bind_some, Option.bind_some, h3 k (by omega), Option.bind_some, Option.bind_some, t4, Option.bind_some]
  simp

end Go.Proofs.Ytgncojbnejdplaa.MPureFnExactManOk
