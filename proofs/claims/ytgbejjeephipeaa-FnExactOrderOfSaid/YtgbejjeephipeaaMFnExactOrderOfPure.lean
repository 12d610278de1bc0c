/- OrderOf of the program and of the reference answer the same, for all graphs; what it answers is new memory. No condition. -/
import Derived.Test.YtgbejjeephipeaaMFnExactOrderOfDef
set_option linter.unusedVariables false
set_option linter.unusedSimpArgs false
namespace Go.Proofs.Ytgbejjeephipeaa.MPureFnExactOrderOf
open Go.RowKit Go.Proofs.Ytgbejjeephipeaa.MFnExactOrderOf Go.Proofs.YtgbejjeephipeaaW.PrintWords Go.Proofs.YtgbejjeephipeaaW.PrintLast Go.Proofs.YtgbejjeephipeaaW.PrintMore

theorem wrap_id {i : Int} (h0 : -9223372036854775808 ≤ i) (h1 : i ≤ 9223372036854775807) : wrap64 i = i := by unfold wrap64; omega
theorem wrap_succ {i n : Nat} (h : i < n) (hn : n ≤ 9223372036854775807) : wrap64 ((i : Int) + 1) = ((i + 1 : Nat) : Int) := by unfold wrap64; omega
theorem rd_nat (xs : List Int) (i : Nat) : rd xs (i : Int) = xs.getD i 0 := by simp [rd]
theorem take_set_succ {α : Type} (l : List α) (i : Nat) (x : α) (h : i < l.length) : (l.set i x).take (i + 1) = l.take i ++ [x] := by
  rw [List.take_succ_eq_append_getElem (by simpa using h), List.getElem_set_self, List.take_set_of_le (Nat.le_refl _)]
theorem take_succ_getD {α : Type} (l : List α) (i : Nat) (d : α) (h : i < l.length) : l.take (i + 1) = l.take i ++ [l.getD i d] := by
  rw [List.take_succ_eq_append_getElem h, List.getD_eq_getElem?_getD, List.getElem?_eq_getElem h]
  rfl
theorem take_all {α : Type} {l m : List α} {n : Nat} (h : l.take n = m) (hl : l.length = n) : l = m := by
  rw [← h, ← hl, List.take_length]
theorem wf_u8 {x : Int} (h : (Lit.int .u8 x).wf = true) : 0 ≤ x ∧ x ≤ 255 := by
  simp [Lit.wf, IntKind.min, IntKind.max, IntKind.signed, IntKind.bits] at h
  omega
theorem wf_i64 {x : Int} (h : (Lit.int .i64 x).wf = true) : -9223372036854775808 ≤ x ∧ x ≤ 9223372036854775807 := by
  simp [Lit.wf, IntKind.min, IntKind.max, IntKind.signed, IntKind.bits] at h
  omega

theorem fill_loop {β : Type} (L : Nat → List β → Int → Option (List β)) (n : Nat) (g : Nat → β) (z : β)
    (hs : ∀ (i : Nat) (out : List β) (r : List β), i < n → out.length = n → Ev (fun k => L k (out.set i (g i)) ((i + 1 : Nat) : Int)) r → Ev (fun k => L k out (i : Int)) r)
    (he : ∀ out : List β, out.length = n → Ev (fun k => L k out (n : Int)) out) : Ev (fun k => L k (List.replicate n z) 0) ((List.range n).map g) := by
  have key : ∀ (d i : Nat) (out : List β), i + d = n → out.length = n → out.take i = (List.range i).map g → Ev (fun k => L k out (i : Int)) ((List.range n).map g) := by
    intro d
    induction d with
    | zero =>
      intro i out hi hl ht
      have : i = n := by omega
      subst this
      have e := take_all ht hl
      rw [← e]
      exact he out hl
    | succ d ih =>
      intro i out hi hl ht
      refine hs i out _ (by omega) hl (ih (i + 1) _ (by omega) (by simp [hl]) ?_)
      rw [take_set_succ _ _ _ (by omega), ht, List.range_succ, List.map_append]
      rfl
  exact key n 0 _ (by omega) (by simp) (by simp)
/-- A row that is written from the left: element i becomes g i, and a state goes along. -/
theorem mark_loop {β σ : Type} (L : Nat → List β → σ → Int → Option (σ × List β)) (n : Nat) (g : Nat → β) (st : Nat → σ)
    (hs : ∀ (i : Nat) (out : List β) (r : σ × List β), i < n → out.length = n → Ev (fun k => L k (out.set i (g i)) (st (i + 1)) ((i + 1 : Nat) : Int)) r → Ev (fun k => L k out (st i) (i : Int)) r)
    (he : ∀ out : List β, out.length = n → Ev (fun k => L k out (st n) (n : Int)) (st n, out)) (l : List β) (hl : l.length = n) : Ev (fun k => L k l (st 0) 0) (st n, (List.range n).map g) := by
  have key : ∀ (d i : Nat) (out : List β), i + d = n → out.length = n → out.take i = (List.range i).map g → Ev (fun k => L k out (st i) (i : Int)) (st n, (List.range n).map g) := by
    intro d
    induction d with
    | zero =>
      intro i out hi hl ht
      have : i = n := by omega
      subst this
      have e := take_all ht hl
      rw [← e]
      exact he out hl
    | succ d ih =>
      intro i out hi hl ht
      refine hs i out _ (by omega) hl (ih (i + 1) _ (by omega) (by simp [hl]) ?_)
      rw [take_set_succ _ _ _ (by omega), ht, List.range_succ, List.map_append]
      rfl
  exact key n 0 _ (by omega) hl (by simp)
theorem scan_loop {ρ : Type} (g : Nat → Nat → Option ρ) (n : Nat) (r : ρ) (hs : ∀ i, i < n → Ev (g (i + 1)) r → Ev (g i) r) (he : Ev (g n) r) : Ev (g 0) r := by
  have key : ∀ (d i : Nat), i + d = n → Ev (g i) r := by
    intro d
    induction d with
    | zero => intro i hi; have : i = n := by omega
              subst this; exact he
    | succ d ih => intro i hi; exact hs i (by omega) (ih (i + 1) (by omega))
  exact key n 0 (by omega)
theorem range_map_get {α β : Type} (l : List α) (f : α → β) (d : α) : (List.range l.length).map (fun i => f (l.getD i d)) = l.map f := by
  apply List.ext_getElem?
  intro i
  rw [List.getElem?_map, List.getElem?_map]
  by_cases h : i < l.length
  · simp [h, List.getD_eq_getElem?_getD]
  · rw [List.getElem?_eq_none (by simp; omega), List.getElem?_eq_none (by omega)]
    rfl
theorem range_map_getD {β : Type} (n i : Nat) (g : Nat → β) (d : β) (h : i < n) : ((List.range n).map g).getD i d = g i := by
  simp [List.getD_eq_getElem?_getD, h]
theorem Ev.bind' {α β : Type} {g : Nat → Option α} {f : Nat → α → Option β} {a : α} {r : β} (h : Ev g a) (k : Ev (fun n => f n a) r) : Ev (fun n => (g n).bind (f n)) r := Ev.bind h k
theorem Ev.cond {α : Type} {g f : Nat → Option α} {r : α} (h : ∃ K, ∀ k, K ≤ k → g k = f k) (k : Ev f r) : Ev g r := by
  obtain ⟨K, h⟩ := h
  obtain ⟨K', k⟩ := k
  exact ⟨K + K', fun n hn => by rw [h n (by omega)]; exact k n (by omega)⟩
/-- One round: at n + 1 it is what it is at n of another. -/
theorem Ev.round {α : Type} {g f : Nat → Option α} {r : α} (h : ∃ K, ∀ k, K ≤ k → g (k + 1) = f k) (k : Ev f r) : Ev g r := by
  obtain ⟨K, h⟩ := h
  obtain ⟨K', k⟩ := k
  exact ⟨K + K' + 1, fun n hn => by
    obtain ⟨m, rfl⟩ : ∃ m, n = m + 1 := ⟨n - 1, by omega⟩
    rw [h m (by omega)]; exact k m (by omega)⟩
theorem Ev.ends {α : Type} {g : Nat → Option α} {r : α} (h : ∀ k, g (k + 1) = some r) : Ev g r := ⟨1, fun n hn => by
  obtain ⟨m, rfl⟩ : ∃ m, n = m + 1 := ⟨n - 1, by omega⟩
  exact h m⟩
theorem Ev.all {α : Type} {g : Nat → Option α} {r : α} (h : ∀ k, g k = some r) : Ev g r := ⟨0, fun n _ => h n⟩

def toDot (x : S41) : S31 := (⟨x.f0, x.f1⟩ : S31)
theorem toDotS_ev (l : List S41) (h : l.length ≤ 1048576) : Ev (fun k => laws_toDotS.f k l) (l.map toDot) := by
  have hf := fill_loop (fun k out i => laws_toDotS.l0 k l out i) l.length (fun i => toDot (l.getD i z41)) z31 (fun i out r hi hl h => ?_) (fun out hl => ?_)
  · rw [range_map_get] at hf
    refine Ev.congr (fun k => ?_) hf
    simp only [laws_toDotS.f]
    rw [if_pos (by omega), if_pos (by omega)]
    rfl
  · refine Ev.step (fun k => ?_) h
    simp only [laws_toDotS.l0, laws_toDot.f, Option.bind_some, rd_T41, Int.toNat_natCast]
    rw [if_pos (by omega), if_pos (by omega), if_pos (by omega), wrap_succ (n := l.length) hi (by omega)]
    rfl
  · refine Ev.ends (fun k => ?_)
    simp only [laws_toDotS.l0]
    rw [if_neg (by omega)]

def toItem (x : S44) : S33 := (⟨toDot x.f0, x.f1.map toDot⟩ : S33)
theorem toItemS_ev (l : List S44) (h : l.length ≤ 1048576) (hd : ∀ x ∈ l, x.f1.length ≤ 1048576) : Ev (fun k => laws_toItemS.f k l) (l.map toItem) := by
  have hf := fill_loop (fun k out i => laws_toItemS.l0 k l out i) l.length (fun i => toItem (l.getD i z44)) z33 (fun i out r hi hl h => ?_) (fun out hl => ?_)
  · rw [range_map_get] at hf
    refine Ev.congr (fun k => ?_) hf
    simp only [laws_toItemS.f]
    rw [if_pos (by omega), if_pos (by omega)]
    rfl
  · have hm : l.getD i z44 ∈ l := by
      rw [List.getD_eq_getElem?_getD, List.getElem?_eq_getElem hi]
      exact List.getElem_mem hi
    obtain ⟨K, hK⟩ := toDotS_ev (l.getD i z44).f1 (hd _ hm)
    refine Ev.round ⟨K, fun k hk => ?_⟩ h
    have t := hK k hk
    dsimp only at t
    simp only [laws_toItemS.l0, laws_toItem.f, laws_toDot.f, Option.bind_some, rd_T44, Int.toNat_natCast]
    rw [if_pos (by omega), if_pos (by omega), t, Option.bind_some, Option.bind_some, if_pos (by omega), wrap_succ (n := l.length) hi (by omega)]
    rfl
  · refine Ev.ends (fun k => ?_)
    simp only [laws_toItemS.l0]
    rw [if_neg (by omega)]
theorem toGraph_ev (l : List S44) (h : l.length ≤ 1048576) (hd : ∀ x ∈ l, x.f1.length ≤ 1048576) : Ev (fun k => laws_toGraph.f k l) (l.map toItem) := by
  obtain ⟨K, h⟩ := toItemS_ev l h hd
  dsimp only at h
  exact ⟨K, fun k hk => by simp only [laws_toGraph.f]; rw [h k hk, Option.bind_some]⟩

/-- Both come to one answer, of which P holds. -/
def Both {α : Type} (P : α → Prop) (f g : Nat → Option α) : Prop := ∃ r, P r ∧ Ev f r ∧ Ev g r
namespace Both
variable {α β : Type} {P : α → Prop} {f f' g g' : Nat → Option α}
theorem step (h1 : ∀ k, f (k + 1) = f' k) (h2 : ∀ k, g (k + 1) = g' k) (h : Both P f' g') : Both P f g := by
  obtain ⟨r, hp, a, b⟩ := h
  exact ⟨r, hp, Ev.step h1 a, Ev.step h2 b⟩
theorem left (h1 : ∀ k, f (k + 1) = f' k) (h : Both P f' g) : Both P f g := by
  obtain ⟨r, hp, a, b⟩ := h
  exact ⟨r, hp, Ev.step h1 a, b⟩
theorem right (h2 : ∀ k, g (k + 1) = g' k) (h : Both P f g') : Both P f g := by
  obtain ⟨r, hp, a, b⟩ := h
  exact ⟨r, hp, a, Ev.step h2 b⟩
theorem ret (r : α) (h : P r) : Both P (fun _ => some r) (fun _ => some r) := ⟨r, h, Ev.now r, Ev.now r⟩
theorem ite {c : Prop} [Decidable c] (h1 : c → Both P f g) (h2 : ¬ c → Both P f' g') : Both P (fun k => if c then f k else f' k) (fun k => if c then g k else g' k) := by
  by_cases h : c
  · simpa only [if_pos h] using h1 h
  · simpa only [if_neg h] using h2 h
theorem bind {Q : β → Prop} {p q : Nat → Option β} {F G : Nat → β → Option α} (h : Both Q p q) (k : ∀ b, Q b → Both P (fun n => F n b) (fun n => G n b)) : Both P (fun n => (p n).bind (F n)) (fun n => (q n).bind (G n)) := by
  obtain ⟨b, hq, h1, h2⟩ := h
  obtain ⟨r, hp, a, c⟩ := k b hq
  exact ⟨r, hp, Ev.bind h1 a, Ev.bind h2 c⟩
theorem of {r : α} (h1 : Ev f r) (h2 : Ev g r) (hp : P r) : Both P f g := ⟨r, hp, h1, h2⟩
theorem eq {r : α} (h1 : Ev f r) (h2 : Ev g r) : Both (fun x => x = r) f g := ⟨r, rfl, h1, h2⟩
theorem any {Q : α → Prop} (h : Both Q f g) : Both (fun _ => True) f g := by
  obtain ⟨r, _, a, b⟩ := h
  exact ⟨r, trivial, a, b⟩
theorem mono {P' : α → Prop} (h : Both P f g) (hi : ∀ r, P r → P' r) : Both P' f g := by
  obtain ⟨r, hp, a, b⟩ := h
  exact ⟨r, hi r hp, a, b⟩
end Both
/-- It comes to an answer, of which P holds. -/
def Comes {α : Type} (P : α → Prop) (f : Nat → Option α) : Prop := ∃ r, P r ∧ Ev f r
namespace Comes
variable {α β : Type} {P : α → Prop} {f f' : Nat → Option α}
theorem step (h1 : ∀ k, f (k + 1) = f' k) (h : Comes P f') : Comes P f := by
  obtain ⟨r, hp, a⟩ := h
  exact ⟨r, hp, Ev.step h1 a⟩
theorem ret (r : α) (h : P r) : Comes P (fun _ => some r) := ⟨r, h, Ev.now r⟩
theorem ite {c : Prop} [Decidable c] (h1 : c → Comes P f) (h2 : ¬ c → Comes P f') : Comes P (fun k => if c then f k else f' k) := by
  by_cases h : c
  · simpa only [if_pos h] using h1 h
  · simpa only [if_neg h] using h2 h
theorem bind {Q : β → Prop} {p : Nat → Option β} {F : Nat → β → Option α} (h : Comes Q p) (k : ∀ b, Q b → Comes P (fun n => F n b)) : Comes P (fun n => (p n).bind (F n)) := by
  obtain ⟨b, hq, h1⟩ := h
  obtain ⟨r, hp, a⟩ := k b hq
  exact ⟨r, hp, Ev.bind h1 a⟩
theorem mono {P' : α → Prop} (h : Comes P f) (hi : ∀ r, P r → P' r) : Comes P' f := by
  obtain ⟨r, hp, a⟩ := h
  exact ⟨r, hi r hp, a⟩
theorem rounds (h : Comes P f) : ∃ k r, f k = some r ∧ P r := by
  obtain ⟨r, hp, a⟩ := h
  obtain ⟨k, hk⟩ := a.rounds
  exact ⟨k, r, hk, hp⟩
theorem true_ {f : Nat → Option Bool} (h : Comes (fun b => b = true) f) : ∃ k, f k = some true := by
  obtain ⟨k, r, hk, rfl⟩ := h.rounds
  exact ⟨k, hk⟩
theorem some_ (o : Option α) (r : α) (h : o = some r) (hp : P r) : Comes P (fun _ => o) := ⟨r, hp, Ev.all (fun _ => h)⟩
end Comes

theorem sz_loop {α : Type} (l : List α) (z : α) (B : α → Prop) (F : Nat → Int → Int → Option Int) (g : Nat → Int → Nat → Option Int) (hl : l.length ≤ 9223372036854775806)
    (hF : ∀ (k : Nat) (a : Int) (i : Nat), i < l.length → 0 ≤ a → a ≤ 1048576 → F (k + 1) a (i : Int) = (g i a k).bind fun t => if t < 0 then some (-1) else F k t ((i + 1 : Nat) : Int))
    (hg : ∀ (i : Nat) (a : Int), i < l.length → 0 ≤ a → a ≤ 1048576 → Comes (fun t => t ≤ a ∧ (0 ≤ t → B (l.getD i z))) (g i a))
    (he : ∀ (k : Nat) (a : Int), F (k + 1) a (l.length : Int) = some a) (a : Int) (ha : 0 ≤ a) (hb : a ≤ 1048576) : Comes (fun t => t ≤ a ∧ (0 ≤ t → ∀ x ∈ l, B x)) (fun k => F k a 0) := by
  have key : ∀ (d i : Nat) (a : Int), i + d = l.length → 0 ≤ a → a ≤ 1048576 → Comes (fun t => t ≤ a ∧ (0 ≤ t → ∀ j, i ≤ j → j < l.length → B (l.getD j z))) (fun k => F k a (i : Int)) := by
    intro d
    induction d with
    | zero =>
      intro i a hi ha hb
      have : i = l.length := by omega
      subst this
      refine Comes.step (fun k => he k a) (Comes.ret a ⟨Int.le_refl a, fun _ j h1 h2 => by omega⟩)
    | succ d ih =>
      intro i a hi ha hb
      refine Comes.step (fun k => hF k a i (by omega) ha hb) (Comes.bind (hg i a (by omega) ha hb) (fun t ht => Comes.ite (fun _ => Comes.ret (-1) ⟨by omega, fun h => by omega⟩) (fun hn => ?_)))
      refine (ih (i + 1) t (by omega) (by omega) (by omega)).mono (fun r hr => ⟨by omega, fun h0 j h1 h2 => ?_⟩)
      by_cases hj : j = i
      · subst hj
        exact ht.2 (by omega)
      · exact hr.2 h0 j (by omega) h2
  refine (key l.length 0 a (by omega) ha hb).mono (fun r hr => ⟨hr.1, fun h0 x hx => ?_⟩)
  obtain ⟨j, hj, rfl⟩ := List.mem_iff_getElem.1 hx
  have := hr.2 h0 j (by omega) hj
  rwa [List.getD_eq_getElem?_getD, List.getElem?_eq_getElem hj] at this
theorem getD_mem {α : Type} {l : List α} {i : Nat} {z : α} (h : i < l.length) : l.getD i z ∈ l := by
  rw [List.getD_eq_getElem?_getD, List.getElem?_eq_getElem h]
  exact List.getElem_mem h

theorem szItem_comes (x : S44) (hx : x.f1.length ≤ maxLen) (a : Int) (ha : 0 ≤ a) (hb : a ≤ 1048576) : ∃ t, laws_szItem.f x.f0.f0 x.f0.f1 x.f1 a = some t ∧ t ≤ a ∧ (0 ≤ t → (x.f1.length : Int) ≤ a - t) := by
  unfold maxLen at hx
  simp only [laws_szItem.f, laws_szDotS.f, wrap64]
  (repeat' split) <;> first | exact ⟨_, rfl, by omega, by omega⟩ | (simp only [Option.bind_some]; (repeat' split) <;> exact ⟨_, rfl, by omega, by omega⟩)
theorem szItemS_comes (l : List S44) (hx : l.length ≤ maxLen ∧ ∀ x ∈ l, x.f1.length ≤ maxLen) (a : Int) (ha : 0 ≤ a) (hb : a ≤ 1048576) : Comes (fun t => t ≤ a ∧ (0 ≤ t → (l.length : Int) ≤ a - t ∧ ∀ x ∈ l, x.f1.length ≤ 1048576)) (fun k => laws_szItemS.f k l a) := by
  have hl := hx.1
  unfold maxLen at hl
  have hw : wrap64 (a - (l.length : Int)) = a - (l.length : Int) := wrap_id (by omega) (by omega)
  simp only [laws_szItemS.f, hw]
  refine Comes.ite (fun _ => Comes.ret (-1) ⟨by omega, fun h => by omega⟩) (fun hn => ?_)
  refine (sz_loop l z44 (fun x => x.f1.length ≤ 1048576) (fun k a i => laws_szItemS.l0 k l a i) (fun i a _ => laws_szItem.f (l.getD i z44).f0.f0 (l.getD i z44).f0.f1 (l.getD i z44).f1 a) (by omega) (fun k a i hi _ _ => ?_) (fun i a hi ha hb => ?_) (fun k a => ?_) _ (by omega) (by omega)).mono (fun t ht => ⟨by omega, fun h => ⟨by omega, ht.2 h⟩⟩)
  · simp only [laws_szItemS.l0, rd_T44, Int.toNat_natCast]
    rw [if_pos (by omega), if_pos (by omega), wrap_succ (n := l.length) hi (by omega)]
  · obtain ⟨t, h1, h2, h3⟩ := szItem_comes (l.getD i z44) (hx.2 _ (getD_mem hi)) a ha hb
    exact Comes.some_ _ t h1 ⟨h2, fun h0 => by have := h3 h0; omega⟩
  · simp only [laws_szItemS.l0]
    rw [if_neg (by omega)]
theorem szGraph_comes (l : List S44) (hx : l.length ≤ maxLen ∧ ∀ x ∈ l, x.f1.length ≤ maxLen) (a : Int) (ha : 0 ≤ a) (hb : a ≤ 1048576) : Comes (fun t => t ≤ a ∧ (0 ≤ t → (l.length : Int) ≤ a - t ∧ ∀ x ∈ l, x.f1.length ≤ 1048576)) (fun k => laws_szGraph.f k l a) := by
  simp only [laws_szGraph.f]
  exact Comes.bind (szItemS_comes l hx a ha hb) (fun t ht => Comes.ite (fun _ => Comes.ret _ ⟨by omega, fun h => by omega⟩) (fun hn => Comes.ret t ht))

theorem eqDot_self (x : S31) : laws_eqDot.f x.f0 x.f1 x.f0 x.f1 = some true := by
  simp [laws_eqDot.f]
theorem eqDotS_ev (l : List S31) (h : l.length ≤ 9223372036854775806) : Ev (fun k => laws_eqDotS.f k l l) true := by
  refine Ev.congr (fun k => ?_) (scan_loop (fun i k => laws_eqDotS.l0 k l l (i : Int)) l.length true (fun i hi h => ?_) ?_)
  · simp only [laws_eqDotS.f]
    rw [if_pos trivial]
    rfl
  · refine Ev.step (fun k => ?_) h
    simp only [laws_eqDotS.l0, eqDot_self, Option.bind_some]
    rw [if_pos (by omega), if_pos (by omega), if_pos (by omega), wrap_succ (n := l.length) hi (by omega)]
    rfl
  · refine Ev.ends (fun k => ?_)
    simp only [laws_eqDotS.l0]
    rw [if_neg (by omega)]

theorem eqItemS_ev (l : List S33) (h : l.length ≤ 1048576) (hd : ∀ x ∈ l, x.f1.length ≤ 1048576) : Ev (fun k => laws_eqItemS.f k l l) true := by
  refine Ev.congr (fun k => ?_) (scan_loop (fun i k => laws_eqItemS.l0 k l l (i : Int)) l.length true (fun i hi h => ?_) ?_)
  · simp only [laws_eqItemS.f]
    rw [if_pos trivial]
    rfl
  · have hm : l.getD i z33 ∈ l := by
      rw [List.getD_eq_getElem?_getD, List.getElem?_eq_getElem hi]
      exact List.getElem_mem hi
    obtain ⟨K, hK⟩ := eqDotS_ev (l.getD i z33).f1 (by have := hd _ hm; omega)
    refine Ev.round ⟨K, fun k hk => ?_⟩ h
    have t := hK k hk
    dsimp only at t
    have d := eqDot_self (l.getD i z33).f0
    simp only [laws_eqItemS.l0, laws_eqItem.f, rd_T33, Int.toNat_natCast, d, t, Option.bind_some, if_true]
    rw [if_pos (by omega), if_pos (by omega), if_pos (by omega), wrap_succ (n := l.length) hi (by omega)]
  · refine Ev.ends (fun k => ?_)
    simp only [laws_eqItemS.l0]
    rw [if_neg (by omega)]
theorem eqGraph_ev (l : List S33) (h : l.length ≤ 1048576) (hd : ∀ x ∈ l, x.f1.length ≤ 1048576) : Ev (fun k => laws_eqGraph.f k l l) true := by
  obtain ⟨K, h⟩ := eqItemS_ev l h hd
  dsimp only at h
  exact ⟨K, fun k hk => by simp only [laws_eqGraph.f]; rw [h k hk, Option.bind_some, if_pos rfl]⟩

theorem getD_set_eq {α : Type} {l : List α} {i : Nat} (x z : α) (h : i < l.length) : (l.set i x).getD i z = x := by
  rw [List.getD_eq_getElem?_getD, List.getElem?_set_self h]
  rfl

def mkDot (k : Int) : S31 := (⟨(k), (k + 1)⟩ : S31)
def mkDotL (a : Int) (n : Nat) : List S31 := (List.range n).map fun (i : Nat) => mkDot (a + 2 * (i : Int))
theorem mkDotL_length (a : Int) (n : Nat) : (mkDotL a n).length = n := by simp [mkDotL]
theorem markDotS_ev (l : List S31) (a : Int) (ha : 0 ≤ a) (hb : a + 2 * (l.length : Int) ≤ 4611686018427387904) : Ev (fun k => laws_markDotS.f k l a) (a + 2 * (l.length : Int), mkDotL a l.length) := by
  have hm := mark_loop (fun k out s i => laws_markDotS.l0 k out s i) l.length (fun i => mkDot (a + 2 * (i : Int))) (fun i => a + 2 * (i : Int)) (fun i out r hi hl h => ?_) (fun out hl => ?_) l rfl
  · refine Ev.congr (fun k => ?_) hm
    simp only [laws_markDotS.f]
    congr 1
    simp
  · (try dsimp only at h ⊢)
    refine Ev.round ⟨0, fun k hk => ?_⟩ h
    have e1 : ((i : Int) < (out.length : Int)) = True := eq_true (by omega)
    have e2 : (0 ≤ (i : Int)) = True := eq_true (by omega)
    have ew : wrap64 ((i : Int) + 1) = ((i + 1 : Nat) : Int) := wrap_succ (n := l.length) hi (by omega)
    have w1 : wrap64 (a + 2 * (i : Int) + 1) = a + 2 * (i : Int) + 1 := wrap_id (by omega) (by omega)
    have w2 : wrap64 (a + 2 * (i : Int) + 2) = a + 2 * (i : Int) + 2 := wrap_id (by omega) (by omega)
    have ad2 : a + 2 * (i : Int) + 1 + 1 = a + 2 * (i : Int) + 2 := by omega
    have ae : a + 2 * (i : Int) + 2 = a + 2 * ((i + 1 : Nat) : Int) := by omega
    simp only [laws_markDotS.l0, e1, e2, if_true, Option.bind_some, w1, w2, ad2, ew, rd_T31, Int.toNat_natCast, List.set_set, getD_set_eq _ _ (show i < out.length by omega)]
    (rw [ae]) <;> rfl
  · refine Ev.ends (fun k => ?_)
    simp only [laws_markDotS.l0]
    rw [if_neg (by omega)]

theorem markItemS_comes : ∀ (n i : Nat) (out : List S33) (a : Int), i + n = out.length → out.length ≤ 1048576 → (∀ x ∈ out, x.f1.length ≤ 1048576) → 0 ≤ a → a ≤ 1 + (i : Int) * 2097154 → Comes (fun r => 0 ≤ r.1) (fun k => laws_markItemS.l0 k out a (i : Int)) := by
  intro n
  induction n with
  | zero =>
    intro i out a hi _ _ ha _
    refine ⟨(a, out), ha, Ev.ends (fun k => ?_)⟩
    simp only [laws_markItemS.l0]
    rw [if_neg (by omega)]
  | succ n ih =>
    intro i out a hi hl hd ha hb
    have hm : (rd_T33 out (i : Int)).f1.length ≤ 1048576 := hd _ (getD_mem (show i < out.length by omega))
    obtain ⟨K, e⟩ := markDotS_ev (rd_T33 out (i : Int)).f1 (a + 1 + 1) (by omega) (by omega)
    dsimp only at e
    have w1 : wrap64 (a + 1) = a + 1 := wrap_id (by omega) (by omega)
    have w2 : wrap64 (a + 1 + 1) = a + 1 + 1 := wrap_id (by omega) (by omega)
    have hset : ∀ x ∈ out.set i (⟨(⟨a, a + 1⟩ : S31), mkDotL (a + 1 + 1) (rd_T33 out (i : Int)).f1.length⟩ : S33), x.f1.length ≤ 1048576 := by
      intro x hx
      rcases List.mem_or_eq_of_mem_set hx with hx | rfl
      · exact hd x hx
      · simp only [mkDotL_length]; exact hm
    obtain ⟨r, hr, ev⟩ := ih (i + 1) (out.set i (⟨(⟨a, a + 1⟩ : S31), mkDotL (a + 1 + 1) (rd_T33 out (i : Int)).f1.length⟩ : S33)) (a + 1 + 1 + 2 * ((rd_T33 out (i : Int)).f1.length : Int)) (by rw [List.length_set]; omega) (by rw [List.length_set]; omega) hset (by omega) (by omega)
    refine ⟨r, hr, Ev.round ⟨K, fun k hk => ?_⟩ ev⟩
    simp only [laws_markItemS.l0, w1, w2, Int.toNat_natCast]
    rw [if_pos (by omega), if_pos (by omega), e k hk, Option.bind_some, wrap_succ (n := out.length) (by omega) (by omega)]
theorem markGraph_comes (xs : List S33) (hn : xs.length ≤ 1048576) (hd : ∀ x ∈ xs, x.f1.length ≤ 1048576) : Comes (fun r => 0 ≤ r.1) (fun k => laws_markGraph.f k xs 1) := by
  obtain ⟨r, hr, K, e⟩ := markItemS_comes xs.length 0 xs 1 (by omega) hn hd (by omega) (by omega)
  exact ⟨(r.1, r.2), hr, K, fun k hk => by simp only [laws_markGraph.f, laws_markItemS.f]; rw [show laws_markItemS.l0 k xs 1 0 = some r from e k hk, Option.bind_some]⟩

theorem heldDotS_ev (a : Int) (n : Nat) (ha : 0 ≤ a) (hb : a + 2 * (n : Int) ≤ 4611686018427387904) : Ev (fun k => laws_heldDotS.f k (mkDotL a n) a) (a + 2 * (n : Int)) := by
  refine Ev.congr (fun k => ?_) (scan_loop (fun i k => laws_heldDotS.l0 k (mkDotL a n) (a + 2 * (i : Int)) (i : Int)) n (a + 2 * (n : Int)) (fun i hi h => ?_) ?_)
  · simp only [laws_heldDotS.f]
    congr 1
    simp
  · (try dsimp only at h ⊢)
    refine Ev.round ⟨0, fun k hk => ?_⟩ h
    have e1 : ((i : Int) < (n : Int)) = True := eq_true (by omega)
    have e2 : (0 ≤ (i : Int)) = True := eq_true (by omega)
    have ew : wrap64 ((i : Int) + 1) = ((i + 1 : Nat) : Int) := wrap_succ (n := n) hi (by omega)
    have eg : (mkDotL a n).getD i z31 = mkDot (a + 2 * (i : Int)) := range_map_getD n i _ _ hi
    have w1 : wrap64 (a + 2 * (i : Int) + 1) = a + 2 * (i : Int) + 1 := wrap_id (by omega) (by omega)
    have w2 : wrap64 (a + 2 * (i : Int) + 2) = a + 2 * (i : Int) + 2 := wrap_id (by omega) (by omega)
    have ad2 : a + 2 * (i : Int) + 1 + 1 = a + 2 * (i : Int) + 2 := by omega
    have ae : a + 2 * (i : Int) + 2 = a + 2 * ((i + 1 : Nat) : Int) := by omega
    simp only [laws_heldDotS.l0, mkDotL_length, e1, e2, if_true, Option.bind_some, w1, w2, ad2, ew, rd_T31, Int.toNat_natCast, eg, mkDot, bne_self_eq_false, Bool.false_eq_true, if_false]
    first | ((rw [ae]) <;> rfl) | (simp only [beq_self_eq_true, bne_self_eq_false, Bool.false_eq_true, if_false, if_true, ae])
  · refine Ev.ends (fun k => ?_)
    simp only [laws_heldDotS.l0, mkDotL_length]
    rw [if_neg (by omega)]

theorem l1In_eq (a b c : Int) : spec_l1In.f a b c = some (decide (b ≤ a) && decide (a ≤ c)) := by
  unfold spec_l1In.f
  by_cases h : a ≥ b
  · rw [if_pos h, decide_eq_true (show b ≤ a from h), Bool.true_and]
  · rw [if_neg h, decide_eq_false (show ¬ b ≤ a from h), Bool.false_and]

theorem in_eq (a b c : Int) : impl_in.f a b c = some (decide (b ≤ a) && decide (a ≤ c)) := by
  unfold impl_in.f
  by_cases h : a ≥ b
  · rw [if_pos h, decide_eq_true (show b ≤ a from h), Bool.true_and]
  · rw [if_neg h, decide_eq_false (show ¬ b ≤ a from h), Bool.false_and]

theorem ite_and (a b : Bool) : (if a = true then some b else some false) = some (a && b) := by cases a <;> rfl
theorem ite_some {c : Prop} [Decidable c] (a b : Bool) : (if c then some a else some b) = some (if c then a else b) := by split <;> rfl
theorem neq_self (b : Bool) : (if (b != b) = true then (some false : Option Bool) else some true) = some true := by cases b <;> rfl

def dotOkR (a b : Int) : Bool := (decide (1 ≤ a) && decide (a ≤ 7)) && (decide (1 ≤ b) && decide (b ≤ 999))
def dotLessR (a b c d : Int) : Bool := if a < c then true else if a = c then decide (b < d) else false
theorem spec_dotOk_eq (a b : Int) : spec_DotOk.f a b = some (dotOkR a b) := by
  simp only [spec_DotOk.f, l1In_eq, Option.bind_some, dotOkR]
  cases (decide (1 ≤ a) && decide (a ≤ 7)) <;> rfl
theorem impl_dotOk_eq (a b : Int) : impl_DotOk.f a b = some (dotOkR a b) := by
  simp only [impl_DotOk.f, in_eq, Option.bind_some, dotOkR]
  cases (decide (1 ≤ a) && decide (a ≤ 7)) <;> rfl
theorem spec_dotLess_eq (a b c d : Int) : spec_DotLess.f a b c d = some (dotLessR a b c d) := by
  simp only [spec_DotLess.f, dotLessR]
  (repeat' split) <;> rfl
theorem impl_dotLess_eq (a b c d : Int) : impl_DotLess.f a b c d = some (dotLessR a b c d) := by
  simp only [impl_DotLess.f, dotLessR]
  (repeat' split) <;> rfl
def depAt (xs : List S31) (i : Nat) : Bool := dotOkR (rd_T31 xs (i : Int)).f0 (rd_T31 xs (i : Int)).f1 && (if (i : Int) > 0 then dotLessR (rd_T31 xs ((i : Int) - 1)).f0 (rd_T31 xs ((i : Int) - 1)).f1 (rd_T31 xs (i : Int)).f0 (rd_T31 xs (i : Int)).f1 else true)
def depR (xs : List S31) : Nat → Nat → Bool
  | 0, _ => true
  | d + 1, i => depAt xs i && depR xs d (i + 1)
def eqAt (xs : List S31) (a b : Int) (i : Nat) : Bool := (rd_T31 xs (i : Int)).f0 == a && ((rd_T31 xs (i : Int)).f1 == b)
def hasR (xs : List S31) (a b : Int) : Nat → Nat → Bool
  | 0, _ => false
  | d + 1, i => eqAt xs a b i || hasR xs a b d (i + 1)
theorem spec_has_l0 (xs : List S31) (hn : xs.length ≤ 1048576) (a b : Int) : ∀ (d i : Nat), i + d = xs.length → Ev (fun k => spec_l8Has.l0 k xs (i : Int) a b) (hasR xs a b d i) := by
  intro d
  induction d with
  | zero =>
    intro i hi
    refine Ev.ends (fun k => ?_)
    simp only [spec_l8Has.l0]
    rw [if_neg (by omega)]
    rfl
  | succ d ih =>
    intro i hi
    have e1 : ((i : Int) < (xs.length : Int)) = True := eq_true (by omega)
    have e2 : (0 ≤ (i : Int)) = True := eq_true (by omega)
    have ew : wrap64 ((i : Int) + 1) = ((i + 1 : Nat) : Int) := wrap_succ (n := xs.length) (by omega) (by omega)
    unfold hasR
    by_cases h : eqAt xs a b i = true
    · refine Ev.ends (fun k => ?_)
      unfold eqAt at h
      simp only [spec_l8Has.l0, e1, e2, h, if_true]
      unfold eqAt
      rw [h, Bool.true_or]
    · have := ih (i + 1) (by omega)
      rw [eq_false_of_ne_true h, Bool.false_or]
      refine Ev.step (fun k => ?_) this
      unfold eqAt at h
      simp only [spec_l8Has.l0, e1, e2, ew, if_true]
      rw [if_neg h]
theorem spec_item_l0 (xs : List S31) (hn : xs.length ≤ 1048576) (a b : Int) : ∀ (d i : Nat), i + d = xs.length → Ev (fun k => spec_l8Item.l0 k (i : Int) a b xs) (depR xs d i) := by
  intro d
  induction d with
  | zero =>
    intro i hi
    refine Ev.ends (fun k => ?_)
    simp only [spec_l8Item.l0]
    rw [if_neg (by omega)]
    rfl
  | succ d ih =>
    intro i hi
    have e1 : ((i : Int) < (xs.length : Int)) = True := eq_true (by omega)
    have e2 : (0 ≤ (i : Int)) = True := eq_true (by omega)
    have ew : wrap64 ((i : Int) + 1) = ((i + 1 : Nat) : Int) := wrap_succ (n := xs.length) (by omega) (by omega)
    have nx := ih (i + 1) (by omega)
    unfold depR depAt
    by_cases h : dotOkR (rd_T31 xs (i : Int)).f0 (rd_T31 xs (i : Int)).f1 = true
    · by_cases hp : (i : Int) > 0
      · have ew2 : wrap64 ((i : Int) - 1) = (i : Int) - 1 := wrap_id (by omega) (by omega)
        have e3 : (0 ≤ (i : Int) - 1) = True := eq_true (by omega)
        have e4 : ((i : Int) - 1 < (xs.length : Int)) = True := eq_true (by omega)
        by_cases hl : dotLessR (rd_T31 xs ((i : Int) - 1)).f0 (rd_T31 xs ((i : Int) - 1)).f1 (rd_T31 xs (i : Int)).f0 (rd_T31 xs (i : Int)).f1 = true
        · rw [h, if_pos hp, hl, Bool.true_and, Bool.true_and]
          refine Ev.step (fun k => ?_) nx
          simp only [spec_l8Item.l0, spec_dotOk_eq, spec_dotLess_eq, Option.bind_some, e1, e2, ew, ew2, e3, e4, h, hl, hp, if_true]
        · rw [h, if_pos hp, eq_false_of_ne_true hl, Bool.and_false, Bool.false_and]
          refine Ev.ends (fun k => ?_)
          simp only [spec_l8Item.l0, spec_dotOk_eq, spec_dotLess_eq, Option.bind_some, e1, e2, ew, ew2, e3, e4, h, hp, if_true]
          rw [if_neg hl]
      · rw [h, if_neg hp, Bool.true_and, Bool.true_and]
        refine Ev.step (fun k => ?_) nx
        simp only [spec_l8Item.l0, spec_dotOk_eq, Option.bind_some, e1, e2, ew, h, if_true]
        rw [if_neg hp]
    · rw [eq_false_of_ne_true h, Bool.false_and, Bool.false_and]
      refine Ev.ends (fun k => ?_)
      simp only [spec_l8Item.l0, spec_dotOk_eq, Option.bind_some, e1, e2, if_true]
      rw [if_neg h]
theorem impl_deps_l0 (xs : List S31) (hn : xs.length ≤ 1048576) (a b : Int) : ∀ (d i : Nat), i + d = xs.length → Ev (fun k => impl_depsOk.l0 k xs xs (xs.length : Int) (i : Int) a b) (depR xs d i && (!(hasR xs a b d i) && decide ((xs.length : Int) ≤ 60))) := by
  intro d
  induction d with
  | zero =>
    intro i hi
    refine Ev.ends (fun k => ?_)
    simp only [impl_depsOk.l0]
    rw [if_neg (by omega)]
    rfl
  | succ d ih =>
    intro i hi
    have e1 : ((i : Int) < (xs.length : Int)) = True := eq_true (by omega)
    have e2 : (0 ≤ (i : Int)) = True := eq_true (by omega)
    have ew : wrap64 ((i : Int) + 1) = ((i + 1 : Nat) : Int) := wrap_succ (n := xs.length) (by omega) (by omega)
    have nx := ih (i + 1) (by omega)
    unfold depR hasR depAt
    by_cases h : dotOkR (rd_T31 xs (i : Int)).f0 (rd_T31 xs (i : Int)).f1 = true
    · by_cases hq : eqAt xs a b i = true
      · rw [hq, Bool.true_or, Bool.not_true, Bool.false_and, Bool.and_false]
        refine Ev.ends (fun k => ?_)
        unfold eqAt at hq
        simp only [impl_depsOk.l0, impl_dotOk_eq, Option.bind_some, e1, e2, h, hq, if_true]
      rw [eq_false_of_ne_true hq, Bool.false_or]
      unfold eqAt at hq
      by_cases hp : (i : Int) > 0
      · have ew2 : wrap64 ((i : Int) - 1) = (i : Int) - 1 := wrap_id (by omega) (by omega)
        have e3 : (0 ≤ (i : Int) - 1) = True := eq_true (by omega)
        have e4 : ((i : Int) - 1 < (xs.length : Int)) = True := eq_true (by omega)
        by_cases hl : dotLessR (rd_T31 xs ((i : Int) - 1)).f0 (rd_T31 xs ((i : Int) - 1)).f1 (rd_T31 xs (i : Int)).f0 (rd_T31 xs (i : Int)).f1 = true
        · rw [h, if_pos hp, hl, Bool.true_and, Bool.true_and]
          refine Ev.step (fun k => ?_) nx
          simp only [impl_depsOk.l0, impl_dotOk_eq, impl_dotLess_eq, Option.bind_some, e1, e2, ew, ew2, e3, e4, h, hl, hp, if_true]
          rw [if_neg hq]
        · rw [h, if_pos hp, eq_false_of_ne_true hl, Bool.and_false, Bool.false_and, Bool.false_and]
          refine Ev.ends (fun k => ?_)
          simp only [impl_depsOk.l0, impl_dotOk_eq, impl_dotLess_eq, Option.bind_some, e1, e2, ew, ew2, e3, e4, h, hp, if_true]
          rw [if_neg hq, if_neg hl]
      · rw [h, if_neg hp, Bool.true_and, Bool.true_and]
        refine Ev.step (fun k => ?_) nx
        simp only [impl_depsOk.l0, impl_dotOk_eq, Option.bind_some, e1, e2, ew, h, if_true]
        rw [if_neg hq, if_neg hp]
    · rw [eq_false_of_ne_true h, Bool.false_and, Bool.false_and, Bool.false_and]
      refine Ev.ends (fun k => ?_)
      simp only [impl_depsOk.l0, impl_dotOk_eq, Option.bind_some, e1, e2, if_true]
      rw [if_neg h]
def itemR (a b : Int) (xs : List S31) : Bool := dotOkR a b && (depR xs xs.length 0 && (!(hasR xs a b xs.length 0) && decide ((xs.length : Int) ≤ 60)))
theorem spec_item_ev (a b : Int) (xs : List S31) (hn : xs.length ≤ 1048576) : Ev (fun k => spec_l8Item.f k a b xs) (itemR a b xs) := by
  have j0t : Ev (fun k => spec_l8Item.j0 k true a b xs) false := Ev.ends (fun k => by simp only [spec_l8Item.j0]; rw [if_pos trivial])
  unfold itemR
  simp only [spec_l8Item.f, spec_dotOk_eq, Option.bind_some]
  by_cases h : dotOkR a b = true
  · simp only [h, if_true, Bool.true_and]
    by_cases h6 : (xs.length : Int) > 60
    · have e : decide ((xs.length : Int) ≤ 60) = false := decide_eq_false (by omega)
      simp only [if_pos h6, e, Bool.and_false]
      exact j0t
    · have e : decide ((xs.length : Int) ≤ 60) = true := decide_eq_true (by omega)
      simp only [if_neg h6, e, Bool.and_true]
      have hh : Ev (fun k => spec_l8Has.f k xs a b) (hasR xs a b xs.length 0) := spec_has_l0 xs hn a b xs.length 0 (by omega)
      refine Ev.bind' (f := fun n t => spec_l8Item.j0 n t a b xs) hh ?_
      by_cases hq : hasR xs a b xs.length 0 = true
      · simp only [hq, Bool.not_true, Bool.and_false]
        exact j0t
      · simp only [eq_false_of_ne_true hq, Bool.not_false, Bool.and_true]
        refine Ev.step (fun k => ?_) (spec_item_l0 xs hn a b xs.length 0 (by omega))
        simp only [spec_l8Item.j0]
        rw [if_neg (by simp)]
        rfl
  · simp only [eq_false_of_ne_true h, Bool.false_and, Bool.false_eq_true, if_false]
    exact j0t
theorem impl_deps_ev (a b : Int) (xs : List S31) (hn : xs.length ≤ 1048576) : Ev (fun k => impl_depsOk.f k a b xs) (depR xs xs.length 0 && (!(hasR xs a b xs.length 0) && decide ((xs.length : Int) ≤ 60))) := impl_deps_l0 xs hn a b xs.length 0 (by omega)
def asc (xs : List S33) (j : Nat) : Prop := dotLessR (rd_T33 xs ((j : Int) - 1)).f0.f0 (rd_T33 xs ((j : Int) - 1)).f0.f1 (rd_T33 xs (j : Int)).f0.f0 (rd_T33 xs (j : Int)).f0.f1 = true
theorem graphOk_asc (xs : List S33) (hn : xs.length ≤ 1048576) (hd : ∀ x ∈ xs, x.f1.length ≤ 1048576) : Both (fun r => r = true → ∀ j, 0 < j → j < xs.length → asc xs j) (fun k => spec_GraphOk.f k xs) (fun k => impl_GraphOk.f k xs) := by
  have key : ∀ (d i : Nat), i + d = xs.length → Both (fun r => r = true → ∀ j, i ≤ j → 0 < j → j < xs.length → asc xs j) (fun k => spec_GraphOk.l0 k (i : Int) xs) (fun k => impl_GraphOk.l0 k xs (xs.length : Int) (i : Int) xs) := by
    intro d
    induction d with
    | zero =>
      intro i hi
      refine Both.step (fun k => spec_GraphOk.l0.eq_2 ..) (fun k => impl_GraphOk.l0.eq_2 ..) ?_
      have e1 : ((i : Int) < (xs.length : Int)) = False := eq_false (by omega)
      simp only [e1, if_false]
      exact Both.ret _ (fun _ j h1 h2 h3 => by omega)
    | succ d ih =>
      intro i hi
      refine Both.step (fun k => spec_GraphOk.l0.eq_2 ..) (fun k => impl_GraphOk.l0.eq_2 ..) ?_
      have e1 : ((i : Int) < (xs.length : Int)) = True := eq_true (by omega)
      have e2 : (0 ≤ (i : Int)) = True := eq_true (by omega)
      have ew : wrap64 ((i : Int) + 1) = ((i + 1 : Nat) : Int) := wrap_succ (n := xs.length) (by omega) (by omega)
      have hm : (rd_T33 xs (i : Int)).f1.length ≤ 1048576 := hd _ (by
        simp only [rd_T33, Int.toNat_natCast]
        rw [List.getD_eq_getElem?_getD, List.getElem?_eq_getElem (show i < xs.length by omega)]
        exact List.getElem_mem _)
      simp only [e1, e2, if_true, ew, impl_dotOk_eq, Option.bind_some]
      have s1 := spec_item_ev (rd_T33 xs (i : Int)).f0.f0 (rd_T33 xs (i : Int)).f0.f1 _ hm
      have s2 := impl_deps_ev (rd_T33 xs (i : Int)).f0.f0 (rd_T33 xs (i : Int)).f0.f1 _ hm
      have tail : Both (fun r => r = true → ∀ j, i ≤ j → 0 < j → j < xs.length → asc xs j) (fun k => if (i : Int) > 0 then (if 0 ≤ (wrap64 ((i : Int) - 1)) then (if (wrap64 ((i : Int) - 1)) < (xs.length : Int) then ((spec_DotLess.f ((rd_T33 xs (wrap64 ((i : Int) - 1))).f0.f0) ((rd_T33 xs (wrap64 ((i : Int) - 1))).f0.f1) ((rd_T33 xs (i : Int)).f0.f0) ((rd_T33 xs (i : Int)).f0.f1)).bind fun t127 => (if t127 = true then (spec_GraphOk.l0 k ((i + 1 : Nat) : Int) xs) else (some false))) else (none)) else (none)) else (spec_GraphOk.l0 k ((i + 1 : Nat) : Int) xs)) (fun k => if (i : Int) > 0 then (if 0 ≤ (wrap64 ((i : Int) - 1)) then (if (wrap64 ((i : Int) - 1)) < (xs.length : Int) then ((impl_DotLess.f ((rd_T33 xs (wrap64 ((i : Int) - 1))).f0.f0) ((rd_T33 xs (wrap64 ((i : Int) - 1))).f0.f1) ((rd_T33 xs (i : Int)).f0.f0) ((rd_T33 xs (i : Int)).f0.f1)).bind fun t179 => (if t179 = true then (impl_GraphOk.l0 k xs (xs.length : Int) ((i + 1 : Nat) : Int) xs) else (some false))) else (none)) else (none)) else (impl_GraphOk.l0 k xs (xs.length : Int) ((i + 1 : Nat) : Int) xs)) := by
        refine Both.ite (fun hp => ?_) (fun hp => (ih (i + 1) (by omega)).mono (fun r hr h j h1 h2 h3 => hr h j (by omega) h2 h3))
        have ew2 : wrap64 ((i : Int) - 1) = (i : Int) - 1 := wrap_id (by omega) (by omega)
        have e3 : (0 ≤ (i : Int) - 1) = True := eq_true (by omega)
        have e4 : ((i : Int) - 1 < (xs.length : Int)) = True := eq_true (by omega)
        simp only [ew2, e3, e4, if_true, spec_dotLess_eq, impl_dotLess_eq, Option.bind_some]
        refine Both.ite (fun hl => (ih (i + 1) (by omega)).mono (fun r hr h j h1 h2 h3 => ?_)) (fun _ => Both.ret _ (fun h => by simp at h))
        by_cases e : j = i
        · subst e; exact hl
        · exact hr h j (by omega) h2 h3
      unfold itemR at s1
      by_cases h : dotOkR (rd_T33 xs (i : Int)).f0.f0 (rd_T33 xs (i : Int)).f0.f1 = true
      · rw [h, Bool.true_and] at s1
        simp only [h, if_true]
        exact Both.bind (Both.eq s1 s2) (fun b _ => Both.ite (fun _ => tail) (fun _ => Both.ret _ (fun h => by simp at h)))
      · rw [eq_false_of_ne_true h, Bool.false_and] at s1
        simp only [eq_false_of_ne_true h, Bool.false_eq_true, if_false]
        refine Both.of (r := false) (Ev.bind' (f := fun k (t : Bool) => if t = true then _ else _) s1 ?_) (Ev.now false) (fun h => by simp at h)
        simp only [Bool.false_eq_true, if_false]
        exact Ev.now false
  exact (key xs.length 0 (by omega)).mono (fun r hr h j h1 h2 => hr h j (by omega) h1 h2)
theorem graphOk_both (xs : List S33) (hn : xs.length ≤ 1048576) (hd : ∀ x ∈ xs, x.f1.length ≤ 1048576) : Both (fun _ => True) (fun k => spec_GraphOk.f k xs) (fun k => impl_GraphOk.f k xs) := (graphOk_asc xs hn hd).any

set_option linter.unusedSectionVars false
section reach
variable {D : Type} [DecidableEq D] (loc : D → Option Nat) (deps : Nat → List D)
/-- What is reached over one step or more. -/
inductive Rch : D → D → Prop
  | one {a b : D} {i : Nat} : loc a = some i → b ∈ deps i → Rch a b
  | more {a b c : D} {i : Nat} : Rch a b → loc b = some i → c ∈ deps i → Rch a c
theorem Rch.trans {a b c : D} (h1 : Rch loc deps a b) (h2 : Rch loc deps b c) : Rch loc deps a c := by
  induction h2 with
  | one h m => exact .more h1 h m
  | more _ h m ih => exact .more ih h m
def cnt (T o : List D) : Nat := T.countP (fun x => decide (x ∉ o))
theorem cnt_le (T : List D) (o : List D) (x : D) : cnt T (o ++ [x]) ≤ cnt T o := by
  unfold cnt
  refine List.countP_mono_left (fun y _ h => ?_)
  have h := of_decide_eq_true h
  exact decide_eq_true (fun hm => h (by simp [hm]))
theorem cnt_lt {T : List D} {o : List D} {x : D} (hx : x ∈ T) (ho : x ∉ o) : cnt T (o ++ [x]) + 1 ≤ cnt T o := by
  induction T with
  | nil => simp at hx
  | cons y T ih =>
    have hc : ∀ o : List D, cnt (y :: T) o = cnt T o + (if y ∉ o then 1 else 0) := fun o => by
      unfold cnt
      rw [List.countP_cons]
      simp
    rw [hc, hc]
    by_cases hy : y = x
    · subst hy
      rw [if_neg (by simp), if_pos ho]
      have := cnt_le T o y
      omega
    · have hx : x ∈ T := by
        rcases List.mem_cons.1 hx with h | h
        · exact absurd h.symm hy
        · exact h
      have := ih hx
      by_cases hm : y ∈ o
      · rw [if_neg (by simp [hm]), if_neg (by simp [hm])]; omega
      · rw [if_pos (by simp [hm, hy]), if_pos hm]; omega
def addAll (ds : List D) (s : List D × List D) : List D × List D := ds.foldl (fun s x => if x ∈ s.1 then s else (s.1 ++ [x], s.2 ++ [x])) s
theorem addAll_cons (x : D) (ds o t : List D) : addAll (x :: ds) (o, t) = addAll ds (if x ∈ o then (o, t) else (o ++ [x], t ++ [x])) := rfl
theorem addAll_spec (T : List D) : ∀ (ds o t : List D), (∀ x ∈ ds, x ∈ T) → ∃ ns, addAll ds (o, t) = (o ++ ns, t ++ ns) ∧ (∀ x ∈ ns, x ∈ ds) ∧ (∀ x ∈ ds, x ∈ o ++ ns) ∧ ns.length + cnt T (o ++ ns) ≤ cnt T o := by
  intro ds
  induction ds with
  | nil => intro o t _; exact ⟨[], by simp [addAll], by simp, by simp, by simp⟩
  | cons x ds ih =>
    intro o t hT
    rw [addAll_cons]
    by_cases hx : x ∈ o
    · rw [if_pos hx]
      obtain ⟨ns, h1, h2, h3, h4⟩ := ih o t (fun y hy => hT y (by simp [hy]))
      refine ⟨ns, h1, fun y hy => by simp [h2 y hy], fun y hy => ?_, h4⟩
      rcases List.mem_cons.1 hy with rfl | hy
      · simp [hx]
      · exact h3 y hy
    · rw [if_neg hx]
      obtain ⟨ns, h1, h2, h3, h4⟩ := ih (o ++ [x]) (t ++ [x]) (fun y hy => hT y (by simp [hy]))
      have hc := cnt_lt (hT x (by simp)) hx
      refine ⟨x :: ns, by rw [h1]; simp, fun y hy => ?_, fun y hy => ?_, ?_⟩
      · rcases List.mem_cons.1 hy with rfl | hy
        · simp
        · simp [h2 y hy]
      · rcases List.mem_cons.1 hy with rfl | hy
        · simp
        · have := h3 y hy
          simpa using this
      · have e : o ++ x :: ns = o ++ [x] ++ ns := by simp
        rw [e, List.length_cons]
        omega
def bfs : Nat → List D → List D → List D × Bool
  | _, o, [] => (o, true)
  | 0, _, _ :: _ => ([], false)
  | m + 1, o, y :: t => match loc y with
    | none => ([], false)
    | some i => bfs m (addAll (deps i) (o, t)).1 (addAll (deps i) (o, t)).2
structure Reached (d : D) (T : List D) (r : List D × Bool) : Prop where
  all : r.2 = true → ∀ x, x ∈ r.1 ↔ Rch loc deps d x
  whole : r.2 = true ↔ ∀ y, (y = d ∨ Rch loc deps d y) → loc y ≠ none
  none : r.2 = false → r.1 = []
  small : r.1.length ≤ T.length
theorem bfs_inv (T : List D) (hT : ∀ y i, loc y = some i → ∀ x ∈ deps i, x ∈ T) (d : D) : ∀ (m : Nat) (o t : List D), t.length + cnt T o ≤ m → o.length + cnt T o ≤ T.length →
    (∀ x ∈ t, x = d ∨ Rch loc deps d x) → (∀ x ∈ o, Rch loc deps d x) → (∀ y, (y = d ∨ y ∈ o) → y ∉ t → ∃ i, loc y = some i ∧ ∀ x ∈ deps i, x ∈ o) → Reached loc deps d T (bfs loc deps m o t) := by
  intro m
  induction m with
  | zero =>
    intro o t hm hl h1 h2 h3
    have ht : t = [] := List.length_eq_zero_iff.1 (by omega)
    subst ht
    have hall : ∀ x, Rch loc deps d x → x ∈ o := by
      intro x hx
      induction hx with
      | one h m =>
        obtain ⟨i, hi, hd⟩ := h3 d (.inl rfl) (by simp)
        rw [hi] at h; injection h with h; subst h
        exact hd _ m
      | more _ h m ih =>
        obtain ⟨i, hi, hd⟩ := h3 _ (.inr ih) (by simp)
        rw [hi] at h; injection h with h; subst h
        exact hd _ m
    refine ⟨fun _ x => ⟨h2 x, hall x⟩, ⟨fun _ y hy => ?_, fun _ => rfl⟩, fun h => by simp [bfs] at h, by simp only [bfs]; omega⟩
    obtain ⟨i, hi, _⟩ := h3 y (hy.imp id (hall y)) (by simp)
    rw [hi]; simp
  | succ m ih =>
    intro o t hm hl h1 h2 h3
    cases t with
    | nil =>
      have hall : ∀ x, Rch loc deps d x → x ∈ o := by
        intro x hx
        induction hx with
        | one h m =>
          obtain ⟨i, hi, hd⟩ := h3 d (.inl rfl) (by simp)
          rw [hi] at h; injection h with h; subst h
          exact hd _ m
        | more _ h m ih =>
          obtain ⟨i, hi, hd⟩ := h3 _ (.inr ih) (by simp)
          rw [hi] at h; injection h with h; subst h
          exact hd _ m
      refine ⟨fun _ x => ⟨h2 x, hall x⟩, ⟨fun _ y hy => ?_, fun _ => rfl⟩, fun h => by simp [bfs] at h, by simp only [bfs]; omega⟩
      obtain ⟨i, hi, _⟩ := h3 y (hy.imp id (hall y)) (by simp)
      rw [hi]; simp
    | cons y t =>
      simp only [bfs]
      cases hy : loc y with
      | none =>
        refine ⟨fun h => by simp at h, ⟨fun h => by simp at h, fun h => ?_⟩, fun _ => rfl, by simp⟩
        exact absurd hy (h y (h1 y (by simp)))
      | some i =>
        have hyR := h1 y (by simp)
        obtain ⟨ns, e, n1, n2, n3⟩ := addAll_spec T (deps i) o t (hT y i hy)
        simp only [e]
        have hnR : ∀ x ∈ deps i, Rch loc deps d x := fun x hx => by
          rcases hyR with rfl | hr
          · exact .one hy hx
          · exact .more hr hy hx
        refine ih (o ++ ns) (t ++ ns) (by rw [List.length_append]; rw [List.length_cons] at hm; omega) (by rw [List.length_append]; omega) (fun x hx => ?_) (fun x hx => ?_) (fun z hz hzt => ?_)
        · rcases List.mem_append.1 hx with hx | hx
          · exact h1 x (by simp [hx])
          · exact .inr (hnR x (n1 x hx))
        · rcases List.mem_append.1 hx with hx | hx
          · exact h2 x hx
          · exact hnR x (n1 x hx)
        · have hzt1 : z ∉ t := fun h => hzt (by simp [h])
          have hzn : z ∉ ns := fun h => hzt (by simp [h])
          by_cases hzy : z = y
          · subst hzy
            exact ⟨i, hy, n2⟩
          · obtain ⟨j, hj, hd⟩ := h3 z (hz.imp id (fun h => (List.mem_append.1 h).resolve_right hzn)) (fun h => (List.mem_cons.1 h).elim hzy hzt1)
            exact ⟨j, hj, fun x hx => List.mem_append.2 (.inl (hd x hx))⟩
theorem bfs_spec (T : List D) (hT : ∀ y i, loc y = some i → ∀ x ∈ deps i, x ∈ T) (d : D) (m : Nat) (hm : T.length + 1 ≤ m) : Reached loc deps d T (bfs loc deps m [] [d]) := by
  have hc : cnt T ([] : List D) ≤ T.length := List.countP_le_length
  refine bfs_inv loc deps T hT d m [] [d] (by simp only [List.length_cons, List.length_nil]; omega) (by simpa using hc) (fun x hx => .inl (by simpa using hx)) (fun x hx => by simp at hx) (fun y hy hn => ?_)
  rcases hy with rfl | hy
  · exact absurd (by simp) hn
  · simp at hy
/-- The reference's way: by places. -/
def addS (ds : List D) (s : List Bool × Bool × List Nat) : List Bool × Bool × List Nat := ds.foldl (fun s x => match loc x with
  | none => (s.1, false, s.2.2)
  | some j => if s.1.getD j false = true then s else (s.1.set j true, s.2.1, s.2.2 ++ [j])) s
def fls (met : List Bool) : Nat := met.countP (fun b => !b)
theorem fls_set {met : List Bool} {j : Nat} (hj : j < met.length) (h : met.getD j false ≠ true) : fls (met.set j true) + 1 = fls met := by
  induction met generalizing j with
  | nil => simp at hj
  | cons b met ih =>
    cases j with
    | zero =>
      simp at h
      subst h
      simp [fls]
    | succ j =>
      have := ih (j := j) (by simpa using hj) (by simpa using h)
      simp only [fls, List.set_cons_succ, List.countP_cons] at this ⊢
      omega
theorem getD_set_t (met : List Bool) (j p : Nat) (hj : j < met.length) : (met.set j true).getD p false = if p = j then true else met.getD p false := by
  by_cases h : p = j
  · subst h
    rw [if_pos rfl, List.getD_eq_getElem?_getD, List.getElem?_set_self (by omega)]
    rfl
  · rw [if_neg h, List.getD_eq_getElem?_getD, List.getElem?_set_ne (fun e => h e.symm), List.getD_eq_getElem?_getD]
theorem addS_spec (n : Nat) (hloc : ∀ x j, loc x = some j → j < n) : ∀ (ds : List D) (met : List Bool) (w : Bool) (q : List Nat), met.length = n → ∃ met' w' ns, addS loc ds (met, w, q) = (met', w', q ++ ns) ∧ met'.length = n ∧ ns.length + fls met' = fls met ∧
    (∀ p, met.getD p false = true → met'.getD p false = true) ∧ (∀ p, met'.getD p false = true → met.getD p false = true ∨ p ∈ ns) ∧ (∀ p ∈ ns, met'.getD p false = true ∧ ∃ x ∈ ds, loc x = some p) ∧ (w = false → w' = false) ∧
    (∀ x ∈ ds, (∀ j, loc x = some j → met'.getD j false = true) ∧ (loc x = none → w' = false)) ∧ (w' = false → w = false ∨ ∃ x ∈ ds, loc x = none) := by
  intro ds
  induction ds with
  | nil => intro met w q hn; exact ⟨met, w, [], by simp [addS], hn, by simp, fun _ h => h, fun _ h => .inl h, by simp, id, by simp, .inl⟩
  | cons x ds ih =>
    intro met w q hn
    have hc : addS loc (x :: ds) (met, w, q) = addS loc ds (match loc x with | none => (met, false, q) | some j => if met.getD j false = true then (met, w, q) else (met.set j true, w, q ++ [j])) := rfl
    rw [hc]
    cases hx : loc x with
    | none =>
      obtain ⟨met', w', ns, h1, h2, h3, h4, h5, h6, h7, h8, h9⟩ := ih met false q hn
      refine ⟨met', w', ns, h1, h2, h3, h4, h5, fun p hp => ⟨(h6 p hp).1, ?_⟩, fun _ => h7 rfl, fun y hy => ?_, fun _ => .inr ⟨x, by simp, hx⟩⟩
      · obtain ⟨y, hy, e⟩ := (h6 p hp).2
        exact ⟨y, by simp [hy], e⟩
      · rcases List.mem_cons.1 hy with rfl | hy
        · exact ⟨fun j hj => by rw [hx] at hj; simp at hj, fun _ => h7 rfl⟩
        · exact h8 y hy
    | some j =>
      have hj := hloc x j hx
      dsimp only
      by_cases hm : met.getD j false = true
      · rw [if_pos hm]
        obtain ⟨met', w', ns, h1, h2, h3, h4, h5, h6, h7, h8, h9⟩ := ih met w q hn
        refine ⟨met', w', ns, h1, h2, h3, h4, h5, fun p hp => ⟨(h6 p hp).1, ?_⟩, h7, fun y hy => ?_, fun h => ?_⟩
        · obtain ⟨y, hy, e⟩ := (h6 p hp).2
          exact ⟨y, by simp [hy], e⟩
        · rcases List.mem_cons.1 hy with rfl | hy
          · exact ⟨fun j' hj' => by rw [hx] at hj'; injection hj' with hj'; subst hj'; exact h4 _ hm, fun h => by rw [hx] at h; simp at h⟩
          · exact h8 y hy
        · rcases h9 h with h | ⟨y, hy, e⟩
          · exact .inl h
          · exact .inr ⟨y, by simp [hy], e⟩
      · rw [if_neg hm]
        obtain ⟨met', w', ns, h1, h2, h3, h4, h5, h6, h7, h8, h9⟩ := ih (met.set j true) w (q ++ [j]) (by simpa using hn)
        have hset := fun p => getD_set_t met j p (by omega)
        have hmj : met'.getD j false = true := h4 j (by rw [hset, if_pos rfl])
        refine ⟨met', w', j :: ns, by rw [h1]; simp, h2, ?_, fun p hp => h4 p ?_, fun p hp => ?_, fun p hp => ?_, h7, fun y hy => ?_, fun h => ?_⟩
        · rw [List.length_cons]
          have := fls_set (met := met) (j := j) (by omega) hm
          omega
        · rw [hset]; split
          · rfl
          · exact hp
        · rcases h5 p hp with h | h
          · rw [hset] at h
            split at h
            · rename_i e; subst e; exact .inr (by simp)
            · exact .inl h
          · exact .inr (by simp [h])
        · rcases List.mem_cons.1 hp with rfl | hp
          · exact ⟨hmj, x, by simp, hx⟩
          · refine ⟨(h6 p hp).1, ?_⟩
            obtain ⟨y, hy, e⟩ := (h6 p hp).2
            exact ⟨y, by simp [hy], e⟩
        · rcases List.mem_cons.1 hy with rfl | hy
          · exact ⟨fun j' hj' => by rw [hx] at hj'; injection hj' with hj'; subst hj'; exact hmj, fun h => by rw [hx] at h; simp at h⟩
          · exact h8 y hy
        · rcases h9 h with h | ⟨y, hy, e⟩
          · exact .inl h
          · exact .inr ⟨y, by simp [hy], e⟩
def bfsS : Nat → List Bool → Bool → List Nat → List Bool × Bool
  | _, met, w, [] => (met, w)
  | 0, met, w, _ :: _ => (met, w)
  | m + 1, met, w, j :: r => bfsS m (addS loc (deps j) (met, w, r)).1 (addS loc (deps j) (met, w, r)).2.1 (addS loc (deps j) (met, w, r)).2.2
structure ReachedS (dot : Nat → D) (n i : Nat) (r : List Bool × Bool) : Prop where
  len : r.1.length = n
  all : ∀ j, j < n → (r.1.getD j false = true ↔ Rch loc deps (dot i) (dot j))
  whole : r.2 = true ↔ ∀ y, Rch loc deps (dot i) y → loc y ≠ none
theorem bfsS_inv (n : Nat) (dot : Nat → D) (hdot : ∀ j, j < n → loc (dot j) = some j) (hloc : ∀ x j, loc x = some j → j < n ∧ dot j = x) (i : Nat) (hi : i < n) : ∀ (m : Nat) (met : List Bool) (w : Bool) (done r : List Nat), r.length + fls met ≤ m → met.length = n →
    i ∈ done ++ r → (∀ j ∈ done ++ r, j < n ∧ (j = i ∨ Rch loc deps (dot i) (dot j))) → (∀ j, met.getD j false = true → j ∈ done ++ r ∧ Rch loc deps (dot i) (dot j)) →
    (∀ j ∈ done, ∀ x ∈ deps j, (∀ p, loc x = some p → met.getD p false = true) ∧ (loc x = none → w = false)) → (w = false → ∃ x, Rch loc deps (dot i) x ∧ loc x = none) → ReachedS loc deps dot n i (bfsS loc deps m met w r) := by
  have fin : ∀ (met : List Bool) (w : Bool) (done : List Nat), met.length = n → i ∈ done → (∀ j, met.getD j false = true → j ∈ done ∧ Rch loc deps (dot i) (dot j)) →
      (∀ j ∈ done, ∀ x ∈ deps j, (∀ p, loc x = some p → met.getD p false = true) ∧ (loc x = none → w = false)) → (w = false → ∃ x, Rch loc deps (dot i) x ∧ loc x = none) → ReachedS loc deps dot n i (met, w) := by
    intro met w done hn hi0 h2 h3 h4
    have key : ∀ a x, Rch loc deps a x → a = dot i → (∀ p, loc x = some p → met.getD p false = true) ∧ (loc x = none → w = false) := by
      intro a x hx
      induction hx with
      | one h m =>
        intro ha
        subst ha
        rw [hdot i hi] at h; injection h with h; subst h
        exact h3 _ hi0 _ m
      | more _ h m ih =>
        intro ha
        exact h3 _ (h2 _ ((ih ha).1 _ h)).1 _ m
    refine ⟨hn, fun j hj => ⟨fun h => (h2 j h).2, fun h => (key _ _ h rfl).1 j (hdot j hj)⟩, ⟨fun h y hy hnone => ?_, fun h => ?_⟩⟩
    · have := (key _ _ hy rfl).2 hnone
      rw [this] at h; simp at h
    · cases hw : w with
      | true => rfl
      | false =>
        obtain ⟨x, hx, e⟩ := h4 hw
        exact absurd e (h x hx)
  intro m
  induction m with
  | zero =>
    intro met w done r hm hn hi0 h1 h2 h3 h4
    have hr : r = [] := List.length_eq_zero_iff.1 (by omega)
    subst hr
    rw [List.append_nil] at hi0 h1 h2
    simp only [bfsS]
    exact fin met w done hn hi0 h2 h3 h4
  | succ m ih =>
    intro met w done r hm hn hi0 h1 h2 h3 h4
    cases r with
    | nil =>
      rw [List.append_nil] at hi0 h1 h2
      simp only [bfsS]
      exact fin met w done hn hi0 h2 h3 h4
    | cons j r =>
      simp only [bfsS]
      obtain ⟨met', w', ns, e, a1, a2, a3, a4, a5, a6, a7, a8⟩ := addS_spec loc n (fun x p hp => (hloc x p hp).1) (deps j) met w r hn
      simp only [e]
      have hj := h1 j (by simp)
      have hdR : ∀ x ∈ deps j, Rch loc deps (dot i) x := fun x hx => by
        rcases hj.2 with rfl | hr
        · exact .one (hdot _ hj.1) hx
        · exact .more hr (hdot _ hj.1) hx
      have ea : (done ++ [j]) ++ (r ++ ns) = (done ++ j :: r) ++ ns := by simp
      have hns : ∀ p ∈ ns, p < n ∧ Rch loc deps (dot i) (dot p) := fun p hp => by
        obtain ⟨x, hx, hl⟩ := (a5 p hp).2
        obtain ⟨q1, q2⟩ := hloc x p hl
        exact ⟨q1, q2 ▸ hdR x hx⟩
      refine ih met' w' (done ++ [j]) (r ++ ns) (by rw [List.length_append]; rw [List.length_cons] at hm; omega) a1 (by rw [ea]; exact List.mem_append.2 (.inl hi0)) (fun p hp => ?_) (fun p hp => ?_) (fun p hp => ?_) (fun hw => ?_)
      · rw [ea] at hp
        rcases List.mem_append.1 hp with hp | hp
        · exact h1 p hp
        · exact ⟨(hns p hp).1, .inr (hns p hp).2⟩
      · rw [ea]
        rcases a4 p hp with h | h
        · exact ⟨List.mem_append.2 (.inl (h2 p h).1), (h2 p h).2⟩
        · exact ⟨List.mem_append.2 (.inr h), (hns p h).2⟩
      · rcases List.mem_append.1 hp with hp | hp
        · intro x hx
          have := h3 p hp x hx
          exact ⟨fun q hq => a3 _ (this.1 q hq), fun hq => a6 (this.2 hq)⟩
        · have hp : p = j := by simpa using hp
          subst hp
          exact a7
      · rcases a8 hw with h | ⟨x, hx, e⟩
        · exact h4 h
        · exact ⟨x, hdR x hx, e⟩
theorem bfsS_spec (n : Nat) (dot : Nat → D) (hdot : ∀ j, j < n → loc (dot j) = some j) (hloc : ∀ x j, loc x = some j → j < n ∧ dot j = x) (i : Nat) (hi : i < n) (m : Nat) (hm : n + 1 ≤ m) : ReachedS loc deps dot n i (bfsS loc deps m (List.replicate n false) true [i]) := by
  have hf : fls (List.replicate n false) ≤ n := by
    have := List.countP_le_length (p := fun b => !b) (l := List.replicate n false)
    simpa [fls] using this
  have hg : ∀ j, (List.replicate n false).getD j false = false := fun j => by
    rw [List.getD_eq_getElem?_getD]
    by_cases h : j < n
    · rw [List.getElem?_replicate, if_pos h]; rfl
    · rw [List.getElem?_replicate, if_neg h]; rfl
  refine bfsS_inv loc deps n dot hdot hloc i hi m _ true [] [i] (by simp only [List.length_cons, List.length_nil]; omega) (by simp) (by simp) (fun j hj => ?_) (fun j hj => ?_) (fun j hj => by simp at hj) (fun h => by simp at h)
  · have : j = i := by simpa using hj
    subst this
    exact ⟨hi, .inl rfl⟩
  · rw [hg j] at hj
    simp at hj
end reach

set_option linter.unusedSectionVars false
section sorted
variable {D : Type} [DecidableEq D] (less : D → D → Bool)
/-- Ascending dots with one more. -/
def ins : List D → D → List D
  | [], d => [d]
  | x :: l, d => if less x d = true then x :: ins l d else if x = d then x :: l else d :: x :: l
structure Strict : Prop where
  irr : ∀ a, less a a = false
  trans : ∀ {a b c}, less a b = true → less b c = true → less a c = true
  tot : ∀ {a b}, less a b = false → a ≠ b → less b a = true
def Asc (l : List D) : Prop := l.Pairwise (fun a b => less a b = true)
theorem mem_ins (l : List D) (d x : D) : x ∈ ins less l d ↔ x = d ∨ x ∈ l := by
  induction l with
  | nil => simp [ins]
  | cons y l ih =>
    unfold ins
    split
    · rw [List.mem_cons, ih, List.mem_cons]
      constructor
      · rintro (h | h | h)
        · exact .inr (.inl h)
        · exact .inl h
        · exact .inr (.inr h)
      · rintro (h | h | h)
        · exact .inr (.inl h)
        · exact .inl h
        · exact .inr (.inr h)
    · split
      · rename_i h
        subst h
        rw [List.mem_cons]
        constructor
        · exact .inr
        · rintro (h | h)
          · exact .inl h
          · exact h
      · rw [List.mem_cons]
theorem ins_length (l : List D) (d : D) : (ins less l d).length ≤ l.length + 1 := by
  induction l with
  | nil => simp [ins]
  | cons y l ih =>
    unfold ins
    split
    · simp only [List.length_cons]; omega
    · split <;> simp
theorem asc_ins (hs : Strict less) (l : List D) (d : D) (h : Asc less l) : Asc less (ins less l d) := by
  induction l with
  | nil => simp [ins, Asc]
  | cons y l ih =>
    have h1 := List.pairwise_cons.1 h
    unfold ins
    split
    · rename_i hl
      refine List.pairwise_cons.2 ⟨fun z hz => ?_, ih h1.2⟩
      rcases (mem_ins less l d z).1 hz with rfl | hz
      · exact hl
      · exact h1.1 z hz
    · rename_i hl
      split
      · exact h
      · rename_i hne
        have hdy := hs.tot (Bool.eq_false_iff.2 hl) hne
        refine List.pairwise_cons.2 ⟨fun z hz => ?_, h⟩
        rcases List.mem_cons.1 hz with rfl | hz
        · exact hdy
        · exact hs.trans hdy (h1.1 z hz)
theorem asc_ext (hs : Strict less) : ∀ (l m : List D), Asc less l → Asc less m → (∀ x, x ∈ l ↔ x ∈ m) → l = m
  | [], [], _, _, _ => rfl
  | [], y :: m, _, _, h => by have := (h y).2 (by simp); simp at this
  | y :: l, [], _, _, h => by have := (h y).1 (by simp); simp at this
  | x :: l, y :: m, hl, hm, h => by
    have h1 := List.pairwise_cons.1 hl
    have h2 := List.pairwise_cons.1 hm
    have e : x = y := by
      rcases List.mem_cons.1 ((h x).1 (by simp)) with e | hx
      · exact e
      · rcases List.mem_cons.1 ((h y).2 (by simp)) with e | hy
        · exact e.symm
        · have a := hs.trans (h1.1 y hy) (h2.1 x hx)
          rw [hs.irr] at a
          simp at a
    subst e
    have : l = m := asc_ext hs l m h1.2 h2.2 (fun z => ⟨fun hz => ?_, fun hz => ?_⟩)
    · rw [this]
    · rcases List.mem_cons.1 ((h z).1 (by simp [hz])) with rfl | h'
      · have a := h1.1 z hz
        rw [hs.irr] at a
        simp at a
      · exact h'
    · rcases List.mem_cons.1 ((h z).2 (by simp [hz])) with rfl | h'
      · have a := h2.1 z hz
        rw [hs.irr] at a
        simp at a
      · exact h'
/-- How far the lesser ones go. -/
def low (d : D) : List D → Nat
  | [] => 0
  | x :: l => if less x d = true then low d l + 1 else 0
theorem low_le (d : D) (l : List D) : low less d l ≤ l.length := by
  induction l with
  | nil => simp [low]
  | cons x l ih => unfold low; split <;> simp only [List.length_cons] <;> omega
theorem ins_eq (d z : D) (l : List D) : ins less l d = if low less d l < l.length ∧ l.getD (low less d l) z = d then l else l.take (low less d l) ++ d :: l.drop (low less d l) := by
  induction l with
  | nil => simp [ins, low]
  | cons x l ih =>
    unfold ins low
    by_cases h : less x d = true
    · rw [if_pos h, if_pos h, ih]
      simp only [List.length_cons, List.getD_cons_succ, Nat.add_lt_add_iff_right]
      split <;> simp
    · rw [if_neg h, if_neg h]
      simp only [List.length_cons, List.getD_cons_zero, List.take_zero, List.drop_zero, List.nil_append]
      by_cases e : x = d
      · rw [if_pos e, if_pos ⟨by omega, e⟩]
      · rw [if_neg e, if_neg (fun h => e h.2)]
end sorted

instance : DecidableEq S31 := fun a b => if h : a.f0 = b.f0 ∧ a.f1 = b.f1 then isTrue (by
  cases a; cases b
  obtain ⟨rfl, rfl⟩ := h
  rfl) else isFalse (fun e => h (by subst e; exact ⟨rfl, rfl⟩))
theorem dot_eq_iff (a b : S31) : (a.f0 == b.f0 && (a.f1 == b.f1)) = decide (a = b) := by
  by_cases h : a = b
  · subst h; simp
  · rw [decide_eq_false h]
    cases hq : (a.f0 == b.f0 && (a.f1 == b.f1)) with
    | false => rfl
    | true =>
      rw [Bool.and_eq_true, beq_iff_eq, beq_iff_eq] at hq
      cases a; cases b
      obtain ⟨rfl, rfl⟩ := hq
      exact absurd rfl h
theorem dot_pos {a b : S31} (h : a = b) : (a.f0 == b.f0 && (a.f1 == b.f1)) = true := by rw [dot_eq_iff]; exact decide_eq_true h
theorem dot_neg {a b : S31} (h : ¬ a = b) : ¬ (a.f0 == b.f0 && (a.f1 == b.f1)) = true := by rw [dot_eq_iff]; simpa using h
def lessD (a b : S31) : Bool := dotLessR a.f0 a.f1 b.f0 b.f1
theorem lessD_strict : Strict lessD := ⟨fun a => by simp [lessD, dotLessR], fun {a b c} h1 h2 => by
    simp only [lessD, dotLessR] at h1 h2 ⊢
    split at h1
    · split at h2
      · rw [if_pos (by omega)]
      · split at h2
        · rw [if_pos (by omega)]
        · simp at h2
    · split at h1
      · split at h2
        · rw [if_pos (by omega)]
        · split at h2
          · have h1 := of_decide_eq_true h1
            have h2 := of_decide_eq_true h2
            rw [if_neg (by omega), if_pos (by omega)]
            exact decide_eq_true (by omega)
          · simp at h2
      · simp at h1, fun {a b} h1 hne => by
    simp only [lessD, dotLessR] at h1 ⊢
    split at h1
    · simp at h1
    · split at h1
      · have h1 := of_decide_eq_false h1
        rw [if_neg (by omega), if_pos (by omega)]
        refine decide_eq_true ?_
        rcases Int.lt_or_gt_of_ne (a := a.f1) (b := b.f1) (fun e => hne (by cases a; cases b; simp_all)) with h | h
        · exact absurd h h1
        · exact h
      · rw [if_pos (by omega)]⟩
theorem drop_getD {α : Type} (l : List α) (i : Nat) (z : α) (h : i < l.length) : l.drop i = l.getD i z :: l.drop (i + 1) := by
  rw [List.drop_eq_getElem_cons h, List.getD_eq_getElem?_getD, List.getElem?_eq_getElem h]
  rfl
/-- The place of a command. -/
def locL (d : S31) : List S33 → Nat → Option Nat
  | [], _ => none
  | x :: l, i => if x.f0 = d then some i else locL d l (i + 1)
def locX (xs : List S33) (d : S31) : Option Nat := locL d xs 0
def depX (xs : List S33) (i : Nat) : List S31 := (xs.getD i z33).f1
def dotX (xs : List S33) (i : Nat) : S31 := (xs.getD i z33).f0
def allX (xs : List S33) : List S31 := xs.flatMap (fun x => x.f1)
def intO : Option Nat → Int
  | none => -1
  | some i => (i : Int)
theorem locL_some (d : S31) : ∀ (l : List S33) (i j : Nat), locL d l i = some j → i ≤ j ∧ j < i + l.length ∧ (l.getD (j - i) z33).f0 = d := by
  intro l
  induction l with
  | nil => intro i j h; simp [locL] at h
  | cons x l ih =>
    intro i j h
    unfold locL at h
    split at h
    · injection h with h
      subst h
      refine ⟨Nat.le_refl _, by simp, ?_⟩
      rw [Nat.sub_self, List.getD_cons_zero]
      assumption
    · obtain ⟨h1, h2, h3⟩ := ih _ _ h
      refine ⟨by omega, by rw [List.length_cons]; omega, ?_⟩
      have e : j - i = (j - (i + 1)) + 1 := by omega
      rw [e, List.getD_cons_succ]
      exact h3
theorem locL_none (d : S31) : ∀ (l : List S33) (i : Nat), locL d l i = none → ∀ x ∈ l, x.f0 ≠ d := by
  intro l
  induction l with
  | nil => intro i _ x hx; simp at hx
  | cons x l ih =>
    intro i h y hy
    unfold locL at h
    split at h
    · simp at h
    · rcases List.mem_cons.1 hy with rfl | hy
      · assumption
      · exact ih _ h y hy
theorem locX_some {xs : List S33} {d : S31} {j : Nat} (h : locX xs d = some j) : j < xs.length ∧ dotX xs j = d := by
  obtain ⟨_, h2, h3⟩ := locL_some d xs 0 j h
  exact ⟨by omega, h3⟩
theorem getI_mem {xs : List S33} {j : Nat} (h : j < xs.length) : xs.getD j z33 ∈ xs := by
  rw [List.getD_eq_getElem?_getD, List.getElem?_eq_getElem h]
  exact List.getElem_mem _
theorem depX_all {xs : List S33} (y : S31) (i : Nat) (h : locX xs y = some i) : ∀ x ∈ depX xs i, x ∈ allX xs := fun x hx => List.mem_flatMap.2 ⟨_, getI_mem (locX_some h).1, hx⟩
theorem allX_length (xs : List S33) (hd : ∀ x ∈ xs, x.f1.length ≤ 1048576) : (allX xs).length ≤ xs.length * 1048576 := by
  unfold allX
  induction xs with
  | nil => simp
  | cons x xs ih =>
    have h1 := hd x (by simp)
    have h2 := ih (fun y hy => hd y (by simp [hy]))
    rw [List.flatMap_cons, List.length_append, List.length_cons, Nat.succ_mul]
    omega
theorem asc_lt {xs : List S33} (h : ∀ j, 0 < j → j < xs.length → asc xs j) : ∀ (d i : Nat), i + d + 1 < xs.length → lessD (dotX xs i) (dotX xs (i + d + 1)) = true := by
  have hs : ∀ j, j + 1 < xs.length → lessD (dotX xs j) (dotX xs (j + 1)) = true := fun j hj => by
    have := h (j + 1) (by omega) hj
    unfold asc at this
    have e : ((j + 1 : Nat) : Int) - 1 = (j : Int) := by omega
    rw [e] at this
    exact this
  intro d
  induction d with
  | zero => intro i hi; exact hs i hi
  | succ d ih => intro i hi; exact lessD_strict.trans (ih i (by omega)) (hs (i + d + 1) hi)
theorem dotX_inj {xs : List S33} (h : ∀ j, 0 < j → j < xs.length → asc xs j) {i j : Nat} (hi : i < xs.length) (hj : j < xs.length) (e : dotX xs i = dotX xs j) : i = j := by
  rcases Nat.lt_trichotomy i j with hl | hl | hl
  · have := asc_lt h (j - i - 1) i (by omega)
    rw [show i + (j - i - 1) + 1 = j from by omega, e, lessD_strict.irr] at this
    simp at this
  · exact hl
  · have := asc_lt h (i - j - 1) j (by omega)
    rw [show j + (i - j - 1) + 1 = i from by omega, e, lessD_strict.irr] at this
    simp at this
theorem locX_dot {xs : List S33} (h : ∀ j, 0 < j → j < xs.length → asc xs j) {j : Nat} (hj : j < xs.length) : locX xs (dotX xs j) = some j := by
  cases e : locX xs (dotX xs j) with
  | none => exact absurd rfl (locL_none _ xs 0 e _ (getI_mem hj))
  | some i =>
    obtain ⟨h1, h2⟩ := locX_some e
    rw [dotX_inj h h1 hj h2]
theorem itemAt_ev (xs : List S33) (hn : xs.length ≤ 1048576) (d : S31) : Ev (fun k => impl_itemAt.f k xs d.f0 d.f1) (intO (locX xs d)) := by
  have key : ∀ (n i : Nat), i + n = xs.length → Ev (fun k => impl_itemAt.l0 k xs (xs.length : Int) (i : Int) d.f0 d.f1) (intO (locL d (xs.drop i) i)) := by
    intro n
    induction n with
    | zero =>
      intro i hi
      rw [List.drop_of_length_le (by omega)]
      refine Ev.ends (fun k => ?_)
      simp only [impl_itemAt.l0]
      rw [if_neg (by omega)]
      rfl
    | succ n ih =>
      intro i hi
      rw [drop_getD xs i z33 (by omega)]
      unfold locL
      by_cases h : (xs.getD i z33).f0 = d
      · rw [if_pos h]
        refine Ev.ends (fun k => ?_)
        simp only [impl_itemAt.l0]
        rw [if_pos (by omega), if_pos (by omega), if_pos (by omega), if_pos (dot_pos (a := (rd_T33 xs (i : Int)).f0) h)]
        rfl
      · rw [if_neg h]
        refine Ev.step (fun k => ?_) (ih (i + 1) (by omega))
        simp only [impl_itemAt.l0]
        rw [if_pos (by omega), if_pos (by omega), if_pos (by omega), if_neg (dot_neg (a := (rd_T33 xs (i : Int)).f0) h), wrap_succ (n := xs.length) (by omega) (by omega)]
  exact key xs.length 0 (by omega)
theorem l8At_ev (xs : List S33) (hn : xs.length ≤ 1048576) (d : S31) : Ev (fun k => spec_l8At.f k xs d.f0 d.f1) (intO (locX xs d)) := by
  have key : ∀ (n i : Nat), i + n = xs.length → Ev (fun k => spec_l8At.l0 k (i : Int) xs d.f0 d.f1) (intO (locL d (xs.drop i) i)) := by
    intro n
    induction n with
    | zero =>
      intro i hi
      rw [List.drop_of_length_le (by omega)]
      refine Ev.ends (fun k => ?_)
      simp only [spec_l8At.l0]
      rw [if_neg (by omega)]
      rfl
    | succ n ih =>
      intro i hi
      rw [drop_getD xs i z33 (by omega)]
      unfold locL
      by_cases h : (xs.getD i z33).f0 = d
      · rw [if_pos h]
        refine Ev.ends (fun k => ?_)
        simp only [spec_l8At.l0]
        rw [if_pos (by omega), if_pos (by omega), if_pos (dot_pos (a := (rd_T33 xs (i : Int)).f0) h)]
        rfl
      · rw [if_neg h]
        refine Ev.step (fun k => ?_) (ih (i + 1) (by omega))
        simp only [spec_l8At.l0]
        rw [if_pos (by omega), if_pos (by omega), if_neg (dot_neg (a := (rd_T33 xs (i : Int)).f0) h), wrap_succ (n := xs.length) (by omega) (by omega)]
  exact key xs.length 0 (by omega)
theorem hasDot_ev (l : List S31) (hn : l.length ≤ 4611686018427387904) (d : S31) : Ev (fun k => impl_hasDot.f k l d.f0 d.f1) (decide (d ∈ l)) := by
  have key : ∀ (n i : Nat), i + n = l.length → Ev (fun k => impl_hasDot.l0 k l (l.length : Int) (i : Int) d.f0 d.f1) (decide (d ∈ l.drop i)) := by
    intro n
    induction n with
    | zero =>
      intro i hi
      rw [List.drop_of_length_le (by omega)]
      refine Ev.ends (fun k => ?_)
      simp only [impl_hasDot.l0]
      rw [if_neg (by omega)]
      rfl
    | succ n ih =>
      intro i hi
      rw [drop_getD l i z31 (by omega)]
      by_cases h : l.getD i z31 = d
      · refine Ev.ends (fun k => ?_)
        simp only [impl_hasDot.l0]
        rw [if_pos (by omega), if_pos (by omega), if_pos (by omega), if_pos (dot_pos (a := rd_T31 l (i : Int)) h), h, decide_eq_true (by simp)]
      · have e : decide (d ∈ l.getD i z31 :: l.drop (i + 1)) = decide (d ∈ l.drop (i + 1)) := by
          rw [decide_eq_decide, List.mem_cons]
          exact ⟨fun hh => hh.resolve_left (fun e => h e.symm), .inr⟩
        rw [e]
        refine Ev.step (fun k => ?_) (ih (i + 1) (by omega))
        simp only [impl_hasDot.l0]
        rw [if_pos (by omega), if_pos (by omega), if_pos (by omega), if_neg (dot_neg (a := rd_T31 l (i : Int)) h), wrap_succ (n := l.length) (by omega) (by omega)]
  exact key l.length 0 (by omega)

theorem reached_l1 (xs : List S33) (ds : List S31) (hds : ds.length ≤ 1048576) : ∀ (n i : Nat), i + n = ds.length → ∀ (o t : List S31), o.length + n ≤ 4398046511104 → t.length + n ≤ 4398046511104 → ∀ r,
    Ev (fun k => impl_reached.l0 k (addAll (ds.drop i) (o, t)).1 (addAll (ds.drop i) (o, t)).2 xs) r → Ev (fun k => impl_reached.l1 k o t ds (ds.length : Int) (i : Int) xs) r := by
  intro n
  induction n with
  | zero =>
    intro i hi o t _ _ r h
    rw [List.drop_of_length_le (by omega)] at h
    refine Ev.step (fun k => ?_) h
    simp only [impl_reached.l1]
    rw [if_neg (by omega)]
    rfl
  | succ n ih =>
    intro i hi o t ho ht r h
    rw [drop_getD ds i z31 (by omega), addAll_cons, show ds.getD i z31 = rd_T31 ds (i : Int) from rfl] at h
    obtain ⟨K, e⟩ := hasDot_ev o (by omega) (rd_T31 ds (i : Int))
    dsimp only at e
    by_cases hm : rd_T31 ds (i : Int) ∈ o
    · rw [if_pos hm] at h
      refine Ev.round ⟨K, fun k hk => ?_⟩ (ih (i + 1) (by omega) o t (by omega) (by omega) r h)
      simp only [impl_reached.l1]
      rw [if_pos (by omega), if_pos (by omega), if_pos (by omega), e k hk, Option.bind_some, if_pos (decide_eq_true hm), wrap_succ (n := ds.length) (by omega) (by omega)]
    · rw [if_neg hm] at h
      refine Ev.round ⟨K, fun k hk => ?_⟩ (ih (i + 1) (by omega) (o ++ [rd_T31 ds (i : Int)]) (t ++ [rd_T31 ds (i : Int)]) (by rw [List.length_append]; simp only [List.length_cons, List.length_nil]; omega) (by rw [List.length_append]; simp only [List.length_cons, List.length_nil]; omega) r h)
      simp only [impl_reached.l1]
      rw [if_pos (by omega), if_pos (by omega), if_pos (by omega), e k hk, Option.bind_some, if_neg (by simp [hm]), if_pos (by omega), if_pos (by omega), wrap_succ (n := ds.length) (by omega) (by omega)]
theorem reached_l0 (xs : List S33) (hn : xs.length ≤ 1048576) (hd : ∀ x ∈ xs, x.f1.length ≤ 1048576) : ∀ (m : Nat) (o t : List S31), t.length + cnt (allX xs) o ≤ m → o.length + cnt (allX xs) o ≤ (allX xs).length → m ≤ (allX xs).length + 1 →
    Ev (fun k => impl_reached.l0 k o t xs) (bfs (locX xs) (depX xs) m o t) := by
  have hT := allX_length xs hd
  have hT2 : xs.length * 1048576 ≤ 1048576 * 1048576 := Nat.mul_le_mul_right _ hn
  have nil : ∀ (m : Nat) (o : List S31), Ev (fun k => impl_reached.l0 k o [] xs) (bfs (locX xs) (depX xs) m o []) := by
    intro m o
    refine Ev.ends (fun k => ?_)
    simp only [impl_reached.l0]
    rw [if_neg (by simp)]
    cases m <;> rfl
  intro m
  induction m with
  | zero =>
    intro o t hm _ _
    have ht : t = [] := List.length_eq_zero_iff.1 (by omega)
    subst ht
    exact nil 0 o
  | succ m ih =>
    intro o t hm hl hb
    cases t with
    | nil => exact nil _ o
    | cons y t =>
      rw [List.length_cons] at hm
      obtain ⟨K, e⟩ := itemAt_ev xs hn y
      dsimp only at e
      simp only [bfs]
      have hl0 : ((y :: t).length : Int) > 0 := by rw [List.length_cons]; omega
      have hrd : rd_T31 (y :: t) 0 = y := rfl
      cases hy : locX xs y with
      | none =>
        rw [hy] at e
        refine Ev.round (f := fun _ => some ([], false)) ⟨K, fun k hk => ?_⟩ (Ev.now _)
        simp only [impl_reached.l0, hrd]
        rw [if_pos hl0, if_pos (by omega), e k hk, Option.bind_some, if_pos (by omega), if_pos (by simp only [intO]; omega)]
      | some i =>
        rw [hy] at e
        have hi := (locX_some hy).1
        have hdi : (depX xs i).length ≤ 1048576 := hd _ (getI_mem hi)
        obtain ⟨ns, ea, _, _, hc⟩ := addAll_spec (allX xs) (depX xs i) o t (depX_all y i hy)
        refine Ev.round ⟨K, fun k hk => ?_⟩ (reached_l1 xs (depX xs i) hdi (depX xs i).length 0 (by omega) o t (by omega) (by omega) _ ?_)
        · simp only [impl_reached.l0, hrd]
          rw [if_pos hl0, if_pos (by omega), e k hk, Option.bind_some, if_pos (by omega), if_neg (by simp only [intO]; omega), if_pos (by simp only [intO]; omega), if_pos (by simp only [intO]; omega)]
          rfl
        · simp only [List.drop_zero, ea]
          exact ih (o ++ ns) (t ++ ns) (by rw [List.length_append]; omega) (by rw [List.length_append]; omega) (by omega)
def reachedR (xs : List S33) (d : S31) : List S31 × Bool := bfs (locX xs) (depX xs) ((allX xs).length + 1) [] [d]
theorem reached_ev (xs : List S33) (hn : xs.length ≤ 1048576) (hd : ∀ x ∈ xs, x.f1.length ≤ 1048576) (d : S31) : Ev (fun k => impl_reached.f k xs d.f0 d.f1) (reachedR xs d) := by
  have hc : cnt (allX xs) ([] : List S31) ≤ (allX xs).length := List.countP_le_length
  exact reached_l0 xs hn hd _ [] [d] (by simp only [List.length_cons, List.length_nil]; omega) (by simpa using hc) (by omega)
theorem reachedR_spec (xs : List S33) (d : S31) : Reached (locX xs) (depX xs) d (allX xs) (reachedR xs d) := bfs_spec (locX xs) (depX xs) (allX xs) (fun y i h => depX_all y i h) d _ (by omega)

/-- A row that grows by what is wanted. -/
theorem filt_loop {β γ : Type} (L : Nat → List β → Nat → Option γ) (n : Nat) (p : Nat → Bool) (h : Nat → β) (fin : List β → γ)
    (hs1 : ∀ (i : Nat) (out : List β) (r : γ), i < n → out.length ≤ i → p i = true → Ev (fun k => L k (out ++ [h i]) (i + 1)) r → Ev (fun k => L k out i) r)
    (hs0 : ∀ (i : Nat) (out : List β) (r : γ), i < n → out.length ≤ i → p i = false → Ev (fun k => L k out (i + 1)) r → Ev (fun k => L k out i) r)
    (he : ∀ out : List β, out.length ≤ n → Ev (fun k => L k out n) (fin out)) : Ev (fun k => L k [] 0) (fin (((List.range n).filter p).map h)) := by
  have key : ∀ (d i : Nat), i + d = n → Ev (fun k => L k (((List.range i).filter p).map h) i) (fin (((List.range n).filter p).map h)) := by
    intro d
    induction d with
    | zero =>
      intro i hi
      have : i = n := by omega
      subst this
      exact he _ (by rw [List.length_map]; exact Nat.le_trans (List.length_filter_le _ _) (by simp))
    | succ d ih =>
      intro i hi
      have hl : (((List.range i).filter p).map h).length ≤ i := by rw [List.length_map]; exact Nat.le_trans (List.length_filter_le _ _) (by simp)
      have hn := ih (i + 1) (by omega)
      rw [List.range_succ, List.filter_append, List.map_append] at hn
      cases hp : p i
      · refine hs0 i _ _ (by omega) hl hp ?_
        simpa [hp] using hn
      · refine hs1 i _ _ (by omega) hl hp ?_
        simpa [hp] using hn
  exact key n 0 (by omega)

/-! withDot -/
theorem withDot_j2 (l : List S31) (hl : l.length ≤ 4398046511104) (d : S31) (i : Nat) (hi : i ≤ l.length) (b : Bool) : Ev (fun k => impl_withDot.j2 k l (i : Int) b d.f0 d.f1) (if b = true then l else l.take i ++ d :: l.drop i) := by
  refine Ev.ends (fun k => ?_)
  cases b
  · have h1 : (l.take i).length = i := by rw [List.length_take]; omega
    have h2 : (l.drop i).length = l.length - i := List.length_drop
    simp only [impl_withDot.j2, impl_copyDots.f, List.nil_append, List.length_nil, Int.toNat_natCast, Nat.zero_add, Bool.false_eq_true, if_false]
    rw [if_pos (by omega), if_pos (by omega)]
    rw [if_pos (by omega), Option.bind_some, Option.bind_some, if_pos (by simp only [List.length_cons, List.length_nil]; omega), Option.bind_some, Option.bind_some, if_pos (by rw [List.length_append]; simp only [List.length_cons, List.length_nil]; omega)]
    simp
  · simp only [impl_withDot.j2, if_true]
theorem withDot_ev (l : List S31) (hl : l.length ≤ 4398046511104) (d : S31) : Ev (fun k => impl_withDot.f k l d.f0 d.f1) (ins lessD l d) := by
  have key : ∀ (n i : Nat), i + n = l.length → Ev (fun k => impl_withDot.l0 k l (i : Int) d.f0 d.f1) (if i + low lessD d (l.drop i) < l.length ∧ l.getD (i + low lessD d (l.drop i)) z31 = d then l else l.take (i + low lessD d (l.drop i)) ++ d :: l.drop (i + low lessD d (l.drop i))) := by
    have stop : ∀ i, i ≤ l.length → Ev (fun k => impl_withDot.j1 k l (i : Int) false d.f0 d.f1) (if i < l.length ∧ l.getD i z31 = d then l else l.take i ++ d :: l.drop i) := by
      intro i hi
      by_cases h : i < l.length
      · by_cases he : l.getD i z31 = d
        · rw [if_pos ⟨h, he⟩]
          have := withDot_j2 l hl d i hi true
          rw [if_pos rfl] at this
          refine Ev.step (fun k => ?_) this
          simp only [impl_withDot.j1]
          rw [if_neg (by decide), if_pos (by omega), if_pos (by omega), show ((rd_T31 l (i : Int)).f0 == d.f0 && (rd_T31 l (i : Int)).f1 == d.f1) = true from dot_pos (a := rd_T31 l (i : Int)) he]
        · rw [if_neg (fun h => he h.2)]
          have := withDot_j2 l hl d i hi false
          rw [if_neg (by decide)] at this
          refine Ev.step (fun k => ?_) this
          simp only [impl_withDot.j1]
          rw [if_neg (by decide), if_pos (by omega), if_pos (by omega), show ((rd_T31 l (i : Int)).f0 == d.f0 && (rd_T31 l (i : Int)).f1 == d.f1) = false from Bool.eq_false_iff.2 (dot_neg (a := rd_T31 l (i : Int)) he)]
      · rw [if_neg (fun hh => h hh.1)]
        have := withDot_j2 l hl d i hi false
        rw [if_neg (by decide)] at this
        refine Ev.step (fun k => ?_) this
        simp only [impl_withDot.j1]
        rw [if_neg (by decide), if_neg (by omega)]
    intro n
    induction n with
    | zero =>
      intro i hi
      rw [List.drop_of_length_le (by omega)]
      simp only [low, Nat.add_zero]
      refine Ev.step (fun k => ?_) (stop i (by omega))
      simp only [impl_withDot.l0]
      rw [if_neg (by omega)]
    | succ n ih =>
      intro i hi
      rw [drop_getD l i z31 (by omega)]
      unfold low
      by_cases h : lessD (l.getD i z31) d = true
      · rw [if_pos h]
        have nx := ih (i + 1) (by omega)
        have e : i + 1 + low lessD d (l.drop (i + 1)) = i + (low lessD d (l.drop (i + 1)) + 1) := by omega
        rw [e] at nx
        refine Ev.step (f := fun k => impl_withDot.j1 k l (i : Int) true d.f0 d.f1) (fun k => ?_) (Ev.step (fun k => ?_) nx)
        · simp only [impl_withDot.l0, impl_dotLess_eq, Option.bind_some]
          rw [if_pos (by omega), if_pos (by omega), show dotLessR (rd_T31 l (i : Int)).f0 (rd_T31 l (i : Int)).f1 d.f0 d.f1 = true from h]
        · simp only [impl_withDot.j1]
          rw [if_pos trivial, wrap_succ (n := l.length) (by omega) (by omega)]
      · rw [if_neg h, Nat.add_zero]
        refine Ev.step (fun k => ?_) (stop i (by omega))
        simp only [impl_withDot.l0, impl_dotLess_eq, Option.bind_some]
        rw [if_pos (by omega), if_pos (by omega), show dotLessR (rd_T31 l (i : Int)).f0 (rd_T31 l (i : Int)).f1 d.f0 d.f1 = false from Bool.eq_false_iff.2 h]
  have h := key l.length 0 (by omega)
  rw [List.drop_zero, Nat.zero_add, ← ins_eq] at h
  exact h
/-! the reference: by places -/
theorem rdB (met : List Bool) (j : Nat) : rdOf false met (j : Int) = met.getD j false := rfl
theorem l8Reach_l1 (xs : List S33) (hn : xs.length ≤ 1048576) (ds : List S31) (hds : ds.length ≤ 1048576) (qk : Int) : ∀ (n i : Nat), i + n = ds.length → ∀ (met : List Bool) (w : Bool) (q : List Nat), met.length = xs.length → q.length + fls met ≤ 1048577 → ∀ (pre : List Int), pre.length ≤ 1048577 → ∀ r,
    Ev (fun k => spec_l8Reach.l0 k (addS (locX xs) (ds.drop i) (met, w, q)).1 (addS (locX xs) (ds.drop i) (met, w, q)).2.1 (pre ++ (addS (locX xs) (ds.drop i) (met, w, q)).2.2.map (fun (j : Nat) => (j : Int))) (wrap64 (qk + 1)) xs) r → Ev (fun k => spec_l8Reach.l1 k met w (pre ++ q.map (fun (j : Nat) => (j : Int))) qk ds (i : Int) xs) r := by
  intro n
  induction n with
  | zero =>
    intro i hi met w q _ _ pre _ r h
    rw [List.drop_of_length_le (by omega)] at h
    refine Ev.step (fun k => ?_) h
    simp only [spec_l8Reach.l1]
    rw [if_neg (by omega)]
    rfl
  | succ n ih =>
    intro i hi met w q hm hq pre hp r h
    rw [drop_getD ds i z31 (by omega), show ds.getD i z31 = rd_T31 ds (i : Int) from rfl] at h
    have hc : addS (locX xs) (rd_T31 ds (i : Int) :: ds.drop (i + 1)) (met, w, q) = addS (locX xs) (ds.drop (i + 1)) (match locX xs (rd_T31 ds (i : Int)) with | none => (met, false, q) | some j => if met.getD j false = true then (met, w, q) else (met.set j true, w, q ++ [j])) := rfl
    rw [hc] at h
    obtain ⟨K, e⟩ := l8At_ev xs hn (rd_T31 ds (i : Int))
    dsimp only at e
    cases hx : locX xs (rd_T31 ds (i : Int)) with
    | none =>
      rw [hx] at h e
      dsimp only at h
      refine Ev.round ⟨K, fun k hk => ?_⟩ (ih (i + 1) (by omega) met false q hm hq pre hp r h)
      simp only [spec_l8Reach.l1]
      rw [if_pos (by omega), if_pos (by omega), e k hk, Option.bind_some, if_pos (by simp only [intO]; omega), wrap_succ (n := ds.length) (by omega) (by omega)]
    | some j =>
      rw [hx] at h e
      rw [show intO (some j) = (j : Int) from rfl] at e
      dsimp only at h
      have hj := (locX_some hx).1
      by_cases hmj : met.getD j false = true
      · rw [if_pos hmj] at h
        refine Ev.round ⟨K, fun k hk => ?_⟩ (ih (i + 1) (by omega) met w q hm hq pre hp r h)
        simp only [spec_l8Reach.l1]
        rw [if_pos (by omega), if_pos (by omega), e k hk, Option.bind_some, if_neg (by omega), if_pos (by omega), if_pos (by omega), if_pos (show rdOf false met (j : Int) = true from hmj), wrap_succ (n := ds.length) (by omega) (by omega)]
      · rw [if_neg hmj] at h
        have hf := fls_set (met := met) (j := j) (by omega) hmj
        refine Ev.round ⟨K, fun k hk => ?_⟩ (ih (i + 1) (by omega) (met.set j true) w (q ++ [j]) (by simpa using hm) (by rw [List.length_append]; simp only [List.length_cons, List.length_nil]; omega) pre hp r h)
        simp only [spec_l8Reach.l1]
        rw [if_pos (by omega), if_pos (by omega), e k hk, Option.bind_some, if_neg (by omega), if_pos (by omega), if_pos (by omega), if_neg (show ¬ rdOf false met (j : Int) = true from hmj), if_pos (by rw [List.length_append, List.length_map]; omega), wrap_succ (n := ds.length) (by omega) (by omega)]
        simp
theorem l8Reach_l0 (xs : List S33) (hn : xs.length ≤ 1048576) (hd : ∀ x ∈ xs, x.f1.length ≤ 1048576) : ∀ (m : Nat) (met : List Bool) (w : Bool) (done r : List Nat), r.length + fls met ≤ m → met.length = xs.length → (∀ j ∈ r, j < xs.length) → done.length + r.length + fls met ≤ 1048577 →
    Ev (fun k => spec_l8Reach.l0 k met w ((done ++ r).map (fun (j : Nat) => (j : Int))) (done.length : Int) xs) (bfsS (locX xs) (depX xs) m met w r) := by
  have nil : ∀ (m : Nat) (met : List Bool) (w : Bool) (done : List Nat), Ev (fun k => spec_l8Reach.l0 k met w ((done ++ []).map (fun (j : Nat) => (j : Int))) (done.length : Int) xs) (bfsS (locX xs) (depX xs) m met w []) := by
    intro m met w done
    refine Ev.ends (fun k => ?_)
    simp only [spec_l8Reach.l0]
    rw [if_neg (by simp)]
    cases m <;> rfl
  intro m
  induction m with
  | zero =>
    intro met w done r hm _ _ _
    have hr : r = [] := List.length_eq_zero_iff.1 (by omega)
    subst hr
    exact nil 0 met w done
  | succ m ih =>
    intro met w done r hm hl hr hb
    cases r with
    | nil => exact nil _ met w done
    | cons j r =>
      rw [List.length_cons] at hm hb
      have hj := hr j (by simp)
      simp only [bfsS]
      obtain ⟨met', w', ns, ea, a1, a2, _, _, a5, _⟩ := addS_spec (locX xs) xs.length (fun x p hp => (locX_some hp).1) (depX xs j) met w r hl
      have hq : rd ((done ++ j :: r).map (fun (j : Nat) => (j : Int))) (done.length : Int) = (j : Int) := by
        rw [rd_nat, List.getD_eq_getElem?_getD, List.getElem?_map, List.getElem?_append_right (Nat.le_refl _), Nat.sub_self]
        rfl
      have hmap : (done ++ j :: r).map (fun (j : Nat) => (j : Int)) = (done ++ [j]).map (fun (j : Nat) => (j : Int)) ++ r.map (fun (j : Nat) => (j : Int)) := by simp
      have hlen : ((done ++ j :: r).map (fun (j : Nat) => (j : Int))).length = done.length + (r.length + 1) := by simp
      have hw : wrap64 ((done.length : Int) + 1) = ((done ++ [j]).length : Int) := by rw [wrap_id (by omega) (by omega)]; simp
      refine Ev.step (fun k => ?_) (l8Reach_l1 xs hn (depX xs j) (hd _ (getI_mem hj)) (done.length : Int) (depX xs j).length 0 (by omega) met w r hl (by omega) ((done ++ [j]).map (fun (j : Nat) => (j : Int))) (by simp; omega) _ ?_)
      · simp only [spec_l8Reach.l0, hq]
        rw [if_pos (by omega), if_pos (by omega), if_pos (by omega), if_pos (by omega), hmap]
        rfl
      · simp only [List.drop_zero, ea, hw]
        have h := ih met' w' (done ++ [j]) (r ++ ns) (by rw [List.length_append]; omega) a1 (fun p hp => ?_) (by rw [List.length_append, List.length_append]; simp only [List.length_cons, List.length_nil]; omega)
        · simpa using h
        · rcases List.mem_append.1 hp with hp | hp
          · exact hr p (by simp [hp])
          · obtain ⟨x, _, hx⟩ := (a5 p hp).2
            exact (locX_some hx).1
def reachR (xs : List S33) (i : Nat) : List Bool × Bool := bfsS (locX xs) (depX xs) (xs.length + 1) (List.replicate xs.length false) true [i]
theorem fls_replicate (n : Nat) : fls (List.replicate n false) ≤ n := by
  have := List.countP_le_length (p := fun b => !b) (l := List.replicate n false)
  simpa [fls] using this
theorem l8Reach_ev (xs : List S33) (hn : xs.length ≤ 1048576) (hd : ∀ x ∈ xs, x.f1.length ≤ 1048576) (i : Nat) (hi : i < xs.length) : Ev (fun k => spec_l8Reach.f k xs (i : Int)) (reachR xs i) := by
  have hf := fls_replicate xs.length
  have h := l8Reach_l0 xs hn hd (xs.length + 1) (List.replicate xs.length false) true [] [i] (by simp only [List.length_cons, List.length_nil]; omega) (by simp) (fun j hj => (show j = i by simpa using hj) ▸ hi) (by simp only [List.length_cons, List.length_nil]; omega)
  refine Ev.congr (fun k => ?_) h
  simp only [spec_l8Reach.f]
  rw [if_pos (by omega), if_pos (by omega)]
  rfl
theorem reachR_spec {xs : List S33} (ha : ∀ j, 0 < j → j < xs.length → asc xs j) (i : Nat) (hi : i < xs.length) : ReachedS (locX xs) (depX xs) (dotX xs) xs.length i (reachR xs i) :=
  bfsS_spec (locX xs) (depX xs) xs.length (dotX xs) (fun j hj => locX_dot ha hj) (fun x j h => locX_some h) i hi _ (Nat.le_refl _)
theorem l8All_ev (xs : List S33) (hn : xs.length ≤ 1048576) (hd : ∀ x ∈ xs, x.f1.length ≤ 1048576) : Ev (fun k => spec_l8All.f k xs) ((List.range xs.length).map (fun i => (reachR xs i).1), (List.range xs.length).map (fun i => (reachR xs i).2)) := by
  have key : ∀ (n i : Nat), i + n = xs.length → Ev (fun k => spec_l8All.l0 k ((List.range i).map (fun i => (reachR xs i).1)) ((List.range i).map (fun i => (reachR xs i).2)) (i : Int) xs) ((List.range xs.length).map (fun i => (reachR xs i).1), (List.range xs.length).map (fun i => (reachR xs i).2)) := by
    intro n
    induction n with
    | zero =>
      intro i hi
      have : i = xs.length := by omega
      subst this
      refine Ev.ends (fun k => ?_)
      simp only [spec_l8All.l0]
      rw [if_neg (by omega)]
    | succ n ih =>
      intro i hi
      obtain ⟨K, e⟩ := l8Reach_ev xs hn hd i (by omega)
      dsimp only at e
      have nx := ih (i + 1) (by omega)
      rw [List.range_succ, List.map_append, List.map_append] at nx
      refine Ev.round ⟨K, fun k hk => ?_⟩ nx
      simp only [spec_l8All.l0]
      rw [if_pos (by omega), e k hk, Option.bind_some, if_pos (by simp; omega), if_pos (by simp; omega), wrap_succ (n := xs.length) (by omega) (by omega)]
      rfl
  exact key xs.length 0 (by omega)
/-! Whole -/
def wholeR (xs : List S33) (ok : Bool) : List S31 := if ok = true then ((List.range xs.length).filter (fun i => (reachR xs i).2)).map (dotX xs) else []
theorem reach_whole {xs : List S33} (ha : ∀ j, 0 < j → j < xs.length → asc xs j) {i : Nat} (hi : i < xs.length) : (reachedR xs (dotX xs i)).2 = (reachR xs i).2 := by
  have h1 := (reachedR_spec xs (dotX xs i)).whole
  have h2 := (reachR_spec ha i hi).whole
  rw [Bool.eq_iff_iff, h1, h2]
  constructor
  · intro h y hy
    exact h y (.inr hy)
  · rintro h y (rfl | hy)
    · rw [locX_dot ha hi]; simp
    · exact h y hy
theorem asc_map {xs : List S33} (ha : ∀ j, 0 < j → j < xs.length → asc xs j) (p : Nat → Bool) (n : Nat) (hn : n ≤ xs.length) : Asc lessD (((List.range n).filter p).map (dotX xs)) := by
  unfold Asc
  rw [List.pairwise_map]
  refine List.Pairwise.imp_of_mem (R := fun i j => i < j) (fun {i j} hi hj hlt => ?_) (List.Pairwise.filter _ List.pairwise_lt_range)
  have h2 : j < n := by simpa using (List.mem_filter.1 hj).1
  have := asc_lt ha (j - i - 1) i (by omega)
  rwa [show i + (j - i - 1) + 1 = j from by omega] at this
theorem ins_last {xs : List S33} (ha : ∀ j, 0 < j → j < xs.length → asc xs j) (p : Nat → Bool) (i : Nat) (hi : i < xs.length) : ins lessD (((List.range i).filter p).map (dotX xs)) (dotX xs i) = ((List.range i).filter p).map (dotX xs) ++ [dotX xs i] := by
  have h1 := asc_map ha p i (by omega)
  refine asc_ext lessD lessD_strict _ _ (asc_ins lessD lessD_strict _ _ h1) (List.pairwise_append.2 ⟨h1, by simp, fun a hm b hb => ?_⟩) (fun x => ?_)
  · have : b = dotX xs i := by simpa using hb
    subst this
    obtain ⟨j, hj, rfl⟩ := List.mem_map.1 hm
    have h2 : j < i := by simpa using (List.mem_filter.1 hj).1
    have := asc_lt ha (i - j - 1) j (by omega)
    rwa [show j + (i - j - 1) + 1 = i from by omega] at this
  · rw [mem_ins, List.mem_append, List.mem_singleton]
    exact Or.comm

theorem implWhole_ev (xs : List S33) (hn : xs.length ≤ 1048576) (hd : ∀ x ∈ xs, x.f1.length ≤ 1048576) (ha : ∀ j, 0 < j → j < xs.length → asc xs j) : Ev (fun k => impl_Whole.l0 k [] xs (xs.length : Int) 0 xs) (((List.range xs.length).filter (fun i => (reachR xs i).2)).map (dotX xs)) := by
  have key : ∀ (n i : Nat), i + n = xs.length → Ev (fun k => impl_Whole.l0 k (((List.range i).filter (fun i => (reachR xs i).2)).map (dotX xs)) xs (xs.length : Int) (i : Int) xs) (((List.range xs.length).filter (fun i => (reachR xs i).2)).map (dotX xs)) := by
    intro n
    induction n with
    | zero =>
      intro i hi
      have : i = xs.length := by omega
      subst this
      refine Ev.ends (fun k => ?_)
      simp only [impl_Whole.l0]
      rw [if_neg (by omega)]
    | succ n ih =>
      intro i hi
      obtain ⟨K, e⟩ := reached_ev xs hn hd (dotX xs i)
      dsimp only at e
      have nx := ih (i + 1) (by omega)
      rw [List.range_succ, List.filter_append, List.map_append] at nx
      have hw := reach_whole ha (i := i) (by omega)
      have hlen : (((List.range i).filter (fun i => (reachR xs i).2)).map (dotX xs)).length ≤ i := by rw [List.length_map]; exact Nat.le_trans (List.length_filter_le _ _) (by simp)
      cases hb : (reachR xs i).2
      · rw [hb] at hw
        have hfi : List.filter (fun i => (reachR xs i).2) [i] = [] := by simp [hb]
        rw [hfi, List.map_nil, List.append_nil] at nx
        refine Ev.round ⟨K, fun k hk => ?_⟩ nx
        simp only [impl_Whole.l0]
        rw [if_pos (by omega), if_pos (by omega), if_pos (by omega), show rd_T33 xs (i : Int) = xs.getD i z33 from rfl, show impl_reached.f k xs (xs.getD i z33).f0.f0 (xs.getD i z33).f0.f1 = _ from e k hk, Option.bind_some, if_neg (by rw [hw]; decide), wrap_succ (n := xs.length) (by omega) (by omega)]
      · rw [hb] at hw
        have hfi : List.filter (fun i => (reachR xs i).2) [i] = [i] := by simp [hb]
        rw [hfi, List.map_cons, List.map_nil, ← ins_last ha _ i (by omega)] at nx
        obtain ⟨K2, e2⟩ := withDot_ev (((List.range i).filter (fun i => (reachR xs i).2)).map (dotX xs)) (by omega) (dotX xs i)
        dsimp only at e2
        refine Ev.round ⟨K + K2, fun k hk => ?_⟩ nx
        simp only [impl_Whole.l0]
        rw [if_pos (by omega), if_pos (by omega), if_pos (by omega), show rd_T33 xs (i : Int) = xs.getD i z33 from rfl, show impl_reached.f k xs (xs.getD i z33).f0.f0 (xs.getD i z33).f0.f1 = _ from e k (by omega), Option.bind_some, if_pos hw, show impl_withDot.f k (((List.range i).filter (fun i => (reachR xs i).2)).map (dotX xs)) (xs.getD i z33).f0.f0 (xs.getD i z33).f0.f1 = _ from e2 k (by omega), Option.bind_some, wrap_succ (n := xs.length) (by omega) (by omega)]
  exact key xs.length 0 (by omega)

theorem rdLB (l : List (List Bool)) (j : Nat) : rd_L10 l (j : Int) = l.getD j [] := rfl
def grpIn (xs : List S33) (k i : Nat) : Bool := (i == k) || ((reachR xs k).1.getD i false && (reachR xs i).1.getD k false)
def grpX (xs : List S33) (k : Nat) : List S31 := ((List.range xs.length).filter (grpIn xs k)).map (dotX xs)
def groupR (xs : List S33) (ok : Bool) (d : S31) : List S31 := if ok = true then match locX xs d with
  | none => []
  | some k => if (reachR xs k).2 = true then grpX xs k else [] else []
theorem groupR_length (xs : List S33) (ok : Bool) (d : S31) : (groupR xs ok d).length ≤ xs.length := by
  unfold groupR grpX
  split
  · split
    · simp
    · split
      · rw [List.length_map]; exact Nat.le_trans (List.length_filter_le _ _) (by simp)
      · simp
  · simp
theorem reachR_len {xs : List S33} (ha : ∀ j, 0 < j → j < xs.length → asc xs j) {i : Nat} (hi : i < xs.length) : (reachR xs i).1.length = xs.length := (reachR_spec ha i hi).len
def grpF (xs : List S33) (d : S31) (l o : List S31) : List S31 := l.foldl (fun o x => if d ∈ (reachedR xs x).1 then ins lessD o x else o) o
theorem grpF_asc (xs : List S33) (d : S31) : ∀ (l o : List S31), Asc lessD o → Asc lessD (grpF xs d l o) ∧ ∀ x, x ∈ grpF xs d l o ↔ x ∈ o ∨ (x ∈ l ∧ d ∈ (reachedR xs x).1) := by
  intro l
  induction l with
  | nil => intro o h; exact ⟨h, fun x => by simp [grpF]⟩
  | cons y l ih =>
    intro o h
    have hc : grpF xs d (y :: l) o = grpF xs d l (if d ∈ (reachedR xs y).1 then ins lessD o y else o) := rfl
    rw [hc]
    by_cases hy : d ∈ (reachedR xs y).1
    · rw [if_pos hy]
      obtain ⟨h1, h2⟩ := ih _ (asc_ins lessD lessD_strict o y h)
      refine ⟨h1, fun x => ?_⟩
      rw [h2, mem_ins, List.mem_cons]
      constructor
      · rintro ((rfl | h) | h)
        · exact .inr ⟨.inl rfl, hy⟩
        · exact .inl h
        · exact .inr ⟨.inr h.1, h.2⟩
      · rintro (h | ⟨rfl | h, h'⟩)
        · exact .inl (.inr h)
        · exact .inl (.inl rfl)
        · exact .inr ⟨h, h'⟩
    · rw [if_neg hy]
      obtain ⟨h1, h2⟩ := ih o h
      refine ⟨h1, fun x => ?_⟩
      rw [h2, List.mem_cons]
      constructor
      · rintro (h | h)
        · exact .inl h
        · exact .inr ⟨.inr h.1, h.2⟩
      · rintro (h | ⟨rfl | h, h'⟩)
        · exact .inl h
        · exact absurd h' hy
        · exact .inr ⟨h, h'⟩
theorem implGroup_l0 (xs : List S33) (hn : xs.length ≤ 1048576) (hd : ∀ x ∈ xs, x.f1.length ≤ 1048576) (d : S31) (l : List S31) (hl : l.length ≤ 2199023255552) : ∀ (n i : Nat), i + n = l.length → ∀ o : List S31, o.length ≤ i + 1 → Ev (fun k => impl_Group.l0 k o l (l.length : Int) (i : Int) xs d.f0 d.f1) (grpF xs d (l.drop i) o) := by
  have hT := allX_length xs hd
  have hT2 : xs.length * 1048576 ≤ 1048576 * 1048576 := Nat.mul_le_mul_right _ hn
  intro n
  induction n with
  | zero =>
    intro i hi o _
    rw [List.drop_of_length_le (by omega)]
    refine Ev.ends (fun k => ?_)
    simp only [impl_Group.l0]
    rw [if_neg (by omega)]
    rfl
  | succ n ih =>
    intro i hi o ho
    rw [drop_getD l i z31 (by omega), show l.getD i z31 = rd_T31 l (i : Int) from rfl]
    have hs := (reachedR_spec xs (rd_T31 l (i : Int))).small
    obtain ⟨K, e⟩ := reached_ev xs hn hd (rd_T31 l (i : Int))
    obtain ⟨K2, e2⟩ := hasDot_ev (reachedR xs (rd_T31 l (i : Int))).1 (by omega) d
    obtain ⟨K3, e3⟩ := withDot_ev o (by omega) (rd_T31 l (i : Int))
    dsimp only at e e2 e3
    have hc : grpF xs d (rd_T31 l (i : Int) :: l.drop (i + 1)) o = grpF xs d (l.drop (i + 1)) (if d ∈ (reachedR xs (rd_T31 l (i : Int))).1 then ins lessD o (rd_T31 l (i : Int)) else o) := rfl
    rw [hc]
    by_cases hm : d ∈ (reachedR xs (rd_T31 l (i : Int))).1
    · rw [if_pos hm]
      have hil := ins_length lessD o (rd_T31 l (i : Int))
      refine Ev.round ⟨K + K2 + K3, fun k hk => ?_⟩ (ih (i + 1) (by omega) (ins lessD o (rd_T31 l (i : Int))) (by omega))
      simp only [impl_Group.l0]
      rw [if_pos (by omega), if_pos (by omega), if_pos (by omega), e k (by omega), Option.bind_some, e2 k (by omega), Option.bind_some, if_pos (decide_eq_true hm), e3 k (by omega), Option.bind_some, wrap_succ (n := l.length) (by omega) (by omega)]
    · rw [if_neg hm]
      refine Ev.round ⟨K + K2 + K3, fun k hk => ?_⟩ (ih (i + 1) (by omega) o (by omega))
      simp only [impl_Group.l0]
      rw [if_pos (by omega), if_pos (by omega), if_pos (by omega), e k (by omega), Option.bind_some, e2 k (by omega), Option.bind_some, if_neg (by simp [hm]), wrap_succ (n := l.length) (by omega) (by omega)]
theorem group_eq {xs : List S33} (ha : ∀ j, 0 < j → j < xs.length → asc xs j) (d : S31) : (if (reachedR xs d).2 = true then grpF xs d (reachedR xs d).1 [d] else []) = groupR xs true d := by
  have hR := reachedR_spec xs d
  unfold groupR
  rw [if_pos rfl]
  cases hl : locX xs d with
  | none =>
    have hf : ¬ (reachedR xs d).2 = true := fun h => (hR.whole.1 h) d (.inl rfl) hl
    rw [if_neg hf]
  | some k =>
    obtain ⟨hk, hdk⟩ := locX_some hl
    have hw := reach_whole ha hk
    rw [hdk] at hw
    dsimp only
    rw [hw]
    by_cases hb : (reachR xs k).2 = true
    · rw [if_pos hb, if_pos hb]
      rw [hb] at hw
      obtain ⟨h1, h2⟩ := grpF_asc xs d (reachedR xs d).1 [d] (by simp [Asc])
      refine asc_ext lessD lessD_strict _ _ h1 (asc_map ha _ _ (Nat.le_refl _)) (fun x => ?_)
      have hall := hR.all hw
      have hwh := hR.whole.1 hw
      rw [h2, List.mem_singleton, hall, grpX, List.mem_map]
      have back : ∀ x, Rch (locX xs) (depX xs) d x → (d ∈ (reachedR xs x).1 ↔ Rch (locX xs) (depX xs) x d) := fun x hx => by
        have hX := reachedR_spec xs x
        refine hX.all (hX.whole.2 (fun y hy => hwh y (.inr ?_))) d
        rcases hy with rfl | hy
        · exact hx
        · exact hx.trans _ _ hy
      constructor
      · rintro (rfl | ⟨hx, hb2⟩)
        · refine ⟨k, List.mem_filter.2 ⟨by simpa using hk, ?_⟩, hdk⟩
          unfold grpIn
          rw [beq_self_eq_true, Bool.true_or]
        · have hx2 := (back x hx).1 hb2
          cases hlx : locX xs x with
          | none => exact absurd hlx (hwh x (.inr hx))
          | some i =>
            obtain ⟨hi, hdi⟩ := locX_some hlx
            refine ⟨i, List.mem_filter.2 ⟨by simpa using hi, ?_⟩, hdi⟩
            unfold grpIn
            rw [((reachR_spec ha k hk).all i hi).2 (by rw [hdk, hdi]; exact hx), ((reachR_spec ha i hi).all k hk).2 (by rw [hdk, hdi]; exact hx2), Bool.true_and, Bool.or_true]
      · rintro ⟨i, hi, rfl⟩
        obtain ⟨hi1, hi2⟩ := List.mem_filter.1 hi
        have hin : i < xs.length := by simpa using hi1
        unfold grpIn at hi2
        rw [Bool.or_eq_true, Bool.and_eq_true] at hi2
        rcases hi2 with h | ⟨h3, h4⟩
        · have : i = k := by simpa using h
          subst this
          exact .inl hdk
        · have r1 := ((reachR_spec ha k hk).all i hin).1 h3
          have r2 := ((reachR_spec ha i hin).all k hk).1 h4
          rw [hdk] at r1 r2
          exact .inr ⟨r1, (back _ r1).2 r2⟩
    · rw [if_neg hb, if_neg hb]
theorem implGroup_ev (xs : List S33) (hn : xs.length ≤ 1048576) (hd : ∀ x ∈ xs, x.f1.length ≤ 1048576) (ok : Bool) (ha : ok = true → ∀ j, 0 < j → j < xs.length → asc xs j) (h2 : Ev (fun k => impl_GraphOk.f k xs) ok) (d : S31) : Ev (fun k => impl_Group.f k xs d.f0 d.f1) (groupR xs ok d) := by
  have hT := allX_length xs hd
  have hT2 : xs.length * 1048576 ≤ 1048576 * 1048576 := Nat.mul_le_mul_right _ hn
  have hs := (reachedR_spec xs d).small
  have no : Ev (fun k => impl_Group.j0 k (reachedR xs d).1 true xs d.f0 d.f1) [] := Ev.ends (fun k => by simp only [impl_Group.j0]; rw [if_pos trivial])
  refine Ev.bind' (reached_ev xs hn hd d) ?_
  cases ok
  · have e : groupR xs false d = [] := by unfold groupR; rw [if_neg (by decide)]
    rw [e]
    cases (reachedR xs d).2
    · exact Ev.congr (fun k => by rw [if_neg (by decide)]) no
    · exact Ev.congr (fun k => by rw [if_pos rfl]) (Ev.bind' h2 no)
  · rw [← group_eq (ha rfl) d]
    cases hb : (reachedR xs d).2
    · rw [if_neg (by decide)]
      exact Ev.congr (fun k => by rw [if_neg (by decide)]) no
    · rw [if_pos rfl]
      refine Ev.congr (f := fun k => (impl_GraphOk.f k xs).bind fun t317 => (impl_Group.j0 k (reachedR xs d).1 (!t317) xs d.f0 d.f1)) (fun k => by rw [if_pos rfl]) (Ev.bind' h2 ?_)
      refine Ev.step (fun k => ?_) (implGroup_l0 xs hn hd d (reachedR xs d).1 (by omega) (reachedR xs d).1.length 0 (by omega) [d] (by simp))
      simp only [impl_Group.j0]
      rw [if_neg (by decide)]
      rfl

theorem cnt_mono {D : Type} [DecidableEq D] (T o o' : List D) (h : ∀ x, x ∈ o → x ∈ o') : cnt T o' ≤ cnt T o := by
  unfold cnt
  refine List.countP_mono_left (fun y _ hy => ?_)
  have hy := of_decide_eq_true hy
  exact decide_eq_true (fun hm => hy (h y hm))
theorem cnt_less {D : Type} [DecidableEq D] (T o o' : List D) (h : ∀ x, x ∈ o → x ∈ o') (x : D) (hx : x ∈ T) (ho : x ∉ o) (ho' : x ∈ o') : cnt T o' + 1 ≤ cnt T o := by
  have h1 := cnt_lt hx ho
  have h2 := cnt_mono T (o ++ [x]) o' (fun y hy => by
    rcases List.mem_append.1 hy with hy | hy
    · exact h y hy
    · rw [List.mem_singleton.1 hy]; exact ho')
  omega
def dotsX (xs : List S33) : List S31 := (List.range xs.length).map (dotX xs)
theorem mem_grpX {xs : List S33} (ha : ∀ j, 0 < j → j < xs.length → asc xs j) (k i : Nat) (hi : i < xs.length) : decide (dotX xs i ∈ grpX xs k) = grpIn xs k i := by
  rw [Bool.eq_iff_iff, decide_eq_true_iff, grpX, List.mem_map]
  constructor
  · rintro ⟨j, hj, e⟩
    obtain ⟨h1, h2⟩ := List.mem_filter.1 hj
    have := dotX_inj ha (by simpa using h1) hi e
    subst this
    exact h2
  · intro h
    exact ⟨i, List.mem_filter.2 ⟨by simpa using hi, h⟩, rfl⟩
def goodX (g out : List S31) (x : S31) : Bool := decide (x ∈ g) || decide (x ∈ out)
def readyX (xs : List S33) (k : Nat) (out : List S31) : Bool := ((List.range xs.length).filter (grpIn xs k)).all (fun i => (depX xs i).all (goodX (grpX xs k) out))
theorem impl_ready_l1 (xs : List S33) (g out : List S31) (hg : g.length ≤ 1048576) (ho : out.length ≤ 2199023255552) (q : Int) (ds : List S31) (hds : ds.length ≤ 1048576) (rest : Bool) (hrest : Ev (fun k => impl_ready.l0 k g out g (g.length : Int) (wrap64 (q + 1)) xs) rest) : ∀ (n i : Nat), i + n = ds.length → Ev (fun k => impl_ready.l1 k g out g (g.length : Int) q ds (ds.length : Int) (i : Int) xs) ((ds.drop i).all (goodX g out) && rest) := by
  intro n
  induction n with
  | zero =>
    intro i hi
    rw [List.drop_of_length_le (by omega)]
    refine Ev.step (fun k => ?_) hrest
    simp only [impl_ready.l1]
    rw [if_neg (by omega)]
  | succ n ih =>
    intro i hi
    rw [drop_getD ds i z31 (by omega), show ds.getD i z31 = rd_T31 ds (i : Int) from rfl, List.all_cons]
    obtain ⟨K, e⟩ := hasDot_ev g (by omega) (rd_T31 ds (i : Int))
    obtain ⟨K2, e2⟩ := hasDot_ev out (by omega) (rd_T31 ds (i : Int))
    dsimp only at e e2
    have jt : Ev (fun k => impl_ready.j2 k g out g (g.length : Int) q ds (ds.length : Int) (i : Int) true xs) false := Ev.ends (fun k => by simp only [impl_ready.j2]; rw [if_pos trivial])
    have jf : Ev (fun k => impl_ready.j2 k g out g (g.length : Int) q ds (ds.length : Int) (i : Int) false xs) ((ds.drop (i + 1)).all (goodX g out) && rest) := by
      refine Ev.step (fun k => ?_) (ih (i + 1) (by omega))
      simp only [impl_ready.j2]
      rw [if_neg (by decide), wrap_succ (n := ds.length) (by omega) (by omega)]
    have key : Ev (fun k => impl_ready.j2 k g out g (g.length : Int) q ds (ds.length : Int) (i : Int) (!(goodX g out (rd_T31 ds (i : Int)))) xs) ((goodX g out (rd_T31 ds (i : Int)) && (ds.drop (i + 1)).all (goodX g out)) && rest) := by
      cases goodX g out (rd_T31 ds (i : Int))
      · rw [Bool.false_and, Bool.false_and]; exact jt
      · rw [Bool.true_and]; exact jf
    refine Ev.round ⟨K + K2, fun k hk => ?_⟩ key
    simp only [impl_ready.l1, goodX]
    rw [if_pos (by omega), if_pos (by omega), if_pos (by omega), e k (by omega), Option.bind_some]
    cases decide (rd_T31 ds (i : Int) ∈ g)
    · rw [if_neg (by decide), e2 k (by omega), Option.bind_some, Bool.false_or]
    · rw [if_pos rfl, Bool.true_or]
      rfl
theorem impl_ready_ev (xs : List S33) (hn : xs.length ≤ 1048576) (hd : ∀ x ∈ xs, x.f1.length ≤ 1048576) (ha : ∀ j, 0 < j → j < xs.length → asc xs j) (k0 : Nat) (out : List S31) (ho : out.length ≤ 2199023255552) : Ev (fun k => impl_ready.f k xs (grpX xs k0) out) (readyX xs k0 out) := by
  have hg : (grpX xs k0).length ≤ xs.length := by unfold grpX; rw [List.length_map]; exact Nat.le_trans (List.length_filter_le _ _) (by simp)
  have hin : ∀ i ∈ (List.range xs.length).filter (grpIn xs k0), i < xs.length := fun i hi => by simpa using (List.mem_filter.1 hi).1
  have hlen : (grpX xs k0).length = ((List.range xs.length).filter (grpIn xs k0)).length := by unfold grpX; rw [List.length_map]
  have hget : ∀ i, i < ((List.range xs.length).filter (grpIn xs k0)).length → rd_T31 (grpX xs k0) (i : Int) = dotX xs (((List.range xs.length).filter (grpIn xs k0)).getD i 0) := by
    intro i hi
    show (grpX xs k0).getD i z31 = _
    unfold grpX
    rw [List.getD_eq_getElem?_getD, List.getElem?_map, List.getElem?_eq_getElem hi, List.getD_eq_getElem?_getD, List.getElem?_eq_getElem hi]
    rfl
  have key : ∀ (n i : Nat), i + n = ((List.range xs.length).filter (grpIn xs k0)).length → Ev (fun k => impl_ready.l0 k (grpX xs k0) out (grpX xs k0) ((grpX xs k0).length : Int) (i : Int) xs) ((((List.range xs.length).filter (grpIn xs k0)).drop i).all (fun i => (depX xs i).all (goodX (grpX xs k0) out))) := by
    intro n
    induction n with
    | zero =>
      intro i hi
      rw [List.drop_of_length_le (by omega)]
      refine Ev.ends (fun k => ?_)
      simp only [impl_ready.l0]
      rw [if_neg (by omega)]
      rfl
    | succ n ih =>
      intro i hi
      rw [drop_getD _ i 0 (by omega), List.all_cons]
      have hj : ((List.range xs.length).filter (grpIn xs k0)).getD i 0 < xs.length := hin _ (by
        rw [List.getD_eq_getElem?_getD, List.getElem?_eq_getElem (show i < ((List.range xs.length).filter (grpIn xs k0)).length by omega)]
        exact List.getElem_mem _)
      have hrd := hget i (by omega)
      generalize ((List.range xs.length).filter (grpIn xs k0)).getD i 0 = j at hj hrd
      have nx := ih (i + 1) (by omega)
      obtain ⟨K, e⟩ := itemAt_ev xs hn (dotX xs j)
      rw [locX_dot ha hj, show intO (some j) = (j : Int) from rfl] at e
      dsimp only at e
      refine Ev.round ⟨K, fun k hk => ?_⟩ (impl_ready_l1 xs (grpX xs k0) out (by omega) ho (i : Int) (depX xs j) (hd _ (getI_mem hj)) _ (by rw [wrap_succ (n := ((List.range xs.length).filter (grpIn xs k0)).length) (by omega) (by omega)]; exact nx) (depX xs j).length 0 (by omega))
      simp only [impl_ready.l0, hrd]
      rw [if_pos (by omega), if_pos (by omega), if_pos (by omega), e k hk, Option.bind_some, if_pos (by omega), if_pos (by omega)]
      rfl
  exact key ((List.range xs.length).filter (grpIn xs k0)).length 0 (by omega)
/-- The next command whose group can be done. -/
def nextX (xs : List S33) (out : List S31) (l : List Nat) : Option Nat := l.find? (fun k => (reachR xs k).2 && (!(decide (dotX xs k ∈ out)) && readyX xs k out))
def ordX (xs : List S33) : Nat → List S31 → List S31
  | 0, out => out
  | m + 1, out => match nextX xs out (List.range xs.length) with
    | none => out
    | some k => ordX xs m (out ++ grpX xs k)
theorem grpX_length (xs : List S33) (k : Nat) : (grpX xs k).length ≤ xs.length := by unfold grpX; rw [List.length_map]; exact Nat.le_trans (List.length_filter_le _ _) (by simp)
theorem grpX_self {xs : List S33} {k : Nat} (hk : k < xs.length) : dotX xs k ∈ grpX xs k := List.mem_map.2 ⟨k, List.mem_filter.2 ⟨by simpa using hk, by unfold grpIn; rw [beq_self_eq_true, Bool.true_or]⟩, rfl⟩
theorem nextX_some {xs : List S33} {out : List S31} {l : List Nat} {k : Nat} (h : nextX xs out l = some k) : k ∈ l ∧ (reachR xs k).2 = true ∧ dotX xs k ∉ out ∧ readyX xs k out = true := by
  have h1 := List.mem_of_find?_eq_some h
  have h2 := List.find?_some h
  simp only [Bool.and_eq_true, Bool.not_eq_true', decide_eq_false_iff_not] at h2
  exact ⟨h1, h2.1, h2.2.1, h2.2.2⟩
/-- How much is left, and what it costs. -/
theorem ord_step {xs : List S33} {out : List S31} {k : Nat} (hk : k < xs.length) (ho : dotX xs k ∉ out) : cnt (dotsX xs) (out ++ grpX xs k) + 1 ≤ cnt (dotsX xs) out :=
  cnt_less _ _ _ (fun x hx => List.mem_append.2 (.inl hx)) (dotX xs k) (List.mem_map.2 ⟨k, by simpa using hk, rfl⟩) ho (List.mem_append.2 (.inr (grpX_self hk)))
theorem ord_small {xs : List S33} {out : List S31} {k : Nat} (hk : k < xs.length) (ho : dotX xs k ∉ out) (h : out.length + cnt (dotsX xs) out * xs.length ≤ xs.length * xs.length) : (out ++ grpX xs k).length + cnt (dotsX xs) (out ++ grpX xs k) * xs.length ≤ xs.length * xs.length := by
  have h1 := ord_step hk ho
  have h2 := grpX_length xs k
  have h3 : (cnt (dotsX xs) (out ++ grpX xs k) + 1) * xs.length ≤ cnt (dotsX xs) out * xs.length := Nat.mul_le_mul_right _ h1
  rw [Nat.succ_mul] at h3
  rw [List.length_append]
  omega
theorem nextX_filter (xs : List S33) (out : List S31) (l : List Nat) : nextX xs out (l.filter (fun i => (reachR xs i).2)) = nextX xs out l := by
  unfold nextX
  rw [List.find?_filter]
  congr 1
  funext k
  cases (reachR xs k).2 <;> simp
theorem implOrder_l0 (xs : List S33) (hn : xs.length ≤ 1048576) (hd : ∀ x ∈ xs, x.f1.length ≤ 1048576) (ha : ∀ j, 0 < j → j < xs.length → asc xs j) (hgr : ∀ d : S31, Ev (fun k => impl_Group.f k xs d.f0 d.f1) (groupR xs true d)) : ∀ (m : Nat) (out : List S31), cnt (dotsX xs) out ≤ m → out.length + cnt (dotsX xs) out * xs.length ≤ xs.length * xs.length →
    Ev (fun k => impl_OrderOf.l0 k out (wholeR xs true) true xs) (ordX xs (m + 1) out) := by
  have hq : xs.length * xs.length ≤ 1048576 * 1048576 := Nat.mul_le_mul hn hn
  have loop : ∀ (m : Nat) (out : List S31), out.length ≤ 1099511627776 → (∀ k, k < xs.length → dotX xs k ∉ out → Ev (fun n => impl_OrderOf.l0 n (out ++ grpX xs k) (wholeR xs true) true xs) (ordX xs m (out ++ grpX xs k))) → Ev (fun k => impl_OrderOf.l0 k out (wholeR xs true) true xs) (ordX xs (m + 1) out) := by
    intro m out hol next
    have hW : wholeR xs true = ((List.range xs.length).filter (fun i => (reachR xs i).2)).map (dotX xs) := rfl
    have hin : ∀ i ∈ (List.range xs.length).filter (fun i => (reachR xs i).2), i < xs.length ∧ (reachR xs i).2 = true := fun i hi => ⟨by simpa using (List.mem_filter.1 hi).1, (List.mem_filter.1 hi).2⟩
    have hll : ((List.range xs.length).filter (fun i => (reachR xs i).2)).length ≤ xs.length := Nat.le_trans (List.length_filter_le _ _) (by simp)
    have hfin : ordX xs (m + 1) out = match nextX xs out ((List.range xs.length).filter (fun i => (reachR xs i).2)) with
      | none => out
      | some k => ordX xs m (out ++ grpX xs k) := by rw [nextX_filter]; rfl
    rw [hfin, hW]
    rw [hW] at next
    generalize (List.range xs.length).filter (fun i => (reachR xs i).2) = lw at hin hll next
    have hlen : (lw.map (dotX xs)).length = lw.length := by simp
    have hget : ∀ i, i < lw.length → rd_T31 (lw.map (dotX xs)) (i : Int) = dotX xs (lw.getD i 0) := by
      intro i hi
      show (lw.map (dotX xs)).getD i z31 = _
      rw [List.getD_eq_getElem?_getD, List.getElem?_map, List.getElem?_eq_getElem hi, List.getD_eq_getElem?_getD, List.getElem?_eq_getElem hi]
      rfl
    have key : ∀ (n i : Nat), i + n = lw.length → Ev (fun k => impl_OrderOf.l1 k out (lw.map (dotX xs)) false (lw.map (dotX xs)) ((lw.map (dotX xs)).length : Int) (i : Int) xs) (match nextX xs out (lw.drop i) with
      | none => out
      | some k => ordX xs m (out ++ grpX xs k)) := by
      intro n
      induction n with
      | zero =>
        intro i hi
        rw [List.drop_of_length_le (by omega)]
        refine Ev.step (f := fun k => impl_OrderOf.l0 k out (lw.map (dotX xs)) false xs) (fun k => ?_) (Ev.ends (fun k => ?_))
        · simp only [impl_OrderOf.l1]
          rw [if_neg (by omega)]
        · simp only [impl_OrderOf.l0]
          rw [if_neg (by decide)]
          rfl
      | succ n ih =>
        intro i hi
        have hmem : lw.getD i 0 ∈ lw := by
          rw [List.getD_eq_getElem?_getD, List.getElem?_eq_getElem (show i < lw.length by omega)]
          exact List.getElem_mem _
        rw [drop_getD lw i 0 (by omega)]
        have hrd := hget i (by omega)
        obtain ⟨hj, hwj⟩ := hin _ hmem
        generalize lw.getD i 0 = j at hj hwj hrd hmem
        obtain ⟨K1, e1⟩ := hasDot_ev out (by omega) (dotX xs j)
        obtain ⟨K2, e2⟩ := hgr (dotX xs j)
        have hg : groupR xs true (dotX xs j) = grpX xs j := by
          unfold groupR
          rw [if_pos rfl, locX_dot ha hj]
          dsimp only
          rw [if_pos hwj]
        rw [hg] at e2
        obtain ⟨K3, e3⟩ := impl_ready_ev xs hn hd ha j out (by omega)
        dsimp only at e1 e2 e3
        have nx := ih (i + 1) (by omega)
        have hgl := grpX_length xs j
        have hnext : nextX xs out (j :: lw.drop (i + 1)) = if (!(decide (dotX xs j ∈ out)) && readyX xs j out) = true then some j else nextX xs out (lw.drop (i + 1)) := by
          unfold nextX
          rw [List.find?_cons, hwj, Bool.true_and]
          cases (!(decide (dotX xs j ∈ out)) && readyX xs j out) <;> rfl
        rw [hnext]
        by_cases ho : dotX xs j ∈ out
        · have hd1 : decide (dotX xs j ∈ out) = true := decide_eq_true ho
          rw [hd1, Bool.not_true, Bool.false_and, if_neg (by decide)]
          rw [hd1] at e1
          refine Ev.round ⟨K1, fun k hk => ?_⟩ nx
          simp only [impl_OrderOf.l1, hrd]
          rw [if_pos (by omega), if_pos (by omega), if_pos (by omega), e1 k hk, Option.bind_some, if_pos rfl, wrap_succ (n := lw.length) (by omega) (by omega)]
        · have hd1 : decide (dotX xs j ∈ out) = false := decide_eq_false ho
          rw [hd1, Bool.not_false, Bool.true_and]
          rw [hd1] at e1
          cases hr : readyX xs j out
          · rw [if_neg (by decide)]
            rw [hr] at e3
            refine Ev.round ⟨K1 + K2 + K3, fun k hk => ?_⟩ nx
            simp only [impl_OrderOf.l1, hrd]
            rw [if_pos (by omega), if_pos (by omega), if_pos (by omega), e1 k (by omega), Option.bind_some, if_neg (by decide), e2 k (by omega), Option.bind_some, e3 k (by omega), Option.bind_some, if_neg (by decide), wrap_succ (n := lw.length) (by omega) (by omega)]
          · rw [if_pos rfl]
            rw [hr] at e3
            refine Ev.round ⟨K1 + K2 + K3, fun k hk => ?_⟩ (next j hj ho)
            simp only [impl_OrderOf.l1, hrd]
            rw [if_pos (by omega), if_pos (by omega), if_pos (by omega), e1 k (by omega), Option.bind_some, if_neg (by decide), e2 k (by omega), Option.bind_some, e3 k (by omega), Option.bind_some, if_pos rfl, if_pos (by omega)]
    refine Ev.step (fun k => ?_) (key lw.length 0 (by omega))
    simp only [impl_OrderOf.l0]
    rw [if_pos trivial]
    rfl
  intro m
  induction m with
  | zero =>
    intro out hm hb
    exact loop 0 out (by omega) (fun k hk ho => by have := ord_step hk ho; omega)
  | succ m ih =>
    intro out hm hb
    exact loop (m + 1) out (by omega) (fun k hk ho => ih _ (by have := ord_step hk ho; omega) (ord_small hk ho hb))
/-! the reference -/
def Dn (xs : List S33) (out : List S31) (done : List Bool) : Prop := done.length = xs.length ∧ ∀ i, i < xs.length → done.getD i false = decide (dotX xs i ∈ out)
def reaches (xs : List S33) : List (List Bool) := (List.range xs.length).map (fun i => (reachR xs i).1)
def wholes (xs : List S33) : List Bool := (List.range xs.length).map (fun i => (reachR xs i).2)
theorem reaches_length (xs : List S33) : (reaches xs).length = xs.length := by simp [reaches]
theorem wholes_length (xs : List S33) : (wholes xs).length = xs.length := by simp [wholes]
theorem reaches_get {xs : List S33} {i : Nat} (hi : i < xs.length) : rd_L10 (reaches xs) (i : Int) = (reachR xs i).1 := range_map_getD xs.length i _ [] hi
theorem wholes_get {xs : List S33} {i : Nat} (hi : i < xs.length) : rdOf false (wholes xs) (i : Int) = (reachR xs i).2 := range_map_getD xs.length i _ false hi
theorem dep_there {xs : List S33} (ha : ∀ j, 0 < j → j < xs.length → asc xs j) {k i : Nat} (hk : k < xs.length) (hw : (reachR xs k).2 = true) (hi : i < xs.length) (hg : grpIn xs k i = true) : ∀ x ∈ depX xs i, ∃ tq, locX xs x = some tq := by
  intro x hx
  have hR := (reachR_spec ha k hk).whole.1 hw
  have hr : Rch (locX xs) (depX xs) (dotX xs k) x := by
    unfold grpIn at hg
    rw [Bool.or_eq_true, Bool.and_eq_true] at hg
    rcases hg with h | ⟨h, _⟩
    · have : i = k := by simpa using h
      subst this
      exact .one (locX_dot ha hi) hx
    · exact .more (((reachR_spec ha k hk).all i hi).1 h) (locX_dot ha hi) hx
  have := hR x hr
  cases h : locX xs x with
  | none => exact absurd h this
  | some tq => exact ⟨tq, rfl⟩
theorem spec_ready_l1 (xs : List S33) (hn : xs.length ≤ 1048576) (ha : ∀ j, 0 < j → j < xs.length → asc xs j) (out : List S31) (done : List Bool) (hdn : Dn xs out done) (k0 : Nat) (hk0 : k0 < xs.length) (q : Int) (ds : List S31) (hds : ds.length ≤ 1048576) (hx : ∀ x ∈ ds, ∃ tq, locX xs x = some tq) (rest : Bool) (hrest : Ev (fun k => spec_l8Ready.l0 k (reaches xs) done (k0 : Int) (wrap64 (q + 1)) xs) rest) :
    ∀ (n i : Nat), i + n = ds.length → Ev (fun k => spec_l8Ready.l1 k (reaches xs) done (k0 : Int) q ds (i : Int) xs) ((ds.drop i).all (goodX (grpX xs k0) out) && rest) := by
  intro n
  induction n with
  | zero =>
    intro i hi
    rw [List.drop_of_length_le (by omega)]
    refine Ev.step (fun k => ?_) hrest
    simp only [spec_l8Ready.l1]
    rw [if_neg (by omega)]
  | succ n ih =>
    intro i hi
    rw [drop_getD ds i z31 (by omega), show ds.getD i z31 = rd_T31 ds (i : Int) from rfl, List.all_cons]
    obtain ⟨tq, hto⟩ := hx (rd_T31 ds (i : Int)) (by
      show ds.getD i z31 ∈ ds
      rw [List.getD_eq_getElem?_getD, List.getElem?_eq_getElem (show i < ds.length by omega)]
      exact List.getElem_mem _)
    obtain ⟨hlt, hdt⟩ := locX_some hto
    have hgood : goodX (grpX xs k0) out (rd_T31 ds (i : Int)) = (grpIn xs k0 tq || done.getD tq false) := by
      unfold goodX
      rw [← hdt, mem_grpX ha k0 tq hlt, hdn.2 tq hlt]
    obtain ⟨K, e⟩ := l8At_ev xs hn (rd_T31 ds (i : Int))
    rw [hto, show intO (some tq) = (tq : Int) from rfl] at e
    dsimp only at e
    have jt : Ev (fun k => spec_l8Ready.j3 k (reaches xs) done (k0 : Int) q ds (i : Int) true xs) false := Ev.ends (fun k => by simp only [spec_l8Ready.j3]; rw [if_pos trivial])
    have jf : Ev (fun k => spec_l8Ready.j3 k (reaches xs) done (k0 : Int) q ds (i : Int) false xs) ((ds.drop (i + 1)).all (goodX (grpX xs k0) out) && rest) := by
      refine Ev.step (fun k => ?_) (ih (i + 1) (by omega))
      simp only [spec_l8Ready.j3]
      rw [if_neg (by decide), wrap_succ (n := ds.length) (by omega) (by omega)]
    have key : Ev (fun k => spec_l8Ready.j3 k (reaches xs) done (k0 : Int) q ds (i : Int) (!(grpIn xs k0 tq || done.getD tq false)) xs) ((goodX (grpX xs k0) out (rd_T31 ds (i : Int)) && (ds.drop (i + 1)).all (goodX (grpX xs k0) out)) && rest) := by
      rw [hgood]
      cases (grpIn xs k0 tq || done.getD tq false)
      · rw [Bool.false_and, Bool.false_and]; exact jt
      · rw [Bool.true_and]; exact jf
    have hlk := reachR_len ha hk0
    have hlt2 := reachR_len ha hlt
    refine Ev.round ⟨K, fun k hk => ?_⟩ key
    simp only [spec_l8Ready.l1]
    rw [if_pos (by omega), if_pos (by omega), e k hk, Option.bind_some, if_pos (by omega), if_pos (by rw [hdn.1]; omega)]
    have h0 : rdOf false done (tq : Int) = done.getD tq false := rfl
    rw [h0]
    cases done.getD tq false
    · rw [if_neg (by decide), Bool.or_false]
      unfold grpIn
      by_cases ek : tq = k0
      · subst ek
        rw [if_pos rfl, beq_self_eq_true, Bool.true_or]
        rfl
      · have h1 : rdOf false (reachR xs k0).1 (tq : Int) = (reachR xs k0).1.getD tq false := rfl
        have h2 : rdOf false (reachR xs tq).1 (k0 : Int) = (reachR xs tq).1.getD k0 false := rfl
        rw [if_neg (by omega), if_pos (by omega), if_pos (by rw [reaches_length]; omega), reaches_get hk0, reaches_get hlt, if_pos (by omega), beq_eq_false_iff_ne.2 ek, Bool.false_or, h1, h2]
        cases (reachR xs k0).1.getD tq false
        · rw [if_neg (by decide), Bool.false_and]
        · rw [if_pos rfl, if_pos (by rw [reaches_length]; omega), if_pos (by omega), Bool.true_and]
    · rw [if_pos rfl, Bool.or_true]
      rfl
theorem spec_ready_ev (xs : List S33) (hn : xs.length ≤ 1048576) (hd : ∀ x ∈ xs, x.f1.length ≤ 1048576) (ha : ∀ j, 0 < j → j < xs.length → asc xs j) (out : List S31) (done : List Bool) (hdn : Dn xs out done) (k0 : Nat) (hk0 : k0 < xs.length) (hw : (reachR xs k0).2 = true) : Ev (fun k => spec_l8Ready.f k xs (reaches xs) done (k0 : Int)) (readyX xs k0 out) := by
  have key : ∀ (n i : Nat), i + n = xs.length → Ev (fun k => spec_l8Ready.l0 k (reaches xs) done (k0 : Int) (i : Int) xs) ((((List.range xs.length).drop i).filter (grpIn xs k0)).all (fun i => (depX xs i).all (goodX (grpX xs k0) out))) := by
    intro n
    induction n with
    | zero =>
      intro i hi
      rw [List.drop_of_length_le (by simp; omega)]
      refine Ev.ends (fun k => ?_)
      simp only [spec_l8Ready.l0]
      rw [if_neg (by rw [hdn.1]; omega)]
      rfl
    | succ n ih =>
      intro i hi
      have hi2 : i < xs.length := by omega
      have nx := ih (i + 1) (by omega)
      have hri : (List.range xs.length).getD i 0 = i := by
        rw [List.getD_eq_getElem?_getD, List.getElem?_range hi2]
        rfl
      rw [drop_getD (List.range xs.length) i 0 (by simpa using hi2), hri, List.filter_cons]
      have hlk := reachR_len ha hk0
      have hli := reachR_len ha hi2
      have h1 : rdOf false (reachR xs k0).1 (i : Int) = (reachR xs k0).1.getD i false := rfl
      have h2 : rdOf false (reachR xs i).1 (k0 : Int) = (reachR xs i).1.getD k0 false := rfl
      have body : ∀ k, spec_l8Ready.l0 (k + 1) (reaches xs) done (k0 : Int) (i : Int) xs = spec_l8Ready.j1 k (reaches xs) done (k0 : Int) (i : Int) (!(grpIn xs k0 i)) xs := by
        intro k
        simp only [spec_l8Ready.l0]
        rw [if_pos (by rw [hdn.1]; omega)]
        unfold grpIn
        by_cases ek : i = k0
        · subst ek
          rw [if_pos rfl, beq_self_eq_true, Bool.true_or]
          rfl
        · rw [if_neg (by omega), if_pos (by omega), if_pos (by rw [reaches_length]; omega), if_pos (by omega), reaches_get hk0, reaches_get hi2, if_pos (by omega), beq_eq_false_iff_ne.2 ek, Bool.false_or, h1, h2]
          cases (reachR xs k0).1.getD i false
          · rw [if_neg (by decide), Bool.false_and]
          · rw [if_pos rfl, if_pos (by rw [reaches_length]; omega), if_pos (by omega), Bool.true_and]
      refine Ev.step body ?_
      cases hg : grpIn xs k0 i
      · rw [if_neg (by decide)]
        refine Ev.step (fun k => ?_) nx
        simp only [spec_l8Ready.j1]
        rw [if_pos (show (!false) = true from rfl), wrap_succ (n := xs.length) (by omega) (by omega)]
      · rw [if_pos rfl, List.all_cons]
        refine Ev.step (fun k => ?_) (spec_ready_l1 xs hn ha out done hdn k0 hk0 (i : Int) (depX xs i) (hd _ (getI_mem hi2)) (dep_there ha hk0 hw hi2 hg) _ (by rw [wrap_succ (n := xs.length) (by omega) (by omega)]; exact nx) (depX xs i).length 0 (by omega))
        simp only [spec_l8Ready.j1]
        rw [if_neg (by decide), if_pos (by omega), if_pos (by omega)]
        rfl
  exact key xs.length 0 (by omega)
theorem Dn_set {xs : List S33} (ha : ∀ j, 0 < j → j < xs.length → asc xs j) {out : List S31} {done : List Bool} (h : Dn xs out done) {i : Nat} (hi : i < xs.length) : Dn xs (out ++ [dotX xs i]) (done.set i true) := by
  refine ⟨by rw [List.length_set]; exact h.1, fun j hj => ?_⟩
  rw [getD_set_t done i j (by rw [h.1]; exact hi)]
  by_cases e : j = i
  · subst e
    rw [if_pos rfl, decide_eq_true (by simp)]
  · rw [if_neg e, h.2 j hj, decide_eq_decide]
    constructor
    · intro hm; exact List.mem_append.2 (.inl hm)
    · intro hm
      rcases List.mem_append.1 hm with hm | hm
      · exact hm
      · exact absurd (dotX_inj ha hj hi (List.mem_singleton.1 hm)) e
theorem specOrder_l2 (xs : List S33) (hn : xs.length ≤ 1048576) (ha : ∀ j, 0 < j → j < xs.length → asc xs j) (k0 : Nat) (hk0 : k0 < xs.length) (r : List S31) : ∀ (n i : Nat), i + n = xs.length → ∀ (out : List S31) (done : List Bool), out.length + n ≤ 4398046511104 → Dn xs out done →
    (∀ done', Dn xs (out ++ (((List.range xs.length).drop i).filter (grpIn xs k0)).map (dotX xs)) done' → Ev (fun k => spec_OrderOf.l1 k (out ++ (((List.range xs.length).drop i).filter (grpIn xs k0)).map (dotX xs)) (reaches xs) (wholes xs) done' true (wrap64 ((k0 : Int) + 1)) xs) r) → Ev (fun k => spec_OrderOf.l2 k out (reaches xs) (wholes xs) done true (k0 : Int) (i : Int) xs) r := by
  intro n
  induction n with
  | zero =>
    intro i hi out done _ hdn h
    rw [List.drop_of_length_le (by simp; omega)] at h
    simp only [List.filter_nil, List.map_nil, List.append_nil] at h
    refine Ev.step (fun k => ?_) (h done hdn)
    simp only [spec_OrderOf.l2]
    rw [if_neg (by rw [wholes_length]; omega)]
  | succ n ih =>
    intro i hi out done hb hdn h
    have hi2 : i < xs.length := by omega
    have hri : (List.range xs.length).getD i 0 = i := by
      rw [List.getD_eq_getElem?_getD, List.getElem?_range hi2]
      rfl
    rw [drop_getD (List.range xs.length) i 0 (by simpa using hi2), hri, List.filter_cons] at h
    have hlk := reachR_len ha hk0
    have hli := reachR_len ha hi2
    have h1 : rdOf false (reachR xs k0).1 (i : Int) = (reachR xs k0).1.getD i false := rfl
    have h2 : rdOf false (reachR xs i).1 (k0 : Int) = (reachR xs i).1.getD k0 false := rfl
    have body : ∀ k, spec_OrderOf.l2 (k + 1) out (reaches xs) (wholes xs) done true (k0 : Int) (i : Int) xs = spec_OrderOf.j5 k out (reaches xs) (wholes xs) done true (k0 : Int) (i : Int) (grpIn xs k0 i) xs := by
      intro k
      simp only [spec_OrderOf.l2]
      rw [if_pos (by rw [wholes_length]; omega)]
      unfold grpIn
      by_cases ek : i = k0
      · subst ek
        rw [if_pos rfl, beq_self_eq_true, Bool.true_or]
      · rw [if_neg (by omega), if_pos (by omega), if_pos (by rw [reaches_length]; omega), if_pos (by omega), reaches_get hk0, reaches_get hi2, if_pos (by omega), beq_eq_false_iff_ne.2 ek, Bool.false_or, h1, h2]
        cases (reachR xs k0).1.getD i false
        · rw [if_neg (by decide), Bool.false_and]
        · rw [if_pos rfl, if_pos (by rw [reaches_length]; omega), if_pos (by omega), Bool.true_and]
    refine Ev.step body ?_
    cases hg : grpIn xs k0 i
    · rw [hg, if_neg (by decide)] at h
      refine Ev.step (fun k => ?_) (ih (i + 1) (by omega) out done (by omega) hdn h)
      simp only [spec_OrderOf.j5]
      rw [if_neg (by decide), wrap_succ (n := xs.length) (by omega) (by omega)]
    · rw [hg, if_pos rfl, List.map_cons] at h
      refine Ev.step (fun k => ?_) (ih (i + 1) (by omega) (out ++ [dotX xs i]) (done.set i true) (by rw [List.length_append]; simp only [List.length_cons, List.length_nil]; omega) (Dn_set ha hdn hi2) (fun done' hd' => ?_))
      · simp only [spec_OrderOf.j5]
        rw [if_pos trivial, if_pos (by omega), if_pos (by rw [hdn.1]; omega), if_pos (by omega), if_pos (by omega), wrap_succ (n := xs.length) (by omega) (by omega)]
        rfl
      · have ee : out ++ [dotX xs i] ++ (((List.range xs.length).drop (i + 1)).filter (grpIn xs k0)).map (dotX xs) = out ++ dotX xs i :: (((List.range xs.length).drop (i + 1)).filter (grpIn xs k0)).map (dotX xs) := by simp
        rw [ee] at hd' ⊢
        exact h done' hd'
theorem specOrder_l0 (xs : List S33) (hn : xs.length ≤ 1048576) (hd : ∀ x ∈ xs, x.f1.length ≤ 1048576) (ha : ∀ j, 0 < j → j < xs.length → asc xs j) : ∀ (m : Nat) (out : List S31), cnt (dotsX xs) out ≤ m → out.length + cnt (dotsX xs) out * xs.length ≤ xs.length * xs.length → ∀ done, Dn xs out done →
    Ev (fun k => spec_OrderOf.l0 k out (reaches xs) (wholes xs) done true xs) (ordX xs (m + 1) out) := by
  have hq : xs.length * xs.length ≤ 1048576 * 1048576 := Nat.mul_le_mul hn hn
  have loop : ∀ (m : Nat) (out : List S31), out.length ≤ 1099511627776 → (∀ k, k < xs.length → dotX xs k ∉ out → ∀ done, Dn xs (out ++ grpX xs k) done → Ev (fun n => spec_OrderOf.l0 n (out ++ grpX xs k) (reaches xs) (wholes xs) done true xs) (ordX xs m (out ++ grpX xs k))) → ∀ done, Dn xs out done → Ev (fun k => spec_OrderOf.l0 k out (reaches xs) (wholes xs) done true xs) (ordX xs (m + 1) out) := by
    intro m out hol next done hdn
    have key : ∀ (n i : Nat), i + n = xs.length → Ev (fun k => spec_OrderOf.l1 k out (reaches xs) (wholes xs) done false (i : Int) xs) (match nextX xs out ((List.range xs.length).drop i) with
      | none => out
      | some k => ordX xs m (out ++ grpX xs k)) := by
      intro n
      induction n with
      | zero =>
        intro i hi
        rw [List.drop_of_length_le (by simp; omega)]
        refine Ev.step (f := fun k => spec_OrderOf.j2 k out (reaches xs) (wholes xs) done false (i : Int) false xs) (fun k => ?_) (Ev.step (f := fun k => spec_OrderOf.l0 k out (reaches xs) (wholes xs) done false xs) (fun k => ?_) (Ev.ends (fun k => ?_)))
        · simp only [spec_OrderOf.l1]
          rw [if_neg (by rw [wholes_length]; omega)]
        · simp only [spec_OrderOf.j2]
          rw [if_neg (by decide)]
        · simp only [spec_OrderOf.l0]
          rw [if_neg (by decide)]
          rfl
      | succ n ih =>
        intro i hi
        have hi2 : i < xs.length := by omega
        have hri : (List.range xs.length).getD i 0 = i := by
          rw [List.getD_eq_getElem?_getD, List.getElem?_range hi2]
          rfl
        rw [drop_getD (List.range xs.length) i 0 (by simpa using hi2), hri]
        have nx := ih (i + 1) (by omega)
        have jt : Ev (fun k => spec_OrderOf.j3 k out (reaches xs) (wholes xs) done false (i : Int) true xs) (match nextX xs out ((List.range xs.length).drop (i + 1)) with
          | none => out
          | some k => ordX xs m (out ++ grpX xs k)) := by
          refine Ev.step (fun k => ?_) nx
          simp only [spec_OrderOf.j3]
          rw [if_pos trivial, wrap_succ (n := xs.length) (by omega) (by omega)]
        have hnext : nextX xs out (i :: (List.range xs.length).drop (i + 1)) = if ((reachR xs i).2 && (!(decide (dotX xs i ∈ out)) && readyX xs i out)) = true then some i else nextX xs out ((List.range xs.length).drop (i + 1)) := by
          unfold nextX
          rw [List.find?_cons]
          cases ((reachR xs i).2 && (!(decide (dotX xs i ∈ out)) && readyX xs i out)) <;> rfl
        rw [hnext]
        have hwl := wholes_length xs
        have hdi := hdn.2 i hi2
        have hdl := hdn.1
        have hdr : rdOf false done (i : Int) = decide (dotX xs i ∈ out) := hdi
        refine Ev.step (f := fun k => spec_OrderOf.j2 k out (reaches xs) (wholes xs) done false (i : Int) true xs) (fun k => ?_) ?_
        · simp only [spec_OrderOf.l1]
          rw [if_pos (by omega)]
          rfl
        cases hw : (reachR xs i).2
        · rw [Bool.false_and, if_neg (by decide)]
          refine Ev.step (fun k => ?_) jt
          simp only [spec_OrderOf.j2]
          rw [if_pos trivial, if_pos (by omega), if_pos (by omega), wholes_get hi2, hw, if_neg (by decide)]
        · rw [Bool.true_and]
          by_cases ho : dotX xs i ∈ out
          · have hd1 : decide (dotX xs i ∈ out) = true := decide_eq_true ho
            rw [hd1, Bool.not_true, Bool.false_and, if_neg (by decide)]
            refine Ev.step (fun k => ?_) jt
            simp only [spec_OrderOf.j2]
            rw [if_pos trivial, if_pos (by omega), if_pos (by omega), wholes_get hi2, hw, if_pos rfl, if_pos (by omega), hdr, hd1, if_pos rfl]
          · have hd1 : decide (dotX xs i ∈ out) = false := decide_eq_false ho
            rw [hd1, Bool.not_false, Bool.true_and]
            obtain ⟨K, e⟩ := spec_ready_ev xs hn hd ha out done hdn i hi2 hw
            dsimp only at e
            have step : ∀ k, K ≤ k → spec_OrderOf.j2 (k + 1) out (reaches xs) (wholes xs) done false (i : Int) true xs = spec_OrderOf.j3 k out (reaches xs) (wholes xs) done false (i : Int) (!(readyX xs i out)) xs := by
              intro k hk
              simp only [spec_OrderOf.j2]
              rw [if_pos trivial, if_pos (by omega), if_pos (by omega), wholes_get hi2, hw, if_pos rfl, if_pos (by omega), hdr, hd1, if_neg (by decide), e k hk, Option.bind_some]
            refine Ev.round ⟨K, step⟩ ?_
            cases hr : readyX xs i out
            · rw [if_neg (by decide)]
              exact jt
            · rw [if_pos rfl]
              refine Ev.step (f := fun k => spec_OrderOf.l2 k out (reaches xs) (wholes xs) done true (i : Int) 0 xs) (fun k => ?_) ?_
              · simp only [spec_OrderOf.j3]
                rw [if_neg (by decide)]
              · refine specOrder_l2 xs hn ha i hi2 _ xs.length 0 (by omega) out done (by omega) hdn (fun done' hd' => ?_)
                have hn2 := next i hi2 ho done' hd'
                have l1t : ∀ q : Int, Ev (fun k => spec_OrderOf.l1 k (out ++ grpX xs i) (reaches xs) (wholes xs) done' true q xs) (ordX xs m (out ++ grpX xs i)) := by
                  intro q
                  refine Ev.step (f := fun k => spec_OrderOf.j2 k (out ++ grpX xs i) (reaches xs) (wholes xs) done' true q false xs) (fun k => ?_) (Ev.step (fun k => ?_) hn2)
                  · simp only [spec_OrderOf.l1, Bool.not_true]
                    split <;> rfl
                  · simp only [spec_OrderOf.j2]
                    rw [if_neg (by decide)]
                exact l1t _
    refine Ev.step (fun k => ?_) (key xs.length 0 (by omega))
    simp only [spec_OrderOf.l0]
    rw [if_pos trivial]
    rfl
  intro m
  induction m with
  | zero =>
    intro out hm hb
    exact loop 0 out (by omega) (fun k hk ho => by have := ord_step hk ho; omega)
  | succ m ih =>
    intro out hm hb
    exact loop (m + 1) out (by omega) (fun k hk ho => ih _ (by have := ord_step hk ho; omega) (ord_small hk ho hb))
def orderR (xs : List S33) (ok : Bool) : List S31 := if ok = true then ordX xs (xs.length + 1) [] else []
theorem ordX_length (xs : List S33) : ∀ (m : Nat) (out : List S31), out.length + cnt (dotsX xs) out * xs.length ≤ xs.length * xs.length → (ordX xs m out).length ≤ xs.length * xs.length := by
  intro m
  induction m with
  | zero => intro out h; simp only [ordX]; omega
  | succ m ih =>
    intro out h
    simp only [ordX]
    split
    · omega
    · rename_i k hk
      obtain ⟨h1, _, h3, _⟩ := nextX_some hk
      exact ih _ (ord_small (by simpa using h1) h3 h)
theorem cnt_nil_le (xs : List S33) : cnt (dotsX xs) [] ≤ xs.length := by
  have : cnt (dotsX xs) [] ≤ (dotsX xs).length := List.countP_le_length
  simpa [dotsX] using this
theorem orderR_length (xs : List S33) (ok : Bool) : (orderR xs ok).length ≤ xs.length * xs.length := by
  have h := cnt_nil_le xs
  unfold orderR
  split
  · exact ordX_length xs _ [] (by have := Nat.mul_le_mul_right xs.length h; simp only [List.length_nil]; omega)
  · simp
theorem order_both (xs : List S33) (hn : xs.length ≤ 1048576) (hd : ∀ x ∈ xs, x.f1.length ≤ 1048576) : ∃ ok, (ok = true → ∀ j, 0 < j → j < xs.length → asc xs j) ∧ Ev (fun k => spec_OrderOf.f k xs) (orderR xs ok) ∧ Ev (fun k => impl_OrderOf.f k xs) (orderR xs ok) := by
  have hc := cnt_nil_le xs
  have hc2 := Nat.mul_le_mul_right xs.length hc
  obtain ⟨ok, ha, h1, h2⟩ := graphOk_asc xs hn hd
  refine ⟨ok, ha, ?_, ?_⟩
  · refine Ev.bind' (Ev.now _) (Ev.bind' h1 ?_)
    unfold orderR
    cases ok
    · exact Ev.all (fun k => by rw [if_neg (by decide), if_neg (by decide)])
    · rw [if_pos rfl]
      refine Ev.congr (f := fun k => (spec_l8All.f k xs).bind fun bt361 => (if 0 ≤ (bt361.2.length : Int) then (if ((bt361.2.length : Int) : Int).toNat ≤ 281474976710656 then (spec_OrderOf.l0 k [] bt361.1 bt361.2 (List.replicate ((bt361.2.length : Int) : Int).toNat false) true xs) else (none)) else (none))) (fun k => by rw [if_pos rfl]) (Ev.bind' (l8All_ev xs hn hd) ?_)
      refine Ev.congr (fun k => ?_) (specOrder_l0 xs hn hd (ha rfl) xs.length [] hc (by simp only [List.length_nil]; omega) (List.replicate xs.length false) ⟨by simp, fun i hi => ?_⟩)
      · have hwl := wholes_length xs
        unfold wholes at hwl
        dsimp only
        rw [hwl, if_pos (by omega), if_pos (by omega), Int.toNat_natCast]
        rfl
      · rw [List.getD_eq_getElem?_getD, List.getElem?_replicate, if_pos hi, decide_eq_false (by simp)]
        rfl
  · have hw : Ev (fun k => impl_Whole.f k xs) (wholeR xs ok) := by
      refine Ev.bind' h2 ?_
      unfold wholeR
      cases ok
      · exact Ev.all (fun k => by rw [if_neg (by decide), if_neg (by decide)])
      · rw [if_pos rfl]
        exact Ev.congr (fun k => by rw [if_pos rfl]) (implWhole_ev xs hn hd (ha rfl))
    refine Ev.bind' hw ?_
    cases ok
    · have e1 : wholeR xs false = [] := rfl
      have e2 : orderR xs false = [] := rfl
      rw [e1, e2]
      refine Ev.step (f := fun k => impl_OrderOf.l1 k [] [] false [] (([] : List S31).length : Int) 0 xs) (fun k => ?_) (Ev.step (f := fun k => impl_OrderOf.l0 k [] [] false xs) (fun k => ?_) (Ev.ends (fun k => ?_)))
      · simp only [impl_OrderOf.l0]
        rw [if_pos trivial]
      · simp only [impl_OrderOf.l1]
        rw [if_neg (by simp)]
      · simp only [impl_OrderOf.l0]
        rw [if_neg (by decide)]
    · have e2 : orderR xs true = ordX xs (xs.length + 1) [] := rfl
      rw [e2]
      exact implOrder_l0 xs hn hd (ha rfl) (fun d => implGroup_ev xs hn hd true ha h2 d) xs.length [] hc (by simp only [List.length_nil]; omega)

theorem FnExactOrderOf : laws_FnExactOrderOf.Pure := by
  intro x hx
  refine Comes.true_ ?_
  simp only [laws_FnExactOrderOf.f]
  refine Comes.bind (szGraph_comes x.f0 ⟨hx.1, fun y hy => (hx.2 y hy).2.1⟩ 1048576 (by omega) (by omega)) (fun t ht => Comes.ite (fun _ => Comes.ret true rfl) (fun hn => ?_))
  have hb := ht.2 (by omega)
  have hlen : x.f0.length ≤ 1048576 := by omega
  have hl : (x.f0.map toItem).length ≤ 1048576 := by simp; omega
  have hmd : ∀ y ∈ x.f0.map toItem, y.f1.length ≤ 1048576 := by
    intro y hy
    obtain ⟨z, hz, rfl⟩ := List.mem_map.1 hy
    simpa [toItem] using hb.2 z hz
  obtain ⟨K1, h1⟩ := toGraph_ev x.f0 hlen hb.2
  obtain ⟨ok, _, ⟨K2, h2⟩, ⟨K3, h3⟩⟩ := order_both (x.f0.map toItem) hl hmd
  have hr := orderR_length (x.f0.map toItem) ok
  have hq : (x.f0.map toItem).length * (x.f0.map toItem).length ≤ 1048576 * 1048576 := Nat.mul_le_mul hl hl
  generalize orderR (x.f0.map toItem) ok = r at hr h2 h3
  obtain ⟨K4, h4⟩ := eqGraph_ev (x.f0.map toItem) hl hmd
  obtain ⟨m, hm, K5, h5⟩ := markGraph_comes (x.f0.map toItem) hl hmd
  obtain ⟨K7, h7⟩ := eqDotS_ev r (by omega)
  obtain ⟨K8, h8⟩ := markDotS_ev r 1 (by omega) (by omega)
  obtain ⟨K9, h9⟩ := heldDotS_ev 1 r.length (by omega) (by omega)
  dsimp only at h1 h2 h3 h4 h5 h7 h8 h9
  refine ⟨true, rfl, K1 + K2 + K3 + K4 + K5 + K7 + K8 + K9 + 1, fun k hk => ?_⟩
  obtain ⟨q, rfl⟩ : ∃ q, k = q + 1 := ⟨k - 1, by omega⟩
  dsimp only
  rw [h1 _ (by omega), Option.bind_some, h2 _ (by omega), Option.bind_some, Option.bind_some, h3 _ (by omega), Option.bind_some, h7 _ (by omega), Option.bind_some, if_pos rfl, Option.bind_some, h4 _ (by omega), Option.bind_some, if_pos rfl, h5 _ (by omega), Option.bind_some, if_neg (by omega), Option.bind_some]
  simp only [laws_FnExactOrderOf.j0, Bool.not_true]
  rw [if_neg (by simp), h8 _ (by omega), Option.bind_some, h9 _ (by omega), Option.bind_some, if_neg (by omega), if_pos rfl, h1 _ (by omega), Option.bind_some, h3 _ (by omega), Option.bind_some, h7 _ (by omega), Option.bind_some, if_pos rfl, Option.bind_some, if_neg (by omega), if_pos rfl]

end Go.Proofs.Ytgbejjeephipeaa.MPureFnExactOrderOf
