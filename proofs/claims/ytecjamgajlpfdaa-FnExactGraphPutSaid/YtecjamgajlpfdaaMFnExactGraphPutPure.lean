/- FnExactGraphPut: GraphPut of the program and of the reference answer the same, for all graphs and items; what it answers is new memory. No condition. -/
import Derived.Test.YtecjamgajlpfdaaMFnExactGraphPutDef
set_option linter.unusedVariables false
set_option linter.unusedSimpArgs false
namespace Go.Proofs.Ytecjamgajlpfdaa.MPureFnExactGraphPut
open Go.RowKit Go.Proofs.Ytecjamgajlpfdaa.MFnExactGraphPut Go.Proofs.YtecjamgajlpfdaaW.PrintWords Go.Proofs.YtecjamgajlpfdaaW.PrintLast Go.Proofs.YtecjamgajlpfdaaW.PrintMore

theorem wrap_id {i : Int} (h0 : -9223372036854775808 ≤ i) (h1 : i ≤ 9223372036854775807) : wrap64 i = i := by unfold wrap64; omega
theorem wrap_succ {i n : Nat} (h : i < n) (hn : n ≤ 9223372036854775807) : wrap64 ((i : Int) + 1) = ((i + 1 : Nat) : Int) := by unfold wrap64; omega
theorem rd_nat (xs : List Int) (i : Nat) : rd xs (i : Int) = xs.getD i 0 := by simp [rd]
theorem take_set_succ {α : Type} (l : List α) (i : Nat) (x : α) (h : i < l.length) : (l.set i x).take (i + 1) = l.take i ++ [x] := by
  rw [List.take_succ_eq_append_getElem (by simpa using h), List.getElem_set_self, List.take_set_of_le (Nat.le_refl _)]
theorem take_succ_getD {α : Type} (l : List α) (i : Nat) (d : α) (h : i < l.length) : l.take (i + 1) = l.take i ++ [l.getD i d] := by
  rw [List.take_succ_eq_append_getElem h, List.getD_eq_getElem?_getD, List.getElem?_eq_getElem h]
  rfl
theorem take_all {α : Type} {l m : List α} {n : Nat} (h : l.take n = m) (hl : l.length = n) : l = m := by
  rw [← h, ← hl, List.take_length]
theorem wf_u8 {x : Int} (h : (Lit.int .u8 x).wf = true) : 0 ≤ x ∧ x ≤ 255 := by
  simp [Lit.wf, IntKind.min, IntKind.max, IntKind.signed, IntKind.bits] at h
  omega
theorem wf_i64 {x : Int} (h : (Lit.int .i64 x).wf = true) : -9223372036854775808 ≤ x ∧ x ≤ 9223372036854775807 := by
  simp [Lit.wf, IntKind.min, IntKind.max, IntKind.signed, IntKind.bits] at h
  omega

theorem fill_loop {β : Type} (L : Nat → List β → Int → Option (List β)) (n : Nat) (g : Nat → β) (z : β)
    (hs : ∀ (i : Nat) (out : List β) (r : List β), i < n → out.length = n → Ev (fun k => L k (out.set i (g i)) ((i + 1 : Nat) : Int)) r → Ev (fun k => L k out (i : Int)) r)
    (he : ∀ out : List β, out.length = n → Ev (fun k => L k out (n : Int)) out) : Ev (fun k => L k (List.replicate n z) 0) ((List.range n).map g) := by
  have key : ∀ (d i : Nat) (out : List β), i + d = n → out.length = n → out.take i = (List.range i).map g → Ev (fun k => L k out (i : Int)) ((List.range n).map g) := by
    intro d
    induction d with
    | zero =>
      intro i out hi hl ht
      have : i = n := by omega
      subst this
      have e := take_all ht hl
      rw [← e]
      exact he out hl
    | succ d ih =>
      intro i out hi hl ht
      refine hs i out _ (by omega) hl (ih (i + 1) _ (by omega) (by simp [hl]) ?_)
      rw [take_set_succ _ _ _ (by omega), ht, List.range_succ, List.map_append]
      rfl
  exact key n 0 _ (by omega) (by simp) (by simp)
/-- A row that is written from the left: element i becomes g i, and a state goes along. -/
theorem mark_loop {β σ : Type} (L : Nat → List β → σ → Int → Option (σ × List β)) (n : Nat) (g : Nat → β) (st : Nat → σ)
    (hs : ∀ (i : Nat) (out : List β) (r : σ × List β), i < n → out.length = n → Ev (fun k => L k (out.set i (g i)) (st (i + 1)) ((i + 1 : Nat) : Int)) r → Ev (fun k => L k out (st i) (i : Int)) r)
    (he : ∀ out : List β, out.length = n → Ev (fun k => L k out (st n) (n : Int)) (st n, out)) (l : List β) (hl : l.length = n) : Ev (fun k => L k l (st 0) 0) (st n, (List.range n).map g) := by
  have key : ∀ (d i : Nat) (out : List β), i + d = n → out.length = n → out.take i = (List.range i).map g → Ev (fun k => L k out (st i) (i : Int)) (st n, (List.range n).map g) := by
    intro d
    induction d with
    | zero =>
      intro i out hi hl ht
      have : i = n := by omega
      subst this
      have e := take_all ht hl
      rw [← e]
      exact he out hl
    | succ d ih =>
      intro i out hi hl ht
      refine hs i out _ (by omega) hl (ih (i + 1) _ (by omega) (by simp [hl]) ?_)
      rw [take_set_succ _ _ _ (by omega), ht, List.range_succ, List.map_append]
      rfl
  exact key n 0 _ (by omega) hl (by simp)
theorem scan_loop {ρ : Type} (g : Nat → Nat → Option ρ) (n : Nat) (r : ρ) (hs : ∀ i, i < n → Ev (g (i + 1)) r → Ev (g i) r) (he : Ev (g n) r) : Ev (g 0) r := by
  have key : ∀ (d i : Nat), i + d = n → Ev (g i) r := by
    intro d
    induction d with
    | zero => intro i hi; have : i = n := by omega
              subst this; exact he
    | succ d ih => intro i hi; exact hs i (by omega) (ih (i + 1) (by omega))
  exact key n 0 (by omega)
theorem range_map_get {α β : Type} (l : List α) (f : α → β) (d : α) : (List.range l.length).map (fun i => f (l.getD i d)) = l.map f := by
  apply List.ext_getElem?
  intro i
  rw [List.getElem?_map, List.getElem?_map]
  by_cases h : i < l.length
  · simp [h, List.getD_eq_getElem?_getD]
  · rw [List.getElem?_eq_none (by simp; omega), List.getElem?_eq_none (by omega)]
    rfl
theorem range_map_getD {β : Type} (n i : Nat) (g : Nat → β) (d : β) (h : i < n) : ((List.range n).map g).getD i d = g i := by
  simp [List.getD_eq_getElem?_getD, h]
theorem Ev.bind' {α β : Type} {g : Nat → Option α} {f : Nat → α → Option β} {a : α} {r : β} (h : Ev g a) (k : Ev (fun n => f n a) r) : Ev (fun n => (g n).bind (f n)) r := Ev.bind h k
theorem Ev.cond {α : Type} {g f : Nat → Option α} {r : α} (h : ∃ K, ∀ k, K ≤ k → g k = f k) (k : Ev f r) : Ev g r := by
  obtain ⟨K, h⟩ := h
  obtain ⟨K', k⟩ := k
  exact ⟨K + K', fun n hn => by rw [h n (by omega)]; exact k n (by omega)⟩
/-- One round: at n + 1 it is what it is at n of another. -/
theorem Ev.round {α : Type} {g f : Nat → Option α} {r : α} (h : ∃ K, ∀ k, K ≤ k → g (k + 1) = f k) (k : Ev f r) : Ev g r := by
  obtain ⟨K, h⟩ := h
  obtain ⟨K', k⟩ := k
  exact ⟨K + K' + 1, fun n hn => by
    obtain ⟨m, rfl⟩ : ∃ m, n = m + 1 := ⟨n - 1, by omega⟩
    rw [h m (by omega)]; exact k m (by omega)⟩
theorem Ev.ends {α : Type} {g : Nat → Option α} {r : α} (h : ∀ k, g (k + 1) = some r) : Ev g r := ⟨1, fun n hn => by
  obtain ⟨m, rfl⟩ : ∃ m, n = m + 1 := ⟨n - 1, by omega⟩
  exact h m⟩
theorem Ev.all {α : Type} {g : Nat → Option α} {r : α} (h : ∀ k, g k = some r) : Ev g r := ⟨0, fun n _ => h n⟩

def toDot (x : S44) : S56 := (⟨x.f0, x.f1⟩ : S56)
theorem toDotS_ev (l : List S44) (h : l.length ≤ 1048576) : Ev (fun k => laws_toDotS.f k l) (l.map toDot) := by
  have hf := fill_loop (fun k out i => laws_toDotS.l0 k l out i) l.length (fun i => toDot (l.getD i z44)) z56 (fun i out r hi hl h => ?_) (fun out hl => ?_)
  · rw [range_map_get] at hf
    refine Ev.congr (fun k => ?_) hf
    simp only [laws_toDotS.f]
    rw [if_pos (by omega), if_pos (by omega)]
    rfl
  · refine Ev.step (fun k => ?_) h
    simp only [laws_toDotS.l0, laws_toDot.f, Option.bind_some, rd_T44, Int.toNat_natCast]
    rw [if_pos (by omega), if_pos (by omega), if_pos (by omega), wrap_succ (n := l.length) hi (by omega)]
    rfl
  · refine Ev.ends (fun k => ?_)
    simp only [laws_toDotS.l0]
    rw [if_neg (by omega)]

def toItem (x : S47) : S59 := (⟨toDot x.f0, x.f1.map toDot⟩ : S59)
theorem toItemS_ev (l : List S47) (h : l.length ≤ 1048576) (hd : ∀ x ∈ l, x.f1.length ≤ 1048576) : Ev (fun k => laws_toItemS.f k l) (l.map toItem) := by
  have hf := fill_loop (fun k out i => laws_toItemS.l0 k l out i) l.length (fun i => toItem (l.getD i z47)) z59 (fun i out r hi hl h => ?_) (fun out hl => ?_)
  · rw [range_map_get] at hf
    refine Ev.congr (fun k => ?_) hf
    simp only [laws_toItemS.f]
    rw [if_pos (by omega), if_pos (by omega)]
    rfl
  · have hm : l.getD i z47 ∈ l := by
      rw [List.getD_eq_getElem?_getD, List.getElem?_eq_getElem hi]
      exact List.getElem_mem hi
    obtain ⟨K, hK⟩ := toDotS_ev (l.getD i z47).f1 (hd _ hm)
    refine Ev.round ⟨K, fun k hk => ?_⟩ h
    have t := hK k hk
    dsimp only at t
    simp only [laws_toItemS.l0, laws_toItem.f, laws_toDot.f, Option.bind_some, rd_T47, Int.toNat_natCast]
    rw [if_pos (by omega), if_pos (by omega), t, Option.bind_some, Option.bind_some, if_pos (by omega), wrap_succ (n := l.length) hi (by omega)]
    rfl
  · refine Ev.ends (fun k => ?_)
    simp only [laws_toItemS.l0]
    rw [if_neg (by omega)]
theorem toGraph_ev (l : List S47) (h : l.length ≤ 1048576) (hd : ∀ x ∈ l, x.f1.length ≤ 1048576) : Ev (fun k => laws_toGraph.f k l) (l.map toItem) := by
  obtain ⟨K, h⟩ := toItemS_ev l h hd
  dsimp only at h
  exact ⟨K, fun k hk => by simp only [laws_toGraph.f]; rw [h k hk, Option.bind_some]⟩

/-- Both come to one answer, of which P holds. -/
def Both {α : Type} (P : α → Prop) (f g : Nat → Option α) : Prop := ∃ r, P r ∧ Ev f r ∧ Ev g r
namespace Both
variable {α β : Type} {P : α → Prop} {f f' g g' : Nat → Option α}
theorem step (h1 : ∀ k, f (k + 1) = f' k) (h2 : ∀ k, g (k + 1) = g' k) (h : Both P f' g') : Both P f g := by
  obtain ⟨r, hp, a, b⟩ := h
  exact ⟨r, hp, Ev.step h1 a, Ev.step h2 b⟩
theorem left (h1 : ∀ k, f (k + 1) = f' k) (h : Both P f' g) : Both P f g := by
  obtain ⟨r, hp, a, b⟩ := h
  exact ⟨r, hp, Ev.step h1 a, b⟩
theorem right (h2 : ∀ k, g (k + 1) = g' k) (h : Both P f g') : Both P f g := by
  obtain ⟨r, hp, a, b⟩ := h
  exact ⟨r, hp, a, Ev.step h2 b⟩
theorem ret (r : α) (h : P r) : Both P (fun _ => some r) (fun _ => some r) := ⟨r, h, Ev.now r, Ev.now r⟩
theorem ite {c : Prop} [Decidable c] (h1 : c → Both P f g) (h2 : ¬ c → Both P f' g') : Both P (fun k => if c then f k else f' k) (fun k => if c then g k else g' k) := by
  by_cases h : c
  · simpa only [if_pos h] using h1 h
  · simpa only [if_neg h] using h2 h
theorem bind {Q : β → Prop} {p q : Nat → Option β} {F G : Nat → β → Option α} (h : Both Q p q) (k : ∀ b, Q b → Both P (fun n => F n b) (fun n => G n b)) : Both P (fun n => (p n).bind (F n)) (fun n => (q n).bind (G n)) := by
  obtain ⟨b, hq, h1, h2⟩ := h
  obtain ⟨r, hp, a, c⟩ := k b hq
  exact ⟨r, hp, Ev.bind h1 a, Ev.bind h2 c⟩
theorem of {r : α} (h1 : Ev f r) (h2 : Ev g r) (hp : P r) : Both P f g := ⟨r, hp, h1, h2⟩
theorem eq {r : α} (h1 : Ev f r) (h2 : Ev g r) : Both (fun x => x = r) f g := ⟨r, rfl, h1, h2⟩
theorem any {Q : α → Prop} (h : Both Q f g) : Both (fun _ => True) f g := by
  obtain ⟨r, _, a, b⟩ := h
  exact ⟨r, trivial, a, b⟩
theorem mono {P' : α → Prop} (h : Both P f g) (hi : ∀ r, P r → P' r) : Both P' f g := by
  obtain ⟨r, hp, a, b⟩ := h
  exact ⟨r, hi r hp, a, b⟩
end Both
/-- It comes to an answer, of which P holds. -/
def Comes {α : Type} (P : α → Prop) (f : Nat → Option α) : Prop := ∃ r, P r ∧ Ev f r
namespace Comes
variable {α β : Type} {P : α → Prop} {f f' : Nat → Option α}
theorem step (h1 : ∀ k, f (k + 1) = f' k) (h : Comes P f') : Comes P f := by
  obtain ⟨r, hp, a⟩ := h
  exact ⟨r, hp, Ev.step h1 a⟩
theorem ret (r : α) (h : P r) : Comes P (fun _ => some r) := ⟨r, h, Ev.now r⟩
theorem ite {c : Prop} [Decidable c] (h1 : c → Comes P f) (h2 : ¬ c → Comes P f') : Comes P (fun k => if c then f k else f' k) := by
  by_cases h : c
  · simpa only [if_pos h] using h1 h
  · simpa only [if_neg h] using h2 h
theorem bind {Q : β → Prop} {p : Nat → Option β} {F : Nat → β → Option α} (h : Comes Q p) (k : ∀ b, Q b → Comes P (fun n => F n b)) : Comes P (fun n => (p n).bind (F n)) := by
  obtain ⟨b, hq, h1⟩ := h
  obtain ⟨r, hp, a⟩ := k b hq
  exact ⟨r, hp, Ev.bind h1 a⟩
theorem mono {P' : α → Prop} (h : Comes P f) (hi : ∀ r, P r → P' r) : Comes P' f := by
  obtain ⟨r, hp, a⟩ := h
  exact ⟨r, hi r hp, a⟩
theorem rounds (h : Comes P f) : ∃ k r, f k = some r ∧ P r := by
  obtain ⟨r, hp, a⟩ := h
  obtain ⟨k, hk⟩ := a.rounds
  exact ⟨k, r, hk, hp⟩
theorem true_ {f : Nat → Option Bool} (h : Comes (fun b => b = true) f) : ∃ k, f k = some true := by
  obtain ⟨k, r, hk, rfl⟩ := h.rounds
  exact ⟨k, hk⟩
theorem some_ (o : Option α) (r : α) (h : o = some r) (hp : P r) : Comes P (fun _ => o) := ⟨r, hp, Ev.all (fun _ => h)⟩
end Comes

theorem sz_loop {α : Type} (l : List α) (z : α) (B : α → Prop) (F : Nat → Int → Int → Option Int) (g : Nat → Int → Nat → Option Int) (hl : l.length ≤ 9223372036854775806)
    (hF : ∀ (k : Nat) (a : Int) (i : Nat), i < l.length → 0 ≤ a → a ≤ 1048576 → F (k + 1) a (i : Int) = (g i a k).bind fun t => if t < 0 then some (-1) else F k t ((i + 1 : Nat) : Int))
    (hg : ∀ (i : Nat) (a : Int), i < l.length → 0 ≤ a → a ≤ 1048576 → Comes (fun t => t ≤ a ∧ (0 ≤ t → B (l.getD i z))) (g i a))
    (he : ∀ (k : Nat) (a : Int), F (k + 1) a (l.length : Int) = some a) (a : Int) (ha : 0 ≤ a) (hb : a ≤ 1048576) : Comes (fun t => t ≤ a ∧ (0 ≤ t → ∀ x ∈ l, B x)) (fun k => F k a 0) := by
  have key : ∀ (d i : Nat) (a : Int), i + d = l.length → 0 ≤ a → a ≤ 1048576 → Comes (fun t => t ≤ a ∧ (0 ≤ t → ∀ j, i ≤ j → j < l.length → B (l.getD j z))) (fun k => F k a (i : Int)) := by
    intro d
    induction d with
    | zero =>
      intro i a hi ha hb
      have : i = l.length := by omega
      subst this
      refine Comes.step (fun k => he k a) (Comes.ret a ⟨Int.le_refl a, fun _ j h1 h2 => by omega⟩)
    | succ d ih =>
      intro i a hi ha hb
      refine Comes.step (fun k => hF k a i (by omega) ha hb) (Comes.bind (hg i a (by omega) ha hb) (fun t ht => Comes.ite (fun _ => Comes.ret (-1) ⟨by omega, fun h => by omega⟩) (fun hn => ?_)))
      refine (ih (i + 1) t (by omega) (by omega) (by omega)).mono (fun r hr => ⟨by omega, fun h0 j h1 h2 => ?_⟩)
      by_cases hj : j = i
      · subst hj
        exact ht.2 (by omega)
      · exact hr.2 h0 j (by omega) h2
  refine (key l.length 0 a (by omega) ha hb).mono (fun r hr => ⟨hr.1, fun h0 x hx => ?_⟩)
  obtain ⟨j, hj, rfl⟩ := List.mem_iff_getElem.1 hx
  have := hr.2 h0 j (by omega) hj
  rwa [List.getD_eq_getElem?_getD, List.getElem?_eq_getElem hj] at this
theorem getD_mem {α : Type} {l : List α} {i : Nat} {z : α} (h : i < l.length) : l.getD i z ∈ l := by
  rw [List.getD_eq_getElem?_getD, List.getElem?_eq_getElem h]
  exact List.getElem_mem h

theorem szItem_comes (x : S47) (hx : x.f1.length ≤ maxLen) (a : Int) (ha : 0 ≤ a) (hb : a ≤ 1048576) : ∃ t, laws_szItem.f x.f0.f0 x.f0.f1 x.f1 a = some t ∧ t ≤ a ∧ (0 ≤ t → (x.f1.length : Int) ≤ a - t) := by
  unfold maxLen at hx
  simp only [laws_szItem.f, laws_szDotS.f, wrap64]
  (repeat' split) <;> first | exact ⟨_, rfl, by omega, by omega⟩ | (simp only [Option.bind_some]; (repeat' split) <;> exact ⟨_, rfl, by omega, by omega⟩)
theorem szItemS_comes (l : List S47) (hx : l.length ≤ maxLen ∧ ∀ x ∈ l, x.f1.length ≤ maxLen) (a : Int) (ha : 0 ≤ a) (hb : a ≤ 1048576) : Comes (fun t => t ≤ a ∧ (0 ≤ t → (l.length : Int) ≤ a - t ∧ ∀ x ∈ l, x.f1.length ≤ 1048576)) (fun k => laws_szItemS.f k l a) := by
  have hl := hx.1
  unfold maxLen at hl
  have hw : wrap64 (a - (l.length : Int)) = a - (l.length : Int) := wrap_id (by omega) (by omega)
  simp only [laws_szItemS.f, hw]
  refine Comes.ite (fun _ => Comes.ret (-1) ⟨by omega, fun h => by omega⟩) (fun hn => ?_)
  refine (sz_loop l z47 (fun x => x.f1.length ≤ 1048576) (fun k a i => laws_szItemS.l0 k l a i) (fun i a _ => laws_szItem.f (l.getD i z47).f0.f0 (l.getD i z47).f0.f1 (l.getD i z47).f1 a) (by omega) (fun k a i hi _ _ => ?_) (fun i a hi ha hb => ?_) (fun k a => ?_) _ (by omega) (by omega)).mono (fun t ht => ⟨by omega, fun h => ⟨by omega, ht.2 h⟩⟩)
  · simp only [laws_szItemS.l0, rd_T47, Int.toNat_natCast]
    rw [if_pos (by omega), if_pos (by omega), wrap_succ (n := l.length) hi (by omega)]
  · obtain ⟨t, h1, h2, h3⟩ := szItem_comes (l.getD i z47) (hx.2 _ (getD_mem hi)) a ha hb
    exact Comes.some_ _ t h1 ⟨h2, fun h0 => by have := h3 h0; omega⟩
  · simp only [laws_szItemS.l0]
    rw [if_neg (by omega)]
theorem szGraph_comes (l : List S47) (hx : l.length ≤ maxLen ∧ ∀ x ∈ l, x.f1.length ≤ maxLen) (a : Int) (ha : 0 ≤ a) (hb : a ≤ 1048576) : Comes (fun t => t ≤ a ∧ (0 ≤ t → (l.length : Int) ≤ a - t ∧ ∀ x ∈ l, x.f1.length ≤ 1048576)) (fun k => laws_szGraph.f k l a) := by
  simp only [laws_szGraph.f]
  exact Comes.bind (szItemS_comes l hx a ha hb) (fun t ht => Comes.ite (fun _ => Comes.ret _ ⟨by omega, fun h => by omega⟩) (fun hn => Comes.ret t ht))

theorem eqDot_self (x : S56) : laws_eqDot.f x.f0 x.f1 x.f0 x.f1 = some true := by
  simp [laws_eqDot.f]
theorem eqDotS_ev (l : List S56) (h : l.length ≤ 9223372036854775806) : Ev (fun k => laws_eqDotS.f k l l) true := by
  refine Ev.congr (fun k => ?_) (scan_loop (fun i k => laws_eqDotS.l0 k l l (i : Int)) l.length true (fun i hi h => ?_) ?_)
  · simp only [laws_eqDotS.f]
    rw [if_pos trivial]
    rfl
  · refine Ev.step (fun k => ?_) h
    simp only [laws_eqDotS.l0, eqDot_self, Option.bind_some]
    rw [if_pos (by omega), if_pos (by omega), if_pos (by omega), wrap_succ (n := l.length) hi (by omega)]
    rfl
  · refine Ev.ends (fun k => ?_)
    simp only [laws_eqDotS.l0]
    rw [if_neg (by omega)]

theorem eqItemS_ev (l : List S59) (h : l.length ≤ 1048600) (hd : ∀ x ∈ l, x.f1.length ≤ 1048600) : Ev (fun k => laws_eqItemS.f k l l) true := by
  refine Ev.congr (fun k => ?_) (scan_loop (fun i k => laws_eqItemS.l0 k l l (i : Int)) l.length true (fun i hi h => ?_) ?_)
  · simp only [laws_eqItemS.f]
    rw [if_pos trivial]
    rfl
  · have hm : l.getD i z59 ∈ l := by
      rw [List.getD_eq_getElem?_getD, List.getElem?_eq_getElem hi]
      exact List.getElem_mem hi
    obtain ⟨K, hK⟩ := eqDotS_ev (l.getD i z59).f1 (by have := hd _ hm; omega)
    refine Ev.round ⟨K, fun k hk => ?_⟩ h
    have t := hK k hk
    dsimp only at t
    have d := eqDot_self (l.getD i z59).f0
    simp only [laws_eqItemS.l0, laws_eqItem.f, rd_T59, Int.toNat_natCast, d, t, Option.bind_some, if_true]
    rw [if_pos (by omega), if_pos (by omega), if_pos (by omega), wrap_succ (n := l.length) hi (by omega)]
  · refine Ev.ends (fun k => ?_)
    simp only [laws_eqItemS.l0]
    rw [if_neg (by omega)]
theorem eqGraph_ev (l : List S59) (h : l.length ≤ 1048600) (hd : ∀ x ∈ l, x.f1.length ≤ 1048600) : Ev (fun k => laws_eqGraph.f k l l) true := by
  obtain ⟨K, h⟩ := eqItemS_ev l h hd
  dsimp only at h
  exact ⟨K, fun k hk => by simp only [laws_eqGraph.f]; rw [h k hk, Option.bind_some, if_pos rfl]⟩

theorem l1In_eq (a b c : Int) : spec_l1In.f a b c = some (decide (b ≤ a) && decide (a ≤ c)) := by
  unfold spec_l1In.f
  by_cases h : a ≥ b
  · rw [if_pos h, decide_eq_true (show b ≤ a from h), Bool.true_and]
  · rw [if_neg h, decide_eq_false (show ¬ b ≤ a from h), Bool.false_and]

theorem in_eq (a b c : Int) : impl_in.f a b c = some (decide (b ≤ a) && decide (a ≤ c)) := by
  unfold impl_in.f
  by_cases h : a ≥ b
  · rw [if_pos h, decide_eq_true (show b ≤ a from h), Bool.true_and]
  · rw [if_neg h, decide_eq_false (show ¬ b ≤ a from h), Bool.false_and]

theorem ite_and (a b : Bool) : (if a = true then some b else some false) = some (a && b) := by cases a <;> rfl
theorem ite_some {c : Prop} [Decidable c] (a b : Bool) : (if c then some a else some b) = some (if c then a else b) := by split <;> rfl
theorem neq_self (b : Bool) : (if (b != b) = true then (some false : Option Bool) else some true) = some true := by cases b <;> rfl

def dotOkR (a b : Int) : Bool := (decide (1 ≤ a) && decide (a ≤ 7)) && (decide (1 ≤ b) && decide (b ≤ 999))
def dotLessR (a b c d : Int) : Bool := if a < c then true else if a = c then decide (b < d) else false
theorem spec_dotOk_eq (a b : Int) : spec_DotOk.f a b = some (dotOkR a b) := by
  simp only [spec_DotOk.f, l1In_eq, Option.bind_some, dotOkR]
  cases (decide (1 ≤ a) && decide (a ≤ 7)) <;> rfl
theorem impl_dotOk_eq (a b : Int) : impl_DotOk.f a b = some (dotOkR a b) := by
  simp only [impl_DotOk.f, in_eq, Option.bind_some, dotOkR]
  cases (decide (1 ≤ a) && decide (a ≤ 7)) <;> rfl
theorem spec_dotLess_eq (a b c d : Int) : spec_DotLess.f a b c d = some (dotLessR a b c d) := by
  simp only [spec_DotLess.f, dotLessR]
  (repeat' split) <;> rfl
theorem impl_dotLess_eq (a b c d : Int) : impl_DotLess.f a b c d = some (dotLessR a b c d) := by
  simp only [impl_DotLess.f, dotLessR]
  (repeat' split) <;> rfl
def depAt (xs : List S56) (i : Nat) : Bool := dotOkR (rd_T56 xs (i : Int)).f0 (rd_T56 xs (i : Int)).f1 && (if (i : Int) > 0 then dotLessR (rd_T56 xs ((i : Int) - 1)).f0 (rd_T56 xs ((i : Int) - 1)).f1 (rd_T56 xs (i : Int)).f0 (rd_T56 xs (i : Int)).f1 else true)
def depR (xs : List S56) : Nat → Nat → Bool
  | 0, _ => true
  | d + 1, i => depAt xs i && depR xs d (i + 1)
def eqAt (xs : List S56) (a b : Int) (i : Nat) : Bool := (rd_T56 xs (i : Int)).f0 == a && ((rd_T56 xs (i : Int)).f1 == b)
def hasR (xs : List S56) (a b : Int) : Nat → Nat → Bool
  | 0, _ => false
  | d + 1, i => eqAt xs a b i || hasR xs a b d (i + 1)
theorem spec_has_l0 (xs : List S56) (hn : xs.length ≤ 1048600) (a b : Int) : ∀ (d i : Nat), i + d = xs.length → Ev (fun k => spec_l8Has.l0 k xs (i : Int) a b) (hasR xs a b d i) := by
  intro d
  induction d with
  | zero =>
    intro i hi
    refine Ev.ends (fun k => ?_)
    simp only [spec_l8Has.l0]
    rw [if_neg (by omega)]
    rfl
  | succ d ih =>
    intro i hi
    have e1 : ((i : Int) < (xs.length : Int)) = True := eq_true (by omega)
    have e2 : (0 ≤ (i : Int)) = True := eq_true (by omega)
    have ew : wrap64 ((i : Int) + 1) = ((i + 1 : Nat) : Int) := wrap_succ (n := xs.length) (by omega) (by omega)
    unfold hasR
    by_cases h : eqAt xs a b i = true
    · refine Ev.ends (fun k => ?_)
      unfold eqAt at h
      simp only [spec_l8Has.l0, e1, e2, h, if_true]
      unfold eqAt
      rw [h, Bool.true_or]
    · have := ih (i + 1) (by omega)
      rw [eq_false_of_ne_true h, Bool.false_or]
      refine Ev.step (fun k => ?_) this
      unfold eqAt at h
      simp only [spec_l8Has.l0, e1, e2, ew, if_true]
      rw [if_neg h]
theorem spec_item_l0 (xs : List S56) (hn : xs.length ≤ 1048600) (a b : Int) : ∀ (d i : Nat), i + d = xs.length → Ev (fun k => spec_l8Item.l0 k (i : Int) a b xs) (depR xs d i) := by
  intro d
  induction d with
  | zero =>
    intro i hi
    refine Ev.ends (fun k => ?_)
    simp only [spec_l8Item.l0]
    rw [if_neg (by omega)]
    rfl
  | succ d ih =>
    intro i hi
    have e1 : ((i : Int) < (xs.length : Int)) = True := eq_true (by omega)
    have e2 : (0 ≤ (i : Int)) = True := eq_true (by omega)
    have ew : wrap64 ((i : Int) + 1) = ((i + 1 : Nat) : Int) := wrap_succ (n := xs.length) (by omega) (by omega)
    have nx := ih (i + 1) (by omega)
    unfold depR depAt
    by_cases h : dotOkR (rd_T56 xs (i : Int)).f0 (rd_T56 xs (i : Int)).f1 = true
    · by_cases hp : (i : Int) > 0
      · have ew2 : wrap64 ((i : Int) - 1) = (i : Int) - 1 := wrap_id (by omega) (by omega)
        have e3 : (0 ≤ (i : Int) - 1) = True := eq_true (by omega)
        have e4 : ((i : Int) - 1 < (xs.length : Int)) = True := eq_true (by omega)
        by_cases hl : dotLessR (rd_T56 xs ((i : Int) - 1)).f0 (rd_T56 xs ((i : Int) - 1)).f1 (rd_T56 xs (i : Int)).f0 (rd_T56 xs (i : Int)).f1 = true
        · rw [h, if_pos hp, hl, Bool.true_and, Bool.true_and]
          refine Ev.step (fun k => ?_) nx
          simp only [spec_l8Item.l0, spec_dotOk_eq, spec_dotLess_eq, Option.bind_some, e1, e2, ew, ew2, e3, e4, h, hl, hp, if_true]
        · rw [h, if_pos hp, eq_false_of_ne_true hl, Bool.and_false, Bool.false_and]
          refine Ev.ends (fun k => ?_)
          simp only [spec_l8Item.l0, spec_dotOk_eq, spec_dotLess_eq, Option.bind_some, e1, e2, ew, ew2, e3, e4, h, hp, if_true]
          rw [if_neg hl]
      · rw [h, if_neg hp, Bool.true_and, Bool.true_and]
        refine Ev.step (fun k => ?_) nx
        simp only [spec_l8Item.l0, spec_dotOk_eq, Option.bind_some, e1, e2, ew, h, if_true]
        rw [if_neg hp]
    · rw [eq_false_of_ne_true h, Bool.false_and, Bool.false_and]
      refine Ev.ends (fun k => ?_)
      simp only [spec_l8Item.l0, spec_dotOk_eq, Option.bind_some, e1, e2, if_true]
      rw [if_neg h]
theorem impl_deps_l0 (xs : List S56) (hn : xs.length ≤ 1048600) (a b : Int) : ∀ (d i : Nat), i + d = xs.length → Ev (fun k => impl_depsOk.l0 k xs xs (xs.length : Int) (i : Int) a b) (depR xs d i && (!(hasR xs a b d i) && decide ((xs.length : Int) ≤ 60))) := by
  intro d
  induction d with
  | zero =>
    intro i hi
    refine Ev.ends (fun k => ?_)
    simp only [impl_depsOk.l0]
    rw [if_neg (by omega)]
    rfl
  | succ d ih =>
    intro i hi
    have e1 : ((i : Int) < (xs.length : Int)) = True := eq_true (by omega)
    have e2 : (0 ≤ (i : Int)) = True := eq_true (by omega)
    have ew : wrap64 ((i : Int) + 1) = ((i + 1 : Nat) : Int) := wrap_succ (n := xs.length) (by omega) (by omega)
    have nx := ih (i + 1) (by omega)
    unfold depR hasR depAt
    by_cases h : dotOkR (rd_T56 xs (i : Int)).f0 (rd_T56 xs (i : Int)).f1 = true
    · by_cases hq : eqAt xs a b i = true
      · rw [hq, Bool.true_or, Bool.not_true, Bool.false_and, Bool.and_false]
        refine Ev.ends (fun k => ?_)
        unfold eqAt at hq
        simp only [impl_depsOk.l0, impl_dotOk_eq, Option.bind_some, e1, e2, h, hq, if_true]
      rw [eq_false_of_ne_true hq, Bool.false_or]
      unfold eqAt at hq
      by_cases hp : (i : Int) > 0
      · have ew2 : wrap64 ((i : Int) - 1) = (i : Int) - 1 := wrap_id (by omega) (by omega)
        have e3 : (0 ≤ (i : Int) - 1) = True := eq_true (by omega)
        have e4 : ((i : Int) - 1 < (xs.length : Int)) = True := eq_true (by omega)
        by_cases hl : dotLessR (rd_T56 xs ((i : Int) - 1)).f0 (rd_T56 xs ((i : Int) - 1)).f1 (rd_T56 xs (i : Int)).f0 (rd_T56 xs (i : Int)).f1 = true
        · rw [h, if_pos hp, hl, Bool.true_and, Bool.true_and]
          refine Ev.step (fun k => ?_) nx
          simp only [impl_depsOk.l0, impl_dotOk_eq, impl_dotLess_eq, Option.bind_some, e1, e2, ew, ew2, e3, e4, h, hl, hp, if_true]
          rw [if_neg hq]
        · rw [h, if_pos hp, eq_false_of_ne_true hl, Bool.and_false, Bool.false_and, Bool.false_and]
          refine Ev.ends (fun k => ?_)
          simp only [impl_depsOk.l0, impl_dotOk_eq, impl_dotLess_eq, Option.bind_some, e1, e2, ew, ew2, e3, e4, h, hp, if_true]
          rw [if_neg hq, if_neg hl]
      · rw [h, if_neg hp, Bool.true_and, Bool.true_and]
        refine Ev.step (fun k => ?_) nx
        simp only [impl_depsOk.l0, impl_dotOk_eq, Option.bind_some, e1, e2, ew, h, if_true]
        rw [if_neg hq, if_neg hp]
    · rw [eq_false_of_ne_true h, Bool.false_and, Bool.false_and, Bool.false_and]
      refine Ev.ends (fun k => ?_)
      simp only [impl_depsOk.l0, impl_dotOk_eq, Option.bind_some, e1, e2, if_true]
      rw [if_neg h]
def itemR (a b : Int) (xs : List S56) : Bool := dotOkR a b && (depR xs xs.length 0 && (!(hasR xs a b xs.length 0) && decide ((xs.length : Int) ≤ 60)))
theorem spec_item_ev (a b : Int) (xs : List S56) (hn : xs.length ≤ 1048600) : Ev (fun k => spec_l8Item.f k a b xs) (itemR a b xs) := by
  have j0t : Ev (fun k => spec_l8Item.j0 k true a b xs) false := Ev.ends (fun k => by simp only [spec_l8Item.j0]; rw [if_pos trivial])
  unfold itemR
  simp only [spec_l8Item.f, spec_dotOk_eq, Option.bind_some]
  by_cases h : dotOkR a b = true
  · simp only [h, if_true, Bool.true_and]
    by_cases h6 : (xs.length : Int) > 60
    · have e : decide ((xs.length : Int) ≤ 60) = false := decide_eq_false (by omega)
      simp only [if_pos h6, e, Bool.and_false]
      exact j0t
    · have e : decide ((xs.length : Int) ≤ 60) = true := decide_eq_true (by omega)
      simp only [if_neg h6, e, Bool.and_true]
      have hh : Ev (fun k => spec_l8Has.f k xs a b) (hasR xs a b xs.length 0) := spec_has_l0 xs hn a b xs.length 0 (by omega)
      refine Ev.bind' (f := fun n t => spec_l8Item.j0 n t a b xs) hh ?_
      by_cases hq : hasR xs a b xs.length 0 = true
      · simp only [hq, Bool.not_true, Bool.and_false]
        exact j0t
      · simp only [eq_false_of_ne_true hq, Bool.not_false, Bool.and_true]
        refine Ev.step (fun k => ?_) (spec_item_l0 xs hn a b xs.length 0 (by omega))
        simp only [spec_l8Item.j0]
        rw [if_neg (by simp)]
        rfl
  · simp only [eq_false_of_ne_true h, Bool.false_and, Bool.false_eq_true, if_false]
    exact j0t
theorem impl_deps_ev (a b : Int) (xs : List S56) (hn : xs.length ≤ 1048600) : Ev (fun k => impl_depsOk.f k a b xs) (depR xs xs.length 0 && (!(hasR xs a b xs.length 0) && decide ((xs.length : Int) ≤ 60))) := impl_deps_l0 xs hn a b xs.length 0 (by omega)
def asc (xs : List S59) (j : Nat) : Prop := dotLessR (rd_T59 xs ((j : Int) - 1)).f0.f0 (rd_T59 xs ((j : Int) - 1)).f0.f1 (rd_T59 xs (j : Int)).f0.f0 (rd_T59 xs (j : Int)).f0.f1 = true
theorem graphOk_asc (xs : List S59) (hn : xs.length ≤ 1048600) (hd : ∀ x ∈ xs, x.f1.length ≤ 1048600) : Both (fun r => r = true → ∀ j, 0 < j → j < xs.length → asc xs j) (fun k => spec_GraphOk.f k xs) (fun k => impl_GraphOk.f k xs) := by
  have key : ∀ (d i : Nat), i + d = xs.length → Both (fun r => r = true → ∀ j, i ≤ j → 0 < j → j < xs.length → asc xs j) (fun k => spec_GraphOk.l0 k (i : Int) xs) (fun k => impl_GraphOk.l0 k xs (xs.length : Int) (i : Int) xs) := by
    intro d
    induction d with
    | zero =>
      intro i hi
      refine Both.step (fun k => spec_GraphOk.l0.eq_2 ..) (fun k => impl_GraphOk.l0.eq_2 ..) ?_
      have e1 : ((i : Int) < (xs.length : Int)) = False := eq_false (by omega)
      simp only [e1, if_false]
      exact Both.ret _ (fun _ j h1 h2 h3 => by omega)
    | succ d ih =>
      intro i hi
      refine Both.step (fun k => spec_GraphOk.l0.eq_2 ..) (fun k => impl_GraphOk.l0.eq_2 ..) ?_
      have e1 : ((i : Int) < (xs.length : Int)) = True := eq_true (by omega)
      have e2 : (0 ≤ (i : Int)) = True := eq_true (by omega)
      have ew : wrap64 ((i : Int) + 1) = ((i + 1 : Nat) : Int) := wrap_succ (n := xs.length) (by omega) (by omega)
      have hm : (rd_T59 xs (i : Int)).f1.length ≤ 1048600 := hd _ (by
        simp only [rd_T59, Int.toNat_natCast]
        rw [List.getD_eq_getElem?_getD, List.getElem?_eq_getElem (show i < xs.length by omega)]
        exact List.getElem_mem _)
      simp only [e1, e2, if_true, ew, impl_dotOk_eq, Option.bind_some]
      have s1 := spec_item_ev (rd_T59 xs (i : Int)).f0.f0 (rd_T59 xs (i : Int)).f0.f1 _ hm
      have s2 := impl_deps_ev (rd_T59 xs (i : Int)).f0.f0 (rd_T59 xs (i : Int)).f0.f1 _ hm
      have tail : Both (fun r => r = true → ∀ j, i ≤ j → 0 < j → j < xs.length → asc xs j) (fun k => if (i : Int) > 0 then (if 0 ≤ (wrap64 ((i : Int) - 1)) then (if (wrap64 ((i : Int) - 1)) < (xs.length : Int) then ((spec_DotLess.f ((rd_T59 xs (wrap64 ((i : Int) - 1))).f0.f0) ((rd_T59 xs (wrap64 ((i : Int) - 1))).f0.f1) ((rd_T59 xs (i : Int)).f0.f0) ((rd_T59 xs (i : Int)).f0.f1)).bind fun t127 => (if t127 = true then (spec_GraphOk.l0 k ((i + 1 : Nat) : Int) xs) else (some false))) else (none)) else (none)) else (spec_GraphOk.l0 k ((i + 1 : Nat) : Int) xs)) (fun k => if (i : Int) > 0 then (if 0 ≤ (wrap64 ((i : Int) - 1)) then (if (wrap64 ((i : Int) - 1)) < (xs.length : Int) then ((impl_DotLess.f ((rd_T59 xs (wrap64 ((i : Int) - 1))).f0.f0) ((rd_T59 xs (wrap64 ((i : Int) - 1))).f0.f1) ((rd_T59 xs (i : Int)).f0.f0) ((rd_T59 xs (i : Int)).f0.f1)).bind fun t179 => (if t179 = true then (impl_GraphOk.l0 k xs (xs.length : Int) ((i + 1 : Nat) : Int) xs) else (some false))) else (none)) else (none)) else (impl_GraphOk.l0 k xs (xs.length : Int) ((i + 1 : Nat) : Int) xs)) := by
        refine Both.ite (fun hp => ?_) (fun hp => (ih (i + 1) (by omega)).mono (fun r hr h j h1 h2 h3 => hr h j (by omega) h2 h3))
        have ew2 : wrap64 ((i : Int) - 1) = (i : Int) - 1 := wrap_id (by omega) (by omega)
        have e3 : (0 ≤ (i : Int) - 1) = True := eq_true (by omega)
        have e4 : ((i : Int) - 1 < (xs.length : Int)) = True := eq_true (by omega)
        simp only [ew2, e3, e4, if_true, spec_dotLess_eq, impl_dotLess_eq, Option.bind_some]
        refine Both.ite (fun hl => (ih (i + 1) (by omega)).mono (fun r hr h j h1 h2 h3 => ?_)) (fun _ => Both.ret _ (fun h => by simp at h))
        by_cases e : j = i
        · subst e; exact hl
        · exact hr h j (by omega) h2 h3
      unfold itemR at s1
      by_cases h : dotOkR (rd_T59 xs (i : Int)).f0.f0 (rd_T59 xs (i : Int)).f0.f1 = true
      · rw [h, Bool.true_and] at s1
        simp only [h, if_true]
        exact Both.bind (Both.eq s1 s2) (fun b _ => Both.ite (fun _ => tail) (fun _ => Both.ret _ (fun h => by simp at h)))
      · rw [eq_false_of_ne_true h, Bool.false_and] at s1
        simp only [eq_false_of_ne_true h, Bool.false_eq_true, if_false]
        refine Both.of (r := false) (Ev.bind' (f := fun k (t : Bool) => if t = true then _ else _) s1 ?_) (Ev.now false) (fun h => by simp at h)
        simp only [Bool.false_eq_true, if_false]
        exact Ev.now false
  exact (key xs.length 0 (by omega)).mono (fun r hr h j h1 h2 => hr h j (by omega) h1 h2)
theorem graphOk_both (xs : List S59) (hn : xs.length ≤ 1048600) (hd : ∀ x ∈ xs, x.f1.length ≤ 1048600) : Both (fun _ => True) (fun k => spec_GraphOk.f k xs) (fun k => impl_GraphOk.f k xs) := (graphOk_asc xs hn hd).any

theorem getD_set_eq {α : Type} {l : List α} {i : Nat} (x z : α) (h : i < l.length) : (l.set i x).getD i z = x := by
  rw [List.getD_eq_getElem?_getD, List.getElem?_set_self h]
  rfl

def mkDot (k : Int) : S56 := (⟨(k), (k + 1)⟩ : S56)
def mkDotL (a : Int) (n : Nat) : List S56 := (List.range n).map fun (i : Nat) => mkDot (a + 2 * (i : Int))
theorem mkDotL_length (a : Int) (n : Nat) : (mkDotL a n).length = n := by simp [mkDotL]
theorem markDotS_ev (l : List S56) (a : Int) (ha : 0 ≤ a) (hb : a + 2 * (l.length : Int) ≤ 4611686018427387904) : Ev (fun k => laws_markDotS.f k l a) (a + 2 * (l.length : Int), mkDotL a l.length) := by
  have hm := mark_loop (fun k out s i => laws_markDotS.l0 k out s i) l.length (fun i => mkDot (a + 2 * (i : Int))) (fun i => a + 2 * (i : Int)) (fun i out r hi hl h => ?_) (fun out hl => ?_) l rfl
  · refine Ev.congr (fun k => ?_) hm
    simp only [laws_markDotS.f]
    congr 1
    simp
  · (try dsimp only at h ⊢)
    refine Ev.round ⟨0, fun k hk => ?_⟩ h
    have e1 : ((i : Int) < (out.length : Int)) = True := eq_true (by omega)
    have e2 : (0 ≤ (i : Int)) = True := eq_true (by omega)
    have ew : wrap64 ((i : Int) + 1) = ((i + 1 : Nat) : Int) := wrap_succ (n := l.length) hi (by omega)
    have w1 : wrap64 (a + 2 * (i : Int) + 1) = a + 2 * (i : Int) + 1 := wrap_id (by omega) (by omega)
    have w2 : wrap64 (a + 2 * (i : Int) + 2) = a + 2 * (i : Int) + 2 := wrap_id (by omega) (by omega)
    have ad2 : a + 2 * (i : Int) + 1 + 1 = a + 2 * (i : Int) + 2 := by omega
    have ae : a + 2 * (i : Int) + 2 = a + 2 * ((i + 1 : Nat) : Int) := by omega
    simp only [laws_markDotS.l0, e1, e2, if_true, Option.bind_some, w1, w2, ad2, ew, rd_T56, Int.toNat_natCast, List.set_set, getD_set_eq _ _ (show i < out.length by omega)]
    (rw [ae]) <;> rfl
  · refine Ev.ends (fun k => ?_)
    simp only [laws_markDotS.l0]
    rw [if_neg (by omega)]

theorem heldDotS_ev (a : Int) (n : Nat) (ha : 0 ≤ a) (hb : a + 2 * (n : Int) ≤ 4611686018427387904) : Ev (fun k => laws_heldDotS.f k (mkDotL a n) a) (a + 2 * (n : Int)) := by
  refine Ev.congr (fun k => ?_) (scan_loop (fun i k => laws_heldDotS.l0 k (mkDotL a n) (a + 2 * (i : Int)) (i : Int)) n (a + 2 * (n : Int)) (fun i hi h => ?_) ?_)
  · simp only [laws_heldDotS.f]
    congr 1
    simp
  · (try dsimp only at h ⊢)
    refine Ev.round ⟨0, fun k hk => ?_⟩ h
    have e1 : ((i : Int) < (n : Int)) = True := eq_true (by omega)
    have e2 : (0 ≤ (i : Int)) = True := eq_true (by omega)
    have ew : wrap64 ((i : Int) + 1) = ((i + 1 : Nat) : Int) := wrap_succ (n := n) hi (by omega)
    have eg : (mkDotL a n).getD i z56 = mkDot (a + 2 * (i : Int)) := range_map_getD n i _ _ hi
    have w1 : wrap64 (a + 2 * (i : Int) + 1) = a + 2 * (i : Int) + 1 := wrap_id (by omega) (by omega)
    have w2 : wrap64 (a + 2 * (i : Int) + 2) = a + 2 * (i : Int) + 2 := wrap_id (by omega) (by omega)
    have ad2 : a + 2 * (i : Int) + 1 + 1 = a + 2 * (i : Int) + 2 := by omega
    have ae : a + 2 * (i : Int) + 2 = a + 2 * ((i + 1 : Nat) : Int) := by omega
    simp only [laws_heldDotS.l0, mkDotL_length, e1, e2, if_true, Option.bind_some, w1, w2, ad2, ew, rd_T56, Int.toNat_natCast, eg, mkDot, bne_self_eq_false, Bool.false_eq_true, if_false]
    first | ((rw [ae]) <;> rfl) | (simp only [beq_self_eq_true, bne_self_eq_false, Bool.false_eq_true, if_false, if_true, ae])
  · refine Ev.ends (fun k => ?_)
    simp only [laws_heldDotS.l0, mkDotL_length]
    rw [if_neg (by omega)]

/-- The number behind i marked items. -/
def itAt (l : List S59) (a : Int) : Nat → Int
  | 0 => a
  | i + 1 => itAt l a i + 2 + 2 * ((rd_T59 l (i : Int)).f1.length : Int)
def mkIt (l : List S59) (a : Int) (i : Nat) : S59 := (⟨(⟨itAt l a i, itAt l a i + 1⟩ : S56), mkDotL (itAt l a i + 2) (rd_T59 l (i : Int)).f1.length⟩ : S59)
def mkItL (l : List S59) (a : Int) : List S59 := (List.range l.length).map (mkIt l a)
theorem mkItL_length (l : List S59) (a : Int) : (mkItL l a).length = l.length := by simp [mkItL]
theorem rdIt_in {l : List S59} {i : Nat} (h : i < l.length) : rd_T59 l (i : Int) ∈ l := getD_mem h
theorem itAt_le (l : List S59) (hd : ∀ x ∈ l, x.f1.length ≤ 1048600) (a : Int) : ∀ i, i ≤ l.length → a ≤ itAt l a i ∧ itAt l a i ≤ a + (i : Int) * 2097202
  | 0, _ => by simp [itAt]
  | i + 1, h => by
    have h1 := itAt_le l hd a i (by omega)
    have h2 := hd _ (rdIt_in (show i < l.length by omega))
    simp only [itAt]
    omega
/-- A row that is written from the left, and read at the place that is written. -/
theorem mark_loop2 {β σ : Type} (L : Nat → List β → σ → Int → Option (σ × List β)) (l : List β) (z : β) (g : Nat → β) (st : Nat → σ)
    (hs : ∀ (i : Nat) (out : List β) (r : σ × List β), i < l.length → out.length = l.length → out.getD i z = l.getD i z → Ev (fun k => L k (out.set i (g i)) (st (i + 1)) ((i + 1 : Nat) : Int)) r → Ev (fun k => L k out (st i) (i : Int)) r)
    (he : ∀ out : List β, out.length = l.length → Ev (fun k => L k out (st l.length) (l.length : Int)) (st l.length, out)) : Ev (fun k => L k l (st 0) 0) (st l.length, (List.range l.length).map g) := by
  have key : ∀ (d i : Nat) (out : List β), i + d = l.length → out.length = l.length → out.take i = (List.range i).map g → (∀ j, i ≤ j → out.getD j z = l.getD j z) → Ev (fun k => L k out (st i) (i : Int)) (st l.length, (List.range l.length).map g) := by
    intro d
    induction d with
    | zero =>
      intro i out hi hl ht _
      have hin : i = l.length := by omega
      subst hin
      have e := take_all ht hl
      rw [← e]
      exact he out hl
    | succ d ih =>
      intro i out hi hl ht hg
      refine hs i out _ (by omega) hl (hg i (Nat.le_refl _)) (ih (i + 1) _ (by omega) (by simp [hl]) ?_ (fun j hj => ?_))
      · rw [take_set_succ _ _ _ (by omega), ht, List.range_succ, List.map_append]
        rfl
      · rw [← hg j (by omega), List.getD_eq_getElem?_getD, List.getD_eq_getElem?_getD, List.getElem?_set_ne (by omega)]
  exact key l.length 0 l (by omega) rfl (by simp) (fun _ _ => rfl)
theorem markItemS_ev (l : List S59) (a : Int) (ha : 0 ≤ a) (hb : a ≤ 4611686018) (h : l.length ≤ 1048600) (hd : ∀ x ∈ l, x.f1.length ≤ 1048600) : Ev (fun k => laws_markItemS.f k l a) (itAt l a l.length, mkItL l a) := by
  have hle := itAt_le l hd a
  have hm := mark_loop2 (fun k out s i => laws_markItemS.l0 k out s i) l z59 (mkIt l a) (itAt l a) (fun i out r hi hl hg h => ?_) (fun out hl => ?_)
  · refine Ev.congr (fun k => ?_) hm
    simp only [laws_markItemS.f]
    rfl
  · have hrd : rd_T59 out (i : Int) = rd_T59 l (i : Int) := hg
    have b1 := hle i (by omega)
    have b2 := hd _ (rdIt_in hi)
    obtain ⟨K0, h0⟩ := markDotS_ev (rd_T59 l (i : Int)).f1 (itAt l a i + 2) (by omega) (by omega)
    refine Ev.round ⟨K0, fun k hk => ?_⟩ h
    have t0 := h0 k (by omega)
    dsimp only at t0
    have w1 : wrap64 (itAt l a i + 1) = itAt l a i + 1 := wrap_id (by omega) (by omega)
    have w2 : wrap64 (itAt l a i + 1 + 1) = itAt l a i + 2 := by rw [wrap_id (by omega) (by omega)]; omega
    simp only [laws_markItemS.l0, hrd, Int.toNat_natCast, w1, w2]
    rw [if_pos (by omega), if_pos (by omega), t0, Option.bind_some, wrap_succ (n := l.length) hi (by omega)]
    simp only [mkIt, itAt]
  · refine Ev.ends (fun k => ?_)
    simp only [laws_markItemS.l0]
    rw [if_neg (by omega)]
theorem heldItemS_ev (l : List S59) (a : Int) (ha : 0 ≤ a) (hb : a ≤ 4611686018) (h : l.length ≤ 1048600) (hd : ∀ x ∈ l, x.f1.length ≤ 1048600) : Ev (fun k => laws_heldItemS.f k (mkItL l a) a) (itAt l a l.length) := by
  have hle := itAt_le l hd a
  refine Ev.congr (fun k => ?_) (scan_loop (fun i k => laws_heldItemS.l0 k (mkItL l a) (itAt l a i) (i : Int)) l.length (itAt l a l.length) (fun i hi h => ?_) ?_)
  · simp only [laws_heldItemS.f]
    rfl
  · have hrd : rd_T59 (mkItL l a) (i : Int) = mkIt l a i := range_map_getD l.length i _ _ hi
    have b1 := hle i (by omega)
    have b2 := hd _ (rdIt_in hi)
    obtain ⟨K0, h0⟩ := heldDotS_ev (itAt l a i + 2) (rd_T59 l (i : Int)).f1.length (by omega) (by omega)
    refine Ev.round ⟨K0, fun k hk => ?_⟩ h
    have t0 := h0 k (by omega)
    dsimp only at t0
    have w1 : wrap64 (itAt l a i + 1) = itAt l a i + 1 := wrap_id (by omega) (by omega)
    have w2 : wrap64 (itAt l a i + 1 + 1) = itAt l a i + 2 := by rw [wrap_id (by omega) (by omega)]; omega
    have t1 : laws_heldDotS.f k (mkIt l a i).f1 (itAt l a i + 2) = some (itAt l a i + 2 + 2 * ((rd_T59 l (i : Int)).f1.length : Int)) := t0
    simp only [laws_heldItemS.l0, mkItL_length, hrd, w1, w2]
    rw [if_pos (by omega), if_pos (by omega), if_pos (show (mkIt l a i).f0.f0 = itAt l a i from rfl), if_pos (show (mkIt l a i).f0.f1 = itAt l a i + 1 from rfl), t1, Option.bind_some, if_neg (by omega), wrap_succ (n := l.length) hi (by omega)]
    simp only [itAt]
  · refine Ev.ends (fun k => ?_)
    simp only [laws_heldItemS.l0, mkItL_length]
    rw [if_neg (by omega)]
/-- Marks on a graph, and that they are held. -/
theorem markGraph_ev (l : List S59) (h : l.length ≤ 1048600) (hd : ∀ x ∈ l, x.f1.length ≤ 1048600) : 0 ≤ itAt l 1 l.length ∧ itAt l 1 l.length ≤ 2199126018202 ∧ Ev (fun k => laws_markGraph.f k l 1) (itAt l 1 l.length, mkItL l 1) ∧ Ev (fun k => laws_heldGraph.f k (mkItL l 1) 1) (itAt l 1 l.length) := by
  have hle := itAt_le l hd 1 l.length (Nat.le_refl _)
  obtain ⟨K1, e1⟩ := markItemS_ev l 1 (by omega) (by omega) h hd
  obtain ⟨K2, e2⟩ := heldItemS_ev l 1 (by omega) (by omega) h hd
  dsimp only at e1 e2
  refine ⟨by omega, by omega, ⟨K1, fun k hk => by simp only [laws_markGraph.f]; rw [e1 k hk, Option.bind_some]⟩, ⟨K2, fun k hk => by simp only [laws_heldGraph.f]; rw [e2 k hk, Option.bind_some, if_neg (by omega)]⟩⟩

def insI (it : S59) : List S59 → List S59
  | [] => [it]
  | x :: r => if dotLessR it.f0.f0 it.f0.f1 x.f0.f0 x.f0.f1 = true then it :: x :: r else x :: insI it r
theorem insI_length (it : S59) : ∀ l, (insI it l).length = l.length + 1
  | [] => rfl
  | x :: r => by
    unfold insI
    split
    · simp
    · simp [insI_length it r]
theorem insI_mem {it x : S59} : ∀ {l : List S59}, x ∈ insI it l → x = it ∨ x ∈ l
  | [], h => by simpa [insI] using h
  | y :: r, h => by
    unfold insI at h
    split at h
    · simpa using h
    · rcases List.mem_cons.1 h with h | h
      · exact .inr (by rw [h]; exact List.mem_cons_self)
      · rcases insI_mem h with h | h
        · exact .inl h
        · exact .inr (List.mem_cons_of_mem _ h)
theorem rdIt_get (xs : List S59) (i : Nat) (h : i < xs.length) : rd_T59 xs (i : Int) = xs[i] := by unfold rd_T59; simp [List.getD_eq_getElem?_getD, h]
theorem copyItem_eq (a b : Int) (l : List S56) (h : l.length ≤ 1048600) : spec_l8CopyItem.f a b l = some (a, b, l) := by
  unfold spec_l8CopyItem.f
  rw [Option.bind_some, if_pos (by simp; omega)]
  rfl
theorem copyDots_eq (l : List S56) (h : l.length ≤ 1048600) : impl_copyDots.f l = some l := by
  unfold impl_copyDots.f
  rw [if_pos (by simp; omega)]
  rfl
theorem take_next (xs : List S59) (i : Nat) (h : i < xs.length) : xs.take i ++ [xs[i]] = xs.take (i + 1) := by rw [List.take_add_one, List.getElem?_eq_getElem h]; rfl
theorem specCopy_ev (xs : List S59) (hn : xs.length ≤ 1048600) (hd : ∀ x ∈ xs, x.f1.length ≤ 1048600) : Ev (fun k => spec_l8Copy.f k xs) xs := by
  have key : ∀ (d i : Nat), i + d = xs.length → Ev (fun k => spec_l8Copy.l0 k (xs.take i) (i : Int) xs) xs := by
    intro d
    induction d with
    | zero =>
      intro i hi
      refine Ev.ends (fun k => ?_)
      simp only [spec_l8Copy.l0]
      rw [if_neg (by omega), List.take_of_length_le (by omega)]
    | succ d ih =>
      intro i hi
      have hil : i < xs.length := by omega
      refine Ev.step (fun k => ?_) (ih (i + 1) (by omega))
      simp only [spec_l8Copy.l0]
      rw [if_pos (by omega), if_pos (by omega), rdIt_get xs i hil, copyItem_eq _ _ _ (hd _ (List.getElem_mem hil)), Option.bind_some, if_pos (by rw [List.length_take]; omega), wrap_succ (n := xs.length) hil (by omega)]
      rw [show (⟨(⟨xs[i].f0.f0, xs[i].f0.f1⟩ : S56), xs[i].f1⟩ : S59) = xs[i] from rfl, take_next xs i hil]
  have := key xs.length 0 (by omega)
  rw [List.take_zero] at this
  exact this
theorem implCopy_ev (xs : List S59) (hn : xs.length ≤ 1048600) (hd : ∀ x ∈ xs, x.f1.length ≤ 1048600) : Ev (fun k => impl_copyGraph.f k xs) xs := by
  have key : ∀ (d i : Nat), i + d = xs.length → Ev (fun k => impl_copyGraph.l0 k xs (xs.length : Int) (i : Int) (xs.take i)) xs := by
    intro d
    induction d with
    | zero =>
      intro i hi
      refine Ev.ends (fun k => ?_)
      simp only [impl_copyGraph.l0]
      rw [if_neg (by omega), List.take_of_length_le (by omega)]
    | succ d ih =>
      intro i hi
      have hil : i < xs.length := by omega
      refine Ev.step (fun k => ?_) (ih (i + 1) (by omega))
      simp only [impl_copyGraph.l0]
      rw [if_pos (by omega), if_pos (by omega), if_pos (by omega), rdIt_get xs i hil, copyDots_eq _ (hd _ (List.getElem_mem hil)), Option.bind_some, if_pos (by rw [List.length_take]; omega), wrap_succ (n := xs.length) hil (by omega)]
      rw [show (⟨(⟨xs[i].f0.f0, xs[i].f0.f1⟩ : S56), xs[i].f1⟩ : S59) = xs[i] from rfl, take_next xs i hil]
  have := key xs.length 0 (by omega)
  rw [List.take_zero] at this
  exact this
theorem at_both (xs : List S59) (hn : xs.length ≤ 1048600) (a b : Int) : ∃ r, Ev (fun k => spec_l8At.f k xs a b) r ∧ Ev (fun k => impl_itemAt.f k xs a b) r := by
  have key : ∀ (d i : Nat), i + d = xs.length → ∃ r, Ev (fun k => spec_l8At.l0 k (i : Int) xs a b) r ∧ Ev (fun k => impl_itemAt.l0 k xs (xs.length : Int) (i : Int) a b) r := by
    intro d
    induction d with
    | zero =>
      intro i hi
      refine ⟨-1, Ev.ends (fun k => ?_), Ev.ends (fun k => ?_)⟩
      · simp only [spec_l8At.l0]
        rw [if_neg (by omega)]
      · simp only [impl_itemAt.l0]
        rw [if_neg (by omega)]
    | succ d ih =>
      intro i hi
      have hil : i < xs.length := by omega
      by_cases hc : ((rd_T59 xs (i : Int)).f0.f0 == a && ((rd_T59 xs (i : Int)).f0.f1 == b)) = true
      · refine ⟨(i : Int), Ev.ends (fun k => ?_), Ev.ends (fun k => ?_)⟩
        · simp only [spec_l8At.l0]
          rw [if_pos (by omega), if_pos (by omega), if_pos hc]
        · simp only [impl_itemAt.l0]
          rw [if_pos (by omega), if_pos (by omega), if_pos (by omega), if_pos hc]
      · obtain ⟨r, h1, h2⟩ := ih (i + 1) (by omega)
        refine ⟨r, Ev.step (fun k => ?_) h1, Ev.step (fun k => ?_) h2⟩
        · simp only [spec_l8At.l0]
          rw [if_pos (by omega), if_pos (by omega), if_neg hc, wrap_succ (n := xs.length) hil (by omega)]
        · simp only [impl_itemAt.l0]
          rw [if_pos (by omega), if_pos (by omega), if_pos (by omega), if_neg hc, wrap_succ (n := xs.length) hil (by omega)]
  exact key xs.length 0 (by omega)
def outI (it : S59) (out : List S59) (b : Bool) (l : List S59) : List S59 := out ++ (if b = true then l else insI it l)
theorem outI_true (it x : S59) (out r : List S59) : outI it (out ++ [x]) true r = outI it out true (x :: r) := by simp [outI]
theorem outI_put (it x : S59) (out r : List S59) (h : dotLessR it.f0.f0 it.f0.f1 x.f0.f0 x.f0.f1 = true) : outI it (out ++ [it] ++ [x]) true r = outI it out false (x :: r) := by
  unfold outI
  rw [if_pos rfl, if_neg (by decide)]
  unfold insI
  rw [if_pos h]
  simp
theorem outI_skip (it x : S59) (out r : List S59) (h : ¬ dotLessR it.f0.f0 it.f0.f1 x.f0.f0 x.f0.f1 = true) : outI it (out ++ [x]) false r = outI it out false (x :: r) := by
  unfold outI
  rw [if_neg (by decide), if_neg (by decide)]
  conv => rhs; unfold insI
  rw [if_neg h]
  simp
theorem specPut_l0 (xs : List S59) (it : S59) (hn : xs.length ≤ 1048590) (hd : ∀ x ∈ xs, x.f1.length ≤ 1048600) (hi : it.f1.length ≤ 1048600) (r : List S59 × Bool) : ∀ (d i : Nat) (out : List S59) (b : Bool), i + d = xs.length → out.length ≤ i + (if b = true then 1 else 0) →
    Ev (fun k => spec_GraphPut.j2 k xs it.f0.f0 it.f0.f1 it.f1 (outI it out b (xs.drop i))) r → Ev (fun k => spec_GraphPut.l0 k b (i : Int) xs it.f0.f0 it.f0.f1 it.f1 out) r := by
  intro d
  induction d with
  | zero =>
    intro i out b hid ho h
    rw [List.drop_eq_nil_of_le (by omega)] at h
    refine Ev.step (fun k => ?_) h
    simp only [spec_GraphPut.l0]
    rw [if_neg (by omega)]
    have ho3 : out.length ≤ i + 1 := by split at ho <;> omega
    cases b
    · rw [if_neg (by decide), copyItem_eq _ _ _ hi, Option.bind_some, if_pos (by omega)]
      rfl
    · rw [if_pos rfl]
      simp [outI]
  | succ d ih =>
    intro i out b hid ho h
    have hil : i < xs.length := by omega
    have ed : xs.drop i = xs[i] :: xs.drop (i + 1) := List.drop_eq_getElem_cons hil
    have hx := hd _ (List.getElem_mem hil)
    rw [ed] at h
    have eta : (⟨(⟨xs[i].f0.f0, xs[i].f0.f1⟩ : S56), xs[i].f1⟩ : S59) = xs[i] := rfl
    have etb : (⟨(⟨it.f0.f0, it.f0.f1⟩ : S56), it.f1⟩ : S59) = it := rfl
    have skip : ∀ (k : Nat) (c : Bool), spec_GraphPut.j1 (k + 1) c (i : Int) false xs it.f0.f0 it.f0.f1 it.f1 out = spec_GraphPut.l0 k c ((i + 1 : Nat) : Int) xs it.f0.f0 it.f0.f1 it.f1 (out ++ [xs[i]]) := by
      intro k c
      have ho3 : out.length ≤ i + 1 := by split at ho <;> omega
      simp only [spec_GraphPut.j1]
      rw [if_neg (by decide), if_pos (by omega), if_pos (by omega), rdIt_get xs i hil, copyItem_eq _ _ _ hx, Option.bind_some, if_pos (by omega), wrap_succ (n := xs.length) hil (by omega)]
    cases b
    · by_cases hl : dotLessR it.f0.f0 it.f0.f1 xs[i].f0.f0 xs[i].f0.f1 = true
      · rw [← outI_put it xs[i] out _ hl] at h
        obtain ⟨K, e⟩ := ih (i + 1) _ true (by omega) (by simp at ho ⊢; omega) h
        refine ⟨K + 2, fun k hk => ?_⟩
        obtain ⟨q, rfl⟩ : ∃ q, k = q + 2 := ⟨k - 2, by omega⟩
        have e' := e q (by omega)
        simp at ho
        simp only [spec_GraphPut.l0, spec_GraphPut.j1]
        rw [if_pos (by omega), if_neg (by decide), if_pos (by omega), rdIt_get xs i hil, spec_dotLess_eq, Option.bind_some, hl, if_pos rfl, copyItem_eq _ _ _ hi, Option.bind_some, if_pos (by omega), Option.bind_some, if_pos (by omega), if_pos (by omega), copyItem_eq _ _ _ hx, Option.bind_some, if_pos (by simp; omega), wrap_succ (n := xs.length) hil (by omega)]
        exact e'
      · rw [← outI_skip it xs[i] out _ hl] at h
        obtain ⟨K, e⟩ := ih (i + 1) _ false (by omega) (by simp at ho ⊢; omega) h
        refine ⟨K + 2, fun k hk => ?_⟩
        obtain ⟨q, rfl⟩ : ∃ q, k = q + 2 := ⟨k - 2, by omega⟩
        have e' := e q (by omega)
        simp only [spec_GraphPut.l0]
        rw [if_pos (by omega), if_neg (by decide), if_pos (by omega), rdIt_get xs i hil, spec_dotLess_eq, Option.bind_some, Bool.eq_false_iff.2 hl, skip]
        exact e'
    · rw [← outI_true it xs[i] out] at h
      obtain ⟨K, e⟩ := ih (i + 1) _ true (by omega) (by simp at ho ⊢; omega) h
      refine ⟨K + 2, fun k hk => ?_⟩
      obtain ⟨q, rfl⟩ : ∃ q, k = q + 2 := ⟨k - 2, by omega⟩
      have e' := e q (by omega)
      simp only [spec_GraphPut.l0]
      rw [if_pos (by omega), if_pos trivial, skip]
      exact e'
theorem implPut_l0 (xs : List S59) (it : S59) (g : List S59) (hn : xs.length ≤ 1048590) (hd : ∀ x ∈ xs, x.f1.length ≤ 1048600) (hi : it.f1.length ≤ 1048600) (r : List S59 × Bool) : ∀ (d i : Nat) (out : List S59) (b : Bool), i + d = xs.length → out.length ≤ i + (if b = true then 1 else 0) →
    Ev (fun k => impl_GraphPut.j1 k g it.f0.f0 it.f0.f1 it.f1 (outI it out b (xs.drop i))) r → Ev (fun k => impl_GraphPut.l0 k b xs (xs.length : Int) (i : Int) g it.f0.f0 it.f0.f1 it.f1 out) r := by
  intro d
  induction d with
  | zero =>
    intro i out b hid ho h
    rw [List.drop_eq_nil_of_le (by omega)] at h
    refine Ev.step (fun k => ?_) h
    simp only [impl_GraphPut.l0]
    rw [if_neg (by omega)]
    have ho3 : out.length ≤ i + 1 := by split at ho <;> omega
    cases b
    · rw [if_neg (by decide), copyDots_eq _ hi, Option.bind_some, if_pos (by omega)]
      rfl
    · rw [if_pos rfl]
      simp [outI]
  | succ d ih =>
    intro i out b hid ho h
    have hil : i < xs.length := by omega
    have ed : xs.drop i = xs[i] :: xs.drop (i + 1) := List.drop_eq_getElem_cons hil
    have hx := hd _ (List.getElem_mem hil)
    rw [ed] at h
    have ho3 : out.length ≤ i + 1 := by split at ho <;> omega
    cases b
    · by_cases hl : dotLessR it.f0.f0 it.f0.f1 xs[i].f0.f0 xs[i].f0.f1 = true
      · rw [← outI_put it xs[i] out _ hl] at h
        refine Ev.step (fun k => ?_) (ih (i + 1) _ true (by omega) (by simp at ho ⊢; omega) h)
        simp only [impl_GraphPut.l0]
        rw [if_pos (by omega), if_pos (by omega), if_pos (by omega), if_neg (by decide), rdIt_get xs i hil, impl_dotLess_eq, Option.bind_some, if_pos hl, copyDots_eq _ hi, Option.bind_some, if_pos (by omega), Option.bind_some, if_pos (by simp; omega), wrap_succ (n := xs.length) hil (by omega)]
      · rw [← outI_skip it xs[i] out _ hl] at h
        refine Ev.step (fun k => ?_) (ih (i + 1) _ false (by omega) (by simp at ho ⊢; omega) h)
        simp only [impl_GraphPut.l0]
        rw [if_pos (by omega), if_pos (by omega), if_pos (by omega), if_neg (by decide), rdIt_get xs i hil, impl_dotLess_eq, Option.bind_some, if_neg hl, if_pos (by omega), wrap_succ (n := xs.length) hil (by omega)]
    · rw [← outI_true it xs[i] out] at h
      refine Ev.step (fun k => ?_) (ih (i + 1) _ true (by omega) (by simp at ho ⊢; omega) h)
      simp only [impl_GraphPut.l0]
      rw [if_pos (by omega), if_pos (by omega), if_pos (by omega), if_pos trivial, rdIt_get xs i hil, if_pos (by omega), wrap_succ (n := xs.length) hil (by omega)]
theorem put_both (xs : List S59) (it : S59) (hn : xs.length ≤ 1048590) (hd : ∀ x ∈ xs, x.f1.length ≤ 1048600) (hi : it.f1.length ≤ 1048600) :
    Both (fun r => r.1.length ≤ 1048600 ∧ ∀ x ∈ r.1, x.f1.length ≤ 1048600) (fun k => spec_GraphPut.f k xs it.f0.f0 it.f0.f1 it.f1) (fun k => impl_GraphPut.f k xs it.f0.f0 it.f0.f1 it.f1) := by
  have hl := insI_length it xs
  have hm : ∀ x ∈ insI it xs, x.f1.length ≤ 1048600 := by
    intro x hx
    rcases insI_mem hx with rfl | hx
    · exact hi
    · exact hd x hx
  obtain ⟨a, hA1, hA2⟩ := at_both xs (by omega) it.f0.f0 it.f0.f1
  obtain ⟨ok, _, ho1, ho2⟩ := graphOk_both (insI it xs) (by omega) hm
  have c1 := specCopy_ev xs (by omega) hd
  have c2 := implCopy_ev xs (by omega) hd
  refine ⟨if a ≥ 0 then (xs, false) else if ok = true then (insI it xs, true) else (xs, false), ?_, ?_, ?_⟩
  · split
    · exact ⟨by simp only []; omega, hd⟩
    · split
      · exact ⟨by simp only []; omega, hm⟩
      · exact ⟨by simp only []; omega, hd⟩
  · have h := specPut_l0 xs it hn hd hi (if a ≥ 0 then (xs, false) else if ok = true then (insI it xs, true) else (xs, false)) xs.length 0 [] false (by omega) (by simp) (by
      rw [List.drop_zero]
      unfold outI
      rw [if_neg (by decide), List.nil_append]
      have hj3 : ∀ (c : Bool), Ev (fun k => spec_GraphPut.j3 k c xs (insI it xs)) (if c = true then (xs, false) else (insI it xs, true)) := by
        intro c
        cases c
        · exact Ev.ends (fun k => by simp only [spec_GraphPut.j3]; rfl)
        · obtain ⟨K, e⟩ := c1
          refine ⟨K + 1, fun k hk => ?_⟩
          obtain ⟨q, rfl⟩ : ∃ q, k = q + 1 := ⟨k - 1, by omega⟩
          have e' := e q (by omega)
          dsimp only at e'
          simp only [spec_GraphPut.j3]
          rw [if_pos trivial, e', Option.bind_some]
          rfl
      refine Ev.step (f := fun k => (spec_l8At.f k xs it.f0.f0 it.f0.f1).bind fun t => (if t ≥ 0 then (spec_GraphPut.j3 k true xs (insI it xs)) else ((spec_GraphOk.f k (insI it xs)).bind fun t' => (spec_GraphPut.j3 k (!t') xs (insI it xs))))) (fun k => by simp only [spec_GraphPut.j2]) ?_
      refine Ev.bind' hA1 ?_
      by_cases ha : a ≥ 0
      · simp only [ha, if_true]
        exact hj3 true
      · simp only [ha, if_false]
        refine Ev.bind' ho1 ?_
        cases ok
        · exact hj3 true
        · exact hj3 false)
    exact h
  · unfold impl_GraphPut.f
    refine Ev.bind' c2 ?_
    have h := implPut_l0 xs it xs hn hd hi (if a ≥ 0 then (xs, false) else if ok = true then (insI it xs, true) else (xs, false)) xs.length 0 [] false (by omega) (by simp) (by
      rw [List.drop_zero]
      unfold outI
      rw [if_neg (by decide), List.nil_append]
      refine Ev.step (f := fun k => (impl_itemAt.f k xs it.f0.f0 it.f0.f1).bind fun t => (if t ≥ 0 then ((impl_copyGraph.f k xs).bind fun u => (some (u, false))) else ((impl_GraphOk.f k (insI it xs)).bind fun t' => (if t' = true then (some (insI it xs, true)) else ((impl_copyGraph.f k xs).bind fun u => (some (u, false))))))) (fun k => by simp only [impl_GraphPut.j1]) ?_
      refine Ev.bind' hA2 ?_
      by_cases ha : a ≥ 0
      · simp only [ha, if_true]
        exact Ev.bind' c2 (Ev.now _)
      · simp only [ha, if_false]
        refine Ev.bind' ho2 ?_
        cases ok
        · simp only [Bool.false_eq_true, if_false]
          exact Ev.bind' c2 (Ev.now _)
        · simp only [if_true]
          exact Ev.now _)
    exact h
theorem FnExactGraphPut : laws_FnExactGraphPut.Pure := by
  intro x y hx hy
  refine Comes.true_ ?_
  simp only [laws_FnExactGraphPut.f]
  refine Comes.bind (szGraph_comes x.f0 ⟨hx.1, fun y hy => (hx.2 y hy).2.1⟩ 1048576 (by omega) (by omega)) (fun t ht => Comes.ite (fun _ => Comes.ret true rfl) (fun hn => ?_))
  have hb := ht.2 (by omega)
  obtain ⟨u, hu, hu1, hu2⟩ := szItem_comes y hy.2.1 t (by omega) (by omega)
  refine Comes.bind (Comes.some_ _ u hu (rfl : u = u)) (fun v hv => ?_)
  subst hv
  refine Comes.ite (fun _ => Comes.ret true rfl) (fun hn2 => ?_)
  have hb2 := hu2 (by omega)
  have hlen : x.f0.length ≤ 1048576 := by omega
  have hlm : (x.f0.map toItem).length ≤ 1048590 := by simp; omega
  have hmd : ∀ z ∈ x.f0.map toItem, z.f1.length ≤ 1048600 := by
    intro z hz
    obtain ⟨z', hz', rfl⟩ := List.mem_map.1 hz
    have := hb.2 z' hz'
    simp only [toItem, List.length_map]
    omega
  have hil : (toItem y).f1.length ≤ 1048600 := by simp only [toItem, List.length_map]; omega
  obtain ⟨r, hr, h2, h3⟩ := put_both (x.f0.map toItem) (toItem y) hlm hmd hil
  obtain ⟨K1, h1⟩ := toGraph_ev x.f0 hlen hb.2
  obtain ⟨K2, h2⟩ := h2
  obtain ⟨K3, h3⟩ := h3
  obtain ⟨K4, h4⟩ := eqGraph_ev (x.f0.map toItem) (by omega) hmd
  obtain ⟨K5, h5⟩ := eqGraph_ev r.1 hr.1 hr.2
  obtain ⟨m0, m1, ⟨K6, h6⟩, _⟩ := markGraph_ev (x.f0.map toItem) (by omega) hmd
  obtain ⟨n0, n1, ⟨K7, h7⟩, ⟨K8, h8⟩⟩ := markGraph_ev r.1 hr.1 hr.2
  obtain ⟨K9, h9⟩ := toDotS_ev y.f1 (by omega)
  obtain ⟨K10, h10⟩ := eqDotS_ev (y.f1.map toDot) (by simp; omega)
  obtain ⟨K11, h11⟩ := markDotS_ev (y.f1.map toDot) (itAt (x.f0.map toItem) 1 (x.f0.map toItem).length) m0 (by have e_ : (y.f1.map toDot).length = y.f1.length := List.length_map _; rw [e_]; omega)
  dsimp only at h1 h2 h3 h4 h5 h6 h7 h8 h9 h10 h11
  have ti : ∀ k, K9 ≤ k → laws_toItem.f k y.f0.f0 y.f0.f1 y.f1 = some ((toItem y).f0.f0, (toItem y).f0.f1, (toItem y).f1) := by
    intro k hk
    simp only [laws_toItem.f, laws_toDot.f, Option.bind_some]
    rw [h9 k hk, Option.bind_some]
    rfl
  have ei : ∀ k, K10 ≤ k → laws_eqItem.f k (toItem y).f0.f0 (toItem y).f0.f1 (toItem y).f1 (toItem y).f0.f0 (toItem y).f0.f1 (toItem y).f1 = some true := by
    intro k hk
    simp only [laws_eqItem.f]
    rw [eqDot_self (toItem y).f0, Option.bind_some, if_pos rfl, show laws_eqDotS.f k (toItem y).f1 (toItem y).f1 = some true from h10 k hk, Option.bind_some, if_pos rfl]
  have mi : ∀ k, K11 ≤ k → laws_markItem.f k (toItem y).f0.f0 (toItem y).f0.f1 (toItem y).f1 (itAt (x.f0.map toItem) 1 (x.f0.map toItem).length) = some (itAt (x.f0.map toItem) 1 (x.f0.map toItem).length + 2 * ((y.f1.map toDot).length : Int), mkDotL (itAt (x.f0.map toItem) 1 (x.f0.map toItem).length) (y.f1.map toDot).length) := by
    intro k hk
    simp only [laws_markItem.f]
    rw [show laws_markDotS.f k (toItem y).f1 _ = _ from h11 k hk, Option.bind_some]
  refine ⟨true, rfl, K1 + K2 + K3 + K4 + K5 + K6 + K7 + K8 + K9 + K10 + K11 + 3, fun k hk => ?_⟩
  obtain ⟨q, rfl⟩ : ∃ q, k = q + 3 := ⟨k - 3, by omega⟩
  dsimp only
  rw [h1 _ (by omega), Option.bind_some, ti _ (by omega), Option.bind_some, h2 _ (by omega), Option.bind_some, Option.bind_some, Option.bind_some, h3 _ (by omega), Option.bind_some, h5 _ (by omega), Option.bind_some, if_pos rfl]
  simp only [laws_FnExactGraphPut.j0, laws_FnExactGraphPut.j1, laws_FnExactGraphPut.j2, bne_self_eq_false, Bool.false_eq_true, if_false]
  rw [h1 _ (by omega), Option.bind_some, h4 _ (by omega), Option.bind_some, if_pos rfl, ti _ (by omega), Option.bind_some, ei _ (by omega), Option.bind_some, if_pos rfl, h6 _ (by omega), Option.bind_some, mi _ (by omega), Option.bind_some, if_neg (by simp only []; omega), h5 _ (by omega), Option.bind_some, if_pos rfl, h7 _ (by omega), Option.bind_some, h8 _ (by omega), Option.bind_some, if_neg (by omega), if_pos rfl, h1 _ (by omega), Option.bind_some, ti _ (by omega), Option.bind_some, h3 _ (by omega), Option.bind_some, h5 _ (by omega), Option.bind_some, if_pos rfl]
  simp only [bne_self_eq_false, Bool.false_eq_true, if_false]
  rw [h8 _ (by omega), Option.bind_some, if_neg (by omega), if_pos rfl]

end Go.Proofs.Ytecjamgajlpfdaa.MPureFnExactGraphPut
