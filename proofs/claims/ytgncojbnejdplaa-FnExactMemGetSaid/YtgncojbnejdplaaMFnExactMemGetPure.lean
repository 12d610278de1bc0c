/- MemGet of the program and of the reference answer the same, for all tables in memory and keys. No condition. -/
import Derived.Test.YtgncojbnejdplaaMFnExactMemGetDef
set_option linter.unusedVariables false
set_option linter.unusedSimpArgs false
namespace Go.Proofs.Ytgncojbnejdplaa.MPureFnExactMemGet
open Go.RowKit Go.Proofs.Ytgncojbnejdplaa.MFnExactMemGet Go.Proofs.YtgncojbnejdplaaW.PrintWords Go.Proofs.YtgncojbnejdplaaW.PrintLast Go.Proofs.YtgncojbnejdplaaW.PrintMore

theorem wrap_id {i : Int} (h0 : -9223372036854775808 ≤ i) (h1 : i ≤ 9223372036854775807) : wrap64 i = i := by unfold wrap64; omega
theorem wrap_succ {i n : Nat} (h : i < n) (hn : n ≤ 9223372036854775807) : wrap64 ((i : Int) + 1) = ((i + 1 : Nat) : Int) := by unfold wrap64; omega
theorem rd_nat (xs : List Int) (i : Nat) : rd xs (i : Int) = xs.getD i 0 := by simp [rd]
theorem take_set_succ {α : Type} (l : List α) (i : Nat) (x : α) (h : i < l.length) : (l.set i x).take (i + 1) = l.take i ++ [x] := by
  rw [List.take_succ_eq_append_getElem (by simpa using h), List.getElem_set_self, List.take_set_of_le (Nat.le_refl _)]
theorem take_succ_getD {α : Type} (l : List α) (i : Nat) (d : α) (h : i < l.length) : l.take (i + 1) = l.take i ++ [l.getD i d] := by
  rw [List.take_succ_eq_append_getElem h, List.getD_eq_getElem?_getD, List.getElem?_eq_getElem h]
  rfl
theorem take_all {α : Type} {l m : List α} {n : Nat} (h : l.take n = m) (hl : l.length = n) : l = m := by
  rw [← h, ← hl, List.take_length]
theorem wf_u8 {x : Int} (h : (Lit.int .u8 x).wf = true) : 0 ≤ x ∧ x ≤ 255 := by
  simp [Lit.wf, IntKind.min, IntKind.max, IntKind.signed, IntKind.bits] at h
  omega
theorem wf_i64 {x : Int} (h : (Lit.int .i64 x).wf = true) : -9223372036854775808 ≤ x ∧ x ≤ 9223372036854775807 := by
  simp [Lit.wf, IntKind.min, IntKind.max, IntKind.signed, IntKind.bits] at h
  omega

theorem fill_loop {β : Type} (L : Nat → List β → Int → Option (List β)) (n : Nat) (g : Nat → β) (z : β)
    (hs : ∀ (i : Nat) (out : List β) (r : List β), i < n → out.length = n → Ev (fun k => L k (out.set i (g i)) ((i + 1 : Nat) : Int)) r → Ev (fun k => L k out (i : Int)) r)
    (he : ∀ out : List β, out.length = n → Ev (fun k => L k out (n : Int)) out) : Ev (fun k => L k (List.replicate n z) 0) ((List.range n).map g) := by
  have key : ∀ (d i : Nat) (out : List β), i + d = n → out.length = n → out.take i = (List.range i).map g → Ev (fun k => L k out (i : Int)) ((List.range n).map g) := by
    intro d
    induction d with
    | zero =>
      intro i out hi hl ht
      have : i = n := by omega
      subst this
      have e := take_all ht hl
      rw [← e]
      exact he out hl
    | succ d ih =>
      intro i out hi hl ht
      refine hs i out _ (by omega) hl (ih (i + 1) _ (by omega) (by simp [hl]) ?_)
      rw [take_set_succ _ _ _ (by omega), ht, List.range_succ, List.map_append]
      rfl
  exact key n 0 _ (by omega) (by simp) (by simp)
/-- A row that is written from the left: element i becomes g i, and a state goes along. -/
theorem mark_loop {β σ : Type} (L : Nat → List β → σ → Int → Option (σ × List β)) (n : Nat) (g : Nat → β) (st : Nat → σ)
    (hs : ∀ (i : Nat) (out : List β) (r : σ × List β), i < n → out.length = n → Ev (fun k => L k (out.set i (g i)) (st (i + 1)) ((i + 1 : Nat) : Int)) r → Ev (fun k => L k out (st i) (i : Int)) r)
    (he : ∀ out : List β, out.length = n → Ev (fun k => L k out (st n) (n : Int)) (st n, out)) (l : List β) (hl : l.length = n) : Ev (fun k => L k l (st 0) 0) (st n, (List.range n).map g) := by
  have key : ∀ (d i : Nat) (out : List β), i + d = n → out.length = n → out.take i = (List.range i).map g → Ev (fun k => L k out (st i) (i : Int)) (st n, (List.range n).map g) := by
    intro d
    induction d with
    | zero =>
      intro i out hi hl ht
      have : i = n := by omega
      subst this
      have e := take_all ht hl
      rw [← e]
      exact he out hl
    | succ d ih =>
      intro i out hi hl ht
      refine hs i out _ (by omega) hl (ih (i + 1) _ (by omega) (by simp [hl]) ?_)
      rw [take_set_succ _ _ _ (by omega), ht, List.range_succ, List.map_append]
      rfl
  exact key n 0 _ (by omega) hl (by simp)
theorem scan_loop {ρ : Type} (g : Nat → Nat → Option ρ) (n : Nat) (r : ρ) (hs : ∀ i, i < n → Ev (g (i + 1)) r → Ev (g i) r) (he : Ev (g n) r) : Ev (g 0) r := by
  have key : ∀ (d i : Nat), i + d = n → Ev (g i) r := by
    intro d
    induction d with
    | zero => intro i hi; have : i = n := by omega
              subst this; exact he
    | succ d ih => intro i hi; exact hs i (by omega) (ih (i + 1) (by omega))
  exact key n 0 (by omega)
theorem range_map_get {α β : Type} (l : List α) (f : α → β) (d : α) : (List.range l.length).map (fun i => f (l.getD i d)) = l.map f := by
  apply List.ext_getElem?
  intro i
  rw [List.getElem?_map, List.getElem?_map]
  by_cases h : i < l.length
  · simp [h, List.getD_eq_getElem?_getD]
  · rw [List.getElem?_eq_none (by simp; omega), List.getElem?_eq_none (by omega)]
    rfl
theorem range_map_getD {β : Type} (n i : Nat) (g : Nat → β) (d : β) (h : i < n) : ((List.range n).map g).getD i d = g i := by
  simp [List.getD_eq_getElem?_getD, h]
theorem Ev.bind' {α β : Type} {g : Nat → Option α} {f : Nat → α → Option β} {a : α} {r : β} (h : Ev g a) (k : Ev (fun n => f n a) r) : Ev (fun n => (g n).bind (f n)) r := Ev.bind h k
theorem Ev.cond {α : Type} {g f : Nat → Option α} {r : α} (h : ∃ K, ∀ k, K ≤ k → g k = f k) (k : Ev f r) : Ev g r := by
  obtain ⟨K, h⟩ := h
  obtain ⟨K', k⟩ := k
  exact ⟨K + K', fun n hn => by rw [h n (by omega)]; exact k n (by omega)⟩
/-- One round: at n + 1 it is what it is at n of another. -/
theorem Ev.round {α : Type} {g f : Nat → Option α} {r : α} (h : ∃ K, ∀ k, K ≤ k → g (k + 1) = f k) (k : Ev f r) : Ev g r := by
  obtain ⟨K, h⟩ := h
  obtain ⟨K', k⟩ := k
  exact ⟨K + K' + 1, fun n hn => by
    obtain ⟨m, rfl⟩ : ∃ m, n = m + 1 := ⟨n - 1, by omega⟩
    rw [h m (by omega)]; exact k m (by omega)⟩
theorem Ev.ends {α : Type} {g : Nat → Option α} {r : α} (h : ∀ k, g (k + 1) = some r) : Ev g r := ⟨1, fun n hn => by
  obtain ⟨m, rfl⟩ : ∃ m, n = m + 1 := ⟨n - 1, by omega⟩
  exact h m⟩
theorem Ev.all {α : Type} {g : Nat → Option α} {r : α} (h : ∀ k, g k = some r) : Ev g r := ⟨0, fun n _ => h n⟩

def toNode (x : S130) : S107 := (⟨(⟨x.f0.f0, x.f0.f1, x.f0.f2⟩ : S52), x.f1⟩ : S107)
theorem toNodeS_ev (l : List S130) (h : l.length ≤ 1048576) : Ev (fun k => laws_toNodeS.f k l) (l.map toNode) := by
  have hf := fill_loop (fun k out i => laws_toNodeS.l0 k l out i) l.length (fun i => toNode (l.getD i z130)) z107 (fun i out r hi hl h => ?_) (fun out hl => ?_)
  · rw [range_map_get] at hf
    refine Ev.congr (fun k => ?_) hf
    simp only [laws_toNodeS.f]
    rw [if_pos (by omega), if_pos (by omega)]
    rfl
  · refine Ev.step (fun k => ?_) h
    simp only [laws_toNodeS.l0, laws_toNode.f, laws_toPair.f, Option.bind_some, rd_T130, Int.toNat_natCast]
    rw [if_pos (by omega), if_pos (by omega), if_pos (by omega), wrap_succ (n := l.length) hi (by omega)]
    rfl
  · refine Ev.ends (fun k => ?_)
    simp only [laws_toNodeS.l0]
    rw [if_neg (by omega)]

/-- Both come to one answer, of which P holds. -/
def Both {α : Type} (P : α → Prop) (f g : Nat → Option α) : Prop := ∃ r, P r ∧ Ev f r ∧ Ev g r
namespace Both
variable {α β : Type} {P : α → Prop} {f f' g g' : Nat → Option α}
theorem step (h1 : ∀ k, f (k + 1) = f' k) (h2 : ∀ k, g (k + 1) = g' k) (h : Both P f' g') : Both P f g := by
  obtain ⟨r, hp, a, b⟩ := h
  exact ⟨r, hp, Ev.step h1 a, Ev.step h2 b⟩
theorem left (h1 : ∀ k, f (k + 1) = f' k) (h : Both P f' g) : Both P f g := by
  obtain ⟨r, hp, a, b⟩ := h
  exact ⟨r, hp, Ev.step h1 a, b⟩
theorem right (h2 : ∀ k, g (k + 1) = g' k) (h : Both P f g') : Both P f g := by
  obtain ⟨r, hp, a, b⟩ := h
  exact ⟨r, hp, a, Ev.step h2 b⟩
theorem ret (r : α) (h : P r) : Both P (fun _ => some r) (fun _ => some r) := ⟨r, h, Ev.now r, Ev.now r⟩
theorem ite {c : Prop} [Decidable c] (h1 : c → Both P f g) (h2 : ¬ c → Both P f' g') : Both P (fun k => if c then f k else f' k) (fun k => if c then g k else g' k) := by
  by_cases h : c
  · simpa only [if_pos h] using h1 h
  · simpa only [if_neg h] using h2 h
theorem bind {Q : β → Prop} {p q : Nat → Option β} {F G : Nat → β → Option α} (h : Both Q p q) (k : ∀ b, Q b → Both P (fun n => F n b) (fun n => G n b)) : Both P (fun n => (p n).bind (F n)) (fun n => (q n).bind (G n)) := by
  obtain ⟨b, hq, h1, h2⟩ := h
  obtain ⟨r, hp, a, c⟩ := k b hq
  exact ⟨r, hp, Ev.bind h1 a, Ev.bind h2 c⟩
theorem of {r : α} (h1 : Ev f r) (h2 : Ev g r) (hp : P r) : Both P f g := ⟨r, hp, h1, h2⟩
theorem mono {P' : α → Prop} (h : Both P f g) (hi : ∀ r, P r → P' r) : Both P' f g := by
  obtain ⟨r, hp, a, b⟩ := h
  exact ⟨r, hi r hp, a, b⟩
end Both
/-- It comes to an answer, of which P holds. -/
def Comes {α : Type} (P : α → Prop) (f : Nat → Option α) : Prop := ∃ r, P r ∧ Ev f r
namespace Comes
variable {α β : Type} {P : α → Prop} {f f' : Nat → Option α}
theorem step (h1 : ∀ k, f (k + 1) = f' k) (h : Comes P f') : Comes P f := by
  obtain ⟨r, hp, a⟩ := h
  exact ⟨r, hp, Ev.step h1 a⟩
theorem ret (r : α) (h : P r) : Comes P (fun _ => some r) := ⟨r, h, Ev.now r⟩
theorem ite {c : Prop} [Decidable c] (h1 : c → Comes P f) (h2 : ¬ c → Comes P f') : Comes P (fun k => if c then f k else f' k) := by
  by_cases h : c
  · simpa only [if_pos h] using h1 h
  · simpa only [if_neg h] using h2 h
theorem bind {Q : β → Prop} {p : Nat → Option β} {F : Nat → β → Option α} (h : Comes Q p) (k : ∀ b, Q b → Comes P (fun n => F n b)) : Comes P (fun n => (p n).bind (F n)) := by
  obtain ⟨b, hq, h1⟩ := h
  obtain ⟨r, hp, a⟩ := k b hq
  exact ⟨r, hp, Ev.bind h1 a⟩
theorem mono {P' : α → Prop} (h : Comes P f) (hi : ∀ r, P r → P' r) : Comes P' f := by
  obtain ⟨r, hp, a⟩ := h
  exact ⟨r, hi r hp, a⟩
theorem rounds (h : Comes P f) : ∃ k r, f k = some r ∧ P r := by
  obtain ⟨r, hp, a⟩ := h
  obtain ⟨k, hk⟩ := a.rounds
  exact ⟨k, r, hk, hp⟩
theorem true_ {f : Nat → Option Bool} (h : Comes (fun b => b = true) f) : ∃ k, f k = some true := by
  obtain ⟨k, r, hk, rfl⟩ := h.rounds
  exact ⟨k, hk⟩
theorem some_ (o : Option α) (r : α) (h : o = some r) (hp : P r) : Comes P (fun _ => o) := ⟨r, hp, Ev.all (fun _ => h)⟩
end Comes

theorem sz_loop {α : Type} (l : List α) (z : α) (B : α → Prop) (F : Nat → Int → Int → Option Int) (g : Nat → Int → Nat → Option Int) (hl : l.length ≤ 9223372036854775806)
    (hF : ∀ (k : Nat) (a : Int) (i : Nat), i < l.length → 0 ≤ a → a ≤ 1048576 → F (k + 1) a (i : Int) = (g i a k).bind fun t => if t < 0 then some (-1) else F k t ((i + 1 : Nat) : Int))
    (hg : ∀ (i : Nat) (a : Int), i < l.length → 0 ≤ a → a ≤ 1048576 → Comes (fun t => t ≤ a ∧ (0 ≤ t → B (l.getD i z))) (g i a))
    (he : ∀ (k : Nat) (a : Int), F (k + 1) a (l.length : Int) = some a) (a : Int) (ha : 0 ≤ a) (hb : a ≤ 1048576) : Comes (fun t => t ≤ a ∧ (0 ≤ t → ∀ x ∈ l, B x)) (fun k => F k a 0) := by
  have key : ∀ (d i : Nat) (a : Int), i + d = l.length → 0 ≤ a → a ≤ 1048576 → Comes (fun t => t ≤ a ∧ (0 ≤ t → ∀ j, i ≤ j → j < l.length → B (l.getD j z))) (fun k => F k a (i : Int)) := by
    intro d
    induction d with
    | zero =>
      intro i a hi ha hb
      have : i = l.length := by omega
      subst this
      refine Comes.step (fun k => he k a) (Comes.ret a ⟨Int.le_refl a, fun _ j h1 h2 => by omega⟩)
    | succ d ih =>
      intro i a hi ha hb
      refine Comes.step (fun k => hF k a i (by omega) ha hb) (Comes.bind (hg i a (by omega) ha hb) (fun t ht => Comes.ite (fun _ => Comes.ret (-1) ⟨by omega, fun h => by omega⟩) (fun hn => ?_)))
      refine (ih (i + 1) t (by omega) (by omega) (by omega)).mono (fun r hr => ⟨by omega, fun h0 j h1 h2 => ?_⟩)
      by_cases hj : j = i
      · subst hj
        exact ht.2 (by omega)
      · exact hr.2 h0 j (by omega) h2
  refine (key l.length 0 a (by omega) ha hb).mono (fun r hr => ⟨hr.1, fun h0 x hx => ?_⟩)
  obtain ⟨j, hj, rfl⟩ := List.mem_iff_getElem.1 hx
  have := hr.2 h0 j (by omega) hj
  rwa [List.getD_eq_getElem?_getD, List.getElem?_eq_getElem hj] at this
theorem getD_mem {α : Type} {l : List α} {i : Nat} {z : α} (h : i < l.length) : l.getD i z ∈ l := by
  rw [List.getD_eq_getElem?_getD, List.getElem?_eq_getElem h]
  exact List.getElem_mem h

theorem szNode_comes (x : S130) (hx : x.f0.f0.size ≤ maxLen ∧ x.f0.f1.size ≤ maxLen) (a : Int) (ha : 0 ≤ a) (hb : a ≤ 1048576) : ∃ t, laws_szNode.f x.f0.f0 x.f0.f1 x.f0.f2 x.f1 a = some t ∧ t ≤ a ∧ (0 ≤ t → (x.f0.f0.size : Int) + (x.f0.f1.size : Int) ≤ a - t) := by
  unfold maxLen at hx
  simp only [laws_szNode.f, laws_szPair.f, Option.bind_some, wrap64]
  (repeat' split) <;> first | exact ⟨_, rfl, by omega, by omega⟩ | (simp only [Option.bind_some]; (repeat' split) <;> exact ⟨_, rfl, by omega, by omega⟩)
theorem szNodeS_comes (l : List S130) (hx : l.length ≤ maxLen ∧ ∀ x ∈ l, (x.f0.f0.size ≤ maxLen ∧ x.f0.f1.size ≤ maxLen)) (a : Int) (ha : 0 ≤ a) (hb : a ≤ 1048576) : Comes (fun t => t ≤ a ∧ (0 ≤ t → (l.length : Int) ≤ a - t)) (fun k => laws_szNodeS.f k l a) := by
  have hl := hx.1
  unfold maxLen at hl
  have hw : wrap64 (a - (l.length : Int)) = a - (l.length : Int) := wrap_id (by omega) (by omega)
  simp only [laws_szNodeS.f, hw]
  refine Comes.ite (fun _ => Comes.ret (-1) ⟨by omega, fun h => by omega⟩) (fun hn => ?_)
  refine (sz_loop l z130 (fun _ => True) (fun k a i => laws_szNodeS.l0 k l a i) (fun i a _ => laws_szNode.f (l.getD i z130).f0.f0 (l.getD i z130).f0.f1 (l.getD i z130).f0.f2 (l.getD i z130).f1 a) (by omega) (fun k a i hi _ _ => ?_) (fun i a hi ha hb => ?_) (fun k a => ?_) _ (by omega) (by omega)).mono (fun t ht => ⟨by omega, fun h => by omega⟩)
  · simp only [laws_szNodeS.l0, rd_T130, Int.toNat_natCast]
    rw [if_pos (by omega), if_pos (by omega), wrap_succ (n := l.length) hi (by omega)]
  · obtain ⟨t, h1, h2, h3⟩ := szNode_comes (l.getD i z130) (hx.2 _ (getD_mem hi)) a ha hb
    exact Comes.some_ _ t h1 ⟨h2, fun _ => trivial⟩
  · simp only [laws_szNodeS.l0]
    rw [if_neg (by omega)]

theorem eqNode_self (x : S107) : laws_eqNode.f x.f0.f0 x.f0.f1 x.f0.f2 x.f1 x.f0.f0 x.f0.f1 x.f0.f2 x.f1 = some true := by
  simp [laws_eqNode.f, laws_eqPair.f]
theorem eqNodeS_ev (l : List S107) (h : l.length ≤ 9223372036854775806) : Ev (fun k => laws_eqNodeS.f k l l) true := by
  refine Ev.congr (fun k => ?_) (scan_loop (fun i k => laws_eqNodeS.l0 k l l (i : Int)) l.length true (fun i hi h => ?_) ?_)
  · simp only [laws_eqNodeS.f]
    rw [if_pos trivial]
    rfl
  · refine Ev.step (fun k => ?_) h
    simp only [laws_eqNodeS.l0, eqNode_self, Option.bind_some]
    rw [if_pos (by omega), if_pos (by omega), if_pos (by omega), wrap_succ (n := l.length) hi (by omega)]
    rfl
  · refine Ev.ends (fun k => ?_)
    simp only [laws_eqNodeS.l0]
    rw [if_neg (by omega)]

theorem szMem_comes (l : List S130) (hx : l.length ≤ maxLen ∧ ∀ x ∈ l, W130 x) (a : Int) (ha : 0 ≤ a) (hb : a ≤ 1048576) : Comes (fun t => t ≤ a ∧ (0 ≤ t → (l.length : Int) ≤ a - t)) (fun k => laws_szMem.f k l a) := by
  simp only [laws_szMem.f]
  exact Comes.bind (szNodeS_comes l ⟨hx.1, fun y hy => ⟨(hx.2 y hy).1.1, (hx.2 y hy).1.2.1⟩⟩ a ha hb) (fun t ht => Comes.ite (fun _ => Comes.ret _ ⟨by omega, fun h => by omega⟩) (fun hn => Comes.ret t ht))
theorem toMem_ev (l : List S130) (h : l.length ≤ 1048576) : Ev (fun k => laws_toMem.f k l) (l.map toNode) := by
  obtain ⟨K, h⟩ := toNodeS_ev l h
  dsimp only at h
  exact ⟨K, fun k hk => by simp only [laws_toMem.f]; rw [h k hk, Option.bind_some]⟩
theorem eqMem_ev (l : List S107) (h : l.length ≤ 9223372036854775806) : Ev (fun k => laws_eqMem.f k l l) true := by
  obtain ⟨K, h⟩ := eqNodeS_ev l h
  dsimp only at h
  exact ⟨K, fun k hk => by simp only [laws_eqMem.f]; rw [h k hk, Option.bind_some, if_pos rfl]⟩

theorem memGet_both (xs : List S107) (hn : xs.length ≤ 1048576) (s : ByteArray) : Both (fun _ => True) (fun k => spec_MemGet.f k xs s) (fun k => impl_MemGet.f k xs s) := by
  have key : ∀ (d i : Nat), i + d = xs.length → Both (fun _ => True) (fun k => spec_MemGet.l0 k s (i : Int) xs) (fun k => impl_MemGet.l0 k s xs (xs.length : Int) (i : Int)) := by
    intro d
    induction d with
    | zero =>
      intro i hi
      refine Both.step (fun k => spec_MemGet.l0.eq_2 ..) (fun k => impl_MemGet.l0.eq_2 ..) ?_
      have e1 : ((i : Int) < (xs.length : Int)) = False := eq_false (by omega)
      simp only [e1, if_false]
      exact Both.ret _ trivial
    | succ d ih =>
      intro i hi
      refine Both.step (fun k => spec_MemGet.l0.eq_2 ..) (fun k => impl_MemGet.l0.eq_2 ..) ?_
      have e1 : ((i : Int) < (xs.length : Int)) = True := eq_true (by omega)
      have e2 : (0 ≤ (i : Int)) = True := eq_true (by omega)
      have ew : wrap64 ((i : Int) + 1) = ((i + 1 : Nat) : Int) := wrap_succ (n := xs.length) (by omega) (by omega)
      simp only [e1, e2, if_true, ew]
      exact Both.ite (fun _ => Both.ret _ trivial) (fun _ => ih (i + 1) (by omega))
  exact key xs.length 0 (by omega)

theorem eqPair_self (x : S52) : laws_eqPair.f x.f0 x.f1 x.f2 x.f0 x.f1 x.f2 = some true := by
  simp [laws_eqPair.f]
theorem FnExactMemGet : laws_FnExactMemGet.Pure := by
  intro x s hx hs
  by_cases hb1 : (s.size : Int) > 1048576
  · exact ⟨0, by simp only [laws_FnExactMemGet.f]; rw [if_pos hb1]⟩
  refine Comes.true_ ?_
  simp only [laws_FnExactMemGet.f, if_neg hb1]
  refine Comes.bind (szMem_comes x.f0 hx 1048576 (by omega) (by omega)) (fun t ht => Comes.ite (fun _ => Comes.ret true rfl) (fun hn => ?_))
  have hlen : x.f0.length ≤ 1048576 := by omega
  obtain ⟨r, _, h2, h3⟩ := memGet_both (x.f0.map toNode) (by simp; omega) s
  obtain ⟨K1, h1⟩ := toMem_ev x.f0 hlen
  obtain ⟨K2, h2⟩ := h2
  obtain ⟨K3, h3⟩ := h3
  obtain ⟨K4, h4⟩ := eqMem_ev (x.f0.map toNode) (by simp; omega)
  dsimp only at h1 h2 h3 h4
  refine ⟨true, rfl, K1 + K2 + K3 + K4 + 1, fun k hk => ?_⟩
  obtain ⟨m, rfl⟩ : ∃ m, k = m + 1 := ⟨k - 1, by omega⟩
  have he := eqPair_self (⟨r.1, r.2.1, r.2.2.1⟩ : S52)
  dsimp only at he ⊢
  rw [h1 _ (by omega), Option.bind_some, h2 _ (by omega), Option.bind_some, Option.bind_some, h3 _ (by omega), Option.bind_some, he, Option.bind_some, if_pos rfl]
  simp only [laws_FnExactMemGet.j0, bne_self_eq_false]
  rw [if_neg (by simp), h1 _ (by omega), Option.bind_some, h4 _ (by omega), Option.bind_some, if_pos rfl]

end Go.Proofs.Ytgncojbnejdplaa.MPureFnExactMemGet
