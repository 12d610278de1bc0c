/- MemPut of the program and of the reference answer the same, for all tables in memory, pairs and heights; what it answers is new memory. No condition. -/
import Derived.Test.YtbepbgfkajnlbaaMFnExactMemPutDef
set_option linter.unusedVariables false
set_option linter.unusedSimpArgs false
namespace Go.Proofs.Ytbepbgfkajnlbaa.MPureFnExactMemPut
open Go.RowKit Go.Proofs.Ytbepbgfkajnlbaa.MFnExactMemPut Go.Proofs.YtbepbgfkajnlbaaW.PrintWords Go.Proofs.YtbepbgfkajnlbaaW.PrintLast Go.Proofs.YtbepbgfkajnlbaaW.PrintMore

theorem wrap_id {i : Int} (h0 : -9223372036854775808 ≤ i) (h1 : i ≤ 9223372036854775807) : wrap64 i = i := by unfold wrap64; omega
theorem wrap_succ {i n : Nat} (h : i < n) (hn : n ≤ 9223372036854775807) : wrap64 ((i : Int) + 1) = ((i + 1 : Nat) : Int) := by unfold wrap64; omega
theorem rd_nat (xs : List Int) (i : Nat) : rd xs (i : Int) = xs.getD i 0 := by simp [rd]
theorem take_set_succ {α : Type} (l : List α) (i : Nat) (x : α) (h : i < l.length) : (l.set i x).take (i + 1) = l.take i ++ [x] := by
  rw [List.take_succ_eq_append_getElem (by simpa using h), List.getElem_set_self, List.take_set_of_le (Nat.le_refl _)]
theorem take_succ_getD {α : Type} (l : List α) (i : Nat) (d : α) (h : i < l.length) : l.take (i + 1) = l.take i ++ [l.getD i d] := by
  rw [List.take_succ_eq_append_getElem h, List.getD_eq_getElem?_getD, List.getElem?_eq_getElem h]
  rfl
theorem take_all {α : Type} {l m : List α} {n : Nat} (h : l.take n = m) (hl : l.length = n) : l = m := by
  rw [← h, ← hl, List.take_length]
theorem wf_u8 {x : Int} (h : (Lit.int .u8 x).wf = true) : 0 ≤ x ∧ x ≤ 255 := by
  simp [Lit.wf, IntKind.min, IntKind.max, IntKind.signed, IntKind.bits] at h
  omega
theorem wf_i64 {x : Int} (h : (Lit.int .i64 x).wf = true) : -9223372036854775808 ≤ x ∧ x ≤ 9223372036854775807 := by
  simp [Lit.wf, IntKind.min, IntKind.max, IntKind.signed, IntKind.bits] at h
  omega

theorem fill_loop {β : Type} (L : Nat → List β → Int → Option (List β)) (n : Nat) (g : Nat → β) (z : β)
    (hs : ∀ (i : Nat) (out : List β) (r : List β), i < n → out.length = n → Ev (fun k => L k (out.set i (g i)) ((i + 1 : Nat) : Int)) r → Ev (fun k => L k out (i : Int)) r)
    (he : ∀ out : List β, out.length = n → Ev (fun k => L k out (n : Int)) out) : Ev (fun k => L k (List.replicate n z) 0) ((List.range n).map g) := by
  have key : ∀ (d i : Nat) (out : List β), i + d = n → out.length = n → out.take i = (List.range i).map g → Ev (fun k => L k out (i : Int)) ((List.range n).map g) := by
    intro d
    induction d with
    | zero =>
      intro i out hi hl ht
      have : i = n := by omega
      subst this
      have e := take_all ht hl
      rw [← e]
      exact he out hl
    | succ d ih =>
      intro i out hi hl ht
      refine hs i out _ (by omega) hl (ih (i + 1) _ (by omega) (by simp [hl]) ?_)
      rw [take_set_succ _ _ _ (by omega), ht, List.range_succ, List.map_append]
      rfl
  exact key n 0 _ (by omega) (by simp) (by simp)
/-- A row that is written from the left: element i becomes g i, and a state goes along. -/
theorem mark_loop {β σ : Type} (L : Nat → List β → σ → Int → Option (σ × List β)) (n : Nat) (g : Nat → β) (st : Nat → σ)
    (hs : ∀ (i : Nat) (out : List β) (r : σ × List β), i < n → out.length = n → Ev (fun k => L k (out.set i (g i)) (st (i + 1)) ((i + 1 : Nat) : Int)) r → Ev (fun k => L k out (st i) (i : Int)) r)
    (he : ∀ out : List β, out.length = n → Ev (fun k => L k out (st n) (n : Int)) (st n, out)) (l : List β) (hl : l.length = n) : Ev (fun k => L k l (st 0) 0) (st n, (List.range n).map g) := by
  have key : ∀ (d i : Nat) (out : List β), i + d = n → out.length = n → out.take i = (List.range i).map g → Ev (fun k => L k out (st i) (i : Int)) (st n, (List.range n).map g) := by
    intro d
    induction d with
    | zero =>
      intro i out hi hl ht
      have : i = n := by omega
      subst this
      have e := take_all ht hl
      rw [← e]
      exact he out hl
    | succ d ih =>
      intro i out hi hl ht
      refine hs i out _ (by omega) hl (ih (i + 1) _ (by omega) (by simp [hl]) ?_)
      rw [take_set_succ _ _ _ (by omega), ht, List.range_succ, List.map_append]
      rfl
  exact key n 0 _ (by omega) hl (by simp)
theorem scan_loop {ρ : Type} (g : Nat → Nat → Option ρ) (n : Nat) (r : ρ) (hs : ∀ i, i < n → Ev (g (i + 1)) r → Ev (g i) r) (he : Ev (g n) r) : Ev (g 0) r := by
  have key : ∀ (d i : Nat), i + d = n → Ev (g i) r := by
    intro d
    induction d with
    | zero => intro i hi; have : i = n := by omega
              subst this; exact he
    | succ d ih => intro i hi; exact hs i (by omega) (ih (i + 1) (by omega))
  exact key n 0 (by omega)
theorem range_map_get {α β : Type} (l : List α) (f : α → β) (d : α) : (List.range l.length).map (fun i => f (l.getD i d)) = l.map f := by
  apply List.ext_getElem?
  intro i
  rw [List.getElem?_map, List.getElem?_map]
  by_cases h : i < l.length
  · simp [h, List.getD_eq_getElem?_getD]
  · rw [List.getElem?_eq_none (by simp; omega), List.getElem?_eq_none (by omega)]
    rfl
theorem range_map_getD {β : Type} (n i : Nat) (g : Nat → β) (d : β) (h : i < n) : ((List.range n).map g).getD i d = g i := by
  simp [List.getD_eq_getElem?_getD, h]
theorem Ev.bind' {α β : Type} {g : Nat → Option α} {f : Nat → α → Option β} {a : α} {r : β} (h : Ev g a) (k : Ev (fun n => f n a) r) : Ev (fun n => (g n).bind (f n)) r := Ev.bind h k
theorem Ev.cond {α : Type} {g f : Nat → Option α} {r : α} (h : ∃ K, ∀ k, K ≤ k → g k = f k) (k : Ev f r) : Ev g r := by
  obtain ⟨K, h⟩ := h
  obtain ⟨K', k⟩ := k
  exact ⟨K + K', fun n hn => by rw [h n (by omega)]; exact k n (by omega)⟩
/-- One round: at n + 1 it is what it is at n of another. -/
theorem Ev.round {α : Type} {g f : Nat → Option α} {r : α} (h : ∃ K, ∀ k, K ≤ k → g (k + 1) = f k) (k : Ev f r) : Ev g r := by
  obtain ⟨K, h⟩ := h
  obtain ⟨K', k⟩ := k
  exact ⟨K + K' + 1, fun n hn => by
    obtain ⟨m, rfl⟩ : ∃ m, n = m + 1 := ⟨n - 1, by omega⟩
    rw [h m (by omega)]; exact k m (by omega)⟩
theorem Ev.ends {α : Type} {g : Nat → Option α} {r : α} (h : ∀ k, g (k + 1) = some r) : Ev g r := ⟨1, fun n hn => by
  obtain ⟨m, rfl⟩ : ∃ m, n = m + 1 := ⟨n - 1, by omega⟩
  exact h m⟩
theorem Ev.all {α : Type} {g : Nat → Option α} {r : α} (h : ∀ k, g k = some r) : Ev g r := ⟨0, fun n _ => h n⟩

/-- Both come to one answer, of which P holds. -/
def Both {α : Type} (P : α → Prop) (f g : Nat → Option α) : Prop := ∃ r, P r ∧ Ev f r ∧ Ev g r
namespace Both
variable {α β : Type} {P : α → Prop} {f f' g g' : Nat → Option α}
theorem step (h1 : ∀ k, f (k + 1) = f' k) (h2 : ∀ k, g (k + 1) = g' k) (h : Both P f' g') : Both P f g := by
  obtain ⟨r, hp, a, b⟩ := h
  exact ⟨r, hp, Ev.step h1 a, Ev.step h2 b⟩
theorem left (h1 : ∀ k, f (k + 1) = f' k) (h : Both P f' g) : Both P f g := by
  obtain ⟨r, hp, a, b⟩ := h
  exact ⟨r, hp, Ev.step h1 a, b⟩
theorem right (h2 : ∀ k, g (k + 1) = g' k) (h : Both P f g') : Both P f g := by
  obtain ⟨r, hp, a, b⟩ := h
  exact ⟨r, hp, a, Ev.step h2 b⟩
theorem ret (r : α) (h : P r) : Both P (fun _ => some r) (fun _ => some r) := ⟨r, h, Ev.now r, Ev.now r⟩
theorem ite {c : Prop} [Decidable c] (h1 : c → Both P f g) (h2 : ¬ c → Both P f' g') : Both P (fun k => if c then f k else f' k) (fun k => if c then g k else g' k) := by
  by_cases h : c
  · simpa only [if_pos h] using h1 h
  · simpa only [if_neg h] using h2 h
theorem bind {Q : β → Prop} {p q : Nat → Option β} {F G : Nat → β → Option α} (h : Both Q p q) (k : ∀ b, Q b → Both P (fun n => F n b) (fun n => G n b)) : Both P (fun n => (p n).bind (F n)) (fun n => (q n).bind (G n)) := by
  obtain ⟨b, hq, h1, h2⟩ := h
  obtain ⟨r, hp, a, c⟩ := k b hq
  exact ⟨r, hp, Ev.bind h1 a, Ev.bind h2 c⟩
theorem of {r : α} (h1 : Ev f r) (h2 : Ev g r) (hp : P r) : Both P f g := ⟨r, hp, h1, h2⟩
theorem eq {r : α} (h1 : Ev f r) (h2 : Ev g r) : Both (fun x => x = r) f g := ⟨r, rfl, h1, h2⟩
theorem any {Q : α → Prop} (h : Both Q f g) : Both (fun _ => True) f g := by
  obtain ⟨r, _, a, b⟩ := h
  exact ⟨r, trivial, a, b⟩
theorem mono {P' : α → Prop} (h : Both P f g) (hi : ∀ r, P r → P' r) : Both P' f g := by
  obtain ⟨r, hp, a, b⟩ := h
  exact ⟨r, hi r hp, a, b⟩
end Both
/-- It comes to an answer, of which P holds. -/
def Comes {α : Type} (P : α → Prop) (f : Nat → Option α) : Prop := ∃ r, P r ∧ Ev f r
namespace Comes
variable {α β : Type} {P : α → Prop} {f f' : Nat → Option α}
theorem step (h1 : ∀ k, f (k + 1) = f' k) (h : Comes P f') : Comes P f := by
  obtain ⟨r, hp, a⟩ := h
  exact ⟨r, hp, Ev.step h1 a⟩
theorem ret (r : α) (h : P r) : Comes P (fun _ => some r) := ⟨r, h, Ev.now r⟩
theorem ite {c : Prop} [Decidable c] (h1 : c → Comes P f) (h2 : ¬ c → Comes P f') : Comes P (fun k => if c then f k else f' k) := by
  by_cases h : c
  · simpa only [if_pos h] using h1 h
  · simpa only [if_neg h] using h2 h
theorem bind {Q : β → Prop} {p : Nat → Option β} {F : Nat → β → Option α} (h : Comes Q p) (k : ∀ b, Q b → Comes P (fun n => F n b)) : Comes P (fun n => (p n).bind (F n)) := by
  obtain ⟨b, hq, h1⟩ := h
  obtain ⟨r, hp, a⟩ := k b hq
  exact ⟨r, hp, Ev.bind h1 a⟩
theorem mono {P' : α → Prop} (h : Comes P f) (hi : ∀ r, P r → P' r) : Comes P' f := by
  obtain ⟨r, hp, a⟩ := h
  exact ⟨r, hi r hp, a⟩
theorem rounds (h : Comes P f) : ∃ k r, f k = some r ∧ P r := by
  obtain ⟨r, hp, a⟩ := h
  obtain ⟨k, hk⟩ := a.rounds
  exact ⟨k, r, hk, hp⟩
theorem true_ {f : Nat → Option Bool} (h : Comes (fun b => b = true) f) : ∃ k, f k = some true := by
  obtain ⟨k, r, hk, rfl⟩ := h.rounds
  exact ⟨k, hk⟩
theorem some_ (o : Option α) (r : α) (h : o = some r) (hp : P r) : Comes P (fun _ => o) := ⟨r, hp, Ev.all (fun _ => h)⟩
end Comes

theorem sz_loop {α : Type} (l : List α) (z : α) (B : α → Prop) (F : Nat → Int → Int → Option Int) (g : Nat → Int → Nat → Option Int) (hl : l.length ≤ 9223372036854775806)
    (hF : ∀ (k : Nat) (a : Int) (i : Nat), i < l.length → 0 ≤ a → a ≤ 1048576 → F (k + 1) a (i : Int) = (g i a k).bind fun t => if t < 0 then some (-1) else F k t ((i + 1 : Nat) : Int))
    (hg : ∀ (i : Nat) (a : Int), i < l.length → 0 ≤ a → a ≤ 1048576 → Comes (fun t => t ≤ a ∧ (0 ≤ t → B (l.getD i z))) (g i a))
    (he : ∀ (k : Nat) (a : Int), F (k + 1) a (l.length : Int) = some a) (a : Int) (ha : 0 ≤ a) (hb : a ≤ 1048576) : Comes (fun t => t ≤ a ∧ (0 ≤ t → ∀ x ∈ l, B x)) (fun k => F k a 0) := by
  have key : ∀ (d i : Nat) (a : Int), i + d = l.length → 0 ≤ a → a ≤ 1048576 → Comes (fun t => t ≤ a ∧ (0 ≤ t → ∀ j, i ≤ j → j < l.length → B (l.getD j z))) (fun k => F k a (i : Int)) := by
    intro d
    induction d with
    | zero =>
      intro i a hi ha hb
      have : i = l.length := by omega
      subst this
      refine Comes.step (fun k => he k a) (Comes.ret a ⟨Int.le_refl a, fun _ j h1 h2 => by omega⟩)
    | succ d ih =>
      intro i a hi ha hb
      refine Comes.step (fun k => hF k a i (by omega) ha hb) (Comes.bind (hg i a (by omega) ha hb) (fun t ht => Comes.ite (fun _ => Comes.ret (-1) ⟨by omega, fun h => by omega⟩) (fun hn => ?_)))
      refine (ih (i + 1) t (by omega) (by omega) (by omega)).mono (fun r hr => ⟨by omega, fun h0 j h1 h2 => ?_⟩)
      by_cases hj : j = i
      · subst hj
        exact ht.2 (by omega)
      · exact hr.2 h0 j (by omega) h2
  refine (key l.length 0 a (by omega) ha hb).mono (fun r hr => ⟨hr.1, fun h0 x hx => ?_⟩)
  obtain ⟨j, hj, rfl⟩ := List.mem_iff_getElem.1 hx
  have := hr.2 h0 j (by omega) hj
  rwa [List.getD_eq_getElem?_getD, List.getElem?_eq_getElem hj] at this
theorem getD_mem {α : Type} {l : List α} {i : Nat} {z : α} (h : i < l.length) : l.getD i z ∈ l := by
  rw [List.getD_eq_getElem?_getD, List.getElem?_eq_getElem h]
  exact List.getElem_mem h

theorem szPair_comes (x : S84) (hx : x.f0.size ≤ maxLen ∧ x.f1.size ≤ maxLen) (a : Int) (ha : 0 ≤ a) (hb : a ≤ 1048576) : ∃ t, laws_szPair.f x.f0 x.f1 x.f2 a = some t ∧ t ≤ a ∧ (0 ≤ t → (x.f0.size : Int) + (x.f1.size : Int) ≤ a - t) := by
  unfold maxLen at hx
  simp only [laws_szPair.f, Option.bind_some, wrap64]
  (repeat' split) <;> first | exact ⟨_, rfl, by omega, by omega⟩ | (simp only [Option.bind_some]; (repeat' split) <;> exact ⟨_, rfl, by omega, by omega⟩)

def toNode (x : S191) : S35 := (⟨(⟨x.f0.f0, x.f0.f1, x.f0.f2⟩ : S33), x.f1⟩ : S35)
theorem toNodeS_ev (l : List S191) (h : l.length ≤ 1048576) : Ev (fun k => laws_toNodeS.f k l) (l.map toNode) := by
  have hf := fill_loop (fun k out i => laws_toNodeS.l0 k l out i) l.length (fun i => toNode (l.getD i z191)) z35 (fun i out r hi hl h => ?_) (fun out hl => ?_)
  · rw [range_map_get] at hf
    refine Ev.congr (fun k => ?_) hf
    simp only [laws_toNodeS.f]
    rw [if_pos (by omega), if_pos (by omega)]
    rfl
  · refine Ev.step (fun k => ?_) h
    simp only [laws_toNodeS.l0, laws_toNode.f, laws_toPair.f, Option.bind_some, rd_T191, Int.toNat_natCast]
    rw [if_pos (by omega), if_pos (by omega), if_pos (by omega), wrap_succ (n := l.length) hi (by omega)]
    rfl
  · refine Ev.ends (fun k => ?_)
    simp only [laws_toNodeS.l0]
    rw [if_neg (by omega)]

theorem szNode_comes (x : S191) (hx : x.f0.f0.size ≤ maxLen ∧ x.f0.f1.size ≤ maxLen) (a : Int) (ha : 0 ≤ a) (hb : a ≤ 1048576) : ∃ t, laws_szNode.f x.f0.f0 x.f0.f1 x.f0.f2 x.f1 a = some t ∧ t ≤ a ∧ (0 ≤ t → (x.f0.f0.size : Int) + (x.f0.f1.size : Int) ≤ a - t) := by
  unfold maxLen at hx
  simp only [laws_szNode.f, laws_szPair.f, Option.bind_some, wrap64]
  (repeat' split) <;> first | exact ⟨_, rfl, by omega, by omega⟩ | (simp only [Option.bind_some]; (repeat' split) <;> exact ⟨_, rfl, by omega, by omega⟩)

theorem szNodeS_comes (l : List S191) (hx : l.length ≤ maxLen ∧ ∀ x ∈ l, (x.f0.f0.size ≤ maxLen ∧ x.f0.f1.size ≤ maxLen)) (a : Int) (ha : 0 ≤ a) (hb : a ≤ 1048576) : Comes (fun t => t ≤ a ∧ (0 ≤ t → (l.length : Int) ≤ a - t)) (fun k => laws_szNodeS.f k l a) := by
  have hl := hx.1
  unfold maxLen at hl
  have hw : wrap64 (a - (l.length : Int)) = a - (l.length : Int) := wrap_id (by omega) (by omega)
  simp only [laws_szNodeS.f, hw]
  refine Comes.ite (fun _ => Comes.ret (-1) ⟨by omega, fun h => by omega⟩) (fun hn => ?_)
  refine (sz_loop l z191 (fun _ => True) (fun k a i => laws_szNodeS.l0 k l a i) (fun i a _ => laws_szNode.f (l.getD i z191).f0.f0 (l.getD i z191).f0.f1 (l.getD i z191).f0.f2 (l.getD i z191).f1 a) (by omega) (fun k a i hi _ _ => ?_) (fun i a hi ha hb => ?_) (fun k a => ?_) _ (by omega) (by omega)).mono (fun t ht => ⟨by omega, fun h => by omega⟩)
  · simp only [laws_szNodeS.l0, rd_T191, Int.toNat_natCast]
    rw [if_pos (by omega), if_pos (by omega), wrap_succ (n := l.length) hi (by omega)]
  · obtain ⟨t, h1, h2, h3⟩ := szNode_comes (l.getD i z191) (hx.2 _ (getD_mem hi)) a ha hb
    exact Comes.some_ _ t h1 ⟨h2, fun _ => trivial⟩
  · simp only [laws_szNodeS.l0]
    rw [if_neg (by omega)]

theorem eqNode_self (x : S35) : laws_eqNode.f x.f0.f0 x.f0.f1 x.f0.f2 x.f1 x.f0.f0 x.f0.f1 x.f0.f2 x.f1 = some true := by
  simp [laws_eqNode.f, laws_eqPair.f]
theorem eqNodeS_ev (l : List S35) (h : l.length ≤ 9223372036854775806) : Ev (fun k => laws_eqNodeS.f k l l) true := by
  refine Ev.congr (fun k => ?_) (scan_loop (fun i k => laws_eqNodeS.l0 k l l (i : Int)) l.length true (fun i hi h => ?_) ?_)
  · simp only [laws_eqNodeS.f]
    rw [if_pos trivial]
    rfl
  · refine Ev.step (fun k => ?_) h
    simp only [laws_eqNodeS.l0, eqNode_self, Option.bind_some]
    rw [if_pos (by omega), if_pos (by omega), if_pos (by omega), wrap_succ (n := l.length) hi (by omega)]
    rfl
  · refine Ev.ends (fun k => ?_)
    simp only [laws_eqNodeS.l0]
    rw [if_neg (by omega)]

theorem szMem_comes (l : List S191) (hx : l.length ≤ maxLen ∧ ∀ x ∈ l, W191 x) (a : Int) (ha : 0 ≤ a) (hb : a ≤ 1048576) : Comes (fun t => t ≤ a ∧ (0 ≤ t → (l.length : Int) ≤ a - t)) (fun k => laws_szMem.f k l a) := by
  simp only [laws_szMem.f]
  exact Comes.bind (szNodeS_comes l ⟨hx.1, fun y hy => ⟨(hx.2 y hy).1.1, (hx.2 y hy).1.2.1⟩⟩ a ha hb) (fun t ht => Comes.ite (fun _ => Comes.ret _ ⟨by omega, fun h => by omega⟩) (fun hn => Comes.ret t ht))
theorem toMem_ev (l : List S191) (h : l.length ≤ 1048576) : Ev (fun k => laws_toMem.f k l) (l.map toNode) := by
  obtain ⟨K, h⟩ := toNodeS_ev l h
  dsimp only at h
  exact ⟨K, fun k hk => by simp only [laws_toMem.f]; rw [h k hk, Option.bind_some]⟩
theorem eqMem_ev (l : List S35) (h : l.length ≤ 9223372036854775806) : Ev (fun k => laws_eqMem.f k l l) true := by
  obtain ⟨K, h⟩ := eqNodeS_ev l h
  dsimp only at h
  exact ⟨K, fun k hk => by simp only [laws_eqMem.f]; rw [h k hk, Option.bind_some, if_pos rfl]⟩

def mtR : Nat → Int → ByteArray → ByteArray
  | 0, _, s => s
  | d + 1, k, s => if k > 0 then mtR d (k / 10) (strOfNums [(48 + k % 10) % 256] ++ s) else s
/-- The text 'm' and the digits of k. -/
def mtext (k : Int) : ByteArray := if k ≤ 0 then ⟨#[109, 48]⟩ else ⟨#[109]⟩ ++ mtR 20 k ⟨#[]⟩
theorem markText_l0 : ∀ (d : Nat) (k : Int) (s : ByteArray), k < 10 ^ d → k ≤ 9223372036854775807 → s.size + d ≤ 9223372036854775806 → Ev (fun q => laws_markText.l0 q k s) (⟨#[109]⟩ ++ mtR d k s) := by
  intro d
  induction d with
  | zero =>
    intro k s hk hk2 hs
    refine Ev.ends (fun q => ?_)
    simp only [laws_markText.l0]
    rw [if_neg (by omega), if_pos (by omega)]
    rfl
  | succ d ih =>
    intro k s hk hk2 hs
    by_cases h0 : k > 0
    · have hp : (10 : Int) ^ (d + 1) = 10 ^ d * 10 := Int.pow_succ ..
      have hsz : (strOfNums [(48 + k % 10) % 256] ++ s).size = 1 + s.size := by rw [ByteArray.size_append]; rfl
      have hm : Int.tmod k 10 = k % 10 := Int.tmod_eq_emod_of_nonneg (by omega)
      have hd : Int.tdiv k 10 = k / 10 := Int.tdiv_eq_ediv_of_nonneg (by omega)
      have := ih (k / 10) (strOfNums [(48 + k % 10) % 256] ++ s) (by omega) (by omega) (by omega)
      unfold mtR
      rw [if_pos h0]
      refine Ev.step (fun q => ?_) this
      simp only [laws_markText.l0, Option.bind_some]
      rw [if_pos h0, hm, hd, wrap_id (i := 48 + k % 10) (by omega) (by omega), wrap_id (i := k / 10) (by omega) (by omega), if_pos (by rw [← ByteArray.size_append, hsz]; omega)]
    · unfold mtR
      rw [if_neg h0]
      refine Ev.ends (fun q => ?_)
      simp only [laws_markText.l0]
      rw [if_neg h0, if_pos (by omega)]
theorem markText_ev (k : Int) (h : k ≤ 9223372036854775807) : Ev (fun q => laws_markText.f q k) (mtext k) := by
  unfold mtext
  by_cases h0 : k ≤ 0
  · rw [if_pos h0]
    exact Ev.all (fun q => by simp only [laws_markText.f]; rw [if_pos h0])
  · rw [if_neg h0]
    refine Ev.congr (fun q => ?_) (markText_l0 20 k ⟨#[]⟩ (by omega) h (show (0 : Nat) + 20 ≤ 9223372036854775806 by omega))
    simp only [laws_markText.f]
    rw [if_neg h0]

theorem getD_set_eq {α : Type} {l : List α} {i : Nat} (x z : α) (h : i < l.length) : (l.set i x).getD i z = x := by
  rw [List.getD_eq_getElem?_getD, List.getElem?_set_self h]
  rfl

def mkNode (k : Int) : S35 := (⟨(⟨mtext (k), mtext (k + 1), (Int.tmod (k + 2) 3 == 0)⟩ : S33), (k + 3)⟩ : S35)
def mkNodeL (a : Int) (n : Nat) : List S35 := (List.range n).map fun (i : Nat) => mkNode (a + 4 * (i : Int))
theorem mkNodeL_length (a : Int) (n : Nat) : (mkNodeL a n).length = n := by simp [mkNodeL]
theorem markNodeS_ev (l : List S35) (a : Int) (ha : 0 ≤ a) (hb : a + 4 * (l.length : Int) ≤ 4611686018427387904) : Ev (fun k => laws_markNodeS.f k l a) (a + 4 * (l.length : Int), mkNodeL a l.length) := by
  have hm := mark_loop (fun k out s i => laws_markNodeS.l0 k out s i) l.length (fun i => mkNode (a + 4 * (i : Int))) (fun i => a + 4 * (i : Int)) (fun i out r hi hl h => ?_) (fun out hl => ?_) l rfl
  · refine Ev.congr (fun k => ?_) hm
    simp only [laws_markNodeS.f]
    congr 1
    simp
  · (try dsimp only at h ⊢)
    obtain ⟨K0, h0⟩ := markText_ev (a + 4 * (i : Int)) (by omega)
    obtain ⟨K1, h1⟩ := markText_ev (a + 4 * (i : Int) + 1) (by omega)
    refine Ev.round ⟨0 + K0 + K1, fun k hk => ?_⟩ h
    have t0 := h0 k (by omega)
    have t1 := h1 k (by omega)
    dsimp only at t0 t1
    have e1 : ((i : Int) < (out.length : Int)) = True := eq_true (by omega)
    have e2 : (0 ≤ (i : Int)) = True := eq_true (by omega)
    have ew : wrap64 ((i : Int) + 1) = ((i + 1 : Nat) : Int) := wrap_succ (n := l.length) hi (by omega)
    have w1 : wrap64 (a + 4 * (i : Int) + 1) = a + 4 * (i : Int) + 1 := wrap_id (by omega) (by omega)
    have w2 : wrap64 (a + 4 * (i : Int) + 2) = a + 4 * (i : Int) + 2 := wrap_id (by omega) (by omega)
    have w3 : wrap64 (a + 4 * (i : Int) + 3) = a + 4 * (i : Int) + 3 := wrap_id (by omega) (by omega)
    have w4 : wrap64 (a + 4 * (i : Int) + 4) = a + 4 * (i : Int) + 4 := wrap_id (by omega) (by omega)
    have ad2 : a + 4 * (i : Int) + 1 + 1 = a + 4 * (i : Int) + 2 := by omega
    have ad3 : a + 4 * (i : Int) + 2 + 1 = a + 4 * (i : Int) + 3 := by omega
    have ad4 : a + 4 * (i : Int) + 3 + 1 = a + 4 * (i : Int) + 4 := by omega
    have ae : a + 4 * (i : Int) + 4 = a + 4 * ((i + 1 : Nat) : Int) := by omega
    simp only [laws_markNodeS.l0, e1, e2, if_true, t0, t1, Option.bind_some, w1, w2, ad2, w3, ad3, w4, ad4, ew, rd_T35, Int.toNat_natCast, List.set_set, getD_set_eq _ _ (show i < out.length by omega)]
    (rw [ae]) <;> rfl
  · refine Ev.ends (fun k => ?_)
    simp only [laws_markNodeS.l0]
    rw [if_neg (by omega)]

theorem heldNodeS_ev (a : Int) (n : Nat) (ha : 0 ≤ a) (hb : a + 4 * (n : Int) ≤ 4611686018427387904) : Ev (fun k => laws_heldNodeS.f k (mkNodeL a n) a) (a + 4 * (n : Int)) := by
  refine Ev.congr (fun k => ?_) (scan_loop (fun i k => laws_heldNodeS.l0 k (mkNodeL a n) (a + 4 * (i : Int)) (i : Int)) n (a + 4 * (n : Int)) (fun i hi h => ?_) ?_)
  · simp only [laws_heldNodeS.f]
    congr 1
    simp
  · (try dsimp only at h ⊢)
    obtain ⟨K0, h0⟩ := markText_ev (a + 4 * (i : Int)) (by omega)
    obtain ⟨K1, h1⟩ := markText_ev (a + 4 * (i : Int) + 1) (by omega)
    refine Ev.round ⟨0 + K0 + K1, fun k hk => ?_⟩ h
    have t0 := h0 k (by omega)
    have t1 := h1 k (by omega)
    dsimp only at t0 t1
    have e1 : ((i : Int) < (n : Int)) = True := eq_true (by omega)
    have e2 : (0 ≤ (i : Int)) = True := eq_true (by omega)
    have ew : wrap64 ((i : Int) + 1) = ((i + 1 : Nat) : Int) := wrap_succ (n := n) hi (by omega)
    have eg : (mkNodeL a n).getD i z35 = mkNode (a + 4 * (i : Int)) := range_map_getD n i _ _ hi
    have w1 : wrap64 (a + 4 * (i : Int) + 1) = a + 4 * (i : Int) + 1 := wrap_id (by omega) (by omega)
    have w2 : wrap64 (a + 4 * (i : Int) + 2) = a + 4 * (i : Int) + 2 := wrap_id (by omega) (by omega)
    have w3 : wrap64 (a + 4 * (i : Int) + 3) = a + 4 * (i : Int) + 3 := wrap_id (by omega) (by omega)
    have w4 : wrap64 (a + 4 * (i : Int) + 4) = a + 4 * (i : Int) + 4 := wrap_id (by omega) (by omega)
    have ad2 : a + 4 * (i : Int) + 1 + 1 = a + 4 * (i : Int) + 2 := by omega
    have ad3 : a + 4 * (i : Int) + 2 + 1 = a + 4 * (i : Int) + 3 := by omega
    have ad4 : a + 4 * (i : Int) + 3 + 1 = a + 4 * (i : Int) + 4 := by omega
    have ae : a + 4 * (i : Int) + 4 = a + 4 * ((i + 1 : Nat) : Int) := by omega
    simp only [laws_heldNodeS.l0, mkNodeL_length, e1, e2, if_true, t0, t1, Option.bind_some, w1, w2, ad2, w3, ad3, w4, ad4, ew, rd_T35, Int.toNat_natCast, eg, mkNode, bne_self_eq_false, Bool.false_eq_true, if_false]
    first | ((rw [ae]) <;> rfl) | (simp only [beq_self_eq_true, bne_self_eq_false, Bool.false_eq_true, if_false, if_true, ae])
  · refine Ev.ends (fun k => ?_)
    simp only [laws_heldNodeS.l0, mkNodeL_length]
    rw [if_neg (by omega)]

theorem markMem_ev (l : List S35) (a : Int) (ha : 0 ≤ a) (hb : a + 4 * (l.length : Int) ≤ 4611686018427387904) : Ev (fun k => laws_markMem.f k l a) (a + 4 * (l.length : Int), mkNodeL a l.length) := by
  obtain ⟨K, h⟩ := markNodeS_ev l a ha hb
  dsimp only at h
  exact ⟨K, fun k hk => by simp only [laws_markMem.f]; rw [h k hk, Option.bind_some]⟩
theorem heldMem_ev (a : Int) (n : Nat) (ha : 0 ≤ a) (hb : a + 4 * (n : Int) ≤ 4611686018427387904) : Ev (fun k => laws_heldMem.f k (mkNodeL a n) a) (a + 4 * (n : Int)) := by
  obtain ⟨K, h⟩ := heldNodeS_ev a n ha hb
  dsimp only at h
  exact ⟨K, fun k hk => by simp only [laws_heldMem.f]; rw [h k hk, Option.bind_some, if_neg (by omega)]⟩

theorem l1In_eq (a b c : Int) : spec_l1In.f a b c = some (decide (b ≤ a) && decide (a ≤ c)) := by
  unfold spec_l1In.f
  by_cases h : a ≥ b
  · rw [if_pos h, decide_eq_true (show b ≤ a from h), Bool.true_and]
  · rw [if_neg h, decide_eq_false (show ¬ b ≤ a from h), Bool.false_and]

theorem in_eq (a b c : Int) : impl_in.f a b c = some (decide (b ≤ a) && decide (a ≤ c)) := by
  unfold impl_in.f
  by_cases h : a ≥ b
  · rw [if_pos h, decide_eq_true (show b ≤ a from h), Bool.true_and]
  · rw [if_neg h, decide_eq_false (show ¬ b ≤ a from h), Bool.false_and]

theorem ite_and (a b : Bool) : (if a = true then some b else some false) = some (a && b) := by cases a <;> rfl
theorem ite_some {c : Prop} [Decidable c] (a b : Bool) : (if c then some a else some b) = some (if c then a else b) := by split <;> rfl
theorem neq_self (b : Bool) : (if (b != b) = true then (some false : Option Bool) else some true) = some true := by cases b <;> rfl

theorem pairOk_eq (a b : ByteArray) (c : Bool) : impl_PairOk.f a b c = spec_PairOk.f a b c := by
  simp only [impl_PairOk.f, spec_PairOk.f, impl_keyOk.f, in_eq, l1In_eq, Option.bind_some]
theorem pairOk_some (a b : ByteArray) (c : Bool) : ∃ r, spec_PairOk.f a b c = some r := by
  simp only [spec_PairOk.f, l1In_eq, Option.bind_some]
  (repeat' split) <;> exact ⟨_, rfl⟩

theorem memOkb_both (xs : List S35) (hn : xs.length ≤ 1048576) : Both (fun r => r = true → xs.length ≤ 60) (fun k => spec_MemOk.f k xs) (fun k => impl_MemOk.f k xs) := by
  have key : ∀ (d i : Nat), i + d = xs.length → Both (fun r => r = true → xs.length ≤ 60) (fun k => spec_MemOk.l0 k (i : Int) xs) (fun k => impl_MemOk.l0 k xs (xs.length : Int) (i : Int) xs) := by
    intro d
    induction d with
    | zero =>
      intro i hi
      refine Both.step (fun k => spec_MemOk.l0.eq_2 ..) (fun k => impl_MemOk.l0.eq_2 ..) ?_
      have e1 : ((i : Int) < (xs.length : Int)) = False := eq_false (by omega)
      simp only [e1, if_false]
      exact Both.ret _ (fun h => by have h := of_decide_eq_true h; omega)
    | succ d ih =>
      intro i hi
      refine Both.step (fun k => spec_MemOk.l0.eq_2 ..) (fun k => impl_MemOk.l0.eq_2 ..) ?_
      have e1 : ((i : Int) < (xs.length : Int)) = True := eq_true (by omega)
      have e2 : (0 ≤ (i : Int)) = True := eq_true (by omega)
      simp only [e1, e2, if_true, pairOk_eq, in_eq, l1In_eq, Option.bind_some]
      obtain ⟨b, hb⟩ := pairOk_some (rd_T35 xs (i : Int)).f0.f0 (rd_T35 xs (i : Int)).f0.f1 (rd_T35 xs (i : Int)).f0.f2
      have ew : wrap64 ((i : Int) + 1) = ((i + 1 : Nat) : Int) := wrap_succ (n := xs.length) (by omega) (by omega)
      simp only [hb, Option.bind_some, ew]
      refine Both.ite (fun _ => Both.ite (fun _ => Both.ite (fun hp => ?_) (fun _ => ih (i + 1) (by omega))) (fun _ => Both.ret _ (fun h => by simp at h))) (fun _ => Both.ret _ (fun h => by simp at h))
      have ew2 : wrap64 ((i : Int) - 1) = (i : Int) - 1 := wrap_id (by omega) (by omega)
      have e3 : (0 ≤ (i : Int) - 1) = True := eq_true (by omega)
      have e4 : ((i : Int) - 1 < (xs.length : Int)) = True := eq_true (by omega)
      simp only [ew2, e3, e4, if_true]
      exact Both.ite (fun _ => ih (i + 1) (by omega)) (fun _ => Both.ret _ (fun h => by simp at h))
  exact key xs.length 0 (by omega)

theorem memPut_both (xs : List S35) (hn : xs.length ≤ 1048576) (p v : ByteArray) (g : Bool) (h : Int) : Both (fun r => r.1.length ≤ xs.length + 1) (fun k => spec_MemPut.f k xs p v g h) (fun k => impl_MemPut.f k xs p v g h) := by
  have j3 : xs.length ≤ 60 → ∀ (i : Nat) (b : Bool), i ≤ xs.length → (b = true → i < xs.length) → Both (fun r => r.1.length ≤ xs.length + 1) (fun k => spec_MemPut.j3 k h (i : Int) b p v g xs) (fun k => impl_MemPut.j3 k h (i : Int) b xs p v g xs) := by
    intro h60 i b hi hb
    refine Both.step (fun k => spec_MemPut.j3.eq_2 ..) (fun k => impl_MemPut.j3.eq_2 ..) ?_
    have e2 : (0 ≤ (i : Int)) = True := eq_true (by omega)
    have e3 : ((i : Int) ≤ (xs.length : Int)) = True := eq_true (by omega)
    refine Both.ite (fun hbt => ?_) (fun hbf => ?_)
    · have e1 : ((i : Int) < (xs.length : Int)) = True := eq_true (by have := hb hbt; omega)
      simp only [e1, e2, if_true]
      exact Both.ret _ (by simp only [List.length_set]; omega)
    · by_cases hc : (xs.length : Int) = 60
      · have q1 : ((xs.length : Int) ≥ 60) = True := eq_true (by omega)
        have q2 : ((xs.length : Int) = 60) = True := eq_true hc
        simp only [q1, q2, if_true]
        exact Both.ret _ (by dsimp only; omega)
      · have q1 : ((xs.length : Int) ≥ 60) = False := eq_false (by omega)
        have q2 : ((xs.length : Int) = 60) = False := eq_false hc
        have l1 : (xs.take i).length = i := by rw [List.length_take]; omega
        have l2 : (xs.drop i).length = xs.length - i := List.length_drop
        simp only [q1, q2, e2, e3, if_true, if_false, Option.bind_some, Int.toNat_natCast, List.nil_append, List.length_nil, List.length_append, List.length_cons, l1, l2]
        have z1 : (0 + i < 2932031007402) = True := eq_true (by omega)
        have z2 : (i < 2932031007402) = True := eq_true (by omega)
        have z3 : (i + (0 + 1) < 2932031007402) = True := eq_true (by omega)
        have z4 : (i + (0 + 1) + (xs.length - i) < 2932031007402) = True := eq_true (by omega)
        have z5 : (0 + i + (0 + 1) + (xs.length - i) < 2932031007402) = True := eq_true (by omega)
        have z6 : (0 + i + (0 + 1) < 2932031007402) = True := eq_true (by omega)
        simp only [z1, z2, z3, z4, z5, z6, if_true]
        refine Both.ret _ ?_
        dsimp only
        rw [List.length_append, List.length_append, l1, l2]
        simp only [List.length_cons, List.length_nil]
        omega
  have l0 : xs.length ≤ 60 → ∀ (d i : Nat), i + d = xs.length → Both (fun r => r.1.length ≤ xs.length + 1) (fun k => spec_MemPut.l0 k h (i : Int) p v g xs) (fun k => impl_MemPut.l0 k h (i : Int) xs p v g xs) := by
    intro h60 d
    have j2 : ∀ i : Nat, i ≤ xs.length → Both (fun r => r.1.length ≤ xs.length + 1) (fun k => spec_MemPut.j2 k h (i : Int) p v g xs) (fun k => impl_MemPut.j2 k h (i : Int) xs p v g xs) := by
      intro i hi
      refine Both.step (fun k => spec_MemPut.j2.eq_2 ..) (fun k => impl_MemPut.j2.eq_2 ..) ?_
      have e2 : (0 ≤ (i : Int)) = True := eq_true (by omega)
      refine Both.ite (fun hlt => ?_) (fun hge => j3 h60 i false hi (by simp))
      simp only [e2, if_true]
      exact j3 h60 i _ hi (fun _ => by omega)
    induction d with
    | zero =>
      intro i hi
      refine Both.step (fun k => spec_MemPut.l0.eq_2 ..) (fun k => impl_MemPut.l0.eq_2 ..) ?_
      have e1 : ((i : Int) < (xs.length : Int)) = False := eq_false (by omega)
      simp only [e1, if_false]
      exact j2 i (by omega)
    | succ d ih =>
      intro i hi
      refine Both.step (fun k => spec_MemPut.l0.eq_2 ..) (fun k => impl_MemPut.l0.eq_2 ..) ?_
      have e1 : ((i : Int) < (xs.length : Int)) = True := eq_true (by omega)
      have e2 : (0 ≤ (i : Int)) = True := eq_true (by omega)
      have ew : wrap64 ((i : Int) + 1) = ((i + 1 : Nat) : Int) := wrap_succ (n := xs.length) (by omega) (by omega)
      simp only [e1, e2, if_true, ew]
      exact Both.ite (fun _ => ih (i + 1) (by omega)) (fun _ => j2 i (by omega))
  have out : Both (fun r => r.1.length ≤ xs.length + 1) (fun k => spec_MemPut.j0 k h true p v g xs) (fun k => impl_MemPut.j0 k h true xs p v g xs) := by
    refine Both.step (fun k => spec_MemPut.j0.eq_2 ..) (fun k => impl_MemPut.j0.eq_2 ..) ?_
    simp only [if_true]
    exact Both.ret _ (by dsimp only; omega)
  have c1 : (([] : List S35).length + xs.length < 2932031007402) = True := eq_true (by simp only [List.length_nil]; omega)
  simp only [spec_MemPut.f, impl_MemPut.f, impl_copyMem.f, Option.bind_some, c1, if_true, List.nil_append, in_eq, l1In_eq, pairOk_eq]
  refine Both.bind (memOkb_both xs hn) (fun b hb => ?_)
  refine Both.ite (fun hbt => ?_) (fun _ => out)
  obtain ⟨q, hq⟩ := pairOk_some p v g
  simp only [hq, Option.bind_some]
  refine Both.ite (fun _ => ?_) (fun _ => out)
  refine Both.step (fun k => spec_MemPut.j0.eq_2 ..) (fun k => impl_MemPut.j0.eq_2 ..) ?_
  exact Both.ite (fun _ => Both.ret _ (by simp)) (fun _ => l0 (hb hbt) xs.length 0 (by omega))

theorem FnExactMemPut : laws_FnExactMemPut.Pure := by
  intro x p h hx hp hh
  refine Comes.true_ ?_
  simp only [laws_FnExactMemPut.f]
  refine Comes.bind (szMem_comes x.f0 hx 1048576 (by omega) (by omega)) (fun t ht => Comes.ite (fun _ => Comes.ret true rfl) (fun hn => ?_))
  have hlen : x.f0.length ≤ 1048576 := by omega
  obtain ⟨s, hs, _, _⟩ := szPair_comes p ⟨hp.1, hp.2.1⟩ t (by omega) (by omega)
  simp only [hs, Option.bind_some]
  refine Comes.ite (fun _ => Comes.ret true rfl) (fun hn2 => ?_)
  have hml : (x.f0.map toNode).length = x.f0.length := by simp
  obtain ⟨r, hr, h2, h3⟩ := memPut_both (x.f0.map toNode) (by omega) p.f0 p.f1 p.f2 h
  rw [hml] at hr
  obtain ⟨K1, h1⟩ := toMem_ev x.f0 hlen
  obtain ⟨K2, h2⟩ := h2
  obtain ⟨K3, h3⟩ := h3
  obtain ⟨K4, h4⟩ := eqMem_ev (x.f0.map toNode) (by omega)
  obtain ⟨K5, h5⟩ := eqMem_ev r.1 (by omega)
  obtain ⟨K6, h6⟩ := markMem_ev (x.f0.map toNode) 1 (by omega) (by omega)
  obtain ⟨K7, h7⟩ := markMem_ev r.1 1 (by omega) (by omega)
  obtain ⟨K8, h8⟩ := heldMem_ev 1 r.1.length (by omega) (by omega)
  dsimp only at h1 h2 h3 h4 h5 h6 h7 h8
  refine ⟨true, rfl, K1 + K2 + K3 + K4 + K5 + K6 + K7 + K8 + 3, fun k hk => ?_⟩
  obtain ⟨m, rfl⟩ : ∃ m, k = m + 3 := ⟨k - 3, by omega⟩
  dsimp only
  have nb : (r.2 != r.2) = false := bne_self_eq_false ..
  rw [h1 _ (by omega), Option.bind_some]
  simp only [laws_toPair.f, Option.bind_some]
  rw [h2 _ (by omega), Option.bind_some, h3 _ (by omega), Option.bind_some, h5 _ (by omega), Option.bind_some, if_pos rfl, nb]
  simp only [laws_FnExactMemPut.j0]
  rw [if_neg (by simp), h1 _ (by omega), Option.bind_some, h4 _ (by omega), Option.bind_some, if_pos rfl, h6 _ (by omega), Option.bind_some, if_neg (by simp only []; omega), h5 _ (by omega), Option.bind_some, if_pos rfl, nb]
  simp only [laws_FnExactMemPut.j1]
  rw [if_neg (by simp), h7 _ (by omega), Option.bind_some, h8 _ (by omega), Option.bind_some, if_neg (by omega), if_pos rfl, h1 _ (by omega), Option.bind_some]
  simp only [laws_toPair.f, Option.bind_some]
  rw [h3 _ (by omega), Option.bind_some, h5 _ (by omega), Option.bind_some, if_pos rfl, nb]
  simp only [laws_FnExactMemPut.j2]
  rw [if_neg (by simp), h8 _ (by omega), Option.bind_some, if_neg (by omega), if_pos rfl]

end Go.Proofs.Ytbepbgfkajnlbaa.MPureFnExactMemPut
