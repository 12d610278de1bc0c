/- Leaps of the program and of the reference answer the same, for all tables in memory and keys; what it answers is new memory. No condition. -/
import Derived.Test.YtbepbgfkajnlbaaMFnExactLeapsDef
set_option linter.unusedVariables false
set_option linter.unusedSimpArgs false
namespace Go.Proofs.Ytbepbgfkajnlbaa.MPureFnExactLeaps
open Go.RowKit Go.Proofs.Ytbepbgfkajnlbaa.MFnExactLeaps Go.Proofs.YtbepbgfkajnlbaaW.PrintWords Go.Proofs.YtbepbgfkajnlbaaW.PrintLast Go.Proofs.YtbepbgfkajnlbaaW.PrintMore

theorem wrap_id {i : Int} (h0 : -9223372036854775808 ≤ i) (h1 : i ≤ 9223372036854775807) : wrap64 i = i := by unfold wrap64; omega
theorem wrap_succ {i n : Nat} (h : i < n) (hn : n ≤ 9223372036854775807) : wrap64 ((i : Int) + 1) = ((i + 1 : Nat) : Int) := by unfold wrap64; omega
theorem rd_nat (xs : List Int) (i : Nat) : rd xs (i : Int) = xs.getD i 0 := by simp [rd]
theorem take_set_succ {α : Type} (l : List α) (i : Nat) (x : α) (h : i < l.length) : (l.set i x).take (i + 1) = l.take i ++ [x] := by
  rw [List.take_succ_eq_append_getElem (by simpa using h), List.getElem_set_self, List.take_set_of_le (Nat.le_refl _)]
theorem take_succ_getD {α : Type} (l : List α) (i : Nat) (d : α) (h : i < l.length) : l.take (i + 1) = l.take i ++ [l.getD i d] := by
  rw [List.take_succ_eq_append_getElem h, List.getD_eq_getElem?_getD, List.getElem?_eq_getElem h]
  rfl
theorem take_all {α : Type} {l m : List α} {n : Nat} (h : l.take n = m) (hl : l.length = n) : l = m := by
  rw [← h, ← hl, List.take_length]
theorem wf_u8 {x : Int} (h : (Lit.int .u8 x).wf = true) : 0 ≤ x ∧ x ≤ 255 := by
  simp [Lit.wf, IntKind.min, IntKind.max, IntKind.signed, IntKind.bits] at h
  omega
theorem wf_i64 {x : Int} (h : (Lit.int .i64 x).wf = true) : -9223372036854775808 ≤ x ∧ x ≤ 9223372036854775807 := by
  simp [Lit.wf, IntKind.min, IntKind.max, IntKind.signed, IntKind.bits] at h
  omega

theorem fill_loop {β : Type} (L : Nat → List β → Int → Option (List β)) (n : Nat) (g : Nat → β) (z : β)
    (hs : ∀ (i : Nat) (out : List β) (r : List β), i < n → out.length = n → Ev (fun k => L k (out.set i (g i)) ((i + 1 : Nat) : Int)) r → Ev (fun k => L k out (i : Int)) r)
    (he : ∀ out : List β, out.length = n → Ev (fun k => L k out (n : Int)) out) : Ev (fun k => L k (List.replicate n z) 0) ((List.range n).map g) := by
  have key : ∀ (d i : Nat) (out : List β), i + d = n → out.length = n → out.take i = (List.range i).map g → Ev (fun k => L k out (i : Int)) ((List.range n).map g) := by
    intro d
    induction d with
    | zero =>
      intro i out hi hl ht
      have : i = n := by omega
      subst this
      have e := take_all ht hl
      rw [← e]
      exact he out hl
    | succ d ih =>
      intro i out hi hl ht
      refine hs i out _ (by omega) hl (ih (i + 1) _ (by omega) (by simp [hl]) ?_)
      rw [take_set_succ _ _ _ (by omega), ht, List.range_succ, List.map_append]
      rfl
  exact key n 0 _ (by omega) (by simp) (by simp)
/-- A row that is written from the left: element i becomes g i, and a state goes along. -/
theorem mark_loop {β σ : Type} (L : Nat → List β → σ → Int → Option (σ × List β)) (n : Nat) (g : Nat → β) (st : Nat → σ)
    (hs : ∀ (i : Nat) (out : List β) (r : σ × List β), i < n → out.length = n → Ev (fun k => L k (out.set i (g i)) (st (i + 1)) ((i + 1 : Nat) : Int)) r → Ev (fun k => L k out (st i) (i : Int)) r)
    (he : ∀ out : List β, out.length = n → Ev (fun k => L k out (st n) (n : Int)) (st n, out)) (l : List β) (hl : l.length = n) : Ev (fun k => L k l (st 0) 0) (st n, (List.range n).map g) := by
  have key : ∀ (d i : Nat) (out : List β), i + d = n → out.length = n → out.take i = (List.range i).map g → Ev (fun k => L k out (st i) (i : Int)) (st n, (List.range n).map g) := by
    intro d
    induction d with
    | zero =>
      intro i out hi hl ht
      have : i = n := by omega
      subst this
      have e := take_all ht hl
      rw [← e]
      exact he out hl
    | succ d ih =>
      intro i out hi hl ht
      refine hs i out _ (by omega) hl (ih (i + 1) _ (by omega) (by simp [hl]) ?_)
      rw [take_set_succ _ _ _ (by omega), ht, List.range_succ, List.map_append]
      rfl
  exact key n 0 _ (by omega) hl (by simp)
theorem scan_loop {ρ : Type} (g : Nat → Nat → Option ρ) (n : Nat) (r : ρ) (hs : ∀ i, i < n → Ev (g (i + 1)) r → Ev (g i) r) (he : Ev (g n) r) : Ev (g 0) r := by
  have key : ∀ (d i : Nat), i + d = n → Ev (g i) r := by
    intro d
    induction d with
    | zero => intro i hi; have : i = n := by omega
              subst this; exact he
    | succ d ih => intro i hi; exact hs i (by omega) (ih (i + 1) (by omega))
  exact key n 0 (by omega)
theorem range_map_get {α β : Type} (l : List α) (f : α → β) (d : α) : (List.range l.length).map (fun i => f (l.getD i d)) = l.map f := by
  apply List.ext_getElem?
  intro i
  rw [List.getElem?_map, List.getElem?_map]
  by_cases h : i < l.length
  · simp [h, List.getD_eq_getElem?_getD]
  · rw [List.getElem?_eq_none (by simp; omega), List.getElem?_eq_none (by omega)]
    rfl
theorem range_map_getD {β : Type} (n i : Nat) (g : Nat → β) (d : β) (h : i < n) : ((List.range n).map g).getD i d = g i := by
  simp [List.getD_eq_getElem?_getD, h]
theorem Ev.bind' {α β : Type} {g : Nat → Option α} {f : Nat → α → Option β} {a : α} {r : β} (h : Ev g a) (k : Ev (fun n => f n a) r) : Ev (fun n => (g n).bind (f n)) r := Ev.bind h k
theorem Ev.cond {α : Type} {g f : Nat → Option α} {r : α} (h : ∃ K, ∀ k, K ≤ k → g k = f k) (k : Ev f r) : Ev g r := by
  obtain ⟨K, h⟩ := h
  obtain ⟨K', k⟩ := k
  exact ⟨K + K', fun n hn => by rw [h n (by omega)]; exact k n (by omega)⟩
/-- One round: at n + 1 it is what it is at n of another. -/
theorem Ev.round {α : Type} {g f : Nat → Option α} {r : α} (h : ∃ K, ∀ k, K ≤ k → g (k + 1) = f k) (k : Ev f r) : Ev g r := by
  obtain ⟨K, h⟩ := h
  obtain ⟨K', k⟩ := k
  exact ⟨K + K' + 1, fun n hn => by
    obtain ⟨m, rfl⟩ : ∃ m, n = m + 1 := ⟨n - 1, by omega⟩
    rw [h m (by omega)]; exact k m (by omega)⟩
theorem Ev.ends {α : Type} {g : Nat → Option α} {r : α} (h : ∀ k, g (k + 1) = some r) : Ev g r := ⟨1, fun n hn => by
  obtain ⟨m, rfl⟩ : ∃ m, n = m + 1 := ⟨n - 1, by omega⟩
  exact h m⟩
theorem Ev.all {α : Type} {g : Nat → Option α} {r : α} (h : ∀ k, g k = some r) : Ev g r := ⟨0, fun n _ => h n⟩

def toNode (x : S191) : S35 := (⟨(⟨x.f0.f0, x.f0.f1, x.f0.f2⟩ : S33), x.f1⟩ : S35)
theorem toNodeS_ev (l : List S191) (h : l.length ≤ 1048576) : Ev (fun k => laws_toNodeS.f k l) (l.map toNode) := by
  have hf := fill_loop (fun k out i => laws_toNodeS.l0 k l out i) l.length (fun i => toNode (l.getD i z191)) z35 (fun i out r hi hl h => ?_) (fun out hl => ?_)
  · rw [range_map_get] at hf
    refine Ev.congr (fun k => ?_) hf
    simp only [laws_toNodeS.f]
    rw [if_pos (by omega), if_pos (by omega)]
    rfl
  · refine Ev.step (fun k => ?_) h
    simp only [laws_toNodeS.l0, laws_toNode.f, laws_toPair.f, Option.bind_some, rd_T191, Int.toNat_natCast]
    rw [if_pos (by omega), if_pos (by omega), if_pos (by omega), wrap_succ (n := l.length) hi (by omega)]
    rfl
  · refine Ev.ends (fun k => ?_)
    simp only [laws_toNodeS.l0]
    rw [if_neg (by omega)]

/-- Both come to one answer, of which P holds. -/
def Both {α : Type} (P : α → Prop) (f g : Nat → Option α) : Prop := ∃ r, P r ∧ Ev f r ∧ Ev g r
namespace Both
variable {α β : Type} {P : α → Prop} {f f' g g' : Nat → Option α}
theorem step (h1 : ∀ k, f (k + 1) = f' k) (h2 : ∀ k, g (k + 1) = g' k) (h : Both P f' g') : Both P f g := by
  obtain ⟨r, hp, a, b⟩ := h
  exact ⟨r, hp, Ev.step h1 a, Ev.step h2 b⟩
theorem left (h1 : ∀ k, f (k + 1) = f' k) (h : Both P f' g) : Both P f g := by
  obtain ⟨r, hp, a, b⟩ := h
  exact ⟨r, hp, Ev.step h1 a, b⟩
theorem right (h2 : ∀ k, g (k + 1) = g' k) (h : Both P f g') : Both P f g := by
  obtain ⟨r, hp, a, b⟩ := h
  exact ⟨r, hp, a, Ev.step h2 b⟩
theorem ret (r : α) (h : P r) : Both P (fun _ => some r) (fun _ => some r) := ⟨r, h, Ev.now r, Ev.now r⟩
theorem ite {c : Prop} [Decidable c] (h1 : c → Both P f g) (h2 : ¬ c → Both P f' g') : Both P (fun k => if c then f k else f' k) (fun k => if c then g k else g' k) := by
  by_cases h : c
  · simpa only [if_pos h] using h1 h
  · simpa only [if_neg h] using h2 h
theorem bind {Q : β → Prop} {p q : Nat → Option β} {F G : Nat → β → Option α} (h : Both Q p q) (k : ∀ b, Q b → Both P (fun n => F n b) (fun n => G n b)) : Both P (fun n => (p n).bind (F n)) (fun n => (q n).bind (G n)) := by
  obtain ⟨b, hq, h1, h2⟩ := h
  obtain ⟨r, hp, a, c⟩ := k b hq
  exact ⟨r, hp, Ev.bind h1 a, Ev.bind h2 c⟩
theorem of {r : α} (h1 : Ev f r) (h2 : Ev g r) (hp : P r) : Both P f g := ⟨r, hp, h1, h2⟩
theorem eq {r : α} (h1 : Ev f r) (h2 : Ev g r) : Both (fun x => x = r) f g := ⟨r, rfl, h1, h2⟩
theorem any {Q : α → Prop} (h : Both Q f g) : Both (fun _ => True) f g := by
  obtain ⟨r, _, a, b⟩ := h
  exact ⟨r, trivial, a, b⟩
theorem mono {P' : α → Prop} (h : Both P f g) (hi : ∀ r, P r → P' r) : Both P' f g := by
  obtain ⟨r, hp, a, b⟩ := h
  exact ⟨r, hi r hp, a, b⟩
end Both
/-- It comes to an answer, of which P holds. -/
def Comes {α : Type} (P : α → Prop) (f : Nat → Option α) : Prop := ∃ r, P r ∧ Ev f r
namespace Comes
variable {α β : Type} {P : α → Prop} {f f' : Nat → Option α}
theorem step (h1 : ∀ k, f (k + 1) = f' k) (h : Comes P f') : Comes P f := by
  obtain ⟨r, hp, a⟩ := h
  exact ⟨r, hp, Ev.step h1 a⟩
theorem ret (r : α) (h : P r) : Comes P (fun _ => some r) := ⟨r, h, Ev.now r⟩
theorem ite {c : Prop} [Decidable c] (h1 : c → Comes P f) (h2 : ¬ c → Comes P f') : Comes P (fun k => if c then f k else f' k) := by
  by_cases h : c
  · simpa only [if_pos h] using h1 h
  · simpa only [if_neg h] using h2 h
theorem bind {Q : β → Prop} {p : Nat → Option β} {F : Nat → β → Option α} (h : Comes Q p) (k : ∀ b, Q b → Comes P (fun n => F n b)) : Comes P (fun n => (p n).bind (F n)) := by
  obtain ⟨b, hq, h1⟩ := h
  obtain ⟨r, hp, a⟩ := k b hq
  exact ⟨r, hp, Ev.bind h1 a⟩
theorem mono {P' : α → Prop} (h : Comes P f) (hi : ∀ r, P r → P' r) : Comes P' f := by
  obtain ⟨r, hp, a⟩ := h
  exact ⟨r, hi r hp, a⟩
theorem rounds (h : Comes P f) : ∃ k r, f k = some r ∧ P r := by
  obtain ⟨r, hp, a⟩ := h
  obtain ⟨k, hk⟩ := a.rounds
  exact ⟨k, r, hk, hp⟩
theorem true_ {f : Nat → Option Bool} (h : Comes (fun b => b = true) f) : ∃ k, f k = some true := by
  obtain ⟨k, r, hk, rfl⟩ := h.rounds
  exact ⟨k, hk⟩
theorem some_ (o : Option α) (r : α) (h : o = some r) (hp : P r) : Comes P (fun _ => o) := ⟨r, hp, Ev.all (fun _ => h)⟩
end Comes

theorem sz_loop {α : Type} (l : List α) (z : α) (B : α → Prop) (F : Nat → Int → Int → Option Int) (g : Nat → Int → Nat → Option Int) (hl : l.length ≤ 9223372036854775806)
    (hF : ∀ (k : Nat) (a : Int) (i : Nat), i < l.length → 0 ≤ a → a ≤ 1048576 → F (k + 1) a (i : Int) = (g i a k).bind fun t => if t < 0 then some (-1) else F k t ((i + 1 : Nat) : Int))
    (hg : ∀ (i : Nat) (a : Int), i < l.length → 0 ≤ a → a ≤ 1048576 → Comes (fun t => t ≤ a ∧ (0 ≤ t → B (l.getD i z))) (g i a))
    (he : ∀ (k : Nat) (a : Int), F (k + 1) a (l.length : Int) = some a) (a : Int) (ha : 0 ≤ a) (hb : a ≤ 1048576) : Comes (fun t => t ≤ a ∧ (0 ≤ t → ∀ x ∈ l, B x)) (fun k => F k a 0) := by
  have key : ∀ (d i : Nat) (a : Int), i + d = l.length → 0 ≤ a → a ≤ 1048576 → Comes (fun t => t ≤ a ∧ (0 ≤ t → ∀ j, i ≤ j → j < l.length → B (l.getD j z))) (fun k => F k a (i : Int)) := by
    intro d
    induction d with
    | zero =>
      intro i a hi ha hb
      have : i = l.length := by omega
      subst this
      refine Comes.step (fun k => he k a) (Comes.ret a ⟨Int.le_refl a, fun _ j h1 h2 => by omega⟩)
    | succ d ih =>
      intro i a hi ha hb
      refine Comes.step (fun k => hF k a i (by omega) ha hb) (Comes.bind (hg i a (by omega) ha hb) (fun t ht => Comes.ite (fun _ => Comes.ret (-1) ⟨by omega, fun h => by omega⟩) (fun hn => ?_)))
      refine (ih (i + 1) t (by omega) (by omega) (by omega)).mono (fun r hr => ⟨by omega, fun h0 j h1 h2 => ?_⟩)
      by_cases hj : j = i
      · subst hj
        exact ht.2 (by omega)
      · exact hr.2 h0 j (by omega) h2
  refine (key l.length 0 a (by omega) ha hb).mono (fun r hr => ⟨hr.1, fun h0 x hx => ?_⟩)
  obtain ⟨j, hj, rfl⟩ := List.mem_iff_getElem.1 hx
  have := hr.2 h0 j (by omega) hj
  rwa [List.getD_eq_getElem?_getD, List.getElem?_eq_getElem hj] at this
theorem getD_mem {α : Type} {l : List α} {i : Nat} {z : α} (h : i < l.length) : l.getD i z ∈ l := by
  rw [List.getD_eq_getElem?_getD, List.getElem?_eq_getElem h]
  exact List.getElem_mem h

theorem szNode_comes (x : S191) (hx : x.f0.f0.size ≤ maxLen ∧ x.f0.f1.size ≤ maxLen) (a : Int) (ha : 0 ≤ a) (hb : a ≤ 1048576) : ∃ t, laws_szNode.f x.f0.f0 x.f0.f1 x.f0.f2 x.f1 a = some t ∧ t ≤ a ∧ (0 ≤ t → (x.f0.f0.size : Int) + (x.f0.f1.size : Int) ≤ a - t) := by
  unfold maxLen at hx
  simp only [laws_szNode.f, laws_szPair.f, Option.bind_some, wrap64]
  (repeat' split) <;> first | exact ⟨_, rfl, by omega, by omega⟩ | (simp only [Option.bind_some]; (repeat' split) <;> exact ⟨_, rfl, by omega, by omega⟩)

theorem szNodeS_comes (l : List S191) (hx : l.length ≤ maxLen ∧ ∀ x ∈ l, (x.f0.f0.size ≤ maxLen ∧ x.f0.f1.size ≤ maxLen)) (a : Int) (ha : 0 ≤ a) (hb : a ≤ 1048576) : Comes (fun t => t ≤ a ∧ (0 ≤ t → (l.length : Int) ≤ a - t)) (fun k => laws_szNodeS.f k l a) := by
  have hl := hx.1
  unfold maxLen at hl
  have hw : wrap64 (a - (l.length : Int)) = a - (l.length : Int) := wrap_id (by omega) (by omega)
  simp only [laws_szNodeS.f, hw]
  refine Comes.ite (fun _ => Comes.ret (-1) ⟨by omega, fun h => by omega⟩) (fun hn => ?_)
  refine (sz_loop l z191 (fun _ => True) (fun k a i => laws_szNodeS.l0 k l a i) (fun i a _ => laws_szNode.f (l.getD i z191).f0.f0 (l.getD i z191).f0.f1 (l.getD i z191).f0.f2 (l.getD i z191).f1 a) (by omega) (fun k a i hi _ _ => ?_) (fun i a hi ha hb => ?_) (fun k a => ?_) _ (by omega) (by omega)).mono (fun t ht => ⟨by omega, fun h => by omega⟩)
  · simp only [laws_szNodeS.l0, rd_T191, Int.toNat_natCast]
    rw [if_pos (by omega), if_pos (by omega), wrap_succ (n := l.length) hi (by omega)]
  · obtain ⟨t, h1, h2, h3⟩ := szNode_comes (l.getD i z191) (hx.2 _ (getD_mem hi)) a ha hb
    exact Comes.some_ _ t h1 ⟨h2, fun _ => trivial⟩
  · simp only [laws_szNodeS.l0]
    rw [if_neg (by omega)]

theorem eqNode_self (x : S35) : laws_eqNode.f x.f0.f0 x.f0.f1 x.f0.f2 x.f1 x.f0.f0 x.f0.f1 x.f0.f2 x.f1 = some true := by
  simp [laws_eqNode.f, laws_eqPair.f]
theorem eqNodeS_ev (l : List S35) (h : l.length ≤ 9223372036854775806) : Ev (fun k => laws_eqNodeS.f k l l) true := by
  refine Ev.congr (fun k => ?_) (scan_loop (fun i k => laws_eqNodeS.l0 k l l (i : Int)) l.length true (fun i hi h => ?_) ?_)
  · simp only [laws_eqNodeS.f]
    rw [if_pos trivial]
    rfl
  · refine Ev.step (fun k => ?_) h
    simp only [laws_eqNodeS.l0, eqNode_self, Option.bind_some]
    rw [if_pos (by omega), if_pos (by omega), if_pos (by omega), wrap_succ (n := l.length) hi (by omega)]
    rfl
  · refine Ev.ends (fun k => ?_)
    simp only [laws_eqNodeS.l0]
    rw [if_neg (by omega)]

theorem szMem_comes (l : List S191) (hx : l.length ≤ maxLen ∧ ∀ x ∈ l, W191 x) (a : Int) (ha : 0 ≤ a) (hb : a ≤ 1048576) : Comes (fun t => t ≤ a ∧ (0 ≤ t → (l.length : Int) ≤ a - t)) (fun k => laws_szMem.f k l a) := by
  simp only [laws_szMem.f]
  exact Comes.bind (szNodeS_comes l ⟨hx.1, fun y hy => ⟨(hx.2 y hy).1.1, (hx.2 y hy).1.2.1⟩⟩ a ha hb) (fun t ht => Comes.ite (fun _ => Comes.ret _ ⟨by omega, fun h => by omega⟩) (fun hn => Comes.ret t ht))
theorem toMem_ev (l : List S191) (h : l.length ≤ 1048576) : Ev (fun k => laws_toMem.f k l) (l.map toNode) := by
  obtain ⟨K, h⟩ := toNodeS_ev l h
  dsimp only at h
  exact ⟨K, fun k hk => by simp only [laws_toMem.f]; rw [h k hk, Option.bind_some]⟩
theorem eqMem_ev (l : List S35) (h : l.length ≤ 9223372036854775806) : Ev (fun k => laws_eqMem.f k l l) true := by
  obtain ⟨K, h⟩ := eqNodeS_ev l h
  dsimp only at h
  exact ⟨K, fun k hk => by simp only [laws_eqMem.f]; rw [h k hk, Option.bind_some, if_pos rfl]⟩

def mtR : Nat → Int → ByteArray → ByteArray
  | 0, _, s => s
  | d + 1, k, s => if k > 0 then mtR d (k / 10) (strOfNums [(48 + k % 10) % 256] ++ s) else s
/-- The text 'm' and the digits of k. -/
def mtext (k : Int) : ByteArray := if k ≤ 0 then ⟨#[109, 48]⟩ else ⟨#[109]⟩ ++ mtR 20 k ⟨#[]⟩
theorem markText_l0 : ∀ (d : Nat) (k : Int) (s : ByteArray), k < 10 ^ d → k ≤ 9223372036854775807 → s.size + d ≤ 9223372036854775806 → Ev (fun q => laws_markText.l0 q k s) (⟨#[109]⟩ ++ mtR d k s) := by
  intro d
  induction d with
  | zero =>
    intro k s hk hk2 hs
    refine Ev.ends (fun q => ?_)
    simp only [laws_markText.l0]
    rw [if_neg (by omega), if_pos (by omega)]
    rfl
  | succ d ih =>
    intro k s hk hk2 hs
    by_cases h0 : k > 0
    · have hp : (10 : Int) ^ (d + 1) = 10 ^ d * 10 := Int.pow_succ ..
      have hsz : (strOfNums [(48 + k % 10) % 256] ++ s).size = 1 + s.size := by rw [ByteArray.size_append]; rfl
      have hm : Int.tmod k 10 = k % 10 := Int.tmod_eq_emod_of_nonneg (by omega)
      have hd : Int.tdiv k 10 = k / 10 := Int.tdiv_eq_ediv_of_nonneg (by omega)
      have := ih (k / 10) (strOfNums [(48 + k % 10) % 256] ++ s) (by omega) (by omega) (by omega)
      unfold mtR
      rw [if_pos h0]
      refine Ev.step (fun q => ?_) this
      simp only [laws_markText.l0, Option.bind_some]
      rw [if_pos h0, hm, hd, wrap_id (i := 48 + k % 10) (by omega) (by omega), wrap_id (i := k / 10) (by omega) (by omega), if_pos (by rw [← ByteArray.size_append, hsz]; omega)]
    · unfold mtR
      rw [if_neg h0]
      refine Ev.ends (fun q => ?_)
      simp only [laws_markText.l0]
      rw [if_neg h0, if_pos (by omega)]
theorem markText_ev (k : Int) (h : k ≤ 9223372036854775807) : Ev (fun q => laws_markText.f q k) (mtext k) := by
  unfold mtext
  by_cases h0 : k ≤ 0
  · rw [if_pos h0]
    exact Ev.all (fun q => by simp only [laws_markText.f]; rw [if_pos h0])
  · rw [if_neg h0]
    refine Ev.congr (fun q => ?_) (markText_l0 20 k ⟨#[]⟩ (by omega) h (show (0 : Nat) + 20 ≤ 9223372036854775806 by omega))
    simp only [laws_markText.f]
    rw [if_neg h0]

theorem getD_set_eq {α : Type} {l : List α} {i : Nat} (x z : α) (h : i < l.length) : (l.set i x).getD i z = x := by
  rw [List.getD_eq_getElem?_getD, List.getElem?_set_self h]
  rfl

def mkNode (k : Int) : S35 := (⟨(⟨mtext (k), mtext (k + 1), (Int.tmod (k + 2) 3 == 0)⟩ : S33), (k + 3)⟩ : S35)
def mkNodeL (a : Int) (n : Nat) : List S35 := (List.range n).map fun (i : Nat) => mkNode (a + 4 * (i : Int))
theorem mkNodeL_length (a : Int) (n : Nat) : (mkNodeL a n).length = n := by simp [mkNodeL]
theorem markNodeS_ev (l : List S35) (a : Int) (ha : 0 ≤ a) (hb : a + 4 * (l.length : Int) ≤ 4611686018427387904) : Ev (fun k => laws_markNodeS.f k l a) (a + 4 * (l.length : Int), mkNodeL a l.length) := by
  have hm := mark_loop (fun k out s i => laws_markNodeS.l0 k out s i) l.length (fun i => mkNode (a + 4 * (i : Int))) (fun i => a + 4 * (i : Int)) (fun i out r hi hl h => ?_) (fun out hl => ?_) l rfl
  · refine Ev.congr (fun k => ?_) hm
    simp only [laws_markNodeS.f]
    congr 1
    simp
  · (try dsimp only at h ⊢)
    obtain ⟨K0, h0⟩ := markText_ev (a + 4 * (i : Int)) (by omega)
    obtain ⟨K1, h1⟩ := markText_ev (a + 4 * (i : Int) + 1) (by omega)
    refine Ev.round ⟨0 + K0 + K1, fun k hk => ?_⟩ h
    have t0 := h0 k (by omega)
    have t1 := h1 k (by omega)
    dsimp only at t0 t1
    have e1 : ((i : Int) < (out.length : Int)) = True := eq_true (by omega)
    have e2 : (0 ≤ (i : Int)) = True := eq_true (by omega)
    have ew : wrap64 ((i : Int) + 1) = ((i + 1 : Nat) : Int) := wrap_succ (n := l.length) hi (by omega)
    have w1 : wrap64 (a + 4 * (i : Int) + 1) = a + 4 * (i : Int) + 1 := wrap_id (by omega) (by omega)
    have w2 : wrap64 (a + 4 * (i : Int) + 2) = a + 4 * (i : Int) + 2 := wrap_id (by omega) (by omega)
    have w3 : wrap64 (a + 4 * (i : Int) + 3) = a + 4 * (i : Int) + 3 := wrap_id (by omega) (by omega)
    have w4 : wrap64 (a + 4 * (i : Int) + 4) = a + 4 * (i : Int) + 4 := wrap_id (by omega) (by omega)
    have ad2 : a + 4 * (i : Int) + 1 + 1 = a + 4 * (i : Int) + 2 := by omega
    have ad3 : a + 4 * (i : Int) + 2 + 1 = a + 4 * (i : Int) + 3 := by omega
    have ad4 : a + 4 * (i : Int) + 3 + 1 = a + 4 * (i : Int) + 4 := by omega
    have ae : a + 4 * (i : Int) + 4 = a + 4 * ((i + 1 : Nat) : Int) := by omega
    simp only [laws_markNodeS.l0, e1, e2, if_true, t0, t1, Option.bind_some, w1, w2, ad2, w3, ad3, w4, ad4, ew, rd_T35, Int.toNat_natCast, List.set_set, getD_set_eq _ _ (show i < out.length by omega)]
    (rw [ae]) <;> rfl
  · refine Ev.ends (fun k => ?_)
    simp only [laws_markNodeS.l0]
    rw [if_neg (by omega)]

theorem markMem_ev (l : List S35) (a : Int) (ha : 0 ≤ a) (hb : a + 4 * (l.length : Int) ≤ 4611686018427387904) : Ev (fun k => laws_markMem.f k l a) (a + 4 * (l.length : Int), mkNodeL a l.length) := by
  obtain ⟨K, h⟩ := markNodeS_ev l a ha hb
  dsimp only at h
  exact ⟨K, fun k hk => by simp only [laws_markMem.f]; rw [h k hk, Option.bind_some]⟩

theorem eqIntS_ev (l : List Int) (h : l.length ≤ 9223372036854775806) : Ev (fun k => laws_eqIntS.f k l l) true := by
  refine Ev.congr (fun k => ?_) (scan_loop (fun i k => laws_eqIntS.l0 k l l (i : Int)) l.length true (fun i hi h => ?_) ?_)
  · simp only [laws_eqIntS.f]
    rw [if_pos trivial]
    rfl
  · refine Ev.step (fun k => ?_) h
    simp only [laws_eqIntS.l0]
    rw [if_pos (by omega), if_pos (by omega), if_pos (by omega), if_pos trivial, wrap_succ (n := l.length) hi (by omega)]
  · refine Ev.ends (fun k => ?_)
    simp only [laws_eqIntS.l0]
    rw [if_neg (by omega)]

def markI (a : Int) (n : Nat) : List Int := (List.range n).map fun (j : Nat) => a + (j : Int)
theorem markI_length (a : Int) (n : Nat) : (markI a n).length = n := by simp [markI]
theorem markIntS_ev (l : List Int) (a : Int) (ha : 0 ≤ a) (hb : a + (l.length : Int) ≤ 4611686018427387904) : Ev (fun k => laws_markIntS.f k l a) (a + (l.length : Int), markI a l.length) := by
  have hm := mark_loop (fun k out s i => laws_markIntS.l0 k out s i) l.length (fun i => a + (i : Int)) (fun i => a + (i : Int)) (fun i out r hi hl h => ?_) (fun out hl => ?_) l rfl
  · refine Ev.congr (fun k => ?_) hm
    simp only [laws_markIntS.f]
    congr 1
    simp
  · refine Ev.step (fun k => ?_) h
    have e1 : ((i : Int) < (out.length : Int)) = True := eq_true (by omega)
    have e2 : (0 ≤ (i : Int)) = True := eq_true (by omega)
    have ew : wrap64 ((i : Int) + 1) = ((i + 1 : Nat) : Int) := wrap_succ (n := l.length) hi (by omega)
    have w1 : wrap64 (a + (i : Int) + 1) = a + ((i + 1 : Nat) : Int) := (wrap_id (by omega) (by omega)).trans (by omega)
    simp only [laws_markIntS.l0, e1, e2, if_true, w1, ew, Int.toNat_natCast]
  · refine Ev.ends (fun k => ?_)
    simp only [laws_markIntS.l0]
    rw [if_neg (by omega)]
theorem heldIntS_ev (a : Int) (n : Nat) (ha : 0 ≤ a) (hb : a + (n : Int) ≤ 4611686018427387904) : Ev (fun k => laws_heldIntS.f k (markI a n) a) (a + (n : Int)) := by
  refine Ev.congr (fun k => ?_) (scan_loop (fun i k => laws_heldIntS.l0 k (markI a n) (a + (i : Int)) (i : Int)) n (a + (n : Int)) (fun i hi h => ?_) ?_)
  · simp only [laws_heldIntS.f]
    congr 1
    simp
  · refine Ev.step (fun k => ?_) h
    have e1 : ((i : Int) < (n : Int)) = True := eq_true (by omega)
    have e2 : (0 ≤ (i : Int)) = True := eq_true (by omega)
    have ew : wrap64 ((i : Int) + 1) = ((i + 1 : Nat) : Int) := wrap_succ (n := n) hi (by omega)
    have w1 : wrap64 (a + (i : Int) + 1) = a + ((i + 1 : Nat) : Int) := (wrap_id (by omega) (by omega)).trans (by omega)
    have eg : rd (markI a n) (i : Int) = a + (i : Int) := by
      rw [rd_nat]
      exact range_map_getD n i _ _ hi
    simp only [laws_heldIntS.l0, markI_length, e1, e2, eg, if_true, w1, ew]
  · refine Ev.ends (fun k => ?_)
    simp only [laws_heldIntS.l0, markI_length]
    rw [if_neg (by omega)]

def twr (xs : List S35) (i : Nat) : Int := (rd_T35 xs (i : Int)).f1
def lessK (xs : List S35) (key : ByteArray) (i : Nat) : Bool := Op.bytesLess (((rd_T35 xs (i : Int)).f0.f0).toList) key.toList
/-- The next one that is so high, from i on; d are left. -/
def nxtR (xs : List S35) (h : Int) : Nat → Nat → Nat
  | 0, i => i
  | d + 1, i => if twr xs i < h then nxtR xs h d (i + 1) else i
/-- The leaps on one height. -/
def levelR (xs : List S35) (key : ByteArray) (h : Int) : Nat → List Int → Nat → Nat → List Int × Nat
  | 0, out, a, _ => (out, a)
  | d + 1, out, a, i => if twr xs i < h then levelR xs key h d out a (i + 1) else if lessK xs key i = true then levelR xs key h d (out ++ [(i : Int)]) (i + 1) (i + 1) else (out, a)
def leapsR (xs : List S35) (key : ByteArray) : Nat → List Int → Nat → List Int
  | 0, out, _ => out
  | h + 1, out, a => leapsR xs key h (levelR xs key ((h : Int) + 1) (xs.length - a) out a a).1 (levelR xs key ((h : Int) + 1) (xs.length - a) out a a).2
theorem levelR_small (xs : List S35) (key : ByteArray) (h : Int) : ∀ (d : Nat) (out : List Int) (a i : Nat), i + d = xs.length → a ≤ xs.length → (levelR xs key h d out a i).1.length ≤ out.length + d ∧ (levelR xs key h d out a i).2 ≤ xs.length := by
  intro d
  induction d with
  | zero => intro out a i _ ha; exact ⟨by simp [levelR], ha⟩
  | succ d ih =>
    intro out a i hi ha
    unfold levelR
    split
    · have := ih out a (i + 1) (by omega) ha
      exact ⟨by omega, this.2⟩
    · split
      · have := ih (out ++ [(i : Int)]) (i + 1) (i + 1) (by omega) (by omega)
        rw [List.length_append] at this
        simp only [List.length_cons, List.length_nil] at this
        exact ⟨by omega, this.2⟩
      · exact ⟨Nat.le_add_right _ _, ha⟩
theorem leapsR_length (xs : List S35) (key : ByteArray) : ∀ (h : Nat) (out : List Int) (a : Nat), a ≤ xs.length → (leapsR xs key h out a).length ≤ out.length + h * xs.length := by
  intro h
  induction h with
  | zero => intro out a _; simp [leapsR]
  | succ h ih =>
    intro out a ha
    unfold leapsR
    have h1 := levelR_small xs key ((h : Int) + 1) (xs.length - a) out a a (by omega) ha
    have h2 := ih (levelR xs key ((h : Int) + 1) (xs.length - a) out a a).1 _ h1.2
    rw [Nat.succ_mul]
    omega
theorem next_ev (xs : List S35) (hn : xs.length ≤ 1048576) (h : Int) (at_ : Int) (i : Nat) (hi : i ≤ xs.length) (hat : wrap64 (at_ + 1) = (i : Int)) : Ev (fun k => impl_Mem_next.f k xs at_ h) ((nxtR xs h (xs.length - i) i : Nat) : Int) := by
  have key : ∀ (d i : Nat), i + d = xs.length → Ev (fun k => impl_Mem_next.l0 k (i : Int) h xs) ((nxtR xs h d i : Nat) : Int) := by
    intro d
    induction d with
    | zero =>
      intro i hi
      refine Ev.step (f := fun k => impl_Mem_next.j1 k (i : Int) h false xs) (fun k => ?_) (Ev.ends (fun k => ?_))
      · simp only [impl_Mem_next.l0]
        rw [if_neg (by omega)]
      · simp only [impl_Mem_next.j1]
        rw [if_neg (by decide)]
        rfl
    | succ d ih =>
      intro i hi
      unfold nxtR
      refine Ev.step (f := fun k => impl_Mem_next.j1 k (i : Int) h (decide (twr xs i < h)) xs) (fun k => ?_) ?_
      · simp only [impl_Mem_next.l0]
        rw [if_pos (by omega), if_pos (by omega)]
        rfl
      · by_cases ht : twr xs i < h
        · rw [if_pos ht, decide_eq_true ht]
          refine Ev.step (fun k => ?_) (ih (i + 1) (by omega))
          simp only [impl_Mem_next.j1]
          rw [if_pos trivial, wrap_succ (n := xs.length) (by omega) (by omega)]
        · rw [if_neg ht, decide_eq_false ht]
          refine Ev.ends (fun k => ?_)
          simp only [impl_Mem_next.j1]
          rw [if_neg (by decide)]
  have h := key (xs.length - i) i (by omega)
  simp only [impl_Mem_next.f, hat]
  exact h
theorem implLevel (xs : List S35) (hn : xs.length ≤ 1048576) (key : ByteArray) (h : Int) (r : List Int) : ∀ (d i a : Nat) (out : List Int), i + d = xs.length → out.length + d ≤ 8796093022208 →
    Ev (fun k => impl_Leaps.l0 k key (levelR xs key h d out a i).1 (((levelR xs key h d out a i).2 : Int) - 1) (wrap64 (h - 1)) xs) r → Ev (fun k => impl_Leaps.l1 k key out ((a : Int) - 1) h ((nxtR xs h d i : Nat) : Int) xs) r := by
  intro d
  induction d with
  | zero =>
    intro i a out hi _ hr
    rw [show nxtR xs h 0 i = i from rfl]
    refine Ev.step (f := fun k => impl_Leaps.j2 k key out ((a : Int) - 1) h (i : Int) false xs) (fun k => ?_) (Ev.step (fun k => ?_) hr)
    · simp only [impl_Leaps.l1]
      rw [if_neg (by omega)]
    · simp only [impl_Leaps.j2]
      rw [if_neg (by decide)]
      rfl
  | succ d ih =>
    intro i a out hi hb hr
    unfold levelR at hr
    unfold nxtR
    by_cases ht : twr xs i < h
    · rw [if_pos ht] at hr ⊢
      exact ih (i + 1) a out (by omega) (by omega) hr
    · rw [if_neg ht] at hr ⊢
      refine Ev.step (f := fun k => impl_Leaps.j2 k key out ((a : Int) - 1) h (i : Int) (lessK xs key i) xs) (fun k => ?_) ?_
      · simp only [impl_Leaps.l1]
        rw [if_pos (by omega), if_pos (by omega)]
        rfl
      · cases hk : lessK xs key i
        · rw [hk, if_neg (by decide)] at hr
          refine Ev.step (fun k => ?_) hr
          simp only [impl_Leaps.j2]
          rw [if_neg (by decide)]
        · rw [hk, if_pos rfl] at hr
          obtain ⟨K, e⟩ := next_ev xs hn h (i : Int) (i + 1) (by omega) (wrap_succ (n := xs.length) (by omega) (by omega))
          rw [show xs.length - (i + 1) = d from by omega] at e
          dsimp only at e
          have nx := ih (i + 1) (i + 1) (out ++ [(i : Int)]) (by omega) (by rw [List.length_append]; simp only [List.length_cons, List.length_nil]; omega) hr
          rw [show (((i + 1 : Nat) : Int) - 1) = (i : Int) from by omega] at nx
          refine Ev.round ⟨K, fun k hk => ?_⟩ nx
          simp only [impl_Leaps.j2]
          rw [if_pos trivial, if_pos (by omega), e k hk, Option.bind_some]
theorem implLeaps_l0 (xs : List S35) (hn : xs.length ≤ 1048576) (key : ByteArray) : ∀ (h : Nat) (out : List Int) (a : Nat), h ≤ 4 → a ≤ xs.length → out.length + h * xs.length ≤ 8796093022208 → Ev (fun k => impl_Leaps.l0 k key out ((a : Int) - 1) (h : Int) xs) (leapsR xs key h out a) := by
  intro h
  induction h with
  | zero =>
    intro out a _ _ _
    refine Ev.ends (fun k => ?_)
    simp only [impl_Leaps.l0]
    rw [if_neg (by omega)]
    rfl
  | succ h ih =>
    intro out a h4 ha hb
    rw [Nat.succ_mul] at hb
    have hs := levelR_small xs key ((h : Int) + 1) (xs.length - a) out a a (by omega) ha
    have nx := ih (levelR xs key ((h : Int) + 1) (xs.length - a) out a a).1 (levelR xs key ((h : Int) + 1) (xs.length - a) out a a).2 (by omega) hs.2 (by omega)
    have e1 : ((h + 1 : Nat) : Int) = (h : Int) + 1 := by omega
    rw [e1]
    unfold leapsR
    obtain ⟨K, e⟩ := next_ev xs hn ((h : Int) + 1) ((a : Int) - 1) a ha (by rw [wrap_id (by omega) (by omega)]; omega)
    dsimp only at e
    refine Ev.round ⟨K, fun k hk => ?_⟩ (implLevel xs hn key ((h : Int) + 1) _ (xs.length - a) a a out (by omega) (by omega) (by rw [show wrap64 ((h : Int) + 1 - 1) = (h : Int) from by rw [wrap_id (by omega) (by omega)]; omega]; exact nx))
    simp only [impl_Leaps.l0]
    rw [if_pos (by omega), e k hk, Option.bind_some]
theorem implLeaps_ev (xs : List S35) (hn : xs.length ≤ 1048576) (key : ByteArray) : Ev (fun k => impl_Leaps.f k xs key) (leapsR xs key 4 [] 0) :=
  implLeaps_l0 xs hn key 4 [] 0 (Nat.le_refl _) (Nat.zero_le _) (by simp only [List.length_nil]; omega)

theorem specLevel (xs : List S35) (hn : xs.length ≤ 1048576) (key : ByteArray) (h : Int) (r : List Int) : ∀ (d i a : Nat) (out : List Int), i + d = xs.length → out.length + d ≤ 8796093022208 →
    Ev (fun k => spec_Leaps.l0 k key (levelR xs key h d out a i).1 (((levelR xs key h d out a i).2 : Int) - 1) (wrap64 (h - 1)) xs) r → Ev (fun k => spec_Leaps.l1 k key out ((a : Int) - 1) h (i : Int) xs) r := by
  intro d
  induction d with
  | zero =>
    intro i a out hi _ hr
    refine Ev.step (fun k => ?_) hr
    simp only [spec_Leaps.l1]
    rw [if_neg (by omega)]
    rfl
  | succ d ih =>
    intro i a out hi hb hr
    unfold levelR at hr
    by_cases ht : twr xs i < h
    · rw [if_pos ht] at hr
      refine Ev.step (fun k => ?_) (ih (i + 1) a out (by omega) (by omega) hr)
      simp only [spec_Leaps.l1]
      rw [if_pos (by omega), if_pos (by omega), if_pos (show (rd_T35 xs (i : Int)).f1 < h from ht), wrap_succ (n := xs.length) (by omega) (by omega)]
    · rw [if_neg ht] at hr
      cases hk : lessK xs key i
      · rw [hk, if_neg (by decide)] at hr
        refine Ev.step (fun k => ?_) hr
        simp only [spec_Leaps.l1]
        rw [if_pos (by omega), if_pos (by omega), if_neg (show ¬ (rd_T35 xs (i : Int)).f1 < h from ht), if_neg (show ¬ Op.bytesLess (((rd_T35 xs (i : Int)).f0.f0).toList) key.toList = true from Bool.eq_false_iff.1 hk)]
      · rw [hk, if_pos rfl] at hr
        have nx := ih (i + 1) (i + 1) (out ++ [(i : Int)]) (by omega) (by rw [List.length_append]; simp only [List.length_cons, List.length_nil]; omega) hr
        rw [show (((i + 1 : Nat) : Int) - 1) = (i : Int) from by omega] at nx
        refine Ev.step (fun k => ?_) nx
        simp only [spec_Leaps.l1]
        rw [if_pos (by omega), if_pos (by omega), if_neg (show ¬ (rd_T35 xs (i : Int)).f1 < h from ht), if_pos (show Op.bytesLess (((rd_T35 xs (i : Int)).f0.f0).toList) key.toList = true from hk), if_pos (by omega), wrap_succ (n := xs.length) (by omega) (by omega)]
theorem specLeaps_l0 (xs : List S35) (hn : xs.length ≤ 1048576) (key : ByteArray) : ∀ (h : Nat) (out : List Int) (a : Nat), h ≤ 4 → a ≤ xs.length → out.length + h * xs.length ≤ 8796093022208 → Ev (fun k => spec_Leaps.l0 k key out ((a : Int) - 1) (h : Int) xs) (leapsR xs key h out a) := by
  intro h
  induction h with
  | zero =>
    intro out a _ _ _
    refine Ev.ends (fun k => ?_)
    simp only [spec_Leaps.l0]
    rw [if_neg (by omega)]
    rfl
  | succ h ih =>
    intro out a h4 ha hb
    rw [Nat.succ_mul] at hb
    have hs := levelR_small xs key ((h : Int) + 1) (xs.length - a) out a a (by omega) ha
    have nx := ih (levelR xs key ((h : Int) + 1) (xs.length - a) out a a).1 (levelR xs key ((h : Int) + 1) (xs.length - a) out a a).2 (by omega) hs.2 (by omega)
    have e1 : ((h + 1 : Nat) : Int) = (h : Int) + 1 := by omega
    rw [e1]
    unfold leapsR
    refine Ev.step (fun k => ?_) (specLevel xs hn key ((h : Int) + 1) _ (xs.length - a) a a out (by omega) (by omega) (by rw [show wrap64 ((h : Int) + 1 - 1) = (h : Int) from by rw [wrap_id (by omega) (by omega)]; omega]; exact nx))
    simp only [spec_Leaps.l0]
    rw [if_pos (by omega), wrap_id (by omega) (by omega), show (a : Int) - 1 + 1 = (a : Int) from by omega]
theorem specLeaps_ev (xs : List S35) (hn : xs.length ≤ 1048576) (key : ByteArray) : Ev (fun k => spec_Leaps.f k xs key) (leapsR xs key 4 [] 0) :=
  specLeaps_l0 xs hn key 4 [] 0 (Nat.le_refl _) (Nat.zero_le _) (by simp only [List.length_nil]; omega)

theorem FnExactLeaps : laws_FnExactLeaps.Pure := by
  intro x s hx hs
  by_cases hb1 : (s.size : Int) > 1048576
  · exact ⟨0, by simp only [laws_FnExactLeaps.f]; rw [if_pos hb1]⟩
  refine Comes.true_ ?_
  simp only [laws_FnExactLeaps.f, if_neg hb1]
  refine Comes.bind (szMem_comes x.f0 hx 1048576 (by omega) (by omega)) (fun t ht => Comes.ite (fun _ => Comes.ret true rfl) (fun hn => ?_))
  have hlen : x.f0.length ≤ 1048576 := by omega
  have hl : (x.f0.map toNode).length ≤ 1048576 := by simp; omega
  obtain ⟨K1, h1⟩ := toMem_ev x.f0 hlen
  obtain ⟨K2, h2⟩ := specLeaps_ev (x.f0.map toNode) hl s
  obtain ⟨K3, h3⟩ := implLeaps_ev (x.f0.map toNode) hl s
  have hr := leapsR_length (x.f0.map toNode) s 4 [] 0 (Nat.zero_le _)
  rw [List.length_nil] at hr
  generalize leapsR (x.f0.map toNode) s 4 [] 0 = r at hr h2 h3
  obtain ⟨K4, h4⟩ := eqMem_ev (x.f0.map toNode) (by omega)
  obtain ⟨K5, h5⟩ := markMem_ev (x.f0.map toNode) 1 (by omega) (by omega)
  obtain ⟨K7, h7⟩ := eqIntS_ev r (by omega)
  obtain ⟨K8, h8⟩ := markIntS_ev r 1 (by omega) (by omega)
  obtain ⟨K9, h9⟩ := heldIntS_ev 1 r.length (by omega) (by omega)
  dsimp only at h1 h2 h3 h4 h5 h7 h8 h9
  refine ⟨true, rfl, K1 + K2 + K3 + K4 + K5 + K7 + K8 + K9 + 1, fun k hk => ?_⟩
  obtain ⟨q, rfl⟩ : ∃ q, k = q + 1 := ⟨k - 1, by omega⟩
  dsimp only
  rw [h1 _ (by omega), Option.bind_some, h2 _ (by omega), Option.bind_some, Option.bind_some, h3 _ (by omega), Option.bind_some, h7 _ (by omega), Option.bind_some, if_pos rfl, Option.bind_some, h4 _ (by omega), Option.bind_some, if_pos rfl, h5 _ (by omega), Option.bind_some, if_neg (by simp only []; omega), Option.bind_some]
  simp only [laws_FnExactLeaps.j0, Bool.not_true]
  rw [if_neg (by simp), h8 _ (by omega), Option.bind_some, h9 _ (by omega), Option.bind_some, if_neg (by omega), if_pos rfl, h1 _ (by omega), Option.bind_some, h3 _ (by omega), Option.bind_some, h7 _ (by omega), Option.bind_some, if_pos rfl, Option.bind_some, if_neg (by omega), if_pos rfl]

end Go.Proofs.Ytbepbgfkajnlbaa.MPureFnExactLeaps
