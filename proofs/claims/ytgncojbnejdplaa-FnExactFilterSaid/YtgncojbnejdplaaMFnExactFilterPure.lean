/- Filter of the program and of the reference answer the same, for all keys; what it answers is new memory. No condition. -/
import Derived.Test.YtgncojbnejdplaaMFnExactFilterDef
set_option linter.unusedVariables false
set_option linter.unusedSimpArgs false
namespace Go.Proofs.Ytgncojbnejdplaa.MPureFnExactFilter
open Go.RowKit Go.Proofs.Ytgncojbnejdplaa.MFnExactFilter Go.Proofs.YtgncojbnejdplaaW.PrintWords Go.Proofs.YtgncojbnejdplaaW.PrintLast Go.Proofs.YtgncojbnejdplaaW.PrintMore

theorem wrap_id {i : Int} (h0 : -9223372036854775808 ≤ i) (h1 : i ≤ 9223372036854775807) : wrap64 i = i := by unfold wrap64; omega
theorem wrap_succ {i n : Nat} (h : i < n) (hn : n ≤ 9223372036854775807) : wrap64 ((i : Int) + 1) = ((i + 1 : Nat) : Int) := by unfold wrap64; omega
theorem rd_nat (xs : List Int) (i : Nat) : rd xs (i : Int) = xs.getD i 0 := by simp [rd]
theorem take_set_succ {α : Type} (l : List α) (i : Nat) (x : α) (h : i < l.length) : (l.set i x).take (i + 1) = l.take i ++ [x] := by
  rw [List.take_succ_eq_append_getElem (by simpa using h), List.getElem_set_self, List.take_set_of_le (Nat.le_refl _)]
theorem take_succ_getD {α : Type} (l : List α) (i : Nat) (d : α) (h : i < l.length) : l.take (i + 1) = l.take i ++ [l.getD i d] := by
  rw [List.take_succ_eq_append_getElem h, List.getD_eq_getElem?_getD, List.getElem?_eq_getElem h]
  rfl
theorem take_all {α : Type} {l m : List α} {n : Nat} (h : l.take n = m) (hl : l.length = n) : l = m := by
  rw [← h, ← hl, List.take_length]
theorem wf_u8 {x : Int} (h : (Lit.int .u8 x).wf = true) : 0 ≤ x ∧ x ≤ 255 := by
  simp [Lit.wf, IntKind.min, IntKind.max, IntKind.signed, IntKind.bits] at h
  omega
theorem wf_i64 {x : Int} (h : (Lit.int .i64 x).wf = true) : -9223372036854775808 ≤ x ∧ x ≤ 9223372036854775807 := by
  simp [Lit.wf, IntKind.min, IntKind.max, IntKind.signed, IntKind.bits] at h
  omega

theorem eqByteS_l0 (xs : List Int) (hn : xs.length ≤ 9223372036854775806) : ∀ (d i : Nat), i + d = xs.length → Ev (fun k => laws_eqByteS.l0 k xs xs (i : Int)) true := by
  intro d
  induction d with
  | zero =>
    intro i hi
    refine Ev.step (f := fun _ => some true) (fun k => ?_) (Ev.now true)
    simp only [laws_eqByteS.l0]
    rw [if_neg (by omega)]
  | succ d ih =>
    intro i hi
    refine Ev.step (f := fun k => laws_eqByteS.l0 k xs xs ((i + 1 : Nat) : Int)) (fun k => ?_) (ih _ (by omega))
    simp only [laws_eqByteS.l0]
    rw [if_pos (by omega), if_pos (by omega), if_pos (by omega), if_pos trivial, wrap_succ (n := xs.length) (by omega) (by omega)]
theorem eqByteS_ev (xs : List Int) (hn : xs.length ≤ 9223372036854775806) : Ev (fun k => laws_eqByteS.f k xs xs) true := by
  refine Ev.congr (fun k => ?_) (eqByteS_l0 xs hn xs.length 0 (by omega))
  simp only [laws_eqByteS.f]
  rw [if_pos trivial]
  rfl

theorem fill_loop {β : Type} (L : Nat → List β → Int → Option (List β)) (n : Nat) (g : Nat → β) (z : β)
    (hs : ∀ (i : Nat) (out : List β) (r : List β), i < n → out.length = n → Ev (fun k => L k (out.set i (g i)) ((i + 1 : Nat) : Int)) r → Ev (fun k => L k out (i : Int)) r)
    (he : ∀ out : List β, out.length = n → Ev (fun k => L k out (n : Int)) out) : Ev (fun k => L k (List.replicate n z) 0) ((List.range n).map g) := by
  have key : ∀ (d i : Nat) (out : List β), i + d = n → out.length = n → out.take i = (List.range i).map g → Ev (fun k => L k out (i : Int)) ((List.range n).map g) := by
    intro d
    induction d with
    | zero =>
      intro i out hi hl ht
      have : i = n := by omega
      subst this
      have e := take_all ht hl
      rw [← e]
      exact he out hl
    | succ d ih =>
      intro i out hi hl ht
      refine hs i out _ (by omega) hl (ih (i + 1) _ (by omega) (by simp [hl]) ?_)
      rw [take_set_succ _ _ _ (by omega), ht, List.range_succ, List.map_append]
      rfl
  exact key n 0 _ (by omega) (by simp) (by simp)
/-- A row that is written from the left: element i becomes g i, and a state goes along. -/
theorem mark_loop {β σ : Type} (L : Nat → List β → σ → Int → Option (σ × List β)) (n : Nat) (g : Nat → β) (st : Nat → σ)
    (hs : ∀ (i : Nat) (out : List β) (r : σ × List β), i < n → out.length = n → Ev (fun k => L k (out.set i (g i)) (st (i + 1)) ((i + 1 : Nat) : Int)) r → Ev (fun k => L k out (st i) (i : Int)) r)
    (he : ∀ out : List β, out.length = n → Ev (fun k => L k out (st n) (n : Int)) (st n, out)) (l : List β) (hl : l.length = n) : Ev (fun k => L k l (st 0) 0) (st n, (List.range n).map g) := by
  have key : ∀ (d i : Nat) (out : List β), i + d = n → out.length = n → out.take i = (List.range i).map g → Ev (fun k => L k out (st i) (i : Int)) (st n, (List.range n).map g) := by
    intro d
    induction d with
    | zero =>
      intro i out hi hl ht
      have : i = n := by omega
      subst this
      have e := take_all ht hl
      rw [← e]
      exact he out hl
    | succ d ih =>
      intro i out hi hl ht
      refine hs i out _ (by omega) hl (ih (i + 1) _ (by omega) (by simp [hl]) ?_)
      rw [take_set_succ _ _ _ (by omega), ht, List.range_succ, List.map_append]
      rfl
  exact key n 0 _ (by omega) hl (by simp)
theorem scan_loop {ρ : Type} (g : Nat → Nat → Option ρ) (n : Nat) (r : ρ) (hs : ∀ i, i < n → Ev (g (i + 1)) r → Ev (g i) r) (he : Ev (g n) r) : Ev (g 0) r := by
  have key : ∀ (d i : Nat), i + d = n → Ev (g i) r := by
    intro d
    induction d with
    | zero => intro i hi; have : i = n := by omega
              subst this; exact he
    | succ d ih => intro i hi; exact hs i (by omega) (ih (i + 1) (by omega))
  exact key n 0 (by omega)
theorem range_map_get {α β : Type} (l : List α) (f : α → β) (d : α) : (List.range l.length).map (fun i => f (l.getD i d)) = l.map f := by
  apply List.ext_getElem?
  intro i
  rw [List.getElem?_map, List.getElem?_map]
  by_cases h : i < l.length
  · simp [h, List.getD_eq_getElem?_getD]
  · rw [List.getElem?_eq_none (by simp; omega), List.getElem?_eq_none (by omega)]
    rfl
theorem range_map_getD {β : Type} (n i : Nat) (g : Nat → β) (d : β) (h : i < n) : ((List.range n).map g).getD i d = g i := by
  simp [List.getD_eq_getElem?_getD, h]
theorem Ev.bind' {α β : Type} {g : Nat → Option α} {f : Nat → α → Option β} {a : α} {r : β} (h : Ev g a) (k : Ev (fun n => f n a) r) : Ev (fun n => (g n).bind (f n)) r := Ev.bind h k
theorem Ev.cond {α : Type} {g f : Nat → Option α} {r : α} (h : ∃ K, ∀ k, K ≤ k → g k = f k) (k : Ev f r) : Ev g r := by
  obtain ⟨K, h⟩ := h
  obtain ⟨K', k⟩ := k
  exact ⟨K + K', fun n hn => by rw [h n (by omega)]; exact k n (by omega)⟩
/-- One round: at n + 1 it is what it is at n of another. -/
theorem Ev.round {α : Type} {g f : Nat → Option α} {r : α} (h : ∃ K, ∀ k, K ≤ k → g (k + 1) = f k) (k : Ev f r) : Ev g r := by
  obtain ⟨K, h⟩ := h
  obtain ⟨K', k⟩ := k
  exact ⟨K + K' + 1, fun n hn => by
    obtain ⟨m, rfl⟩ : ∃ m, n = m + 1 := ⟨n - 1, by omega⟩
    rw [h m (by omega)]; exact k m (by omega)⟩
theorem Ev.ends {α : Type} {g : Nat → Option α} {r : α} (h : ∀ k, g (k + 1) = some r) : Ev g r := ⟨1, fun n hn => by
  obtain ⟨m, rfl⟩ : ∃ m, n = m + 1 := ⟨n - 1, by omega⟩
  exact h m⟩
theorem Ev.all {α : Type} {g : Nat → Option α} {r : α} (h : ∀ k, g k = some r) : Ev g r := ⟨0, fun n _ => h n⟩

def mtR : Nat → Int → ByteArray → ByteArray
  | 0, _, s => s
  | d + 1, k, s => if k > 0 then mtR d (k / 10) (strOfNums [(48 + k % 10) % 256] ++ s) else s
/-- The text 'm' and the digits of k. -/
def mtext (k : Int) : ByteArray := if k ≤ 0 then ⟨#[109, 48]⟩ else ⟨#[109]⟩ ++ mtR 20 k ⟨#[]⟩
theorem markText_l0 : ∀ (d : Nat) (k : Int) (s : ByteArray), k < 10 ^ d → k ≤ 9223372036854775807 → s.size + d ≤ 9223372036854775806 → Ev (fun q => laws_markText.l0 q k s) (⟨#[109]⟩ ++ mtR d k s) := by
  intro d
  induction d with
  | zero =>
    intro k s hk hk2 hs
    refine Ev.ends (fun q => ?_)
    simp only [laws_markText.l0]
    rw [if_neg (by omega), if_pos (by omega)]
    rfl
  | succ d ih =>
    intro k s hk hk2 hs
    by_cases h0 : k > 0
    · have hp : (10 : Int) ^ (d + 1) = 10 ^ d * 10 := Int.pow_succ ..
      have hsz : (strOfNums [(48 + k % 10) % 256] ++ s).size = 1 + s.size := by rw [ByteArray.size_append]; rfl
      have hm : Int.tmod k 10 = k % 10 := Int.tmod_eq_emod_of_nonneg (by omega)
      have hd : Int.tdiv k 10 = k / 10 := Int.tdiv_eq_ediv_of_nonneg (by omega)
      have := ih (k / 10) (strOfNums [(48 + k % 10) % 256] ++ s) (by omega) (by omega) (by omega)
      unfold mtR
      rw [if_pos h0]
      refine Ev.step (fun q => ?_) this
      simp only [laws_markText.l0, Option.bind_some]
      rw [if_pos h0, hm, hd, wrap_id (i := 48 + k % 10) (by omega) (by omega), wrap_id (i := k / 10) (by omega) (by omega), if_pos (by rw [← ByteArray.size_append, hsz]; omega)]
    · unfold mtR
      rw [if_neg h0]
      refine Ev.ends (fun q => ?_)
      simp only [laws_markText.l0]
      rw [if_neg h0, if_pos (by omega)]
theorem markText_ev (k : Int) (h : k ≤ 9223372036854775807) : Ev (fun q => laws_markText.f q k) (mtext k) := by
  unfold mtext
  by_cases h0 : k ≤ 0
  · rw [if_pos h0]
    exact Ev.all (fun q => by simp only [laws_markText.f]; rw [if_pos h0])
  · rw [if_neg h0]
    refine Ev.congr (fun q => ?_) (markText_l0 20 k ⟨#[]⟩ (by omega) h (show (0 : Nat) + 20 ≤ 9223372036854775806 by omega))
    simp only [laws_markText.f]
    rw [if_neg h0]

theorem getD_set_eq {α : Type} {l : List α} {i : Nat} (x z : α) (h : i < l.length) : (l.set i x).getD i z = x := by
  rw [List.getD_eq_getElem?_getD, List.getElem?_set_self h]
  rfl

/-- Both come to one answer, of which P holds. -/
def Both {α : Type} (P : α → Prop) (f g : Nat → Option α) : Prop := ∃ r, P r ∧ Ev f r ∧ Ev g r
namespace Both
variable {α β : Type} {P : α → Prop} {f f' g g' : Nat → Option α}
theorem step (h1 : ∀ k, f (k + 1) = f' k) (h2 : ∀ k, g (k + 1) = g' k) (h : Both P f' g') : Both P f g := by
  obtain ⟨r, hp, a, b⟩ := h
  exact ⟨r, hp, Ev.step h1 a, Ev.step h2 b⟩
theorem left (h1 : ∀ k, f (k + 1) = f' k) (h : Both P f' g) : Both P f g := by
  obtain ⟨r, hp, a, b⟩ := h
  exact ⟨r, hp, Ev.step h1 a, b⟩
theorem right (h2 : ∀ k, g (k + 1) = g' k) (h : Both P f g') : Both P f g := by
  obtain ⟨r, hp, a, b⟩ := h
  exact ⟨r, hp, a, Ev.step h2 b⟩
theorem ret (r : α) (h : P r) : Both P (fun _ => some r) (fun _ => some r) := ⟨r, h, Ev.now r, Ev.now r⟩
theorem ite {c : Prop} [Decidable c] (h1 : c → Both P f g) (h2 : ¬ c → Both P f' g') : Both P (fun k => if c then f k else f' k) (fun k => if c then g k else g' k) := by
  by_cases h : c
  · simpa only [if_pos h] using h1 h
  · simpa only [if_neg h] using h2 h
theorem bind {Q : β → Prop} {p q : Nat → Option β} {F G : Nat → β → Option α} (h : Both Q p q) (k : ∀ b, Q b → Both P (fun n => F n b) (fun n => G n b)) : Both P (fun n => (p n).bind (F n)) (fun n => (q n).bind (G n)) := by
  obtain ⟨b, hq, h1, h2⟩ := h
  obtain ⟨r, hp, a, c⟩ := k b hq
  exact ⟨r, hp, Ev.bind h1 a, Ev.bind h2 c⟩
theorem of {r : α} (h1 : Ev f r) (h2 : Ev g r) (hp : P r) : Both P f g := ⟨r, hp, h1, h2⟩
theorem mono {P' : α → Prop} (h : Both P f g) (hi : ∀ r, P r → P' r) : Both P' f g := by
  obtain ⟨r, hp, a, b⟩ := h
  exact ⟨r, hi r hp, a, b⟩
end Both
/-- It comes to an answer, of which P holds. -/
def Comes {α : Type} (P : α → Prop) (f : Nat → Option α) : Prop := ∃ r, P r ∧ Ev f r
namespace Comes
variable {α β : Type} {P : α → Prop} {f f' : Nat → Option α}
theorem step (h1 : ∀ k, f (k + 1) = f' k) (h : Comes P f') : Comes P f := by
  obtain ⟨r, hp, a⟩ := h
  exact ⟨r, hp, Ev.step h1 a⟩
theorem ret (r : α) (h : P r) : Comes P (fun _ => some r) := ⟨r, h, Ev.now r⟩
theorem ite {c : Prop} [Decidable c] (h1 : c → Comes P f) (h2 : ¬ c → Comes P f') : Comes P (fun k => if c then f k else f' k) := by
  by_cases h : c
  · simpa only [if_pos h] using h1 h
  · simpa only [if_neg h] using h2 h
theorem bind {Q : β → Prop} {p : Nat → Option β} {F : Nat → β → Option α} (h : Comes Q p) (k : ∀ b, Q b → Comes P (fun n => F n b)) : Comes P (fun n => (p n).bind (F n)) := by
  obtain ⟨b, hq, h1⟩ := h
  obtain ⟨r, hp, a⟩ := k b hq
  exact ⟨r, hp, Ev.bind h1 a⟩
theorem mono {P' : α → Prop} (h : Comes P f) (hi : ∀ r, P r → P' r) : Comes P' f := by
  obtain ⟨r, hp, a⟩ := h
  exact ⟨r, hi r hp, a⟩
theorem rounds (h : Comes P f) : ∃ k r, f k = some r ∧ P r := by
  obtain ⟨r, hp, a⟩ := h
  obtain ⟨k, hk⟩ := a.rounds
  exact ⟨k, r, hk, hp⟩
theorem true_ {f : Nat → Option Bool} (h : Comes (fun b => b = true) f) : ∃ k, f k = some true := by
  obtain ⟨k, r, hk, rfl⟩ := h.rounds
  exact ⟨k, hk⟩
theorem some_ (o : Option α) (r : α) (h : o = some r) (hp : P r) : Comes P (fun _ => o) := ⟨r, hp, Ev.all (fun _ => h)⟩
end Comes

theorem sz_loop {α : Type} (l : List α) (z : α) (B : α → Prop) (F : Nat → Int → Int → Option Int) (g : Nat → Int → Nat → Option Int) (hl : l.length ≤ 9223372036854775806)
    (hF : ∀ (k : Nat) (a : Int) (i : Nat), i < l.length → 0 ≤ a → a ≤ 1048576 → F (k + 1) a (i : Int) = (g i a k).bind fun t => if t < 0 then some (-1) else F k t ((i + 1 : Nat) : Int))
    (hg : ∀ (i : Nat) (a : Int), i < l.length → 0 ≤ a → a ≤ 1048576 → Comes (fun t => t ≤ a ∧ (0 ≤ t → B (l.getD i z))) (g i a))
    (he : ∀ (k : Nat) (a : Int), F (k + 1) a (l.length : Int) = some a) (a : Int) (ha : 0 ≤ a) (hb : a ≤ 1048576) : Comes (fun t => t ≤ a ∧ (0 ≤ t → ∀ x ∈ l, B x)) (fun k => F k a 0) := by
  have key : ∀ (d i : Nat) (a : Int), i + d = l.length → 0 ≤ a → a ≤ 1048576 → Comes (fun t => t ≤ a ∧ (0 ≤ t → ∀ j, i ≤ j → j < l.length → B (l.getD j z))) (fun k => F k a (i : Int)) := by
    intro d
    induction d with
    | zero =>
      intro i a hi ha hb
      have : i = l.length := by omega
      subst this
      refine Comes.step (fun k => he k a) (Comes.ret a ⟨Int.le_refl a, fun _ j h1 h2 => by omega⟩)
    | succ d ih =>
      intro i a hi ha hb
      refine Comes.step (fun k => hF k a i (by omega) ha hb) (Comes.bind (hg i a (by omega) ha hb) (fun t ht => Comes.ite (fun _ => Comes.ret (-1) ⟨by omega, fun h => by omega⟩) (fun hn => ?_)))
      refine (ih (i + 1) t (by omega) (by omega) (by omega)).mono (fun r hr => ⟨by omega, fun h0 j h1 h2 => ?_⟩)
      by_cases hj : j = i
      · subst hj
        exact ht.2 (by omega)
      · exact hr.2 h0 j (by omega) h2
  refine (key l.length 0 a (by omega) ha hb).mono (fun r hr => ⟨hr.1, fun h0 x hx => ?_⟩)
  obtain ⟨j, hj, rfl⟩ := List.mem_iff_getElem.1 hx
  have := hr.2 h0 j (by omega) hj
  rwa [List.getD_eq_getElem?_getD, List.getElem?_eq_getElem hj] at this
theorem getD_mem {α : Type} {l : List α} {i : Nat} {z : α} (h : i < l.length) : l.getD i z ∈ l := by
  rw [List.getD_eq_getElem?_getD, List.getElem?_eq_getElem h]
  exact List.getElem_mem h

theorem rdOf_nat (xs : List ByteArray) (i : Nat) : rdOf ByteArray.empty xs (i : Int) = xs.getD i ByteArray.empty := by simp [rdOf]
theorem toStringS_ev (l : List ByteArray) (h : l.length ≤ 1048576) : Ev (fun k => laws_toStringS.f k l) l := by
  have hf := fill_loop (fun k out i => laws_toStringS.l0 k l out i) l.length (fun i => l.getD i ByteArray.empty) (⟨#[]⟩ : ByteArray) (fun i out r hi hl h => ?_) (fun out hl => ?_)
  · have e := range_map_get l id ByteArray.empty
    simp only [id, List.map_id] at e
    have e2 : List.map (fun i => l.getD i ByteArray.empty) (List.range l.length) = l := by
      have := range_map_get l (fun x => x) ByteArray.empty
      simpa using this
    rw [e2] at hf
    refine Ev.congr (fun k => ?_) hf
    simp only [laws_toStringS.f]
    rw [if_pos (by omega), if_pos (by omega)]
    rfl
  · refine Ev.step (fun k => ?_) h
    simp only [laws_toStringS.l0, rdOf_nat, Int.toNat_natCast]
    rw [if_pos (by omega), if_pos (by omega), if_pos (by omega), wrap_succ (n := l.length) hi (by omega)]
  · refine Ev.ends (fun k => ?_)
    simp only [laws_toStringS.l0]
    rw [if_neg (by omega)]
theorem eqStringS_ev (l : List ByteArray) (h : l.length ≤ 9223372036854775806) : Ev (fun k => laws_eqStringS.f k l l) true := by
  refine Ev.congr (fun k => ?_) (scan_loop (fun i k => laws_eqStringS.l0 k l l (i : Int)) l.length true (fun i hi h => ?_) ?_)
  · simp only [laws_eqStringS.f]
    rw [if_pos trivial]
    rfl
  · refine Ev.step (fun k => ?_) h
    simp only [laws_eqStringS.l0]
    rw [if_pos (by omega), if_pos (by omega), if_pos (by omega), if_pos trivial, wrap_succ (n := l.length) hi (by omega)]
  · refine Ev.ends (fun k => ?_)
    simp only [laws_eqStringS.l0]
    rw [if_neg (by omega)]
theorem markStringS_ev (l : List ByteArray) (a : Int) (ha : 0 ≤ a) (hb : a + (l.length : Int) ≤ 4611686018427387904) : Ev (fun k => laws_markStringS.f k l a) (a + (l.length : Int), (List.range l.length).map fun (i : Nat) => mtext (a + (i : Int))) := by
  have hm := mark_loop (fun k out s i => laws_markStringS.l0 k out s i) l.length (fun i => mtext (a + (i : Int))) (fun i => a + (i : Int)) (fun i out r hi hl h => ?_) (fun out hl => ?_) l rfl
  · refine Ev.congr (fun k => ?_) hm
    simp only [laws_markStringS.f]
    congr 1
    simp
  · (try dsimp only at h ⊢)
    obtain ⟨K0, h0⟩ := markText_ev (a + (i : Int)) (by omega)
    refine Ev.round ⟨K0, fun k hk => ?_⟩ h
    have t0 := h0 k (by omega)
    dsimp only at t0
    have e1 : ((i : Int) < (out.length : Int)) = True := eq_true (by omega)
    have e2 : (0 ≤ (i : Int)) = True := eq_true (by omega)
    have ew : wrap64 ((i : Int) + 1) = ((i + 1 : Nat) : Int) := wrap_succ (n := l.length) hi (by omega)
    have w1 : wrap64 (a + (i : Int) + 1) = a + ((i + 1 : Nat) : Int) := (wrap_id (by omega) (by omega)).trans (by omega)
    simp only [laws_markStringS.l0, e1, e2, if_true, t0, Option.bind_some, w1, ew, Int.toNat_natCast]
  · refine Ev.ends (fun k => ?_)
    simp only [laws_markStringS.l0]
    rw [if_neg (by omega)]
theorem szStringS_comes (l : List ByteArray) (hx : l.length ≤ maxLen ∧ ∀ x ∈ l, x.size ≤ maxLen) (a : Int) (ha : 0 ≤ a) (hb : a ≤ 1048576) : Comes (fun t => t ≤ a ∧ (0 ≤ t → (l.length : Int) ≤ a - t ∧ ∀ x ∈ l, x.size ≤ 1048576)) (fun k => laws_szStringS.f k l a) := by
  have hl := hx.1
  unfold maxLen at hl
  have hw : wrap64 (a - (l.length : Int)) = a - (l.length : Int) := wrap_id (by omega) (by omega)
  simp only [laws_szStringS.f, hw]
  refine Comes.ite (fun _ => Comes.ret (-1) ⟨by omega, fun h => by omega⟩) (fun hn => ?_)
  refine (sz_loop l ByteArray.empty (fun x => x.size ≤ 1048576) (fun k a i => laws_szStringS.l0 k l a i) (fun i a _ => some (a - ((l.getD i ByteArray.empty).size : Int))) (by omega) (fun k a i hi ha hb => ?_) (fun i a hi ha hb => ?_) (fun k a => ?_) _ (by omega) (by omega)).mono (fun t ht => ⟨by omega, fun h => ⟨by omega, ht.2 h⟩⟩)
  · have hs := hx.2 _ (getD_mem (z := ByteArray.empty) hi)
    unfold maxLen at hs
    simp only [laws_szStringS.l0, rdOf_nat, Option.bind_some]
    have e1 : ((i : Int) < (l.length : Int)) = True := eq_true (by omega)
    have e2 : (0 ≤ (i : Int)) = True := eq_true (by omega)
    have ew : wrap64 ((i : Int) + 1) = ((i + 1 : Nat) : Int) := wrap_succ (n := l.length) hi (by omega)
    have w1 : wrap64 (a - ((l.getD i ByteArray.empty).size : Int)) = a - ((l.getD i ByteArray.empty).size : Int) := wrap_id (by omega) (by omega)
    simp only [e1, e2, if_true, ew, w1]
  · have hs := hx.2 _ (getD_mem (z := ByteArray.empty) hi)
    exact Comes.ret _ ⟨by omega, fun h => by omega⟩
  · simp only [laws_szStringS.l0]
    rw [if_neg (by omega)]

def markB (a : Int) (n : Nat) : List Int := (List.range n).map fun (j : Nat) => (a + (j : Int)) % 256
theorem markB_length (a : Int) (n : Nat) : (markB a n).length = n := by simp [markB]
theorem markB_succ (a : Int) (n : Nat) : markB a (n + 1) = markB a n ++ [(a + (n : Int)) % 256] := by simp [markB, List.range_succ]
theorem markB_get (a : Int) (n i : Nat) (h : i < n) : (markB a n).getD i 0 = (a + (i : Int)) % 256 := by
  simp [markB, List.getD_eq_getElem?_getD, h]
theorem markByteS_l0 (a : Int) (n : Nat) (ha : 0 ≤ a) (hb : a + n ≤ 9223372036854775806) : ∀ (d : Nat) (l : List Int) (i : Nat), i + d = n → l.length = n → l.take i = markB a i →
    Ev (fun k => laws_markByteS.l0 k l (a + (i : Int)) (i : Int)) (a + (n : Int), markB a n) := by
  intro d
  induction d with
  | zero =>
    intro l i hi hl ht
    have hin : i = n := by omega
    subst hin
    have e : l = markB a i := take_all ht hl
    refine Ev.step (f := fun _ => some (a + (i : Int), markB a i)) (fun k => ?_) (Ev.now _)
    simp only [laws_markByteS.l0]
    rw [if_neg (by omega), e]
  | succ d ih =>
    intro l i hi hl ht
    refine Ev.step (f := fun k => laws_markByteS.l0 k (l.set i ((a + (i : Int)) % 256)) (a + ((i + 1 : Nat) : Int)) ((i + 1 : Nat) : Int)) (fun k => ?_) (ih _ _ (by omega) (by simp [hl]) ?_)
    · simp only [laws_markByteS.l0]
      rw [if_pos (by omega), if_pos (by omega), wrap_succ (n := n) (by omega) (by omega), Int.toNat_natCast, wrap_id (i := a + (i : Int) + 1) (by omega) (by omega)]
      congr 1
      omega
    · rw [take_set_succ _ _ _ (by omega), markB_succ, ht]
theorem markByteS_ev (l : List Int) (a : Int) (ha : 0 ≤ a) (hb : a + l.length ≤ 9223372036854775806) : Ev (fun k => laws_markByteS.f k l a) (a + (l.length : Int), markB a l.length) := by
  refine Ev.congr (fun k => ?_) (markByteS_l0 a l.length ha hb l.length l 0 (by omega) rfl rfl)
  simp only [laws_markByteS.f]
  congr 1
  simp
theorem heldByteS_l0 (a : Int) (n : Nat) (ha : 0 ≤ a) (hb : a + n ≤ 9223372036854775806) : ∀ (d i : Nat), i + d = n → Ev (fun k => laws_heldByteS.l0 k (markB a n) (a + (i : Int)) (i : Int)) (a + (n : Int)) := by
  intro d
  induction d with
  | zero =>
    intro i hi
    have hin : i = n := by omega
    subst hin
    refine Ev.step (f := fun _ => some (a + (i : Int))) (fun k => ?_) (Ev.now _)
    simp only [laws_heldByteS.l0, markB_length]
    rw [if_neg (by omega)]
  | succ d ih =>
    intro i hi
    refine Ev.step (f := fun k => laws_heldByteS.l0 k (markB a n) (a + ((i + 1 : Nat) : Int)) ((i + 1 : Nat) : Int)) (fun k => ?_) (ih _ (by omega))
    simp only [laws_heldByteS.l0, markB_length]
    rw [if_pos (by omega), if_pos (by omega), rd_nat, if_pos (markB_get a n i (by omega)), wrap_succ (n := n) (by omega) (by omega), wrap_id (i := a + (i : Int) + 1) (by omega) (by omega)]
    congr 1
    omega
theorem heldByteS_ev (a : Int) (n : Nat) (ha : 0 ≤ a) (hb : a + n ≤ 9223372036854775806) : Ev (fun k => laws_heldByteS.f k (markB a n) a) (a + (n : Int)) := by
  refine Ev.congr (fun k => ?_) (heldByteS_l0 a n ha hb n 0 (by omega))
  simp only [laws_heldByteS.f]
  congr 1
  simp

theorem wraps_i64 (n : Int) (h0 : 0 ≤ n) (h1 : n < 2 ^ 63) : IntKind.i64.wrap n = n := by rw [IntKind.wrap_i64]; omega
theorem and127 {x : Int} (h0 : 0 ≤ x) (h1 : x < 9223372036854775808) : Go.bits .and .i64 x 127 = x % 128 := by
  have h := bits_mask .i64 63 (by decide) wraps_i64 7 (by decide) x h0 (by omega)
  simpa using h
theorem or7 {x y : Int} (h0 : 0 ≤ x) (h1 : x < 9223372036854775808) (hx : x % 128 = 0) (hy0 : 0 ≤ y) (hy : y < 128) : Go.bits .or .i64 x y = x + y :=
  bits_join .i64 63 (by decide) wraps_i64 7 x y h0 (by simpa using hx) (by omega) hy0 (by omega) (by omega)
theorem or_128 {y : Int} (hy0 : 0 ≤ y) (hy : y < 128) : Go.bits .or .i64 y 128 = y + 128 := by
  obtain ⟨b, rfl⟩ := Int.eq_ofNat_of_zero_le hy0
  have h := (bits_nat .i64 63 (by decide) wraps_i64 b 128 (by omega) (by decide)).2
  have h2 := Nat.two_pow_add_eq_or_of_lt (i := 7) (b := b) (by omega) 1
  rw [Nat.or_comm] at h2
  have h3 : Go.bits .or .i64 ((b : Nat) : Int) 128 = ((b ||| 128 : Nat) : Int) := h
  have h4 : (b ||| 128 : Nat) = 128 + b := by simpa using h2.symm
  rw [h3, h4]
  omega
theorem shr_eq {x : Int} {s : Int} (j : Nat) (hs : s = (j : Int)) (hj : j ≤ 64) : shr .i64 x s = x / 2 ^ j := by
  subst hs
  unfold shr
  rw [Int.toNat_natCast, Nat.min_eq_left (by simpa [IntKind.bits] using hj)]

def BytesIn (b : List Int) : Prop := ∀ i : Int, 0 ≤ rd b i ∧ rd b i ≤ 255
theorem bytesIn_of {b : List Int} (h : ∀ x ∈ b, (Lit.int .u8 x).wf = true) : BytesIn b := by
  intro i
  unfold rd
  rw [List.getD_eq_getElem?_getD]
  cases e : b[i.toNat]? with
  | none => simp
  | some x => exact wf_u8 (h x (List.mem_of_getElem? e))
theorem BytesIn.mem {b : List Int} (h : BytesIn b) : ∀ x ∈ b, 0 ≤ x ∧ x ≤ 255 := by
  intro x hx
  obtain ⟨i, hi, rfl⟩ := List.mem_iff_getElem.1 hx
  have := h (i : Int)
  simpa [rd, List.getD_eq_getElem?_getD, List.getElem?_eq_getElem hi] using this
theorem BytesIn.of_mem {b : List Int} (h : ∀ x ∈ b, 0 ≤ x ∧ x ≤ 255) : BytesIn b := by
  intro i
  unfold rd
  rw [List.getD_eq_getElem?_getD]
  cases e : b[i.toNat]? with
  | none => simp
  | some x => exact h x (List.mem_of_getElem? e)
theorem BytesIn.nat {b : List Int} (h : BytesIn b) : ∀ x ∈ b, x.toNat < 4294967296 := fun x hx => by have := h.mem x hx; omega
theorem drop_cons_rd {b : List Int} {i : Nat} (h : i < b.length) : b.drop i = rd b (i : Int) :: b.drop (i + 1) := by
  rw [List.drop_eq_getElem_cons h, rd_nat, List.getD_eq_getElem?_getD, List.getElem?_eq_getElem h]
  rfl

theorem ofInt64 (a : Nat) (ha : a < 18446744073709551616) : (BitVec.ofInt 64 (a : Int)).toNat = a := by
  rw [BitVec.ofInt_natCast, BitVec.toNat_ofNat]; exact Nat.mod_eq_of_lt (by omega)
theorem ofInt32 (a : Nat) (ha : a < 4294967296) : (BitVec.ofInt 32 (a : Int)).toNat = a := by
  rw [BitVec.ofInt_natCast, BitVec.toNat_ofNat]; exact Nat.mod_eq_of_lt (by omega)
theorem xor_i64 (a b : Nat) (ha : a < 4294967296) (hb : b < 4294967296) : Go.bits .xor .i64 (a : Int) (b : Int) = ((a ^^^ b : Nat) : Int) := by
  have hx : a ^^^ b < 2 ^ 32 := Nat.xor_lt_two_pow (by omega) (by omega)
  show IntKind.i64.wrap ((BitVec.ofInt 64 (a : Int) ^^^ BitVec.ofInt 64 (b : Int)).toNat : Int) = _
  rw [BitVec.toNat_xor, ofInt64 a (by omega), ofInt64 b (by omega), IntKind.wrap_i64]
  omega
theorem xor_u32 (a b : Nat) (ha : a < 4294967296) (hb : b < 4294967296) : Go.bits .xor .u32 (a : Int) (b : Int) = ((a ^^^ b : Nat) : Int) := by
  have hx : a ^^^ b < 2 ^ 32 := Nat.xor_lt_two_pow (by omega) (by omega)
  show IntKind.u32.wrap ((BitVec.ofInt 32 (a : Int) ^^^ BitVec.ofInt 32 (b : Int)).toNat : Int) = _
  rw [BitVec.toNat_xor, ofInt32 a ha, ofInt32 b hb, IntKind.wrap_u32]
  omega
theorem xor_i64' (a : Nat) (v : Int) (ha : a < 4294967296) (h0 : 0 ≤ v) (h1 : v < 4294967296) : Go.bits .xor .i64 (a : Int) v = ((a ^^^ v.toNat : Nat) : Int) := by
  obtain ⟨c, rfl⟩ := Int.eq_ofNat_of_zero_le h0
  simpa using xor_i64 a c ha (by omega)
theorem and1_i64 (a : Nat) (ha : a < 4294967296) : Go.bits .and .i64 (a : Int) 1 = ((a % 2 : Nat) : Int) := by
  have h := bits_mask .i64 63 (by decide) wraps_i64 1 (by decide) (a : Int) (by omega) (by omega)
  have h2 : Go.bits .and .i64 (a : Int) 1 = (a : Int) % 2 := by simpa using h
  rw [h2]
  omega
theorem wraps_u32 (n : Int) (h0 : 0 ≤ n) (h1 : n < 2 ^ 32) : IntKind.u32.wrap n = n := by rw [IntKind.wrap_u32]; omega
theorem and1_u32 (a : Nat) (ha : a < 4294967296) : Go.bits .and .u32 (a : Int) 1 = ((a % 2 : Nat) : Int) := by
  have h := bits_mask .u32 32 (by decide) wraps_u32 1 (by decide) (a : Int) (by omega) (by omega)
  have h2 : Go.bits .and .u32 (a : Int) 1 = (a : Int) % 2 := by simpa using h
  rw [h2]
  omega
def crc1 (x : Nat) : Nat := if x % 2 = 1 then x / 2 ^^^ 2197175160 else x / 2
def crcR : Nat → Nat → Nat
  | 0, x => x
  | n + 1, x => crcR n (crc1 x)
def crcB (x c : Nat) : Nat := crcR 8 (x ^^^ c)
def crcL : List Int → Nat → Nat
  | [], x => x
  | c :: l, x => crcL l (crcB x c.toNat)
/-- The sum of bytes, as a number. -/
def sumN (l : List Int) : Int := ((crcL l 4294967295 ^^^ 4294967295 : Nat) : Int)
theorem xor32 {a b : Nat} (ha : a < 4294967296) (hb : b < 4294967296) : a ^^^ b < 4294967296 := by
  have := Nat.xor_lt_two_pow (n := 32) (x := a) (y := b) (by omega) (by omega)
  omega
theorem crc1_lt {x : Nat} (h : x < 4294967296) : crc1 x < 4294967296 := by
  unfold crc1
  split
  · exact xor32 (by omega) (by omega)
  · omega
theorem crcR_lt : ∀ (n : Nat) {x : Nat}, x < 4294967296 → crcR n x < 4294967296
  | 0, _, h => h
  | n + 1, _, h => crcR_lt n (crc1_lt h)
theorem crcB_lt {x c : Nat} (h : x < 4294967296) (hc : c < 4294967296) : crcB x c < 4294967296 := crcR_lt 8 (xor32 h hc)
theorem crcL_lt : ∀ (l : List Int), (∀ c ∈ l, c.toNat < 4294967296) → ∀ {x : Nat}, x < 4294967296 → crcL l x < 4294967296
  | [], _, _, h => h
  | c :: l, hl, _, h => crcL_lt l (fun d hd => hl d (List.mem_cons_of_mem _ hd)) (crcB_lt h (hl c List.mem_cons_self))
theorem sumN_range {l : List Int} (h : ∀ c ∈ l, c.toNat < 4294967296) : 0 ≤ sumN l ∧ sumN l ≤ 4294967295 := by
  have := xor32 (crcL_lt l h (x := 4294967295) (by omega)) (b := 4294967295) (by omega)
  unfold sumN
  omega

theorem spec_sum_l1 (b : List Int) (i : Nat) (r : Int) (hi : i < 281474976710656) : ∀ (d x j : Nat), j + d = 8 → x < 4294967296 → Ev (fun q => spec_Sum.l0 q b ((crcR d x : Nat) : Int) ((i + 1 : Nat) : Int)) r →
    Ev (fun q => spec_Sum.l1 q b (x : Int) (i : Int) (j : Int)) r := by
  intro d
  induction d with
  | zero =>
    intro x j hj hx h
    refine Ev.step (f := fun q => spec_Sum.l0 q b (x : Int) ((i + 1 : Nat) : Int)) (fun q => ?_) h
    simp only [spec_Sum.l1]
    rw [if_neg (by omega), wrap_id (i := (i : Int) + 1) (by omega) (by omega)]
    rfl
  | succ d ih =>
    intro x j hj hx h
    refine Ev.step (f := fun q => spec_Sum.l1 q b ((crc1 x : Nat) : Int) (i : Int) ((j + 1 : Nat) : Int)) (fun q => ?_) (ih (crc1 x) (j + 1) (by omega) (crc1_lt hx) h)
    simp only [spec_Sum.l1]
    have hd : (x : Int) / 2 = ((x / 2 : Nat) : Int) := by omega
    rw [if_pos (by omega), and1_i64 x hx, hd, wrap_id (i := (j : Int) + 1) (by omega) (by omega)]
    have e2 : (2197175160 : Int) = ((2197175160 : Nat) : Int) := rfl
    rw [e2, xor_i64 (x / 2) 2197175160 (by omega) (by omega)]
    unfold crc1
    by_cases h1 : x % 2 = 1
    · rw [if_pos h1, if_pos (by omega)]
      rfl
    · rw [if_neg h1, if_neg (by omega)]
      rfl
theorem spec_sum_l0 (b : List Int) (hb : BytesIn b) (hn : b.length < 281474976710656) : ∀ (d x i : Nat), i + d = b.length → x < 4294967296 → Ev (fun q => spec_Sum.l0 q b (x : Int) (i : Int)) ((crcL (b.drop i) x ^^^ 4294967295 : Nat) : Int) := by
  intro d
  induction d with
  | zero =>
    intro x i hi hx
    rw [List.drop_eq_nil_of_le (by omega)]
    refine Ev.step (f := fun _ => some _) (fun q => ?_) (Ev.now _)
    simp only [spec_Sum.l0]
    rw [if_neg (by omega)]
    have e2 : (4294967295 : Int) = ((4294967295 : Nat) : Int) := rfl
    rw [e2, xor_i64 x 4294967295 hx (by omega)]
    rfl
  | succ d ih =>
    intro x i hi hx
    have hc := hb (i : Int)
    rw [drop_cons_rd (by omega)]
    have hy : x ^^^ (rd b (i : Int)).toNat < 4294967296 := xor32 hx (by omega)
    refine Ev.step (f := fun q => spec_Sum.l1 q b ((x ^^^ (rd b (i : Int)).toNat : Nat) : Int) (i : Int) ((0 : Nat) : Int)) (fun q => ?_) (spec_sum_l1 b i _ (by omega) 8 _ 0 rfl hy (ih _ (i + 1) (by omega) (crcR_lt 8 hy)))
    simp only [spec_Sum.l0]
    rw [if_pos (by omega), if_pos (by omega), wrap_id (i := rd b (i : Int)) (by omega) (by omega), xor_i64' x _ hx (by omega) (by omega)]
    rfl
theorem spec_sum_ev (b : List Int) (hb : BytesIn b) (hn : b.length < 281474976710656) : Ev (fun q => spec_Sum.f q b) (sumN b) :=
  spec_sum_l0 b hb hn b.length 4294967295 0 (by omega) (by omega)

theorem impl_sum_l1 (b : List Int) (n : Int) (i : Nat) (r : Int) (hi : i < 281474976710656) : ∀ (d x j : Nat), j + d = 8 → x < 4294967296 → Ev (fun q => impl_Sum.l0 q ((crcR d x : Nat) : Int) b n ((i + 1 : Nat) : Int)) r →
    Ev (fun q => impl_Sum.l1 q (x : Int) b n (i : Int) (j : Int)) r := by
  intro d
  induction d with
  | zero =>
    intro x j hj hx h
    refine Ev.step (f := fun q => impl_Sum.l0 q (x : Int) b n ((i + 1 : Nat) : Int)) (fun q => ?_) h
    simp only [impl_Sum.l1]
    rw [if_neg (by omega), wrap_id (i := (i : Int) + 1) (by omega) (by omega)]
    rfl
  | succ d ih =>
    intro x j hj hx h
    refine Ev.step (f := fun q => impl_Sum.l1 q ((crc1 x : Nat) : Int) b n (i : Int) ((j + 1 : Nat) : Int)) (fun q => ?_) (ih (crc1 x) (j + 1) (by omega) (crc1_lt hx) h)
    simp only [impl_Sum.l1]
    have hd : (x : Int) / 2 = ((x / 2 : Nat) : Int) := by omega
    rw [if_pos (by omega), and1_u32 x hx, hd, wrap_id (i := (j : Int) + 1) (by omega) (by omega)]
    have e2 : (2197175160 : Int) = ((2197175160 : Nat) : Int) := rfl
    rw [e2, xor_u32 (x / 2) 2197175160 (by omega) (by omega)]
    unfold crc1
    by_cases h1 : x % 2 = 1
    · rw [if_pos h1, if_pos (by omega)]
      rfl
    · rw [if_neg h1, if_neg (by omega)]
      rfl
theorem impl_sum_l0 (b : List Int) (hb : BytesIn b) (hn : b.length < 281474976710656) : ∀ (d x i : Nat), i + d = b.length → x < 4294967296 → Ev (fun q => impl_Sum.l0 q (x : Int) b (b.length : Int) (i : Int)) ((crcL (b.drop i) x ^^^ 4294967295 : Nat) : Int) := by
  intro d
  induction d with
  | zero =>
    intro x i hi hx
    rw [List.drop_eq_nil_of_le (by omega)]
    refine Ev.step (f := fun _ => some _) (fun q => ?_) (Ev.now _)
    simp only [impl_Sum.l0]
    rw [if_neg (by omega)]
    have e2 : (4294967295 : Int) = ((4294967295 : Nat) : Int) := rfl
    have hy := xor32 (a := 4294967295) (b := x) (by omega) hx
    rw [e2, xor_u32 4294967295 x (by omega) hx, wrap_id (by omega) (by omega), Nat.xor_comm]
    rfl
  | succ d ih =>
    intro x i hi hx
    have hc := hb (i : Int)
    rw [drop_cons_rd (by omega)]
    have hcn : rd b (i : Int) % 4294967296 = (((rd b (i : Int)).toNat : Nat) : Int) := by omega
    have hy : x ^^^ (rd b (i : Int)).toNat < 4294967296 := xor32 hx (by omega)
    refine Ev.step (f := fun q => impl_Sum.l1 q ((x ^^^ (rd b (i : Int)).toNat : Nat) : Int) b (b.length : Int) (i : Int) ((0 : Nat) : Int)) (fun q => ?_) (impl_sum_l1 b _ i _ (by omega) 8 _ 0 rfl hy (ih _ (i + 1) (by omega) (crcR_lt 8 hy)))
    simp only [impl_Sum.l0]
    rw [if_pos (by omega), if_pos (by omega), if_pos (by omega), hcn, xor_u32 x _ hx (by omega)]
    rfl
theorem impl_sum_ev (b : List Int) (hb : BytesIn b) (hn : b.length < 281474976710656) : Ev (fun q => impl_Sum.f q b) (sumN b) :=
  impl_sum_l0 b hb hn b.length 4294967295 0 (by omega) (by omega)

theorem bytesOf_in (s : ByteArray) : BytesIn (bytesOf s) := by
  apply BytesIn.of_mem
  intro x hx
  simp only [bytesOf, List.mem_map] at hx
  obtain ⟨b, _, rfl⟩ := hx
  have := b.toNat_lt
  omega

def markR (s : ByteArray) : Int × Int := (sumN (bytesOf s) % 64, sumN (bytesOf s) / 64 % 64)
theorem markR_range (s : ByteArray) : 0 ≤ (markR s).1 ∧ (markR s).1 < 64 ∧ 0 ≤ (markR s).2 ∧ (markR s).2 < 64 := by unfold markR; dsimp only; omega
theorem mark_arith {t : Int} (h0 : 0 ≤ t) (h1 : t ≤ 4294967295) : (Int.tmod t 64, Int.tmod (wrap64 (Int.tdiv t 64)) 64) = (t % 64, t / 64 % 64) := by
  rw [Int.tmod_eq_emod_of_nonneg h0, Int.tdiv_eq_ediv_of_nonneg h0, wrap_id (by omega) (by omega), Int.tmod_eq_emod_of_nonneg (by omega)]
theorem spec_mark_ev (s : ByteArray) (h : s.size < 281474976710656) : Ev (fun k => spec_Mark.f k s) (markR s) := by
  obtain ⟨K, h2⟩ := spec_sum_ev (bytesOf s) (bytesOf_in s) (by rw [bytesOf_length]; omega)
  have hr := sumN_range (bytesOf_in s).nat
  dsimp only at h2
  refine ⟨K, fun k hk => ?_⟩
  simp only [spec_Mark.f]
  rw [if_pos (by omega), h2 k hk, Option.bind_some, mark_arith hr.1 hr.2]
  rfl
theorem impl_mark_ev (s : ByteArray) (h : s.size < 281474976710656) : Ev (fun k => impl_Mark.f k s) (markR s) := by
  obtain ⟨K, h2⟩ := impl_sum_ev (bytesOf s) (bytesOf_in s) (by rw [bytesOf_length]; omega)
  have hr := sumN_range (bytesOf_in s).nat
  dsimp only at h2
  refine ⟨K, fun k hk => ?_⟩
  simp only [impl_Mark.f]
  rw [if_pos (by omega), h2 k hk, Option.bind_some, mark_arith hr.1 hr.2]
  rfl

theorem div8 {t : Int} (h0 : 0 ≤ t) (h1 : t < 64) : wrap64 (Int.tdiv t 8) = t / 8 := by
  rw [Int.tdiv_eq_ediv_of_nonneg h0, wrap_id (by omega) (by omega)]
theorem mod8 {t : Int} (h0 : 0 ≤ t) : Int.tmod t 8 = t % 8 := Int.tmod_eq_emod_of_nonneg h0
theorem u64_small {t : Int} (h0 : 0 ≤ t) (h1 : t < 64) : IntKind.u64.wrap t = t := by
  simp only [IntKind.wrap, IntKind.bits, IntKind.signed]
  simp
  omega

theorem filter_both (xs : List ByteArray) (hn : xs.length ≤ 1048576) (hs : ∀ x ∈ xs, x.size ≤ 1048576) : Both (fun r => r.length = 8) (fun k => spec_Filter.f k xs) (fun k => impl_Filter.f k xs) := by
  have key : ∀ (d i : Nat) (out : List Int), i + d = xs.length → out.length = 8 → Both (fun r => r.length = 8) (fun k => spec_Filter.l0 k xs out (i : Int)) (fun k => impl_Filter.l0 k out xs (xs.length : Int) (i : Int)) := by
    intro d
    induction d with
    | zero =>
      intro i out hi ho
      refine Both.step (fun k => spec_Filter.l0.eq_2 ..) (fun k => impl_Filter.l0.eq_2 ..) ?_
      have e1 : ((i : Int) < (xs.length : Int)) = False := eq_false (by omega)
      simp only [e1, if_false]
      exact Both.ret _ ho
    | succ d ih =>
      intro i out hi ho
      refine Both.step (fun k => spec_Filter.l0.eq_2 ..) (fun k => impl_Filter.l0.eq_2 ..) ?_
      have e1 : ((i : Int) < (xs.length : Int)) = True := eq_true (by omega)
      have e2 : (0 ≤ (i : Int)) = True := eq_true (by omega)
      have ew : wrap64 ((i : Int) + 1) = ((i + 1 : Nat) : Int) := wrap_succ (n := xs.length) (by omega) (by omega)
      have eg : rdOf ByteArray.empty xs (i : Int) = xs.getD i ByteArray.empty := by simp [rdOf]
      have hm : (xs.getD i ByteArray.empty).size ≤ 1048576 := hs _ (by
        rw [List.getD_eq_getElem?_getD, List.getElem?_eq_getElem (show i < xs.length by omega)]
        exact List.getElem_mem _)
      simp only [e1, e2, if_true, ew, eg, Option.bind_some]
      refine Both.bind (Both.of (spec_mark_ev _ (by omega)) (impl_mark_ev _ (by omega)) (rfl : (fun b => b = markR (xs.getD i ByteArray.empty)) _)) (fun b hb => ?_)
      obtain ⟨r1, r2, r3, r4⟩ := markR_range (xs.getD i ByteArray.empty)
      rw [hb] at r1 r2 r3 r4
      have q1 : (0 ≤ b.1 / 8) = True := eq_true (by omega)
      have q2 : (b.1 / 8 < (out.length : Int)) = True := eq_true (by omega)
      have q3 : (0 ≤ b.1 % 8) = True := eq_true (by omega)
      have q4 : (0 ≤ b.2 / 8) = True := eq_true (by omega)
      have q5 : (b.2 / 8 < (out.length : Int)) = True := eq_true (by omega)
      have q6 : (0 ≤ b.2 % 8) = True := eq_true (by omega)
      have d1 := div8 r1 r2
      have d2 := div8 r3 r4
      have m1 := mod8 r1
      have m2 := mod8 r3
      have u1 := u64_small (t := b.1 % 8) (by omega) (by omega)
      have u2 := u64_small (t := b.2 % 8) (by omega) (by omega)
      simp only [d1, d2, m1, m2, u1, u2, q1, q2, q3, q4, q5, q6, if_true]
      exact ih (i + 1) _ (by omega) (by simp [ho])
  have h8 : (8 ≤ 281474976710656) = True := eq_true (by omega)
  simp only [spec_Filter.f, impl_Filter.f, h8, if_true]
  exact key xs.length 0 _ (by omega) (by simp)

theorem FnExactFilter : laws_FnExactFilter.Pure := by
  intro xs hx
  refine Comes.true_ ?_
  simp only [laws_FnExactFilter.f]
  refine Comes.bind (szStringS_comes xs hx 1048576 (by omega) (by omega)) (fun t ht => Comes.ite (fun _ => Comes.ret true rfl) (fun hn => ?_))
  have hb := ht.2 (by omega)
  have hlen : xs.length ≤ 1048576 := by omega
  obtain ⟨r, hr, h2, h3⟩ := filter_both xs hlen hb.2
  obtain ⟨K1, h1⟩ := toStringS_ev xs hlen
  obtain ⟨K2, h2⟩ := h2
  obtain ⟨K3, h3⟩ := h3
  obtain ⟨K4, h4⟩ := eqByteS_ev r (by omega)
  obtain ⟨K5, h5⟩ := eqStringS_ev xs (by omega)
  obtain ⟨K6, h6⟩ := markStringS_ev xs 1 (by omega) (by omega)
  obtain ⟨K7, h7⟩ := markByteS_ev r 1 (by omega) (by omega)
  obtain ⟨K8, h8⟩ := heldByteS_ev 1 r.length (by omega) (by omega)
  dsimp only at h1 h2 h3 h4 h5 h6 h7 h8
  refine ⟨true, rfl, K1 + K2 + K3 + K4 + K5 + K6 + K7 + K8 + 1, fun k hk => ?_⟩
  obtain ⟨m, rfl⟩ : ∃ m, k = m + 1 := ⟨k - 1, by omega⟩
  dsimp only
  rw [h1 _ (by omega), Option.bind_some, h2 _ (by omega), Option.bind_some, Option.bind_some, h3 _ (by omega), Option.bind_some, h4 _ (by omega), Option.bind_some, if_pos rfl, Option.bind_some, h5 _ (by omega), Option.bind_some, if_pos rfl, h6 _ (by omega), Option.bind_some, if_neg (by simp only []; omega), Option.bind_some]
  simp only [laws_FnExactFilter.j0, Bool.not_true]
  rw [if_neg (by simp), h7 _ (by omega), Option.bind_some, h8 _ (by omega), Option.bind_some, if_neg (by omega), if_pos rfl, h1 _ (by omega), Option.bind_some, h3 _ (by omega), Option.bind_some, h4 _ (by omega), Option.bind_some, if_pos rfl, Option.bind_some, if_neg (by omega), if_pos rfl]

end Go.Proofs.Ytgncojbnejdplaa.MPureFnExactFilter
