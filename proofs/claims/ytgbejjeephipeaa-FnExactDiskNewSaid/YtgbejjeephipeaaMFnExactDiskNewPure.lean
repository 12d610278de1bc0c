/- DiskNew of the program and of the reference answer the same, and what it answers is new memory. No condition. -/
import Derived.Test.YtgbejjeephipeaaMFnExactDiskNewDef
set_option linter.unusedVariables false
set_option linter.unusedSimpArgs false
namespace Go.Proofs.Ytgbejjeephipeaa.MPureFnExactDiskNew
open Go.RowKit Go.Proofs.Ytgbejjeephipeaa.MFnExactDiskNew Go.Proofs.YtgbejjeephipeaaW.PrintWords Go.Proofs.YtgbejjeephipeaaW.PrintLast Go.Proofs.YtgbejjeephipeaaW.PrintMore

theorem wrap_id {i : Int} (h0 : -9223372036854775808 ≤ i) (h1 : i ≤ 9223372036854775807) : wrap64 i = i := by unfold wrap64; omega
theorem wrap_succ {i n : Nat} (h : i < n) (hn : n ≤ 9223372036854775807) : wrap64 ((i : Int) + 1) = ((i + 1 : Nat) : Int) := by unfold wrap64; omega
theorem rd_nat (xs : List Int) (i : Nat) : rd xs (i : Int) = xs.getD i 0 := by simp [rd]
theorem take_set_succ {α : Type} (l : List α) (i : Nat) (x : α) (h : i < l.length) : (l.set i x).take (i + 1) = l.take i ++ [x] := by
  rw [List.take_succ_eq_append_getElem (by simpa using h), List.getElem_set_self, List.take_set_of_le (Nat.le_refl _)]
theorem take_succ_getD {α : Type} (l : List α) (i : Nat) (d : α) (h : i < l.length) : l.take (i + 1) = l.take i ++ [l.getD i d] := by
  rw [List.take_succ_eq_append_getElem h, List.getD_eq_getElem?_getD, List.getElem?_eq_getElem h]
  rfl
theorem take_all {α : Type} {l m : List α} {n : Nat} (h : l.take n = m) (hl : l.length = n) : l = m := by
  rw [← h, ← hl, List.take_length]
theorem wf_u8 {x : Int} (h : (Lit.int .u8 x).wf = true) : 0 ≤ x ∧ x ≤ 255 := by
  simp [Lit.wf, IntKind.min, IntKind.max, IntKind.signed, IntKind.bits] at h
  omega
theorem wf_i64 {x : Int} (h : (Lit.int .i64 x).wf = true) : -9223372036854775808 ≤ x ∧ x ≤ 9223372036854775807 := by
  simp [Lit.wf, IntKind.min, IntKind.max, IntKind.signed, IntKind.bits] at h
  omega

def markB (a : Int) (n : Nat) : List Int := (List.range n).map fun (j : Nat) => (a + (j : Int)) % 256
theorem markB_length (a : Int) (n : Nat) : (markB a n).length = n := by simp [markB]
theorem markB_succ (a : Int) (n : Nat) : markB a (n + 1) = markB a n ++ [(a + (n : Int)) % 256] := by simp [markB, List.range_succ]
theorem markB_get (a : Int) (n i : Nat) (h : i < n) : (markB a n).getD i 0 = (a + (i : Int)) % 256 := by
  simp [markB, List.getD_eq_getElem?_getD, h]
theorem markByteS_l0 (a : Int) (n : Nat) (ha : 0 ≤ a) (hb : a + n ≤ 9223372036854775806) : ∀ (d : Nat) (l : List Int) (i : Nat), i + d = n → l.length = n → l.take i = markB a i →
    Ev (fun k => laws_markByteS.l0 k l (a + (i : Int)) (i : Int)) (a + (n : Int), markB a n) := by
  intro d
  induction d with
  | zero =>
    intro l i hi hl ht
    have hin : i = n := by omega
    subst hin
    have e : l = markB a i := take_all ht hl
    refine Ev.step (f := fun _ => some (a + (i : Int), markB a i)) (fun k => ?_) (Ev.now _)
    simp only [laws_markByteS.l0]
    rw [if_neg (by omega), e]
  | succ d ih =>
    intro l i hi hl ht
    refine Ev.step (f := fun k => laws_markByteS.l0 k (l.set i ((a + (i : Int)) % 256)) (a + ((i + 1 : Nat) : Int)) ((i + 1 : Nat) : Int)) (fun k => ?_) (ih _ _ (by omega) (by simp [hl]) ?_)
    · simp only [laws_markByteS.l0]
      rw [if_pos (by omega), if_pos (by omega), wrap_succ (n := n) (by omega) (by omega), Int.toNat_natCast, wrap_id (i := a + (i : Int) + 1) (by omega) (by omega)]
      congr 1
      omega
    · rw [take_set_succ _ _ _ (by omega), markB_succ, ht]
theorem markByteS_ev (l : List Int) (a : Int) (ha : 0 ≤ a) (hb : a + l.length ≤ 9223372036854775806) : Ev (fun k => laws_markByteS.f k l a) (a + (l.length : Int), markB a l.length) := by
  refine Ev.congr (fun k => ?_) (markByteS_l0 a l.length ha hb l.length l 0 (by omega) rfl rfl)
  simp only [laws_markByteS.f]
  congr 1
  simp

theorem fill_loop {β : Type} (L : Nat → List β → Int → Option (List β)) (n : Nat) (g : Nat → β) (z : β)
    (hs : ∀ (i : Nat) (out : List β) (r : List β), i < n → out.length = n → Ev (fun k => L k (out.set i (g i)) ((i + 1 : Nat) : Int)) r → Ev (fun k => L k out (i : Int)) r)
    (he : ∀ out : List β, out.length = n → Ev (fun k => L k out (n : Int)) out) : Ev (fun k => L k (List.replicate n z) 0) ((List.range n).map g) := by
  have key : ∀ (d i : Nat) (out : List β), i + d = n → out.length = n → out.take i = (List.range i).map g → Ev (fun k => L k out (i : Int)) ((List.range n).map g) := by
    intro d
    induction d with
    | zero =>
      intro i out hi hl ht
      have : i = n := by omega
      subst this
      have e := take_all ht hl
      rw [← e]
      exact he out hl
    | succ d ih =>
      intro i out hi hl ht
      refine hs i out _ (by omega) hl (ih (i + 1) _ (by omega) (by simp [hl]) ?_)
      rw [take_set_succ _ _ _ (by omega), ht, List.range_succ, List.map_append]
      rfl
  exact key n 0 _ (by omega) (by simp) (by simp)
/-- A row that is written from the left: element i becomes g i, and a state goes along. -/
theorem mark_loop {β σ : Type} (L : Nat → List β → σ → Int → Option (σ × List β)) (n : Nat) (g : Nat → β) (st : Nat → σ)
    (hs : ∀ (i : Nat) (out : List β) (r : σ × List β), i < n → out.length = n → Ev (fun k => L k (out.set i (g i)) (st (i + 1)) ((i + 1 : Nat) : Int)) r → Ev (fun k => L k out (st i) (i : Int)) r)
    (he : ∀ out : List β, out.length = n → Ev (fun k => L k out (st n) (n : Int)) (st n, out)) (l : List β) (hl : l.length = n) : Ev (fun k => L k l (st 0) 0) (st n, (List.range n).map g) := by
  have key : ∀ (d i : Nat) (out : List β), i + d = n → out.length = n → out.take i = (List.range i).map g → Ev (fun k => L k out (st i) (i : Int)) (st n, (List.range n).map g) := by
    intro d
    induction d with
    | zero =>
      intro i out hi hl ht
      have : i = n := by omega
      subst this
      have e := take_all ht hl
      rw [← e]
      exact he out hl
    | succ d ih =>
      intro i out hi hl ht
      refine hs i out _ (by omega) hl (ih (i + 1) _ (by omega) (by simp [hl]) ?_)
      rw [take_set_succ _ _ _ (by omega), ht, List.range_succ, List.map_append]
      rfl
  exact key n 0 _ (by omega) hl (by simp)
theorem scan_loop {ρ : Type} (g : Nat → Nat → Option ρ) (n : Nat) (r : ρ) (hs : ∀ i, i < n → Ev (g (i + 1)) r → Ev (g i) r) (he : Ev (g n) r) : Ev (g 0) r := by
  have key : ∀ (d i : Nat), i + d = n → Ev (g i) r := by
    intro d
    induction d with
    | zero => intro i hi; have : i = n := by omega
              subst this; exact he
    | succ d ih => intro i hi; exact hs i (by omega) (ih (i + 1) (by omega))
  exact key n 0 (by omega)
theorem range_map_get {α β : Type} (l : List α) (f : α → β) (d : α) : (List.range l.length).map (fun i => f (l.getD i d)) = l.map f := by
  apply List.ext_getElem?
  intro i
  rw [List.getElem?_map, List.getElem?_map]
  by_cases h : i < l.length
  · simp [h, List.getD_eq_getElem?_getD]
  · rw [List.getElem?_eq_none (by simp; omega), List.getElem?_eq_none (by omega)]
    rfl
theorem range_map_getD {β : Type} (n i : Nat) (g : Nat → β) (d : β) (h : i < n) : ((List.range n).map g).getD i d = g i := by
  simp [List.getD_eq_getElem?_getD, h]
theorem Ev.bind' {α β : Type} {g : Nat → Option α} {f : Nat → α → Option β} {a : α} {r : β} (h : Ev g a) (k : Ev (fun n => f n a) r) : Ev (fun n => (g n).bind (f n)) r := Ev.bind h k
theorem Ev.cond {α : Type} {g f : Nat → Option α} {r : α} (h : ∃ K, ∀ k, K ≤ k → g k = f k) (k : Ev f r) : Ev g r := by
  obtain ⟨K, h⟩ := h
  obtain ⟨K', k⟩ := k
  exact ⟨K + K', fun n hn => by rw [h n (by omega)]; exact k n (by omega)⟩
/-- One round: at n + 1 it is what it is at n of another. -/
theorem Ev.round {α : Type} {g f : Nat → Option α} {r : α} (h : ∃ K, ∀ k, K ≤ k → g (k + 1) = f k) (k : Ev f r) : Ev g r := by
  obtain ⟨K, h⟩ := h
  obtain ⟨K', k⟩ := k
  exact ⟨K + K' + 1, fun n hn => by
    obtain ⟨m, rfl⟩ : ∃ m, n = m + 1 := ⟨n - 1, by omega⟩
    rw [h m (by omega)]; exact k m (by omega)⟩
theorem Ev.ends {α : Type} {g : Nat → Option α} {r : α} (h : ∀ k, g (k + 1) = some r) : Ev g r := ⟨1, fun n hn => by
  obtain ⟨m, rfl⟩ : ∃ m, n = m + 1 := ⟨n - 1, by omega⟩
  exact h m⟩
theorem Ev.all {α : Type} {g : Nat → Option α} {r : α} (h : ∀ k, g k = some r) : Ev g r := ⟨0, fun n _ => h n⟩

def mtR : Nat → Int → ByteArray → ByteArray
  | 0, _, s => s
  | d + 1, k, s => if k > 0 then mtR d (k / 10) (strOfNums [(48 + k % 10) % 256] ++ s) else s
/-- The text 'm' and the digits of k. -/
def mtext (k : Int) : ByteArray := if k ≤ 0 then ⟨#[109, 48]⟩ else ⟨#[109]⟩ ++ mtR 20 k ⟨#[]⟩
theorem markText_l0 : ∀ (d : Nat) (k : Int) (s : ByteArray), k < 10 ^ d → k ≤ 9223372036854775807 → s.size + d ≤ 9223372036854775806 → Ev (fun q => laws_markText.l0 q k s) (⟨#[109]⟩ ++ mtR d k s) := by
  intro d
  induction d with
  | zero =>
    intro k s hk hk2 hs
    refine Ev.ends (fun q => ?_)
    simp only [laws_markText.l0]
    rw [if_neg (by omega), if_pos (by omega)]
    rfl
  | succ d ih =>
    intro k s hk hk2 hs
    by_cases h0 : k > 0
    · have hp : (10 : Int) ^ (d + 1) = 10 ^ d * 10 := Int.pow_succ ..
      have hsz : (strOfNums [(48 + k % 10) % 256] ++ s).size = 1 + s.size := by rw [ByteArray.size_append]; rfl
      have hm : Int.tmod k 10 = k % 10 := Int.tmod_eq_emod_of_nonneg (by omega)
      have hd : Int.tdiv k 10 = k / 10 := Int.tdiv_eq_ediv_of_nonneg (by omega)
      have := ih (k / 10) (strOfNums [(48 + k % 10) % 256] ++ s) (by omega) (by omega) (by omega)
      unfold mtR
      rw [if_pos h0]
      refine Ev.step (fun q => ?_) this
      simp only [laws_markText.l0, Option.bind_some]
      rw [if_pos h0, hm, hd, wrap_id (i := 48 + k % 10) (by omega) (by omega), wrap_id (i := k / 10) (by omega) (by omega), if_pos (by rw [← ByteArray.size_append, hsz]; omega)]
    · unfold mtR
      rw [if_neg h0]
      refine Ev.ends (fun q => ?_)
      simp only [laws_markText.l0]
      rw [if_neg h0, if_pos (by omega)]
theorem markText_ev (k : Int) (h : k ≤ 9223372036854775807) : Ev (fun q => laws_markText.f q k) (mtext k) := by
  unfold mtext
  by_cases h0 : k ≤ 0
  · rw [if_pos h0]
    exact Ev.all (fun q => by simp only [laws_markText.f]; rw [if_pos h0])
  · rw [if_neg h0]
    refine Ev.congr (fun q => ?_) (markText_l0 20 k ⟨#[]⟩ (by omega) h (show (0 : Nat) + 20 ≤ 9223372036854775806 by omega))
    simp only [laws_markText.f]
    rw [if_neg h0]

theorem getD_set_eq {α : Type} {l : List α} {i : Nat} (x z : α) (h : i < l.length) : (l.set i x).getD i z = x := by
  rw [List.getD_eq_getElem?_getD, List.getElem?_set_self h]
  rfl

def mkEntry (k : Int) : S126 := (⟨mtext (k), (k + 1)⟩ : S126)
def mkEntryL (a : Int) (n : Nat) : List S126 := (List.range n).map fun (i : Nat) => mkEntry (a + 2 * (i : Int))
theorem mkEntryL_length (a : Int) (n : Nat) : (mkEntryL a n).length = n := by simp [mkEntryL]
theorem markEntryS_ev (l : List S126) (a : Int) (ha : 0 ≤ a) (hb : a + 2 * (l.length : Int) ≤ 4611686018427387904) : Ev (fun k => laws_markEntryS.f k l a) (a + 2 * (l.length : Int), mkEntryL a l.length) := by
  have hm := mark_loop (fun k out s i => laws_markEntryS.l0 k out s i) l.length (fun i => mkEntry (a + 2 * (i : Int))) (fun i => a + 2 * (i : Int)) (fun i out r hi hl h => ?_) (fun out hl => ?_) l rfl
  · refine Ev.congr (fun k => ?_) hm
    simp only [laws_markEntryS.f]
    congr 1
    simp
  · (try dsimp only at h ⊢)
    obtain ⟨K0, h0⟩ := markText_ev (a + 2 * (i : Int)) (by omega)
    refine Ev.round ⟨0 + K0, fun k hk => ?_⟩ h
    have t0 := h0 k (by omega)
    dsimp only at t0
    have e1 : ((i : Int) < (out.length : Int)) = True := eq_true (by omega)
    have e2 : (0 ≤ (i : Int)) = True := eq_true (by omega)
    have ew : wrap64 ((i : Int) + 1) = ((i + 1 : Nat) : Int) := wrap_succ (n := l.length) hi (by omega)
    have w1 : wrap64 (a + 2 * (i : Int) + 1) = a + 2 * (i : Int) + 1 := wrap_id (by omega) (by omega)
    have w2 : wrap64 (a + 2 * (i : Int) + 2) = a + 2 * (i : Int) + 2 := wrap_id (by omega) (by omega)
    have ad2 : a + 2 * (i : Int) + 1 + 1 = a + 2 * (i : Int) + 2 := by omega
    have ae : a + 2 * (i : Int) + 2 = a + 2 * ((i + 1 : Nat) : Int) := by omega
    simp only [laws_markEntryS.l0, e1, e2, if_true, t0, Option.bind_some, w1, w2, ad2, ew, rd_T126, Int.toNat_natCast, List.set_set, getD_set_eq _ _ (show i < out.length by omega)]
    (rw [ae]) <;> rfl
  · refine Ev.ends (fun k => ?_)
    simp only [laws_markEntryS.l0]
    rw [if_neg (by omega)]

theorem eqEntry_self (x : S126) : laws_eqEntry.f x.f0 x.f1 x.f0 x.f1 = some true := by
  simp [laws_eqEntry.f]
theorem eqEntryS_ev (l : List S126) (h : l.length ≤ 9223372036854775806) : Ev (fun k => laws_eqEntryS.f k l l) true := by
  refine Ev.congr (fun k => ?_) (scan_loop (fun i k => laws_eqEntryS.l0 k l l (i : Int)) l.length true (fun i hi h => ?_) ?_)
  · simp only [laws_eqEntryS.f]
    rw [if_pos trivial]
    rfl
  · refine Ev.step (fun k => ?_) h
    simp only [laws_eqEntryS.l0, eqEntry_self, Option.bind_some]
    rw [if_pos (by omega), if_pos (by omega), if_pos (by omega), wrap_succ (n := l.length) hi (by omega)]
    rfl
  · refine Ev.ends (fun k => ?_)
    simp only [laws_eqEntryS.l0]
    rw [if_neg (by omega)]

theorem eqByteS_l0 (xs : List Int) (hn : xs.length ≤ 9223372036854775806) : ∀ (d i : Nat), i + d = xs.length → Ev (fun k => laws_eqByteS.l0 k xs xs (i : Int)) true := by
  intro d
  induction d with
  | zero =>
    intro i hi
    refine Ev.step (f := fun _ => some true) (fun k => ?_) (Ev.now true)
    simp only [laws_eqByteS.l0]
    rw [if_neg (by omega)]
  | succ d ih =>
    intro i hi
    refine Ev.step (f := fun k => laws_eqByteS.l0 k xs xs ((i + 1 : Nat) : Int)) (fun k => ?_) (ih _ (by omega))
    simp only [laws_eqByteS.l0]
    rw [if_pos (by omega), if_pos (by omega), if_pos (by omega), if_pos trivial, wrap_succ (n := xs.length) (by omega) (by omega)]
theorem eqByteS_ev (xs : List Int) (hn : xs.length ≤ 9223372036854775806) : Ev (fun k => laws_eqByteS.f k xs xs) true := by
  refine Ev.congr (fun k => ?_) (eqByteS_l0 xs hn xs.length 0 (by omega))
  simp only [laws_eqByteS.f]
  rw [if_pos trivial]
  rfl

/-- Both come to one answer, of which P holds. -/
def Both {α : Type} (P : α → Prop) (f g : Nat → Option α) : Prop := ∃ r, P r ∧ Ev f r ∧ Ev g r
namespace Both
variable {α β : Type} {P : α → Prop} {f f' g g' : Nat → Option α}
theorem step (h1 : ∀ k, f (k + 1) = f' k) (h2 : ∀ k, g (k + 1) = g' k) (h : Both P f' g') : Both P f g := by
  obtain ⟨r, hp, a, b⟩ := h
  exact ⟨r, hp, Ev.step h1 a, Ev.step h2 b⟩
theorem left (h1 : ∀ k, f (k + 1) = f' k) (h : Both P f' g) : Both P f g := by
  obtain ⟨r, hp, a, b⟩ := h
  exact ⟨r, hp, Ev.step h1 a, b⟩
theorem right (h2 : ∀ k, g (k + 1) = g' k) (h : Both P f g') : Both P f g := by
  obtain ⟨r, hp, a, b⟩ := h
  exact ⟨r, hp, a, Ev.step h2 b⟩
theorem ret (r : α) (h : P r) : Both P (fun _ => some r) (fun _ => some r) := ⟨r, h, Ev.now r, Ev.now r⟩
theorem ite {c : Prop} [Decidable c] (h1 : c → Both P f g) (h2 : ¬ c → Both P f' g') : Both P (fun k => if c then f k else f' k) (fun k => if c then g k else g' k) := by
  by_cases h : c
  · simpa only [if_pos h] using h1 h
  · simpa only [if_neg h] using h2 h
theorem bind {Q : β → Prop} {p q : Nat → Option β} {F G : Nat → β → Option α} (h : Both Q p q) (k : ∀ b, Q b → Both P (fun n => F n b) (fun n => G n b)) : Both P (fun n => (p n).bind (F n)) (fun n => (q n).bind (G n)) := by
  obtain ⟨b, hq, h1, h2⟩ := h
  obtain ⟨r, hp, a, c⟩ := k b hq
  exact ⟨r, hp, Ev.bind h1 a, Ev.bind h2 c⟩
theorem of {r : α} (h1 : Ev f r) (h2 : Ev g r) (hp : P r) : Both P f g := ⟨r, hp, h1, h2⟩
theorem eq {r : α} (h1 : Ev f r) (h2 : Ev g r) : Both (fun x => x = r) f g := ⟨r, rfl, h1, h2⟩
theorem any {Q : α → Prop} (h : Both Q f g) : Both (fun _ => True) f g := by
  obtain ⟨r, _, a, b⟩ := h
  exact ⟨r, trivial, a, b⟩
theorem mono {P' : α → Prop} (h : Both P f g) (hi : ∀ r, P r → P' r) : Both P' f g := by
  obtain ⟨r, hp, a, b⟩ := h
  exact ⟨r, hi r hp, a, b⟩
end Both
/-- It comes to an answer, of which P holds. -/
def Comes {α : Type} (P : α → Prop) (f : Nat → Option α) : Prop := ∃ r, P r ∧ Ev f r
namespace Comes
variable {α β : Type} {P : α → Prop} {f f' : Nat → Option α}
theorem step (h1 : ∀ k, f (k + 1) = f' k) (h : Comes P f') : Comes P f := by
  obtain ⟨r, hp, a⟩ := h
  exact ⟨r, hp, Ev.step h1 a⟩
theorem ret (r : α) (h : P r) : Comes P (fun _ => some r) := ⟨r, h, Ev.now r⟩
theorem ite {c : Prop} [Decidable c] (h1 : c → Comes P f) (h2 : ¬ c → Comes P f') : Comes P (fun k => if c then f k else f' k) := by
  by_cases h : c
  · simpa only [if_pos h] using h1 h
  · simpa only [if_neg h] using h2 h
theorem bind {Q : β → Prop} {p : Nat → Option β} {F : Nat → β → Option α} (h : Comes Q p) (k : ∀ b, Q b → Comes P (fun n => F n b)) : Comes P (fun n => (p n).bind (F n)) := by
  obtain ⟨b, hq, h1⟩ := h
  obtain ⟨r, hp, a⟩ := k b hq
  exact ⟨r, hp, Ev.bind h1 a⟩
theorem mono {P' : α → Prop} (h : Comes P f) (hi : ∀ r, P r → P' r) : Comes P' f := by
  obtain ⟨r, hp, a⟩ := h
  exact ⟨r, hi r hp, a⟩
theorem rounds (h : Comes P f) : ∃ k r, f k = some r ∧ P r := by
  obtain ⟨r, hp, a⟩ := h
  obtain ⟨k, hk⟩ := a.rounds
  exact ⟨k, r, hk, hp⟩
theorem true_ {f : Nat → Option Bool} (h : Comes (fun b => b = true) f) : ∃ k, f k = some true := by
  obtain ⟨k, r, hk, rfl⟩ := h.rounds
  exact ⟨k, hk⟩
theorem some_ (o : Option α) (r : α) (h : o = some r) (hp : P r) : Comes P (fun _ => o) := ⟨r, hp, Ev.all (fun _ => h)⟩
end Comes

theorem sz_loop {α : Type} (l : List α) (z : α) (B : α → Prop) (F : Nat → Int → Int → Option Int) (g : Nat → Int → Nat → Option Int) (hl : l.length ≤ 9223372036854775806)
    (hF : ∀ (k : Nat) (a : Int) (i : Nat), i < l.length → 0 ≤ a → a ≤ 1048576 → F (k + 1) a (i : Int) = (g i a k).bind fun t => if t < 0 then some (-1) else F k t ((i + 1 : Nat) : Int))
    (hg : ∀ (i : Nat) (a : Int), i < l.length → 0 ≤ a → a ≤ 1048576 → Comes (fun t => t ≤ a ∧ (0 ≤ t → B (l.getD i z))) (g i a))
    (he : ∀ (k : Nat) (a : Int), F (k + 1) a (l.length : Int) = some a) (a : Int) (ha : 0 ≤ a) (hb : a ≤ 1048576) : Comes (fun t => t ≤ a ∧ (0 ≤ t → ∀ x ∈ l, B x)) (fun k => F k a 0) := by
  have key : ∀ (d i : Nat) (a : Int), i + d = l.length → 0 ≤ a → a ≤ 1048576 → Comes (fun t => t ≤ a ∧ (0 ≤ t → ∀ j, i ≤ j → j < l.length → B (l.getD j z))) (fun k => F k a (i : Int)) := by
    intro d
    induction d with
    | zero =>
      intro i a hi ha hb
      have : i = l.length := by omega
      subst this
      refine Comes.step (fun k => he k a) (Comes.ret a ⟨Int.le_refl a, fun _ j h1 h2 => by omega⟩)
    | succ d ih =>
      intro i a hi ha hb
      refine Comes.step (fun k => hF k a i (by omega) ha hb) (Comes.bind (hg i a (by omega) ha hb) (fun t ht => Comes.ite (fun _ => Comes.ret (-1) ⟨by omega, fun h => by omega⟩) (fun hn => ?_)))
      refine (ih (i + 1) t (by omega) (by omega) (by omega)).mono (fun r hr => ⟨by omega, fun h0 j h1 h2 => ?_⟩)
      by_cases hj : j = i
      · subst hj
        exact ht.2 (by omega)
      · exact hr.2 h0 j (by omega) h2
  refine (key l.length 0 a (by omega) ha hb).mono (fun r hr => ⟨hr.1, fun h0 x hx => ?_⟩)
  obtain ⟨j, hj, rfl⟩ := List.mem_iff_getElem.1 hx
  have := hr.2 h0 j (by omega) hj
  rwa [List.getD_eq_getElem?_getD, List.getElem?_eq_getElem hj] at this
theorem getD_mem {α : Type} {l : List α} {i : Nat} {z : α} (h : i < l.length) : l.getD i z ∈ l := by
  rw [List.getD_eq_getElem?_getD, List.getElem?_eq_getElem h]
  exact List.getElem_mem h

theorem eqInodeS_ev (l : List S120) (h : l.length ≤ 1048576) (hd : ∀ x ∈ l, x.f1.length ≤ 1048576) : Ev (fun k => laws_eqInodeS.f k l l) true := by
  refine Ev.congr (fun k => ?_) (scan_loop (fun i k => laws_eqInodeS.l0 k l l (i : Int)) l.length true (fun i hi h => ?_) ?_)
  · simp only [laws_eqInodeS.f]
    rw [if_pos trivial]
    rfl
  · have hm : l.getD i z120 ∈ l := getD_mem hi
    obtain ⟨K, hK⟩ := eqByteS_ev (l.getD i z120).f1 (by have := hd _ hm; omega)
    refine Ev.round ⟨K, fun k hk => ?_⟩ h
    have t := hK k hk
    dsimp only at t
    simp only [laws_eqInodeS.l0, laws_eqInode.f, rd_T120, Int.toNat_natCast, t, Option.bind_some, if_true]
    rw [if_pos (by omega), if_pos (by omega), if_pos (by omega), wrap_succ (n := l.length) hi (by omega)]
  · refine Ev.ends (fun k => ?_)
    simp only [laws_eqInodeS.l0]
    rw [if_neg (by omega)]
theorem eqDisk_ev (a : List S120) (b c : List S126) (n : Int) (h0 : a.length ≤ 1048576) (hd : ∀ x ∈ a, x.f1.length ≤ 1048576) (h1 : b.length ≤ 1048576) (h2 : c.length ≤ 1048576) : Ev (fun k => laws_eqDisk.f k a b c n a b c n) true := by
  obtain ⟨K0, e0⟩ := eqInodeS_ev a h0 hd
  obtain ⟨K1, e1⟩ := eqEntryS_ev b (by omega)
  obtain ⟨K2, e2⟩ := eqEntryS_ev c (by omega)
  dsimp only at e0 e1 e2
  exact ⟨K0 + K1 + K2, fun k hk => by simp only [laws_eqDisk.f]; rw [e0 k (by omega), Option.bind_some, if_pos rfl, e1 k (by omega), Option.bind_some, if_pos rfl, e2 k (by omega), Option.bind_some, if_pos rfl, if_pos trivial]⟩

/-- The number behind i marked files. -/
def inoAt (l : List S120) (a : Int) : Nat → Int
  | 0 => a
  | i + 1 => inoAt l a i + 2 + ((rd_T120 l (i : Int)).f1.length : Int)
def mkIno (l : List S120) (a : Int) (i : Nat) : S120 := (⟨inoAt l a i, markB (inoAt l a i + 1) (rd_T120 l (i : Int)).f1.length, inoAt l a i + 1 + ((rd_T120 l (i : Int)).f1.length : Int)⟩ : S120)
def mkInoL (l : List S120) (a : Int) : List S120 := (List.range l.length).map (mkIno l a)
theorem mkInoL_length (l : List S120) (a : Int) : (mkInoL l a).length = l.length := by simp [mkInoL]
theorem rdI_in {l : List S120} {i : Nat} (h : i < l.length) : rd_T120 l (i : Int) ∈ l := getD_mem h
theorem inoAt_le (l : List S120) (hd : ∀ x ∈ l, x.f1.length ≤ 1048576) (a : Int) : ∀ i, i ≤ l.length → a ≤ inoAt l a i ∧ inoAt l a i ≤ a + (i : Int) * 1048578
  | 0, _ => by simp [inoAt]
  | i + 1, h => by
    have h1 := inoAt_le l hd a i (by omega)
    have h2 := hd _ (rdI_in (show i < l.length by omega))
    simp only [inoAt]
    omega
/-- A row that is written from the left, and read at the place that is written. -/
theorem mark_loop2 {β σ : Type} (L : Nat → List β → σ → Int → Option (σ × List β)) (l : List β) (z : β) (g : Nat → β) (st : Nat → σ)
    (hs : ∀ (i : Nat) (out : List β) (r : σ × List β), i < l.length → out.length = l.length → out.getD i z = l.getD i z → Ev (fun k => L k (out.set i (g i)) (st (i + 1)) ((i + 1 : Nat) : Int)) r → Ev (fun k => L k out (st i) (i : Int)) r)
    (he : ∀ out : List β, out.length = l.length → Ev (fun k => L k out (st l.length) (l.length : Int)) (st l.length, out)) : Ev (fun k => L k l (st 0) 0) (st l.length, (List.range l.length).map g) := by
  have key : ∀ (d i : Nat) (out : List β), i + d = l.length → out.length = l.length → out.take i = (List.range i).map g → (∀ j, i ≤ j → out.getD j z = l.getD j z) → Ev (fun k => L k out (st i) (i : Int)) (st l.length, (List.range l.length).map g) := by
    intro d
    induction d with
    | zero =>
      intro i out hi hl ht _
      have hin : i = l.length := by omega
      subst hin
      have e := take_all ht hl
      rw [← e]
      exact he out hl
    | succ d ih =>
      intro i out hi hl ht hg
      refine hs i out _ (by omega) hl (hg i (Nat.le_refl _)) (ih (i + 1) _ (by omega) (by simp [hl]) ?_ (fun j hj => ?_))
      · rw [take_set_succ _ _ _ (by omega), ht, List.range_succ, List.map_append]
        rfl
      · rw [← hg j (by omega), List.getD_eq_getElem?_getD, List.getD_eq_getElem?_getD, List.getElem?_set_ne (by omega)]
  exact key l.length 0 l (by omega) rfl (by simp) (fun _ _ => rfl)
theorem markInodeS_ev (l : List S120) (a : Int) (ha : 0 ≤ a) (hb : a ≤ 4611686018427387904) (h : l.length ≤ 1048576) (hd : ∀ x ∈ l, x.f1.length ≤ 1048576) : Ev (fun k => laws_markInodeS.f k l a) (inoAt l a l.length, mkInoL l a) := by
  have hle := inoAt_le l hd a
  have hm := mark_loop2 (fun k out s i => laws_markInodeS.l0 k out s i) l z120 (mkIno l a) (inoAt l a) (fun i out r hi hl hg h => ?_) (fun out hl => ?_)
  · refine Ev.congr (fun k => ?_) hm
    simp only [laws_markInodeS.f]
    rfl
  · have hrd : rd_T120 out (i : Int) = rd_T120 l (i : Int) := hg
    have b1 := hle i (by omega)
    have b2 := hd _ (rdI_in hi)
    obtain ⟨K0, h0⟩ := markByteS_ev (rd_T120 l (i : Int)).f1 (inoAt l a i + 1) (by omega) (by omega)
    refine Ev.round ⟨K0, fun k hk => ?_⟩ h
    have t0 := h0 k (by omega)
    dsimp only at t0
    simp only [laws_markInodeS.l0, hrd, Int.toNat_natCast]
    rw [if_pos (by omega), if_pos (by omega), wrap_id (i := inoAt l a i + 1) (by omega) (by omega), t0, Option.bind_some, wrap_succ (n := l.length) hi (by omega), wrap_id (by simp only []; omega) (by simp only []; omega)]
    simp only [mkIno, inoAt]
    congr 1
    omega
  · refine Ev.ends (fun k => ?_)
    simp only [laws_markInodeS.l0]
    rw [if_neg (by omega)]
/-- Marks on a disk. -/
theorem markDisk_only (a : List S120) (b c : List S126) (n : Int) (h0 : a.length ≤ 1048576) (hd : ∀ x ∈ a, x.f1.length ≤ 1048576) (h1 : b.length ≤ 1048576) (h2 : c.length ≤ 1048576) :
    0 ≤ inoAt a 1 a.length + 2 * (b.length : Int) + 2 * (c.length : Int) ∧ Ev (fun k => laws_markDisk.f k a b c n 1) (inoAt a 1 a.length + 2 * (b.length : Int) + 2 * (c.length : Int), mkInoL a 1, mkEntryL (inoAt a 1 a.length) b.length, mkEntryL (inoAt a 1 a.length + 2 * (b.length : Int)) c.length) := by
  have l0 := (inoAt_le a hd 1 a.length (Nat.le_refl _))
  obtain ⟨K0, e0⟩ := markInodeS_ev a 1 (by omega) (by omega) h0 hd
  obtain ⟨K1, e1⟩ := markEntryS_ev b (inoAt a 1 a.length) (by omega) (by omega)
  obtain ⟨K2, e2⟩ := markEntryS_ev c (inoAt a 1 a.length + 2 * (b.length : Int)) (by omega) (by omega)
  dsimp only at e0 e1 e2
  exact ⟨by omega, K0 + K1 + K2, fun k hk => by simp only [laws_markDisk.f]; rw [e0 k (by omega), Option.bind_some, e1 k (by omega), Option.bind_some, e2 k (by omega), Option.bind_some]⟩

theorem heldByteS_l0 (a : Int) (n : Nat) (ha : 0 ≤ a) (hb : a + n ≤ 9223372036854775806) : ∀ (d i : Nat), i + d = n → Ev (fun k => laws_heldByteS.l0 k (markB a n) (a + (i : Int)) (i : Int)) (a + (n : Int)) := by
  intro d
  induction d with
  | zero =>
    intro i hi
    have hin : i = n := by omega
    subst hin
    refine Ev.step (f := fun _ => some (a + (i : Int))) (fun k => ?_) (Ev.now _)
    simp only [laws_heldByteS.l0, markB_length]
    rw [if_neg (by omega)]
  | succ d ih =>
    intro i hi
    refine Ev.step (f := fun k => laws_heldByteS.l0 k (markB a n) (a + ((i + 1 : Nat) : Int)) ((i + 1 : Nat) : Int)) (fun k => ?_) (ih _ (by omega))
    simp only [laws_heldByteS.l0, markB_length]
    rw [if_pos (by omega), if_pos (by omega), rd_nat, if_pos (markB_get a n i (by omega)), wrap_succ (n := n) (by omega) (by omega), wrap_id (i := a + (i : Int) + 1) (by omega) (by omega)]
    congr 1
    omega
theorem heldByteS_ev (a : Int) (n : Nat) (ha : 0 ≤ a) (hb : a + n ≤ 9223372036854775806) : Ev (fun k => laws_heldByteS.f k (markB a n) a) (a + (n : Int)) := by
  refine Ev.congr (fun k => ?_) (heldByteS_l0 a n ha hb n 0 (by omega))
  simp only [laws_heldByteS.f]
  congr 1
  simp

theorem heldEntryS_ev (a : Int) (n : Nat) (ha : 0 ≤ a) (hb : a + 2 * (n : Int) ≤ 4611686018427387904) : Ev (fun k => laws_heldEntryS.f k (mkEntryL a n) a) (a + 2 * (n : Int)) := by
  refine Ev.congr (fun k => ?_) (scan_loop (fun i k => laws_heldEntryS.l0 k (mkEntryL a n) (a + 2 * (i : Int)) (i : Int)) n (a + 2 * (n : Int)) (fun i hi h => ?_) ?_)
  · simp only [laws_heldEntryS.f]
    congr 1
    simp
  · (try dsimp only at h ⊢)
    obtain ⟨K0, h0⟩ := markText_ev (a + 2 * (i : Int)) (by omega)
    refine Ev.round ⟨0 + K0, fun k hk => ?_⟩ h
    have t0 := h0 k (by omega)
    dsimp only at t0
    have e1 : ((i : Int) < (n : Int)) = True := eq_true (by omega)
    have e2 : (0 ≤ (i : Int)) = True := eq_true (by omega)
    have ew : wrap64 ((i : Int) + 1) = ((i + 1 : Nat) : Int) := wrap_succ (n := n) hi (by omega)
    have eg : (mkEntryL a n).getD i z126 = mkEntry (a + 2 * (i : Int)) := range_map_getD n i _ _ hi
    have w1 : wrap64 (a + 2 * (i : Int) + 1) = a + 2 * (i : Int) + 1 := wrap_id (by omega) (by omega)
    have w2 : wrap64 (a + 2 * (i : Int) + 2) = a + 2 * (i : Int) + 2 := wrap_id (by omega) (by omega)
    have ad2 : a + 2 * (i : Int) + 1 + 1 = a + 2 * (i : Int) + 2 := by omega
    have ae : a + 2 * (i : Int) + 2 = a + 2 * ((i + 1 : Nat) : Int) := by omega
    simp only [laws_heldEntryS.l0, mkEntryL_length, e1, e2, if_true, t0, Option.bind_some, w1, w2, ad2, ew, rd_T126, Int.toNat_natCast, eg, mkEntry, bne_self_eq_false, Bool.false_eq_true, if_false]
    first | ((rw [ae]) <;> rfl) | (simp only [beq_self_eq_true, bne_self_eq_false, Bool.false_eq_true, if_false, if_true, ae])
  · refine Ev.ends (fun k => ?_)
    simp only [laws_heldEntryS.l0, mkEntryL_length]
    rw [if_neg (by omega)]

theorem heldInodeS_ev (l : List S120) (a : Int) (ha : 0 ≤ a) (hb : a ≤ 4611686018427387904) (h : l.length ≤ 1048576) (hd : ∀ x ∈ l, x.f1.length ≤ 1048576) : Ev (fun k => laws_heldInodeS.f k (mkInoL l a) a) (inoAt l a l.length) := by
  have hle := inoAt_le l hd a
  refine Ev.congr (fun k => ?_) (scan_loop (fun i k => laws_heldInodeS.l0 k (mkInoL l a) (inoAt l a i) (i : Int)) l.length (inoAt l a l.length) (fun i hi h => ?_) ?_)
  · simp only [laws_heldInodeS.f]
    rfl
  · have hrd : rd_T120 (mkInoL l a) (i : Int) = mkIno l a i := range_map_getD l.length i _ _ hi
    have b1 := hle i (by omega)
    have b2 := hd _ (rdI_in hi)
    obtain ⟨K0, h0⟩ := heldByteS_ev (inoAt l a i + 1) (rd_T120 l (i : Int)).f1.length (by omega) (by omega)
    refine Ev.round ⟨K0, fun k hk => ?_⟩ h
    have t0 := h0 k (by omega)
    dsimp only at t0
    have t1 : laws_heldByteS.f k (mkIno l a i).f1 (wrap64 (inoAt l a i + 1)) = some (inoAt l a i + 1 + ((rd_T120 l (i : Int)).f1.length : Int)) := by
      rw [wrap_id (i := inoAt l a i + 1) (by omega) (by omega)]
      exact t0
    simp only [laws_heldInodeS.l0, mkInoL_length, hrd]
    rw [if_pos (by omega), if_pos (by omega), if_pos (show (mkIno l a i).f0 = inoAt l a i from rfl), t1, Option.bind_some, if_neg (by omega), if_pos (show (mkIno l a i).f2 = inoAt l a i + 1 + ((rd_T120 l (i : Int)).f1.length : Int) from rfl), wrap_succ (n := l.length) hi (by omega), wrap_id (by omega) (by omega)]
    simp only [inoAt]
    congr 1
    omega
  · refine Ev.ends (fun k => ?_)
    simp only [laws_heldInodeS.l0, mkInoL_length]
    rw [if_neg (by omega)]
/-- Marks on a disk, and that they are held. -/
theorem markDisk_ev (a : List S120) (b c : List S126) (n : Int) (h0 : a.length ≤ 1048576) (hd : ∀ x ∈ a, x.f1.length ≤ 1048576) (h1 : b.length ≤ 1048576) (h2 : c.length ≤ 1048576) :
    ∃ (m : Int) (a' : List S120) (b' c' : List S126), 0 ≤ m ∧ Ev (fun k => laws_markDisk.f k a b c n 1) (m, a', b', c') ∧ Ev (fun k => laws_heldDisk.f k a' b' c' n 1) m := by
  have l0 := (inoAt_le a hd 1 a.length (Nat.le_refl _))
  obtain ⟨K3, e3⟩ := heldInodeS_ev a 1 (by omega) (by omega) h0 hd
  obtain ⟨K4, e4⟩ := heldEntryS_ev (inoAt a 1 a.length) b.length (by omega) (by omega)
  obtain ⟨K5, e5⟩ := heldEntryS_ev (inoAt a 1 a.length + 2 * (b.length : Int)) c.length (by omega) (by omega)
  dsimp only at e3 e4 e5
  have hm := markDisk_only a b c n h0 hd h1 h2
  exact ⟨_, _, _, _, hm.1, hm.2, K3 + K4 + K5, fun k hk => by simp only [laws_heldDisk.f]; rw [e3 k (by omega), Option.bind_some, if_neg (by omega), e4 k (by omega), Option.bind_some, if_neg (by omega), e5 k (by omega), Option.bind_some, if_neg (by omega)]⟩

theorem FnExactDiskNew : laws_FnExactDiskNew.Pure := by
  obtain ⟨m, a', b', c', hm, ⟨K1, h1⟩, ⟨K2, h2⟩⟩ := markDisk_ev [] [] [] 1 (by simp) (by simp) (by simp) (by simp)
  obtain ⟨K3, h3⟩ := eqDisk_ev [] [] [] 1 (by simp) (by simp) (by simp) (by simp)
  dsimp only at h1 h2 h3
  refine ⟨K1 + K2 + K3, ?_⟩
  have e1 := h1 (K1 + K2 + K3) (by omega)
  have e2 := h2 (K1 + K2 + K3) (by omega)
  have e3 := h3 (K1 + K2 + K3) (by omega)
  simp only [laws_FnExactDiskNew.f, spec_DiskNew.f, impl_DiskNew.f, Option.bind_some, e1, e2, e3, if_true]
  simp only [if_neg (show ¬ m < 0 by omega)]

end Go.Proofs.Ytgbejjeephipeaa.MPureFnExactDiskNew
