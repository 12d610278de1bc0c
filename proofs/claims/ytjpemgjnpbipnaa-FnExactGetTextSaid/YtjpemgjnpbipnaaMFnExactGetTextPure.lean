/- GetText of the program and of the reference answer the same, for all bytes and places. No condition. -/
import Derived.Test.YtjpemgjnpbipnaaMFnExactGetTextDef
set_option linter.unusedVariables false
set_option linter.unusedSimpArgs false
namespace Go.Proofs.Ytjpemgjnpbipnaa.MPureFnExactGetText
open Go.RowKit Go.Proofs.Ytjpemgjnpbipnaa.MFnExactGetText Go.Proofs.YtjpemgjnpbipnaaW.PrintWords Go.Proofs.YtjpemgjnpbipnaaW.PrintLast Go.Proofs.YtjpemgjnpbipnaaW.PrintMore

theorem wrap_id {i : Int} (h0 : -9223372036854775808 ≤ i) (h1 : i ≤ 9223372036854775807) : wrap64 i = i := by unfold wrap64; omega
theorem wrap_succ {i n : Nat} (h : i < n) (hn : n ≤ 9223372036854775807) : wrap64 ((i : Int) + 1) = ((i + 1 : Nat) : Int) := by unfold wrap64; omega
theorem rd_nat (xs : List Int) (i : Nat) : rd xs (i : Int) = xs.getD i 0 := by simp [rd]
theorem take_set_succ {α : Type} (l : List α) (i : Nat) (x : α) (h : i < l.length) : (l.set i x).take (i + 1) = l.take i ++ [x] := by
  rw [List.take_succ_eq_append_getElem (by simpa using h), List.getElem_set_self, List.take_set_of_le (Nat.le_refl _)]
theorem take_succ_getD {α : Type} (l : List α) (i : Nat) (d : α) (h : i < l.length) : l.take (i + 1) = l.take i ++ [l.getD i d] := by
  rw [List.take_succ_eq_append_getElem h, List.getD_eq_getElem?_getD, List.getElem?_eq_getElem h]
  rfl
theorem take_all {α : Type} {l m : List α} {n : Nat} (h : l.take n = m) (hl : l.length = n) : l = m := by
  rw [← h, ← hl, List.take_length]
theorem wf_u8 {x : Int} (h : (Lit.int .u8 x).wf = true) : 0 ≤ x ∧ x ≤ 255 := by
  simp [Lit.wf, IntKind.min, IntKind.max, IntKind.signed, IntKind.bits] at h
  omega
theorem wf_i64 {x : Int} (h : (Lit.int .i64 x).wf = true) : -9223372036854775808 ≤ x ∧ x ≤ 9223372036854775807 := by
  simp [Lit.wf, IntKind.min, IntKind.max, IntKind.signed, IntKind.bits] at h
  omega

theorem toByteS_l0 (xs : List Int) (hn : xs.length ≤ 9223372036854775806) : ∀ (d : Nat) (out : List Int) (i : Nat), i + d = xs.length → out.length = xs.length → out.take i = xs.take i →
    Ev (fun k => laws_toByteS.l0 k xs out (i : Int)) xs := by
  intro d
  induction d with
  | zero =>
    intro out i hi hl ht
    have e : out = xs := by rw [take_all ht (by omega), List.take_of_length_le (by omega)]
    refine Ev.step (f := fun _ => some xs) (fun k => ?_) (Ev.now xs)
    simp only [laws_toByteS.l0]
    rw [if_neg (by omega), e]
  | succ d ih =>
    intro out i hi hl ht
    refine Ev.step (f := fun k => laws_toByteS.l0 k xs (out.set i (xs.getD i 0)) ((i + 1 : Nat) : Int)) (fun k => ?_) (ih _ _ (by omega) (by simp [hl]) ?_)
    · simp only [laws_toByteS.l0]
      rw [if_pos (by omega), if_pos (by omega), if_pos (by omega), wrap_succ (n := xs.length) (by omega) (by omega), rd_nat, Int.toNat_natCast]
    · rw [take_set_succ _ _ _ (by omega), take_succ_getD _ _ 0 (by omega), ht]
theorem toByteS_ev (xs : List Int) (hn : xs.length ≤ 281474976710656) : Ev (fun k => laws_toByteS.f k xs) xs := by
  have h := toByteS_l0 xs (by omega) xs.length (List.replicate xs.length 0) 0 (by omega) (by simp) (by simp)
  refine Ev.congr (fun k => ?_) h
  simp only [laws_toByteS.f]
  rw [if_pos (by omega), if_pos (by omega)]
  rfl
theorem eqByteS_l0 (xs : List Int) (hn : xs.length ≤ 9223372036854775806) : ∀ (d i : Nat), i + d = xs.length → Ev (fun k => laws_eqByteS.l0 k xs xs (i : Int)) true := by
  intro d
  induction d with
  | zero =>
    intro i hi
    refine Ev.step (f := fun _ => some true) (fun k => ?_) (Ev.now true)
    simp only [laws_eqByteS.l0]
    rw [if_neg (by omega)]
  | succ d ih =>
    intro i hi
    refine Ev.step (f := fun k => laws_eqByteS.l0 k xs xs ((i + 1 : Nat) : Int)) (fun k => ?_) (ih _ (by omega))
    simp only [laws_eqByteS.l0]
    rw [if_pos (by omega), if_pos (by omega), if_pos (by omega), if_pos trivial, wrap_succ (n := xs.length) (by omega) (by omega)]
theorem eqByteS_ev (xs : List Int) (hn : xs.length ≤ 9223372036854775806) : Ev (fun k => laws_eqByteS.f k xs xs) true := by
  refine Ev.congr (fun k => ?_) (eqByteS_l0 xs hn xs.length 0 (by omega))
  simp only [laws_eqByteS.f]
  rw [if_pos trivial]
  rfl

theorem wraps_i64 (n : Int) (h0 : 0 ≤ n) (h1 : n < 2 ^ 63) : IntKind.i64.wrap n = n := by rw [IntKind.wrap_i64]; omega
theorem and127 {x : Int} (h0 : 0 ≤ x) (h1 : x < 9223372036854775808) : Go.bits .and .i64 x 127 = x % 128 := by
  have h := bits_mask .i64 63 (by decide) wraps_i64 7 (by decide) x h0 (by omega)
  simpa using h
theorem or7 {x y : Int} (h0 : 0 ≤ x) (h1 : x < 9223372036854775808) (hx : x % 128 = 0) (hy0 : 0 ≤ y) (hy : y < 128) : Go.bits .or .i64 x y = x + y :=
  bits_join .i64 63 (by decide) wraps_i64 7 x y h0 (by simpa using hx) (by omega) hy0 (by omega) (by omega)
theorem or_128 {y : Int} (hy0 : 0 ≤ y) (hy : y < 128) : Go.bits .or .i64 y 128 = y + 128 := by
  obtain ⟨b, rfl⟩ := Int.eq_ofNat_of_zero_le hy0
  have h := (bits_nat .i64 63 (by decide) wraps_i64 b 128 (by omega) (by decide)).2
  have h2 := Nat.two_pow_add_eq_or_of_lt (i := 7) (b := b) (by omega) 1
  rw [Nat.or_comm] at h2
  have h3 : Go.bits .or .i64 ((b : Nat) : Int) 128 = ((b ||| 128 : Nat) : Int) := h
  have h4 : (b ||| 128 : Nat) = 128 + b := by simpa using h2.symm
  rw [h3, h4]
  omega
theorem shr_eq {x : Int} {s : Int} (j : Nat) (hs : s = (j : Int)) (hj : j ≤ 64) : shr .i64 x s = x / 2 ^ j := by
  subst hs
  unfold shr
  rw [Int.toNat_natCast, Nat.min_eq_left (by simpa [IntKind.bits] using hj)]

def BytesIn (b : List Int) : Prop := ∀ i : Int, 0 ≤ rd b i ∧ rd b i ≤ 255
theorem bytesIn_of {b : List Int} (h : ∀ x ∈ b, (Lit.int .u8 x).wf = true) : BytesIn b := by
  intro i
  unfold rd
  rw [List.getD_eq_getElem?_getD]
  cases e : b[i.toNat]? with
  | none => simp
  | some x => exact wf_u8 (h x (List.mem_of_getElem? e))
theorem BytesIn.mem {b : List Int} (h : BytesIn b) : ∀ x ∈ b, 0 ≤ x ∧ x ≤ 255 := by
  intro x hx
  obtain ⟨i, hi, rfl⟩ := List.mem_iff_getElem.1 hx
  have := h (i : Int)
  simpa [rd, List.getD_eq_getElem?_getD, List.getElem?_eq_getElem hi] using this
theorem BytesIn.of_mem {b : List Int} (h : ∀ x ∈ b, 0 ≤ x ∧ x ≤ 255) : BytesIn b := by
  intro i
  unfold rd
  rw [List.getD_eq_getElem?_getD]
  cases e : b[i.toNat]? with
  | none => simp
  | some x => exact h x (List.mem_of_getElem? e)
theorem BytesIn.nat {b : List Int} (h : BytesIn b) : ∀ x ∈ b, x.toNat < 4294967296 := fun x hx => by have := h.mem x hx; omega
theorem drop_cons_rd {b : List Int} {i : Nat} (h : i < b.length) : b.drop i = rd b (i : Int) :: b.drop (i + 1) := by
  rw [List.drop_eq_getElem_cons h, rd_nat, List.getD_eq_getElem?_getD, List.getElem?_eq_getElem h]
  rfl

def getR (b : List Int) (at_ : Int) : Nat → Int → Int → Int × Int × Bool
  | 0, _, _ => (0, 0, false)
  | d + 1, n, k => if 0 ≤ at_ ∧ at_ + k < (b.length : Int) then
      (if k = 0 ∧ rd b (at_ + k) = 128 then (0, 0, false) else
        if rd b (at_ + k) < 128 then (if n * 128 + rd b (at_ + k) % 128 > 1000000000 then (0, 0, false) else (n * 128 + rd b (at_ + k) % 128, at_ + k + 1, true))
        else getR b at_ d (n * 128 + rd b (at_ + k) % 128) (k + 1)) else (0, 0, false)
def topR : Nat → Int
  | 0 => 0
  | k + 1 => topR k * 128 + 127
theorem topR_le (k : Nat) (h : k ≤ 5) : topR k ≤ 34359738367 := by
  have : k = 0 ∨ k = 1 ∨ k = 2 ∨ k = 3 ∨ k = 4 ∨ k = 5 := by omega
  rcases this with rfl | rfl | rfl | rfl | rfl | rfl <;> decide
theorem spec_getNum_l0 (b : List Int) (hb : BytesIn b) (hn : b.length ≤ 281474976710656) (at_ : Int) (ha : at_ ≤ 9223372036854775807) : ∀ (d : Nat) (n : Int) (k : Nat), k + d = 5 → 0 ≤ n → n ≤ topR k →
    Ev (fun q => spec_GetNum.l0 q b at_ n (k : Int)) (getR b at_ d n (k : Int)) := by
  intro d
  induction d with
  | zero =>
    intro n k hk h0 h1
    refine Ev.step (f := fun q => spec_GetNum.j1 q b at_ n (k : Int) false) (fun q => ?_) (Ev.step (f := fun _ => some (0, 0, false)) (fun q => ?_) (Ev.now _))
    · simp only [spec_GetNum.l0]
      rw [if_neg (by omega)]
    · simp [spec_GetNum.j1]
  | succ d ih =>
    intro n k hk h0 h1
    have ht := topR_le k (by omega)
    have hc := hb (at_ + (k : Int))
    unfold getR
    by_cases hr : 0 ≤ at_ ∧ at_ + (k : Int) < (b.length : Int)
    · rw [if_pos hr]
      have hw : wrap64 (at_ + (k : Int)) = at_ + (k : Int) := wrap_id (by omega) (by omega)
      have hwc : wrap64 (rd b (at_ + (k : Int))) = rd b (at_ + (k : Int)) := wrap_id (by omega) (by omega)
      have hwn : wrap64 (n * 128) = n * 128 := wrap_id (by omega) (by omega)
      have hand : Go.bits .and .i64 (rd b (at_ + (k : Int))) 127 = rd b (at_ + (k : Int)) % 128 := and127 (by omega) (by omega)
      have hor : Go.bits .or .i64 (n * 128) (rd b (at_ + (k : Int)) % 128) = n * 128 + rd b (at_ + (k : Int)) % 128 := or7 (by omega) (by omega) (by omega) (by omega) (by omega)
      refine Ev.step (f := fun q => spec_GetNum.j1 q b at_ n (k : Int) true) (fun q => ?_) ?_
      · simp only [spec_GetNum.l0]
        rw [if_pos (by omega), if_pos (by omega), if_pos (by omega), hw, decide_eq_true hr.2]
      · by_cases h128 : (k : Int) = 0 ∧ rd b (at_ + (k : Int)) = 128
        · rw [if_pos h128]
          refine Ev.step (f := fun q => spec_GetNum.j2 q b at_ n (k : Int) (rd b (at_ + (k : Int))) true) (fun q => ?_) (Ev.step (f := fun _ => some (0, 0, false)) (fun q => ?_) (Ev.now _))
          · simp only [spec_GetNum.j1, hw, hwc]
            rw [if_pos trivial, if_pos (by omega), if_pos (by omega), if_pos h128.1]
            simp [h128.2]
          · simp [spec_GetNum.j2]
        · rw [if_neg h128]
          refine Ev.step (f := fun q => spec_GetNum.j2 q b at_ n (k : Int) (rd b (at_ + (k : Int))) false) (fun q => ?_) ?_
          · simp only [spec_GetNum.j1, hw, hwc]
            rw [if_pos trivial, if_pos (by omega), if_pos (by omega)]
            by_cases hk0 : (k : Int) = 0
            · rw [if_pos hk0]
              have : rd b (at_ + (k : Int)) ≠ 128 := fun e => h128 ⟨hk0, e⟩
              rw [beq_eq_false_iff_ne.2 this]
            · rw [if_neg hk0]
          · by_cases hlt : rd b (at_ + (k : Int)) < 128
            · rw [if_pos hlt]
              refine Ev.step (f := fun _ => some _) (fun q => ?_) (Ev.now _)
              simp only [spec_GetNum.j2, hwn, hand, hor, hw]
              rw [if_neg (by simp), if_pos hlt]
              by_cases hg : n * 128 + rd b (at_ + (k : Int)) % 128 > 1000000000
              · rw [if_pos hg, if_pos hg]
              · rw [if_neg hg, if_neg hg, wrap_id (i := at_ + (k : Int) + 1) (by omega) (by omega)]
            · rw [if_neg hlt]
              have h2 : topR (k + 1) = topR k * 128 + 127 := rfl
              refine Ev.step (f := fun q => spec_GetNum.l0 q b at_ (n * 128 + rd b (at_ + (k : Int)) % 128) ((k + 1 : Nat) : Int)) (fun q => ?_) ?_
              · simp only [spec_GetNum.j2, hwn, hand, hor]
                rw [if_neg (by simp), if_neg hlt, wrap_id (i := (k : Int) + 1) (by omega) (by omega)]
                rfl
              · exact ih _ (k + 1) (by omega) (by omega) (by omega)
    · rw [if_neg hr]
      refine Ev.step (f := fun q => spec_GetNum.j1 q b at_ n (k : Int) false) (fun q => ?_) (Ev.step (f := fun _ => some (0, 0, false)) (fun q => ?_) (Ev.now _))
      · simp only [spec_GetNum.l0]
        rw [if_pos (by omega)]
        by_cases h3 : at_ ≥ 0
        · rw [if_pos h3]
          by_cases h4 : at_ < (b.length : Int)
          · rw [if_pos h4, wrap_id (i := at_ + (k : Int)) (by omega) (by omega), decide_eq_false (by omega)]
          · rw [if_neg h4]
        · rw [if_neg h3]
      · simp [spec_GetNum.j1]
theorem impl_getNum_l0 (b : List Int) (hb : BytesIn b) (hn : b.length ≤ 281474976710656) (at_ : Int) (ha : at_ ≤ 9223372036854775807) : ∀ (d : Nat) (n : Int) (k : Nat), k + d = 5 → 0 ≤ n → n ≤ topR k →
    Ev (fun q => impl_GetNum.l0 q b at_ n (k : Int)) (getR b at_ d n (k : Int)) := by
  intro d
  induction d with
  | zero =>
    intro n k hk h0 h1
    refine Ev.step (f := fun q => impl_GetNum.j1 q b at_ n (k : Int) false) (fun q => ?_) (Ev.step (f := fun _ => some (0, 0, false)) (fun q => ?_) (Ev.now _))
    · simp only [impl_GetNum.l0]
      rw [if_neg (by omega)]
    · simp [impl_GetNum.j1]
  | succ d ih =>
    intro n k hk h0 h1
    have ht := topR_le k (by omega)
    have hc := hb (at_ + (k : Int))
    have hl : wrap64 ((b.length : Int) - (k : Int)) = (b.length : Int) - (k : Int) := wrap_id (by omega) (by omega)
    unfold getR
    by_cases hr : 0 ≤ at_ ∧ at_ + (k : Int) < (b.length : Int)
    · rw [if_pos hr]
      have hw : wrap64 (at_ + (k : Int)) = at_ + (k : Int) := wrap_id (by omega) (by omega)
      have hwc : wrap64 (rd b (at_ + (k : Int))) = rd b (at_ + (k : Int)) := wrap_id (by omega) (by omega)
      have hwn : wrap64 (n * 128) = n * 128 := wrap_id (by omega) (by omega)
      have hmod : Int.tmod (rd b (at_ + (k : Int))) 128 = rd b (at_ + (k : Int)) % 128 := Int.tmod_eq_emod_of_nonneg (by omega)
      have hws : wrap64 (n * 128 + rd b (at_ + (k : Int)) % 128) = n * 128 + rd b (at_ + (k : Int)) % 128 := wrap_id (by omega) (by omega)
      refine Ev.step (f := fun q => impl_GetNum.j1 q b at_ n (k : Int) true) (fun q => ?_) ?_
      · simp only [impl_GetNum.l0]
        rw [if_pos (by omega), if_pos (by omega), hl, decide_eq_true (by omega)]
      · by_cases h128 : (k : Int) = 0 ∧ rd b (at_ + (k : Int)) = 128
        · rw [if_pos h128]
          refine Ev.step (f := fun q => impl_GetNum.j2 q b at_ n (k : Int) (rd b (at_ + (k : Int))) true) (fun q => ?_) (Ev.step (f := fun _ => some (0, 0, false)) (fun q => ?_) (Ev.now _))
          · simp only [impl_GetNum.j1, hw, hwc]
            rw [if_pos trivial, if_pos (by omega), if_pos (by omega), if_pos h128.1]
            simp [h128.2]
          · simp [impl_GetNum.j2]
        · rw [if_neg h128]
          refine Ev.step (f := fun q => impl_GetNum.j2 q b at_ n (k : Int) (rd b (at_ + (k : Int))) false) (fun q => ?_) ?_
          · simp only [impl_GetNum.j1, hw, hwc]
            rw [if_pos trivial, if_pos (by omega), if_pos (by omega)]
            by_cases hk0 : (k : Int) = 0
            · rw [if_pos hk0]
              have : rd b (at_ + (k : Int)) ≠ 128 := fun e => h128 ⟨hk0, e⟩
              rw [beq_eq_false_iff_ne.2 this]
            · rw [if_neg hk0]
          · by_cases hlt : rd b (at_ + (k : Int)) < 128
            · rw [if_pos hlt]
              refine Ev.step (f := fun _ => some _) (fun q => ?_) (Ev.now _)
              simp only [impl_GetNum.j2, hwn, hmod, hws, hw]
              rw [if_neg (by simp), if_neg (by omega)]
              by_cases hg : n * 128 + rd b (at_ + (k : Int)) % 128 > 1000000000
              · rw [if_pos hg, if_pos hg]
              · rw [if_neg hg, if_neg hg, wrap_id (i := at_ + (k : Int) + 1) (by omega) (by omega)]
            · rw [if_neg hlt]
              have h2 : topR (k + 1) = topR k * 128 + 127 := rfl
              refine Ev.step (f := fun q => impl_GetNum.l0 q b at_ (n * 128 + rd b (at_ + (k : Int)) % 128) ((k + 1 : Nat) : Int)) (fun q => ?_) ?_
              · simp only [impl_GetNum.j2, hwn, hmod, hws]
                rw [if_neg (by simp), if_pos (by omega), wrap_id (i := (k : Int) + 1) (by omega) (by omega)]
                rfl
              · exact ih _ (k + 1) (by omega) (by omega) (by omega)
    · rw [if_neg hr]
      refine Ev.step (f := fun q => impl_GetNum.j1 q b at_ n (k : Int) false) (fun q => ?_) (Ev.step (f := fun _ => some (0, 0, false)) (fun q => ?_) (Ev.now _))
      · simp only [impl_GetNum.l0]
        rw [if_pos (by omega)]
        by_cases h3 : at_ ≥ 0
        · rw [if_pos h3, hl, decide_eq_false (by omega)]
        · rw [if_neg h3]
      · simp [impl_GetNum.j1]
theorem spec_getNum_ev (b : List Int) (hb : BytesIn b) (hn : b.length ≤ 281474976710656) (at_ : Int) (ha : at_ ≤ 9223372036854775807) : Ev (fun q => spec_GetNum.f q b at_) (getR b at_ 5 0 0) :=
  spec_getNum_l0 b hb hn at_ ha 5 0 0 rfl (Int.le_refl 0) (Int.le_refl 0)
theorem impl_getNum_ev (b : List Int) (hb : BytesIn b) (hn : b.length ≤ 281474976710656) (at_ : Int) (ha : at_ ≤ 9223372036854775807) : Ev (fun q => impl_GetNum.f q b at_) (getR b at_ 5 0 0) :=
  impl_getNum_l0 b hb hn at_ ha 5 0 0 rfl (Int.le_refl 0) (Int.le_refl 0)

theorem getR_range (b : List Int) (hb : BytesIn b) (at_ : Int) : ∀ (d : Nat) (n k : Int), 0 ≤ k → 0 ≤ n → (getR b at_ d n k).2.2 = true →
    0 ≤ (getR b at_ d n k).1 ∧ (getR b at_ d n k).1 ≤ 1000000000 ∧ at_ + k + 1 ≤ (getR b at_ d n k).2.1 ∧ 0 ≤ at_ ∧ (getR b at_ d n k).2.1 ≤ b.length := by
  intro d
  induction d with
  | zero => intro n k hk hn h; simp [getR] at h
  | succ d ih =>
    intro n k hk hn h
    have hc := hb (at_ + k)
    unfold getR at h ⊢
    by_cases hr : 0 ≤ at_ ∧ at_ + k < (b.length : Int)
    · rw [if_pos hr] at h ⊢
      by_cases h1 : k = 0 ∧ rd b (at_ + k) = 128
      · rw [if_pos h1] at h; simp at h
      · rw [if_neg h1] at h ⊢
        by_cases h2 : rd b (at_ + k) < 128
        · rw [if_pos h2] at h ⊢
          by_cases h3 : n * 128 + rd b (at_ + k) % 128 > 1000000000
          · rw [if_pos h3] at h; simp at h
          · rw [if_neg h3]
            refine ⟨?_, ?_, ?_, ?_, ?_⟩ <;> first | omega | (dsimp only; omega)
        · rw [if_neg h2] at h ⊢
          obtain ⟨a1, a2, a3, a4, a5⟩ := ih _ (k + 1) (by omega) (by omega) h
          exact ⟨a1, a2, by omega, a4, a5⟩
    · rw [if_neg hr] at h; simp at h
def textR (b : List Int) (at_ : Int) : ByteArray × Int × Bool :=
  if (getR b at_ 5 0 0).2.2 = true then
    (if (getR b at_ 5 0 0).1 > (b.length : Int) - (getR b at_ 5 0 0).2.1 then ((⟨#[]⟩ : ByteArray), 0, false)
     else (strOfNums ((b.take ((getR b at_ 5 0 0).2.1 + (getR b at_ 5 0 0).1).toNat).drop ((getR b at_ 5 0 0).2.1).toNat), (getR b at_ 5 0 0).2.1 + (getR b at_ 5 0 0).1, true))
  else ((⟨#[]⟩ : ByteArray), 0, false)
theorem spec_getText_ev (b : List Int) (hb : BytesIn b) (hn : b.length ≤ 281474976710656) (at_ : Int) (ha : at_ ≤ 9223372036854775807) : Ev (fun q => spec_GetText.f q b at_) (textR b at_) := by
  obtain ⟨K, h⟩ := spec_getNum_ev b hb (by omega) at_ ha
  dsimp only at h
  refine ⟨K, fun q hq => ?_⟩
  simp only [spec_GetText.f]
  rw [h q hq, Option.bind_some]
  unfold textR
  have hr := getR_range b hb at_ 5 0 0 (Int.le_refl 0) (Int.le_refl 0)
  generalize getR b at_ 5 0 0 = g at hr ⊢
  by_cases h1 : g.2.2 = true
  · obtain ⟨a1, a2, a3, a4, a5⟩ := hr h1
    rw [if_pos h1, if_pos h1, wrap_id (i := (b.length : Int) - g.2.1) (by omega) (by omega)]
    by_cases h2 : g.1 > (b.length : Int) - g.2.1
    · rw [if_pos h2, if_pos h2]
    · rw [if_neg h2, if_neg h2, wrap_id (i := g.2.1 + g.1) (by omega) (by omega), if_pos (by omega), if_pos (by omega), if_pos (by omega)]
  · rw [if_neg h1, if_neg h1]
theorem impl_getText_ev (b : List Int) (hb : BytesIn b) (hn : b.length ≤ 281474976710656) (at_ : Int) (ha : at_ ≤ 9223372036854775807) : Ev (fun q => impl_GetText.f q b at_) (textR b at_) := by
  obtain ⟨K, h⟩ := impl_getNum_ev b hb (by omega) at_ ha
  dsimp only at h
  refine ⟨K, fun q hq => ?_⟩
  simp only [impl_GetText.f]
  rw [h q hq, Option.bind_some]
  unfold textR
  have hr := getR_range b hb at_ 5 0 0 (Int.le_refl 0) (Int.le_refl 0)
  generalize getR b at_ 5 0 0 = g at hr ⊢
  by_cases h1 : g.2.2 = true
  · obtain ⟨a1, a2, a3, a4, a5⟩ := hr h1
    rw [if_pos h1, if_pos h1, wrap_id (i := (b.length : Int) - g.2.1) (by omega) (by omega)]
    by_cases h2 : g.1 > (b.length : Int) - g.2.1
    · rw [if_pos h2, if_pos h2]
    · rw [if_neg h2, if_neg h2, wrap_id (i := g.2.1 + g.1) (by omega) (by omega), if_pos (by omega), if_pos (by omega), if_pos (by omega)]
  · rw [if_neg h1, if_neg h1]

theorem FnExactGetText : laws_FnExactGetText.Pure := by
  intro xs i hx hi
  by_cases hbig : (xs.length : Int) > 1048576
  · exact ⟨0, by simp only [laws_FnExactGetText.f]; rw [if_pos hbig]⟩
  have hb := bytesIn_of hx.2
  have hI := wf_i64 hi
  obtain ⟨K1, h1⟩ := toByteS_ev xs (by omega)
  obtain ⟨K2, h2⟩ := spec_getText_ev xs hb (by omega) i hI.2
  obtain ⟨K3, h3⟩ := impl_getText_ev xs hb (by omega) i hI.2
  obtain ⟨K4, h4⟩ := eqByteS_ev xs (by omega)
  dsimp only at h1 h2 h3 h4
  refine ⟨K1 + K2 + K3 + K4 + 1, ?_⟩
  simp only [laws_FnExactGetText.f]
  rw [if_neg hbig, h1 _ (by omega), Option.bind_some, h2 _ (by omega), Option.bind_some, Option.bind_some, h3 _ (by omega), Option.bind_some, if_pos rfl, if_pos rfl]
  simp only [laws_FnExactGetText.j0]
  rw [h1 _ (by omega), Option.bind_some, h4 _ (by omega), Option.bind_some]
  simp

end Go.Proofs.Ytjpemgjnpbipnaa.MPureFnExactGetText
