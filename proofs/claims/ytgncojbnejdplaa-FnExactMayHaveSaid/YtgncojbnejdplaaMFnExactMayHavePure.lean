/- MayHave of the program and of the reference answer the same, for all bytes and texts. No condition. -/
import Derived.Test.YtgncojbnejdplaaMFnExactMayHaveDef
set_option linter.unusedVariables false
set_option linter.unusedSimpArgs false
namespace Go.Proofs.Ytgncojbnejdplaa.MPureFnExactMayHave
open Go.RowKit Go.Proofs.Ytgncojbnejdplaa.MFnExactMayHave Go.Proofs.YtgncojbnejdplaaW.PrintWords Go.Proofs.YtgncojbnejdplaaW.PrintLast Go.Proofs.YtgncojbnejdplaaW.PrintMore

theorem wrap_id {i : Int} (h0 : -9223372036854775808 ≤ i) (h1 : i ≤ 9223372036854775807) : wrap64 i = i := by unfold wrap64; omega
theorem wrap_succ {i n : Nat} (h : i < n) (hn : n ≤ 9223372036854775807) : wrap64 ((i : Int) + 1) = ((i + 1 : Nat) : Int) := by unfold wrap64; omega
theorem rd_nat (xs : List Int) (i : Nat) : rd xs (i : Int) = xs.getD i 0 := by simp [rd]
theorem take_set_succ {α : Type} (l : List α) (i : Nat) (x : α) (h : i < l.length) : (l.set i x).take (i + 1) = l.take i ++ [x] := by
  rw [List.take_succ_eq_append_getElem (by simpa using h), List.getElem_set_self, List.take_set_of_le (Nat.le_refl _)]
theorem take_succ_getD {α : Type} (l : List α) (i : Nat) (d : α) (h : i < l.length) : l.take (i + 1) = l.take i ++ [l.getD i d] := by
  rw [List.take_succ_eq_append_getElem h, List.getD_eq_getElem?_getD, List.getElem?_eq_getElem h]
  rfl
theorem take_all {α : Type} {l m : List α} {n : Nat} (h : l.take n = m) (hl : l.length = n) : l = m := by
  rw [← h, ← hl, List.take_length]
theorem wf_u8 {x : Int} (h : (Lit.int .u8 x).wf = true) : 0 ≤ x ∧ x ≤ 255 := by
  simp [Lit.wf, IntKind.min, IntKind.max, IntKind.signed, IntKind.bits] at h
  omega
theorem wf_i64 {x : Int} (h : (Lit.int .i64 x).wf = true) : -9223372036854775808 ≤ x ∧ x ≤ 9223372036854775807 := by
  simp [Lit.wf, IntKind.min, IntKind.max, IntKind.signed, IntKind.bits] at h
  omega

theorem toByteS_l0 (xs : List Int) (hn : xs.length ≤ 9223372036854775806) : ∀ (d : Nat) (out : List Int) (i : Nat), i + d = xs.length → out.length = xs.length → out.take i = xs.take i →
    Ev (fun k => laws_toByteS.l0 k xs out (i : Int)) xs := by
  intro d
  induction d with
  | zero =>
    intro out i hi hl ht
    have e : out = xs := by rw [take_all ht (by omega), List.take_of_length_le (by omega)]
    refine Ev.step (f := fun _ => some xs) (fun k => ?_) (Ev.now xs)
    simp only [laws_toByteS.l0]
    rw [if_neg (by omega), e]
  | succ d ih =>
    intro out i hi hl ht
    refine Ev.step (f := fun k => laws_toByteS.l0 k xs (out.set i (xs.getD i 0)) ((i + 1 : Nat) : Int)) (fun k => ?_) (ih _ _ (by omega) (by simp [hl]) ?_)
    · simp only [laws_toByteS.l0]
      rw [if_pos (by omega), if_pos (by omega), if_pos (by omega), wrap_succ (n := xs.length) (by omega) (by omega), rd_nat, Int.toNat_natCast]
    · rw [take_set_succ _ _ _ (by omega), take_succ_getD _ _ 0 (by omega), ht]
theorem toByteS_ev (xs : List Int) (hn : xs.length ≤ 281474976710656) : Ev (fun k => laws_toByteS.f k xs) xs := by
  have h := toByteS_l0 xs (by omega) xs.length (List.replicate xs.length 0) 0 (by omega) (by simp) (by simp)
  refine Ev.congr (fun k => ?_) h
  simp only [laws_toByteS.f]
  rw [if_pos (by omega), if_pos (by omega)]
  rfl
theorem eqByteS_l0 (xs : List Int) (hn : xs.length ≤ 9223372036854775806) : ∀ (d i : Nat), i + d = xs.length → Ev (fun k => laws_eqByteS.l0 k xs xs (i : Int)) true := by
  intro d
  induction d with
  | zero =>
    intro i hi
    refine Ev.step (f := fun _ => some true) (fun k => ?_) (Ev.now true)
    simp only [laws_eqByteS.l0]
    rw [if_neg (by omega)]
  | succ d ih =>
    intro i hi
    refine Ev.step (f := fun k => laws_eqByteS.l0 k xs xs ((i + 1 : Nat) : Int)) (fun k => ?_) (ih _ (by omega))
    simp only [laws_eqByteS.l0]
    rw [if_pos (by omega), if_pos (by omega), if_pos (by omega), if_pos trivial, wrap_succ (n := xs.length) (by omega) (by omega)]
theorem eqByteS_ev (xs : List Int) (hn : xs.length ≤ 9223372036854775806) : Ev (fun k => laws_eqByteS.f k xs xs) true := by
  refine Ev.congr (fun k => ?_) (eqByteS_l0 xs hn xs.length 0 (by omega))
  simp only [laws_eqByteS.f]
  rw [if_pos trivial]
  rfl

theorem wraps_i64 (n : Int) (h0 : 0 ≤ n) (h1 : n < 2 ^ 63) : IntKind.i64.wrap n = n := by rw [IntKind.wrap_i64]; omega
theorem and127 {x : Int} (h0 : 0 ≤ x) (h1 : x < 9223372036854775808) : Go.bits .and .i64 x 127 = x % 128 := by
  have h := bits_mask .i64 63 (by decide) wraps_i64 7 (by decide) x h0 (by omega)
  simpa using h
theorem or7 {x y : Int} (h0 : 0 ≤ x) (h1 : x < 9223372036854775808) (hx : x % 128 = 0) (hy0 : 0 ≤ y) (hy : y < 128) : Go.bits .or .i64 x y = x + y :=
  bits_join .i64 63 (by decide) wraps_i64 7 x y h0 (by simpa using hx) (by omega) hy0 (by omega) (by omega)
theorem or_128 {y : Int} (hy0 : 0 ≤ y) (hy : y < 128) : Go.bits .or .i64 y 128 = y + 128 := by
  obtain ⟨b, rfl⟩ := Int.eq_ofNat_of_zero_le hy0
  have h := (bits_nat .i64 63 (by decide) wraps_i64 b 128 (by omega) (by decide)).2
  have h2 := Nat.two_pow_add_eq_or_of_lt (i := 7) (b := b) (by omega) 1
  rw [Nat.or_comm] at h2
  have h3 : Go.bits .or .i64 ((b : Nat) : Int) 128 = ((b ||| 128 : Nat) : Int) := h
  have h4 : (b ||| 128 : Nat) = 128 + b := by simpa using h2.symm
  rw [h3, h4]
  omega
theorem shr_eq {x : Int} {s : Int} (j : Nat) (hs : s = (j : Int)) (hj : j ≤ 64) : shr .i64 x s = x / 2 ^ j := by
  subst hs
  unfold shr
  rw [Int.toNat_natCast, Nat.min_eq_left (by simpa [IntKind.bits] using hj)]

def BytesIn (b : List Int) : Prop := ∀ i : Int, 0 ≤ rd b i ∧ rd b i ≤ 255
theorem bytesIn_of {b : List Int} (h : ∀ x ∈ b, (Lit.int .u8 x).wf = true) : BytesIn b := by
  intro i
  unfold rd
  rw [List.getD_eq_getElem?_getD]
  cases e : b[i.toNat]? with
  | none => simp
  | some x => exact wf_u8 (h x (List.mem_of_getElem? e))
theorem BytesIn.mem {b : List Int} (h : BytesIn b) : ∀ x ∈ b, 0 ≤ x ∧ x ≤ 255 := by
  intro x hx
  obtain ⟨i, hi, rfl⟩ := List.mem_iff_getElem.1 hx
  have := h (i : Int)
  simpa [rd, List.getD_eq_getElem?_getD, List.getElem?_eq_getElem hi] using this
theorem BytesIn.of_mem {b : List Int} (h : ∀ x ∈ b, 0 ≤ x ∧ x ≤ 255) : BytesIn b := by
  intro i
  unfold rd
  rw [List.getD_eq_getElem?_getD]
  cases e : b[i.toNat]? with
  | none => simp
  | some x => exact h x (List.mem_of_getElem? e)
theorem BytesIn.nat {b : List Int} (h : BytesIn b) : ∀ x ∈ b, x.toNat < 4294967296 := fun x hx => by have := h.mem x hx; omega
theorem drop_cons_rd {b : List Int} {i : Nat} (h : i < b.length) : b.drop i = rd b (i : Int) :: b.drop (i + 1) := by
  rw [List.drop_eq_getElem_cons h, rd_nat, List.getD_eq_getElem?_getD, List.getElem?_eq_getElem h]
  rfl

theorem ofInt64 (a : Nat) (ha : a < 18446744073709551616) : (BitVec.ofInt 64 (a : Int)).toNat = a := by
  rw [BitVec.ofInt_natCast, BitVec.toNat_ofNat]; exact Nat.mod_eq_of_lt (by omega)
theorem ofInt32 (a : Nat) (ha : a < 4294967296) : (BitVec.ofInt 32 (a : Int)).toNat = a := by
  rw [BitVec.ofInt_natCast, BitVec.toNat_ofNat]; exact Nat.mod_eq_of_lt (by omega)
theorem xor_i64 (a b : Nat) (ha : a < 4294967296) (hb : b < 4294967296) : Go.bits .xor .i64 (a : Int) (b : Int) = ((a ^^^ b : Nat) : Int) := by
  have hx : a ^^^ b < 2 ^ 32 := Nat.xor_lt_two_pow (by omega) (by omega)
  show IntKind.i64.wrap ((BitVec.ofInt 64 (a : Int) ^^^ BitVec.ofInt 64 (b : Int)).toNat : Int) = _
  rw [BitVec.toNat_xor, ofInt64 a (by omega), ofInt64 b (by omega), IntKind.wrap_i64]
  omega
theorem xor_u32 (a b : Nat) (ha : a < 4294967296) (hb : b < 4294967296) : Go.bits .xor .u32 (a : Int) (b : Int) = ((a ^^^ b : Nat) : Int) := by
  have hx : a ^^^ b < 2 ^ 32 := Nat.xor_lt_two_pow (by omega) (by omega)
  show IntKind.u32.wrap ((BitVec.ofInt 32 (a : Int) ^^^ BitVec.ofInt 32 (b : Int)).toNat : Int) = _
  rw [BitVec.toNat_xor, ofInt32 a ha, ofInt32 b hb, IntKind.wrap_u32]
  omega
theorem xor_i64' (a : Nat) (v : Int) (ha : a < 4294967296) (h0 : 0 ≤ v) (h1 : v < 4294967296) : Go.bits .xor .i64 (a : Int) v = ((a ^^^ v.toNat : Nat) : Int) := by
  obtain ⟨c, rfl⟩ := Int.eq_ofNat_of_zero_le h0
  simpa using xor_i64 a c ha (by omega)
theorem and1_i64 (a : Nat) (ha : a < 4294967296) : Go.bits .and .i64 (a : Int) 1 = ((a % 2 : Nat) : Int) := by
  have h := bits_mask .i64 63 (by decide) wraps_i64 1 (by decide) (a : Int) (by omega) (by omega)
  have h2 : Go.bits .and .i64 (a : Int) 1 = (a : Int) % 2 := by simpa using h
  rw [h2]
  omega
theorem wraps_u32 (n : Int) (h0 : 0 ≤ n) (h1 : n < 2 ^ 32) : IntKind.u32.wrap n = n := by rw [IntKind.wrap_u32]; omega
theorem and1_u32 (a : Nat) (ha : a < 4294967296) : Go.bits .and .u32 (a : Int) 1 = ((a % 2 : Nat) : Int) := by
  have h := bits_mask .u32 32 (by decide) wraps_u32 1 (by decide) (a : Int) (by omega) (by omega)
  have h2 : Go.bits .and .u32 (a : Int) 1 = (a : Int) % 2 := by simpa using h
  rw [h2]
  omega
def crc1 (x : Nat) : Nat := if x % 2 = 1 then x / 2 ^^^ 2197175160 else x / 2
def crcR : Nat → Nat → Nat
  | 0, x => x
  | n + 1, x => crcR n (crc1 x)
def crcB (x c : Nat) : Nat := crcR 8 (x ^^^ c)
def crcL : List Int → Nat → Nat
  | [], x => x
  | c :: l, x => crcL l (crcB x c.toNat)
/-- The sum of bytes, as a number. -/
def sumN (l : List Int) : Int := ((crcL l 4294967295 ^^^ 4294967295 : Nat) : Int)
theorem xor32 {a b : Nat} (ha : a < 4294967296) (hb : b < 4294967296) : a ^^^ b < 4294967296 := by
  have := Nat.xor_lt_two_pow (n := 32) (x := a) (y := b) (by omega) (by omega)
  omega
theorem crc1_lt {x : Nat} (h : x < 4294967296) : crc1 x < 4294967296 := by
  unfold crc1
  split
  · exact xor32 (by omega) (by omega)
  · omega
theorem crcR_lt : ∀ (n : Nat) {x : Nat}, x < 4294967296 → crcR n x < 4294967296
  | 0, _, h => h
  | n + 1, _, h => crcR_lt n (crc1_lt h)
theorem crcB_lt {x c : Nat} (h : x < 4294967296) (hc : c < 4294967296) : crcB x c < 4294967296 := crcR_lt 8 (xor32 h hc)
theorem crcL_lt : ∀ (l : List Int), (∀ c ∈ l, c.toNat < 4294967296) → ∀ {x : Nat}, x < 4294967296 → crcL l x < 4294967296
  | [], _, _, h => h
  | c :: l, hl, _, h => crcL_lt l (fun d hd => hl d (List.mem_cons_of_mem _ hd)) (crcB_lt h (hl c List.mem_cons_self))
theorem sumN_range {l : List Int} (h : ∀ c ∈ l, c.toNat < 4294967296) : 0 ≤ sumN l ∧ sumN l ≤ 4294967295 := by
  have := xor32 (crcL_lt l h (x := 4294967295) (by omega)) (b := 4294967295) (by omega)
  unfold sumN
  omega

theorem spec_sum_l1 (b : List Int) (i : Nat) (r : Int) (hi : i < 281474976710656) : ∀ (d x j : Nat), j + d = 8 → x < 4294967296 → Ev (fun q => spec_Sum.l0 q b ((crcR d x : Nat) : Int) ((i + 1 : Nat) : Int)) r →
    Ev (fun q => spec_Sum.l1 q b (x : Int) (i : Int) (j : Int)) r := by
  intro d
  induction d with
  | zero =>
    intro x j hj hx h
    refine Ev.step (f := fun q => spec_Sum.l0 q b (x : Int) ((i + 1 : Nat) : Int)) (fun q => ?_) h
    simp only [spec_Sum.l1]
    rw [if_neg (by omega), wrap_id (i := (i : Int) + 1) (by omega) (by omega)]
    rfl
  | succ d ih =>
    intro x j hj hx h
    refine Ev.step (f := fun q => spec_Sum.l1 q b ((crc1 x : Nat) : Int) (i : Int) ((j + 1 : Nat) : Int)) (fun q => ?_) (ih (crc1 x) (j + 1) (by omega) (crc1_lt hx) h)
    simp only [spec_Sum.l1]
    have hd : (x : Int) / 2 = ((x / 2 : Nat) : Int) := by omega
    rw [if_pos (by omega), and1_i64 x hx, hd, wrap_id (i := (j : Int) + 1) (by omega) (by omega)]
    have e2 : (2197175160 : Int) = ((2197175160 : Nat) : Int) := rfl
    rw [e2, xor_i64 (x / 2) 2197175160 (by omega) (by omega)]
    unfold crc1
    by_cases h1 : x % 2 = 1
    · rw [if_pos h1, if_pos (by omega)]
      rfl
    · rw [if_neg h1, if_neg (by omega)]
      rfl
theorem spec_sum_l0 (b : List Int) (hb : BytesIn b) (hn : b.length < 281474976710656) : ∀ (d x i : Nat), i + d = b.length → x < 4294967296 → Ev (fun q => spec_Sum.l0 q b (x : Int) (i : Int)) ((crcL (b.drop i) x ^^^ 4294967295 : Nat) : Int) := by
  intro d
  induction d with
  | zero =>
    intro x i hi hx
    rw [List.drop_eq_nil_of_le (by omega)]
    refine Ev.step (f := fun _ => some _) (fun q => ?_) (Ev.now _)
    simp only [spec_Sum.l0]
    rw [if_neg (by omega)]
    have e2 : (4294967295 : Int) = ((4294967295 : Nat) : Int) := rfl
    rw [e2, xor_i64 x 4294967295 hx (by omega)]
    rfl
  | succ d ih =>
    intro x i hi hx
    have hc := hb (i : Int)
    rw [drop_cons_rd (by omega)]
    have hy : x ^^^ (rd b (i : Int)).toNat < 4294967296 := xor32 hx (by omega)
    refine Ev.step (f := fun q => spec_Sum.l1 q b ((x ^^^ (rd b (i : Int)).toNat : Nat) : Int) (i : Int) ((0 : Nat) : Int)) (fun q => ?_) (spec_sum_l1 b i _ (by omega) 8 _ 0 rfl hy (ih _ (i + 1) (by omega) (crcR_lt 8 hy)))
    simp only [spec_Sum.l0]
    rw [if_pos (by omega), if_pos (by omega), wrap_id (i := rd b (i : Int)) (by omega) (by omega), xor_i64' x _ hx (by omega) (by omega)]
    rfl
theorem spec_sum_ev (b : List Int) (hb : BytesIn b) (hn : b.length < 281474976710656) : Ev (fun q => spec_Sum.f q b) (sumN b) :=
  spec_sum_l0 b hb hn b.length 4294967295 0 (by omega) (by omega)

theorem impl_sum_l1 (b : List Int) (n : Int) (i : Nat) (r : Int) (hi : i < 281474976710656) : ∀ (d x j : Nat), j + d = 8 → x < 4294967296 → Ev (fun q => impl_Sum.l0 q ((crcR d x : Nat) : Int) b n ((i + 1 : Nat) : Int)) r →
    Ev (fun q => impl_Sum.l1 q (x : Int) b n (i : Int) (j : Int)) r := by
  intro d
  induction d with
  | zero =>
    intro x j hj hx h
    refine Ev.step (f := fun q => impl_Sum.l0 q (x : Int) b n ((i + 1 : Nat) : Int)) (fun q => ?_) h
    simp only [impl_Sum.l1]
    rw [if_neg (by omega), wrap_id (i := (i : Int) + 1) (by omega) (by omega)]
    rfl
  | succ d ih =>
    intro x j hj hx h
    refine Ev.step (f := fun q => impl_Sum.l1 q ((crc1 x : Nat) : Int) b n (i : Int) ((j + 1 : Nat) : Int)) (fun q => ?_) (ih (crc1 x) (j + 1) (by omega) (crc1_lt hx) h)
    simp only [impl_Sum.l1]
    have hd : (x : Int) / 2 = ((x / 2 : Nat) : Int) := by omega
    rw [if_pos (by omega), and1_u32 x hx, hd, wrap_id (i := (j : Int) + 1) (by omega) (by omega)]
    have e2 : (2197175160 : Int) = ((2197175160 : Nat) : Int) := rfl
    rw [e2, xor_u32 (x / 2) 2197175160 (by omega) (by omega)]
    unfold crc1
    by_cases h1 : x % 2 = 1
    · rw [if_pos h1, if_pos (by omega)]
      rfl
    · rw [if_neg h1, if_neg (by omega)]
      rfl
theorem impl_sum_l0 (b : List Int) (hb : BytesIn b) (hn : b.length < 281474976710656) : ∀ (d x i : Nat), i + d = b.length → x < 4294967296 → Ev (fun q => impl_Sum.l0 q (x : Int) b (b.length : Int) (i : Int)) ((crcL (b.drop i) x ^^^ 4294967295 : Nat) : Int) := by
  intro d
  induction d with
  | zero =>
    intro x i hi hx
    rw [List.drop_eq_nil_of_le (by omega)]
    refine Ev.step (f := fun _ => some _) (fun q => ?_) (Ev.now _)
    simp only [impl_Sum.l0]
    rw [if_neg (by omega)]
    have e2 : (4294967295 : Int) = ((4294967295 : Nat) : Int) := rfl
    have hy := xor32 (a := 4294967295) (b := x) (by omega) hx
    rw [e2, xor_u32 4294967295 x (by omega) hx, wrap_id (by omega) (by omega), Nat.xor_comm]
    rfl
  | succ d ih =>
    intro x i hi hx
    have hc := hb (i : Int)
    rw [drop_cons_rd (by omega)]
    have hcn : rd b (i : Int) % 4294967296 = (((rd b (i : Int)).toNat : Nat) : Int) := by omega
    have hy : x ^^^ (rd b (i : Int)).toNat < 4294967296 := xor32 hx (by omega)
    refine Ev.step (f := fun q => impl_Sum.l1 q ((x ^^^ (rd b (i : Int)).toNat : Nat) : Int) b (b.length : Int) (i : Int) ((0 : Nat) : Int)) (fun q => ?_) (impl_sum_l1 b _ i _ (by omega) 8 _ 0 rfl hy (ih _ (i + 1) (by omega) (crcR_lt 8 hy)))
    simp only [impl_Sum.l0]
    rw [if_pos (by omega), if_pos (by omega), if_pos (by omega), hcn, xor_u32 x _ hx (by omega)]
    rfl
theorem impl_sum_ev (b : List Int) (hb : BytesIn b) (hn : b.length < 281474976710656) : Ev (fun q => impl_Sum.f q b) (sumN b) :=
  impl_sum_l0 b hb hn b.length 4294967295 0 (by omega) (by omega)

theorem bytesOf_in (s : ByteArray) : BytesIn (bytesOf s) := by
  apply BytesIn.of_mem
  intro x hx
  simp only [bytesOf, List.mem_map] at hx
  obtain ⟨b, _, rfl⟩ := hx
  have := b.toNat_lt
  omega

def markR (s : ByteArray) : Int × Int := (sumN (bytesOf s) % 64, sumN (bytesOf s) / 64 % 64)
theorem markR_range (s : ByteArray) : 0 ≤ (markR s).1 ∧ (markR s).1 < 64 ∧ 0 ≤ (markR s).2 ∧ (markR s).2 < 64 := by unfold markR; dsimp only; omega
theorem mark_arith {t : Int} (h0 : 0 ≤ t) (h1 : t ≤ 4294967295) : (Int.tmod t 64, Int.tmod (wrap64 (Int.tdiv t 64)) 64) = (t % 64, t / 64 % 64) := by
  rw [Int.tmod_eq_emod_of_nonneg h0, Int.tdiv_eq_ediv_of_nonneg h0, wrap_id (by omega) (by omega), Int.tmod_eq_emod_of_nonneg (by omega)]
theorem spec_mark_ev (s : ByteArray) (h : s.size < 281474976710656) : Ev (fun k => spec_Mark.f k s) (markR s) := by
  obtain ⟨K, h2⟩ := spec_sum_ev (bytesOf s) (bytesOf_in s) (by rw [bytesOf_length]; omega)
  have hr := sumN_range (bytesOf_in s).nat
  dsimp only at h2
  refine ⟨K, fun k hk => ?_⟩
  simp only [spec_Mark.f]
  rw [if_pos (by omega), h2 k hk, Option.bind_some, mark_arith hr.1 hr.2]
  rfl
theorem impl_mark_ev (s : ByteArray) (h : s.size < 281474976710656) : Ev (fun k => impl_Mark.f k s) (markR s) := by
  obtain ⟨K, h2⟩ := impl_sum_ev (bytesOf s) (bytesOf_in s) (by rw [bytesOf_length]; omega)
  have hr := sumN_range (bytesOf_in s).nat
  dsimp only at h2
  refine ⟨K, fun k hk => ?_⟩
  simp only [impl_Mark.f]
  rw [if_pos (by omega), h2 k hk, Option.bind_some, mark_arith hr.1 hr.2]
  rfl

theorem div8 {t : Int} (h0 : 0 ≤ t) (h1 : t < 64) : wrap64 (Int.tdiv t 8) = t / 8 := by
  rw [Int.tdiv_eq_ediv_of_nonneg h0, wrap_id (by omega) (by omega)]
theorem mod8 {t : Int} (h0 : 0 ≤ t) : Int.tmod t 8 = t % 8 := Int.tmod_eq_emod_of_nonneg h0
theorem u64_small {t : Int} (h0 : 0 ≤ t) (h1 : t < 64) : IntKind.u64.wrap t = t := by
  simp only [IntKind.wrap, IntKind.bits, IntKind.signed]
  simp
  omega
def bitAt (l : List Int) (t : Int) : Bool := Go.bits .and .u8 (shr .u8 (rd l (t / 8)) (t % 8)) 1 == 1
def mayR (l : List Int) (s : ByteArray) : Bool := if (l.length : Int) = 8 then (bitAt l (markR s).1 && bitAt l (markR s).2) else true
theorem spec_mayHave_ev (l : List Int) (s : ByteArray) (h : s.size < 281474976710656) : Ev (fun k => spec_MayHave.f k l s) (mayR l s) := by
  obtain ⟨K, h2⟩ := spec_mark_ev s h
  obtain ⟨r1, r2, r3, r4⟩ := markR_range s
  dsimp only at h2
  refine ⟨K, fun k hk => ?_⟩
  simp only [spec_MayHave.f]
  unfold mayR
  by_cases h8 : (l.length : Int) = 8
  · rw [if_pos h8, if_pos h8, h2 k hk, Option.bind_some, div8 r1 r2, div8 r3 r4, mod8 r1, mod8 r3, u64_small (t := (markR s).1 % 8) (by omega) (by omega), u64_small (t := (markR s).2 % 8) (by omega) (by omega), if_pos (by omega), if_pos (by omega), if_pos (by omega)]
    unfold bitAt
    by_cases hb : Go.bits .and .u8 (shr .u8 (rd l ((markR s).1 / 8)) ((markR s).1 % 8)) 1 = 1
    · rw [if_pos hb, if_pos (by omega), if_pos (by omega), if_pos (by omega), hb]
      simp
    · rw [if_neg hb, beq_eq_false_iff_ne.2 hb]
      simp
  · rw [if_neg h8, if_neg h8]
theorem impl_mayHave_ev (l : List Int) (s : ByteArray) (h : s.size < 281474976710656) : Ev (fun k => impl_MayHave.f k l s) (mayR l s) := by
  obtain ⟨K, h2⟩ := impl_mark_ev s h
  obtain ⟨r1, r2, r3, r4⟩ := markR_range s
  dsimp only at h2
  refine ⟨K, fun k hk => ?_⟩
  simp only [impl_MayHave.f]
  unfold mayR
  by_cases h8 : (l.length : Int) = 8
  · rw [if_pos h8, if_pos h8, h2 k hk, Option.bind_some, div8 r1 r2, div8 r3 r4, mod8 r1, mod8 r3, if_pos (by omega), if_pos (by omega), if_pos (by omega)]
    unfold bitAt
    by_cases hb : Go.bits .and .u8 (shr .u8 (rd l ((markR s).1 / 8)) ((markR s).1 % 8)) 1 = 1
    · rw [if_pos hb, if_pos (by omega), if_pos (by omega), if_pos (by omega), hb]
      simp
    · rw [if_neg hb, beq_eq_false_iff_ne.2 hb]
      simp
  · rw [if_neg h8, if_neg h8]

theorem FnExactMayHave : laws_FnExactMayHave.Pure := by
  intro xs n hx hn
  by_cases hbig : (xs.length : Int) > 1048576
  · exact ⟨0, by simp only [laws_FnExactMayHave.f]; rw [if_pos hbig]⟩
  by_cases hbig2 : (n.size : Int) > 1048576
  · exact ⟨0, by simp only [laws_FnExactMayHave.f]; rw [if_neg hbig, if_pos hbig2]⟩
  obtain ⟨K1, h1⟩ := toByteS_ev xs (by omega)
  obtain ⟨K2, h2⟩ := spec_mayHave_ev xs n (by omega)
  obtain ⟨K3, h3⟩ := impl_mayHave_ev xs n (by omega)
  obtain ⟨K4, h4⟩ := eqByteS_ev xs (by omega)
  dsimp only at h1 h2 h3 h4
  refine ⟨K1 + K2 + K3 + K4, ?_⟩
  simp only [laws_FnExactMayHave.f]
  rw [if_neg hbig, if_neg hbig2, h1 _ (by omega), Option.bind_some, h2 _ (by omega), Option.bind_some, Option.bind_some, h3 _ (by omega), Option.bind_some, Option.bind_some, h4 _ (by omega), Option.bind_some]
  simp

end Go.Proofs.Ytgncojbnejdplaa.MPureFnExactMayHave
