/- FnExactRecords: Records of the program and of the reference answer the same, for all bytes; what it answers is new memory. No condition. -/
import Derived.Test.YtecjamgajlpfdaaMFnExactRecordsDef
set_option linter.unusedVariables false
set_option linter.unusedSimpArgs false
namespace Go.Proofs.Ytecjamgajlpfdaa.MPureFnExactRecords
open Go.RowKit Go.Proofs.Ytecjamgajlpfdaa.MFnExactRecords Go.Proofs.YtecjamgajlpfdaaW.PrintWords Go.Proofs.YtecjamgajlpfdaaW.PrintLast Go.Proofs.YtecjamgajlpfdaaW.PrintMore

theorem wrap_id {i : Int} (h0 : -9223372036854775808 ≤ i) (h1 : i ≤ 9223372036854775807) : wrap64 i = i := by unfold wrap64; omega
theorem wrap_succ {i n : Nat} (h : i < n) (hn : n ≤ 9223372036854775807) : wrap64 ((i : Int) + 1) = ((i + 1 : Nat) : Int) := by unfold wrap64; omega
theorem rd_nat (xs : List Int) (i : Nat) : rd xs (i : Int) = xs.getD i 0 := by simp [rd]
theorem take_set_succ {α : Type} (l : List α) (i : Nat) (x : α) (h : i < l.length) : (l.set i x).take (i + 1) = l.take i ++ [x] := by
  rw [List.take_succ_eq_append_getElem (by simpa using h), List.getElem_set_self, List.take_set_of_le (Nat.le_refl _)]
theorem take_succ_getD {α : Type} (l : List α) (i : Nat) (d : α) (h : i < l.length) : l.take (i + 1) = l.take i ++ [l.getD i d] := by
  rw [List.take_succ_eq_append_getElem h, List.getD_eq_getElem?_getD, List.getElem?_eq_getElem h]
  rfl
theorem take_all {α : Type} {l m : List α} {n : Nat} (h : l.take n = m) (hl : l.length = n) : l = m := by
  rw [← h, ← hl, List.take_length]
theorem wf_u8 {x : Int} (h : (Lit.int .u8 x).wf = true) : 0 ≤ x ∧ x ≤ 255 := by
  simp [Lit.wf, IntKind.min, IntKind.max, IntKind.signed, IntKind.bits] at h
  omega
theorem wf_i64 {x : Int} (h : (Lit.int .i64 x).wf = true) : -9223372036854775808 ≤ x ∧ x ≤ 9223372036854775807 := by
  simp [Lit.wf, IntKind.min, IntKind.max, IntKind.signed, IntKind.bits] at h
  omega

theorem toByteS_l0 (xs : List Int) (hn : xs.length ≤ 9223372036854775806) : ∀ (d : Nat) (out : List Int) (i : Nat), i + d = xs.length → out.length = xs.length → out.take i = xs.take i →
    Ev (fun k => laws_toByteS.l0 k xs out (i : Int)) xs := by
  intro d
  induction d with
  | zero =>
    intro out i hi hl ht
    have e : out = xs := by rw [take_all ht (by omega), List.take_of_length_le (by omega)]
    refine Ev.step (f := fun _ => some xs) (fun k => ?_) (Ev.now xs)
    simp only [laws_toByteS.l0]
    rw [if_neg (by omega), e]
  | succ d ih =>
    intro out i hi hl ht
    refine Ev.step (f := fun k => laws_toByteS.l0 k xs (out.set i (xs.getD i 0)) ((i + 1 : Nat) : Int)) (fun k => ?_) (ih _ _ (by omega) (by simp [hl]) ?_)
    · simp only [laws_toByteS.l0]
      rw [if_pos (by omega), if_pos (by omega), if_pos (by omega), wrap_succ (n := xs.length) (by omega) (by omega), rd_nat, Int.toNat_natCast]
    · rw [take_set_succ _ _ _ (by omega), take_succ_getD _ _ 0 (by omega), ht]
theorem toByteS_ev (xs : List Int) (hn : xs.length ≤ 281474976710656) : Ev (fun k => laws_toByteS.f k xs) xs := by
  have h := toByteS_l0 xs (by omega) xs.length (List.replicate xs.length 0) 0 (by omega) (by simp) (by simp)
  refine Ev.congr (fun k => ?_) h
  simp only [laws_toByteS.f]
  rw [if_pos (by omega), if_pos (by omega)]
  rfl

theorem eqByteS_l0 (xs : List Int) (hn : xs.length ≤ 9223372036854775806) : ∀ (d i : Nat), i + d = xs.length → Ev (fun k => laws_eqByteS.l0 k xs xs (i : Int)) true := by
  intro d
  induction d with
  | zero =>
    intro i hi
    refine Ev.step (f := fun _ => some true) (fun k => ?_) (Ev.now true)
    simp only [laws_eqByteS.l0]
    rw [if_neg (by omega)]
  | succ d ih =>
    intro i hi
    refine Ev.step (f := fun k => laws_eqByteS.l0 k xs xs ((i + 1 : Nat) : Int)) (fun k => ?_) (ih _ (by omega))
    simp only [laws_eqByteS.l0]
    rw [if_pos (by omega), if_pos (by omega), if_pos (by omega), if_pos trivial, wrap_succ (n := xs.length) (by omega) (by omega)]
theorem eqByteS_ev (xs : List Int) (hn : xs.length ≤ 9223372036854775806) : Ev (fun k => laws_eqByteS.f k xs xs) true := by
  refine Ev.congr (fun k => ?_) (eqByteS_l0 xs hn xs.length 0 (by omega))
  simp only [laws_eqByteS.f]
  rw [if_pos trivial]
  rfl



def markB (a : Int) (n : Nat) : List Int := (List.range n).map fun (j : Nat) => (a + (j : Int)) % 256
theorem markB_length (a : Int) (n : Nat) : (markB a n).length = n := by simp [markB]
theorem markB_succ (a : Int) (n : Nat) : markB a (n + 1) = markB a n ++ [(a + (n : Int)) % 256] := by simp [markB, List.range_succ]
theorem markB_get (a : Int) (n i : Nat) (h : i < n) : (markB a n).getD i 0 = (a + (i : Int)) % 256 := by
  simp [markB, List.getD_eq_getElem?_getD, h]
theorem markByteS_l0 (a : Int) (n : Nat) (ha : 0 ≤ a) (hb : a + n ≤ 9223372036854775806) : ∀ (d : Nat) (l : List Int) (i : Nat), i + d = n → l.length = n → l.take i = markB a i →
    Ev (fun k => laws_markByteS.l0 k l (a + (i : Int)) (i : Int)) (a + (n : Int), markB a n) := by
  intro d
  induction d with
  | zero =>
    intro l i hi hl ht
    have hin : i = n := by omega
    subst hin
    have e : l = markB a i := take_all ht hl
    refine Ev.step (f := fun _ => some (a + (i : Int), markB a i)) (fun k => ?_) (Ev.now _)
    simp only [laws_markByteS.l0]
    rw [if_neg (by omega), e]
  | succ d ih =>
    intro l i hi hl ht
    refine Ev.step (f := fun k => laws_markByteS.l0 k (l.set i ((a + (i : Int)) % 256)) (a + ((i + 1 : Nat) : Int)) ((i + 1 : Nat) : Int)) (fun k => ?_) (ih _ _ (by omega) (by simp [hl]) ?_)
    · simp only [laws_markByteS.l0]
      rw [if_pos (by omega), if_pos (by omega), wrap_succ (n := n) (by omega) (by omega), Int.toNat_natCast, wrap_id (i := a + (i : Int) + 1) (by omega) (by omega)]
      congr 1
      omega
    · rw [take_set_succ _ _ _ (by omega), markB_succ, ht]
theorem markByteS_ev (l : List Int) (a : Int) (ha : 0 ≤ a) (hb : a + l.length ≤ 9223372036854775806) : Ev (fun k => laws_markByteS.f k l a) (a + (l.length : Int), markB a l.length) := by
  refine Ev.congr (fun k => ?_) (markByteS_l0 a l.length ha hb l.length l 0 (by omega) rfl rfl)
  simp only [laws_markByteS.f]
  congr 1
  simp

theorem heldByteS_l0 (a : Int) (n : Nat) (ha : 0 ≤ a) (hb : a + n ≤ 9223372036854775806) : ∀ (d i : Nat), i + d = n → Ev (fun k => laws_heldByteS.l0 k (markB a n) (a + (i : Int)) (i : Int)) (a + (n : Int)) := by
  intro d
  induction d with
  | zero =>
    intro i hi
    have hin : i = n := by omega
    subst hin
    refine Ev.step (f := fun _ => some (a + (i : Int))) (fun k => ?_) (Ev.now _)
    simp only [laws_heldByteS.l0, markB_length]
    rw [if_neg (by omega)]
  | succ d ih =>
    intro i hi
    refine Ev.step (f := fun k => laws_heldByteS.l0 k (markB a n) (a + ((i + 1 : Nat) : Int)) ((i + 1 : Nat) : Int)) (fun k => ?_) (ih _ (by omega))
    simp only [laws_heldByteS.l0, markB_length]
    rw [if_pos (by omega), if_pos (by omega), rd_nat, if_pos (markB_get a n i (by omega)), wrap_succ (n := n) (by omega) (by omega), wrap_id (i := a + (i : Int) + 1) (by omega) (by omega)]
    congr 1
    omega
theorem heldByteS_ev (a : Int) (n : Nat) (ha : 0 ≤ a) (hb : a + n ≤ 9223372036854775806) : Ev (fun k => laws_heldByteS.f k (markB a n) a) (a + (n : Int)) := by
  refine Ev.congr (fun k => ?_) (heldByteS_l0 a n ha hb n 0 (by omega))
  simp only [laws_heldByteS.f]
  congr 1
  simp



theorem wraps_i64 (n : Int) (h0 : 0 ≤ n) (h1 : n < 2 ^ 63) : IntKind.i64.wrap n = n := by rw [IntKind.wrap_i64]; omega
theorem and127 {x : Int} (h0 : 0 ≤ x) (h1 : x < 9223372036854775808) : Go.bits .and .i64 x 127 = x % 128 := by
  have h := bits_mask .i64 63 (by decide) wraps_i64 7 (by decide) x h0 (by omega)
  simpa using h
theorem or7 {x y : Int} (h0 : 0 ≤ x) (h1 : x < 9223372036854775808) (hx : x % 128 = 0) (hy0 : 0 ≤ y) (hy : y < 128) : Go.bits .or .i64 x y = x + y :=
  bits_join .i64 63 (by decide) wraps_i64 7 x y h0 (by simpa using hx) (by omega) hy0 (by omega) (by omega)
theorem or_128 {y : Int} (hy0 : 0 ≤ y) (hy : y < 128) : Go.bits .or .i64 y 128 = y + 128 := by
  obtain ⟨b, rfl⟩ := Int.eq_ofNat_of_zero_le hy0
  have h := (bits_nat .i64 63 (by decide) wraps_i64 b 128 (by omega) (by decide)).2
  have h2 := Nat.two_pow_add_eq_or_of_lt (i := 7) (b := b) (by omega) 1
  rw [Nat.or_comm] at h2
  have h3 : Go.bits .or .i64 ((b : Nat) : Int) 128 = ((b ||| 128 : Nat) : Int) := h
  have h4 : (b ||| 128 : Nat) = 128 + b := by simpa using h2.symm
  rw [h3, h4]
  omega
theorem shr_eq {x : Int} {s : Int} (j : Nat) (hs : s = (j : Int)) (hj : j ≤ 64) : shr .i64 x s = x / 2 ^ j := by
  subst hs
  unfold shr
  rw [Int.toNat_natCast, Nat.min_eq_left (by simpa [IntKind.bits] using hj)]

def BytesIn (b : List Int) : Prop := ∀ i : Int, 0 ≤ rd b i ∧ rd b i ≤ 255
theorem bytesIn_of {b : List Int} (h : ∀ x ∈ b, (Lit.int .u8 x).wf = true) : BytesIn b := by
  intro i
  unfold rd
  rw [List.getD_eq_getElem?_getD]
  cases e : b[i.toNat]? with
  | none => simp
  | some x => exact wf_u8 (h x (List.mem_of_getElem? e))
theorem BytesIn.mem {b : List Int} (h : BytesIn b) : ∀ x ∈ b, 0 ≤ x ∧ x ≤ 255 := by
  intro x hx
  obtain ⟨i, hi, rfl⟩ := List.mem_iff_getElem.1 hx
  have := h (i : Int)
  simpa [rd, List.getD_eq_getElem?_getD, List.getElem?_eq_getElem hi] using this
theorem BytesIn.of_mem {b : List Int} (h : ∀ x ∈ b, 0 ≤ x ∧ x ≤ 255) : BytesIn b := by
  intro i
  unfold rd
  rw [List.getD_eq_getElem?_getD]
  cases e : b[i.toNat]? with
  | none => simp
  | some x => exact h x (List.mem_of_getElem? e)
theorem BytesIn.nat {b : List Int} (h : BytesIn b) : ∀ x ∈ b, x.toNat < 4294967296 := fun x hx => by have := h.mem x hx; omega
theorem drop_cons_rd {b : List Int} {i : Nat} (h : i < b.length) : b.drop i = rd b (i : Int) :: b.drop (i + 1) := by
  rw [List.drop_eq_getElem_cons h, rd_nat, List.getD_eq_getElem?_getD, List.getElem?_eq_getElem h]
  rfl

def getR (b : List Int) (at_ : Int) : Nat → Int → Int → Int × Int × Bool
  | 0, _, _ => (0, 0, false)
  | d + 1, n, k => if 0 ≤ at_ ∧ at_ + k < (b.length : Int) then
      (if k = 0 ∧ rd b (at_ + k) = 128 then (0, 0, false) else
        if rd b (at_ + k) < 128 then (if n * 128 + rd b (at_ + k) % 128 > 1000000000 then (0, 0, false) else (n * 128 + rd b (at_ + k) % 128, at_ + k + 1, true))
        else getR b at_ d (n * 128 + rd b (at_ + k) % 128) (k + 1)) else (0, 0, false)
def topR : Nat → Int
  | 0 => 0
  | k + 1 => topR k * 128 + 127
theorem topR_le (k : Nat) (h : k ≤ 5) : topR k ≤ 34359738367 := by
  have : k = 0 ∨ k = 1 ∨ k = 2 ∨ k = 3 ∨ k = 4 ∨ k = 5 := by omega
  rcases this with rfl | rfl | rfl | rfl | rfl | rfl <;> decide

theorem getR_range (b : List Int) (hb : BytesIn b) (at_ : Int) : ∀ (d : Nat) (n k : Int), 0 ≤ k → 0 ≤ n → (getR b at_ d n k).2.2 = true →
    0 ≤ (getR b at_ d n k).1 ∧ (getR b at_ d n k).1 ≤ 1000000000 ∧ at_ + k + 1 ≤ (getR b at_ d n k).2.1 ∧ 0 ≤ at_ ∧ (getR b at_ d n k).2.1 ≤ b.length := by
  intro d
  induction d with
  | zero => intro n k hk hn h; simp [getR] at h
  | succ d ih =>
    intro n k hk hn h
    have hc := hb (at_ + k)
    unfold getR at h ⊢
    by_cases hr : 0 ≤ at_ ∧ at_ + k < (b.length : Int)
    · rw [if_pos hr] at h ⊢
      by_cases h1 : k = 0 ∧ rd b (at_ + k) = 128
      · rw [if_pos h1] at h; simp at h
      · rw [if_neg h1] at h ⊢
        by_cases h2 : rd b (at_ + k) < 128
        · rw [if_pos h2] at h ⊢
          by_cases h3 : n * 128 + rd b (at_ + k) % 128 > 1000000000
          · rw [if_pos h3] at h; simp at h
          · rw [if_neg h3]
            refine ⟨?_, ?_, ?_, ?_, ?_⟩ <;> first | omega | (dsimp only; omega)
        · rw [if_neg h2] at h ⊢
          obtain ⟨a1, a2, a3, a4, a5⟩ := ih _ (k + 1) (by omega) (by omega) h
          exact ⟨a1, a2, by omega, a4, a5⟩
    · rw [if_neg hr] at h; simp at h
def textR (b : List Int) (at_ : Int) : ByteArray × Int × Bool :=
  if (getR b at_ 5 0 0).2.2 = true then
    (if (getR b at_ 5 0 0).1 > (b.length : Int) - (getR b at_ 5 0 0).2.1 then ((⟨#[]⟩ : ByteArray), 0, false)
     else (strOfNums ((b.take ((getR b at_ 5 0 0).2.1 + (getR b at_ 5 0 0).1).toNat).drop ((getR b at_ 5 0 0).2.1).toNat), (getR b at_ 5 0 0).2.1 + (getR b at_ 5 0 0).1, true))
  else ((⟨#[]⟩ : ByteArray), 0, false)

theorem bytesOf_in (s : ByteArray) : BytesIn (bytesOf s) := by
  apply BytesIn.of_mem
  intro x hx
  simp only [bytesOf, List.mem_map] at hx
  obtain ⟨b, _, rfl⟩ := hx
  have := b.toNat_lt
  omega

theorem ofInt64 (a : Nat) (ha : a < 18446744073709551616) : (BitVec.ofInt 64 (a : Int)).toNat = a := by
  rw [BitVec.ofInt_natCast, BitVec.toNat_ofNat]; exact Nat.mod_eq_of_lt (by omega)
theorem ofInt32 (a : Nat) (ha : a < 4294967296) : (BitVec.ofInt 32 (a : Int)).toNat = a := by
  rw [BitVec.ofInt_natCast, BitVec.toNat_ofNat]; exact Nat.mod_eq_of_lt (by omega)
theorem xor_i64 (a b : Nat) (ha : a < 4294967296) (hb : b < 4294967296) : Go.bits .xor .i64 (a : Int) (b : Int) = ((a ^^^ b : Nat) : Int) := by
  have hx : a ^^^ b < 2 ^ 32 := Nat.xor_lt_two_pow (by omega) (by omega)
  show IntKind.i64.wrap ((BitVec.ofInt 64 (a : Int) ^^^ BitVec.ofInt 64 (b : Int)).toNat : Int) = _
  rw [BitVec.toNat_xor, ofInt64 a (by omega), ofInt64 b (by omega), IntKind.wrap_i64]
  omega
theorem xor_u32 (a b : Nat) (ha : a < 4294967296) (hb : b < 4294967296) : Go.bits .xor .u32 (a : Int) (b : Int) = ((a ^^^ b : Nat) : Int) := by
  have hx : a ^^^ b < 2 ^ 32 := Nat.xor_lt_two_pow (by omega) (by omega)
  show IntKind.u32.wrap ((BitVec.ofInt 32 (a : Int) ^^^ BitVec.ofInt 32 (b : Int)).toNat : Int) = _
  rw [BitVec.toNat_xor, ofInt32 a ha, ofInt32 b hb, IntKind.wrap_u32]
  omega
theorem xor_i64' (a : Nat) (v : Int) (ha : a < 4294967296) (h0 : 0 ≤ v) (h1 : v < 4294967296) : Go.bits .xor .i64 (a : Int) v = ((a ^^^ v.toNat : Nat) : Int) := by
  obtain ⟨c, rfl⟩ := Int.eq_ofNat_of_zero_le h0
  simpa using xor_i64 a c ha (by omega)
theorem and1_i64 (a : Nat) (ha : a < 4294967296) : Go.bits .and .i64 (a : Int) 1 = ((a % 2 : Nat) : Int) := by
  have h := bits_mask .i64 63 (by decide) wraps_i64 1 (by decide) (a : Int) (by omega) (by omega)
  have h2 : Go.bits .and .i64 (a : Int) 1 = (a : Int) % 2 := by simpa using h
  rw [h2]
  omega
theorem wraps_u32 (n : Int) (h0 : 0 ≤ n) (h1 : n < 2 ^ 32) : IntKind.u32.wrap n = n := by rw [IntKind.wrap_u32]; omega
theorem and1_u32 (a : Nat) (ha : a < 4294967296) : Go.bits .and .u32 (a : Int) 1 = ((a % 2 : Nat) : Int) := by
  have h := bits_mask .u32 32 (by decide) wraps_u32 1 (by decide) (a : Int) (by omega) (by omega)
  have h2 : Go.bits .and .u32 (a : Int) 1 = (a : Int) % 2 := by simpa using h
  rw [h2]
  omega
def crc1 (x : Nat) : Nat := if x % 2 = 1 then x / 2 ^^^ 2197175160 else x / 2
def crcR : Nat → Nat → Nat
  | 0, x => x
  | n + 1, x => crcR n (crc1 x)
def crcB (x c : Nat) : Nat := crcR 8 (x ^^^ c)
def crcL : List Int → Nat → Nat
  | [], x => x
  | c :: l, x => crcL l (crcB x c.toNat)
/-- The sum of bytes, as a number. -/
def sumN (l : List Int) : Int := ((crcL l 4294967295 ^^^ 4294967295 : Nat) : Int)
theorem xor32 {a b : Nat} (ha : a < 4294967296) (hb : b < 4294967296) : a ^^^ b < 4294967296 := by
  have := Nat.xor_lt_two_pow (n := 32) (x := a) (y := b) (by omega) (by omega)
  omega
theorem crc1_lt {x : Nat} (h : x < 4294967296) : crc1 x < 4294967296 := by
  unfold crc1
  split
  · exact xor32 (by omega) (by omega)
  · omega
theorem crcR_lt : ∀ (n : Nat) {x : Nat}, x < 4294967296 → crcR n x < 4294967296
  | 0, _, h => h
  | n + 1, _, h => crcR_lt n (crc1_lt h)
theorem crcB_lt {x c : Nat} (h : x < 4294967296) (hc : c < 4294967296) : crcB x c < 4294967296 := crcR_lt 8 (xor32 h hc)
theorem crcL_lt : ∀ (l : List Int), (∀ c ∈ l, c.toNat < 4294967296) → ∀ {x : Nat}, x < 4294967296 → crcL l x < 4294967296
  | [], _, _, h => h
  | c :: l, hl, _, h => crcL_lt l (fun d hd => hl d (List.mem_cons_of_mem _ hd)) (crcB_lt h (hl c List.mem_cons_self))
theorem sumN_range {l : List Int} (h : ∀ c ∈ l, c.toNat < 4294967296) : 0 ≤ sumN l ∧ sumN l ≤ 4294967295 := by
  have := xor32 (crcL_lt l h (x := 4294967295) (by omega)) (b := 4294967295) (by omega)
  unfold sumN
  omega

def wordR (b : List Int) (at_ : Int) : Int := rd b at_ * 16777216 + rd b (at_ + 1) * 65536 + rd b (at_ + 2) * 256 + rd b (at_ + 3)
/-- The body of a frame. -/
def unframeR (b : List Int) (at_ : Int) : List Int × Int × Bool :=
  if 0 ≤ at_ ∧ at_ ≤ (b.length : Int) - 4 then
    (if (textR b (at_ + 4)).2.2 = true ∧ sumN (bytesOf (textR b (at_ + 4)).1) = wordR b at_ then (bytesOf (textR b (at_ + 4)).1, (textR b (at_ + 4)).2.1, true) else ([], at_, false))
  else ([], at_, false)
theorem bytes_str (l : List Int) (h : ∀ x ∈ l, 0 ≤ x ∧ x ≤ 255) : bytesOf (strOfNums l) = l := by
  unfold bytesOf
  rw [strOfNums_data, List.map_map]
  conv => rhs; rw [← List.map_id l]
  apply List.map_congr_left
  intro x hx
  have := h x hx
  simp only [Function.comp_apply, id_eq]
  have e : (UInt8.ofNat x.toNat).toNat = x.toNat := by
    rw [UInt8.toNat_ofNat']
    omega
  first | (rw [e]; omega) | (simp only [UInt8.toNat_ofNat']; omega)

theorem fill_loop {β : Type} (L : Nat → List β → Int → Option (List β)) (n : Nat) (g : Nat → β) (z : β)
    (hs : ∀ (i : Nat) (out : List β) (r : List β), i < n → out.length = n → Ev (fun k => L k (out.set i (g i)) ((i + 1 : Nat) : Int)) r → Ev (fun k => L k out (i : Int)) r)
    (he : ∀ out : List β, out.length = n → Ev (fun k => L k out (n : Int)) out) : Ev (fun k => L k (List.replicate n z) 0) ((List.range n).map g) := by
  have key : ∀ (d i : Nat) (out : List β), i + d = n → out.length = n → out.take i = (List.range i).map g → Ev (fun k => L k out (i : Int)) ((List.range n).map g) := by
    intro d
    induction d with
    | zero =>
      intro i out hi hl ht
      have : i = n := by omega
      subst this
      have e := take_all ht hl
      rw [← e]
      exact he out hl
    | succ d ih =>
      intro i out hi hl ht
      refine hs i out _ (by omega) hl (ih (i + 1) _ (by omega) (by simp [hl]) ?_)
      rw [take_set_succ _ _ _ (by omega), ht, List.range_succ, List.map_append]
      rfl
  exact key n 0 _ (by omega) (by simp) (by simp)
/-- A row that is written from the left: element i becomes g i, and a state goes along. -/
theorem mark_loop {β σ : Type} (L : Nat → List β → σ → Int → Option (σ × List β)) (n : Nat) (g : Nat → β) (st : Nat → σ)
    (hs : ∀ (i : Nat) (out : List β) (r : σ × List β), i < n → out.length = n → Ev (fun k => L k (out.set i (g i)) (st (i + 1)) ((i + 1 : Nat) : Int)) r → Ev (fun k => L k out (st i) (i : Int)) r)
    (he : ∀ out : List β, out.length = n → Ev (fun k => L k out (st n) (n : Int)) (st n, out)) (l : List β) (hl : l.length = n) : Ev (fun k => L k l (st 0) 0) (st n, (List.range n).map g) := by
  have key : ∀ (d i : Nat) (out : List β), i + d = n → out.length = n → out.take i = (List.range i).map g → Ev (fun k => L k out (st i) (i : Int)) (st n, (List.range n).map g) := by
    intro d
    induction d with
    | zero =>
      intro i out hi hl ht
      have : i = n := by omega
      subst this
      have e := take_all ht hl
      rw [← e]
      exact he out hl
    | succ d ih =>
      intro i out hi hl ht
      refine hs i out _ (by omega) hl (ih (i + 1) _ (by omega) (by simp [hl]) ?_)
      rw [take_set_succ _ _ _ (by omega), ht, List.range_succ, List.map_append]
      rfl
  exact key n 0 _ (by omega) hl (by simp)
theorem scan_loop {ρ : Type} (g : Nat → Nat → Option ρ) (n : Nat) (r : ρ) (hs : ∀ i, i < n → Ev (g (i + 1)) r → Ev (g i) r) (he : Ev (g n) r) : Ev (g 0) r := by
  have key : ∀ (d i : Nat), i + d = n → Ev (g i) r := by
    intro d
    induction d with
    | zero => intro i hi; have : i = n := by omega
              subst this; exact he
    | succ d ih => intro i hi; exact hs i (by omega) (ih (i + 1) (by omega))
  exact key n 0 (by omega)
theorem range_map_get {α β : Type} (l : List α) (f : α → β) (d : α) : (List.range l.length).map (fun i => f (l.getD i d)) = l.map f := by
  apply List.ext_getElem?
  intro i
  rw [List.getElem?_map, List.getElem?_map]
  by_cases h : i < l.length
  · simp [h, List.getD_eq_getElem?_getD]
  · rw [List.getElem?_eq_none (by simp; omega), List.getElem?_eq_none (by omega)]
    rfl
theorem range_map_getD {β : Type} (n i : Nat) (g : Nat → β) (d : β) (h : i < n) : ((List.range n).map g).getD i d = g i := by
  simp [List.getD_eq_getElem?_getD, h]
theorem Ev.bind' {α β : Type} {g : Nat → Option α} {f : Nat → α → Option β} {a : α} {r : β} (h : Ev g a) (k : Ev (fun n => f n a) r) : Ev (fun n => (g n).bind (f n)) r := Ev.bind h k
theorem Ev.cond {α : Type} {g f : Nat → Option α} {r : α} (h : ∃ K, ∀ k, K ≤ k → g k = f k) (k : Ev f r) : Ev g r := by
  obtain ⟨K, h⟩ := h
  obtain ⟨K', k⟩ := k
  exact ⟨K + K', fun n hn => by rw [h n (by omega)]; exact k n (by omega)⟩
/-- One round: at n + 1 it is what it is at n of another. -/
theorem Ev.round {α : Type} {g f : Nat → Option α} {r : α} (h : ∃ K, ∀ k, K ≤ k → g (k + 1) = f k) (k : Ev f r) : Ev g r := by
  obtain ⟨K, h⟩ := h
  obtain ⟨K', k⟩ := k
  exact ⟨K + K' + 1, fun n hn => by
    obtain ⟨m, rfl⟩ : ∃ m, n = m + 1 := ⟨n - 1, by omega⟩
    rw [h m (by omega)]; exact k m (by omega)⟩
theorem Ev.ends {α : Type} {g : Nat → Option α} {r : α} (h : ∀ k, g (k + 1) = some r) : Ev g r := ⟨1, fun n hn => by
  obtain ⟨m, rfl⟩ : ∃ m, n = m + 1 := ⟨n - 1, by omega⟩
  exact h m⟩
theorem Ev.all {α : Type} {g : Nat → Option α} {r : α} (h : ∀ k, g k = some r) : Ev g r := ⟨0, fun n _ => h n⟩

theorem impl_sum_l1 (b : List Int) (n : Int) (i : Nat) (r : Int) (hi : i < 281474976710656) : ∀ (d x j : Nat), j + d = 8 → x < 4294967296 → Ev (fun q => impl_Sum.l0 q ((crcR d x : Nat) : Int) b n ((i + 1 : Nat) : Int)) r →
    Ev (fun q => impl_Sum.l1 q (x : Int) b n (i : Int) (j : Int)) r := by
  intro d
  induction d with
  | zero =>
    intro x j hj hx h
    refine Ev.step (f := fun q => impl_Sum.l0 q (x : Int) b n ((i + 1 : Nat) : Int)) (fun q => ?_) h
    simp only [impl_Sum.l1]
    rw [if_neg (by omega), wrap_id (i := (i : Int) + 1) (by omega) (by omega)]
    rfl
  | succ d ih =>
    intro x j hj hx h
    refine Ev.step (f := fun q => impl_Sum.l1 q ((crc1 x : Nat) : Int) b n (i : Int) ((j + 1 : Nat) : Int)) (fun q => ?_) (ih (crc1 x) (j + 1) (by omega) (crc1_lt hx) h)
    simp only [impl_Sum.l1]
    have hd : (x : Int) / 2 = ((x / 2 : Nat) : Int) := by omega
    rw [if_pos (by omega), and1_u32 x hx, hd, wrap_id (i := (j : Int) + 1) (by omega) (by omega)]
    have e2 : (2197175160 : Int) = ((2197175160 : Nat) : Int) := rfl
    rw [e2, xor_u32 (x / 2) 2197175160 (by omega) (by omega)]
    unfold crc1
    by_cases h1 : x % 2 = 1
    · rw [if_pos h1, if_pos (by omega)]
      rfl
    · rw [if_neg h1, if_neg (by omega)]
      rfl
theorem impl_sum_l0 (b : List Int) (hb : BytesIn b) (hn : b.length < 281474976710656) : ∀ (d x i : Nat), i + d = b.length → x < 4294967296 → Ev (fun q => impl_Sum.l0 q (x : Int) b (b.length : Int) (i : Int)) ((crcL (b.drop i) x ^^^ 4294967295 : Nat) : Int) := by
  intro d
  induction d with
  | zero =>
    intro x i hi hx
    rw [List.drop_eq_nil_of_le (by omega)]
    refine Ev.step (f := fun _ => some _) (fun q => ?_) (Ev.now _)
    simp only [impl_Sum.l0]
    rw [if_neg (by omega)]
    have e2 : (4294967295 : Int) = ((4294967295 : Nat) : Int) := rfl
    have hy := xor32 (a := 4294967295) (b := x) (by omega) hx
    rw [e2, xor_u32 4294967295 x (by omega) hx, wrap_id (by omega) (by omega), Nat.xor_comm]
    rfl
  | succ d ih =>
    intro x i hi hx
    have hc := hb (i : Int)
    rw [drop_cons_rd (by omega)]
    have hcn : rd b (i : Int) % 4294967296 = (((rd b (i : Int)).toNat : Nat) : Int) := by omega
    have hy : x ^^^ (rd b (i : Int)).toNat < 4294967296 := xor32 hx (by omega)
    refine Ev.step (f := fun q => impl_Sum.l1 q ((x ^^^ (rd b (i : Int)).toNat : Nat) : Int) b (b.length : Int) (i : Int) ((0 : Nat) : Int)) (fun q => ?_) (impl_sum_l1 b _ i _ (by omega) 8 _ 0 rfl hy (ih _ (i + 1) (by omega) (crcR_lt 8 hy)))
    simp only [impl_Sum.l0]
    rw [if_pos (by omega), if_pos (by omega), if_pos (by omega), hcn, xor_u32 x _ hx (by omega)]
    rfl
theorem impl_sum_ev (b : List Int) (hb : BytesIn b) (hn : b.length < 281474976710656) : Ev (fun q => impl_Sum.f q b) (sumN b) :=
  impl_sum_l0 b hb hn b.length 4294967295 0 (by omega) (by omega)

theorem impl_getNum_l0 (b : List Int) (hb : BytesIn b) (hn : b.length ≤ 281474976710656) (at_ : Int) (ha : at_ ≤ 9223372036854775807) : ∀ (d : Nat) (n : Int) (k : Nat), k + d = 5 → 0 ≤ n → n ≤ topR k →
    Ev (fun q => impl_GetNum.l0 q b at_ n (k : Int)) (getR b at_ d n (k : Int)) := by
  intro d
  induction d with
  | zero =>
    intro n k hk h0 h1
    refine Ev.step (f := fun q => impl_GetNum.j1 q b at_ n (k : Int) false) (fun q => ?_) (Ev.step (f := fun _ => some (0, 0, false)) (fun q => ?_) (Ev.now _))
    · simp only [impl_GetNum.l0]
      rw [if_neg (by omega)]
    · simp [impl_GetNum.j1]
  | succ d ih =>
    intro n k hk h0 h1
    have ht := topR_le k (by omega)
    have hc := hb (at_ + (k : Int))
    have hl : wrap64 ((b.length : Int) - (k : Int)) = (b.length : Int) - (k : Int) := wrap_id (by omega) (by omega)
    unfold getR
    by_cases hr : 0 ≤ at_ ∧ at_ + (k : Int) < (b.length : Int)
    · rw [if_pos hr]
      have hw : wrap64 (at_ + (k : Int)) = at_ + (k : Int) := wrap_id (by omega) (by omega)
      have hwc : wrap64 (rd b (at_ + (k : Int))) = rd b (at_ + (k : Int)) := wrap_id (by omega) (by omega)
      have hwn : wrap64 (n * 128) = n * 128 := wrap_id (by omega) (by omega)
      have hmod : Int.tmod (rd b (at_ + (k : Int))) 128 = rd b (at_ + (k : Int)) % 128 := Int.tmod_eq_emod_of_nonneg (by omega)
      have hws : wrap64 (n * 128 + rd b (at_ + (k : Int)) % 128) = n * 128 + rd b (at_ + (k : Int)) % 128 := wrap_id (by omega) (by omega)
      refine Ev.step (f := fun q => impl_GetNum.j1 q b at_ n (k : Int) true) (fun q => ?_) ?_
      · simp only [impl_GetNum.l0]
        rw [if_pos (by omega), if_pos (by omega), hl, decide_eq_true (by omega)]
      · by_cases h128 : (k : Int) = 0 ∧ rd b (at_ + (k : Int)) = 128
        · rw [if_pos h128]
          refine Ev.step (f := fun q => impl_GetNum.j2 q b at_ n (k : Int) (rd b (at_ + (k : Int))) true) (fun q => ?_) (Ev.step (f := fun _ => some (0, 0, false)) (fun q => ?_) (Ev.now _))
          · simp only [impl_GetNum.j1, hw, hwc]
            rw [if_pos trivial, if_pos (by omega), if_pos (by omega), if_pos h128.1]
            simp [h128.2]
          · simp [impl_GetNum.j2]
        · rw [if_neg h128]
          refine Ev.step (f := fun q => impl_GetNum.j2 q b at_ n (k : Int) (rd b (at_ + (k : Int))) false) (fun q => ?_) ?_
          · simp only [impl_GetNum.j1, hw, hwc]
            rw [if_pos trivial, if_pos (by omega), if_pos (by omega)]
            by_cases hk0 : (k : Int) = 0
            · rw [if_pos hk0]
              have : rd b (at_ + (k : Int)) ≠ 128 := fun e => h128 ⟨hk0, e⟩
              rw [beq_eq_false_iff_ne.2 this]
            · rw [if_neg hk0]
          · by_cases hlt : rd b (at_ + (k : Int)) < 128
            · rw [if_pos hlt]
              refine Ev.step (f := fun _ => some _) (fun q => ?_) (Ev.now _)
              simp only [impl_GetNum.j2, hwn, hmod, hws, hw]
              rw [if_neg (by simp), if_neg (by omega)]
              by_cases hg : n * 128 + rd b (at_ + (k : Int)) % 128 > 1000000000
              · rw [if_pos hg, if_pos hg]
              · rw [if_neg hg, if_neg hg, wrap_id (i := at_ + (k : Int) + 1) (by omega) (by omega)]
            · rw [if_neg hlt]
              have h2 : topR (k + 1) = topR k * 128 + 127 := rfl
              refine Ev.step (f := fun q => impl_GetNum.l0 q b at_ (n * 128 + rd b (at_ + (k : Int)) % 128) ((k + 1 : Nat) : Int)) (fun q => ?_) ?_
              · simp only [impl_GetNum.j2, hwn, hmod, hws]
                rw [if_neg (by simp), if_pos (by omega), wrap_id (i := (k : Int) + 1) (by omega) (by omega)]
                rfl
              · exact ih _ (k + 1) (by omega) (by omega) (by omega)
    · rw [if_neg hr]
      refine Ev.step (f := fun q => impl_GetNum.j1 q b at_ n (k : Int) false) (fun q => ?_) (Ev.step (f := fun _ => some (0, 0, false)) (fun q => ?_) (Ev.now _))
      · simp only [impl_GetNum.l0]
        rw [if_pos (by omega)]
        by_cases h3 : at_ ≥ 0
        · rw [if_pos h3, hl, decide_eq_false (by omega)]
        · rw [if_neg h3]
      · simp [impl_GetNum.j1]
theorem impl_getNum_ev (b : List Int) (hb : BytesIn b) (hn : b.length ≤ 281474976710656) (at_ : Int) (ha : at_ ≤ 9223372036854775807) : Ev (fun q => impl_GetNum.f q b at_) (getR b at_ 5 0 0) :=
  impl_getNum_l0 b hb hn at_ ha 5 0 0 rfl (Int.le_refl 0) (Int.le_refl 0)

theorem impl_getText_ev (b : List Int) (hb : BytesIn b) (hn : b.length ≤ 281474976710656) (at_ : Int) (ha : at_ ≤ 9223372036854775807) : Ev (fun q => impl_GetText.f q b at_) (textR b at_) := by
  obtain ⟨K, h⟩ := impl_getNum_ev b hb (by omega) at_ ha
  dsimp only at h
  refine ⟨K, fun q hq => ?_⟩
  simp only [impl_GetText.f]
  rw [h q hq, Option.bind_some]
  unfold textR
  have hr := getR_range b hb at_ 5 0 0 (Int.le_refl 0) (Int.le_refl 0)
  generalize getR b at_ 5 0 0 = g at hr ⊢
  by_cases h1 : g.2.2 = true
  · obtain ⟨a1, a2, a3, a4, a5⟩ := hr h1
    rw [if_pos h1, if_pos h1, wrap_id (i := (b.length : Int) - g.2.1) (by omega) (by omega)]
    by_cases h2 : g.1 > (b.length : Int) - g.2.1
    · rw [if_pos h2, if_pos h2]
    · rw [if_neg h2, if_neg h2, wrap_id (i := g.2.1 + g.1) (by omega) (by omega), if_pos (by omega), if_pos (by omega), if_pos (by omega)]
  · rw [if_neg h1, if_neg h1]

theorem in_eq (a b c : Int) : impl_in.f a b c = some (decide (b ≤ a) && decide (a ≤ c)) := by
  unfold impl_in.f
  by_cases h : a ≥ b
  · rw [if_pos h, decide_eq_true (show b ≤ a from h), Bool.true_and]
  · rw [if_neg h, decide_eq_false (show ¬ b ≤ a from h), Bool.false_and]

theorem conv_some (s : ByteArray) (h : s.size ≤ 4611686018427387904) : mp_convB.f s = some (bytesOf s) := by
  unfold mp_convB.f
  rw [if_pos h]
theorem strOf_size (l : List Int) : (strOfNums l).size = l.length := by simp [strOfNums_size]
theorem textR_size (b : List Int) (i : Int) : (textR b i).1.size ≤ b.length := by
  unfold textR
  split
  · split
    · exact Nat.zero_le _
    · dsimp only
      rw [strOf_size, List.length_drop, List.length_take]
      omega
  · exact Nat.zero_le _
theorem or_i64 (m : Nat) {x y : Int} (hm : m ≤ 62) (h0 : 0 ≤ x) (h1 : x < 9223372036854775808) (hx : x % 2 ^ m = 0) (hy0 : 0 ≤ y) (hy : y < 2 ^ m) (hs : x + y < 9223372036854775808) : Go.bits .or .i64 x y = x + y :=
  bits_join .i64 63 (by decide) wraps_i64 m x y h0 hx (by omega) hy0 hy (by omega)
theorem wordAt_ev (b : List Int) (hb : BytesIn b) (i : Nat) (hi : i + 4 ≤ b.length) (hn : b.length ≤ 281474976710656) : impl_wordAt.f b (i : Int) = some (wordR b (i : Int)) := by
  have c0 := hb (i : Int)
  have c1 := hb ((i : Int) + 1)
  have c2 := hb ((i : Int) + 2)
  have c3 := hb ((i : Int) + 3)
  have w1 : wrap64 ((i : Int) + 1) = (i : Int) + 1 := wrap_id (by omega) (by omega)
  have w2 : wrap64 ((i : Int) + 2) = (i : Int) + 2 := wrap_id (by omega) (by omega)
  have w3 : wrap64 ((i : Int) + 3) = (i : Int) + 3 := wrap_id (by omega) (by omega)
  unfold impl_wordAt.f
  rw [w1, w2, w3, if_pos (by omega), if_pos (by omega), if_pos (by omega), if_pos (by omega), if_pos (by omega), if_pos (by omega), if_pos (by omega), if_pos (by omega)]
  unfold wordR
  generalize rd b (i : Int) = a0 at c0
  generalize rd b ((i : Int) + 1) = a1 at c1
  generalize rd b ((i : Int) + 2) = a2 at c2
  generalize rd b ((i : Int) + 3) = a3 at c3
  rw [wrap_id (i := a0) (by omega) (by omega), wrap_id (i := a1) (by omega) (by omega), wrap_id (i := a2) (by omega) (by omega), wrap_id (i := a3) (by omega) (by omega), wrap_id (i := a0 * 16777216) (by omega) (by omega), wrap_id (i := a1 * 65536) (by omega) (by omega), wrap_id (i := a2 * 256) (by omega) (by omega)]
  rw [or_i64 24 (x := a0 * 16777216) (y := a1 * 65536) (by omega) (by omega) (by omega) (by omega) (by omega) (by omega) (by omega), or_i64 16 (x := a0 * 16777216 + a1 * 65536) (y := a2 * 256) (by omega) (by omega) (by omega) (by omega) (by omega) (by omega) (by omega), or_i64 8 (x := a0 * 16777216 + a1 * 65536 + a2 * 256) (y := a3) (by omega) (by omega) (by omega) (by omega) (by omega) (by omega) (by omega)]
theorem implUnframe_ev (b : List Int) (hb : BytesIn b) (hn : b.length ≤ 281474976710000) (i : Nat) (hi : i ≤ 281474976710656) : Ev (fun k => impl_Unframe.f k b (i : Int)) (unframeR b (i : Int)) := by
  have hw : wrap64 ((b.length : Int) - 4) = (b.length : Int) - 4 := wrap_id (by omega) (by omega)
  have hw4 : wrap64 ((i : Int) + 4) = (i : Int) + 4 := wrap_id (by omega) (by omega)
  simp only [impl_Unframe.f, in_eq, hw, hw4, Option.bind_some]
  unfold unframeR
  by_cases hc : (0 : Int) ≤ (i : Int) ∧ (i : Int) ≤ (b.length : Int) - 4
  · rw [if_pos hc]
    have hd : (decide ((0 : Int) ≤ (i : Int)) && decide ((i : Int) ≤ (b.length : Int) - 4)) = true := by rw [decide_eq_true hc.1, decide_eq_true hc.2]; rfl
    have jt : Ev (fun k => impl_Unframe.j0 k (i : Int) (textR b ((i : Int) + 4)).1 (textR b ((i : Int) + 4)).2.1 true) ([], (i : Int), false) := Ev.ends (fun k => by simp only [impl_Unframe.j0]; rw [if_pos trivial])
    refine Ev.congr (f := fun k => (impl_GetText.f k b ((i : Int) + 4)).bind fun bt131 => (if bt131.2.2 = true then ((mp_convB.f bt131.1).bind fun t134 => ((impl_Sum.f k t134).bind fun t137 => ((impl_wordAt.f b (i : Int)).bind fun t138 => (impl_Unframe.j0 k (i : Int) bt131.1 bt131.2.1 (t137 != t138))))) else (impl_Unframe.j0 k (i : Int) bt131.1 bt131.2.1 true))) (fun k => by rw [if_pos hd]) ?_
    refine Ev.bind' (impl_getText_ev b hb (by omega) ((i : Int) + 4) (by omega)) ?_
    have hsz := textR_size b ((i : Int) + 4)
    generalize textR b ((i : Int) + 4) = t at jt hsz ⊢
    have hts : t.1.size ≤ 4611686018427387904 := by omega
    have hi4 : i + 4 ≤ b.length := by omega
    by_cases ht : t.2.2 = true
    · refine Ev.congr (f := fun k => (impl_Sum.f k (bytesOf t.1)).bind fun t137 => (impl_Unframe.j0 k (i : Int) t.1 t.2.1 (t137 != wordR b (i : Int)))) (fun k => by rw [if_pos ht, conv_some t.1 hts, Option.bind_some, wordAt_ev b hb i hi4 (by omega)]; rfl) ?_
      refine Ev.bind' (impl_sum_ev (bytesOf t.1) (bytesOf_in t.1) (by rw [bytesOf_length]; omega)) ?_
      by_cases hs : sumN (bytesOf t.1) = wordR b (i : Int)
      · rw [if_pos ⟨ht, hs⟩, hs, bne_self_eq_false]
        refine Ev.ends (fun k => ?_)
        simp only [impl_Unframe.j0]
        rw [if_neg (by decide), conv_some t.1 hts, Option.bind_some]
      · rw [if_neg (fun h => hs h.2), bne_iff_ne.2 hs]
        exact jt
    · rw [if_neg (fun h => ht h.1)]
      exact Ev.congr (fun k => by rw [if_neg ht]) jt
  · rw [if_neg hc]
    have hd : (decide ((0 : Int) ≤ (i : Int)) && decide ((i : Int) ≤ (b.length : Int) - 4)) = false := by
      rw [Bool.and_eq_false_iff]
      by_cases h : (0 : Int) ≤ (i : Int)
      · exact .inr (decide_eq_false (fun h2 => hc ⟨h, h2⟩))
      · exact .inl (decide_eq_false h)
    exact Ev.all (fun k => by rw [if_neg (by rw [hd]; decide)])

theorem spec_getNum_l0 (b : List Int) (hb : BytesIn b) (hn : b.length ≤ 281474976710656) (at_ : Int) (ha : at_ ≤ 9223372036854775807) : ∀ (d : Nat) (n : Int) (k : Nat), k + d = 5 → 0 ≤ n → n ≤ topR k →
    Ev (fun q => spec_GetNum.l0 q b at_ n (k : Int)) (getR b at_ d n (k : Int)) := by
  intro d
  induction d with
  | zero =>
    intro n k hk h0 h1
    refine Ev.step (f := fun q => spec_GetNum.j1 q b at_ n (k : Int) false) (fun q => ?_) (Ev.step (f := fun _ => some (0, 0, false)) (fun q => ?_) (Ev.now _))
    · simp only [spec_GetNum.l0]
      rw [if_neg (by omega)]
    · simp [spec_GetNum.j1]
  | succ d ih =>
    intro n k hk h0 h1
    have ht := topR_le k (by omega)
    have hc := hb (at_ + (k : Int))
    unfold getR
    by_cases hr : 0 ≤ at_ ∧ at_ + (k : Int) < (b.length : Int)
    · rw [if_pos hr]
      have hw : wrap64 (at_ + (k : Int)) = at_ + (k : Int) := wrap_id (by omega) (by omega)
      have hwc : wrap64 (rd b (at_ + (k : Int))) = rd b (at_ + (k : Int)) := wrap_id (by omega) (by omega)
      have hwn : wrap64 (n * 128) = n * 128 := wrap_id (by omega) (by omega)
      have hand : Go.bits .and .i64 (rd b (at_ + (k : Int))) 127 = rd b (at_ + (k : Int)) % 128 := and127 (by omega) (by omega)
      have hor : Go.bits .or .i64 (n * 128) (rd b (at_ + (k : Int)) % 128) = n * 128 + rd b (at_ + (k : Int)) % 128 := or7 (by omega) (by omega) (by omega) (by omega) (by omega)
      refine Ev.step (f := fun q => spec_GetNum.j1 q b at_ n (k : Int) true) (fun q => ?_) ?_
      · simp only [spec_GetNum.l0]
        rw [if_pos (by omega), if_pos (by omega), if_pos (by omega), hw, decide_eq_true hr.2]
      · by_cases h128 : (k : Int) = 0 ∧ rd b (at_ + (k : Int)) = 128
        · rw [if_pos h128]
          refine Ev.step (f := fun q => spec_GetNum.j2 q b at_ n (k : Int) (rd b (at_ + (k : Int))) true) (fun q => ?_) (Ev.step (f := fun _ => some (0, 0, false)) (fun q => ?_) (Ev.now _))
          · simp only [spec_GetNum.j1, hw, hwc]
            rw [if_pos trivial, if_pos (by omega), if_pos (by omega), if_pos h128.1]
            simp [h128.2]
          · simp [spec_GetNum.j2]
        · rw [if_neg h128]
          refine Ev.step (f := fun q => spec_GetNum.j2 q b at_ n (k : Int) (rd b (at_ + (k : Int))) false) (fun q => ?_) ?_
          · simp only [spec_GetNum.j1, hw, hwc]
            rw [if_pos trivial, if_pos (by omega), if_pos (by omega)]
            by_cases hk0 : (k : Int) = 0
            · rw [if_pos hk0]
              have : rd b (at_ + (k : Int)) ≠ 128 := fun e => h128 ⟨hk0, e⟩
              rw [beq_eq_false_iff_ne.2 this]
            · rw [if_neg hk0]
          · by_cases hlt : rd b (at_ + (k : Int)) < 128
            · rw [if_pos hlt]
              refine Ev.step (f := fun _ => some _) (fun q => ?_) (Ev.now _)
              simp only [spec_GetNum.j2, hwn, hand, hor, hw]
              rw [if_neg (by simp), if_pos hlt]
              by_cases hg : n * 128 + rd b (at_ + (k : Int)) % 128 > 1000000000
              · rw [if_pos hg, if_pos hg]
              · rw [if_neg hg, if_neg hg, wrap_id (i := at_ + (k : Int) + 1) (by omega) (by omega)]
            · rw [if_neg hlt]
              have h2 : topR (k + 1) = topR k * 128 + 127 := rfl
              refine Ev.step (f := fun q => spec_GetNum.l0 q b at_ (n * 128 + rd b (at_ + (k : Int)) % 128) ((k + 1 : Nat) : Int)) (fun q => ?_) ?_
              · simp only [spec_GetNum.j2, hwn, hand, hor]
                rw [if_neg (by simp), if_neg hlt, wrap_id (i := (k : Int) + 1) (by omega) (by omega)]
                rfl
              · exact ih _ (k + 1) (by omega) (by omega) (by omega)
    · rw [if_neg hr]
      refine Ev.step (f := fun q => spec_GetNum.j1 q b at_ n (k : Int) false) (fun q => ?_) (Ev.step (f := fun _ => some (0, 0, false)) (fun q => ?_) (Ev.now _))
      · simp only [spec_GetNum.l0]
        rw [if_pos (by omega)]
        by_cases h3 : at_ ≥ 0
        · rw [if_pos h3]
          by_cases h4 : at_ < (b.length : Int)
          · rw [if_pos h4, wrap_id (i := at_ + (k : Int)) (by omega) (by omega), decide_eq_false (by omega)]
          · rw [if_neg h4]
        · rw [if_neg h3]
      · simp [spec_GetNum.j1]
theorem spec_getNum_ev (b : List Int) (hb : BytesIn b) (hn : b.length ≤ 281474976710656) (at_ : Int) (ha : at_ ≤ 9223372036854775807) : Ev (fun q => spec_GetNum.f q b at_) (getR b at_ 5 0 0) :=
  spec_getNum_l0 b hb hn at_ ha 5 0 0 rfl (Int.le_refl 0) (Int.le_refl 0)

theorem spec_sum_l1 (b : List Int) (i : Nat) (r : Int) (hi : i < 281474976710656) : ∀ (d x j : Nat), j + d = 8 → x < 4294967296 → Ev (fun q => spec_Sum.l0 q b ((crcR d x : Nat) : Int) ((i + 1 : Nat) : Int)) r →
    Ev (fun q => spec_Sum.l1 q b (x : Int) (i : Int) (j : Int)) r := by
  intro d
  induction d with
  | zero =>
    intro x j hj hx h
    refine Ev.step (f := fun q => spec_Sum.l0 q b (x : Int) ((i + 1 : Nat) : Int)) (fun q => ?_) h
    simp only [spec_Sum.l1]
    rw [if_neg (by omega), wrap_id (i := (i : Int) + 1) (by omega) (by omega)]
    rfl
  | succ d ih =>
    intro x j hj hx h
    refine Ev.step (f := fun q => spec_Sum.l1 q b ((crc1 x : Nat) : Int) (i : Int) ((j + 1 : Nat) : Int)) (fun q => ?_) (ih (crc1 x) (j + 1) (by omega) (crc1_lt hx) h)
    simp only [spec_Sum.l1]
    have hd : (x : Int) / 2 = ((x / 2 : Nat) : Int) := by omega
    rw [if_pos (by omega), and1_i64 x hx, hd, wrap_id (i := (j : Int) + 1) (by omega) (by omega)]
    have e2 : (2197175160 : Int) = ((2197175160 : Nat) : Int) := rfl
    rw [e2, xor_i64 (x / 2) 2197175160 (by omega) (by omega)]
    unfold crc1
    by_cases h1 : x % 2 = 1
    · rw [if_pos h1, if_pos (by omega)]
      rfl
    · rw [if_neg h1, if_neg (by omega)]
      rfl
theorem spec_sum_l0 (b : List Int) (hb : BytesIn b) (hn : b.length < 281474976710656) : ∀ (d x i : Nat), i + d = b.length → x < 4294967296 → Ev (fun q => spec_Sum.l0 q b (x : Int) (i : Int)) ((crcL (b.drop i) x ^^^ 4294967295 : Nat) : Int) := by
  intro d
  induction d with
  | zero =>
    intro x i hi hx
    rw [List.drop_eq_nil_of_le (by omega)]
    refine Ev.step (f := fun _ => some _) (fun q => ?_) (Ev.now _)
    simp only [spec_Sum.l0]
    rw [if_neg (by omega)]
    have e2 : (4294967295 : Int) = ((4294967295 : Nat) : Int) := rfl
    rw [e2, xor_i64 x 4294967295 hx (by omega)]
    rfl
  | succ d ih =>
    intro x i hi hx
    have hc := hb (i : Int)
    rw [drop_cons_rd (by omega)]
    have hy : x ^^^ (rd b (i : Int)).toNat < 4294967296 := xor32 hx (by omega)
    refine Ev.step (f := fun q => spec_Sum.l1 q b ((x ^^^ (rd b (i : Int)).toNat : Nat) : Int) (i : Int) ((0 : Nat) : Int)) (fun q => ?_) (spec_sum_l1 b i _ (by omega) 8 _ 0 rfl hy (ih _ (i + 1) (by omega) (crcR_lt 8 hy)))
    simp only [spec_Sum.l0]
    rw [if_pos (by omega), if_pos (by omega), wrap_id (i := rd b (i : Int)) (by omega) (by omega), xor_i64' x _ hx (by omega) (by omega)]
    rfl
theorem spec_sum_ev (b : List Int) (hb : BytesIn b) (hn : b.length < 281474976710656) : Ev (fun q => spec_Sum.f q b) (sumN b) :=
  spec_sum_l0 b hb hn b.length 4294967295 0 (by omega) (by omega)

theorem specFour_ev (b : List Int) (hb : BytesIn b) (hn : b.length ≤ 281474976710656) (i : Int) (hi : i ≤ 9223372036854775807) : Ev (fun k => spec_l1FourAt.f k b i) (if 0 ≤ i ∧ i ≤ (b.length : Int) - 4 then (wordR b i, true) else (0, false)) := by
  have hw : wrap64 ((b.length : Int) - 4) = (b.length : Int) - 4 := wrap_id (by omega) (by omega)
  simp only [spec_l1FourAt.f, hw]
  by_cases h0 : i < 0
  · rw [if_neg (by omega)]
    refine Ev.ends (fun k => ?_)
    rw [if_pos h0]
    simp only [spec_l1FourAt.j0]
    rfl
  by_cases h1 : i > (b.length : Int) - 4
  · rw [if_neg (by omega)]
    refine Ev.ends (fun k => ?_)
    rw [if_neg h0, decide_eq_true h1]
    simp only [spec_l1FourAt.j0]
    rfl
  · rw [if_pos (by omega)]
    obtain ⟨j, rfl⟩ : ∃ j : Nat, i = (j : Int) := ⟨i.toNat, by omega⟩
    have h := wordAt_ev b hb j (by omega) hn
    unfold impl_wordAt.f at h
    have w1 : wrap64 ((j : Int) + 1) = (j : Int) + 1 := wrap_id (by omega) (by omega)
    have w2 : wrap64 ((j : Int) + 2) = (j : Int) + 2 := wrap_id (by omega) (by omega)
    have w3 : wrap64 ((j : Int) + 3) = (j : Int) + 3 := wrap_id (by omega) (by omega)
    rw [w1, w2, w3, if_pos (by omega), if_pos (by omega), if_pos (by omega), if_pos (by omega), if_pos (by omega), if_pos (by omega), if_pos (by omega), if_pos (by omega)] at h
    refine Ev.ends (fun k => ?_)
    rw [if_neg h0, decide_eq_false h1]
    simp only [spec_l1FourAt.j0]
    rw [if_neg (by decide), w1, w2, w3, if_pos (by omega), if_pos (by omega), if_pos (by omega), if_pos (by omega), if_pos (by omega), if_pos (by omega), if_pos (by omega), if_pos (by omega), Option.some.inj h]
theorem cut_in {b : List Int} (hb : BytesIn b) (m n : Nat) : ∀ x ∈ (b.take m).drop n, 0 ≤ x ∧ x ≤ 255 := fun x hx => hb.mem x (List.mem_of_mem_take (List.mem_of_mem_drop hx))
theorem specUnframe_ev (b : List Int) (hb : BytesIn b) (hn : b.length ≤ 140737488000000) (i : Int) (hi : i ≤ 9223372036854775807) : Ev (fun k => spec_Unframe.f k b i) (unframeR b i) := by
  unfold spec_Unframe.f unframeR
  refine Ev.bind' (specFour_ev b hb (by omega) i hi) ?_
  by_cases hc : 0 ≤ i ∧ i ≤ (b.length : Int) - 4
  · simp only [hc, and_self, if_true]
    have hw4 : wrap64 (i + 4) = i + 4 := wrap_id (by omega) (by omega)
    rw [hw4]
    refine Ev.bind' (spec_getNum_ev b hb (by omega) (i + 4) (by omega)) ?_
    have hr := getR_range b hb (i + 4) 5 0 0 (Int.le_refl 0) (Int.le_refl 0)
    unfold textR
    generalize getR b (i + 4) 5 0 0 = g at hr ⊢
    have jt : Ev (fun k => spec_Unframe.j0 k b i (wordR b i) g.1 g.2.1 true) ([], i, false) := Ev.ends (fun k => by simp only [spec_Unframe.j0]; rw [if_pos trivial])
    by_cases h1 : g.2.2 = true
    · obtain ⟨a1, a2, a3, a4, a5⟩ := hr h1
      simp only [h1, if_true]
      rw [wrap_id (i := (b.length : Int) - g.2.1) (by omega) (by omega)]
      by_cases h2 : g.1 > (b.length : Int) - g.2.1
      · rw [decide_eq_true h2, if_pos h2, if_neg (fun h => by simp at h)]
        exact jt
      · rw [decide_eq_false h2, if_neg h2]
        have hcl : ((b.take (g.2.1 + g.1).toNat).drop g.2.1.toNat).length ≤ b.length := by rw [List.length_drop, List.length_take]; omega
        have hci := cut_in hb (g.2.1 + g.1).toNat g.2.1.toNat
        have hbs := bytes_str _ hci
        simp only [true_and]
        rw [hbs]
        refine Ev.step (f := fun k => (spec_Sum.f k ((b.take (g.2.1 + g.1).toNat).drop g.2.1.toNat)).bind fun t => (if t = wordR b i then (some ((b.take (g.2.1 + g.1).toNat).drop g.2.1.toNat, g.2.1 + g.1, true)) else (some (([] : List Int), i, false)))) (fun k => ?_) ?_
        · simp only [spec_Unframe.j0, Option.bind_some]
          rw [if_neg (by decide), wrap_id (i := g.2.1 + g.1) (by omega) (by omega), if_pos (by omega), if_pos (by omega), if_pos (by omega), if_pos (by rw [List.length_nil]; omega), List.nil_append]
        · refine Ev.bind' (spec_sum_ev _ (BytesIn.of_mem hci) (by omega)) ?_
          by_cases hs : sumN ((b.take (g.2.1 + g.1).toNat).drop g.2.1.toNat) = wordR b i
          · simp only [hs, if_true]
            exact Ev.now _
          · simp only [hs, if_false]
            exact Ev.now _
    · simp only [h1, if_false]
      rw [if_neg (fun h => by simp at h)]
      exact jt
  · simp only [hc, if_false]
    exact Ev.now _
theorem implUnframe_any (b : List Int) (hb : BytesIn b) (hn : b.length ≤ 281474976710000) (i : Int) (h1 : i ≤ 9223372036854775807) : Ev (fun k => impl_Unframe.f k b i) (unframeR b i) := by
  by_cases hc : 0 ≤ i ∧ i ≤ (b.length : Int) - 4
  · obtain ⟨j, rfl⟩ : ∃ j : Nat, i = (j : Int) := ⟨i.toNat, by omega⟩
    exact implUnframe_ev b hb hn j (by omega)
  · have hw : wrap64 ((b.length : Int) - 4) = (b.length : Int) - 4 := wrap_id (by omega) (by omega)
    unfold unframeR
    rw [if_neg hc]
    simp only [impl_Unframe.f, in_eq, hw, Option.bind_some]
    have hd : (decide (0 ≤ i) && decide (i ≤ (b.length : Int) - 4)) = false := by
      rw [Bool.and_eq_false_iff]
      by_cases h : 0 ≤ i
      · exact .inr (decide_eq_false (fun h2 => hc ⟨h, h2⟩))
      · exact .inl (decide_eq_false h)
    exact Ev.all (fun k => by rw [if_neg (by rw [hd]; decide)])
theorem unframeR_len (b : List Int) (i : Int) : (unframeR b i).1.length ≤ b.length := by
  unfold unframeR
  split
  · split
    · dsimp only
      rw [bytesOf_length]
      exact textR_size b (i + 4)
    · exact Nat.zero_le _
  · exact Nat.zero_le _

/-- Both come to one answer, of which P holds. -/
def Both {α : Type} (P : α → Prop) (f g : Nat → Option α) : Prop := ∃ r, P r ∧ Ev f r ∧ Ev g r
namespace Both
variable {α β : Type} {P : α → Prop} {f f' g g' : Nat → Option α}
theorem step (h1 : ∀ k, f (k + 1) = f' k) (h2 : ∀ k, g (k + 1) = g' k) (h : Both P f' g') : Both P f g := by
  obtain ⟨r, hp, a, b⟩ := h
  exact ⟨r, hp, Ev.step h1 a, Ev.step h2 b⟩
theorem left (h1 : ∀ k, f (k + 1) = f' k) (h : Both P f' g) : Both P f g := by
  obtain ⟨r, hp, a, b⟩ := h
  exact ⟨r, hp, Ev.step h1 a, b⟩
theorem right (h2 : ∀ k, g (k + 1) = g' k) (h : Both P f g') : Both P f g := by
  obtain ⟨r, hp, a, b⟩ := h
  exact ⟨r, hp, a, Ev.step h2 b⟩
theorem ret (r : α) (h : P r) : Both P (fun _ => some r) (fun _ => some r) := ⟨r, h, Ev.now r, Ev.now r⟩
theorem ite {c : Prop} [Decidable c] (h1 : c → Both P f g) (h2 : ¬ c → Both P f' g') : Both P (fun k => if c then f k else f' k) (fun k => if c then g k else g' k) := by
  by_cases h : c
  · simpa only [if_pos h] using h1 h
  · simpa only [if_neg h] using h2 h
theorem bind {Q : β → Prop} {p q : Nat → Option β} {F G : Nat → β → Option α} (h : Both Q p q) (k : ∀ b, Q b → Both P (fun n => F n b) (fun n => G n b)) : Both P (fun n => (p n).bind (F n)) (fun n => (q n).bind (G n)) := by
  obtain ⟨b, hq, h1, h2⟩ := h
  obtain ⟨r, hp, a, c⟩ := k b hq
  exact ⟨r, hp, Ev.bind h1 a, Ev.bind h2 c⟩
theorem of {r : α} (h1 : Ev f r) (h2 : Ev g r) (hp : P r) : Both P f g := ⟨r, hp, h1, h2⟩
theorem eq {r : α} (h1 : Ev f r) (h2 : Ev g r) : Both (fun x => x = r) f g := ⟨r, rfl, h1, h2⟩
theorem any {Q : α → Prop} (h : Both Q f g) : Both (fun _ => True) f g := by
  obtain ⟨r, _, a, b⟩ := h
  exact ⟨r, trivial, a, b⟩
theorem mono {P' : α → Prop} (h : Both P f g) (hi : ∀ r, P r → P' r) : Both P' f g := by
  obtain ⟨r, hp, a, b⟩ := h
  exact ⟨r, hi r hp, a, b⟩
end Both
/-- It comes to an answer, of which P holds. -/
def Comes {α : Type} (P : α → Prop) (f : Nat → Option α) : Prop := ∃ r, P r ∧ Ev f r
namespace Comes
variable {α β : Type} {P : α → Prop} {f f' : Nat → Option α}
theorem step (h1 : ∀ k, f (k + 1) = f' k) (h : Comes P f') : Comes P f := by
  obtain ⟨r, hp, a⟩ := h
  exact ⟨r, hp, Ev.step h1 a⟩
theorem ret (r : α) (h : P r) : Comes P (fun _ => some r) := ⟨r, h, Ev.now r⟩
theorem ite {c : Prop} [Decidable c] (h1 : c → Comes P f) (h2 : ¬ c → Comes P f') : Comes P (fun k => if c then f k else f' k) := by
  by_cases h : c
  · simpa only [if_pos h] using h1 h
  · simpa only [if_neg h] using h2 h
theorem bind {Q : β → Prop} {p : Nat → Option β} {F : Nat → β → Option α} (h : Comes Q p) (k : ∀ b, Q b → Comes P (fun n => F n b)) : Comes P (fun n => (p n).bind (F n)) := by
  obtain ⟨b, hq, h1⟩ := h
  obtain ⟨r, hp, a⟩ := k b hq
  exact ⟨r, hp, Ev.bind h1 a⟩
theorem mono {P' : α → Prop} (h : Comes P f) (hi : ∀ r, P r → P' r) : Comes P' f := by
  obtain ⟨r, hp, a⟩ := h
  exact ⟨r, hi r hp, a⟩
theorem rounds (h : Comes P f) : ∃ k r, f k = some r ∧ P r := by
  obtain ⟨r, hp, a⟩ := h
  obtain ⟨k, hk⟩ := a.rounds
  exact ⟨k, r, hk, hp⟩
theorem true_ {f : Nat → Option Bool} (h : Comes (fun b => b = true) f) : ∃ k, f k = some true := by
  obtain ⟨k, r, hk, rfl⟩ := h.rounds
  exact ⟨k, hk⟩
theorem some_ (o : Option α) (r : α) (h : o = some r) (hp : P r) : Comes P (fun _ => o) := ⟨r, hp, Ev.all (fun _ => h)⟩
end Comes

theorem sz_loop {α : Type} (l : List α) (z : α) (B : α → Prop) (F : Nat → Int → Int → Option Int) (g : Nat → Int → Nat → Option Int) (hl : l.length ≤ 9223372036854775806)
    (hF : ∀ (k : Nat) (a : Int) (i : Nat), i < l.length → 0 ≤ a → a ≤ 1048576 → F (k + 1) a (i : Int) = (g i a k).bind fun t => if t < 0 then some (-1) else F k t ((i + 1 : Nat) : Int))
    (hg : ∀ (i : Nat) (a : Int), i < l.length → 0 ≤ a → a ≤ 1048576 → Comes (fun t => t ≤ a ∧ (0 ≤ t → B (l.getD i z))) (g i a))
    (he : ∀ (k : Nat) (a : Int), F (k + 1) a (l.length : Int) = some a) (a : Int) (ha : 0 ≤ a) (hb : a ≤ 1048576) : Comes (fun t => t ≤ a ∧ (0 ≤ t → ∀ x ∈ l, B x)) (fun k => F k a 0) := by
  have key : ∀ (d i : Nat) (a : Int), i + d = l.length → 0 ≤ a → a ≤ 1048576 → Comes (fun t => t ≤ a ∧ (0 ≤ t → ∀ j, i ≤ j → j < l.length → B (l.getD j z))) (fun k => F k a (i : Int)) := by
    intro d
    induction d with
    | zero =>
      intro i a hi ha hb
      have : i = l.length := by omega
      subst this
      refine Comes.step (fun k => he k a) (Comes.ret a ⟨Int.le_refl a, fun _ j h1 h2 => by omega⟩)
    | succ d ih =>
      intro i a hi ha hb
      refine Comes.step (fun k => hF k a i (by omega) ha hb) (Comes.bind (hg i a (by omega) ha hb) (fun t ht => Comes.ite (fun _ => Comes.ret (-1) ⟨by omega, fun h => by omega⟩) (fun hn => ?_)))
      refine (ih (i + 1) t (by omega) (by omega) (by omega)).mono (fun r hr => ⟨by omega, fun h0 j h1 h2 => ?_⟩)
      by_cases hj : j = i
      · subst hj
        exact ht.2 (by omega)
      · exact hr.2 h0 j (by omega) h2
  refine (key l.length 0 a (by omega) ha hb).mono (fun r hr => ⟨hr.1, fun h0 x hx => ?_⟩)
  obtain ⟨j, hj, rfl⟩ := List.mem_iff_getElem.1 hx
  have := hr.2 h0 j (by omega) hj
  rwa [List.getD_eq_getElem?_getD, List.getElem?_eq_getElem hj] at this
theorem getD_mem {α : Type} {l : List α} {i : Nat} {z : α} (h : i < l.length) : l.getD i z ∈ l := by
  rw [List.getD_eq_getElem?_getD, List.getElem?_eq_getElem h]
  exact List.getElem_mem h

theorem getD_set_eq {α : Type} {l : List α} {i : Nat} (x z : α) (h : i < l.length) : (l.set i x).getD i z = x := by
  rw [List.getD_eq_getElem?_getD, List.getElem?_set_self h]
  rfl

/-- A row that is written from the left, and read at the place that is written. -/
theorem mark_loop2 {β σ : Type} (L : Nat → List β → σ → Int → Option (σ × List β)) (l : List β) (z : β) (g : Nat → β) (st : Nat → σ)
    (hs : ∀ (i : Nat) (out : List β) (r : σ × List β), i < l.length → out.length = l.length → out.getD i z = l.getD i z → Ev (fun k => L k (out.set i (g i)) (st (i + 1)) ((i + 1 : Nat) : Int)) r → Ev (fun k => L k out (st i) (i : Int)) r)
    (he : ∀ out : List β, out.length = l.length → Ev (fun k => L k out (st l.length) (l.length : Int)) (st l.length, out)) : Ev (fun k => L k l (st 0) 0) (st l.length, (List.range l.length).map g) := by
  have key : ∀ (d i : Nat) (out : List β), i + d = l.length → out.length = l.length → out.take i = (List.range i).map g → (∀ j, i ≤ j → out.getD j z = l.getD j z) → Ev (fun k => L k out (st i) (i : Int)) (st l.length, (List.range l.length).map g) := by
    intro d
    induction d with
    | zero =>
      intro i out hi hl ht _
      have hin : i = l.length := by omega
      subst hin
      have e := take_all ht hl
      rw [← e]
      exact he out hl
    | succ d ih =>
      intro i out hi hl ht hg
      refine hs i out _ (by omega) hl (hg i (Nat.le_refl _)) (ih (i + 1) _ (by omega) (by simp [hl]) ?_ (fun j hj => ?_))
      · rw [take_set_succ _ _ _ (by omega), ht, List.range_succ, List.map_append]
        rfl
      · rw [← hg j (by omega), List.getD_eq_getElem?_getD, List.getD_eq_getElem?_getD, List.getElem?_set_ne (by omega)]
  exact key l.length 0 l (by omega) rfl (by simp) (fun _ _ => rfl)

theorem eqByteSS_ev (l : List (List Int)) (h : l.length ≤ 1048576) (hd : ∀ x ∈ l, x.length ≤ 1048576) : Ev (fun k => laws_eqByteSS.f k l l) true := by
  refine Ev.congr (fun k => ?_) (scan_loop (fun i k => laws_eqByteSS.l0 k l l (i : Int)) l.length true (fun i hi h => ?_) ?_)
  · simp only [laws_eqByteSS.f]
    rw [if_pos trivial]
    rfl
  · obtain ⟨K, hK⟩ := eqByteS_ev (rd_L1 l (i : Int)) (by have := hd _ (getD_mem (z := []) hi); have : (rd_L1 l (i : Int)).length ≤ 1048576 := this; omega)
    refine Ev.round ⟨K, fun k hk => ?_⟩ h
    have t := hK k hk
    dsimp only at t
    simp only [laws_eqByteSS.l0, t, Option.bind_some, if_true]
    rw [if_pos (by omega), if_pos (by omega), if_pos (by omega), wrap_succ (n := l.length) hi (by omega)]
  · refine Ev.ends (fun k => ?_)
    simp only [laws_eqByteSS.l0]
    rw [if_neg (by omega)]
def bAt (l : List (List Int)) (a : Int) : Nat → Int
  | 0 => a
  | i + 1 => bAt l a i + ((l.getD i []).length : Int)
def mkBB (l : List (List Int)) (a : Int) (i : Nat) : List Int := markB (bAt l a i) (l.getD i []).length
def mkBBL (l : List (List Int)) (a : Int) : List (List Int) := (List.range l.length).map (mkBB l a)
theorem mkBBL_length (l : List (List Int)) (a : Int) : (mkBBL l a).length = l.length := by simp [mkBBL]
theorem bAt_le (l : List (List Int)) (hd : ∀ x ∈ l, x.length ≤ 1048576) (a : Int) : ∀ i, i ≤ l.length → a ≤ bAt l a i ∧ bAt l a i ≤ a + (i : Int) * 1048576
  | 0, _ => by simp [bAt]
  | i + 1, h => by
    have h1 := bAt_le l hd a i (by omega)
    have h2 := hd _ (getD_mem (z := []) (show i < l.length by omega))
    simp only [bAt]
    omega
theorem markByteSS_ev (l : List (List Int)) (h : l.length ≤ 1048576) (hd : ∀ x ∈ l, x.length ≤ 1048576) : 0 ≤ bAt l 1 l.length ∧ Ev (fun k => laws_markByteSS.f k l 1) (bAt l 1 l.length, mkBBL l 1) := by
  have hle := bAt_le l hd 1
  have hm := mark_loop2 (fun k out s i => laws_markByteSS.l0 k out s i) l [] (mkBB l 1) (bAt l 1) (fun i out r hi hl hg h => ?_) (fun out hl => ?_)
  · refine ⟨by have := hle l.length (Nat.le_refl _); omega, Ev.congr (fun k => ?_) hm⟩
    simp only [laws_markByteSS.f]
    rfl
  · have b1 := hle i (by omega)
    have b2 := hd _ (getD_mem (z := []) hi)
    obtain ⟨K0, h0⟩ := markByteS_ev (l.getD i []) (bAt l 1 i) (by omega) (by omega)
    refine Ev.round ⟨K0, fun k hk => ?_⟩ h
    have t0 := h0 k (by omega)
    dsimp only at t0
    simp only [laws_markByteSS.l0, Int.toNat_natCast, hg]
    rw [if_pos (by omega), if_pos (by omega), t0, Option.bind_some, wrap_succ (n := l.length) hi (by omega)]
    simp only [mkBB, bAt]
  · refine Ev.ends (fun k => ?_)
    simp only [laws_markByteSS.l0]
    rw [if_neg (by omega)]
theorem heldByteSS_ev (l : List (List Int)) (h : l.length ≤ 1048576) (hd : ∀ x ∈ l, x.length ≤ 1048576) : Ev (fun k => laws_heldByteSS.f k (mkBBL l 1) 1) (bAt l 1 l.length) := by
  have hle := bAt_le l hd 1
  refine Ev.congr (fun k => ?_) (scan_loop (fun i k => laws_heldByteSS.l0 k (mkBBL l 1) (bAt l 1 i) (i : Int)) l.length (bAt l 1 l.length) (fun i hi h => ?_) ?_)
  · simp only [laws_heldByteSS.f]
    rfl
  · have hrd : rd_L1 (mkBBL l 1) (i : Int) = mkBB l 1 i := range_map_getD l.length i _ _ hi
    have b1 := hle i (by omega)
    have b2 := hd _ (getD_mem (z := []) hi)
    obtain ⟨K0, h0⟩ := heldByteS_ev (bAt l 1 i) (l.getD i []).length (by omega) (by omega)
    refine Ev.round ⟨K0, fun k hk => ?_⟩ h
    have t0 : laws_heldByteS.f k (mkBB l 1 i) (bAt l 1 i) = some (bAt l 1 i + ((l.getD i []).length : Int)) := h0 k (by omega)
    simp only [laws_heldByteSS.l0, mkBBL_length, hrd]
    rw [if_pos (by omega), if_pos (by omega), t0, Option.bind_some, if_neg (by omega), wrap_succ (n := l.length) hi (by omega)]
    simp only [bAt]
  · refine Ev.ends (fun k => ?_)
    simp only [laws_heldByteSS.l0, mkBBL_length]
    rw [if_neg (by omega)]

theorem unframeR_next {b : List Int} (hb : BytesIn b) {i : Int} (h : (unframeR b i).2.2 = true) : i + 5 ≤ (unframeR b i).2.1 ∧ (unframeR b i).2.1 ≤ (b.length : Int) := by
  unfold unframeR at h ⊢
  split at h
  · rename_i hc
    rw [if_pos hc]
    split at h
    · rename_i hs
      rw [if_pos hs]
      dsimp only
      have ht := hs.1
      unfold textR at ht ⊢
      have hr := getR_range b hb (i + 4) 5 0 0 (Int.le_refl 0) (Int.le_refl 0)
      generalize getR b (i + 4) 5 0 0 = g at ht hr ⊢
      split at ht
      · rename_i h1
        obtain ⟨a1, a2, a3, a4, a5⟩ := hr h1
        rw [if_pos h1]
        split at ht
        · exact absurd ht (by simp)
        · rename_i h2
          rw [if_neg h2]
          dsimp only
          omega
      · exact absurd ht (by simp)
    · exact absurd h (by simp)
  · exact absurd h (by simp)
theorem recs_both (b : List Int) (hb : BytesIn b) (hn : b.length ≤ 1048576) : ∀ (d : Nat) (i : Int) (out : List (List Int)), 0 ≤ i → i ≤ (b.length : Int) → (b.length : Int) - i ≤ (d : Int) → (out.length : Int) ≤ i → (∀ x ∈ out, x.length ≤ 1048576) →
    ∃ r : List (List Int) × Int, (r.1.length ≤ 1048576 ∧ ∀ x ∈ r.1, x.length ≤ 1048576) ∧ Ev (fun k => spec_Records.l0 k b out i) r ∧ Ev (fun k => impl_Records.l0 k b out i) r := by
  intro d
  induction d with
  | zero =>
    intro i out h0 h1 h2 h3 h4
    obtain ⟨K1, e1⟩ := specUnframe_ev b hb (by omega) i (by omega)
    obtain ⟨K2, e2⟩ := implUnframe_any b hb (by omega) i (by omega)
    have hf : (unframeR b i).2.2 = false := by
      cases hc : (unframeR b i).2.2
      · rfl
      · have := unframeR_next hb hc
        omega
    dsimp only at e1 e2
    refine ⟨(out, i), ⟨by simp only []; omega, h4⟩, ⟨K1 + 1, fun k hk => ?_⟩, ⟨K2 + 1, fun k hk => ?_⟩⟩
    · obtain ⟨q, rfl⟩ : ∃ q, k = q + 1 := ⟨k - 1, by omega⟩
      simp only [spec_Records.l0]
      rw [e1 q (by omega), Option.bind_some, hf, if_neg (by decide)]
    · obtain ⟨q, rfl⟩ : ∃ q, k = q + 1 := ⟨k - 1, by omega⟩
      simp only [impl_Records.l0]
      rw [e2 q (by omega), Option.bind_some, hf, if_neg (by decide)]
  | succ d ih =>
    intro i out h0 h1 h2 h3 h4
    obtain ⟨K1, e1⟩ := specUnframe_ev b hb (by omega) i (by omega)
    obtain ⟨K2, e2⟩ := implUnframe_any b hb (by omega) i (by omega)
    dsimp only at e1 e2
    cases hc : (unframeR b i).2.2 with
    | false =>
      refine ⟨(out, i), ⟨by simp only []; omega, h4⟩, ⟨K1 + 1, fun k hk => ?_⟩, ⟨K2 + 1, fun k hk => ?_⟩⟩
      · obtain ⟨q, rfl⟩ : ∃ q, k = q + 1 := ⟨k - 1, by omega⟩
        simp only [spec_Records.l0]
        rw [e1 q (by omega), Option.bind_some, hc, if_neg (by decide)]
      · obtain ⟨q, rfl⟩ : ∃ q, k = q + 1 := ⟨k - 1, by omega⟩
        simp only [impl_Records.l0]
        rw [e2 q (by omega), Option.bind_some, hc, if_neg (by decide)]
    | true =>
      have hx := unframeR_next hb hc
      have hl := unframeR_len b i
      obtain ⟨r, hr, ⟨K3, e3⟩, ⟨K4, e4⟩⟩ := ih (unframeR b i).2.1 (out ++ [(unframeR b i).1]) (by omega) (by omega) (by omega) (by simp; omega) (fun x hx => by
        rcases List.mem_append.1 hx with hx | hx
        · exact h4 x hx
        · rw [List.mem_singleton.1 hx]
          omega)
      dsimp only at e3 e4
      refine ⟨r, hr, ⟨K1 + K3 + 1, fun k hk => ?_⟩, ⟨K2 + K4 + 1, fun k hk => ?_⟩⟩
      · obtain ⟨q, rfl⟩ : ∃ q, k = q + 1 := ⟨k - 1, by omega⟩
        simp only [spec_Records.l0]
        rw [e1 q (by omega), Option.bind_some, hc, if_pos rfl, if_pos (by omega), e3 q (by omega)]
      · obtain ⟨q, rfl⟩ : ∃ q, k = q + 1 := ⟨k - 1, by omega⟩
        simp only [impl_Records.l0]
        rw [e2 q (by omega), Option.bind_some, hc, if_pos rfl, if_pos (by omega), e4 q (by omega)]
theorem FnExactRecords : laws_FnExactRecords.Pure := by
  intro xs hx
  by_cases hbig : (xs.length : Int) > 1048576
  · exact ⟨0, by simp only [laws_FnExactRecords.f]; rw [if_pos hbig]⟩
  have hb := bytesIn_of hx.2
  obtain ⟨K1, h1⟩ := toByteS_ev xs (by omega)
  obtain ⟨r, hr, ⟨K2, h2⟩, ⟨K3, h3⟩⟩ := recs_both xs hb (by omega) xs.length 0 [] (by omega) (by omega) (by omega) (by simp) (by simp)
  obtain ⟨K4, h4⟩ := eqByteSS_ev r.1 hr.1 hr.2
  obtain ⟨K5, h5⟩ := eqByteS_ev xs (by omega)
  obtain ⟨K6, h6⟩ := markByteS_ev xs 1 (by omega) (by omega)
  obtain ⟨n0, K7, h7⟩ := markByteSS_ev r.1 hr.1 hr.2
  obtain ⟨K8, h8⟩ := heldByteSS_ev r.1 hr.1 hr.2
  dsimp only at h1 h2 h3 h4 h5 h6 h7 h8
  have s2 : ∀ k, K2 ≤ k → spec_Records.f k xs = some r := fun k hk => h2 k hk
  have s3 : ∀ k, K3 ≤ k → impl_Records.f k xs = some r := fun k hk => h3 k hk
  refine ⟨K1 + K2 + K3 + K4 + K5 + K6 + K7 + K8 + 3, ?_⟩
  simp only [laws_FnExactRecords.f]
  rw [if_neg hbig, h1 _ (by omega), Option.bind_some, s2 _ (by omega), Option.bind_some, Option.bind_some, s3 _ (by omega), Option.bind_some, h4 _ (by omega), Option.bind_some, if_pos rfl, bne_self_eq_false]
  simp only [laws_FnExactRecords.j0, laws_FnExactRecords.j1, laws_FnExactRecords.j2, bne_self_eq_false, Bool.false_eq_true, if_false]
  rw [h1 _ (by omega), Option.bind_some, h5 _ (by omega), Option.bind_some, if_pos rfl, h6 _ (by omega), Option.bind_some, if_neg (by simp only []; omega), h4 _ (by omega), Option.bind_some, if_pos rfl, h7 _ (by omega), Option.bind_some, h8 _ (by omega), Option.bind_some, if_neg (by omega), if_pos rfl, h1 _ (by omega), Option.bind_some, s3 _ (by omega), Option.bind_some, h4 _ (by omega), Option.bind_some, if_pos rfl, if_neg (by simp), h8 _ (by omega), Option.bind_some, if_neg (by omega), if_pos rfl]

end Go.Proofs.Ytecjamgajlpfdaa.MPureFnExactRecords
