-- Written by mp.py, this session's own printer (wip/mp.py).
import Derived.Test.YtecjamgajlpfdaaVMShort
import Derived.Test.YtecjamgajlpfdaaMFnExactTablePairsx0
import Derived.Test.YtecjamgajlpfdaaMFnExactTablePairsx2
import Derived.Test.YtecjamgajlpfdaaMFnExactTablePairsx4
import Derived.Test.YtecjamgajlpfdaaMFnExactTablePairsx5
import Derived.Test.YtecjamgajlpfdaaMFnExactTablePairsx6
import Derived.Test.YtecjamgajlpfdaaMFnExactTablePairsx7
namespace Go.Proofs.Ytecjamgajlpfdaa.MFnExactTablePairs
open Go.RowKit Go.Proofs.YtecjamgajlpfdaaW.PrintWords Go.Proofs.YtecjamgajlpfdaaW.PrintLast Go.Proofs.YtecjamgajlpfdaaW.PrintMore Go.Proofs.Ytecjamgajlpfdaa.MWords
attribute [local go_sem] max2_int min2_int max_two min_two max_three min_three max_four min_four   -- for this text's walks alone
set_option linter.unusedVariables false
set_option linter.unusedSimpArgs false

/-! ### spec_Mark: function 97 -/
def spec_Mark.f (k : Nat) (a0 : ByteArray) : Option (Int × Int) := if a0.size ≤ 9223372036854775807 then ((spec_Sum.f k (bytesOf a0)).bind fun t => (some (Int.tmod t 64, Int.tmod (wrap64 (Int.tdiv t 64)) 64))) else none
theorem spec_Mark.mono : ∀ a0 k, LeO (spec_Mark.f k a0) (spec_Mark.f (k + 1) a0) := by
 intro a0 k
 unfold spec_Mark.f
 exact LeO.ite (LeO.bind (spec_Sum.mono _ _) (fun _ => LeO.refl _)) (LeO.none _)
set_option maxHeartbeats 8000000 in
set_option maxRecDepth 100000 in
theorem spec_Mark.calls (k : Nat) (a0 : ByteArray) (r1 : Int) (r2 : Int) (w : World) (h : spec_Mark.f k a0 = some (r1, r2)) :
  Calls Try.prog 97 #[.string a0] w fun e w' => e = .returned (.tuple #[.int .i64 r1, .int .i64 r2]) ∧ Below w.heap.size w w' := by
 unfold spec_Mark.f at h
 by_cases hs : a0.size ≤ 9223372036854775807
 ·rw [if_pos hs] at h
  obtain ⟨t, ht, h⟩ := Option.bind_eq_some_iff.mp h
  simp only [Option.some.injEq, Prod.mk.injEq] at h
  obtain ⟨rfl, rfl⟩ := h
  have HT := mS ht
  clear ht
  have hcv : ∀ W : World, (convert 9 22 (.string a0)).run Try.prog W = .ok (.slice (some ⟨W.heap.size, 0, none⟩) (bytesOf a0).length (grownCap W a0.size 0 5)) (Lib.bytesWorld W 5 a0) := fun W => by
   rw [bytesOf_length]
   exact print_bytes 9 22 5 Try.underlying9 Try.underlying22 Try.underlying5 a0 W
  have HS := mS hs
  clear hs
  have HR := mS (show (Kd.int .u8).C (Lib.bytesWorld w 5 a0) (some ⟨w.heap.size, 0, none⟩) (bytesOf a0).length (bytesOf a0) from by
   have hr := bytes_reads w 5 a0 HS.out
   rw [← bytesOf_length] at hr
   exact Kd.C_of_reads (d := (0 : Int)) (h1 := fun _ => rfl) hr)
  have HC := mS (show (bytesOf a0).length ≤ grownCap w a0.size 0 5 from by rw [bytesOf_length]; exact grownCap_ge w a0.size 0 5)
  go_enter Try.func97, Try.ntmps97
  go_wp2_with fail
  refine (spec_Sum.calls k _ _ (bytesOf a0) t _ HR.out HC.out HT.out).mono ?_
  rintro e w' ⟨rfl, ⟨nd, rfl⟩⟩
  go_wp2
  go_ret2
  exact ⟨rfl, pw_below_drewN (bytes_below (Below.refl _ _) (Nat.le_refl _) 5 a0) nd⟩
 ·rw [if_neg hs] at h
  cases h

/-! ### spec_Filter: function 78 -/
def spec_Filter.l0 : Nat → List ByteArray → List Int → Int → Option (List Int)
 | 0, _, _, _ => none
 | k + 1, x0, x3, x4 => if x4 < (x0.length : Int) then (if 0 ≤ x4 then ((spec_Mark.f k (rdOf ByteArray.empty x0 x4)).bind fun bt289 => (if 0 ≤ (wrap64 (Int.tdiv bt289.1 8)) then (if (wrap64 (Int.tdiv bt289.1 8)) < (x3.length : Int) then (if 0 ≤ (IntKind.u64.wrap (Int.tmod bt289.1 8)) then ((some (x3.set ((wrap64 (Int.tdiv bt289.1 8)) : Int).toNat (Go.bits .or .u8 (rd x3 (wrap64 (Int.tdiv bt289.1 8))) (shl .u8 1 (IntKind.u64.wrap (Int.tmod bt289.1 8)))) : List Int)).bind fun y292 => (if 0 ≤ (wrap64 (Int.tdiv bt289.2 8)) then (if (wrap64 (Int.tdiv bt289.2 8)) < (x3.length : Int) then (if 0 ≤ (IntKind.u64.wrap (Int.tmod bt289.2 8)) then (spec_Filter.l0 k x0 (y292.set ((wrap64 (Int.tdiv bt289.2 8)) : Int).toNat (Go.bits .or .u8 (rd y292 (wrap64 (Int.tdiv bt289.2 8))) (shl .u8 1 (IntKind.u64.wrap (Int.tmod bt289.2 8))))) (wrap64 (x4 + 1))) else (none)) else (none)) else (none))) else (none)) else (none)) else (none))) else (none)) else (some x3)
def spec_Filter.f (k : Nat) (l0 : List ByteArray) : Option (List Int) := if 8 ≤ 281474976710656 then (spec_Filter.l0 k l0 (List.replicate 8 0) 0) else (none)
theorem spec_Filter.mono_l : ∀ k, (∀ y0 y1 y2, LeO (spec_Filter.l0 k y0 y1 y2) (spec_Filter.l0 (k + 1) y0 y1 y2))
 | 0 => fun _ _ _ r h => by simp [spec_Filter.l0] at h
 | k + 1 => by
  have ih0 := spec_Filter.mono_l k
  ·intro y0 y1 y2
   unfold spec_Filter.l0
   repeat' first
   | (with_reducible exact ih0 _ _ _)
   | (with_reducible exact spec_Mark.mono _ _)
   | (with_reducible exact LeO.refl _)
   | (with_reducible exact LeO.none _)
   | (with_reducible refine LeO.ite ?_ ?_)
   | (with_reducible refine LeO.bind ?_ (fun _ => ?_))
   | exact ih0 _ _ _
   | exact spec_Mark.mono _ _
   | exact LeO.none _
   | refine LeO.ite ?_ ?_
   | refine LeO.bind ?_ (fun _ => ?_)
theorem spec_Filter.mono : ∀ a0 k, LeO (spec_Filter.f k a0) (spec_Filter.f (k + 1) a0) := by
 intro a0 k
 have ih0 := spec_Filter.mono_l k
 unfold spec_Filter.f
 repeat' first
   | (with_reducible exact ih0 _ _ _)
   | (with_reducible exact spec_Mark.mono _ _)
   | (with_reducible exact LeO.refl _)
   | (with_reducible exact LeO.none _)
   | (with_reducible refine LeO.ite ?_ ?_)
   | (with_reducible refine LeO.bind ?_ (fun _ => ?_))
   | exact ih0 _ _ _
   | exact spec_Mark.mono _ _
   | exact LeO.none _
   | refine LeO.ite ?_ ?_
   | refine LeO.bind ?_ (fun _ => ?_)
set_option maxHeartbeats 8000000 in
set_option maxRecDepth 100000 in
theorem spec_Filter.calls (k : Nat) (A0 : Option Addr) (c0 : Nat) (l0 : List ByteArray) (r : List Int) (w : World) (hr0 : Kd.C Kd.string w A0 l0.length l0) (hc0 : l0.length ≤ c0) (h : spec_Filter.f k l0 = some r) :
  Calls Try.prog 78 #[.slice A0 l0.length c0] w fun e w' => ∃ v0_ : Value, e = .returned (v0_) ∧ Kd.R (Kd.int .u8) 5 w' w.heap.size (fun _ => True) v0_ r ∧ Below w.heap.size w w' := by
 have HR0 := mS hr0
 have HC0 := mS hc0
 clear hr0 hc0
 have HB := mS (Below.refl w.heap.size w)
 have H : (if 8 ≤ 281474976710656 then (spec_Filter.l0 k l0 (List.replicate 8 0) 0) else (none)) = some r := h
 clear h
 by_cases c2 : 8 ≤ 281474976710656
 ·rw [if_pos c2] at H
  have c2b0 := eq_true c2
  have c2b1 := decide_eq_true c2
  clear c2
  obtain ⟨y285, hy285⟩ : ∃ y_ : List Int, y_ = (List.replicate 8 0) := ⟨_, rfl⟩
  replace H : (spec_Filter.l0 k l0 y285 0) = some r := by first | (rw [hy285]; with_reducible exact H) | (have H2_ := (Option.bind_some _ _).symm.trans H; rw [hy285]; with_reducible exact H2_) | (have H2_ := (Option.bind_some _ _).symm.trans H; with_reducible exact H2_) | with_reducible exact H | (rw [hy285]; exact H) | exact H
  have Ny285 := mS hy285
  clear hy285
  have H' := mS H
  clear H
  go_enter Try.func78, Try.ntmps78
  go_wp2_with (first | ((with_reducible refine gate_dst (N := 7) rfl ?_); refine Kd.R_make (Kd.int .u8) _ 5 rfl (N := 7) rfl 22 _ _ rfl 8 rfl rfl Try.underlying22 (.int .u8 0) 1 info5 rfl (by decide) (by omega) 0 (ok := fun _ => True) (okp := fun _ => True) rfl (fun _ hk => hk) trivial (by omega) (by omega) (Below.refl _ _) (Nat.le_refl _) ?_; intro v286 w3 ho4 hb hg_ hnew_; clear hg_ hnew_; (first | rw [← Ny285.out] at ho4 | (simp only [Int.reduceToNat] at ho4; rw [← Ny285.out] at ho4)); have HO287 := mS (Kd.R_lower ho4 (below_size (mH HB.out))); replace HB := mS (below_step (mH HB.out) hb); clear hb ho4))
  go_loopg [4] k (fun kq v4 w' => ∃ (x3_1 : List Int) (x4_1 : Int), v4 = .int .i64 x4_1 ∧ Aside0 (spec_Filter.l0 kq l0 x3_1 x4_1 = some r) ∧ Aside0 (kq ≤ k) ∧ Aside0 (Kd.R (Kd.int .u8) 5 w' w.heap.size (fun _ => True) v286 x3_1) ∧ Aside0 (Below w.heap.size w w'))
  case atStart => exact ⟨(y285), (0), mE, H', ⟨Nat.le_refl _⟩, ⟨mR HO287.out⟩, ⟨(mH HB.out)⟩⟩
  case round =>
   clear H'
   try clear c2
   try clear c2b0
   try clear c2b1
   try clear p2
   obtain ⟨x3_1, x4_1, rfl, HA, HK1, HO_3, HB⟩ := hrel
   cases gk with
   | zero => exact absurd HA.out (by simp [spec_Filter.l0])
   | succ k1 =>
    have H := HA.out
    clear HA
    simp only [spec_Filter.l0] at H
    by_cases c5 : x4_1 < (l0.length : Int)
    ·rw [if_pos c5] at H
     have c5b0 := decide_eq_true c5
     clear c5
     by_cases c6 : 0 ≤ x4_1
     ·rw [if_pos c6] at H
      have c6b0 := decide_eq_true c6
      clear c6
      replace H := Option.bind_eq_some_iff.mp H
      obtain ⟨⟨t289, t290⟩, A70, H⟩ := H
      replace H : (if 0 ≤ (wrap64 (Int.tdiv t289 8)) then (if (wrap64 (Int.tdiv t289 8)) < (x3_1.length : Int) then (if 0 ≤ (IntKind.u64.wrap (Int.tmod t289 8)) then ((some (x3_1.set ((wrap64 (Int.tdiv t289 8)) : Int).toNat (Go.bits .or .u8 (rd x3_1 (wrap64 (Int.tdiv t289 8))) (shl .u8 1 (IntKind.u64.wrap (Int.tmod t289 8)))) : List Int)).bind fun y292 => (if 0 ≤ (wrap64 (Int.tdiv t290 8)) then (if (wrap64 (Int.tdiv t290 8)) < (x3_1.length : Int) then (if 0 ≤ (IntKind.u64.wrap (Int.tmod t290 8)) then (spec_Filter.l0 k1 l0 (y292.set ((wrap64 (Int.tdiv t290 8)) : Int).toNat (Go.bits .or .u8 (rd y292 (wrap64 (Int.tdiv t290 8))) (shl .u8 1 (IntKind.u64.wrap (Int.tmod t290 8))))) (wrap64 (x4_1 + 1))) else (none)) else (none)) else (none))) else (none)) else (none)) else (none)) = some r := H
      have A7 := mS A70
      clear A70
      obtain ⟨ji8, hji8⟩ : ∃ j_ : Int, (wrap64 (Int.tdiv t289 8)) = j_ := ⟨_, rfl⟩
      replace H : (if 0 ≤ (ji8) then (if (ji8) < (x3_1.length : Int) then (if 0 ≤ (IntKind.u64.wrap (Int.tmod t289 8)) then ((some (x3_1.set ((ji8) : Int).toNat (Go.bits .or .u8 (rd x3_1 (ji8)) (shl .u8 1 (IntKind.u64.wrap (Int.tmod t289 8)))) : List Int)).bind fun y292 => (if 0 ≤ (wrap64 (Int.tdiv t290 8)) then (if (wrap64 (Int.tdiv t290 8)) < (x3_1.length : Int) then (if 0 ≤ (IntKind.u64.wrap (Int.tmod t290 8)) then (spec_Filter.l0 k1 l0 (y292.set ((wrap64 (Int.tdiv t290 8)) : Int).toNat (Go.bits .or .u8 (rd y292 (wrap64 (Int.tdiv t290 8))) (shl .u8 1 (IntKind.u64.wrap (Int.tmod t290 8))))) (wrap64 (x4_1 + 1))) else (none)) else (none)) else (none))) else (none)) else (none)) else (none)) = some r := by first | (rw [hji8] at H; exact H) | (simp only [hji8] at H ⊢; exact H)
      (try rw [hji8] at A7)
      have hji8w : (IntKind.i64.wrap (Int.tdiv t289 8)) = ji8 := (i64_w _).trans hji8
      by_cases c9 : 0 ≤ (ji8)
      ·rw [if_pos c9] at H
       have c9b0 := decide_eq_true c9
       clear c9
       by_cases c10 : (ji8) < (x3_1.length : Int)
       ·rw [if_pos c10] at H
        have c10b0 := decide_eq_true c10
        clear c10
        obtain ⟨ji11, hji11⟩ : ∃ j_ : Int, (IntKind.u64.wrap (Int.tmod t289 8)) = j_ := ⟨_, rfl⟩
        replace H : (if 0 ≤ (ji11) then ((some (x3_1.set ((ji8) : Int).toNat (Go.bits .or .u8 (rd x3_1 (ji8)) (shl .u8 1 (ji11))) : List Int)).bind fun y292 => (if 0 ≤ (wrap64 (Int.tdiv t290 8)) then (if (wrap64 (Int.tdiv t290 8)) < (x3_1.length : Int) then (if 0 ≤ (IntKind.u64.wrap (Int.tmod t290 8)) then (spec_Filter.l0 k1 l0 (y292.set ((wrap64 (Int.tdiv t290 8)) : Int).toNat (Go.bits .or .u8 (rd y292 (wrap64 (Int.tdiv t290 8))) (shl .u8 1 (IntKind.u64.wrap (Int.tmod t290 8))))) (wrap64 (x4_1 + 1))) else (none)) else (none)) else (none))) else (none)) = some r := by first | (rw [hji11] at H; exact H) | (simp only [hji11] at H ⊢; exact H)
        (try rw [hji11] at A7)
        by_cases c12 : 0 ≤ (ji11)
        ·rw [if_pos c12] at H
         have c12b0 := eq_true c12
         have c12b1 := decide_eq_true c12
         clear c12
         obtain ⟨ji13, hji13⟩ : ∃ j_ : Int, (shl .u8 1 (ji11)) = j_ := ⟨_, rfl⟩
         replace H : ((some (x3_1.set ((ji8) : Int).toNat (Go.bits .or .u8 (rd x3_1 (ji8)) (ji13)) : List Int)).bind fun y292 => (if 0 ≤ (wrap64 (Int.tdiv t290 8)) then (if (wrap64 (Int.tdiv t290 8)) < (x3_1.length : Int) then (if 0 ≤ (IntKind.u64.wrap (Int.tmod t290 8)) then (spec_Filter.l0 k1 l0 (y292.set ((wrap64 (Int.tdiv t290 8)) : Int).toNat (Go.bits .or .u8 (rd y292 (wrap64 (Int.tdiv t290 8))) (shl .u8 1 (IntKind.u64.wrap (Int.tmod t290 8))))) (wrap64 (x4_1 + 1))) else (none)) else (none)) else (none))) = some r := by first | (rw [hji13] at H; exact H) | (simp only [hji13] at H ⊢; exact H)
         (try rw [hji13] at A7)
         have hji13_ : (IntKind.u8.wrap (1 * 2 ^ min (ji11).toNat 8)) = ji13 := hji13
         have hji13z : (ji11) ≤ 8 → (IntKind.u8.wrap (1 * 2 ^ (ji11).toNat)) = ji13 := shl_small hji13
         have hji13u : (IntKind.u8.wrap (2 ^ min (ji11).toNat 8)) = ji13 := by have h_ := hji13_; rw [Int.one_mul] at h_; exact h_
         have hji13v : (ji11) ≤ 8 → (IntKind.u8.wrap (2 ^ (ji11).toNat)) = ji13 := fun hle_ => by have h_ := hji13z hle_; rw [Int.one_mul] at h_; exact h_
         obtain ⟨y292, hy292⟩ : ∃ y_ : List Int, y_ = (x3_1.set ((ji8) : Int).toNat (Go.bits .or .u8 (rd x3_1 (ji8)) (ji13))) := ⟨_, rfl⟩
         replace H : (if 0 ≤ (wrap64 (Int.tdiv t290 8)) then (if (wrap64 (Int.tdiv t290 8)) < (x3_1.length : Int) then (if 0 ≤ (IntKind.u64.wrap (Int.tmod t290 8)) then (spec_Filter.l0 k1 l0 (y292.set ((wrap64 (Int.tdiv t290 8)) : Int).toNat (Go.bits .or .u8 (rd y292 (wrap64 (Int.tdiv t290 8))) (shl .u8 1 (IntKind.u64.wrap (Int.tmod t290 8))))) (wrap64 (x4_1 + 1))) else (none)) else (none)) else (none)) = some r := by first | (rw [hy292]; with_reducible exact H) | (have H2_ := (Option.bind_some _ _).symm.trans H; rw [hy292]; with_reducible exact H2_) | (have H2_ := (Option.bind_some _ _).symm.trans H; with_reducible exact H2_) | with_reducible exact H | (rw [hy292]; exact H) | exact H
         have Ny292 := mS hy292
         clear hy292
         obtain ⟨ji15, hji15⟩ : ∃ j_ : Int, (wrap64 (Int.tdiv t290 8)) = j_ := ⟨_, rfl⟩
         replace H : (if 0 ≤ (ji15) then (if (ji15) < (x3_1.length : Int) then (if 0 ≤ (IntKind.u64.wrap (Int.tmod t290 8)) then (spec_Filter.l0 k1 l0 (y292.set ((ji15) : Int).toNat (Go.bits .or .u8 (rd y292 (ji15)) (shl .u8 1 (IntKind.u64.wrap (Int.tmod t290 8))))) (wrap64 (x4_1 + 1))) else (none)) else (none)) else (none)) = some r := by first | (rw [hji15] at H; exact H) | (simp only [hji15] at H ⊢; exact H)
         (try rw [hji15] at A7)
         have hji15w : (IntKind.i64.wrap (Int.tdiv t290 8)) = ji15 := (i64_w _).trans hji15
         by_cases c16 : 0 ≤ (ji15)
         ·rw [if_pos c16] at H
          have c16b0 := decide_eq_true c16
          clear c16
          by_cases c17 : (ji15) < (x3_1.length : Int)
          ·rw [if_pos c17] at H
           have c17b0 := decide_eq_true c17
           clear c17
           obtain ⟨ji18, hji18⟩ : ∃ j_ : Int, (IntKind.u64.wrap (Int.tmod t290 8)) = j_ := ⟨_, rfl⟩
           replace H : (if 0 ≤ (ji18) then (spec_Filter.l0 k1 l0 (y292.set ((ji15) : Int).toNat (Go.bits .or .u8 (rd y292 (ji15)) (shl .u8 1 (ji18)))) (wrap64 (x4_1 + 1))) else (none)) = some r := by first | (rw [hji18] at H; exact H) | (simp only [hji18] at H ⊢; exact H)
           (try rw [hji18] at A7)
           by_cases c19 : 0 ≤ (ji18)
           ·rw [if_pos c19] at H
            have c19b0 := eq_true c19
            have c19b1 := decide_eq_true c19
            clear c19
            obtain ⟨ji20, hji20⟩ : ∃ j_ : Int, (shl .u8 1 (ji18)) = j_ := ⟨_, rfl⟩
            replace H : (spec_Filter.l0 k1 l0 (y292.set ((ji15) : Int).toNat (Go.bits .or .u8 (rd y292 (ji15)) (ji20))) (wrap64 (x4_1 + 1))) = some r := by first | (rw [hji20] at H; exact H) | (simp only [hji20] at H ⊢; exact H)
            (try rw [hji20] at A7)
            have hji20_ : (IntKind.u8.wrap (1 * 2 ^ min (ji18).toNat 8)) = ji20 := hji20
            have hji20z : (ji18) ≤ 8 → (IntKind.u8.wrap (1 * 2 ^ (ji18).toNat)) = ji20 := shl_small hji20
            have hji20u : (IntKind.u8.wrap (2 ^ min (ji18).toNat 8)) = ji20 := by have h_ := hji20_; rw [Int.one_mul] at h_; exact h_
            have hji20v : (ji18) ≤ 8 → (IntKind.u8.wrap (2 ^ (ji18).toNat)) = ji20 := fun hle_ => by have h_ := hji20z hle_; rw [Int.one_mul] at h_; exact h_
            obtain ⟨y294, hy294⟩ : ∃ y_ : List Int, y_ = (y292.set ((ji15) : Int).toNat (Go.bits .or .u8 (rd y292 (ji15)) (ji20))) := ⟨_, rfl⟩
            replace H : (spec_Filter.l0 k1 l0 y294 (wrap64 (x4_1 + 1))) = some r := by first | (rw [hy294]; with_reducible exact H) | (have H2_ := (Option.bind_some _ _).symm.trans H; rw [hy294]; with_reducible exact H2_) | (have H2_ := (Option.bind_some _ _).symm.trans H; with_reducible exact H2_) | with_reducible exact H | (rw [hy294]; exact H) | exact H
            have Ny294 := mS hy294
            clear hy294
            have H' := mS H
            clear H
            have p288 : 0 ≤ (x4_1 : Int) := mD
            have q288 : x4_1 < (l0.length : Int) := mD
            obtain ⟨ad288, e288, hx288_0⟩ := Kd.at_string HR0.out x4_1 p288 q288
            cases e288
            replace hx288_0 := mX HB.out hx288_0
            replace p288 := eq_true p288
            replace q288 := eq_true q288
            go_wp2_with (first | ((with_reducible refine gate_callee (f := 97) rfl ?_); refine mGo 19 Try.func97 #[.string (rdOf ByteArray.empty l0 x4_1)] ?_; (with_reducible refine (spec_Mark.calls k1 (rdOf ByteArray.empty l0 x4_1) t289 t290 _ A7.out).mono ?_); rintro e w22 ⟨rfl, hb⟩; refine ⟨_, rfl, ?_⟩; replace HO_3 := mS (Kd.R_below (mR HO_3.out) hb); replace HB := mS (below_step (mH HB.out) hb); (try clear hb); obtain ⟨Ao23, co23, eo23⟩ := Kd.R_slice HO_3.out; subst eo23; have p291 : 0 ≤ ((ji8) : Int) := mD; have q291 : (ji8) < (x3_1.length : Int) := mD; obtain ⟨ad291, e291, hx291_0⟩ := Kd.at_int (Kd.R_reads' HO_3.out).2.2 (ji8) p291 q291; cases e291; replace p291 := eq_true p291; replace q291 := eq_true q291; have p14 : 0 ≤ ((ji8) : Int) := mD; have q14 : ((ji8) : Int) < ((x3_1.length : Int) : Int) := mD; obtain ⟨go14, co14, eo14, gb14, gl14, cl14, HG14⟩ := Kd.R_form HO_3.out (by omega); (first | cases eo14 | (injection eo14 with ea_ en_ ec_; (first | subst ea_ | (injection ea_ with ea_; subst ea_)); subst ec_; clear en_)); have GB14 := mS gb14; have GG14 := mS HG14; clear gb14 gl14 HG14; (first | simp only [add_plain] at hx291_0 | skip); obtain ⟨hx14_0, hf14_0⟩ := Kd.R_celln 0 HO_3.out ((ji8) : Int) p14 q14; replace p14 := eq_true p14; replace q14 := eq_true q14; obtain ⟨hy24_, hz24_⟩ := Kd.R_celln 0 HO_3.out ((ji8) : Int) (mD) (mD); have HP24 := Kd.R_putg HO_3.out ((ji8) : Int) (Go.bits .or .u8 (rd x3_1 (ji8)) (ji13))) | ((with_reducible refine gate_store (t := 5) (p := 32) rfl ?_); refine store_event (t := 5) (p := 32) (v := ?vo_w25) (w1 := (w22.setCell ⟨go14, ((ji8) : Int).toNat, none⟩ (.int .u8 (Go.bits .or .u8 (rd x3_1 (ji8)) (ji13))))) ?hg ?ho ?hn ?hr ?_; (case ho => rfl); (case hg => rfl); (case hn => rfl); (case hr => first | (go_simp; done) | (go_simp; rfl)); intro w25 hw; have hg : w22.grownBy w25 (some go14) := (by rw [hw]; exact HP24.2); have hp_ : Kd.R (Kd.int .u8) 5 w25 w.heap.size (fun _ => True) (.slice (some ⟨go14, 0, none⟩) x3_1.length co23) y292 := (by rw [hw, Ny292.out]; exact HP24.1); clear HP24; replace HO_3 := mS (hp_); replace HB := mS ((by rw [hw]; exact below_set (HB.out) GB14.out : Below w.heap.size w w25)); clear hg hw hp_; have p293 : 0 ≤ ((ji15) : Int) := mD; have q293 : (ji15) < (y292.length : Int) := (by have h_ : ((ji15) : Int) < ((x3_1.length : Int) : Int) := mD; first | (have e_ := (Kd.R_reads' HO_3.out).1; omega) | simpa only [Ny292.out, List.length_set] using h_); have ql293 : (((ji15) : Int) < ((x3_1.length : Int) : Int)) = True := eq_true (mD); obtain ⟨ad293, e293, hx293_0⟩ := Kd.at_int (Kd.R_reads' HO_3.out).2.2 (ji15) p293 q293; obtain rfl : (⟨go14, 0, none⟩ : Addr) = ad293 := (by injection e293); (first | simp only [add_plain] at hx293_0 | simp only [add_at] at hx293_0 | simp only [Addr.add, Nat.zero_add] at hx293_0 | skip); replace p293 := eq_true p293; replace q293 := eq_true q293; have p21 : 0 ≤ ((ji15) : Int) := mD; have q21 : ((ji15) : Int) < ((x3_1.length : Int) : Int) := mD; obtain ⟨hx21_0, hf21_0⟩ := Kd.R_celln 0 HO_3.out ((ji15) : Int) p21 q21; replace p21 := eq_true p21; replace q21 := eq_true q21; obtain ⟨hy26_, hz26_⟩ := Kd.R_celln 0 HO_3.out ((ji15) : Int) (mD) (mD); have HP26 := Kd.R_putg HO_3.out ((ji15) : Int) (Go.bits .or .u8 (rd y292 (ji15)) (ji20))) | ((with_reducible refine gate_store (t := 5) (p := 43) rfl ?_); refine store_event (t := 5) (p := 43) (v := ?vo_w27) (w1 := (w25.setCell ⟨go14, ((ji15) : Int).toNat, none⟩ (.int .u8 (Go.bits .or .u8 (rd y292 (ji15)) (ji20))))) ?hg ?ho ?hn ?hr ?_; (case ho => rfl); (case hg => rfl); (case hn => rfl); (case hr => first | (go_simp; done) | (go_simp; rfl)); intro w27 hw; have hg : w25.grownBy w27 (some go14) := (by rw [hw]; exact HP26.2); have hp_ : Kd.R (Kd.int .u8) 5 w27 w.heap.size (fun _ => True) (.slice (some ⟨go14, 0, none⟩) x3_1.length co23) y294 := (by rw [hw, Ny294.out]; exact HP26.1); clear HP26; replace HO_3 := mS (hp_); replace HB := mS ((by rw [hw]; exact below_set (HB.out) GB14.out : Below w.heap.size w w27)); clear hg hw hp_))
            go_roundg k1
            case measure => have := HK1.out; omega
            case rel => exact ⟨(y294), (wrap64 (x4_1 + 1)), mE, H', ⟨by have := HK1.out; omega⟩, ⟨mR HO_3.out⟩, ⟨(mH HB.out)⟩⟩
           ·rw [if_neg c19] at H
            exact absurd H (by simp)
          ·rw [if_neg c17] at H
           exact absurd H (by simp)
         ·rw [if_neg c16] at H
          exact absurd H (by simp)
        ·rw [if_neg c12] at H
         exact absurd H (by simp)
       ·rw [if_neg c10] at H
        exact absurd H (by simp)
      ·rw [if_neg c9] at H
       exact absurd H (by simp)
     ·rw [if_neg c6] at H
      exact absurd H (by simp)
    ·rw [if_neg c5] at H
     have c5b0 := decide_eq_false c5
     clear c5
     obtain rfl := Option.some.inj H
     go_wp2
     go_ret
     exact ⟨_, mEw, mR HO_3.out, (mH HB.out)⟩
 ·rw [if_neg c2] at H
  exact absurd H (by simp)

/-! ### spec_PutTable: function 44 -/
mutual
def spec_PutTable.j0 : Nat → List (S87) → List Int → Bool → Option (List Int)
 | 0, _, _, _ => none
 | k + 1, x0, x3, x20 => if x20 = true then (some x3) else (spec_PutTable.l0 k x0 x3 (([] : List ByteArray)) (([] : List Int)) 0 0)
def spec_PutTable.l0 : Nat → List (S87) → List Int → List ByteArray → List Int → Int → Int → Option (List Int)
 | 0, _, _, _, _, _, _ => none
 | k + 1, x0, x3, x4, x5, x6, x7 => if x7 < (x0.length : Int) then (if (wrap64 (x7 + 4)) > (x0.length : Int) then (if 0 ≤ (wrap64 ((x0.length : Int) - 1)) then (if (wrap64 ((x0.length : Int) - 1)) < (x0.length : Int) then ((spec_PutText.f k x5 ((rd_T87 x0 (wrap64 ((x0.length : Int) - 1))).f0)).bind fun t307 => ((spec_PutNum.f k t307 (x3.length : Int)).bind fun t310 => (if 0 ≤ x7 then (if x7 ≤ (x0.length : Int) then (if (x0.length : Int) ≤ (x0.length : Int) then ((spec_l5Block.f k ((x0.take ((x0.length : Int) : Int).toNat).drop (x7 : Int).toNat)).bind fun t317 => (if x3.length + t317.length < 140737488355328 then (spec_PutTable.l0 k x0 (x3 ++ t317) x4 t310 (wrap64 (x6 + 1)) (wrap64 (x7 + 4))) else (none))) else (none)) else (none)) else (none)))) else (none)) else (none)) else (if 0 ≤ (wrap64 ((wrap64 (x7 + 4)) - 1)) then (if (wrap64 ((wrap64 (x7 + 4)) - 1)) < (x0.length : Int) then ((spec_PutText.f k x5 ((rd_T87 x0 (wrap64 ((wrap64 (x7 + 4)) - 1))).f0)).bind fun t324 => ((spec_PutNum.f k t324 (x3.length : Int)).bind fun t327 => (if 0 ≤ x7 then (if x7 ≤ (wrap64 (x7 + 4)) then (if (wrap64 (x7 + 4)) ≤ (x0.length : Int) then ((spec_l5Block.f k ((x0.take ((wrap64 (x7 + 4)) : Int).toNat).drop (x7 : Int).toNat)).bind fun t334 => (if x3.length + t334.length < 140737488355328 then (spec_PutTable.l0 k x0 (x3 ++ t334) x4 t327 (wrap64 (x6 + 1)) (wrap64 (x7 + 4))) else (none))) else (none)) else (none)) else (none)))) else (none)) else (none))) else (spec_PutTable.l1 k x0 x3 x4 x5 x6 0)
def spec_PutTable.l1 : Nat → List (S87) → List Int → List ByteArray → List Int → Int → Int → Option (List Int)
 | 0, _, _, _, _, _, _ => none
 | k + 1, x0, x3, x4, x5, x6, x9 => if x9 < (x0.length : Int) then (if 0 ≤ x9 then (if x4.length < 8796093022208 then (spec_PutTable.l1 k x0 x3 (x4 ++ [(rd_T87 x0 x9).f0]) x5 x6 (wrap64 (x9 + 1))) else (none)) else (none)) else ((spec_PutNum.f k (([] : List Int)) x6).bind fun t347 => (if t347.length + x5.length < 140737488355328 then ((some (t347 ++ x5 : List Int)).bind fun y350 => ((spec_Filter.f k x4).bind fun t353 => (if y350.length + t353.length < 140737488355328 then ((spec_Frame.f k (y350 ++ t353)).bind fun t359 => (if x3.length + t359.length < 140737488355328 then ((some (x3 ++ t359 : List Int)).bind fun y362 => ((spec_l1Four.f (x3.length : Int)).bind fun t365 => (if y362.length + t365.length < 140737488355328 then (some (y362 ++ t365)) else (none)))) else (none))) else (none)))) else (none)))
end
def spec_PutTable.f (k : Nat) (l0 : List (S87)) : Option (List Int) := (some (([] : List Int) : List Int)).bind fun y295 => ((spec_l4Rising.f k l0).bind fun t298 => (if t298 = true then ((spec_l1In.f (l0.length : Int) 1 200).bind fun t299 => (spec_PutTable.j0 k l0 y295 (!t299))) else (spec_PutTable.j0 k l0 y295 true)))
theorem spec_PutTable.mono_l : ∀ k, (∀ y0 y1 y2, LeO (spec_PutTable.j0 k y0 y1 y2) (spec_PutTable.j0 (k + 1) y0 y1 y2)) ∧ (∀ y0 y1 y2 y3 y4 y5, LeO (spec_PutTable.l0 k y0 y1 y2 y3 y4 y5) (spec_PutTable.l0 (k + 1) y0 y1 y2 y3 y4 y5)) ∧ (∀ y0 y1 y2 y3 y4 y5, LeO (spec_PutTable.l1 k y0 y1 y2 y3 y4 y5) (spec_PutTable.l1 (k + 1) y0 y1 y2 y3 y4 y5))
 | 0 => ⟨fun _ _ _ r h => by simp [spec_PutTable.j0] at h, fun _ _ _ _ _ _ r h => by simp [spec_PutTable.l0] at h, fun _ _ _ _ _ _ r h => by simp [spec_PutTable.l1] at h⟩
 | k + 1 => by
  obtain ⟨ih0, ih1, ih2⟩ := spec_PutTable.mono_l k
  refine ⟨?_, ?_, ?_⟩
  ·intro y0 y1 y2
   unfold spec_PutTable.j0
   repeat' first
   | (with_reducible exact ih0 _ _ _)
   | (with_reducible exact ih1 _ _ _ _ _ _)
   | (with_reducible exact ih2 _ _ _ _ _ _)
   | (with_reducible exact spec_Filter.mono _ _)
   | (with_reducible exact spec_Frame.mono _ _)
   | (with_reducible exact spec_PutNum.mono _ _ _)
   | (with_reducible exact spec_PutText.mono _ _ _)
   | (with_reducible exact spec_l4Rising.mono _ _)
   | (with_reducible exact spec_l5Block.mono _ _)
   | (with_reducible exact LeO.refl _)
   | (with_reducible exact LeO.none _)
   | (with_reducible refine LeO.ite ?_ ?_)
   | (with_reducible refine LeO.bind ?_ (fun _ => ?_))
   | exact ih0 _ _ _
   | exact ih1 _ _ _ _ _ _
   | exact ih2 _ _ _ _ _ _
   | exact spec_Filter.mono _ _
   | exact spec_Frame.mono _ _
   | exact spec_PutNum.mono _ _ _
   | exact spec_PutText.mono _ _ _
   | exact spec_l4Rising.mono _ _
   | exact spec_l5Block.mono _ _
   | exact LeO.none _
   | refine LeO.ite ?_ ?_
   | refine LeO.bind ?_ (fun _ => ?_)
  ·intro y0 y1 y2 y3 y4 y5
   unfold spec_PutTable.l0
   repeat' first
   | (with_reducible exact ih0 _ _ _)
   | (with_reducible exact ih1 _ _ _ _ _ _)
   | (with_reducible exact ih2 _ _ _ _ _ _)
   | (with_reducible exact spec_Filter.mono _ _)
   | (with_reducible exact spec_Frame.mono _ _)
   | (with_reducible exact spec_PutNum.mono _ _ _)
   | (with_reducible exact spec_PutText.mono _ _ _)
   | (with_reducible exact spec_l4Rising.mono _ _)
   | (with_reducible exact spec_l5Block.mono _ _)
   | (with_reducible exact LeO.refl _)
   | (with_reducible exact LeO.none _)
   | (with_reducible refine LeO.ite ?_ ?_)
   | (with_reducible refine LeO.bind ?_ (fun _ => ?_))
   | exact ih0 _ _ _
   | exact ih1 _ _ _ _ _ _
   | exact ih2 _ _ _ _ _ _
   | exact spec_Filter.mono _ _
   | exact spec_Frame.mono _ _
   | exact spec_PutNum.mono _ _ _
   | exact spec_PutText.mono _ _ _
   | exact spec_l4Rising.mono _ _
   | exact spec_l5Block.mono _ _
   | exact LeO.none _
   | refine LeO.ite ?_ ?_
   | refine LeO.bind ?_ (fun _ => ?_)
  ·intro y0 y1 y2 y3 y4 y5
   unfold spec_PutTable.l1
   repeat' first
   | (with_reducible exact ih0 _ _ _)
   | (with_reducible exact ih1 _ _ _ _ _ _)
   | (with_reducible exact ih2 _ _ _ _ _ _)
   | (with_reducible exact spec_Filter.mono _ _)
   | (with_reducible exact spec_Frame.mono _ _)
   | (with_reducible exact spec_PutNum.mono _ _ _)
   | (with_reducible exact spec_PutText.mono _ _ _)
   | (with_reducible exact spec_l4Rising.mono _ _)
   | (with_reducible exact spec_l5Block.mono _ _)
   | (with_reducible exact LeO.refl _)
   | (with_reducible exact LeO.none _)
   | (with_reducible refine LeO.ite ?_ ?_)
   | (with_reducible refine LeO.bind ?_ (fun _ => ?_))
   | exact ih0 _ _ _
   | exact ih1 _ _ _ _ _ _
   | exact ih2 _ _ _ _ _ _
   | exact spec_Filter.mono _ _
   | exact spec_Frame.mono _ _
   | exact spec_PutNum.mono _ _ _
   | exact spec_PutText.mono _ _ _
   | exact spec_l4Rising.mono _ _
   | exact spec_l5Block.mono _ _
   | exact LeO.none _
   | refine LeO.ite ?_ ?_
   | refine LeO.bind ?_ (fun _ => ?_)
theorem spec_PutTable.mono : ∀ a0 k, LeO (spec_PutTable.f k a0) (spec_PutTable.f (k + 1) a0) := by
 intro a0 k
 obtain ⟨ih0, ih1, ih2⟩ := spec_PutTable.mono_l k
 unfold spec_PutTable.f
 repeat' first
   | (with_reducible exact ih0 _ _ _)
   | (with_reducible exact ih1 _ _ _ _ _ _)
   | (with_reducible exact ih2 _ _ _ _ _ _)
   | (with_reducible exact spec_Filter.mono _ _)
   | (with_reducible exact spec_Frame.mono _ _)
   | (with_reducible exact spec_PutNum.mono _ _ _)
   | (with_reducible exact spec_PutText.mono _ _ _)
   | (with_reducible exact spec_l4Rising.mono _ _)
   | (with_reducible exact spec_l5Block.mono _ _)
   | (with_reducible exact LeO.refl _)
   | (with_reducible exact LeO.none _)
   | (with_reducible refine LeO.ite ?_ ?_)
   | (with_reducible refine LeO.bind ?_ (fun _ => ?_))
   | exact ih0 _ _ _
   | exact ih1 _ _ _ _ _ _
   | exact ih2 _ _ _ _ _ _
   | exact spec_Filter.mono _ _
   | exact spec_Frame.mono _ _
   | exact spec_PutNum.mono _ _ _
   | exact spec_PutText.mono _ _ _
   | exact spec_l4Rising.mono _ _
   | exact spec_l5Block.mono _ _
   | exact LeO.none _
   | refine LeO.ite ?_ ?_
   | refine LeO.bind ?_ (fun _ => ?_)
set_option maxHeartbeats 8000000 in
set_option maxRecDepth 100000 in
theorem spec_PutTable.calls (k : Nat) (A0 : Option Addr) (c0 : Nat) (l0 : List (S87)) (r : List Int) (w : World) (hr0 : Kd.C k87 w A0 l0.length l0) (hc0 : l0.length ≤ c0) (h : spec_PutTable.f k l0 = some r) :
  Calls Try.prog 44 #[.slice A0 l0.length c0] w fun e w' => ∃ v0_ : Value, e = .returned (v0_) ∧ Kd.R (Kd.int .u8) 5 w' w.heap.size (fun _ => True) v0_ r ∧ Below w.heap.size w w' := by
 have HR0 := mS hr0
 have HC0 := mS hc0
 clear hr0 hc0
 have HB := mS (Below.refl w.heap.size w)
 have H : ((some (([] : List Int) : List Int)).bind fun y295 => ((spec_l4Rising.f k l0).bind fun t298 => (if t298 = true then ((spec_l1In.f (l0.length : Int) 1 200).bind fun t299 => (spec_PutTable.j0 k l0 y295 (!t299))) else (spec_PutTable.j0 k l0 y295 true)))) = some r := h
 clear h
 obtain ⟨y295, hy295⟩ : ∃ y_ : List Int, y_ = (([] : List Int)) := ⟨_, rfl⟩
 replace H : ((spec_l4Rising.f k l0).bind fun t298 => (if t298 = true then ((spec_l1In.f (l0.length : Int) 1 200).bind fun t299 => (spec_PutTable.j0 k l0 y295 (!t299))) else (spec_PutTable.j0 k l0 y295 true))) = some r := by first | (rw [hy295]; with_reducible exact H) | (have H2_ := (Option.bind_some _ _).symm.trans H; rw [hy295]; with_reducible exact H2_) | (have H2_ := (Option.bind_some _ _).symm.trans H; with_reducible exact H2_) | with_reducible exact H | (rw [hy295]; exact H) | exact H
 have Ny295 := mS hy295
 clear hy295
 have HC2 := mS H
 clear H
 go_enter Try.func44, Try.ntmps44
 go_upto_region 2 with (first | ((with_reducible refine gate_dst (N := 11) rfl ?_); (try (refine gate_guard (by rfl) ?_; dsimp only)); refine Kd.R_lit (Kd.int .u8) _ 5 ?hg (N := 11) ?hd (xs := ([] : List Int)) (inner := []) (ok := fun _ => True) (okp := fun _ => True) ?hr ?hp (fun _ hk => hk) trivial (Below.refl _ _) (Nat.le_refl _) (by simp) ?_; (case hd => rfl); (case hg => rfl); (case hr => first | (go_simp; done) | (go_simp; rfl)); (case hp => exact (Reps.none _ _)); intro v296 w3 ho4 hb hg_ hnew_; clear hg_ hnew_; (first | rw [← Ny295.out] at ho4 | (simp only [Int.reduceToNat] at ho4; rw [← Ny295.out] at ho4)); have HO297 := mS (Kd.R_lower ho4 (below_size (mH HB.out))); replace HB := mS (below_step (mH HB.out) hb); clear hb ho4))
 (try simp only [Act.put, zA, zB, zC])
 go_cut [20] (fun v20 wc => ∃ (kq : Nat) (x20_1 : Bool), v20 = .bool x20_1 ∧ Aside0 (spec_PutTable.j0 kq l0 y295 x20_1 = some r) ∧ Aside0 (kq ≤ k) ∧ Aside0 (Kd.R (Kd.int .u8) 5 wc w.heap.size (fun _ => True) v296 y295) ∧ Aside0 (Below w.heap.size w wc))
 case first =>
  have H := HC2.out
  clear HC2
  replace H := Option.bind_eq_some_iff.mp H
  obtain ⟨t298, A50, H⟩ := H
  replace H : (if t298 = true then ((spec_l1In.f (l0.length : Int) 1 200).bind fun t299 => (spec_PutTable.j0 k l0 y295 (!t299))) else (spec_PutTable.j0 k l0 y295 true)) = some r := H
  have A5 := mS A50
  clear A50
  by_cases c6 : t298 = true
  ·subst c6
   have H1 := H
   rw [if_pos rfl] at H1
   clear H
   have H := H1
   clear H1
   replace H := Option.bind_eq_some_iff.mp H
   obtain ⟨t299, A70, H⟩ := H
   replace H : (spec_PutTable.j0 k l0 y295 (!t299)) = some r := H
   have A7 := mS A70
   clear A70
   have H' := mS H
   clear H
   go_wp2_with (first | ((with_reducible refine gate_callee (f := 73) rfl ?_); refine mGo 13 Try.func73 #[.slice A0 l0.length c0] ?_; (with_reducible refine (spec_l4Rising.calls k _ _ l0 true _ ?side1 ?side2 A5.out).mono ?_); (case side1 => exact mC (Kd.C_below HR0.out HB.out)); (case side2 => exact HC0.out); rintro e w8 ⟨rfl, hb⟩; refine ⟨_, rfl, ?_⟩; replace HO297 := mS (Kd.R_below (mR HO297.out) hb); replace HB := mS (below_step (mH HB.out) hb); (try clear hb)) | (go_at_call 74; (with_reducible refine (spec_l1In.calls (l0.length : Int) 1 200 t299 _ A7.out).mono ?_); rintro e w' ⟨rfl, ⟨nd, rfl⟩⟩))
   go_meet
   case rel => exact ⟨_, (!t299), mE, H', ⟨by first | omega | exact Nat.le_refl _⟩, ⟨mR HO297.out⟩, ⟨(mH HB.out)⟩⟩
  ·replace c6 := Bool.eq_false_iff.mpr c6
   subst c6
   have H1 := H
   rw [if_neg (show ¬ (false = true) by decide)] at H1
   clear H
   have H := H1
   clear H1
   have H' := mS H
   clear H
   go_wp2_with (first | ((with_reducible refine gate_callee (f := 73) rfl ?_); refine mGo 13 Try.func73 #[.slice A0 l0.length c0] ?_; (with_reducible refine (spec_l4Rising.calls k _ _ l0 false _ ?side1 ?side2 A5.out).mono ?_); (case side1 => exact mC (Kd.C_below HR0.out HB.out)); (case side2 => exact HC0.out); rintro e w9 ⟨rfl, hb⟩; refine ⟨_, rfl, ?_⟩; replace HO297 := mS (Kd.R_below (mR HO297.out) hb); replace HB := mS (below_step (mH HB.out) hb); (try clear hb)))
   go_meet
   case rel => exact ⟨_, (true), mE, H', ⟨by first | omega | exact Nat.le_refl _⟩, ⟨mR HO297.out⟩, ⟨(mH HB.out)⟩⟩
 case rest =>
  clear HC2
  try clear p2
  try clear c4
  try clear c6
  try clear c7
  obtain ⟨kq, x20_1, rfl, HA, HJ1, HO_3, HB⟩ := hcut
  cases kq with
  | zero => exact absurd HA.out (by simp [spec_PutTable.j0])
  | succ kj1 =>
   have H := HA.out
   clear HA
   simp only [spec_PutTable.j0] at H
   by_cases c10 : x20_1 = true
   ·subst c10
    have H1 := H
    rw [if_pos rfl] at H1
    clear H
    have H := H1
    clear H1
    obtain rfl := Option.some.inj H
    go_wp2
    go_ret
    exact ⟨_, mEw, mR HO_3.out, (mH HB.out)⟩
   ·replace c10 := Bool.eq_false_iff.mpr c10
    subst c10
    have H1 := H
    rw [if_neg (show ¬ (false = true) by decide)] at H1
    clear H
    have H := H1
    clear H1
    obtain ⟨y300, hy300⟩ : ∃ y_ : List ByteArray, y_ = (([] : List ByteArray)) := ⟨_, rfl⟩
    replace H : (spec_PutTable.l0 kj1 l0 y295 y300 (([] : List Int)) 0 0) = some r := by first | (rw [hy300]; with_reducible exact H) | (have H2_ := (Option.bind_some _ _).symm.trans H; rw [hy300]; with_reducible exact H2_) | (have H2_ := (Option.bind_some _ _).symm.trans H; with_reducible exact H2_) | with_reducible exact H | (rw [hy300]; exact H) | exact H
    have Ny300 := mS hy300
    clear hy300
    obtain ⟨y303, hy303⟩ : ∃ y_ : List Int, y_ = (([] : List Int)) := ⟨_, rfl⟩
    replace H : (spec_PutTable.l0 kj1 l0 y295 y300 y303 0 0) = some r := by first | (rw [hy303]; with_reducible exact H) | (have H2_ := (Option.bind_some _ _).symm.trans H; rw [hy303]; with_reducible exact H2_) | (have H2_ := (Option.bind_some _ _).symm.trans H; with_reducible exact H2_) | with_reducible exact H | (rw [hy303]; exact H) | exact H
    have Ny303 := mS hy303
    clear hy303
    have H' := mS H
    clear H
    go_wp2_with (first | ((with_reducible refine gate_dst (N := 22) rfl ?_); (try (refine gate_guard (by rfl) ?_; dsimp only)); refine Kd.R_lit Kd.string _ 9 ?hg (N := 22) ?hd (xs := ([] : List ByteArray)) (inner := []) (ok := fun _ => True) (okp := fun _ => True) ?hr ?hp (fun _ hk => hk) trivial (Below.refl _ _) (Nat.le_refl _) (by simp) ?_; (case hd => rfl); (case hg => rfl); (case hr => first | (go_simp; done) | (go_simp; rfl)); (case hp => exact (Reps.none _ _)); intro v301 w11 ho12 hb hg_ hnew_; clear hg_ hnew_; (first | rw [← Ny300.out] at ho12 | (simp only [Int.reduceToNat] at ho12; rw [← Ny300.out] at ho12)); replace HO_3 := mS (Kd.R_below (mR HO_3.out) hb); have HO302 := mS (Kd.R_lower ho12 (below_size (mH HB.out))); replace HB := mS (below_step (mH HB.out) hb); clear hb ho12) | ((with_reducible refine gate_dst (N := 23) rfl ?_); (try (refine gate_guard (by rfl) ?_; dsimp only)); refine Kd.R_lit (Kd.int .u8) _ 5 ?hg (N := 23) ?hd (xs := ([] : List Int)) (inner := []) (ok := fun _ => True) (okp := fun _ => True) ?hr ?hp (fun _ hk => hk) trivial (Below.refl _ _) (Nat.le_refl _) (by simp) ?_; (case hd => rfl); (case hg => rfl); (case hr => first | (go_simp; done) | (go_simp; rfl)); (case hp => exact (Reps.none _ _)); intro v304 w13 ho14 hb hg_ hnew_; clear hg_ hnew_; (first | rw [← Ny303.out] at ho14 | (simp only [Int.reduceToNat] at ho14; rw [← Ny303.out] at ho14)); replace HO302 := mS (Kd.R_below (mR HO302.out) hb); have HO305 := mS (Kd.R_lower (Kd.R_new' ho14 (Kd.R_lt (mR HO_3.out))) (below_size (mH HB.out))); replace HO_3 := mS (Kd.R_elder' (mR HO_3.out) (Kd.R_base ho14) hb); replace HB := mS (below_step (mH HB.out) hb); clear hb ho14))
    go_loopg [3, 5, 6, 7] kj1 (fun kq v3 v5 v6 v7 w' => ∃ (x3_2 : List Int) (x5_2 : List Int) (x6_2 : Int) (x7_2 : Int), v6 = .int .i64 x6_2 ∧ v7 = .int .i64 x7_2 ∧ Aside0 (spec_PutTable.l0 kq l0 x3_2 y300 x5_2 x6_2 x7_2 = some r) ∧ Aside0 (kq ≤ kj1) ∧ Aside0 (Kd.R (Kd.int .u8) 5 w' w.heap.size (fun k_ => some k_ ≠ (v5 : Value).ownBlock) v3 x3_2) ∧ Aside0 (Kd.R Kd.string 9 w' w.heap.size (fun _ => True) v301 y300) ∧ Aside0 (Kd.R (Kd.int .u8) 5 w' w.heap.size (fun k_ => some k_ ≠ (v3 : Value).ownBlock) v5 x5_2) ∧ Aside0 (Below w.heap.size w w'))
    case atStart => exact ⟨(y295), (y303), (0), (0), mE, mE, H', ⟨Nat.le_refl _⟩, ⟨by refine mR ?_; exact Kd.R_mono HO_3.out (fun _ hk => hk.2)⟩, ⟨mR HO302.out⟩, ⟨by refine mR ?_; exact Kd.R_mono HO305.out (fun _ hk => hk.2)⟩, ⟨(mH HB.out)⟩⟩
    case round =>
     clear H'
     try clear c1
     try clear p2
     try clear c4
     try clear c6
     try clear c7
     try clear c10
     try clear p2
     obtain ⟨x3_2, x5_2, x6_2, x7_2, rfl, rfl, HA, HK2, HO_3, HO_4, HO_5, HB⟩ := hrel
     cases gk with
     | zero => exact absurd HA.out (by simp [spec_PutTable.l0])
     | succ k2 =>
      have H := HA.out
      clear HA
      simp only [spec_PutTable.l0] at H
      by_cases c15 : x7_2 < (l0.length : Int)
      ·rw [if_pos c15] at H
       have c15b0 := decide_eq_true c15
       clear c15
       by_cases c16 : (wrap64 (x7_2 + 4)) > (l0.length : Int)
       ·rw [if_pos c16] at H
        have c16b0 : decide ((l0.length : Int) < (wrap64 (x7_2 + 4))) = true := decide_eq_true c16
        clear c16
        obtain ⟨ji17, hji17⟩ : ∃ j_ : Int, (wrap64 ((l0.length : Int) - 1)) = j_ := ⟨_, rfl⟩
        replace H : (if 0 ≤ (ji17) then (if (ji17) < (l0.length : Int) then ((spec_PutText.f k2 x5_2 ((rd_T87 l0 (ji17)).f0)).bind fun t307 => ((spec_PutNum.f k2 t307 (x3_2.length : Int)).bind fun t310 => (if 0 ≤ x7_2 then (if x7_2 ≤ (l0.length : Int) then (if (l0.length : Int) ≤ (l0.length : Int) then ((spec_l5Block.f k2 ((l0.take ((l0.length : Int) : Int).toNat).drop (x7_2 : Int).toNat)).bind fun t317 => (if x3_2.length + t317.length < 140737488355328 then (spec_PutTable.l0 k2 l0 (x3_2 ++ t317) y300 t310 (wrap64 (x6_2 + 1)) (wrap64 (x7_2 + 4))) else (none))) else (none)) else (none)) else (none)))) else (none)) else (none)) = some r := by first | (rw [hji17] at H; exact H) | (simp only [hji17] at H ⊢; exact H)
        have hji17w : (IntKind.i64.wrap ((l0.length : Int) - 1)) = ji17 := (i64_w _).trans hji17
        by_cases c18 : 0 ≤ (ji17)
        ·rw [if_pos c18] at H
         have c18b0 := decide_eq_true c18
         clear c18
         by_cases c19 : (ji17) < (l0.length : Int)
         ·rw [if_pos c19] at H
          have c19b0 := decide_eq_true c19
          clear c19
          replace H := Option.bind_eq_some_iff.mp H
          obtain ⟨t307, A200, H⟩ := H
          replace H : ((spec_PutNum.f k2 t307 (x3_2.length : Int)).bind fun t310 => (if 0 ≤ x7_2 then (if x7_2 ≤ (l0.length : Int) then (if (l0.length : Int) ≤ (l0.length : Int) then ((spec_l5Block.f k2 ((l0.take ((l0.length : Int) : Int).toNat).drop (x7_2 : Int).toNat)).bind fun t317 => (if x3_2.length + t317.length < 140737488355328 then (spec_PutTable.l0 k2 l0 (x3_2 ++ t317) y300 t310 (wrap64 (x6_2 + 1)) (wrap64 (x7_2 + 4))) else (none))) else (none)) else (none)) else (none))) = some r := H
          have A20 := mS A200
          clear A200
          replace H := Option.bind_eq_some_iff.mp H
          obtain ⟨t310, A210, H⟩ := H
          replace H : (if 0 ≤ x7_2 then (if x7_2 ≤ (l0.length : Int) then (if (l0.length : Int) ≤ (l0.length : Int) then ((spec_l5Block.f k2 ((l0.take ((l0.length : Int) : Int).toNat).drop (x7_2 : Int).toNat)).bind fun t317 => (if x3_2.length + t317.length < 140737488355328 then (spec_PutTable.l0 k2 l0 (x3_2 ++ t317) y300 t310 (wrap64 (x6_2 + 1)) (wrap64 (x7_2 + 4))) else (none))) else (none)) else (none)) else (none)) = some r := H
          have A21 := mS A210
          clear A210
          by_cases c22 : 0 ≤ x7_2
          ·rw [if_pos c22] at H
           have c22b0 := eq_true c22
           have c22b1 := decide_eq_true c22
           clear c22
           by_cases c23 : x7_2 ≤ (l0.length : Int)
           ·rw [if_pos c23] at H
            have c23b0 := eq_true c23
            have c23b1 := decide_eq_true c23
            clear c23
            by_cases c24 : (l0.length : Int) ≤ (l0.length : Int)
            ·rw [if_pos c24] at H
             have c24b0 := eq_true c24
             have c24b1 := decide_eq_true c24
             clear c24
             obtain ⟨y313, hy313⟩ : ∃ y_ : List (S87), y_ = ((l0.take ((l0.length : Int) : Int).toNat).drop (x7_2 : Int).toNat) := ⟨_, rfl⟩
             replace H : ((spec_l5Block.f k2 y313).bind fun t317 => (if x3_2.length + t317.length < 140737488355328 then (spec_PutTable.l0 k2 l0 (x3_2 ++ t317) y300 t310 (wrap64 (x6_2 + 1)) (wrap64 (x7_2 + 4))) else (none))) = some r := by first | (rw [hy313]; with_reducible exact H) | (have H2_ := (Option.bind_some _ _).symm.trans H; rw [hy313]; with_reducible exact H2_) | (have H2_ := (Option.bind_some _ _).symm.trans H; with_reducible exact H2_) | with_reducible exact H | (rw [hy313]; exact H) | exact H
             have Ny313 := mS hy313
             clear hy313
             replace H := Option.bind_eq_some_iff.mp H
             obtain ⟨t317, A250, H⟩ := H
             replace H : (if x3_2.length + t317.length < 140737488355328 then (spec_PutTable.l0 k2 l0 (x3_2 ++ t317) y300 t310 (wrap64 (x6_2 + 1)) (wrap64 (x7_2 + 4))) else (none)) = some r := H
             have A25 := mS A250
             clear A250
             by_cases c26 : x3_2.length + t317.length < 140737488355328
             ·rw [if_pos c26] at H
              have LMc26 := mS c26
              clear c26
              obtain ⟨y320, hy320⟩ : ∃ y_ : List Int, y_ = (x3_2 ++ t317) := ⟨_, rfl⟩
              replace H : (spec_PutTable.l0 k2 l0 y320 y300 t310 (wrap64 (x6_2 + 1)) (wrap64 (x7_2 + 4))) = some r := by first | (rw [hy320]; with_reducible exact H) | (have H2_ := (Option.bind_some _ _).symm.trans H; rw [hy320]; with_reducible exact H2_) | (have H2_ := (Option.bind_some _ _).symm.trans H; with_reducible exact H2_) | with_reducible exact H | (rw [hy320]; exact H) | exact H
              have Ny320 := mS hy320
              clear hy320
              have H' := mS H
              clear H
              have p306 : 0 ≤ ((ji17) : Int) := mD
              have q306 : (ji17) < (l0.length : Int) := mD
              obtain ⟨ad306, e306, hx306_0, hx306_1, hx306_2⟩ := at_T87 HR0.out (ji17) p306 q306
              cases e306
              replace hx306_0 := mX HB.out hx306_0
              replace hx306_1 := mX HB.out hx306_1
              replace hx306_2 := mX HB.out hx306_2
              replace p306 := eq_true p306
              replace q306 := eq_true q306
              obtain ⟨Ao27, co27, eo27⟩ := Kd.R_slice HO_5.out
              subst eo27
              go_wp2_with (first | ((with_reducible refine gate_callee (f := 76) rfl ?_); refine goesL_ (some 45) rfl rfl Try.func76 (by kernel_rfl) rfl #[.slice Ao27 x5_2.length co27, .string ((rd_T87 l0 (ji17)).f0)] rfl (by (try simp only [List.map_toArray, List.map_cons, List.map_nil]); first | done | (simp only [hji17]; rfl) | rfl | (simp only [List.length_drop, List.length_take]; rfl)) ?_; (with_reducible refine (spec_PutText.calls k2 _ _ x5_2 ((rd_T87 l0 (ji17)).f0) t307 _ ?side1 ?side2 A20.out).mono ?_); (case side1 => exact mC (Kd.R_reads' HO_5.out).2.2); (case side2 => exact (Kd.R_reads' HO_5.out).2.1); rintro e w28 ⟨v308, rfl, ho0, hb⟩; refine ⟨_, rfl, ?_⟩; replace HO_4 := mS (Kd.R_below (mR HO_4.out) hb); have HO309 := mS (Kd.R_lower (Kd.R_new' (Kd.R_new' ho0 (Kd.R_lt (mR HO_3.out))) (Kd.R_lt (mR HO_5.out))) (below_size (mH HB.out))); replace HO_3 := mS (Kd.R_elder' (mR HO_3.out) (Kd.R_base ho0) hb); replace HO_5 := mS (Kd.R_elder' (mR HO_5.out) (Kd.R_base ho0) hb); replace HB := mS (below_step (mH HB.out) hb); (try clear hb); (try clear ho0); obtain ⟨Ao29, co29, eo29⟩ := Kd.R_slice HO_3.out; subst eo29; obtain ⟨Ao30, co30, eo30⟩ := Kd.R_slice HO309.out; subst eo30) | ((with_reducible refine gate_callee (f := 75) rfl ?_); refine mGo 48 Try.func75 #[.slice Ao30 t307.length co30, .int .i64 (x3_2.length : Int)] ?_; (with_reducible refine (spec_PutNum.calls k2 _ _ t307 (x3_2.length : Int) t310 _ ?side1 ?side2 A21.out).mono ?_); (case side1 => exact mC (Kd.R_reads' HO309.out).2.2); (case side2 => exact (Kd.R_reads' HO309.out).2.1); rintro e w31 ⟨v311, rfl, ho0, hb⟩; refine ⟨_, rfl, ?_⟩; replace HO_4 := mS (Kd.R_below (mR HO_4.out) hb); have HO312 := mS (Kd.R_lower (Kd.R_new' (Kd.R_new' (Kd.R_new' ho0 (Kd.R_lt (mR HO_3.out))) (Kd.R_lt (mR HO_5.out))) (Kd.R_lt (mR HO309.out))) (below_size (mH HB.out))); replace HO_3 := mS (Kd.R_elder' (mR HO_3.out) (Kd.R_base ho0) hb); replace HO_5 := mS (Kd.R_elder' (mR HO_5.out) (Kd.R_base ho0) hb); replace HO309 := mS (Kd.R_elder' (mR HO309.out) (Kd.R_base ho0) hb); replace HB := mS (below_step (mH HB.out) hb); (try clear hb); (try clear ho0); have q32 : ((l0.length : Int) : Int) ≤ ((l0.length : Int) : Int) := mD; obtain ⟨i032, hi032, _, hsz32, _⟩ := info_parts info87; have hroom32 : l0.length ≤ c0 := HC0.out; have hC32 : Kd.C k87 _ (some ad306) l0.length l0 := HR0.out; have ql32 : (x7_2 : Int) ≤ ((l0.length : Int) : Int) := mD; have q032 : (0 : Int) ≤ (x7_2 : Int) := mD; have hcut32 := cut_mid (P := Try.prog) 35 87 .i64 .i64 Try.underlying35 hi032 3 hsz32 (some ad306) l0.length c0 x7_2 (l0.length : Int) q032 ql32 q32 hroom32; have hr32 := Kd.C_mid (lo := (x7_2 : Int).toNat) (hi := ((l0.length : Int) : Int).toNat) (c := c0) hC32 (by omega) (by omega) hroom32; obtain ⟨A32, hA32⟩ : ∃ A1, A1 = (if c0 = (x7_2 : Int).toNat then (some ad306) else ((some ad306) : Option Addr).map (·.add ((x7_2 : Int).toNat * 3))) := ⟨_, rfl⟩; obtain ⟨c32, hc32⟩ : ∃ c1, c1 = c0 - (x7_2 : Int).toNat := ⟨_, rfl⟩; have hy32 : y313.length = ((l0.length : Int) : Int).toNat - (x7_2 : Int).toNat := (by rw [Ny313.out, List.length_drop, List.length_take] <;> omega); rw [show ((l0).take ((l0.length : Int) : Int).toNat).drop (x7_2 : Int).toNat = y313 from Ny313.out.symm] at hr32; replace hr32 : Kd.C k87 _ A32 y313.length y313 := (by rw [hA32]; exact hr32); rw [← hy32, ← hA32, ← hc32] at hcut32; have HR316 := mS hr32; have HC316 := mS (show y313.length ≤ c32 from by rw [hy32, hc32]; exact Nat.sub_le_sub_right (Nat.le_trans (by omega) hroom32) _); clear hr32 hC32 hroom32 hi032 hsz32 hc32; have KY32 := mS hy32; have KA32 := mS hA32; clear hy32 hA32; replace q32 := eq_true q32) | ((with_reducible refine gate_callee (f := 77) rfl ?_); refine mGo 54 Try.func77 #[.slice A32 y313.length c32] ?_; (with_reducible refine (spec_l5Block.calls k2 _ _ y313 t317 _ ?side1 ?side2 A25.out).mono ?_); (case side1 => exact mC (Kd.C_below HR316.out HB.out)); (case side2 => exact HC316.out); rintro e w33 ⟨v318, rfl, ho0, hb⟩; refine ⟨_, rfl, ?_⟩; replace HO_4 := mS (Kd.R_below (mR HO_4.out) hb); have HO319 := mS (Kd.R_lower (Kd.R_new' (Kd.R_new' (Kd.R_new' (Kd.R_new' ho0 (Kd.R_lt (mR HO_3.out))) (Kd.R_lt (mR HO_5.out))) (Kd.R_lt (mR HO309.out))) (Kd.R_lt (mR HO312.out))) (below_size (mH HB.out))); replace HO_3 := mS (Kd.R_elder' (mR HO_3.out) (Kd.R_base ho0) hb); replace HO_5 := mS (Kd.R_elder' (mR HO_5.out) (Kd.R_base ho0) hb); replace HO309 := mS (Kd.R_elder' (mR HO309.out) (Kd.R_base ho0) hb); replace HO312 := mS (Kd.R_elder' (mR HO312.out) (Kd.R_base ho0) hb); replace HB := mS (below_step (mH HB.out) hb); (try clear hb); (try clear ho0); obtain ⟨Ao35, co35, eo35⟩ := Kd.R_slice HO319.out; subst eo35) | ((with_reducible refine gate_builtin (b := .append) (xs := #[.tmp 49, .tmp 54]) rfl ?_); (try (refine gate_guard (by rfl) ?_; dsimp only)); at_builtin; refine Kd.R_append_rows (Kd.int .u8) (w0 := w) w.heap.size rfl (.tmp 49) (.tmp 54) 22 5 (.int .u8 0) 1 rfl Try.underlying22 info5 rfl (by decide) (by omega) (.slice Ao29 x3_2.length co29) x3_2 t317 _ _ _ (fun k_ => some k_ ≠ (.slice Ao27 x5_2.length co27 : Value).ownBlock ∧ some k_ ≠ (.slice Ao30 t307.length co30 : Value).ownBlock ∧ some k_ ≠ (v311 : Value).ownBlock ∧ some k_ ≠ (.slice Ao35 t317.length co35 : Value).ownBlock) (fun _ => False) rfl rfl ?aO ?aR (fun _ _ h => h) (fun _ h => h.elim) ?aF ?aB ?aS ?aL ?_; (case aR => exact mC (Kd.R_reads' HO319.out).2.2); (case aB => exact (mH HB.out)); (case aF => exact (fun k_ hk => ⟨Kd.fresh' (Kd.R_lt (mR HO_5.out)) k_ hk, Kd.fresh' (Kd.R_lt (mR HO309.out)) k_ hk, Kd.fresh' (Kd.R_lt (mR HO312.out)) k_ hk, Kd.fresh' (Kd.R_lt (mR HO319.out)) k_ hk⟩)); (case aO => exact (by refine mR ?_; exact Kd.R_mono HO_3.out (fun _ hk => ⟨hk.1.1.1, ⟨hk.1.1.2, ⟨hk.1.2, hk.2⟩⟩⟩))); (case aS => exact (below_size (mH HB.out))); (case aL => have := LMc26.out; omega); intro v321 w34 ho hb hg hat; rw [← Ny320.out] at ho; replace HO_4 := mS (Kd.R_over' (mR HO_4.out) (Kd.R_typed (mR HO_3.out)) (by decide) hg); replace HO_5 := mS (Kd.R_after (ok := (fun k_ => some k_ ≠ (.slice Ao30 t307.length co30 : Value).ownBlock ∧ some k_ ≠ (v311 : Value).ownBlock ∧ some k_ ≠ (.slice Ao35 t317.length co35 : Value).ownBlock)) (by refine mR ?_; exact Kd.R_mono HO_5.out (fun _ hk => ⟨⟨hk.1.1.2, ⟨hk.1.2, hk.2⟩⟩, hk.1.1.1⟩)) hg hat); replace HO309 := mS (Kd.R_after (ok := (fun k_ => some k_ ≠ (.slice Ao27 x5_2.length co27 : Value).ownBlock ∧ some k_ ≠ (v311 : Value).ownBlock ∧ some k_ ≠ (.slice Ao35 t317.length co35 : Value).ownBlock)) (by refine mR ?_; exact Kd.R_mono HO309.out (fun _ hk => ⟨⟨hk.1.1.2, ⟨hk.1.2, hk.2⟩⟩, hk.1.1.1.2⟩)) hg hat); replace HO312 := mS (Kd.R_after (ok := (fun k_ => some k_ ≠ (.slice Ao27 x5_2.length co27 : Value).ownBlock ∧ some k_ ≠ (.slice Ao30 t307.length co30 : Value).ownBlock ∧ some k_ ≠ (.slice Ao35 t317.length co35 : Value).ownBlock)) (by refine mR ?_; exact Kd.R_mono HO312.out (fun _ hk => ⟨⟨hk.1.1.2, ⟨hk.1.2, hk.2⟩⟩, hk.1.1.1.2⟩)) hg hat); replace HO319 := mS (Kd.R_after (ok := (fun k_ => some k_ ≠ (.slice Ao27 x5_2.length co27 : Value).ownBlock ∧ some k_ ≠ (.slice Ao30 t307.length co30 : Value).ownBlock ∧ some k_ ≠ (v311 : Value).ownBlock)) (by refine mR ?_; exact Kd.R_mono HO319.out (fun _ hk => ⟨⟨hk.1.1.2, ⟨hk.1.2, hk.2⟩⟩, hk.1.1.1.2⟩)) hg hat); replace HB := mS (hb); have HO322 := mS (ho); clear HO_3; clear ho hb hg hat))
              go_roundg k2
              case measure => have := HJ1.out; have := HK2.out; omega
              case rel => exact ⟨(y320), (t310), (wrap64 (x6_2 + 1)), (wrap64 (x7_2 + 4)), mE, mE, H', ⟨by have := HJ1.out; have := HK2.out; omega⟩, ⟨by refine mR ?_; exact Kd.R_mono HO322.out (fun _ hk => hk.2.2.1)⟩, ⟨mR HO_4.out⟩, ⟨by refine mR ?_; exact Kd.R_mono HO312.out (fun _ hk => hk.2)⟩, ⟨(mH HB.out)⟩⟩
             ·rw [if_neg c26] at H
              exact absurd H (by simp)
            ·rw [if_neg c24] at H
             exact absurd H (by simp)
           ·rw [if_neg c23] at H
            exact absurd H (by simp)
          ·rw [if_neg c22] at H
           exact absurd H (by simp)
         ·rw [if_neg c19] at H
          exact absurd H (by simp)
        ·rw [if_neg c18] at H
         exact absurd H (by simp)
       ·rw [if_neg c16] at H
        have c16b0 : decide ((l0.length : Int) < (wrap64 (x7_2 + 4))) = false := decide_eq_false c16
        clear c16
        obtain ⟨ji36, hji36⟩ : ∃ j_ : Int, (wrap64 ((wrap64 (x7_2 + 4)) - 1)) = j_ := ⟨_, rfl⟩
        replace H : (if 0 ≤ (ji36) then (if (ji36) < (l0.length : Int) then ((spec_PutText.f k2 x5_2 ((rd_T87 l0 (ji36)).f0)).bind fun t324 => ((spec_PutNum.f k2 t324 (x3_2.length : Int)).bind fun t327 => (if 0 ≤ x7_2 then (if x7_2 ≤ (wrap64 (x7_2 + 4)) then (if (wrap64 (x7_2 + 4)) ≤ (l0.length : Int) then ((spec_l5Block.f k2 ((l0.take ((wrap64 (x7_2 + 4)) : Int).toNat).drop (x7_2 : Int).toNat)).bind fun t334 => (if x3_2.length + t334.length < 140737488355328 then (spec_PutTable.l0 k2 l0 (x3_2 ++ t334) y300 t327 (wrap64 (x6_2 + 1)) (wrap64 (x7_2 + 4))) else (none))) else (none)) else (none)) else (none)))) else (none)) else (none)) = some r := by first | (rw [hji36] at H; exact H) | (simp only [hji36] at H ⊢; exact H)
        have hji36w : (IntKind.i64.wrap ((wrap64 (x7_2 + 4)) - 1)) = ji36 := (i64_w _).trans hji36
        by_cases c37 : 0 ≤ (ji36)
        ·rw [if_pos c37] at H
         have c37b0 := decide_eq_true c37
         clear c37
         by_cases c38 : (ji36) < (l0.length : Int)
         ·rw [if_pos c38] at H
          have c38b0 := decide_eq_true c38
          clear c38
          replace H := Option.bind_eq_some_iff.mp H
          obtain ⟨t324, A390, H⟩ := H
          replace H : ((spec_PutNum.f k2 t324 (x3_2.length : Int)).bind fun t327 => (if 0 ≤ x7_2 then (if x7_2 ≤ (wrap64 (x7_2 + 4)) then (if (wrap64 (x7_2 + 4)) ≤ (l0.length : Int) then ((spec_l5Block.f k2 ((l0.take ((wrap64 (x7_2 + 4)) : Int).toNat).drop (x7_2 : Int).toNat)).bind fun t334 => (if x3_2.length + t334.length < 140737488355328 then (spec_PutTable.l0 k2 l0 (x3_2 ++ t334) y300 t327 (wrap64 (x6_2 + 1)) (wrap64 (x7_2 + 4))) else (none))) else (none)) else (none)) else (none))) = some r := H
          have A39 := mS A390
          clear A390
          replace H := Option.bind_eq_some_iff.mp H
          obtain ⟨t327, A400, H⟩ := H
          replace H : (if 0 ≤ x7_2 then (if x7_2 ≤ (wrap64 (x7_2 + 4)) then (if (wrap64 (x7_2 + 4)) ≤ (l0.length : Int) then ((spec_l5Block.f k2 ((l0.take ((wrap64 (x7_2 + 4)) : Int).toNat).drop (x7_2 : Int).toNat)).bind fun t334 => (if x3_2.length + t334.length < 140737488355328 then (spec_PutTable.l0 k2 l0 (x3_2 ++ t334) y300 t327 (wrap64 (x6_2 + 1)) (wrap64 (x7_2 + 4))) else (none))) else (none)) else (none)) else (none)) = some r := H
          have A40 := mS A400
          clear A400
          by_cases c41 : 0 ≤ x7_2
          ·rw [if_pos c41] at H
           have c41b0 := eq_true c41
           have c41b1 := decide_eq_true c41
           clear c41
           by_cases c42 : x7_2 ≤ (wrap64 (x7_2 + 4))
           ·rw [if_pos c42] at H
            have c42b0 := eq_true c42
            have c42b1 := decide_eq_true c42
            by_cases c43 : (wrap64 (x7_2 + 4)) ≤ (l0.length : Int)
            ·rw [if_pos c43] at H
             have c43b0 := eq_true c43
             have c43b1 := decide_eq_true c43
             obtain ⟨y330, hy330⟩ : ∃ y_ : List (S87), y_ = ((l0.take ((wrap64 (x7_2 + 4)) : Int).toNat).drop (x7_2 : Int).toNat) := ⟨_, rfl⟩
             replace H : ((spec_l5Block.f k2 y330).bind fun t334 => (if x3_2.length + t334.length < 140737488355328 then (spec_PutTable.l0 k2 l0 (x3_2 ++ t334) y300 t327 (wrap64 (x6_2 + 1)) (wrap64 (x7_2 + 4))) else (none))) = some r := by first | (rw [hy330]; with_reducible exact H) | (have H2_ := (Option.bind_some _ _).symm.trans H; rw [hy330]; with_reducible exact H2_) | (have H2_ := (Option.bind_some _ _).symm.trans H; with_reducible exact H2_) | with_reducible exact H | (rw [hy330]; exact H) | exact H
             have Ny330 := mS hy330
             clear hy330
             replace H := Option.bind_eq_some_iff.mp H
             obtain ⟨t334, A440, H⟩ := H
             replace H : (if x3_2.length + t334.length < 140737488355328 then (spec_PutTable.l0 k2 l0 (x3_2 ++ t334) y300 t327 (wrap64 (x6_2 + 1)) (wrap64 (x7_2 + 4))) else (none)) = some r := H
             have A44 := mS A440
             clear A440
             by_cases c45 : x3_2.length + t334.length < 140737488355328
             ·rw [if_pos c45] at H
              have LMc45 := mS c45
              clear c45
              obtain ⟨y337, hy337⟩ : ∃ y_ : List Int, y_ = (x3_2 ++ t334) := ⟨_, rfl⟩
              replace H : (spec_PutTable.l0 k2 l0 y337 y300 t327 (wrap64 (x6_2 + 1)) (wrap64 (x7_2 + 4))) = some r := by first | (rw [hy337]; with_reducible exact H) | (have H2_ := (Option.bind_some _ _).symm.trans H; rw [hy337]; with_reducible exact H2_) | (have H2_ := (Option.bind_some _ _).symm.trans H; with_reducible exact H2_) | with_reducible exact H | (rw [hy337]; exact H) | exact H
              have Ny337 := mS hy337
              clear hy337
              have H' := mS H
              clear H
              have p323 : 0 ≤ ((ji36) : Int) := mD
              have q323 : (ji36) < (l0.length : Int) := mD
              obtain ⟨ad323, e323, hx323_0, hx323_1, hx323_2⟩ := at_T87 HR0.out (ji36) p323 q323
              cases e323
              replace hx323_0 := mX HB.out hx323_0
              replace hx323_1 := mX HB.out hx323_1
              replace hx323_2 := mX HB.out hx323_2
              replace p323 := eq_true p323
              replace q323 := eq_true q323
              obtain ⟨Ao46, co46, eo46⟩ := Kd.R_slice HO_5.out
              subst eo46
              go_wp2_with (first | ((with_reducible refine gate_callee (f := 76) rfl ?_); refine goesL_ (some 45) rfl rfl Try.func76 (by kernel_rfl) rfl #[.slice Ao46 x5_2.length co46, .string ((rd_T87 l0 (ji36)).f0)] rfl (by (try simp only [List.map_toArray, List.map_cons, List.map_nil]); first | done | (simp only [hji36]; rfl) | rfl | (simp only [List.length_drop, List.length_take]; rfl)) ?_; (with_reducible refine (spec_PutText.calls k2 _ _ x5_2 ((rd_T87 l0 (ji36)).f0) t324 _ ?side1 ?side2 A39.out).mono ?_); (case side1 => exact mC (Kd.R_reads' HO_5.out).2.2); (case side2 => exact (Kd.R_reads' HO_5.out).2.1); rintro e w47 ⟨v325, rfl, ho0, hb⟩; refine ⟨_, rfl, ?_⟩; replace HO_4 := mS (Kd.R_below (mR HO_4.out) hb); have HO326 := mS (Kd.R_lower (Kd.R_new' (Kd.R_new' ho0 (Kd.R_lt (mR HO_3.out))) (Kd.R_lt (mR HO_5.out))) (below_size (mH HB.out))); replace HO_3 := mS (Kd.R_elder' (mR HO_3.out) (Kd.R_base ho0) hb); replace HO_5 := mS (Kd.R_elder' (mR HO_5.out) (Kd.R_base ho0) hb); replace HB := mS (below_step (mH HB.out) hb); (try clear hb); (try clear ho0); obtain ⟨Ao48, co48, eo48⟩ := Kd.R_slice HO_3.out; subst eo48; obtain ⟨Ao49, co49, eo49⟩ := Kd.R_slice HO326.out; subst eo49) | ((with_reducible refine gate_callee (f := 75) rfl ?_); refine mGo 48 Try.func75 #[.slice Ao49 t324.length co49, .int .i64 (x3_2.length : Int)] ?_; (with_reducible refine (spec_PutNum.calls k2 _ _ t324 (x3_2.length : Int) t327 _ ?side1 ?side2 A40.out).mono ?_); (case side1 => exact mC (Kd.R_reads' HO326.out).2.2); (case side2 => exact (Kd.R_reads' HO326.out).2.1); rintro e w50 ⟨v328, rfl, ho0, hb⟩; refine ⟨_, rfl, ?_⟩; replace HO_4 := mS (Kd.R_below (mR HO_4.out) hb); have HO329 := mS (Kd.R_lower (Kd.R_new' (Kd.R_new' (Kd.R_new' ho0 (Kd.R_lt (mR HO_3.out))) (Kd.R_lt (mR HO_5.out))) (Kd.R_lt (mR HO326.out))) (below_size (mH HB.out))); replace HO_3 := mS (Kd.R_elder' (mR HO_3.out) (Kd.R_base ho0) hb); replace HO_5 := mS (Kd.R_elder' (mR HO_5.out) (Kd.R_base ho0) hb); replace HO326 := mS (Kd.R_elder' (mR HO326.out) (Kd.R_base ho0) hb); replace HB := mS (below_step (mH HB.out) hb); (try clear hb); (try clear ho0); have q51 : ((wrap64 (x7_2 + 4)) : Int) ≤ ((l0.length : Int) : Int) := mD; obtain ⟨i051, hi051, _, hsz51, _⟩ := info_parts info87; have hroom51 : l0.length ≤ c0 := HC0.out; have hC51 : Kd.C k87 _ (some ad323) l0.length l0 := HR0.out; have ql51 : (x7_2 : Int) ≤ ((wrap64 (x7_2 + 4)) : Int) := mD; have q051 : (0 : Int) ≤ (x7_2 : Int) := mD; have hcut51 := cut_mid (P := Try.prog) 35 87 .i64 .i64 Try.underlying35 hi051 3 hsz51 (some ad323) l0.length c0 x7_2 (wrap64 (x7_2 + 4)) q051 ql51 q51 hroom51; have hr51 := Kd.C_mid (lo := (x7_2 : Int).toNat) (hi := ((wrap64 (x7_2 + 4)) : Int).toNat) (c := c0) hC51 (by omega) (by omega) hroom51; obtain ⟨A51, hA51⟩ : ∃ A1, A1 = (if c0 = (x7_2 : Int).toNat then (some ad323) else ((some ad323) : Option Addr).map (·.add ((x7_2 : Int).toNat * 3))) := ⟨_, rfl⟩; obtain ⟨c51, hc51⟩ : ∃ c1, c1 = c0 - (x7_2 : Int).toNat := ⟨_, rfl⟩; have hy51 : y330.length = ((wrap64 (x7_2 + 4)) : Int).toNat - (x7_2 : Int).toNat := (by rw [Ny330.out, List.length_drop, List.length_take] <;> omega); rw [show ((l0).take ((wrap64 (x7_2 + 4)) : Int).toNat).drop (x7_2 : Int).toNat = y330 from Ny330.out.symm] at hr51; replace hr51 : Kd.C k87 _ A51 y330.length y330 := (by rw [hA51]; exact hr51); rw [← hy51, ← hA51, ← hc51] at hcut51; have HR333 := mS hr51; have HC333 := mS (show y330.length ≤ c51 from by rw [hy51, hc51]; exact Nat.sub_le_sub_right (Nat.le_trans (by omega) hroom51) _); clear hr51 hC51 hroom51 hi051 hsz51 hc51; have KY51 := mS hy51; have KA51 := mS hA51; clear hy51 hA51; replace q51 := eq_true q51) | ((with_reducible refine gate_callee (f := 77) rfl ?_); refine mGo 54 Try.func77 #[.slice A51 y330.length c51] ?_; (with_reducible refine (spec_l5Block.calls k2 _ _ y330 t334 _ ?side1 ?side2 A44.out).mono ?_); (case side1 => exact mC (Kd.C_below HR333.out HB.out)); (case side2 => exact HC333.out); rintro e w52 ⟨v335, rfl, ho0, hb⟩; refine ⟨_, rfl, ?_⟩; replace HO_4 := mS (Kd.R_below (mR HO_4.out) hb); have HO336 := mS (Kd.R_lower (Kd.R_new' (Kd.R_new' (Kd.R_new' (Kd.R_new' ho0 (Kd.R_lt (mR HO_3.out))) (Kd.R_lt (mR HO_5.out))) (Kd.R_lt (mR HO326.out))) (Kd.R_lt (mR HO329.out))) (below_size (mH HB.out))); replace HO_3 := mS (Kd.R_elder' (mR HO_3.out) (Kd.R_base ho0) hb); replace HO_5 := mS (Kd.R_elder' (mR HO_5.out) (Kd.R_base ho0) hb); replace HO326 := mS (Kd.R_elder' (mR HO326.out) (Kd.R_base ho0) hb); replace HO329 := mS (Kd.R_elder' (mR HO329.out) (Kd.R_base ho0) hb); replace HB := mS (below_step (mH HB.out) hb); (try clear hb); (try clear ho0); obtain ⟨Ao54, co54, eo54⟩ := Kd.R_slice HO336.out; subst eo54) | ((with_reducible refine gate_builtin (b := .append) (xs := #[.tmp 49, .tmp 54]) rfl ?_); (try (refine gate_guard (by rfl) ?_; dsimp only)); at_builtin; refine Kd.R_append_rows (Kd.int .u8) (w0 := w) w.heap.size rfl (.tmp 49) (.tmp 54) 22 5 (.int .u8 0) 1 rfl Try.underlying22 info5 rfl (by decide) (by omega) (.slice Ao48 x3_2.length co48) x3_2 t334 _ _ _ (fun k_ => some k_ ≠ (.slice Ao46 x5_2.length co46 : Value).ownBlock ∧ some k_ ≠ (.slice Ao49 t324.length co49 : Value).ownBlock ∧ some k_ ≠ (v328 : Value).ownBlock ∧ some k_ ≠ (.slice Ao54 t334.length co54 : Value).ownBlock) (fun _ => False) rfl rfl ?aO ?aR (fun _ _ h => h) (fun _ h => h.elim) ?aF ?aB ?aS ?aL ?_; (case aR => exact mC (Kd.R_reads' HO336.out).2.2); (case aB => exact (mH HB.out)); (case aF => exact (fun k_ hk => ⟨Kd.fresh' (Kd.R_lt (mR HO_5.out)) k_ hk, Kd.fresh' (Kd.R_lt (mR HO326.out)) k_ hk, Kd.fresh' (Kd.R_lt (mR HO329.out)) k_ hk, Kd.fresh' (Kd.R_lt (mR HO336.out)) k_ hk⟩)); (case aO => exact (by refine mR ?_; exact Kd.R_mono HO_3.out (fun _ hk => ⟨hk.1.1.1, ⟨hk.1.1.2, ⟨hk.1.2, hk.2⟩⟩⟩))); (case aS => exact (below_size (mH HB.out))); (case aL => have := LMc45.out; omega); intro v338 w53 ho hb hg hat; rw [← Ny337.out] at ho; replace HO_4 := mS (Kd.R_over' (mR HO_4.out) (Kd.R_typed (mR HO_3.out)) (by decide) hg); replace HO_5 := mS (Kd.R_after (ok := (fun k_ => some k_ ≠ (.slice Ao49 t324.length co49 : Value).ownBlock ∧ some k_ ≠ (v328 : Value).ownBlock ∧ some k_ ≠ (.slice Ao54 t334.length co54 : Value).ownBlock)) (by refine mR ?_; exact Kd.R_mono HO_5.out (fun _ hk => ⟨⟨hk.1.1.2, ⟨hk.1.2, hk.2⟩⟩, hk.1.1.1⟩)) hg hat); replace HO326 := mS (Kd.R_after (ok := (fun k_ => some k_ ≠ (.slice Ao46 x5_2.length co46 : Value).ownBlock ∧ some k_ ≠ (v328 : Value).ownBlock ∧ some k_ ≠ (.slice Ao54 t334.length co54 : Value).ownBlock)) (by refine mR ?_; exact Kd.R_mono HO326.out (fun _ hk => ⟨⟨hk.1.1.2, ⟨hk.1.2, hk.2⟩⟩, hk.1.1.1.2⟩)) hg hat); replace HO329 := mS (Kd.R_after (ok := (fun k_ => some k_ ≠ (.slice Ao46 x5_2.length co46 : Value).ownBlock ∧ some k_ ≠ (.slice Ao49 t324.length co49 : Value).ownBlock ∧ some k_ ≠ (.slice Ao54 t334.length co54 : Value).ownBlock)) (by refine mR ?_; exact Kd.R_mono HO329.out (fun _ hk => ⟨⟨hk.1.1.2, ⟨hk.1.2, hk.2⟩⟩, hk.1.1.1.2⟩)) hg hat); replace HO336 := mS (Kd.R_after (ok := (fun k_ => some k_ ≠ (.slice Ao46 x5_2.length co46 : Value).ownBlock ∧ some k_ ≠ (.slice Ao49 t324.length co49 : Value).ownBlock ∧ some k_ ≠ (v328 : Value).ownBlock)) (by refine mR ?_; exact Kd.R_mono HO336.out (fun _ hk => ⟨⟨hk.1.1.2, ⟨hk.1.2, hk.2⟩⟩, hk.1.1.1.2⟩)) hg hat); replace HB := mS (hb); have HO339 := mS (ho); clear HO_3; clear ho hb hg hat))
              go_roundg k2
              case measure => have := HJ1.out; have := HK2.out; omega
              case rel => exact ⟨(y337), (t327), (wrap64 (x6_2 + 1)), (wrap64 (x7_2 + 4)), mE, mE, H', ⟨by have := HJ1.out; have := HK2.out; omega⟩, ⟨by refine mR ?_; exact Kd.R_mono HO339.out (fun _ hk => hk.2.2.1)⟩, ⟨mR HO_4.out⟩, ⟨by refine mR ?_; exact Kd.R_mono HO329.out (fun _ hk => hk.2)⟩, ⟨(mH HB.out)⟩⟩
             ·rw [if_neg c45] at H
              exact absurd H (by simp)
            ·rw [if_neg c43] at H
             exact absurd H (by simp)
           ·rw [if_neg c42] at H
            exact absurd H (by simp)
          ·rw [if_neg c41] at H
           exact absurd H (by simp)
         ·rw [if_neg c38] at H
          exact absurd H (by simp)
        ·rw [if_neg c37] at H
         exact absurd H (by simp)
      ·rw [if_neg c15] at H
       have c15b0 := decide_eq_false c15
       clear c15
       have H' := mS H
       clear H
       go_wp2
       go_loopg [4, 9] k2 (fun kq v4 v9 w' => ∃ (x4_3 : List ByteArray) (x9_3 : Int), v9 = .int .i64 x9_3 ∧ Aside0 (spec_PutTable.l1 kq l0 x3_2 x4_3 x5_2 x6_2 x9_3 = some r) ∧ Aside0 (kq ≤ k2) ∧ Aside0 (Kd.R (Kd.int .u8) 5 w' w.heap.size (fun k_ => some k_ ≠ (u5 : Value).ownBlock) u3 x3_2) ∧ Aside0 (Kd.R Kd.string 9 w' w.heap.size (fun _ => True) v4 x4_3) ∧ Aside0 (Kd.R (Kd.int .u8) 5 w' w.heap.size (fun k_ => some k_ ≠ (u3 : Value).ownBlock) u5 x5_2) ∧ Aside0 (Below w.heap.size w w'))
       case atStart => exact ⟨(y300), (0), mE, H', ⟨Nat.le_refl _⟩, ⟨mR HO_3.out⟩, ⟨mR HO_4.out⟩, ⟨mR HO_5.out⟩, ⟨(mH HB.out)⟩⟩
       case round =>
        clear H'
        try clear c1
        try clear c2
        try clear p2
        try clear c3
        try clear p3
        try clear q3
        try clear hx3
        try clear c4
        try clear c5
        try clear q5
        try clear c6
        try clear p6
        try clear c7
        try clear c10
        try clear c15
        try clear c15b0
        try clear c16
        try clear c16b0
        try clear c18
        try clear c18b0
        try clear c19
        try clear c19b0
        try clear c22
        try clear c22b0
        try clear c22b1
        try clear c23
        try clear c23b0
        try clear c23b1
        try clear c24
        try clear c24b0
        try clear c24b1
        try clear c26
        try clear p30
        try clear q30
        try clear hx30
        try clear c32
        try clear p32
        try clear q32
        try clear hx32
        try clear c37
        try clear c37b0
        try clear c38
        try clear c38b0
        try clear c41
        try clear c41b0
        try clear c41b1
        try clear c42
        try clear c42b0
        try clear c42b1
        try clear c43
        try clear c43b0
        try clear c43b1
        try clear c44
        try clear c45
        try clear c51
        try clear q51
        try clear hx306_0
        try clear hx306_1
        try clear hx306_2
        try clear hx323_0
        try clear hx323_1
        try clear hx323_2
        try clear p2
        try clear p306
        try clear p323
        try clear q032
        try clear q051
        try clear q306
        try clear q32
        try clear q323
        try clear q51
        obtain ⟨x4_3, x9_3, rfl, HA, HK3, HO_3, HO_4, HO_5, HB⟩ := hrel
        cases gk with
        | zero => exact absurd HA.out (by simp [spec_PutTable.l1])
        | succ k3 =>
         have H := HA.out
         clear HA
         simp only [spec_PutTable.l1] at H
         by_cases c55 : x9_3 < (l0.length : Int)
         ·rw [if_pos c55] at H
          have c55b0 := decide_eq_true c55
          clear c55
          by_cases c56 : 0 ≤ x9_3
          ·rw [if_pos c56] at H
           have c56b0 := decide_eq_true c56
           clear c56
           by_cases c57 : x4_3.length < 8796093022208
           ·rw [if_pos c57] at H
            have LMc57 := mS c57
            clear c57
            obtain ⟨y341, hy341⟩ : ∃ y_ : List ByteArray, y_ = (x4_3 ++ [(rd_T87 l0 x9_3).f0]) := ⟨_, rfl⟩
            replace H : (spec_PutTable.l1 k3 l0 x3_2 y341 x5_2 x6_2 (wrap64 (x9_3 + 1))) = some r := by first | (rw [hy341]; with_reducible exact H) | (have H2_ := (Option.bind_some _ _).symm.trans H; rw [hy341]; with_reducible exact H2_) | (have H2_ := (Option.bind_some _ _).symm.trans H; with_reducible exact H2_) | with_reducible exact H | (rw [hy341]; exact H) | exact H
            have Ny341 := mS hy341
            clear hy341
            have H' := mS H
            clear H
            have p340 : 0 ≤ (x9_3 : Int) := mD
            have q340 : x9_3 < (l0.length : Int) := mD
            obtain ⟨ad340, e340, hx340_0, hx340_1, hx340_2⟩ := at_T87 HR0.out x9_3 p340 q340
            cases e340
            replace hx340_0 := mX HB.out hx340_0
            replace hx340_1 := mX HB.out hx340_1
            replace hx340_2 := mX HB.out hx340_2
            replace p340 := eq_true p340
            replace q340 := eq_true q340
            go_wp2_with (first | ((with_reducible refine gate_builtin (b := .append) (xs := #[.tmp 64, .tmp 70]) rfl ?_); (try (refine gate_guard (by rfl) ?_; dsimp only)); at_builtin; refine Kd.R_append Kd.string (w0 := w) w.heap.size rfl (.tmp 64) (.tmp 70) 74 9 (.string ⟨#[]⟩) 16 rfl Try.underlying74 info9 rfl (by decide) (by omega) u4 x4_3 ((rd_T87 l0 x9_3).f0) [.string ((rd_T87 l0 x9_3).f0)] (fun _ => True) (fun _ => False) rfl rfl ?aP (fun _ hk => hk.elim) ?aF ?aO ?aB ?aS ?aL ?_; (case aP => exact rfl); (case aB => exact (mH HB.out)); (case aF => exact (fun _ _ => trivial)); (case aO => exact (mR HO_4.out)); (case aS => exact (below_size (mH HB.out))); (case aL => have := LMc57.out; omega); intro v342 w58 ho hb hg hat; rw [← Ny341.out] at ho; replace HO_3 := mS (Kd.R_over' (mR HO_3.out) (Kd.R_typed (mR HO_4.out)) (by decide) hg); replace HO_5 := mS (Kd.R_over' (mR HO_5.out) (Kd.R_typed (mR HO_4.out)) (by decide) hg); replace HB := mS (hb); have HO343 := mS (ho); clear HO_4; clear ho hb hg hat))
            go_roundg k3
            case measure => have := HJ1.out; have := HK2.out; have := HK3.out; omega
            case rel => exact ⟨(y341), (wrap64 (x9_3 + 1)), mE, H', ⟨by have := HJ1.out; have := HK2.out; have := HK3.out; omega⟩, ⟨mR HO_3.out⟩, ⟨mR HO343.out⟩, ⟨mR HO_5.out⟩, ⟨(mH HB.out)⟩⟩
           ·rw [if_neg c57] at H
            exact absurd H (by simp)
          ·rw [if_neg c56] at H
           exact absurd H (by simp)
         ·rw [if_neg c55] at H
          have c55b0 := decide_eq_false c55
          clear c55
          obtain ⟨y344, hy344⟩ : ∃ y_ : List Int, y_ = (([] : List Int)) := ⟨_, rfl⟩
          replace H : ((spec_PutNum.f k3 y344 x6_2).bind fun t347 => (if t347.length + x5_2.length < 140737488355328 then ((some (t347 ++ x5_2 : List Int)).bind fun y350 => ((spec_Filter.f k3 x4_3).bind fun t353 => (if y350.length + t353.length < 140737488355328 then ((spec_Frame.f k3 (y350 ++ t353)).bind fun t359 => (if x3_2.length + t359.length < 140737488355328 then ((some (x3_2 ++ t359 : List Int)).bind fun y362 => ((spec_l1Four.f (x3_2.length : Int)).bind fun t365 => (if y362.length + t365.length < 140737488355328 then (some (y362 ++ t365)) else (none)))) else (none))) else (none)))) else (none))) = some r := by first | (rw [hy344]; with_reducible exact H) | (have H2_ := (Option.bind_some _ _).symm.trans H; rw [hy344]; with_reducible exact H2_) | (have H2_ := (Option.bind_some _ _).symm.trans H; with_reducible exact H2_) | with_reducible exact H | (rw [hy344]; exact H) | exact H
          have Ny344 := mS hy344
          clear hy344
          replace H := Option.bind_eq_some_iff.mp H
          obtain ⟨t347, A590, H⟩ := H
          replace H : (if t347.length + x5_2.length < 140737488355328 then ((some (t347 ++ x5_2 : List Int)).bind fun y350 => ((spec_Filter.f k3 x4_3).bind fun t353 => (if y350.length + t353.length < 140737488355328 then ((spec_Frame.f k3 (y350 ++ t353)).bind fun t359 => (if x3_2.length + t359.length < 140737488355328 then ((some (x3_2 ++ t359 : List Int)).bind fun y362 => ((spec_l1Four.f (x3_2.length : Int)).bind fun t365 => (if y362.length + t365.length < 140737488355328 then (some (y362 ++ t365)) else (none)))) else (none))) else (none)))) else (none)) = some r := H
          have A59 := mS A590
          clear A590
          by_cases c60 : t347.length + x5_2.length < 140737488355328
          ·rw [if_pos c60] at H
           have LMc60 := mS c60
           clear c60
           obtain ⟨y350, hy350⟩ : ∃ y_ : List Int, y_ = (t347 ++ x5_2) := ⟨_, rfl⟩
           replace H : ((spec_Filter.f k3 x4_3).bind fun t353 => (if y350.length + t353.length < 140737488355328 then ((spec_Frame.f k3 (y350 ++ t353)).bind fun t359 => (if x3_2.length + t359.length < 140737488355328 then ((some (x3_2 ++ t359 : List Int)).bind fun y362 => ((spec_l1Four.f (x3_2.length : Int)).bind fun t365 => (if y362.length + t365.length < 140737488355328 then (some (y362 ++ t365)) else (none)))) else (none))) else (none))) = some r := by first | (rw [hy350]; with_reducible exact H) | (have H2_ := (Option.bind_some _ _).symm.trans H; rw [hy350]; with_reducible exact H2_) | (have H2_ := (Option.bind_some _ _).symm.trans H; with_reducible exact H2_) | with_reducible exact H | (rw [hy350]; exact H) | exact H
           have Ny350 := mS hy350
           clear hy350
           replace H := Option.bind_eq_some_iff.mp H
           obtain ⟨t353, A610, H⟩ := H
           replace H : (if y350.length + t353.length < 140737488355328 then ((spec_Frame.f k3 (y350 ++ t353)).bind fun t359 => (if x3_2.length + t359.length < 140737488355328 then ((some (x3_2 ++ t359 : List Int)).bind fun y362 => ((spec_l1Four.f (x3_2.length : Int)).bind fun t365 => (if y362.length + t365.length < 140737488355328 then (some (y362 ++ t365)) else (none)))) else (none))) else (none)) = some r := H
           have A61 := mS A610
           clear A610
           by_cases c62 : y350.length + t353.length < 140737488355328
           ·rw [if_pos c62] at H
            have LMc62 := mS c62
            clear c62
            obtain ⟨y356, hy356⟩ : ∃ y_ : List Int, y_ = (y350 ++ t353) := ⟨_, rfl⟩
            replace H : ((spec_Frame.f k3 y356).bind fun t359 => (if x3_2.length + t359.length < 140737488355328 then ((some (x3_2 ++ t359 : List Int)).bind fun y362 => ((spec_l1Four.f (x3_2.length : Int)).bind fun t365 => (if y362.length + t365.length < 140737488355328 then (some (y362 ++ t365)) else (none)))) else (none))) = some r := by first | (rw [hy356]; with_reducible exact H) | (have H2_ := (Option.bind_some _ _).symm.trans H; rw [hy356]; with_reducible exact H2_) | (have H2_ := (Option.bind_some _ _).symm.trans H; with_reducible exact H2_) | with_reducible exact H | (rw [hy356]; exact H) | exact H
            have Ny356 := mS hy356
            clear hy356
            replace H := Option.bind_eq_some_iff.mp H
            obtain ⟨t359, A630, H⟩ := H
            replace H : (if x3_2.length + t359.length < 140737488355328 then ((some (x3_2 ++ t359 : List Int)).bind fun y362 => ((spec_l1Four.f (x3_2.length : Int)).bind fun t365 => (if y362.length + t365.length < 140737488355328 then (some (y362 ++ t365)) else (none)))) else (none)) = some r := H
            have A63 := mS A630
            clear A630
            by_cases c64 : x3_2.length + t359.length < 140737488355328
            ·rw [if_pos c64] at H
             have LMc64 := mS c64
             clear c64
             obtain ⟨y362, hy362⟩ : ∃ y_ : List Int, y_ = (x3_2 ++ t359) := ⟨_, rfl⟩
             replace H : ((spec_l1Four.f (x3_2.length : Int)).bind fun t365 => (if y362.length + t365.length < 140737488355328 then (some (y362 ++ t365)) else (none))) = some r := by first | (rw [hy362]; with_reducible exact H) | (have H2_ := (Option.bind_some _ _).symm.trans H; rw [hy362]; with_reducible exact H2_) | (have H2_ := (Option.bind_some _ _).symm.trans H; with_reducible exact H2_) | with_reducible exact H | (rw [hy362]; exact H) | exact H
             have Ny362 := mS hy362
             clear hy362
             replace H := Option.bind_eq_some_iff.mp H
             obtain ⟨t365, A650, H⟩ := H
             replace H : (if y362.length + t365.length < 140737488355328 then (some (y362 ++ t365)) else (none)) = some r := H
             have A65 := mS A650
             clear A650
             by_cases c66 : y362.length + t365.length < 140737488355328
             ·rw [if_pos c66] at H
              have LMc66 := mS c66
              clear c66
              obtain ⟨y368, hy368⟩ : ∃ y_ : List Int, y_ = (y362 ++ t365) := ⟨_, rfl⟩
              replace H : (some y368) = some r := by first | (rw [hy368]; with_reducible exact H) | (have H2_ := (Option.bind_some _ _).symm.trans H; rw [hy368]; with_reducible exact H2_) | (have H2_ := (Option.bind_some _ _).symm.trans H; with_reducible exact H2_) | with_reducible exact H | (rw [hy368]; exact H) | exact H
              have Ny368 := mS hy368
              clear hy368
              obtain rfl := Option.some.inj H
              go_wp2_with (first | ((with_reducible refine gate_dst (N := 72) rfl ?_); (try (refine gate_guard (by rfl) ?_; dsimp only)); refine Kd.R_lit (Kd.int .u8) _ 5 ?hg (N := 72) ?hd (xs := ([] : List Int)) (inner := []) (ok := fun _ => True) (okp := fun _ => True) ?hr ?hp (fun _ hk => hk) trivial (Below.refl _ _) (Nat.le_refl _) (by simp) ?_; (case hd => rfl); (case hg => rfl); (case hr => first | (go_simp; done) | (go_simp; rfl)); (case hp => exact (Reps.none _ _)); intro v345 w67 ho68 hb hg_ hnew_; clear hg_ hnew_; (first | rw [← Ny344.out] at ho68 | (simp only [Int.reduceToNat] at ho68; rw [← Ny344.out] at ho68)); replace HO_4 := mS (Kd.R_below (mR HO_4.out) hb); have HO346 := mS (Kd.R_lower (Kd.R_new' (Kd.R_new' ho68 (Kd.R_lt (mR HO_3.out))) (Kd.R_lt (mR HO_5.out))) (below_size (mH HB.out))); replace HO_3 := mS (Kd.R_elder' (mR HO_3.out) (Kd.R_base ho68) hb); replace HO_5 := mS (Kd.R_elder' (mR HO_5.out) (Kd.R_base ho68) hb); replace HB := mS (below_step (mH HB.out) hb); clear hb ho68; obtain ⟨Ao69, co69, eo69⟩ := Kd.R_slice HO346.out; subst eo69) | ((with_reducible refine gate_callee (f := 75) rfl ?_); refine mGo 74 Try.func75 #[.slice Ao69 y344.length co69, .int .i64 x6_2] ?_; (with_reducible refine (spec_PutNum.calls k3 _ _ y344 x6_2 t347 _ ?side1 ?side2 A59.out).mono ?_); (case side1 => exact mC (Kd.R_reads' HO346.out).2.2); (case side2 => exact (Kd.R_reads' HO346.out).2.1); rintro e w70 ⟨v348, rfl, ho0, hb⟩; refine ⟨_, rfl, ?_⟩; replace HO_4 := mS (Kd.R_below (mR HO_4.out) hb); have HO349 := mS (Kd.R_lower (Kd.R_new' (Kd.R_new' (Kd.R_new' ho0 (Kd.R_lt (mR HO_3.out))) (Kd.R_lt (mR HO_5.out))) (Kd.R_lt (mR HO346.out))) (below_size (mH HB.out))); replace HO_3 := mS (Kd.R_elder' (mR HO_3.out) (Kd.R_base ho0) hb); replace HO_5 := mS (Kd.R_elder' (mR HO_5.out) (Kd.R_base ho0) hb); replace HO346 := mS (Kd.R_elder' (mR HO346.out) (Kd.R_base ho0) hb); replace HB := mS (below_step (mH HB.out) hb); (try clear hb); (try clear ho0); obtain ⟨Ao72, co72, eo72⟩ := Kd.R_slice HO_5.out; subst eo72) | ((with_reducible refine gate_builtin (b := .append) (xs := #[.tmp 74, .tmp 75]) rfl ?_); (try (refine gate_guard (by rfl) ?_; dsimp only)); at_builtin; refine Kd.R_append_rows (Kd.int .u8) (w0 := w) w.heap.size rfl (.tmp 74) (.tmp 75) 22 5 (.int .u8 0) 1 rfl Try.underlying22 info5 rfl (by decide) (by omega) v348 t347 x5_2 _ _ _ (fun k_ => some k_ ≠ (u3 : Value).ownBlock ∧ some k_ ≠ (.slice Ao72 x5_2.length co72 : Value).ownBlock ∧ some k_ ≠ (.slice Ao69 y344.length co69 : Value).ownBlock) (fun _ => False) rfl rfl ?aO ?aR (fun _ _ h => h) (fun _ h => h.elim) ?aF ?aB ?aS ?aL ?_; (case aR => exact mC (Kd.R_reads' HO_5.out).2.2); (case aB => exact (mH HB.out)); (case aF => exact (fun k_ hk => ⟨Kd.fresh' (Kd.R_lt (mR HO_3.out)) k_ hk, Kd.fresh' (Kd.R_lt (mR HO_5.out)) k_ hk, Kd.fresh' (Kd.R_lt (mR HO346.out)) k_ hk⟩)); (case aO => exact (by refine mR ?_; exact Kd.R_mono HO349.out (fun _ hk => ⟨hk.1.1.2, ⟨hk.1.2, hk.2⟩⟩))); (case aS => exact (below_size (mH HB.out))); (case aL => have := LMc60.out; omega); intro v351 w71 ho hb hg hat; rw [← Ny350.out] at ho; replace HO_3 := mS (Kd.R_after (ok := (fun k_ => some k_ ≠ (.slice Ao72 x5_2.length co72 : Value).ownBlock ∧ some k_ ≠ (.slice Ao69 y344.length co69 : Value).ownBlock)) (mR HO_3.out) hg hat); replace HO_4 := mS (Kd.R_over' (mR HO_4.out) (Kd.R_typed (mR HO349.out)) (by decide) hg); replace HO_5 := mS (Kd.R_after (ok := (fun k_ => some k_ ≠ (u3 : Value).ownBlock ∧ some k_ ≠ (.slice Ao69 y344.length co69 : Value).ownBlock)) (mR HO_5.out) hg hat); replace HO346 := mS (Kd.R_after (ok := (fun k_ => some k_ ≠ (u3 : Value).ownBlock ∧ some k_ ≠ (.slice Ao72 x5_2.length co72 : Value).ownBlock)) (by refine mR ?_; exact Kd.R_mono HO346.out (fun _ hk => ⟨⟨hk.1.1.2, hk.1.2⟩, hk.2⟩)) hg hat); replace HB := mS (hb); have HO352 := mS (ho); clear HO349; clear ho hb hg hat; obtain ⟨Ao73, co73, eo73⟩ := Kd.R_slice HO_4.out; subst eo73) | ((with_reducible refine gate_callee (f := 78) rfl ?_); refine mGo 78 Try.func78 #[.slice Ao73 x4_3.length co73] ?_; (with_reducible refine (spec_Filter.calls k3 _ _ x4_3 t353 _ ?side1 ?side2 A61.out).mono ?_); (case side1 => exact mC (Kd.R_reads' HO_4.out).2.2); (case side2 => exact (Kd.R_reads' HO_4.out).2.1); rintro e w74 ⟨v354, rfl, ho0, hb⟩; refine ⟨_, rfl, ?_⟩; replace HO_4 := mS (Kd.R_below (mR HO_4.out) hb); have HO355 := mS (Kd.R_lower (Kd.R_new' (Kd.R_new' (Kd.R_new' (Kd.R_new' ho0 (Kd.R_lt (mR HO_3.out))) (Kd.R_lt (mR HO_5.out))) (Kd.R_lt (mR HO346.out))) (Kd.R_lt (mR HO352.out))) (below_size (mH HB.out))); replace HO_3 := mS (Kd.R_elder' (mR HO_3.out) (Kd.R_base ho0) hb); replace HO_5 := mS (Kd.R_elder' (mR HO_5.out) (Kd.R_base ho0) hb); replace HO346 := mS (Kd.R_elder' (mR HO346.out) (Kd.R_base ho0) hb); replace HO352 := mS (Kd.R_elder' (mR HO352.out) (Kd.R_base ho0) hb); replace HB := mS (below_step (mH HB.out) hb); (try clear hb); (try clear ho0); obtain ⟨Ao76, co76, eo76⟩ := Kd.R_slice HO355.out; subst eo76) | ((with_reducible refine gate_builtin (b := .append) (xs := #[.tmp 76, .tmp 78]) rfl ?_); (try (refine gate_guard (by rfl) ?_; dsimp only)); at_builtin; refine Kd.R_append_rows (Kd.int .u8) (w0 := w) w.heap.size rfl (.tmp 76) (.tmp 78) 22 5 (.int .u8 0) 1 rfl Try.underlying22 info5 rfl (by decide) (by omega) v351 y350 t353 _ _ _ (fun k_ => some k_ ≠ (u3 : Value).ownBlock ∧ some k_ ≠ (.slice Ao72 x5_2.length co72 : Value).ownBlock ∧ some k_ ≠ (.slice Ao69 y344.length co69 : Value).ownBlock ∧ some k_ ≠ (.slice Ao76 t353.length co76 : Value).ownBlock) (fun _ => False) rfl rfl ?aO ?aR (fun _ _ h => h) (fun _ h => h.elim) ?aF ?aB ?aS ?aL ?_; (case aR => exact mC (Kd.R_reads' HO355.out).2.2); (case aB => exact (mH HB.out)); (case aF => exact (fun k_ hk => ⟨Kd.fresh' (Kd.R_lt (mR HO_3.out)) k_ hk, Kd.fresh' (Kd.R_lt (mR HO_5.out)) k_ hk, Kd.fresh' (Kd.R_lt (mR HO346.out)) k_ hk, Kd.fresh' (Kd.R_lt (mR HO355.out)) k_ hk⟩)); (case aO => exact (by refine mR ?_; exact Kd.R_mono HO352.out (fun _ hk => ⟨hk.1.1, ⟨hk.1.2.1, ⟨hk.1.2.2, hk.2⟩⟩⟩))); (case aS => exact (below_size (mH HB.out))); (case aL => have := LMc62.out; omega); intro v357 w75 ho hb hg hat; rw [← Ny356.out] at ho; replace HO_3 := mS (Kd.R_after (ok := (fun k_ => some k_ ≠ (.slice Ao72 x5_2.length co72 : Value).ownBlock ∧ some k_ ≠ (.slice Ao69 y344.length co69 : Value).ownBlock ∧ some k_ ≠ (.slice Ao76 t353.length co76 : Value).ownBlock)) (by refine mR ?_; exact Kd.R_mono HO_3.out (fun _ hk => ⟨⟨hk.1.1.1, ⟨hk.1.1.2, hk.2⟩⟩, hk.1.2⟩)) hg hat); replace HO_4 := mS (Kd.R_over' (mR HO_4.out) (Kd.R_typed (mR HO352.out)) (by decide) hg); replace HO_5 := mS (Kd.R_after (ok := (fun k_ => some k_ ≠ (u3 : Value).ownBlock ∧ some k_ ≠ (.slice Ao69 y344.length co69 : Value).ownBlock ∧ some k_ ≠ (.slice Ao76 t353.length co76 : Value).ownBlock)) (by refine mR ?_; exact Kd.R_mono HO_5.out (fun _ hk => ⟨⟨hk.1.1.1, ⟨hk.1.1.2, hk.2⟩⟩, hk.1.2⟩)) hg hat); replace HO346 := mS (Kd.R_after (ok := (fun k_ => some k_ ≠ (u3 : Value).ownBlock ∧ some k_ ≠ (.slice Ao72 x5_2.length co72 : Value).ownBlock ∧ some k_ ≠ (.slice Ao76 t353.length co76 : Value).ownBlock)) (by refine mR ?_; exact Kd.R_mono HO346.out (fun _ hk => ⟨⟨hk.1.1.1, ⟨hk.1.1.2, hk.2⟩⟩, hk.1.2⟩)) hg hat); replace HO355 := mS (Kd.R_after (ok := (fun k_ => some k_ ≠ (u3 : Value).ownBlock ∧ some k_ ≠ (.slice Ao72 x5_2.length co72 : Value).ownBlock ∧ some k_ ≠ (.slice Ao69 y344.length co69 : Value).ownBlock)) (by refine mR ?_; exact Kd.R_mono HO355.out (fun _ hk => ⟨⟨hk.1.1.1.2, ⟨hk.1.1.2, hk.1.2⟩⟩, hk.2⟩)) hg hat); replace HB := mS (hb); have HO358 := mS (ho); clear HO352; clear ho hb hg hat; obtain ⟨Ao77, co77, eo77⟩ := Kd.R_slice HO_3.out; subst eo77; obtain ⟨Ao78, co78, eo78⟩ := Kd.R_slice HO358.out; subst eo78) | ((with_reducible refine gate_callee (f := 79) rfl ?_); refine mGo 84 Try.func79 #[.slice Ao78 y356.length co78] ?_; (with_reducible refine (spec_Frame.calls k3 _ _ y356 t359 _ ?side1 ?side2 A63.out).mono ?_); (case side1 => exact mC (Kd.R_reads' HO358.out).2.2); (case side2 => exact (Kd.R_reads' HO358.out).2.1); rintro e w79 ⟨v360, rfl, ho0, hb⟩; refine ⟨_, rfl, ?_⟩; replace HO_4 := mS (Kd.R_below (mR HO_4.out) hb); have HO361 := mS (Kd.R_lower (Kd.R_new' (Kd.R_new' (Kd.R_new' (Kd.R_new' (Kd.R_new' ho0 (Kd.R_lt (mR HO_3.out))) (Kd.R_lt (mR HO_5.out))) (Kd.R_lt (mR HO346.out))) (Kd.R_lt (mR HO355.out))) (Kd.R_lt (mR HO358.out))) (below_size (mH HB.out))); replace HO_3 := mS (Kd.R_elder' (mR HO_3.out) (Kd.R_base ho0) hb); replace HO_5 := mS (Kd.R_elder' (mR HO_5.out) (Kd.R_base ho0) hb); replace HO346 := mS (Kd.R_elder' (mR HO346.out) (Kd.R_base ho0) hb); replace HO355 := mS (Kd.R_elder' (mR HO355.out) (Kd.R_base ho0) hb); replace HO358 := mS (Kd.R_elder' (mR HO358.out) (Kd.R_base ho0) hb); replace HB := mS (below_step (mH HB.out) hb); (try clear hb); (try clear ho0); obtain ⟨Ao81, co81, eo81⟩ := Kd.R_slice HO361.out; subst eo81) | ((with_reducible refine gate_builtin (b := .append) (xs := #[.tmp 82, .tmp 84]) rfl ?_); (try (refine gate_guard (by rfl) ?_; dsimp only)); at_builtin; refine Kd.R_append_rows (Kd.int .u8) (w0 := w) w.heap.size rfl (.tmp 82) (.tmp 84) 22 5 (.int .u8 0) 1 rfl Try.underlying22 info5 rfl (by decide) (by omega) (.slice Ao77 x3_2.length co77) x3_2 t359 _ _ _ (fun k_ => some k_ ≠ (.slice Ao72 x5_2.length co72 : Value).ownBlock ∧ some k_ ≠ (.slice Ao69 y344.length co69 : Value).ownBlock ∧ some k_ ≠ (.slice Ao76 t353.length co76 : Value).ownBlock ∧ some k_ ≠ (.slice Ao78 y356.length co78 : Value).ownBlock ∧ some k_ ≠ (.slice Ao81 t359.length co81 : Value).ownBlock) (fun _ => False) rfl rfl ?aO ?aR (fun _ _ h => h) (fun _ h => h.elim) ?aF ?aB ?aS ?aL ?_; (case aR => exact mC (Kd.R_reads' HO361.out).2.2); (case aB => exact (mH HB.out)); (case aF => exact (fun k_ hk => ⟨Kd.fresh' (Kd.R_lt (mR HO_5.out)) k_ hk, Kd.fresh' (Kd.R_lt (mR HO346.out)) k_ hk, Kd.fresh' (Kd.R_lt (mR HO355.out)) k_ hk, Kd.fresh' (Kd.R_lt (mR HO358.out)) k_ hk, Kd.fresh' (Kd.R_lt (mR HO361.out)) k_ hk⟩)); (case aO => exact (by refine mR ?_; exact Kd.R_mono HO_3.out (fun _ hk => ⟨hk.1.1.1, ⟨hk.1.1.2.1, ⟨hk.1.1.2.2, ⟨hk.1.2, hk.2⟩⟩⟩⟩))); (case aS => exact (below_size (mH HB.out))); (case aL => have := LMc64.out; omega); intro v363 w80 ho hb hg hat; rw [← Ny362.out] at ho; replace HO_4 := mS (Kd.R_over' (mR HO_4.out) (Kd.R_typed (mR HO_3.out)) (by decide) hg); replace HO_5 := mS (Kd.R_after (ok := (fun k_ => some k_ ≠ (.slice Ao69 y344.length co69 : Value).ownBlock ∧ some k_ ≠ (.slice Ao76 t353.length co76 : Value).ownBlock ∧ some k_ ≠ (.slice Ao78 y356.length co78 : Value).ownBlock ∧ some k_ ≠ (.slice Ao81 t359.length co81 : Value).ownBlock)) (by refine mR ?_; exact Kd.R_mono HO_5.out (fun _ hk => ⟨⟨hk.1.1.2.1, ⟨hk.1.1.2.2, ⟨hk.1.2, hk.2⟩⟩⟩, hk.1.1.1⟩)) hg hat); replace HO346 := mS (Kd.R_after (ok := (fun k_ => some k_ ≠ (.slice Ao72 x5_2.length co72 : Value).ownBlock ∧ some k_ ≠ (.slice Ao76 t353.length co76 : Value).ownBlock ∧ some k_ ≠ (.slice Ao78 y356.length co78 : Value).ownBlock ∧ some k_ ≠ (.slice Ao81 t359.length co81 : Value).ownBlock)) (by refine mR ?_; exact Kd.R_mono HO346.out (fun _ hk => ⟨⟨hk.1.1.2.1, ⟨hk.1.1.2.2, ⟨hk.1.2, hk.2⟩⟩⟩, hk.1.1.1⟩)) hg hat); replace HO355 := mS (Kd.R_after (ok := (fun k_ => some k_ ≠ (.slice Ao72 x5_2.length co72 : Value).ownBlock ∧ some k_ ≠ (.slice Ao69 y344.length co69 : Value).ownBlock ∧ some k_ ≠ (.slice Ao78 y356.length co78 : Value).ownBlock ∧ some k_ ≠ (.slice Ao81 t359.length co81 : Value).ownBlock)) (by refine mR ?_; exact Kd.R_mono HO355.out (fun _ hk => ⟨⟨hk.1.1.2.1, ⟨hk.1.1.2.2, ⟨hk.1.2, hk.2⟩⟩⟩, hk.1.1.1⟩)) hg hat); replace HO358 := mS (Kd.R_after (ok := (fun k_ => some k_ ≠ (.slice Ao72 x5_2.length co72 : Value).ownBlock ∧ some k_ ≠ (.slice Ao69 y344.length co69 : Value).ownBlock ∧ some k_ ≠ (.slice Ao76 t353.length co76 : Value).ownBlock ∧ some k_ ≠ (.slice Ao81 t359.length co81 : Value).ownBlock)) (by refine mR ?_; exact Kd.R_mono HO358.out (fun _ hk => ⟨⟨hk.1.2.1, ⟨hk.1.2.2.1, ⟨hk.1.2.2.2, hk.2⟩⟩⟩, hk.1.1⟩)) hg hat); replace HO361 := mS (Kd.R_after (ok := (fun k_ => some k_ ≠ (.slice Ao72 x5_2.length co72 : Value).ownBlock ∧ some k_ ≠ (.slice Ao69 y344.length co69 : Value).ownBlock ∧ some k_ ≠ (.slice Ao76 t353.length co76 : Value).ownBlock ∧ some k_ ≠ (.slice Ao78 y356.length co78 : Value).ownBlock)) (by refine mR ?_; exact Kd.R_mono HO361.out (fun _ hk => ⟨⟨hk.1.1.1.2, ⟨hk.1.1.2, ⟨hk.1.2, hk.2⟩⟩⟩, hk.1.1.1.1.2⟩)) hg hat); replace HB := mS (hb); have HO364 := mS (ho); clear HO_3; clear ho hb hg hat) | ((with_reducible refine gate_callee (f := 80) rfl ?_); refine mGo 88 Try.func80 #[.int .i64 (x3_2.length : Int)] ?_; (with_reducible refine (spec_l1Four.calls (x3_2.length : Int) t365 _ A65.out).mono ?_); rintro e w82 ⟨v366, rfl, ho0, hb⟩; refine ⟨_, rfl, ?_⟩; replace HO_4 := mS (Kd.R_below (mR HO_4.out) hb); have HO367 := mS (Kd.R_lower (Kd.R_new' (Kd.R_new' (Kd.R_new' (Kd.R_new' (Kd.R_new' (Kd.R_new' ho0 (Kd.R_lt (mR HO_5.out))) (Kd.R_lt (mR HO346.out))) (Kd.R_lt (mR HO355.out))) (Kd.R_lt (mR HO358.out))) (Kd.R_lt (mR HO361.out))) (Kd.R_lt (mR HO364.out))) (below_size (mH HB.out))); replace HO_5 := mS (Kd.R_elder' (mR HO_5.out) (Kd.R_base ho0) hb); replace HO346 := mS (Kd.R_elder' (mR HO346.out) (Kd.R_base ho0) hb); replace HO355 := mS (Kd.R_elder' (mR HO355.out) (Kd.R_base ho0) hb); replace HO358 := mS (Kd.R_elder' (mR HO358.out) (Kd.R_base ho0) hb); replace HO361 := mS (Kd.R_elder' (mR HO361.out) (Kd.R_base ho0) hb); replace HO364 := mS (Kd.R_elder' (mR HO364.out) (Kd.R_base ho0) hb); replace HB := mS (below_step (mH HB.out) hb); (try clear hb); (try clear ho0); obtain ⟨Ao84, co84, eo84⟩ := Kd.R_slice HO367.out; subst eo84) | ((with_reducible refine gate_builtin (b := .append) (xs := #[.tmp 86, .tmp 88]) rfl ?_); (try (refine gate_guard (by rfl) ?_; dsimp only)); at_builtin; refine Kd.R_append_rows (Kd.int .u8) (w0 := w) w.heap.size rfl (.tmp 86) (.tmp 88) 22 5 (.int .u8 0) 1 rfl Try.underlying22 info5 rfl (by decide) (by omega) v363 y362 t365 _ _ _ (fun k_ => some k_ ≠ (.slice Ao72 x5_2.length co72 : Value).ownBlock ∧ some k_ ≠ (.slice Ao69 y344.length co69 : Value).ownBlock ∧ some k_ ≠ (.slice Ao76 t353.length co76 : Value).ownBlock ∧ some k_ ≠ (.slice Ao78 y356.length co78 : Value).ownBlock ∧ some k_ ≠ (.slice Ao81 t359.length co81 : Value).ownBlock ∧ some k_ ≠ (.slice Ao84 t365.length co84 : Value).ownBlock) (fun _ => False) rfl rfl ?aO ?aR (fun _ _ h => h) (fun _ h => h.elim) ?aF ?aB ?aS ?aL ?_; (case aR => exact mC (Kd.R_reads' HO367.out).2.2); (case aB => exact (mH HB.out)); (case aF => exact (fun k_ hk => ⟨Kd.fresh' (Kd.R_lt (mR HO_5.out)) k_ hk, Kd.fresh' (Kd.R_lt (mR HO346.out)) k_ hk, Kd.fresh' (Kd.R_lt (mR HO355.out)) k_ hk, Kd.fresh' (Kd.R_lt (mR HO358.out)) k_ hk, Kd.fresh' (Kd.R_lt (mR HO361.out)) k_ hk, Kd.fresh' (Kd.R_lt (mR HO367.out)) k_ hk⟩)); (case aO => exact (by refine mR ?_; exact Kd.R_mono HO364.out (fun _ hk => ⟨hk.1.1, ⟨hk.1.2.1, ⟨hk.1.2.2.1, ⟨hk.1.2.2.2.1, ⟨hk.1.2.2.2.2, hk.2⟩⟩⟩⟩⟩))); (case aS => exact (below_size (mH HB.out))); (case aL => have := LMc66.out; omega); intro v369 w83 ho hb hg hat; rw [← Ny368.out] at ho; replace HO_4 := mS (Kd.R_over' (mR HO_4.out) (Kd.R_typed (mR HO364.out)) (by decide) hg); replace HO_5 := mS (Kd.R_after (ok := (fun k_ => some k_ ≠ (.slice Ao69 y344.length co69 : Value).ownBlock ∧ some k_ ≠ (.slice Ao76 t353.length co76 : Value).ownBlock ∧ some k_ ≠ (.slice Ao78 y356.length co78 : Value).ownBlock ∧ some k_ ≠ (.slice Ao81 t359.length co81 : Value).ownBlock ∧ some k_ ≠ (.slice Ao84 t365.length co84 : Value).ownBlock)) (by refine mR ?_; exact Kd.R_mono HO_5.out (fun _ hk => ⟨⟨hk.1.1.1, ⟨hk.1.1.2.1, ⟨hk.1.1.2.2.1, ⟨hk.1.1.2.2.2, hk.2⟩⟩⟩⟩, hk.1.2⟩)) hg hat); replace HO346 := mS (Kd.R_after (ok := (fun k_ => some k_ ≠ (.slice Ao72 x5_2.length co72 : Value).ownBlock ∧ some k_ ≠ (.slice Ao76 t353.length co76 : Value).ownBlock ∧ some k_ ≠ (.slice Ao78 y356.length co78 : Value).ownBlock ∧ some k_ ≠ (.slice Ao81 t359.length co81 : Value).ownBlock ∧ some k_ ≠ (.slice Ao84 t365.length co84 : Value).ownBlock)) (by refine mR ?_; exact Kd.R_mono HO346.out (fun _ hk => ⟨⟨hk.1.1.1, ⟨hk.1.1.2.1, ⟨hk.1.1.2.2.1, ⟨hk.1.1.2.2.2, hk.2⟩⟩⟩⟩, hk.1.2⟩)) hg hat); replace HO355 := mS (Kd.R_after (ok := (fun k_ => some k_ ≠ (.slice Ao72 x5_2.length co72 : Value).ownBlock ∧ some k_ ≠ (.slice Ao69 y344.length co69 : Value).ownBlock ∧ some k_ ≠ (.slice Ao78 y356.length co78 : Value).ownBlock ∧ some k_ ≠ (.slice Ao81 t359.length co81 : Value).ownBlock ∧ some k_ ≠ (.slice Ao84 t365.length co84 : Value).ownBlock)) (by refine mR ?_; exact Kd.R_mono HO355.out (fun _ hk => ⟨⟨hk.1.1.1, ⟨hk.1.1.2.1, ⟨hk.1.1.2.2.1, ⟨hk.1.1.2.2.2, hk.2⟩⟩⟩⟩, hk.1.2⟩)) hg hat); replace HO358 := mS (Kd.R_after (ok := (fun k_ => some k_ ≠ (.slice Ao72 x5_2.length co72 : Value).ownBlock ∧ some k_ ≠ (.slice Ao69 y344.length co69 : Value).ownBlock ∧ some k_ ≠ (.slice Ao76 t353.length co76 : Value).ownBlock ∧ some k_ ≠ (.slice Ao81 t359.length co81 : Value).ownBlock ∧ some k_ ≠ (.slice Ao84 t365.length co84 : Value).ownBlock)) (by refine mR ?_; exact Kd.R_mono HO358.out (fun _ hk => ⟨⟨hk.1.1.1, ⟨hk.1.1.2.1, ⟨hk.1.1.2.2.1, ⟨hk.1.1.2.2.2, hk.2⟩⟩⟩⟩, hk.1.2⟩)) hg hat); replace HO361 := mS (Kd.R_after (ok := (fun k_ => some k_ ≠ (.slice Ao72 x5_2.length co72 : Value).ownBlock ∧ some k_ ≠ (.slice Ao69 y344.length co69 : Value).ownBlock ∧ some k_ ≠ (.slice Ao76 t353.length co76 : Value).ownBlock ∧ some k_ ≠ (.slice Ao78 y356.length co78 : Value).ownBlock ∧ some k_ ≠ (.slice Ao84 t365.length co84 : Value).ownBlock)) (by refine mR ?_; exact Kd.R_mono HO361.out (fun _ hk => ⟨⟨hk.1.1.1, ⟨hk.1.1.2.1, ⟨hk.1.1.2.2.1, ⟨hk.1.1.2.2.2, hk.2⟩⟩⟩⟩, hk.1.2⟩)) hg hat); replace HO367 := mS (Kd.R_after (ok := (fun k_ => some k_ ≠ (.slice Ao72 x5_2.length co72 : Value).ownBlock ∧ some k_ ≠ (.slice Ao69 y344.length co69 : Value).ownBlock ∧ some k_ ≠ (.slice Ao76 t353.length co76 : Value).ownBlock ∧ some k_ ≠ (.slice Ao78 y356.length co78 : Value).ownBlock ∧ some k_ ≠ (.slice Ao81 t359.length co81 : Value).ownBlock)) (by refine mR ?_; exact Kd.R_mono HO367.out (fun _ hk => ⟨⟨hk.1.1.1.1.1.2, ⟨hk.1.1.1.1.2, ⟨hk.1.1.1.2, ⟨hk.1.1.2, hk.1.2⟩⟩⟩⟩, hk.2⟩)) hg hat); replace HB := mS (hb); have HO370 := mS (ho); clear HO364; clear ho hb hg hat))
              go_ret
              exact ⟨_, mEw, by refine mR ?_; exact Kd.R_mono HO370.out (fun _ hk => trivial), (mH HB.out)⟩
             ·rw [if_neg c66] at H
              exact absurd H (by simp)
            ·rw [if_neg c64] at H
             exact absurd H (by simp)
           ·rw [if_neg c62] at H
            exact absurd H (by simp)
          ·rw [if_neg c60] at H
           exact absurd H (by simp)

end Go.Proofs.Ytecjamgajlpfdaa.MFnExactTablePairs
