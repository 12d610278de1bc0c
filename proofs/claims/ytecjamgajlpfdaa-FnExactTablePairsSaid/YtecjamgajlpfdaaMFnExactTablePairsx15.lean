-- Written by mp.py, this session's own printer (wip/mp.py).
import Derived.Test.YtecjamgajlpfdaaVMShort
import Derived.Test.YtecjamgajlpfdaaMFnExactTablePairsx0
import Derived.Test.YtecjamgajlpfdaaMFnExactTablePairsx14
namespace Go.Proofs.Ytecjamgajlpfdaa.MFnExactTablePairs
open Go.RowKit Go.Proofs.YtecjamgajlpfdaaW.PrintWords Go.Proofs.YtecjamgajlpfdaaW.PrintLast Go.Proofs.YtecjamgajlpfdaaW.PrintMore Go.Proofs.Ytecjamgajlpfdaa.MWords
attribute [local go_sem] max2_int min2_int max_two min_two max_three min_three max_four min_four   -- for this text's walks alone
set_option linter.unusedVariables false
set_option linter.unusedSimpArgs false

/-! ### impl_Filter: function 88 -/
def impl_Filter.l0 : Nat → List Int → List ByteArray → Int → Int → Option (List Int)
 | 0, _, _, _, _ => none
 | k + 1, x3, x9, x10, x11 => if x11 < x10 then (if 0 ≤ x11 then (if x11 < (x9.length : Int) then ((impl_Mark.f k (rdOf ByteArray.empty x9 x11)).bind fun bt524 => (if 0 ≤ (wrap64 (Int.tdiv bt524.1 8)) then (if (wrap64 (Int.tdiv bt524.1 8)) < (x3.length : Int) then (if 0 ≤ (Int.tmod bt524.1 8) then ((some (x3.set ((wrap64 (Int.tdiv bt524.1 8)) : Int).toNat (Go.bits .or .u8 (rd x3 (wrap64 (Int.tdiv bt524.1 8))) (shl .u8 1 (Int.tmod bt524.1 8))) : List Int)).bind fun y527 => (if 0 ≤ (wrap64 (Int.tdiv bt524.2 8)) then (if (wrap64 (Int.tdiv bt524.2 8)) < (x3.length : Int) then (if 0 ≤ (Int.tmod bt524.2 8) then (impl_Filter.l0 k (y527.set ((wrap64 (Int.tdiv bt524.2 8)) : Int).toNat (Go.bits .or .u8 (rd y527 (wrap64 (Int.tdiv bt524.2 8))) (shl .u8 1 (Int.tmod bt524.2 8)))) x9 x10 (wrap64 (x11 + 1))) else (none)) else (none)) else (none))) else (none)) else (none)) else (none))) else (none)) else (none)) else (some x3)
def impl_Filter.f (k : Nat) (l0 : List ByteArray) : Option (List Int) := if 8 ≤ 281474976710656 then (impl_Filter.l0 k (List.replicate 8 0) l0 (l0.length : Int) 0) else (none)
theorem impl_Filter.mono_l : ∀ k, (∀ y0 y1 y2 y3, LeO (impl_Filter.l0 k y0 y1 y2 y3) (impl_Filter.l0 (k + 1) y0 y1 y2 y3))
 | 0 => fun _ _ _ _ r h => by simp [impl_Filter.l0] at h
 | k + 1 => by
  have ih0 := impl_Filter.mono_l k
  ·intro y0 y1 y2 y3
   unfold impl_Filter.l0
   repeat' first
   | (with_reducible exact ih0 _ _ _ _)
   | (with_reducible exact impl_Mark.mono _ _)
   | (with_reducible exact LeO.refl _)
   | (with_reducible exact LeO.none _)
   | (with_reducible refine LeO.ite ?_ ?_)
   | (with_reducible refine LeO.bind ?_ (fun _ => ?_))
   | exact ih0 _ _ _ _
   | exact impl_Mark.mono _ _
   | exact LeO.none _
   | refine LeO.ite ?_ ?_
   | refine LeO.bind ?_ (fun _ => ?_)
theorem impl_Filter.mono : ∀ a0 k, LeO (impl_Filter.f k a0) (impl_Filter.f (k + 1) a0) := by
 intro a0 k
 have ih0 := impl_Filter.mono_l k
 unfold impl_Filter.f
 repeat' first
   | (with_reducible exact ih0 _ _ _ _)
   | (with_reducible exact impl_Mark.mono _ _)
   | (with_reducible exact LeO.refl _)
   | (with_reducible exact LeO.none _)
   | (with_reducible refine LeO.ite ?_ ?_)
   | (with_reducible refine LeO.bind ?_ (fun _ => ?_))
   | exact ih0 _ _ _ _
   | exact impl_Mark.mono _ _
   | exact LeO.none _
   | refine LeO.ite ?_ ?_
   | refine LeO.bind ?_ (fun _ => ?_)
def impl_Filter.T6 : Bool × List (List Nat × List Nat) := (true, [([], []), ([], []), ([1], [1]), ([0, 2], [0, 2]), ([3], [3]), ([], []), ([5], [5]), ([6], [6]), ([4, 7], [4, 7]), ([0, 2, 0, 1, 2, 3, 4, 5, 6, 7, 8], [0, 2]), ([9, 8, 0, 1, 2, 3, 4, 5, 6, 7, 8], [8, 9])])
def impl_Filter.B6 : List Nat := [0, 0, 2, 7, 15, 0, 32, 96, 255, 511, 1023]
theorem impl_Filter.tab6 : rtab .any (opsOf Try.f88 6) = impl_Filter.T6 := by kernel_rfl
theorem impl_Filter.bits6 : waitsOk impl_Filter.T6.2 impl_Filter.B6 = true := by kernel_rfl
def impl_Filter.T7 : Bool × List (List Nat × List Nat) := (true, [([], []), ([], []), ([1], [1]), ([0, 2], [0, 2]), ([3], [3]), ([], []), ([5], [5]), ([6], [6]), ([4, 7], [4, 7]), ([0, 2, 0, 1, 2, 3, 4, 5, 6, 7, 8], [0, 2]), ([9, 8, 0, 1, 2, 3, 4, 5, 6, 7, 8], [8, 9])])
def impl_Filter.B7 : List Nat := [0, 0, 2, 7, 15, 0, 32, 96, 255, 511, 1023]
theorem impl_Filter.tab7 : rtab .any (opsOf Try.f88 7) = impl_Filter.T7 := by kernel_rfl
theorem impl_Filter.bits7 : waitsOk impl_Filter.T7.2 impl_Filter.B7 = true := by kernel_rfl
set_option maxHeartbeats 8000000 in
set_option maxRecDepth 100000 in
theorem impl_Filter.calls (k : Nat) (A0 : Option Addr) (c0 : Nat) (l0 : List ByteArray) (r : List Int) (w : World) (hr0 : Kd.C Kd.string w A0 l0.length l0) (hc0 : l0.length ≤ c0) (h : impl_Filter.f k l0 = some r) :
  Calls Try.prog 88 #[.slice A0 l0.length c0] w fun e w' => ∃ v0_ : Value, e = .returned (v0_) ∧ Kd.R (Kd.int .u8) 5 w' w.heap.size (fun _ => True) v0_ r ∧ Below w.heap.size w w' := by
 have HR0 := mS hr0
 have HC0 := mS hc0
 clear hr0 hc0
 have HB := mS (Below.refl w.heap.size w)
 have H : (if 8 ≤ 281474976710656 then (impl_Filter.l0 k (List.replicate 8 0) l0 (l0.length : Int) 0) else (none)) = some r := h
 clear h
 by_cases c2 : 8 ≤ 281474976710656
 ·rw [if_pos c2] at H
  have c2b0 := eq_true c2
  have c2b1 := decide_eq_true c2
  clear c2
  obtain ⟨y520, hy520⟩ : ∃ y_ : List Int, y_ = (List.replicate 8 0) := ⟨_, rfl⟩
  replace H : (impl_Filter.l0 k y520 l0 (l0.length : Int) 0) = some r := by first | (rw [hy520]; with_reducible exact H) | (have H2_ := (Option.bind_some _ _).symm.trans H; rw [hy520]; with_reducible exact H2_) | (have H2_ := (Option.bind_some _ _).symm.trans H; with_reducible exact H2_) | with_reducible exact H | (rw [hy520]; exact H) | exact H
  have Ny520 := mS hy520
  clear hy520
  have H' := mS H
  clear H
  go_enter Try.func88, Try.ntmps88
  go_wp2_with (first | ((with_reducible refine gate_dst (N := 8) rfl ?_); refine Kd.R_make (Kd.int .u8) _ 5 rfl (N := 8) rfl 22 _ _ rfl 8 rfl rfl Try.underlying22 (.int .u8 0) 1 info5 rfl (by decide) (by omega) 0 (ok := fun _ => True) (okp := fun _ => True) rfl (fun _ hk => hk) trivial (by omega) (by omega) (Below.refl _ _) (Nat.le_refl _) ?_; intro v521 w3 ho4 hb hg_ hnew_; clear hg_ hnew_; (first | rw [← Ny520.out] at ho4 | (simp only [Int.reduceToNat] at ho4; rw [← Ny520.out] at ho4)); have HO522 := mS (Kd.R_lower ho4 (below_size (mH HB.out))); replace HB := mS (below_step (mH HB.out) hb); clear hb ho4))
  go_loopg [11] k (fun kq v11 w' => ∃ (x3_1 : List Int) (x11_1 : Int), v11 = .int .i64 x11_1 ∧ Aside0 (impl_Filter.l0 kq x3_1 l0 (l0.length : Int) x11_1 = some r) ∧ Aside0 (kq ≤ k) ∧ Aside0 (Kd.R (Kd.int .u8) 5 w' w.heap.size (fun _ => True) v521 x3_1) ∧ Aside0 (Below w.heap.size w w'))
  case atStart => exact ⟨(y520), (0), mE, H', ⟨Nat.le_refl _⟩, ⟨mR HO522.out⟩, ⟨(mH HB.out)⟩⟩
  case round =>
   clear H'
   try clear c2
   try clear c2b0
   try clear c2b1
   try clear p2
   obtain ⟨x3_1, x11_1, rfl, HA, HK1, HO_3, HB⟩ := hrel
   cases gk with
   | zero => exact absurd HA.out (by simp [impl_Filter.l0])
   | succ k1 =>
    have H := HA.out
    clear HA
    simp only [impl_Filter.l0] at H
    by_cases c5 : x11_1 < (l0.length : Int)
    ·rw [if_pos c5] at H
     have c5b0 := decide_eq_true c5
     clear c5
     by_cases c6 : 0 ≤ x11_1
     ·rw [if_pos c6] at H
      have c6b0 := decide_eq_true c6
      clear c6
      by_cases c7 : x11_1 < (l0.length : Int)
      ·rw [if_pos c7] at H
       have c7b0 := decide_eq_true c7
       clear c7
       replace H := Option.bind_eq_some_iff.mp H
       obtain ⟨⟨t524, t525⟩, A80, H⟩ := H
       replace H : (if 0 ≤ (wrap64 (Int.tdiv t524 8)) then (if (wrap64 (Int.tdiv t524 8)) < (x3_1.length : Int) then (if 0 ≤ (Int.tmod t524 8) then ((some (x3_1.set ((wrap64 (Int.tdiv t524 8)) : Int).toNat (Go.bits .or .u8 (rd x3_1 (wrap64 (Int.tdiv t524 8))) (shl .u8 1 (Int.tmod t524 8))) : List Int)).bind fun y527 => (if 0 ≤ (wrap64 (Int.tdiv t525 8)) then (if (wrap64 (Int.tdiv t525 8)) < (x3_1.length : Int) then (if 0 ≤ (Int.tmod t525 8) then (impl_Filter.l0 k1 (y527.set ((wrap64 (Int.tdiv t525 8)) : Int).toNat (Go.bits .or .u8 (rd y527 (wrap64 (Int.tdiv t525 8))) (shl .u8 1 (Int.tmod t525 8)))) l0 (l0.length : Int) (wrap64 (x11_1 + 1))) else (none)) else (none)) else (none))) else (none)) else (none)) else (none)) = some r := H
       have A8 := mS A80
       clear A80
       obtain ⟨ji9, hji9⟩ : ∃ j_ : Int, (wrap64 (Int.tdiv t524 8)) = j_ := ⟨_, rfl⟩
       replace H : (if 0 ≤ (ji9) then (if (ji9) < (x3_1.length : Int) then (if 0 ≤ (Int.tmod t524 8) then ((some (x3_1.set ((ji9) : Int).toNat (Go.bits .or .u8 (rd x3_1 (ji9)) (shl .u8 1 (Int.tmod t524 8))) : List Int)).bind fun y527 => (if 0 ≤ (wrap64 (Int.tdiv t525 8)) then (if (wrap64 (Int.tdiv t525 8)) < (x3_1.length : Int) then (if 0 ≤ (Int.tmod t525 8) then (impl_Filter.l0 k1 (y527.set ((wrap64 (Int.tdiv t525 8)) : Int).toNat (Go.bits .or .u8 (rd y527 (wrap64 (Int.tdiv t525 8))) (shl .u8 1 (Int.tmod t525 8)))) l0 (l0.length : Int) (wrap64 (x11_1 + 1))) else (none)) else (none)) else (none))) else (none)) else (none)) else (none)) = some r := by first | (rw [hji9] at H; exact H) | (simp only [hji9] at H ⊢; exact H)
       (try rw [hji9] at A8)
       have hji9w : (IntKind.i64.wrap (Int.tdiv t524 8)) = ji9 := (i64_w _).trans hji9
       by_cases c10 : 0 ≤ (ji9)
       ·rw [if_pos c10] at H
        have c10b0 := decide_eq_true c10
        clear c10
        by_cases c11 : (ji9) < (x3_1.length : Int)
        ·rw [if_pos c11] at H
         have c11b0 := decide_eq_true c11
         clear c11
         obtain ⟨ji12, hji12⟩ : ∃ j_ : Int, (Int.tmod t524 8) = j_ := ⟨_, rfl⟩
         replace H : (if 0 ≤ (ji12) then ((some (x3_1.set ((ji9) : Int).toNat (Go.bits .or .u8 (rd x3_1 (ji9)) (shl .u8 1 (ji12))) : List Int)).bind fun y527 => (if 0 ≤ (wrap64 (Int.tdiv t525 8)) then (if (wrap64 (Int.tdiv t525 8)) < (x3_1.length : Int) then (if 0 ≤ (Int.tmod t525 8) then (impl_Filter.l0 k1 (y527.set ((wrap64 (Int.tdiv t525 8)) : Int).toNat (Go.bits .or .u8 (rd y527 (wrap64 (Int.tdiv t525 8))) (shl .u8 1 (Int.tmod t525 8)))) l0 (l0.length : Int) (wrap64 (x11_1 + 1))) else (none)) else (none)) else (none))) else (none)) = some r := by first | (rw [hji12] at H; exact H) | (simp only [hji12] at H ⊢; exact H)
         (try rw [hji12] at A8)
         by_cases c13 : 0 ≤ (ji12)
         ·rw [if_pos c13] at H
          have c13b0 := eq_true c13
          have c13b1 := decide_eq_true c13
          clear c13
          obtain ⟨ji14, hji14⟩ : ∃ j_ : Int, (shl .u8 1 (ji12)) = j_ := ⟨_, rfl⟩
          replace H : ((some (x3_1.set ((ji9) : Int).toNat (Go.bits .or .u8 (rd x3_1 (ji9)) (ji14)) : List Int)).bind fun y527 => (if 0 ≤ (wrap64 (Int.tdiv t525 8)) then (if (wrap64 (Int.tdiv t525 8)) < (x3_1.length : Int) then (if 0 ≤ (Int.tmod t525 8) then (impl_Filter.l0 k1 (y527.set ((wrap64 (Int.tdiv t525 8)) : Int).toNat (Go.bits .or .u8 (rd y527 (wrap64 (Int.tdiv t525 8))) (shl .u8 1 (Int.tmod t525 8)))) l0 (l0.length : Int) (wrap64 (x11_1 + 1))) else (none)) else (none)) else (none))) = some r := by first | (rw [hji14] at H; exact H) | (simp only [hji14] at H ⊢; exact H)
          (try rw [hji14] at A8)
          have hji14_ : (IntKind.u8.wrap (1 * 2 ^ min (ji12).toNat 8)) = ji14 := hji14
          have hji14z : (ji12) ≤ 8 → (IntKind.u8.wrap (1 * 2 ^ (ji12).toNat)) = ji14 := shl_small hji14
          have hji14u : (IntKind.u8.wrap (2 ^ min (ji12).toNat 8)) = ji14 := by have h_ := hji14_; rw [Int.one_mul] at h_; exact h_
          have hji14v : (ji12) ≤ 8 → (IntKind.u8.wrap (2 ^ (ji12).toNat)) = ji14 := fun hle_ => by have h_ := hji14z hle_; rw [Int.one_mul] at h_; exact h_
          obtain ⟨y527, hy527⟩ : ∃ y_ : List Int, y_ = (x3_1.set ((ji9) : Int).toNat (Go.bits .or .u8 (rd x3_1 (ji9)) (ji14))) := ⟨_, rfl⟩
          replace H : (if 0 ≤ (wrap64 (Int.tdiv t525 8)) then (if (wrap64 (Int.tdiv t525 8)) < (x3_1.length : Int) then (if 0 ≤ (Int.tmod t525 8) then (impl_Filter.l0 k1 (y527.set ((wrap64 (Int.tdiv t525 8)) : Int).toNat (Go.bits .or .u8 (rd y527 (wrap64 (Int.tdiv t525 8))) (shl .u8 1 (Int.tmod t525 8)))) l0 (l0.length : Int) (wrap64 (x11_1 + 1))) else (none)) else (none)) else (none)) = some r := by first | (rw [hy527]; with_reducible exact H) | (have H2_ := (Option.bind_some _ _).symm.trans H; rw [hy527]; with_reducible exact H2_) | (have H2_ := (Option.bind_some _ _).symm.trans H; with_reducible exact H2_) | with_reducible exact H | (rw [hy527]; exact H) | exact H
          have Ny527 := mS hy527
          clear hy527
          obtain ⟨ji16, hji16⟩ : ∃ j_ : Int, (wrap64 (Int.tdiv t525 8)) = j_ := ⟨_, rfl⟩
          replace H : (if 0 ≤ (ji16) then (if (ji16) < (x3_1.length : Int) then (if 0 ≤ (Int.tmod t525 8) then (impl_Filter.l0 k1 (y527.set ((ji16) : Int).toNat (Go.bits .or .u8 (rd y527 (ji16)) (shl .u8 1 (Int.tmod t525 8)))) l0 (l0.length : Int) (wrap64 (x11_1 + 1))) else (none)) else (none)) else (none)) = some r := by first | (rw [hji16] at H; exact H) | (simp only [hji16] at H ⊢; exact H)
          (try rw [hji16] at A8)
          have hji16w : (IntKind.i64.wrap (Int.tdiv t525 8)) = ji16 := (i64_w _).trans hji16
          by_cases c17 : 0 ≤ (ji16)
          ·rw [if_pos c17] at H
           have c17b0 := decide_eq_true c17
           clear c17
           by_cases c18 : (ji16) < (x3_1.length : Int)
           ·rw [if_pos c18] at H
            have c18b0 := decide_eq_true c18
            clear c18
            obtain ⟨ji19, hji19⟩ : ∃ j_ : Int, (Int.tmod t525 8) = j_ := ⟨_, rfl⟩
            replace H : (if 0 ≤ (ji19) then (impl_Filter.l0 k1 (y527.set ((ji16) : Int).toNat (Go.bits .or .u8 (rd y527 (ji16)) (shl .u8 1 (ji19)))) l0 (l0.length : Int) (wrap64 (x11_1 + 1))) else (none)) = some r := by first | (rw [hji19] at H; exact H) | (simp only [hji19] at H ⊢; exact H)
            (try rw [hji19] at A8)
            by_cases c20 : 0 ≤ (ji19)
            ·rw [if_pos c20] at H
             have c20b0 := eq_true c20
             have c20b1 := decide_eq_true c20
             clear c20
             obtain ⟨ji21, hji21⟩ : ∃ j_ : Int, (shl .u8 1 (ji19)) = j_ := ⟨_, rfl⟩
             replace H : (impl_Filter.l0 k1 (y527.set ((ji16) : Int).toNat (Go.bits .or .u8 (rd y527 (ji16)) (ji21))) l0 (l0.length : Int) (wrap64 (x11_1 + 1))) = some r := by first | (rw [hji21] at H; exact H) | (simp only [hji21] at H ⊢; exact H)
             (try rw [hji21] at A8)
             have hji21_ : (IntKind.u8.wrap (1 * 2 ^ min (ji19).toNat 8)) = ji21 := hji21
             have hji21z : (ji19) ≤ 8 → (IntKind.u8.wrap (1 * 2 ^ (ji19).toNat)) = ji21 := shl_small hji21
             have hji21u : (IntKind.u8.wrap (2 ^ min (ji19).toNat 8)) = ji21 := by have h_ := hji21_; rw [Int.one_mul] at h_; exact h_
             have hji21v : (ji19) ≤ 8 → (IntKind.u8.wrap (2 ^ (ji19).toNat)) = ji21 := fun hle_ => by have h_ := hji21z hle_; rw [Int.one_mul] at h_; exact h_
             obtain ⟨y529, hy529⟩ : ∃ y_ : List Int, y_ = (y527.set ((ji16) : Int).toNat (Go.bits .or .u8 (rd y527 (ji16)) (ji21))) := ⟨_, rfl⟩
             replace H : (impl_Filter.l0 k1 y529 l0 (l0.length : Int) (wrap64 (x11_1 + 1))) = some r := by first | (rw [hy529]; with_reducible exact H) | (have H2_ := (Option.bind_some _ _).symm.trans H; rw [hy529]; with_reducible exact H2_) | (have H2_ := (Option.bind_some _ _).symm.trans H; with_reducible exact H2_) | with_reducible exact H | (rw [hy529]; exact H) | exact H
             have Ny529 := mS hy529
             clear hy529
             have H' := mS H
             clear H
             have p523 : 0 ≤ (x11_1 : Int) := mD
             have q523 : x11_1 < (l0.length : Int) := mD
             obtain ⟨ad523, e523, hx523_0⟩ := Kd.at_string HR0.out x11_1 p523 q523
             cases e523
             replace hx523_0 := mX HB.out hx523_0
             replace p523 := eq_true p523
             replace q523 := eq_true q523
             try go_wp2_with (first | ((with_reducible refine gate_callee (f := 102) rfl ?_); refine mGo 17 Try.func102 #[.string (rdOf ByteArray.empty l0 x11_1)] ?_; (with_reducible refine (impl_Mark.calls k1 (rdOf ByteArray.empty l0 x11_1) t524 t525 _ A8.out).mono ?_); rintro e w23 ⟨rfl, hb⟩; refine ⟨_, rfl, ?_⟩; replace HO_3 := mS (Kd.R_below (mR HO_3.out) hb); replace HB := mS (below_step (mH HB.out) hb); (try clear hb)))
             replace HO_3 := mS (Kd.R_drew HO_3.out)
             replace HB := mS (below_drew1 HB.out)
             obtain ⟨Ao25, co25, eo25⟩ := Kd.R_slice HO_3.out
             (first | subst eo25 | (injection eo25 with f1_ f2_ f3_; have f4_ := f1_.symm; have f5_ := f3_.symm; clear f1_ f2_ f3_; subst f4_; subst f5_))
             have p526 : 0 ≤ ((ji9) : Int) := mD
             have q526 : (ji9) < (x3_1.length : Int) := mD
             obtain ⟨ad526, e526, hx526_0⟩ := Kd.at_int (Kd.R_reads' HO_3.out).2.2 (ji9) p526 q526
             cases e526
             replace p526 := eq_true p526
             replace q526 := eq_true q526
             have p15 : 0 ≤ ((ji9) : Int) := mD
             have q15 : ((ji9) : Int) < ((x3_1.length : Int) : Int) := mD
             obtain ⟨go15, co15, eo15, gb15, gl15, cl15, HG15⟩ := Kd.R_form HO_3.out (by omega)
             (first | cases eo15 | (injection eo15 with ea_ en_ ec_; (first | subst ea_ | (injection ea_ with ea_; subst ea_)); subst ec_; clear en_))
             have GB15 := mS gb15
             have GG15 := mS HG15
             clear gb15 gl15 HG15
             (first | simp only [add_plain] at hx526_0 | skip)
             obtain ⟨hx15_0, hf15_0⟩ := Kd.R_celln 0 HO_3.out ((ji9) : Int) p15 q15
             replace p15 := eq_true p15
             replace q15 := eq_true q15
             have HP26 := Kd.R_putn HO_3.out ((ji9) : Int) (Go.bits .or .u8 (rd x3_1 (ji9)) (ji14))
             rw [← Ny527.out] at HP26
             have HQ26 := mS HP26
             clear HP26
             refine start_ (n := 11) (S := fun w' => w'.cell? ⟨go15, ((ji9)).toNat, none⟩ = some (.int .u8 (rd x3_1 (ji9)))) (ds := [10]) (mb 0 11) (by kernel_rfl) rfl rfl (hx526_0) (fun hHeld => ?_); refine with_tabW impl_Filter.tab6 impl_Filter.bits6 (fun HT_ HW_ => ?_)
             generalize w23.drew = w24 at HO_3 HB GG15 HQ26 hf15_0 hx15_0 hx526_0 hHeld ⊢
             refine mpu 0 20 HT_.out (mb 1 10) ?_
             refine mpu 1 21 HT_.out (mb 2 9) ?_
             refine mpu 2 22 HT_.out (mb 3 8) ?_
             refine mpu 3 23 HT_.out (mb 4 7) ?_
             refine mpu 5 25 HT_.out (mr [4,1,1,5]) ?_
             refine mpu 6 26 HT_.out (mr [4,1,2,4]) ?_
             refine mpu 7 27 HT_.out (mr [4,1,3,3]) ?_
             refine take_ (i := 4) (N := some 24) (v := ?_) (a' := ?_) (mb 8 3) rfl rfl (take_ofW HT_.out HW_.out (by kernel_rfl)) (fun _ _ _ h => h) (Or.inl ⟨by rfl, ?_⟩) hHeld ?_ ?_
             rotate_left
             ·intro w' s0
              go_simp
              with_reducible rfl
             rotate_left
             ·simp only [Act.put, zA, zB, zC, i64_w, i32_w]
              rfl
             refine mpu 8 28 HT_.out (mb 9 2) ?_
             refine mpu 9 29 HT_.out (mb 10 1) ?_
             refine last_ (i := 10) (N := none) (mb 11 0) rfl rfl (one_of HT_.out (by kernel_rfl)) (by decide) (fun K hK => ?_)
             refine skip_ (w1 := ?_) (by rfl) rfl ?_ ?_
             rotate_left
             ·go_simp
              rfl
             refine hK.out _ _ ?_
             clear hK K
             refine done_ (done_of HT_.out (by kernel_rfl)) ?_
             try go_wp2
             generalize hW_ : (w24.setCell ⟨go15, ((ji9) : Int).toNat, none⟩ (.int .u8 (Go.bits .or .u8 (rd x3_1 (ji9)) (ji14)))) = w27
             replace HO_3 : Aside0 (Kd.R (Kd.int .u8) 5 w27 w.heap.size (fun _ => True) (.slice (some ⟨go15, 0, none⟩) x3_1.length co25) y527) := by rw [← hW_]; exact ⟨mR HQ26.out⟩
             replace HB : Aside0 (Below w.heap.size w w27) := by rw [← hW_]; exact ⟨mH1 HB.out GB15.out⟩
             clear hW_
             replace HO_3 := mS (Kd.R_drew HO_3.out)
             replace HB := mS (below_drew1 HB.out)
             have p528 : 0 ≤ ((ji16) : Int) := mD
             have q528 : (ji16) < (y527.length : Int) := (by have h_ : ((ji16) : Int) < ((x3_1.length : Int) : Int) := mD; first | (have e_ := (Kd.R_reads' HO_3.out).1; omega) | simpa only [Ny527.out, List.length_set] using h_)
             have ql528 : (((ji16) : Int) < ((x3_1.length : Int) : Int)) = True := eq_true (mD)
             obtain ⟨ad528, e528, hx528_0⟩ := Kd.at_int (Kd.R_reads' HO_3.out).2.2 (ji16) p528 q528
             obtain rfl : (⟨go15, 0, none⟩ : Addr) = ad528 := (by injection e528)
             (first | simp only [add_plain] at hx528_0 | simp only [add_at] at hx528_0 | simp only [Addr.add, Nat.zero_add] at hx528_0 | skip)
             replace p528 := eq_true p528
             replace q528 := eq_true q528
             have p22 : 0 ≤ ((ji16) : Int) := mD
             have q22 : ((ji16) : Int) < ((x3_1.length : Int) : Int) := mD
             obtain ⟨hx22_0, hf22_0⟩ := Kd.R_celln 0 HO_3.out ((ji16) : Int) p22 q22
             replace p22 := eq_true p22
             replace q22 := eq_true q22
             have HP29 := Kd.R_putn HO_3.out ((ji16) : Int) (Go.bits .or .u8 (rd y527 (ji16)) (ji21))
             rw [← Ny529.out] at HP29
             have HQ29 := mS HP29
             clear HP29
             refine start_ (n := 11) (S := fun w' => w'.cell? ⟨go15, ((ji16)).toNat, none⟩ = some (.int .u8 (rd y527 (ji16)))) (ds := [10]) (mb 0 11) (by kernel_rfl) rfl rfl (hx528_0) (fun hHeld => ?_); refine with_tabW impl_Filter.tab7 impl_Filter.bits7 (fun HT_ HW_ => ?_)
             generalize w27.drew = w28 at HO_3 HB HQ26 HQ29 hf22_0 hx22_0 hx528_0 hHeld ⊢
             refine mpu 0 30 HT_.out (mb 1 10) ?_
             refine mpu 1 31 HT_.out (mb 2 9) ?_
             refine mpu 2 32 HT_.out (mb 3 8) ?_
             refine mpu 3 33 HT_.out (mb 4 7) ?_
             refine mpu 5 35 HT_.out (mr [4,1,1,5]) ?_
             refine mpu 6 36 HT_.out (mr [4,1,2,4]) ?_
             refine mpu 7 37 HT_.out (mr [4,1,3,3]) ?_
             refine take_ (i := 4) (N := some 34) (v := ?_) (a' := ?_) (mb 8 3) rfl rfl (take_ofW HT_.out HW_.out (by kernel_rfl)) (fun _ _ _ h => h) (Or.inl ⟨by rfl, ?_⟩) hHeld ?_ ?_
             rotate_left
             ·intro w' s0
              go_simp
              with_reducible rfl
             rotate_left
             ·simp only [Act.put, zA, zB, zC, i64_w, i32_w]
              rfl
             refine mpu 8 38 HT_.out (mb 9 2) ?_
             refine mpu 9 39 HT_.out (mb 10 1) ?_
             refine last_ (i := 10) (N := none) (mb 11 0) rfl rfl (one_of HT_.out (by kernel_rfl)) (by decide) (fun K hK => ?_)
             refine skip_ (w1 := ?_) (by rfl) rfl ?_ ?_
             rotate_left
             ·go_simp
              rfl
             refine hK.out _ _ ?_
             clear hK K
             refine done_ (done_of HT_.out (by kernel_rfl)) ?_
             try go_wp2
             go_roundg k1
             case measure => have := HK1.out; omega
             case rel => exact ⟨(y529), (wrap64 (x11_1 + 1)), mE, H', ⟨by have := HK1.out; omega⟩, ⟨mR HQ29.out⟩, ⟨mH1 HB.out GB15.out⟩⟩
            ·rw [if_neg c20] at H
             exact absurd H (by simp)
           ·rw [if_neg c18] at H
            exact absurd H (by simp)
          ·rw [if_neg c17] at H
           exact absurd H (by simp)
         ·rw [if_neg c13] at H
          exact absurd H (by simp)
        ·rw [if_neg c11] at H
         exact absurd H (by simp)
       ·rw [if_neg c10] at H
        exact absurd H (by simp)
      ·rw [if_neg c7] at H
       exact absurd H (by simp)
     ·rw [if_neg c6] at H
      exact absurd H (by simp)
    ·rw [if_neg c5] at H
     have c5b0 := decide_eq_false c5
     clear c5
     obtain rfl := Option.some.inj H
     go_wp2
     go_ret
     exact ⟨_, mEw, mR HO_3.out, (mH HB.out)⟩
 ·rw [if_neg c2] at H
  exact absurd H (by simp)

end Go.Proofs.Ytecjamgajlpfdaa.MFnExactTablePairs
