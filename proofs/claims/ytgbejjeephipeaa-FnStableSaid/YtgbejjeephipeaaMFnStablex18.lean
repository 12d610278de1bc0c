-- Written by mp.py, this session's own printer (wip/mp.py).
import Derived.Test.YtgbejjeephipeaaVMShort
import Derived.Test.YtgbejjeephipeaaMFnStablex0
import Derived.Test.YtgbejjeephipeaaMFnStablex1
import Derived.Test.YtgbejjeephipeaaMFnStablex2
import Derived.Test.YtgbejjeephipeaaMFnStablex7
import Derived.Test.YtgbejjeephipeaaMFnStablex14
import Derived.Test.YtgbejjeephipeaaMFnStablex16
import Derived.Test.YtgbejjeephipeaaMFnStablex17
namespace Go.Proofs.Ytgbejjeephipeaa.MFnStable
open Go.RowKit Go.Proofs.YtgbejjeephipeaaW.PrintWords Go.Proofs.YtgbejjeephipeaaW.PrintLast Go.Proofs.YtgbejjeephipeaaW.PrintMore Go.Proofs.Ytgbejjeephipeaa.MWords
attribute [local go_sem] max2_int min2_int max_two min_two max_three min_three max_four min_four   -- for this text's walks alone
set_option linter.unusedVariables false
set_option linter.unusedSimpArgs false

attribute [local go_sem high] eqA31
/-! ### laws_FnStable: function 3 -/
mutual
def laws_FnStable.j0 : Nat → List Int → List (S31) → Bool → List (S33) → Option (Bool)
 | 0, _, _, _, _ => none
 | k + 1, x0, x4, x34, x420000 => if x34 = true then (some false) else ((laws_at.f x0 2).bind fun t423 => (if (x420000.length : Int) = 0 then (none) else (if 0 ≤ (Int.tmod t423 (x420000.length : Int)) then (if (Int.tmod t423 (x420000.length : Int)) < (x420000.length : Int) then (laws_FnStable.l0 k x4 (([(⟨(rd_T33 x420000 (Int.tmod t423 (x420000.length : Int))).f0.f0, (rd_T33 x420000 (Int.tmod t423 (x420000.length : Int))).f0.f1⟩ : S31)] : List (S31))) 0 x420000 ([] : List (S33))) else (none)) else (none))))
def laws_FnStable.l0 : Nat → List (S31) → List (S31) → Int → List (S33) → List (S33) → Option (Bool)
 | 0, _, _, _, _, _ => none
 | k + 1, x4, x7, x8, x420000, x427000 => if x8 < (x7.length : Int) then (laws_FnStable.l1 k x4 x7 x8 0 x420000 x427000) else ((impl_OrderOf.f k x427000).bind fun t447 => (if (t447.length : Int) = (x427000.length : Int) then (laws_FnStable.l3 k x4 t447 0 x427000) else (some false)))
def laws_FnStable.l1 : Nat → List (S31) → List (S31) → Int → Int → List (S33) → List (S33) → Option (Bool)
 | 0, _, _, _, _, _, _ => none
 | k + 1, x4, x7, x8, x9, x420000, x427000 => if x9 < (x420000.length : Int) then (if 0 ≤ x9 then (if 0 ≤ x8 then (if x8 < (x7.length : Int) then (if (!(((rd_T33 x420000 x9).f0.f0) == ((rd_T31 x7 x8).f0)) || (!(((rd_T33 x420000 x9).f0.f1) == ((rd_T31 x7 x8).f1)))) = true then (laws_FnStable.l1 k x4 x7 x8 (wrap64 (x9 + 1)) x420000 x427000) else ((impl_GraphPut.f k x427000 ((rd_T33 x420000 x9).f0.f0) ((rd_T33 x420000 x9).f0.f1) ((rd_T33 x420000 x9).f1)).bind fun bt433 => (if bt433.2 = true then (laws_FnStable.l2 k x4 x7 x8 x9 0 x420000 bt433.1) else (some false)))) else (none)) else (none)) else (none)) else (laws_FnStable.l0 k x4 x7 (wrap64 (x8 + 1)) x420000 x427000)
def laws_FnStable.l2 : Nat → List (S31) → List (S31) → Int → Int → Int → List (S33) → List (S33) → Option (Bool)
 | 0, _, _, _, _, _, _, _ => none
 | k + 1, x4, x7, x8, x9, x12, x420000, x427000 => if 0 ≤ x9 then (if x9 < (x420000.length : Int) then (if x12 < (((rd_T33 x420000 x9).f1).length : Int) then (if 0 ≤ x12 then ((laws_place.f k x7 ((rd_T31 ((rd_T33 x420000 x9).f1) x12).f0) ((rd_T31 ((rd_T33 x420000 x9).f1) x12).f1)).bind fun t441 => (if t441 < 0 then (if x7.length < 8796093022208 then (laws_FnStable.l2 k x4 (x7 ++ [(⟨(rd_T31 ((rd_T33 x420000 x9).f1) x12).f0, (rd_T31 ((rd_T33 x420000 x9).f1) x12).f1⟩ : S31)]) x8 x9 (wrap64 (x12 + 1)) x420000 x427000) else (none)) else (laws_FnStable.l2 k x4 x7 x8 x9 (wrap64 (x12 + 1)) x420000 x427000))) else (none)) else (laws_FnStable.l1 k x4 x7 x8 (wrap64 (x9 + 1)) x420000 x427000)) else (none)) else (none)
def laws_FnStable.l3 : Nat → List (S31) → List (S31) → Int → List (S33) → Option (Bool)
 | 0, _, _, _, _ => none
 | k + 1, x4, x13, x14, x427000 => if x14 < (x427000.length : Int) then (if 0 ≤ x14 then (laws_FnStable.l4 k x4 x13 x14 0 x427000 ((rd_T33 x427000 x14).f0.f0) ((rd_T33 x427000 x14).f0.f1)) else (none)) else (some true)
def laws_FnStable.l4 : Nat → List (S31) → List (S31) → Int → Int → List (S33) → Int → Int → Option (Bool)
 | 0, _, _, _, _, _, _, _ => none
 | k + 1, x4, x13, x14, x16, x427000, x452000, x452001 => if 0 ≤ x14 then (if x14 < (x427000.length : Int) then (if x16 < (((rd_T33 x427000 x14).f1).length : Int) then (if 0 ≤ x16 then ((laws_place.f k x4 x452000 x452001).bind fun t456 => ((laws_place.f k x4 ((rd_T31 ((rd_T33 x427000 x14).f1) x16).f0) ((rd_T31 ((rd_T33 x427000 x14).f1) x16).f1)).bind fun t457 => ((laws_place.f k x13 x452000 x452001).bind fun t458 => ((laws_place.f k x13 ((rd_T31 ((rd_T33 x427000 x14).f1) x16).f0) ((rd_T31 ((rd_T33 x427000 x14).f1) x16).f1)).bind fun t459 => (if ((decide (t456 < t457)) != (decide (t458 < t459))) = true then (some false) else (laws_FnStable.l4 k x4 x13 x14 (wrap64 (x16 + 1)) x427000 x452000 x452001)))))) else (none)) else (laws_FnStable.l3 k x4 x13 (wrap64 (x14 + 1)) x427000)) else (none)) else (none)
end
def laws_FnStable.f (k : Nat) (l0 : List Int) : Option (Bool) := (laws_big.f l0).bind fun t415 => (if t415 = true then (some true) else ((spec_DrawGraph.f k l0).bind fun t416 => ((impl_OrderOf.f k t416).bind fun t420 => (if (t420.length : Int) = (t416.length : Int) then (laws_FnStable.j0 k l0 t420 ((t420.length : Int) == 0) t416) else (laws_FnStable.j0 k l0 t420 true t416)))))
theorem laws_FnStable.mono_l : ∀ k, (∀ y0 y1 y2 y3, LeO (laws_FnStable.j0 k y0 y1 y2 y3) (laws_FnStable.j0 (k + 1) y0 y1 y2 y3)) ∧ (∀ y0 y1 y2 y3 y4, LeO (laws_FnStable.l0 k y0 y1 y2 y3 y4) (laws_FnStable.l0 (k + 1) y0 y1 y2 y3 y4)) ∧ (∀ y0 y1 y2 y3 y4 y5, LeO (laws_FnStable.l1 k y0 y1 y2 y3 y4 y5) (laws_FnStable.l1 (k + 1) y0 y1 y2 y3 y4 y5)) ∧ (∀ y0 y1 y2 y3 y4 y5 y6, LeO (laws_FnStable.l2 k y0 y1 y2 y3 y4 y5 y6) (laws_FnStable.l2 (k + 1) y0 y1 y2 y3 y4 y5 y6)) ∧ (∀ y0 y1 y2 y3, LeO (laws_FnStable.l3 k y0 y1 y2 y3) (laws_FnStable.l3 (k + 1) y0 y1 y2 y3)) ∧ (∀ y0 y1 y2 y3 y4 y5 y6, LeO (laws_FnStable.l4 k y0 y1 y2 y3 y4 y5 y6) (laws_FnStable.l4 (k + 1) y0 y1 y2 y3 y4 y5 y6))
 | 0 => ⟨fun _ _ _ _ r h => by simp [laws_FnStable.j0] at h, fun _ _ _ _ _ r h => by simp [laws_FnStable.l0] at h, fun _ _ _ _ _ _ r h => by simp [laws_FnStable.l1] at h, fun _ _ _ _ _ _ _ r h => by simp [laws_FnStable.l2] at h, fun _ _ _ _ r h => by simp [laws_FnStable.l3] at h, fun _ _ _ _ _ _ _ r h => by simp [laws_FnStable.l4] at h⟩
 | k + 1 => by
  obtain ⟨ih0, ih1, ih2, ih3, ih4, ih5⟩ := laws_FnStable.mono_l k
  refine ⟨?_, ?_, ?_, ?_, ?_, ?_⟩
  ·intro y0 y1 y2 y3
   unfold laws_FnStable.j0
   repeat' first
   | (with_reducible exact ih0 _ _ _ _)
   | (with_reducible exact ih1 _ _ _ _ _)
   | (with_reducible exact ih2 _ _ _ _ _ _)
   | (with_reducible exact ih3 _ _ _ _ _ _ _)
   | (with_reducible exact ih4 _ _ _ _)
   | (with_reducible exact ih5 _ _ _ _ _ _ _)
   | (with_reducible exact impl_GraphPut.mono _ _ _ _ _)
   | (with_reducible exact impl_OrderOf.mono _ _)
   | (with_reducible exact laws_place.mono _ _ _ _)
   | (with_reducible exact spec_DrawGraph.mono _ _)
   | (with_reducible exact LeO.refl _)
   | (with_reducible exact LeO.none _)
   | (with_reducible refine LeO.ite ?_ ?_)
   | (with_reducible refine LeO.bind ?_ (fun _ => ?_))
   | exact ih0 _ _ _ _
   | exact ih1 _ _ _ _ _
   | exact ih2 _ _ _ _ _ _
   | exact ih3 _ _ _ _ _ _ _
   | exact ih4 _ _ _ _
   | exact ih5 _ _ _ _ _ _ _
   | exact impl_GraphPut.mono _ _ _ _ _
   | exact impl_OrderOf.mono _ _
   | exact laws_place.mono _ _ _ _
   | exact spec_DrawGraph.mono _ _
   | exact LeO.none _
   | refine LeO.ite ?_ ?_
   | refine LeO.bind ?_ (fun _ => ?_)
  ·intro y0 y1 y2 y3 y4
   unfold laws_FnStable.l0
   repeat' first
   | (with_reducible exact ih0 _ _ _ _)
   | (with_reducible exact ih1 _ _ _ _ _)
   | (with_reducible exact ih2 _ _ _ _ _ _)
   | (with_reducible exact ih3 _ _ _ _ _ _ _)
   | (with_reducible exact ih4 _ _ _ _)
   | (with_reducible exact ih5 _ _ _ _ _ _ _)
   | (with_reducible exact impl_GraphPut.mono _ _ _ _ _)
   | (with_reducible exact impl_OrderOf.mono _ _)
   | (with_reducible exact laws_place.mono _ _ _ _)
   | (with_reducible exact spec_DrawGraph.mono _ _)
   | (with_reducible exact LeO.refl _)
   | (with_reducible exact LeO.none _)
   | (with_reducible refine LeO.ite ?_ ?_)
   | (with_reducible refine LeO.bind ?_ (fun _ => ?_))
   | exact ih0 _ _ _ _
   | exact ih1 _ _ _ _ _
   | exact ih2 _ _ _ _ _ _
   | exact ih3 _ _ _ _ _ _ _
   | exact ih4 _ _ _ _
   | exact ih5 _ _ _ _ _ _ _
   | exact impl_GraphPut.mono _ _ _ _ _
   | exact impl_OrderOf.mono _ _
   | exact laws_place.mono _ _ _ _
   | exact spec_DrawGraph.mono _ _
   | exact LeO.none _
   | refine LeO.ite ?_ ?_
   | refine LeO.bind ?_ (fun _ => ?_)
  ·intro y0 y1 y2 y3 y4 y5
   unfold laws_FnStable.l1
   repeat' first
   | (with_reducible exact ih0 _ _ _ _)
   | (with_reducible exact ih1 _ _ _ _ _)
   | (with_reducible exact ih2 _ _ _ _ _ _)
   | (with_reducible exact ih3 _ _ _ _ _ _ _)
   | (with_reducible exact ih4 _ _ _ _)
   | (with_reducible exact ih5 _ _ _ _ _ _ _)
   | (with_reducible exact impl_GraphPut.mono _ _ _ _ _)
   | (with_reducible exact impl_OrderOf.mono _ _)
   | (with_reducible exact laws_place.mono _ _ _ _)
   | (with_reducible exact spec_DrawGraph.mono _ _)
   | (with_reducible exact LeO.refl _)
   | (with_reducible exact LeO.none _)
   | (with_reducible refine LeO.ite ?_ ?_)
   | (with_reducible refine LeO.bind ?_ (fun _ => ?_))
   | exact ih0 _ _ _ _
   | exact ih1 _ _ _ _ _
   | exact ih2 _ _ _ _ _ _
   | exact ih3 _ _ _ _ _ _ _
   | exact ih4 _ _ _ _
   | exact ih5 _ _ _ _ _ _ _
   | exact impl_GraphPut.mono _ _ _ _ _
   | exact impl_OrderOf.mono _ _
   | exact laws_place.mono _ _ _ _
   | exact spec_DrawGraph.mono _ _
   | exact LeO.none _
   | refine LeO.ite ?_ ?_
   | refine LeO.bind ?_ (fun _ => ?_)
  ·intro y0 y1 y2 y3 y4 y5 y6
   unfold laws_FnStable.l2
   repeat' first
   | (with_reducible exact ih0 _ _ _ _)
   | (with_reducible exact ih1 _ _ _ _ _)
   | (with_reducible exact ih2 _ _ _ _ _ _)
   | (with_reducible exact ih3 _ _ _ _ _ _ _)
   | (with_reducible exact ih4 _ _ _ _)
   | (with_reducible exact ih5 _ _ _ _ _ _ _)
   | (with_reducible exact impl_GraphPut.mono _ _ _ _ _)
   | (with_reducible exact impl_OrderOf.mono _ _)
   | (with_reducible exact laws_place.mono _ _ _ _)
   | (with_reducible exact spec_DrawGraph.mono _ _)
   | (with_reducible exact LeO.refl _)
   | (with_reducible exact LeO.none _)
   | (with_reducible refine LeO.ite ?_ ?_)
   | (with_reducible refine LeO.bind ?_ (fun _ => ?_))
   | exact ih0 _ _ _ _
   | exact ih1 _ _ _ _ _
   | exact ih2 _ _ _ _ _ _
   | exact ih3 _ _ _ _ _ _ _
   | exact ih4 _ _ _ _
   | exact ih5 _ _ _ _ _ _ _
   | exact impl_GraphPut.mono _ _ _ _ _
   | exact impl_OrderOf.mono _ _
   | exact laws_place.mono _ _ _ _
   | exact spec_DrawGraph.mono _ _
   | exact LeO.none _
   | refine LeO.ite ?_ ?_
   | refine LeO.bind ?_ (fun _ => ?_)
  ·intro y0 y1 y2 y3
   unfold laws_FnStable.l3
   repeat' first
   | (with_reducible exact ih0 _ _ _ _)
   | (with_reducible exact ih1 _ _ _ _ _)
   | (with_reducible exact ih2 _ _ _ _ _ _)
   | (with_reducible exact ih3 _ _ _ _ _ _ _)
   | (with_reducible exact ih4 _ _ _ _)
   | (with_reducible exact ih5 _ _ _ _ _ _ _)
   | (with_reducible exact impl_GraphPut.mono _ _ _ _ _)
   | (with_reducible exact impl_OrderOf.mono _ _)
   | (with_reducible exact laws_place.mono _ _ _ _)
   | (with_reducible exact spec_DrawGraph.mono _ _)
   | (with_reducible exact LeO.refl _)
   | (with_reducible exact LeO.none _)
   | (with_reducible refine LeO.ite ?_ ?_)
   | (with_reducible refine LeO.bind ?_ (fun _ => ?_))
   | exact ih0 _ _ _ _
   | exact ih1 _ _ _ _ _
   | exact ih2 _ _ _ _ _ _
   | exact ih3 _ _ _ _ _ _ _
   | exact ih4 _ _ _ _
   | exact ih5 _ _ _ _ _ _ _
   | exact impl_GraphPut.mono _ _ _ _ _
   | exact impl_OrderOf.mono _ _
   | exact laws_place.mono _ _ _ _
   | exact spec_DrawGraph.mono _ _
   | exact LeO.none _
   | refine LeO.ite ?_ ?_
   | refine LeO.bind ?_ (fun _ => ?_)
  ·intro y0 y1 y2 y3 y4 y5 y6
   unfold laws_FnStable.l4
   repeat' first
   | (with_reducible exact ih0 _ _ _ _)
   | (with_reducible exact ih1 _ _ _ _ _)
   | (with_reducible exact ih2 _ _ _ _ _ _)
   | (with_reducible exact ih3 _ _ _ _ _ _ _)
   | (with_reducible exact ih4 _ _ _ _)
   | (with_reducible exact ih5 _ _ _ _ _ _ _)
   | (with_reducible exact impl_GraphPut.mono _ _ _ _ _)
   | (with_reducible exact impl_OrderOf.mono _ _)
   | (with_reducible exact laws_place.mono _ _ _ _)
   | (with_reducible exact spec_DrawGraph.mono _ _)
   | (with_reducible exact LeO.refl _)
   | (with_reducible exact LeO.none _)
   | (with_reducible refine LeO.ite ?_ ?_)
   | (with_reducible refine LeO.bind ?_ (fun _ => ?_))
   | exact ih0 _ _ _ _
   | exact ih1 _ _ _ _ _
   | exact ih2 _ _ _ _ _ _
   | exact ih3 _ _ _ _ _ _ _
   | exact ih4 _ _ _ _
   | exact ih5 _ _ _ _ _ _ _
   | exact impl_GraphPut.mono _ _ _ _ _
   | exact impl_OrderOf.mono _ _
   | exact laws_place.mono _ _ _ _
   | exact spec_DrawGraph.mono _ _
   | exact LeO.none _
   | refine LeO.ite ?_ ?_
   | refine LeO.bind ?_ (fun _ => ?_)
theorem laws_FnStable.mono : ∀ a0 k, LeO (laws_FnStable.f k a0) (laws_FnStable.f (k + 1) a0) := by
 intro a0 k
 obtain ⟨ih0, ih1, ih2, ih3, ih4, ih5⟩ := laws_FnStable.mono_l k
 unfold laws_FnStable.f
 repeat' first
   | (with_reducible exact ih0 _ _ _ _)
   | (with_reducible exact ih1 _ _ _ _ _)
   | (with_reducible exact ih2 _ _ _ _ _ _)
   | (with_reducible exact ih3 _ _ _ _ _ _ _)
   | (with_reducible exact ih4 _ _ _ _)
   | (with_reducible exact ih5 _ _ _ _ _ _ _)
   | (with_reducible exact impl_GraphPut.mono _ _ _ _ _)
   | (with_reducible exact impl_OrderOf.mono _ _)
   | (with_reducible exact laws_place.mono _ _ _ _)
   | (with_reducible exact spec_DrawGraph.mono _ _)
   | (with_reducible exact LeO.refl _)
   | (with_reducible exact LeO.none _)
   | (with_reducible refine LeO.ite ?_ ?_)
   | (with_reducible refine LeO.bind ?_ (fun _ => ?_))
   | exact ih0 _ _ _ _
   | exact ih1 _ _ _ _ _
   | exact ih2 _ _ _ _ _ _
   | exact ih3 _ _ _ _ _ _ _
   | exact ih4 _ _ _ _
   | exact ih5 _ _ _ _ _ _ _
   | exact impl_GraphPut.mono _ _ _ _ _
   | exact impl_OrderOf.mono _ _
   | exact laws_place.mono _ _ _ _
   | exact spec_DrawGraph.mono _ _
   | exact LeO.none _
   | refine LeO.ite ?_ ?_
   | refine LeO.bind ?_ (fun _ => ?_)
def laws_FnStable.T7 : Bool × List (List Nat × List Nat) := (true, [([], []), ([0], [0]), ([], []), ([2], [2]), ([], []), ([4], [4]), ([5], [5]), ([3, 6], [3, 6]), ([1, 7], [1, 7]), ([8], [8]), ([9], [9]), ([], []), ([11, 10, 3, 0, 1, 2, 3, 4, 5, 6, 7, 8, 9, 10, 11], [10, 11])])
def laws_FnStable.B7 : List Nat := [0, 1, 0, 4, 0, 16, 48, 124, 255, 511, 1023, 0, 4095]
theorem laws_FnStable.tab7 : rtab .any (opsOf Try.f3 7) = laws_FnStable.T7 := by kernel_rfl
theorem laws_FnStable.bits7 : waitsOk laws_FnStable.T7.2 laws_FnStable.B7 = true := by kernel_rfl
def laws_FnStable.T16 : Bool × List (List Nat × List Nat) := (true, [([], []), ([0], [0]), ([], []), ([1, 2], [1, 2]), ([3], [3]), ([4], [4]), ([], []), ([], []), ([6, 7], [6, 7]), ([8], [8]), ([5, 9], [5, 9])])
def laws_FnStable.B16 : List Nat := [0, 1, 0, 7, 15, 31, 0, 0, 192, 448, 1023]
theorem laws_FnStable.tab16 : rtab .any (opsOf Try.f3 16) = laws_FnStable.T16 := by kernel_rfl
theorem laws_FnStable.bits16 : waitsOk laws_FnStable.T16.2 laws_FnStable.B16 = true := by kernel_rfl
def laws_FnStable.T17 : Bool × List (List Nat × List Nat) := (true, [([], []), ([], []), ([1], [1]), ([], []), ([2, 3], [2, 3]), ([4], [4]), ([0, 5], [0, 5]), ([6], [6]), ([7], [7]), ([7], [7]), ([], []), ([10, 8, 6, 0, 1, 2, 3, 4, 5, 6, 7, 8, 10], [8, 10]), ([9, 11, 0, 1, 2, 3, 4, 5, 6, 7, 8, 9, 10, 11], [9])])
def laws_FnStable.B17 : List Nat := [0, 0, 2, 0, 14, 30, 63, 127, 255, 255, 0, 1535, 4095]
theorem laws_FnStable.tab17 : rtab .any (opsOf Try.f3 17) = laws_FnStable.T17 := by kernel_rfl
theorem laws_FnStable.bits17 : waitsOk laws_FnStable.T17.2 laws_FnStable.B17 = true := by kernel_rfl
def laws_FnStable.T37 : Bool × List (List Nat × List Nat) := (true, [([], []), ([], []), ([0, 1], [0, 1]), ([], []), ([], []), ([3, 4, 2], [3, 4]), ([2, 5], [2, 5]), ([], []), ([], []), ([7, 8, 5], [7, 8]), ([], []), ([], []), ([10, 11, 9], [10, 11]), ([9, 12], [9, 12]), ([6, 13], [6, 13])])
def laws_FnStable.B37 : List Nat := [0, 0, 3, 0, 0, 31, 63, 0, 0, 447, 0, 0, 4031, 8127, 16383]
theorem laws_FnStable.tab37 : rtab .any (opsOf Try.f3 37) = laws_FnStable.T37 := by kernel_rfl
theorem laws_FnStable.bits37 : waitsOk laws_FnStable.T37.2 laws_FnStable.B37 = true := by kernel_rfl
set_option maxHeartbeats 8000000 in
set_option maxRecDepth 100000 in
theorem laws_FnStable.calls (k : Nat) (A0 : Option Addr) (c0 : Nat) (l0 : List Int) (r : Bool) (w : World) (hr0 : Kd.C (Kd.int .u8) w A0 l0.length l0) (hc0 : l0.length ≤ c0) (ht_ : r = true) (h : laws_FnStable.f k l0 = some r) :
  Calls Try.prog 3 #[.slice A0 l0.length c0] w fun e w' => e = .returned (.bool r) ∧ Below w.heap.size w w' := by
 have hu26 := Try.underlying26
 have hfd26 : ∀ (v : Value) (w : World), (Instr.field 26 (.agg #[v]) 0).run Try.prog w = .ok v w := fun _ _ => by first | kernel_rfl | rfl
 have hu31 := Try.underlying31
 have hu33 := Try.underlying33
 have HR0 := mS hr0
 have HC0 := mS hc0
 clear hr0 hc0
 have HB := mS (Below.refl w.heap.size w)
 have H : ((laws_big.f l0).bind fun t415 => (if t415 = true then (some true) else ((spec_DrawGraph.f k l0).bind fun t416 => ((impl_OrderOf.f k t416).bind fun t420 => (if (t420.length : Int) = (t416.length : Int) then (laws_FnStable.j0 k l0 t420 ((t420.length : Int) == 0) t416) else (laws_FnStable.j0 k l0 t420 true t416)))))) = some r := h
 clear h
 replace H := Option.bind_eq_some_iff.mp H
 obtain ⟨t415, A20, H⟩ := H
 replace H : (if t415 = true then (some true) else ((spec_DrawGraph.f k l0).bind fun t416 => ((impl_OrderOf.f k t416).bind fun t420 => (if (t420.length : Int) = (t416.length : Int) then (laws_FnStable.j0 k l0 t420 ((t420.length : Int) == 0) t416) else (laws_FnStable.j0 k l0 t420 true t416))))) = some r := H
 have A2 := mS A20
 clear A20
 by_cases c3 : t415 = true
 ·subst c3
  have H1 := H
  rw [if_pos rfl] at H1
  clear H
  have H := H1
  clear H1
  obtain rfl := Option.some.inj H
  go_enter Try.func3, Try.ntmps3
  go_wp2_with (first | ((with_reducible refine gate_callee (f := 13) rfl ?_); refine mGo 19 Try.func13 #[.slice A0 l0.length c0] ?_; (with_reducible refine (laws_big.calls _ _ l0 true _ ?side1 ?side2 A2.out).mono ?_); (case side1 => exact mC HR0.out); (case side2 => exact HC0.out); rintro e w' ⟨rfl, ⟨nd, rfl⟩⟩; refine ⟨_, rfl, ?_⟩))
  go_ret
  exact ⟨mEw, (mH HB.out)⟩
 ·replace c3 := Bool.eq_false_iff.mpr c3
  subst c3
  have H1 := H
  rw [if_neg (show ¬ (false = true) by decide)] at H1
  clear H
  have H := H1
  clear H1
  replace H := Option.bind_eq_some_iff.mp H
  obtain ⟨t416, A40, H⟩ := H
  replace H : ((impl_OrderOf.f k t416).bind fun t420 => (if (t420.length : Int) = (t416.length : Int) then (laws_FnStable.j0 k l0 t420 ((t420.length : Int) == 0) t416) else (laws_FnStable.j0 k l0 t420 true t416))) = some r := H
  have A4 := mS A40
  clear A40
  replace H := Option.bind_eq_some_iff.mp H
  obtain ⟨t420, A50, H⟩ := H
  replace H : (if (t420.length : Int) = (t416.length : Int) then (laws_FnStable.j0 k l0 t420 ((t420.length : Int) == 0) t416) else (laws_FnStable.j0 k l0 t420 true t416)) = some r := H
  have A5 := mS A50
  clear A50
  have HC6 := mS H
  clear H
  go_enter Try.func3, Try.ntmps3
  go_upto_region 5 with (first | ((with_reducible refine gate_callee (f := 13) rfl ?_); refine mGo 19 Try.func13 #[.slice A0 l0.length c0] ?_; (with_reducible refine (laws_big.calls _ _ l0 false _ ?side1 ?side2 A2.out).mono ?_); (case side1 => exact mC HR0.out); (case side2 => exact HC0.out); rintro e w' ⟨rfl, ⟨nd, rfl⟩⟩; refine ⟨_, rfl, ?_⟩) | ((with_reducible refine gate_callee (f := 14) rfl ?_); refine mGo 21 Try.func14 #[.slice A0 l0.length c0] ?_; (with_reducible refine (spec_DrawGraph.calls k _ _ l0 t416 _ ?side1 ?side2 A4.out).mono ?_); (case side1 => exact mC HR0.out); (case side2 => exact HC0.out); rintro e w7 ⟨v417, rfl, ho0, hb⟩; refine ⟨_, rfl, ?_⟩; have HO418 := mS (Kd.N_lower (Kd.N_mono (ok' := fun k_ => True) (Kd.S_N (Kd.S_bound ho0)) (fun k_ hk_ => trivial)) (below_size (mH HB.out))); replace HB := mS (below_step (mH HB.out) hb); (try clear hb); (try clear ho0)) | ((with_reducible refine gate_dst (N := 3) rfl ?_); (try (refine gate_guard (by rfl) ?_; dsimp only)); refine mBx 3 #[.slice none 0 0] 26 ?_; intro gb419 hg w8 hbox hb; replace HO418 := mS (Kd.N_below (Kd.N_elderB (mNd HO418.out) gb419 (Nat.le_of_eq hg.symm)) hb); have BK419 := mS (hbox); have GW419 := mG hg (mH HB.out); have GE419 := mG hg (mH HB.out); replace HB := mS (below_step (mH HB.out) hb); clear hb hbox hg; obtain ⟨Ao9, co9, eo9⟩ := Kd.N_slice HO418.out; subst eo9; have hcz10_0 := mZ BK419.out 0; have hfz10_0 := blk_frozen BK419.out 0) | ((with_reducible refine gate_callee (f := 15) rfl ?_); refine mGo 23 Try.func15 #[.agg #[.slice Ao9 t416.length co9]] ?_; (with_reducible refine (impl_OrderOf.calls k _ _ t416 t420 _ ?side1 ?side2 A5.out).mono ?_); (case side1 => refine (Kd.N_reads' (e := 33) (base := w.heap.size) (ok := fun k_ => (True ∧ k_ ≠ gb419)) (n := t416.length) (c := co9) ?_).2.2; exact (by refine mNd ?_; exact (Kd.N_mono (Kd.N_far (p := ⟨gb419, 0, none⟩) (Kd.N_mono HO418.out (fun k_ hk => (⟨hk, hk.2⟩ : _ ∧ k_ ≠ gb419))) (fun _ hk => hk.2) (.slice Ao9 t416.length co9)) (fun _ h_ => h_.1)))); (case side2 => exact (Kd.N_reads' HO418.out).2.1); rintro e w11 ⟨v421, rfl, ho0, hb⟩; refine ⟨_, rfl, ?_⟩; replace HO418 := mS (Kd.N_elder' (by refine mNd ?_; exact (Kd.N_mono (Kd.N_far (p := ⟨gb419, 0, none⟩) (Kd.N_mono HO418.out (fun k_ hk => (⟨hk, hk.2⟩ : _ ∧ k_ ≠ gb419))) (fun _ hk => hk.2) (.slice Ao9 t416.length co9)) (fun _ h_ => h_.1))) (Kd.R_base ho0) hb); have HO422 := mS (Kd.R_lower ho0 (below_size (mH1 HB.out GE419.out))); replace BK419 := mS (blk_below (g := gb419) (o := .cells #[.slice Ao9 t416.length co9] 26 (0, 0)) (by refine mK ?_; refine blk_put (cs := #[.slice none 0 0]) ?_ 0 _ rfl; refine mK ?_; exact BK419.out) hb); replace HB := mS (below_step (mH1 HB.out GE419.out) hb); (try clear hb); (try clear ho0)))
  (try simp only [Act.put, zA, zB, zC])
  go_cut [34] (fun v34 wc => ∃ (kq : Nat) (x34_5 : Bool), v34 = .bool x34_5 ∧ Aside0 (laws_FnStable.j0 kq l0 t420 x34_5 t416 = some r) ∧ Aside0 (kq ≤ k) ∧ Aside0 (Kd.R k31 31 wc w.heap.size (fun _ => True) v421 t420) ∧ Aside0 (Kd.N k33 33 wc w.heap.size (fun k_ => some k_ ≠ (v421 : Value).ownBlock ∧ k_ ≠ gb419) (.slice Ao9 t416.length co9) t416) ∧ Aside0 (wc.heap[gb419]? = some (.cells #[(.slice Ao9 t416.length co9)] 26 (0, 0))) ∧ Aside0 (Below w.heap.size w wc))
  case first =>
   have H := HC6.out
   clear HC6
   by_cases c12 : (t420.length : Int) = (t416.length : Int)
   ·rw [if_pos c12] at H
    have c12b0 : ((t420.length : Int) == (t416.length : Int)) = true := beq_iff_eq.mpr c12
    have c12b1 : ((t420.length : Int) != (t416.length : Int)) = false := bne_eq_false_iff_eq.mpr c12
    have c12b2 : (t420.length == t416.length) = true := by first | simpa using c12 | (simp at c12 ⊢; omega)
    clear c12
    (first | rw [c12b0] | (simp only [i64_w, i32_w]; rw [c12b0]) | skip)
    have H' := mS H
    clear H
    obtain ⟨Ao13, co13, eo13⟩ := Kd.R_slice HO422.out
    subst eo13
    have hcz14_0 := mZ BK419.out 0
    have hfz14_0 := blk_frozen BK419.out 0
    go_wp2
    go_meet
    case rel => exact ⟨_, (((t420.length : Int) == 0)), mE, H', ⟨by first | omega | exact Nat.le_refl _⟩, ⟨mR HO422.out⟩, ⟨by refine mNd ?_; exact Kd.N_mono HO418.out (fun _ hk => ⟨hk.2, hk.1.2⟩)⟩, ⟨mK BK419.out⟩, ⟨(mH1 HB.out GE419.out)⟩⟩
   ·rw [if_neg c12] at H
    have c12b0 : ((t420.length : Int) == (t416.length : Int)) = false := beq_eq_false_iff_ne.mpr c12
    have c12b1 : ((t420.length : Int) != (t416.length : Int)) = true := bne_iff_ne.mpr c12
    have c12b2 : (t420.length == t416.length) = false := by first | simpa using c12 | (simp at c12 ⊢; omega)
    (first | rw [c12b0] | (simp only [i64_w, i32_w]; rw [c12b0]) | skip)
    have H' := mS H
    clear H
    obtain ⟨Ao15, co15, eo15⟩ := Kd.R_slice HO422.out
    subst eo15
    have hcz16_0 := mZ BK419.out 0
    have hfz16_0 := blk_frozen BK419.out 0
    go_wp2
    go_meet
    case rel => exact ⟨_, (true), mE, H', ⟨by first | omega | exact Nat.le_refl _⟩, ⟨mR HO422.out⟩, ⟨by refine mNd ?_; exact Kd.N_mono HO418.out (fun _ hk => ⟨hk.2, hk.1.2⟩)⟩, ⟨mK BK419.out⟩, ⟨(mH1 HB.out GE419.out)⟩⟩
  case rest =>
   clear HC6
   try clear c1
   try clear p2
   try clear c3
   try clear c12
   try clear c12b0
   try clear c12b1
   try clear c12b2
   try clear c13
   try clear c14
   try clear c15
   try clear hcz10_0
   try clear hcz14_0
   try clear hcz16_0
   try clear hfz10_0
   try clear hfz14_0
   try clear hfz16_0
   obtain ⟨kq, x34_5, rfl, HA, HJ5, HO_4, HO_420000, BK419, HB⟩ := hcut
   cases kq with
   | zero => exact absurd HA.out (by simp [laws_FnStable.j0])
   | succ kj5 =>
    have H := HA.out
    clear HA
    simp only [laws_FnStable.j0] at H
    by_cases c17 : x34_5 = true
    ·subst c17
     have H1 := H
     rw [if_pos rfl] at H1
     clear H
     have H := H1
     clear H1
     exact absurd ((Option.some.inj H).trans ht_) (by decide)
    ·replace c17 := Bool.eq_false_iff.mpr c17
     subst c17
     have H1 := H
     rw [if_neg (show ¬ (false = true) by decide)] at H1
     clear H
     have H := H1
     clear H1
     replace H := Option.bind_eq_some_iff.mp H
     obtain ⟨t423, A180, H⟩ := H
     replace H : (if (t416.length : Int) = 0 then (none) else (if 0 ≤ (Int.tmod t423 (t416.length : Int)) then (if (Int.tmod t423 (t416.length : Int)) < (t416.length : Int) then (laws_FnStable.l0 kj5 t420 (([(⟨(rd_T33 t416 (Int.tmod t423 (t416.length : Int))).f0.f0, (rd_T33 t416 (Int.tmod t423 (t416.length : Int))).f0.f1⟩ : S31)] : List (S31))) 0 t416 ([] : List (S33))) else (none)) else (none))) = some r := H
     have A18 := mS A180
     clear A180
     by_cases c19 : (t416.length : Int) = 0
     ·rw [if_pos c19] at H
      exact absurd H (by simp)
     ·rw [if_neg c19] at H
      have c19b0 : ((t416.length : Int) == 0) = false := beq_eq_false_iff_ne.mpr c19
      have c19b1 : ((t416.length : Int) != 0) = true := bne_iff_ne.mpr c19
      have c19b2 : ¬ (t416 = []) := fun h_ => c19 (by rw [h_]; rfl)
      obtain ⟨ji20, hji20⟩ : ∃ j_ : Int, (Int.tmod t423 (t416.length : Int)) = j_ := ⟨_, rfl⟩
      replace H : (if 0 ≤ (ji20) then (if (ji20) < (t416.length : Int) then (laws_FnStable.l0 kj5 t420 (([(⟨(rd_T33 t416 (ji20)).f0.f0, (rd_T33 t416 (ji20)).f0.f1⟩ : S31)] : List (S31))) 0 t416 ([] : List (S33))) else (none)) else (none)) = some r := by first | (rw [hji20] at H; exact H) | (simp only [hji20] at H ⊢; exact H)
      (try rw [hji20] at A18)
      by_cases c21 : 0 ≤ (ji20)
      ·rw [if_pos c21] at H
       have c21b0 := decide_eq_true c21
       clear c21
       by_cases c22 : (ji20) < (t416.length : Int)
       ·rw [if_pos c22] at H
        have c22b0 := decide_eq_true c22
        clear c22
        obtain ⟨y427, hy427⟩ : ∃ y_ : List (S31), y_ = (([(⟨(rd_T33 t416 (ji20)).f0.f0, (rd_T33 t416 (ji20)).f0.f1⟩ : S31)] : List (S31))) := ⟨_, rfl⟩
        replace H : (laws_FnStable.l0 kj5 t420 y427 0 t416 ([] : List (S33))) = some r := by first | (rw [hy427]; with_reducible exact H) | (have H2_ := (Option.bind_some _ _).symm.trans H; rw [hy427]; with_reducible exact H2_) | (have H2_ := (Option.bind_some _ _).symm.trans H; with_reducible exact H2_) | with_reducible exact H | (rw [hy427]; exact H) | exact H
        have Ny427 := mS hy427
        clear hy427
        have H' := mS H
        clear H
        try go_wp2
        replace HO_4 := mS (Kd.R_drew HO_4.out)
        replace HO_420000 := mS (Kd.N_drew HO_420000.out)
        replace BK419 := mS (blk_drew BK419.out)
        replace HB := mS (below_drew1 HB.out)
        have p424 : 0 ≤ ((ji20) : Int) := mD
        have q424 : (ji20) < (t416.length : Int) := mD
        obtain ⟨ad424, A424_2, c424_2, e424, hx424_0, hx424_1, hx424_2, hl424_2, hi424_2⟩ := at_T33 (Kd.N_reads' HO_420000.out).2.2 (ji20) p424 q424
        cases e424
        obtain ⟨ce424, hce424, hMe424, hcc424⟩ := Kd.N_get HO_420000.out z33 (ji20) p424 (by first | exact q424 | exact mD | (have e_ := (Kd.N_reads' HO_420000.out).1; omega))
        obtain ⟨ua424_2, uc424_2, rfl, ul424_2, ge424_2⟩ := k33_openF hMe424
        have hv424_2 := hcc424 2 _ rfl
        rw [add_field _ _ 2 (by omega)] at hv424_2
        replace hv424_2 := Option.some.inj (hv424_2.symm.trans hx424_2)
        injection hv424_2 with hva_ hvn_ hvc_
        rw [hva_] at ge424_2
        rw [hvc_] at ul424_2
        have HL424_2 := mS (show Kd.V k31 31 _ w.heap.size _ _ ((rd_T33 t416 (ji20)).f1) from Kd.V_mk ul424_2 ge424_2)
        clear hva_ hvn_ hvc_ ge424_2 ul424_2
        clear hcc424 hce424
        have HR424_2 := mS hi424_2
        have HC424_2 := mS hl424_2
        clear hi424_2 hl424_2
        replace p424 := eq_true p424
        replace q424 := eq_true q424
        refine start_ (n := 13) (S := fun w' => w'.cell? ⟨gb419, 0, none⟩ = some (.slice (some ad424) t416.length co9) ∧ w'.cell? (ad424.add (((ji20)).toNat * 3)) = some (.int .i64 ((rd_T33 t416 (ji20)).f0.f0)) ∧ w'.cell? ⟨(ad424.add (((ji20)).toNat * 3)).block, (ad424.add (((ji20)).toNat * 3)).off + 1, none⟩ = some (.int .i64 ((rd_T33 t416 (ji20)).f0.f1)) ∧ w'.cell? ⟨(ad424.add (((ji20)).toNat * 3)).block, (ad424.add (((ji20)).toNat * 3)).off + 2, none⟩ = some (.slice A424_2 ((rd_T33 t416 (ji20)).f1).length c424_2)) (ds := []) (mb 0 13) (by kernel_rfl) rfl rfl ⟨mZ BK419.out 0, hx424_0, hx424_1, hx424_2⟩ (fun hHeld => ?_); refine with_tabW laws_FnStable.tab7 laws_FnStable.bits7 (fun HT_ HW_ => ?_)
        generalize wc.drew = w23 at HO_4 HO_420000 BK419 HB HL424_2 HR424_2 hx424_0 hx424_1 hx424_2 hHeld ⊢
        refine mpu 0 35 HT_.out (mb 1 12) ?_
        refine mpu 2 37 HT_.out (mr [1,1,1,10]) ?_
        refine mpu 4 39 HT_.out (mr [1,1,1,1,1,8]) ?_
        refine mpt 1 36 HT_.out HW_.out (mr [3,1,1,8]) hHeld ?_
        refine mpt 5 40 HT_.out HW_.out (mr [3,1,2,7]) hHeld ?_
        refine mpu 6 41 HT_.out (mr [3,1,3,6]) ?_
        refine join_ (σ := Nat) 1 (mb 12 1) (fun s_ => [(38, .int .i64 t423), (5, .pointer (some ⟨s_, 0, none⟩)), (42, .int .i64 ji20), (43, .pointer (some (ad424.add (((ji20)).toNat * 3)))), (44, .pointer (some (ad424.add (((ji20)).toNat * 3)))), (45, .agg #[.int .i64 ((rd_T33 t416 (ji20)).f0.f0), .int .i64 ((rd_T33 t416 (ji20)).f0.f1)])]) (fun s_ w' => (w'.cell? ⟨gb419, 0, none⟩ = some (.slice (some ad424) t416.length co9) ∧ w'.cell? (ad424.add (((ji20)).toNat * 3)) = some (.int .i64 ((rd_T33 t416 (ji20)).f0.f0)) ∧ w'.cell? ⟨(ad424.add (((ji20)).toNat * 3)).block, (ad424.add (((ji20)).toNat * 3)).off + 1, none⟩ = some (.int .i64 ((rd_T33 t416 (ji20)).f0.f1)) ∧ w'.cell? ⟨(ad424.add (((ji20)).toNat * 3)).block, (ad424.add (((ji20)).toNat * 3)).off + 2, none⟩ = some (.slice A424_2 ((rd_T33 t416 (ji20)).f1).length c424_2)) ∧ (Kd.R k31 31 w' w.heap.size (fun k_ => k_ ≠ s_) v421 t420) ∧ (Kd.N k33 33 w' w.heap.size (fun k_ => some k_ ≠ (v421 : Value).ownBlock ∧ k_ ≠ gb419 ∧ k_ ≠ s_) (.slice (some ad424) t416.length co9) t416) ∧ (w'.heap[gb419]? = some (.cells #[.slice (some ad424) t416.length co9] 26 (0, 0))) ∧ (w'.heap[s_]? = some (.cells #[.int .i64 0, .int .i64 0] 31 (0, 0))) ∧ (w.heap.size ≤ s_) ∧ (w.heap.size ≤ s_) ∧ (gb419 ≠ s_) ∧ (s_ ≠ gb419) ∧ (Below w.heap.size w w')) ?_ ?_
        rotate_left
        ·intro hCont
         refine two_ (i := 3) (j := 11) (Ni := some 38) (Nj := some 5) (mb 7 6) (mr [3,1,3,4,1,1]) rfl rfl rfl rfl (two_of HT_.out (by kernel_rfl)) (by decide) (by decide) (fun K hK => ?_) (fun K hK => ?_)
         ·skip
          refine goes_ Try.func16 (by kernel_rfl) rfl #[.slice A0 l0.length c0, .int .i64 2] (by rfl) rfl rfl mA ?_
          with_reducible refine (laws_at.calls _ _ l0 2 t423 _ ?side1 ?side2 A18.out).mono ?_
          (case side1 => exact mC (Kd.C_below HR0.out HB.out))
          (case side2 => exact HC0.out)
          rintro e w' ⟨rfl, ⟨nd, rfl⟩⟩
          refine ⟨_, rfl, ?_⟩
          refine hK.out _ _ ⟨mZ BK419.out 0, hHeld.2.1, hHeld.2.2.1, hHeld.2.2.2⟩ (fun hHeld => ?_)
          clear hK K
          refine mno 38 ?_
          refine mpu 7 42 HT_.out (mb 8 5) ?_
          refine mpu 8 43 HT_.out (mb 9 4) ?_
          refine mpu 9 44 HT_.out (mb 10 3) ?_
          refine mpt 10 45 HT_.out HW_.out (mb 11 2) hHeld ?_
          refine mone 11 (some 5) HT_.out (mb 12 1) (fun K hK => ?_)
          refine box_step ?hg (N := 5) ?hd (cs := #[.int .i64 0, .int .i64 0]) (t := 31) ?hr ?_; (case hd => rfl); (case hg => rfl); (case hr => first | (go_simp; done) | (go_simp; rfl))
          intro gb425 hg w24 hbox hb
          have HS1_ := (hb.cell (World.block_lt_of_cell? _ _ (hHeld.2.1))).trans (hHeld.2.1)
          have HS2_ := (hb.cell (World.block_lt_of_cell? _ _ (hHeld.2.2.1))).trans (hHeld.2.2.1)
          have HS3_ := (hb.cell (World.block_lt_of_cell? _ _ (hHeld.2.2.2))).trans (hHeld.2.2.2)
          replace HO_4 := mS (Kd.R_below (Kd.R_elderB (mR HO_4.out) gb425 (Nat.le_of_eq hg.symm)) hb)
          replace HO_420000 := mS (Kd.N_below (Kd.N_elderB (mNd HO_420000.out) gb425 (Nat.le_of_eq hg.symm)) hb)
          have BK425 := mS (hbox)
          have GW425 := mG hg (mH1 HB.out GE419.out)
          have GE425 := mG hg (mH1 HB.out GE419.out)
          replace HB := mS (below_step (mH1 HB.out GE419.out) hb)
          have NB419_425 := mNl hg BK419.out
          have NB425_419 := mNg hg BK419.out
          replace BK419 := mB BK419 hb
          clear hb hbox hg
          refine hK.out _ _ ⟨mZ BK419.out 0, HS1_, HS2_, HS3_⟩ (fun hHeld => ?_)
          clear hK K
          refine mno 5 ?_
          exact norm_ mU (hCont (gb425) _ ⟨hHeld, (by refine mR ?_; exact Kd.R_mono HO_4.out (fun _ hk => hk.2)), (by refine mNd ?_; exact Kd.N_mono HO_420000.out (fun _ hk => ⟨hk.1.1, ⟨hk.1.2, hk.2⟩⟩)), (mK BK419.out), (mK BK425.out), GW425.out, GE425.out, NB419_425.out, NB425_419.out, (mH2 HB.out GE419.out GE425.out)⟩)
         ·skip
          refine box_step ?hg (N := 5) ?hd (cs := #[.int .i64 0, .int .i64 0]) (t := 31) ?hr ?_; (case hd => rfl); (case hg => rfl); (case hr => first | (go_simp; done) | (go_simp; rfl))
          intro gb425 hg w24 hbox hb
          have HS1_ := (hb.cell (World.block_lt_of_cell? _ _ (hHeld.2.1))).trans (hHeld.2.1)
          have HS2_ := (hb.cell (World.block_lt_of_cell? _ _ (hHeld.2.2.1))).trans (hHeld.2.2.1)
          have HS3_ := (hb.cell (World.block_lt_of_cell? _ _ (hHeld.2.2.2))).trans (hHeld.2.2.2)
          replace HO_4 := mS (Kd.R_below (Kd.R_elderB (mR HO_4.out) gb425 (Nat.le_of_eq hg.symm)) hb)
          replace HO_420000 := mS (Kd.N_below (Kd.N_elderB (mNd HO_420000.out) gb425 (Nat.le_of_eq hg.symm)) hb)
          have BK425 := mS (hbox)
          have GW425 := mG hg (mH1 HB.out GE419.out)
          have GE425 := mG hg (mH1 HB.out GE419.out)
          replace HB := mS (below_step (mH1 HB.out GE419.out) hb)
          have NB419_425 := mNl hg BK419.out
          have NB425_419 := mNg hg BK419.out
          replace BK419 := mB BK419 hb
          clear hb hbox hg
          refine hK.out _ _ ⟨mZ BK419.out 0, HS1_, HS2_, HS3_⟩ (fun hHeld => ?_)
          clear hK K
          refine mno 5 ?_
          refine mone 3 (some 38) HT_.out (mr [7,4,1,1]) (fun K hK => ?_)
          refine goes_ Try.func16 (by kernel_rfl) rfl #[.slice A0 l0.length c0, .int .i64 2] (by rfl) rfl rfl mA ?_
          with_reducible refine (laws_at.calls _ _ l0 2 t423 _ ?side1 ?side2 A18.out).mono ?_
          (case side1 => exact mC (Kd.C_below HR0.out HB.out))
          (case side2 => exact HC0.out)
          rintro e w' ⟨rfl, ⟨nd, rfl⟩⟩
          refine ⟨_, rfl, ?_⟩
          refine hK.out _ _ ⟨mZ BK419.out 0, hHeld.2.1, hHeld.2.2.1, hHeld.2.2.2⟩ (fun hHeld => ?_)
          clear hK K
          refine mno 38 ?_
          refine mpu 7 42 HT_.out (mr [8,3,1,1]) ?_
          refine mpu 8 43 HT_.out (mr [9,2,1,1]) ?_
          refine mpu 9 44 HT_.out (mr [10,1,1,1]) ?_
          refine mpt 10 45 HT_.out HW_.out (mb 12 1) hHeld ?_
          exact norm_ mU (hCont (gb425) _ ⟨hHeld, (by refine mR ?_; exact Kd.R_mono HO_4.out (fun _ hk => hk.2)), (by refine mNd ?_; exact Kd.N_mono HO_420000.out (fun _ hk => ⟨hk.1.1, ⟨hk.1.2, hk.2⟩⟩)), (mK BK419.out), (mK BK425.out), GW425.out, GE425.out, NB419_425.out, NB425_419.out, (mH2 HB.out GE419.out GE425.out)⟩)
        rintro gb425 w25 ⟨hHeld, h0_, h1_, h2_, h3_, h4_, h5_, h6_, h7_, h8_⟩
        replace HO_4 := mS h0_
        replace HO_420000 := mS h1_
        replace BK419 := mS h2_
        have BK425 := mS h3_
        have GW425 := mS h4_
        have GE425 := mS h5_
        have NB419_425 := mS h6_
        have NB425_419 := mS h7_
        replace HB := mS h8_
        clear h0_ h1_ h2_ h3_ h4_ h5_ h6_ h7_ h8_
        refine mnp ?_
        refine mone 12 none HT_.out (mb 13 0) (fun K hK => ?_)
        have hs26 : w25.cell? ⟨gb425, 0, none⟩ = some (.int .i64 0) := mZ BK425.out 0
        have hfs26 := blk_frozen BK425.out 0
        have hns26_0 := NB419_425.out
        have hms26_0 := NB425_419.out
        have hs27 : w25.cell? ⟨gb425, 1, none⟩ = some (.int .i64 0) := mZ BK425.out 1
        have hfs27 := blk_frozen BK425.out 1
        have hns27_0 := NB419_425.out
        have hms27_0 := NB425_419.out
        refine skip_ (w1 := ?_) (by rfl) rfl ?_ ?_
        rotate_left
        ·go_simp
         rfl
        refine hK.out _ _ ⟨((cell_far (p := ⟨gb425, _, none⟩) NB419_425.out _).trans (((cell_far (p := ⟨gb425, _, none⟩) NB419_425.out _).trans (hHeld.1)))), ((cell_far (p := ⟨gb425, _, none⟩) (by first | exact Kd.own_blk (Kd.N_away HO_420000.out (fun _ hk => hk.2.2)) | (rw [add_block]; exact Kd.own_blk (Kd.N_away HO_420000.out (fun _ hk => hk.2.2))) | (show (Addr.add _ _).block ≠ _; rw [add_block]; exact Kd.own_blk (Kd.N_away HO_420000.out (fun _ hk => hk.2.2))) | (dsimp only; exact Kd.own_blk (Kd.N_away HO_420000.out (fun _ hk => hk.2.2)))) _).trans (((cell_far (p := ⟨gb425, _, none⟩) (by first | exact Kd.own_blk (Kd.N_away HO_420000.out (fun _ hk => hk.2.2)) | (rw [add_block]; exact Kd.own_blk (Kd.N_away HO_420000.out (fun _ hk => hk.2.2))) | (show (Addr.add _ _).block ≠ _; rw [add_block]; exact Kd.own_blk (Kd.N_away HO_420000.out (fun _ hk => hk.2.2))) | (dsimp only; exact Kd.own_blk (Kd.N_away HO_420000.out (fun _ hk => hk.2.2)))) _).trans (hHeld.2.1)))), ((cell_far (p := ⟨gb425, _, none⟩) (by first | exact Kd.own_blk (Kd.N_away HO_420000.out (fun _ hk => hk.2.2)) | (rw [add_block]; exact Kd.own_blk (Kd.N_away HO_420000.out (fun _ hk => hk.2.2))) | (show (Addr.add _ _).block ≠ _; rw [add_block]; exact Kd.own_blk (Kd.N_away HO_420000.out (fun _ hk => hk.2.2))) | (dsimp only; exact Kd.own_blk (Kd.N_away HO_420000.out (fun _ hk => hk.2.2)))) _).trans (((cell_far (p := ⟨gb425, _, none⟩) (by first | exact Kd.own_blk (Kd.N_away HO_420000.out (fun _ hk => hk.2.2)) | (rw [add_block]; exact Kd.own_blk (Kd.N_away HO_420000.out (fun _ hk => hk.2.2))) | (show (Addr.add _ _).block ≠ _; rw [add_block]; exact Kd.own_blk (Kd.N_away HO_420000.out (fun _ hk => hk.2.2))) | (dsimp only; exact Kd.own_blk (Kd.N_away HO_420000.out (fun _ hk => hk.2.2)))) _).trans (hHeld.2.2.1)))), ((cell_far (p := ⟨gb425, _, none⟩) (by first | exact Kd.own_blk (Kd.N_away HO_420000.out (fun _ hk => hk.2.2)) | (rw [add_block]; exact Kd.own_blk (Kd.N_away HO_420000.out (fun _ hk => hk.2.2))) | (show (Addr.add _ _).block ≠ _; rw [add_block]; exact Kd.own_blk (Kd.N_away HO_420000.out (fun _ hk => hk.2.2))) | (dsimp only; exact Kd.own_blk (Kd.N_away HO_420000.out (fun _ hk => hk.2.2)))) _).trans (((cell_far (p := ⟨gb425, _, none⟩) (by first | exact Kd.own_blk (Kd.N_away HO_420000.out (fun _ hk => hk.2.2)) | (rw [add_block]; exact Kd.own_blk (Kd.N_away HO_420000.out (fun _ hk => hk.2.2))) | (show (Addr.add _ _).block ≠ _; rw [add_block]; exact Kd.own_blk (Kd.N_away HO_420000.out (fun _ hk => hk.2.2))) | (dsimp only; exact Kd.own_blk (Kd.N_away HO_420000.out (fun _ hk => hk.2.2)))) _).trans (hHeld.2.2.2))))⟩ (fun hHeld => ?_)
        clear hK K
        refine done_ (done_of HT_.out (by kernel_rfl)) ?_
        try go_wp2_with (first | ((with_reducible refine gate_dst (N := 6) rfl ?_); (try (refine gate_guard (by rfl) ?_; dsimp only)); refine mBx 6 #[.slice none 0 0] 26 ?_; intro gb426 hg w28 hbox hb; replace HO_4 := mS (Kd.R_below (by refine mR ?_; exact (Kd.R_mono (mRf2 (Kd.R_mono HO_4.out (fun k_ hk => (⟨hk, hk⟩ : _ ∧ k_ ≠ gb425)))) (fun _ h_ => h_.1))) hb); replace HO_420000 := mS (Kd.N_below (Kd.N_elderB (by refine mNd ?_; exact (Kd.N_mono (mNf2 (Kd.N_mono HO_420000.out (fun k_ hk => (⟨hk, hk.2.2⟩ : _ ∧ k_ ≠ gb425)))) (fun _ h_ => h_.1))) gb426 (Nat.le_of_eq hg.symm)) hb); have BK426 := mS (hbox); have GW426 := mG hg (mH2 HB.out GE419.out GE425.out); have GE426 := mG hg (mH2 HB.out GE419.out GE425.out); replace HB := mS (below_step (mH2 HB.out GE419.out GE425.out) hb); have NB419_426 := mS ((by rw [hg]; exact Nat.ne_of_lt (blk_lt (g := gb419) (o := .cells #[.slice (some ad424) t416.length co9] 26 (0, 0)) (mKf NB419_425.out BK419.out)) : gb419 ≠ gb426)); have NB426_419 := mS ((by rw [hg]; exact Nat.ne_of_gt (blk_lt (g := gb419) (o := .cells #[.slice (some ad424) t416.length co9] 26 (0, 0)) (mKf NB419_425.out BK419.out)) : gb426 ≠ gb419)); replace BK419 := mS (blk_below (g := gb419) (o := .cells #[.slice (some ad424) t416.length co9] 26 (0, 0)) (mKf NB419_425.out BK419.out) hb); have NB425_426 := mS ((by rw [hg]; exact Nat.ne_of_lt (blk_lt (g := gb425) (o := .cells #[.int .i64 ((rd_T33 t416 (ji20)).f0.f0), .int .i64 ((rd_T33 t416 (ji20)).f0.f1)] 31 (0, 0)) (by refine mK ?_; refine blk_put (cs := #[.int .i64 ((rd_T33 t416 (ji20)).f0.f0), .int .i64 0]) ?_ 1 _ rfl; refine mK ?_; refine blk_put (cs := #[.int .i64 0, .int .i64 0]) ?_ 0 _ rfl; refine mK ?_; exact BK425.out)) : gb425 ≠ gb426)); have NB426_425 := mS ((by rw [hg]; exact Nat.ne_of_gt (blk_lt (g := gb425) (o := .cells #[.int .i64 ((rd_T33 t416 (ji20)).f0.f0), .int .i64 ((rd_T33 t416 (ji20)).f0.f1)] 31 (0, 0)) (by refine mK ?_; refine blk_put (cs := #[.int .i64 ((rd_T33 t416 (ji20)).f0.f0), .int .i64 0]) ?_ 1 _ rfl; refine mK ?_; refine blk_put (cs := #[.int .i64 0, .int .i64 0]) ?_ 0 _ rfl; refine mK ?_; exact BK425.out)) : gb426 ≠ gb425)); replace BK425 := mS (blk_below (g := gb425) (o := .cells #[.int .i64 ((rd_T33 t416 (ji20)).f0.f0), .int .i64 ((rd_T33 t416 (ji20)).f0.f1)] 31 (0, 0)) (by refine mK ?_; refine blk_put (cs := #[.int .i64 ((rd_T33 t416 (ji20)).f0.f0), .int .i64 0]) ?_ 1 _ rfl; refine mK ?_; refine blk_put (cs := #[.int .i64 0, .int .i64 0]) ?_ 0 _ rfl; refine mK ?_; exact BK425.out) hb); clear hb hbox hg; have hnb29 := NB426_419.out; have hnc29 := NB419_426.out; have hnb30 := NB426_425.out; have hnc30 := NB425_426.out; have hcz31_0 := mZ BK426.out 0; have hfz31_0 := blk_frozen BK426.out 0; have hnb32 := NB425_419.out; have hnc32 := NB419_425.out; obtain ⟨hcz33_0, hcz33_1, hfz33_0, hfz33_1⟩ := mZ2 BK425.out) | ((with_reducible refine gate_dst (N := 48) rfl ?_); (try (refine gate_guard (by rfl) ?_; dsimp only)); refine Kd.R_lit k31 _ 31 ?hg (N := 48) ?hd (xs := ([(⟨(rd_T33 t416 (ji20)).f0.f0, (rd_T33 t416 (ji20)).f0.f1⟩ : S31)] : List (S31))) (inner := [.int .i64 ((rd_T33 t416 (ji20)).f0.f0), .int .i64 ((rd_T33 t416 (ji20)).f0.f1)]) (ok := fun _ => True) (okp := fun _ => True) ?hr ?hp (fun _ hk => hk) trivial (Below.refl _ _) (Nat.le_refl _) (by simp) ?_; (case hd => rfl); (case hg => rfl); (case hr => first | (go_simp; done) | (go_simp; rfl)); (case hp => exact (Reps.c2 (show Kd.M k31 _ _ _ (⟨(rd_T33 t416 (ji20)).f0.f0, (rd_T33 t416 (ji20)).f0.f1⟩ : S31) [.int .i64 ((rd_T33 t416 (ji20)).f0.f0), .int .i64 ((rd_T33 t416 (ji20)).f0.f1)] from (k31_mkM _ _ _ (⟨(rd_T33 t416 (ji20)).f0.f0, (rd_T33 t416 (ji20)).f0.f1⟩ : S31) )) (Reps.none _ _))); intro v428 w34 ho35 hb hg_ hnew_; clear hg_ hnew_; (first | rw [← Ny427.out] at ho35 | (simp only [Int.reduceToNat] at ho35; rw [← Ny427.out] at ho35)); replace HO_420000 := mS (Kd.N_elder' (by refine mNd ?_; exact (Kd.N_mono (Kd.N_far (p := ⟨gb426, 0, none⟩) (Kd.N_mono HO_420000.out (fun k_ hk => (⟨hk, hk.2⟩ : _ ∧ k_ ≠ gb426))) (fun _ hk => hk.2) (.slice none 0 0)) (fun _ h_ => h_.1))) (Kd.R_base ho35) hb); have HO429 := mS (Kd.R_lower (Kd.R_newB (Kd.R_new' ho35 (Kd.R_lt (by refine mR ?_; exact (Kd.R_mono (Kd.R_far (p := ⟨gb426, 0, none⟩) (Kd.R_types HO_4.out BK426.out (by decide)) (fun _ hk => hk.2) (.slice none 0 0)) (fun _ h_ => h_.1))))) (g := gb425) (o := .cells #[.int .i64 ((rd_T33 t416 (ji20)).f0.f0), .int .i64 ((rd_T33 t416 (ji20)).f0.f1)] 31 (0, 0)) (mKf NB425_426.out BK425.out)) (below_size (mH3 HB.out GE419.out GE425.out GE426.out))); replace HO_4 := mS (Kd.R_elder' (by refine mR ?_; exact (Kd.R_mono (Kd.R_far (p := ⟨gb426, 0, none⟩) (Kd.R_types HO_4.out BK426.out (by decide)) (fun _ hk => hk.2) (.slice none 0 0)) (fun _ h_ => h_.1))) (Kd.R_base ho35) hb); replace BK419 := mS (blk_below (g := gb419) (o := .cells #[.slice (some ad424) t416.length co9] 26 (0, 0)) (mKf NB419_426.out BK419.out) hb); replace BK425 := mS (blk_below (g := gb425) (o := .cells #[.int .i64 ((rd_T33 t416 (ji20)).f0.f0), .int .i64 ((rd_T33 t416 (ji20)).f0.f1)] 31 (0, 0)) (mKf NB425_426.out BK425.out) hb); replace BK426 := mS (blk_below (g := gb426) (o := .cells #[.slice none 0 0] 26 (0, 0)) (by refine mK ?_; refine blk_put (cs := #[.slice none 0 0]) ?_ 0 _ rfl; refine mK ?_; exact BK426.out) hb); replace HB := mS (below_step (mH3 HB.out GE419.out GE425.out GE426.out) hb); clear hb ho35))
        go_loopg [7, 8] kj5 (fun kq v7 v8 w' => ∃ (x7_2 : List (S31)) (x8_2 : Int) (x427000_2 : List (S33)) (u427000 : Value), v8 = .int .i64 x8_2 ∧ Aside0 (laws_FnStable.l0 kq t420 x7_2 x8_2 t416 x427000_2 = some r) ∧ Aside0 (kq ≤ kj5) ∧ Aside0 (Kd.R k31 31 w' w.heap.size (fun k_ => some k_ ≠ (v7 : Value).ownBlock ∧ k_ ≠ gb425) v421 t420) ∧ Aside0 (Kd.R k31 31 w' w.heap.size (fun k_ => some k_ ≠ (v421 : Value).ownBlock ∧ k_ ≠ gb425) v7 x7_2) ∧ Aside0 (Kd.N k33 33 w' w.heap.size (fun k_ => some k_ ≠ (v421 : Value).ownBlock ∧ some k_ ≠ (v7 : Value).ownBlock ∧ some k_ ≠ (u427000 : Value).ownBlock ∧ k_ ≠ gb419 ∧ k_ ≠ gb425 ∧ k_ ≠ gb426) (.slice (some ad424) t416.length co9) t416) ∧ Aside0 (Kd.N k33 33 w' w.heap.size (fun k_ => some k_ ≠ (v421 : Value).ownBlock ∧ some k_ ≠ (v7 : Value).ownBlock ∧ some k_ ≠ ((.slice (some ad424) t416.length co9) : Value).ownBlock ∧ k_ ≠ gb419 ∧ k_ ≠ gb425 ∧ k_ ≠ gb426) u427000 x427000_2) ∧ Aside0 (w'.heap[gb419]? = some (.cells #[(.slice (some ad424) t416.length co9)] 26 (0, 0))) ∧ Aside0 (w'.heap[gb425]? = some (.cells #[.int .i64 ((rd_T33 t416 (ji20)).f0.f0), .int .i64 ((rd_T33 t416 (ji20)).f0.f1)] 31 (0, 0))) ∧ Aside0 (w'.heap[gb426]? = some (.cells #[u427000] 26 (0, 0))) ∧ Aside0 (Below w.heap.size w w'))
        case atStart => exact ⟨(y427), (0), (([] : List (S33))), (.slice none 0 0), mE, H', ⟨Nat.le_refl _⟩, ⟨by refine mR ?_; exact Kd.R_mono HO_4.out (fun _ hk => ⟨hk.2, hk.1⟩)⟩, ⟨by refine mR ?_; exact Kd.R_mono HO429.out (fun _ hk => ⟨hk.1.2, hk.2⟩)⟩, ⟨by refine mNd ?_; exact Kd.N_mono HO_420000.out (fun _ hk => ⟨hk.1.1.1, ⟨hk.2, ⟨(by simp [Value.ownBlock]), ⟨hk.1.1.2.1, ⟨hk.1.1.2.2, hk.1.2⟩⟩⟩⟩⟩)⟩, ⟨by first | exact Kd.S_nil _ _ _ _ _ | exact Kd.N_nil _ _ _ _ _ | exact Kd.V_nil _ _ _ _ _ | exact Kd.Q_nil _ _ _ _ _ | exact Kd.R_nil _ _ _ _ _⟩, ⟨mK BK419.out⟩, ⟨mK BK425.out⟩, ⟨mK BK426.out⟩, ⟨(mH3 HB.out GE419.out GE425.out GE426.out)⟩⟩
        case round =>
         clear H'
         try clear c1
         try clear c2
         try clear p2
         try clear c3
         try clear c4
         try clear p4
         try clear q4
         try clear hx4
         try clear c12
         try clear c12b0
         try clear c12b1
         try clear c12b2
         try clear c13
         try clear c14
         try clear c15
         try clear c16
         try clear c17
         try clear c19
         try clear c19b0
         try clear c19b1
         try clear c19b2
         try clear c21
         try clear c21b0
         try clear c22
         try clear c22b0
         try clear c29
         try clear c30
         try clear c32
         try clear hcz10_0
         try clear hcz14_0
         try clear hcz16_0
         try clear hcz31_0
         try clear hcz33_0
         try clear hcz33_1
         try clear hfz10_0
         try clear hfz14_0
         try clear hfz16_0
         try clear hfz31_0
         try clear hfz33_0
         try clear hfz33_1
         try clear hx424_0
         try clear hx424_1
         try clear hx424_2
         try clear p2
         try clear p424
         try clear q424
         obtain ⟨x7_2, x8_2, x427000_2, u427000, rfl, HA, HK2, HO_4, HO_7, HO_420000, HO_427000, BK419, BK425, BK426, HB⟩ := hrel
         cases gk with
         | zero => exact absurd HA.out (by simp [laws_FnStable.l0])
         | succ k2 =>
          have H := HA.out
          clear HA
          simp only [laws_FnStable.l0] at H
          by_cases c36 : x8_2 < (x7_2.length : Int)
          ·rw [if_pos c36] at H
           have c36b0 := decide_eq_true c36
           clear c36
           have H' := mS H
           clear H
           obtain ⟨Ao37, co37, eo37⟩ := Kd.R_slice HO_7.out
           subst eo37
           go_wp2
           go_loopg [7, 9] k2 (fun kq v7 v9 w' => ∃ (x7_3 : List (S31)) (x9_3 : Int) (x427000_3 : List (S33)) (u427000 : Value), v9 = .int .i64 x9_3 ∧ Aside0 (laws_FnStable.l1 kq t420 x7_3 x8_2 x9_3 t416 x427000_3 = some r) ∧ Aside0 (kq ≤ k2) ∧ Aside0 (Kd.R k31 31 w' w.heap.size (fun k_ => some k_ ≠ (v7 : Value).ownBlock ∧ k_ ≠ gb425) v421 t420) ∧ Aside0 (Kd.R k31 31 w' w.heap.size (fun k_ => some k_ ≠ (v421 : Value).ownBlock ∧ k_ ≠ gb425) v7 x7_3) ∧ Aside0 (Kd.N k33 33 w' w.heap.size (fun k_ => some k_ ≠ (v421 : Value).ownBlock ∧ some k_ ≠ (v7 : Value).ownBlock ∧ some k_ ≠ (u427000 : Value).ownBlock ∧ k_ ≠ gb419 ∧ k_ ≠ gb425 ∧ k_ ≠ gb426) (.slice (some ad424) t416.length co9) t416) ∧ Aside0 (Kd.N k33 33 w' w.heap.size (fun k_ => some k_ ≠ (v421 : Value).ownBlock ∧ some k_ ≠ (v7 : Value).ownBlock ∧ some k_ ≠ ((.slice (some ad424) t416.length co9) : Value).ownBlock ∧ k_ ≠ gb419 ∧ k_ ≠ gb425 ∧ k_ ≠ gb426) u427000 x427000_3) ∧ Aside0 (w'.heap[gb419]? = some (.cells #[(.slice (some ad424) t416.length co9)] 26 (0, 0))) ∧ Aside0 (w'.heap[gb425]? = some (.cells #[.int .i64 ((rd_T33 t416 (ji20)).f0.f0), .int .i64 ((rd_T33 t416 (ji20)).f0.f1)] 31 (0, 0))) ∧ Aside0 (w'.heap[gb426]? = some (.cells #[u427000] 26 (0, 0))) ∧ Aside0 (Below w.heap.size w w'))
           case atStart => exact ⟨(x7_2), (0), (x427000_2), (u427000), mE, H', ⟨Nat.le_refl _⟩, ⟨mR HO_4.out⟩, ⟨mR HO_7.out⟩, ⟨mNd HO_420000.out⟩, ⟨mNd HO_427000.out⟩, ⟨mK BK419.out⟩, ⟨mK BK425.out⟩, ⟨mK BK426.out⟩, ⟨(mH3 HB.out GE419.out GE425.out GE426.out)⟩⟩
           case round =>
            clear H'
            try clear c1
            try clear c2
            try clear p2
            try clear c3
            try clear c4
            try clear p4
            try clear q4
            try clear hx4
            try clear c12
            try clear c12b0
            try clear c12b1
            try clear c12b2
            try clear c13
            try clear c14
            try clear c15
            try clear c16
            try clear c17
            try clear c19
            try clear c19b0
            try clear c19b1
            try clear c19b2
            try clear c21
            try clear c21b0
            try clear c22
            try clear c22b0
            try clear c29
            try clear c30
            try clear c32
            try clear c36
            try clear c36b0
            try clear hcz10_0
            try clear hcz14_0
            try clear hcz16_0
            try clear hcz31_0
            try clear hcz33_0
            try clear hcz33_1
            try clear hfz10_0
            try clear hfz14_0
            try clear hfz16_0
            try clear hfz31_0
            try clear hfz33_0
            try clear hfz33_1
            try clear hx424_0
            try clear hx424_1
            try clear hx424_2
            try clear p2
            try clear p4
            try clear p424
            try clear q4
            try clear q424
            obtain ⟨x7_3, x9_3, x427000_3, u427000, rfl, HA, HK3, HO_4, HO_7, HO_420000, HO_427000, BK419, BK425, BK426, HB⟩ := hrel
            cases gk with
            | zero => exact absurd HA.out (by simp [laws_FnStable.l1])
            | succ k3 =>
             have H := HA.out
             clear HA
             simp only [laws_FnStable.l1] at H
             by_cases c38 : x9_3 < (t416.length : Int)
             ·rw [if_pos c38] at H
              have c38b0 := decide_eq_true c38
              clear c38
              by_cases c39 : 0 ≤ x9_3
              ·rw [if_pos c39] at H
               have c39b0 := decide_eq_true c39
               clear c39
               by_cases c40 : 0 ≤ x8_2
               ·rw [if_pos c40] at H
                have c40b0 := decide_eq_true c40
                clear c40
                by_cases c41 : x8_2 < (x7_3.length : Int)
                ·rw [if_pos c41] at H
                 have c41b0 := decide_eq_true c41
                 clear c41
                 by_cases c42 : (!(((rd_T33 t416 x9_3).f0.f0) == ((rd_T31 x7_3 x8_2).f0)) || (!(((rd_T33 t416 x9_3).f0.f1) == ((rd_T31 x7_3 x8_2).f1)))) = true
                 ·rw [if_pos c42] at H
                  have c42b0 : (!(((rd_T33 t416 x9_3).f0.f0) == ((rd_T31 x7_3 x8_2).f0)) || (!(((rd_T33 t416 x9_3).f0.f1) == ((rd_T31 x7_3 x8_2).f1)))) = true := c42
                  clear c42
                  have H' := mS H
                  clear H
                  have hnb43 := NB419_425.out
                  have hnc43 := NB425_419.out
                  have hnb44 := NB419_426.out
                  have hnc44 := NB426_419.out
                  have hcz45_0 := mZ BK419.out 0
                  have hfz45_0 := blk_frozen BK419.out 0
                  try go_wp2
                  replace HO_4 := mS (Kd.R_drew HO_4.out)
                  replace HO_7 := mS (Kd.R_drew HO_7.out)
                  replace HO_420000 := mS (Kd.N_drew HO_420000.out)
                  replace HO_427000 := mS (Kd.N_drew HO_427000.out)
                  replace BK419 := mS (blk_drew BK419.out)
                  replace BK425 := mS (blk_drew BK425.out)
                  replace BK426 := mS (blk_drew BK426.out)
                  replace HB := mS (below_drew1 HB.out)
                  have p430 : 0 ≤ (x9_3 : Int) := mD
                  have q430 : x9_3 < (t416.length : Int) := mD
                  obtain ⟨ad430, A430_2, c430_2, e430, hx430_0, hx430_1, hx430_2, hl430_2, hi430_2⟩ := at_T33 (Kd.N_reads' HO_420000.out).2.2 x9_3 p430 q430
                  obtain rfl : ad424 = ad430 := (by injection e430)
                  obtain ⟨ce430, hce430, hMe430, hcc430⟩ := Kd.N_get HO_420000.out z33 x9_3 p430 (by first | exact q430 | exact mD | (have e_ := (Kd.N_reads' HO_420000.out).1; omega))
                  obtain ⟨ua430_2, uc430_2, rfl, ul430_2, ge430_2⟩ := k33_openF hMe430
                  have hv430_2 := hcc430 2 _ rfl
                  rw [add_field _ _ 2 (by omega)] at hv430_2
                  replace hv430_2 := Option.some.inj (hv430_2.symm.trans hx430_2)
                  injection hv430_2 with hva_ hvn_ hvc_
                  rw [hva_] at ge430_2
                  rw [hvc_] at ul430_2
                  have HL430_2 := mS (show Kd.V k31 31 _ w.heap.size _ _ ((rd_T33 t416 x9_3).f1) from Kd.V_mk ul430_2 ge430_2)
                  clear hva_ hvn_ hvc_ ge430_2 ul430_2
                  clear hcc430 hce430
                  have HR430_2 := mS hi430_2
                  have HC430_2 := mS hl430_2
                  clear hi430_2 hl430_2
                  replace p430 := eq_true p430
                  replace q430 := eq_true q430
                  obtain ⟨Ao47, co47, eo47⟩ := Kd.R_slice HO_7.out
                  (first | subst eo47 | (injection eo47 with f1_ f2_ f3_; have f4_ := f1_.symm; have f5_ := f3_.symm; clear f1_ f2_ f3_; subst f4_; subst f5_))
                  have p431 : 0 ≤ (x8_2 : Int) := mD
                  have q431 : x8_2 < (x7_3.length : Int) := mD
                  obtain ⟨ad431, e431, hx431_0, hx431_1⟩ := at_T31 (Kd.R_reads' HO_7.out).2.2 x8_2 p431 q431
                  cases e431
                  replace p431 := eq_true p431
                  replace q431 := eq_true q431
                  refine start_ (n := 11) (S := fun w' => w'.cell? ⟨gb419, 0, none⟩ = some (.slice (some ad424) t416.length co9) ∧ w'.cell? (ad424.add ((x9_3).toNat * 3)) = some (.int .i64 ((rd_T33 t416 x9_3).f0.f0)) ∧ w'.cell? ⟨(ad424.add ((x9_3).toNat * 3)).block, (ad424.add ((x9_3).toNat * 3)).off + 1, none⟩ = some (.int .i64 ((rd_T33 t416 x9_3).f0.f1)) ∧ w'.cell? ⟨(ad424.add ((x9_3).toNat * 3)).block, (ad424.add ((x9_3).toNat * 3)).off + 2, none⟩ = some (.slice A430_2 ((rd_T33 t416 x9_3).f1).length c430_2) ∧ w'.cell? (ad431.add ((x8_2).toNat * 2)) = some (.int .i64 ((rd_T31 x7_3 x8_2).f0)) ∧ w'.cell? ⟨(ad431.add ((x8_2).toNat * 2)).block, (ad431.add ((x8_2).toNat * 2)).off + 1, none⟩ = some (.int .i64 ((rd_T31 x7_3 x8_2).f1))) (ds := []) (mb 0 11) (by kernel_rfl) rfl rfl ⟨mZ BK419.out 0, hx430_0, hx430_1, hx430_2, hx431_0, hx431_1⟩ (fun hHeld => ?_); refine with_tabW laws_FnStable.tab16 laws_FnStable.bits16 (fun HT_ HW_ => ?_)
                  generalize wr.drew = w46 at HO_4 HO_7 HO_420000 HO_427000 BK419 BK425 BK426 HB HL430_2 HR430_2 hx430_0 hx430_1 hx430_2 hx431_0 hx431_1 hHeld ⊢
                  refine mpu 0 62 HT_.out (mb 1 10) ?_
                  refine mpu 2 64 HT_.out (mr [1,1,1,8]) ?_
                  refine mpu 6 68 HT_.out (mr [1,1,1,3,1,4]) ?_
                  refine mpu 7 69 HT_.out (mr [1,1,1,3,2,3]) ?_
                  refine mpu 8 70 HT_.out (mr [1,1,1,3,3,2]) ?_
                  refine mpt 1 63 HT_.out HW_.out (mr [3,3,3,2]) hHeld ?_
                  refine mpu 3 65 HT_.out (mr [4,2,3,2]) ?_
                  refine mpu 4 66 HT_.out (mr [5,1,3,2]) ?_
                  refine mpt 5 67 HT_.out HW_.out (mb 9 2) hHeld ?_
                  refine mpt 9 71 HT_.out HW_.out (mb 10 1) hHeld ?_
                  refine mpu 10 72 HT_.out (mb 11 0) ?_
                  refine done_ (done_of HT_.out (by kernel_rfl)) ?_
                  try go_wp2
                  go_roundg k3
                  case measure => have := HJ5.out; have := HK2.out; have := HK3.out; omega
                  case rel => exact ⟨(x7_3), (wrap64 (x9_3 + 1)), (x427000_3), (u427000), mE, H', ⟨by have := HJ5.out; have := HK2.out; have := HK3.out; omega⟩, ⟨mR HO_4.out⟩, ⟨mR HO_7.out⟩, ⟨mNd HO_420000.out⟩, ⟨mNd HO_427000.out⟩, ⟨mK BK419.out⟩, ⟨mK BK425.out⟩, ⟨mK BK426.out⟩, ⟨(mH3 HB.out GE419.out GE425.out GE426.out)⟩⟩
                 ·rw [if_neg c42] at H
                  have c42b0 : (!(((rd_T33 t416 x9_3).f0.f0) == ((rd_T31 x7_3 x8_2).f0)) || (!(((rd_T33 t416 x9_3).f0.f1) == ((rd_T31 x7_3 x8_2).f1)))) = false := by simpa using c42
                  clear c42
                  replace H := Option.bind_eq_some_iff.mp H
                  obtain ⟨⟨t433, t436⟩, A480, H⟩ := H
                  replace H : (if t436 = true then (laws_FnStable.l2 k3 t420 x7_3 x8_2 x9_3 0 t416 t433) else (some false)) = some r := H
                  have A48 := mS A480
                  clear A480
                  by_cases c49 : t436 = true
                  ·subst c49
                   have H1 := H
                   rw [if_pos rfl] at H1
                   clear H
                   have H := H1
                   clear H1
                   have H' := mS H
                   clear H
                   have hnb50 := NB419_425.out
                   have hnc50 := NB425_419.out
                   have hnb51 := NB419_426.out
                   have hnc51 := NB426_419.out
                   have hcz52_0 := mZ BK419.out 0
                   have hfz52_0 := blk_frozen BK419.out 0
                   try go_wp2
                   replace HO_4 := mS (Kd.R_drew HO_4.out)
                   replace HO_7 := mS (Kd.R_drew HO_7.out)
                   replace HO_420000 := mS (Kd.N_drew HO_420000.out)
                   replace HO_427000 := mS (Kd.N_drew HO_427000.out)
                   replace BK419 := mS (blk_drew BK419.out)
                   replace BK425 := mS (blk_drew BK425.out)
                   replace BK426 := mS (blk_drew BK426.out)
                   replace HB := mS (below_drew1 HB.out)
                   have p430 : 0 ≤ (x9_3 : Int) := mD
                   have q430 : x9_3 < (t416.length : Int) := mD
                   obtain ⟨ad430, A430_2, c430_2, e430, hx430_0, hx430_1, hx430_2, hl430_2, hi430_2⟩ := at_T33 (Kd.N_reads' HO_420000.out).2.2 x9_3 p430 q430
                   obtain rfl : ad424 = ad430 := (by injection e430)
                   obtain ⟨ce430, hce430, hMe430, hcc430⟩ := Kd.N_get HO_420000.out z33 x9_3 p430 (by first | exact q430 | exact mD | (have e_ := (Kd.N_reads' HO_420000.out).1; omega))
                   obtain ⟨ua430_2, uc430_2, rfl, ul430_2, ge430_2⟩ := k33_openF hMe430
                   have hv430_2 := hcc430 2 _ rfl
                   rw [add_field _ _ 2 (by omega)] at hv430_2
                   replace hv430_2 := Option.some.inj (hv430_2.symm.trans hx430_2)
                   injection hv430_2 with hva_ hvn_ hvc_
                   rw [hva_] at ge430_2
                   rw [hvc_] at ul430_2
                   have HL430_2 := mS (show Kd.V k31 31 _ w.heap.size _ _ ((rd_T33 t416 x9_3).f1) from Kd.V_mk ul430_2 ge430_2)
                   clear hva_ hvn_ hvc_ ge430_2 ul430_2
                   clear hcc430 hce430
                   have HR430_2 := mS hi430_2
                   have HC430_2 := mS hl430_2
                   clear hi430_2 hl430_2
                   replace p430 := eq_true p430
                   replace q430 := eq_true q430
                   obtain ⟨Ao54, co54, eo54⟩ := Kd.R_slice HO_7.out
                   (first | subst eo54 | (injection eo54 with f1_ f2_ f3_; have f4_ := f1_.symm; have f5_ := f3_.symm; clear f1_ f2_ f3_; subst f4_; subst f5_))
                   have p431 : 0 ≤ (x8_2 : Int) := mD
                   have q431 : x8_2 < (x7_3.length : Int) := mD
                   obtain ⟨ad431, e431, hx431_0, hx431_1⟩ := at_T31 (Kd.R_reads' HO_7.out).2.2 x8_2 p431 q431
                   cases e431
                   replace p431 := eq_true p431
                   replace q431 := eq_true q431
                   refine start_ (n := 11) (S := fun w' => w'.cell? ⟨gb419, 0, none⟩ = some (.slice (some ad424) t416.length co9) ∧ w'.cell? (ad424.add ((x9_3).toNat * 3)) = some (.int .i64 ((rd_T33 t416 x9_3).f0.f0)) ∧ w'.cell? ⟨(ad424.add ((x9_3).toNat * 3)).block, (ad424.add ((x9_3).toNat * 3)).off + 1, none⟩ = some (.int .i64 ((rd_T33 t416 x9_3).f0.f1)) ∧ w'.cell? ⟨(ad424.add ((x9_3).toNat * 3)).block, (ad424.add ((x9_3).toNat * 3)).off + 2, none⟩ = some (.slice A430_2 ((rd_T33 t416 x9_3).f1).length c430_2) ∧ w'.cell? (ad431.add ((x8_2).toNat * 2)) = some (.int .i64 ((rd_T31 x7_3 x8_2).f0)) ∧ w'.cell? ⟨(ad431.add ((x8_2).toNat * 2)).block, (ad431.add ((x8_2).toNat * 2)).off + 1, none⟩ = some (.int .i64 ((rd_T31 x7_3 x8_2).f1))) (ds := []) (mb 0 11) (by kernel_rfl) rfl rfl ⟨mZ BK419.out 0, hx430_0, hx430_1, hx430_2, hx431_0, hx431_1⟩ (fun hHeld => ?_); refine with_tabW laws_FnStable.tab16 laws_FnStable.bits16 (fun HT_ HW_ => ?_)
                   generalize wr.drew = w53 at HO_4 HO_7 HO_420000 HO_427000 BK419 BK425 BK426 HB HL430_2 HR430_2 hx430_0 hx430_1 hx430_2 hx431_0 hx431_1 hHeld ⊢
                   refine mpu 0 62 HT_.out (mb 1 10) ?_
                   refine mpu 2 64 HT_.out (mr [1,1,1,8]) ?_
                   refine mpu 6 68 HT_.out (mr [1,1,1,3,1,4]) ?_
                   refine mpu 7 69 HT_.out (mr [1,1,1,3,2,3]) ?_
                   refine mpu 8 70 HT_.out (mr [1,1,1,3,3,2]) ?_
                   refine mpt 1 63 HT_.out HW_.out (mr [3,3,3,2]) hHeld ?_
                   refine mpu 3 65 HT_.out (mr [4,2,3,2]) ?_
                   refine mpu 4 66 HT_.out (mr [5,1,3,2]) ?_
                   refine mpt 5 67 HT_.out HW_.out (mb 9 2) hHeld ?_
                   refine mpt 9 71 HT_.out HW_.out (mb 10 1) hHeld ?_
                   refine mpu 10 72 HT_.out (mb 11 0) ?_
                   refine done_ (done_of HT_.out (by kernel_rfl)) ?_
                   obtain ⟨Ao55, co55, eo55⟩ := Kd.N_slice HO_427000.out
                   subst eo55
                   try go_wp2
                   replace HO_4 := mS (Kd.R_drew HO_4.out)
                   replace HO_7 := mS (Kd.R_drew HO_7.out)
                   replace HO_420000 := mS (Kd.N_drew HO_420000.out)
                   replace HO_427000 := mS (Kd.N_drew HO_427000.out)
                   replace HL430_2 := mS (Kd.V_drew HL430_2.out)
                   replace BK419 := mS (blk_drew BK419.out)
                   replace BK425 := mS (blk_drew BK425.out)
                   replace BK426 := mS (blk_drew BK426.out)
                   replace HR430_2 := mS (Kd.C_drew HR430_2.out)
                   replace HB := mS (below_drew1 HB.out)
                   have p432 : 0 ≤ (x9_3 : Int) := mD
                   have q432 : x9_3 < (t416.length : Int) := mD
                   obtain ⟨ad432, A432_2, c432_2, e432, hx432_0, hx432_1, hx432_2, hl432_2, hi432_2⟩ := at_T33 (Kd.N_reads' HO_420000.out).2.2 x9_3 p432 q432
                   obtain rfl : ad424 = ad432 := (by injection e432)
                   obtain ⟨ce432, hce432, hMe432, hcc432⟩ := Kd.N_get HO_420000.out z33 x9_3 p432 (by first | exact q432 | exact mD | (have e_ := (Kd.N_reads' HO_420000.out).1; omega))
                   obtain ⟨ua432_2, uc432_2, rfl, ul432_2, ge432_2⟩ := k33_openF hMe432
                   have hv432_2 := hcc432 2 _ rfl
                   rw [add_field _ _ 2 (by omega)] at hv432_2
                   replace hv432_2 := Option.some.inj (hv432_2.symm.trans hx432_2)
                   injection hv432_2 with hva_ hvn_ hvc_
                   rw [hva_] at ge432_2
                   rw [hvc_] at ul432_2
                   have HL432_2 := mS (show Kd.V k31 31 _ w.heap.size _ _ ((rd_T33 t416 x9_3).f1) from Kd.V_mk ul432_2 ge432_2)
                   clear hva_ hvn_ hvc_ ge432_2 ul432_2
                   clear hcc432 hce432
                   have HR432_2 := mS hi432_2
                   have HC432_2 := mS hl432_2
                   clear hi432_2 hl432_2
                   replace p432 := eq_true p432
                   replace q432 := eq_true q432
                   refine start_ (n := 13) (S := fun w' => w'.cell? ⟨gb426, 0, none⟩ = some (.slice Ao55 x427000_3.length co55) ∧ w'.cell? ⟨gb419, 0, none⟩ = some (.slice (some ad424) t416.length co9) ∧ w'.cell? (ad424.add ((x9_3).toNat * 3)) = some (.int .i64 ((rd_T33 t416 x9_3).f0.f0)) ∧ w'.cell? ⟨(ad424.add ((x9_3).toNat * 3)).block, (ad424.add ((x9_3).toNat * 3)).off + 1, none⟩ = some (.int .i64 ((rd_T33 t416 x9_3).f0.f1)) ∧ w'.cell? ⟨(ad424.add ((x9_3).toNat * 3)).block, (ad424.add ((x9_3).toNat * 3)).off + 2, none⟩ = some (.slice A432_2 ((rd_T33 t416 x9_3).f1).length c432_2)) (ds := []) (mb 0 13) (by kernel_rfl) rfl rfl ⟨mZ BK426.out 0, mZ BK419.out 0, hx432_0, hx432_1, hx432_2⟩ (fun hHeld => ?_); refine with_tabW laws_FnStable.tab17 laws_FnStable.bits17 (fun HT_ HW_ => ?_)
                   generalize w53.drew = w56 at HO_4 HO_7 HO_420000 HO_427000 HL430_2 BK419 BK425 BK426 HR430_2 HB HL432_2 HR432_2 hx432_0 hx432_1 hx432_2 hHeld ⊢
                   refine mpu 1 75 HT_.out (mr [0,1,1,11]) ?_
                   refine mpu 3 77 HT_.out (mr [0,1,1,1,1,9]) ?_
                   refine mpt 0 74 HT_.out HW_.out (mr [2,1,1,9]) hHeld ?_
                   refine mpt 2 76 HT_.out HW_.out (mb 4 9) hHeld ?_
                   refine mpu 4 78 HT_.out (mb 5 8) ?_
                   refine mpt 5 79 HT_.out HW_.out (mb 6 7) hHeld ?_
                   refine join_ (σ := Value × Nat) 2 (mb 11 2) (fun s_ => [(80, .tuple #[.agg #[s_.1], .bool true]), (10, .pointer (some ⟨s_.2, 0, none⟩)), (73, .tuple #[.agg #[s_.1], .bool true]), (81, .agg #[s_.1]), (82, .bool true)]) (fun s_ w' => (w'.cell? ⟨gb426, 0, none⟩ = some (.slice Ao55 x427000_3.length co55) ∧ w'.cell? ⟨gb419, 0, none⟩ = some (.slice (some ad424) t416.length co9) ∧ w'.cell? (ad424.add ((x9_3).toNat * 3)) = some (.int .i64 ((rd_T33 t416 x9_3).f0.f0)) ∧ w'.cell? ⟨(ad424.add ((x9_3).toNat * 3)).block, (ad424.add ((x9_3).toNat * 3)).off + 1, none⟩ = some (.int .i64 ((rd_T33 t416 x9_3).f0.f1)) ∧ w'.cell? ⟨(ad424.add ((x9_3).toNat * 3)).block, (ad424.add ((x9_3).toNat * 3)).off + 2, none⟩ = some (.slice A432_2 ((rd_T33 t416 x9_3).f1).length c432_2)) ∧ (Kd.V k31 31 w' w.heap.size (fun k_ => some k_ ≠ (s_.1 : Value).ownBlock ∧ some k_ ≠ (v421 : Value).ownBlock ∧ some k_ ≠ (.slice (some ad424) t416.length co9 : Value).ownBlock ∧ some k_ ≠ (.slice Ao55 x427000_3.length co55 : Value).ownBlock ∧ some k_ ≠ (.slice (some ad431) x7_3.length co54 : Value).ownBlock ∧ k_ ≠ gb419 ∧ k_ ≠ gb425 ∧ k_ ≠ gb426 ∧ k_ ≠ s_.2) (.slice A430_2 ((rd_T33 t416 x9_3).f1).length c430_2) ((rd_T33 t416 x9_3).f1)) ∧ (Kd.V k31 31 w' w.heap.size (fun k_ => some k_ ≠ (s_.1 : Value).ownBlock ∧ some k_ ≠ (v421 : Value).ownBlock ∧ some k_ ≠ (.slice (some ad424) t416.length co9 : Value).ownBlock ∧ some k_ ≠ (.slice Ao55 x427000_3.length co55 : Value).ownBlock ∧ some k_ ≠ (.slice (some ad431) x7_3.length co54 : Value).ownBlock ∧ k_ ≠ gb419 ∧ k_ ≠ gb425 ∧ k_ ≠ gb426 ∧ k_ ≠ s_.2) (.slice A432_2 ((rd_T33 t416 x9_3).f1).length c432_2) ((rd_T33 t416 x9_3).f1)) ∧ (Kd.N k33 33 w' w.heap.size (fun k_ => some k_ ≠ (v421 : Value).ownBlock ∧ some k_ ≠ (.slice (some ad424) t416.length co9 : Value).ownBlock ∧ some k_ ≠ (.slice Ao55 x427000_3.length co55 : Value).ownBlock ∧ some k_ ≠ (.slice (some ad431) x7_3.length co54 : Value).ownBlock ∧ k_ ≠ gb419 ∧ k_ ≠ gb425 ∧ k_ ≠ gb426 ∧ k_ ≠ s_.2) s_.1 t433) ∧ (Kd.R k31 31 w' w.heap.size (fun k_ => some k_ ≠ (.slice (some ad431) x7_3.length co54 : Value).ownBlock ∧ k_ ≠ gb425) v421 t420) ∧ (Kd.N k33 33 w' w.heap.size (fun k_ => some k_ ≠ (s_.1 : Value).ownBlock ∧ some k_ ≠ (v421 : Value).ownBlock ∧ some k_ ≠ (.slice Ao55 x427000_3.length co55 : Value).ownBlock ∧ some k_ ≠ (.slice (some ad431) x7_3.length co54 : Value).ownBlock ∧ k_ ≠ gb419 ∧ k_ ≠ gb425 ∧ k_ ≠ gb426 ∧ k_ ≠ s_.2) (.slice (some ad424) t416.length co9) t416) ∧ (Kd.N k33 33 w' w.heap.size (fun k_ => some k_ ≠ (s_.1 : Value).ownBlock ∧ some k_ ≠ (v421 : Value).ownBlock ∧ some k_ ≠ (.slice (some ad424) t416.length co9 : Value).ownBlock ∧ some k_ ≠ (.slice (some ad431) x7_3.length co54 : Value).ownBlock ∧ k_ ≠ gb419 ∧ k_ ≠ gb425 ∧ k_ ≠ gb426 ∧ k_ ≠ s_.2) (.slice Ao55 x427000_3.length co55) x427000_3) ∧ (Kd.R k31 31 w' w.heap.size (fun k_ => some k_ ≠ (v421 : Value).ownBlock ∧ k_ ≠ gb425) (.slice (some ad431) x7_3.length co54) x7_3) ∧ (w'.heap[gb419]? = some (.cells #[.slice (some ad424) t416.length co9] 26 (0, 0))) ∧ (w'.heap[gb425]? = some (.cells #[.int .i64 ((rd_T33 t416 (ji20)).f0.f0), .int .i64 ((rd_T33 t416 (ji20)).f0.f1)] 31 (0, 0))) ∧ (w'.heap[gb426]? = some (.cells #[.slice Ao55 x427000_3.length co55] 26 (0, 0))) ∧ (w'.heap[s_.2]? = some (.cells #[.slice none 0 0] 26 (0, 0))) ∧ (w.heap.size ≤ s_.2) ∧ (w.heap.size ≤ s_.2) ∧ (gb419 ≠ s_.2) ∧ (s_.2 ≠ gb419) ∧ (gb425 ≠ s_.2) ∧ (s_.2 ≠ gb425) ∧ (gb426 ≠ s_.2) ∧ (s_.2 ≠ gb426) ∧ (Below w.heap.size w w')) ?_ ?_
                   rotate_left
                   ·intro hCont
                    refine two_ (i := 6) (j := 10) (Ni := some 80) (Nj := some 10) (mb 7 6) (mr [6,4,1,2]) rfl rfl rfl rfl (two_of HT_.out (by kernel_rfl)) (by decide) (by decide) (fun K hK => ?_) (fun K hK => ?_)
                    ·skip
                     refine goes_ Try.func17 (by kernel_rfl) rfl #[.agg #[.slice Ao55 x427000_3.length co55], .agg #[.int .i64 ((rd_T33 t416 x9_3).f0.f0), .int .i64 ((rd_T33 t416 x9_3).f0.f1), .slice A432_2 ((rd_T33 t416 x9_3).f1).length c432_2]] (by rfl) rfl rfl mA ?_
                     with_reducible refine (impl_GraphPut.calls k3 _ _ x427000_3 ((rd_T33 t416 x9_3).f0.f0) ((rd_T33 t416 x9_3).f0.f1) _ _ ((rd_T33 t416 x9_3).f1) t433 true _ ?side1 ?side2 ?side3 ?side4 A48.out).mono ?_
                     (case side1 => exact mC (Kd.N_reads' HO_427000.out).2.2)
                     (case side2 => exact (Kd.N_reads' HO_427000.out).2.1)
                     (case side3 => exact mC (by repeat (first | (with_reducible exact HR432_2.out) | (with_reducible refine Kd.C_alloc ?_ _) | (with_reducible refine Kd.C_drewN ?_ _) | (with_reducible refine Kd.C_drew ?_) | exact HR432_2.out)))
                     (case side4 => exact HC432_2.out)
                     rintro e w57 ⟨v434, rfl, ho0, hb⟩
                     have HS2_ := (hb.cell (World.block_lt_of_cell? _ _ (hHeld.2.2.1))).trans (hHeld.2.2.1)
                     have HS3_ := (hb.cell (World.block_lt_of_cell? _ _ (hHeld.2.2.2.1))).trans (hHeld.2.2.2.1)
                     have HS4_ := (hb.cell (World.block_lt_of_cell? _ _ (hHeld.2.2.2.2))).trans (hHeld.2.2.2.2)
                     refine ⟨_, rfl, ?_⟩
                     replace HL430_2 := mS (Kd.V_elder' (mVd HL430_2.out) (by first | exact Kd.N_base ho0 | exact Kd.S_base ho0) hb)
                     replace HL432_2 := mS (Kd.V_elder' (mVd HL432_2.out) (by first | exact Kd.N_base ho0 | exact Kd.S_base ho0) hb)
                     have HO435 := mS (Kd.N_lower (Kd.N_mono (ok' := fun k_ => some k_ ≠ (v421 : Value).ownBlock ∧ some k_ ≠ (.slice (some ad431) x7_3.length co54 : Value).ownBlock ∧ some k_ ≠ (.slice (some ad424) t416.length co9 : Value).ownBlock ∧ some k_ ≠ (.slice Ao55 x427000_3.length co55 : Value).ownBlock ∧ k_ ≠ gb419 ∧ k_ ≠ gb425 ∧ k_ ≠ gb426) ho0 (fun k_ hk_ => ⟨(Kd.fresh' (Kd.R_lt (mR HO_4.out)) k_ hk_), (Kd.fresh' (Kd.R_lt (mR HO_7.out)) k_ hk_), (Kd.fresh' (Kd.N_lt (mNd HO_420000.out)) k_ hk_), (Kd.fresh' (Kd.N_lt (mNd HO_427000.out)) k_ hk_), (Kd.freshB (g := gb419) (o := .cells #[.slice (some ad424) t416.length co9] 26 (0, 0)) (mK BK419.out) k_ hk_), (Kd.freshB (g := gb425) (o := .cells #[.int .i64 ((rd_T33 t416 (ji20)).f0.f0), .int .i64 ((rd_T33 t416 (ji20)).f0.f1)] 31 (0, 0)) (mK BK425.out) k_ hk_), (Kd.freshB (g := gb426) (o := .cells #[.slice Ao55 x427000_3.length co55] 26 (0, 0)) (mK BK426.out) k_ hk_)⟩)) (below_size (mH3 HB.out GE419.out GE425.out GE426.out)))
                     replace HO_4 := mS (Kd.R_below (mR HO_4.out) hb)
                     replace HO_7 := mS (Kd.R_below (mR HO_7.out) hb)
                     replace HO_420000 := mS (Kd.N_elder' (mNd HO_420000.out) (by first | exact Kd.N_base ho0 | exact Kd.S_base ho0) hb)
                     replace HO_427000 := mS (Kd.N_elder' (mNd HO_427000.out) (by first | exact Kd.N_base ho0 | exact Kd.S_base ho0) hb)
                     replace BK419 := mB BK419 hb
                     replace BK425 := mB BK425 hb
                     replace BK426 := mB BK426 hb
                     replace HR430_2 := mS (Kd.C_below (by repeat (first | (with_reducible exact HR430_2.out) | (with_reducible refine Kd.C_alloc ?_ _) | (with_reducible refine Kd.C_drewN ?_ _) | (with_reducible refine Kd.C_drew ?_) | exact HR430_2.out)) hb)
                     replace HR432_2 := mS (Kd.C_below (by repeat (first | (with_reducible exact HR432_2.out) | (with_reducible refine Kd.C_alloc ?_ _) | (with_reducible refine Kd.C_drewN ?_ _) | (with_reducible refine Kd.C_drew ?_) | exact HR432_2.out)) hb)
                     replace HB := mS (below_step (mH3 HB.out GE419.out GE425.out GE426.out) hb)
                     (try clear hb)
                     (try clear hb2)
                     (try clear hk)
                     (try clear hi)
                     (try clear ho0)
                     refine hK.out _ _ ⟨mZ BK426.out 0, mZ BK419.out 0, HS2_, HS3_, HS4_⟩ (fun hHeld => ?_)
                     clear hK K
                     refine mno 80 ?_
                     refine mpu 7 73 HT_.out (mb 8 5) ?_
                     refine mpu 8 81 HT_.out (mb 9 4) ?_
                     refine mpu 9 82 HT_.out (mb 10 3) ?_
                     refine mone 10 (some 10) HT_.out (mb 11 2) (fun K hK => ?_)
                     refine box_step ?hg (N := 10) ?hd (cs := #[.slice none 0 0]) (t := 26) ?hr ?_; (case hd => rfl); (case hg => rfl); (case hr => first | (go_simp; done) | (go_simp; rfl))
                     intro gb437 hg w58 hbox hb
                     have HS2_ := (hb.cell (World.block_lt_of_cell? _ _ (hHeld.2.2.1))).trans (hHeld.2.2.1)
                     have HS3_ := (hb.cell (World.block_lt_of_cell? _ _ (hHeld.2.2.2.1))).trans (hHeld.2.2.2.1)
                     have HS4_ := (hb.cell (World.block_lt_of_cell? _ _ (hHeld.2.2.2.2))).trans (hHeld.2.2.2.2)
                     replace HO_4 := mS (Kd.R_below (mR HO_4.out) hb)
                     replace HO_7 := mS (Kd.R_below (mR HO_7.out) hb)
                     replace HO_420000 := mS (Kd.N_below (Kd.N_elderB (mNd HO_420000.out) gb437 (Nat.le_of_eq hg.symm)) hb)
                     replace HO_427000 := mS (Kd.N_below (Kd.N_elderB (mNd HO_427000.out) gb437 (Nat.le_of_eq hg.symm)) hb)
                     replace HL430_2 := mS (Kd.V_below (Kd.V_elderB (mVd HL430_2.out) gb437 (Nat.le_of_eq hg.symm)) hb)
                     replace HL432_2 := mS (Kd.V_below (Kd.V_elderB (mVd HL432_2.out) gb437 (Nat.le_of_eq hg.symm)) hb)
                     replace HO435 := mS (Kd.N_below (Kd.N_elderB (mNd HO435.out) gb437 (Nat.le_of_eq hg.symm)) hb)
                     replace HR430_2 := mS (Kd.C_below (by repeat (first | (with_reducible exact HR430_2.out) | (with_reducible refine Kd.C_alloc ?_ _) | (with_reducible refine Kd.C_drewN ?_ _) | (with_reducible refine Kd.C_drew ?_) | exact HR430_2.out)) hb)
                     replace HR432_2 := mS (Kd.C_below (by repeat (first | (with_reducible exact HR432_2.out) | (with_reducible refine Kd.C_alloc ?_ _) | (with_reducible refine Kd.C_drewN ?_ _) | (with_reducible refine Kd.C_drew ?_) | exact HR432_2.out)) hb)
                     have BK437 := mS (hbox)
                     have GW437 := mG hg (mH3 HB.out GE419.out GE425.out GE426.out)
                     have GE437 := mG hg (mH3 HB.out GE419.out GE425.out GE426.out)
                     replace HB := mS (below_step (mH3 HB.out GE419.out GE425.out GE426.out) hb)
                     have NB419_437 := mNl hg BK419.out
                     have NB437_419 := mNg hg BK419.out
                     replace BK419 := mB BK419 hb
                     have NB425_437 := mNl hg BK425.out
                     have NB437_425 := mNg hg BK425.out
                     replace BK425 := mB BK425 hb
                     have NB426_437 := mNl hg BK426.out
                     have NB437_426 := mNg hg BK426.out
                     replace BK426 := mB BK426 hb
                     clear hb hbox hg
                     refine hK.out _ _ ⟨mZ BK426.out 0, mZ BK419.out 0, HS2_, HS3_, HS4_⟩ (fun hHeld => ?_)
                     clear hK K
                     refine mno 10 ?_
                     exact norm_ mU (hCont (v434, gb437) _ ⟨hHeld, (by refine mVd ?_; exact Kd.V_mono HL430_2.out (fun _ hk => ⟨hk.1.2, ⟨hk.1.1.1.1, ⟨hk.1.1.2, ⟨hk.1.1.1.2.2.1, ⟨hk.1.1.1.2.1, ⟨hk.1.1.1.2.2.2.1, ⟨hk.1.1.1.2.2.2.2.1, ⟨hk.1.1.1.2.2.2.2.2, hk.2⟩⟩⟩⟩⟩⟩⟩⟩)), (by refine mVd ?_; exact Kd.V_mono HL432_2.out (fun _ hk => ⟨hk.1.2, ⟨hk.1.1.1.1, ⟨hk.1.1.2, ⟨hk.1.1.1.2.2.1, ⟨hk.1.1.1.2.1, ⟨hk.1.1.1.2.2.2.1, ⟨hk.1.1.1.2.2.2.2.1, ⟨hk.1.1.1.2.2.2.2.2, hk.2⟩⟩⟩⟩⟩⟩⟩⟩)), (by refine mNd ?_; exact Kd.N_mono HO435.out (fun _ hk => ⟨hk.1.1, ⟨hk.1.2.2.1, ⟨hk.1.2.2.2.1, ⟨hk.1.2.1, ⟨hk.1.2.2.2.2.1, ⟨hk.1.2.2.2.2.2.1, ⟨hk.1.2.2.2.2.2.2, hk.2⟩⟩⟩⟩⟩⟩⟩)), (mR HO_4.out), (by refine mNd ?_; exact Kd.N_mono HO_420000.out (fun _ hk => ⟨hk.1.2, ⟨hk.1.1.1, ⟨hk.1.1.2.2.1, ⟨hk.1.1.2.1, ⟨hk.1.1.2.2.2.1, ⟨hk.1.1.2.2.2.2.1, ⟨hk.1.1.2.2.2.2.2, hk.2⟩⟩⟩⟩⟩⟩⟩)), (by refine mNd ?_; exact Kd.N_mono HO_427000.out (fun _ hk => ⟨hk.1.2, ⟨hk.1.1.1, ⟨hk.1.1.2.2.1, ⟨hk.1.1.2.1, ⟨hk.1.1.2.2.2.1, ⟨hk.1.1.2.2.2.2.1, ⟨hk.1.1.2.2.2.2.2, hk.2⟩⟩⟩⟩⟩⟩⟩)), (mR HO_7.out), (mK BK419.out), (mK BK425.out), (mK BK426.out), (mK BK437.out), GW437.out, GE437.out, NB419_437.out, NB437_419.out, NB425_437.out, NB437_425.out, NB426_437.out, NB437_426.out, (mH4 HB.out GE419.out GE425.out GE426.out GE437.out)⟩)
                    ·skip
                     refine box_step ?hg (N := 10) ?hd (cs := #[.slice none 0 0]) (t := 26) ?hr ?_; (case hd => rfl); (case hg => rfl); (case hr => first | (go_simp; done) | (go_simp; rfl))
                     intro gb437 hg w57 hbox hb
                     have HS2_ := (hb.cell (World.block_lt_of_cell? _ _ (hHeld.2.2.1))).trans (hHeld.2.2.1)
                     have HS3_ := (hb.cell (World.block_lt_of_cell? _ _ (hHeld.2.2.2.1))).trans (hHeld.2.2.2.1)
                     have HS4_ := (hb.cell (World.block_lt_of_cell? _ _ (hHeld.2.2.2.2))).trans (hHeld.2.2.2.2)
                     replace HO_4 := mS (Kd.R_below (mR HO_4.out) hb)
                     replace HO_7 := mS (Kd.R_below (mR HO_7.out) hb)
                     replace HO_420000 := mS (Kd.N_below (Kd.N_elderB (mNd HO_420000.out) gb437 (Nat.le_of_eq hg.symm)) hb)
                     replace HO_427000 := mS (Kd.N_below (Kd.N_elderB (mNd HO_427000.out) gb437 (Nat.le_of_eq hg.symm)) hb)
                     replace HL430_2 := mS (Kd.V_below (Kd.V_elderB (mVd HL430_2.out) gb437 (Nat.le_of_eq hg.symm)) hb)
                     replace HL432_2 := mS (Kd.V_below (Kd.V_elderB (mVd HL432_2.out) gb437 (Nat.le_of_eq hg.symm)) hb)
                     replace HR430_2 := mS (Kd.C_below (by repeat (first | (with_reducible exact HR430_2.out) | (with_reducible refine Kd.C_alloc ?_ _) | (with_reducible refine Kd.C_drewN ?_ _) | (with_reducible refine Kd.C_drew ?_) | exact HR430_2.out)) hb)
                     replace HR432_2 := mS (Kd.C_below (by repeat (first | (with_reducible exact HR432_2.out) | (with_reducible refine Kd.C_alloc ?_ _) | (with_reducible refine Kd.C_drewN ?_ _) | (with_reducible refine Kd.C_drew ?_) | exact HR432_2.out)) hb)
                     have BK437 := mS (hbox)
                     have GW437 := mG hg (mH3 HB.out GE419.out GE425.out GE426.out)
                     have GE437 := mG hg (mH3 HB.out GE419.out GE425.out GE426.out)
                     replace HB := mS (below_step (mH3 HB.out GE419.out GE425.out GE426.out) hb)
                     have NB419_437 := mNl hg BK419.out
                     have NB437_419 := mNg hg BK419.out
                     replace BK419 := mB BK419 hb
                     have NB425_437 := mNl hg BK425.out
                     have NB437_425 := mNg hg BK425.out
                     replace BK425 := mB BK425 hb
                     have NB426_437 := mNl hg BK426.out
                     have NB437_426 := mNg hg BK426.out
                     replace BK426 := mB BK426 hb
                     clear hb hbox hg
                     refine hK.out _ _ ⟨mZ BK426.out 0, mZ BK419.out 0, HS2_, HS3_, HS4_⟩ (fun hHeld => ?_)
                     clear hK K
                     refine mno 10 ?_
                     refine mone 6 (some 80) HT_.out (mr [7,3,1,2]) (fun K hK => ?_)
                     refine goes_ Try.func17 (by kernel_rfl) rfl #[.agg #[.slice Ao55 x427000_3.length co55], .agg #[.int .i64 ((rd_T33 t416 x9_3).f0.f0), .int .i64 ((rd_T33 t416 x9_3).f0.f1), .slice A432_2 ((rd_T33 t416 x9_3).f1).length c432_2]] (by rfl) rfl rfl mA ?_
                     with_reducible refine (impl_GraphPut.calls k3 _ _ x427000_3 ((rd_T33 t416 x9_3).f0.f0) ((rd_T33 t416 x9_3).f0.f1) _ _ ((rd_T33 t416 x9_3).f1) t433 true _ ?side1 ?side2 ?side3 ?side4 A48.out).mono ?_
                     (case side1 => exact mC (Kd.N_reads' HO_427000.out).2.2)
                     (case side2 => exact (Kd.N_reads' HO_427000.out).2.1)
                     (case side3 => exact mC (by repeat (first | (with_reducible exact HR432_2.out) | (with_reducible refine Kd.C_alloc ?_ _) | (with_reducible refine Kd.C_drewN ?_ _) | (with_reducible refine Kd.C_drew ?_) | exact HR432_2.out)))
                     (case side4 => exact HC432_2.out)
                     rintro e w58 ⟨v434, rfl, ho0, hb⟩
                     have HS2_ := (hb.cell (World.block_lt_of_cell? _ _ (hHeld.2.2.1))).trans (hHeld.2.2.1)
                     have HS3_ := (hb.cell (World.block_lt_of_cell? _ _ (hHeld.2.2.2.1))).trans (hHeld.2.2.2.1)
                     have HS4_ := (hb.cell (World.block_lt_of_cell? _ _ (hHeld.2.2.2.2))).trans (hHeld.2.2.2.2)
                     refine ⟨_, rfl, ?_⟩
                     replace HL430_2 := mS (Kd.V_elder' (mVd HL430_2.out) (by first | exact Kd.N_base ho0 | exact Kd.S_base ho0) hb)
                     replace HL432_2 := mS (Kd.V_elder' (mVd HL432_2.out) (by first | exact Kd.N_base ho0 | exact Kd.S_base ho0) hb)
                     have HO435 := mS (Kd.N_lower (Kd.N_mono (ok' := fun k_ => some k_ ≠ (v421 : Value).ownBlock ∧ some k_ ≠ (.slice (some ad431) x7_3.length co54 : Value).ownBlock ∧ some k_ ≠ (.slice (some ad424) t416.length co9 : Value).ownBlock ∧ some k_ ≠ (.slice Ao55 x427000_3.length co55 : Value).ownBlock ∧ k_ ≠ gb419 ∧ k_ ≠ gb425 ∧ k_ ≠ gb426 ∧ k_ ≠ gb437) ho0 (fun k_ hk_ => ⟨(Kd.fresh' (Kd.R_lt (mR HO_4.out)) k_ hk_), (Kd.fresh' (Kd.R_lt (mR HO_7.out)) k_ hk_), (Kd.fresh' (Kd.N_lt (mNd HO_420000.out)) k_ hk_), (Kd.fresh' (Kd.N_lt (mNd HO_427000.out)) k_ hk_), (Kd.freshB (g := gb419) (o := .cells #[.slice (some ad424) t416.length co9] 26 (0, 0)) (mK BK419.out) k_ hk_), (Kd.freshB (g := gb425) (o := .cells #[.int .i64 ((rd_T33 t416 (ji20)).f0.f0), .int .i64 ((rd_T33 t416 (ji20)).f0.f1)] 31 (0, 0)) (mK BK425.out) k_ hk_), (Kd.freshB (g := gb426) (o := .cells #[.slice Ao55 x427000_3.length co55] 26 (0, 0)) (mK BK426.out) k_ hk_), (Kd.freshB (g := gb437) (o := .cells #[.slice none 0 0] 26 (0, 0)) (mK BK437.out) k_ hk_)⟩)) (below_size (mH4 HB.out GE419.out GE425.out GE426.out GE437.out)))
                     replace HO_4 := mS (Kd.R_below (mR HO_4.out) hb)
                     replace HO_7 := mS (Kd.R_below (mR HO_7.out) hb)
                     replace HO_420000 := mS (Kd.N_elder' (mNd HO_420000.out) (by first | exact Kd.N_base ho0 | exact Kd.S_base ho0) hb)
                     replace HO_427000 := mS (Kd.N_elder' (mNd HO_427000.out) (by first | exact Kd.N_base ho0 | exact Kd.S_base ho0) hb)
                     replace BK419 := mB BK419 hb
                     replace BK425 := mB BK425 hb
                     replace BK426 := mB BK426 hb
                     replace HR430_2 := mS (Kd.C_below (by repeat (first | (with_reducible exact HR430_2.out) | (with_reducible refine Kd.C_alloc ?_ _) | (with_reducible refine Kd.C_drewN ?_ _) | (with_reducible refine Kd.C_drew ?_) | exact HR430_2.out)) hb)
                     replace HR432_2 := mS (Kd.C_below (by repeat (first | (with_reducible exact HR432_2.out) | (with_reducible refine Kd.C_alloc ?_ _) | (with_reducible refine Kd.C_drewN ?_ _) | (with_reducible refine Kd.C_drew ?_) | exact HR432_2.out)) hb)
                     replace BK437 := mB BK437 hb
                     replace HB := mS (below_step (mH4 HB.out GE419.out GE425.out GE426.out GE437.out) hb)
                     (try clear hb)
                     (try clear hb2)
                     (try clear hk)
                     (try clear hi)
                     (try clear ho0)
                     refine hK.out _ _ ⟨mZ BK426.out 0, mZ BK419.out 0, HS2_, HS3_, HS4_⟩ (fun hHeld => ?_)
                     clear hK K
                     refine mno 80 ?_
                     refine mpu 7 73 HT_.out (mr [8,2,1,2]) ?_
                     refine mpu 8 81 HT_.out (mr [9,1,1,2]) ?_
                     refine mpu 9 82 HT_.out (mb 11 2) ?_
                     exact norm_ mU (hCont (v434, gb437) _ ⟨hHeld, (by refine mVd ?_; exact Kd.V_mono HL430_2.out (fun _ hk => ⟨hk.2, ⟨hk.1.1.1.1, ⟨hk.1.1.2, ⟨hk.1.1.1.2.2.1, ⟨hk.1.1.1.2.1, ⟨hk.1.1.1.2.2.2.1, ⟨hk.1.1.1.2.2.2.2.1, ⟨hk.1.1.1.2.2.2.2.2, hk.1.2⟩⟩⟩⟩⟩⟩⟩⟩)), (by refine mVd ?_; exact Kd.V_mono HL432_2.out (fun _ hk => ⟨hk.2, ⟨hk.1.1.1.1, ⟨hk.1.1.2, ⟨hk.1.1.1.2.2.1, ⟨hk.1.1.1.2.1, ⟨hk.1.1.1.2.2.2.1, ⟨hk.1.1.1.2.2.2.2.1, ⟨hk.1.1.1.2.2.2.2.2, hk.1.2⟩⟩⟩⟩⟩⟩⟩⟩)), (by refine mNd ?_; exact Kd.N_mono HO435.out (fun _ hk => ⟨hk.1, ⟨hk.2.2.1, ⟨hk.2.2.2.1, ⟨hk.2.1, ⟨hk.2.2.2.2.1, ⟨hk.2.2.2.2.2.1, ⟨hk.2.2.2.2.2.2.1, hk.2.2.2.2.2.2.2⟩⟩⟩⟩⟩⟩⟩)), (mR HO_4.out), (by refine mNd ?_; exact Kd.N_mono HO_420000.out (fun _ hk => ⟨hk.2, ⟨hk.1.1.1, ⟨hk.1.1.2.2.1, ⟨hk.1.1.2.1, ⟨hk.1.1.2.2.2.1, ⟨hk.1.1.2.2.2.2.1, ⟨hk.1.1.2.2.2.2.2, hk.1.2⟩⟩⟩⟩⟩⟩⟩)), (by refine mNd ?_; exact Kd.N_mono HO_427000.out (fun _ hk => ⟨hk.2, ⟨hk.1.1.1, ⟨hk.1.1.2.2.1, ⟨hk.1.1.2.1, ⟨hk.1.1.2.2.2.1, ⟨hk.1.1.2.2.2.2.1, ⟨hk.1.1.2.2.2.2.2, hk.1.2⟩⟩⟩⟩⟩⟩⟩)), (mR HO_7.out), (mK BK419.out), (mK BK425.out), (mK BK426.out), (mK BK437.out), GW437.out, GE437.out, NB419_437.out, NB437_419.out, NB425_437.out, NB437_425.out, NB426_437.out, NB437_426.out, (mH4 HB.out GE419.out GE425.out GE426.out GE437.out)⟩)
                   rintro ⟨v434, gb437⟩ w59 ⟨hS_, h0_, h1_, h2_, h3_, h4_, h5_, h6_, h7_, h8_, h9_, h10_, h11_, h12_, h13_, h14_, h15_, h16_, h17_, h18_, h19_⟩
                   replace HL430_2 : Aside0 (Kd.V k31 31 w59 w.heap.size (fun k_ => some k_ ≠ (v434 : Value).ownBlock ∧ some k_ ≠ (v421 : Value).ownBlock ∧ some k_ ≠ (.slice (some ad424) t416.length co9 : Value).ownBlock ∧ some k_ ≠ (.slice Ao55 x427000_3.length co55 : Value).ownBlock ∧ some k_ ≠ (.slice (some ad431) x7_3.length co54 : Value).ownBlock ∧ k_ ≠ gb419 ∧ k_ ≠ gb425 ∧ k_ ≠ gb426 ∧ k_ ≠ gb437) (.slice A430_2 ((rd_T33 t416 x9_3).f1).length c430_2) ((rd_T33 t416 x9_3).f1)) := ⟨h0_⟩
                   have HL432_2 : Aside0 (Kd.V k31 31 w59 w.heap.size (fun k_ => some k_ ≠ (v434 : Value).ownBlock ∧ some k_ ≠ (v421 : Value).ownBlock ∧ some k_ ≠ (.slice (some ad424) t416.length co9 : Value).ownBlock ∧ some k_ ≠ (.slice Ao55 x427000_3.length co55 : Value).ownBlock ∧ some k_ ≠ (.slice (some ad431) x7_3.length co54 : Value).ownBlock ∧ k_ ≠ gb419 ∧ k_ ≠ gb425 ∧ k_ ≠ gb426 ∧ k_ ≠ gb437) (.slice A432_2 ((rd_T33 t416 x9_3).f1).length c432_2) ((rd_T33 t416 x9_3).f1)) := ⟨h1_⟩
                   have HO435 : Aside0 (Kd.N k33 33 w59 w.heap.size (fun k_ => some k_ ≠ (v421 : Value).ownBlock ∧ some k_ ≠ (.slice (some ad424) t416.length co9 : Value).ownBlock ∧ some k_ ≠ (.slice Ao55 x427000_3.length co55 : Value).ownBlock ∧ some k_ ≠ (.slice (some ad431) x7_3.length co54 : Value).ownBlock ∧ k_ ≠ gb419 ∧ k_ ≠ gb425 ∧ k_ ≠ gb426 ∧ k_ ≠ gb437) v434 t433) := ⟨h2_⟩
                   replace HO_4 : Aside0 (Kd.R k31 31 w59 w.heap.size (fun k_ => some k_ ≠ (.slice (some ad431) x7_3.length co54 : Value).ownBlock ∧ k_ ≠ gb425) v421 t420) := ⟨h3_⟩
                   replace HO_420000 : Aside0 (Kd.N k33 33 w59 w.heap.size (fun k_ => some k_ ≠ (v434 : Value).ownBlock ∧ some k_ ≠ (v421 : Value).ownBlock ∧ some k_ ≠ (.slice Ao55 x427000_3.length co55 : Value).ownBlock ∧ some k_ ≠ (.slice (some ad431) x7_3.length co54 : Value).ownBlock ∧ k_ ≠ gb419 ∧ k_ ≠ gb425 ∧ k_ ≠ gb426 ∧ k_ ≠ gb437) (.slice (some ad424) t416.length co9) t416) := ⟨h4_⟩
                   replace HO_427000 : Aside0 (Kd.N k33 33 w59 w.heap.size (fun k_ => some k_ ≠ (v434 : Value).ownBlock ∧ some k_ ≠ (v421 : Value).ownBlock ∧ some k_ ≠ (.slice (some ad424) t416.length co9 : Value).ownBlock ∧ some k_ ≠ (.slice (some ad431) x7_3.length co54 : Value).ownBlock ∧ k_ ≠ gb419 ∧ k_ ≠ gb425 ∧ k_ ≠ gb426 ∧ k_ ≠ gb437) (.slice Ao55 x427000_3.length co55) x427000_3) := ⟨h5_⟩
                   replace HO_7 : Aside0 (Kd.R k31 31 w59 w.heap.size (fun k_ => some k_ ≠ (v421 : Value).ownBlock ∧ k_ ≠ gb425) (.slice (some ad431) x7_3.length co54) x7_3) := ⟨h6_⟩
                   replace BK419 : Aside0 (w59.heap[gb419]? = some (.cells #[.slice (some ad424) t416.length co9] 26 (0, 0))) := ⟨h7_⟩
                   replace BK425 : Aside0 (w59.heap[gb425]? = some (.cells #[.int .i64 ((rd_T33 t416 (ji20)).f0.f0), .int .i64 ((rd_T33 t416 (ji20)).f0.f1)] 31 (0, 0))) := ⟨h8_⟩
                   replace BK426 : Aside0 (w59.heap[gb426]? = some (.cells #[.slice Ao55 x427000_3.length co55] 26 (0, 0))) := ⟨h9_⟩
                   have BK437 : Aside0 (w59.heap[gb437]? = some (.cells #[.slice none 0 0] 26 (0, 0))) := ⟨h10_⟩
                   have GW437 : Aside0 (w.heap.size ≤ gb437) := ⟨h11_⟩
                   have GE437 : Aside0 (w.heap.size ≤ gb437) := ⟨h12_⟩
                   have NB419_437 : Aside0 (gb419 ≠ gb437) := ⟨h13_⟩
                   have NB437_419 : Aside0 (gb437 ≠ gb419) := ⟨h14_⟩
                   have NB425_437 : Aside0 (gb425 ≠ gb437) := ⟨h15_⟩
                   have NB437_425 : Aside0 (gb437 ≠ gb425) := ⟨h16_⟩
                   have NB426_437 : Aside0 (gb426 ≠ gb437) := ⟨h17_⟩
                   have NB437_426 : Aside0 (gb437 ≠ gb426) := ⟨h18_⟩
                   replace HB : Aside0 (Below w.heap.size w w59) := ⟨h19_⟩
                   clear HR430_2
                   clear h0_ h1_ h2_ h3_ h4_ h5_ h6_ h7_ h8_ h9_ h10_ h11_ h12_ h13_ h14_ h15_ h16_ h17_ h18_ h19_
                   have hHeld : w59.cell? ⟨gb426, 0, none⟩ = some (.slice Ao55 x427000_3.length co55) ∧ w59.cell? ⟨gb419, 0, none⟩ = some (.slice (some ad424) t416.length co9) ∧ w59.cell? (ad424.add ((x9_3).toNat * 3)) = some (.int .i64 ((rd_T33 t416 x9_3).f0.f0)) ∧ w59.cell? ⟨(ad424.add ((x9_3).toNat * 3)).block, (ad424.add ((x9_3).toNat * 3)).off + 1, none⟩ = some (.int .i64 ((rd_T33 t416 x9_3).f0.f1)) ∧ w59.cell? ⟨(ad424.add ((x9_3).toNat * 3)).block, (ad424.add ((x9_3).toNat * 3)).off + 2, none⟩ = some (.slice A432_2 ((rd_T33 t416 x9_3).f1).length c432_2) := hS_
                   obtain ⟨Ao60, co60, eo60⟩ := Kd.N_slice HO435.out
                   (first | subst eo60 | (injection eo60 with f1_ f2_ f3_; have f4_ := f1_.symm; have f5_ := f3_.symm; clear f1_ f2_ f3_; subst f4_; subst f5_))
                   refine mnp ?_
                   refine mone 11 none HT_.out (mb 12 1) (fun K hK => ?_)
                   have hs61 : w59.cell? ⟨gb437, 0, none⟩ = some (.slice none 0 0) := mZ BK437.out 0
                   have hfs61 := blk_frozen BK437.out 0
                   have hns61_0 := NB419_437.out
                   have hns61_1 := NB425_437.out
                   have hns61_2 := NB426_437.out
                   have hms61_0 := NB437_419.out
                   have hms61_1 := NB437_425.out
                   have hms61_2 := NB437_426.out
                   refine skip_ (w1 := ?_) (by rfl) rfl ?_ ?_
                   rotate_left
                   ·go_simp
                    rfl
                   refine hK.out _ _ ⟨((cell_far (p := ⟨gb437, _, none⟩) NB426_437.out _).trans (hHeld.1)), ((cell_far (p := ⟨gb437, _, none⟩) NB419_437.out _).trans (hHeld.2.1)), ((cell_far (p := ⟨gb437, _, none⟩) (by first | exact Kd.own_blk (Kd.N_away HO_420000.out (fun _ hk => hk.2.2.2.2.2.2.2)) | (rw [add_block]; exact Kd.own_blk (Kd.N_away HO_420000.out (fun _ hk => hk.2.2.2.2.2.2.2))) | (show (Addr.add _ _).block ≠ _; rw [add_block]; exact Kd.own_blk (Kd.N_away HO_420000.out (fun _ hk => hk.2.2.2.2.2.2.2))) | (dsimp only; exact Kd.own_blk (Kd.N_away HO_420000.out (fun _ hk => hk.2.2.2.2.2.2.2)))) _).trans (hHeld.2.2.1)), ((cell_far (p := ⟨gb437, _, none⟩) (by first | exact Kd.own_blk (Kd.N_away HO_420000.out (fun _ hk => hk.2.2.2.2.2.2.2)) | (rw [add_block]; exact Kd.own_blk (Kd.N_away HO_420000.out (fun _ hk => hk.2.2.2.2.2.2.2))) | (show (Addr.add _ _).block ≠ _; rw [add_block]; exact Kd.own_blk (Kd.N_away HO_420000.out (fun _ hk => hk.2.2.2.2.2.2.2))) | (dsimp only; exact Kd.own_blk (Kd.N_away HO_420000.out (fun _ hk => hk.2.2.2.2.2.2.2)))) _).trans (hHeld.2.2.2.1)), ((cell_far (p := ⟨gb437, _, none⟩) (by first | exact Kd.own_blk (Kd.N_away HO_420000.out (fun _ hk => hk.2.2.2.2.2.2.2)) | (rw [add_block]; exact Kd.own_blk (Kd.N_away HO_420000.out (fun _ hk => hk.2.2.2.2.2.2.2))) | (show (Addr.add _ _).block ≠ _; rw [add_block]; exact Kd.own_blk (Kd.N_away HO_420000.out (fun _ hk => hk.2.2.2.2.2.2.2))) | (dsimp only; exact Kd.own_blk (Kd.N_away HO_420000.out (fun _ hk => hk.2.2.2.2.2.2.2)))) _).trans (hHeld.2.2.2.2))⟩ (fun hHeld => ?_)
                   clear hK K
                   refine mpu 12 11 HT_.out (mb 13 0) ?_
                   refine done_ (done_of HT_.out (by kernel_rfl)) ?_
                   have hnb62 := NB437_419.out
                   have hnc62 := NB419_437.out
                   have hnb63 := NB437_425.out
                   have hnc63 := NB425_437.out
                   have hnb64 := NB437_426.out
                   have hnc64 := NB426_437.out
                   have hcz65_0 := mZ BK437.out 0
                   have hfz65_0 := blk_frozen BK437.out 0
                   have hnb66 := NB426_425.out
                   have hnc66 := NB425_426.out
                   have hcz67_0 := mZ BK426.out 0
                   have hfz67_0 := blk_frozen BK426.out 0
                   try go_wp2
                   go_loopg [7, 12] k3 (fun kq v7 v12 w' => ∃ (x7_4 : List (S31)) (x12_4 : Int), v12 = .int .i64 x12_4 ∧ Aside0 (laws_FnStable.l2 kq t420 x7_4 x8_2 x9_3 x12_4 t416 t433 = some r) ∧ Aside0 (kq ≤ k3) ∧ Aside0 (Kd.R k31 31 w' w.heap.size (fun k_ => some k_ ≠ (v7 : Value).ownBlock ∧ k_ ≠ gb425) v421 t420) ∧ Aside0 (Kd.R k31 31 w' w.heap.size (fun k_ => some k_ ≠ (v421 : Value).ownBlock ∧ k_ ≠ gb425) v7 x7_4) ∧ Aside0 (Kd.N k33 33 w' w.heap.size (fun k_ => some k_ ≠ (v421 : Value).ownBlock ∧ some k_ ≠ (v7 : Value).ownBlock ∧ some k_ ≠ ((.slice Ao60 t433.length co60) : Value).ownBlock ∧ some k_ ≠ ((.slice Ao60 t433.length co60) : Value).ownBlock ∧ k_ ≠ gb419 ∧ k_ ≠ gb425 ∧ k_ ≠ gb426 ∧ k_ ≠ gb437) (.slice (some ad424) t416.length co9) t416) ∧ Aside0 (Kd.N k33 33 w' w.heap.size (fun k_ => some k_ ≠ (v421 : Value).ownBlock ∧ some k_ ≠ (v7 : Value).ownBlock ∧ some k_ ≠ ((.slice (some ad424) t416.length co9) : Value).ownBlock ∧ k_ ≠ gb419 ∧ k_ ≠ gb425 ∧ k_ ≠ gb426 ∧ k_ ≠ gb437) (.slice Ao60 t433.length co60) t433) ∧ Aside0 (Kd.N k33 33 w' w.heap.size (fun k_ => some k_ ≠ (v421 : Value).ownBlock ∧ some k_ ≠ (v7 : Value).ownBlock ∧ some k_ ≠ ((.slice (some ad424) t416.length co9) : Value).ownBlock ∧ k_ ≠ gb419 ∧ k_ ≠ gb425 ∧ k_ ≠ gb426 ∧ k_ ≠ gb437) (.slice Ao60 t433.length co60) t433) ∧ Aside0 (w'.heap[gb419]? = some (.cells #[(.slice (some ad424) t416.length co9)] 26 (0, 0))) ∧ Aside0 (w'.heap[gb425]? = some (.cells #[.int .i64 ((rd_T33 t416 (ji20)).f0.f0), .int .i64 ((rd_T33 t416 (ji20)).f0.f1)] 31 (0, 0))) ∧ Aside0 (w'.heap[gb426]? = some (.cells #[(.slice Ao60 t433.length co60)] 26 (0, 0))) ∧ Aside0 (w'.heap[gb437]? = some (.cells #[(.slice Ao60 t433.length co60)] 26 (0, 0))) ∧ Aside0 (Below w.heap.size w w'))
                   case atStart => exact ⟨(x7_3), (0), mE, H', ⟨Nat.le_refl _⟩, ⟨by refine mR ?_; exact Kd.R_mono (Kd.R_far (p := ⟨gb426, 0, none⟩) (Kd.R_far (p := ⟨gb437, 0, none⟩) (Kd.R_types (Kd.R_types HO_4.out BK437.out (by decide)) BK426.out (by decide)) (fun _ hk => hk.1.2) (.slice Ao60 t433.length co60)) (fun _ hk => hk.2) (.slice Ao60 t433.length co60)) (fun _ hk => ⟨hk.1.1.1, hk.1.1.2⟩)⟩, ⟨by refine mR ?_; exact Kd.R_mono (Kd.R_far (p := ⟨gb426, 0, none⟩) (Kd.R_far (p := ⟨gb437, 0, none⟩) (Kd.R_types (Kd.R_types HO_7.out BK437.out (by decide)) BK426.out (by decide)) (fun _ hk => hk.1.2) (.slice Ao60 t433.length co60)) (fun _ hk => hk.2) (.slice Ao60 t433.length co60)) (fun _ hk => ⟨hk.1.1.1, hk.1.1.2⟩)⟩, ⟨by refine mNd ?_; exact Kd.N_mono (Kd.N_far (p := ⟨gb426, 0, none⟩) (Kd.N_far (p := ⟨gb437, 0, none⟩) (Kd.N_mono (Kd.N_mono HO_420000.out (fun k_ hk => (⟨hk, hk.2.2.2.2.2.2.2⟩ : _ ∧ k_ ≠ gb437))) (fun k_ hk => (⟨hk, hk.1.2.2.2.2.2.2.1⟩ : _ ∧ k_ ≠ gb426))) (fun _ hk => hk.1.2) (.slice Ao60 t433.length co60)) (fun _ hk => hk.2) (.slice Ao60 t433.length co60)) (fun _ hk => ⟨hk.1.1.2.1, ⟨hk.1.1.2.2.2.1, ⟨hk.1.1.1, ⟨hk.1.1.1, ⟨hk.1.1.2.2.2.2.1, ⟨hk.1.1.2.2.2.2.2.1, ⟨hk.1.1.2.2.2.2.2.2.1, hk.1.1.2.2.2.2.2.2.2⟩⟩⟩⟩⟩⟩⟩)⟩, ⟨by refine mNd ?_; exact Kd.N_mono (Kd.N_far (p := ⟨gb426, 0, none⟩) (Kd.N_far (p := ⟨gb437, 0, none⟩) (Kd.N_mono (Kd.N_mono HO435.out (fun k_ hk => (⟨hk, hk.2.2.2.2.2.2.2⟩ : _ ∧ k_ ≠ gb437))) (fun k_ hk => (⟨hk, hk.1.2.2.2.2.2.2.1⟩ : _ ∧ k_ ≠ gb426))) (fun _ hk => hk.1.2) (.slice Ao60 t433.length co60)) (fun _ hk => hk.2) (.slice Ao60 t433.length co60)) (fun _ hk => ⟨hk.1.1.1, ⟨hk.1.1.2.2.2.1, ⟨hk.1.1.2.1, ⟨hk.1.1.2.2.2.2.1, ⟨hk.1.1.2.2.2.2.2.1, ⟨hk.1.1.2.2.2.2.2.2.1, hk.1.1.2.2.2.2.2.2.2⟩⟩⟩⟩⟩⟩)⟩, ⟨by refine mNd ?_; exact Kd.N_mono (Kd.N_far (p := ⟨gb426, 0, none⟩) (Kd.N_far (p := ⟨gb437, 0, none⟩) (Kd.N_mono (Kd.N_mono HO435.out (fun k_ hk => (⟨hk, hk.2.2.2.2.2.2.2⟩ : _ ∧ k_ ≠ gb437))) (fun k_ hk => (⟨hk, hk.1.2.2.2.2.2.2.1⟩ : _ ∧ k_ ≠ gb426))) (fun _ hk => hk.1.2) (.slice Ao60 t433.length co60)) (fun _ hk => hk.2) (.slice Ao60 t433.length co60)) (fun _ hk => ⟨hk.1.1.1, ⟨hk.1.1.2.2.2.1, ⟨hk.1.1.2.1, ⟨hk.1.1.2.2.2.2.1, ⟨hk.1.1.2.2.2.2.2.1, ⟨hk.1.1.2.2.2.2.2.2.1, hk.1.1.2.2.2.2.2.2.2⟩⟩⟩⟩⟩⟩)⟩, ⟨by refine mKf NB419_426.out ?_; exact mKf NB419_437.out BK419.out⟩, ⟨by refine mKf NB425_426.out ?_; exact mKf NB425_437.out BK425.out⟩, ⟨by refine mK ?_; refine blk_put (cs := #[.slice Ao55 x427000_3.length co55]) ?_ 0 _ rfl; exact mKf NB426_437.out BK426.out⟩, ⟨by refine mKf NB437_426.out ?_; refine mK ?_; refine blk_put (cs := #[.slice none 0 0]) ?_ 0 _ rfl; refine mK ?_; exact BK437.out⟩, ⟨(mH4 HB.out GE419.out GE425.out GE426.out GE437.out)⟩⟩
                   case round =>
                    clear H'
                    try clear c1
                    try clear p2
                    try clear c4
                    try clear p4
                    try clear q4
                    try clear hx4
                    try clear c6
                    try clear c17
                    try clear c43
                    try clear p43
                    try clear q43
                    try clear hx43
                    try clear c62
                    try clear c63
                    try clear c64
                    try clear c66
                    try clear hcz65_0
                    try clear hcz67_0
                    try clear hfz65_0
                    try clear hfz67_0
                    try clear hx432_0
                    try clear hx432_1
                    try clear hx432_2
                    try clear p432
                    try clear q432
                    obtain ⟨x7_4, x12_4, rfl, HA, HK4, HO_4, HO_7, HO_420000, HO_427000, HO_438000, BK419, BK425, BK426, BK437, HB⟩ := hrel
                    cases gk with
                    | zero => exact absurd HA.out (by simp [laws_FnStable.l2])
                    | succ k4 =>
                     have H := HA.out
                     clear HA
                     simp only [laws_FnStable.l2] at H
                     by_cases c68 : 0 ≤ x9_3
                     ·rw [if_pos c68] at H
                      have c68b0 := decide_eq_true c68
                      clear c68
                      by_cases c69 : x9_3 < (t416.length : Int)
                      ·rw [if_pos c69] at H
                       have c69b0 := decide_eq_true c69
                       clear c69
                       by_cases c70 : x12_4 < (((rd_T33 t416 x9_3).f1).length : Int)
                       ·rw [if_pos c70] at H
                        have c70b0 := decide_eq_true c70
                        clear c70
                        by_cases c71 : 0 ≤ x12_4
                        ·rw [if_pos c71] at H
                         have c71b0 := decide_eq_true c71
                         clear c71
                         replace H := Option.bind_eq_some_iff.mp H
                         obtain ⟨t441, A720, H⟩ := H
                         replace H : (if t441 < 0 then (if x7_4.length < 8796093022208 then (laws_FnStable.l2 k4 t420 (x7_4 ++ [(⟨(rd_T31 ((rd_T33 t416 x9_3).f1) x12_4).f0, (rd_T31 ((rd_T33 t416 x9_3).f1) x12_4).f1⟩ : S31)]) x8_2 x9_3 (wrap64 (x12_4 + 1)) t416 t433) else (none)) else (laws_FnStable.l2 k4 t420 x7_4 x8_2 x9_3 (wrap64 (x12_4 + 1)) t416 t433)) = some r := H
                         have A72 := mS A720
                         clear A720
                         by_cases c73 : t441 < 0
                         ·rw [if_pos c73] at H
                          have c73b0 := decide_eq_true c73
                          clear c73
                          by_cases c74 : x7_4.length < 8796093022208
                          ·rw [if_pos c74] at H
                           have LMc74 := mS c74
                           clear c74
                           obtain ⟨y444, hy444⟩ : ∃ y_ : List (S31), y_ = (x7_4 ++ [(⟨(rd_T31 ((rd_T33 t416 x9_3).f1) x12_4).f0, (rd_T31 ((rd_T33 t416 x9_3).f1) x12_4).f1⟩ : S31)]) := ⟨_, rfl⟩
                           replace H : (laws_FnStable.l2 k4 t420 y444 x8_2 x9_3 (wrap64 (x12_4 + 1)) t416 t433) = some r := by first | (rw [hy444]; with_reducible exact H) | (have H2_ := (Option.bind_some _ _).symm.trans H; rw [hy444]; with_reducible exact H2_) | (have H2_ := (Option.bind_some _ _).symm.trans H; with_reducible exact H2_) | with_reducible exact H | (rw [hy444]; exact H) | exact H
                           have Ny444 := mS hy444
                           clear hy444
                           have H' := mS H
                           clear H
                           have hnb75 := NB419_425.out
                           have hnc75 := NB425_419.out
                           have hnb76 := NB419_426.out
                           have hnc76 := NB426_419.out
                           have hnb77 := NB419_437.out
                           have hnc77 := NB437_419.out
                           have hcz78_0 := mZ BK419.out 0
                           have hfz78_0 := blk_frozen BK419.out 0
                           have p438 : 0 ≤ (x9_3 : Int) := mD
                           have q438 : x9_3 < (t416.length : Int) := mD
                           obtain ⟨ad438, A438_2, c438_2, e438, hx438_0, hx438_1, hx438_2, hl438_2, hi438_2⟩ := at_T33 (Kd.N_reads' HO_420000.out).2.2 x9_3 p438 q438
                           obtain rfl : ad424 = ad438 := (by injection e438)
                           obtain ⟨ce438, hce438, hMe438, hcc438⟩ := Kd.N_get HO_420000.out z33 x9_3 p438 (by first | exact q438 | exact mD | (have e_ := (Kd.N_reads' HO_420000.out).1; omega))
                           obtain ⟨ua438_2, uc438_2, rfl, ul438_2, ge438_2⟩ := k33_openF hMe438
                           have hv438_2 := hcc438 2 _ rfl
                           rw [add_field _ _ 2 (by omega)] at hv438_2
                           replace hv438_2 := Option.some.inj (hv438_2.symm.trans hx438_2)
                           injection hv438_2 with hva_ hvn_ hvc_
                           rw [hva_] at ge438_2
                           rw [hvc_] at ul438_2
                           have HL438_2 := mS (show Kd.V k31 31 _ w.heap.size _ _ ((rd_T33 t416 x9_3).f1) from Kd.V_mk ul438_2 ge438_2)
                           clear hva_ hvn_ hvc_ ge438_2 ul438_2
                           clear hcc438 hce438
                           have HR438_2 := mS hi438_2
                           have HC438_2 := mS hl438_2
                           clear hi438_2 hl438_2
                           replace p438 := eq_true p438
                           replace q438 := eq_true q438
                           have p439 : 0 ≤ (x9_3 : Int) := mD
                           have q439 : x9_3 < (t416.length : Int) := mD
                           obtain ⟨ad439, A439_2, c439_2, e439, hx439_0, hx439_1, hx439_2, hl439_2, hi439_2⟩ := at_T33 (Kd.N_reads' HO_420000.out).2.2 x9_3 p439 q439
                           obtain rfl : ad424 = ad439 := (by injection e439)
                           obtain ⟨ce439, hce439, hMe439, hcc439⟩ := Kd.N_get HO_420000.out z33 x9_3 p439 (by first | exact q439 | exact mD | (have e_ := (Kd.N_reads' HO_420000.out).1; omega))
                           obtain ⟨ua439_2, uc439_2, rfl, ul439_2, ge439_2⟩ := k33_openF hMe439
                           have hv439_2 := hcc439 2 _ rfl
                           rw [add_field _ _ 2 (by omega)] at hv439_2
                           replace hv439_2 := Option.some.inj (hv439_2.symm.trans hx439_2)
                           injection hv439_2 with hva_ hvn_ hvc_
                           rw [hva_] at ge439_2
                           rw [hvc_] at ul439_2
                           have HL439_2 := mS (show Kd.V k31 31 _ w.heap.size _ _ ((rd_T33 t416 x9_3).f1) from Kd.V_mk ul439_2 ge439_2)
                           clear hva_ hvn_ hvc_ ge439_2 ul439_2
                           clear hcc439 hce439
                           have HR439_2 := mS hi439_2
                           have HC439_2 := mS hl439_2
                           clear hi439_2 hl439_2
                           replace p439 := eq_true p439
                           replace q439 := eq_true q439
                           have ea_ := Option.some.inj (hx438_2.symm.trans hx439_2)
                           injection ea_ with ea_ en_ ec_
                           subst ea_
                           subst ec_
                           clear en_
                           have p440 : 0 ≤ (x12_4 : Int) := mD
                           have q440 : x12_4 < (((rd_T33 t416 x9_3).f1).length : Int) := mD
                           obtain ⟨ad440, e440, hx440_0, hx440_1⟩ := at_T31 (by repeat (first | (with_reducible exact HR439_2.out) | (with_reducible refine Kd.C_alloc ?_ _) | (with_reducible refine Kd.C_drewN ?_ _) | (with_reducible refine Kd.C_drew ?_) | exact HR439_2.out)) x12_4 p440 q440
                           cases e440
                           replace p440 := eq_true p440
                           replace q440 := eq_true q440
                           obtain ⟨Ao79, co79, eo79⟩ := Kd.R_slice HO_7.out
                           subst eo79
                           go_wp2_with (first | ((with_reducible refine gate_callee (f := 18) rfl ?_); refine mGo 107 Try.func18 #[.slice Ao79 x7_4.length co79, .agg #[.int .i64 ((rd_T31 ((rd_T33 t416 x9_3).f1) x12_4).f0), .int .i64 ((rd_T31 ((rd_T33 t416 x9_3).f1) x12_4).f1)]] ?_; (with_reducible refine (laws_place.calls k4 _ _ x7_4 ((rd_T31 ((rd_T33 t416 x9_3).f1) x12_4).f0) ((rd_T31 ((rd_T33 t416 x9_3).f1) x12_4).f1) t441 _ ?side1 ?side2 A72.out).mono ?_); (case side1 => exact mC (Kd.R_reads' HO_7.out).2.2); (case side2 => exact (Kd.R_reads' HO_7.out).2.1); rintro e w80 ⟨rfl, hb⟩; refine ⟨_, rfl, ?_⟩; replace HO_4 := mS (Kd.R_below (mR HO_4.out) hb); replace HO_7 := mS (Kd.R_below (mR HO_7.out) hb); replace HO_420000 := mS (Kd.N_below (mNd HO_420000.out) hb); replace HO_427000 := mS (Kd.N_below (mNd HO_427000.out) hb); replace HO_438000 := mS (Kd.N_below (mNd HO_438000.out) hb); replace HL438_2 := mS (Kd.V_below (mVd HL438_2.out) hb); replace HL439_2 := mS (Kd.V_below (mVd HL439_2.out) hb); replace BK419 := mB BK419 hb; replace BK425 := mB BK425 hb; replace BK426 := mB BK426 hb; replace BK437 := mB BK437 hb; replace HR438_2 := mS (Kd.C_below (by repeat (first | (with_reducible exact HR438_2.out) | (with_reducible refine Kd.C_alloc ?_ _) | (with_reducible refine Kd.C_drewN ?_ _) | (with_reducible refine Kd.C_drew ?_) | exact HR438_2.out)) hb); replace HR439_2 := mS (Kd.C_below (by repeat (first | (with_reducible exact HR439_2.out) | (with_reducible refine Kd.C_alloc ?_ _) | (with_reducible refine Kd.C_drewN ?_ _) | (with_reducible refine Kd.C_drew ?_) | exact HR439_2.out)) hb); replace HB := mS (below_step (mH4 HB.out GE419.out GE425.out GE426.out GE437.out) hb); (try clear hb); have hcz81_0 := mZ BK419.out 0; have hfz81_0 := blk_frozen BK419.out 0; have p442 : 0 ≤ (x9_3 : Int) := mD; have q442 : x9_3 < (t416.length : Int) := mD; obtain ⟨ad442, A442_2, c442_2, e442, hx442_0, hx442_1, hx442_2, hl442_2, hi442_2⟩ := at_T33 (Kd.N_reads' HO_420000.out).2.2 x9_3 p442 q442; obtain rfl : ad424 = ad442 := (by injection e442); obtain ⟨ce442, hce442, hMe442, hcc442⟩ := Kd.N_get HO_420000.out z33 x9_3 p442 (by first | exact q442 | exact mD | (have e_ := (Kd.N_reads' HO_420000.out).1; omega)); obtain ⟨ua442_2, uc442_2, rfl, ul442_2, ge442_2⟩ := k33_openF hMe442; have hv442_2 := hcc442 2 _ rfl; rw [add_field _ _ 2 (by omega)] at hv442_2; replace hv442_2 := Option.some.inj (hv442_2.symm.trans hx442_2); injection hv442_2 with hva_ hvn_ hvc_; rw [hva_] at ge442_2; rw [hvc_] at ul442_2; have HL442_2 := mS (show Kd.V k31 31 _ w.heap.size _ _ ((rd_T33 t416 x9_3).f1) from Kd.V_mk ul442_2 ge442_2); clear hva_ hvn_ hvc_ ge442_2 ul442_2; clear hcc442 hce442; have HR442_2 := mS hi442_2; have HC442_2 := mS hl442_2; clear hi442_2 hl442_2; replace p442 := eq_true p442; replace q442 := eq_true q442; have p443 : 0 ≤ (x12_4 : Int) := mD; have q443 : x12_4 < (((rd_T33 t416 x9_3).f1).length : Int) := mD; obtain ⟨ad443, e443, hx443_0, hx443_1⟩ := at_T31 (by repeat (first | (with_reducible exact HR442_2.out) | (with_reducible refine Kd.C_alloc ?_ _) | (with_reducible refine Kd.C_drewN ?_ _) | (with_reducible refine Kd.C_drew ?_) | exact HR442_2.out)) x12_4 p443 q443; cases e443; replace p443 := eq_true p443; replace q443 := eq_true q443) | ((with_reducible refine gate_builtin (b := .append) (xs := #[.tmp 109, .tmp 119]) rfl ?_); (try (refine gate_guard (by rfl) ?_; dsimp only)); at_builtin; refine Kd.R_append k31 (w0 := w) w.heap.size rfl (.tmp 109) (.tmp 119) 28 31 (.agg #[(.int .i64 0), (.int .i64 0)]) 16 rfl Try.underlying28 info31 rfl (by decide) (by omega) (.slice Ao79 x7_4.length co79) x7_4 (⟨(rd_T31 ((rd_T33 t416 x9_3).f1) x12_4).f0, (rd_T31 ((rd_T33 t416 x9_3).f1) x12_4).f1⟩ : S31) [.int .i64 ((rd_T31 ((rd_T33 t416 x9_3).f1) x12_4).f0), .int .i64 ((rd_T31 ((rd_T33 t416 x9_3).f1) x12_4).f1)] (fun k_ => some k_ ≠ (v421 : Value).ownBlock ∧ k_ ≠ gb425) (fun _ => False) rfl rfl ?aP (fun _ hk => hk.elim) ?aF ?aO ?aB ?aS ?aL ?_; (case aP => exact k31_mkM _ _ _ (⟨(rd_T31 ((rd_T33 t416 x9_3).f1) x12_4).f0, (rd_T31 ((rd_T33 t416 x9_3).f1) x12_4).f1⟩ : S31)); (case aB => exact (mH4 HB.out GE419.out GE425.out GE426.out GE437.out)); (case aF => exact (fun k_ hk => ⟨Kd.fresh' (Kd.R_lt (mR HO_4.out)) k_ hk, Kd.freshB (g := gb425) (o := .cells #[.int .i64 ((rd_T33 t416 (ji20)).f0.f0), .int .i64 ((rd_T33 t416 (ji20)).f0.f1)] 31 (0, 0)) (mK BK425.out) k_ hk⟩)); (case aO => exact (mR HO_7.out)); (case aS => exact (below_size (mH4 HB.out GE419.out GE425.out GE426.out GE437.out))); (case aL => have := LMc74.out; omega); intro v445 w82 ho hb hg hat; rw [← Ny444.out] at ho; replace HO_4 := mS (Kd.R_after (ok := (fun k_ => k_ ≠ gb425)) (by refine mR ?_; exact Kd.R_mono HO_4.out (fun _ hk => ⟨hk.2, hk.1⟩)) hg hat); replace HO_420000 := mS (Kd.N_afterv (ok := (fun k_ => some k_ ≠ (v421 : Value).ownBlock ∧ some k_ ≠ (.slice Ao60 t433.length co60 : Value).ownBlock ∧ some k_ ≠ (.slice Ao60 t433.length co60 : Value).ownBlock ∧ k_ ≠ gb419 ∧ k_ ≠ gb425 ∧ k_ ≠ gb426 ∧ k_ ≠ gb437)) (by refine mNd ?_; exact Kd.N_mono HO_420000.out (fun _ hk => ⟨⟨hk.1, ⟨hk.2.2.1, ⟨hk.2.2.2.1, ⟨hk.2.2.2.2.1, ⟨hk.2.2.2.2.2.1, ⟨hk.2.2.2.2.2.2.1, hk.2.2.2.2.2.2.2⟩⟩⟩⟩⟩⟩, hk.2.1⟩)) hg hat); replace HO_427000 := mS (Kd.N_afterv (ok := (fun k_ => some k_ ≠ (v421 : Value).ownBlock ∧ some k_ ≠ (.slice (some ad424) t416.length co9 : Value).ownBlock ∧ k_ ≠ gb419 ∧ k_ ≠ gb425 ∧ k_ ≠ gb426 ∧ k_ ≠ gb437)) (by refine mNd ?_; exact Kd.N_mono HO_427000.out (fun _ hk => ⟨⟨hk.1, ⟨hk.2.2.1, ⟨hk.2.2.2.1, ⟨hk.2.2.2.2.1, ⟨hk.2.2.2.2.2.1, hk.2.2.2.2.2.2⟩⟩⟩⟩⟩, hk.2.1⟩)) hg hat); replace HO_438000 := mS (Kd.N_afterv (ok := (fun k_ => some k_ ≠ (v421 : Value).ownBlock ∧ some k_ ≠ (.slice (some ad424) t416.length co9 : Value).ownBlock ∧ k_ ≠ gb419 ∧ k_ ≠ gb425 ∧ k_ ≠ gb426 ∧ k_ ≠ gb437)) (by refine mNd ?_; exact Kd.N_mono HO_438000.out (fun _ hk => ⟨⟨hk.1, ⟨hk.2.2.1, ⟨hk.2.2.2.1, ⟨hk.2.2.2.2.1, ⟨hk.2.2.2.2.2.1, hk.2.2.2.2.2.2⟩⟩⟩⟩⟩, hk.2.1⟩)) hg hat); replace BK419 := mS (blk_grown (g := gb419) (o := .cells #[.slice (some ad424) t416.length co9] 26 (0, 0)) (mK BK419.out) hg (Kd.R_ne HO_7.out BK419.out (by decide))); replace BK425 := mS (blk_grown (g := gb425) (o := .cells #[.int .i64 ((rd_T33 t416 (ji20)).f0.f0), .int .i64 ((rd_T33 t416 (ji20)).f0.f1)] 31 (0, 0)) (mK BK425.out) hg (Kd.R_away HO_7.out (fun _ hk => hk.2))); replace BK426 := mS (blk_grown (g := gb426) (o := .cells #[.slice Ao60 t433.length co60] 26 (0, 0)) (mK BK426.out) hg (Kd.R_ne HO_7.out BK426.out (by decide))); replace BK437 := mS (blk_grown (g := gb437) (o := .cells #[.slice Ao60 t433.length co60] 26 (0, 0)) (mK BK437.out) hg (Kd.R_ne HO_7.out BK437.out (by decide))); replace HL438_2 := mS (Kd.V_afterv (ok := (fun k_ => some k_ ≠ (v421 : Value).ownBlock ∧ some k_ ≠ (.slice (some ad424) t416.length co9 : Value).ownBlock ∧ some k_ ≠ (.slice Ao60 t433.length co60 : Value).ownBlock ∧ some k_ ≠ (.slice Ao60 t433.length co60 : Value).ownBlock ∧ k_ ≠ gb419 ∧ k_ ≠ gb425 ∧ k_ ≠ gb426 ∧ k_ ≠ gb437)) (by refine mVd ?_; exact Kd.V_mono HL438_2.out (fun _ hk => ⟨⟨hk.1.1, ⟨hk.2, ⟨hk.1.2.2.1, ⟨hk.1.2.2.2.1, ⟨hk.1.2.2.2.2.1, ⟨hk.1.2.2.2.2.2.1, ⟨hk.1.2.2.2.2.2.2.1, hk.1.2.2.2.2.2.2.2⟩⟩⟩⟩⟩⟩⟩, hk.1.2.1⟩)) hg hat); replace HL439_2 := mS (Kd.V_afterv (ok := (fun k_ => some k_ ≠ (v421 : Value).ownBlock ∧ some k_ ≠ (.slice (some ad424) t416.length co9 : Value).ownBlock ∧ some k_ ≠ (.slice Ao60 t433.length co60 : Value).ownBlock ∧ some k_ ≠ (.slice Ao60 t433.length co60 : Value).ownBlock ∧ k_ ≠ gb419 ∧ k_ ≠ gb425 ∧ k_ ≠ gb426 ∧ k_ ≠ gb437)) (by refine mVd ?_; exact Kd.V_mono HL439_2.out (fun _ hk => ⟨⟨hk.1.1, ⟨hk.2, ⟨hk.1.2.2.1, ⟨hk.1.2.2.2.1, ⟨hk.1.2.2.2.2.1, ⟨hk.1.2.2.2.2.2.1, ⟨hk.1.2.2.2.2.2.2.1, hk.1.2.2.2.2.2.2.2⟩⟩⟩⟩⟩⟩⟩, hk.1.2.1⟩)) hg hat); replace HL442_2 := mS (Kd.V_afterv (ok := (fun k_ => some k_ ≠ (v421 : Value).ownBlock ∧ some k_ ≠ (.slice (some ad424) t416.length co9 : Value).ownBlock ∧ some k_ ≠ (.slice Ao60 t433.length co60 : Value).ownBlock ∧ some k_ ≠ (.slice Ao60 t433.length co60 : Value).ownBlock ∧ k_ ≠ gb419 ∧ k_ ≠ gb425 ∧ k_ ≠ gb426 ∧ k_ ≠ gb437)) (by refine mVd ?_; exact Kd.V_mono HL442_2.out (fun _ hk => ⟨⟨hk.1.1, ⟨hk.2, ⟨hk.1.2.2.1, ⟨hk.1.2.2.2.1, ⟨hk.1.2.2.2.2.1, ⟨hk.1.2.2.2.2.2.1, ⟨hk.1.2.2.2.2.2.2.1, hk.1.2.2.2.2.2.2.2⟩⟩⟩⟩⟩⟩⟩, hk.1.2.1⟩)) hg hat); replace HB := mS (hb); have HO446 := mS (ho); clear HO_7; clear ho hb hg hat))
                           go_roundg k4
                           case measure => have := HJ5.out; have := HK2.out; have := HK3.out; have := HK4.out; omega
                           case rel => exact ⟨(y444), (wrap64 (x12_4 + 1)), mE, H', ⟨by have := HJ5.out; have := HK2.out; have := HK3.out; have := HK4.out; omega⟩, ⟨by refine mR ?_; exact Kd.R_mono HO_4.out (fun _ hk => ⟨hk.2, hk.1⟩)⟩, ⟨mR HO446.out⟩, ⟨by refine mNd ?_; exact Kd.N_mono HO_420000.out (fun _ hk => ⟨hk.1.1, ⟨hk.2, ⟨hk.1.2.1, ⟨hk.1.2.2.1, ⟨hk.1.2.2.2.1, ⟨hk.1.2.2.2.2.1, ⟨hk.1.2.2.2.2.2.1, hk.1.2.2.2.2.2.2⟩⟩⟩⟩⟩⟩⟩)⟩, ⟨by refine mNd ?_; exact Kd.N_mono HO_427000.out (fun _ hk => ⟨hk.1.1, ⟨hk.2, ⟨hk.1.2.1, ⟨hk.1.2.2.1, ⟨hk.1.2.2.2.1, ⟨hk.1.2.2.2.2.1, hk.1.2.2.2.2.2⟩⟩⟩⟩⟩⟩)⟩, ⟨by refine mNd ?_; exact Kd.N_mono HO_438000.out (fun _ hk => ⟨hk.1.1, ⟨hk.2, ⟨hk.1.2.1, ⟨hk.1.2.2.1, ⟨hk.1.2.2.2.1, ⟨hk.1.2.2.2.2.1, hk.1.2.2.2.2.2⟩⟩⟩⟩⟩⟩)⟩, ⟨mK BK419.out⟩, ⟨mK BK425.out⟩, ⟨mK BK426.out⟩, ⟨mK BK437.out⟩, ⟨(mH4 HB.out GE419.out GE425.out GE426.out GE437.out)⟩⟩
                          ·rw [if_neg c74] at H
                           exact absurd H (by simp)
                         ·rw [if_neg c73] at H
                          have c73b0 := decide_eq_false c73
                          clear c73
                          have H' := mS H
                          clear H
                          have hnb83 := NB419_425.out
                          have hnc83 := NB425_419.out
                          have hnb84 := NB419_426.out
                          have hnc84 := NB426_419.out
                          have hnb85 := NB419_437.out
                          have hnc85 := NB437_419.out
                          have hcz86_0 := mZ BK419.out 0
                          have hfz86_0 := blk_frozen BK419.out 0
                          have p438 : 0 ≤ (x9_3 : Int) := mD
                          have q438 : x9_3 < (t416.length : Int) := mD
                          obtain ⟨ad438, A438_2, c438_2, e438, hx438_0, hx438_1, hx438_2, hl438_2, hi438_2⟩ := at_T33 (Kd.N_reads' HO_420000.out).2.2 x9_3 p438 q438
                          obtain rfl : ad424 = ad438 := (by injection e438)
                          obtain ⟨ce438, hce438, hMe438, hcc438⟩ := Kd.N_get HO_420000.out z33 x9_3 p438 (by first | exact q438 | exact mD | (have e_ := (Kd.N_reads' HO_420000.out).1; omega))
                          obtain ⟨ua438_2, uc438_2, rfl, ul438_2, ge438_2⟩ := k33_openF hMe438
                          have hv438_2 := hcc438 2 _ rfl
                          rw [add_field _ _ 2 (by omega)] at hv438_2
                          replace hv438_2 := Option.some.inj (hv438_2.symm.trans hx438_2)
                          injection hv438_2 with hva_ hvn_ hvc_
                          rw [hva_] at ge438_2
                          rw [hvc_] at ul438_2
                          have HL438_2 := mS (show Kd.V k31 31 _ w.heap.size _ _ ((rd_T33 t416 x9_3).f1) from Kd.V_mk ul438_2 ge438_2)
                          clear hva_ hvn_ hvc_ ge438_2 ul438_2
                          clear hcc438 hce438
                          have HR438_2 := mS hi438_2
                          have HC438_2 := mS hl438_2
                          clear hi438_2 hl438_2
                          replace p438 := eq_true p438
                          replace q438 := eq_true q438
                          have p439 : 0 ≤ (x9_3 : Int) := mD
                          have q439 : x9_3 < (t416.length : Int) := mD
                          obtain ⟨ad439, A439_2, c439_2, e439, hx439_0, hx439_1, hx439_2, hl439_2, hi439_2⟩ := at_T33 (Kd.N_reads' HO_420000.out).2.2 x9_3 p439 q439
                          obtain rfl : ad424 = ad439 := (by injection e439)
                          obtain ⟨ce439, hce439, hMe439, hcc439⟩ := Kd.N_get HO_420000.out z33 x9_3 p439 (by first | exact q439 | exact mD | (have e_ := (Kd.N_reads' HO_420000.out).1; omega))
                          obtain ⟨ua439_2, uc439_2, rfl, ul439_2, ge439_2⟩ := k33_openF hMe439
                          have hv439_2 := hcc439 2 _ rfl
                          rw [add_field _ _ 2 (by omega)] at hv439_2
                          replace hv439_2 := Option.some.inj (hv439_2.symm.trans hx439_2)
                          injection hv439_2 with hva_ hvn_ hvc_
                          rw [hva_] at ge439_2
                          rw [hvc_] at ul439_2
                          have HL439_2 := mS (show Kd.V k31 31 _ w.heap.size _ _ ((rd_T33 t416 x9_3).f1) from Kd.V_mk ul439_2 ge439_2)
                          clear hva_ hvn_ hvc_ ge439_2 ul439_2
                          clear hcc439 hce439
                          have HR439_2 := mS hi439_2
                          have HC439_2 := mS hl439_2
                          clear hi439_2 hl439_2
                          replace p439 := eq_true p439
                          replace q439 := eq_true q439
                          have ea_ := Option.some.inj (hx438_2.symm.trans hx439_2)
                          injection ea_ with ea_ en_ ec_
                          subst ea_
                          subst ec_
                          clear en_
                          have p440 : 0 ≤ (x12_4 : Int) := mD
                          have q440 : x12_4 < (((rd_T33 t416 x9_3).f1).length : Int) := mD
                          obtain ⟨ad440, e440, hx440_0, hx440_1⟩ := at_T31 (by repeat (first | (with_reducible exact HR439_2.out) | (with_reducible refine Kd.C_alloc ?_ _) | (with_reducible refine Kd.C_drewN ?_ _) | (with_reducible refine Kd.C_drew ?_) | exact HR439_2.out)) x12_4 p440 q440
                          cases e440
                          replace p440 := eq_true p440
                          replace q440 := eq_true q440
                          obtain ⟨Ao87, co87, eo87⟩ := Kd.R_slice HO_7.out
                          subst eo87
                          go_wp2_with (first | ((with_reducible refine gate_callee (f := 18) rfl ?_); refine mGo 107 Try.func18 #[.slice Ao87 x7_4.length co87, .agg #[.int .i64 ((rd_T31 ((rd_T33 t416 x9_3).f1) x12_4).f0), .int .i64 ((rd_T31 ((rd_T33 t416 x9_3).f1) x12_4).f1)]] ?_; (with_reducible refine (laws_place.calls k4 _ _ x7_4 ((rd_T31 ((rd_T33 t416 x9_3).f1) x12_4).f0) ((rd_T31 ((rd_T33 t416 x9_3).f1) x12_4).f1) t441 _ ?side1 ?side2 A72.out).mono ?_); (case side1 => exact mC (Kd.R_reads' HO_7.out).2.2); (case side2 => exact (Kd.R_reads' HO_7.out).2.1); rintro e w88 ⟨rfl, hb⟩; refine ⟨_, rfl, ?_⟩; replace HO_4 := mS (Kd.R_below (mR HO_4.out) hb); replace HO_7 := mS (Kd.R_below (mR HO_7.out) hb); replace HO_420000 := mS (Kd.N_below (mNd HO_420000.out) hb); replace HO_427000 := mS (Kd.N_below (mNd HO_427000.out) hb); replace HO_438000 := mS (Kd.N_below (mNd HO_438000.out) hb); replace HL438_2 := mS (Kd.V_below (mVd HL438_2.out) hb); replace HL439_2 := mS (Kd.V_below (mVd HL439_2.out) hb); replace BK419 := mB BK419 hb; replace BK425 := mB BK425 hb; replace BK426 := mB BK426 hb; replace BK437 := mB BK437 hb; replace HR438_2 := mS (Kd.C_below (by repeat (first | (with_reducible exact HR438_2.out) | (with_reducible refine Kd.C_alloc ?_ _) | (with_reducible refine Kd.C_drewN ?_ _) | (with_reducible refine Kd.C_drew ?_) | exact HR438_2.out)) hb); replace HR439_2 := mS (Kd.C_below (by repeat (first | (with_reducible exact HR439_2.out) | (with_reducible refine Kd.C_alloc ?_ _) | (with_reducible refine Kd.C_drewN ?_ _) | (with_reducible refine Kd.C_drew ?_) | exact HR439_2.out)) hb); replace HB := mS (below_step (mH4 HB.out GE419.out GE425.out GE426.out GE437.out) hb); (try clear hb)))
                          go_roundg k4
                          case measure => have := HJ5.out; have := HK2.out; have := HK3.out; have := HK4.out; omega
                          case rel => exact ⟨(x7_4), (wrap64 (x12_4 + 1)), mE, H', ⟨by have := HJ5.out; have := HK2.out; have := HK3.out; have := HK4.out; omega⟩, ⟨mR HO_4.out⟩, ⟨mR HO_7.out⟩, ⟨mNd HO_420000.out⟩, ⟨mNd HO_427000.out⟩, ⟨mNd HO_438000.out⟩, ⟨mK BK419.out⟩, ⟨mK BK425.out⟩, ⟨mK BK426.out⟩, ⟨mK BK437.out⟩, ⟨(mH4 HB.out GE419.out GE425.out GE426.out GE437.out)⟩⟩
                        ·rw [if_neg c71] at H
                         exact absurd H (by simp)
                       ·rw [if_neg c70] at H
                        have c70b0 := decide_eq_false c70
                        clear c70
                        have H' := mS H
                        clear H
                        have hnb89 := NB419_425.out
                        have hnc89 := NB425_419.out
                        have hnb90 := NB419_426.out
                        have hnc90 := NB426_419.out
                        have hnb91 := NB419_437.out
                        have hnc91 := NB437_419.out
                        have hcz92_0 := mZ BK419.out 0
                        have hfz92_0 := blk_frozen BK419.out 0
                        have p438 : 0 ≤ (x9_3 : Int) := mD
                        have q438 : x9_3 < (t416.length : Int) := mD
                        obtain ⟨ad438, A438_2, c438_2, e438, hx438_0, hx438_1, hx438_2, hl438_2, hi438_2⟩ := at_T33 (Kd.N_reads' HO_420000.out).2.2 x9_3 p438 q438
                        obtain rfl : ad424 = ad438 := (by injection e438)
                        obtain ⟨ce438, hce438, hMe438, hcc438⟩ := Kd.N_get HO_420000.out z33 x9_3 p438 (by first | exact q438 | exact mD | (have e_ := (Kd.N_reads' HO_420000.out).1; omega))
                        obtain ⟨ua438_2, uc438_2, rfl, ul438_2, ge438_2⟩ := k33_openF hMe438
                        have hv438_2 := hcc438 2 _ rfl
                        rw [add_field _ _ 2 (by omega)] at hv438_2
                        replace hv438_2 := Option.some.inj (hv438_2.symm.trans hx438_2)
                        injection hv438_2 with hva_ hvn_ hvc_
                        rw [hva_] at ge438_2
                        rw [hvc_] at ul438_2
                        have HL438_2 := mS (show Kd.V k31 31 _ w.heap.size _ _ ((rd_T33 t416 x9_3).f1) from Kd.V_mk ul438_2 ge438_2)
                        clear hva_ hvn_ hvc_ ge438_2 ul438_2
                        clear hcc438 hce438
                        have HR438_2 := mS hi438_2
                        have HC438_2 := mS hl438_2
                        clear hi438_2 hl438_2
                        replace p438 := eq_true p438
                        replace q438 := eq_true q438
                        go_wp2
                        go_roundg k4
                        case measure => have := HJ5.out; have := HK2.out; have := HK3.out; have := HK4.out; omega
                        case rel => exact ⟨(x7_4), (wrap64 (x9_3 + 1)), (t433), (.slice Ao60 t433.length co60), mE, H', ⟨by have := HJ5.out; have := HK2.out; have := HK3.out; have := HK4.out; omega⟩, ⟨mR HO_4.out⟩, ⟨mR HO_7.out⟩, ⟨by refine mNd ?_; exact Kd.N_mono HO_420000.out (fun _ hk => ⟨hk.1, ⟨hk.2.1, ⟨hk.2.2.1, ⟨hk.2.2.2.2.1, ⟨hk.2.2.2.2.2.1, hk.2.2.2.2.2.2.1⟩⟩⟩⟩⟩)⟩, ⟨by refine mNd ?_; exact Kd.N_mono HO_427000.out (fun _ hk => ⟨hk.1, ⟨hk.2.1, ⟨hk.2.2.1, ⟨hk.2.2.2.1, ⟨hk.2.2.2.2.1, hk.2.2.2.2.2.1⟩⟩⟩⟩⟩)⟩, ⟨mK BK419.out⟩, ⟨mK BK425.out⟩, ⟨mK BK426.out⟩, ⟨(mH4 HB.out GE419.out GE425.out GE426.out GE437.out)⟩⟩
                      ·rw [if_neg c69] at H
                       exact absurd H (by simp)
                     ·rw [if_neg c68] at H
                      exact absurd H (by simp)
                  ·replace c49 := Bool.eq_false_iff.mpr c49
                   subst c49
                   have H1 := H
                   rw [if_neg (show ¬ (false = true) by decide)] at H1
                   clear H
                   have H := H1
                   clear H1
                   exact absurd ((Option.some.inj H).trans ht_) (by decide)
                ·rw [if_neg c41] at H
                 exact absurd H (by simp)
               ·rw [if_neg c40] at H
                exact absurd H (by simp)
              ·rw [if_neg c39] at H
               exact absurd H (by simp)
             ·rw [if_neg c38] at H
              have c38b0 := decide_eq_false c38
              clear c38
              have H' := mS H
              clear H
              have hnb93 := NB419_425.out
              have hnc93 := NB425_419.out
              have hnb94 := NB419_426.out
              have hnc94 := NB426_419.out
              have hcz95_0 := mZ BK419.out 0
              have hfz95_0 := blk_frozen BK419.out 0
              go_wp2
              go_roundg k3
              case measure => have := HJ5.out; have := HK2.out; have := HK3.out; omega
              case rel => exact ⟨(x7_3), (wrap64 (x8_2 + 1)), (x427000_3), (u427000), mE, H', ⟨by have := HJ5.out; have := HK2.out; have := HK3.out; omega⟩, ⟨mR HO_4.out⟩, ⟨mR HO_7.out⟩, ⟨mNd HO_420000.out⟩, ⟨mNd HO_427000.out⟩, ⟨mK BK419.out⟩, ⟨mK BK425.out⟩, ⟨mK BK426.out⟩, ⟨(mH3 HB.out GE419.out GE425.out GE426.out)⟩⟩
          ·rw [if_neg c36] at H
           have c36b0 := decide_eq_false c36
           clear c36
           replace H := Option.bind_eq_some_iff.mp H
           obtain ⟨t447, A960, H⟩ := H
           replace H : (if (t447.length : Int) = (x427000_2.length : Int) then (laws_FnStable.l3 k2 t420 t447 0 x427000_2) else (some false)) = some r := H
           have A96 := mS A960
           clear A960
           by_cases c97 : (t447.length : Int) = (x427000_2.length : Int)
           ·rw [if_pos c97] at H
            have c97b0 : ((t447.length : Int) == (x427000_2.length : Int)) = true := beq_iff_eq.mpr c97
            have c97b1 : ((t447.length : Int) != (x427000_2.length : Int)) = false := bne_eq_false_iff_eq.mpr c97
            have c97b2 : (t447.length == x427000_2.length) = true := by first | simpa using c97 | (simp at c97 ⊢; omega)
            clear c97
            have H' := mS H
            clear H
            obtain ⟨Ao98, co98, eo98⟩ := Kd.R_slice HO_7.out
            subst eo98
            have hnb99 := NB426_419.out
            have hnc99 := NB419_426.out
            have hnb100 := NB426_425.out
            have hnc100 := NB425_426.out
            have hcz101_0 := mZ BK426.out 0
            have hfz101_0 := blk_frozen BK426.out 0
            obtain ⟨Ao102, co102, eo102⟩ := Kd.N_slice HO_427000.out
            subst eo102
            go_wp2_with (first | ((with_reducible refine gate_callee (f := 15) rfl ?_); refine mGo 122 Try.func15 #[.agg #[.slice Ao102 x427000_2.length co102]] ?_; (with_reducible refine (impl_OrderOf.calls k2 _ _ x427000_2 t447 _ ?side1 ?side2 A96.out).mono ?_); (case side1 => exact mC (Kd.N_reads' HO_427000.out).2.2); (case side2 => exact (Kd.N_reads' HO_427000.out).2.1); rintro e w103 ⟨v448, rfl, ho0, hb⟩; refine ⟨_, rfl, ?_⟩; replace HO_420000 := mS (Kd.N_elder' (mNd HO_420000.out) (Kd.R_base ho0) hb); replace HO_427000 := mS (Kd.N_elder' (mNd HO_427000.out) (Kd.R_base ho0) hb); have HO449 := mS (Kd.R_lower (Kd.R_newB (Kd.R_new' (Kd.R_new' ho0 (Kd.R_lt (mR HO_4.out))) (Kd.R_lt (mR HO_7.out))) (g := gb425) (o := .cells #[.int .i64 ((rd_T33 t416 (ji20)).f0.f0), .int .i64 ((rd_T33 t416 (ji20)).f0.f1)] 31 (0, 0)) (mK BK425.out)) (below_size (mH3 HB.out GE419.out GE425.out GE426.out))); replace HO_4 := mS (Kd.R_elder' (mR HO_4.out) (Kd.R_base ho0) hb); replace HO_7 := mS (Kd.R_elder' (mR HO_7.out) (Kd.R_base ho0) hb); replace BK419 := mB BK419 hb; replace BK425 := mB BK425 hb; replace BK426 := mB BK426 hb; replace HB := mS (below_step (mH3 HB.out GE419.out GE425.out GE426.out) hb); (try clear hb); (try clear ho0); obtain ⟨Ao104, co104, eo104⟩ := Kd.R_slice HO449.out; subst eo104; have hcz105_0 := mZ BK426.out 0; have hfz105_0 := blk_frozen BK426.out 0))
            go_loopg [14] k2 (fun kq v14 w' => ∃ (x14_3 : Int), v14 = .int .i64 x14_3 ∧ Aside0 (laws_FnStable.l3 kq t420 t447 x14_3 x427000_2 = some r) ∧ Aside0 (kq ≤ k2) ∧ Aside0 (Kd.R k31 31 w' w.heap.size (fun k_ => some k_ ≠ ((.slice Ao104 t447.length co104) : Value).ownBlock ∧ k_ ≠ gb425) v421 t420) ∧ Aside0 (Kd.R k31 31 w' w.heap.size (fun k_ => some k_ ≠ (v421 : Value).ownBlock ∧ k_ ≠ gb425) (.slice Ao104 t447.length co104) t447) ∧ Aside0 (Kd.N k33 33 w' w.heap.size (fun k_ => some k_ ≠ (v421 : Value).ownBlock ∧ some k_ ≠ ((.slice Ao104 t447.length co104) : Value).ownBlock ∧ some k_ ≠ ((.slice Ao102 x427000_2.length co102) : Value).ownBlock ∧ k_ ≠ gb419 ∧ k_ ≠ gb425 ∧ k_ ≠ gb426) (.slice (some ad424) t416.length co9) t416) ∧ Aside0 (Kd.N k33 33 w' w.heap.size (fun k_ => some k_ ≠ (v421 : Value).ownBlock ∧ some k_ ≠ ((.slice Ao104 t447.length co104) : Value).ownBlock ∧ some k_ ≠ ((.slice (some ad424) t416.length co9) : Value).ownBlock ∧ k_ ≠ gb419 ∧ k_ ≠ gb425 ∧ k_ ≠ gb426) (.slice Ao102 x427000_2.length co102) x427000_2) ∧ Aside0 (w'.heap[gb419]? = some (.cells #[(.slice (some ad424) t416.length co9)] 26 (0, 0))) ∧ Aside0 (w'.heap[gb425]? = some (.cells #[.int .i64 ((rd_T33 t416 (ji20)).f0.f0), .int .i64 ((rd_T33 t416 (ji20)).f0.f1)] 31 (0, 0))) ∧ Aside0 (w'.heap[gb426]? = some (.cells #[(.slice Ao102 x427000_2.length co102)] 26 (0, 0))) ∧ Aside0 (Below w.heap.size w w'))
            case atStart => exact ⟨(0), mE, H', ⟨Nat.le_refl _⟩, ⟨by refine mR ?_; exact Kd.R_mono HO_4.out (fun _ hk => ⟨hk.2, hk.1.2⟩)⟩, ⟨by refine mR ?_; exact Kd.R_mono HO449.out (fun _ hk => ⟨hk.1.1.2, hk.2⟩)⟩, ⟨by refine mNd ?_; exact Kd.N_mono HO_420000.out (fun _ hk => ⟨hk.1.1, ⟨hk.2, ⟨hk.1.2.2.1, ⟨hk.1.2.2.2.1, ⟨hk.1.2.2.2.2.1, hk.1.2.2.2.2.2⟩⟩⟩⟩⟩)⟩, ⟨by refine mNd ?_; exact Kd.N_mono HO_427000.out (fun _ hk => ⟨hk.1.1, ⟨hk.2, ⟨hk.1.2.2.1, ⟨hk.1.2.2.2.1, ⟨hk.1.2.2.2.2.1, hk.1.2.2.2.2.2⟩⟩⟩⟩⟩)⟩, ⟨mK BK419.out⟩, ⟨mK BK425.out⟩, ⟨mK BK426.out⟩, ⟨(mH3 HB.out GE419.out GE425.out GE426.out)⟩⟩
            case round =>
             clear H'
             try clear c1
             try clear p2
             try clear c3
             try clear c4
             try clear p4
             try clear q4
             try clear hx4
             try clear c6
             try clear p6
             try clear c7
             try clear c8
             try clear c9
             try clear c10
             try clear c15
             try clear c17
             try clear c18
             try clear c36
             try clear c36b0
             try clear c38
             try clear c38b0
             try clear c39
             try clear c40
             try clear c41
             try clear c43
             try clear p43
             try clear q43
             try clear hx43
             try clear c44
             try clear p44
             try clear q44
             try clear hx44
             try clear c49
             try clear c62
             try clear c63
             try clear c64
             try clear p64
             try clear c66
             try clear c68
             try clear c68b0
             try clear c69
             try clear c69b0
             try clear c70
             try clear c70b0
             try clear c71
             try clear c71b0
             try clear c73
             try clear c73b0
             try clear c74
             try clear c75
             try clear c76
             try clear c77
             try clear c83
             try clear c84
             try clear c85
             try clear c89
             try clear c90
             try clear c91
             try clear c93
             try clear c94
             try clear c97
             try clear c97b0
             try clear c97b1
             try clear c97b2
             try clear c99
             try clear c100
             try clear hcz101_0
             try clear hcz105_0
             try clear hcz65_0
             try clear hcz67_0
             try clear hcz78_0
             try clear hcz81_0
             try clear hcz86_0
             try clear hcz92_0
             try clear hcz95_0
             try clear hfz101_0
             try clear hfz105_0
             try clear hfz65_0
             try clear hfz67_0
             try clear hfz78_0
             try clear hfz81_0
             try clear hfz86_0
             try clear hfz92_0
             try clear hfz95_0
             try clear hx432_0
             try clear hx432_1
             try clear hx432_2
             try clear hx438_0
             try clear hx438_1
             try clear hx438_2
             try clear hx439_0
             try clear hx439_1
             try clear hx439_2
             try clear hx440_0
             try clear hx440_1
             try clear hx442_0
             try clear hx442_1
             try clear hx442_2
             try clear hx443_0
             try clear hx443_1
             try clear p2
             try clear p4
             try clear p43
             try clear p432
             try clear p438
             try clear p439
             try clear p440
             try clear p442
             try clear p443
             try clear q4
             try clear q43
             try clear q432
             try clear q438
             try clear q439
             try clear q440
             try clear q442
             try clear q443
             obtain ⟨x14_3, rfl, HA, HK3, HO_4, HO_13, HO_420000, HO_427000, BK419, BK425, BK426, HB⟩ := hrel
             cases gk with
             | zero => exact absurd HA.out (by simp [laws_FnStable.l3])
             | succ k3 =>
              have H := HA.out
              clear HA
              simp only [laws_FnStable.l3] at H
              by_cases c106 : x14_3 < (x427000_2.length : Int)
              ·rw [if_pos c106] at H
               have c106b0 := decide_eq_true c106
               clear c106
               by_cases c107 : 0 ≤ x14_3
               ·rw [if_pos c107] at H
                have c107b0 := decide_eq_true c107
                clear c107
                have H' := mS H
                clear H
                have hnb108 := NB426_419.out
                have hnc108 := NB419_426.out
                have hnb109 := NB426_425.out
                have hnc109 := NB425_426.out
                have hcz110_0 := mZ BK426.out 0
                have hfz110_0 := blk_frozen BK426.out 0
                have p450 : 0 ≤ (x14_3 : Int) := mD
                have q450 : x14_3 < (x427000_2.length : Int) := mD
                obtain ⟨ad450, A450_2, c450_2, e450, hx450_0, hx450_1, hx450_2, hl450_2, hi450_2⟩ := at_T33 (Kd.N_reads' HO_427000.out).2.2 x14_3 p450 q450
                cases e450
                obtain ⟨ce450, hce450, hMe450, hcc450⟩ := Kd.N_get HO_427000.out z33 x14_3 p450 (by first | exact q450 | exact mD | (have e_ := (Kd.N_reads' HO_427000.out).1; omega))
                obtain ⟨ua450_2, uc450_2, rfl, ul450_2, ge450_2⟩ := k33_openF hMe450
                have hv450_2 := hcc450 2 _ rfl
                rw [add_field _ _ 2 (by omega)] at hv450_2
                replace hv450_2 := Option.some.inj (hv450_2.symm.trans hx450_2)
                injection hv450_2 with hva_ hvn_ hvc_
                rw [hva_] at ge450_2
                rw [hvc_] at ul450_2
                have HL450_2 := mS (show Kd.V k31 31 _ w.heap.size _ _ ((rd_T33 x427000_2 x14_3).f1) from Kd.V_mk ul450_2 ge450_2)
                clear hva_ hvn_ hvc_ ge450_2 ul450_2
                clear hcc450 hce450
                have HR450_2 := mS hi450_2
                have HC450_2 := mS hl450_2
                clear hi450_2 hl450_2
                replace p450 := eq_true p450
                replace q450 := eq_true q450
                go_wp2_with (first | ((with_reducible refine gate_dst (N := 15) rfl ?_); (try (refine gate_guard (by rfl) ?_; dsimp only)); refine mBx 15 #[.int .i64 0, .int .i64 0] 31 ?_; intro gb451 hg w111 hbox hb; replace HO_4 := mS (Kd.R_below (Kd.R_elderB (mR HO_4.out) gb451 (Nat.le_of_eq hg.symm)) hb); replace HO_13 := mS (Kd.R_below (Kd.R_elderB (mR HO_13.out) gb451 (Nat.le_of_eq hg.symm)) hb); replace HO_420000 := mS (Kd.N_below (Kd.N_elderB (mNd HO_420000.out) gb451 (Nat.le_of_eq hg.symm)) hb); replace HO_427000 := mS (Kd.N_below (Kd.N_elderB (mNd HO_427000.out) gb451 (Nat.le_of_eq hg.symm)) hb); replace HL450_2 := mS (Kd.V_below (Kd.V_elderB (mVd HL450_2.out) gb451 (Nat.le_of_eq hg.symm)) hb); replace HR450_2 := mS (Kd.C_below (by repeat (first | (with_reducible exact HR450_2.out) | (with_reducible refine Kd.C_alloc ?_ _) | (with_reducible refine Kd.C_drewN ?_ _) | (with_reducible refine Kd.C_drew ?_) | exact HR450_2.out)) hb); have BK451 := mS (hbox); have GW451 := mG hg (mH3 HB.out GE419.out GE425.out GE426.out); have GE451 := mG hg (mH3 HB.out GE419.out GE425.out GE426.out); replace HB := mS (below_step (mH3 HB.out GE419.out GE425.out GE426.out) hb); have NB419_451 := mNl hg BK419.out; have NB451_419 := mNg hg BK419.out; replace BK419 := mB BK419 hb; have NB425_451 := mNl hg BK425.out; have NB451_425 := mNg hg BK425.out; replace BK425 := mB BK425 hb; have NB426_451 := mNl hg BK426.out; have NB451_426 := mNg hg BK426.out; replace BK426 := mB BK426 hb; clear hb hbox hg; have hnb112 := NB451_419.out; have hnc112 := NB419_451.out; have hnb113 := NB451_425.out; have hnc113 := NB425_451.out; have hnb114 := NB451_426.out; have hnc114 := NB426_451.out; obtain ⟨hcz115_0, hcz115_1, hfz115_0, hfz115_1⟩ := mZ2 BK451.out))
                go_loopg [16] k3 (fun kq v16 w' => ∃ (x16_4 : Int), v16 = .int .i64 x16_4 ∧ Aside0 (laws_FnStable.l4 kq t420 t447 x14_3 x16_4 x427000_2 ((rd_T33 x427000_2 x14_3).f0.f0) ((rd_T33 x427000_2 x14_3).f0.f1) = some r) ∧ Aside0 (kq ≤ k3) ∧ Aside0 (Kd.R k31 31 w' w.heap.size (fun k_ => some k_ ≠ ((.slice Ao104 t447.length co104) : Value).ownBlock ∧ k_ ≠ gb425 ∧ k_ ≠ gb451) v421 t420) ∧ Aside0 (Kd.R k31 31 w' w.heap.size (fun k_ => some k_ ≠ (v421 : Value).ownBlock ∧ k_ ≠ gb425 ∧ k_ ≠ gb451) (.slice Ao104 t447.length co104) t447) ∧ Aside0 (Kd.N k33 33 w' w.heap.size (fun k_ => some k_ ≠ (v421 : Value).ownBlock ∧ some k_ ≠ ((.slice Ao104 t447.length co104) : Value).ownBlock ∧ some k_ ≠ ((.slice (some ad450) x427000_2.length co102) : Value).ownBlock ∧ k_ ≠ gb419 ∧ k_ ≠ gb425 ∧ k_ ≠ gb426 ∧ k_ ≠ gb451) (.slice (some ad424) t416.length co9) t416) ∧ Aside0 (Kd.N k33 33 w' w.heap.size (fun k_ => some k_ ≠ (v421 : Value).ownBlock ∧ some k_ ≠ ((.slice Ao104 t447.length co104) : Value).ownBlock ∧ some k_ ≠ ((.slice (some ad424) t416.length co9) : Value).ownBlock ∧ k_ ≠ gb419 ∧ k_ ≠ gb425 ∧ k_ ≠ gb426 ∧ k_ ≠ gb451) (.slice (some ad450) x427000_2.length co102) x427000_2) ∧ Aside0 (w'.heap[gb419]? = some (.cells #[(.slice (some ad424) t416.length co9)] 26 (0, 0))) ∧ Aside0 (w'.heap[gb425]? = some (.cells #[.int .i64 ((rd_T33 t416 (ji20)).f0.f0), .int .i64 ((rd_T33 t416 (ji20)).f0.f1)] 31 (0, 0))) ∧ Aside0 (w'.heap[gb426]? = some (.cells #[(.slice (some ad450) x427000_2.length co102)] 26 (0, 0))) ∧ Aside0 (w'.heap[gb451]? = some (.cells #[.int .i64 ((rd_T33 x427000_2 x14_3).f0.f0), .int .i64 ((rd_T33 x427000_2 x14_3).f0.f1)] 31 (0, 0))) ∧ Aside0 (Below w.heap.size w w'))
                case atStart => exact ⟨(0), mE, H', ⟨Nat.le_refl _⟩, ⟨by refine mR ?_; exact Kd.R_mono (mRf2 (Kd.R_mono HO_4.out (fun k_ hk => (⟨hk, hk.2⟩ : _ ∧ k_ ≠ gb451)))) (fun _ hk => ⟨hk.1.1.1, ⟨hk.1.1.2, hk.1.2⟩⟩)⟩, ⟨by refine mR ?_; exact Kd.R_mono (mRf2 (Kd.R_mono HO_13.out (fun k_ hk => (⟨hk, hk.2⟩ : _ ∧ k_ ≠ gb451)))) (fun _ hk => ⟨hk.1.1.1, ⟨hk.1.1.2, hk.1.2⟩⟩)⟩, ⟨by refine mNd ?_; exact Kd.N_mono (mNf2 (Kd.N_mono HO_420000.out (fun k_ hk => (⟨hk, hk.2⟩ : _ ∧ k_ ≠ gb451)))) (fun _ hk => ⟨hk.1.1.1, ⟨hk.1.1.2.1, ⟨hk.1.1.2.2.1, ⟨hk.1.1.2.2.2.1, ⟨hk.1.1.2.2.2.2.1, ⟨hk.1.1.2.2.2.2.2, hk.1.2⟩⟩⟩⟩⟩⟩)⟩, ⟨by refine mNd ?_; exact Kd.N_mono (mNf2 (Kd.N_mono HO_427000.out (fun k_ hk => (⟨hk, hk.2⟩ : _ ∧ k_ ≠ gb451)))) (fun _ hk => ⟨hk.1.1.1, ⟨hk.1.1.2.1, ⟨hk.1.1.2.2.1, ⟨hk.1.1.2.2.2.1, ⟨hk.1.1.2.2.2.2.1, ⟨hk.1.1.2.2.2.2.2, hk.1.2⟩⟩⟩⟩⟩⟩)⟩, ⟨mKf NB419_451.out BK419.out⟩, ⟨mKf NB425_451.out BK425.out⟩, ⟨mKf NB426_451.out BK426.out⟩, ⟨by refine mK ?_; refine blk_put (cs := #[.int .i64 ((rd_T33 x427000_2 x14_3).f0.f0), .int .i64 0]) ?_ 1 _ rfl; refine mK ?_; refine blk_put (cs := #[.int .i64 0, .int .i64 0]) ?_ 0 _ rfl; refine mK ?_; exact BK451.out⟩, ⟨(mH4 HB.out GE419.out GE425.out GE426.out GE451.out)⟩⟩
                case round =>
                 clear H'
                 try clear c1
                 try clear p2
                 try clear c3
                 try clear c4
                 try clear p4
                 try clear q4
                 try clear hx4
                 try clear c6
                 try clear p6
                 try clear c7
                 try clear c8
                 try clear c9
                 try clear c10
                 try clear c11
                 try clear c15
                 try clear c17
                 try clear c18
                 try clear c36
                 try clear c36b0
                 try clear c38
                 try clear c38b0
                 try clear c39
                 try clear c40
                 try clear c41
                 try clear c43
                 try clear p43
                 try clear q43
                 try clear hx43
                 try clear c44
                 try clear p44
                 try clear q44
                 try clear hx44
                 try clear c45
                 try clear p45
                 try clear q45
                 try clear hx45
                 try clear c49
                 try clear c62
                 try clear c63
                 try clear c64
                 try clear p64
                 try clear c66
                 try clear c68
                 try clear c68b0
                 try clear c69
                 try clear c69b0
                 try clear c70
                 try clear c70b0
                 try clear c71
                 try clear c71b0
                 try clear c73
                 try clear c73b0
                 try clear c74
                 try clear c75
                 try clear c76
                 try clear c77
                 try clear c83
                 try clear c84
                 try clear c85
                 try clear c89
                 try clear c90
                 try clear c91
                 try clear c93
                 try clear c94
                 try clear c97
                 try clear c97b0
                 try clear c97b1
                 try clear c97b2
                 try clear c99
                 try clear c100
                 try clear c106
                 try clear c106b0
                 try clear c107
                 try clear c107b0
                 try clear c108
                 try clear c109
                 try clear c112
                 try clear c113
                 try clear c114
                 try clear hcz101_0
                 try clear hcz105_0
                 try clear hcz110_0
                 try clear hcz115_0
                 try clear hcz115_1
                 try clear hcz65_0
                 try clear hcz67_0
                 try clear hcz78_0
                 try clear hcz81_0
                 try clear hcz86_0
                 try clear hcz92_0
                 try clear hcz95_0
                 try clear hfz101_0
                 try clear hfz105_0
                 try clear hfz110_0
                 try clear hfz115_0
                 try clear hfz115_1
                 try clear hfz65_0
                 try clear hfz67_0
                 try clear hfz78_0
                 try clear hfz81_0
                 try clear hfz86_0
                 try clear hfz92_0
                 try clear hfz95_0
                 try clear hx432_0
                 try clear hx432_1
                 try clear hx432_2
                 try clear hx438_0
                 try clear hx438_1
                 try clear hx438_2
                 try clear hx439_0
                 try clear hx439_1
                 try clear hx439_2
                 try clear hx440_0
                 try clear hx440_1
                 try clear hx442_0
                 try clear hx442_1
                 try clear hx442_2
                 try clear hx443_0
                 try clear hx443_1
                 try clear hx450_0
                 try clear hx450_1
                 try clear hx450_2
                 try clear p2
                 try clear p4
                 try clear p43
                 try clear p432
                 try clear p438
                 try clear p439
                 try clear p44
                 try clear p440
                 try clear p442
                 try clear p443
                 try clear p450
                 try clear p6
                 try clear p64
                 try clear q4
                 try clear q43
                 try clear q432
                 try clear q438
                 try clear q439
                 try clear q44
                 try clear q440
                 try clear q442
                 try clear q443
                 try clear q450
                 obtain ⟨x16_4, rfl, HA, HK4, HO_4, HO_13, HO_420000, HO_427000, BK419, BK425, BK426, BK451, HB⟩ := hrel
                 cases gk with
                 | zero => exact absurd HA.out (by simp [laws_FnStable.l4])
                 | succ k4 =>
                  have H := HA.out
                  clear HA
                  simp only [laws_FnStable.l4] at H
                  by_cases c116 : 0 ≤ x14_3
                  ·rw [if_pos c116] at H
                   have c116b0 := decide_eq_true c116
                   clear c116
                   by_cases c117 : x14_3 < (x427000_2.length : Int)
                   ·rw [if_pos c117] at H
                    have c117b0 := decide_eq_true c117
                    clear c117
                    by_cases c118 : x16_4 < (((rd_T33 x427000_2 x14_3).f1).length : Int)
                    ·rw [if_pos c118] at H
                     have c118b0 := decide_eq_true c118
                     clear c118
                     by_cases c119 : 0 ≤ x16_4
                     ·rw [if_pos c119] at H
                      have c119b0 := decide_eq_true c119
                      clear c119
                      replace H := Option.bind_eq_some_iff.mp H
                      obtain ⟨t456, A1200, H⟩ := H
                      replace H : ((laws_place.f k4 t420 ((rd_T31 ((rd_T33 x427000_2 x14_3).f1) x16_4).f0) ((rd_T31 ((rd_T33 x427000_2 x14_3).f1) x16_4).f1)).bind fun t457 => ((laws_place.f k4 t447 ((rd_T33 x427000_2 x14_3).f0.f0) ((rd_T33 x427000_2 x14_3).f0.f1)).bind fun t458 => ((laws_place.f k4 t447 ((rd_T31 ((rd_T33 x427000_2 x14_3).f1) x16_4).f0) ((rd_T31 ((rd_T33 x427000_2 x14_3).f1) x16_4).f1)).bind fun t459 => (if ((decide (t456 < t457)) != (decide (t458 < t459))) = true then (some false) else (laws_FnStable.l4 k4 t420 t447 x14_3 (wrap64 (x16_4 + 1)) x427000_2 ((rd_T33 x427000_2 x14_3).f0.f0) ((rd_T33 x427000_2 x14_3).f0.f1)))))) = some r := H
                      have A120 := mS A1200
                      clear A1200
                      replace H := Option.bind_eq_some_iff.mp H
                      obtain ⟨t457, A1210, H⟩ := H
                      replace H : ((laws_place.f k4 t447 ((rd_T33 x427000_2 x14_3).f0.f0) ((rd_T33 x427000_2 x14_3).f0.f1)).bind fun t458 => ((laws_place.f k4 t447 ((rd_T31 ((rd_T33 x427000_2 x14_3).f1) x16_4).f0) ((rd_T31 ((rd_T33 x427000_2 x14_3).f1) x16_4).f1)).bind fun t459 => (if ((decide (t456 < t457)) != (decide (t458 < t459))) = true then (some false) else (laws_FnStable.l4 k4 t420 t447 x14_3 (wrap64 (x16_4 + 1)) x427000_2 ((rd_T33 x427000_2 x14_3).f0.f0) ((rd_T33 x427000_2 x14_3).f0.f1))))) = some r := H
                      have A121 := mS A1210
                      clear A1210
                      replace H := Option.bind_eq_some_iff.mp H
                      obtain ⟨t458, A1220, H⟩ := H
                      replace H : ((laws_place.f k4 t447 ((rd_T31 ((rd_T33 x427000_2 x14_3).f1) x16_4).f0) ((rd_T31 ((rd_T33 x427000_2 x14_3).f1) x16_4).f1)).bind fun t459 => (if ((decide (t456 < t457)) != (decide (t458 < t459))) = true then (some false) else (laws_FnStable.l4 k4 t420 t447 x14_3 (wrap64 (x16_4 + 1)) x427000_2 ((rd_T33 x427000_2 x14_3).f0.f0) ((rd_T33 x427000_2 x14_3).f0.f1)))) = some r := H
                      have A122 := mS A1220
                      clear A1220
                      replace H := Option.bind_eq_some_iff.mp H
                      obtain ⟨t459, A1230, H⟩ := H
                      replace H : (if ((decide (t456 < t457)) != (decide (t458 < t459))) = true then (some false) else (laws_FnStable.l4 k4 t420 t447 x14_3 (wrap64 (x16_4 + 1)) x427000_2 ((rd_T33 x427000_2 x14_3).f0.f0) ((rd_T33 x427000_2 x14_3).f0.f1))) = some r := H
                      have A123 := mS A1230
                      clear A1230
                      by_cases c124 : ((decide (t456 < t457)) != (decide (t458 < t459))) = true
                      ·rw [if_pos c124] at H
                       have c124b0 : ((decide (t456 < t457)) != (decide (t458 < t459))) = true := c124
                       (try (have c124b1 : decide ((decide (t456 < t457)) = (decide (t458 < t459))) = false := by simpa using c124))
                       (try (have c124b2 : ((decide (t456 < t457)) == (decide (t458 < t459))) = false := by simpa using c124))
                       (try (have c124b3 : ¬ ((decide (t456 < t457)) = (decide (t458 < t459))) := by simpa using c124))
                       clear c124
                       exact absurd ((Option.some.inj H).trans ht_) (by decide)
                      ·rw [if_neg c124] at H
                       have c124b0 : ((decide (t456 < t457)) != (decide (t458 < t459))) = false := by simpa using c124
                       (try (have c124b1 : decide ((decide (t456 < t457)) = (decide (t458 < t459))) = true := by simpa using c124))
                       (try (have c124b2 : ((decide (t456 < t457)) == (decide (t458 < t459))) = true := by simpa using c124))
                       clear c124
                       have H' := mS H
                       clear H
                       have hnb125 := NB426_419.out
                       have hnc125 := NB419_426.out
                       have hnb126 := NB426_425.out
                       have hnc126 := NB425_426.out
                       have hnb127 := NB426_451.out
                       have hnc127 := NB451_426.out
                       have hcz128_0 := mZ BK426.out 0
                       have hfz128_0 := blk_frozen BK426.out 0
                       have p452 : 0 ≤ (x14_3 : Int) := mD
                       have q452 : x14_3 < (x427000_2.length : Int) := mD
                       obtain ⟨ad452, A452_2, c452_2, e452, hx452_0, hx452_1, hx452_2, hl452_2, hi452_2⟩ := at_T33 (Kd.N_reads' HO_427000.out).2.2 x14_3 p452 q452
                       obtain rfl : ad450 = ad452 := (by injection e452)
                       obtain ⟨ce452, hce452, hMe452, hcc452⟩ := Kd.N_get HO_427000.out z33 x14_3 p452 (by first | exact q452 | exact mD | (have e_ := (Kd.N_reads' HO_427000.out).1; omega))
                       obtain ⟨ua452_2, uc452_2, rfl, ul452_2, ge452_2⟩ := k33_openF hMe452
                       have hv452_2 := hcc452 2 _ rfl
                       rw [add_field _ _ 2 (by omega)] at hv452_2
                       replace hv452_2 := Option.some.inj (hv452_2.symm.trans hx452_2)
                       injection hv452_2 with hva_ hvn_ hvc_
                       rw [hva_] at ge452_2
                       rw [hvc_] at ul452_2
                       have HL452_2 := mS (show Kd.V k31 31 _ w.heap.size _ _ ((rd_T33 x427000_2 x14_3).f1) from Kd.V_mk ul452_2 ge452_2)
                       clear hva_ hvn_ hvc_ ge452_2 ul452_2
                       clear hcc452 hce452
                       have HR452_2 := mS hi452_2
                       have HC452_2 := mS hl452_2
                       clear hi452_2 hl452_2
                       replace p452 := eq_true p452
                       replace q452 := eq_true q452
                       have p453 : 0 ≤ (x14_3 : Int) := mD
                       have q453 : x14_3 < (x427000_2.length : Int) := mD
                       obtain ⟨ad453, A453_2, c453_2, e453, hx453_0, hx453_1, hx453_2, hl453_2, hi453_2⟩ := at_T33 (Kd.N_reads' HO_427000.out).2.2 x14_3 p453 q453
                       obtain rfl : ad450 = ad453 := (by injection e453)
                       obtain ⟨ce453, hce453, hMe453, hcc453⟩ := Kd.N_get HO_427000.out z33 x14_3 p453 (by first | exact q453 | exact mD | (have e_ := (Kd.N_reads' HO_427000.out).1; omega))
                       obtain ⟨ua453_2, uc453_2, rfl, ul453_2, ge453_2⟩ := k33_openF hMe453
                       have hv453_2 := hcc453 2 _ rfl
                       rw [add_field _ _ 2 (by omega)] at hv453_2
                       replace hv453_2 := Option.some.inj (hv453_2.symm.trans hx453_2)
                       injection hv453_2 with hva_ hvn_ hvc_
                       rw [hva_] at ge453_2
                       rw [hvc_] at ul453_2
                       have HL453_2 := mS (show Kd.V k31 31 _ w.heap.size _ _ ((rd_T33 x427000_2 x14_3).f1) from Kd.V_mk ul453_2 ge453_2)
                       clear hva_ hvn_ hvc_ ge453_2 ul453_2
                       clear hcc453 hce453
                       have HR453_2 := mS hi453_2
                       have HC453_2 := mS hl453_2
                       clear hi453_2 hl453_2
                       replace p453 := eq_true p453
                       replace q453 := eq_true q453
                       have ea_ := Option.some.inj (hx452_2.symm.trans hx453_2)
                       injection ea_ with ea_ en_ ec_
                       subst ea_
                       subst ec_
                       clear en_
                       have p454 : 0 ≤ (x16_4 : Int) := mD
                       have q454 : x16_4 < (((rd_T33 x427000_2 x14_3).f1).length : Int) := mD
                       obtain ⟨ad454, e454, hx454_0, hx454_1⟩ := at_T31 (by repeat (first | (with_reducible exact HR453_2.out) | (with_reducible refine Kd.C_alloc ?_ _) | (with_reducible refine Kd.C_drewN ?_ _) | (with_reducible refine Kd.C_drew ?_) | exact HR453_2.out)) x16_4 p454 q454
                       cases e454
                       replace p454 := eq_true p454
                       replace q454 := eq_true q454
                       try go_wp2_with (first | ((with_reducible refine gate_dst (N := 17) rfl ?_); (try (refine gate_guard (by rfl) ?_; dsimp only)); refine mBx 17 #[.int .i64 0, .int .i64 0] 31 ?_; intro gb455 hg w129 hbox hb; replace HO_4 := mS (Kd.R_below (Kd.R_elderB (mR HO_4.out) gb455 (Nat.le_of_eq hg.symm)) hb); replace HO_13 := mS (Kd.R_below (Kd.R_elderB (mR HO_13.out) gb455 (Nat.le_of_eq hg.symm)) hb); replace HO_420000 := mS (Kd.N_below (Kd.N_elderB (mNd HO_420000.out) gb455 (Nat.le_of_eq hg.symm)) hb); replace HO_427000 := mS (Kd.N_below (Kd.N_elderB (mNd HO_427000.out) gb455 (Nat.le_of_eq hg.symm)) hb); replace HL452_2 := mS (Kd.V_below (Kd.V_elderB (mVd HL452_2.out) gb455 (Nat.le_of_eq hg.symm)) hb); replace HL453_2 := mS (Kd.V_below (Kd.V_elderB (mVd HL453_2.out) gb455 (Nat.le_of_eq hg.symm)) hb); replace HR452_2 := mS (Kd.C_below (by repeat (first | (with_reducible exact HR452_2.out) | (with_reducible refine Kd.C_alloc ?_ _) | (with_reducible refine Kd.C_drewN ?_ _) | (with_reducible refine Kd.C_drew ?_) | exact HR452_2.out)) hb); replace HR453_2 := mS (Kd.C_below (by repeat (first | (with_reducible exact HR453_2.out) | (with_reducible refine Kd.C_alloc ?_ _) | (with_reducible refine Kd.C_drewN ?_ _) | (with_reducible refine Kd.C_drew ?_) | exact HR453_2.out)) hb); have BK455 := mS (hbox); have GW455 := mG hg (mH4 HB.out GE419.out GE425.out GE426.out GE451.out); have GE455 := mG hg (mH4 HB.out GE419.out GE425.out GE426.out GE451.out); replace HB := mS (below_step (mH4 HB.out GE419.out GE425.out GE426.out GE451.out) hb); have NB419_455 := mNl hg BK419.out; have NB455_419 := mNg hg BK419.out; replace BK419 := mB BK419 hb; have NB425_455 := mNl hg BK425.out; have NB455_425 := mNg hg BK425.out; replace BK425 := mB BK425 hb; have NB426_455 := mNl hg BK426.out; have NB455_426 := mNg hg BK426.out; replace BK426 := mB BK426 hb; have NB451_455 := mNl hg BK451.out; have NB455_451 := mNg hg BK451.out; replace BK451 := mB BK451 hb; clear hb hbox hg; have hnb130 := NB455_419.out; have hnc130 := NB419_455.out; have hnb131 := NB455_425.out; have hnc131 := NB425_455.out; have hnb132 := NB455_426.out; have hnc132 := NB426_455.out; have hnb133 := NB455_451.out; have hnc133 := NB451_455.out; obtain ⟨hcz134_0, hcz134_1, hfz134_0, hfz134_1⟩ := mZ2 BK455.out))
                       generalize hW_ : ((w129.setCell ⟨gb455, 0, none⟩ (.int .i64 ((rd_T31 ((rd_T33 x427000_2 x14_3).f1) x16_4).f0))).setCell ⟨gb455, 1, none⟩ (.int .i64 ((rd_T31 ((rd_T33 x427000_2 x14_3).f1) x16_4).f1))) = w135
                       replace HO_4 : Aside0 (Kd.R k31 31 w135 w.heap.size (fun k_ => some k_ ≠ (.slice Ao104 t447.length co104 : Value).ownBlock ∧ k_ ≠ gb425 ∧ k_ ≠ gb451 ∧ k_ ≠ gb455) v421 t420) := by rw [← hW_]; exact ⟨by refine mR ?_; exact Kd.R_mono (mRf2 (Kd.R_mono HO_4.out (fun k_ hk => (⟨hk, hk.2⟩ : _ ∧ k_ ≠ gb455)))) (fun _ hk => ⟨hk.1.1.1, ⟨hk.1.1.2.1, ⟨hk.1.1.2.2, hk.1.2⟩⟩⟩)⟩
                       replace HO_13 : Aside0 (Kd.R k31 31 w135 w.heap.size (fun k_ => some k_ ≠ (v421 : Value).ownBlock ∧ k_ ≠ gb425 ∧ k_ ≠ gb451 ∧ k_ ≠ gb455) (.slice Ao104 t447.length co104) t447) := by rw [← hW_]; exact ⟨by refine mR ?_; exact Kd.R_mono (mRf2 (Kd.R_mono HO_13.out (fun k_ hk => (⟨hk, hk.2⟩ : _ ∧ k_ ≠ gb455)))) (fun _ hk => ⟨hk.1.1.1, ⟨hk.1.1.2.1, ⟨hk.1.1.2.2, hk.1.2⟩⟩⟩)⟩
                       replace HO_420000 : Aside0 (Kd.N k33 33 w135 w.heap.size (fun k_ => some k_ ≠ (v421 : Value).ownBlock ∧ some k_ ≠ (.slice Ao104 t447.length co104 : Value).ownBlock ∧ some k_ ≠ (.slice (some ad450) x427000_2.length co102 : Value).ownBlock ∧ k_ ≠ gb419 ∧ k_ ≠ gb425 ∧ k_ ≠ gb426 ∧ k_ ≠ gb451 ∧ k_ ≠ gb455) (.slice (some ad424) t416.length co9) t416) := by rw [← hW_]; exact ⟨by refine mNd ?_; exact Kd.N_mono (mNf2 (Kd.N_mono HO_420000.out (fun k_ hk => (⟨hk, hk.2⟩ : _ ∧ k_ ≠ gb455)))) (fun _ hk => ⟨hk.1.1.1, ⟨hk.1.1.2.1, ⟨hk.1.1.2.2.1, ⟨hk.1.1.2.2.2.1, ⟨hk.1.1.2.2.2.2.1, ⟨hk.1.1.2.2.2.2.2.1, ⟨hk.1.1.2.2.2.2.2.2, hk.1.2⟩⟩⟩⟩⟩⟩⟩)⟩
                       replace HO_427000 : Aside0 (Kd.N k33 33 w135 w.heap.size (fun k_ => some k_ ≠ (v421 : Value).ownBlock ∧ some k_ ≠ (.slice Ao104 t447.length co104 : Value).ownBlock ∧ some k_ ≠ (.slice (some ad424) t416.length co9 : Value).ownBlock ∧ k_ ≠ gb419 ∧ k_ ≠ gb425 ∧ k_ ≠ gb426 ∧ k_ ≠ gb451 ∧ k_ ≠ gb455) (.slice (some ad450) x427000_2.length co102) x427000_2) := by rw [← hW_]; exact ⟨by refine mNd ?_; exact Kd.N_mono (mNf2 (Kd.N_mono HO_427000.out (fun k_ hk => (⟨hk, hk.2⟩ : _ ∧ k_ ≠ gb455)))) (fun _ hk => ⟨hk.1.1.1, ⟨hk.1.1.2.1, ⟨hk.1.1.2.2.1, ⟨hk.1.1.2.2.2.1, ⟨hk.1.1.2.2.2.2.1, ⟨hk.1.1.2.2.2.2.2.1, ⟨hk.1.1.2.2.2.2.2.2, hk.1.2⟩⟩⟩⟩⟩⟩⟩)⟩
                       replace HL452_2 : Aside0 (Kd.V k31 31 w135 w.heap.size (fun k_ => some k_ ≠ (v421 : Value).ownBlock ∧ some k_ ≠ (.slice Ao104 t447.length co104 : Value).ownBlock ∧ some k_ ≠ (.slice (some ad424) t416.length co9 : Value).ownBlock ∧ some k_ ≠ (.slice (some ad450) x427000_2.length co102 : Value).ownBlock ∧ k_ ≠ gb419 ∧ k_ ≠ gb425 ∧ k_ ≠ gb426 ∧ k_ ≠ gb451 ∧ k_ ≠ gb455) (.slice (some ad454) ((rd_T33 x427000_2 x14_3).f1).length c452_2) ((rd_T33 x427000_2 x14_3).f1)) := by rw [← hW_]; exact ⟨by refine mVd ?_; exact Kd.V_mono (Kd.V_far (p := ⟨gb455, 1, none⟩) (Kd.V_far (p := ⟨gb455, 0, none⟩) (Kd.V_mono HL452_2.out (fun k_ hk => (⟨hk, hk.2⟩ : _ ∧ k_ ≠ gb455))) (fun _ hk => hk.2) (.int .i64 ((rd_T31 ((rd_T33 x427000_2 x14_3).f1) x16_4).f0))) (fun _ hk => hk.2) (.int .i64 ((rd_T31 ((rd_T33 x427000_2 x14_3).f1) x16_4).f1))) (fun _ hk => ⟨hk.1.1.1.1, ⟨hk.1.1.1.2.1, ⟨hk.1.1.1.2.2.1, ⟨hk.1.1.2, ⟨hk.1.1.1.2.2.2.1, ⟨hk.1.1.1.2.2.2.2.1, ⟨hk.1.1.1.2.2.2.2.2.1, ⟨hk.1.1.1.2.2.2.2.2.2, hk.1.2⟩⟩⟩⟩⟩⟩⟩⟩)⟩
                       replace HL453_2 : Aside0 (Kd.V k31 31 w135 w.heap.size (fun k_ => some k_ ≠ (v421 : Value).ownBlock ∧ some k_ ≠ (.slice Ao104 t447.length co104 : Value).ownBlock ∧ some k_ ≠ (.slice (some ad424) t416.length co9 : Value).ownBlock ∧ some k_ ≠ (.slice (some ad450) x427000_2.length co102 : Value).ownBlock ∧ k_ ≠ gb419 ∧ k_ ≠ gb425 ∧ k_ ≠ gb426 ∧ k_ ≠ gb451 ∧ k_ ≠ gb455) (.slice (some ad454) ((rd_T33 x427000_2 x14_3).f1).length c452_2) ((rd_T33 x427000_2 x14_3).f1)) := by rw [← hW_]; exact ⟨by refine mVd ?_; exact Kd.V_mono (Kd.V_far (p := ⟨gb455, 1, none⟩) (Kd.V_far (p := ⟨gb455, 0, none⟩) (Kd.V_mono HL453_2.out (fun k_ hk => (⟨hk, hk.2⟩ : _ ∧ k_ ≠ gb455))) (fun _ hk => hk.2) (.int .i64 ((rd_T31 ((rd_T33 x427000_2 x14_3).f1) x16_4).f0))) (fun _ hk => hk.2) (.int .i64 ((rd_T31 ((rd_T33 x427000_2 x14_3).f1) x16_4).f1))) (fun _ hk => ⟨hk.1.1.1.1, ⟨hk.1.1.1.2.1, ⟨hk.1.1.1.2.2.1, ⟨hk.1.1.2, ⟨hk.1.1.1.2.2.2.1, ⟨hk.1.1.1.2.2.2.2.1, ⟨hk.1.1.1.2.2.2.2.2.1, ⟨hk.1.1.1.2.2.2.2.2.2, hk.1.2⟩⟩⟩⟩⟩⟩⟩⟩)⟩
                       replace BK419 : Aside0 (w135.heap[gb419]? = some (.cells #[.slice (some ad424) t416.length co9] 26 (0, 0))) := by rw [← hW_]; exact ⟨mKf NB419_455.out BK419.out⟩
                       replace BK425 : Aside0 (w135.heap[gb425]? = some (.cells #[.int .i64 ((rd_T33 t416 (ji20)).f0.f0), .int .i64 ((rd_T33 t416 (ji20)).f0.f1)] 31 (0, 0))) := by rw [← hW_]; exact ⟨mKf NB425_455.out BK425.out⟩
                       replace BK426 : Aside0 (w135.heap[gb426]? = some (.cells #[.slice (some ad450) x427000_2.length co102] 26 (0, 0))) := by rw [← hW_]; exact ⟨mKf NB426_455.out BK426.out⟩
                       replace BK451 : Aside0 (w135.heap[gb451]? = some (.cells #[.int .i64 ((rd_T33 x427000_2 x14_3).f0.f0), .int .i64 ((rd_T33 x427000_2 x14_3).f0.f1)] 31 (0, 0))) := by rw [← hW_]; exact ⟨mKf NB451_455.out BK451.out⟩
                       replace BK455 : Aside0 (w135.heap[gb455]? = some (.cells #[.int .i64 ((rd_T31 ((rd_T33 x427000_2 x14_3).f1) x16_4).f0), .int .i64 ((rd_T31 ((rd_T33 x427000_2 x14_3).f1) x16_4).f1)] 31 (0, 0))) := by rw [← hW_]; exact ⟨by refine mK ?_; refine blk_put (cs := #[.int .i64 ((rd_T31 ((rd_T33 x427000_2 x14_3).f1) x16_4).f0), .int .i64 0]) ?_ 1 _ rfl; refine mK ?_; refine blk_put (cs := #[.int .i64 0, .int .i64 0]) ?_ 0 _ rfl; refine mK ?_; exact BK455.out⟩
                       replace HB : Aside0 (Below w.heap.size w w135) := by rw [← hW_]; exact ⟨(mH5 HB.out GE419.out GE425.out GE426.out GE451.out GE455.out)⟩
                       clear hW_
                       replace HO_4 := mS (Kd.R_drew HO_4.out)
                       replace HO_13 := mS (Kd.R_drew HO_13.out)
                       replace HO_420000 := mS (Kd.N_drew HO_420000.out)
                       replace HO_427000 := mS (Kd.N_drew HO_427000.out)
                       replace HL452_2 := mS (Kd.V_drew HL452_2.out)
                       replace HL453_2 := mS (Kd.V_drew HL453_2.out)
                       replace BK419 := mS (blk_drew BK419.out)
                       replace BK425 := mS (blk_drew BK425.out)
                       replace BK426 := mS (blk_drew BK426.out)
                       replace BK451 := mS (blk_drew BK451.out)
                       replace BK455 := mS (blk_drew BK455.out)
                       replace HB := mS (below_drew1 HB.out)
                       obtain ⟨Ao137, co137, eo137⟩ := Kd.R_slice HO_4.out
                       (first | subst eo137 | (injection eo137 with f1_ f2_ f3_; have f4_ := f1_.symm; have f5_ := f3_.symm; clear f1_ f2_ f3_; subst f4_; subst f5_))
                       refine start_ (n := 15) (S := fun w' => w'.cell? ⟨gb451, 0, none⟩ = some (.int .i64 ((rd_T33 x427000_2 x14_3).f0.f0)) ∧ w'.cell? ⟨gb451, 1, none⟩ = some (.int .i64 ((rd_T33 x427000_2 x14_3).f0.f1)) ∧ w'.cell? ⟨gb455, 0, none⟩ = some (.int .i64 ((rd_T31 ((rd_T33 x427000_2 x14_3).f1) x16_4).f0)) ∧ w'.cell? ⟨gb455, 1, none⟩ = some (.int .i64 ((rd_T31 ((rd_T33 x427000_2 x14_3).f1) x16_4).f1))) (ds := []) (mb 0 15) (by kernel_rfl) rfl rfl (mb2 BK451.out (mc2 BK455.out)) (fun hHeld => ?_); refine with_tabW laws_FnStable.tab37 laws_FnStable.bits37 (fun HT_ HW_ => ?_)
                       generalize w135.drew = w136 at HO_4 HO_13 HO_420000 HO_427000 HL452_2 HL453_2 BK419 BK425 BK426 BK451 BK455 HB hHeld ⊢
                       refine mpu 0 162 HT_.out (mb 1 14) ?_
                       refine mpu 3 165 HT_.out (mr [1,2,1,11]) ?_
                       refine mpu 7 169 HT_.out (mr [1,2,1,3,1,7]) ?_
                       refine mpu 10 172 HT_.out (mr [1,2,1,3,1,2,1,4]) ?_
                       refine mpt 1 163 HT_.out HW_.out (mr [2,1,1,3,1,2,1,4]) hHeld ?_
                       refine mpt 4 166 HT_.out HW_.out (mr [2,1,2,2,1,2,1,4]) hHeld ?_
                       refine mpt 8 170 HT_.out HW_.out (mr [2,1,2,2,2,1,1,4]) hHeld ?_
                       refine mpt 11 173 HT_.out HW_.out (mr [2,1,2,2,2,1,2,3]) hHeld ?_
                       refine mone 2 (some 164) HT_.out (mr [5,2,2,1,2,3]) (fun K hK => ?_)
                       refine goes_ Try.func18 (by kernel_rfl) rfl #[.slice Ao137 t420.length co137, .agg #[.int .i64 ((rd_T33 x427000_2 x14_3).f0.f0), .int .i64 ((rd_T33 x427000_2 x14_3).f0.f1)]] (by rfl) rfl rfl mA ?_
                       with_reducible refine (laws_place.calls k4 _ _ t420 ((rd_T33 x427000_2 x14_3).f0.f0) ((rd_T33 x427000_2 x14_3).f0.f1) t456 _ ?side1 ?side2 A120.out).mono ?_
                       (case side1 => exact mC (Kd.R_reads' HO_4.out).2.2)
                       (case side2 => exact (Kd.R_reads' HO_4.out).2.1)
                       rintro e w138 ⟨rfl, hb⟩
                       refine ⟨_, rfl, ?_⟩
                       replace HO_4 := mS (Kd.R_below (mR HO_4.out) hb)
                       replace HO_13 := mS (Kd.R_below (mR HO_13.out) hb)
                       replace HO_420000 := mS (Kd.N_below (mNd HO_420000.out) hb)
                       replace HO_427000 := mS (Kd.N_below (mNd HO_427000.out) hb)
                       replace HL452_2 := mS (Kd.V_below (mVd HL452_2.out) hb)
                       replace HL453_2 := mS (Kd.V_below (mVd HL453_2.out) hb)
                       replace BK419 := mB BK419 hb
                       replace BK425 := mB BK425 hb
                       replace BK426 := mB BK426 hb
                       replace BK451 := mB BK451 hb
                       replace BK455 := mB BK455 hb
                       replace HB := mS (below_step (mH5 HB.out GE419.out GE425.out GE426.out GE451.out GE455.out) hb)
                       (try clear hb)
                       (try clear hb2)
                       (try clear hk)
                       (try clear hi)
                       refine hK.out _ _ (mb2 BK451.out (mc2 BK455.out)) (fun hHeld => ?_)
                       clear hK K
                       refine mno 164 ?_
                       refine mone 5 (some 167) HT_.out (mr [6,1,2,1,2,3]) (fun K hK => ?_)
                       refine goes_ Try.func18 (by kernel_rfl) rfl #[.slice Ao137 t420.length co137, .agg #[.int .i64 ((rd_T31 ((rd_T33 x427000_2 x14_3).f1) x16_4).f0), .int .i64 ((rd_T31 ((rd_T33 x427000_2 x14_3).f1) x16_4).f1)]] (by rfl) rfl rfl mA ?_
                       with_reducible refine (laws_place.calls k4 _ _ t420 ((rd_T31 ((rd_T33 x427000_2 x14_3).f1) x16_4).f0) ((rd_T31 ((rd_T33 x427000_2 x14_3).f1) x16_4).f1) t457 _ ?side1 ?side2 A121.out).mono ?_
                       (case side1 => exact mC (Kd.R_reads' HO_4.out).2.2)
                       (case side2 => exact (Kd.R_reads' HO_4.out).2.1)
                       rintro e w139 ⟨rfl, hb⟩
                       refine ⟨_, rfl, ?_⟩
                       replace HO_4 := mS (Kd.R_below (mR HO_4.out) hb)
                       replace HO_13 := mS (Kd.R_below (mR HO_13.out) hb)
                       replace HO_420000 := mS (Kd.N_below (mNd HO_420000.out) hb)
                       replace HO_427000 := mS (Kd.N_below (mNd HO_427000.out) hb)
                       replace HL452_2 := mS (Kd.V_below (mVd HL452_2.out) hb)
                       replace HL453_2 := mS (Kd.V_below (mVd HL453_2.out) hb)
                       replace BK419 := mB BK419 hb
                       replace BK425 := mB BK425 hb
                       replace BK426 := mB BK426 hb
                       replace BK451 := mB BK451 hb
                       replace BK455 := mB BK455 hb
                       replace HB := mS (below_step (mH5 HB.out GE419.out GE425.out GE426.out GE451.out GE455.out) hb)
                       (try clear hb)
                       (try clear hb2)
                       (try clear hk)
                       (try clear hi)
                       refine hK.out _ _ (mb2 BK451.out (mc2 BK455.out)) (fun hHeld => ?_)
                       clear hK K
                       refine mno 167 ?_
                       refine mpu 6 168 HT_.out (mr [9,1,2,3]) ?_
                       refine mone 9 (some 171) HT_.out (mb 12 3) (fun K hK => ?_)
                       refine goes_ Try.func18 (by kernel_rfl) rfl #[.slice Ao104 t447.length co104, .agg #[.int .i64 ((rd_T33 x427000_2 x14_3).f0.f0), .int .i64 ((rd_T33 x427000_2 x14_3).f0.f1)]] (by rfl) rfl rfl mA ?_
                       with_reducible refine (laws_place.calls k4 _ _ t447 ((rd_T33 x427000_2 x14_3).f0.f0) ((rd_T33 x427000_2 x14_3).f0.f1) t458 _ ?side1 ?side2 A122.out).mono ?_
                       (case side1 => exact mC (Kd.R_reads' HO_13.out).2.2)
                       (case side2 => exact (Kd.R_reads' HO_13.out).2.1)
                       rintro e w140 ⟨rfl, hb⟩
                       refine ⟨_, rfl, ?_⟩
                       replace HO_4 := mS (Kd.R_below (mR HO_4.out) hb)
                       replace HO_13 := mS (Kd.R_below (mR HO_13.out) hb)
                       replace HO_420000 := mS (Kd.N_below (mNd HO_420000.out) hb)
                       replace HO_427000 := mS (Kd.N_below (mNd HO_427000.out) hb)
                       replace HL452_2 := mS (Kd.V_below (mVd HL452_2.out) hb)
                       replace HL453_2 := mS (Kd.V_below (mVd HL453_2.out) hb)
                       replace BK419 := mB BK419 hb
                       replace BK425 := mB BK425 hb
                       replace BK426 := mB BK426 hb
                       replace BK451 := mB BK451 hb
                       replace BK455 := mB BK455 hb
                       replace HB := mS (below_step (mH5 HB.out GE419.out GE425.out GE426.out GE451.out GE455.out) hb)
                       (try clear hb)
                       (try clear hb2)
                       (try clear hk)
                       (try clear hi)
                       refine hK.out _ _ (mb2 BK451.out (mc2 BK455.out)) (fun hHeld => ?_)
                       clear hK K
                       refine mno 171 ?_
                       refine mone 12 (some 174) HT_.out (mb 13 2) (fun K hK => ?_)
                       refine goes_ Try.func18 (by kernel_rfl) rfl #[.slice Ao104 t447.length co104, .agg #[.int .i64 ((rd_T31 ((rd_T33 x427000_2 x14_3).f1) x16_4).f0), .int .i64 ((rd_T31 ((rd_T33 x427000_2 x14_3).f1) x16_4).f1)]] (by rfl) rfl rfl mA ?_
                       with_reducible refine (laws_place.calls k4 _ _ t447 ((rd_T31 ((rd_T33 x427000_2 x14_3).f1) x16_4).f0) ((rd_T31 ((rd_T33 x427000_2 x14_3).f1) x16_4).f1) t459 _ ?side1 ?side2 A123.out).mono ?_
                       (case side1 => exact mC (Kd.R_reads' HO_13.out).2.2)
                       (case side2 => exact (Kd.R_reads' HO_13.out).2.1)
                       rintro e w141 ⟨rfl, hb⟩
                       refine ⟨_, rfl, ?_⟩
                       replace HO_4 := mS (Kd.R_below (mR HO_4.out) hb)
                       replace HO_13 := mS (Kd.R_below (mR HO_13.out) hb)
                       replace HO_420000 := mS (Kd.N_below (mNd HO_420000.out) hb)
                       replace HO_427000 := mS (Kd.N_below (mNd HO_427000.out) hb)
                       replace HL452_2 := mS (Kd.V_below (mVd HL452_2.out) hb)
                       replace HL453_2 := mS (Kd.V_below (mVd HL453_2.out) hb)
                       replace BK419 := mB BK419 hb
                       replace BK425 := mB BK425 hb
                       replace BK426 := mB BK426 hb
                       replace BK451 := mB BK451 hb
                       replace BK455 := mB BK455 hb
                       replace HB := mS (below_step (mH5 HB.out GE419.out GE425.out GE426.out GE451.out GE455.out) hb)
                       (try clear hb)
                       (try clear hb2)
                       (try clear hk)
                       (try clear hi)
                       refine hK.out _ _ (mb2 BK451.out (mc2 BK455.out)) (fun hHeld => ?_)
                       clear hK K
                       refine mno 174 ?_
                       refine mpu 13 175 HT_.out (mb 14 1) ?_
                       refine mpu 14 176 HT_.out (mb 15 0) ?_
                       refine done_ (done_of HT_.out (by kernel_rfl)) ?_
                       try go_wp2
                       go_roundg k4
                       case measure => have := HJ5.out; have := HK2.out; have := HK3.out; have := HK4.out; omega
                       case rel => exact ⟨(wrap64 (x16_4 + 1)), mE, H', ⟨by have := HJ5.out; have := HK2.out; have := HK3.out; have := HK4.out; omega⟩, ⟨by refine mR ?_; exact Kd.R_mono HO_4.out (fun _ hk => ⟨hk.1, ⟨hk.2.1, hk.2.2.1⟩⟩)⟩, ⟨by refine mR ?_; exact Kd.R_mono HO_13.out (fun _ hk => ⟨hk.1, ⟨hk.2.1, hk.2.2.1⟩⟩)⟩, ⟨by refine mNd ?_; exact Kd.N_mono HO_420000.out (fun _ hk => ⟨hk.1, ⟨hk.2.1, ⟨hk.2.2.1, ⟨hk.2.2.2.1, ⟨hk.2.2.2.2.1, ⟨hk.2.2.2.2.2.1, hk.2.2.2.2.2.2.1⟩⟩⟩⟩⟩⟩)⟩, ⟨by refine mNd ?_; exact Kd.N_mono HO_427000.out (fun _ hk => ⟨hk.1, ⟨hk.2.1, ⟨hk.2.2.1, ⟨hk.2.2.2.1, ⟨hk.2.2.2.2.1, ⟨hk.2.2.2.2.2.1, hk.2.2.2.2.2.2.1⟩⟩⟩⟩⟩⟩)⟩, ⟨mK BK419.out⟩, ⟨mK BK425.out⟩, ⟨mK BK426.out⟩, ⟨mK BK451.out⟩, ⟨(mH5 HB.out GE419.out GE425.out GE426.out GE451.out GE455.out)⟩⟩
                     ·rw [if_neg c119] at H
                      exact absurd H (by simp)
                    ·rw [if_neg c118] at H
                     have c118b0 := decide_eq_false c118
                     clear c118
                     have H' := mS H
                     clear H
                     have hnb142 := NB426_419.out
                     have hnc142 := NB419_426.out
                     have hnb143 := NB426_425.out
                     have hnc143 := NB425_426.out
                     have hnb144 := NB426_451.out
                     have hnc144 := NB451_426.out
                     have hcz145_0 := mZ BK426.out 0
                     have hfz145_0 := blk_frozen BK426.out 0
                     have p452 : 0 ≤ (x14_3 : Int) := mD
                     have q452 : x14_3 < (x427000_2.length : Int) := mD
                     obtain ⟨ad452, A452_2, c452_2, e452, hx452_0, hx452_1, hx452_2, hl452_2, hi452_2⟩ := at_T33 (Kd.N_reads' HO_427000.out).2.2 x14_3 p452 q452
                     obtain rfl : ad450 = ad452 := (by injection e452)
                     obtain ⟨ce452, hce452, hMe452, hcc452⟩ := Kd.N_get HO_427000.out z33 x14_3 p452 (by first | exact q452 | exact mD | (have e_ := (Kd.N_reads' HO_427000.out).1; omega))
                     obtain ⟨ua452_2, uc452_2, rfl, ul452_2, ge452_2⟩ := k33_openF hMe452
                     have hv452_2 := hcc452 2 _ rfl
                     rw [add_field _ _ 2 (by omega)] at hv452_2
                     replace hv452_2 := Option.some.inj (hv452_2.symm.trans hx452_2)
                     injection hv452_2 with hva_ hvn_ hvc_
                     rw [hva_] at ge452_2
                     rw [hvc_] at ul452_2
                     have HL452_2 := mS (show Kd.V k31 31 _ w.heap.size _ _ ((rd_T33 x427000_2 x14_3).f1) from Kd.V_mk ul452_2 ge452_2)
                     clear hva_ hvn_ hvc_ ge452_2 ul452_2
                     clear hcc452 hce452
                     have HR452_2 := mS hi452_2
                     have HC452_2 := mS hl452_2
                     clear hi452_2 hl452_2
                     replace p452 := eq_true p452
                     replace q452 := eq_true q452
                     go_wp2
                     go_roundg k4
                     case measure => have := HJ5.out; have := HK2.out; have := HK3.out; have := HK4.out; omega
                     case rel => exact ⟨(wrap64 (x14_3 + 1)), mE, H', ⟨by have := HJ5.out; have := HK2.out; have := HK3.out; have := HK4.out; omega⟩, ⟨by refine mR ?_; exact Kd.R_mono HO_4.out (fun _ hk => ⟨hk.1, hk.2.1⟩)⟩, ⟨by refine mR ?_; exact Kd.R_mono HO_13.out (fun _ hk => ⟨hk.1, hk.2.1⟩)⟩, ⟨by refine mNd ?_; exact Kd.N_mono HO_420000.out (fun _ hk => ⟨hk.1, ⟨hk.2.1, ⟨hk.2.2.1, ⟨hk.2.2.2.1, ⟨hk.2.2.2.2.1, hk.2.2.2.2.2.1⟩⟩⟩⟩⟩)⟩, ⟨by refine mNd ?_; exact Kd.N_mono HO_427000.out (fun _ hk => ⟨hk.1, ⟨hk.2.1, ⟨hk.2.2.1, ⟨hk.2.2.2.1, ⟨hk.2.2.2.2.1, hk.2.2.2.2.2.1⟩⟩⟩⟩⟩)⟩, ⟨mK BK419.out⟩, ⟨mK BK425.out⟩, ⟨mK BK426.out⟩, ⟨(mH4 HB.out GE419.out GE425.out GE426.out GE451.out)⟩⟩
                   ·rw [if_neg c117] at H
                    exact absurd H (by simp)
                  ·rw [if_neg c116] at H
                   exact absurd H (by simp)
               ·rw [if_neg c107] at H
                exact absurd H (by simp)
              ·rw [if_neg c106] at H
               have c106b0 := decide_eq_false c106
               clear c106
               obtain rfl := Option.some.inj H
               have hnb146 := NB426_419.out
               have hnc146 := NB419_426.out
               have hnb147 := NB426_425.out
               have hnc147 := NB425_426.out
               have hcz148_0 := mZ BK426.out 0
               have hfz148_0 := blk_frozen BK426.out 0
               go_wp2
               go_ret
               exact ⟨by first | rfl | (simp [errW_none, errW_some] <;> rfl) | (simp only [← hji20]; first | rfl | (simp [errW_none, errW_some] <;> rfl)) | (simp [*, errW_none, errW_some] <;> rfl), (mH3 HB.out GE419.out GE425.out GE426.out)⟩
           ·rw [if_neg c97] at H
            have c97b0 : ((t447.length : Int) == (x427000_2.length : Int)) = false := beq_eq_false_iff_ne.mpr c97
            have c97b1 : ((t447.length : Int) != (x427000_2.length : Int)) = true := bne_iff_ne.mpr c97
            have c97b2 : (t447.length == x427000_2.length) = false := by first | simpa using c97 | (simp at c97 ⊢; omega)
            exact absurd ((Option.some.inj H).trans ht_) (by decide)
       ·rw [if_neg c22] at H
        exact absurd H (by simp)
      ·rw [if_neg c21] at H
       exact absurd H (by simp)

end Go.Proofs.Ytgbejjeephipeaa.MFnStable
