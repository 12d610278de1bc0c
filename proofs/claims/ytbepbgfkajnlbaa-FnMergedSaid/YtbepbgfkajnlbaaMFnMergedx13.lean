-- Written by mp.py, this session's own printer (wip/mp.py).
import Derived.Test.YtbepbgfkajnlbaaVMShort
import Derived.Test.YtbepbgfkajnlbaaMFnMergedx0
import Derived.Test.YtbepbgfkajnlbaaMFnMergedx1
import Derived.Test.YtbepbgfkajnlbaaMFnMergedx2
import Derived.Test.YtbepbgfkajnlbaaMFnMergedx5
import Derived.Test.YtbepbgfkajnlbaaMFnMergedx8
import Derived.Test.YtbepbgfkajnlbaaMFnMergedx12
namespace Go.Proofs.Ytbepbgfkajnlbaa.MFnMerged
open Go.RowKit Go.Proofs.YtbepbgfkajnlbaaW.PrintWords Go.Proofs.YtbepbgfkajnlbaaW.PrintLast Go.Proofs.YtbepbgfkajnlbaaW.PrintMore Go.Proofs.Ytbepbgfkajnlbaa.MWords
attribute [local go_sem] max2_int min2_int max_two min_two max_three min_three max_four min_four   -- for this text's walks alone
set_option linter.unusedVariables false
set_option linter.unusedSimpArgs false

attribute [local go_sem high] eqA33
/-! ### laws_FnMerged: function 11 -/
mutual
def laws_FnMerged.l0 : Nat → List (List (S33)) → Bool → List (S33) → Int → Option (Bool)
 | 0, _, _, _, _ => none
 | k + 1, x3, x4, x5, x6 => if x6 < (x5.length : Int) then (if x6 > 0 then (if 0 ≤ (wrap64 (x6 - 1)) then (if (wrap64 (x6 - 1)) < (x5.length : Int) then (if 0 ≤ x6 then (if ((Op.bytesLess (((rd_T33 x5 (wrap64 (x6 - 1))).f0).toList) (((rd_T33 x5 x6).f0).toList)) = true) then (if x4 = true then (laws_FnMerged.j1 k x3 x4 x5 x6 ((rd_T33 x5 x6).f2)) else (laws_FnMerged.j1 k x3 x4 x5 x6 false)) else (laws_FnMerged.j1 k x3 x4 x5 x6 true)) else (none)) else (none)) else (none)) else (if x4 = true then (if 0 ≤ x6 then (laws_FnMerged.j1 k x3 x4 x5 x6 ((rd_T33 x5 x6).f2)) else (none)) else (laws_FnMerged.j1 k x3 x4 x5 x6 false))) else ((impl_Range.f k x5 (⟨#[97, 98]⟩ : ByteArray) (⟨#[99]⟩ : ByteArray)).bind fun t410 => (laws_FnMerged.l3 k x5 t410 0 0))
def laws_FnMerged.j1 : Nat → List (List (S33)) → Bool → List (S33) → Int → Bool → Option (Bool)
 | 0, _, _, _, _, _ => none
 | k + 1, x3, x4, x5, x6, x60 => if x60 = true then (some false) else (laws_FnMerged.l1 k x3 x4 x5 x6 false 0)
def laws_FnMerged.l1 : Nat → List (List (S33)) → Bool → List (S33) → Int → Bool → Int → Option (Bool)
 | 0, _, _, _, _, _, _ => none
 | k + 1, x3, x4, x5, x6, x7, x8 => if x8 < (x3.length : Int) then (laws_FnMerged.j3 k x3 x4 x5 x6 x7 x8 (!x7)) else (laws_FnMerged.j3 k x3 x4 x5 x6 x7 x8 false)
def laws_FnMerged.j3 : Nat → List (List (S33)) → Bool → List (S33) → Int → Bool → Int → Bool → Option (Bool)
 | 0, _, _, _, _, _, _, _ => none
 | k + 1, x3, x4, x5, x6, x7, x8, x68 => if x68 = true then (laws_FnMerged.l2 k x3 x4 x5 x6 x7 x8 0) else (if x7 = true then (laws_FnMerged.l0 k x3 x4 x5 (wrap64 (x6 + 1))) else (some false))
def laws_FnMerged.l2 : Nat → List (List (S33)) → Bool → List (S33) → Int → Bool → Int → Int → Option (Bool)
 | 0, _, _, _, _, _, _, _ => none
 | k + 1, x3, x4, x5, x6, x7, x8, x9 => if 0 ≤ x8 then (if x8 < (x3.length : Int) then (if x9 < ((rd_L4 x3 x8).length : Int) then (laws_FnMerged.j5 k x3 x4 x5 x6 x7 x8 x9 (!x7)) else (laws_FnMerged.j5 k x3 x4 x5 x6 x7 x8 x9 false)) else (none)) else (none)
def laws_FnMerged.j5 : Nat → List (List (S33)) → Bool → List (S33) → Int → Bool → Int → Int → Bool → Option (Bool)
 | 0, _, _, _, _, _, _, _, _ => none
 | k + 1, x3, x4, x5, x6, x7, x8, x9, x81 => if x81 = true then (if 0 ≤ x8 then (if x8 < (x3.length : Int) then (if 0 ≤ x9 then (if x9 < ((rd_L4 x3 x8).length : Int) then (if 0 ≤ x6 then (if x6 < (x5.length : Int) then (if ((rd_T33 (rd_L4 x3 x8) x9).f0).toList = ((rd_T33 x5 x6).f0).toList then (if (!((((rd_T33 (rd_L4 x3 x8) x9).f0).toList) == (((rd_T33 x5 x6).f0).toList)) || (!((((rd_T33 (rd_L4 x3 x8) x9).f1).toList) == (((rd_T33 x5 x6).f1).toList)) || (!(((rd_T33 (rd_L4 x3 x8) x9).f2) == ((rd_T33 x5 x6).f2))))) = true then (some false) else (laws_FnMerged.l2 k x3 x4 x5 x6 true x8 (wrap64 (x9 + 1)))) else (laws_FnMerged.l2 k x3 x4 x5 x6 x7 x8 (wrap64 (x9 + 1)))) else (none)) else (none)) else (none)) else (none)) else (none)) else (none)) else (laws_FnMerged.l1 k x3 x4 x5 x6 x7 (wrap64 (x8 + 1)))
def laws_FnMerged.l3 : Nat → List (S33) → List (S33) → Int → Int → Option (Bool)
 | 0, _, _, _, _ => none
 | k + 1, x5, x10, x11, x12 => if x12 < (x5.length : Int) then (if 0 ≤ x12 then (if ((Op.bytesLess (((rd_T33 x5 x12).f0).toList) ([97, 98] : List UInt8)) = true) then (laws_FnMerged.j7 k x5 x10 x11 x12 false) else (laws_FnMerged.j7 k x5 x10 x11 x12 (Op.bytesLess (((rd_T33 x5 x12).f0).toList) ([99] : List UInt8)))) else (none)) else (some (x11 == (x10.length : Int)))
def laws_FnMerged.j7 : Nat → List (S33) → List (S33) → Int → Int → Bool → Option (Bool)
 | 0, _, _, _, _, _ => none
 | k + 1, x5, x10, x11, x12, x133 => if x133 = true then (if x11 ≥ (x10.length : Int) then (laws_FnMerged.j8 k x5 x10 x11 x12 true) else (if 0 ≤ x11 then (if x11 < (x10.length : Int) then (if 0 ≤ x12 then (if x12 < (x5.length : Int) then (laws_FnMerged.j8 k x5 x10 x11 x12 (!((((rd_T33 x10 x11).f0).toList) == (((rd_T33 x5 x12).f0).toList)) || (!((((rd_T33 x10 x11).f1).toList) == (((rd_T33 x5 x12).f1).toList)) || (!(((rd_T33 x10 x11).f2) == ((rd_T33 x5 x12).f2)))))) else (none)) else (none)) else (none)) else (none))) else (laws_FnMerged.l3 k x5 x10 x11 (wrap64 (x12 + 1)))
def laws_FnMerged.j8 : Nat → List (S33) → List (S33) → Int → Int → Bool → Option (Bool)
 | 0, _, _, _, _, _ => none
 | k + 1, x5, x10, x11, x12, x148 => if x148 = true then (some false) else (laws_FnMerged.l3 k x5 x10 (wrap64 (x11 + 1)) (wrap64 (x12 + 1)))
end
def laws_FnMerged.f (k : Nat) (l0 : List Int) : Option (Bool) := (laws_big.f l0).bind fun t387 => (if t387 = true then (some true) else ((spec_DrawMerge.f k l0).bind fun bt388 => ((impl_Merge.f k bt388.1 bt388.2).bind fun t392 => ((spec_Merge.f k bt388.1 bt388.2).bind fun t395 => ((laws_samePairs.f k t392 t395).bind fun t398 => (if t398 = true then (laws_FnMerged.l0 k bt388.1 bt388.2 t392 0) else (some false)))))))
theorem laws_FnMerged.mono_l : ∀ k, (∀ y0 y1 y2 y3, LeO (laws_FnMerged.l0 k y0 y1 y2 y3) (laws_FnMerged.l0 (k + 1) y0 y1 y2 y3)) ∧ (∀ y0 y1 y2 y3 y4, LeO (laws_FnMerged.j1 k y0 y1 y2 y3 y4) (laws_FnMerged.j1 (k + 1) y0 y1 y2 y3 y4)) ∧ (∀ y0 y1 y2 y3 y4 y5, LeO (laws_FnMerged.l1 k y0 y1 y2 y3 y4 y5) (laws_FnMerged.l1 (k + 1) y0 y1 y2 y3 y4 y5)) ∧ (∀ y0 y1 y2 y3 y4 y5 y6, LeO (laws_FnMerged.j3 k y0 y1 y2 y3 y4 y5 y6) (laws_FnMerged.j3 (k + 1) y0 y1 y2 y3 y4 y5 y6)) ∧ (∀ y0 y1 y2 y3 y4 y5 y6, LeO (laws_FnMerged.l2 k y0 y1 y2 y3 y4 y5 y6) (laws_FnMerged.l2 (k + 1) y0 y1 y2 y3 y4 y5 y6)) ∧ (∀ y0 y1 y2 y3 y4 y5 y6 y7, LeO (laws_FnMerged.j5 k y0 y1 y2 y3 y4 y5 y6 y7) (laws_FnMerged.j5 (k + 1) y0 y1 y2 y3 y4 y5 y6 y7)) ∧ (∀ y0 y1 y2 y3, LeO (laws_FnMerged.l3 k y0 y1 y2 y3) (laws_FnMerged.l3 (k + 1) y0 y1 y2 y3)) ∧ (∀ y0 y1 y2 y3 y4, LeO (laws_FnMerged.j7 k y0 y1 y2 y3 y4) (laws_FnMerged.j7 (k + 1) y0 y1 y2 y3 y4)) ∧ (∀ y0 y1 y2 y3 y4, LeO (laws_FnMerged.j8 k y0 y1 y2 y3 y4) (laws_FnMerged.j8 (k + 1) y0 y1 y2 y3 y4))
 | 0 => ⟨fun _ _ _ _ r h => by simp [laws_FnMerged.l0] at h, fun _ _ _ _ _ r h => by simp [laws_FnMerged.j1] at h, fun _ _ _ _ _ _ r h => by simp [laws_FnMerged.l1] at h, fun _ _ _ _ _ _ _ r h => by simp [laws_FnMerged.j3] at h, fun _ _ _ _ _ _ _ r h => by simp [laws_FnMerged.l2] at h, fun _ _ _ _ _ _ _ _ r h => by simp [laws_FnMerged.j5] at h, fun _ _ _ _ r h => by simp [laws_FnMerged.l3] at h, fun _ _ _ _ _ r h => by simp [laws_FnMerged.j7] at h, fun _ _ _ _ _ r h => by simp [laws_FnMerged.j8] at h⟩
 | k + 1 => by
  obtain ⟨ih0, ih1, ih2, ih3, ih4, ih5, ih6, ih7, ih8⟩ := laws_FnMerged.mono_l k
  refine ⟨?_, ?_, ?_, ?_, ?_, ?_, ?_, ?_, ?_⟩
  ·intro y0 y1 y2 y3
   unfold laws_FnMerged.l0
   repeat' first
   | (with_reducible exact ih0 _ _ _ _)
   | (with_reducible exact ih1 _ _ _ _ _)
   | (with_reducible exact ih2 _ _ _ _ _ _)
   | (with_reducible exact ih3 _ _ _ _ _ _ _)
   | (with_reducible exact ih4 _ _ _ _ _ _ _)
   | (with_reducible exact ih5 _ _ _ _ _ _ _ _)
   | (with_reducible exact ih6 _ _ _ _)
   | (with_reducible exact ih7 _ _ _ _ _)
   | (with_reducible exact ih8 _ _ _ _ _)
   | (with_reducible exact impl_Merge.mono _ _ _)
   | (with_reducible exact impl_Range.mono _ _ _ _)
   | (with_reducible exact laws_samePairs.mono _ _ _)
   | (with_reducible exact spec_DrawMerge.mono _ _)
   | (with_reducible exact spec_Merge.mono _ _ _)
   | (with_reducible exact LeO.refl _)
   | (with_reducible exact LeO.none _)
   | (with_reducible refine LeO.ite ?_ ?_)
   | (with_reducible refine LeO.bind ?_ (fun _ => ?_))
   | exact ih0 _ _ _ _
   | exact ih1 _ _ _ _ _
   | exact ih2 _ _ _ _ _ _
   | exact ih3 _ _ _ _ _ _ _
   | exact ih4 _ _ _ _ _ _ _
   | exact ih5 _ _ _ _ _ _ _ _
   | exact ih6 _ _ _ _
   | exact ih7 _ _ _ _ _
   | exact ih8 _ _ _ _ _
   | exact impl_Merge.mono _ _ _
   | exact impl_Range.mono _ _ _ _
   | exact laws_samePairs.mono _ _ _
   | exact spec_DrawMerge.mono _ _
   | exact spec_Merge.mono _ _ _
   | exact LeO.none _
   | refine LeO.ite ?_ ?_
   | refine LeO.bind ?_ (fun _ => ?_)
  ·intro y0 y1 y2 y3 y4
   unfold laws_FnMerged.j1
   repeat' first
   | (with_reducible exact ih0 _ _ _ _)
   | (with_reducible exact ih1 _ _ _ _ _)
   | (with_reducible exact ih2 _ _ _ _ _ _)
   | (with_reducible exact ih3 _ _ _ _ _ _ _)
   | (with_reducible exact ih4 _ _ _ _ _ _ _)
   | (with_reducible exact ih5 _ _ _ _ _ _ _ _)
   | (with_reducible exact ih6 _ _ _ _)
   | (with_reducible exact ih7 _ _ _ _ _)
   | (with_reducible exact ih8 _ _ _ _ _)
   | (with_reducible exact impl_Merge.mono _ _ _)
   | (with_reducible exact impl_Range.mono _ _ _ _)
   | (with_reducible exact laws_samePairs.mono _ _ _)
   | (with_reducible exact spec_DrawMerge.mono _ _)
   | (with_reducible exact spec_Merge.mono _ _ _)
   | (with_reducible exact LeO.refl _)
   | (with_reducible exact LeO.none _)
   | (with_reducible refine LeO.ite ?_ ?_)
   | (with_reducible refine LeO.bind ?_ (fun _ => ?_))
   | exact ih0 _ _ _ _
   | exact ih1 _ _ _ _ _
   | exact ih2 _ _ _ _ _ _
   | exact ih3 _ _ _ _ _ _ _
   | exact ih4 _ _ _ _ _ _ _
   | exact ih5 _ _ _ _ _ _ _ _
   | exact ih6 _ _ _ _
   | exact ih7 _ _ _ _ _
   | exact ih8 _ _ _ _ _
   | exact impl_Merge.mono _ _ _
   | exact impl_Range.mono _ _ _ _
   | exact laws_samePairs.mono _ _ _
   | exact spec_DrawMerge.mono _ _
   | exact spec_Merge.mono _ _ _
   | exact LeO.none _
   | refine LeO.ite ?_ ?_
   | refine LeO.bind ?_ (fun _ => ?_)
  ·intro y0 y1 y2 y3 y4 y5
   unfold laws_FnMerged.l1
   repeat' first
   | (with_reducible exact ih0 _ _ _ _)
   | (with_reducible exact ih1 _ _ _ _ _)
   | (with_reducible exact ih2 _ _ _ _ _ _)
   | (with_reducible exact ih3 _ _ _ _ _ _ _)
   | (with_reducible exact ih4 _ _ _ _ _ _ _)
   | (with_reducible exact ih5 _ _ _ _ _ _ _ _)
   | (with_reducible exact ih6 _ _ _ _)
   | (with_reducible exact ih7 _ _ _ _ _)
   | (with_reducible exact ih8 _ _ _ _ _)
   | (with_reducible exact impl_Merge.mono _ _ _)
   | (with_reducible exact impl_Range.mono _ _ _ _)
   | (with_reducible exact laws_samePairs.mono _ _ _)
   | (with_reducible exact spec_DrawMerge.mono _ _)
   | (with_reducible exact spec_Merge.mono _ _ _)
   | (with_reducible exact LeO.refl _)
   | (with_reducible exact LeO.none _)
   | (with_reducible refine LeO.ite ?_ ?_)
   | (with_reducible refine LeO.bind ?_ (fun _ => ?_))
   | exact ih0 _ _ _ _
   | exact ih1 _ _ _ _ _
   | exact ih2 _ _ _ _ _ _
   | exact ih3 _ _ _ _ _ _ _
   | exact ih4 _ _ _ _ _ _ _
   | exact ih5 _ _ _ _ _ _ _ _
   | exact ih6 _ _ _ _
   | exact ih7 _ _ _ _ _
   | exact ih8 _ _ _ _ _
   | exact impl_Merge.mono _ _ _
   | exact impl_Range.mono _ _ _ _
   | exact laws_samePairs.mono _ _ _
   | exact spec_DrawMerge.mono _ _
   | exact spec_Merge.mono _ _ _
   | exact LeO.none _
   | refine LeO.ite ?_ ?_
   | refine LeO.bind ?_ (fun _ => ?_)
  ·intro y0 y1 y2 y3 y4 y5 y6
   unfold laws_FnMerged.j3
   repeat' first
   | (with_reducible exact ih0 _ _ _ _)
   | (with_reducible exact ih1 _ _ _ _ _)
   | (with_reducible exact ih2 _ _ _ _ _ _)
   | (with_reducible exact ih3 _ _ _ _ _ _ _)
   | (with_reducible exact ih4 _ _ _ _ _ _ _)
   | (with_reducible exact ih5 _ _ _ _ _ _ _ _)
   | (with_reducible exact ih6 _ _ _ _)
   | (with_reducible exact ih7 _ _ _ _ _)
   | (with_reducible exact ih8 _ _ _ _ _)
   | (with_reducible exact impl_Merge.mono _ _ _)
   | (with_reducible exact impl_Range.mono _ _ _ _)
   | (with_reducible exact laws_samePairs.mono _ _ _)
   | (with_reducible exact spec_DrawMerge.mono _ _)
   | (with_reducible exact spec_Merge.mono _ _ _)
   | (with_reducible exact LeO.refl _)
   | (with_reducible exact LeO.none _)
   | (with_reducible refine LeO.ite ?_ ?_)
   | (with_reducible refine LeO.bind ?_ (fun _ => ?_))
   | exact ih0 _ _ _ _
   | exact ih1 _ _ _ _ _
   | exact ih2 _ _ _ _ _ _
   | exact ih3 _ _ _ _ _ _ _
   | exact ih4 _ _ _ _ _ _ _
   | exact ih5 _ _ _ _ _ _ _ _
   | exact ih6 _ _ _ _
   | exact ih7 _ _ _ _ _
   | exact ih8 _ _ _ _ _
   | exact impl_Merge.mono _ _ _
   | exact impl_Range.mono _ _ _ _
   | exact laws_samePairs.mono _ _ _
   | exact spec_DrawMerge.mono _ _
   | exact spec_Merge.mono _ _ _
   | exact LeO.none _
   | refine LeO.ite ?_ ?_
   | refine LeO.bind ?_ (fun _ => ?_)
  ·intro y0 y1 y2 y3 y4 y5 y6
   unfold laws_FnMerged.l2
   repeat' first
   | (with_reducible exact ih0 _ _ _ _)
   | (with_reducible exact ih1 _ _ _ _ _)
   | (with_reducible exact ih2 _ _ _ _ _ _)
   | (with_reducible exact ih3 _ _ _ _ _ _ _)
   | (with_reducible exact ih4 _ _ _ _ _ _ _)
   | (with_reducible exact ih5 _ _ _ _ _ _ _ _)
   | (with_reducible exact ih6 _ _ _ _)
   | (with_reducible exact ih7 _ _ _ _ _)
   | (with_reducible exact ih8 _ _ _ _ _)
   | (with_reducible exact impl_Merge.mono _ _ _)
   | (with_reducible exact impl_Range.mono _ _ _ _)
   | (with_reducible exact laws_samePairs.mono _ _ _)
   | (with_reducible exact spec_DrawMerge.mono _ _)
   | (with_reducible exact spec_Merge.mono _ _ _)
   | (with_reducible exact LeO.refl _)
   | (with_reducible exact LeO.none _)
   | (with_reducible refine LeO.ite ?_ ?_)
   | (with_reducible refine LeO.bind ?_ (fun _ => ?_))
   | exact ih0 _ _ _ _
   | exact ih1 _ _ _ _ _
   | exact ih2 _ _ _ _ _ _
   | exact ih3 _ _ _ _ _ _ _
   | exact ih4 _ _ _ _ _ _ _
   | exact ih5 _ _ _ _ _ _ _ _
   | exact ih6 _ _ _ _
   | exact ih7 _ _ _ _ _
   | exact ih8 _ _ _ _ _
   | exact impl_Merge.mono _ _ _
   | exact impl_Range.mono _ _ _ _
   | exact laws_samePairs.mono _ _ _
   | exact spec_DrawMerge.mono _ _
   | exact spec_Merge.mono _ _ _
   | exact LeO.none _
   | refine LeO.ite ?_ ?_
   | refine LeO.bind ?_ (fun _ => ?_)
  ·intro y0 y1 y2 y3 y4 y5 y6 y7
   unfold laws_FnMerged.j5
   repeat' first
   | (with_reducible exact ih0 _ _ _ _)
   | (with_reducible exact ih1 _ _ _ _ _)
   | (with_reducible exact ih2 _ _ _ _ _ _)
   | (with_reducible exact ih3 _ _ _ _ _ _ _)
   | (with_reducible exact ih4 _ _ _ _ _ _ _)
   | (with_reducible exact ih5 _ _ _ _ _ _ _ _)
   | (with_reducible exact ih6 _ _ _ _)
   | (with_reducible exact ih7 _ _ _ _ _)
   | (with_reducible exact ih8 _ _ _ _ _)
   | (with_reducible exact impl_Merge.mono _ _ _)
   | (with_reducible exact impl_Range.mono _ _ _ _)
   | (with_reducible exact laws_samePairs.mono _ _ _)
   | (with_reducible exact spec_DrawMerge.mono _ _)
   | (with_reducible exact spec_Merge.mono _ _ _)
   | (with_reducible exact LeO.refl _)
   | (with_reducible exact LeO.none _)
   | (with_reducible refine LeO.ite ?_ ?_)
   | (with_reducible refine LeO.bind ?_ (fun _ => ?_))
   | exact ih0 _ _ _ _
   | exact ih1 _ _ _ _ _
   | exact ih2 _ _ _ _ _ _
   | exact ih3 _ _ _ _ _ _ _
   | exact ih4 _ _ _ _ _ _ _
   | exact ih5 _ _ _ _ _ _ _ _
   | exact ih6 _ _ _ _
   | exact ih7 _ _ _ _ _
   | exact ih8 _ _ _ _ _
   | exact impl_Merge.mono _ _ _
   | exact impl_Range.mono _ _ _ _
   | exact laws_samePairs.mono _ _ _
   | exact spec_DrawMerge.mono _ _
   | exact spec_Merge.mono _ _ _
   | exact LeO.none _
   | refine LeO.ite ?_ ?_
   | refine LeO.bind ?_ (fun _ => ?_)
  ·intro y0 y1 y2 y3
   unfold laws_FnMerged.l3
   repeat' first
   | (with_reducible exact ih0 _ _ _ _)
   | (with_reducible exact ih1 _ _ _ _ _)
   | (with_reducible exact ih2 _ _ _ _ _ _)
   | (with_reducible exact ih3 _ _ _ _ _ _ _)
   | (with_reducible exact ih4 _ _ _ _ _ _ _)
   | (with_reducible exact ih5 _ _ _ _ _ _ _ _)
   | (with_reducible exact ih6 _ _ _ _)
   | (with_reducible exact ih7 _ _ _ _ _)
   | (with_reducible exact ih8 _ _ _ _ _)
   | (with_reducible exact impl_Merge.mono _ _ _)
   | (with_reducible exact impl_Range.mono _ _ _ _)
   | (with_reducible exact laws_samePairs.mono _ _ _)
   | (with_reducible exact spec_DrawMerge.mono _ _)
   | (with_reducible exact spec_Merge.mono _ _ _)
   | (with_reducible exact LeO.refl _)
   | (with_reducible exact LeO.none _)
   | (with_reducible refine LeO.ite ?_ ?_)
   | (with_reducible refine LeO.bind ?_ (fun _ => ?_))
   | exact ih0 _ _ _ _
   | exact ih1 _ _ _ _ _
   | exact ih2 _ _ _ _ _ _
   | exact ih3 _ _ _ _ _ _ _
   | exact ih4 _ _ _ _ _ _ _
   | exact ih5 _ _ _ _ _ _ _ _
   | exact ih6 _ _ _ _
   | exact ih7 _ _ _ _ _
   | exact ih8 _ _ _ _ _
   | exact impl_Merge.mono _ _ _
   | exact impl_Range.mono _ _ _ _
   | exact laws_samePairs.mono _ _ _
   | exact spec_DrawMerge.mono _ _
   | exact spec_Merge.mono _ _ _
   | exact LeO.none _
   | refine LeO.ite ?_ ?_
   | refine LeO.bind ?_ (fun _ => ?_)
  ·intro y0 y1 y2 y3 y4
   unfold laws_FnMerged.j7
   repeat' first
   | (with_reducible exact ih0 _ _ _ _)
   | (with_reducible exact ih1 _ _ _ _ _)
   | (with_reducible exact ih2 _ _ _ _ _ _)
   | (with_reducible exact ih3 _ _ _ _ _ _ _)
   | (with_reducible exact ih4 _ _ _ _ _ _ _)
   | (with_reducible exact ih5 _ _ _ _ _ _ _ _)
   | (with_reducible exact ih6 _ _ _ _)
   | (with_reducible exact ih7 _ _ _ _ _)
   | (with_reducible exact ih8 _ _ _ _ _)
   | (with_reducible exact impl_Merge.mono _ _ _)
   | (with_reducible exact impl_Range.mono _ _ _ _)
   | (with_reducible exact laws_samePairs.mono _ _ _)
   | (with_reducible exact spec_DrawMerge.mono _ _)
   | (with_reducible exact spec_Merge.mono _ _ _)
   | (with_reducible exact LeO.refl _)
   | (with_reducible exact LeO.none _)
   | (with_reducible refine LeO.ite ?_ ?_)
   | (with_reducible refine LeO.bind ?_ (fun _ => ?_))
   | exact ih0 _ _ _ _
   | exact ih1 _ _ _ _ _
   | exact ih2 _ _ _ _ _ _
   | exact ih3 _ _ _ _ _ _ _
   | exact ih4 _ _ _ _ _ _ _
   | exact ih5 _ _ _ _ _ _ _ _
   | exact ih6 _ _ _ _
   | exact ih7 _ _ _ _ _
   | exact ih8 _ _ _ _ _
   | exact impl_Merge.mono _ _ _
   | exact impl_Range.mono _ _ _ _
   | exact laws_samePairs.mono _ _ _
   | exact spec_DrawMerge.mono _ _
   | exact spec_Merge.mono _ _ _
   | exact LeO.none _
   | refine LeO.ite ?_ ?_
   | refine LeO.bind ?_ (fun _ => ?_)
  ·intro y0 y1 y2 y3 y4
   unfold laws_FnMerged.j8
   repeat' first
   | (with_reducible exact ih0 _ _ _ _)
   | (with_reducible exact ih1 _ _ _ _ _)
   | (with_reducible exact ih2 _ _ _ _ _ _)
   | (with_reducible exact ih3 _ _ _ _ _ _ _)
   | (with_reducible exact ih4 _ _ _ _ _ _ _)
   | (with_reducible exact ih5 _ _ _ _ _ _ _ _)
   | (with_reducible exact ih6 _ _ _ _)
   | (with_reducible exact ih7 _ _ _ _ _)
   | (with_reducible exact ih8 _ _ _ _ _)
   | (with_reducible exact impl_Merge.mono _ _ _)
   | (with_reducible exact impl_Range.mono _ _ _ _)
   | (with_reducible exact laws_samePairs.mono _ _ _)
   | (with_reducible exact spec_DrawMerge.mono _ _)
   | (with_reducible exact spec_Merge.mono _ _ _)
   | (with_reducible exact LeO.refl _)
   | (with_reducible exact LeO.none _)
   | (with_reducible refine LeO.ite ?_ ?_)
   | (with_reducible refine LeO.bind ?_ (fun _ => ?_))
   | exact ih0 _ _ _ _
   | exact ih1 _ _ _ _ _
   | exact ih2 _ _ _ _ _ _
   | exact ih3 _ _ _ _ _ _ _
   | exact ih4 _ _ _ _ _ _ _
   | exact ih5 _ _ _ _ _ _ _ _
   | exact ih6 _ _ _ _
   | exact ih7 _ _ _ _ _
   | exact ih8 _ _ _ _ _
   | exact impl_Merge.mono _ _ _
   | exact impl_Range.mono _ _ _ _
   | exact laws_samePairs.mono _ _ _
   | exact spec_DrawMerge.mono _ _
   | exact spec_Merge.mono _ _ _
   | exact LeO.none _
   | refine LeO.ite ?_ ?_
   | refine LeO.bind ?_ (fun _ => ?_)
theorem laws_FnMerged.mono : ∀ a0 k, LeO (laws_FnMerged.f k a0) (laws_FnMerged.f (k + 1) a0) := by
 intro a0 k
 obtain ⟨ih0, ih1, ih2, ih3, ih4, ih5, ih6, ih7, ih8⟩ := laws_FnMerged.mono_l k
 unfold laws_FnMerged.f
 repeat' first
   | (with_reducible exact ih0 _ _ _ _)
   | (with_reducible exact ih1 _ _ _ _ _)
   | (with_reducible exact ih2 _ _ _ _ _ _)
   | (with_reducible exact ih3 _ _ _ _ _ _ _)
   | (with_reducible exact ih4 _ _ _ _ _ _ _)
   | (with_reducible exact ih5 _ _ _ _ _ _ _ _)
   | (with_reducible exact ih6 _ _ _ _)
   | (with_reducible exact ih7 _ _ _ _ _)
   | (with_reducible exact ih8 _ _ _ _ _)
   | (with_reducible exact impl_Merge.mono _ _ _)
   | (with_reducible exact impl_Range.mono _ _ _ _)
   | (with_reducible exact laws_samePairs.mono _ _ _)
   | (with_reducible exact spec_DrawMerge.mono _ _)
   | (with_reducible exact spec_Merge.mono _ _ _)
   | (with_reducible exact LeO.refl _)
   | (with_reducible exact LeO.none _)
   | (with_reducible refine LeO.ite ?_ ?_)
   | (with_reducible refine LeO.bind ?_ (fun _ => ?_))
   | exact ih0 _ _ _ _
   | exact ih1 _ _ _ _ _
   | exact ih2 _ _ _ _ _ _
   | exact ih3 _ _ _ _ _ _ _
   | exact ih4 _ _ _ _ _ _ _
   | exact ih5 _ _ _ _ _ _ _ _
   | exact ih6 _ _ _ _
   | exact ih7 _ _ _ _ _
   | exact ih8 _ _ _ _ _
   | exact impl_Merge.mono _ _ _
   | exact impl_Range.mono _ _ _ _
   | exact laws_samePairs.mono _ _ _
   | exact spec_DrawMerge.mono _ _
   | exact spec_Merge.mono _ _ _
   | exact LeO.none _
   | refine LeO.ite ?_ ?_
   | refine LeO.bind ?_ (fun _ => ?_)
set_option maxHeartbeats 8000000 in
set_option maxRecDepth 100000 in
theorem laws_FnMerged.calls (k : Nat) (A0 : Option Addr) (c0 : Nat) (l0 : List Int) (r : Bool) (w : World) (hr0 : Kd.C (Kd.int .u8) w A0 l0.length l0) (hc0 : l0.length ≤ c0) (ht_ : r = true) (h : laws_FnMerged.f k l0 = some r) :
  Calls Try.prog 11 #[.slice A0 l0.length c0] w fun e w' => e = .returned (.bool r) ∧ Below w.heap.size w w' := by
 have hu33 := Try.underlying33
 have HR0 := mS hr0
 have HC0 := mS hc0
 clear hr0 hc0
 have HB := mS (Below.refl w.heap.size w)
 have H : ((laws_big.f l0).bind fun t387 => (if t387 = true then (some true) else ((spec_DrawMerge.f k l0).bind fun bt388 => ((impl_Merge.f k bt388.1 bt388.2).bind fun t392 => ((spec_Merge.f k bt388.1 bt388.2).bind fun t395 => ((laws_samePairs.f k t392 t395).bind fun t398 => (if t398 = true then (laws_FnMerged.l0 k bt388.1 bt388.2 t392 0) else (some false)))))))) = some r := h
 clear h
 replace H := Option.bind_eq_some_iff.mp H
 obtain ⟨t387, A20, H⟩ := H
 replace H : (if t387 = true then (some true) else ((spec_DrawMerge.f k l0).bind fun bt388 => ((impl_Merge.f k bt388.1 bt388.2).bind fun t392 => ((spec_Merge.f k bt388.1 bt388.2).bind fun t395 => ((laws_samePairs.f k t392 t395).bind fun t398 => (if t398 = true then (laws_FnMerged.l0 k bt388.1 bt388.2 t392 0) else (some false))))))) = some r := H
 have A2 := mS A20
 clear A20
 by_cases c3 : t387 = true
 ·subst c3
  have H1 : (some true) = some r := by rw [if_pos rfl] at H; exact H
  clear H
  have H := H1
  clear H1
  obtain rfl := Option.some.inj H
  go_enter Try.func11, Try.ntmps11
  go_wp2_with (first | (go_at_call 14; (with_reducible refine (laws_big.calls _ _ l0 true _ ?side1 ?side2 A2.out).mono ?_); (case side1 => repeat (first | exact HR0.out | (with_reducible refine Kd.C_alloc ?_ _) | (with_reducible refine Kd.C_drewN ?_ _) | (with_reducible refine Kd.C_drew ?_))); (case side2 => exact HC0.out); rintro e w' ⟨rfl, ⟨nd, rfl⟩⟩; (try first | exact ⟨rfl, _, World.drewN_drewN _ _ _⟩ | exact ⟨rfl, _, Eq.trans (World.drewN_drewN _ _ _) (congrArg (World.drewN _) (Nat.add_assoc _ _ _))⟩)))
  repeat (go_quiet (first | (go_at_call 14; (with_reducible refine (laws_big.calls _ _ l0 true _ ?side1 ?side2 A2.out).mono ?_); (case side1 => repeat (first | exact HR0.out | (with_reducible refine Kd.C_alloc ?_ _) | (with_reducible refine Kd.C_drewN ?_ _) | (with_reducible refine Kd.C_drew ?_))); (case side2 => exact HC0.out); rintro e w' ⟨rfl, ⟨nd, rfl⟩⟩; (try first | exact ⟨rfl, _, World.drewN_drewN _ _ _⟩ | exact ⟨rfl, _, Eq.trans (World.drewN_drewN _ _ _) (congrArg (World.drewN _) (Nat.add_assoc _ _ _))⟩))); try go_wp2_with (first | (go_at_call 14; (with_reducible refine (laws_big.calls _ _ l0 true _ ?side1 ?side2 A2.out).mono ?_); (case side1 => repeat (first | exact HR0.out | (with_reducible refine Kd.C_alloc ?_ _) | (with_reducible refine Kd.C_drewN ?_ _) | (with_reducible refine Kd.C_drew ?_))); (case side2 => exact HC0.out); rintro e w' ⟨rfl, ⟨nd, rfl⟩⟩; (try first | exact ⟨rfl, _, World.drewN_drewN _ _ _⟩ | exact ⟨rfl, _, Eq.trans (World.drewN_drewN _ _ _) (congrArg (World.drewN _) (Nat.add_assoc _ _ _))⟩))))
  go_ret
  exact ⟨by first | rfl | (simp [errW_none, errW_some] <;> rfl) | (simp [*, errW_none, errW_some] <;> rfl), (mH HB.out)⟩
 ·replace c3 := Bool.eq_false_iff.mpr c3
  subst c3
  have H1 : ((spec_DrawMerge.f k l0).bind fun bt388 => ((impl_Merge.f k bt388.1 bt388.2).bind fun t392 => ((spec_Merge.f k bt388.1 bt388.2).bind fun t395 => ((laws_samePairs.f k t392 t395).bind fun t398 => (if t398 = true then (laws_FnMerged.l0 k bt388.1 bt388.2 t392 0) else (some false)))))) = some r := by rw [if_neg (show ¬ (false = true) by decide)] at H; exact H
  clear H
  have H := H1
  clear H1
  replace H := Option.bind_eq_some_iff.mp H
  obtain ⟨⟨t388, t389⟩, A40, H⟩ := H
  replace H : ((impl_Merge.f k t388 t389).bind fun t392 => ((spec_Merge.f k t388 t389).bind fun t395 => ((laws_samePairs.f k t392 t395).bind fun t398 => (if t398 = true then (laws_FnMerged.l0 k t388 t389 t392 0) else (some false))))) = some r := H
  have A4 := mS A40
  clear A40
  replace H := Option.bind_eq_some_iff.mp H
  obtain ⟨t392, A50, H⟩ := H
  replace H : ((spec_Merge.f k t388 t389).bind fun t395 => ((laws_samePairs.f k t392 t395).bind fun t398 => (if t398 = true then (laws_FnMerged.l0 k t388 t389 t392 0) else (some false)))) = some r := H
  have A5 := mS A50
  clear A50
  replace H := Option.bind_eq_some_iff.mp H
  obtain ⟨t395, A60, H⟩ := H
  replace H : ((laws_samePairs.f k t392 t395).bind fun t398 => (if t398 = true then (laws_FnMerged.l0 k t388 t389 t392 0) else (some false))) = some r := H
  have A6 := mS A60
  clear A60
  replace H := Option.bind_eq_some_iff.mp H
  obtain ⟨t398, A70, H⟩ := H
  replace H : (if t398 = true then (laws_FnMerged.l0 k t388 t389 t392 0) else (some false)) = some r := H
  have A7 := mS A70
  clear A70
  by_cases c8 : t398 = true
  ·subst c8
   have H1 : (laws_FnMerged.l0 k t388 t389 t392 0) = some r := by rw [if_pos rfl] at H; exact H
   clear H
   have H := H1
   clear H1
   have H' := mS H
   clear H
   go_enter Try.func11, Try.ntmps11
   go_wp2_with (first | (go_at_call 14; (with_reducible refine (laws_big.calls _ _ l0 false _ ?side1 ?side2 A2.out).mono ?_); (case side1 => repeat (first | exact HR0.out | (with_reducible refine Kd.C_alloc ?_ _) | (with_reducible refine Kd.C_drewN ?_ _) | (with_reducible refine Kd.C_drew ?_))); (case side2 => exact HC0.out); rintro e w' ⟨rfl, ⟨nd, rfl⟩⟩; (try first | exact ⟨rfl, _, World.drewN_drewN _ _ _⟩ | exact ⟨rfl, _, Eq.trans (World.drewN_drewN _ _ _) (congrArg (World.drewN _) (Nat.add_assoc _ _ _))⟩)) | (go_at_call 63; (with_reducible refine (spec_DrawMerge.calls k _ _ l0 t388 t389 _ ?side1 ?side2 A4.out).mono ?_); (case side1 => repeat (first | exact HR0.out | (with_reducible refine Kd.C_alloc ?_ _) | (with_reducible refine Kd.C_drewN ?_ _) | (with_reducible refine Kd.C_drew ?_))); (case side2 => exact HC0.out); rintro e w9 ⟨v390, rfl, ho0, hb⟩; have HO391 := mS (Kd.S_lower ho0 (below_size (mH HB.out))); replace HB := mS (below_step (mH HB.out) hb); (try clear hb); (try clear hb2); (try clear hk); (try clear hi); (try clear ho0); obtain ⟨Ao10, co10, eo10⟩ := Kd.S_slice HO391.out; subst eo10) | (go_at_call 57; (with_reducible refine (impl_Merge.calls k _ _ t388 t389 t392 _ ?side1 ?side2 A5.out).mono ?_); (case side1 => repeat (first | exact (Kd.S_reads' HO391.out).2.2 | (with_reducible refine Kd.C_alloc ?_ _) | (with_reducible refine Kd.C_drewN ?_ _) | (with_reducible refine Kd.C_drew ?_))); (case side2 => exact (Kd.S_reads' HO391.out).2.1); rintro e w11 ⟨v393, rfl, ho0, hb⟩; replace HO391 := mS (Kd.S_elder' (by (with_reducible repeat (first | apply Kd.S_alloc | apply Kd.S_drewN | apply Kd.S_drew)); exact HO391.out) (Kd.R_base ho0) hb); have HO394 := mS (Kd.R_lower ho0 (below_size (mH HB.out))); replace HB := mS (below_step (mH HB.out) hb); (try clear hb); (try clear hb2); (try clear hk); (try clear hi); (try clear ho0)) | (go_at_call 55; (with_reducible refine (spec_Merge.calls k _ _ t388 t389 t395 _ ?side1 ?side2 A6.out).mono ?_); (case side1 => repeat (first | exact (Kd.S_reads' HO391.out).2.2 | (with_reducible refine Kd.C_alloc ?_ _) | (with_reducible refine Kd.C_drewN ?_ _) | (with_reducible refine Kd.C_drew ?_))); (case side2 => exact (Kd.S_reads' HO391.out).2.1); rintro e w12 ⟨v396, rfl, ho0, hb⟩; replace HO391 := mS (Kd.S_elder' (by (with_reducible repeat (first | apply Kd.S_alloc | apply Kd.S_drewN | apply Kd.S_drew)); exact HO391.out) (Kd.R_base ho0) hb); have HO397 := mS (Kd.R_lower (Kd.R_new' ho0 (Kd.R_lt (mR HO394.out))) (below_size (mH HB.out))); replace HO394 := mS (Kd.R_elder' (mR HO394.out) (Kd.R_base ho0) hb); replace HB := mS (below_step (mH HB.out) hb); (try clear hb); (try clear hb2); (try clear hk); (try clear hi); (try clear ho0); obtain ⟨Ao13, co13, eo13⟩ := Kd.R_slice HO394.out; subst eo13; obtain ⟨Ao14, co14, eo14⟩ := Kd.R_slice HO397.out; subst eo14) | (go_at_call 64; (with_reducible refine (laws_samePairs.calls k _ _ t392 _ _ t395 true _ ?side1 ?side2 ?side3 ?side4 A7.out).mono ?_); (case side1 => repeat (first | exact (Kd.R_reads' HO394.out).2.2 | (with_reducible refine Kd.C_alloc ?_ _) | (with_reducible refine Kd.C_drewN ?_ _) | (with_reducible refine Kd.C_drew ?_))); (case side2 => exact (Kd.R_reads' HO394.out).2.1); (case side3 => repeat (first | exact (Kd.R_reads' HO397.out).2.2 | (with_reducible refine Kd.C_alloc ?_ _) | (with_reducible refine Kd.C_drewN ?_ _) | (with_reducible refine Kd.C_drew ?_))); (case side4 => exact (Kd.R_reads' HO397.out).2.1); rintro e w' ⟨rfl, ⟨nd, rfl⟩⟩; (try first | exact ⟨rfl, _, World.drewN_drewN _ _ _⟩ | exact ⟨rfl, _, Eq.trans (World.drewN_drewN _ _ _) (congrArg (World.drewN _) (Nat.add_assoc _ _ _))⟩)))
   repeat (go_quiet (first | (go_at_call 14; (with_reducible refine (laws_big.calls _ _ l0 false _ ?side1 ?side2 A2.out).mono ?_); (case side1 => repeat (first | exact HR0.out | (with_reducible refine Kd.C_alloc ?_ _) | (with_reducible refine Kd.C_drewN ?_ _) | (with_reducible refine Kd.C_drew ?_))); (case side2 => exact HC0.out); rintro e w' ⟨rfl, ⟨nd, rfl⟩⟩; (try first | exact ⟨rfl, _, World.drewN_drewN _ _ _⟩ | exact ⟨rfl, _, Eq.trans (World.drewN_drewN _ _ _) (congrArg (World.drewN _) (Nat.add_assoc _ _ _))⟩)) | (go_at_call 63; (with_reducible refine (spec_DrawMerge.calls k _ _ l0 t388 t389 _ ?side1 ?side2 A4.out).mono ?_); (case side1 => repeat (first | exact HR0.out | (with_reducible refine Kd.C_alloc ?_ _) | (with_reducible refine Kd.C_drewN ?_ _) | (with_reducible refine Kd.C_drew ?_))); (case side2 => exact HC0.out); rintro e w9 ⟨v390, rfl, ho0, hb⟩; have HO391 := mS (Kd.S_lower ho0 (below_size (mH HB.out))); replace HB := mS (below_step (mH HB.out) hb); (try clear hb); (try clear hb2); (try clear hk); (try clear hi); (try clear ho0); obtain ⟨Ao10, co10, eo10⟩ := Kd.S_slice HO391.out; subst eo10) | (go_at_call 57; (with_reducible refine (impl_Merge.calls k _ _ t388 t389 t392 _ ?side1 ?side2 A5.out).mono ?_); (case side1 => repeat (first | exact (Kd.S_reads' HO391.out).2.2 | (with_reducible refine Kd.C_alloc ?_ _) | (with_reducible refine Kd.C_drewN ?_ _) | (with_reducible refine Kd.C_drew ?_))); (case side2 => exact (Kd.S_reads' HO391.out).2.1); rintro e w11 ⟨v393, rfl, ho0, hb⟩; replace HO391 := mS (Kd.S_elder' (by (with_reducible repeat (first | apply Kd.S_alloc | apply Kd.S_drewN | apply Kd.S_drew)); exact HO391.out) (Kd.R_base ho0) hb); have HO394 := mS (Kd.R_lower ho0 (below_size (mH HB.out))); replace HB := mS (below_step (mH HB.out) hb); (try clear hb); (try clear hb2); (try clear hk); (try clear hi); (try clear ho0)) | (go_at_call 55; (with_reducible refine (spec_Merge.calls k _ _ t388 t389 t395 _ ?side1 ?side2 A6.out).mono ?_); (case side1 => repeat (first | exact (Kd.S_reads' HO391.out).2.2 | (with_reducible refine Kd.C_alloc ?_ _) | (with_reducible refine Kd.C_drewN ?_ _) | (with_reducible refine Kd.C_drew ?_))); (case side2 => exact (Kd.S_reads' HO391.out).2.1); rintro e w12 ⟨v396, rfl, ho0, hb⟩; replace HO391 := mS (Kd.S_elder' (by (with_reducible repeat (first | apply Kd.S_alloc | apply Kd.S_drewN | apply Kd.S_drew)); exact HO391.out) (Kd.R_base ho0) hb); have HO397 := mS (Kd.R_lower (Kd.R_new' ho0 (Kd.R_lt (mR HO394.out))) (below_size (mH HB.out))); replace HO394 := mS (Kd.R_elder' (mR HO394.out) (Kd.R_base ho0) hb); replace HB := mS (below_step (mH HB.out) hb); (try clear hb); (try clear hb2); (try clear hk); (try clear hi); (try clear ho0); obtain ⟨Ao13, co13, eo13⟩ := Kd.R_slice HO394.out; subst eo13; obtain ⟨Ao14, co14, eo14⟩ := Kd.R_slice HO397.out; subst eo14) | (go_at_call 64; (with_reducible refine (laws_samePairs.calls k _ _ t392 _ _ t395 true _ ?side1 ?side2 ?side3 ?side4 A7.out).mono ?_); (case side1 => repeat (first | exact (Kd.R_reads' HO394.out).2.2 | (with_reducible refine Kd.C_alloc ?_ _) | (with_reducible refine Kd.C_drewN ?_ _) | (with_reducible refine Kd.C_drew ?_))); (case side2 => exact (Kd.R_reads' HO394.out).2.1); (case side3 => repeat (first | exact (Kd.R_reads' HO397.out).2.2 | (with_reducible refine Kd.C_alloc ?_ _) | (with_reducible refine Kd.C_drewN ?_ _) | (with_reducible refine Kd.C_drew ?_))); (case side4 => exact (Kd.R_reads' HO397.out).2.1); rintro e w' ⟨rfl, ⟨nd, rfl⟩⟩; (try first | exact ⟨rfl, _, World.drewN_drewN _ _ _⟩ | exact ⟨rfl, _, Eq.trans (World.drewN_drewN _ _ _) (congrArg (World.drewN _) (Nat.add_assoc _ _ _))⟩))); try go_wp2_with (first | (go_at_call 14; (with_reducible refine (laws_big.calls _ _ l0 false _ ?side1 ?side2 A2.out).mono ?_); (case side1 => repeat (first | exact HR0.out | (with_reducible refine Kd.C_alloc ?_ _) | (with_reducible refine Kd.C_drewN ?_ _) | (with_reducible refine Kd.C_drew ?_))); (case side2 => exact HC0.out); rintro e w' ⟨rfl, ⟨nd, rfl⟩⟩; (try first | exact ⟨rfl, _, World.drewN_drewN _ _ _⟩ | exact ⟨rfl, _, Eq.trans (World.drewN_drewN _ _ _) (congrArg (World.drewN _) (Nat.add_assoc _ _ _))⟩)) | (go_at_call 63; (with_reducible refine (spec_DrawMerge.calls k _ _ l0 t388 t389 _ ?side1 ?side2 A4.out).mono ?_); (case side1 => repeat (first | exact HR0.out | (with_reducible refine Kd.C_alloc ?_ _) | (with_reducible refine Kd.C_drewN ?_ _) | (with_reducible refine Kd.C_drew ?_))); (case side2 => exact HC0.out); rintro e w9 ⟨v390, rfl, ho0, hb⟩; have HO391 := mS (Kd.S_lower ho0 (below_size (mH HB.out))); replace HB := mS (below_step (mH HB.out) hb); (try clear hb); (try clear hb2); (try clear hk); (try clear hi); (try clear ho0); obtain ⟨Ao10, co10, eo10⟩ := Kd.S_slice HO391.out; subst eo10) | (go_at_call 57; (with_reducible refine (impl_Merge.calls k _ _ t388 t389 t392 _ ?side1 ?side2 A5.out).mono ?_); (case side1 => repeat (first | exact (Kd.S_reads' HO391.out).2.2 | (with_reducible refine Kd.C_alloc ?_ _) | (with_reducible refine Kd.C_drewN ?_ _) | (with_reducible refine Kd.C_drew ?_))); (case side2 => exact (Kd.S_reads' HO391.out).2.1); rintro e w11 ⟨v393, rfl, ho0, hb⟩; replace HO391 := mS (Kd.S_elder' (by (with_reducible repeat (first | apply Kd.S_alloc | apply Kd.S_drewN | apply Kd.S_drew)); exact HO391.out) (Kd.R_base ho0) hb); have HO394 := mS (Kd.R_lower ho0 (below_size (mH HB.out))); replace HB := mS (below_step (mH HB.out) hb); (try clear hb); (try clear hb2); (try clear hk); (try clear hi); (try clear ho0)) | (go_at_call 55; (with_reducible refine (spec_Merge.calls k _ _ t388 t389 t395 _ ?side1 ?side2 A6.out).mono ?_); (case side1 => repeat (first | exact (Kd.S_reads' HO391.out).2.2 | (with_reducible refine Kd.C_alloc ?_ _) | (with_reducible refine Kd.C_drewN ?_ _) | (with_reducible refine Kd.C_drew ?_))); (case side2 => exact (Kd.S_reads' HO391.out).2.1); rintro e w12 ⟨v396, rfl, ho0, hb⟩; replace HO391 := mS (Kd.S_elder' (by (with_reducible repeat (first | apply Kd.S_alloc | apply Kd.S_drewN | apply Kd.S_drew)); exact HO391.out) (Kd.R_base ho0) hb); have HO397 := mS (Kd.R_lower (Kd.R_new' ho0 (Kd.R_lt (mR HO394.out))) (below_size (mH HB.out))); replace HO394 := mS (Kd.R_elder' (mR HO394.out) (Kd.R_base ho0) hb); replace HB := mS (below_step (mH HB.out) hb); (try clear hb); (try clear hb2); (try clear hk); (try clear hi); (try clear ho0); obtain ⟨Ao13, co13, eo13⟩ := Kd.R_slice HO394.out; subst eo13; obtain ⟨Ao14, co14, eo14⟩ := Kd.R_slice HO397.out; subst eo14) | (go_at_call 64; (with_reducible refine (laws_samePairs.calls k _ _ t392 _ _ t395 true _ ?side1 ?side2 ?side3 ?side4 A7.out).mono ?_); (case side1 => repeat (first | exact (Kd.R_reads' HO394.out).2.2 | (with_reducible refine Kd.C_alloc ?_ _) | (with_reducible refine Kd.C_drewN ?_ _) | (with_reducible refine Kd.C_drew ?_))); (case side2 => exact (Kd.R_reads' HO394.out).2.1); (case side3 => repeat (first | exact (Kd.R_reads' HO397.out).2.2 | (with_reducible refine Kd.C_alloc ?_ _) | (with_reducible refine Kd.C_drewN ?_ _) | (with_reducible refine Kd.C_drew ?_))); (case side4 => exact (Kd.R_reads' HO397.out).2.1); rintro e w' ⟨rfl, ⟨nd, rfl⟩⟩; (try first | exact ⟨rfl, _, World.drewN_drewN _ _ _⟩ | exact ⟨rfl, _, Eq.trans (World.drewN_drewN _ _ _) (congrArg (World.drewN _) (Nat.add_assoc _ _ _))⟩))))
   go_loopg [6] k (fun kq v6 w' => ∃ (x6_1 : Int), v6 = .int .i64 x6_1 ∧ Aside0 (laws_FnMerged.l0 kq t388 t389 t392 x6_1 = some r) ∧ Aside0 (kq ≤ k) ∧ Aside0 (Kd.S (Kd.slice 33 k33) 90 w' w.heap.size (fun k_ => some k_ ≠ ((.slice Ao13 t392.length co13) : Value).ownBlock) (.slice Ao10 t388.length co10) t388) ∧ Aside0 (Kd.R k33 33 w' w.heap.size (fun _ => True) (.slice Ao13 t392.length co13) t392) ∧ Aside0 (Below w.heap.size w w'))
   case atStart => exact ⟨(0), (by first | rfl | (simp; done) | (simp [*]; done)), H', ⟨Nat.le_refl _⟩, ⟨by (with_reducible repeat (first | apply Kd.S_alloc | apply Kd.S_drewN | apply Kd.S_drew)); exact Kd.S_mono HO391.out (fun _ hk => hk.1.2)⟩, ⟨by (with_reducible repeat (first | apply Kd.R_alloc | apply Kd.R_drewN | apply Kd.R_drew)); exact Kd.R_mono HO394.out (fun _ hk => trivial)⟩, ⟨(mH HB.out)⟩⟩
   case round =>
    clear H'
    try clear c1
    try clear p2
    try clear c3
    try clear c8
    try clear c11
    obtain ⟨x6_1, rfl, HA, HK1, HO_3, HO_5, HB⟩ := hrel
    cases gk with
    | zero => exact absurd HA.out (by simp [laws_FnMerged.l0])
    | succ k1 =>
     have H := HA.out
     clear HA
     simp only [laws_FnMerged.l0] at H
     by_cases c15 : x6_1 < (t392.length : Int)
     ·rw [if_pos c15] at H
      have c15b0 : decide (x6_1 < (t392.length : Int)) = true := decide_eq_true c15
      clear c15
      have HC16 := mS H
      clear H
      go_upto_region 10 with (fail)
      repeat (go_quiet (fail); go_upto_region 10 with (fail))
      go_cut [60] (fun v60 wc => ∃ (kq : Nat) (x60_15 : Bool), v60 = .bool x60_15 ∧ Aside0 (laws_FnMerged.j1 kq t388 t389 t392 x6_1 x60_15 = some r) ∧ Aside0 (kq ≤ k1) ∧ Aside0 (Kd.S (Kd.slice 33 k33) 90 wc w.heap.size (fun k_ => some k_ ≠ ((.slice Ao13 t392.length co13) : Value).ownBlock) (.slice Ao10 t388.length co10) t388) ∧ Aside0 (Kd.R k33 33 wc w.heap.size (fun _ => True) (.slice Ao13 t392.length co13) t392) ∧ Aside0 (Below w.heap.size w wc))
      case first =>
       have H := HC16.out
       clear HC16
       by_cases c17 : x6_1 > 0
       ·rw [if_pos c17] at H
        have c17b0 : decide (0 < x6_1) = true := decide_eq_true c17
        clear c17
        (first | rw [c17b0] | (simp only [i64_w, i32_w]; rw [c17b0]) | skip)
        obtain ⟨ji18, hji18⟩ : ∃ j_ : Int, (wrap64 (x6_1 - 1)) = j_ := ⟨_, rfl⟩
        replace H : (if 0 ≤ (ji18) then (if (ji18) < (t392.length : Int) then (if 0 ≤ x6_1 then (if ((Op.bytesLess (((rd_T33 t392 (ji18)).f0).toList) (((rd_T33 t392 x6_1).f0).toList)) = true) then (if t389 = true then (laws_FnMerged.j1 k1 t388 t389 t392 x6_1 ((rd_T33 t392 x6_1).f2)) else (laws_FnMerged.j1 k1 t388 t389 t392 x6_1 false)) else (laws_FnMerged.j1 k1 t388 t389 t392 x6_1 true)) else (none)) else (none)) else (none)) = some r := by first | (rw [hji18] at H; exact H) | (simp only [hji18] at H ⊢; exact H)
        have hji18w : (IntKind.i64.wrap (x6_1 - 1)) = ji18 := (i64_w _).trans hji18
        by_cases c19 : 0 ≤ (ji18)
        ·rw [if_pos c19] at H
         have c19b0 : decide (0 ≤ (ji18)) = true := decide_eq_true c19
         clear c19
         by_cases c20 : (ji18) < (t392.length : Int)
         ·rw [if_pos c20] at H
          have c20b0 : decide ((ji18) < (t392.length : Int)) = true := decide_eq_true c20
          clear c20
          by_cases c21 : 0 ≤ x6_1
          ·rw [if_pos c21] at H
           have c21b0 : decide (0 ≤ x6_1) = true := decide_eq_true c21
           clear c21
           by_cases c22 : ((Op.bytesLess (((rd_T33 t392 (ji18)).f0).toList) (((rd_T33 t392 x6_1).f0).toList)) = true)
           ·rw [if_pos c22] at H
            have c22b0 : (Op.bytesLess (((rd_T33 t392 (ji18)).f0).toList) (((rd_T33 t392 x6_1).f0).toList)) = true := c22
            clear c22
            by_cases c23 : t389 = true
            ·subst c23
             have H1 : (laws_FnMerged.j1 k1 t388 true t392 x6_1 ((rd_T33 t392 x6_1).f2)) = some r := by rw [if_pos rfl] at H; exact H
             clear H
             have H := H1
             clear H1
             have H' := mS H
             clear H
             have p399 : 0 ≤ ((ji18) : Int) := of_decide_eq_true (by first | (with_reducible assumption) | assumption)
             have q399 : (ji18) < (t392.length : Int) := of_decide_eq_true (by first | (with_reducible assumption) | assumption)
             obtain ⟨ad399, e399, hx399_0, hx399_1, hx399_2⟩ := at_T33 (Kd.R_reads' HO_5.out).2.2 (ji18) p399 q399
             cases e399
             replace p399 := eq_true p399
             replace q399 := eq_true q399
             have p400 : 0 ≤ (x6_1 : Int) := of_decide_eq_true (by first | (with_reducible assumption) | assumption)
             have q400 : x6_1 < (t392.length : Int) := of_decide_eq_true (by first | (with_reducible assumption) | assumption)
             obtain ⟨ad400, e400, hx400_0, hx400_1, hx400_2⟩ := at_T33 (Kd.R_reads' HO_5.out).2.2 x6_1 p400 q400
             obtain rfl : ad399 = ad400 := (by injection e400)
             replace p400 := eq_true p400
             replace q400 := eq_true q400
             have p401 : 0 ≤ (x6_1 : Int) := of_decide_eq_true (by first | (with_reducible assumption) | assumption)
             have q401 : x6_1 < (t392.length : Int) := of_decide_eq_true (by first | (with_reducible assumption) | assumption)
             obtain ⟨ad401, e401, hx401_0, hx401_1, hx401_2⟩ := at_T33 (Kd.R_reads' HO_5.out).2.2 x6_1 p401 q401
             obtain rfl : ad399 = ad401 := (by injection e401)
             replace p401 := eq_true p401
             replace q401 := eq_true q401
             go_wp2
             repeat (go_quiet (fail); try go_wp2)
             go_meet
             case rel => exact ⟨_, ((rd_T33 t392 x6_1).f2), (by first | rfl | (simp; done) | (simp [*]; done)), H', ⟨by have := HK1.out; first | omega | exact Nat.le_refl _⟩, ⟨by (with_reducible repeat (first | apply Kd.S_alloc | apply Kd.S_drewN | apply Kd.S_drew)); exact HO_3.out⟩, ⟨by (with_reducible repeat (first | apply Kd.R_alloc | apply Kd.R_drewN | apply Kd.R_drew)); exact HO_5.out⟩, ⟨(mH HB.out)⟩⟩
            ·replace c23 := Bool.eq_false_iff.mpr c23
             subst c23
             have H1 : (laws_FnMerged.j1 k1 t388 false t392 x6_1 false) = some r := by rw [if_neg (show ¬ (false = true) by decide)] at H; exact H
             clear H
             have H := H1
             clear H1
             have H' := mS H
             clear H
             have p399 : 0 ≤ ((ji18) : Int) := of_decide_eq_true (by first | (with_reducible assumption) | assumption)
             have q399 : (ji18) < (t392.length : Int) := of_decide_eq_true (by first | (with_reducible assumption) | assumption)
             obtain ⟨ad399, e399, hx399_0, hx399_1, hx399_2⟩ := at_T33 (Kd.R_reads' HO_5.out).2.2 (ji18) p399 q399
             cases e399
             replace p399 := eq_true p399
             replace q399 := eq_true q399
             have p400 : 0 ≤ (x6_1 : Int) := of_decide_eq_true (by first | (with_reducible assumption) | assumption)
             have q400 : x6_1 < (t392.length : Int) := of_decide_eq_true (by first | (with_reducible assumption) | assumption)
             obtain ⟨ad400, e400, hx400_0, hx400_1, hx400_2⟩ := at_T33 (Kd.R_reads' HO_5.out).2.2 x6_1 p400 q400
             obtain rfl : ad399 = ad400 := (by injection e400)
             replace p400 := eq_true p400
             replace q400 := eq_true q400
             go_wp2
             repeat (go_quiet (fail); try go_wp2)
             go_meet
             case rel => exact ⟨_, (false), (by first | rfl | (simp; done) | (simp [*]; done)), H', ⟨by have := HK1.out; first | omega | exact Nat.le_refl _⟩, ⟨by (with_reducible repeat (first | apply Kd.S_alloc | apply Kd.S_drewN | apply Kd.S_drew)); exact HO_3.out⟩, ⟨by (with_reducible repeat (first | apply Kd.R_alloc | apply Kd.R_drewN | apply Kd.R_drew)); exact HO_5.out⟩, ⟨(mH HB.out)⟩⟩
           ·rw [if_neg c22] at H
            have c22b0 : (Op.bytesLess (((rd_T33 t392 (ji18)).f0).toList) (((rd_T33 t392 x6_1).f0).toList)) = false := by simpa using c22
            clear c22
            have H' := mS H
            clear H
            have p399 : 0 ≤ ((ji18) : Int) := of_decide_eq_true (by first | (with_reducible assumption) | assumption)
            have q399 : (ji18) < (t392.length : Int) := of_decide_eq_true (by first | (with_reducible assumption) | assumption)
            obtain ⟨ad399, e399, hx399_0, hx399_1, hx399_2⟩ := at_T33 (Kd.R_reads' HO_5.out).2.2 (ji18) p399 q399
            cases e399
            replace p399 := eq_true p399
            replace q399 := eq_true q399
            have p400 : 0 ≤ (x6_1 : Int) := of_decide_eq_true (by first | (with_reducible assumption) | assumption)
            have q400 : x6_1 < (t392.length : Int) := of_decide_eq_true (by first | (with_reducible assumption) | assumption)
            obtain ⟨ad400, e400, hx400_0, hx400_1, hx400_2⟩ := at_T33 (Kd.R_reads' HO_5.out).2.2 x6_1 p400 q400
            obtain rfl : ad399 = ad400 := (by injection e400)
            replace p400 := eq_true p400
            replace q400 := eq_true q400
            go_wp2
            repeat (go_quiet (fail); try go_wp2)
            go_meet
            case rel => exact ⟨_, (true), (by first | rfl | (simp; done) | (simp [*]; done)), H', ⟨by have := HK1.out; first | omega | exact Nat.le_refl _⟩, ⟨by (with_reducible repeat (first | apply Kd.S_alloc | apply Kd.S_drewN | apply Kd.S_drew)); exact HO_3.out⟩, ⟨by (with_reducible repeat (first | apply Kd.R_alloc | apply Kd.R_drewN | apply Kd.R_drew)); exact HO_5.out⟩, ⟨(mH HB.out)⟩⟩
          ·rw [if_neg c21] at H
           exact absurd H (by simp)
         ·rw [if_neg c20] at H
          exact absurd H (by simp)
        ·rw [if_neg c19] at H
         exact absurd H (by simp)
       ·rw [if_neg c17] at H
        have c17b0 : decide (0 < x6_1) = false := decide_eq_false c17
        clear c17
        (first | rw [c17b0] | (simp only [i64_w, i32_w]; rw [c17b0]) | skip)
        by_cases c24 : t389 = true
        ·subst c24
         have H1 : (if 0 ≤ x6_1 then (laws_FnMerged.j1 k1 t388 true t392 x6_1 ((rd_T33 t392 x6_1).f2)) else (none)) = some r := by rw [if_pos rfl] at H; exact H
         clear H
         have H := H1
         clear H1
         by_cases c25 : 0 ≤ x6_1
         ·rw [if_pos c25] at H
          have c25b0 : decide (0 ≤ x6_1) = true := decide_eq_true c25
          clear c25
          have H' := mS H
          clear H
          have p402 : 0 ≤ (x6_1 : Int) := of_decide_eq_true (by first | (with_reducible assumption) | assumption)
          have q402 : x6_1 < (t392.length : Int) := of_decide_eq_true (by first | (with_reducible assumption) | assumption)
          obtain ⟨ad402, e402, hx402_0, hx402_1, hx402_2⟩ := at_T33 (Kd.R_reads' HO_5.out).2.2 x6_1 p402 q402
          cases e402
          replace p402 := eq_true p402
          replace q402 := eq_true q402
          go_wp2
          repeat (go_quiet (fail); try go_wp2)
          go_meet
          case rel => exact ⟨_, ((rd_T33 t392 x6_1).f2), (by first | rfl | (simp; done) | (simp [*]; done)), H', ⟨by have := HK1.out; first | omega | exact Nat.le_refl _⟩, ⟨by (with_reducible repeat (first | apply Kd.S_alloc | apply Kd.S_drewN | apply Kd.S_drew)); exact HO_3.out⟩, ⟨by (with_reducible repeat (first | apply Kd.R_alloc | apply Kd.R_drewN | apply Kd.R_drew)); exact HO_5.out⟩, ⟨(mH HB.out)⟩⟩
         ·rw [if_neg c25] at H
          exact absurd H (by simp)
        ·replace c24 := Bool.eq_false_iff.mpr c24
         subst c24
         have H1 : (laws_FnMerged.j1 k1 t388 false t392 x6_1 false) = some r := by rw [if_neg (show ¬ (false = true) by decide)] at H; exact H
         clear H
         have H := H1
         clear H1
         have H' := mS H
         clear H
         go_wp2
         repeat (go_quiet (fail); try go_wp2)
         go_meet
         case rel => exact ⟨_, (false), (by first | rfl | (simp; done) | (simp [*]; done)), H', ⟨by have := HK1.out; first | omega | exact Nat.le_refl _⟩, ⟨by (with_reducible repeat (first | apply Kd.S_alloc | apply Kd.S_drewN | apply Kd.S_drew)); exact HO_3.out⟩, ⟨by (with_reducible repeat (first | apply Kd.R_alloc | apply Kd.R_drewN | apply Kd.R_drew)); exact HO_5.out⟩, ⟨(mH HB.out)⟩⟩
      case rest =>
       clear HC16
       try clear c1
       try clear c2
       try clear p2
       try clear c3
       try clear p3
       try clear q3
       try clear hx3
       try clear p4
       try clear q4
       try clear hx4
       try clear p6
       try clear c8
       try clear c11
       try clear c15
       try clear c15b0
       try clear c17
       try clear c17b0
       try clear c19
       try clear c19b0
       try clear c20
       try clear c20b0
       try clear c21
       try clear c21b0
       try clear c22
       try clear c22b0
       try clear c23
       try clear c24
       try clear c25
       try clear c25b0
       try clear hx399_0
       try clear hx399_1
       try clear hx399_2
       try clear hx400_0
       try clear hx400_1
       try clear hx400_2
       try clear hx401_0
       try clear hx401_1
       try clear hx401_2
       try clear hx402_0
       try clear hx402_1
       try clear hx402_2
       try clear p2
       try clear p399
       try clear p400
       try clear p401
       try clear p402
       try clear q399
       try clear q400
       try clear q401
       try clear q402
       obtain ⟨kq, x60_15, rfl, HA, HJ15, HO_3, HO_5, HB⟩ := hcut
       cases kq with
       | zero => exact absurd HA.out (by simp [laws_FnMerged.j1])
       | succ kj15 =>
        have H := HA.out
        clear HA
        simp only [laws_FnMerged.j1] at H
        by_cases c26 : x60_15 = true
        ·subst c26
         have H1 : (some false) = some r := by rw [if_pos rfl] at H; exact H
         clear H
         have H := H1
         clear H1
         exact absurd ((Option.some.inj H).trans ht_) (by decide)
        ·replace c26 := Bool.eq_false_iff.mpr c26
         subst c26
         have H1 : (laws_FnMerged.l1 kj15 t388 t389 t392 x6_1 false 0) = some r := by rw [if_neg (show ¬ (false = true) by decide)] at H; exact H
         clear H
         have H := H1
         clear H1
         have H' := mS H
         clear H
         go_wp2
         repeat (go_quiet (fail); try go_wp2)
         go_loopg [7, 8] kj15 (fun kq v7 v8 w' => ∃ (x7_3 : Bool) (x8_3 : Int), v7 = .bool x7_3 ∧ v8 = .int .i64 x8_3 ∧ Aside0 (laws_FnMerged.l1 kq t388 t389 t392 x6_1 x7_3 x8_3 = some r) ∧ Aside0 (kq ≤ kj15) ∧ Aside0 (Kd.S (Kd.slice 33 k33) 90 w' w.heap.size (fun k_ => some k_ ≠ ((.slice Ao13 t392.length co13) : Value).ownBlock) (.slice Ao10 t388.length co10) t388) ∧ Aside0 (Kd.R k33 33 w' w.heap.size (fun _ => True) (.slice Ao13 t392.length co13) t392) ∧ Aside0 (Below w.heap.size w w'))
         case atStart => exact ⟨(false), (0), (by first | rfl | (simp; done) | (simp [*]; done)), (by first | rfl | (simp; done) | (simp [*]; done)), H', ⟨Nat.le_refl _⟩, ⟨by (with_reducible repeat (first | apply Kd.S_alloc | apply Kd.S_drewN | apply Kd.S_drew)); exact HO_3.out⟩, ⟨by (with_reducible repeat (first | apply Kd.R_alloc | apply Kd.R_drewN | apply Kd.R_drew)); exact HO_5.out⟩, ⟨(mH HB.out)⟩⟩
         case round =>
          clear H'
          try clear c1
          try clear c2
          try clear p2
          try clear c3
          try clear p3
          try clear q3
          try clear hx3
          try clear p4
          try clear q4
          try clear hx4
          try clear p6
          try clear c8
          try clear c11
          try clear c15
          try clear c15b0
          try clear c17
          try clear c17b0
          try clear c19
          try clear c19b0
          try clear c20
          try clear c20b0
          try clear c21
          try clear c21b0
          try clear c22
          try clear c22b0
          try clear c23
          try clear c24
          try clear c25
          try clear c25b0
          try clear c26
          try clear hx399_0
          try clear hx399_1
          try clear hx399_2
          try clear hx400_0
          try clear hx400_1
          try clear hx400_2
          try clear hx401_0
          try clear hx401_1
          try clear hx401_2
          try clear hx402_0
          try clear hx402_1
          try clear hx402_2
          try clear p2
          try clear p3
          try clear p399
          try clear p4
          try clear p400
          try clear p401
          try clear p402
          try clear p6
          try clear q3
          try clear q399
          try clear q4
          try clear q400
          try clear q401
          try clear q402
          obtain ⟨x7_3, x8_3, rfl, rfl, HA, HK3, HO_3, HO_5, HB⟩ := hrel
          cases gk with
          | zero => exact absurd HA.out (by simp [laws_FnMerged.l1])
          | succ k3 =>
           have H := HA.out
           clear HA
           simp only [laws_FnMerged.l1] at H
           have HC27 := mS H
           clear H
           go_upto_region 14 with (fail)
           repeat (go_quiet (fail); go_upto_region 14 with (fail))
           go_cut [68] (fun v68 wc => ∃ (kq : Nat) (x68_26 : Bool), v68 = .bool x68_26 ∧ Aside0 (laws_FnMerged.j3 kq t388 t389 t392 x6_1 x7_3 x8_3 x68_26 = some r) ∧ Aside0 (kq ≤ k3) ∧ Aside0 (Kd.S (Kd.slice 33 k33) 90 wc w.heap.size (fun k_ => some k_ ≠ ((.slice Ao13 t392.length co13) : Value).ownBlock) (.slice Ao10 t388.length co10) t388) ∧ Aside0 (Kd.R k33 33 wc w.heap.size (fun _ => True) (.slice Ao13 t392.length co13) t392) ∧ Aside0 (Below w.heap.size w wc))
           case first =>
            have H := HC27.out
            clear HC27
            by_cases c28 : x8_3 < (t388.length : Int)
            ·rw [if_pos c28] at H
             have c28b0 : decide (x8_3 < (t388.length : Int)) = true := decide_eq_true c28
             clear c28
             (first | rw [c28b0] | (simp only [i64_w, i32_w]; rw [c28b0]) | skip)
             have H' := mS H
             clear H
             go_wp2
             repeat (go_quiet (fail); try go_wp2)
             go_meet
             case rel => exact ⟨_, (!x7_3), (by first | rfl | (simp; done) | (simp [*]; done)), H', ⟨by have := HK1.out; have := HJ15.out; have := HK3.out; first | omega | exact Nat.le_refl _⟩, ⟨by (with_reducible repeat (first | apply Kd.S_alloc | apply Kd.S_drewN | apply Kd.S_drew)); exact HO_3.out⟩, ⟨by (with_reducible repeat (first | apply Kd.R_alloc | apply Kd.R_drewN | apply Kd.R_drew)); exact HO_5.out⟩, ⟨(mH HB.out)⟩⟩
            ·rw [if_neg c28] at H
             have c28b0 : decide (x8_3 < (t388.length : Int)) = false := decide_eq_false c28
             clear c28
             (first | rw [c28b0] | (simp only [i64_w, i32_w]; rw [c28b0]) | skip)
             have H' := mS H
             clear H
             go_wp2
             repeat (go_quiet (fail); try go_wp2)
             go_meet
             case rel => exact ⟨_, (false), (by first | rfl | (simp; done) | (simp [*]; done)), H', ⟨by have := HK1.out; have := HJ15.out; have := HK3.out; first | omega | exact Nat.le_refl _⟩, ⟨by (with_reducible repeat (first | apply Kd.S_alloc | apply Kd.S_drewN | apply Kd.S_drew)); exact HO_3.out⟩, ⟨by (with_reducible repeat (first | apply Kd.R_alloc | apply Kd.R_drewN | apply Kd.R_drew)); exact HO_5.out⟩, ⟨(mH HB.out)⟩⟩
           case rest =>
            clear HC27
            try clear c1
            try clear c2
            try clear p2
            try clear c3
            try clear p3
            try clear q3
            try clear hx3
            try clear p4
            try clear q4
            try clear hx4
            try clear p6
            try clear c8
            try clear c11
            try clear c15
            try clear c15b0
            try clear c17
            try clear c17b0
            try clear c19
            try clear c19b0
            try clear c20
            try clear c20b0
            try clear c21
            try clear c21b0
            try clear c22
            try clear c22b0
            try clear c23
            try clear c24
            try clear c25
            try clear c25b0
            try clear c26
            try clear c28
            try clear c28b0
            try clear hx399_0
            try clear hx399_1
            try clear hx399_2
            try clear hx400_0
            try clear hx400_1
            try clear hx400_2
            try clear hx401_0
            try clear hx401_1
            try clear hx401_2
            try clear hx402_0
            try clear hx402_1
            try clear hx402_2
            try clear p2
            try clear p3
            try clear p399
            try clear p4
            try clear p400
            try clear p401
            try clear p402
            try clear p6
            try clear q3
            try clear q399
            try clear q4
            try clear q400
            try clear q401
            try clear q402
            obtain ⟨kq, x68_26, rfl, HA, HJ26, HO_3, HO_5, HB⟩ := hcut
            cases kq with
            | zero => exact absurd HA.out (by simp [laws_FnMerged.j3])
            | succ kj26 =>
             have H := HA.out
             clear HA
             simp only [laws_FnMerged.j3] at H
             by_cases c29 : x68_26 = true
             ·subst c29
              have H1 : (laws_FnMerged.l2 kj26 t388 t389 t392 x6_1 x7_3 x8_3 0) = some r := by rw [if_pos rfl] at H; exact H
              clear H
              have H := H1
              clear H1
              have H' := mS H
              clear H
              go_wp2
              repeat (go_quiet (fail); try go_wp2)
              go_loopg [7, 9] kj26 (fun kq v7 v9 w' => ∃ (x7_5 : Bool) (x9_5 : Int), v7 = .bool x7_5 ∧ v9 = .int .i64 x9_5 ∧ Aside0 (laws_FnMerged.l2 kq t388 t389 t392 x6_1 x7_5 x8_3 x9_5 = some r) ∧ Aside0 (kq ≤ kj26) ∧ Aside0 (Kd.S (Kd.slice 33 k33) 90 w' w.heap.size (fun k_ => some k_ ≠ ((.slice Ao13 t392.length co13) : Value).ownBlock) (.slice Ao10 t388.length co10) t388) ∧ Aside0 (Kd.R k33 33 w' w.heap.size (fun _ => True) (.slice Ao13 t392.length co13) t392) ∧ Aside0 (Below w.heap.size w w'))
              case atStart => exact ⟨(x7_3), (0), (by first | rfl | (simp; done) | (simp [*]; done)), (by first | rfl | (simp; done) | (simp [*]; done)), H', ⟨Nat.le_refl _⟩, ⟨by (with_reducible repeat (first | apply Kd.S_alloc | apply Kd.S_drewN | apply Kd.S_drew)); exact HO_3.out⟩, ⟨by (with_reducible repeat (first | apply Kd.R_alloc | apply Kd.R_drewN | apply Kd.R_drew)); exact HO_5.out⟩, ⟨(mH HB.out)⟩⟩
              case round =>
               clear H'
               try clear c1
               try clear c2
               try clear p2
               try clear c3
               try clear p3
               try clear q3
               try clear hx3
               try clear p4
               try clear q4
               try clear hx4
               try clear p6
               try clear c8
               try clear c11
               try clear c15
               try clear c15b0
               try clear c17
               try clear c17b0
               try clear c19
               try clear c19b0
               try clear c20
               try clear c20b0
               try clear c21
               try clear c21b0
               try clear c22
               try clear c22b0
               try clear c23
               try clear c24
               try clear c25
               try clear c25b0
               try clear c26
               try clear c28
               try clear c28b0
               try clear c29
               try clear hx399_0
               try clear hx399_1
               try clear hx399_2
               try clear hx400_0
               try clear hx400_1
               try clear hx400_2
               try clear hx401_0
               try clear hx401_1
               try clear hx401_2
               try clear hx402_0
               try clear hx402_1
               try clear hx402_2
               try clear p2
               try clear p3
               try clear p399
               try clear p4
               try clear p400
               try clear p401
               try clear p402
               try clear p6
               try clear q3
               try clear q399
               try clear q4
               try clear q400
               try clear q401
               try clear q402
               obtain ⟨x7_5, x9_5, rfl, rfl, HA, HK5, HO_3, HO_5, HB⟩ := hrel
               cases gk with
               | zero => exact absurd HA.out (by simp [laws_FnMerged.l2])
               | succ k5 =>
                have H := HA.out
                clear HA
                simp only [laws_FnMerged.l2] at H
                have HC30 := mS H
                clear H
                go_upto_region 17 with (fail)
                repeat (go_quiet (fail); go_upto_region 17 with (fail))
                go_cut [81] (fun v81 wc => ∃ (kq : Nat) (x81_29 : Bool), v81 = .bool x81_29 ∧ Aside0 (laws_FnMerged.j5 kq t388 t389 t392 x6_1 x7_5 x8_3 x9_5 x81_29 = some r) ∧ Aside0 (kq ≤ k5) ∧ Aside0 (Kd.S (Kd.slice 33 k33) 90 wc w.heap.size (fun k_ => some k_ ≠ ((.slice Ao13 t392.length co13) : Value).ownBlock) (.slice Ao10 t388.length co10) t388) ∧ Aside0 (Kd.R k33 33 wc w.heap.size (fun _ => True) (.slice Ao13 t392.length co13) t392) ∧ Aside0 (Below w.heap.size w wc))
                case first =>
                 have H := HC30.out
                 clear HC30
                 by_cases c31 : 0 ≤ x8_3
                 ·rw [if_pos c31] at H
                  have c31b0 : decide (0 ≤ x8_3) = true := decide_eq_true c31
                  clear c31
                  (first | rw [c31b0] | (simp only [i64_w, i32_w]; rw [c31b0]) | skip)
                  by_cases c32 : x8_3 < (t388.length : Int)
                  ·rw [if_pos c32] at H
                   have c32b0 : decide (x8_3 < (t388.length : Int)) = true := decide_eq_true c32
                   clear c32
                   by_cases c33 : x9_5 < ((rd_L4 t388 x8_3).length : Int)
                   ·rw [if_pos c33] at H
                    have c33b0 : decide (x9_5 < ((rd_L4 t388 x8_3).length : Int)) = true := decide_eq_true c33
                    clear c33
                    have H' := mS H
                    clear H
                    have p403 : 0 ≤ (x8_3 : Int) := of_decide_eq_true (by first | (with_reducible assumption) | assumption)
                    have q403 : x8_3 < (t388.length : Int) := of_decide_eq_true (by first | (with_reducible assumption) | assumption)
                    obtain ⟨ad403, A403_0, c403_0, e403, hx403_0, hl403_0, hi403_0⟩ := at_L4 (Kd.S_reads' HO_3.out).2.2 x8_3 p403 q403
                    cases e403
                    obtain ⟨ce403, hce403, hMe403, hcc403⟩ := Kd.S_get HO_3.out [] x8_3 p403 (by first | exact q403 | exact of_decide_eq_true (by first | (with_reducible assumption) | assumption) | (have e_ := (Kd.S_reads' HO_3.out).1; omega))
                    obtain ⟨ve403_0, rfl, ge403_0⟩ := hMe403
                    have hv403_0 := hcc403 0 _ rfl
                    rw [Nat.add_zero, show ((Kd.slice 33 k33)).sz = 1 from rfl, Nat.mul_one] at hv403_0
                    replace hv403_0 := Option.some.inj (hv403_0.symm.trans hx403_0)
                    rw [hv403_0] at ge403_0
                    have HL403_0 := mS (show Kd.R k33 33 _ _ _ _ (rd_L4 t388 x8_3) from ge403_0)
                    clear hv403_0 ge403_0
                    clear hcc403 hce403
                    have HR403_0 := mS hi403_0
                    have HC403_0 := mS hl403_0
                    clear hi403_0 hl403_0
                    replace p403 := eq_true p403
                    replace q403 := eq_true q403
                    go_wp2
                    repeat (go_quiet (fail); try go_wp2)
                    go_meet
                    case rel => exact ⟨_, (!x7_5), (by first | rfl | (simp; done) | (simp [*]; done)), H', ⟨by have := HK1.out; have := HJ15.out; have := HK3.out; have := HJ26.out; have := HK5.out; first | omega | exact Nat.le_refl _⟩, ⟨by (with_reducible repeat (first | apply Kd.S_alloc | apply Kd.S_drewN | apply Kd.S_drew)); exact HO_3.out⟩, ⟨by (with_reducible repeat (first | apply Kd.R_alloc | apply Kd.R_drewN | apply Kd.R_drew)); exact HO_5.out⟩, ⟨(mH HB.out)⟩⟩
                   ·rw [if_neg c33] at H
                    have c33b0 : decide (x9_5 < ((rd_L4 t388 x8_3).length : Int)) = false := decide_eq_false c33
                    clear c33
                    have H' := mS H
                    clear H
                    have p403 : 0 ≤ (x8_3 : Int) := of_decide_eq_true (by first | (with_reducible assumption) | assumption)
                    have q403 : x8_3 < (t388.length : Int) := of_decide_eq_true (by first | (with_reducible assumption) | assumption)
                    obtain ⟨ad403, A403_0, c403_0, e403, hx403_0, hl403_0, hi403_0⟩ := at_L4 (Kd.S_reads' HO_3.out).2.2 x8_3 p403 q403
                    cases e403
                    obtain ⟨ce403, hce403, hMe403, hcc403⟩ := Kd.S_get HO_3.out [] x8_3 p403 (by first | exact q403 | exact of_decide_eq_true (by first | (with_reducible assumption) | assumption) | (have e_ := (Kd.S_reads' HO_3.out).1; omega))
                    obtain ⟨ve403_0, rfl, ge403_0⟩ := hMe403
                    have hv403_0 := hcc403 0 _ rfl
                    rw [Nat.add_zero, show ((Kd.slice 33 k33)).sz = 1 from rfl, Nat.mul_one] at hv403_0
                    replace hv403_0 := Option.some.inj (hv403_0.symm.trans hx403_0)
                    rw [hv403_0] at ge403_0
                    have HL403_0 := mS (show Kd.R k33 33 _ _ _ _ (rd_L4 t388 x8_3) from ge403_0)
                    clear hv403_0 ge403_0
                    clear hcc403 hce403
                    have HR403_0 := mS hi403_0
                    have HC403_0 := mS hl403_0
                    clear hi403_0 hl403_0
                    replace p403 := eq_true p403
                    replace q403 := eq_true q403
                    go_wp2
                    repeat (go_quiet (fail); try go_wp2)
                    go_meet
                    case rel => exact ⟨_, (false), (by first | rfl | (simp; done) | (simp [*]; done)), H', ⟨by have := HK1.out; have := HJ15.out; have := HK3.out; have := HJ26.out; have := HK5.out; first | omega | exact Nat.le_refl _⟩, ⟨by (with_reducible repeat (first | apply Kd.S_alloc | apply Kd.S_drewN | apply Kd.S_drew)); exact HO_3.out⟩, ⟨by (with_reducible repeat (first | apply Kd.R_alloc | apply Kd.R_drewN | apply Kd.R_drew)); exact HO_5.out⟩, ⟨(mH HB.out)⟩⟩
                  ·rw [if_neg c32] at H
                   exact absurd H (by simp)
                 ·rw [if_neg c31] at H
                  exact absurd H (by simp)
                case rest =>
                 clear HC30
                 try clear c1
                 try clear c2
                 try clear p2
                 try clear c3
                 try clear p3
                 try clear q3
                 try clear hx3
                 try clear c4
                 try clear p4
                 try clear q4
                 try clear hx4
                 try clear p6
                 try clear c8
                 try clear c11
                 try clear c15
                 try clear c15b0
                 try clear c17
                 try clear c17b0
                 try clear c19
                 try clear c19b0
                 try clear c20
                 try clear c20b0
                 try clear c21
                 try clear c21b0
                 try clear c22
                 try clear c22b0
                 try clear c23
                 try clear c24
                 try clear c25
                 try clear c25b0
                 try clear c26
                 try clear c28
                 try clear c28b0
                 try clear c29
                 try clear c31
                 try clear c31b0
                 try clear c32
                 try clear c32b0
                 try clear c33
                 try clear c33b0
                 try clear hx399_0
                 try clear hx399_1
                 try clear hx399_2
                 try clear hx400_0
                 try clear hx400_1
                 try clear hx400_2
                 try clear hx401_0
                 try clear hx401_1
                 try clear hx401_2
                 try clear hx402_0
                 try clear hx402_1
                 try clear hx402_2
                 try clear hx403_0
                 try clear p2
                 try clear p3
                 try clear p399
                 try clear p4
                 try clear p400
                 try clear p401
                 try clear p402
                 try clear p403
                 try clear p6
                 try clear q3
                 try clear q399
                 try clear q4
                 try clear q400
                 try clear q401
                 try clear q402
                 try clear q403
                 obtain ⟨kq, x81_29, rfl, HA, HJ29, HO_3, HO_5, HB⟩ := hcut
                 cases kq with
                 | zero => exact absurd HA.out (by simp [laws_FnMerged.j5])
                 | succ kj29 =>
                  have H := HA.out
                  clear HA
                  simp only [laws_FnMerged.j5] at H
                  by_cases c34 : x81_29 = true
                  ·subst c34
                   have H1 : (if 0 ≤ x8_3 then (if x8_3 < (t388.length : Int) then (if 0 ≤ x9_5 then (if x9_5 < ((rd_L4 t388 x8_3).length : Int) then (if 0 ≤ x6_1 then (if x6_1 < (t392.length : Int) then (if ((rd_T33 (rd_L4 t388 x8_3) x9_5).f0).toList = ((rd_T33 t392 x6_1).f0).toList then (if (!((((rd_T33 (rd_L4 t388 x8_3) x9_5).f0).toList) == (((rd_T33 t392 x6_1).f0).toList)) || (!((((rd_T33 (rd_L4 t388 x8_3) x9_5).f1).toList) == (((rd_T33 t392 x6_1).f1).toList)) || (!(((rd_T33 (rd_L4 t388 x8_3) x9_5).f2) == ((rd_T33 t392 x6_1).f2))))) = true then (some false) else (laws_FnMerged.l2 kj29 t388 t389 t392 x6_1 true x8_3 (wrap64 (x9_5 + 1)))) else (laws_FnMerged.l2 kj29 t388 t389 t392 x6_1 x7_5 x8_3 (wrap64 (x9_5 + 1)))) else (none)) else (none)) else (none)) else (none)) else (none)) else (none)) = some r := by rw [if_pos rfl] at H; exact H
                   clear H
                   have H := H1
                   clear H1
                   by_cases c35 : 0 ≤ x8_3
                   ·rw [if_pos c35] at H
                    have c35b0 : decide (0 ≤ x8_3) = true := decide_eq_true c35
                    clear c35
                    by_cases c36 : x8_3 < (t388.length : Int)
                    ·rw [if_pos c36] at H
                     have c36b0 : decide (x8_3 < (t388.length : Int)) = true := decide_eq_true c36
                     clear c36
                     by_cases c37 : 0 ≤ x9_5
                     ·rw [if_pos c37] at H
                      have c37b0 : decide (0 ≤ x9_5) = true := decide_eq_true c37
                      clear c37
                      by_cases c38 : x9_5 < ((rd_L4 t388 x8_3).length : Int)
                      ·rw [if_pos c38] at H
                       have c38b0 : decide (x9_5 < ((rd_L4 t388 x8_3).length : Int)) = true := decide_eq_true c38
                       clear c38
                       by_cases c39 : 0 ≤ x6_1
                       ·rw [if_pos c39] at H
                        have c39b0 : decide (0 ≤ x6_1) = true := decide_eq_true c39
                        clear c39
                        by_cases c40 : x6_1 < (t392.length : Int)
                        ·rw [if_pos c40] at H
                         have c40b0 : decide (x6_1 < (t392.length : Int)) = true := decide_eq_true c40
                         clear c40
                         by_cases c41 : ((rd_T33 (rd_L4 t388 x8_3) x9_5).f0).toList = ((rd_T33 t392 x6_1).f0).toList
                         ·rw [if_pos c41] at H
                          have c41b0 : (((rd_T33 (rd_L4 t388 x8_3) x9_5).f0).toList == ((rd_T33 t392 x6_1).f0).toList) = true := beq_iff_eq.mpr c41
                          have c41b1 : (((rd_T33 (rd_L4 t388 x8_3) x9_5).f0).toList != ((rd_T33 t392 x6_1).f0).toList) = false := bne_eq_false_iff_eq.mpr c41
                          clear c41
                          by_cases c42 : (!((((rd_T33 (rd_L4 t388 x8_3) x9_5).f0).toList) == (((rd_T33 t392 x6_1).f0).toList)) || (!((((rd_T33 (rd_L4 t388 x8_3) x9_5).f1).toList) == (((rd_T33 t392 x6_1).f1).toList)) || (!(((rd_T33 (rd_L4 t388 x8_3) x9_5).f2) == ((rd_T33 t392 x6_1).f2))))) = true
                          ·rw [if_pos c42] at H
                           have c42b0 : (!((((rd_T33 (rd_L4 t388 x8_3) x9_5).f0).toList) == (((rd_T33 t392 x6_1).f0).toList)) || (!((((rd_T33 (rd_L4 t388 x8_3) x9_5).f1).toList) == (((rd_T33 t392 x6_1).f1).toList)) || (!(((rd_T33 (rd_L4 t388 x8_3) x9_5).f2) == ((rd_T33 t392 x6_1).f2))))) = true := c42
                           clear c42
                           exact absurd ((Option.some.inj H).trans ht_) (by decide)
                          ·rw [if_neg c42] at H
                           have c42b0 : (!((((rd_T33 (rd_L4 t388 x8_3) x9_5).f0).toList) == (((rd_T33 t392 x6_1).f0).toList)) || (!((((rd_T33 (rd_L4 t388 x8_3) x9_5).f1).toList) == (((rd_T33 t392 x6_1).f1).toList)) || (!(((rd_T33 (rd_L4 t388 x8_3) x9_5).f2) == ((rd_T33 t392 x6_1).f2))))) = false := by simpa using c42
                           have c42b0x := c42b0; rw [c41b0] at c42b0x; simp only [Bool.not_true, Bool.false_or] at c42b0x
                           clear c42
                           have H' := mS H
                           clear H
                           have p404 : 0 ≤ (x8_3 : Int) := of_decide_eq_true (by first | (with_reducible assumption) | assumption)
                           have q404 : x8_3 < (t388.length : Int) := of_decide_eq_true (by first | (with_reducible assumption) | assumption)
                           obtain ⟨ad404, A404_0, c404_0, e404, hx404_0, hl404_0, hi404_0⟩ := at_L4 (Kd.S_reads' HO_3.out).2.2 x8_3 p404 q404
                           cases e404
                           obtain ⟨ce404, hce404, hMe404, hcc404⟩ := Kd.S_get HO_3.out [] x8_3 p404 (by first | exact q404 | exact of_decide_eq_true (by first | (with_reducible assumption) | assumption) | (have e_ := (Kd.S_reads' HO_3.out).1; omega))
                           obtain ⟨ve404_0, rfl, ge404_0⟩ := hMe404
                           have hv404_0 := hcc404 0 _ rfl
                           rw [Nat.add_zero, show ((Kd.slice 33 k33)).sz = 1 from rfl, Nat.mul_one] at hv404_0
                           replace hv404_0 := Option.some.inj (hv404_0.symm.trans hx404_0)
                           rw [hv404_0] at ge404_0
                           have HL404_0 := mS (show Kd.R k33 33 _ _ _ _ (rd_L4 t388 x8_3) from ge404_0)
                           clear hv404_0 ge404_0
                           clear hcc404 hce404
                           have HR404_0 := mS hi404_0
                           have HC404_0 := mS hl404_0
                           clear hi404_0 hl404_0
                           replace p404 := eq_true p404
                           replace q404 := eq_true q404
                           have p405 : 0 ≤ (x9_5 : Int) := of_decide_eq_true (by first | (with_reducible assumption) | assumption)
                           have q405 : x9_5 < ((rd_L4 t388 x8_3).length : Int) := of_decide_eq_true (by first | (with_reducible assumption) | assumption)
                           obtain ⟨ad405, e405, hx405_0, hx405_1, hx405_2⟩ := at_T33 (by repeat (first | (with_reducible exact HR404_0.out) | (with_reducible refine Kd.C_alloc ?_ _) | (with_reducible refine Kd.C_drewN ?_ _) | (with_reducible refine Kd.C_drew ?_) | exact HR404_0.out)) x9_5 p405 q405
                           cases e405
                           replace p405 := eq_true p405
                           replace q405 := eq_true q405
                           have p406 : 0 ≤ (x6_1 : Int) := of_decide_eq_true (by first | (with_reducible assumption) | assumption)
                           have q406 : x6_1 < (t392.length : Int) := of_decide_eq_true (by first | (with_reducible assumption) | assumption)
                           obtain ⟨ad406, e406, hx406_0, hx406_1, hx406_2⟩ := at_T33 (Kd.R_reads' HO_5.out).2.2 x6_1 p406 q406
                           cases e406
                           replace p406 := eq_true p406
                           replace q406 := eq_true q406
                           have p407 : 0 ≤ (x8_3 : Int) := of_decide_eq_true (by first | (with_reducible assumption) | assumption)
                           have q407 : x8_3 < (t388.length : Int) := of_decide_eq_true (by first | (with_reducible assumption) | assumption)
                           obtain ⟨ad407, A407_0, c407_0, e407, hx407_0, hl407_0, hi407_0⟩ := at_L4 (Kd.S_reads' HO_3.out).2.2 x8_3 p407 q407
                           obtain rfl : ad404 = ad407 := (by injection e407)
                           obtain ⟨ce407, hce407, hMe407, hcc407⟩ := Kd.S_get HO_3.out [] x8_3 p407 (by first | exact q407 | exact of_decide_eq_true (by first | (with_reducible assumption) | assumption) | (have e_ := (Kd.S_reads' HO_3.out).1; omega))
                           obtain ⟨ve407_0, rfl, ge407_0⟩ := hMe407
                           have hv407_0 := hcc407 0 _ rfl
                           rw [Nat.add_zero, show ((Kd.slice 33 k33)).sz = 1 from rfl, Nat.mul_one] at hv407_0
                           replace hv407_0 := Option.some.inj (hv407_0.symm.trans hx407_0)
                           rw [hv407_0] at ge407_0
                           have HL407_0 := mS (show Kd.R k33 33 _ _ _ _ (rd_L4 t388 x8_3) from ge407_0)
                           clear hv407_0 ge407_0
                           clear hcc407 hce407
                           have HR407_0 := mS hi407_0
                           have HC407_0 := mS hl407_0
                           clear hi407_0 hl407_0
                           replace p407 := eq_true p407
                           replace q407 := eq_true q407
                           have ea_ := Option.some.inj (hx404_0.symm.trans hx407_0)
                           injection ea_ with ea_ en_ ec_
                           subst ea_
                           subst ec_
                           clear en_
                           have p408 : 0 ≤ (x9_5 : Int) := of_decide_eq_true (by first | (with_reducible assumption) | assumption)
                           have q408 : x9_5 < ((rd_L4 t388 x8_3).length : Int) := of_decide_eq_true (by first | (with_reducible assumption) | assumption)
                           obtain ⟨ad408, e408, hx408_0, hx408_1, hx408_2⟩ := at_T33 (by repeat (first | (with_reducible exact HR407_0.out) | (with_reducible refine Kd.C_alloc ?_ _) | (with_reducible refine Kd.C_drewN ?_ _) | (with_reducible refine Kd.C_drew ?_) | exact HR407_0.out)) x9_5 p408 q408
                           cases e408
                           replace p408 := eq_true p408
                           replace q408 := eq_true q408
                           have p409 : 0 ≤ (x6_1 : Int) := of_decide_eq_true (by first | (with_reducible assumption) | assumption)
                           have q409 : x6_1 < (t392.length : Int) := of_decide_eq_true (by first | (with_reducible assumption) | assumption)
                           obtain ⟨ad409, e409, hx409_0, hx409_1, hx409_2⟩ := at_T33 (Kd.R_reads' HO_5.out).2.2 x6_1 p409 q409
                           obtain rfl : ad406 = ad409 := (by injection e409)
                           replace p409 := eq_true p409
                           replace q409 := eq_true q409
                           go_wp2
                           repeat (go_quiet (fail); try go_wp2)
                           go_roundg kj29
                           case measure => have := HK1.out; have := HJ15.out; have := HK3.out; have := HJ26.out; have := HK5.out; have := HJ29.out; omega
                           case rel => exact ⟨(true), (wrap64 (x9_5 + 1)), (by first | rfl | (simp; done) | (simp [*]; done)), (by first | rfl | (simp; done) | (simp [*]; done)), H', ⟨by have := HK1.out; have := HJ15.out; have := HK3.out; have := HJ26.out; have := HK5.out; have := HJ29.out; omega⟩, ⟨by (with_reducible repeat (first | apply Kd.S_alloc | apply Kd.S_drewN | apply Kd.S_drew)); exact HO_3.out⟩, ⟨by (with_reducible repeat (first | apply Kd.R_alloc | apply Kd.R_drewN | apply Kd.R_drew)); exact HO_5.out⟩, ⟨(mH HB.out)⟩⟩
                         ·rw [if_neg c41] at H
                          have c41b0 : (((rd_T33 (rd_L4 t388 x8_3) x9_5).f0).toList == ((rd_T33 t392 x6_1).f0).toList) = false := beq_eq_false_iff_ne.mpr c41
                          have c41b1 : (((rd_T33 (rd_L4 t388 x8_3) x9_5).f0).toList != ((rd_T33 t392 x6_1).f0).toList) = true := bne_iff_ne.mpr c41
                          have H' := mS H
                          clear H
                          have p404 : 0 ≤ (x8_3 : Int) := of_decide_eq_true (by first | (with_reducible assumption) | assumption)
                          have q404 : x8_3 < (t388.length : Int) := of_decide_eq_true (by first | (with_reducible assumption) | assumption)
                          obtain ⟨ad404, A404_0, c404_0, e404, hx404_0, hl404_0, hi404_0⟩ := at_L4 (Kd.S_reads' HO_3.out).2.2 x8_3 p404 q404
                          cases e404
                          obtain ⟨ce404, hce404, hMe404, hcc404⟩ := Kd.S_get HO_3.out [] x8_3 p404 (by first | exact q404 | exact of_decide_eq_true (by first | (with_reducible assumption) | assumption) | (have e_ := (Kd.S_reads' HO_3.out).1; omega))
                          obtain ⟨ve404_0, rfl, ge404_0⟩ := hMe404
                          have hv404_0 := hcc404 0 _ rfl
                          rw [Nat.add_zero, show ((Kd.slice 33 k33)).sz = 1 from rfl, Nat.mul_one] at hv404_0
                          replace hv404_0 := Option.some.inj (hv404_0.symm.trans hx404_0)
                          rw [hv404_0] at ge404_0
                          have HL404_0 := mS (show Kd.R k33 33 _ _ _ _ (rd_L4 t388 x8_3) from ge404_0)
                          clear hv404_0 ge404_0
                          clear hcc404 hce404
                          have HR404_0 := mS hi404_0
                          have HC404_0 := mS hl404_0
                          clear hi404_0 hl404_0
                          replace p404 := eq_true p404
                          replace q404 := eq_true q404
                          have p405 : 0 ≤ (x9_5 : Int) := of_decide_eq_true (by first | (with_reducible assumption) | assumption)
                          have q405 : x9_5 < ((rd_L4 t388 x8_3).length : Int) := of_decide_eq_true (by first | (with_reducible assumption) | assumption)
                          obtain ⟨ad405, e405, hx405_0, hx405_1, hx405_2⟩ := at_T33 (by repeat (first | (with_reducible exact HR404_0.out) | (with_reducible refine Kd.C_alloc ?_ _) | (with_reducible refine Kd.C_drewN ?_ _) | (with_reducible refine Kd.C_drew ?_) | exact HR404_0.out)) x9_5 p405 q405
                          cases e405
                          replace p405 := eq_true p405
                          replace q405 := eq_true q405
                          have p406 : 0 ≤ (x6_1 : Int) := of_decide_eq_true (by first | (with_reducible assumption) | assumption)
                          have q406 : x6_1 < (t392.length : Int) := of_decide_eq_true (by first | (with_reducible assumption) | assumption)
                          obtain ⟨ad406, e406, hx406_0, hx406_1, hx406_2⟩ := at_T33 (Kd.R_reads' HO_5.out).2.2 x6_1 p406 q406
                          cases e406
                          replace p406 := eq_true p406
                          replace q406 := eq_true q406
                          go_wp2
                          repeat (go_quiet (fail); try go_wp2)
                          go_roundg kj29
                          case measure => have := HK1.out; have := HJ15.out; have := HK3.out; have := HJ26.out; have := HK5.out; have := HJ29.out; omega
                          case rel => exact ⟨(x7_5), (wrap64 (x9_5 + 1)), (by first | rfl | (simp; done) | (simp [*]; done)), (by first | rfl | (simp; done) | (simp [*]; done)), H', ⟨by have := HK1.out; have := HJ15.out; have := HK3.out; have := HJ26.out; have := HK5.out; have := HJ29.out; omega⟩, ⟨by (with_reducible repeat (first | apply Kd.S_alloc | apply Kd.S_drewN | apply Kd.S_drew)); exact HO_3.out⟩, ⟨by (with_reducible repeat (first | apply Kd.R_alloc | apply Kd.R_drewN | apply Kd.R_drew)); exact HO_5.out⟩, ⟨(mH HB.out)⟩⟩
                        ·rw [if_neg c40] at H
                         exact absurd H (by simp)
                       ·rw [if_neg c39] at H
                        exact absurd H (by simp)
                      ·rw [if_neg c38] at H
                       exact absurd H (by simp)
                     ·rw [if_neg c37] at H
                      exact absurd H (by simp)
                    ·rw [if_neg c36] at H
                     exact absurd H (by simp)
                   ·rw [if_neg c35] at H
                    exact absurd H (by simp)
                  ·replace c34 := Bool.eq_false_iff.mpr c34
                   subst c34
                   have H1 : (laws_FnMerged.l1 kj29 t388 t389 t392 x6_1 x7_5 (wrap64 (x8_3 + 1))) = some r := by rw [if_neg (show ¬ (false = true) by decide)] at H; exact H
                   clear H
                   have H := H1
                   clear H1
                   have H' := mS H
                   clear H
                   go_wp2
                   repeat (go_quiet (fail); try go_wp2)
                   go_roundg kj29
                   case measure => have := HK1.out; have := HJ15.out; have := HK3.out; have := HJ26.out; have := HK5.out; have := HJ29.out; omega
                   case rel => exact ⟨(x7_5), (wrap64 (x8_3 + 1)), (by first | rfl | (simp; done) | (simp [*]; done)), (by first | rfl | (simp; done) | (simp [*]; done)), H', ⟨by have := HK1.out; have := HJ15.out; have := HK3.out; have := HJ26.out; have := HK5.out; have := HJ29.out; omega⟩, ⟨by (with_reducible repeat (first | apply Kd.S_alloc | apply Kd.S_drewN | apply Kd.S_drew)); exact HO_3.out⟩, ⟨by (with_reducible repeat (first | apply Kd.R_alloc | apply Kd.R_drewN | apply Kd.R_drew)); exact HO_5.out⟩, ⟨(mH HB.out)⟩⟩
             ·replace c29 := Bool.eq_false_iff.mpr c29
              subst c29
              have H1 : (if x7_3 = true then (laws_FnMerged.l0 kj26 t388 t389 t392 (wrap64 (x6_1 + 1))) else (some false)) = some r := by rw [if_neg (show ¬ (false = true) by decide)] at H; exact H
              clear H
              have H := H1
              clear H1
              by_cases c43 : x7_3 = true
              ·subst c43
               have H1 : (laws_FnMerged.l0 kj26 t388 t389 t392 (wrap64 (x6_1 + 1))) = some r := by rw [if_pos rfl] at H; exact H
               clear H
               have H := H1
               clear H1
               have H' := mS H
               clear H
               go_wp2
               repeat (go_quiet (fail); try go_wp2)
               go_roundg kj26
               case measure => have := HK1.out; have := HJ15.out; have := HK3.out; have := HJ26.out; omega
               case rel => exact ⟨(wrap64 (x6_1 + 1)), (by first | rfl | (simp; done) | (simp [*]; done)), H', ⟨by have := HK1.out; have := HJ15.out; have := HK3.out; have := HJ26.out; omega⟩, ⟨by (with_reducible repeat (first | apply Kd.S_alloc | apply Kd.S_drewN | apply Kd.S_drew)); exact HO_3.out⟩, ⟨by (with_reducible repeat (first | apply Kd.R_alloc | apply Kd.R_drewN | apply Kd.R_drew)); exact HO_5.out⟩, ⟨(mH HB.out)⟩⟩
              ·replace c43 := Bool.eq_false_iff.mpr c43
               subst c43
               have H1 : (some false) = some r := by rw [if_neg (show ¬ (false = true) by decide)] at H; exact H
               clear H
               have H := H1
               clear H1
               exact absurd ((Option.some.inj H).trans ht_) (by decide)
     ·rw [if_neg c15] at H
      have c15b0 : decide (x6_1 < (t392.length : Int)) = false := decide_eq_false c15
      clear c15
      replace H := Option.bind_eq_some_iff.mp H
      obtain ⟨t410, A440, H⟩ := H
      replace H : (laws_FnMerged.l3 k1 t392 t410 0 0) = some r := H
      have A44 := mS A440
      clear A440
      have H' := mS H
      clear H
      go_wp2_with (first | (go_at_call 65; (with_reducible refine (impl_Range.calls k1 _ _ t392 (⟨#[97, 98]⟩ : ByteArray) (⟨#[99]⟩ : ByteArray) t410 _ ?side1 ?side2 A44.out).mono ?_); (case side1 => repeat (first | exact (Kd.R_reads' HO_5.out).2.2 | (with_reducible refine Kd.C_alloc ?_ _) | (with_reducible refine Kd.C_drewN ?_ _) | (with_reducible refine Kd.C_drew ?_))); (case side2 => exact (Kd.R_reads' HO_5.out).2.1); rintro e w45 ⟨v411, rfl, ho0, hb⟩; replace HO_3 := mS (Kd.S_elder' (by (with_reducible repeat (first | apply Kd.S_alloc | apply Kd.S_drewN | apply Kd.S_drew)); exact HO_3.out) (Kd.R_base ho0) hb); have HO412 := mS (Kd.R_lower (Kd.R_new' ho0 (Kd.R_lt (mR HO_5.out))) (below_size (mH HB.out))); replace HO_5 := mS (Kd.R_elder' (mR HO_5.out) (Kd.R_base ho0) hb); replace HB := mS (below_step (mH HB.out) hb); (try clear hb); (try clear hb2); (try clear hk); (try clear hi); (try clear ho0)))
      repeat (go_quiet (first | (go_at_call 65; (with_reducible refine (impl_Range.calls k1 _ _ t392 (⟨#[97, 98]⟩ : ByteArray) (⟨#[99]⟩ : ByteArray) t410 _ ?side1 ?side2 A44.out).mono ?_); (case side1 => repeat (first | exact (Kd.R_reads' HO_5.out).2.2 | (with_reducible refine Kd.C_alloc ?_ _) | (with_reducible refine Kd.C_drewN ?_ _) | (with_reducible refine Kd.C_drew ?_))); (case side2 => exact (Kd.R_reads' HO_5.out).2.1); rintro e w45 ⟨v411, rfl, ho0, hb⟩; replace HO_3 := mS (Kd.S_elder' (by (with_reducible repeat (first | apply Kd.S_alloc | apply Kd.S_drewN | apply Kd.S_drew)); exact HO_3.out) (Kd.R_base ho0) hb); have HO412 := mS (Kd.R_lower (Kd.R_new' ho0 (Kd.R_lt (mR HO_5.out))) (below_size (mH HB.out))); replace HO_5 := mS (Kd.R_elder' (mR HO_5.out) (Kd.R_base ho0) hb); replace HB := mS (below_step (mH HB.out) hb); (try clear hb); (try clear hb2); (try clear hk); (try clear hi); (try clear ho0))); try go_wp2_with (first | (go_at_call 65; (with_reducible refine (impl_Range.calls k1 _ _ t392 (⟨#[97, 98]⟩ : ByteArray) (⟨#[99]⟩ : ByteArray) t410 _ ?side1 ?side2 A44.out).mono ?_); (case side1 => repeat (first | exact (Kd.R_reads' HO_5.out).2.2 | (with_reducible refine Kd.C_alloc ?_ _) | (with_reducible refine Kd.C_drewN ?_ _) | (with_reducible refine Kd.C_drew ?_))); (case side2 => exact (Kd.R_reads' HO_5.out).2.1); rintro e w45 ⟨v411, rfl, ho0, hb⟩; replace HO_3 := mS (Kd.S_elder' (by (with_reducible repeat (first | apply Kd.S_alloc | apply Kd.S_drewN | apply Kd.S_drew)); exact HO_3.out) (Kd.R_base ho0) hb); have HO412 := mS (Kd.R_lower (Kd.R_new' ho0 (Kd.R_lt (mR HO_5.out))) (below_size (mH HB.out))); replace HO_5 := mS (Kd.R_elder' (mR HO_5.out) (Kd.R_base ho0) hb); replace HB := mS (below_step (mH HB.out) hb); (try clear hb); (try clear hb2); (try clear hk); (try clear hi); (try clear ho0))))
      go_loopg [11, 12] k1 (fun kq v11 v12 w' => ∃ (x11_2 : Int) (x12_2 : Int), v11 = .int .i64 x11_2 ∧ v12 = .int .i64 x12_2 ∧ Aside0 (laws_FnMerged.l3 kq t392 t410 x11_2 x12_2 = some r) ∧ Aside0 (kq ≤ k1) ∧ Aside0 (Kd.R k33 33 w' w.heap.size (fun k_ => some k_ ≠ (v411 : Value).ownBlock) (.slice Ao13 t392.length co13) t392) ∧ Aside0 (Kd.R k33 33 w' w.heap.size (fun k_ => some k_ ≠ ((.slice Ao13 t392.length co13) : Value).ownBlock) v411 t410) ∧ Aside0 (Below w.heap.size w w'))
      case atStart => exact ⟨(0), (0), (by first | rfl | (simp; done) | (simp [*]; done)), (by first | rfl | (simp; done) | (simp [*]; done)), H', ⟨Nat.le_refl _⟩, ⟨by (with_reducible repeat (first | apply Kd.R_alloc | apply Kd.R_drewN | apply Kd.R_drew)); exact Kd.R_mono HO_5.out (fun _ hk => hk.2)⟩, ⟨by (with_reducible repeat (first | apply Kd.R_alloc | apply Kd.R_drewN | apply Kd.R_drew)); exact Kd.R_mono HO412.out (fun _ hk => hk.2)⟩, ⟨(mH HB.out)⟩⟩
      case round =>
       clear H'
       try clear c1
       try clear c2
       try clear p2
       try clear c3
       try clear p3
       try clear q3
       try clear hx3
       try clear c4
       try clear p4
       try clear q4
       try clear hx4
       try clear p6
       try clear c8
       try clear c11
       try clear c15
       try clear c15b0
       try clear c17
       try clear c17b0
       try clear c19
       try clear c19b0
       try clear c20
       try clear c20b0
       try clear c21
       try clear c21b0
       try clear c22
       try clear c22b0
       try clear c23
       try clear c24
       try clear c25
       try clear c25b0
       try clear c26
       try clear c28
       try clear c28b0
       try clear c29
       try clear c31
       try clear c31b0
       try clear c32
       try clear c32b0
       try clear c33
       try clear c33b0
       try clear c34
       try clear c35
       try clear c35b0
       try clear c36
       try clear c36b0
       try clear c37
       try clear c37b0
       try clear c38
       try clear c38b0
       try clear c39
       try clear c39b0
       try clear p39
       try clear q39
       try clear hx39
       try clear c40
       try clear c40b0
       try clear p40
       try clear q40
       try clear hx40
       try clear c41
       try clear c41b0
       try clear c41b1
       try clear c42
       try clear c42b0
       try clear c43
       try clear hx399_0
       try clear hx399_1
       try clear hx399_2
       try clear hx400_0
       try clear hx400_1
       try clear hx400_2
       try clear hx401_0
       try clear hx401_1
       try clear hx401_2
       try clear hx402_0
       try clear hx402_1
       try clear hx402_2
       try clear hx403_0
       try clear hx404_0
       try clear hx405_0
       try clear hx405_1
       try clear hx405_2
       try clear hx406_0
       try clear hx406_1
       try clear hx406_2
       try clear hx407_0
       try clear hx408_0
       try clear hx408_1
       try clear hx408_2
       try clear hx409_0
       try clear hx409_1
       try clear hx409_2
       try clear p2
       try clear p3
       try clear p399
       try clear p4
       try clear p400
       try clear p401
       try clear p402
       try clear p403
       try clear p404
       try clear p405
       try clear p406
       try clear p407
       try clear p408
       try clear p409
       try clear p6
       try clear q3
       try clear q399
       try clear q4
       try clear q400
       try clear q401
       try clear q402
       try clear q403
       try clear q404
       try clear q405
       try clear q406
       try clear q407
       try clear q408
       try clear q409
       obtain ⟨x11_2, x12_2, rfl, rfl, HA, HK2, HO_5, HO_10, HB⟩ := hrel
       cases gk with
       | zero => exact absurd HA.out (by simp [laws_FnMerged.l3])
       | succ k2 =>
        have H := HA.out
        clear HA
        simp only [laws_FnMerged.l3] at H
        by_cases c46 : x12_2 < (t392.length : Int)
        ·rw [if_pos c46] at H
         have c46b0 : decide (x12_2 < (t392.length : Int)) = true := decide_eq_true c46
         clear c46
         have HC47 := mS H
         clear H
         go_upto_region 30 with (fail)
         repeat (go_quiet (fail); go_upto_region 30 with (fail))
         go_cut [133] (fun v133 wc => ∃ (kq : Nat) (x133_46 : Bool), v133 = .bool x133_46 ∧ Aside0 (laws_FnMerged.j7 kq t392 t410 x11_2 x12_2 x133_46 = some r) ∧ Aside0 (kq ≤ k2) ∧ Aside0 (Kd.R k33 33 wc w.heap.size (fun k_ => some k_ ≠ (v411 : Value).ownBlock) (.slice Ao13 t392.length co13) t392) ∧ Aside0 (Kd.R k33 33 wc w.heap.size (fun k_ => some k_ ≠ ((.slice Ao13 t392.length co13) : Value).ownBlock) v411 t410) ∧ Aside0 (Below w.heap.size w wc))
         case first =>
          have H := HC47.out
          clear HC47
          by_cases c48 : 0 ≤ x12_2
          ·rw [if_pos c48] at H
           have c48b0 : decide (0 ≤ x12_2) = true := decide_eq_true c48
           clear c48
           (first | rw [c48b0] | (simp only [i64_w, i32_w]; rw [c48b0]) | skip)
           by_cases c49 : ((Op.bytesLess (((rd_T33 t392 x12_2).f0).toList) ([97, 98] : List UInt8)) = true)
           ·rw [if_pos c49] at H
            have c49b0 : (Op.bytesLess (((rd_T33 t392 x12_2).f0).toList) ([97, 98] : List UInt8)) = true := c49
            clear c49
            have H' := mS H
            clear H
            have p413 : 0 ≤ (x12_2 : Int) := of_decide_eq_true (by first | (with_reducible assumption) | assumption)
            have q413 : x12_2 < (t392.length : Int) := of_decide_eq_true (by first | (with_reducible assumption) | assumption)
            obtain ⟨ad413, e413, hx413_0, hx413_1, hx413_2⟩ := at_T33 (Kd.R_reads' HO_5.out).2.2 x12_2 p413 q413
            cases e413
            replace p413 := eq_true p413
            replace q413 := eq_true q413
            go_wp2
            repeat (go_quiet (fail); try go_wp2)
            go_meet
            case rel => exact ⟨_, (false), (by first | rfl | (simp; done) | (simp [*]; done)), H', ⟨by have := HK1.out; have := HK2.out; first | omega | exact Nat.le_refl _⟩, ⟨by (with_reducible repeat (first | apply Kd.R_alloc | apply Kd.R_drewN | apply Kd.R_drew)); exact HO_5.out⟩, ⟨by (with_reducible repeat (first | apply Kd.R_alloc | apply Kd.R_drewN | apply Kd.R_drew)); exact HO_10.out⟩, ⟨(mH HB.out)⟩⟩
           ·rw [if_neg c49] at H
            have c49b0 : (Op.bytesLess (((rd_T33 t392 x12_2).f0).toList) ([97, 98] : List UInt8)) = false := by simpa using c49
            clear c49
            have H' := mS H
            clear H
            have p413 : 0 ≤ (x12_2 : Int) := of_decide_eq_true (by first | (with_reducible assumption) | assumption)
            have q413 : x12_2 < (t392.length : Int) := of_decide_eq_true (by first | (with_reducible assumption) | assumption)
            obtain ⟨ad413, e413, hx413_0, hx413_1, hx413_2⟩ := at_T33 (Kd.R_reads' HO_5.out).2.2 x12_2 p413 q413
            cases e413
            replace p413 := eq_true p413
            replace q413 := eq_true q413
            have p414 : 0 ≤ (x12_2 : Int) := of_decide_eq_true (by first | (with_reducible assumption) | assumption)
            have q414 : x12_2 < (t392.length : Int) := of_decide_eq_true (by first | (with_reducible assumption) | assumption)
            obtain ⟨ad414, e414, hx414_0, hx414_1, hx414_2⟩ := at_T33 (Kd.R_reads' HO_5.out).2.2 x12_2 p414 q414
            obtain rfl : ad413 = ad414 := (by injection e414)
            replace p414 := eq_true p414
            replace q414 := eq_true q414
            go_wp2
            repeat (go_quiet (fail); try go_wp2)
            go_meet
            case rel => exact ⟨_, ((Op.bytesLess (((rd_T33 t392 x12_2).f0).toList) ([99] : List UInt8))), (by first | rfl | (simp; done) | (simp [*]; done)), H', ⟨by have := HK1.out; have := HK2.out; first | omega | exact Nat.le_refl _⟩, ⟨by (with_reducible repeat (first | apply Kd.R_alloc | apply Kd.R_drewN | apply Kd.R_drew)); exact HO_5.out⟩, ⟨by (with_reducible repeat (first | apply Kd.R_alloc | apply Kd.R_drewN | apply Kd.R_drew)); exact HO_10.out⟩, ⟨(mH HB.out)⟩⟩
          ·rw [if_neg c48] at H
           exact absurd H (by simp)
         case rest =>
          clear HC47
          try clear c1
          try clear c2
          try clear p2
          try clear c3
          try clear p3
          try clear q3
          try clear hx3
          try clear c4
          try clear p4
          try clear q4
          try clear hx4
          try clear p6
          try clear c8
          try clear c11
          try clear c15
          try clear c15b0
          try clear c17
          try clear c17b0
          try clear c19
          try clear c19b0
          try clear c20
          try clear c20b0
          try clear c21
          try clear c21b0
          try clear c22
          try clear c22b0
          try clear c23
          try clear c24
          try clear c25
          try clear c25b0
          try clear c26
          try clear c28
          try clear c28b0
          try clear c29
          try clear c31
          try clear c31b0
          try clear c32
          try clear c32b0
          try clear c33
          try clear c33b0
          try clear c34
          try clear c35
          try clear c35b0
          try clear c36
          try clear c36b0
          try clear c37
          try clear c37b0
          try clear c38
          try clear c38b0
          try clear c39
          try clear c39b0
          try clear p39
          try clear q39
          try clear hx39
          try clear c40
          try clear c40b0
          try clear p40
          try clear q40
          try clear hx40
          try clear c41
          try clear c41b0
          try clear c41b1
          try clear p41
          try clear q41
          try clear hx41
          try clear c42
          try clear c42b0
          try clear c43
          try clear c46
          try clear c46b0
          try clear c48
          try clear c48b0
          try clear c49
          try clear c49b0
          try clear hx399_0
          try clear hx399_1
          try clear hx399_2
          try clear hx400_0
          try clear hx400_1
          try clear hx400_2
          try clear hx401_0
          try clear hx401_1
          try clear hx401_2
          try clear hx402_0
          try clear hx402_1
          try clear hx402_2
          try clear hx403_0
          try clear hx404_0
          try clear hx405_0
          try clear hx405_1
          try clear hx405_2
          try clear hx406_0
          try clear hx406_1
          try clear hx406_2
          try clear hx407_0
          try clear hx408_0
          try clear hx408_1
          try clear hx408_2
          try clear hx409_0
          try clear hx409_1
          try clear hx409_2
          try clear hx413_0
          try clear hx413_1
          try clear hx413_2
          try clear hx414_0
          try clear hx414_1
          try clear hx414_2
          try clear p2
          try clear p3
          try clear p39
          try clear p399
          try clear p4
          try clear p40
          try clear p400
          try clear p401
          try clear p402
          try clear p403
          try clear p404
          try clear p405
          try clear p406
          try clear p407
          try clear p408
          try clear p409
          try clear p413
          try clear p414
          try clear p6
          try clear q3
          try clear q39
          try clear q399
          try clear q4
          try clear q40
          try clear q400
          try clear q401
          try clear q402
          try clear q403
          try clear q404
          try clear q405
          try clear q406
          try clear q407
          try clear q408
          try clear q409
          try clear q413
          try clear q414
          obtain ⟨kq, x133_46, rfl, HA, HJ46, HO_5, HO_10, HB⟩ := hcut
          cases kq with
          | zero => exact absurd HA.out (by simp [laws_FnMerged.j7])
          | succ kj46 =>
           have H := HA.out
           clear HA
           simp only [laws_FnMerged.j7] at H
           by_cases c50 : x133_46 = true
           ·subst c50
            have H1 : (if x11_2 ≥ (t410.length : Int) then (laws_FnMerged.j8 kj46 t392 t410 x11_2 x12_2 true) else (if 0 ≤ x11_2 then (if x11_2 < (t410.length : Int) then (if 0 ≤ x12_2 then (if x12_2 < (t392.length : Int) then (laws_FnMerged.j8 kj46 t392 t410 x11_2 x12_2 (!((((rd_T33 t410 x11_2).f0).toList) == (((rd_T33 t392 x12_2).f0).toList)) || (!((((rd_T33 t410 x11_2).f1).toList) == (((rd_T33 t392 x12_2).f1).toList)) || (!(((rd_T33 t410 x11_2).f2) == ((rd_T33 t392 x12_2).f2)))))) else (none)) else (none)) else (none)) else (none))) = some r := by rw [if_pos rfl] at H; exact H
            clear H
            have H := H1
            clear H1
            have HC51 := mS H
            clear H
            go_upto_region 31 with (fail)
            repeat (go_quiet (fail); go_upto_region 31 with (fail))
            go_cut [148] (fun v148 wc => ∃ (kq : Nat) (x148_50 : Bool), v148 = .bool x148_50 ∧ Aside0 (laws_FnMerged.j8 kq t392 t410 x11_2 x12_2 x148_50 = some r) ∧ Aside0 (kq ≤ kj46) ∧ Aside0 (Kd.R k33 33 wc w.heap.size (fun k_ => some k_ ≠ (v411 : Value).ownBlock) (.slice Ao13 t392.length co13) t392) ∧ Aside0 (Kd.R k33 33 wc w.heap.size (fun k_ => some k_ ≠ ((.slice Ao13 t392.length co13) : Value).ownBlock) v411 t410) ∧ Aside0 (Below w.heap.size w wc))
            case first =>
             have H := HC51.out
             clear HC51
             by_cases c52 : x11_2 ≥ (t410.length : Int)
             ·rw [if_pos c52] at H
              have c52b0 : decide ((t410.length : Int) ≤ x11_2) = true := decide_eq_true c52
              clear c52
              (first | rw [c52b0] | (simp only [i64_w, i32_w]; rw [c52b0]) | skip)
              have H' := mS H
              clear H
              obtain ⟨Ao53, co53, eo53⟩ := Kd.R_slice HO_10.out
              subst eo53
              go_wp2
              repeat (go_quiet (fail); try go_wp2)
              go_meet
              case rel => exact ⟨_, (true), (by first | rfl | (simp; done) | (simp [*]; done)), H', ⟨by have := HK1.out; have := HK2.out; have := HJ46.out; first | omega | exact Nat.le_refl _⟩, ⟨by (with_reducible repeat (first | apply Kd.R_alloc | apply Kd.R_drewN | apply Kd.R_drew)); exact HO_5.out⟩, ⟨by (with_reducible repeat (first | apply Kd.R_alloc | apply Kd.R_drewN | apply Kd.R_drew)); exact HO_10.out⟩, ⟨(mH HB.out)⟩⟩
             ·rw [if_neg c52] at H
              have c52b0 : decide ((t410.length : Int) ≤ x11_2) = false := decide_eq_false c52
              clear c52
              (first | rw [c52b0] | (simp only [i64_w, i32_w]; rw [c52b0]) | skip)
              by_cases c54 : 0 ≤ x11_2
              ·rw [if_pos c54] at H
               have c54b0 : decide (0 ≤ x11_2) = true := decide_eq_true c54
               clear c54
               by_cases c55 : x11_2 < (t410.length : Int)
               ·rw [if_pos c55] at H
                have c55b0 : decide (x11_2 < (t410.length : Int)) = true := decide_eq_true c55
                clear c55
                by_cases c56 : 0 ≤ x12_2
                ·rw [if_pos c56] at H
                 have c56b0 : decide (0 ≤ x12_2) = true := decide_eq_true c56
                 clear c56
                 by_cases c57 : x12_2 < (t392.length : Int)
                 ·rw [if_pos c57] at H
                  have c57b0 : decide (x12_2 < (t392.length : Int)) = true := decide_eq_true c57
                  clear c57
                  have H' := mS H
                  clear H
                  obtain ⟨Ao58, co58, eo58⟩ := Kd.R_slice HO_10.out
                  subst eo58
                  have p415 : 0 ≤ (x11_2 : Int) := of_decide_eq_true (by first | (with_reducible assumption) | assumption)
                  have q415 : x11_2 < (t410.length : Int) := of_decide_eq_true (by first | (with_reducible assumption) | assumption)
                  obtain ⟨ad415, e415, hx415_0, hx415_1, hx415_2⟩ := at_T33 (Kd.R_reads' HO_10.out).2.2 x11_2 p415 q415
                  cases e415
                  replace p415 := eq_true p415
                  replace q415 := eq_true q415
                  have p416 : 0 ≤ (x12_2 : Int) := of_decide_eq_true (by first | (with_reducible assumption) | assumption)
                  have q416 : x12_2 < (t392.length : Int) := of_decide_eq_true (by first | (with_reducible assumption) | assumption)
                  obtain ⟨ad416, e416, hx416_0, hx416_1, hx416_2⟩ := at_T33 (Kd.R_reads' HO_5.out).2.2 x12_2 p416 q416
                  cases e416
                  replace p416 := eq_true p416
                  replace q416 := eq_true q416
                  go_wp2
                  repeat (go_quiet (fail); try go_wp2)
                  go_meet
                  case rel => exact ⟨_, ((!((((rd_T33 t410 x11_2).f0).toList) == (((rd_T33 t392 x12_2).f0).toList)) || (!((((rd_T33 t410 x11_2).f1).toList) == (((rd_T33 t392 x12_2).f1).toList)) || (!(((rd_T33 t410 x11_2).f2) == ((rd_T33 t392 x12_2).f2)))))), (by first | rfl | (simp; done) | (simp [*]; done)), H', ⟨by have := HK1.out; have := HK2.out; have := HJ46.out; first | omega | exact Nat.le_refl _⟩, ⟨by (with_reducible repeat (first | apply Kd.R_alloc | apply Kd.R_drewN | apply Kd.R_drew)); exact HO_5.out⟩, ⟨by (with_reducible repeat (first | apply Kd.R_alloc | apply Kd.R_drewN | apply Kd.R_drew)); exact HO_10.out⟩, ⟨(mH HB.out)⟩⟩
                 ·rw [if_neg c57] at H
                  exact absurd H (by simp)
                ·rw [if_neg c56] at H
                 exact absurd H (by simp)
               ·rw [if_neg c55] at H
                exact absurd H (by simp)
              ·rw [if_neg c54] at H
               exact absurd H (by simp)
            case rest =>
             clear HC51
             try clear c1
             try clear c2
             try clear p2
             try clear c3
             try clear p3
             try clear q3
             try clear hx3
             try clear c4
             try clear p4
             try clear q4
             try clear hx4
             try clear c5
             try clear p6
             try clear c8
             try clear c11
             try clear c15
             try clear c15b0
             try clear c17
             try clear c17b0
             try clear c19
             try clear c19b0
             try clear c20
             try clear c20b0
             try clear c21
             try clear c21b0
             try clear c22
             try clear c22b0
             try clear c23
             try clear c24
             try clear c25
             try clear c25b0
             try clear c26
             try clear c28
             try clear c28b0
             try clear c29
             try clear c31
             try clear c31b0
             try clear c32
             try clear c32b0
             try clear c33
             try clear c33b0
             try clear c34
             try clear c35
             try clear c35b0
             try clear c36
             try clear c36b0
             try clear c37
             try clear c37b0
             try clear c38
             try clear c38b0
             try clear c39
             try clear c39b0
             try clear p39
             try clear q39
             try clear hx39
             try clear c40
             try clear c40b0
             try clear p40
             try clear q40
             try clear hx40
             try clear c41
             try clear c41b0
             try clear c41b1
             try clear p41
             try clear q41
             try clear hx41
             try clear c42
             try clear c42b0
             try clear c43
             try clear c46
             try clear c46b0
             try clear c48
             try clear c48b0
             try clear c49
             try clear c49b0
             try clear c50
             try clear c52
             try clear c52b0
             try clear c54
             try clear c54b0
             try clear c55
             try clear c55b0
             try clear c56
             try clear c56b0
             try clear c57
             try clear c57b0
             try clear hx399_0
             try clear hx399_1
             try clear hx399_2
             try clear hx400_0
             try clear hx400_1
             try clear hx400_2
             try clear hx401_0
             try clear hx401_1
             try clear hx401_2
             try clear hx402_0
             try clear hx402_1
             try clear hx402_2
             try clear hx403_0
             try clear hx404_0
             try clear hx405_0
             try clear hx405_1
             try clear hx405_2
             try clear hx406_0
             try clear hx406_1
             try clear hx406_2
             try clear hx407_0
             try clear hx408_0
             try clear hx408_1
             try clear hx408_2
             try clear hx409_0
             try clear hx409_1
             try clear hx409_2
             try clear hx413_0
             try clear hx413_1
             try clear hx413_2
             try clear hx414_0
             try clear hx414_1
             try clear hx414_2
             try clear hx415_0
             try clear hx415_1
             try clear hx415_2
             try clear hx416_0
             try clear hx416_1
             try clear hx416_2
             try clear p2
             try clear p3
             try clear p39
             try clear p399
             try clear p4
             try clear p40
             try clear p400
             try clear p401
             try clear p402
             try clear p403
             try clear p404
             try clear p405
             try clear p406
             try clear p407
             try clear p408
             try clear p409
             try clear p41
             try clear p413
             try clear p414
             try clear p415
             try clear p416
             try clear p6
             try clear q3
             try clear q39
             try clear q399
             try clear q4
             try clear q40
             try clear q400
             try clear q401
             try clear q402
             try clear q403
             try clear q404
             try clear q405
             try clear q406
             try clear q407
             try clear q408
             try clear q409
             try clear q41
             try clear q413
             try clear q414
             try clear q415
             try clear q416
             obtain ⟨kq, x148_50, rfl, HA, HJ50, HO_5, HO_10, HB⟩ := hcut
             cases kq with
             | zero => exact absurd HA.out (by simp [laws_FnMerged.j8])
             | succ kj50 =>
              have H := HA.out
              clear HA
              simp only [laws_FnMerged.j8] at H
              by_cases c59 : x148_50 = true
              ·subst c59
               have H1 : (some false) = some r := by rw [if_pos rfl] at H; exact H
               clear H
               have H := H1
               clear H1
               exact absurd ((Option.some.inj H).trans ht_) (by decide)
              ·replace c59 := Bool.eq_false_iff.mpr c59
               subst c59
               have H1 : (laws_FnMerged.l3 kj50 t392 t410 (wrap64 (x11_2 + 1)) (wrap64 (x12_2 + 1))) = some r := by rw [if_neg (show ¬ (false = true) by decide)] at H; exact H
               clear H
               have H := H1
               clear H1
               have H' := mS H
               clear H
               go_wp2
               repeat (go_quiet (fail); try go_wp2)
               go_roundg kj50
               case measure => have := HK1.out; have := HK2.out; have := HJ46.out; have := HJ50.out; omega
               case rel => exact ⟨(wrap64 (x11_2 + 1)), (wrap64 (x12_2 + 1)), (by first | rfl | (simp; done) | (simp [*]; done)), (by first | rfl | (simp; done) | (simp [*]; done)), H', ⟨by have := HK1.out; have := HK2.out; have := HJ46.out; have := HJ50.out; omega⟩, ⟨by (with_reducible repeat (first | apply Kd.R_alloc | apply Kd.R_drewN | apply Kd.R_drew)); exact HO_5.out⟩, ⟨by (with_reducible repeat (first | apply Kd.R_alloc | apply Kd.R_drewN | apply Kd.R_drew)); exact HO_10.out⟩, ⟨(mH HB.out)⟩⟩
           ·replace c50 := Bool.eq_false_iff.mpr c50
            subst c50
            have H1 : (laws_FnMerged.l3 kj46 t392 t410 x11_2 (wrap64 (x12_2 + 1))) = some r := by rw [if_neg (show ¬ (false = true) by decide)] at H; exact H
            clear H
            have H := H1
            clear H1
            have H' := mS H
            clear H
            go_wp2
            repeat (go_quiet (fail); try go_wp2)
            go_roundg kj46
            case measure => have := HK1.out; have := HK2.out; have := HJ46.out; omega
            case rel => exact ⟨(x11_2), (wrap64 (x12_2 + 1)), (by first | rfl | (simp; done) | (simp [*]; done)), (by first | rfl | (simp; done) | (simp [*]; done)), H', ⟨by have := HK1.out; have := HK2.out; have := HJ46.out; omega⟩, ⟨by (with_reducible repeat (first | apply Kd.R_alloc | apply Kd.R_drewN | apply Kd.R_drew)); exact HO_5.out⟩, ⟨by (with_reducible repeat (first | apply Kd.R_alloc | apply Kd.R_drewN | apply Kd.R_drew)); exact HO_10.out⟩, ⟨(mH HB.out)⟩⟩
        ·rw [if_neg c46] at H
         have c46b0 : decide (x12_2 < (t392.length : Int)) = false := decide_eq_false c46
         clear c46
         obtain rfl := Option.some.inj H
         obtain ⟨Ao60, co60, eo60⟩ := Kd.R_slice HO_10.out
         subst eo60
         go_wp2
         repeat (go_quiet (fail); try go_wp2)
         go_ret
         exact ⟨by first | rfl | (simp [errW_none, errW_some] <;> rfl) | (simp [*, errW_none, errW_some] <;> rfl), (mH HB.out)⟩
  ·replace c8 := Bool.eq_false_iff.mpr c8
   subst c8
   have H1 : (some false) = some r := by rw [if_neg (show ¬ (false = true) by decide)] at H; exact H
   clear H
   have H := H1
   clear H1
   exact absurd ((Option.some.inj H).trans ht_) (by decide)

end Go.Proofs.Ytbepbgfkajnlbaa.MFnMerged
