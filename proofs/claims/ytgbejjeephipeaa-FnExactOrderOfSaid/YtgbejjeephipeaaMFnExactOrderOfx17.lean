-- Written by mp.py, this session's own printer (wip/mp.py).
import Derived.Test.YtgbejjeephipeaaVMShort
import Derived.Test.YtgbejjeephipeaaMFnExactOrderOfx0
import Derived.Test.YtgbejjeephipeaaMFnExactOrderOfx13
import Derived.Test.YtgbejjeephipeaaMFnExactOrderOfx15
import Derived.Test.YtgbejjeephipeaaMFnExactOrderOfx16
namespace Go.Proofs.Ytgbejjeephipeaa.MFnExactOrderOf
open Go.RowKit Go.Proofs.YtgbejjeephipeaaW.PrintWords Go.Proofs.YtgbejjeephipeaaW.PrintLast Go.Proofs.YtgbejjeephipeaaW.PrintMore Go.Proofs.Ytgbejjeephipeaa.MWords
attribute [local go_sem] max2_int min2_int max_two min_two max_three min_three max_four min_four   -- for this text's walks alone
set_option linter.unusedVariables false
set_option linter.unusedSimpArgs false

/-! ### spec_OrderOf: function 37 -/
mutual
def spec_OrderOf.l0 : Nat → List (S31) → List (List Bool) → List Bool → List Bool → Bool → List (S33) → Option ((List (S31)))
 | 0, _, _, _, _, _, _ => none
 | k + 1, x3, x4, x5, x6, x7, x357000 => if x7 = true then (spec_OrderOf.l1 k x3 x4 x5 x6 false 0 x357000) else (some x3)
def spec_OrderOf.l1 : Nat → List (S31) → List (List Bool) → List Bool → List Bool → Bool → Int → List (S33) → Option ((List (S31)))
 | 0, _, _, _, _, _, _, _ => none
 | k + 1, x3, x4, x5, x6, x7, x8, x357000 => if x8 < (x5.length : Int) then (spec_OrderOf.j2 k x3 x4 x5 x6 x7 x8 (!x7) x357000) else (spec_OrderOf.j2 k x3 x4 x5 x6 x7 x8 false x357000)
def spec_OrderOf.j2 : Nat → List (S31) → List (List Bool) → List Bool → List Bool → Bool → Int → Bool → List (S33) → Option ((List (S31)))
 | 0, _, _, _, _, _, _, _, _ => none
 | k + 1, x3, x4, x5, x6, x7, x8, x31, x357000 => if x31 = true then (if 0 ≤ x8 then (if x8 < (x5.length : Int) then (if rdOf false x5 x8 = true then (if x8 < (x6.length : Int) then (if rdOf false x6 x8 = true then (spec_OrderOf.j3 k x3 x4 x5 x6 x7 x8 true x357000) else ((spec_l8Ready.f k x357000 x4 x6 x8).bind fun t372 => (spec_OrderOf.j3 k x3 x4 x5 x6 x7 x8 (!t372) x357000))) else (none)) else (spec_OrderOf.j3 k x3 x4 x5 x6 x7 x8 true x357000)) else (none)) else (none)) else (spec_OrderOf.l0 k x3 x4 x5 x6 x7 x357000)
def spec_OrderOf.j3 : Nat → List (S31) → List (List Bool) → List Bool → List Bool → Bool → Int → Bool → List (S33) → Option ((List (S31)))
 | 0, _, _, _, _, _, _, _, _ => none
 | k + 1, x3, x4, x5, x6, x7, x8, x52, x357000 => if x52 = true then (spec_OrderOf.l1 k x3 x4 x5 x6 x7 (wrap64 (x8 + 1)) x357000) else (spec_OrderOf.l2 k x3 x4 x5 x6 true x8 0 x357000)
def spec_OrderOf.l2 : Nat → List (S31) → List (List Bool) → List Bool → List Bool → Bool → Int → Int → List (S33) → Option ((List (S31)))
 | 0, _, _, _, _, _, _, _, _ => none
 | k + 1, x3, x4, x5, x6, x7, x8, x9, x357000 => if x9 < (x5.length : Int) then (if x9 = x8 then (spec_OrderOf.j5 k x3 x4 x5 x6 x7 x8 x9 true x357000) else (if 0 ≤ x8 then (if x8 < (x4.length : Int) then (if 0 ≤ x9 then (if x9 < ((rd_L10 x4 x8).length : Int) then (if rdOf false (rd_L10 x4 x8) x9 = true then (if x9 < (x4.length : Int) then (if x8 < ((rd_L10 x4 x9).length : Int) then (spec_OrderOf.j5 k x3 x4 x5 x6 x7 x8 x9 (rdOf false (rd_L10 x4 x9) x8) x357000) else (none)) else (none)) else (spec_OrderOf.j5 k x3 x4 x5 x6 x7 x8 x9 false x357000)) else (none)) else (none)) else (none)) else (none))) else (spec_OrderOf.l1 k x3 x4 x5 x6 x7 (wrap64 (x8 + 1)) x357000)
def spec_OrderOf.j5 : Nat → List (S31) → List (List Bool) → List Bool → List Bool → Bool → Int → Int → Bool → List (S33) → Option ((List (S31)))
 | 0, _, _, _, _, _, _, _, _, _ => none
 | k + 1, x3, x4, x5, x6, x7, x8, x9, x79, x357000 => if x79 = true then (if 0 ≤ x9 then (if x9 < (x6.length : Int) then (if x9 < (x357000.length : Int) then (if x3.length < 8796093022208 then (spec_OrderOf.l2 k (x3 ++ [(⟨(rd_T33 x357000 x9).f0.f0, (rd_T33 x357000 x9).f0.f1⟩ : S31)]) x4 x5 (x6.set (x9 : Int).toNat true) x7 x8 (wrap64 (x9 + 1)) x357000) else (none)) else (none)) else (none)) else (none)) else (spec_OrderOf.l2 k x3 x4 x5 x6 x7 x8 (wrap64 (x9 + 1)) x357000)
end
def spec_OrderOf.f (k : Nat) (l0_0 : List (S33)) : Option ((List (S31))) := (some (([] : List (S31)) : List (S31))).bind fun y357 => ((spec_GraphOk.f k l0_0).bind fun t360 => (if t360 = true then ((spec_l8All.f k l0_0).bind fun bt361 => (if 0 ≤ (bt361.2.length : Int) then (if ((bt361.2.length : Int) : Int).toNat ≤ 281474976710656 then (spec_OrderOf.l0 k y357 bt361.1 bt361.2 (List.replicate ((bt361.2.length : Int) : Int).toNat false) true l0_0) else (none)) else (none))) else (some y357)))
theorem spec_OrderOf.mono_l : ∀ k, (∀ y0 y1 y2 y3 y4 y5, LeO (spec_OrderOf.l0 k y0 y1 y2 y3 y4 y5) (spec_OrderOf.l0 (k + 1) y0 y1 y2 y3 y4 y5)) ∧ (∀ y0 y1 y2 y3 y4 y5 y6, LeO (spec_OrderOf.l1 k y0 y1 y2 y3 y4 y5 y6) (spec_OrderOf.l1 (k + 1) y0 y1 y2 y3 y4 y5 y6)) ∧ (∀ y0 y1 y2 y3 y4 y5 y6 y7, LeO (spec_OrderOf.j2 k y0 y1 y2 y3 y4 y5 y6 y7) (spec_OrderOf.j2 (k + 1) y0 y1 y2 y3 y4 y5 y6 y7)) ∧ (∀ y0 y1 y2 y3 y4 y5 y6 y7, LeO (spec_OrderOf.j3 k y0 y1 y2 y3 y4 y5 y6 y7) (spec_OrderOf.j3 (k + 1) y0 y1 y2 y3 y4 y5 y6 y7)) ∧ (∀ y0 y1 y2 y3 y4 y5 y6 y7, LeO (spec_OrderOf.l2 k y0 y1 y2 y3 y4 y5 y6 y7) (spec_OrderOf.l2 (k + 1) y0 y1 y2 y3 y4 y5 y6 y7)) ∧ (∀ y0 y1 y2 y3 y4 y5 y6 y7 y8, LeO (spec_OrderOf.j5 k y0 y1 y2 y3 y4 y5 y6 y7 y8) (spec_OrderOf.j5 (k + 1) y0 y1 y2 y3 y4 y5 y6 y7 y8))
 | 0 => ⟨fun _ _ _ _ _ _ r h => by simp [spec_OrderOf.l0] at h, fun _ _ _ _ _ _ _ r h => by simp [spec_OrderOf.l1] at h, fun _ _ _ _ _ _ _ _ r h => by simp [spec_OrderOf.j2] at h, fun _ _ _ _ _ _ _ _ r h => by simp [spec_OrderOf.j3] at h, fun _ _ _ _ _ _ _ _ r h => by simp [spec_OrderOf.l2] at h, fun _ _ _ _ _ _ _ _ _ r h => by simp [spec_OrderOf.j5] at h⟩
 | k + 1 => by
  obtain ⟨ih0, ih1, ih2, ih3, ih4, ih5⟩ := spec_OrderOf.mono_l k
  refine ⟨?_, ?_, ?_, ?_, ?_, ?_⟩
  ·intro y0 y1 y2 y3 y4 y5
   unfold spec_OrderOf.l0
   repeat' first
   | (with_reducible exact ih0 _ _ _ _ _ _)
   | (with_reducible exact ih1 _ _ _ _ _ _ _)
   | (with_reducible exact ih2 _ _ _ _ _ _ _ _)
   | (with_reducible exact ih3 _ _ _ _ _ _ _ _)
   | (with_reducible exact ih4 _ _ _ _ _ _ _ _)
   | (with_reducible exact ih5 _ _ _ _ _ _ _ _ _)
   | (with_reducible exact spec_GraphOk.mono _ _)
   | (with_reducible exact spec_l8All.mono _ _)
   | (with_reducible exact spec_l8Ready.mono _ _ _ _ _)
   | (with_reducible exact LeO.refl _)
   | (with_reducible exact LeO.none _)
   | (with_reducible refine LeO.ite ?_ ?_)
   | (with_reducible refine LeO.bind ?_ (fun _ => ?_))
   | exact ih0 _ _ _ _ _ _
   | exact ih1 _ _ _ _ _ _ _
   | exact ih2 _ _ _ _ _ _ _ _
   | exact ih3 _ _ _ _ _ _ _ _
   | exact ih4 _ _ _ _ _ _ _ _
   | exact ih5 _ _ _ _ _ _ _ _ _
   | exact spec_GraphOk.mono _ _
   | exact spec_l8All.mono _ _
   | exact spec_l8Ready.mono _ _ _ _ _
   | exact LeO.none _
   | refine LeO.ite ?_ ?_
   | refine LeO.bind ?_ (fun _ => ?_)
  ·intro y0 y1 y2 y3 y4 y5 y6
   unfold spec_OrderOf.l1
   repeat' first
   | (with_reducible exact ih0 _ _ _ _ _ _)
   | (with_reducible exact ih1 _ _ _ _ _ _ _)
   | (with_reducible exact ih2 _ _ _ _ _ _ _ _)
   | (with_reducible exact ih3 _ _ _ _ _ _ _ _)
   | (with_reducible exact ih4 _ _ _ _ _ _ _ _)
   | (with_reducible exact ih5 _ _ _ _ _ _ _ _ _)
   | (with_reducible exact spec_GraphOk.mono _ _)
   | (with_reducible exact spec_l8All.mono _ _)
   | (with_reducible exact spec_l8Ready.mono _ _ _ _ _)
   | (with_reducible exact LeO.refl _)
   | (with_reducible exact LeO.none _)
   | (with_reducible refine LeO.ite ?_ ?_)
   | (with_reducible refine LeO.bind ?_ (fun _ => ?_))
   | exact ih0 _ _ _ _ _ _
   | exact ih1 _ _ _ _ _ _ _
   | exact ih2 _ _ _ _ _ _ _ _
   | exact ih3 _ _ _ _ _ _ _ _
   | exact ih4 _ _ _ _ _ _ _ _
   | exact ih5 _ _ _ _ _ _ _ _ _
   | exact spec_GraphOk.mono _ _
   | exact spec_l8All.mono _ _
   | exact spec_l8Ready.mono _ _ _ _ _
   | exact LeO.none _
   | refine LeO.ite ?_ ?_
   | refine LeO.bind ?_ (fun _ => ?_)
  ·intro y0 y1 y2 y3 y4 y5 y6 y7
   unfold spec_OrderOf.j2
   repeat' first
   | (with_reducible exact ih0 _ _ _ _ _ _)
   | (with_reducible exact ih1 _ _ _ _ _ _ _)
   | (with_reducible exact ih2 _ _ _ _ _ _ _ _)
   | (with_reducible exact ih3 _ _ _ _ _ _ _ _)
   | (with_reducible exact ih4 _ _ _ _ _ _ _ _)
   | (with_reducible exact ih5 _ _ _ _ _ _ _ _ _)
   | (with_reducible exact spec_GraphOk.mono _ _)
   | (with_reducible exact spec_l8All.mono _ _)
   | (with_reducible exact spec_l8Ready.mono _ _ _ _ _)
   | (with_reducible exact LeO.refl _)
   | (with_reducible exact LeO.none _)
   | (with_reducible refine LeO.ite ?_ ?_)
   | (with_reducible refine LeO.bind ?_ (fun _ => ?_))
   | exact ih0 _ _ _ _ _ _
   | exact ih1 _ _ _ _ _ _ _
   | exact ih2 _ _ _ _ _ _ _ _
   | exact ih3 _ _ _ _ _ _ _ _
   | exact ih4 _ _ _ _ _ _ _ _
   | exact ih5 _ _ _ _ _ _ _ _ _
   | exact spec_GraphOk.mono _ _
   | exact spec_l8All.mono _ _
   | exact spec_l8Ready.mono _ _ _ _ _
   | exact LeO.none _
   | refine LeO.ite ?_ ?_
   | refine LeO.bind ?_ (fun _ => ?_)
  ·intro y0 y1 y2 y3 y4 y5 y6 y7
   unfold spec_OrderOf.j3
   repeat' first
   | (with_reducible exact ih0 _ _ _ _ _ _)
   | (with_reducible exact ih1 _ _ _ _ _ _ _)
   | (with_reducible exact ih2 _ _ _ _ _ _ _ _)
   | (with_reducible exact ih3 _ _ _ _ _ _ _ _)
   | (with_reducible exact ih4 _ _ _ _ _ _ _ _)
   | (with_reducible exact ih5 _ _ _ _ _ _ _ _ _)
   | (with_reducible exact spec_GraphOk.mono _ _)
   | (with_reducible exact spec_l8All.mono _ _)
   | (with_reducible exact spec_l8Ready.mono _ _ _ _ _)
   | (with_reducible exact LeO.refl _)
   | (with_reducible exact LeO.none _)
   | (with_reducible refine LeO.ite ?_ ?_)
   | (with_reducible refine LeO.bind ?_ (fun _ => ?_))
   | exact ih0 _ _ _ _ _ _
   | exact ih1 _ _ _ _ _ _ _
   | exact ih2 _ _ _ _ _ _ _ _
   | exact ih3 _ _ _ _ _ _ _ _
   | exact ih4 _ _ _ _ _ _ _ _
   | exact ih5 _ _ _ _ _ _ _ _ _
   | exact spec_GraphOk.mono _ _
   | exact spec_l8All.mono _ _
   | exact spec_l8Ready.mono _ _ _ _ _
   | exact LeO.none _
   | refine LeO.ite ?_ ?_
   | refine LeO.bind ?_ (fun _ => ?_)
  ·intro y0 y1 y2 y3 y4 y5 y6 y7
   unfold spec_OrderOf.l2
   repeat' first
   | (with_reducible exact ih0 _ _ _ _ _ _)
   | (with_reducible exact ih1 _ _ _ _ _ _ _)
   | (with_reducible exact ih2 _ _ _ _ _ _ _ _)
   | (with_reducible exact ih3 _ _ _ _ _ _ _ _)
   | (with_reducible exact ih4 _ _ _ _ _ _ _ _)
   | (with_reducible exact ih5 _ _ _ _ _ _ _ _ _)
   | (with_reducible exact spec_GraphOk.mono _ _)
   | (with_reducible exact spec_l8All.mono _ _)
   | (with_reducible exact spec_l8Ready.mono _ _ _ _ _)
   | (with_reducible exact LeO.refl _)
   | (with_reducible exact LeO.none _)
   | (with_reducible refine LeO.ite ?_ ?_)
   | (with_reducible refine LeO.bind ?_ (fun _ => ?_))
   | exact ih0 _ _ _ _ _ _
   | exact ih1 _ _ _ _ _ _ _
   | exact ih2 _ _ _ _ _ _ _ _
   | exact ih3 _ _ _ _ _ _ _ _
   | exact ih4 _ _ _ _ _ _ _ _
   | exact ih5 _ _ _ _ _ _ _ _ _
   | exact spec_GraphOk.mono _ _
   | exact spec_l8All.mono _ _
   | exact spec_l8Ready.mono _ _ _ _ _
   | exact LeO.none _
   | refine LeO.ite ?_ ?_
   | refine LeO.bind ?_ (fun _ => ?_)
  ·intro y0 y1 y2 y3 y4 y5 y6 y7 y8
   unfold spec_OrderOf.j5
   repeat' first
   | (with_reducible exact ih0 _ _ _ _ _ _)
   | (with_reducible exact ih1 _ _ _ _ _ _ _)
   | (with_reducible exact ih2 _ _ _ _ _ _ _ _)
   | (with_reducible exact ih3 _ _ _ _ _ _ _ _)
   | (with_reducible exact ih4 _ _ _ _ _ _ _ _)
   | (with_reducible exact ih5 _ _ _ _ _ _ _ _ _)
   | (with_reducible exact spec_GraphOk.mono _ _)
   | (with_reducible exact spec_l8All.mono _ _)
   | (with_reducible exact spec_l8Ready.mono _ _ _ _ _)
   | (with_reducible exact LeO.refl _)
   | (with_reducible exact LeO.none _)
   | (with_reducible refine LeO.ite ?_ ?_)
   | (with_reducible refine LeO.bind ?_ (fun _ => ?_))
   | exact ih0 _ _ _ _ _ _
   | exact ih1 _ _ _ _ _ _ _
   | exact ih2 _ _ _ _ _ _ _ _
   | exact ih3 _ _ _ _ _ _ _ _
   | exact ih4 _ _ _ _ _ _ _ _
   | exact ih5 _ _ _ _ _ _ _ _ _
   | exact spec_GraphOk.mono _ _
   | exact spec_l8All.mono _ _
   | exact spec_l8Ready.mono _ _ _ _ _
   | exact LeO.none _
   | refine LeO.ite ?_ ?_
   | refine LeO.bind ?_ (fun _ => ?_)
theorem spec_OrderOf.mono : ∀ a0 k, LeO (spec_OrderOf.f k a0) (spec_OrderOf.f (k + 1) a0) := by
 intro a0 k
 obtain ⟨ih0, ih1, ih2, ih3, ih4, ih5⟩ := spec_OrderOf.mono_l k
 unfold spec_OrderOf.f
 repeat' first
   | (with_reducible exact ih0 _ _ _ _ _ _)
   | (with_reducible exact ih1 _ _ _ _ _ _ _)
   | (with_reducible exact ih2 _ _ _ _ _ _ _ _)
   | (with_reducible exact ih3 _ _ _ _ _ _ _ _)
   | (with_reducible exact ih4 _ _ _ _ _ _ _ _)
   | (with_reducible exact ih5 _ _ _ _ _ _ _ _ _)
   | (with_reducible exact spec_GraphOk.mono _ _)
   | (with_reducible exact spec_l8All.mono _ _)
   | (with_reducible exact spec_l8Ready.mono _ _ _ _ _)
   | (with_reducible exact LeO.refl _)
   | (with_reducible exact LeO.none _)
   | (with_reducible refine LeO.ite ?_ ?_)
   | (with_reducible refine LeO.bind ?_ (fun _ => ?_))
   | exact ih0 _ _ _ _ _ _
   | exact ih1 _ _ _ _ _ _ _
   | exact ih2 _ _ _ _ _ _ _ _
   | exact ih3 _ _ _ _ _ _ _ _
   | exact ih4 _ _ _ _ _ _ _ _
   | exact ih5 _ _ _ _ _ _ _ _ _
   | exact spec_GraphOk.mono _ _
   | exact spec_l8All.mono _ _
   | exact spec_l8Ready.mono _ _ _ _ _
   | exact LeO.none _
   | refine LeO.ite ?_ ?_
   | refine LeO.bind ?_ (fun _ => ?_)
set_option maxHeartbeats 8000000 in
set_option maxRecDepth 100000 in
theorem spec_OrderOf.calls (k : Nat) (A0_0 : Option Addr) (c0_0 : Nat) (l0_0 : List (S33)) (r : List (S31)) (w : World) (hr0_0 : Kd.C k33 w A0_0 l0_0.length l0_0) (hc0_0 : l0_0.length ≤ c0_0) (h : spec_OrderOf.f k l0_0 = some r) :
  Calls Try.prog 37 #[.agg #[.slice A0_0 l0_0.length c0_0]] w fun e w' => ∃ v0_ : Value, e = .returned (v0_) ∧ Kd.R k31 31 w' w.heap.size (fun _ => True) v0_ r ∧ Below w.heap.size w w' := by
 have hu26 := Try.underlying26
 have hu31 := Try.underlying31
 have HR0_0 := mS hr0_0
 have HC0_0 := mS hc0_0
 clear hr0_0 hc0_0
 have HB := mS (Below.refl w.heap.size w)
 have H : ((some (([] : List (S31)) : List (S31))).bind fun y357 => ((spec_GraphOk.f k l0_0).bind fun t360 => (if t360 = true then ((spec_l8All.f k l0_0).bind fun bt361 => (if 0 ≤ (bt361.2.length : Int) then (if ((bt361.2.length : Int) : Int).toNat ≤ 281474976710656 then (spec_OrderOf.l0 k y357 bt361.1 bt361.2 (List.replicate ((bt361.2.length : Int) : Int).toNat false) true l0_0) else (none)) else (none))) else (some y357)))) = some r := h
 clear h
 obtain ⟨y357, hy357⟩ : ∃ y_ : List (S31), y_ = (([] : List (S31))) := ⟨_, rfl⟩
 replace H : ((spec_GraphOk.f k l0_0).bind fun t360 => (if t360 = true then ((spec_l8All.f k l0_0).bind fun bt361 => (if 0 ≤ (bt361.2.length : Int) then (if ((bt361.2.length : Int) : Int).toNat ≤ 281474976710656 then (spec_OrderOf.l0 k y357 bt361.1 bt361.2 (List.replicate ((bt361.2.length : Int) : Int).toNat false) true l0_0) else (none)) else (none))) else (some y357))) = some r := by first | (rw [hy357]; with_reducible exact H) | (have H2_ := (Option.bind_some _ _).symm.trans H; rw [hy357]; with_reducible exact H2_) | (have H2_ := (Option.bind_some _ _).symm.trans H; with_reducible exact H2_) | with_reducible exact H | (rw [hy357]; exact H) | exact H
 have Ny357 := mS hy357
 clear hy357
 replace H := Option.bind_eq_some_iff.mp H
 obtain ⟨t360, A20, H⟩ := H
 replace H : (if t360 = true then ((spec_l8All.f k l0_0).bind fun bt361 => (if 0 ≤ (bt361.2.length : Int) then (if ((bt361.2.length : Int) : Int).toNat ≤ 281474976710656 then (spec_OrderOf.l0 k y357 bt361.1 bt361.2 (List.replicate ((bt361.2.length : Int) : Int).toNat false) true l0_0) else (none)) else (none))) else (some y357)) = some r := H
 have A2 := mS A20
 clear A20
 by_cases c3 : t360 = true
 ·subst c3
  have H1 := H
  rw [if_pos rfl] at H1
  clear H
  have H := H1
  clear H1
  replace H := Option.bind_eq_some_iff.mp H
  obtain ⟨⟨t361, t364⟩, A40, H⟩ := H
  replace H : (if 0 ≤ (t364.length : Int) then (if ((t364.length : Int) : Int).toNat ≤ 281474976710656 then (spec_OrderOf.l0 k y357 t361 t364 (List.replicate ((t364.length : Int) : Int).toNat false) true l0_0) else (none)) else (none)) = some r := H
  have A4 := mS A40
  clear A40
  by_cases c5 : 0 ≤ (t364.length : Int)
  ·rw [if_pos c5] at H
   have c5b0 := eq_true c5
   have c5b1 := decide_eq_true c5
   clear c5
   by_cases c6 : ((t364.length : Int) : Int).toNat ≤ 281474976710656
   ·rw [if_pos c6] at H
    have c6b0 := eq_true c6
    have c6b1 := decide_eq_true c6
    clear c6
    obtain ⟨y367, hy367⟩ : ∃ y_ : List Bool, y_ = (List.replicate ((t364.length : Int) : Int).toNat false) := ⟨_, rfl⟩
    replace H : (spec_OrderOf.l0 k y357 t361 t364 y367 true l0_0) = some r := by first | (rw [hy367]; with_reducible exact H) | (have H2_ := (Option.bind_some _ _).symm.trans H; rw [hy367]; with_reducible exact H2_) | (have H2_ := (Option.bind_some _ _).symm.trans H; with_reducible exact H2_) | with_reducible exact H | (rw [hy367]; exact H) | exact H
    have Ny367 := mS hy367
    clear hy367
    have H' := mS H
    clear H
    go_enter Try.func37, Try.ntmps37
    go_wp2_with (first | ((with_reducible refine gate_dst (N := 1) rfl ?_); refine mBx 1 #[.slice A0_0 l0_0.length c0_0] 26 ?_; intro gb356 hg w7 hbox hb; have BK356 := mS (hbox); have GW356 := mG hg (mH HB.out); have GE356 := mG hg (mH HB.out); replace HB := mS (below_step (mH HB.out) hb); clear hb hbox hg) | ((with_reducible refine gate_dst (N := 10) rfl ?_); refine Kd.R_lit k31 _ 31 ?hg (N := 10) ?hd (xs := ([] : List (S31))) (inner := []) (ok := fun _ => True) (okp := fun _ => True) ?hr ?hp (fun _ hk => hk) trivial (Below.refl _ _) (Nat.le_refl _) (by simp) ?_; (case hd => rfl); (case hg => rfl); (case hr => first | (go_simp; done) | (go_simp; rfl)); (case hp => exact (Reps.none _ _)); intro v358 w8 ho9 hb hg_ hnew_; clear hg_ hnew_; (first | rw [← Ny357.out] at ho9 | (simp only [Int.reduceToNat] at ho9; rw [← Ny357.out] at ho9)); have HO359 := mS (Kd.R_lower ho9 (below_size (mH1 HB.out GE356.out))); replace BK356 := mB BK356 hb; replace HB := mS (below_step (mH1 HB.out GE356.out) hb); clear hb ho9; have hcz10_0 := mZ BK356.out 0; have hfz10_0 := blk_frozen BK356.out 0) | ((with_reducible refine gate_callee (f := 73) rfl ?_); refine mGo 12 Try.func73 #[.agg #[.slice A0_0 l0_0.length c0_0]] ?_; (with_reducible refine (spec_GraphOk.calls k _ _ l0_0 true _ ?side1 ?side2 A2.out).mono ?_); (case side1 => exact mC (Kd.C_below HR0_0.out HB.out)); (case side2 => exact HC0_0.out); rintro e w11 ⟨rfl, hb⟩; refine ⟨_, rfl, ?_⟩; replace HO359 := mS (Kd.R_below (mR HO359.out) hb); replace BK356 := mB BK356 hb; replace HB := mS (below_step (mH1 HB.out GE356.out) hb); (try clear hb); have hcz12_0 := mZ BK356.out 0; have hfz12_0 := blk_frozen BK356.out 0) | ((with_reducible refine gate_callee (f := 81) rfl ?_); refine mGo 17 Try.func81 #[.agg #[.slice A0_0 l0_0.length c0_0]] ?_; (with_reducible refine (spec_l8All.calls k _ _ l0_0 t361 t364 _ ?side1 ?side2 A4.out).mono ?_); (case side1 => exact mC (Kd.C_below HR0_0.out HB.out)); (case side2 => exact HC0_0.out); rintro e w13 ⟨v362, v365, rfl, ho0, ho1, hb⟩; refine ⟨_, rfl, ?_⟩; replace HO359 := mS (Kd.R_below (mR HO359.out) hb); have HO363 := mS (Kd.S_lower ho0 (below_size (mH1 HB.out GE356.out))); have HO366 := mS (Kd.R_lower ho1 (below_size (mH1 HB.out GE356.out))); replace BK356 := mB BK356 hb; replace HB := mS (below_step (mH1 HB.out GE356.out) hb); (try clear hb); (try clear ho0); (try clear ho1); obtain ⟨Ao14, co14, eo14⟩ := Kd.R_slice HO366.out; subst eo14) | ((with_reducible refine gate_dst (N := 22) rfl ?_); refine Kd.R_make Kd.bool _ 4 rfl (N := 22) rfl 105 _ _ rfl (t364.length : Int) rfl rfl Try.underlying105 (.bool false) 1 info4 rfl (by decide) (by omega) false (ok := fun _ => True) (okp := fun _ => True) rfl (fun _ hk => hk) trivial (mD) (Nat.le_trans (Nat.mul_le_mul_right _ (mD : (t364.length : Int).toNat ≤ 281474976710656)) (by omega)) (Below.refl _ _) (Nat.le_refl _) ?_; intro v368 w15 ho16 hb hg_ hnew_; clear hg_ hnew_; (first | rw [← Ny367.out] at ho16 | (simp only [Int.reduceToNat] at ho16; rw [← Ny367.out] at ho16)); replace HO359 := mS (Kd.R_below (mR HO359.out) hb); replace HO363 := mS (Kd.S_elder' (mSd HO363.out) (Kd.R_base ho16) hb); have HO369 := mS (Kd.R_lower (Kd.R_new' ho16 (Kd.R_lt (mR HO366.out))) (below_size (mH1 HB.out GE356.out))); replace HO366 := mS (Kd.R_elder' (mR HO366.out) (Kd.R_base ho16) hb); replace BK356 := mB BK356 hb; replace HB := mS (below_step (mH1 HB.out GE356.out) hb); clear hb ho16))
    go_loopg [3, 7] k (fun kq v3 v7 w' => ∃ (x3_1 : List (S31)) (x6_1 : List Bool) (x7_1 : Bool), v7 = .bool x7_1 ∧ Aside0 (spec_OrderOf.l0 kq x3_1 t361 t364 x6_1 x7_1 l0_0 = some r) ∧ Aside0 (kq ≤ k) ∧ Aside0 (Kd.R k31 31 w' w.heap.size (fun _ => True) v3 x3_1) ∧ Aside0 (Kd.S (Kd.slice 4 Kd.bool) 105 w' w.heap.size (fun k_ => some k_ ≠ ((.slice Ao14 t364.length co14) : Value).ownBlock ∧ some k_ ≠ (v368 : Value).ownBlock) v362 t361) ∧ Aside0 (Kd.R Kd.bool 4 w' w.heap.size (fun k_ => some k_ ≠ (v368 : Value).ownBlock) (.slice Ao14 t364.length co14) t364) ∧ Aside0 (Kd.R Kd.bool 4 w' w.heap.size (fun k_ => some k_ ≠ ((.slice Ao14 t364.length co14) : Value).ownBlock) v368 x6_1) ∧ Aside0 (w'.heap[gb356]? = some (.cells #[(.slice A0_0 l0_0.length c0_0)] 26 (0, 0))) ∧ Aside0 (Below w.heap.size w w'))
    case atStart => exact ⟨(y357), (y367), (true), mE, H', ⟨Nat.le_refl _⟩, ⟨mR HO359.out⟩, ⟨mSd HO363.out⟩, ⟨by refine mR ?_; exact Kd.R_mono HO366.out (fun _ hk => hk.2)⟩, ⟨by refine mR ?_; exact Kd.R_mono HO369.out (fun _ hk => hk.2)⟩, ⟨mK BK356.out⟩, ⟨(mH1 HB.out GE356.out)⟩⟩
    case round =>
     clear H'
     try clear p2
     try clear c3
     try clear c5
     try clear c5b0
     try clear c5b1
     try clear c6
     try clear c6b0
     try clear c6b1
     try clear c7
     try clear c8
     try clear hcz10_0
     try clear hcz12_0
     try clear hfz10_0
     try clear hfz12_0
     obtain ⟨x3_1, x6_1, x7_1, rfl, HA, HK1, HO_3, HO_4, HO_5, HO_6, BK356, HB⟩ := hrel
     cases gk with
     | zero => exact absurd HA.out (by simp [spec_OrderOf.l0])
     | succ k1 =>
      have H := HA.out
      clear HA
      simp only [spec_OrderOf.l0] at H
      by_cases c17 : x7_1 = true
      ·subst c17
       have H1 := H
       rw [if_pos rfl] at H1
       clear H
       have H := H1
       clear H1
       have H' := mS H
       clear H
       go_wp2
       go_loopg [3, 7, 8] k1 (fun kq v3 v7 v8 w' => ∃ (x3_2 : List (S31)) (x6_2 : List Bool) (x7_2 : Bool) (x8_2 : Int), v7 = .bool x7_2 ∧ v8 = .int .i64 x8_2 ∧ Aside0 (spec_OrderOf.l1 kq x3_2 t361 t364 x6_2 x7_2 x8_2 l0_0 = some r) ∧ Aside0 (kq ≤ k1) ∧ Aside0 (Kd.R k31 31 w' w.heap.size (fun _ => True) v3 x3_2) ∧ Aside0 (Kd.S (Kd.slice 4 Kd.bool) 105 w' w.heap.size (fun k_ => some k_ ≠ ((.slice Ao14 t364.length co14) : Value).ownBlock ∧ some k_ ≠ (v368 : Value).ownBlock) v362 t361) ∧ Aside0 (Kd.R Kd.bool 4 w' w.heap.size (fun k_ => some k_ ≠ (v368 : Value).ownBlock) (.slice Ao14 t364.length co14) t364) ∧ Aside0 (Kd.R Kd.bool 4 w' w.heap.size (fun k_ => some k_ ≠ ((.slice Ao14 t364.length co14) : Value).ownBlock) v368 x6_2) ∧ Aside0 (w'.heap[gb356]? = some (.cells #[(.slice A0_0 l0_0.length c0_0)] 26 (0, 0))) ∧ Aside0 (Below w.heap.size w w'))
       case atStart => exact ⟨(x3_1), (x6_1), (false), (0), mE, mE, H', ⟨Nat.le_refl _⟩, ⟨mR HO_3.out⟩, ⟨mSd HO_4.out⟩, ⟨mR HO_5.out⟩, ⟨mR HO_6.out⟩, ⟨mK BK356.out⟩, ⟨(mH1 HB.out GE356.out)⟩⟩
       case round =>
        clear H'
        try clear c1
        try clear p2
        try clear c3
        try clear c5
        try clear c5b0
        try clear c5b1
        try clear c6
        try clear c6b0
        try clear c6b1
        try clear c7
        try clear c8
        try clear c17
        try clear hcz10_0
        try clear hcz12_0
        try clear hfz10_0
        try clear hfz12_0
        try clear p2
        obtain ⟨x3_2, x6_2, x7_2, x8_2, rfl, rfl, HA, HK2, HO_3, HO_4, HO_5, HO_6, BK356, HB⟩ := hrel
        cases gk with
        | zero => exact absurd HA.out (by simp [spec_OrderOf.l1])
        | succ k2 =>
         have H := HA.out
         clear HA
         simp only [spec_OrderOf.l1] at H
         have HC18 := mS H
         clear H
         go_upto_region 10 with (fail)
         go_cut [31] (fun v31 wc => ∃ (kq : Nat) (x31_17 : Bool), v31 = .bool x31_17 ∧ Aside0 (spec_OrderOf.j2 kq x3_2 t361 t364 x6_2 x7_2 x8_2 x31_17 l0_0 = some r) ∧ Aside0 (kq ≤ k2) ∧ Aside0 (Kd.R k31 31 wc w.heap.size (fun _ => True) u3 x3_2) ∧ Aside0 (Kd.S (Kd.slice 4 Kd.bool) 105 wc w.heap.size (fun k_ => some k_ ≠ ((.slice Ao14 t364.length co14) : Value).ownBlock ∧ some k_ ≠ (v368 : Value).ownBlock) v362 t361) ∧ Aside0 (Kd.R Kd.bool 4 wc w.heap.size (fun k_ => some k_ ≠ (v368 : Value).ownBlock) (.slice Ao14 t364.length co14) t364) ∧ Aside0 (Kd.R Kd.bool 4 wc w.heap.size (fun k_ => some k_ ≠ ((.slice Ao14 t364.length co14) : Value).ownBlock) v368 x6_2) ∧ Aside0 (wc.heap[gb356]? = some (.cells #[(.slice A0_0 l0_0.length c0_0)] 26 (0, 0))) ∧ Aside0 (Below w.heap.size w wc))
         case first =>
          have H := HC18.out
          clear HC18
          by_cases c19 : x8_2 < (t364.length : Int)
          ·rw [if_pos c19] at H
           have c19b0 := decide_eq_true c19
           clear c19
           (first | rw [c19b0] | (simp only [i64_w, i32_w]; rw [c19b0]) | skip)
           have H' := mS H
           clear H
           go_wp2
           go_meet
           case rel => exact ⟨_, (!x7_2), mE, H', ⟨by have := HK1.out; have := HK2.out; first | omega | exact Nat.le_refl _⟩, ⟨mR HO_3.out⟩, ⟨mSd HO_4.out⟩, ⟨mR HO_5.out⟩, ⟨mR HO_6.out⟩, ⟨mK BK356.out⟩, ⟨(mH1 HB.out GE356.out)⟩⟩
          ·rw [if_neg c19] at H
           have c19b0 := decide_eq_false c19
           clear c19
           (first | rw [c19b0] | (simp only [i64_w, i32_w]; rw [c19b0]) | skip)
           have H' := mS H
           clear H
           go_wp2
           go_meet
           case rel => exact ⟨_, (false), mE, H', ⟨by have := HK1.out; have := HK2.out; first | omega | exact Nat.le_refl _⟩, ⟨mR HO_3.out⟩, ⟨mSd HO_4.out⟩, ⟨mR HO_5.out⟩, ⟨mR HO_6.out⟩, ⟨mK BK356.out⟩, ⟨(mH1 HB.out GE356.out)⟩⟩
         case rest =>
          clear HC18
          try clear c1
          try clear p2
          try clear c3
          try clear c5
          try clear c5b0
          try clear c5b1
          try clear c6
          try clear c6b0
          try clear c6b1
          try clear c7
          try clear c8
          try clear c17
          try clear c19
          try clear c19b0
          try clear hcz10_0
          try clear hcz12_0
          try clear hfz10_0
          try clear hfz12_0
          try clear p2
          obtain ⟨kq, x31_17, rfl, HA, HJ17, HO_3, HO_4, HO_5, HO_6, BK356, HB⟩ := hcut
          cases kq with
          | zero => exact absurd HA.out (by simp [spec_OrderOf.j2])
          | succ kj17 =>
           have H := HA.out
           clear HA
           simp only [spec_OrderOf.j2] at H
           by_cases c20 : x31_17 = true
           ·subst c20
            have H1 := H
            rw [if_pos rfl] at H1
            clear H
            have H := H1
            clear H1
            have HC21 := mS H
            clear H
            go_upto_region 12 with (fail)
            go_cut [52] (fun v52 wc => ∃ (kq : Nat) (x52_20 : Bool), v52 = .bool x52_20 ∧ Aside0 (spec_OrderOf.j3 kq x3_2 t361 t364 x6_2 x7_2 x8_2 x52_20 l0_0 = some r) ∧ Aside0 (kq ≤ kj17) ∧ Aside0 (Kd.R k31 31 wc w.heap.size (fun _ => True) u3 x3_2) ∧ Aside0 (Kd.S (Kd.slice 4 Kd.bool) 105 wc w.heap.size (fun k_ => some k_ ≠ ((.slice Ao14 t364.length co14) : Value).ownBlock ∧ some k_ ≠ (v368 : Value).ownBlock) v362 t361) ∧ Aside0 (Kd.R Kd.bool 4 wc w.heap.size (fun k_ => some k_ ≠ (v368 : Value).ownBlock) (.slice Ao14 t364.length co14) t364) ∧ Aside0 (Kd.R Kd.bool 4 wc w.heap.size (fun k_ => some k_ ≠ ((.slice Ao14 t364.length co14) : Value).ownBlock) v368 x6_2) ∧ Aside0 (wc.heap[gb356]? = some (.cells #[(.slice A0_0 l0_0.length c0_0)] 26 (0, 0))) ∧ Aside0 (Below w.heap.size w wc))
            case first =>
             have H := HC21.out
             clear HC21
             by_cases c22 : 0 ≤ x8_2
             ·rw [if_pos c22] at H
              have c22b0 := decide_eq_true c22
              clear c22
              (first | rw [c22b0] | (simp only [i64_w, i32_w]; rw [c22b0]) | skip)
              by_cases c23 : x8_2 < (t364.length : Int)
              ·rw [if_pos c23] at H
               have c23b0 := decide_eq_true c23
               clear c23
               obtain ⟨bq24, hbq24⟩ : ∃ b_ : Bool, b_ = (rdOf false t364 x8_2) := ⟨_, rfl⟩
               replace H : (if bq24 = true then (if x8_2 < (x6_2.length : Int) then (if rdOf false x6_2 x8_2 = true then (spec_OrderOf.j3 kj17 x3_2 t361 t364 x6_2 x7_2 x8_2 true l0_0) else ((spec_l8Ready.f kj17 l0_0 t361 x6_2 x8_2).bind fun t372 => (spec_OrderOf.j3 kj17 x3_2 t361 t364 x6_2 x7_2 x8_2 (!t372) l0_0))) else (none)) else (spec_OrderOf.j3 kj17 x3_2 t361 t364 x6_2 x7_2 x8_2 true l0_0)) = some r := by rw [← hbq24] at H; exact H
               have Nbq24 := mS hbq24
               clear hbq24
               by_cases c25 : bq24 = true
               ·subst c25
                have H1 := H
                rw [if_pos rfl] at H1
                clear H
                have H := H1
                clear H1
                by_cases c26 : x8_2 < (x6_2.length : Int)
                ·rw [if_pos c26] at H
                 have c26b0 := decide_eq_true c26
                 clear c26
                 obtain ⟨bq27, hbq27⟩ : ∃ b_ : Bool, b_ = (rdOf false x6_2 x8_2) := ⟨_, rfl⟩
                 replace H : (if bq27 = true then (spec_OrderOf.j3 kj17 x3_2 t361 t364 x6_2 x7_2 x8_2 true l0_0) else ((spec_l8Ready.f kj17 l0_0 t361 x6_2 x8_2).bind fun t372 => (spec_OrderOf.j3 kj17 x3_2 t361 t364 x6_2 x7_2 x8_2 (!t372) l0_0))) = some r := by rw [← hbq27] at H; exact H
                 have Nbq27 := mS hbq27
                 clear hbq27
                 by_cases c28 : bq27 = true
                 ·subst c28
                  have H1 := H
                  rw [if_pos rfl] at H1
                  clear H
                  have H := H1
                  clear H1
                  have H' := mS H
                  clear H
                  have p370 : 0 ≤ (x8_2 : Int) := mD
                  have q370 : x8_2 < (t364.length : Int) := mD
                  obtain ⟨ad370, e370, hx370_0⟩ := Kd.at_bool (Kd.R_reads' HO_5.out).2.2 x8_2 p370 q370
                  (try rw [← Nbq24.out] at hx370_0); (try rw [← Nbq24.out] at hw370_0)
                  (try rw [← Nbq27.out] at hx370_0); (try rw [← Nbq27.out] at hw370_0)
                  cases e370
                  replace p370 := eq_true p370
                  replace q370 := eq_true q370
                  obtain ⟨Ao29, co29, eo29⟩ := Kd.R_slice HO_6.out
                  subst eo29
                  have p371 : 0 ≤ (x8_2 : Int) := mD
                  have q371 : x8_2 < (x6_2.length : Int) := mD
                  obtain ⟨ad371, e371, hx371_0⟩ := Kd.at_bool (Kd.R_reads' HO_6.out).2.2 x8_2 p371 q371
                  (try rw [← Nbq24.out] at hx371_0); (try rw [← Nbq24.out] at hw371_0)
                  (try rw [← Nbq27.out] at hx371_0); (try rw [← Nbq27.out] at hw371_0)
                  cases e371
                  replace p371 := eq_true p371
                  replace q371 := eq_true q371
                  go_wp2
                  go_meet
                  case rel => exact ⟨_, (true), mE, H', ⟨by have := HK1.out; have := HK2.out; have := HJ17.out; first | omega | exact Nat.le_refl _⟩, ⟨mR HO_3.out⟩, ⟨mSd HO_4.out⟩, ⟨mR HO_5.out⟩, ⟨mR HO_6.out⟩, ⟨mK BK356.out⟩, ⟨(mH1 HB.out GE356.out)⟩⟩
                 ·replace c28 := Bool.eq_false_iff.mpr c28
                  subst c28
                  have H1 := H
                  rw [if_neg (show ¬ (false = true) by decide)] at H1
                  clear H
                  have H := H1
                  clear H1
                  replace H := Option.bind_eq_some_iff.mp H
                  obtain ⟨t372, A300, H⟩ := H
                  replace H : (spec_OrderOf.j3 kj17 x3_2 t361 t364 x6_2 x7_2 x8_2 (!t372) l0_0) = some r := H
                  have A30 := mS A300
                  clear A300
                  have H' := mS H
                  clear H
                  have p370 : 0 ≤ (x8_2 : Int) := mD
                  have q370 : x8_2 < (t364.length : Int) := mD
                  obtain ⟨ad370, e370, hx370_0⟩ := Kd.at_bool (Kd.R_reads' HO_5.out).2.2 x8_2 p370 q370
                  (try rw [← Nbq24.out] at hx370_0); (try rw [← Nbq24.out] at hw370_0)
                  (try rw [← Nbq27.out] at hx370_0); (try rw [← Nbq27.out] at hw370_0)
                  cases e370
                  replace p370 := eq_true p370
                  replace q370 := eq_true q370
                  obtain ⟨Ao31, co31, eo31⟩ := Kd.R_slice HO_6.out
                  subst eo31
                  have p371 : 0 ≤ (x8_2 : Int) := mD
                  have q371 : x8_2 < (x6_2.length : Int) := mD
                  obtain ⟨ad371, e371, hx371_0⟩ := Kd.at_bool (Kd.R_reads' HO_6.out).2.2 x8_2 p371 q371
                  (try rw [← Nbq24.out] at hx371_0); (try rw [← Nbq24.out] at hw371_0)
                  (try rw [← Nbq27.out] at hx371_0); (try rw [← Nbq27.out] at hw371_0)
                  cases e371
                  replace p371 := eq_true p371
                  replace q371 := eq_true q371
                  have hcz32_0 := mZ BK356.out 0
                  have hfz32_0 := blk_frozen BK356.out 0
                  obtain ⟨Ao33, co33, eo33⟩ := Kd.S_slice HO_4.out
                  subst eo33
                  go_wp2_with (first | (go_at_call 84; (with_reducible refine (spec_l8Ready.calls kj17 _ _ l0_0 _ _ t361 _ _ x6_2 x8_2 t372 _ ?side1 ?side2 ?side3 ?side4 ?side5 ?side6 A30.out).mono ?_); (case side1 => exact mC (Kd.C_below HR0_0.out HB.out)); (case side2 => exact HC0_0.out); (case side3 => exact mC (Kd.S_reads' HO_4.out).2.2); (case side4 => exact (Kd.S_reads' HO_4.out).2.1); (case side5 => exact mC (Kd.R_reads' HO_6.out).2.2); (case side6 => exact (Kd.R_reads' HO_6.out).2.1); rintro e w34 ⟨rfl, hb⟩; replace HO_3 := mS (Kd.R_below (mR HO_3.out) hb); replace HO_4 := mS (Kd.S_below (mSd HO_4.out) hb); replace HO_5 := mS (Kd.R_below (mR HO_5.out) hb); replace HO_6 := mS (Kd.R_below (mR HO_6.out) hb); replace BK356 := mB BK356 hb; replace HB := mS (below_step (mH1 HB.out GE356.out) hb); (try clear hb); (try clear hb2); (try clear hk); (try clear hi)))
                  go_meet
                  case rel => exact ⟨_, (!t372), mE, H', ⟨by have := HK1.out; have := HK2.out; have := HJ17.out; first | omega | exact Nat.le_refl _⟩, ⟨mR HO_3.out⟩, ⟨mSd HO_4.out⟩, ⟨mR HO_5.out⟩, ⟨mR HO_6.out⟩, ⟨mK BK356.out⟩, ⟨(mH1 HB.out GE356.out)⟩⟩
                ·rw [if_neg c26] at H
                 exact absurd H (by simp)
               ·replace c25 := Bool.eq_false_iff.mpr c25
                subst c25
                have H1 := H
                rw [if_neg (show ¬ (false = true) by decide)] at H1
                clear H
                have H := H1
                clear H1
                have H' := mS H
                clear H
                have p370 : 0 ≤ (x8_2 : Int) := mD
                have q370 : x8_2 < (t364.length : Int) := mD
                obtain ⟨ad370, e370, hx370_0⟩ := Kd.at_bool (Kd.R_reads' HO_5.out).2.2 x8_2 p370 q370
                (try rw [← Nbq24.out] at hx370_0); (try rw [← Nbq24.out] at hw370_0)
                cases e370
                replace p370 := eq_true p370
                replace q370 := eq_true q370
                go_wp2
                go_meet
                case rel => exact ⟨_, (true), mE, H', ⟨by have := HK1.out; have := HK2.out; have := HJ17.out; first | omega | exact Nat.le_refl _⟩, ⟨mR HO_3.out⟩, ⟨mSd HO_4.out⟩, ⟨mR HO_5.out⟩, ⟨mR HO_6.out⟩, ⟨mK BK356.out⟩, ⟨(mH1 HB.out GE356.out)⟩⟩
              ·rw [if_neg c23] at H
               exact absurd H (by simp)
             ·rw [if_neg c22] at H
              exact absurd H (by simp)
            case rest =>
             clear HC21
             try clear c1
             try clear c2
             try clear p2
             try clear q2
             try clear c3
             try clear p3
             try clear q3
             try clear hx3
             try clear c5
             try clear c5b0
             try clear c5b1
             try clear c6
             try clear c6b0
             try clear c6b1
             try clear c7
             try clear c8
             try clear c17
             try clear c19
             try clear c19b0
             try clear c20
             try clear c22
             try clear c22b0
             try clear c23
             try clear c23b0
             try clear q24
             try clear c25
             try clear c26
             try clear c26b0
             try clear q27
             try clear c28
             try clear hcz10_0
             try clear hcz12_0
             try clear hcz32_0
             try clear hfz10_0
             try clear hfz12_0
             try clear hfz32_0
             try clear hx370_0
             try clear hx371_0
             try clear p2
             try clear p370
             try clear p371
             try clear q370
             try clear q371
             obtain ⟨kq, x52_20, rfl, HA, HJ20, HO_3, HO_4, HO_5, HO_6, BK356, HB⟩ := hcut
             cases kq with
             | zero => exact absurd HA.out (by simp [spec_OrderOf.j3])
             | succ kj20 =>
              have H := HA.out
              clear HA
              simp only [spec_OrderOf.j3] at H
              by_cases c35 : x52_20 = true
              ·subst c35
               have H1 := H
               rw [if_pos rfl] at H1
               clear H
               have H := H1
               clear H1
               have H' := mS H
               clear H
               go_wp2
               go_roundg kj20
               case measure => have := HK1.out; have := HK2.out; have := HJ17.out; have := HJ20.out; omega
               case rel => exact ⟨(x3_2), (x6_2), (x7_2), (wrap64 (x8_2 + 1)), mE, mE, H', ⟨by have := HK1.out; have := HK2.out; have := HJ17.out; have := HJ20.out; omega⟩, ⟨mR HO_3.out⟩, ⟨mSd HO_4.out⟩, ⟨mR HO_5.out⟩, ⟨mR HO_6.out⟩, ⟨mK BK356.out⟩, ⟨(mH1 HB.out GE356.out)⟩⟩
              ·replace c35 := Bool.eq_false_iff.mpr c35
               subst c35
               have H1 := H
               rw [if_neg (show ¬ (false = true) by decide)] at H1
               clear H
               have H := H1
               clear H1
               have H' := mS H
               clear H
               go_wp2
               go_loopg [3, 9] kj20 (fun kq v3 v9 w' => ∃ (x3_5 : List (S31)) (x6_5 : List Bool) (x9_5 : Int), v9 = .int .i64 x9_5 ∧ Aside0 (spec_OrderOf.l2 kq x3_5 t361 t364 x6_5 true x8_2 x9_5 l0_0 = some r) ∧ Aside0 (kq ≤ kj20) ∧ Aside0 (Kd.R k31 31 w' w.heap.size (fun _ => True) v3 x3_5) ∧ Aside0 (Kd.S (Kd.slice 4 Kd.bool) 105 w' w.heap.size (fun k_ => some k_ ≠ ((.slice Ao14 t364.length co14) : Value).ownBlock ∧ some k_ ≠ (v368 : Value).ownBlock) v362 t361) ∧ Aside0 (Kd.R Kd.bool 4 w' w.heap.size (fun k_ => some k_ ≠ (v368 : Value).ownBlock) (.slice Ao14 t364.length co14) t364) ∧ Aside0 (Kd.R Kd.bool 4 w' w.heap.size (fun k_ => some k_ ≠ ((.slice Ao14 t364.length co14) : Value).ownBlock) v368 x6_5) ∧ Aside0 (w'.heap[gb356]? = some (.cells #[(.slice A0_0 l0_0.length c0_0)] 26 (0, 0))) ∧ Aside0 (Below w.heap.size w w'))
               case atStart => exact ⟨(x3_2), (x6_2), (0), mE, H', ⟨Nat.le_refl _⟩, ⟨mR HO_3.out⟩, ⟨mSd HO_4.out⟩, ⟨mR HO_5.out⟩, ⟨mR HO_6.out⟩, ⟨mK BK356.out⟩, ⟨(mH1 HB.out GE356.out)⟩⟩
               case round =>
                clear H'
                try clear c1
                try clear c2
                try clear p2
                try clear q2
                try clear c3
                try clear p3
                try clear q3
                try clear hx3
                try clear c5
                try clear c5b0
                try clear c5b1
                try clear c6
                try clear c6b0
                try clear c6b1
                try clear p6
                try clear c7
                try clear c8
                try clear c17
                try clear c19
                try clear c19b0
                try clear c20
                try clear c22
                try clear c22b0
                try clear c23
                try clear c23b0
                try clear q24
                try clear c25
                try clear c26
                try clear c26b0
                try clear q27
                try clear c28
                try clear c35
                try clear hcz10_0
                try clear hcz12_0
                try clear hcz32_0
                try clear hfz10_0
                try clear hfz12_0
                try clear hfz32_0
                try clear hx370_0
                try clear hx371_0
                try clear p2
                try clear p3
                try clear p370
                try clear p371
                try clear q2
                try clear q24
                try clear q27
                try clear q3
                try clear q370
                try clear q371
                obtain ⟨x3_5, x6_5, x9_5, rfl, HA, HK5, HO_3, HO_4, HO_5, HO_6, BK356, HB⟩ := hrel
                cases gk with
                | zero => exact absurd HA.out (by simp [spec_OrderOf.l2])
                | succ k5 =>
                 have H := HA.out
                 clear HA
                 simp only [spec_OrderOf.l2] at H
                 by_cases c36 : x9_5 < (t364.length : Int)
                 ·rw [if_pos c36] at H
                  have c36b0 := decide_eq_true c36
                  clear c36
                  have HC37 := mS H
                  clear H
                  go_upto_region 17 with (fail)
                  go_cut [79] (fun v79 wc => ∃ (kq : Nat) (x79_36 : Bool), v79 = .bool x79_36 ∧ Aside0 (spec_OrderOf.j5 kq x3_5 t361 t364 x6_5 true x8_2 x9_5 x79_36 l0_0 = some r) ∧ Aside0 (kq ≤ k5) ∧ Aside0 (Kd.R k31 31 wc w.heap.size (fun _ => True) u3 x3_5) ∧ Aside0 (Kd.S (Kd.slice 4 Kd.bool) 105 wc w.heap.size (fun k_ => some k_ ≠ ((.slice Ao14 t364.length co14) : Value).ownBlock ∧ some k_ ≠ (v368 : Value).ownBlock) v362 t361) ∧ Aside0 (Kd.R Kd.bool 4 wc w.heap.size (fun k_ => some k_ ≠ (v368 : Value).ownBlock) (.slice Ao14 t364.length co14) t364) ∧ Aside0 (Kd.R Kd.bool 4 wc w.heap.size (fun k_ => some k_ ≠ ((.slice Ao14 t364.length co14) : Value).ownBlock) v368 x6_5) ∧ Aside0 (wc.heap[gb356]? = some (.cells #[(.slice A0_0 l0_0.length c0_0)] 26 (0, 0))) ∧ Aside0 (Below w.heap.size w wc))
                  case first =>
                   have H := HC37.out
                   clear HC37
                   by_cases c38 : x9_5 = x8_2
                   ·rw [if_pos c38] at H
                    have c38b0 : (x9_5 == x8_2) = true := beq_iff_eq.mpr c38
                    have c38b1 : (x9_5 != x8_2) = false := bne_eq_false_iff_eq.mpr c38
                    clear c38
                    (first | rw [c38b0] | (simp only [i64_w, i32_w]; rw [c38b0]) | skip)
                    have H' := mS H
                    clear H
                    go_wp2
                    go_meet
                    case rel => exact ⟨_, (true), mE, H', ⟨by have := HK1.out; have := HK2.out; have := HJ17.out; have := HJ20.out; have := HK5.out; first | omega | exact Nat.le_refl _⟩, ⟨mR HO_3.out⟩, ⟨mSd HO_4.out⟩, ⟨mR HO_5.out⟩, ⟨mR HO_6.out⟩, ⟨mK BK356.out⟩, ⟨(mH1 HB.out GE356.out)⟩⟩
                   ·rw [if_neg c38] at H
                    have c38b0 : (x9_5 == x8_2) = false := beq_eq_false_iff_ne.mpr c38
                    have c38b1 : (x9_5 != x8_2) = true := bne_iff_ne.mpr c38
                    (first | rw [c38b0] | (simp only [i64_w, i32_w]; rw [c38b0]) | skip)
                    by_cases c39 : 0 ≤ x8_2
                    ·rw [if_pos c39] at H
                     have c39b0 := decide_eq_true c39
                     clear c39
                     by_cases c40 : x8_2 < (t361.length : Int)
                     ·rw [if_pos c40] at H
                      have c40b0 := decide_eq_true c40
                      clear c40
                      by_cases c41 : 0 ≤ x9_5
                      ·rw [if_pos c41] at H
                       have c41b0 := decide_eq_true c41
                       clear c41
                       by_cases c42 : x9_5 < ((rd_L10 t361 x8_2).length : Int)
                       ·rw [if_pos c42] at H
                        have c42b0 := decide_eq_true c42
                        clear c42
                        obtain ⟨bq43, hbq43⟩ : ∃ b_ : Bool, b_ = (rdOf false (rd_L10 t361 x8_2) x9_5) := ⟨_, rfl⟩
                        replace H : (if bq43 = true then (if x9_5 < (t361.length : Int) then (if x8_2 < ((rd_L10 t361 x9_5).length : Int) then (spec_OrderOf.j5 k5 x3_5 t361 t364 x6_5 true x8_2 x9_5 (rdOf false (rd_L10 t361 x9_5) x8_2) l0_0) else (none)) else (none)) else (spec_OrderOf.j5 k5 x3_5 t361 t364 x6_5 true x8_2 x9_5 false l0_0)) = some r := by rw [← hbq43] at H; exact H
                        have Nbq43 := mS hbq43
                        clear hbq43
                        by_cases c44 : bq43 = true
                        ·subst c44
                         have H1 := H
                         rw [if_pos rfl] at H1
                         clear H
                         have H := H1
                         clear H1
                         by_cases c45 : x9_5 < (t361.length : Int)
                         ·rw [if_pos c45] at H
                          have c45b0 := decide_eq_true c45
                          clear c45
                          by_cases c46 : x8_2 < ((rd_L10 t361 x9_5).length : Int)
                          ·rw [if_pos c46] at H
                           have c46b0 := decide_eq_true c46
                           clear c46
                           have H' := mS H
                           clear H
                           obtain ⟨Ao47, co47, eo47⟩ := Kd.S_slice HO_4.out
                           subst eo47
                           have p373 : 0 ≤ (x8_2 : Int) := mD
                           have q373 : x8_2 < (t361.length : Int) := mD
                           obtain ⟨ad373, A373_0, c373_0, e373, hx373_0, hl373_0, hi373_0⟩ := at_L10 (Kd.S_reads' HO_4.out).2.2 x8_2 p373 q373
                           cases e373
                           obtain ⟨ce373, hce373, hMe373, hcc373⟩ := Kd.S_get HO_4.out [] x8_2 p373 (by first | exact q373 | exact mD | (have e_ := (Kd.S_reads' HO_4.out).1; omega))
                           obtain ⟨ve373_0, rfl, ge373_0⟩ := hMe373
                           have hv373_0 := hcc373 0 _ rfl
                           rw [Nat.add_zero, show ((Kd.slice 4 Kd.bool)).sz = 1 from rfl, Nat.mul_one] at hv373_0
                           replace hv373_0 := Option.some.inj (hv373_0.symm.trans hx373_0)
                           rw [hv373_0] at ge373_0
                           have HL373_0 := mS (show Kd.R Kd.bool 4 _ _ _ _ (rd_L10 t361 x8_2) from ge373_0)
                           clear hv373_0 ge373_0
                           clear hcc373 hce373
                           have HR373_0 := mS hi373_0
                           have HC373_0 := mS hl373_0
                           clear hi373_0 hl373_0
                           replace p373 := eq_true p373
                           replace q373 := eq_true q373
                           have p374 : 0 ≤ (x9_5 : Int) := mD
                           have q374 : x9_5 < ((rd_L10 t361 x8_2).length : Int) := mD
                           obtain ⟨ad374, e374, hx374_0⟩ := Kd.at_bool (by repeat (first | (with_reducible exact HR373_0.out) | (with_reducible refine Kd.C_alloc ?_ _) | (with_reducible refine Kd.C_drewN ?_ _) | (with_reducible refine Kd.C_drew ?_) | exact HR373_0.out)) x9_5 p374 q374
                           (try rw [← Nbq43.out] at hx374_0); (try rw [← Nbq43.out] at hw374_0)
                           cases e374
                           replace p374 := eq_true p374
                           replace q374 := eq_true q374
                           have p375 : 0 ≤ (x9_5 : Int) := mD
                           have q375 : x9_5 < (t361.length : Int) := mD
                           obtain ⟨ad375, A375_0, c375_0, e375, hx375_0, hl375_0, hi375_0⟩ := at_L10 (Kd.S_reads' HO_4.out).2.2 x9_5 p375 q375
                           obtain rfl : ad373 = ad375 := (by injection e375)
                           obtain ⟨ce375, hce375, hMe375, hcc375⟩ := Kd.S_get HO_4.out [] x9_5 p375 (by first | exact q375 | exact mD | (have e_ := (Kd.S_reads' HO_4.out).1; omega))
                           obtain ⟨ve375_0, rfl, ge375_0⟩ := hMe375
                           have hv375_0 := hcc375 0 _ rfl
                           rw [Nat.add_zero, show ((Kd.slice 4 Kd.bool)).sz = 1 from rfl, Nat.mul_one] at hv375_0
                           replace hv375_0 := Option.some.inj (hv375_0.symm.trans hx375_0)
                           rw [hv375_0] at ge375_0
                           have HL375_0 := mS (show Kd.R Kd.bool 4 _ _ _ _ (rd_L10 t361 x9_5) from ge375_0)
                           clear hv375_0 ge375_0
                           clear hcc375 hce375
                           have HR375_0 := mS hi375_0
                           have HC375_0 := mS hl375_0
                           clear hi375_0 hl375_0
                           replace p375 := eq_true p375
                           replace q375 := eq_true q375
                           have p376 : 0 ≤ (x8_2 : Int) := mD
                           have q376 : x8_2 < ((rd_L10 t361 x9_5).length : Int) := mD
                           obtain ⟨ad376, e376, hx376_0⟩ := Kd.at_bool (by repeat (first | (with_reducible exact HR375_0.out) | (with_reducible refine Kd.C_alloc ?_ _) | (with_reducible refine Kd.C_drewN ?_ _) | (with_reducible refine Kd.C_drew ?_) | exact HR375_0.out)) x8_2 p376 q376
                           (try rw [← Nbq43.out] at hx376_0); (try rw [← Nbq43.out] at hw376_0)
                           cases e376
                           replace p376 := eq_true p376
                           replace q376 := eq_true q376
                           go_wp2
                           go_meet
                           case rel => exact ⟨_, (rdOf false (rd_L10 t361 x9_5) x8_2), mE, H', ⟨by have := HK1.out; have := HK2.out; have := HJ17.out; have := HJ20.out; have := HK5.out; first | omega | exact Nat.le_refl _⟩, ⟨mR HO_3.out⟩, ⟨mSd HO_4.out⟩, ⟨mR HO_5.out⟩, ⟨mR HO_6.out⟩, ⟨mK BK356.out⟩, ⟨(mH1 HB.out GE356.out)⟩⟩
                          ·rw [if_neg c46] at H
                           exact absurd H (by simp)
                         ·rw [if_neg c45] at H
                          exact absurd H (by simp)
                        ·replace c44 := Bool.eq_false_iff.mpr c44
                         subst c44
                         have H1 := H
                         rw [if_neg (show ¬ (false = true) by decide)] at H1
                         clear H
                         have H := H1
                         clear H1
                         have H' := mS H
                         clear H
                         obtain ⟨Ao48, co48, eo48⟩ := Kd.S_slice HO_4.out
                         subst eo48
                         have p373 : 0 ≤ (x8_2 : Int) := mD
                         have q373 : x8_2 < (t361.length : Int) := mD
                         obtain ⟨ad373, A373_0, c373_0, e373, hx373_0, hl373_0, hi373_0⟩ := at_L10 (Kd.S_reads' HO_4.out).2.2 x8_2 p373 q373
                         cases e373
                         obtain ⟨ce373, hce373, hMe373, hcc373⟩ := Kd.S_get HO_4.out [] x8_2 p373 (by first | exact q373 | exact mD | (have e_ := (Kd.S_reads' HO_4.out).1; omega))
                         obtain ⟨ve373_0, rfl, ge373_0⟩ := hMe373
                         have hv373_0 := hcc373 0 _ rfl
                         rw [Nat.add_zero, show ((Kd.slice 4 Kd.bool)).sz = 1 from rfl, Nat.mul_one] at hv373_0
                         replace hv373_0 := Option.some.inj (hv373_0.symm.trans hx373_0)
                         rw [hv373_0] at ge373_0
                         have HL373_0 := mS (show Kd.R Kd.bool 4 _ _ _ _ (rd_L10 t361 x8_2) from ge373_0)
                         clear hv373_0 ge373_0
                         clear hcc373 hce373
                         have HR373_0 := mS hi373_0
                         have HC373_0 := mS hl373_0
                         clear hi373_0 hl373_0
                         replace p373 := eq_true p373
                         replace q373 := eq_true q373
                         have p374 : 0 ≤ (x9_5 : Int) := mD
                         have q374 : x9_5 < ((rd_L10 t361 x8_2).length : Int) := mD
                         obtain ⟨ad374, e374, hx374_0⟩ := Kd.at_bool (by repeat (first | (with_reducible exact HR373_0.out) | (with_reducible refine Kd.C_alloc ?_ _) | (with_reducible refine Kd.C_drewN ?_ _) | (with_reducible refine Kd.C_drew ?_) | exact HR373_0.out)) x9_5 p374 q374
                         (try rw [← Nbq43.out] at hx374_0); (try rw [← Nbq43.out] at hw374_0)
                         cases e374
                         replace p374 := eq_true p374
                         replace q374 := eq_true q374
                         go_wp2
                         go_meet
                         case rel => exact ⟨_, (false), mE, H', ⟨by have := HK1.out; have := HK2.out; have := HJ17.out; have := HJ20.out; have := HK5.out; first | omega | exact Nat.le_refl _⟩, ⟨mR HO_3.out⟩, ⟨mSd HO_4.out⟩, ⟨mR HO_5.out⟩, ⟨mR HO_6.out⟩, ⟨mK BK356.out⟩, ⟨(mH1 HB.out GE356.out)⟩⟩
                       ·rw [if_neg c42] at H
                        exact absurd H (by simp)
                      ·rw [if_neg c41] at H
                       exact absurd H (by simp)
                     ·rw [if_neg c40] at H
                      exact absurd H (by simp)
                    ·rw [if_neg c39] at H
                     exact absurd H (by simp)
                  case rest =>
                   clear HC37
                   try clear c1
                   try clear c2
                   try clear p2
                   try clear q2
                   try clear c3
                   try clear p3
                   try clear q3
                   try clear hx3
                   try clear c4
                   try clear q4
                   try clear c5
                   try clear c5b0
                   try clear c5b1
                   try clear c6
                   try clear c6b0
                   try clear c6b1
                   try clear p6
                   try clear c7
                   try clear c8
                   try clear c17
                   try clear c19
                   try clear c19b0
                   try clear c20
                   try clear c22
                   try clear c22b0
                   try clear c23
                   try clear c23b0
                   try clear q24
                   try clear c25
                   try clear c26
                   try clear c26b0
                   try clear q27
                   try clear c28
                   try clear c35
                   try clear c36
                   try clear c36b0
                   try clear c37
                   try clear p37
                   try clear q37
                   try clear hx37
                   try clear c38
                   try clear c38b0
                   try clear c38b1
                   try clear c39
                   try clear c39b0
                   try clear c40
                   try clear c40b0
                   try clear c41
                   try clear c41b0
                   try clear c42
                   try clear c42b0
                   try clear q43
                   try clear c44
                   try clear c45
                   try clear c45b0
                   try clear c46
                   try clear c46b0
                   try clear hcz10_0
                   try clear hcz12_0
                   try clear hcz32_0
                   try clear hfz10_0
                   try clear hfz12_0
                   try clear hfz32_0
                   try clear hx370_0
                   try clear hx371_0
                   try clear hx373_0
                   try clear hx374_0
                   try clear hx375_0
                   try clear hx376_0
                   try clear p2
                   try clear p3
                   try clear p370
                   try clear p371
                   try clear p373
                   try clear p374
                   try clear p375
                   try clear p376
                   try clear p6
                   try clear q2
                   try clear q24
                   try clear q27
                   try clear q3
                   try clear q370
                   try clear q371
                   try clear q373
                   try clear q374
                   try clear q375
                   try clear q376
                   obtain ⟨kq, x79_36, rfl, HA, HJ36, HO_3, HO_4, HO_5, HO_6, BK356, HB⟩ := hcut
                   cases kq with
                   | zero => exact absurd HA.out (by simp [spec_OrderOf.j5])
                   | succ kj36 =>
                    have H := HA.out
                    clear HA
                    simp only [spec_OrderOf.j5] at H
                    by_cases c49 : x79_36 = true
                    ·subst c49
                     have H1 := H
                     rw [if_pos rfl] at H1
                     clear H
                     have H := H1
                     clear H1
                     by_cases c50 : 0 ≤ x9_5
                     ·rw [if_pos c50] at H
                      have c50b0 := decide_eq_true c50
                      clear c50
                      by_cases c51 : x9_5 < (x6_5.length : Int)
                      ·rw [if_pos c51] at H
                       have c51b0 := decide_eq_true c51
                       clear c51
                       obtain ⟨y377, hy377⟩ : ∃ y_ : List Bool, y_ = (x6_5.set (x9_5 : Int).toNat true) := ⟨_, rfl⟩
                       replace H : (if x9_5 < (l0_0.length : Int) then (if x3_5.length < 8796093022208 then (spec_OrderOf.l2 kj36 (x3_5 ++ [(⟨(rd_T33 l0_0 x9_5).f0.f0, (rd_T33 l0_0 x9_5).f0.f1⟩ : S31)]) t361 t364 y377 true x8_2 (wrap64 (x9_5 + 1)) l0_0) else (none)) else (none)) = some r := by first | (rw [hy377]; with_reducible exact H) | (have H2_ := (Option.bind_some _ _).symm.trans H; rw [hy377]; with_reducible exact H2_) | (have H2_ := (Option.bind_some _ _).symm.trans H; with_reducible exact H2_) | with_reducible exact H | (rw [hy377]; exact H) | exact H
                       have Ny377 := mS hy377
                       clear hy377
                       by_cases c53 : x9_5 < (l0_0.length : Int)
                       ·rw [if_pos c53] at H
                        have c53b0 := decide_eq_true c53
                        clear c53
                        by_cases c54 : x3_5.length < 8796093022208
                        ·rw [if_pos c54] at H
                         have LMc54 := mS c54
                         clear c54
                         obtain ⟨y379, hy379⟩ : ∃ y_ : List (S31), y_ = (x3_5 ++ [(⟨(rd_T33 l0_0 x9_5).f0.f0, (rd_T33 l0_0 x9_5).f0.f1⟩ : S31)]) := ⟨_, rfl⟩
                         replace H : (spec_OrderOf.l2 kj36 y379 t361 t364 y377 true x8_2 (wrap64 (x9_5 + 1)) l0_0) = some r := by first | (rw [hy379]; with_reducible exact H) | (have H2_ := (Option.bind_some _ _).symm.trans H; rw [hy379]; with_reducible exact H2_) | (have H2_ := (Option.bind_some _ _).symm.trans H; with_reducible exact H2_) | with_reducible exact H | (rw [hy379]; exact H) | exact H
                         have Ny379 := mS hy379
                         clear hy379
                         have H' := mS H
                         clear H
                         have p52 : 0 ≤ (x9_5 : Int) := mD
                         have q52 : (x9_5 : Int) < ((x6_5.length : Int) : Int) := mD
                         obtain ⟨go52, co52, eo52, gb52, gl52, cl52, HG52⟩ := Kd.R_form HO_6.out (by omega)
                         (first | cases eo52 | (injection eo52 with ea_ en_ ec_; (first | subst ea_ | (injection ea_ with ea_; subst ea_)); subst ec_; clear en_))
                         have GB52 := mS gb52
                         have GG52 := mS HG52
                         clear gb52 gl52 HG52
                         obtain ⟨hx52_0, hf52_0⟩ := Kd.R_celln false HO_6.out (x9_5 : Int) p52 q52
                         replace p52 := eq_true p52
                         replace q52 := eq_true q52
                         have HP55 := Kd.R_putg HO_6.out (x9_5 : Int) true
                         go_wp2_with (first | ((with_reducible refine gate_store (t := 4) (p := 82) rfl ?_); refine store_event (t := 4) (p := 82) (v := ?vo_w56) (w1 := (wc.setCell ⟨go52, (x9_5 : Int).toNat, none⟩ (.bool true))) ?hg ?ho ?hn ?hr ?_; (case ho => rfl); (case hg => rfl); (case hn => rfl); (case hr => first | (go_simp; done) | (go_simp; rfl)); intro w56 hw; have hg : wc.grownBy w56 (some go52) := (by rw [hw]; exact HP55.2); have hp_ : Kd.R Kd.bool 4 w56 w.heap.size (fun k_ => some k_ ≠ (.slice Ao14 t364.length co14 : Value).ownBlock) (.slice (some ⟨go52, 0, none⟩) x6_5.length co52) y377 := (by rw [hw, Ny377.out]; exact HP55.1); clear HP55; replace HO_3 := mS (Kd.R_over' (v := (.slice (some ⟨go52, 0, none⟩) x6_5.length co52)) (mR HO_3.out) (Kd.R_typed HO_6.out) (by decide) hg); replace HO_4 := mS (Kd.S_after (v := (.slice (some ⟨go52, 0, none⟩) x6_5.length co52)) (v1 := (.slice (some ⟨go52, 0, none⟩) x6_5.length co52)) (ok := (fun k_ => some k_ ≠ (.slice Ao14 t364.length co14 : Value).ownBlock)) (mSd HO_4.out) hg (.inl rfl)); replace HO_5 := mS (Kd.R_after (v := (.slice (some ⟨go52, 0, none⟩) x6_5.length co52)) (v1 := (.slice (some ⟨go52, 0, none⟩) x6_5.length co52)) (ok := (fun _ => True)) (by refine mR ?_; exact Kd.R_mono HO_5.out (fun _ hk => ⟨trivial, hk⟩)) hg (.inl rfl)); replace BK356 := mS (blk_grown (g := gb356) (o := .cells #[.slice A0_0 l0_0.length c0_0] 26 (0, 0)) (mK BK356.out) hg (Kd.R_ne HO_6.out BK356.out (by decide))); replace HO_6 := mS (hp_); replace HB := mS ((by rw [hw]; exact below_set (HB.out) GB52.out : Below w.heap.size w w56)); clear hg hw hp_; have hcz57_0 := mZ BK356.out 0; have hfz57_0 := blk_frozen BK356.out 0; have p378 : 0 ≤ (x9_5 : Int) := mD; have q378 : x9_5 < (l0_0.length : Int) := mD; obtain ⟨ad378, A378_2, c378_2, e378, hx378_0, hx378_1, hx378_2, hl378_2, hi378_2⟩ := at_T33 HR0_0.out x9_5 p378 q378; cases e378; replace hx378_0 := mX HB.out hx378_0; replace hx378_1 := mX HB.out hx378_1; replace hx378_2 := mX HB.out hx378_2; have HR378_2 := mS hi378_2; have HC378_2 := mS hl378_2; clear hi378_2 hl378_2; replace p378 := eq_true p378; replace q378 := eq_true q378) | ((with_reducible refine gate_builtin (b := .append) (xs := #[.tmp 83, .tmp 90]) rfl ?_); at_builtin; refine Kd.R_append k31 (w0 := w) w.heap.size rfl (.tmp 83) (.tmp 90) 28 31 (.agg #[(.int .i64 0), (.int .i64 0)]) 16 rfl Try.underlying28 info31 rfl (by decide) (by omega) u3 x3_5 (⟨(rd_T33 l0_0 x9_5).f0.f0, (rd_T33 l0_0 x9_5).f0.f1⟩ : S31) [.int .i64 ((rd_T33 l0_0 x9_5).f0.f0), .int .i64 ((rd_T33 l0_0 x9_5).f0.f1)] (fun _ => True) (fun _ => False) rfl rfl ?aP (fun _ hk => hk.elim) ?aF ?aO ?aB ?aS ?aL ?_; (case aP => exact k31_mkM _ _ _ (⟨(rd_T33 l0_0 x9_5).f0.f0, (rd_T33 l0_0 x9_5).f0.f1⟩ : S31)); (case aB => exact (mH1 HB.out GE356.out)); (case aF => exact (fun _ _ => trivial)); (case aO => exact (mR HO_3.out)); (case aS => exact (below_size (mH1 HB.out GE356.out))); (case aL => have := LMc54.out; omega); intro v380 w58 ho hb hg hat; rw [← Ny379.out] at ho; replace HO_4 := mS (Kd.S_over' (mSd HO_4.out) (Kd.R_typed (mR HO_3.out)) (by decide) hg); replace HO_5 := mS (Kd.R_over' (mR HO_5.out) (Kd.R_typed (mR HO_3.out)) (by decide) hg); replace HO_6 := mS (Kd.R_over' (mR HO_6.out) (Kd.R_typed (mR HO_3.out)) (by decide) hg); replace BK356 := mS (blk_grown (g := gb356) (o := .cells #[.slice (some ad378) l0_0.length c0_0] 26 (0, 0)) (mK BK356.out) hg (Kd.R_ne HO_3.out BK356.out (by decide))); replace HB := mS (hb); have HO381 := mS (ho); clear HO_3; clear ho hb hg hat))
                         go_roundg kj36
                         case measure => have := HK1.out; have := HK2.out; have := HJ17.out; have := HJ20.out; have := HK5.out; have := HJ36.out; omega
                         case rel => exact ⟨(y379), (y377), (wrap64 (x9_5 + 1)), mE, H', ⟨by have := HK1.out; have := HK2.out; have := HJ17.out; have := HJ20.out; have := HK5.out; have := HJ36.out; omega⟩, ⟨mR HO381.out⟩, ⟨mSd HO_4.out⟩, ⟨by refine mR ?_; exact Kd.R_mono HO_5.out (fun _ hk => hk.2)⟩, ⟨mR HO_6.out⟩, ⟨mK BK356.out⟩, ⟨(mH1 HB.out GE356.out)⟩⟩
                        ·rw [if_neg c54] at H
                         exact absurd H (by simp)
                       ·rw [if_neg c53] at H
                        exact absurd H (by simp)
                      ·rw [if_neg c51] at H
                       exact absurd H (by simp)
                     ·rw [if_neg c50] at H
                      exact absurd H (by simp)
                    ·replace c49 := Bool.eq_false_iff.mpr c49
                     subst c49
                     have H1 := H
                     rw [if_neg (show ¬ (false = true) by decide)] at H1
                     clear H
                     have H := H1
                     clear H1
                     have H' := mS H
                     clear H
                     go_wp2
                     go_roundg kj36
                     case measure => have := HK1.out; have := HK2.out; have := HJ17.out; have := HJ20.out; have := HK5.out; have := HJ36.out; omega
                     case rel => exact ⟨(x3_5), (x6_5), (wrap64 (x9_5 + 1)), mE, H', ⟨by have := HK1.out; have := HK2.out; have := HJ17.out; have := HJ20.out; have := HK5.out; have := HJ36.out; omega⟩, ⟨mR HO_3.out⟩, ⟨mSd HO_4.out⟩, ⟨mR HO_5.out⟩, ⟨mR HO_6.out⟩, ⟨mK BK356.out⟩, ⟨(mH1 HB.out GE356.out)⟩⟩
                 ·rw [if_neg c36] at H
                  have c36b0 := decide_eq_false c36
                  clear c36
                  have H' := mS H
                  clear H
                  go_wp2
                  go_roundg k5
                  case measure => have := HK1.out; have := HK2.out; have := HJ17.out; have := HJ20.out; have := HK5.out; omega
                  case rel => exact ⟨(x3_5), (x6_5), (true), (wrap64 (x8_2 + 1)), mE, mE, H', ⟨by have := HK1.out; have := HK2.out; have := HJ17.out; have := HJ20.out; have := HK5.out; omega⟩, ⟨mR HO_3.out⟩, ⟨mSd HO_4.out⟩, ⟨mR HO_5.out⟩, ⟨mR HO_6.out⟩, ⟨mK BK356.out⟩, ⟨(mH1 HB.out GE356.out)⟩⟩
           ·replace c20 := Bool.eq_false_iff.mpr c20
            subst c20
            have H1 := H
            rw [if_neg (show ¬ (false = true) by decide)] at H1
            clear H
            have H := H1
            clear H1
            have H' := mS H
            clear H
            go_wp2
            go_roundg kj17
            case measure => have := HK1.out; have := HK2.out; have := HJ17.out; omega
            case rel => exact ⟨(x3_2), (x6_2), (x7_2), mE, H', ⟨by have := HK1.out; have := HK2.out; have := HJ17.out; omega⟩, ⟨mR HO_3.out⟩, ⟨mSd HO_4.out⟩, ⟨mR HO_5.out⟩, ⟨mR HO_6.out⟩, ⟨mK BK356.out⟩, ⟨(mH1 HB.out GE356.out)⟩⟩
      ·replace c17 := Bool.eq_false_iff.mpr c17
       subst c17
       have H1 := H
       rw [if_neg (show ¬ (false = true) by decide)] at H1
       clear H
       have H := H1
       clear H1
       obtain rfl := Option.some.inj H
       go_wp2
       go_ret
       exact ⟨_, mEw, mR HO_3.out, (mH1 HB.out GE356.out)⟩
   ·rw [if_neg c6] at H
    exact absurd H (by simp)
  ·rw [if_neg c5] at H
   exact absurd H (by simp)
 ·replace c3 := Bool.eq_false_iff.mpr c3
  subst c3
  have H1 := H
  rw [if_neg (show ¬ (false = true) by decide)] at H1
  clear H
  have H := H1
  clear H1
  obtain rfl := Option.some.inj H
  go_enter Try.func37, Try.ntmps37
  go_wp2_with (first | ((with_reducible refine gate_dst (N := 1) rfl ?_); refine mBx 1 #[.slice A0_0 l0_0.length c0_0] 26 ?_; intro gb356 hg w59 hbox hb; have BK356 := mS (hbox); have GW356 := mG hg (mH HB.out); have GE356 := mG hg (mH HB.out); replace HB := mS (below_step (mH HB.out) hb); clear hb hbox hg) | ((with_reducible refine gate_dst (N := 10) rfl ?_); refine Kd.R_lit k31 _ 31 ?hg (N := 10) ?hd (xs := ([] : List (S31))) (inner := []) (ok := fun _ => True) (okp := fun _ => True) ?hr ?hp (fun _ hk => hk) trivial (Below.refl _ _) (Nat.le_refl _) (by simp) ?_; (case hd => rfl); (case hg => rfl); (case hr => first | (go_simp; done) | (go_simp; rfl)); (case hp => exact (Reps.none _ _)); intro v358 w60 ho61 hb hg_ hnew_; clear hg_ hnew_; (first | rw [← Ny357.out] at ho61 | (simp only [Int.reduceToNat] at ho61; rw [← Ny357.out] at ho61)); have HO359 := mS (Kd.R_lower ho61 (below_size (mH1 HB.out GE356.out))); replace BK356 := mB BK356 hb; replace HB := mS (below_step (mH1 HB.out GE356.out) hb); clear hb ho61; have hcz62_0 := mZ BK356.out 0; have hfz62_0 := blk_frozen BK356.out 0) | ((with_reducible refine gate_callee (f := 73) rfl ?_); refine mGo 12 Try.func73 #[.agg #[.slice A0_0 l0_0.length c0_0]] ?_; (with_reducible refine (spec_GraphOk.calls k _ _ l0_0 false _ ?side1 ?side2 A2.out).mono ?_); (case side1 => exact mC (Kd.C_below HR0_0.out HB.out)); (case side2 => exact HC0_0.out); rintro e w63 ⟨rfl, hb⟩; refine ⟨_, rfl, ?_⟩; replace HO359 := mS (Kd.R_below (mR HO359.out) hb); replace BK356 := mB BK356 hb; replace HB := mS (below_step (mH1 HB.out GE356.out) hb); (try clear hb)))
  go_ret
  exact ⟨_, mEw, mR HO359.out, (mH1 HB.out GE356.out)⟩

end Go.Proofs.Ytgbejjeephipeaa.MFnExactOrderOf
