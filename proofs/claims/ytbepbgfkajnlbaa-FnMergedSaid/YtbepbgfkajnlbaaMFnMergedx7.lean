-- Written by mp.py, this session's own printer (wip/mp.py).
import Derived.Test.YtbepbgfkajnlbaaVMShort
import Derived.Test.YtbepbgfkajnlbaaMFnMergedx0
namespace Go.Proofs.Ytbepbgfkajnlbaa.MFnMerged
open Go.RowKit Go.Proofs.YtbepbgfkajnlbaaW.PrintWords Go.Proofs.YtbepbgfkajnlbaaW.PrintLast Go.Proofs.YtbepbgfkajnlbaaW.PrintMore Go.Proofs.Ytbepbgfkajnlbaa.MWords
attribute [local go_sem] max2_int min2_int max_two min_two max_three min_three max_four min_four   -- for this text's walks alone
set_option linter.unusedVariables false
set_option linter.unusedSimpArgs false

/-! ### impl_merge: function 111 -/
mutual
def impl_merge.l0 : Nat → List (List (S33)) → Bool → List Int → List (S33) → Option ((List (S33)))
 | 0, _, _, _, _ => none
 | k + 1, x0, x1, x5, x6 => impl_merge.l1 k x0 x1 x5 x6 (-1) x0 (x0.length : Int) 0
def impl_merge.l1 : Nat → List (List (S33)) → Bool → List Int → List (S33) → Int → List (List (S33)) → Int → Int → Option ((List (S33)))
 | 0, _, _, _, _, _, _, _, _ => none
 | k + 1, x0, x1, x5, x6, x7, x16, x17, x18 => if x18 < x17 then (if 0 ≤ x18 then (if x18 < (x16.length : Int) then (if x18 < (x5.length : Int) then (if (rd x5 x18) < ((rd_L4 x16 x18).length : Int) then (if x7 < 0 then (impl_merge.j2 k x0 x1 x5 x6 x7 x18 x16 x17 x18 true) else (if 0 ≤ (rd x5 x18) then (if 0 ≤ x7 then (if x7 < (x0.length : Int) then (if x7 < (x5.length : Int) then (if 0 ≤ (rd x5 x7) then (if (rd x5 x7) < ((rd_L4 x0 x7).length : Int) then (impl_merge.j2 k x0 x1 x5 x6 x7 x18 x16 x17 x18 (Op.bytesLess (((rd_T33 (rd_L4 x16 x18) (rd x5 x18)).f0).toList) (((rd_T33 (rd_L4 x0 x7) (rd x5 x7)).f0).toList))) else (none)) else (none)) else (none)) else (none)) else (none)) else (none))) else (impl_merge.j2 k x0 x1 x5 x6 x7 x18 x16 x17 x18 false)) else (none)) else (none)) else (none)) else (if x7 < 0 then (some x6) else (if 0 ≤ x7 then (if x7 < (x0.length : Int) then (if x7 < (x5.length : Int) then (if 0 ≤ (rd x5 x7) then (if (rd x5 x7) < ((rd_L4 x0 x7).length : Int) then (impl_merge.l2 k x0 x1 x5 x6 x0 (x0.length : Int) 0 ((rd_T33 (rd_L4 x0 x7) (rd x5 x7)).f0) ((rd_T33 (rd_L4 x0 x7) (rd x5 x7)).f1) ((rd_T33 (rd_L4 x0 x7) (rd x5 x7)).f2)) else (none)) else (none)) else (none)) else (none)) else (none)))
def impl_merge.j2 : Nat → List (List (S33)) → Bool → List Int → List (S33) → Int → Int → List (List (S33)) → Int → Int → Bool → Option ((List (S33)))
 | 0, _, _, _, _, _, _, _, _, _, _ => none
 | k + 1, x0, x1, x5, x6, x7, x8, x16, x17, x18, x55 => if x55 = true then (impl_merge.l1 k x0 x1 x5 x6 x8 x16 x17 (wrap64 (x18 + 1))) else (impl_merge.l1 k x0 x1 x5 x6 x7 x16 x17 (wrap64 (x18 + 1)))
def impl_merge.l2 : Nat → List (List (S33)) → Bool → List Int → List (S33) → List (List (S33)) → Int → Int → ByteArray → ByteArray → Bool → Option ((List (S33)))
 | 0, _, _, _, _, _, _, _, _, _, _ => none
 | k + 1, x0, x1, x5, x6, x71, x72, x73, x170000, x170001, x170002 => if x73 < x72 then (if 0 ≤ x73 then (if x73 < (x71.length : Int) then (if x73 < (x5.length : Int) then (if (rd x5 x73) < ((rd_L4 x71 x73).length : Int) then (if 0 ≤ (rd x5 x73) then (impl_merge.j4 k x0 x1 x5 x6 x73 x71 x72 x73 (((rd_T33 (rd_L4 x71 x73) (rd x5 x73)).f0).toList == x170000.toList) x170000 x170001 x170002) else (none)) else (impl_merge.j4 k x0 x1 x5 x6 x73 x71 x72 x73 false x170000 x170001 x170002)) else (none)) else (none)) else (none)) else (if x1 = true then (impl_merge.j5 k x0 x1 x5 x6 (!x170002) x170000 x170001 x170002) else (impl_merge.j5 k x0 x1 x5 x6 true x170000 x170001 x170002))
def impl_merge.j4 : Nat → List (List (S33)) → Bool → List Int → List (S33) → Int → List (List (S33)) → Int → Int → Bool → ByteArray → ByteArray → Bool → Option ((List (S33)))
 | 0, _, _, _, _, _, _, _, _, _, _, _, _ => none
 | k + 1, x0, x1, x5, x6, x11, x71, x72, x73, x97, x170000, x170001, x170002 => if x97 = true then (if 0 ≤ x11 then (if x11 < (x5.length : Int) then (impl_merge.l2 k x0 x1 (x5.set (x11 : Int).toNat (wrap64 ((rd x5 x11) + 1))) x6 x71 x72 (wrap64 (x73 + 1)) x170000 x170001 x170002) else (none)) else (none)) else (impl_merge.l2 k x0 x1 x5 x6 x71 x72 (wrap64 (x73 + 1)) x170000 x170001 x170002)
def impl_merge.j5 : Nat → List (List (S33)) → Bool → List Int → List (S33) → Bool → ByteArray → ByteArray → Bool → Option ((List (S33)))
 | 0, _, _, _, _, _, _, _, _ => none
 | k + 1, x0, x1, x5, x6, x111, x170000, x170001, x170002 => if x111 = true then (if x6.length < 3518437208883 then (impl_merge.l0 k x0 x1 x5 (x6 ++ [(⟨x170000, x170001, x170002⟩ : S33)])) else (none)) else (impl_merge.l0 k x0 x1 x5 x6)
end
def impl_merge.f (k : Nat) (l0 : List (List (S33))) (a1 : Bool) : Option ((List (S33))) := if 0 ≤ (l0.length : Int) then (if ((l0.length : Int) : Int).toNat ≤ 35184372088832 then (impl_merge.l0 k l0 a1 (List.replicate ((l0.length : Int) : Int).toNat 0) ([] : List (S33))) else (none)) else (none)
theorem impl_merge.mono_l : ∀ k, (∀ y0 y1 y2 y3, LeO (impl_merge.l0 k y0 y1 y2 y3) (impl_merge.l0 (k + 1) y0 y1 y2 y3)) ∧ (∀ y0 y1 y2 y3 y4 y5 y6 y7, LeO (impl_merge.l1 k y0 y1 y2 y3 y4 y5 y6 y7) (impl_merge.l1 (k + 1) y0 y1 y2 y3 y4 y5 y6 y7)) ∧ (∀ y0 y1 y2 y3 y4 y5 y6 y7 y8 y9, LeO (impl_merge.j2 k y0 y1 y2 y3 y4 y5 y6 y7 y8 y9) (impl_merge.j2 (k + 1) y0 y1 y2 y3 y4 y5 y6 y7 y8 y9)) ∧ (∀ y0 y1 y2 y3 y4 y5 y6 y7 y8 y9, LeO (impl_merge.l2 k y0 y1 y2 y3 y4 y5 y6 y7 y8 y9) (impl_merge.l2 (k + 1) y0 y1 y2 y3 y4 y5 y6 y7 y8 y9)) ∧ (∀ y0 y1 y2 y3 y4 y5 y6 y7 y8 y9 y10 y11, LeO (impl_merge.j4 k y0 y1 y2 y3 y4 y5 y6 y7 y8 y9 y10 y11) (impl_merge.j4 (k + 1) y0 y1 y2 y3 y4 y5 y6 y7 y8 y9 y10 y11)) ∧ (∀ y0 y1 y2 y3 y4 y5 y6 y7, LeO (impl_merge.j5 k y0 y1 y2 y3 y4 y5 y6 y7) (impl_merge.j5 (k + 1) y0 y1 y2 y3 y4 y5 y6 y7))
 | 0 => ⟨fun _ _ _ _ r h => by simp [impl_merge.l0] at h, fun _ _ _ _ _ _ _ _ r h => by simp [impl_merge.l1] at h, fun _ _ _ _ _ _ _ _ _ _ r h => by simp [impl_merge.j2] at h, fun _ _ _ _ _ _ _ _ _ _ r h => by simp [impl_merge.l2] at h, fun _ _ _ _ _ _ _ _ _ _ _ _ r h => by simp [impl_merge.j4] at h, fun _ _ _ _ _ _ _ _ r h => by simp [impl_merge.j5] at h⟩
 | k + 1 => by
  obtain ⟨ih0, ih1, ih2, ih3, ih4, ih5⟩ := impl_merge.mono_l k
  refine ⟨?_, ?_, ?_, ?_, ?_, ?_⟩
  ·intro y0 y1 y2 y3
   unfold impl_merge.l0
   repeat' first
   | (with_reducible exact ih0 _ _ _ _)
   | (with_reducible exact ih1 _ _ _ _ _ _ _ _)
   | (with_reducible exact ih2 _ _ _ _ _ _ _ _ _ _)
   | (with_reducible exact ih3 _ _ _ _ _ _ _ _ _ _)
   | (with_reducible exact ih4 _ _ _ _ _ _ _ _ _ _ _ _)
   | (with_reducible exact ih5 _ _ _ _ _ _ _ _)
   | (with_reducible exact LeO.refl _)
   | (with_reducible exact LeO.none _)
   | (with_reducible refine LeO.ite ?_ ?_)
   | (with_reducible refine LeO.bind ?_ (fun _ => ?_))
   | exact ih0 _ _ _ _
   | exact ih1 _ _ _ _ _ _ _ _
   | exact ih2 _ _ _ _ _ _ _ _ _ _
   | exact ih3 _ _ _ _ _ _ _ _ _ _
   | exact ih4 _ _ _ _ _ _ _ _ _ _ _ _
   | exact ih5 _ _ _ _ _ _ _ _
   | exact LeO.none _
   | refine LeO.ite ?_ ?_
   | refine LeO.bind ?_ (fun _ => ?_)
  ·intro y0 y1 y2 y3 y4 y5 y6 y7
   unfold impl_merge.l1
   repeat' first
   | (with_reducible exact ih0 _ _ _ _)
   | (with_reducible exact ih1 _ _ _ _ _ _ _ _)
   | (with_reducible exact ih2 _ _ _ _ _ _ _ _ _ _)
   | (with_reducible exact ih3 _ _ _ _ _ _ _ _ _ _)
   | (with_reducible exact ih4 _ _ _ _ _ _ _ _ _ _ _ _)
   | (with_reducible exact ih5 _ _ _ _ _ _ _ _)
   | (with_reducible exact LeO.refl _)
   | (with_reducible exact LeO.none _)
   | (with_reducible refine LeO.ite ?_ ?_)
   | (with_reducible refine LeO.bind ?_ (fun _ => ?_))
   | exact ih0 _ _ _ _
   | exact ih1 _ _ _ _ _ _ _ _
   | exact ih2 _ _ _ _ _ _ _ _ _ _
   | exact ih3 _ _ _ _ _ _ _ _ _ _
   | exact ih4 _ _ _ _ _ _ _ _ _ _ _ _
   | exact ih5 _ _ _ _ _ _ _ _
   | exact LeO.none _
   | refine LeO.ite ?_ ?_
   | refine LeO.bind ?_ (fun _ => ?_)
  ·intro y0 y1 y2 y3 y4 y5 y6 y7 y8 y9
   unfold impl_merge.j2
   repeat' first
   | (with_reducible exact ih0 _ _ _ _)
   | (with_reducible exact ih1 _ _ _ _ _ _ _ _)
   | (with_reducible exact ih2 _ _ _ _ _ _ _ _ _ _)
   | (with_reducible exact ih3 _ _ _ _ _ _ _ _ _ _)
   | (with_reducible exact ih4 _ _ _ _ _ _ _ _ _ _ _ _)
   | (with_reducible exact ih5 _ _ _ _ _ _ _ _)
   | (with_reducible exact LeO.refl _)
   | (with_reducible exact LeO.none _)
   | (with_reducible refine LeO.ite ?_ ?_)
   | (with_reducible refine LeO.bind ?_ (fun _ => ?_))
   | exact ih0 _ _ _ _
   | exact ih1 _ _ _ _ _ _ _ _
   | exact ih2 _ _ _ _ _ _ _ _ _ _
   | exact ih3 _ _ _ _ _ _ _ _ _ _
   | exact ih4 _ _ _ _ _ _ _ _ _ _ _ _
   | exact ih5 _ _ _ _ _ _ _ _
   | exact LeO.none _
   | refine LeO.ite ?_ ?_
   | refine LeO.bind ?_ (fun _ => ?_)
  ·intro y0 y1 y2 y3 y4 y5 y6 y7 y8 y9
   unfold impl_merge.l2
   repeat' first
   | (with_reducible exact ih0 _ _ _ _)
   | (with_reducible exact ih1 _ _ _ _ _ _ _ _)
   | (with_reducible exact ih2 _ _ _ _ _ _ _ _ _ _)
   | (with_reducible exact ih3 _ _ _ _ _ _ _ _ _ _)
   | (with_reducible exact ih4 _ _ _ _ _ _ _ _ _ _ _ _)
   | (with_reducible exact ih5 _ _ _ _ _ _ _ _)
   | (with_reducible exact LeO.refl _)
   | (with_reducible exact LeO.none _)
   | (with_reducible refine LeO.ite ?_ ?_)
   | (with_reducible refine LeO.bind ?_ (fun _ => ?_))
   | exact ih0 _ _ _ _
   | exact ih1 _ _ _ _ _ _ _ _
   | exact ih2 _ _ _ _ _ _ _ _ _ _
   | exact ih3 _ _ _ _ _ _ _ _ _ _
   | exact ih4 _ _ _ _ _ _ _ _ _ _ _ _
   | exact ih5 _ _ _ _ _ _ _ _
   | exact LeO.none _
   | refine LeO.ite ?_ ?_
   | refine LeO.bind ?_ (fun _ => ?_)
  ·intro y0 y1 y2 y3 y4 y5 y6 y7 y8 y9 y10 y11
   unfold impl_merge.j4
   repeat' first
   | (with_reducible exact ih0 _ _ _ _)
   | (with_reducible exact ih1 _ _ _ _ _ _ _ _)
   | (with_reducible exact ih2 _ _ _ _ _ _ _ _ _ _)
   | (with_reducible exact ih3 _ _ _ _ _ _ _ _ _ _)
   | (with_reducible exact ih4 _ _ _ _ _ _ _ _ _ _ _ _)
   | (with_reducible exact ih5 _ _ _ _ _ _ _ _)
   | (with_reducible exact LeO.refl _)
   | (with_reducible exact LeO.none _)
   | (with_reducible refine LeO.ite ?_ ?_)
   | (with_reducible refine LeO.bind ?_ (fun _ => ?_))
   | exact ih0 _ _ _ _
   | exact ih1 _ _ _ _ _ _ _ _
   | exact ih2 _ _ _ _ _ _ _ _ _ _
   | exact ih3 _ _ _ _ _ _ _ _ _ _
   | exact ih4 _ _ _ _ _ _ _ _ _ _ _ _
   | exact ih5 _ _ _ _ _ _ _ _
   | exact LeO.none _
   | refine LeO.ite ?_ ?_
   | refine LeO.bind ?_ (fun _ => ?_)
  ·intro y0 y1 y2 y3 y4 y5 y6 y7
   unfold impl_merge.j5
   repeat' first
   | (with_reducible exact ih0 _ _ _ _)
   | (with_reducible exact ih1 _ _ _ _ _ _ _ _)
   | (with_reducible exact ih2 _ _ _ _ _ _ _ _ _ _)
   | (with_reducible exact ih3 _ _ _ _ _ _ _ _ _ _)
   | (with_reducible exact ih4 _ _ _ _ _ _ _ _ _ _ _ _)
   | (with_reducible exact ih5 _ _ _ _ _ _ _ _)
   | (with_reducible exact LeO.refl _)
   | (with_reducible exact LeO.none _)
   | (with_reducible refine LeO.ite ?_ ?_)
   | (with_reducible refine LeO.bind ?_ (fun _ => ?_))
   | exact ih0 _ _ _ _
   | exact ih1 _ _ _ _ _ _ _ _
   | exact ih2 _ _ _ _ _ _ _ _ _ _
   | exact ih3 _ _ _ _ _ _ _ _ _ _
   | exact ih4 _ _ _ _ _ _ _ _ _ _ _ _
   | exact ih5 _ _ _ _ _ _ _ _
   | exact LeO.none _
   | refine LeO.ite ?_ ?_
   | refine LeO.bind ?_ (fun _ => ?_)
theorem impl_merge.mono : ∀ a0 a1 k, LeO (impl_merge.f k a0 a1) (impl_merge.f (k + 1) a0 a1) := by
 intro a0 a1 k
 obtain ⟨ih0, ih1, ih2, ih3, ih4, ih5⟩ := impl_merge.mono_l k
 unfold impl_merge.f
 repeat' first
   | (with_reducible exact ih0 _ _ _ _)
   | (with_reducible exact ih1 _ _ _ _ _ _ _ _)
   | (with_reducible exact ih2 _ _ _ _ _ _ _ _ _ _)
   | (with_reducible exact ih3 _ _ _ _ _ _ _ _ _ _)
   | (with_reducible exact ih4 _ _ _ _ _ _ _ _ _ _ _ _)
   | (with_reducible exact ih5 _ _ _ _ _ _ _ _)
   | (with_reducible exact LeO.refl _)
   | (with_reducible exact LeO.none _)
   | (with_reducible refine LeO.ite ?_ ?_)
   | (with_reducible refine LeO.bind ?_ (fun _ => ?_))
   | exact ih0 _ _ _ _
   | exact ih1 _ _ _ _ _ _ _ _
   | exact ih2 _ _ _ _ _ _ _ _ _ _
   | exact ih3 _ _ _ _ _ _ _ _ _ _
   | exact ih4 _ _ _ _ _ _ _ _ _ _ _ _
   | exact ih5 _ _ _ _ _ _ _ _
   | exact LeO.none _
   | refine LeO.ite ?_ ?_
   | refine LeO.bind ?_ (fun _ => ?_)
def impl_merge.T7 : Bool × List (List Nat × List Nat) := (true, [([], []), ([], []), ([0, 1], [0, 1]), ([2], [2]), ([], []), ([4], [4]), ([3, 5], [3, 5]), ([6], [6]), ([7], [7]), ([8, 7], [7, 8]), ([9, 7, 7], [7, 9]), ([10], [10]), ([10], [10]), ([10], [10]), ([12, 13, 10], [10, 12, 13]), ([14, 10], [10, 14]), ([11, 15, 10], [10, 11, 15]), ([16, 10], [10, 16]), ([17, 10], [10, 17]), ([10], [10]), ([10], [10]), ([19, 20, 10], [10, 19, 20]), ([21, 10], [10, 21]), ([10], [10]), ([10], [10]), ([23, 24, 10], [10, 23, 24]), ([25, 10], [10, 25]), ([22, 26, 10], [10, 22, 26]), ([27, 10], [10, 27]), ([28, 10], [10, 28]), ([18, 29, 10], [10, 18, 29]), ([10, 30, 7], [7, 10, 30]), ([7, 31], [7, 31])])
def impl_merge.B7 : List Nat := [0, 0, 3, 7, 0, 16, 63, 127, 255, 511, 1023, 2047, 2047, 2047, 14335, 30719, 65535, 131071, 262143, 2047, 2047, 1574911, 3672063, 2047, 2047, 25167871, 58722303, 133695487, 267913215, 536348671, 1073741823, 2147483647, 4294967295]
theorem impl_merge.tab7 : rtab .any (opsOf Try.f111 7) = impl_merge.T7 := by kernel_rfl
theorem impl_merge.bits7 : waitsOk impl_merge.T7.2 impl_merge.B7 = true := by kernel_rfl
def impl_merge.T12 : Bool × List (List Nat × List Nat) := (true, [([], []), ([], []), ([0, 1], [0, 1]), ([2], [2]), ([], []), ([], []), ([4, 5], [4, 5]), ([6], [6]), ([3, 7], [3, 7]), ([8], [8]), ([], []), ([10, 9, 0, 1, 2, 3, 4, 5, 6, 7, 8, 9, 10], [9, 10])])
def impl_merge.B12 : List Nat := [0, 0, 3, 7, 0, 0, 48, 112, 255, 511, 0, 2047]
theorem impl_merge.tab12 : rtab .any (opsOf Try.f111 12) = impl_merge.T12 := by kernel_rfl
theorem impl_merge.bits12 : waitsOk impl_merge.T12.2 impl_merge.B12 = true := by kernel_rfl
def impl_merge.T16 : Bool × List (List Nat × List Nat) := (true, [([], []), ([], []), ([0, 1], [0, 1]), ([2], [2]), ([], []), ([4], [4]), ([3, 5], [3, 5]), ([6], [6]), ([7], [7]), ([7], [7]), ([7], [7]), ([9, 10, 7], [7, 9, 10]), ([11, 7], [7, 11]), ([8, 12, 7], [7, 8, 12]), ([13, 7], [7, 13]), ([14, 7], [7, 14]), ([7], [7]), ([16, 7], [7, 16]), ([15, 17, 7], [7, 15, 17]), ([7, 18], [7, 18])])
def impl_merge.B16 : List Nat := [0, 0, 3, 7, 0, 16, 63, 127, 255, 255, 255, 1791, 3839, 8191, 16383, 32767, 255, 65791, 262143, 524287]
theorem impl_merge.tab16 : rtab .any (opsOf Try.f111 16) = impl_merge.T16 := by kernel_rfl
theorem impl_merge.bits16 : waitsOk impl_merge.T16.2 impl_merge.B16 = true := by kernel_rfl
set_option maxHeartbeats 8000000 in
set_option maxRecDepth 100000 in
theorem impl_merge.calls (k : Nat) (A0 : Option Addr) (c0 : Nat) (l0 : List (List (S33))) (a1 : Bool) (r : List (S33)) (w : World) (hr0 : Kd.C (Kd.slice 33 k33) w A0 l0.length l0) (hc0 : l0.length ≤ c0) (h : impl_merge.f k l0 a1 = some r) :
  Calls Try.prog 111 #[.slice A0 l0.length c0, .bool a1] w fun e w' => ∃ v0_ : Value, e = .returned (v0_) ∧ Kd.R k33 33 w' w.heap.size (fun _ => True) v0_ r ∧ Below w.heap.size w w' := by
 have hu33 := Try.underlying33
 have HR0 := mS hr0
 have HC0 := mS hc0
 clear hr0 hc0
 have HB := mS (Below.refl w.heap.size w)
 have H : (if 0 ≤ (l0.length : Int) then (if ((l0.length : Int) : Int).toNat ≤ 35184372088832 then (impl_merge.l0 k l0 a1 (List.replicate ((l0.length : Int) : Int).toNat 0) ([] : List (S33))) else (none)) else (none)) = some r := h
 clear h
 by_cases c3 : 0 ≤ (l0.length : Int)
 ·rw [if_pos c3] at H
  have c3b0 := eq_true c3
  have c3b1 : decide (0 ≤ (l0.length : Int)) = true := decide_eq_true c3
  clear c3
  by_cases c4 : ((l0.length : Int) : Int).toNat ≤ 35184372088832
  ·rw [if_pos c4] at H
   have c4b0 := eq_true c4
   have c4b1 : decide (((l0.length : Int) : Int).toNat ≤ 35184372088832) = true := decide_eq_true c4
   clear c4
   obtain ⟨y156, hy156⟩ : ∃ y_ : List Int, y_ = (List.replicate ((l0.length : Int) : Int).toNat 0) := ⟨_, rfl⟩
   replace H : (impl_merge.l0 k l0 a1 y156 ([] : List (S33))) = some r := by first | (rw [hy156]; with_reducible exact H) | (have H2_ := (Option.bind_some _ _).symm.trans H; rw [hy156]; with_reducible exact H2_) | (have H2_ := (Option.bind_some _ _).symm.trans H; with_reducible exact H2_) | with_reducible exact H | (rw [hy156]; exact H) | exact H
   have Ny156 := mS hy156
   clear hy156
   have H' := mS H
   clear H
   go_enter Try.func111, Try.ntmps111
   go_wp2_with (first | ((with_reducible refine gate_dst (N := 15) rfl ?_); refine Kd.R_make (Kd.int .i64) _ 3 rfl (N := 15) rfl 29 _ _ rfl (l0.length : Int) rfl rfl Try.underlying29 (.int .i64 0) 8 info3 rfl (by decide) (by omega) 0 (ok := fun _ => True) (okp := fun _ => True) rfl (fun _ hk => hk) trivial (of_decide_eq_true (by first | (with_reducible assumption) | assumption)) (Nat.le_trans (Nat.mul_le_mul_right _ (of_decide_eq_true (by first | (with_reducible assumption) | assumption) : (l0.length : Int).toNat ≤ 35184372088832)) (by omega)) (Below.refl _ _) (Nat.le_refl _) ?_; intro v157 w5 ho6 hb hg_ hnew_; clear hg_ hnew_; (first | rw [← Ny156.out] at ho6 | (simp only [Int.reduceToNat] at ho6; rw [← Ny156.out] at ho6)); have HO158 := mS (Kd.R_lower ho6 (below_size (mH HB.out))); replace HB := mS (below_step (mH HB.out) hb); clear hb ho6))
   go_loopg [6] k (fun kq v6 w' => ∃ (x5_1 : List Int) (x6_1 : List (S33)), Aside0 (impl_merge.l0 kq l0 a1 x5_1 x6_1 = some r) ∧ Aside0 (kq ≤ k) ∧ Aside0 (Kd.R (Kd.int .i64) 3 w' w.heap.size (fun _ => True) v157 x5_1) ∧ Aside0 (Kd.R k33 33 w' w.heap.size (fun _ => True) v6 x6_1) ∧ Aside0 (Below w.heap.size w w'))
   case atStart => exact ⟨(y156), (([] : List (S33))), H', ⟨Nat.le_refl _⟩, ⟨by (with_reducible repeat (first | apply Kd.R_alloc | apply Kd.R_drewN | apply Kd.R_drew)); exact HO158.out⟩, ⟨by first | exact Kd.R_nil _ _ _ _ _ | exact Kd.N_nil _ _ _ _ _ | exact Kd.V_nil _ _ _ _ _ | exact Kd.Q_nil _ _ _ _ _ | exact Kd.S_nil _ _ _ _ _⟩, ⟨(mH HB.out)⟩⟩
   case round =>
    clear H'
    try clear c1
    try clear p2
    try clear c3
    try clear c3b0
    try clear c3b1
    try clear c4
    try clear c4b0
    try clear c4b1
    obtain ⟨x5_1, x6_1, HA, HK1, HO_5, HO_6, HB⟩ := hrel
    cases gk with
    | zero => exact absurd HA.out (by simp [impl_merge.l0])
    | succ k1 =>
     have H := HA.out
     clear HA
     simp only [impl_merge.l0] at H
     have H' := mS H
     clear H
     go_wp2
     go_loopg [7, 18] k1 (fun kq v7 v18 w' => ∃ (x7_2 : Int) (x18_2 : Int), v7 = .int .i64 x7_2 ∧ v18 = .int .i64 x18_2 ∧ Aside0 (impl_merge.l1 kq l0 a1 x5_1 x6_1 x7_2 l0 (l0.length : Int) x18_2 = some r) ∧ Aside0 (kq ≤ k1) ∧ Aside0 (Kd.R (Kd.int .i64) 3 w' w.heap.size (fun _ => True) v157 x5_1) ∧ Aside0 (Kd.R k33 33 w' w.heap.size (fun _ => True) u6 x6_1) ∧ Aside0 (Below w.heap.size w w'))
     case atStart => exact ⟨((-1)), (0), (by first | rfl | (simp; done) | (simp [*]; done)), (by first | rfl | (simp; done) | (simp [*]; done)), H', ⟨Nat.le_refl _⟩, ⟨by (with_reducible repeat (first | apply Kd.R_alloc | apply Kd.R_drewN | apply Kd.R_drew)); exact HO_5.out⟩, ⟨by (with_reducible repeat (first | apply Kd.R_alloc | apply Kd.R_drewN | apply Kd.R_drew)); exact HO_6.out⟩, ⟨(mH HB.out)⟩⟩
     case round =>
      clear H'
      try clear c1
      try clear p2
      try clear c3
      try clear c3b0
      try clear c3b1
      try clear c4
      try clear c4b0
      try clear c4b1
      try clear p2
      obtain ⟨x7_2, x18_2, rfl, rfl, HA, HK2, HO_5, HO_6, HB⟩ := hrel
      cases gk with
      | zero => exact absurd HA.out (by simp [impl_merge.l1])
      | succ k2 =>
       have H := HA.out
       clear HA
       simp only [impl_merge.l1] at H
       by_cases c7 : x18_2 < (l0.length : Int)
       ·rw [if_pos c7] at H
        have c7b0 : decide (x18_2 < (l0.length : Int)) = true := decide_eq_true c7
        clear c7
        by_cases c8 : 0 ≤ x18_2
        ·rw [if_pos c8] at H
         have c8b0 : decide (0 ≤ x18_2) = true := decide_eq_true c8
         clear c8
         by_cases c9 : x18_2 < (l0.length : Int)
         ·rw [if_pos c9] at H
          have c9b0 : decide (x18_2 < (l0.length : Int)) = true := decide_eq_true c9
          clear c9
          have HC10 := mS H
          clear H
          have p159 : 0 ≤ (x18_2 : Int) := of_decide_eq_true (by first | (with_reducible assumption) | assumption)
          have q159 : x18_2 < (l0.length : Int) := of_decide_eq_true (by first | (with_reducible assumption) | assumption)
          obtain ⟨ad159, A159_0, c159_0, e159, hx159_0, hl159_0, hi159_0⟩ := at_L4 HR0.out x18_2 p159 q159
          cases e159
          replace hx159_0 := mX HB.out hx159_0
          have HR159_0 := mS hi159_0
          have HC159_0 := mS hl159_0
          clear hi159_0 hl159_0
          replace p159 := eq_true p159
          replace q159 := eq_true q159
          go_upto_region 7 with (fail)
          go_cut [55] (fun v55 wc => ∃ (kq : Nat) (x55_9 : Bool), v55 = .bool x55_9 ∧ Aside0 (impl_merge.j2 kq l0 a1 x5_1 x6_1 x7_2 x18_2 l0 (l0.length : Int) x18_2 x55_9 = some r) ∧ Aside0 (kq ≤ k2) ∧ Aside0 (Kd.R (Kd.int .i64) 3 wc w.heap.size (fun _ => True) v157 x5_1) ∧ Aside0 (Kd.R k33 33 wc w.heap.size (fun _ => True) u6 x6_1) ∧ Aside0 (Below w.heap.size w wc))
          case first =>
           have H := HC10.out
           clear HC10
           by_cases c11 : x18_2 < (x5_1.length : Int)
           ·rw [if_pos c11] at H
            have c11b0 : decide (x18_2 < (x5_1.length : Int)) = true := decide_eq_true c11
            clear c11
            (first | rw [c11b0] | (simp only [i64_w, i32_w]; rw [c11b0]) | skip)
            by_cases c12 : (rd x5_1 x18_2) < ((rd_L4 l0 x18_2).length : Int)
            ·rw [if_pos c12] at H
             have c12b0 : decide ((rd x5_1 x18_2) < ((rd_L4 l0 x18_2).length : Int)) = true := decide_eq_true c12
             clear c12
             by_cases c13 : x7_2 < 0
             ·rw [if_pos c13] at H
              have c13b0 : decide (x7_2 < 0) = true := decide_eq_true c13
              clear c13
              have H' := mS H
              clear H
              try go_wp2
              have n0_ := mS (Kd.R_drew HO_5.out)
              have n1_ := mS (Kd.R_drew HO_6.out)
              have n2_ := mS (below_drew1 HB.out)
              clear HO_5
              clear HO_6
              clear HB
              have HO_5 := n0_
              have HO_6 := n1_
              have HB := n2_
              clear n0_ n1_ n2_
              obtain ⟨Ao15, co15, eo15⟩ := Kd.R_slice HO_5.out
              (first | subst eo15 | (injection eo15 with f1_ f2_ f3_; have f4_ := f1_.symm; have f5_ := f3_.symm; clear f1_ f2_ f3_; subst f4_; subst f5_))
              have p160 : 0 ≤ (x18_2 : Int) := of_decide_eq_true (by first | (with_reducible assumption) | assumption)
              have q160 : x18_2 < (x5_1.length : Int) := of_decide_eq_true (by first | (with_reducible assumption) | assumption)
              obtain ⟨ad160, e160, hx160_0⟩ := Kd.at_int (Kd.R_reads' HO_5.out).2.2 x18_2 p160 q160
              cases e160
              replace p160 := eq_true p160
              replace q160 := eq_true q160
              refine start_ (n := 33) (S := fun w' => w'.cell? (ad160.add (x18_2).toNat) = some (.int .i64 (rd x5_1 x18_2))) (ds := []) (mb 0 33) (by kernel_rfl) rfl rfl (hx160_0) (fun hHeld => ?_); refine with_tabW impl_merge.tab7 impl_merge.bits7 (fun HT_ HW_ => ?_)
              generalize wr.drew = w14 at HO_5 HO_6 HB hx160_0 hHeld ⊢
              refine mpu 0 23 HT_.out (mb 1 32) ?_
              refine mpu 1 24 HT_.out (mb 2 31) ?_
              refine mpu 2 25 HT_.out (mb 3 30) ?_
              refine mpu 4 27 HT_.out #[true, true, true, false, true, false, false, false, false, false, false, false, false, false, false, false, false, false, false, false, false, false, false, false, false, false, false, false, false, false, false, false, false] ?_
              refine mpu 5 28 HT_.out #[true, true, true, false, true, true, false, false, false, false, false, false, false, false, false, false, false, false, false, false, false, false, false, false, false, false, false, false, false, false, false, false, false] ?_
              refine take_ (i := 3) (N := some 26) (v := ?_) (a' := ?_) (mb 6 27) rfl rfl (take_ofW HT_.out HW_.out (by kernel_rfl)) (fun _ _ _ h => h) (Or.inl ⟨by rfl, ?_⟩) hHeld ?_ ?_
              rotate_left
              ·intro w' s0
               go_simp
               with_reducible rfl
              rotate_left
              ·simp only [Act.put, zA, zB, zC, i64_w, i32_w]
               rfl
              refine mpu 6 29 HT_.out (mb 7 26) ?_
              refine mpu 7 30 HT_.out (mb 8 25) ?_
              refine mpu 8 31 HT_.out (mb 9 24) ?_
              refine mpu 9 32 HT_.out (mb 10 23) ?_
              refine mpu 10 33 HT_.out (mb 11 22) ?_
              refine mpf 11 34 HT_.out (mb 12 21) ?_
              refine mpf 12 35 HT_.out (mb 13 20) ?_
              refine mpf 13 36 HT_.out (mb 14 19) ?_
              refine mpf 14 37 HT_.out (mb 15 18) ?_
              refine mpf 15 38 HT_.out (mb 16 17) ?_
              refine mpf 16 39 HT_.out (mb 17 16) ?_
              refine mpf 17 40 HT_.out (mb 18 15) ?_
              refine mpf 18 41 HT_.out (mb 19 14) ?_
              refine mpf 19 42 HT_.out (mb 20 13) ?_
              refine mpf 20 43 HT_.out (mb 21 12) ?_
              refine mpf 21 44 HT_.out (mb 22 11) ?_
              refine mpf 22 45 HT_.out (mb 23 10) ?_
              refine mpf 23 46 HT_.out (mb 24 9) ?_
              refine mpf 24 47 HT_.out (mb 25 8) ?_
              refine mpf 25 48 HT_.out (mb 26 7) ?_
              refine mpf 26 49 HT_.out (mb 27 6) ?_
              refine mpf 27 50 HT_.out (mb 28 5) ?_
              refine mpf 28 51 HT_.out (mb 29 4) ?_
              refine mpf 29 52 HT_.out (mb 30 3) ?_
              refine mpf 30 53 HT_.out (mb 31 2) ?_
              refine mpu 31 54 HT_.out (mb 32 1) ?_
              refine mpu 32 55 HT_.out (mb 33 0) ?_
              refine done_ (done_of HT_.out (by kernel_rfl)) ?_
              try go_wp2
              go_meet
              case rel => exact ⟨_, (true), (by first | rfl | (simp; done) | (simp [*]; done)), H', ⟨by have := HK1.out; have := HK2.out; first | omega | exact Nat.le_refl _⟩, ⟨by (with_reducible repeat (first | apply Kd.R_alloc | apply Kd.R_drewN | apply Kd.R_drew)); exact HO_5.out⟩, ⟨by (with_reducible repeat (first | apply Kd.R_alloc | apply Kd.R_drewN | apply Kd.R_drew)); exact HO_6.out⟩, ⟨(mH HB.out)⟩⟩
             ·rw [if_neg c13] at H
              have c13b0 : decide (x7_2 < 0) = false := decide_eq_false c13
              clear c13
              by_cases c16 : 0 ≤ (rd x5_1 x18_2)
              ·rw [if_pos c16] at H
               have c16b0 : decide (0 ≤ (rd x5_1 x18_2)) = true := decide_eq_true c16
               clear c16
               by_cases c17 : 0 ≤ x7_2
               ·rw [if_pos c17] at H
                have c17b0 : decide (0 ≤ x7_2) = true := decide_eq_true c17
                clear c17
                by_cases c18 : x7_2 < (l0.length : Int)
                ·rw [if_pos c18] at H
                 have c18b0 : decide (x7_2 < (l0.length : Int)) = true := decide_eq_true c18
                 clear c18
                 by_cases c19 : x7_2 < (x5_1.length : Int)
                 ·rw [if_pos c19] at H
                  have c19b0 : decide (x7_2 < (x5_1.length : Int)) = true := decide_eq_true c19
                  clear c19
                  by_cases c20 : 0 ≤ (rd x5_1 x7_2)
                  ·rw [if_pos c20] at H
                   have c20b0 : decide (0 ≤ (rd x5_1 x7_2)) = true := decide_eq_true c20
                   clear c20
                   by_cases c21 : (rd x5_1 x7_2) < ((rd_L4 l0 x7_2).length : Int)
                   ·rw [if_pos c21] at H
                    have c21b0 : decide ((rd x5_1 x7_2) < ((rd_L4 l0 x7_2).length : Int)) = true := decide_eq_true c21
                    clear c21
                    have H' := mS H
                    clear H
                    try go_wp2
                    have n0_ := mS (Kd.R_drew HO_5.out)
                    have n1_ := mS (Kd.R_drew HO_6.out)
                    have n2_ := mS (below_drew1 HB.out)
                    clear HO_5
                    clear HO_6
                    clear HB
                    have HO_5 := n0_
                    have HO_6 := n1_
                    have HB := n2_
                    clear n0_ n1_ n2_
                    obtain ⟨Ao23, co23, eo23⟩ := Kd.R_slice HO_5.out
                    (first | subst eo23 | (injection eo23 with f1_ f2_ f3_; have f4_ := f1_.symm; have f5_ := f3_.symm; clear f1_ f2_ f3_; subst f4_; subst f5_))
                    have p160 : 0 ≤ (x18_2 : Int) := of_decide_eq_true (by first | (with_reducible assumption) | assumption)
                    have q160 : x18_2 < (x5_1.length : Int) := of_decide_eq_true (by first | (with_reducible assumption) | assumption)
                    obtain ⟨ad160, e160, hx160_0⟩ := Kd.at_int (Kd.R_reads' HO_5.out).2.2 x18_2 p160 q160
                    cases e160
                    replace p160 := eq_true p160
                    replace q160 := eq_true q160
                    have p161 : 0 ≤ (x18_2 : Int) := of_decide_eq_true (by first | (with_reducible assumption) | assumption)
                    have q161 : x18_2 < (x5_1.length : Int) := of_decide_eq_true (by first | (with_reducible assumption) | assumption)
                    obtain ⟨ad161, e161, hx161_0⟩ := Kd.at_int (Kd.R_reads' HO_5.out).2.2 x18_2 p161 q161
                    obtain rfl : ad160 = ad161 := (by injection e161)
                    replace p161 := eq_true p161
                    replace q161 := eq_true q161
                    have p162 : 0 ≤ ((rd x5_1 x18_2) : Int) := of_decide_eq_true (by first | (with_reducible assumption) | assumption)
                    have q162 : (rd x5_1 x18_2) < ((rd_L4 l0 x18_2).length : Int) := of_decide_eq_true (by first | (with_reducible assumption) | assumption)
                    obtain ⟨ad162, e162, hx162_0, hx162_1, hx162_2⟩ := at_T33 HR159_0.out (rd x5_1 x18_2) p162 q162
                    have hw162_2 := hx162_2
                    have hw162_1 := hx162_1
                    have hw162_0 := hx162_0
                    cases e162
                    replace hx162_0 := mX HB.out hx162_0
                    replace hx162_1 := mX HB.out hx162_1
                    replace hx162_2 := mX HB.out hx162_2
                    replace p162 := eq_true p162
                    replace q162 := eq_true q162
                    have p163 : 0 ≤ (x7_2 : Int) := of_decide_eq_true (by first | (with_reducible assumption) | assumption)
                    have q163 : x7_2 < (l0.length : Int) := of_decide_eq_true (by first | (with_reducible assumption) | assumption)
                    obtain ⟨ad163, A163_0, c163_0, e163, hx163_0, hl163_0, hi163_0⟩ := at_L4 HR0.out x7_2 p163 q163
                    have hw163_0 := hx163_0
                    obtain rfl : ad159 = ad163 := (by injection e163)
                    replace hx163_0 := mX HB.out hx163_0
                    have HR163_0 := mS hi163_0
                    have HC163_0 := mS hl163_0
                    clear hi163_0 hl163_0
                    replace p163 := eq_true p163
                    replace q163 := eq_true q163
                    have p164 : 0 ≤ (x7_2 : Int) := of_decide_eq_true (by first | (with_reducible assumption) | assumption)
                    have q164 : x7_2 < (x5_1.length : Int) := of_decide_eq_true (by first | (with_reducible assumption) | assumption)
                    obtain ⟨ad164, e164, hx164_0⟩ := Kd.at_int (Kd.R_reads' HO_5.out).2.2 x7_2 p164 q164
                    obtain rfl : ad160 = ad164 := (by injection e164)
                    replace p164 := eq_true p164
                    replace q164 := eq_true q164
                    have p165 : 0 ≤ ((rd x5_1 x7_2) : Int) := of_decide_eq_true (by first | (with_reducible assumption) | assumption)
                    have q165 : (rd x5_1 x7_2) < ((rd_L4 l0 x7_2).length : Int) := of_decide_eq_true (by first | (with_reducible assumption) | assumption)
                    obtain ⟨ad165, e165, hx165_0, hx165_1, hx165_2⟩ := at_T33 HR163_0.out (rd x5_1 x7_2) p165 q165
                    have hw165_2 := hx165_2
                    have hw165_1 := hx165_1
                    have hw165_0 := hx165_0
                    cases e165
                    replace hx165_0 := mX HB.out hx165_0
                    replace hx165_1 := mX HB.out hx165_1
                    replace hx165_2 := mX HB.out hx165_2
                    replace p165 := eq_true p165
                    replace q165 := eq_true q165
                    refine start_ (n := 33) (S := fun w' => w'.cell? (ad160.add (x18_2).toNat) = some (.int .i64 (rd x5_1 x18_2)) ∧ w'.cell? (ad160.add (x18_2).toNat) = some (.int .i64 (rd x5_1 x18_2)) ∧ w'.cell? (ad162.add (((rd x5_1 x18_2)).toNat * 3)) = some (.string ((rd_T33 (rd_L4 l0 x18_2) (rd x5_1 x18_2)).f0)) ∧ w'.cell? ⟨(ad162.add (((rd x5_1 x18_2)).toNat * 3)).block, (ad162.add (((rd x5_1 x18_2)).toNat * 3)).off + 1, none⟩ = some (.string ((rd_T33 (rd_L4 l0 x18_2) (rd x5_1 x18_2)).f1)) ∧ w'.cell? ⟨(ad162.add (((rd x5_1 x18_2)).toNat * 3)).block, (ad162.add (((rd x5_1 x18_2)).toNat * 3)).off + 2, none⟩ = some (.bool ((rd_T33 (rd_L4 l0 x18_2) (rd x5_1 x18_2)).f2)) ∧ w'.cell? (ad159.add (x7_2).toNat) = some (.slice (some ad165) (rd_L4 l0 x7_2).length c163_0) ∧ w'.cell? (ad160.add (x7_2).toNat) = some (.int .i64 (rd x5_1 x7_2)) ∧ w'.cell? (ad165.add (((rd x5_1 x7_2)).toNat * 3)) = some (.string ((rd_T33 (rd_L4 l0 x7_2) (rd x5_1 x7_2)).f0)) ∧ w'.cell? ⟨(ad165.add (((rd x5_1 x7_2)).toNat * 3)).block, (ad165.add (((rd x5_1 x7_2)).toNat * 3)).off + 1, none⟩ = some (.string ((rd_T33 (rd_L4 l0 x7_2) (rd x5_1 x7_2)).f1)) ∧ w'.cell? ⟨(ad165.add (((rd x5_1 x7_2)).toNat * 3)).block, (ad165.add (((rd x5_1 x7_2)).toNat * 3)).off + 2, none⟩ = some (.bool ((rd_T33 (rd_L4 l0 x7_2) (rd x5_1 x7_2)).f2))) (ds := []) (mb 0 33) (by kernel_rfl) rfl rfl ⟨hx160_0, hx161_0, ((HB.out.cell (World.block_lt_of_cell? w _ hw162_0)).trans hw162_0), ((HB.out.cell (World.block_lt_of_cell? w _ hw162_1)).trans hw162_1), ((HB.out.cell (World.block_lt_of_cell? w _ hw162_2)).trans hw162_2), ((HB.out.cell (World.block_lt_of_cell? w _ hw163_0)).trans hw163_0), hx164_0, ((HB.out.cell (World.block_lt_of_cell? w _ hw165_0)).trans hw165_0), ((HB.out.cell (World.block_lt_of_cell? w _ hw165_1)).trans hw165_1), ((HB.out.cell (World.block_lt_of_cell? w _ hw165_2)).trans hw165_2)⟩ (fun hHeld => ?_); refine with_tabW impl_merge.tab7 impl_merge.bits7 (fun HT_ HW_ => ?_)
                    generalize wr.drew = w22 at HO_5 HO_6 HB HR163_0 hx160_0 hx161_0 hx162_0 hx162_1 hx162_2 hx163_0 hx164_0 hx165_0 hx165_1 hx165_2 hHeld ⊢
                    refine mpu 0 23 HT_.out (mb 1 32) ?_
                    refine mpu 1 24 HT_.out (mb 2 31) ?_
                    refine mpu 2 25 HT_.out (mb 3 30) ?_
                    refine mpu 4 27 HT_.out #[true, true, true, false, true, false, false, false, false, false, false, false, false, false, false, false, false, false, false, false, false, false, false, false, false, false, false, false, false, false, false, false, false] ?_
                    refine mpu 5 28 HT_.out #[true, true, true, false, true, true, false, false, false, false, false, false, false, false, false, false, false, false, false, false, false, false, false, false, false, false, false, false, false, false, false, false, false] ?_
                    refine mpt 3 26 HT_.out HW_.out (mb 6 27) hHeld ?_
                    refine mpu 6 29 HT_.out (mb 7 26) ?_
                    refine mpu 7 30 HT_.out (mb 8 25) ?_
                    refine mpu 8 31 HT_.out (mb 9 24) ?_
                    refine mpu 9 32 HT_.out (mb 10 23) ?_
                    refine mpu 10 33 HT_.out (mb 11 22) ?_
                    refine mpu 11 34 HT_.out (mb 12 21) ?_
                    refine mpu 12 35 HT_.out (mb 13 20) ?_
                    refine mpu 13 36 HT_.out (mb 14 19) ?_
                    refine mpu 14 37 HT_.out (mb 15 18) ?_
                    refine mpu 19 42 HT_.out #[true, true, true, true, true, true, true, true, true, true, true, true, true, true, true, false, false, false, false, true, false, false, false, false, false, false, false, false, false, false, false, false, false] ?_
                    refine mpu 20 43 HT_.out #[true, true, true, true, true, true, true, true, true, true, true, true, true, true, true, false, false, false, false, true, true, false, false, false, false, false, false, false, false, false, false, false, false] ?_
                    refine mpu 21 44 HT_.out #[true, true, true, true, true, true, true, true, true, true, true, true, true, true, true, false, false, false, false, true, true, true, false, false, false, false, false, false, false, false, false, false, false] ?_
                    refine mpu 23 46 HT_.out #[true, true, true, true, true, true, true, true, true, true, true, true, true, true, true, false, false, false, false, true, true, true, false, true, false, false, false, false, false, false, false, false, false] ?_
                    refine mpu 24 47 HT_.out #[true, true, true, true, true, true, true, true, true, true, true, true, true, true, true, false, false, false, false, true, true, true, false, true, true, false, false, false, false, false, false, false, false] ?_
                    refine mpu 25 48 HT_.out #[true, true, true, true, true, true, true, true, true, true, true, true, true, true, true, false, false, false, false, true, true, true, false, true, true, true, false, false, false, false, false, false, false] ?_
                    refine mpt 15 38 HT_.out HW_.out #[true, true, true, true, true, true, true, true, true, true, true, true, true, true, true, true, false, false, false, true, true, true, false, true, true, true, false, false, false, false, false, false, false] hHeld ?_
                    refine mpu 16 39 HT_.out #[true, true, true, true, true, true, true, true, true, true, true, true, true, true, true, true, true, false, false, true, true, true, false, true, true, true, false, false, false, false, false, false, false] ?_
                    refine mpu 17 40 HT_.out #[true, true, true, true, true, true, true, true, true, true, true, true, true, true, true, true, true, true, false, true, true, true, false, true, true, true, false, false, false, false, false, false, false] ?_
                    refine mpt 18 41 HT_.out HW_.out #[true, true, true, true, true, true, true, true, true, true, true, true, true, true, true, true, true, true, true, true, true, true, false, true, true, true, false, false, false, false, false, false, false] hHeld ?_
                    refine mpt 22 45 HT_.out HW_.out (mb 26 7) hHeld ?_
                    refine mpt 26 49 HT_.out HW_.out (mb 27 6) hHeld ?_
                    refine mpu 27 50 HT_.out (mb 28 5) ?_
                    refine mpu 28 51 HT_.out (mb 29 4) ?_
                    refine mpt 29 52 HT_.out HW_.out (mb 30 3) hHeld ?_
                    refine mpu 30 53 HT_.out (mb 31 2) ?_
                    refine mpu 31 54 HT_.out (mb 32 1) ?_
                    refine mpu 32 55 HT_.out (mb 33 0) ?_
                    refine done_ (done_of HT_.out (by kernel_rfl)) ?_
                    try go_wp2
                    go_meet
                    case rel => exact ⟨_, ((Op.bytesLess (((rd_T33 (rd_L4 l0 x18_2) (rd x5_1 x18_2)).f0).toList) (((rd_T33 (rd_L4 l0 x7_2) (rd x5_1 x7_2)).f0).toList))), (by first | rfl | (simp; done) | (simp [*]; done)), H', ⟨by have := HK1.out; have := HK2.out; first | omega | exact Nat.le_refl _⟩, ⟨by (with_reducible repeat (first | apply Kd.R_alloc | apply Kd.R_drewN | apply Kd.R_drew)); exact HO_5.out⟩, ⟨by (with_reducible repeat (first | apply Kd.R_alloc | apply Kd.R_drewN | apply Kd.R_drew)); exact HO_6.out⟩, ⟨(mH HB.out)⟩⟩
                   ·rw [if_neg c21] at H
                    exact absurd H (by simp)
                  ·rw [if_neg c20] at H
                   exact absurd H (by simp)
                 ·rw [if_neg c19] at H
                  exact absurd H (by simp)
                ·rw [if_neg c18] at H
                 exact absurd H (by simp)
               ·rw [if_neg c17] at H
                exact absurd H (by simp)
              ·rw [if_neg c16] at H
               exact absurd H (by simp)
            ·rw [if_neg c12] at H
             have c12b0 : decide ((rd x5_1 x18_2) < ((rd_L4 l0 x18_2).length : Int)) = false := decide_eq_false c12
             clear c12
             have H' := mS H
             clear H
             try go_wp2
             have n0_ := mS (Kd.R_drew HO_5.out)
             have n1_ := mS (Kd.R_drew HO_6.out)
             have n2_ := mS (below_drew1 HB.out)
             clear HO_5
             clear HO_6
             clear HB
             have HO_5 := n0_
             have HO_6 := n1_
             have HB := n2_
             clear n0_ n1_ n2_
             obtain ⟨Ao25, co25, eo25⟩ := Kd.R_slice HO_5.out
             (first | subst eo25 | (injection eo25 with f1_ f2_ f3_; have f4_ := f1_.symm; have f5_ := f3_.symm; clear f1_ f2_ f3_; subst f4_; subst f5_))
             have p160 : 0 ≤ (x18_2 : Int) := of_decide_eq_true (by first | (with_reducible assumption) | assumption)
             have q160 : x18_2 < (x5_1.length : Int) := of_decide_eq_true (by first | (with_reducible assumption) | assumption)
             obtain ⟨ad160, e160, hx160_0⟩ := Kd.at_int (Kd.R_reads' HO_5.out).2.2 x18_2 p160 q160
             cases e160
             replace p160 := eq_true p160
             replace q160 := eq_true q160
             refine start_ (n := 33) (S := fun w' => w'.cell? (ad160.add (x18_2).toNat) = some (.int .i64 (rd x5_1 x18_2))) (ds := []) (mb 0 33) (by kernel_rfl) rfl rfl (hx160_0) (fun hHeld => ?_); refine with_tabW impl_merge.tab7 impl_merge.bits7 (fun HT_ HW_ => ?_)
             generalize wr.drew = w24 at HO_5 HO_6 HB hx160_0 hHeld ⊢
             refine mpu 0 23 HT_.out (mb 1 32) ?_
             refine mpu 1 24 HT_.out (mb 2 31) ?_
             refine mpu 2 25 HT_.out (mb 3 30) ?_
             refine mpu 4 27 HT_.out #[true, true, true, false, true, false, false, false, false, false, false, false, false, false, false, false, false, false, false, false, false, false, false, false, false, false, false, false, false, false, false, false, false] ?_
             refine mpu 5 28 HT_.out #[true, true, true, false, true, true, false, false, false, false, false, false, false, false, false, false, false, false, false, false, false, false, false, false, false, false, false, false, false, false, false, false, false] ?_
             refine take_ (i := 3) (N := some 26) (v := ?_) (a' := ?_) (mb 6 27) rfl rfl (take_ofW HT_.out HW_.out (by kernel_rfl)) (fun _ _ _ h => h) (Or.inl ⟨by rfl, ?_⟩) hHeld ?_ ?_
             rotate_left
             ·intro w' s0
              go_simp
              with_reducible rfl
             rotate_left
             ·simp only [Act.put, zA, zB, zC, i64_w, i32_w]
              rfl
             refine mpu 6 29 HT_.out (mb 7 26) ?_
             refine mpu 7 30 HT_.out (mb 8 25) ?_
             refine mpf 8 31 HT_.out (mb 9 24) ?_
             refine mpf 9 32 HT_.out (mb 10 23) ?_
             refine mpf 10 33 HT_.out (mb 11 22) ?_
             refine mpf 11 34 HT_.out (mb 12 21) ?_
             refine mpf 12 35 HT_.out (mb 13 20) ?_
             refine mpf 13 36 HT_.out (mb 14 19) ?_
             refine mpf 14 37 HT_.out (mb 15 18) ?_
             refine mpf 15 38 HT_.out (mb 16 17) ?_
             refine mpf 16 39 HT_.out (mb 17 16) ?_
             refine mpf 17 40 HT_.out (mb 18 15) ?_
             refine mpf 18 41 HT_.out (mb 19 14) ?_
             refine mpf 19 42 HT_.out (mb 20 13) ?_
             refine mpf 20 43 HT_.out (mb 21 12) ?_
             refine mpf 21 44 HT_.out (mb 22 11) ?_
             refine mpf 22 45 HT_.out (mb 23 10) ?_
             refine mpf 23 46 HT_.out (mb 24 9) ?_
             refine mpf 24 47 HT_.out (mb 25 8) ?_
             refine mpf 25 48 HT_.out (mb 26 7) ?_
             refine mpf 26 49 HT_.out (mb 27 6) ?_
             refine mpf 27 50 HT_.out (mb 28 5) ?_
             refine mpf 28 51 HT_.out (mb 29 4) ?_
             refine mpf 29 52 HT_.out (mb 30 3) ?_
             refine mpf 30 53 HT_.out (mb 31 2) ?_
             refine mpf 31 54 HT_.out (mb 32 1) ?_
             refine mpu 32 55 HT_.out (mb 33 0) ?_
             refine done_ (done_of HT_.out (by kernel_rfl)) ?_
             try go_wp2
             go_meet
             case rel => exact ⟨_, (false), (by first | rfl | (simp; done) | (simp [*]; done)), H', ⟨by have := HK1.out; have := HK2.out; first | omega | exact Nat.le_refl _⟩, ⟨by (with_reducible repeat (first | apply Kd.R_alloc | apply Kd.R_drewN | apply Kd.R_drew)); exact HO_5.out⟩, ⟨by (with_reducible repeat (first | apply Kd.R_alloc | apply Kd.R_drewN | apply Kd.R_drew)); exact HO_6.out⟩, ⟨(mH HB.out)⟩⟩
           ·rw [if_neg c11] at H
            exact absurd H (by simp)
          case rest =>
           clear HC10
           try clear c1
           try clear p1
           try clear q1
           try clear hx1
           try clear c2
           try clear p2
           try clear c11
           try clear c12
           try clear c12b0
           try clear c13
           try clear c13b0
           try clear c16
           try clear c16b0
           try clear p16
           try clear q16
           try clear hx16
           try clear c17
           try clear c17b0
           try clear c18
           try clear c18b0
           try clear c19
           try clear c19b0
           try clear c20
           try clear c20b0
           try clear c21
           try clear c21b0
           try clear hx160_0
           try clear hx161_0
           try clear hx162_0
           try clear hx162_1
           try clear hx162_2
           try clear hx163_0
           try clear hx164_0
           try clear hx165_0
           try clear hx165_1
           try clear hx165_2
           try clear p160
           try clear p161
           try clear p162
           try clear p163
           try clear p164
           try clear p165
           try clear q160
           try clear q161
           try clear q162
           try clear q163
           try clear q164
           try clear q165
           obtain ⟨kq, x55_9, rfl, HA, HJ9, HO_5, HO_6, HB⟩ := hcut
           cases kq with
           | zero => exact absurd HA.out (by simp [impl_merge.j2])
           | succ kj9 =>
            have H := HA.out
            clear HA
            simp only [impl_merge.j2] at H
            by_cases c26 : x55_9 = true
            ·subst c26
             have H1 : (impl_merge.l1 kj9 l0 a1 x5_1 x6_1 x18_2 l0 (l0.length : Int) (wrap64 (x18_2 + 1))) = some r := by rw [if_pos rfl] at H; exact H
             clear H
             have H := H1
             clear H1
             have H' := mS H
             clear H
             go_wp2
             (try simp only [add_plain] at *)
             go_roundg kj9
             case measure => have := HK1.out; have := HK2.out; have := HJ9.out; omega
             case rel => exact ⟨(x18_2), (wrap64 (x18_2 + 1)), (by first | rfl | (simp; done) | (simp [*]; done)), (by first | rfl | (simp; done) | (simp [*]; done)), H', ⟨by have := HK1.out; have := HK2.out; have := HJ9.out; omega⟩, ⟨by (with_reducible repeat (first | apply Kd.R_alloc | apply Kd.R_drewN | apply Kd.R_drew)); exact HO_5.out⟩, ⟨by (with_reducible repeat (first | apply Kd.R_alloc | apply Kd.R_drewN | apply Kd.R_drew)); exact HO_6.out⟩, ⟨(mH HB.out)⟩⟩
            ·replace c26 := Bool.eq_false_iff.mpr c26
             subst c26
             have H1 : (impl_merge.l1 kj9 l0 a1 x5_1 x6_1 x7_2 l0 (l0.length : Int) (wrap64 (x18_2 + 1))) = some r := by rw [if_neg (show ¬ (false = true) by decide)] at H; exact H
             clear H
             have H := H1
             clear H1
             have H' := mS H
             clear H
             go_wp2
             (try simp only [add_plain] at *)
             go_roundg kj9
             case measure => have := HK1.out; have := HK2.out; have := HJ9.out; omega
             case rel => exact ⟨(x7_2), (wrap64 (x18_2 + 1)), (by first | rfl | (simp; done) | (simp [*]; done)), (by first | rfl | (simp; done) | (simp [*]; done)), H', ⟨by have := HK1.out; have := HK2.out; have := HJ9.out; omega⟩, ⟨by (with_reducible repeat (first | apply Kd.R_alloc | apply Kd.R_drewN | apply Kd.R_drew)); exact HO_5.out⟩, ⟨by (with_reducible repeat (first | apply Kd.R_alloc | apply Kd.R_drewN | apply Kd.R_drew)); exact HO_6.out⟩, ⟨(mH HB.out)⟩⟩
         ·rw [if_neg c9] at H
          exact absurd H (by simp)
        ·rw [if_neg c8] at H
         exact absurd H (by simp)
       ·rw [if_neg c7] at H
        have c7b0 : decide (x18_2 < (l0.length : Int)) = false := decide_eq_false c7
        clear c7
        by_cases c27 : x7_2 < 0
        ·rw [if_pos c27] at H
         have c27b0 : decide (x7_2 < 0) = true := decide_eq_true c27
         clear c27
         obtain rfl := Option.some.inj H
         go_wp2
         go_ret
         exact ⟨_, by first | rfl | (simp [errW_none, errW_some] <;> rfl) | (simp [*, errW_none, errW_some] <;> rfl), by (with_reducible repeat (first | apply Kd.R_alloc | apply Kd.R_drewN | apply Kd.R_drew)); exact HO_6.out, (mH HB.out)⟩
        ·rw [if_neg c27] at H
         have c27b0 : decide (x7_2 < 0) = false := decide_eq_false c27
         clear c27
         by_cases c28 : 0 ≤ x7_2
         ·rw [if_pos c28] at H
          have c28b0 : decide (0 ≤ x7_2) = true := decide_eq_true c28
          clear c28
          by_cases c29 : x7_2 < (l0.length : Int)
          ·rw [if_pos c29] at H
           have c29b0 : decide (x7_2 < (l0.length : Int)) = true := decide_eq_true c29
           clear c29
           by_cases c30 : x7_2 < (x5_1.length : Int)
           ·rw [if_pos c30] at H
            have c30b0 : decide (x7_2 < (x5_1.length : Int)) = true := decide_eq_true c30
            clear c30
            by_cases c31 : 0 ≤ (rd x5_1 x7_2)
            ·rw [if_pos c31] at H
             have c31b0 : decide (0 ≤ (rd x5_1 x7_2)) = true := decide_eq_true c31
             clear c31
             by_cases c32 : (rd x5_1 x7_2) < ((rd_L4 l0 x7_2).length : Int)
             ·rw [if_pos c32] at H
              have c32b0 : decide ((rd x5_1 x7_2) < ((rd_L4 l0 x7_2).length : Int)) = true := decide_eq_true c32
              clear c32
              have H' := mS H
              clear H
              try go_wp2
              have n0_ := mS (Kd.R_drew HO_5.out)
              have n1_ := mS (Kd.R_drew HO_6.out)
              have n2_ := mS (below_drew1 HB.out)
              clear HO_5
              clear HO_6
              clear HB
              have HO_5 := n0_
              have HO_6 := n1_
              have HB := n2_
              clear n0_ n1_ n2_
              have p166 : 0 ≤ (x7_2 : Int) := of_decide_eq_true (by first | (with_reducible assumption) | assumption)
              have q166 : x7_2 < (l0.length : Int) := of_decide_eq_true (by first | (with_reducible assumption) | assumption)
              obtain ⟨ad166, A166_0, c166_0, e166, hx166_0, hl166_0, hi166_0⟩ := at_L4 HR0.out x7_2 p166 q166
              have hw166_0 := hx166_0
              cases e166
              replace hx166_0 := mX HB.out hx166_0
              have HR166_0 := mS hi166_0
              have HC166_0 := mS hl166_0
              clear hi166_0 hl166_0
              replace p166 := eq_true p166
              replace q166 := eq_true q166
              obtain ⟨Ao34, co34, eo34⟩ := Kd.R_slice HO_5.out
              (first | subst eo34 | (injection eo34 with f1_ f2_ f3_; have f4_ := f1_.symm; have f5_ := f3_.symm; clear f1_ f2_ f3_; subst f4_; subst f5_))
              have p167 : 0 ≤ (x7_2 : Int) := of_decide_eq_true (by first | (with_reducible assumption) | assumption)
              have q167 : x7_2 < (x5_1.length : Int) := of_decide_eq_true (by first | (with_reducible assumption) | assumption)
              obtain ⟨ad167, e167, hx167_0⟩ := Kd.at_int (Kd.R_reads' HO_5.out).2.2 x7_2 p167 q167
              cases e167
              replace p167 := eq_true p167
              replace q167 := eq_true q167
              have p168 : 0 ≤ ((rd x5_1 x7_2) : Int) := of_decide_eq_true (by first | (with_reducible assumption) | assumption)
              have q168 : (rd x5_1 x7_2) < ((rd_L4 l0 x7_2).length : Int) := of_decide_eq_true (by first | (with_reducible assumption) | assumption)
              obtain ⟨ad168, e168, hx168_0, hx168_1, hx168_2⟩ := at_T33 HR166_0.out (rd x5_1 x7_2) p168 q168
              have hw168_2 := hx168_2
              have hw168_1 := hx168_1
              have hw168_0 := hx168_0
              cases e168
              replace hx168_0 := mX HB.out hx168_0
              replace hx168_1 := mX HB.out hx168_1
              replace hx168_2 := mX HB.out hx168_2
              replace p168 := eq_true p168
              replace q168 := eq_true q168
              refine start_ (n := 12) (S := fun w' => w'.cell? (ad166.add (x7_2).toNat) = some (.slice (some ad168) (rd_L4 l0 x7_2).length c166_0) ∧ w'.cell? (ad167.add (x7_2).toNat) = some (.int .i64 (rd x5_1 x7_2)) ∧ w'.cell? (ad168.add (((rd x5_1 x7_2)).toNat * 3)) = some (.string ((rd_T33 (rd_L4 l0 x7_2) (rd x5_1 x7_2)).f0)) ∧ w'.cell? ⟨(ad168.add (((rd x5_1 x7_2)).toNat * 3)).block, (ad168.add (((rd x5_1 x7_2)).toNat * 3)).off + 1, none⟩ = some (.string ((rd_T33 (rd_L4 l0 x7_2) (rd x5_1 x7_2)).f1)) ∧ w'.cell? ⟨(ad168.add (((rd x5_1 x7_2)).toNat * 3)).block, (ad168.add (((rd x5_1 x7_2)).toNat * 3)).off + 2, none⟩ = some (.bool ((rd_T33 (rd_L4 l0 x7_2) (rd x5_1 x7_2)).f2))) (ds := []) (mb 0 12) (by kernel_rfl) rfl rfl ⟨((HB.out.cell (World.block_lt_of_cell? w _ hw166_0)).trans hw166_0), hx167_0, ((HB.out.cell (World.block_lt_of_cell? w _ hw168_0)).trans hw168_0), ((HB.out.cell (World.block_lt_of_cell? w _ hw168_1)).trans hw168_1), ((HB.out.cell (World.block_lt_of_cell? w _ hw168_2)).trans hw168_2)⟩ (fun hHeld => ?_); refine with_tabW impl_merge.tab12 impl_merge.bits12 (fun HT_ HW_ => ?_)
              generalize wr.drew = w33 at HO_5 HO_6 HB HR166_0 hx166_0 hx167_0 hx168_0 hx168_1 hx168_2 hHeld ⊢
              refine mpu 0 61 HT_.out (mb 1 11) ?_
              refine mpu 1 62 HT_.out (mb 2 10) ?_
              refine mpu 2 63 HT_.out (mb 3 9) ?_
              refine mpu 4 65 HT_.out #[true, true, true, false, true, false, false, false, false, false, false, false] ?_
              refine mpu 5 66 HT_.out #[true, true, true, false, true, true, false, false, false, false, false, false] ?_
              refine mpu 6 67 HT_.out #[true, true, true, false, true, true, true, false, false, false, false, false] ?_
              refine mpt 3 64 HT_.out HW_.out (mb 7 5) hHeld ?_
              refine mpt 7 68 HT_.out HW_.out (mb 8 4) hHeld ?_
              refine mpu 8 69 HT_.out (mb 9 3) ?_
              refine mpt 9 70 HT_.out HW_.out (mb 10 2) hHeld ?_
              refine one_ (i := 10) (N := some 10) (mb 11 1) rfl rfl (one_of HT_.out (by kernel_rfl)) (by decide) (fun K hK => ?_)
              refine box_step ?hg (N := 10) ?hd (cs := #[.string (⟨#[]⟩ : ByteArray), .string (⟨#[]⟩ : ByteArray), .bool false]) (t := 33) ?hr ?_; (case hd => rfl); (case hg => rfl); (case hr => first | (go_simp; done) | (go_simp; rfl))
              intro gb169 hg w35 hbox hb
              have HS1_ := (hb.cell (World.block_lt_of_cell? _ _ (hHeld.2.1))).trans (hHeld.2.1)
              have n0_ := mS (Kd.R_below (mR HO_5.out) hb)
              have n1_ := mS (Kd.R_below (Kd.R_elderB (mR HO_6.out) gb169 (Nat.le_of_eq hg.symm)) hb)
              have n2_ := mS (below_step (mH HB.out) hb)
              have n3_ := mS (hbox)
              have n4_ := mG hg (mH HB.out)
              have n5_ := mG hg (mH HB.out)
              clear HO_5
              clear HO_6
              clear HB
              have HO_5 := n0_
              have HO_6 := n1_
              have HB := n2_
              have BK169 := n3_
              have GW169 := n4_
              have GE169 := n5_
              clear n0_ n1_ n2_ n3_ n4_ n5_
              clear hb hbox hg
              refine hK.out _ _ ⟨((HB.out.cell (World.block_lt_of_cell? w _ hw166_0)).trans hw166_0), HS1_, ((HB.out.cell (World.block_lt_of_cell? w _ hw168_0)).trans hw168_0), ((HB.out.cell (World.block_lt_of_cell? w _ hw168_1)).trans hw168_1), ((HB.out.cell (World.block_lt_of_cell? w _ hw168_2)).trans hw168_2)⟩ (fun hHeld => ?_)
              clear hK K
              refine norm_ (a' := ?_) ?_ ?_
              rotate_left
              ·show Act.put _ (some 10) _ = _
               simp only [Act.put, zA, zB, zC, i64_w, i32_w]
               rfl
              refine one_ (i := 11) (N := none) (mb 12 0) rfl rfl (one_of HT_.out (by kernel_rfl)) (by decide) (fun K hK => ?_)
              have hs36 : w35.cell? ⟨gb169, 0, none⟩ = some (.string (⟨#[]⟩ : ByteArray)) := mZ BK169.out 0
              have hfs36 := blk_frozen BK169.out 0
              have hs37 : w35.cell? ⟨gb169, 1, none⟩ = some (.string (⟨#[]⟩ : ByteArray)) := mZ BK169.out 1
              have hfs37 := blk_frozen BK169.out 1
              have hs38 : w35.cell? ⟨gb169, 2, none⟩ = some (.bool false) := mZ BK169.out 2
              have hfs38 := blk_frozen BK169.out 2
              refine skip_ (w1 := ?_) (by rfl) rfl ?_ ?_
              rotate_left
              ·go_simp
               rfl
              refine hK.out _ _ ⟨((cell_far (p := ⟨gb169, _, none⟩) (by first | exact Nat.ne_of_lt (Nat.lt_of_lt_of_le (by have := World.block_lt_of_cell? _ _ hw166_0; first | rwa [add_block] at this | exact this) GW169.out) | (rw [add_block]; exact Nat.ne_of_lt (Nat.lt_of_lt_of_le (by have := World.block_lt_of_cell? _ _ hw166_0; first | rwa [add_block] at this | exact this) GW169.out)) | (show (Addr.add _ _).block ≠ _; rw [add_block]; exact Nat.ne_of_lt (Nat.lt_of_lt_of_le (by have := World.block_lt_of_cell? _ _ hw166_0; first | rwa [add_block] at this | exact this) GW169.out)) | (dsimp only; exact Nat.ne_of_lt (Nat.lt_of_lt_of_le (by have := World.block_lt_of_cell? _ _ hw166_0; first | rwa [add_block] at this | exact this) GW169.out))) _).trans (((cell_far (p := ⟨gb169, _, none⟩) (by first | exact Nat.ne_of_lt (Nat.lt_of_lt_of_le (by have := World.block_lt_of_cell? _ _ hw166_0; first | rwa [add_block] at this | exact this) GW169.out) | (rw [add_block]; exact Nat.ne_of_lt (Nat.lt_of_lt_of_le (by have := World.block_lt_of_cell? _ _ hw166_0; first | rwa [add_block] at this | exact this) GW169.out)) | (show (Addr.add _ _).block ≠ _; rw [add_block]; exact Nat.ne_of_lt (Nat.lt_of_lt_of_le (by have := World.block_lt_of_cell? _ _ hw166_0; first | rwa [add_block] at this | exact this) GW169.out)) | (dsimp only; exact Nat.ne_of_lt (Nat.lt_of_lt_of_le (by have := World.block_lt_of_cell? _ _ hw166_0; first | rwa [add_block] at this | exact this) GW169.out))) _).trans (((cell_far (p := ⟨gb169, _, none⟩) (by first | exact Nat.ne_of_lt (Nat.lt_of_lt_of_le (by have := World.block_lt_of_cell? _ _ hw166_0; first | rwa [add_block] at this | exact this) GW169.out) | (rw [add_block]; exact Nat.ne_of_lt (Nat.lt_of_lt_of_le (by have := World.block_lt_of_cell? _ _ hw166_0; first | rwa [add_block] at this | exact this) GW169.out)) | (show (Addr.add _ _).block ≠ _; rw [add_block]; exact Nat.ne_of_lt (Nat.lt_of_lt_of_le (by have := World.block_lt_of_cell? _ _ hw166_0; first | rwa [add_block] at this | exact this) GW169.out)) | (dsimp only; exact Nat.ne_of_lt (Nat.lt_of_lt_of_le (by have := World.block_lt_of_cell? _ _ hw166_0; first | rwa [add_block] at this | exact this) GW169.out))) _).trans (hHeld.1)))))), ((cell_far (p := ⟨gb169, _, none⟩) (by first | exact Kd.own_blk (Kd.R_ne HO_5.out BK169.out (by decide)) | (rw [add_block]; exact Kd.own_blk (Kd.R_ne HO_5.out BK169.out (by decide))) | (show (Addr.add _ _).block ≠ _; rw [add_block]; exact Kd.own_blk (Kd.R_ne HO_5.out BK169.out (by decide))) | (dsimp only; exact Kd.own_blk (Kd.R_ne HO_5.out BK169.out (by decide)))) _).trans (((cell_far (p := ⟨gb169, _, none⟩) (by first | exact Kd.own_blk (Kd.R_ne HO_5.out BK169.out (by decide)) | (rw [add_block]; exact Kd.own_blk (Kd.R_ne HO_5.out BK169.out (by decide))) | (show (Addr.add _ _).block ≠ _; rw [add_block]; exact Kd.own_blk (Kd.R_ne HO_5.out BK169.out (by decide))) | (dsimp only; exact Kd.own_blk (Kd.R_ne HO_5.out BK169.out (by decide)))) _).trans (((cell_far (p := ⟨gb169, _, none⟩) (by first | exact Kd.own_blk (Kd.R_ne HO_5.out BK169.out (by decide)) | (rw [add_block]; exact Kd.own_blk (Kd.R_ne HO_5.out BK169.out (by decide))) | (show (Addr.add _ _).block ≠ _; rw [add_block]; exact Kd.own_blk (Kd.R_ne HO_5.out BK169.out (by decide))) | (dsimp only; exact Kd.own_blk (Kd.R_ne HO_5.out BK169.out (by decide)))) _).trans (hHeld.2.1)))))), ((cell_far (p := ⟨gb169, _, none⟩) (by first | exact Nat.ne_of_lt (Nat.lt_of_lt_of_le (by have := World.block_lt_of_cell? _ _ hw168_0; first | rwa [add_block] at this | exact this) GW169.out) | (rw [add_block]; exact Nat.ne_of_lt (Nat.lt_of_lt_of_le (by have := World.block_lt_of_cell? _ _ hw168_0; first | rwa [add_block] at this | exact this) GW169.out)) | (show (Addr.add _ _).block ≠ _; rw [add_block]; exact Nat.ne_of_lt (Nat.lt_of_lt_of_le (by have := World.block_lt_of_cell? _ _ hw168_0; first | rwa [add_block] at this | exact this) GW169.out)) | (dsimp only; exact Nat.ne_of_lt (Nat.lt_of_lt_of_le (by have := World.block_lt_of_cell? _ _ hw168_0; first | rwa [add_block] at this | exact this) GW169.out))) _).trans (((cell_far (p := ⟨gb169, _, none⟩) (by first | exact Nat.ne_of_lt (Nat.lt_of_lt_of_le (by have := World.block_lt_of_cell? _ _ hw168_0; first | rwa [add_block] at this | exact this) GW169.out) | (rw [add_block]; exact Nat.ne_of_lt (Nat.lt_of_lt_of_le (by have := World.block_lt_of_cell? _ _ hw168_0; first | rwa [add_block] at this | exact this) GW169.out)) | (show (Addr.add _ _).block ≠ _; rw [add_block]; exact Nat.ne_of_lt (Nat.lt_of_lt_of_le (by have := World.block_lt_of_cell? _ _ hw168_0; first | rwa [add_block] at this | exact this) GW169.out)) | (dsimp only; exact Nat.ne_of_lt (Nat.lt_of_lt_of_le (by have := World.block_lt_of_cell? _ _ hw168_0; first | rwa [add_block] at this | exact this) GW169.out))) _).trans (((cell_far (p := ⟨gb169, _, none⟩) (by first | exact Nat.ne_of_lt (Nat.lt_of_lt_of_le (by have := World.block_lt_of_cell? _ _ hw168_0; first | rwa [add_block] at this | exact this) GW169.out) | (rw [add_block]; exact Nat.ne_of_lt (Nat.lt_of_lt_of_le (by have := World.block_lt_of_cell? _ _ hw168_0; first | rwa [add_block] at this | exact this) GW169.out)) | (show (Addr.add _ _).block ≠ _; rw [add_block]; exact Nat.ne_of_lt (Nat.lt_of_lt_of_le (by have := World.block_lt_of_cell? _ _ hw168_0; first | rwa [add_block] at this | exact this) GW169.out)) | (dsimp only; exact Nat.ne_of_lt (Nat.lt_of_lt_of_le (by have := World.block_lt_of_cell? _ _ hw168_0; first | rwa [add_block] at this | exact this) GW169.out))) _).trans (hHeld.2.2.1)))))), ((cell_far (p := ⟨gb169, _, none⟩) (by first | exact Nat.ne_of_lt (Nat.lt_of_lt_of_le (by have := World.block_lt_of_cell? _ _ hw168_1; first | rwa [add_block] at this | exact this) GW169.out) | (rw [add_block]; exact Nat.ne_of_lt (Nat.lt_of_lt_of_le (by have := World.block_lt_of_cell? _ _ hw168_1; first | rwa [add_block] at this | exact this) GW169.out)) | (show (Addr.add _ _).block ≠ _; rw [add_block]; exact Nat.ne_of_lt (Nat.lt_of_lt_of_le (by have := World.block_lt_of_cell? _ _ hw168_1; first | rwa [add_block] at this | exact this) GW169.out)) | (dsimp only; exact Nat.ne_of_lt (Nat.lt_of_lt_of_le (by have := World.block_lt_of_cell? _ _ hw168_1; first | rwa [add_block] at this | exact this) GW169.out))) _).trans (((cell_far (p := ⟨gb169, _, none⟩) (by first | exact Nat.ne_of_lt (Nat.lt_of_lt_of_le (by have := World.block_lt_of_cell? _ _ hw168_1; first | rwa [add_block] at this | exact this) GW169.out) | (rw [add_block]; exact Nat.ne_of_lt (Nat.lt_of_lt_of_le (by have := World.block_lt_of_cell? _ _ hw168_1; first | rwa [add_block] at this | exact this) GW169.out)) | (show (Addr.add _ _).block ≠ _; rw [add_block]; exact Nat.ne_of_lt (Nat.lt_of_lt_of_le (by have := World.block_lt_of_cell? _ _ hw168_1; first | rwa [add_block] at this | exact this) GW169.out)) | (dsimp only; exact Nat.ne_of_lt (Nat.lt_of_lt_of_le (by have := World.block_lt_of_cell? _ _ hw168_1; first | rwa [add_block] at this | exact this) GW169.out))) _).trans (((cell_far (p := ⟨gb169, _, none⟩) (by first | exact Nat.ne_of_lt (Nat.lt_of_lt_of_le (by have := World.block_lt_of_cell? _ _ hw168_1; first | rwa [add_block] at this | exact this) GW169.out) | (rw [add_block]; exact Nat.ne_of_lt (Nat.lt_of_lt_of_le (by have := World.block_lt_of_cell? _ _ hw168_1; first | rwa [add_block] at this | exact this) GW169.out)) | (show (Addr.add _ _).block ≠ _; rw [add_block]; exact Nat.ne_of_lt (Nat.lt_of_lt_of_le (by have := World.block_lt_of_cell? _ _ hw168_1; first | rwa [add_block] at this | exact this) GW169.out)) | (dsimp only; exact Nat.ne_of_lt (Nat.lt_of_lt_of_le (by have := World.block_lt_of_cell? _ _ hw168_1; first | rwa [add_block] at this | exact this) GW169.out))) _).trans (hHeld.2.2.2.1)))))), ((cell_far (p := ⟨gb169, _, none⟩) (by first | exact Nat.ne_of_lt (Nat.lt_of_lt_of_le (by have := World.block_lt_of_cell? _ _ hw168_2; first | rwa [add_block] at this | exact this) GW169.out) | (rw [add_block]; exact Nat.ne_of_lt (Nat.lt_of_lt_of_le (by have := World.block_lt_of_cell? _ _ hw168_2; first | rwa [add_block] at this | exact this) GW169.out)) | (show (Addr.add _ _).block ≠ _; rw [add_block]; exact Nat.ne_of_lt (Nat.lt_of_lt_of_le (by have := World.block_lt_of_cell? _ _ hw168_2; first | rwa [add_block] at this | exact this) GW169.out)) | (dsimp only; exact Nat.ne_of_lt (Nat.lt_of_lt_of_le (by have := World.block_lt_of_cell? _ _ hw168_2; first | rwa [add_block] at this | exact this) GW169.out))) _).trans (((cell_far (p := ⟨gb169, _, none⟩) (by first | exact Nat.ne_of_lt (Nat.lt_of_lt_of_le (by have := World.block_lt_of_cell? _ _ hw168_2; first | rwa [add_block] at this | exact this) GW169.out) | (rw [add_block]; exact Nat.ne_of_lt (Nat.lt_of_lt_of_le (by have := World.block_lt_of_cell? _ _ hw168_2; first | rwa [add_block] at this | exact this) GW169.out)) | (show (Addr.add _ _).block ≠ _; rw [add_block]; exact Nat.ne_of_lt (Nat.lt_of_lt_of_le (by have := World.block_lt_of_cell? _ _ hw168_2; first | rwa [add_block] at this | exact this) GW169.out)) | (dsimp only; exact Nat.ne_of_lt (Nat.lt_of_lt_of_le (by have := World.block_lt_of_cell? _ _ hw168_2; first | rwa [add_block] at this | exact this) GW169.out))) _).trans (((cell_far (p := ⟨gb169, _, none⟩) (by first | exact Nat.ne_of_lt (Nat.lt_of_lt_of_le (by have := World.block_lt_of_cell? _ _ hw168_2; first | rwa [add_block] at this | exact this) GW169.out) | (rw [add_block]; exact Nat.ne_of_lt (Nat.lt_of_lt_of_le (by have := World.block_lt_of_cell? _ _ hw168_2; first | rwa [add_block] at this | exact this) GW169.out)) | (show (Addr.add _ _).block ≠ _; rw [add_block]; exact Nat.ne_of_lt (Nat.lt_of_lt_of_le (by have := World.block_lt_of_cell? _ _ hw168_2; first | rwa [add_block] at this | exact this) GW169.out)) | (dsimp only; exact Nat.ne_of_lt (Nat.lt_of_lt_of_le (by have := World.block_lt_of_cell? _ _ hw168_2; first | rwa [add_block] at this | exact this) GW169.out))) _).trans (hHeld.2.2.2.2))))))⟩ (fun hHeld => ?_)
              clear hK K
              refine done_ (done_of HT_.out (by kernel_rfl)) ?_
              try go_wp2
              go_loopg [73] k2 (fun kq v73 w' => ∃ (x5_3 : List Int) (x73_3 : Int), v73 = .int .i64 x73_3 ∧ Aside0 (impl_merge.l2 kq l0 a1 x5_3 x6_1 l0 (l0.length : Int) x73_3 ((rd_T33 (rd_L4 l0 x7_2) (rd x5_1 x7_2)).f0) ((rd_T33 (rd_L4 l0 x7_2) (rd x5_1 x7_2)).f1) ((rd_T33 (rd_L4 l0 x7_2) (rd x5_1 x7_2)).f2) = some r) ∧ Aside0 (kq ≤ k2) ∧ Aside0 (Kd.R (Kd.int .i64) 3 w' w.heap.size (fun _ => True) (.slice (some ad167) x5_1.length co34) x5_3) ∧ Aside0 (Kd.R k33 33 w' w.heap.size (fun k_ => k_ ≠ gb169) u6 x6_1) ∧ Aside0 (w'.heap[gb169]? = some (.cells #[.string ((rd_T33 (rd_L4 l0 x7_2) (rd x5_1 x7_2)).f0), .string ((rd_T33 (rd_L4 l0 x7_2) (rd x5_1 x7_2)).f1), .bool ((rd_T33 (rd_L4 l0 x7_2) (rd x5_1 x7_2)).f2)] 33 (0, 0))) ∧ Aside0 (Below w.heap.size w w'))
              case atStart => exact ⟨(x5_1), (0), (by first | rfl | (simp; done) | (simp [*]; done)), H', ⟨Nat.le_refl _⟩, ⟨by (with_reducible repeat (first | apply Kd.R_alloc | apply Kd.R_drewN | apply Kd.R_drew)); exact Kd.R_mono (Kd.R_far (p := ⟨gb169, 2, none⟩) (Kd.R_far (p := ⟨gb169, 1, none⟩) (Kd.R_far (p := ⟨gb169, 0, none⟩) (Kd.R_types HO_5.out BK169.out (by decide)) (fun _ hk => hk.2) (.string ((rd_T33 (rd_L4 l0 x7_2) (rd x5_1 x7_2)).f0))) (fun _ hk => hk.2) (.string ((rd_T33 (rd_L4 l0 x7_2) (rd x5_1 x7_2)).f1))) (fun _ hk => hk.2) (.bool ((rd_T33 (rd_L4 l0 x7_2) (rd x5_1 x7_2)).f2))) (fun _ hk => trivial)⟩, ⟨by (with_reducible repeat (first | apply Kd.R_alloc | apply Kd.R_drewN | apply Kd.R_drew)); exact Kd.R_mono (Kd.R_far (p := ⟨gb169, 2, none⟩) (Kd.R_far (p := ⟨gb169, 1, none⟩) (Kd.R_far (p := ⟨gb169, 0, none⟩) (Kd.R_mono HO_6.out (fun k_ hk => (⟨hk, hk.2⟩ : _ ∧ k_ ≠ gb169))) (fun _ hk => hk.2) (.string ((rd_T33 (rd_L4 l0 x7_2) (rd x5_1 x7_2)).f0))) (fun _ hk => hk.2) (.string ((rd_T33 (rd_L4 l0 x7_2) (rd x5_1 x7_2)).f1))) (fun _ hk => hk.2) (.bool ((rd_T33 (rd_L4 l0 x7_2) (rd x5_1 x7_2)).f2))) (fun _ hk => hk.1.2)⟩, ⟨by (with_reducible repeat (first | refine blk_drewN ?_ _ | refine blk_drew ?_ | refine blk_alloc ?_ _)); refine blk_put (cs := #[.string ((rd_T33 (rd_L4 l0 x7_2) (rd x5_1 x7_2)).f0), .string ((rd_T33 (rd_L4 l0 x7_2) (rd x5_1 x7_2)).f1), .bool false]) ?_ 2 _ rfl; (with_reducible repeat (first | refine blk_drewN ?_ _ | refine blk_drew ?_ | refine blk_alloc ?_ _)); refine blk_put (cs := #[.string ((rd_T33 (rd_L4 l0 x7_2) (rd x5_1 x7_2)).f0), .string (⟨#[]⟩ : ByteArray), .bool false]) ?_ 1 _ rfl; (with_reducible repeat (first | refine blk_drewN ?_ _ | refine blk_drew ?_ | refine blk_alloc ?_ _)); refine blk_put (cs := #[.string (⟨#[]⟩ : ByteArray), .string (⟨#[]⟩ : ByteArray), .bool false]) ?_ 0 _ rfl; (with_reducible repeat (first | refine blk_drewN ?_ _ | refine blk_drew ?_ | refine blk_alloc ?_ _)); exact BK169.out⟩, ⟨(mH1 HB.out GE169.out)⟩⟩
              case round =>
               clear H'
               try clear c1
               try clear p1
               try clear q1
               try clear hx1
               try clear c2
               try clear p2
               try clear c3
               try clear p6
               try clear c7
               try clear c7b0
               try clear c8
               try clear c9
               try clear c11
               try clear c12
               try clear c12b0
               try clear c13
               try clear c13b0
               try clear c16
               try clear c16b0
               try clear p16
               try clear q16
               try clear hx16
               try clear c17
               try clear c17b0
               try clear c18
               try clear c18b0
               try clear c19
               try clear c19b0
               try clear c20
               try clear c20b0
               try clear c21
               try clear c21b0
               try clear c26
               try clear c27
               try clear c27b0
               try clear c28
               try clear c28b0
               try clear c29
               try clear c29b0
               try clear c30
               try clear c30b0
               try clear c31
               try clear c31b0
               try clear c32
               try clear c32b0
               try clear hx160_0
               try clear hx161_0
               try clear hx162_0
               try clear hx162_1
               try clear hx162_2
               try clear hx163_0
               try clear hx164_0
               try clear hx165_0
               try clear hx165_1
               try clear hx165_2
               try clear hx166_0
               try clear hx167_0
               try clear hx168_0
               try clear hx168_1
               try clear hx168_2
               try clear p1
               try clear p16
               try clear p160
               try clear p161
               try clear p162
               try clear p163
               try clear p164
               try clear p165
               try clear p166
               try clear p167
               try clear p168
               try clear p2
               try clear q1
               try clear q16
               try clear q160
               try clear q161
               try clear q162
               try clear q163
               try clear q164
               try clear q165
               try clear q166
               try clear q167
               try clear q168
               obtain ⟨x5_3, x73_3, rfl, HA, HK3, HO_5, HO_6, BK169, HB⟩ := hrel
               have hl5_3 := (Kd.R_reads' HO_5.out).1
               rw [hl5_3] at HO_5
               (try simp only [hl5_3])
               (try simp only [hl5_3] at BK169)
               (try simp only [hl5_3] at HO_6)
               cases gk with
               | zero => exact absurd HA.out (by simp [impl_merge.l2])
               | succ k3 =>
                have H := HA.out
                clear HA
                simp only [impl_merge.l2] at H
                by_cases c39 : x73_3 < (l0.length : Int)
                ·rw [if_pos c39] at H
                 have c39b0 : decide (x73_3 < (l0.length : Int)) = true := decide_eq_true c39
                 clear c39
                 by_cases c40 : 0 ≤ x73_3
                 ·rw [if_pos c40] at H
                  have c40b0 : decide (0 ≤ x73_3) = true := decide_eq_true c40
                  clear c40
                  by_cases c41 : x73_3 < (l0.length : Int)
                  ·rw [if_pos c41] at H
                   have c41b0 : decide (x73_3 < (l0.length : Int)) = true := decide_eq_true c41
                   clear c41
                   have HC42 := mS H
                   clear H
                   have p170 : 0 ≤ (x73_3 : Int) := of_decide_eq_true (by first | (with_reducible assumption) | assumption)
                   have q170 : x73_3 < (l0.length : Int) := of_decide_eq_true (by first | (with_reducible assumption) | assumption)
                   obtain ⟨ad170, A170_0, c170_0, e170, hx170_0, hl170_0, hi170_0⟩ := at_L4 HR0.out x73_3 p170 q170
                   obtain rfl : ad166 = ad170 := (by injection e170)
                   replace hx170_0 := mX HB.out hx170_0
                   have HR170_0 := mS hi170_0
                   have HC170_0 := mS hl170_0
                   clear hi170_0 hl170_0
                   replace p170 := eq_true p170
                   replace q170 := eq_true q170
                   go_upto_region 16 with (fail)
                   go_cut [97] (fun v97 wc => ∃ (kq : Nat) (x97_41 : Bool), v97 = .bool x97_41 ∧ Aside0 (impl_merge.j4 kq l0 a1 x5_3 x6_1 x73_3 l0 (l0.length : Int) x73_3 x97_41 ((rd_T33 (rd_L4 l0 x7_2) (rd x5_1 x7_2)).f0) ((rd_T33 (rd_L4 l0 x7_2) (rd x5_1 x7_2)).f1) ((rd_T33 (rd_L4 l0 x7_2) (rd x5_1 x7_2)).f2) = some r) ∧ Aside0 (kq ≤ k3) ∧ Aside0 (Kd.R (Kd.int .i64) 3 wc w.heap.size (fun _ => True) (.slice (some ad167) x5_3.length co34) x5_3) ∧ Aside0 (Kd.R k33 33 wc w.heap.size (fun k_ => k_ ≠ gb169) u6 x6_1) ∧ Aside0 (wc.heap[gb169]? = some (.cells #[.string ((rd_T33 (rd_L4 l0 x7_2) (rd x5_1 x7_2)).f0), .string ((rd_T33 (rd_L4 l0 x7_2) (rd x5_1 x7_2)).f1), .bool ((rd_T33 (rd_L4 l0 x7_2) (rd x5_1 x7_2)).f2)] 33 (0, 0))) ∧ Aside0 (Below w.heap.size w wc))
                   case first =>
                    have H := HC42.out
                    clear HC42
                    by_cases c43 : x73_3 < (x5_3.length : Int)
                    ·rw [if_pos c43] at H
                     have c43b0 : decide (x73_3 < (x5_3.length : Int)) = true := decide_eq_true c43
                     clear c43
                     (first | rw [c43b0] | (simp only [i64_w, i32_w]; rw [c43b0]) | skip)
                     by_cases c44 : (rd x5_3 x73_3) < ((rd_L4 l0 x73_3).length : Int)
                     ·rw [if_pos c44] at H
                      have c44b0 : decide ((rd x5_3 x73_3) < ((rd_L4 l0 x73_3).length : Int)) = true := decide_eq_true c44
                      clear c44
                      by_cases c45 : 0 ≤ (rd x5_3 x73_3)
                      ·rw [if_pos c45] at H
                       have c45b0 : decide (0 ≤ (rd x5_3 x73_3)) = true := decide_eq_true c45
                       clear c45
                       have H' := mS H
                       clear H
                       try go_wp2
                       have n0_ := mS (Kd.R_drew HO_5.out)
                       have n1_ := mS (Kd.R_drew HO_6.out)
                       have n2_ := mS (blk_drew BK169.out)
                       have n3_ := mS (below_drew1 HB.out)
                       clear HO_5
                       clear HO_6
                       clear BK169
                       clear HB
                       have HO_5 := n0_
                       have HO_6 := n1_
                       have BK169 := n2_
                       have HB := n3_
                       clear n0_ n1_ n2_ n3_
                       have p171 : 0 ≤ (x73_3 : Int) := of_decide_eq_true (by first | (with_reducible assumption) | assumption)
                       have q171 : x73_3 < (x5_3.length : Int) := of_decide_eq_true (by first | (with_reducible assumption) | assumption)
                       obtain ⟨ad171, e171, hx171_0⟩ := Kd.at_int (Kd.R_reads' HO_5.out).2.2 x73_3 p171 q171
                       obtain rfl : ad167 = ad171 := (by injection e171)
                       replace p171 := eq_true p171
                       replace q171 := eq_true q171
                       have p172 : 0 ≤ (x73_3 : Int) := of_decide_eq_true (by first | (with_reducible assumption) | assumption)
                       have q172 : x73_3 < (x5_3.length : Int) := of_decide_eq_true (by first | (with_reducible assumption) | assumption)
                       obtain ⟨ad172, e172, hx172_0⟩ := Kd.at_int (Kd.R_reads' HO_5.out).2.2 x73_3 p172 q172
                       obtain rfl : ad167 = ad172 := (by injection e172)
                       replace p172 := eq_true p172
                       replace q172 := eq_true q172
                       have p173 : 0 ≤ ((rd x5_3 x73_3) : Int) := of_decide_eq_true (by first | (with_reducible assumption) | assumption)
                       have q173 : (rd x5_3 x73_3) < ((rd_L4 l0 x73_3).length : Int) := of_decide_eq_true (by first | (with_reducible assumption) | assumption)
                       obtain ⟨ad173, e173, hx173_0, hx173_1, hx173_2⟩ := at_T33 HR170_0.out (rd x5_3 x73_3) p173 q173
                       have hw173_2 := hx173_2
                       have hw173_1 := hx173_1
                       have hw173_0 := hx173_0
                       cases e173
                       replace hx173_0 := mX HB.out hx173_0
                       replace hx173_1 := mX HB.out hx173_1
                       replace hx173_2 := mX HB.out hx173_2
                       replace p173 := eq_true p173
                       replace q173 := eq_true q173
                       refine start_ (n := 20) (S := fun w' => w'.cell? ⟨gb169, 0, none⟩ = some (.string ((rd_T33 (rd_L4 l0 x7_2) (rd x5_1 x7_2)).f0)) ∧ w'.cell? ⟨gb169, 1, none⟩ = some (.string ((rd_T33 (rd_L4 l0 x7_2) (rd x5_1 x7_2)).f1)) ∧ w'.cell? ⟨gb169, 2, none⟩ = some (.bool ((rd_T33 (rd_L4 l0 x7_2) (rd x5_1 x7_2)).f2)) ∧ w'.cell? (ad167.add (x73_3).toNat) = some (.int .i64 (rd x5_3 x73_3)) ∧ w'.cell? (ad167.add (x73_3).toNat) = some (.int .i64 (rd x5_3 x73_3)) ∧ w'.cell? (ad173.add (((rd x5_3 x73_3)).toNat * 3)) = some (.string ((rd_T33 (rd_L4 l0 x73_3) (rd x5_3 x73_3)).f0)) ∧ w'.cell? ⟨(ad173.add (((rd x5_3 x73_3)).toNat * 3)).block, (ad173.add (((rd x5_3 x73_3)).toNat * 3)).off + 1, none⟩ = some (.string ((rd_T33 (rd_L4 l0 x73_3) (rd x5_3 x73_3)).f1)) ∧ w'.cell? ⟨(ad173.add (((rd x5_3 x73_3)).toNat * 3)).block, (ad173.add (((rd x5_3 x73_3)).toNat * 3)).off + 2, none⟩ = some (.bool ((rd_T33 (rd_L4 l0 x73_3) (rd x5_3 x73_3)).f2))) (ds := []) (mb 0 20) (by kernel_rfl) rfl rfl ⟨mZ BK169.out 0, mZ BK169.out 1, mZ BK169.out 2, hx171_0, hx172_0, ((HB.out.cell (World.block_lt_of_cell? w _ hw173_0)).trans hw173_0), ((HB.out.cell (World.block_lt_of_cell? w _ hw173_1)).trans hw173_1), ((HB.out.cell (World.block_lt_of_cell? w _ hw173_2)).trans hw173_2)⟩ (fun hHeld => ?_); refine with_tabW impl_merge.tab16 impl_merge.bits16 (fun HT_ HW_ => ?_)
                       generalize wr.drew = w46 at HO_5 HO_6 BK169 HB hx171_0 hx172_0 hx173_0 hx173_1 hx173_2 hHeld ⊢
                       refine mpu 0 78 HT_.out (mb 1 19) ?_
                       refine mpu 1 79 HT_.out (mb 2 18) ?_
                       refine mpu 2 80 HT_.out (mb 3 17) ?_
                       refine mpu 4 82 HT_.out #[true, true, true, false, true, false, false, false, false, false, false, false, false, false, false, false, false, false, false, false] ?_
                       refine mpu 5 83 HT_.out #[true, true, true, false, true, true, false, false, false, false, false, false, false, false, false, false, false, false, false, false] ?_
                       refine mpt 3 81 HT_.out HW_.out (mb 6 14) hHeld ?_
                       refine mpu 6 84 HT_.out (mb 7 13) ?_
                       refine mpu 7 85 HT_.out (mb 8 12) ?_
                       refine mpu 8 86 HT_.out (mb 9 11) ?_
                       refine mpu 9 87 HT_.out (mb 10 10) ?_
                       refine mpu 10 88 HT_.out (mb 11 9) ?_
                       refine mpu 11 89 HT_.out (mb 12 8) ?_
                       refine mpu 16 94 HT_.out #[true, true, true, true, true, true, true, true, true, true, true, true, false, false, false, false, true, false, false, false] ?_
                       refine mpt 12 90 HT_.out HW_.out #[true, true, true, true, true, true, true, true, true, true, true, true, true, false, false, false, true, false, false, false] hHeld ?_
                       refine mpu 13 91 HT_.out #[true, true, true, true, true, true, true, true, true, true, true, true, true, true, false, false, true, false, false, false] ?_
                       refine mpu 14 92 HT_.out #[true, true, true, true, true, true, true, true, true, true, true, true, true, true, true, false, true, false, false, false] ?_
                       refine mpt 15 93 HT_.out HW_.out (mb 17 3) hHeld ?_
                       refine mpt 17 95 HT_.out HW_.out (mb 18 2) hHeld ?_
                       refine mpu 18 96 HT_.out (mb 19 1) ?_
                       refine mpu 19 97 HT_.out (mb 20 0) ?_
                       refine done_ (done_of HT_.out (by kernel_rfl)) ?_
                       try go_wp2
                       go_meet
                       case rel => exact ⟨_, ((((rd_T33 (rd_L4 l0 x73_3) (rd x5_3 x73_3)).f0).toList == ((rd_T33 (rd_L4 l0 x7_2) (rd x5_1 x7_2)).f0).toList)), (by first | rfl | (simp; done) | (simp [*]; done)), H', ⟨by have := HK1.out; have := HK2.out; have := HK3.out; first | omega | exact Nat.le_refl _⟩, ⟨by (try simp only [hl5_3]); (with_reducible repeat (first | apply Kd.R_alloc | apply Kd.R_drewN | apply Kd.R_drew)); exact HO_5.out⟩, ⟨by (try simp only [hl5_3]); (with_reducible repeat (first | apply Kd.R_alloc | apply Kd.R_drewN | apply Kd.R_drew)); exact HO_6.out⟩, ⟨by (try simp only [hl5_3]); (with_reducible repeat (first | refine blk_drewN ?_ _ | refine blk_drew ?_ | refine blk_alloc ?_ _)); exact BK169.out⟩, ⟨(mH1 HB.out GE169.out)⟩⟩
                      ·rw [if_neg c45] at H
                       exact absurd H (by simp)
                     ·rw [if_neg c44] at H
                      have c44b0 : decide ((rd x5_3 x73_3) < ((rd_L4 l0 x73_3).length : Int)) = false := decide_eq_false c44
                      clear c44
                      have H' := mS H
                      clear H
                      try go_wp2
                      have n0_ := mS (Kd.R_drew HO_5.out)
                      have n1_ := mS (Kd.R_drew HO_6.out)
                      have n2_ := mS (blk_drew BK169.out)
                      have n3_ := mS (below_drew1 HB.out)
                      clear HO_5
                      clear HO_6
                      clear BK169
                      clear HB
                      have HO_5 := n0_
                      have HO_6 := n1_
                      have BK169 := n2_
                      have HB := n3_
                      clear n0_ n1_ n2_ n3_
                      have p171 : 0 ≤ (x73_3 : Int) := of_decide_eq_true (by first | (with_reducible assumption) | assumption)
                      have q171 : x73_3 < (x5_3.length : Int) := of_decide_eq_true (by first | (with_reducible assumption) | assumption)
                      obtain ⟨ad171, e171, hx171_0⟩ := Kd.at_int (Kd.R_reads' HO_5.out).2.2 x73_3 p171 q171
                      obtain rfl : ad167 = ad171 := (by injection e171)
                      replace p171 := eq_true p171
                      replace q171 := eq_true q171
                      refine start_ (n := 20) (S := fun w' => w'.cell? (ad167.add (x73_3).toNat) = some (.int .i64 (rd x5_3 x73_3))) (ds := []) (mb 0 20) (by kernel_rfl) rfl rfl (hx171_0) (fun hHeld => ?_); refine with_tabW impl_merge.tab16 impl_merge.bits16 (fun HT_ HW_ => ?_)
                      generalize wr.drew = w47 at HO_5 HO_6 BK169 HB hx171_0 hHeld ⊢
                      refine mpu 0 78 HT_.out (mb 1 19) ?_
                      refine mpu 1 79 HT_.out (mb 2 18) ?_
                      refine mpu 2 80 HT_.out (mb 3 17) ?_
                      refine mpu 4 82 HT_.out #[true, true, true, false, true, false, false, false, false, false, false, false, false, false, false, false, false, false, false, false] ?_
                      refine mpu 5 83 HT_.out #[true, true, true, false, true, true, false, false, false, false, false, false, false, false, false, false, false, false, false, false] ?_
                      refine take_ (i := 3) (N := some 81) (v := ?_) (a' := ?_) (mb 6 14) rfl rfl (take_ofW HT_.out HW_.out (by kernel_rfl)) (fun _ _ _ h => h) (Or.inl ⟨by rfl, ?_⟩) hHeld ?_ ?_
                      rotate_left
                      ·intro w' s0
                       go_simp
                       with_reducible rfl
                      rotate_left
                      ·simp only [Act.put, zA, zB, zC, i64_w, i32_w]
                       rfl
                      refine mpu 6 84 HT_.out (mb 7 13) ?_
                      refine mpu 7 85 HT_.out (mb 8 12) ?_
                      refine mpf 8 86 HT_.out (mb 9 11) ?_
                      refine mpf 9 87 HT_.out (mb 10 10) ?_
                      refine mpf 10 88 HT_.out (mb 11 9) ?_
                      refine mpf 11 89 HT_.out (mb 12 8) ?_
                      refine mpf 12 90 HT_.out (mb 13 7) ?_
                      refine mpf 13 91 HT_.out (mb 14 6) ?_
                      refine mpf 14 92 HT_.out (mb 15 5) ?_
                      refine mpf 15 93 HT_.out (mb 16 4) ?_
                      refine mpf 16 94 HT_.out (mb 17 3) ?_
                      refine mpf 17 95 HT_.out (mb 18 2) ?_
                      refine mpf 18 96 HT_.out (mb 19 1) ?_
                      refine mpu 19 97 HT_.out (mb 20 0) ?_
                      refine done_ (done_of HT_.out (by kernel_rfl)) ?_
                      try go_wp2
                      go_meet
                      case rel => exact ⟨_, (false), (by first | rfl | (simp; done) | (simp [*]; done)), H', ⟨by have := HK1.out; have := HK2.out; have := HK3.out; first | omega | exact Nat.le_refl _⟩, ⟨by (try simp only [hl5_3]); (with_reducible repeat (first | apply Kd.R_alloc | apply Kd.R_drewN | apply Kd.R_drew)); exact HO_5.out⟩, ⟨by (try simp only [hl5_3]); (with_reducible repeat (first | apply Kd.R_alloc | apply Kd.R_drewN | apply Kd.R_drew)); exact HO_6.out⟩, ⟨by (try simp only [hl5_3]); (with_reducible repeat (first | refine blk_drewN ?_ _ | refine blk_drew ?_ | refine blk_alloc ?_ _)); exact BK169.out⟩, ⟨(mH1 HB.out GE169.out)⟩⟩
                    ·rw [if_neg c43] at H
                     exact absurd H (by simp)
                   case rest =>
                    clear HC42
                    try clear c1
                    try clear p1
                    try clear q1
                    try clear hx1
                    try clear c2
                    try clear p2
                    try clear c3
                    try clear c4
                    try clear p6
                    try clear c7
                    try clear c7b0
                    try clear c8
                    try clear c9
                    try clear c11
                    try clear c12
                    try clear c12b0
                    try clear c13
                    try clear c13b0
                    try clear c16
                    try clear c16b0
                    try clear p16
                    try clear q16
                    try clear hx16
                    try clear c17
                    try clear c17b0
                    try clear p17
                    try clear q17
                    try clear hx17
                    try clear c18
                    try clear c18b0
                    try clear c19
                    try clear c19b0
                    try clear c20
                    try clear c20b0
                    try clear c21
                    try clear c21b0
                    try clear c26
                    try clear c27
                    try clear c27b0
                    try clear c28
                    try clear c28b0
                    try clear c29
                    try clear c29b0
                    try clear c30
                    try clear c30b0
                    try clear c31
                    try clear c31b0
                    try clear c32
                    try clear c32b0
                    try clear c39
                    try clear c39b0
                    try clear c40
                    try clear c40b0
                    try clear c41
                    try clear c41b0
                    try clear c43
                    try clear c43b0
                    try clear c44
                    try clear c44b0
                    try clear c45
                    try clear c45b0
                    try clear hx160_0
                    try clear hx161_0
                    try clear hx162_0
                    try clear hx162_1
                    try clear hx162_2
                    try clear hx163_0
                    try clear hx164_0
                    try clear hx165_0
                    try clear hx165_1
                    try clear hx165_2
                    try clear hx166_0
                    try clear hx167_0
                    try clear hx168_0
                    try clear hx168_1
                    try clear hx168_2
                    try clear hx170_0
                    try clear hx171_0
                    try clear hx172_0
                    try clear hx173_0
                    try clear hx173_1
                    try clear hx173_2
                    try clear p1
                    try clear p16
                    try clear p160
                    try clear p161
                    try clear p162
                    try clear p163
                    try clear p164
                    try clear p165
                    try clear p166
                    try clear p167
                    try clear p168
                    try clear p170
                    try clear p171
                    try clear p172
                    try clear p173
                    try clear p2
                    try clear p6
                    try clear q1
                    try clear q16
                    try clear q160
                    try clear q161
                    try clear q162
                    try clear q163
                    try clear q164
                    try clear q165
                    try clear q166
                    try clear q167
                    try clear q168
                    try clear q170
                    try clear q171
                    try clear q172
                    try clear q173
                    obtain ⟨kq, x97_41, rfl, HA, HJ41, HO_5, HO_6, BK169, HB⟩ := hcut
                    cases kq with
                    | zero => exact absurd HA.out (by simp [impl_merge.j4])
                    | succ kj41 =>
                     have H := HA.out
                     clear HA
                     simp only [impl_merge.j4] at H
                     by_cases c48 : x97_41 = true
                     ·subst c48
                      have H1 : (if 0 ≤ x73_3 then (if x73_3 < (x5_3.length : Int) then (impl_merge.l2 kj41 l0 a1 (x5_3.set (x73_3 : Int).toNat (wrap64 ((rd x5_3 x73_3) + 1))) x6_1 l0 (l0.length : Int) (wrap64 (x73_3 + 1)) ((rd_T33 (rd_L4 l0 x7_2) (rd x5_1 x7_2)).f0) ((rd_T33 (rd_L4 l0 x7_2) (rd x5_1 x7_2)).f1) ((rd_T33 (rd_L4 l0 x7_2) (rd x5_1 x7_2)).f2)) else (none)) else (none)) = some r := by rw [if_pos rfl] at H; exact H
                      clear H
                      have H := H1
                      clear H1
                      by_cases c49 : 0 ≤ x73_3
                      ·rw [if_pos c49] at H
                       have c49b0 : decide (0 ≤ x73_3) = true := decide_eq_true c49
                       clear c49
                       by_cases c50 : x73_3 < (x5_3.length : Int)
                       ·rw [if_pos c50] at H
                        have c50b0 : decide (x73_3 < (x5_3.length : Int)) = true := decide_eq_true c50
                        clear c50
                        obtain ⟨y175, hy175⟩ : ∃ y_ : List Int, y_ = (x5_3.set (x73_3 : Int).toNat (wrap64 ((rd x5_3 x73_3) + 1))) := ⟨_, rfl⟩
                        replace H : (impl_merge.l2 kj41 l0 a1 y175 x6_1 l0 (l0.length : Int) (wrap64 (x73_3 + 1)) ((rd_T33 (rd_L4 l0 x7_2) (rd x5_1 x7_2)).f0) ((rd_T33 (rd_L4 l0 x7_2) (rd x5_1 x7_2)).f1) ((rd_T33 (rd_L4 l0 x7_2) (rd x5_1 x7_2)).f2)) = some r := by first | (rw [hy175]; with_reducible exact H) | (have H2_ := (Option.bind_some _ _).symm.trans H; rw [hy175]; with_reducible exact H2_) | (have H2_ := (Option.bind_some _ _).symm.trans H; with_reducible exact H2_) | with_reducible exact H | (rw [hy175]; exact H) | exact H
                        have Ny175 := mS hy175
                        clear hy175
                        have H' := mS H
                        clear H
                        have p174 : 0 ≤ (x73_3 : Int) := of_decide_eq_true (by first | (with_reducible assumption) | assumption)
                        have q174 : x73_3 < (x5_3.length : Int) := of_decide_eq_true (by first | (with_reducible assumption) | assumption)
                        obtain ⟨ad174, e174, hx174_0⟩ := Kd.at_int (Kd.R_reads' HO_5.out).2.2 x73_3 p174 q174
                        obtain rfl : ad167 = ad174 := (by injection e174)
                        replace p174 := eq_true p174
                        replace q174 := eq_true q174
                        have p51 : 0 ≤ (x73_3 : Int) := of_decide_eq_true (by first | (with_reducible assumption) | assumption)
                        have q51 : (x73_3 : Int) < ((x5_3.length : Int) : Int) := of_decide_eq_true (by first | (with_reducible assumption) | assumption)
                        obtain ⟨go51, co51, eo51, gb51, gl51, cl51, HG51⟩ := Kd.R_form HO_5.out (by omega)
                        (first | cases eo51 | (injection eo51 with ea_ en_ ec_; (first | subst ea_ | (injection ea_ with ea_; subst ea_)); subst ec_; clear en_))
                        have GB51 := mS gb51
                        have GG51 := mS HG51
                        clear gb51 gl51 HG51
                        (first | simp only [add_plain] at hx167_0 | skip)
                        (first | simp only [add_plain] at hx171_0 | skip)
                        (first | simp only [add_plain] at hx172_0 | skip)
                        (first | simp only [add_plain] at hx174_0 | skip)
                        obtain ⟨hx51_0, hf51_0⟩ := Kd.R_celln 0 HO_5.out (x73_3 : Int) p51 q51
                        replace p51 := eq_true p51
                        replace q51 := eq_true q51
                        have HP52 := Kd.R_putg HO_5.out (x73_3 : Int) (wrap64 ((rd x5_3 x73_3) + 1))
                        go_wp2_with (first | ((with_reducible refine gate_store (t := 3) (p := 103) rfl ?_); refine store_event (t := 3) (p := 103) (v := ?vo_w53) (w1 := (wc.setCell ⟨go51, (x73_3 : Int).toNat, none⟩ (.int .i64 (wrap64 ((rd x5_3 x73_3) + 1))))) ?hg ?ho ?hn ?hr ?_; (case ho => rfl); (case hg => rfl); (case hn => rfl); (case hr => first | (go_simp; done) | (go_simp; rfl)); intro w53 hw; have hg : wc.grownBy w53 (some go51) := (by rw [hw]; exact HP52.2); have hp_ : Kd.R (Kd.int .i64) 3 w53 w.heap.size (fun _ => True) (.slice (some ⟨go51, 0, none⟩) x5_3.length co34) y175 := (by rw [hw, Ny175.out]; exact HP52.1); clear HP52; replace HO_6 := mS (Kd.R_over' (v := (.slice (some ⟨go51, 0, none⟩) x5_3.length co34)) (mR HO_6.out) (Kd.R_typed HO_5.out) (by decide) hg); replace BK169 := mS (blk_grown (g := gb169) (o := .cells #[.string ((rd_T33 (rd_L4 l0 x7_2) (rd x5_1 x7_2)).f0), .string ((rd_T33 (rd_L4 l0 x7_2) (rd x5_1 x7_2)).f1), .bool ((rd_T33 (rd_L4 l0 x7_2) (rd x5_1 x7_2)).f2)] 33 (0, 0)) (mK BK169.out) hg (Kd.R_ne HO_5.out BK169.out (by decide))); replace HO_5 := mS (hp_); replace HB := mS ((by rw [hw]; exact below_set (HB.out) GB51.out : Below w.heap.size w w53)); clear hg hw hp_))
                        (try simp only [← hl5_3])
                        (try simp only [add_plain] at *)
                        go_roundg kj41
                        case measure => have := HK1.out; have := HK2.out; have := HK3.out; have := HJ41.out; omega
                        case rel => exact ⟨(y175), (wrap64 (x73_3 + 1)), (by first | rfl | (simp; done) | (simp [*]; done)), H', ⟨by have := HK1.out; have := HK2.out; have := HK3.out; have := HJ41.out; omega⟩, ⟨by (try simp only [hl5_3]); (with_reducible repeat (first | apply Kd.R_alloc | apply Kd.R_drewN | apply Kd.R_drew)); exact HO_5.out⟩, ⟨by (try simp only [hl5_3]); (with_reducible repeat (first | apply Kd.R_alloc | apply Kd.R_drewN | apply Kd.R_drew)); exact HO_6.out⟩, ⟨by (try simp only [hl5_3]); (with_reducible repeat (first | refine blk_drewN ?_ _ | refine blk_drew ?_ | refine blk_alloc ?_ _)); exact BK169.out⟩, ⟨(mH1 HB.out GE169.out)⟩⟩
                       ·rw [if_neg c50] at H
                        exact absurd H (by simp)
                      ·rw [if_neg c49] at H
                       exact absurd H (by simp)
                     ·replace c48 := Bool.eq_false_iff.mpr c48
                      subst c48
                      have H1 : (impl_merge.l2 kj41 l0 a1 x5_3 x6_1 l0 (l0.length : Int) (wrap64 (x73_3 + 1)) ((rd_T33 (rd_L4 l0 x7_2) (rd x5_1 x7_2)).f0) ((rd_T33 (rd_L4 l0 x7_2) (rd x5_1 x7_2)).f1) ((rd_T33 (rd_L4 l0 x7_2) (rd x5_1 x7_2)).f2)) = some r := by rw [if_neg (show ¬ (false = true) by decide)] at H; exact H
                      clear H
                      have H := H1
                      clear H1
                      have H' := mS H
                      clear H
                      go_wp2
                      (try simp only [← hl5_3])
                      (try simp only [add_plain] at *)
                      go_roundg kj41
                      case measure => have := HK1.out; have := HK2.out; have := HK3.out; have := HJ41.out; omega
                      case rel => exact ⟨(x5_3), (wrap64 (x73_3 + 1)), (by first | rfl | (simp; done) | (simp [*]; done)), H', ⟨by have := HK1.out; have := HK2.out; have := HK3.out; have := HJ41.out; omega⟩, ⟨by (try simp only [hl5_3]); (with_reducible repeat (first | apply Kd.R_alloc | apply Kd.R_drewN | apply Kd.R_drew)); exact HO_5.out⟩, ⟨by (try simp only [hl5_3]); (with_reducible repeat (first | apply Kd.R_alloc | apply Kd.R_drewN | apply Kd.R_drew)); exact HO_6.out⟩, ⟨by (try simp only [hl5_3]); (with_reducible repeat (first | refine blk_drewN ?_ _ | refine blk_drew ?_ | refine blk_alloc ?_ _)); exact BK169.out⟩, ⟨(mH1 HB.out GE169.out)⟩⟩
                  ·rw [if_neg c41] at H
                   exact absurd H (by simp)
                 ·rw [if_neg c40] at H
                  exact absurd H (by simp)
                ·rw [if_neg c39] at H
                 have c39b0 : decide (x73_3 < (l0.length : Int)) = false := decide_eq_false c39
                 clear c39
                 have HC54 := mS H
                 clear H
                 go_upto_region 19 with (fail)
                 go_cut [111] (fun v111 wc => ∃ (kq : Nat) (x111_53 : Bool), v111 = .bool x111_53 ∧ Aside0 (impl_merge.j5 kq l0 a1 x5_3 x6_1 x111_53 ((rd_T33 (rd_L4 l0 x7_2) (rd x5_1 x7_2)).f0) ((rd_T33 (rd_L4 l0 x7_2) (rd x5_1 x7_2)).f1) ((rd_T33 (rd_L4 l0 x7_2) (rd x5_1 x7_2)).f2) = some r) ∧ Aside0 (kq ≤ k3) ∧ Aside0 (Kd.R (Kd.int .i64) 3 wc w.heap.size (fun _ => True) (.slice (some ad167) x5_3.length co34) x5_3) ∧ Aside0 (Kd.R k33 33 wc w.heap.size (fun k_ => k_ ≠ gb169) u6 x6_1) ∧ Aside0 (wc.heap[gb169]? = some (.cells #[.string ((rd_T33 (rd_L4 l0 x7_2) (rd x5_1 x7_2)).f0), .string ((rd_T33 (rd_L4 l0 x7_2) (rd x5_1 x7_2)).f1), .bool ((rd_T33 (rd_L4 l0 x7_2) (rd x5_1 x7_2)).f2)] 33 (0, 0))) ∧ Aside0 (Below w.heap.size w wc))
                 case first =>
                  have H := HC54.out
                  clear HC54
                  by_cases c55 : a1 = true
                  ·subst c55
                   have H1 : (impl_merge.j5 k3 l0 true x5_3 x6_1 (!((rd_T33 (rd_L4 l0 x7_2) (rd x5_1 x7_2)).f2)) ((rd_T33 (rd_L4 l0 x7_2) (rd x5_1 x7_2)).f0) ((rd_T33 (rd_L4 l0 x7_2) (rd x5_1 x7_2)).f1) ((rd_T33 (rd_L4 l0 x7_2) (rd x5_1 x7_2)).f2)) = some r := by rw [if_pos rfl] at H; exact H
                   clear H
                   have H := H1
                   clear H1
                   have H' := mS H
                   clear H
                   have hcz56_0 := mZ BK169.out 0
                   have hcz56_1 := mZ BK169.out 1
                   have hcz56_2 := mZ BK169.out 2
                   have hfz56_0 := blk_frozen BK169.out 0
                   have hfz56_1 := blk_frozen BK169.out 1
                   have hfz56_2 := blk_frozen BK169.out 2
                   go_wp2
                   go_meet
                   case rel => exact ⟨_, (!((rd_T33 (rd_L4 l0 x7_2) (rd x5_1 x7_2)).f2)), (by first | rfl | (simp; done) | (simp [*]; done)), H', ⟨by have := HK1.out; have := HK2.out; have := HK3.out; first | omega | exact Nat.le_refl _⟩, ⟨by (try simp only [hl5_3]); (with_reducible repeat (first | apply Kd.R_alloc | apply Kd.R_drewN | apply Kd.R_drew)); exact HO_5.out⟩, ⟨by (try simp only [hl5_3]); (with_reducible repeat (first | apply Kd.R_alloc | apply Kd.R_drewN | apply Kd.R_drew)); exact HO_6.out⟩, ⟨by (try simp only [hl5_3]); (with_reducible repeat (first | refine blk_drewN ?_ _ | refine blk_drew ?_ | refine blk_alloc ?_ _)); exact BK169.out⟩, ⟨(mH1 HB.out GE169.out)⟩⟩
                  ·replace c55 := Bool.eq_false_iff.mpr c55
                   subst c55
                   have H1 : (impl_merge.j5 k3 l0 false x5_3 x6_1 true ((rd_T33 (rd_L4 l0 x7_2) (rd x5_1 x7_2)).f0) ((rd_T33 (rd_L4 l0 x7_2) (rd x5_1 x7_2)).f1) ((rd_T33 (rd_L4 l0 x7_2) (rd x5_1 x7_2)).f2)) = some r := by rw [if_neg (show ¬ (false = true) by decide)] at H; exact H
                   clear H
                   have H := H1
                   clear H1
                   have H' := mS H
                   clear H
                   go_wp2
                   go_meet
                   case rel => exact ⟨_, (true), (by first | rfl | (simp; done) | (simp [*]; done)), H', ⟨by have := HK1.out; have := HK2.out; have := HK3.out; first | omega | exact Nat.le_refl _⟩, ⟨by (try simp only [hl5_3]); (with_reducible repeat (first | apply Kd.R_alloc | apply Kd.R_drewN | apply Kd.R_drew)); exact HO_5.out⟩, ⟨by (try simp only [hl5_3]); (with_reducible repeat (first | apply Kd.R_alloc | apply Kd.R_drewN | apply Kd.R_drew)); exact HO_6.out⟩, ⟨by (try simp only [hl5_3]); (with_reducible repeat (first | refine blk_drewN ?_ _ | refine blk_drew ?_ | refine blk_alloc ?_ _)); exact BK169.out⟩, ⟨(mH1 HB.out GE169.out)⟩⟩
                 case rest =>
                  clear HC54
                  try clear c1
                  try clear p1
                  try clear q1
                  try clear hx1
                  try clear c2
                  try clear p2
                  try clear c3
                  try clear c4
                  try clear c5
                  try clear p5
                  try clear q5
                  try clear hx5
                  try clear hf5
                  try clear p6
                  try clear c7
                  try clear c7b0
                  try clear c8
                  try clear c9
                  try clear c11
                  try clear c12
                  try clear c12b0
                  try clear c13
                  try clear c13b0
                  try clear c16
                  try clear c16b0
                  try clear p16
                  try clear q16
                  try clear hx16
                  try clear c17
                  try clear c17b0
                  try clear p17
                  try clear q17
                  try clear hx17
                  try clear c18
                  try clear c18b0
                  try clear c19
                  try clear c19b0
                  try clear c20
                  try clear c20b0
                  try clear c21
                  try clear c21b0
                  try clear c26
                  try clear c27
                  try clear c27b0
                  try clear c28
                  try clear c28b0
                  try clear c29
                  try clear c29b0
                  try clear c30
                  try clear c30b0
                  try clear c31
                  try clear c31b0
                  try clear c32
                  try clear c32b0
                  try clear c39
                  try clear c39b0
                  try clear c40
                  try clear c40b0
                  try clear c41
                  try clear c41b0
                  try clear c43
                  try clear c43b0
                  try clear c44
                  try clear c44b0
                  try clear c45
                  try clear c45b0
                  try clear c48
                  try clear c49
                  try clear c49b0
                  try clear c50
                  try clear c50b0
                  try clear p51
                  try clear q51
                  try clear hx51
                  try clear hf51
                  try clear c55
                  try clear hcz56_0
                  try clear hcz56_1
                  try clear hcz56_2
                  try clear hfz56_0
                  try clear hfz56_1
                  try clear hfz56_2
                  try clear hx160_0
                  try clear hx161_0
                  try clear hx162_0
                  try clear hx162_1
                  try clear hx162_2
                  try clear hx163_0
                  try clear hx164_0
                  try clear hx165_0
                  try clear hx165_1
                  try clear hx165_2
                  try clear hx166_0
                  try clear hx167_0
                  try clear hx168_0
                  try clear hx168_1
                  try clear hx168_2
                  try clear hx170_0
                  try clear hx171_0
                  try clear hx172_0
                  try clear hx173_0
                  try clear hx173_1
                  try clear hx173_2
                  try clear hx174_0
                  try clear hx51_0
                  try clear p1
                  try clear p16
                  try clear p160
                  try clear p161
                  try clear p162
                  try clear p163
                  try clear p164
                  try clear p165
                  try clear p166
                  try clear p167
                  try clear p168
                  try clear p17
                  try clear p170
                  try clear p171
                  try clear p172
                  try clear p173
                  try clear p174
                  try clear p2
                  try clear p51
                  try clear p6
                  try clear q1
                  try clear q16
                  try clear q160
                  try clear q161
                  try clear q162
                  try clear q163
                  try clear q164
                  try clear q165
                  try clear q166
                  try clear q167
                  try clear q168
                  try clear q17
                  try clear q170
                  try clear q171
                  try clear q172
                  try clear q173
                  try clear q174
                  try clear q51
                  obtain ⟨kq, x111_53, rfl, HA, HJ53, HO_5, HO_6, BK169, HB⟩ := hcut
                  cases kq with
                  | zero => exact absurd HA.out (by simp [impl_merge.j5])
                  | succ kj53 =>
                   have H := HA.out
                   clear HA
                   simp only [impl_merge.j5] at H
                   by_cases c57 : x111_53 = true
                   ·subst c57
                    have H1 : (if x6_1.length < 3518437208883 then (impl_merge.l0 kj53 l0 a1 x5_3 (x6_1 ++ [(⟨((rd_T33 (rd_L4 l0 x7_2) (rd x5_1 x7_2)).f0), ((rd_T33 (rd_L4 l0 x7_2) (rd x5_1 x7_2)).f1), ((rd_T33 (rd_L4 l0 x7_2) (rd x5_1 x7_2)).f2)⟩ : S33)])) else (none)) = some r := by rw [if_pos rfl] at H; exact H
                    clear H
                    have H := H1
                    clear H1
                    by_cases c58 : x6_1.length < 3518437208883
                    ·rw [if_pos c58] at H
                     have LMc58 := mS c58
                     clear c58
                     obtain ⟨y176, hy176⟩ : ∃ y_ : List (S33), y_ = (x6_1 ++ [(⟨((rd_T33 (rd_L4 l0 x7_2) (rd x5_1 x7_2)).f0), ((rd_T33 (rd_L4 l0 x7_2) (rd x5_1 x7_2)).f1), ((rd_T33 (rd_L4 l0 x7_2) (rd x5_1 x7_2)).f2)⟩ : S33)]) := ⟨_, rfl⟩
                     replace H : (impl_merge.l0 kj53 l0 a1 x5_3 y176) = some r := by first | (rw [hy176]; with_reducible exact H) | (have H2_ := (Option.bind_some _ _).symm.trans H; rw [hy176]; with_reducible exact H2_) | (have H2_ := (Option.bind_some _ _).symm.trans H; with_reducible exact H2_) | with_reducible exact H | (rw [hy176]; exact H) | exact H
                     have Ny176 := mS hy176
                     clear hy176
                     have H' := mS H
                     clear H
                     have hcz59_0 := mZ BK169.out 0
                     have hcz59_1 := mZ BK169.out 1
                     have hcz59_2 := mZ BK169.out 2
                     have hfz59_0 := blk_frozen BK169.out 0
                     have hfz59_1 := blk_frozen BK169.out 1
                     have hfz59_2 := blk_frozen BK169.out 2
                     go_wp2_with (first | ((with_reducible refine gate_builtin (b := .append) (xs := #[.tmp 112, .tmp 114]) rfl ?_); at_builtin; refine Kd.R_append k33 (w0 := w) w.heap.size rfl (.tmp 112) (.tmp 114) 90 33 (.agg #[(.string ⟨#[]⟩), (.string ⟨#[]⟩), (.bool false)]) 40 rfl Try.underlying90 info33 rfl (by decide) (by omega) u6 x6_1 (⟨((rd_T33 (rd_L4 l0 x7_2) (rd x5_1 x7_2)).f0), ((rd_T33 (rd_L4 l0 x7_2) (rd x5_1 x7_2)).f1), ((rd_T33 (rd_L4 l0 x7_2) (rd x5_1 x7_2)).f2)⟩ : S33) [.string ((rd_T33 (rd_L4 l0 x7_2) (rd x5_1 x7_2)).f0), .string ((rd_T33 (rd_L4 l0 x7_2) (rd x5_1 x7_2)).f1), .bool ((rd_T33 (rd_L4 l0 x7_2) (rd x5_1 x7_2)).f2)] (fun k_ => k_ ≠ gb169) (fun _ => False) rfl rfl ?aP (fun _ hk => hk.elim) ?aF ?aO ?aB ?aS ?aL ?_; (case aP => exact k33_mkM _ _ _ (⟨((rd_T33 (rd_L4 l0 x7_2) (rd x5_1 x7_2)).f0), ((rd_T33 (rd_L4 l0 x7_2) (rd x5_1 x7_2)).f1), ((rd_T33 (rd_L4 l0 x7_2) (rd x5_1 x7_2)).f2)⟩ : S33)); (case aB => exact (mH1 HB.out GE169.out)); (case aF => exact (fun k_ hk => Kd.freshB (g := gb169) (o := .cells #[.string ((rd_T33 (rd_L4 l0 x7_2) (rd x5_1 x7_2)).f0), .string ((rd_T33 (rd_L4 l0 x7_2) (rd x5_1 x7_2)).f1), .bool ((rd_T33 (rd_L4 l0 x7_2) (rd x5_1 x7_2)).f2)] 33 (0, 0)) (mK BK169.out) k_ hk)); (case aO => exact (mR HO_6.out)); (case aS => exact (below_size (mH1 HB.out GE169.out))); (case aL => have := LMc58.out; omega); intro v177 w60 ho hb hg hat; rw [← Ny176.out] at ho; replace HO_5 := mS (Kd.R_over' (mR HO_5.out) (Kd.R_typed (mR HO_6.out)) (by decide) hg); replace BK169 := mS (blk_grown (g := gb169) (o := .cells #[.string ((rd_T33 (rd_L4 l0 x7_2) (rd x5_1 x7_2)).f0), .string ((rd_T33 (rd_L4 l0 x7_2) (rd x5_1 x7_2)).f1), .bool ((rd_T33 (rd_L4 l0 x7_2) (rd x5_1 x7_2)).f2)] 33 (0, 0)) (mK BK169.out) hg (Kd.R_away HO_6.out (fun _ hk => hk))); replace HB := mS (hb); have HO178 := mS (ho); clear HO_6; clear ho hb hg hat))
                     (try simp only [← hl5_3])
                     (try simp only [add_plain] at *)
                     go_roundg kj53
                     case measure => have := HK1.out; have := HK2.out; have := HK3.out; have := HJ53.out; omega
                     case rel => exact ⟨(x5_3), (y176), H', ⟨by have := HK1.out; have := HK2.out; have := HK3.out; have := HJ53.out; omega⟩, ⟨by (try simp only [hl5_3]); (with_reducible repeat (first | apply Kd.R_alloc | apply Kd.R_drewN | apply Kd.R_drew)); exact HO_5.out⟩, ⟨by (try simp only [hl5_3]); (with_reducible repeat (first | apply Kd.R_alloc | apply Kd.R_drewN | apply Kd.R_drew)); exact Kd.R_mono HO178.out (fun _ hk => trivial)⟩, ⟨(mH1 HB.out GE169.out)⟩⟩
                    ·rw [if_neg c58] at H
                     exact absurd H (by simp)
                   ·replace c57 := Bool.eq_false_iff.mpr c57
                    subst c57
                    have H1 : (impl_merge.l0 kj53 l0 a1 x5_3 x6_1) = some r := by rw [if_neg (show ¬ (false = true) by decide)] at H; exact H
                    clear H
                    have H := H1
                    clear H1
                    have H' := mS H
                    clear H
                    go_wp2
                    (try simp only [← hl5_3])
                    (try simp only [add_plain] at *)
                    go_roundg kj53
                    case measure => have := HK1.out; have := HK2.out; have := HK3.out; have := HJ53.out; omega
                    case rel => exact ⟨(x5_3), (x6_1), H', ⟨by have := HK1.out; have := HK2.out; have := HK3.out; have := HJ53.out; omega⟩, ⟨by (try simp only [hl5_3]); (with_reducible repeat (first | apply Kd.R_alloc | apply Kd.R_drewN | apply Kd.R_drew)); exact HO_5.out⟩, ⟨by (try simp only [hl5_3]); (with_reducible repeat (first | apply Kd.R_alloc | apply Kd.R_drewN | apply Kd.R_drew)); exact Kd.R_mono HO_6.out (fun _ hk => trivial)⟩, ⟨(mH1 HB.out GE169.out)⟩⟩
             ·rw [if_neg c32] at H
              exact absurd H (by simp)
            ·rw [if_neg c31] at H
             exact absurd H (by simp)
           ·rw [if_neg c30] at H
            exact absurd H (by simp)
          ·rw [if_neg c29] at H
           exact absurd H (by simp)
         ·rw [if_neg c28] at H
          exact absurd H (by simp)
  ·rw [if_neg c4] at H
   exact absurd H (by simp)
 ·rw [if_neg c3] at H
  exact absurd H (by simp)

end Go.Proofs.Ytbepbgfkajnlbaa.MFnMerged
