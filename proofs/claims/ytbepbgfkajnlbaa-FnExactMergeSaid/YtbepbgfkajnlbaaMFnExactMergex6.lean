-- Written by mp.py, this session's own printer (wip/mp.py).
import Derived.Test.YtbepbgfkajnlbaaVMShort
import Derived.Test.YtbepbgfkajnlbaaMFnExactMergex0
namespace Go.Proofs.Ytbepbgfkajnlbaa.MFnExactMerge
open Go.RowKit Go.Proofs.YtbepbgfkajnlbaaW.PrintWords Go.Proofs.YtbepbgfkajnlbaaW.PrintLast Go.Proofs.YtbepbgfkajnlbaaW.PrintMore Go.Proofs.Ytbepbgfkajnlbaa.MWords
attribute [local go_sem] max2_int min2_int max_two min_two max_three min_three max_four min_four   -- for this text's walks alone
set_option linter.unusedVariables false
set_option linter.unusedSimpArgs false

/-! ### impl_merge: function 111 -/
mutual
def impl_merge.l0 : Nat → List (List (S33)) → Bool → List Int → List (S33) → Option ((List (S33)))
 | 0, _, _, _, _ => none
 | k + 1, x0, x1, x5, x6 => impl_merge.l1 k x0 x1 x5 x6 (-1) x0 (x0.length : Int) 0
def impl_merge.l1 : Nat → List (List (S33)) → Bool → List Int → List (S33) → Int → List (List (S33)) → Int → Int → Option ((List (S33)))
 | 0, _, _, _, _, _, _, _, _ => none
 | k + 1, x0, x1, x5, x6, x7, x16, x17, x18 => if x18 < x17 then (if 0 ≤ x18 then (if x18 < (x16.length : Int) then (if x18 < (x5.length : Int) then (if (rd x5 x18) < ((rd_L5 x16 x18).length : Int) then (if x7 < 0 then (impl_merge.j2 k x0 x1 x5 x6 x7 x18 x16 x17 x18 true) else (if 0 ≤ (rd x5 x18) then (if 0 ≤ x7 then (if x7 < (x0.length : Int) then (if x7 < (x5.length : Int) then (if 0 ≤ (rd x5 x7) then (if (rd x5 x7) < ((rd_L5 x0 x7).length : Int) then (impl_merge.j2 k x0 x1 x5 x6 x7 x18 x16 x17 x18 (Op.bytesLess (((rd_T33 (rd_L5 x16 x18) (rd x5 x18)).f0).toList) (((rd_T33 (rd_L5 x0 x7) (rd x5 x7)).f0).toList))) else (none)) else (none)) else (none)) else (none)) else (none)) else (none))) else (impl_merge.j2 k x0 x1 x5 x6 x7 x18 x16 x17 x18 false)) else (none)) else (none)) else (none)) else (if x7 < 0 then (some x6) else (if 0 ≤ x7 then (if x7 < (x0.length : Int) then (if x7 < (x5.length : Int) then (if 0 ≤ (rd x5 x7) then (if (rd x5 x7) < ((rd_L5 x0 x7).length : Int) then (impl_merge.l2 k x0 x1 x5 x6 x0 (x0.length : Int) 0 ((rd_T33 (rd_L5 x0 x7) (rd x5 x7)).f0) ((rd_T33 (rd_L5 x0 x7) (rd x5 x7)).f1) ((rd_T33 (rd_L5 x0 x7) (rd x5 x7)).f2)) else (none)) else (none)) else (none)) else (none)) else (none)))
def impl_merge.j2 : Nat → List (List (S33)) → Bool → List Int → List (S33) → Int → Int → List (List (S33)) → Int → Int → Bool → Option ((List (S33)))
 | 0, _, _, _, _, _, _, _, _, _, _ => none
 | k + 1, x0, x1, x5, x6, x7, x8, x16, x17, x18, x55 => if x55 = true then (impl_merge.l1 k x0 x1 x5 x6 x8 x16 x17 (wrap64 (x18 + 1))) else (impl_merge.l1 k x0 x1 x5 x6 x7 x16 x17 (wrap64 (x18 + 1)))
def impl_merge.l2 : Nat → List (List (S33)) → Bool → List Int → List (S33) → List (List (S33)) → Int → Int → ByteArray → ByteArray → Bool → Option ((List (S33)))
 | 0, _, _, _, _, _, _, _, _, _, _ => none
 | k + 1, x0, x1, x5, x6, x71, x72, x73, x194000, x194001, x194002 => if x73 < x72 then (if 0 ≤ x73 then (if x73 < (x71.length : Int) then (if x73 < (x5.length : Int) then (if (rd x5 x73) < ((rd_L5 x71 x73).length : Int) then (if 0 ≤ (rd x5 x73) then (impl_merge.j4 k x0 x1 x5 x6 x73 x71 x72 x73 (((rd_T33 (rd_L5 x71 x73) (rd x5 x73)).f0).toList == x194000.toList) x194000 x194001 x194002) else (none)) else (impl_merge.j4 k x0 x1 x5 x6 x73 x71 x72 x73 false x194000 x194001 x194002)) else (none)) else (none)) else (none)) else (if x1 = true then (impl_merge.j5 k x0 x1 x5 x6 (!x194002) x194000 x194001 x194002) else (impl_merge.j5 k x0 x1 x5 x6 true x194000 x194001 x194002))
def impl_merge.j4 : Nat → List (List (S33)) → Bool → List Int → List (S33) → Int → List (List (S33)) → Int → Int → Bool → ByteArray → ByteArray → Bool → Option ((List (S33)))
 | 0, _, _, _, _, _, _, _, _, _, _, _, _ => none
 | k + 1, x0, x1, x5, x6, x11, x71, x72, x73, x97, x194000, x194001, x194002 => if x97 = true then (if 0 ≤ x11 then (if x11 < (x5.length : Int) then (impl_merge.l2 k x0 x1 (x5.set (x11 : Int).toNat (wrap64 ((rd x5 x11) + 1))) x6 x71 x72 (wrap64 (x73 + 1)) x194000 x194001 x194002) else (none)) else (none)) else (impl_merge.l2 k x0 x1 x5 x6 x71 x72 (wrap64 (x73 + 1)) x194000 x194001 x194002)
def impl_merge.j5 : Nat → List (List (S33)) → Bool → List Int → List (S33) → Bool → ByteArray → ByteArray → Bool → Option ((List (S33)))
 | 0, _, _, _, _, _, _, _, _ => none
 | k + 1, x0, x1, x5, x6, x111, x194000, x194001, x194002 => if x111 = true then (if x6.length < 3518437208883 then (impl_merge.l0 k x0 x1 x5 (x6 ++ [(⟨x194000, x194001, x194002⟩ : S33)])) else (none)) else (impl_merge.l0 k x0 x1 x5 x6)
end
def impl_merge.f (k : Nat) (l0 : List (List (S33))) (a1 : Bool) : Option ((List (S33))) := if 0 ≤ (l0.length : Int) then (if ((l0.length : Int) : Int).toNat ≤ 35184372088832 then (impl_merge.l0 k l0 a1 (List.replicate ((l0.length : Int) : Int).toNat 0) ([] : List (S33))) else (none)) else (none)
theorem impl_merge.mono_l : ∀ k, (∀ y0 y1 y2 y3, LeO (impl_merge.l0 k y0 y1 y2 y3) (impl_merge.l0 (k + 1) y0 y1 y2 y3)) ∧ (∀ y0 y1 y2 y3 y4 y5 y6 y7, LeO (impl_merge.l1 k y0 y1 y2 y3 y4 y5 y6 y7) (impl_merge.l1 (k + 1) y0 y1 y2 y3 y4 y5 y6 y7)) ∧ (∀ y0 y1 y2 y3 y4 y5 y6 y7 y8 y9, LeO (impl_merge.j2 k y0 y1 y2 y3 y4 y5 y6 y7 y8 y9) (impl_merge.j2 (k + 1) y0 y1 y2 y3 y4 y5 y6 y7 y8 y9)) ∧ (∀ y0 y1 y2 y3 y4 y5 y6 y7 y8 y9, LeO (impl_merge.l2 k y0 y1 y2 y3 y4 y5 y6 y7 y8 y9) (impl_merge.l2 (k + 1) y0 y1 y2 y3 y4 y5 y6 y7 y8 y9)) ∧ (∀ y0 y1 y2 y3 y4 y5 y6 y7 y8 y9 y10 y11, LeO (impl_merge.j4 k y0 y1 y2 y3 y4 y5 y6 y7 y8 y9 y10 y11) (impl_merge.j4 (k + 1) y0 y1 y2 y3 y4 y5 y6 y7 y8 y9 y10 y11)) ∧ (∀ y0 y1 y2 y3 y4 y5 y6 y7, LeO (impl_merge.j5 k y0 y1 y2 y3 y4 y5 y6 y7) (impl_merge.j5 (k + 1) y0 y1 y2 y3 y4 y5 y6 y7))
 | 0 => ⟨fun _ _ _ _ r h => by simp [impl_merge.l0] at h, fun _ _ _ _ _ _ _ _ r h => by simp [impl_merge.l1] at h, fun _ _ _ _ _ _ _ _ _ _ r h => by simp [impl_merge.j2] at h, fun _ _ _ _ _ _ _ _ _ _ r h => by simp [impl_merge.l2] at h, fun _ _ _ _ _ _ _ _ _ _ _ _ r h => by simp [impl_merge.j4] at h, fun _ _ _ _ _ _ _ _ r h => by simp [impl_merge.j5] at h⟩
 | k + 1 => by
  obtain ⟨ih0, ih1, ih2, ih3, ih4, ih5⟩ := impl_merge.mono_l k
  refine ⟨?_, ?_, ?_, ?_, ?_, ?_⟩
  ·intro y0 y1 y2 y3
   unfold impl_merge.l0
   repeat' first
   | (with_reducible exact ih0 _ _ _ _)
   | (with_reducible exact ih1 _ _ _ _ _ _ _ _)
   | (with_reducible exact ih2 _ _ _ _ _ _ _ _ _ _)
   | (with_reducible exact ih3 _ _ _ _ _ _ _ _ _ _)
   | (with_reducible exact ih4 _ _ _ _ _ _ _ _ _ _ _ _)
   | (with_reducible exact ih5 _ _ _ _ _ _ _ _)
   | (with_reducible exact LeO.refl _)
   | (with_reducible exact LeO.none _)
   | (with_reducible refine LeO.ite ?_ ?_)
   | (with_reducible refine LeO.bind ?_ (fun _ => ?_))
   | exact ih0 _ _ _ _
   | exact ih1 _ _ _ _ _ _ _ _
   | exact ih2 _ _ _ _ _ _ _ _ _ _
   | exact ih3 _ _ _ _ _ _ _ _ _ _
   | exact ih4 _ _ _ _ _ _ _ _ _ _ _ _
   | exact ih5 _ _ _ _ _ _ _ _
   | exact LeO.none _
   | refine LeO.ite ?_ ?_
   | refine LeO.bind ?_ (fun _ => ?_)
  ·intro y0 y1 y2 y3 y4 y5 y6 y7
   unfold impl_merge.l1
   repeat' first
   | (with_reducible exact ih0 _ _ _ _)
   | (with_reducible exact ih1 _ _ _ _ _ _ _ _)
   | (with_reducible exact ih2 _ _ _ _ _ _ _ _ _ _)
   | (with_reducible exact ih3 _ _ _ _ _ _ _ _ _ _)
   | (with_reducible exact ih4 _ _ _ _ _ _ _ _ _ _ _ _)
   | (with_reducible exact ih5 _ _ _ _ _ _ _ _)
   | (with_reducible exact LeO.refl _)
   | (with_reducible exact LeO.none _)
   | (with_reducible refine LeO.ite ?_ ?_)
   | (with_reducible refine LeO.bind ?_ (fun _ => ?_))
   | exact ih0 _ _ _ _
   | exact ih1 _ _ _ _ _ _ _ _
   | exact ih2 _ _ _ _ _ _ _ _ _ _
   | exact ih3 _ _ _ _ _ _ _ _ _ _
   | exact ih4 _ _ _ _ _ _ _ _ _ _ _ _
   | exact ih5 _ _ _ _ _ _ _ _
   | exact LeO.none _
   | refine LeO.ite ?_ ?_
   | refine LeO.bind ?_ (fun _ => ?_)
  ·intro y0 y1 y2 y3 y4 y5 y6 y7 y8 y9
   unfold impl_merge.j2
   repeat' first
   | (with_reducible exact ih0 _ _ _ _)
   | (with_reducible exact ih1 _ _ _ _ _ _ _ _)
   | (with_reducible exact ih2 _ _ _ _ _ _ _ _ _ _)
   | (with_reducible exact ih3 _ _ _ _ _ _ _ _ _ _)
   | (with_reducible exact ih4 _ _ _ _ _ _ _ _ _ _ _ _)
   | (with_reducible exact ih5 _ _ _ _ _ _ _ _)
   | (with_reducible exact LeO.refl _)
   | (with_reducible exact LeO.none _)
   | (with_reducible refine LeO.ite ?_ ?_)
   | (with_reducible refine LeO.bind ?_ (fun _ => ?_))
   | exact ih0 _ _ _ _
   | exact ih1 _ _ _ _ _ _ _ _
   | exact ih2 _ _ _ _ _ _ _ _ _ _
   | exact ih3 _ _ _ _ _ _ _ _ _ _
   | exact ih4 _ _ _ _ _ _ _ _ _ _ _ _
   | exact ih5 _ _ _ _ _ _ _ _
   | exact LeO.none _
   | refine LeO.ite ?_ ?_
   | refine LeO.bind ?_ (fun _ => ?_)
  ·intro y0 y1 y2 y3 y4 y5 y6 y7 y8 y9
   unfold impl_merge.l2
   repeat' first
   | (with_reducible exact ih0 _ _ _ _)
   | (with_reducible exact ih1 _ _ _ _ _ _ _ _)
   | (with_reducible exact ih2 _ _ _ _ _ _ _ _ _ _)
   | (with_reducible exact ih3 _ _ _ _ _ _ _ _ _ _)
   | (with_reducible exact ih4 _ _ _ _ _ _ _ _ _ _ _ _)
   | (with_reducible exact ih5 _ _ _ _ _ _ _ _)
   | (with_reducible exact LeO.refl _)
   | (with_reducible exact LeO.none _)
   | (with_reducible refine LeO.ite ?_ ?_)
   | (with_reducible refine LeO.bind ?_ (fun _ => ?_))
   | exact ih0 _ _ _ _
   | exact ih1 _ _ _ _ _ _ _ _
   | exact ih2 _ _ _ _ _ _ _ _ _ _
   | exact ih3 _ _ _ _ _ _ _ _ _ _
   | exact ih4 _ _ _ _ _ _ _ _ _ _ _ _
   | exact ih5 _ _ _ _ _ _ _ _
   | exact LeO.none _
   | refine LeO.ite ?_ ?_
   | refine LeO.bind ?_ (fun _ => ?_)
  ·intro y0 y1 y2 y3 y4 y5 y6 y7 y8 y9 y10 y11
   unfold impl_merge.j4
   repeat' first
   | (with_reducible exact ih0 _ _ _ _)
   | (with_reducible exact ih1 _ _ _ _ _ _ _ _)
   | (with_reducible exact ih2 _ _ _ _ _ _ _ _ _ _)
   | (with_reducible exact ih3 _ _ _ _ _ _ _ _ _ _)
   | (with_reducible exact ih4 _ _ _ _ _ _ _ _ _ _ _ _)
   | (with_reducible exact ih5 _ _ _ _ _ _ _ _)
   | (with_reducible exact LeO.refl _)
   | (with_reducible exact LeO.none _)
   | (with_reducible refine LeO.ite ?_ ?_)
   | (with_reducible refine LeO.bind ?_ (fun _ => ?_))
   | exact ih0 _ _ _ _
   | exact ih1 _ _ _ _ _ _ _ _
   | exact ih2 _ _ _ _ _ _ _ _ _ _
   | exact ih3 _ _ _ _ _ _ _ _ _ _
   | exact ih4 _ _ _ _ _ _ _ _ _ _ _ _
   | exact ih5 _ _ _ _ _ _ _ _
   | exact LeO.none _
   | refine LeO.ite ?_ ?_
   | refine LeO.bind ?_ (fun _ => ?_)
  ·intro y0 y1 y2 y3 y4 y5 y6 y7
   unfold impl_merge.j5
   repeat' first
   | (with_reducible exact ih0 _ _ _ _)
   | (with_reducible exact ih1 _ _ _ _ _ _ _ _)
   | (with_reducible exact ih2 _ _ _ _ _ _ _ _ _ _)
   | (with_reducible exact ih3 _ _ _ _ _ _ _ _ _ _)
   | (with_reducible exact ih4 _ _ _ _ _ _ _ _ _ _ _ _)
   | (with_reducible exact ih5 _ _ _ _ _ _ _ _)
   | (with_reducible exact LeO.refl _)
   | (with_reducible exact LeO.none _)
   | (with_reducible refine LeO.ite ?_ ?_)
   | (with_reducible refine LeO.bind ?_ (fun _ => ?_))
   | exact ih0 _ _ _ _
   | exact ih1 _ _ _ _ _ _ _ _
   | exact ih2 _ _ _ _ _ _ _ _ _ _
   | exact ih3 _ _ _ _ _ _ _ _ _ _
   | exact ih4 _ _ _ _ _ _ _ _ _ _ _ _
   | exact ih5 _ _ _ _ _ _ _ _
   | exact LeO.none _
   | refine LeO.ite ?_ ?_
   | refine LeO.bind ?_ (fun _ => ?_)
theorem impl_merge.mono : ∀ a0 a1 k, LeO (impl_merge.f k a0 a1) (impl_merge.f (k + 1) a0 a1) := by
 intro a0 a1 k
 obtain ⟨ih0, ih1, ih2, ih3, ih4, ih5⟩ := impl_merge.mono_l k
 unfold impl_merge.f
 repeat' first
   | (with_reducible exact ih0 _ _ _ _)
   | (with_reducible exact ih1 _ _ _ _ _ _ _ _)
   | (with_reducible exact ih2 _ _ _ _ _ _ _ _ _ _)
   | (with_reducible exact ih3 _ _ _ _ _ _ _ _ _ _)
   | (with_reducible exact ih4 _ _ _ _ _ _ _ _ _ _ _ _)
   | (with_reducible exact ih5 _ _ _ _ _ _ _ _)
   | (with_reducible exact LeO.refl _)
   | (with_reducible exact LeO.none _)
   | (with_reducible refine LeO.ite ?_ ?_)
   | (with_reducible refine LeO.bind ?_ (fun _ => ?_))
   | exact ih0 _ _ _ _
   | exact ih1 _ _ _ _ _ _ _ _
   | exact ih2 _ _ _ _ _ _ _ _ _ _
   | exact ih3 _ _ _ _ _ _ _ _ _ _
   | exact ih4 _ _ _ _ _ _ _ _ _ _ _ _
   | exact ih5 _ _ _ _ _ _ _ _
   | exact LeO.none _
   | refine LeO.ite ?_ ?_
   | refine LeO.bind ?_ (fun _ => ?_)
def impl_merge.T7 : Bool × List (List Nat × List Nat) := (true, [([], []), ([], []), ([0, 1], [0, 1]), ([2], [2]), ([], []), ([4], [4]), ([3, 5], [3, 5]), ([6], [6]), ([7], [7]), ([8, 7], [7, 8]), ([9, 7, 7], [7, 9]), ([10], [10]), ([10], [10]), ([10], [10]), ([12, 13, 10], [10, 12, 13]), ([14, 10], [10, 14]), ([11, 15, 10], [10, 11, 15]), ([16, 10], [10, 16]), ([17, 10], [10, 17]), ([10], [10]), ([10], [10]), ([19, 20, 10], [10, 19, 20]), ([21, 10], [10, 21]), ([10], [10]), ([10], [10]), ([23, 24, 10], [10, 23, 24]), ([25, 10], [10, 25]), ([22, 26, 10], [10, 22, 26]), ([27, 10], [10, 27]), ([28, 10], [10, 28]), ([18, 29, 10], [10, 18, 29]), ([10, 30, 7], [7, 10, 30]), ([7, 31], [7, 31])])
def impl_merge.B7 : List Nat := [0, 0, 3, 7, 0, 16, 63, 127, 255, 511, 1023, 2047, 2047, 2047, 14335, 30719, 65535, 131071, 262143, 2047, 2047, 1574911, 3672063, 2047, 2047, 25167871, 58722303, 133695487, 267913215, 536348671, 1073741823, 2147483647, 4294967295]
theorem impl_merge.tab7 : rtab .any (opsOf Try.f111 7) = impl_merge.T7 := by kernel_rfl
theorem impl_merge.bits7 : waitsOk impl_merge.T7.2 impl_merge.B7 = true := by kernel_rfl
def impl_merge.T12 : Bool × List (List Nat × List Nat) := (true, [([], []), ([], []), ([0, 1], [0, 1]), ([2], [2]), ([], []), ([], []), ([4, 5], [4, 5]), ([6], [6]), ([3, 7], [3, 7]), ([8], [8]), ([], []), ([10, 9, 0, 1, 2, 3, 4, 5, 6, 7, 8, 9, 10], [9, 10])])
def impl_merge.B12 : List Nat := [0, 0, 3, 7, 0, 0, 48, 112, 255, 511, 0, 2047]
theorem impl_merge.tab12 : rtab .any (opsOf Try.f111 12) = impl_merge.T12 := by kernel_rfl
theorem impl_merge.bits12 : waitsOk impl_merge.T12.2 impl_merge.B12 = true := by kernel_rfl
def impl_merge.T16 : Bool × List (List Nat × List Nat) := (true, [([], []), ([], []), ([0, 1], [0, 1]), ([2], [2]), ([], []), ([4], [4]), ([3, 5], [3, 5]), ([6], [6]), ([7], [7]), ([7], [7]), ([7], [7]), ([9, 10, 7], [7, 9, 10]), ([11, 7], [7, 11]), ([8, 12, 7], [7, 8, 12]), ([13, 7], [7, 13]), ([14, 7], [7, 14]), ([7], [7]), ([16, 7], [7, 16]), ([15, 17, 7], [7, 15, 17]), ([7, 18], [7, 18])])
def impl_merge.B16 : List Nat := [0, 0, 3, 7, 0, 16, 63, 127, 255, 255, 255, 1791, 3839, 8191, 16383, 32767, 255, 65791, 262143, 524287]
theorem impl_merge.tab16 : rtab .any (opsOf Try.f111 16) = impl_merge.T16 := by kernel_rfl
theorem impl_merge.bits16 : waitsOk impl_merge.T16.2 impl_merge.B16 = true := by kernel_rfl
set_option maxHeartbeats 8000000 in
set_option maxRecDepth 100000 in
theorem impl_merge.calls (k : Nat) (A0 : Option Addr) (c0 : Nat) (l0 : List (List (S33))) (a1 : Bool) (r : List (S33)) (w : World) (hr0 : Kd.C (Kd.slice 33 k33) w A0 l0.length l0) (hc0 : l0.length ≤ c0) (h : impl_merge.f k l0 a1 = some r) :
  Calls Try.prog 111 #[.slice A0 l0.length c0, .bool a1] w fun e w' => ∃ v0_ : Value, e = .returned (v0_) ∧ Kd.R k33 33 w' w.heap.size (fun _ => True) v0_ r ∧ Below w.heap.size w w' := by
 have hu33 := Try.underlying33
 have HR0 := mS hr0
 have HC0 := mS hc0
 clear hr0 hc0
 have HB := mS (Below.refl w.heap.size w)
 have H : (if 0 ≤ (l0.length : Int) then (if ((l0.length : Int) : Int).toNat ≤ 35184372088832 then (impl_merge.l0 k l0 a1 (List.replicate ((l0.length : Int) : Int).toNat 0) ([] : List (S33))) else (none)) else (none)) = some r := h
 clear h
 by_cases c3 : 0 ≤ (l0.length : Int)
 ·rw [if_pos c3] at H
  have c3b0 := eq_true c3
  have c3b1 : decide (0 ≤ (l0.length : Int)) = true := decide_eq_true c3
  clear c3
  by_cases c4 : ((l0.length : Int) : Int).toNat ≤ 35184372088832
  ·rw [if_pos c4] at H
   have c4b0 := eq_true c4
   have c4b1 : decide (((l0.length : Int) : Int).toNat ≤ 35184372088832) = true := decide_eq_true c4
   clear c4
   obtain ⟨y180, hy180⟩ : ∃ y_ : List Int, y_ = (List.replicate ((l0.length : Int) : Int).toNat 0) := ⟨_, rfl⟩
   replace H : (impl_merge.l0 k l0 a1 y180 ([] : List (S33))) = some r := by first | (rw [hy180]; with_reducible exact H) | (have H2_ := (Option.bind_some _ _).symm.trans H; rw [hy180]; with_reducible exact H2_) | (have H2_ := (Option.bind_some _ _).symm.trans H; with_reducible exact H2_) | with_reducible exact H | (rw [hy180]; exact H) | exact H
   have Ny180 := mS hy180
   clear hy180
   have H' := mS H
   clear H
   go_enter Try.func111, Try.ntmps111
   go_wp2_with (first | ((with_reducible refine gate_dst (N := 15) rfl ?_); refine Kd.R_make (Kd.int .i64) _ 3 rfl (N := 15) rfl 29 _ _ rfl (l0.length : Int) rfl rfl Try.underlying29 (.int .i64 0) 8 info3 rfl (by decide) (by omega) 0 (ok := fun _ => True) (okp := fun _ => True) rfl (fun _ hk => hk) trivial (of_decide_eq_true (by first | (with_reducible assumption) | assumption)) (Nat.le_trans (Nat.mul_le_mul_right _ (of_decide_eq_true (by first | (with_reducible assumption) | assumption) : (l0.length : Int).toNat ≤ 35184372088832)) (by omega)) (Below.refl _ _) (Nat.le_refl _) ?_; intro v181 w5 ho6 hb hg_ hnew_; clear hg_ hnew_; (first | rw [← Ny180.out] at ho6 | (simp only [Int.reduceToNat] at ho6; rw [← Ny180.out] at ho6)); have HO182 := mS (Kd.R_lower ho6 (below_size (mH HB.out))); replace HB := mS (below_step (mH HB.out) hb); clear hb ho6))
   go_loopg [6] k (fun kq v6 w' => ∃ (x5_1 : List Int) (x6_1 : List (S33)), Aside0 (impl_merge.l0 kq l0 a1 x5_1 x6_1 = some r) ∧ Aside0 (kq ≤ k) ∧ Aside0 (Kd.R (Kd.int .i64) 3 w' w.heap.size (fun _ => True) v181 x5_1) ∧ Aside0 (Kd.R k33 33 w' w.heap.size (fun _ => True) v6 x6_1) ∧ Aside0 (Below w.heap.size w w'))
   case atStart => exact ⟨(y180), (([] : List (S33))), H', ⟨Nat.le_refl _⟩, ⟨by (with_reducible repeat (first | apply Kd.R_alloc | apply Kd.R_drewN | apply Kd.R_drew)); exact HO182.out⟩, ⟨by first | exact Kd.R_nil _ _ _ _ _ | exact Kd.N_nil _ _ _ _ _ | exact Kd.V_nil _ _ _ _ _ | exact Kd.Q_nil _ _ _ _ _ | exact Kd.S_nil _ _ _ _ _⟩, ⟨(mH HB.out)⟩⟩
   case round =>
    clear H'
    try clear c1
    try clear p2
    try clear c3
    try clear c3b0
    try clear c3b1
    try clear c4
    try clear c4b0
    try clear c4b1
    obtain ⟨x5_1, x6_1, HA, HK1, HO_5, HO_6, HB⟩ := hrel
    cases gk with
    | zero => exact absurd HA.out (by simp [impl_merge.l0])
    | succ k1 =>
     have H := HA.out
     clear HA
     simp only [impl_merge.l0] at H
     have H' := mS H
     clear H
     go_wp2
     go_loopg [7, 18] k1 (fun kq v7 v18 w' => ∃ (x7_2 : Int) (x18_2 : Int), v7 = .int .i64 x7_2 ∧ v18 = .int .i64 x18_2 ∧ Aside0 (impl_merge.l1 kq l0 a1 x5_1 x6_1 x7_2 l0 (l0.length : Int) x18_2 = some r) ∧ Aside0 (kq ≤ k1) ∧ Aside0 (Kd.R (Kd.int .i64) 3 w' w.heap.size (fun _ => True) v181 x5_1) ∧ Aside0 (Kd.R k33 33 w' w.heap.size (fun _ => True) u6 x6_1) ∧ Aside0 (Below w.heap.size w w'))
     case atStart => exact ⟨((-1)), (0), (by first | rfl | (simp; done) | (simp [*]; done)), (by first | rfl | (simp; done) | (simp [*]; done)), H', ⟨Nat.le_refl _⟩, ⟨by (with_reducible repeat (first | apply Kd.R_alloc | apply Kd.R_drewN | apply Kd.R_drew)); exact HO_5.out⟩, ⟨by (with_reducible repeat (first | apply Kd.R_alloc | apply Kd.R_drewN | apply Kd.R_drew)); exact HO_6.out⟩, ⟨(mH HB.out)⟩⟩
     case round =>
      clear H'
      try clear c1
      try clear p2
      try clear c3
      try clear c3b0
      try clear c3b1
      try clear c4
      try clear c4b0
      try clear c4b1
      try clear p2
      obtain ⟨x7_2, x18_2, rfl, rfl, HA, HK2, HO_5, HO_6, HB⟩ := hrel
      cases gk with
      | zero => exact absurd HA.out (by simp [impl_merge.l1])
      | succ k2 =>
       have H := HA.out
       clear HA
       simp only [impl_merge.l1] at H
       by_cases c7 : x18_2 < (l0.length : Int)
       ·rw [if_pos c7] at H
        have c7b0 : decide (x18_2 < (l0.length : Int)) = true := decide_eq_true c7
        clear c7
        by_cases c8 : 0 ≤ x18_2
        ·rw [if_pos c8] at H
         have c8b0 : decide (0 ≤ x18_2) = true := decide_eq_true c8
         clear c8
         by_cases c9 : x18_2 < (l0.length : Int)
         ·rw [if_pos c9] at H
          have c9b0 : decide (x18_2 < (l0.length : Int)) = true := decide_eq_true c9
          clear c9
          have HC10 := mS H
          clear H
          have p183 : 0 ≤ (x18_2 : Int) := of_decide_eq_true (by first | (with_reducible assumption) | assumption)
          have q183 : x18_2 < (l0.length : Int) := of_decide_eq_true (by first | (with_reducible assumption) | assumption)
          obtain ⟨ad183, A183_0, c183_0, e183, hx183_0, hl183_0, hi183_0⟩ := at_L5 HR0.out x18_2 p183 q183
          cases e183
          replace hx183_0 := mX HB.out hx183_0
          have HR183_0 := mS hi183_0
          have HC183_0 := mS hl183_0
          clear hi183_0 hl183_0
          replace p183 := eq_true p183
          replace q183 := eq_true q183
          go_upto_region 7 with (fail)
          go_cut [55] (fun v55 wc => ∃ (kq : Nat) (x55_9 : Bool), v55 = .bool x55_9 ∧ Aside0 (impl_merge.j2 kq l0 a1 x5_1 x6_1 x7_2 x18_2 l0 (l0.length : Int) x18_2 x55_9 = some r) ∧ Aside0 (kq ≤ k2) ∧ Aside0 (Kd.R (Kd.int .i64) 3 wc w.heap.size (fun _ => True) v181 x5_1) ∧ Aside0 (Kd.R k33 33 wc w.heap.size (fun _ => True) u6 x6_1) ∧ Aside0 (Below w.heap.size w wc))
          case first =>
           have H := HC10.out
           clear HC10
           by_cases c11 : x18_2 < (x5_1.length : Int)
           ·rw [if_pos c11] at H
            have c11b0 : decide (x18_2 < (x5_1.length : Int)) = true := decide_eq_true c11
            clear c11
            (first | rw [c11b0] | (simp only [i64_w, i32_w]; rw [c11b0]) | skip)
            by_cases c12 : (rd x5_1 x18_2) < ((rd_L5 l0 x18_2).length : Int)
            ·rw [if_pos c12] at H
             have c12b0 : decide ((rd x5_1 x18_2) < ((rd_L5 l0 x18_2).length : Int)) = true := decide_eq_true c12
             clear c12
             by_cases c13 : x7_2 < 0
             ·rw [if_pos c13] at H
              have c13b0 : decide (x7_2 < 0) = true := decide_eq_true c13
              clear c13
              have H' := mS H
              clear H
              try go_wp2
              have n0_ := mS (Kd.R_drew HO_5.out)
              have n1_ := mS (Kd.R_drew HO_6.out)
              have n2_ := mS (below_drew1 HB.out)
              clear HO_5
              clear HO_6
              clear HB
              have HO_5 := n0_
              have HO_6 := n1_
              have HB := n2_
              clear n0_ n1_ n2_
              obtain ⟨Ao15, co15, eo15⟩ := Kd.R_slice HO_5.out
              (first | subst eo15 | (injection eo15 with f1_ f2_ f3_; have f4_ := f1_.symm; have f5_ := f3_.symm; clear f1_ f2_ f3_; subst f4_; subst f5_))
              have p184 : 0 ≤ (x18_2 : Int) := of_decide_eq_true (by first | (with_reducible assumption) | assumption)
              have q184 : x18_2 < (x5_1.length : Int) := of_decide_eq_true (by first | (with_reducible assumption) | assumption)
              obtain ⟨ad184, e184, hx184_0⟩ := Kd.at_int (Kd.R_reads' HO_5.out).2.2 x18_2 p184 q184
              cases e184
              replace p184 := eq_true p184
              replace q184 := eq_true q184
              refine start_ (n := 33) (S := fun w' => w'.cell? (ad184.add (x18_2).toNat) = some (.int .i64 (rd x5_1 x18_2))) (ds := []) (mb 0 33) (by kernel_rfl) rfl rfl (hx184_0) (fun hHeld => ?_); refine with_tabW impl_merge.tab7 impl_merge.bits7 (fun HT_ HW_ => ?_)
              generalize wr.drew = w14 at HO_5 HO_6 HB hx184_0 hHeld ⊢
              refine mpu 0 23 HT_.out (mb 1 32) ?_
              refine mpu 1 24 HT_.out (mb 2 31) ?_
              refine mpu 2 25 HT_.out (mb 3 30) ?_
              refine mpu 4 27 HT_.out #[true, true, true, false, true, false, false, false, false, false, false, false, false, false, false, false, false, false, false, false, false, false, false, false, false, false, false, false, false, false, false, false, false] ?_
              refine mpu 5 28 HT_.out #[true, true, true, false, true, true, false, false, false, false, false, false, false, false, false, false, false, false, false, false, false, false, false, false, false, false, false, false, false, false, false, false, false] ?_
              refine take_ (i := 3) (N := some 26) (v := ?_) (a' := ?_) (mb 6 27) rfl rfl (take_ofW HT_.out HW_.out (by kernel_rfl)) (fun _ _ _ h => h) (Or.inl ⟨by rfl, ?_⟩) hHeld ?_ ?_
              rotate_left
              ·intro w' s0
               go_simp
               with_reducible rfl
              rotate_left
              ·simp only [Act.put, zA, zB, zC, i64_w, i32_w]
               rfl
              refine mpu 6 29 HT_.out (mb 7 26) ?_
              refine mpu 7 30 HT_.out (mb 8 25) ?_
              refine mpu 8 31 HT_.out (mb 9 24) ?_
              refine mpu 9 32 HT_.out (mb 10 23) ?_
              refine mpu 10 33 HT_.out (mb 11 22) ?_
              refine mpf 11 34 HT_.out (mb 12 21) ?_
              refine mpf 12 35 HT_.out (mb 13 20) ?_
              refine mpf 13 36 HT_.out (mb 14 19) ?_
              refine mpf 14 37 HT_.out (mb 15 18) ?_
              refine mpf 15 38 HT_.out (mb 16 17) ?_
              refine mpf 16 39 HT_.out (mb 17 16) ?_
              refine mpf 17 40 HT_.out (mb 18 15) ?_
              refine mpf 18 41 HT_.out (mb 19 14) ?_
              refine mpf 19 42 HT_.out (mb 20 13) ?_
              refine mpf 20 43 HT_.out (mb 21 12) ?_
              refine mpf 21 44 HT_.out (mb 22 11) ?_
              refine mpf 22 45 HT_.out (mb 23 10) ?_
              refine mpf 23 46 HT_.out (mb 24 9) ?_
              refine mpf 24 47 HT_.out (mb 25 8) ?_
              refine mpf 25 48 HT_.out (mb 26 7) ?_
              refine mpf 26 49 HT_.out (mb 27 6) ?_
              refine mpf 27 50 HT_.out (mb 28 5) ?_
              refine mpf 28 51 HT_.out (mb 29 4) ?_
              refine mpf 29 52 HT_.out (mb 30 3) ?_
              refine mpf 30 53 HT_.out (mb 31 2) ?_
              refine mpu 31 54 HT_.out (mb 32 1) ?_
              refine mpu 32 55 HT_.out (mb 33 0) ?_
              refine done_ (done_of HT_.out (by kernel_rfl)) ?_
              try go_wp2
              go_meet
              case rel => exact ⟨_, (true), (by first | rfl | (simp; done) | (simp [*]; done)), H', ⟨by have := HK1.out; have := HK2.out; first | omega | exact Nat.le_refl _⟩, ⟨by (with_reducible repeat (first | apply Kd.R_alloc | apply Kd.R_drewN | apply Kd.R_drew)); exact HO_5.out⟩, ⟨by (with_reducible repeat (first | apply Kd.R_alloc | apply Kd.R_drewN | apply Kd.R_drew)); exact HO_6.out⟩, ⟨(mH HB.out)⟩⟩
             ·rw [if_neg c13] at H
              have c13b0 : decide (x7_2 < 0) = false := decide_eq_false c13
              clear c13
              by_cases c16 : 0 ≤ (rd x5_1 x18_2)
              ·rw [if_pos c16] at H
               have c16b0 : decide (0 ≤ (rd x5_1 x18_2)) = true := decide_eq_true c16
               clear c16
               by_cases c17 : 0 ≤ x7_2
               ·rw [if_pos c17] at H
                have c17b0 : decide (0 ≤ x7_2) = true := decide_eq_true c17
                clear c17
                by_cases c18 : x7_2 < (l0.length : Int)
                ·rw [if_pos c18] at H
                 have c18b0 : decide (x7_2 < (l0.length : Int)) = true := decide_eq_true c18
                 clear c18
                 by_cases c19 : x7_2 < (x5_1.length : Int)
                 ·rw [if_pos c19] at H
                  have c19b0 : decide (x7_2 < (x5_1.length : Int)) = true := decide_eq_true c19
                  clear c19
                  by_cases c20 : 0 ≤ (rd x5_1 x7_2)
                  ·rw [if_pos c20] at H
                   have c20b0 : decide (0 ≤ (rd x5_1 x7_2)) = true := decide_eq_true c20
                   clear c20
                   by_cases c21 : (rd x5_1 x7_2) < ((rd_L5 l0 x7_2).length : Int)
                   ·rw [if_pos c21] at H
                    have c21b0 : decide ((rd x5_1 x7_2) < ((rd_L5 l0 x7_2).length : Int)) = true := decide_eq_true c21
                    clear c21
                    have H' := mS H
                    clear H
                    try go_wp2
                    have n0_ := mS (Kd.R_drew HO_5.out)
                    have n1_ := mS (Kd.R_drew HO_6.out)
                    have n2_ := mS (below_drew1 HB.out)
                    clear HO_5
                    clear HO_6
                    clear HB
                    have HO_5 := n0_
                    have HO_6 := n1_
                    have HB := n2_
                    clear n0_ n1_ n2_
                    obtain ⟨Ao23, co23, eo23⟩ := Kd.R_slice HO_5.out
                    (first | subst eo23 | (injection eo23 with f1_ f2_ f3_; have f4_ := f1_.symm; have f5_ := f3_.symm; clear f1_ f2_ f3_; subst f4_; subst f5_))
                    have p184 : 0 ≤ (x18_2 : Int) := of_decide_eq_true (by first | (with_reducible assumption) | assumption)
                    have q184 : x18_2 < (x5_1.length : Int) := of_decide_eq_true (by first | (with_reducible assumption) | assumption)
                    obtain ⟨ad184, e184, hx184_0⟩ := Kd.at_int (Kd.R_reads' HO_5.out).2.2 x18_2 p184 q184
                    cases e184
                    replace p184 := eq_true p184
                    replace q184 := eq_true q184
                    have p185 : 0 ≤ (x18_2 : Int) := of_decide_eq_true (by first | (with_reducible assumption) | assumption)
                    have q185 : x18_2 < (x5_1.length : Int) := of_decide_eq_true (by first | (with_reducible assumption) | assumption)
                    obtain ⟨ad185, e185, hx185_0⟩ := Kd.at_int (Kd.R_reads' HO_5.out).2.2 x18_2 p185 q185
                    obtain rfl : ad184 = ad185 := (by injection e185)
                    replace p185 := eq_true p185
                    replace q185 := eq_true q185
                    have p186 : 0 ≤ ((rd x5_1 x18_2) : Int) := of_decide_eq_true (by first | (with_reducible assumption) | assumption)
                    have q186 : (rd x5_1 x18_2) < ((rd_L5 l0 x18_2).length : Int) := of_decide_eq_true (by first | (with_reducible assumption) | assumption)
                    obtain ⟨ad186, e186, hx186_0, hx186_1, hx186_2⟩ := at_T33 HR183_0.out (rd x5_1 x18_2) p186 q186
                    have hw186_2 := hx186_2
                    have hw186_1 := hx186_1
                    have hw186_0 := hx186_0
                    cases e186
                    replace hx186_0 := mX HB.out hx186_0
                    replace hx186_1 := mX HB.out hx186_1
                    replace hx186_2 := mX HB.out hx186_2
                    replace p186 := eq_true p186
                    replace q186 := eq_true q186
                    have p187 : 0 ≤ (x7_2 : Int) := of_decide_eq_true (by first | (with_reducible assumption) | assumption)
                    have q187 : x7_2 < (l0.length : Int) := of_decide_eq_true (by first | (with_reducible assumption) | assumption)
                    obtain ⟨ad187, A187_0, c187_0, e187, hx187_0, hl187_0, hi187_0⟩ := at_L5 HR0.out x7_2 p187 q187
                    have hw187_0 := hx187_0
                    obtain rfl : ad183 = ad187 := (by injection e187)
                    replace hx187_0 := mX HB.out hx187_0
                    have HR187_0 := mS hi187_0
                    have HC187_0 := mS hl187_0
                    clear hi187_0 hl187_0
                    replace p187 := eq_true p187
                    replace q187 := eq_true q187
                    have p188 : 0 ≤ (x7_2 : Int) := of_decide_eq_true (by first | (with_reducible assumption) | assumption)
                    have q188 : x7_2 < (x5_1.length : Int) := of_decide_eq_true (by first | (with_reducible assumption) | assumption)
                    obtain ⟨ad188, e188, hx188_0⟩ := Kd.at_int (Kd.R_reads' HO_5.out).2.2 x7_2 p188 q188
                    obtain rfl : ad184 = ad188 := (by injection e188)
                    replace p188 := eq_true p188
                    replace q188 := eq_true q188
                    have p189 : 0 ≤ ((rd x5_1 x7_2) : Int) := of_decide_eq_true (by first | (with_reducible assumption) | assumption)
                    have q189 : (rd x5_1 x7_2) < ((rd_L5 l0 x7_2).length : Int) := of_decide_eq_true (by first | (with_reducible assumption) | assumption)
                    obtain ⟨ad189, e189, hx189_0, hx189_1, hx189_2⟩ := at_T33 HR187_0.out (rd x5_1 x7_2) p189 q189
                    have hw189_2 := hx189_2
                    have hw189_1 := hx189_1
                    have hw189_0 := hx189_0
                    cases e189
                    replace hx189_0 := mX HB.out hx189_0
                    replace hx189_1 := mX HB.out hx189_1
                    replace hx189_2 := mX HB.out hx189_2
                    replace p189 := eq_true p189
                    replace q189 := eq_true q189
                    refine start_ (n := 33) (S := fun w' => w'.cell? (ad184.add (x18_2).toNat) = some (.int .i64 (rd x5_1 x18_2)) ∧ w'.cell? (ad184.add (x18_2).toNat) = some (.int .i64 (rd x5_1 x18_2)) ∧ w'.cell? (ad186.add (((rd x5_1 x18_2)).toNat * 3)) = some (.string ((rd_T33 (rd_L5 l0 x18_2) (rd x5_1 x18_2)).f0)) ∧ w'.cell? ⟨(ad186.add (((rd x5_1 x18_2)).toNat * 3)).block, (ad186.add (((rd x5_1 x18_2)).toNat * 3)).off + 1, none⟩ = some (.string ((rd_T33 (rd_L5 l0 x18_2) (rd x5_1 x18_2)).f1)) ∧ w'.cell? ⟨(ad186.add (((rd x5_1 x18_2)).toNat * 3)).block, (ad186.add (((rd x5_1 x18_2)).toNat * 3)).off + 2, none⟩ = some (.bool ((rd_T33 (rd_L5 l0 x18_2) (rd x5_1 x18_2)).f2)) ∧ w'.cell? (ad183.add (x7_2).toNat) = some (.slice (some ad189) (rd_L5 l0 x7_2).length c187_0) ∧ w'.cell? (ad184.add (x7_2).toNat) = some (.int .i64 (rd x5_1 x7_2)) ∧ w'.cell? (ad189.add (((rd x5_1 x7_2)).toNat * 3)) = some (.string ((rd_T33 (rd_L5 l0 x7_2) (rd x5_1 x7_2)).f0)) ∧ w'.cell? ⟨(ad189.add (((rd x5_1 x7_2)).toNat * 3)).block, (ad189.add (((rd x5_1 x7_2)).toNat * 3)).off + 1, none⟩ = some (.string ((rd_T33 (rd_L5 l0 x7_2) (rd x5_1 x7_2)).f1)) ∧ w'.cell? ⟨(ad189.add (((rd x5_1 x7_2)).toNat * 3)).block, (ad189.add (((rd x5_1 x7_2)).toNat * 3)).off + 2, none⟩ = some (.bool ((rd_T33 (rd_L5 l0 x7_2) (rd x5_1 x7_2)).f2))) (ds := []) (mb 0 33) (by kernel_rfl) rfl rfl ⟨hx184_0, hx185_0, ((HB.out.cell (World.block_lt_of_cell? w _ hw186_0)).trans hw186_0), ((HB.out.cell (World.block_lt_of_cell? w _ hw186_1)).trans hw186_1), ((HB.out.cell (World.block_lt_of_cell? w _ hw186_2)).trans hw186_2), ((HB.out.cell (World.block_lt_of_cell? w _ hw187_0)).trans hw187_0), hx188_0, ((HB.out.cell (World.block_lt_of_cell? w _ hw189_0)).trans hw189_0), ((HB.out.cell (World.block_lt_of_cell? w _ hw189_1)).trans hw189_1), ((HB.out.cell (World.block_lt_of_cell? w _ hw189_2)).trans hw189_2)⟩ (fun hHeld => ?_); refine with_tabW impl_merge.tab7 impl_merge.bits7 (fun HT_ HW_ => ?_)
                    generalize wr.drew = w22 at HO_5 HO_6 HB HR187_0 hx184_0 hx185_0 hx186_0 hx186_1 hx186_2 hx187_0 hx188_0 hx189_0 hx189_1 hx189_2 hHeld ⊢
                    refine mpu 0 23 HT_.out (mb 1 32) ?_
                    refine mpu 1 24 HT_.out (mb 2 31) ?_
                    refine mpu 2 25 HT_.out (mb 3 30) ?_
                    refine mpu 4 27 HT_.out #[true, true, true, false, true, false, false, false, false, false, false, false, false, false, false, false, false, false, false, false, false, false, false, false, false, false, false, false, false, false, false, false, false] ?_
                    refine mpu 5 28 HT_.out #[true, true, true, false, true, true, false, false, false, false, false, false, false, false, false, false, false, false, false, false, false, false, false, false, false, false, false, false, false, false, false, false, false] ?_
                    refine mpt 3 26 HT_.out HW_.out (mb 6 27) hHeld ?_
                    refine mpu 6 29 HT_.out (mb 7 26) ?_
                    refine mpu 7 30 HT_.out (mb 8 25) ?_
                    refine mpu 8 31 HT_.out (mb 9 24) ?_
                    refine mpu 9 32 HT_.out (mb 10 23) ?_
                    refine mpu 10 33 HT_.out (mb 11 22) ?_
                    refine mpu 11 34 HT_.out (mb 12 21) ?_
                    refine mpu 12 35 HT_.out (mb 13 20) ?_
                    refine mpu 13 36 HT_.out (mb 14 19) ?_
                    refine mpu 14 37 HT_.out (mb 15 18) ?_
                    refine mpu 19 42 HT_.out #[true, true, true, true, true, true, true, true, true, true, true, true, true, true, true, false, false, false, false, true, false, false, false, false, false, false, false, false, false, false, false, false, false] ?_
                    refine mpu 20 43 HT_.out #[true, true, true, true, true, true, true, true, true, true, true, true, true, true, true, false, false, false, false, true, true, false, false, false, false, false, false, false, false, false, false, false, false] ?_
                    refine mpu 21 44 HT_.out #[true, true, true, true, true, true, true, true, true, true, true, true, true, true, true, false, false, false, false, true, true, true, false, false, false, false, false, false, false, false, false, false, false] ?_
                    refine mpu 23 46 HT_.out #[true, true, true, true, true, true, true, true, true, true, true, true, true, true, true, false, false, false, false, true, true, true, false, true, false, false, false, false, false, false, false, false, false] ?_
                    refine mpu 24 47 HT_.out #[true, true, true, true, true, true, true, true, true, true, true, true, true, true, true, false, false, false, false, true, true, true, false, true, true, false, false, false, false, false, false, false, false] ?_
                    refine mpu 25 48 HT_.out #[true, true, true, true, true, true, true, true, true, true, true, true, true, true, true, false, false, false, false, true, true, true, false, true, true, true, false, false, false, false, false, false, false] ?_
                    refine mpt 15 38 HT_.out HW_.out #[true, true, true, true, true, true, true, true, true, true, true, true, true, true, true, true, false, false, false, true, true, true, false, true, true, true, false, false, false, false, false, false, false] hHeld ?_
                    refine mpu 16 39 HT_.out #[true, true, true, true, true, true, true, true, true, true, true, true, true, true, true, true, true, false, false, true, true, true, false, true, true, true, false, false, false, false, false, false, false] ?_
                    refine mpu 17 40 HT_.out #[true, true, true, true, true, true, true, true, true, true, true, true, true, true, true, true, true, true, false, true, true, true, false, true, true, true, false, false, false, false, false, false, false] ?_
                    refine mpt 18 41 HT_.out HW_.out #[true, true, true, true, true, true, true, true, true, true, true, true, true, true, true, true, true, true, true, true, true, true, false, true, true, true, false, false, false, false, false, false, false] hHeld ?_
                    refine mpt 22 45 HT_.out HW_.out (mb 26 7) hHeld ?_
                    refine mpt 26 49 HT_.out HW_.out (mb 27 6) hHeld ?_
                    refine mpu 27 50 HT_.out (mb 28 5) ?_
                    refine mpu 28 51 HT_.out (mb 29 4) ?_
                    refine mpt 29 52 HT_.out HW_.out (mb 30 3) hHeld ?_
                    refine mpu 30 53 HT_.out (mb 31 2) ?_
                    refine mpu 31 54 HT_.out (mb 32 1) ?_
                    refine mpu 32 55 HT_.out (mb 33 0) ?_
                    refine done_ (done_of HT_.out (by kernel_rfl)) ?_
                    try go_wp2
                    go_meet
                    case rel => exact ⟨_, ((Op.bytesLess (((rd_T33 (rd_L5 l0 x18_2) (rd x5_1 x18_2)).f0).toList) (((rd_T33 (rd_L5 l0 x7_2) (rd x5_1 x7_2)).f0).toList))), (by first | rfl | (simp; done) | (simp [*]; done)), H', ⟨by have := HK1.out; have := HK2.out; first | omega | exact Nat.le_refl _⟩, ⟨by (with_reducible repeat (first | apply Kd.R_alloc | apply Kd.R_drewN | apply Kd.R_drew)); exact HO_5.out⟩, ⟨by (with_reducible repeat (first | apply Kd.R_alloc | apply Kd.R_drewN | apply Kd.R_drew)); exact HO_6.out⟩, ⟨(mH HB.out)⟩⟩
                   ·rw [if_neg c21] at H
                    exact absurd H (by simp)
                  ·rw [if_neg c20] at H
                   exact absurd H (by simp)
                 ·rw [if_neg c19] at H
                  exact absurd H (by simp)
                ·rw [if_neg c18] at H
                 exact absurd H (by simp)
               ·rw [if_neg c17] at H
                exact absurd H (by simp)
              ·rw [if_neg c16] at H
               exact absurd H (by simp)
            ·rw [if_neg c12] at H
             have c12b0 : decide ((rd x5_1 x18_2) < ((rd_L5 l0 x18_2).length : Int)) = false := decide_eq_false c12
             clear c12
             have H' := mS H
             clear H
             try go_wp2
             have n0_ := mS (Kd.R_drew HO_5.out)
             have n1_ := mS (Kd.R_drew HO_6.out)
             have n2_ := mS (below_drew1 HB.out)
             clear HO_5
             clear HO_6
             clear HB
             have HO_5 := n0_
             have HO_6 := n1_
             have HB := n2_
             clear n0_ n1_ n2_
             obtain ⟨Ao25, co25, eo25⟩ := Kd.R_slice HO_5.out
             (first | subst eo25 | (injection eo25 with f1_ f2_ f3_; have f4_ := f1_.symm; have f5_ := f3_.symm; clear f1_ f2_ f3_; subst f4_; subst f5_))
             have p184 : 0 ≤ (x18_2 : Int) := of_decide_eq_true (by first | (with_reducible assumption) | assumption)
             have q184 : x18_2 < (x5_1.length : Int) := of_decide_eq_true (by first | (with_reducible assumption) | assumption)
             obtain ⟨ad184, e184, hx184_0⟩ := Kd.at_int (Kd.R_reads' HO_5.out).2.2 x18_2 p184 q184
             cases e184
             replace p184 := eq_true p184
             replace q184 := eq_true q184
             refine start_ (n := 33) (S := fun w' => w'.cell? (ad184.add (x18_2).toNat) = some (.int .i64 (rd x5_1 x18_2))) (ds := []) (mb 0 33) (by kernel_rfl) rfl rfl (hx184_0) (fun hHeld => ?_); refine with_tabW impl_merge.tab7 impl_merge.bits7 (fun HT_ HW_ => ?_)
             generalize wr.drew = w24 at HO_5 HO_6 HB hx184_0 hHeld ⊢
             refine mpu 0 23 HT_.out (mb 1 32) ?_
             refine mpu 1 24 HT_.out (mb 2 31) ?_
             refine mpu 2 25 HT_.out (mb 3 30) ?_
             refine mpu 4 27 HT_.out #[true, true, true, false, true, false, false, false, false, false, false, false, false, false, false, false, false, false, false, false, false, false, false, false, false, false, false, false, false, false, false, false, false] ?_
             refine mpu 5 28 HT_.out #[true, true, true, false, true, true, false, false, false, false, false, false, false, false, false, false, false, false, false, false, false, false, false, false, false, false, false, false, false, false, false, false, false] ?_
             refine take_ (i := 3) (N := some 26) (v := ?_) (a' := ?_) (mb 6 27) rfl rfl (take_ofW HT_.out HW_.out (by kernel_rfl)) (fun _ _ _ h => h) (Or.inl ⟨by rfl, ?_⟩) hHeld ?_ ?_
             rotate_left
             ·intro w' s0
              go_simp
              with_reducible rfl
             rotate_left
             ·simp only [Act.put, zA, zB, zC, i64_w, i32_w]
              rfl
             refine mpu 6 29 HT_.out (mb 7 26) ?_
             refine mpu 7 30 HT_.out (mb 8 25) ?_
             refine mpf 8 31 HT_.out (mb 9 24) ?_
             refine mpf 9 32 HT_.out (mb 10 23) ?_
             refine mpf 10 33 HT_.out (mb 11 22) ?_
             refine mpf 11 34 HT_.out (mb 12 21) ?_
             refine mpf 12 35 HT_.out (mb 13 20) ?_
             refine mpf 13 36 HT_.out (mb 14 19) ?_
             refine mpf 14 37 HT_.out (mb 15 18) ?_
             refine mpf 15 38 HT_.out (mb 16 17) ?_
             refine mpf 16 39 HT_.out (mb 17 16) ?_
             refine mpf 17 40 HT_.out (mb 18 15) ?_
             refine mpf 18 41 HT_.out (mb 19 14) ?_
             refine mpf 19 42 HT_.out (mb 20 13) ?_
             refine mpf 20 43 HT_.out (mb 21 12) ?_
             refine mpf 21 44 HT_.out (mb 22 11) ?_
             refine mpf 22 45 HT_.out (mb 23 10) ?_
             refine mpf 23 46 HT_.out (mb 24 9) ?_
             refine mpf 24 47 HT_.out (mb 25 8) ?_
             refine mpf 25 48 HT_.out (mb 26 7) ?_
             refine mpf 26 49 HT_.out (mb 27 6) ?_
             refine mpf 27 50 HT_.out (mb 28 5) ?_
             refine mpf 28 51 HT_.out (mb 29 4) ?_
             refine mpf 29 52 HT_.out (mb 30 3) ?_
             refine mpf 30 53 HT_.out (mb 31 2) ?_
             refine mpf 31 54 HT_.out (mb 32 1) ?_
             refine mpu 32 55 HT_.out (mb 33 0) ?_
             refine done_ (done_of HT_.out (by kernel_rfl)) ?_
             try go_wp2
             go_meet
             case rel => exact ⟨_, (false), (by first | rfl | (simp; done) | (simp [*]; done)), H', ⟨by have := HK1.out; have := HK2.out; first | omega | exact Nat.le_refl _⟩, ⟨by (with_reducible repeat (first | apply Kd.R_alloc | apply Kd.R_drewN | apply Kd.R_drew)); exact HO_5.out⟩, ⟨by (with_reducible repeat (first | apply Kd.R_alloc | apply Kd.R_drewN | apply Kd.R_drew)); exact HO_6.out⟩, ⟨(mH HB.out)⟩⟩
           ·rw [if_neg c11] at H
            exact absurd H (by simp)
          case rest =>
           clear HC10
           try clear c1
           try clear p1
           try clear q1
           try clear hx1
           try clear c2
           try clear p2
           try clear c11
           try clear c12
           try clear c12b0
           try clear c13
           try clear c13b0
           try clear c16
           try clear c16b0
           try clear c17
           try clear c17b0
           try clear c18
           try clear c18b0
           try clear p18
           try clear q18
           try clear hx18
           try clear c19
           try clear c19b0
           try clear c20
           try clear c20b0
           try clear c21
           try clear c21b0
           try clear hx184_0
           try clear hx185_0
           try clear hx186_0
           try clear hx186_1
           try clear hx186_2
           try clear hx187_0
           try clear hx188_0
           try clear hx189_0
           try clear hx189_1
           try clear hx189_2
           try clear p184
           try clear p185
           try clear p186
           try clear p187
           try clear p188
           try clear p189
           try clear q184
           try clear q185
           try clear q186
           try clear q187
           try clear q188
           try clear q189
           obtain ⟨kq, x55_9, rfl, HA, HJ9, HO_5, HO_6, HB⟩ := hcut
           cases kq with
           | zero => exact absurd HA.out (by simp [impl_merge.j2])
           | succ kj9 =>
            have H := HA.out
            clear HA
            simp only [impl_merge.j2] at H
            by_cases c26 : x55_9 = true
            ·subst c26
             have H1 : (impl_merge.l1 kj9 l0 a1 x5_1 x6_1 x18_2 l0 (l0.length : Int) (wrap64 (x18_2 + 1))) = some r := by rw [if_pos rfl] at H; exact H
             clear H
             have H := H1
             clear H1
             have H' := mS H
             clear H
             go_wp2
             (try simp only [add_plain] at *)
             go_roundg kj9
             case measure => have := HK1.out; have := HK2.out; have := HJ9.out; omega
             case rel => exact ⟨(x18_2), (wrap64 (x18_2 + 1)), (by first | rfl | (simp; done) | (simp [*]; done)), (by first | rfl | (simp; done) | (simp [*]; done)), H', ⟨by have := HK1.out; have := HK2.out; have := HJ9.out; omega⟩, ⟨by (with_reducible repeat (first | apply Kd.R_alloc | apply Kd.R_drewN | apply Kd.R_drew)); exact HO_5.out⟩, ⟨by (with_reducible repeat (first | apply Kd.R_alloc | apply Kd.R_drewN | apply Kd.R_drew)); exact HO_6.out⟩, ⟨(mH HB.out)⟩⟩
            ·replace c26 := Bool.eq_false_iff.mpr c26
             subst c26
             have H1 : (impl_merge.l1 kj9 l0 a1 x5_1 x6_1 x7_2 l0 (l0.length : Int) (wrap64 (x18_2 + 1))) = some r := by rw [if_neg (show ¬ (false = true) by decide)] at H; exact H
             clear H
             have H := H1
             clear H1
             have H' := mS H
             clear H
             go_wp2
             (try simp only [add_plain] at *)
             go_roundg kj9
             case measure => have := HK1.out; have := HK2.out; have := HJ9.out; omega
             case rel => exact ⟨(x7_2), (wrap64 (x18_2 + 1)), (by first | rfl | (simp; done) | (simp [*]; done)), (by first | rfl | (simp; done) | (simp [*]; done)), H', ⟨by have := HK1.out; have := HK2.out; have := HJ9.out; omega⟩, ⟨by (with_reducible repeat (first | apply Kd.R_alloc | apply Kd.R_drewN | apply Kd.R_drew)); exact HO_5.out⟩, ⟨by (with_reducible repeat (first | apply Kd.R_alloc | apply Kd.R_drewN | apply Kd.R_drew)); exact HO_6.out⟩, ⟨(mH HB.out)⟩⟩
         ·rw [if_neg c9] at H
          exact absurd H (by simp)
        ·rw [if_neg c8] at H
         exact absurd H (by simp)
       ·rw [if_neg c7] at H
        have c7b0 : decide (x18_2 < (l0.length : Int)) = false := decide_eq_false c7
        clear c7
        by_cases c27 : x7_2 < 0
        ·rw [if_pos c27] at H
         have c27b0 : decide (x7_2 < 0) = true := decide_eq_true c27
         clear c27
         obtain rfl := Option.some.inj H
         go_wp2
         go_ret
         exact ⟨_, by first | rfl | (simp [errW_none, errW_some] <;> rfl) | (simp [*, errW_none, errW_some] <;> rfl), by (with_reducible repeat (first | apply Kd.R_alloc | apply Kd.R_drewN | apply Kd.R_drew)); exact HO_6.out, (mH HB.out)⟩
        ·rw [if_neg c27] at H
         have c27b0 : decide (x7_2 < 0) = false := decide_eq_false c27
         clear c27
         by_cases c28 : 0 ≤ x7_2
         ·rw [if_pos c28] at H
          have c28b0 : decide (0 ≤ x7_2) = true := decide_eq_true c28
          clear c28
          by_cases c29 : x7_2 < (l0.length : Int)
          ·rw [if_pos c29] at H
           have c29b0 : decide (x7_2 < (l0.length : Int)) = true := decide_eq_true c29
           clear c29
           by_cases c30 : x7_2 < (x5_1.length : Int)
           ·rw [if_pos c30] at H
            have c30b0 : decide (x7_2 < (x5_1.length : Int)) = true := decide_eq_true c30
            clear c30
            by_cases c31 : 0 ≤ (rd x5_1 x7_2)
            ·rw [if_pos c31] at H
             have c31b0 : decide (0 ≤ (rd x5_1 x7_2)) = true := decide_eq_true c31
             clear c31
             by_cases c32 : (rd x5_1 x7_2) < ((rd_L5 l0 x7_2).length : Int)
             ·rw [if_pos c32] at H
              have c32b0 : decide ((rd x5_1 x7_2) < ((rd_L5 l0 x7_2).length : Int)) = true := decide_eq_true c32
              clear c32
              have H' := mS H
              clear H
              try go_wp2
              have n0_ := mS (Kd.R_drew HO_5.out)
              have n1_ := mS (Kd.R_drew HO_6.out)
              have n2_ := mS (below_drew1 HB.out)
              clear HO_5
              clear HO_6
              clear HB
              have HO_5 := n0_
              have HO_6 := n1_
              have HB := n2_
              clear n0_ n1_ n2_
              have p190 : 0 ≤ (x7_2 : Int) := of_decide_eq_true (by first | (with_reducible assumption) | assumption)
              have q190 : x7_2 < (l0.length : Int) := of_decide_eq_true (by first | (with_reducible assumption) | assumption)
              obtain ⟨ad190, A190_0, c190_0, e190, hx190_0, hl190_0, hi190_0⟩ := at_L5 HR0.out x7_2 p190 q190
              have hw190_0 := hx190_0
              cases e190
              replace hx190_0 := mX HB.out hx190_0
              have HR190_0 := mS hi190_0
              have HC190_0 := mS hl190_0
              clear hi190_0 hl190_0
              replace p190 := eq_true p190
              replace q190 := eq_true q190
              obtain ⟨Ao34, co34, eo34⟩ := Kd.R_slice HO_5.out
              (first | subst eo34 | (injection eo34 with f1_ f2_ f3_; have f4_ := f1_.symm; have f5_ := f3_.symm; clear f1_ f2_ f3_; subst f4_; subst f5_))
              have p191 : 0 ≤ (x7_2 : Int) := of_decide_eq_true (by first | (with_reducible assumption) | assumption)
              have q191 : x7_2 < (x5_1.length : Int) := of_decide_eq_true (by first | (with_reducible assumption) | assumption)
              obtain ⟨ad191, e191, hx191_0⟩ := Kd.at_int (Kd.R_reads' HO_5.out).2.2 x7_2 p191 q191
              cases e191
              replace p191 := eq_true p191
              replace q191 := eq_true q191
              have p192 : 0 ≤ ((rd x5_1 x7_2) : Int) := of_decide_eq_true (by first | (with_reducible assumption) | assumption)
              have q192 : (rd x5_1 x7_2) < ((rd_L5 l0 x7_2).length : Int) := of_decide_eq_true (by first | (with_reducible assumption) | assumption)
              obtain ⟨ad192, e192, hx192_0, hx192_1, hx192_2⟩ := at_T33 HR190_0.out (rd x5_1 x7_2) p192 q192
              have hw192_2 := hx192_2
              have hw192_1 := hx192_1
              have hw192_0 := hx192_0
              cases e192
              replace hx192_0 := mX HB.out hx192_0
              replace hx192_1 := mX HB.out hx192_1
              replace hx192_2 := mX HB.out hx192_2
              replace p192 := eq_true p192
              replace q192 := eq_true q192
              refine start_ (n := 12) (S := fun w' => w'.cell? (ad190.add (x7_2).toNat) = some (.slice (some ad192) (rd_L5 l0 x7_2).length c190_0) ∧ w'.cell? (ad191.add (x7_2).toNat) = some (.int .i64 (rd x5_1 x7_2)) ∧ w'.cell? (ad192.add (((rd x5_1 x7_2)).toNat * 3)) = some (.string ((rd_T33 (rd_L5 l0 x7_2) (rd x5_1 x7_2)).f0)) ∧ w'.cell? ⟨(ad192.add (((rd x5_1 x7_2)).toNat * 3)).block, (ad192.add (((rd x5_1 x7_2)).toNat * 3)).off + 1, none⟩ = some (.string ((rd_T33 (rd_L5 l0 x7_2) (rd x5_1 x7_2)).f1)) ∧ w'.cell? ⟨(ad192.add (((rd x5_1 x7_2)).toNat * 3)).block, (ad192.add (((rd x5_1 x7_2)).toNat * 3)).off + 2, none⟩ = some (.bool ((rd_T33 (rd_L5 l0 x7_2) (rd x5_1 x7_2)).f2))) (ds := []) (mb 0 12) (by kernel_rfl) rfl rfl ⟨((HB.out.cell (World.block_lt_of_cell? w _ hw190_0)).trans hw190_0), hx191_0, ((HB.out.cell (World.block_lt_of_cell? w _ hw192_0)).trans hw192_0), ((HB.out.cell (World.block_lt_of_cell? w _ hw192_1)).trans hw192_1), ((HB.out.cell (World.block_lt_of_cell? w _ hw192_2)).trans hw192_2)⟩ (fun hHeld => ?_); refine with_tabW impl_merge.tab12 impl_merge.bits12 (fun HT_ HW_ => ?_)
              generalize wr.drew = w33 at HO_5 HO_6 HB HR190_0 hx190_0 hx191_0 hx192_0 hx192_1 hx192_2 hHeld ⊢
              refine mpu 0 61 HT_.out (mb 1 11) ?_
              refine mpu 1 62 HT_.out (mb 2 10) ?_
              refine mpu 2 63 HT_.out (mb 3 9) ?_
              refine mpu 4 65 HT_.out #[true, true, true, false, true, false, false, false, false, false, false, false] ?_
              refine mpu 5 66 HT_.out #[true, true, true, false, true, true, false, false, false, false, false, false] ?_
              refine mpu 6 67 HT_.out #[true, true, true, false, true, true, true, false, false, false, false, false] ?_
              refine mpt 3 64 HT_.out HW_.out (mb 7 5) hHeld ?_
              refine mpt 7 68 HT_.out HW_.out (mb 8 4) hHeld ?_
              refine mpu 8 69 HT_.out (mb 9 3) ?_
              refine mpt 9 70 HT_.out HW_.out (mb 10 2) hHeld ?_
              refine one_ (i := 10) (N := some 10) (mb 11 1) rfl rfl (one_of HT_.out (by kernel_rfl)) (by decide) (fun K hK => ?_)
              refine box_step ?hg (N := 10) ?hd (cs := #[.string (⟨#[]⟩ : ByteArray), .string (⟨#[]⟩ : ByteArray), .bool false]) (t := 33) ?hr ?_; (case hd => rfl); (case hg => rfl); (case hr => first | (go_simp; done) | (go_simp; rfl))
              intro gb193 hg w35 hbox hb
              have HS1_ := (hb.cell (World.block_lt_of_cell? _ _ (hHeld.2.1))).trans (hHeld.2.1)
              have n0_ := mS (Kd.R_below (mR HO_5.out) hb)
              have n1_ := mS (Kd.R_below (Kd.R_elderB (mR HO_6.out) gb193 (Nat.le_of_eq hg.symm)) hb)
              have n2_ := mS (below_step (mH HB.out) hb)
              have n3_ := mS (hbox)
              have n4_ := mG hg (mH HB.out)
              have n5_ := mG hg (mH HB.out)
              clear HO_5
              clear HO_6
              clear HB
              have HO_5 := n0_
              have HO_6 := n1_
              have HB := n2_
              have BK193 := n3_
              have GW193 := n4_
              have GE193 := n5_
              clear n0_ n1_ n2_ n3_ n4_ n5_
              clear hb hbox hg
              refine hK.out _ _ ⟨((HB.out.cell (World.block_lt_of_cell? w _ hw190_0)).trans hw190_0), HS1_, ((HB.out.cell (World.block_lt_of_cell? w _ hw192_0)).trans hw192_0), ((HB.out.cell (World.block_lt_of_cell? w _ hw192_1)).trans hw192_1), ((HB.out.cell (World.block_lt_of_cell? w _ hw192_2)).trans hw192_2)⟩ (fun hHeld => ?_)
              clear hK K
              refine norm_ (a' := ?_) ?_ ?_
              rotate_left
              ·show Act.put _ (some 10) _ = _
               simp only [Act.put, zA, zB, zC, i64_w, i32_w]
               rfl
              refine one_ (i := 11) (N := none) (mb 12 0) rfl rfl (one_of HT_.out (by kernel_rfl)) (by decide) (fun K hK => ?_)
              have hs36 : w35.cell? ⟨gb193, 0, none⟩ = some (.string (⟨#[]⟩ : ByteArray)) := mZ BK193.out 0
              have hfs36 := blk_frozen BK193.out 0
              have hs37 : w35.cell? ⟨gb193, 1, none⟩ = some (.string (⟨#[]⟩ : ByteArray)) := mZ BK193.out 1
              have hfs37 := blk_frozen BK193.out 1
              have hs38 : w35.cell? ⟨gb193, 2, none⟩ = some (.bool false) := mZ BK193.out 2
              have hfs38 := blk_frozen BK193.out 2
              refine skip_ (w1 := ?_) (by rfl) rfl ?_ ?_
              rotate_left
              ·go_simp
               rfl
              refine hK.out _ _ ⟨((cell_far (p := ⟨gb193, _, none⟩) (by first | exact Nat.ne_of_lt (Nat.lt_of_lt_of_le (by have := World.block_lt_of_cell? _ _ hw190_0; first | rwa [add_block] at this | exact this) GW193.out) | (rw [add_block]; exact Nat.ne_of_lt (Nat.lt_of_lt_of_le (by have := World.block_lt_of_cell? _ _ hw190_0; first | rwa [add_block] at this | exact this) GW193.out)) | (show (Addr.add _ _).block ≠ _; rw [add_block]; exact Nat.ne_of_lt (Nat.lt_of_lt_of_le (by have := World.block_lt_of_cell? _ _ hw190_0; first | rwa [add_block] at this | exact this) GW193.out)) | (dsimp only; exact Nat.ne_of_lt (Nat.lt_of_lt_of_le (by have := World.block_lt_of_cell? _ _ hw190_0; first | rwa [add_block] at this | exact this) GW193.out))) _).trans (((cell_far (p := ⟨gb193, _, none⟩) (by first | exact Nat.ne_of_lt (Nat.lt_of_lt_of_le (by have := World.block_lt_of_cell? _ _ hw190_0; first | rwa [add_block] at this | exact this) GW193.out) | (rw [add_block]; exact Nat.ne_of_lt (Nat.lt_of_lt_of_le (by have := World.block_lt_of_cell? _ _ hw190_0; first | rwa [add_block] at this | exact this) GW193.out)) | (show (Addr.add _ _).block ≠ _; rw [add_block]; exact Nat.ne_of_lt (Nat.lt_of_lt_of_le (by have := World.block_lt_of_cell? _ _ hw190_0; first | rwa [add_block] at this | exact this) GW193.out)) | (dsimp only; exact Nat.ne_of_lt (Nat.lt_of_lt_of_le (by have := World.block_lt_of_cell? _ _ hw190_0; first | rwa [add_block] at this | exact this) GW193.out))) _).trans (((cell_far (p := ⟨gb193, _, none⟩) (by first | exact Nat.ne_of_lt (Nat.lt_of_lt_of_le (by have := World.block_lt_of_cell? _ _ hw190_0; first | rwa [add_block] at this | exact this) GW193.out) | (rw [add_block]; exact Nat.ne_of_lt (Nat.lt_of_lt_of_le (by have := World.block_lt_of_cell? _ _ hw190_0; first | rwa [add_block] at this | exact this) GW193.out)) | (show (Addr.add _ _).block ≠ _; rw [add_block]; exact Nat.ne_of_lt (Nat.lt_of_lt_of_le (by have := World.block_lt_of_cell? _ _ hw190_0; first | rwa [add_block] at this | exact this) GW193.out)) | (dsimp only; exact Nat.ne_of_lt (Nat.lt_of_lt_of_le (by have := World.block_lt_of_cell? _ _ hw190_0; first | rwa [add_block] at this | exact this) GW193.out))) _).trans (hHeld.1)))))), ((cell_far (p := ⟨gb193, _, none⟩) (by first | exact Kd.own_blk (Kd.R_ne HO_5.out BK193.out (by decide)) | (rw [add_block]; exact Kd.own_blk (Kd.R_ne HO_5.out BK193.out (by decide))) | (show (Addr.add _ _).block ≠ _; rw [add_block]; exact Kd.own_blk (Kd.R_ne HO_5.out BK193.out (by decide))) | (dsimp only; exact Kd.own_blk (Kd.R_ne HO_5.out BK193.out (by decide)))) _).trans (((cell_far (p := ⟨gb193, _, none⟩) (by first | exact Kd.own_blk (Kd.R_ne HO_5.out BK193.out (by decide)) | (rw [add_block]; exact Kd.own_blk (Kd.R_ne HO_5.out BK193.out (by decide))) | (show (Addr.add _ _).block ≠ _; rw [add_block]; exact Kd.own_blk (Kd.R_ne HO_5.out BK193.out (by decide))) | (dsimp only; exact Kd.own_blk (Kd.R_ne HO_5.out BK193.out (by decide)))) _).trans (((cell_far (p := ⟨gb193, _, none⟩) (by first | exact Kd.own_blk (Kd.R_ne HO_5.out BK193.out (by decide)) | (rw [add_block]; exact Kd.own_blk (Kd.R_ne HO_5.out BK193.out (by decide))) | (show (Addr.add _ _).block ≠ _; rw [add_block]; exact Kd.own_blk (Kd.R_ne HO_5.out BK193.out (by decide))) | (dsimp only; exact Kd.own_blk (Kd.R_ne HO_5.out BK193.out (by decide)))) _).trans (hHeld.2.1)))))), ((cell_far (p := ⟨gb193, _, none⟩) (by first | exact Nat.ne_of_lt (Nat.lt_of_lt_of_le (by have := World.block_lt_of_cell? _ _ hw192_0; first | rwa [add_block] at this | exact this) GW193.out) | (rw [add_block]; exact Nat.ne_of_lt (Nat.lt_of_lt_of_le (by have := World.block_lt_of_cell? _ _ hw192_0; first | rwa [add_block] at this | exact this) GW193.out)) | (show (Addr.add _ _).block ≠ _; rw [add_block]; exact Nat.ne_of_lt (Nat.lt_of_lt_of_le (by have := World.block_lt_of_cell? _ _ hw192_0; first | rwa [add_block] at this | exact this) GW193.out)) | (dsimp only; exact Nat.ne_of_lt (Nat.lt_of_lt_of_le (by have := World.block_lt_of_cell? _ _ hw192_0; first | rwa [add_block] at this | exact this) GW193.out))) _).trans (((cell_far (p := ⟨gb193, _, none⟩) (by first | exact Nat.ne_of_lt (Nat.lt_of_lt_of_le (by have := World.block_lt_of_cell? _ _ hw192_0; first | rwa [add_block] at this | exact this) GW193.out) | (rw [add_block]; exact Nat.ne_of_lt (Nat.lt_of_lt_of_le (by have := World.block_lt_of_cell? _ _ hw192_0; first | rwa [add_block] at this | exact this) GW193.out)) | (show (Addr.add _ _).block ≠ _; rw [add_block]; exact Nat.ne_of_lt (Nat.lt_of_lt_of_le (by have := World.block_lt_of_cell? _ _ hw192_0; first | rwa [add_block] at this | exact this) GW193.out)) | (dsimp only; exact Nat.ne_of_lt (Nat.lt_of_lt_of_le (by have := World.block_lt_of_cell? _ _ hw192_0; first | rwa [add_block] at this | exact this) GW193.out))) _).trans (((cell_far (p := ⟨gb193, _, none⟩) (by first | exact Nat.ne_of_lt (Nat.lt_of_lt_of_le (by have := World.block_lt_of_cell? _ _ hw192_0; first | rwa [add_block] at this | exact this) GW193.out) | (rw [add_block]; exact Nat.ne_of_lt (Nat.lt_of_lt_of_le (by have := World.block_lt_of_cell? _ _ hw192_0; first | rwa [add_block] at this | exact this) GW193.out)) | (show (Addr.add _ _).block ≠ _; rw [add_block]; exact Nat.ne_of_lt (Nat.lt_of_lt_of_le (by have := World.block_lt_of_cell? _ _ hw192_0; first | rwa [add_block] at this | exact this) GW193.out)) | (dsimp only; exact Nat.ne_of_lt (Nat.lt_of_lt_of_le (by have := World.block_lt_of_cell? _ _ hw192_0; first | rwa [add_block] at this | exact this) GW193.out))) _).trans (hHeld.2.2.1)))))), ((cell_far (p := ⟨gb193, _, none⟩) (by first | exact Nat.ne_of_lt (Nat.lt_of_lt_of_le (by have := World.block_lt_of_cell? _ _ hw192_1; first | rwa [add_block] at this | exact this) GW193.out) | (rw [add_block]; exact Nat.ne_of_lt (Nat.lt_of_lt_of_le (by have := World.block_lt_of_cell? _ _ hw192_1; first | rwa [add_block] at this | exact this) GW193.out)) | (show (Addr.add _ _).block ≠ _; rw [add_block]; exact Nat.ne_of_lt (Nat.lt_of_lt_of_le (by have := World.block_lt_of_cell? _ _ hw192_1; first | rwa [add_block] at this | exact this) GW193.out)) | (dsimp only; exact Nat.ne_of_lt (Nat.lt_of_lt_of_le (by have := World.block_lt_of_cell? _ _ hw192_1; first | rwa [add_block] at this | exact this) GW193.out))) _).trans (((cell_far (p := ⟨gb193, _, none⟩) (by first | exact Nat.ne_of_lt (Nat.lt_of_lt_of_le (by have := World.block_lt_of_cell? _ _ hw192_1; first | rwa [add_block] at this | exact this) GW193.out) | (rw [add_block]; exact Nat.ne_of_lt (Nat.lt_of_lt_of_le (by have := World.block_lt_of_cell? _ _ hw192_1; first | rwa [add_block] at this | exact this) GW193.out)) | (show (Addr.add _ _).block ≠ _; rw [add_block]; exact Nat.ne_of_lt (Nat.lt_of_lt_of_le (by have := World.block_lt_of_cell? _ _ hw192_1; first | rwa [add_block] at this | exact this) GW193.out)) | (dsimp only; exact Nat.ne_of_lt (Nat.lt_of_lt_of_le (by have := World.block_lt_of_cell? _ _ hw192_1; first | rwa [add_block] at this | exact this) GW193.out))) _).trans (((cell_far (p := ⟨gb193, _, none⟩) (by first | exact Nat.ne_of_lt (Nat.lt_of_lt_of_le (by have := World.block_lt_of_cell? _ _ hw192_1; first | rwa [add_block] at this | exact this) GW193.out) | (rw [add_block]; exact Nat.ne_of_lt (Nat.lt_of_lt_of_le (by have := World.block_lt_of_cell? _ _ hw192_1; first | rwa [add_block] at this | exact this) GW193.out)) | (show (Addr.add _ _).block ≠ _; rw [add_block]; exact Nat.ne_of_lt (Nat.lt_of_lt_of_le (by have := World.block_lt_of_cell? _ _ hw192_1; first | rwa [add_block] at this | exact this) GW193.out)) | (dsimp only; exact Nat.ne_of_lt (Nat.lt_of_lt_of_le (by have := World.block_lt_of_cell? _ _ hw192_1; first | rwa [add_block] at this | exact this) GW193.out))) _).trans (hHeld.2.2.2.1)))))), ((cell_far (p := ⟨gb193, _, none⟩) (by first | exact Nat.ne_of_lt (Nat.lt_of_lt_of_le (by have := World.block_lt_of_cell? _ _ hw192_2; first | rwa [add_block] at this | exact this) GW193.out) | (rw [add_block]; exact Nat.ne_of_lt (Nat.lt_of_lt_of_le (by have := World.block_lt_of_cell? _ _ hw192_2; first | rwa [add_block] at this | exact this) GW193.out)) | (show (Addr.add _ _).block ≠ _; rw [add_block]; exact Nat.ne_of_lt (Nat.lt_of_lt_of_le (by have := World.block_lt_of_cell? _ _ hw192_2; first | rwa [add_block] at this | exact this) GW193.out)) | (dsimp only; exact Nat.ne_of_lt (Nat.lt_of_lt_of_le (by have := World.block_lt_of_cell? _ _ hw192_2; first | rwa [add_block] at this | exact this) GW193.out))) _).trans (((cell_far (p := ⟨gb193, _, none⟩) (by first | exact Nat.ne_of_lt (Nat.lt_of_lt_of_le (by have := World.block_lt_of_cell? _ _ hw192_2; first | rwa [add_block] at this | exact this) GW193.out) | (rw [add_block]; exact Nat.ne_of_lt (Nat.lt_of_lt_of_le (by have := World.block_lt_of_cell? _ _ hw192_2; first | rwa [add_block] at this | exact this) GW193.out)) | (show (Addr.add _ _).block ≠ _; rw [add_block]; exact Nat.ne_of_lt (Nat.lt_of_lt_of_le (by have := World.block_lt_of_cell? _ _ hw192_2; first | rwa [add_block] at this | exact this) GW193.out)) | (dsimp only; exact Nat.ne_of_lt (Nat.lt_of_lt_of_le (by have := World.block_lt_of_cell? _ _ hw192_2; first | rwa [add_block] at this | exact this) GW193.out))) _).trans (((cell_far (p := ⟨gb193, _, none⟩) (by first | exact Nat.ne_of_lt (Nat.lt_of_lt_of_le (by have := World.block_lt_of_cell? _ _ hw192_2; first | rwa [add_block] at this | exact this) GW193.out) | (rw [add_block]; exact Nat.ne_of_lt (Nat.lt_of_lt_of_le (by have := World.block_lt_of_cell? _ _ hw192_2; first | rwa [add_block] at this | exact this) GW193.out)) | (show (Addr.add _ _).block ≠ _; rw [add_block]; exact Nat.ne_of_lt (Nat.lt_of_lt_of_le (by have := World.block_lt_of_cell? _ _ hw192_2; first | rwa [add_block] at this | exact this) GW193.out)) | (dsimp only; exact Nat.ne_of_lt (Nat.lt_of_lt_of_le (by have := World.block_lt_of_cell? _ _ hw192_2; first | rwa [add_block] at this | exact this) GW193.out))) _).trans (hHeld.2.2.2.2))))))⟩ (fun hHeld => ?_)
              clear hK K
              refine done_ (done_of HT_.out (by kernel_rfl)) ?_
              try go_wp2
              go_loopg [73] k2 (fun kq v73 w' => ∃ (x5_3 : List Int) (x73_3 : Int), v73 = .int .i64 x73_3 ∧ Aside0 (impl_merge.l2 kq l0 a1 x5_3 x6_1 l0 (l0.length : Int) x73_3 ((rd_T33 (rd_L5 l0 x7_2) (rd x5_1 x7_2)).f0) ((rd_T33 (rd_L5 l0 x7_2) (rd x5_1 x7_2)).f1) ((rd_T33 (rd_L5 l0 x7_2) (rd x5_1 x7_2)).f2) = some r) ∧ Aside0 (kq ≤ k2) ∧ Aside0 (Kd.R (Kd.int .i64) 3 w' w.heap.size (fun _ => True) (.slice (some ad191) x5_1.length co34) x5_3) ∧ Aside0 (Kd.R k33 33 w' w.heap.size (fun k_ => k_ ≠ gb193) u6 x6_1) ∧ Aside0 (w'.heap[gb193]? = some (.cells #[.string ((rd_T33 (rd_L5 l0 x7_2) (rd x5_1 x7_2)).f0), .string ((rd_T33 (rd_L5 l0 x7_2) (rd x5_1 x7_2)).f1), .bool ((rd_T33 (rd_L5 l0 x7_2) (rd x5_1 x7_2)).f2)] 33 (0, 0))) ∧ Aside0 (Below w.heap.size w w'))
              case atStart => exact ⟨(x5_1), (0), (by first | rfl | (simp; done) | (simp [*]; done)), H', ⟨Nat.le_refl _⟩, ⟨by (with_reducible repeat (first | apply Kd.R_alloc | apply Kd.R_drewN | apply Kd.R_drew)); exact Kd.R_mono (Kd.R_far (p := ⟨gb193, 2, none⟩) (Kd.R_far (p := ⟨gb193, 1, none⟩) (Kd.R_far (p := ⟨gb193, 0, none⟩) (Kd.R_types HO_5.out BK193.out (by decide)) (fun _ hk => hk.2) (.string ((rd_T33 (rd_L5 l0 x7_2) (rd x5_1 x7_2)).f0))) (fun _ hk => hk.2) (.string ((rd_T33 (rd_L5 l0 x7_2) (rd x5_1 x7_2)).f1))) (fun _ hk => hk.2) (.bool ((rd_T33 (rd_L5 l0 x7_2) (rd x5_1 x7_2)).f2))) (fun _ hk => trivial)⟩, ⟨by (with_reducible repeat (first | apply Kd.R_alloc | apply Kd.R_drewN | apply Kd.R_drew)); exact Kd.R_mono (Kd.R_far (p := ⟨gb193, 2, none⟩) (Kd.R_far (p := ⟨gb193, 1, none⟩) (Kd.R_far (p := ⟨gb193, 0, none⟩) (Kd.R_mono HO_6.out (fun k_ hk => (⟨hk, hk.2⟩ : _ ∧ k_ ≠ gb193))) (fun _ hk => hk.2) (.string ((rd_T33 (rd_L5 l0 x7_2) (rd x5_1 x7_2)).f0))) (fun _ hk => hk.2) (.string ((rd_T33 (rd_L5 l0 x7_2) (rd x5_1 x7_2)).f1))) (fun _ hk => hk.2) (.bool ((rd_T33 (rd_L5 l0 x7_2) (rd x5_1 x7_2)).f2))) (fun _ hk => hk.1.2)⟩, ⟨by (with_reducible repeat (first | refine blk_drewN ?_ _ | refine blk_drew ?_ | refine blk_alloc ?_ _)); refine blk_put (cs := #[.string ((rd_T33 (rd_L5 l0 x7_2) (rd x5_1 x7_2)).f0), .string ((rd_T33 (rd_L5 l0 x7_2) (rd x5_1 x7_2)).f1), .bool false]) ?_ 2 _ rfl; (with_reducible repeat (first | refine blk_drewN ?_ _ | refine blk_drew ?_ | refine blk_alloc ?_ _)); refine blk_put (cs := #[.string ((rd_T33 (rd_L5 l0 x7_2) (rd x5_1 x7_2)).f0), .string (⟨#[]⟩ : ByteArray), .bool false]) ?_ 1 _ rfl; (with_reducible repeat (first | refine blk_drewN ?_ _ | refine blk_drew ?_ | refine blk_alloc ?_ _)); refine blk_put (cs := #[.string (⟨#[]⟩ : ByteArray), .string (⟨#[]⟩ : ByteArray), .bool false]) ?_ 0 _ rfl; (with_reducible repeat (first | refine blk_drewN ?_ _ | refine blk_drew ?_ | refine blk_alloc ?_ _)); exact BK193.out⟩, ⟨(mH1 HB.out GE193.out)⟩⟩
              case round =>
               clear H'
               try clear c1
               try clear p1
               try clear q1
               try clear hx1
               try clear c2
               try clear p2
               try clear c3
               try clear p6
               try clear c7
               try clear c7b0
               try clear c8
               try clear c9
               try clear c11
               try clear c12
               try clear c12b0
               try clear c13
               try clear c13b0
               try clear c16
               try clear c16b0
               try clear c17
               try clear c17b0
               try clear c18
               try clear c18b0
               try clear p18
               try clear q18
               try clear hx18
               try clear c19
               try clear c19b0
               try clear p19
               try clear q19
               try clear hx19
               try clear c20
               try clear c20b0
               try clear c21
               try clear c21b0
               try clear c26
               try clear c27
               try clear c27b0
               try clear c28
               try clear c28b0
               try clear c29
               try clear c29b0
               try clear c30
               try clear c30b0
               try clear c31
               try clear c31b0
               try clear c32
               try clear c32b0
               try clear hx184_0
               try clear hx185_0
               try clear hx186_0
               try clear hx186_1
               try clear hx186_2
               try clear hx187_0
               try clear hx188_0
               try clear hx189_0
               try clear hx189_1
               try clear hx189_2
               try clear hx190_0
               try clear hx191_0
               try clear hx192_0
               try clear hx192_1
               try clear hx192_2
               try clear p1
               try clear p18
               try clear p184
               try clear p185
               try clear p186
               try clear p187
               try clear p188
               try clear p189
               try clear p190
               try clear p191
               try clear p192
               try clear p2
               try clear q1
               try clear q18
               try clear q184
               try clear q185
               try clear q186
               try clear q187
               try clear q188
               try clear q189
               try clear q190
               try clear q191
               try clear q192
               obtain ⟨x5_3, x73_3, rfl, HA, HK3, HO_5, HO_6, BK193, HB⟩ := hrel
               have hl5_3 := (Kd.R_reads' HO_5.out).1
               rw [hl5_3] at HO_5
               (try simp only [hl5_3])
               (try simp only [hl5_3] at BK193)
               (try simp only [hl5_3] at HO_6)
               cases gk with
               | zero => exact absurd HA.out (by simp [impl_merge.l2])
               | succ k3 =>
                have H := HA.out
                clear HA
                simp only [impl_merge.l2] at H
                by_cases c39 : x73_3 < (l0.length : Int)
                ·rw [if_pos c39] at H
                 have c39b0 : decide (x73_3 < (l0.length : Int)) = true := decide_eq_true c39
                 clear c39
                 by_cases c40 : 0 ≤ x73_3
                 ·rw [if_pos c40] at H
                  have c40b0 : decide (0 ≤ x73_3) = true := decide_eq_true c40
                  clear c40
                  by_cases c41 : x73_3 < (l0.length : Int)
                  ·rw [if_pos c41] at H
                   have c41b0 : decide (x73_3 < (l0.length : Int)) = true := decide_eq_true c41
                   clear c41
                   have HC42 := mS H
                   clear H
                   have p194 : 0 ≤ (x73_3 : Int) := of_decide_eq_true (by first | (with_reducible assumption) | assumption)
                   have q194 : x73_3 < (l0.length : Int) := of_decide_eq_true (by first | (with_reducible assumption) | assumption)
                   obtain ⟨ad194, A194_0, c194_0, e194, hx194_0, hl194_0, hi194_0⟩ := at_L5 HR0.out x73_3 p194 q194
                   obtain rfl : ad190 = ad194 := (by injection e194)
                   replace hx194_0 := mX HB.out hx194_0
                   have HR194_0 := mS hi194_0
                   have HC194_0 := mS hl194_0
                   clear hi194_0 hl194_0
                   replace p194 := eq_true p194
                   replace q194 := eq_true q194
                   go_upto_region 16 with (fail)
                   go_cut [97] (fun v97 wc => ∃ (kq : Nat) (x97_41 : Bool), v97 = .bool x97_41 ∧ Aside0 (impl_merge.j4 kq l0 a1 x5_3 x6_1 x73_3 l0 (l0.length : Int) x73_3 x97_41 ((rd_T33 (rd_L5 l0 x7_2) (rd x5_1 x7_2)).f0) ((rd_T33 (rd_L5 l0 x7_2) (rd x5_1 x7_2)).f1) ((rd_T33 (rd_L5 l0 x7_2) (rd x5_1 x7_2)).f2) = some r) ∧ Aside0 (kq ≤ k3) ∧ Aside0 (Kd.R (Kd.int .i64) 3 wc w.heap.size (fun _ => True) (.slice (some ad191) x5_3.length co34) x5_3) ∧ Aside0 (Kd.R k33 33 wc w.heap.size (fun k_ => k_ ≠ gb193) u6 x6_1) ∧ Aside0 (wc.heap[gb193]? = some (.cells #[.string ((rd_T33 (rd_L5 l0 x7_2) (rd x5_1 x7_2)).f0), .string ((rd_T33 (rd_L5 l0 x7_2) (rd x5_1 x7_2)).f1), .bool ((rd_T33 (rd_L5 l0 x7_2) (rd x5_1 x7_2)).f2)] 33 (0, 0))) ∧ Aside0 (Below w.heap.size w wc))
                   case first =>
                    have H := HC42.out
                    clear HC42
                    by_cases c43 : x73_3 < (x5_3.length : Int)
                    ·rw [if_pos c43] at H
                     have c43b0 : decide (x73_3 < (x5_3.length : Int)) = true := decide_eq_true c43
                     clear c43
                     (first | rw [c43b0] | (simp only [i64_w, i32_w]; rw [c43b0]) | skip)
                     by_cases c44 : (rd x5_3 x73_3) < ((rd_L5 l0 x73_3).length : Int)
                     ·rw [if_pos c44] at H
                      have c44b0 : decide ((rd x5_3 x73_3) < ((rd_L5 l0 x73_3).length : Int)) = true := decide_eq_true c44
                      clear c44
                      by_cases c45 : 0 ≤ (rd x5_3 x73_3)
                      ·rw [if_pos c45] at H
                       have c45b0 : decide (0 ≤ (rd x5_3 x73_3)) = true := decide_eq_true c45
                       clear c45
                       have H' := mS H
                       clear H
                       try go_wp2
                       have n0_ := mS (Kd.R_drew HO_5.out)
                       have n1_ := mS (Kd.R_drew HO_6.out)
                       have n2_ := mS (blk_drew BK193.out)
                       have n3_ := mS (below_drew1 HB.out)
                       clear HO_5
                       clear HO_6
                       clear BK193
                       clear HB
                       have HO_5 := n0_
                       have HO_6 := n1_
                       have BK193 := n2_
                       have HB := n3_
                       clear n0_ n1_ n2_ n3_
                       have p195 : 0 ≤ (x73_3 : Int) := of_decide_eq_true (by first | (with_reducible assumption) | assumption)
                       have q195 : x73_3 < (x5_3.length : Int) := of_decide_eq_true (by first | (with_reducible assumption) | assumption)
                       obtain ⟨ad195, e195, hx195_0⟩ := Kd.at_int (Kd.R_reads' HO_5.out).2.2 x73_3 p195 q195
                       obtain rfl : ad191 = ad195 := (by injection e195)
                       replace p195 := eq_true p195
                       replace q195 := eq_true q195
                       have p196 : 0 ≤ (x73_3 : Int) := of_decide_eq_true (by first | (with_reducible assumption) | assumption)
                       have q196 : x73_3 < (x5_3.length : Int) := of_decide_eq_true (by first | (with_reducible assumption) | assumption)
                       obtain ⟨ad196, e196, hx196_0⟩ := Kd.at_int (Kd.R_reads' HO_5.out).2.2 x73_3 p196 q196
                       obtain rfl : ad191 = ad196 := (by injection e196)
                       replace p196 := eq_true p196
                       replace q196 := eq_true q196
                       have p197 : 0 ≤ ((rd x5_3 x73_3) : Int) := of_decide_eq_true (by first | (with_reducible assumption) | assumption)
                       have q197 : (rd x5_3 x73_3) < ((rd_L5 l0 x73_3).length : Int) := of_decide_eq_true (by first | (with_reducible assumption) | assumption)
                       obtain ⟨ad197, e197, hx197_0, hx197_1, hx197_2⟩ := at_T33 HR194_0.out (rd x5_3 x73_3) p197 q197
                       have hw197_2 := hx197_2
                       have hw197_1 := hx197_1
                       have hw197_0 := hx197_0
                       cases e197
                       replace hx197_0 := mX HB.out hx197_0
                       replace hx197_1 := mX HB.out hx197_1
                       replace hx197_2 := mX HB.out hx197_2
                       replace p197 := eq_true p197
                       replace q197 := eq_true q197
                       refine start_ (n := 20) (S := fun w' => w'.cell? ⟨gb193, 0, none⟩ = some (.string ((rd_T33 (rd_L5 l0 x7_2) (rd x5_1 x7_2)).f0)) ∧ w'.cell? ⟨gb193, 1, none⟩ = some (.string ((rd_T33 (rd_L5 l0 x7_2) (rd x5_1 x7_2)).f1)) ∧ w'.cell? ⟨gb193, 2, none⟩ = some (.bool ((rd_T33 (rd_L5 l0 x7_2) (rd x5_1 x7_2)).f2)) ∧ w'.cell? (ad191.add (x73_3).toNat) = some (.int .i64 (rd x5_3 x73_3)) ∧ w'.cell? (ad191.add (x73_3).toNat) = some (.int .i64 (rd x5_3 x73_3)) ∧ w'.cell? (ad197.add (((rd x5_3 x73_3)).toNat * 3)) = some (.string ((rd_T33 (rd_L5 l0 x73_3) (rd x5_3 x73_3)).f0)) ∧ w'.cell? ⟨(ad197.add (((rd x5_3 x73_3)).toNat * 3)).block, (ad197.add (((rd x5_3 x73_3)).toNat * 3)).off + 1, none⟩ = some (.string ((rd_T33 (rd_L5 l0 x73_3) (rd x5_3 x73_3)).f1)) ∧ w'.cell? ⟨(ad197.add (((rd x5_3 x73_3)).toNat * 3)).block, (ad197.add (((rd x5_3 x73_3)).toNat * 3)).off + 2, none⟩ = some (.bool ((rd_T33 (rd_L5 l0 x73_3) (rd x5_3 x73_3)).f2))) (ds := []) (mb 0 20) (by kernel_rfl) rfl rfl ⟨mZ BK193.out 0, mZ BK193.out 1, mZ BK193.out 2, hx195_0, hx196_0, ((HB.out.cell (World.block_lt_of_cell? w _ hw197_0)).trans hw197_0), ((HB.out.cell (World.block_lt_of_cell? w _ hw197_1)).trans hw197_1), ((HB.out.cell (World.block_lt_of_cell? w _ hw197_2)).trans hw197_2)⟩ (fun hHeld => ?_); refine with_tabW impl_merge.tab16 impl_merge.bits16 (fun HT_ HW_ => ?_)
                       generalize wr.drew = w46 at HO_5 HO_6 BK193 HB hx195_0 hx196_0 hx197_0 hx197_1 hx197_2 hHeld ⊢
                       refine mpu 0 78 HT_.out (mb 1 19) ?_
                       refine mpu 1 79 HT_.out (mb 2 18) ?_
                       refine mpu 2 80 HT_.out (mb 3 17) ?_
                       refine mpu 4 82 HT_.out #[true, true, true, false, true, false, false, false, false, false, false, false, false, false, false, false, false, false, false, false] ?_
                       refine mpu 5 83 HT_.out #[true, true, true, false, true, true, false, false, false, false, false, false, false, false, false, false, false, false, false, false] ?_
                       refine mpt 3 81 HT_.out HW_.out (mb 6 14) hHeld ?_
                       refine mpu 6 84 HT_.out (mb 7 13) ?_
                       refine mpu 7 85 HT_.out (mb 8 12) ?_
                       refine mpu 8 86 HT_.out (mb 9 11) ?_
                       refine mpu 9 87 HT_.out (mb 10 10) ?_
                       refine mpu 10 88 HT_.out (mb 11 9) ?_
                       refine mpu 11 89 HT_.out (mb 12 8) ?_
                       refine mpu 16 94 HT_.out #[true, true, true, true, true, true, true, true, true, true, true, true, false, false, false, false, true, false, false, false] ?_
                       refine mpt 12 90 HT_.out HW_.out #[true, true, true, true, true, true, true, true, true, true, true, true, true, false, false, false, true, false, false, false] hHeld ?_
                       refine mpu 13 91 HT_.out #[true, true, true, true, true, true, true, true, true, true, true, true, true, true, false, false, true, false, false, false] ?_
                       refine mpu 14 92 HT_.out #[true, true, true, true, true, true, true, true, true, true, true, true, true, true, true, false, true, false, false, false] ?_
                       refine mpt 15 93 HT_.out HW_.out (mb 17 3) hHeld ?_
                       refine mpt 17 95 HT_.out HW_.out (mb 18 2) hHeld ?_
                       refine mpu 18 96 HT_.out (mb 19 1) ?_
                       refine mpu 19 97 HT_.out (mb 20 0) ?_
                       refine done_ (done_of HT_.out (by kernel_rfl)) ?_
                       try go_wp2
                       go_meet
                       case rel => exact ⟨_, ((((rd_T33 (rd_L5 l0 x73_3) (rd x5_3 x73_3)).f0).toList == ((rd_T33 (rd_L5 l0 x7_2) (rd x5_1 x7_2)).f0).toList)), (by first | rfl | (simp; done) | (simp [*]; done)), H', ⟨by have := HK1.out; have := HK2.out; have := HK3.out; first | omega | exact Nat.le_refl _⟩, ⟨by (try simp only [hl5_3]); (with_reducible repeat (first | apply Kd.R_alloc | apply Kd.R_drewN | apply Kd.R_drew)); exact HO_5.out⟩, ⟨by (try simp only [hl5_3]); (with_reducible repeat (first | apply Kd.R_alloc | apply Kd.R_drewN | apply Kd.R_drew)); exact HO_6.out⟩, ⟨by (try simp only [hl5_3]); (with_reducible repeat (first | refine blk_drewN ?_ _ | refine blk_drew ?_ | refine blk_alloc ?_ _)); exact BK193.out⟩, ⟨(mH1 HB.out GE193.out)⟩⟩
                      ·rw [if_neg c45] at H
                       exact absurd H (by simp)
                     ·rw [if_neg c44] at H
                      have c44b0 : decide ((rd x5_3 x73_3) < ((rd_L5 l0 x73_3).length : Int)) = false := decide_eq_false c44
                      clear c44
                      have H' := mS H
                      clear H
                      try go_wp2
                      have n0_ := mS (Kd.R_drew HO_5.out)
                      have n1_ := mS (Kd.R_drew HO_6.out)
                      have n2_ := mS (blk_drew BK193.out)
                      have n3_ := mS (below_drew1 HB.out)
                      clear HO_5
                      clear HO_6
                      clear BK193
                      clear HB
                      have HO_5 := n0_
                      have HO_6 := n1_
                      have BK193 := n2_
                      have HB := n3_
                      clear n0_ n1_ n2_ n3_
                      have p195 : 0 ≤ (x73_3 : Int) := of_decide_eq_true (by first | (with_reducible assumption) | assumption)
                      have q195 : x73_3 < (x5_3.length : Int) := of_decide_eq_true (by first | (with_reducible assumption) | assumption)
                      obtain ⟨ad195, e195, hx195_0⟩ := Kd.at_int (Kd.R_reads' HO_5.out).2.2 x73_3 p195 q195
                      obtain rfl : ad191 = ad195 := (by injection e195)
                      replace p195 := eq_true p195
                      replace q195 := eq_true q195
                      refine start_ (n := 20) (S := fun w' => w'.cell? (ad191.add (x73_3).toNat) = some (.int .i64 (rd x5_3 x73_3))) (ds := []) (mb 0 20) (by kernel_rfl) rfl rfl (hx195_0) (fun hHeld => ?_); refine with_tabW impl_merge.tab16 impl_merge.bits16 (fun HT_ HW_ => ?_)
                      generalize wr.drew = w47 at HO_5 HO_6 BK193 HB hx195_0 hHeld ⊢
                      refine mpu 0 78 HT_.out (mb 1 19) ?_
                      refine mpu 1 79 HT_.out (mb 2 18) ?_
                      refine mpu 2 80 HT_.out (mb 3 17) ?_
                      refine mpu 4 82 HT_.out #[true, true, true, false, true, false, false, false, false, false, false, false, false, false, false, false, false, false, false, false] ?_
                      refine mpu 5 83 HT_.out #[true, true, true, false, true, true, false, false, false, false, false, false, false, false, false, false, false, false, false, false] ?_
                      refine take_ (i := 3) (N := some 81) (v := ?_) (a' := ?_) (mb 6 14) rfl rfl (take_ofW HT_.out HW_.out (by kernel_rfl)) (fun _ _ _ h => h) (Or.inl ⟨by rfl, ?_⟩) hHeld ?_ ?_
                      rotate_left
                      ·intro w' s0
                       go_simp
                       with_reducible rfl
                      rotate_left
                      ·simp only [Act.put, zA, zB, zC, i64_w, i32_w]
                       rfl
                      refine mpu 6 84 HT_.out (mb 7 13) ?_
                      refine mpu 7 85 HT_.out (mb 8 12) ?_
                      refine mpf 8 86 HT_.out (mb 9 11) ?_
                      refine mpf 9 87 HT_.out (mb 10 10) ?_
                      refine mpf 10 88 HT_.out (mb 11 9) ?_
                      refine mpf 11 89 HT_.out (mb 12 8) ?_
                      refine mpf 12 90 HT_.out (mb 13 7) ?_
                      refine mpf 13 91 HT_.out (mb 14 6) ?_
                      refine mpf 14 92 HT_.out (mb 15 5) ?_
                      refine mpf 15 93 HT_.out (mb 16 4) ?_
                      refine mpf 16 94 HT_.out (mb 17 3) ?_
                      refine mpf 17 95 HT_.out (mb 18 2) ?_
                      refine mpf 18 96 HT_.out (mb 19 1) ?_
                      refine mpu 19 97 HT_.out (mb 20 0) ?_
                      refine done_ (done_of HT_.out (by kernel_rfl)) ?_
                      try go_wp2
                      go_meet
                      case rel => exact ⟨_, (false), (by first | rfl | (simp; done) | (simp [*]; done)), H', ⟨by have := HK1.out; have := HK2.out; have := HK3.out; first | omega | exact Nat.le_refl _⟩, ⟨by (try simp only [hl5_3]); (with_reducible repeat (first | apply Kd.R_alloc | apply Kd.R_drewN | apply Kd.R_drew)); exact HO_5.out⟩, ⟨by (try simp only [hl5_3]); (with_reducible repeat (first | apply Kd.R_alloc | apply Kd.R_drewN | apply Kd.R_drew)); exact HO_6.out⟩, ⟨by (try simp only [hl5_3]); (with_reducible repeat (first | refine blk_drewN ?_ _ | refine blk_drew ?_ | refine blk_alloc ?_ _)); exact BK193.out⟩, ⟨(mH1 HB.out GE193.out)⟩⟩
                    ·rw [if_neg c43] at H
                     exact absurd H (by simp)
                   case rest =>
                    clear HC42
                    try clear c1
                    try clear p1
                    try clear q1
                    try clear hx1
                    try clear c2
                    try clear p2
                    try clear c3
                    try clear c4
                    try clear p6
                    try clear c7
                    try clear c7b0
                    try clear c8
                    try clear c9
                    try clear c11
                    try clear c12
                    try clear c12b0
                    try clear c13
                    try clear c13b0
                    try clear c16
                    try clear c16b0
                    try clear c17
                    try clear c17b0
                    try clear c18
                    try clear c18b0
                    try clear p18
                    try clear q18
                    try clear hx18
                    try clear c19
                    try clear c19b0
                    try clear p19
                    try clear q19
                    try clear hx19
                    try clear c20
                    try clear c20b0
                    try clear c21
                    try clear c21b0
                    try clear c26
                    try clear c27
                    try clear c27b0
                    try clear c28
                    try clear c28b0
                    try clear c29
                    try clear c29b0
                    try clear c30
                    try clear c30b0
                    try clear c31
                    try clear c31b0
                    try clear c32
                    try clear c32b0
                    try clear c39
                    try clear c39b0
                    try clear c40
                    try clear c40b0
                    try clear c41
                    try clear c41b0
                    try clear c43
                    try clear c43b0
                    try clear c44
                    try clear c44b0
                    try clear c45
                    try clear c45b0
                    try clear hx184_0
                    try clear hx185_0
                    try clear hx186_0
                    try clear hx186_1
                    try clear hx186_2
                    try clear hx187_0
                    try clear hx188_0
                    try clear hx189_0
                    try clear hx189_1
                    try clear hx189_2
                    try clear hx190_0
                    try clear hx191_0
                    try clear hx192_0
                    try clear hx192_1
                    try clear hx192_2
                    try clear hx194_0
                    try clear hx195_0
                    try clear hx196_0
                    try clear hx197_0
                    try clear hx197_1
                    try clear hx197_2
                    try clear p1
                    try clear p18
                    try clear p184
                    try clear p185
                    try clear p186
                    try clear p187
                    try clear p188
                    try clear p189
                    try clear p19
                    try clear p190
                    try clear p191
                    try clear p192
                    try clear p194
                    try clear p195
                    try clear p196
                    try clear p197
                    try clear p2
                    try clear p6
                    try clear q1
                    try clear q18
                    try clear q184
                    try clear q185
                    try clear q186
                    try clear q187
                    try clear q188
                    try clear q189
                    try clear q19
                    try clear q190
                    try clear q191
                    try clear q192
                    try clear q194
                    try clear q195
                    try clear q196
                    try clear q197
                    obtain ⟨kq, x97_41, rfl, HA, HJ41, HO_5, HO_6, BK193, HB⟩ := hcut
                    cases kq with
                    | zero => exact absurd HA.out (by simp [impl_merge.j4])
                    | succ kj41 =>
                     have H := HA.out
                     clear HA
                     simp only [impl_merge.j4] at H
                     by_cases c48 : x97_41 = true
                     ·subst c48
                      have H1 : (if 0 ≤ x73_3 then (if x73_3 < (x5_3.length : Int) then (impl_merge.l2 kj41 l0 a1 (x5_3.set (x73_3 : Int).toNat (wrap64 ((rd x5_3 x73_3) + 1))) x6_1 l0 (l0.length : Int) (wrap64 (x73_3 + 1)) ((rd_T33 (rd_L5 l0 x7_2) (rd x5_1 x7_2)).f0) ((rd_T33 (rd_L5 l0 x7_2) (rd x5_1 x7_2)).f1) ((rd_T33 (rd_L5 l0 x7_2) (rd x5_1 x7_2)).f2)) else (none)) else (none)) = some r := by rw [if_pos rfl] at H; exact H
                      clear H
                      have H := H1
                      clear H1
                      by_cases c49 : 0 ≤ x73_3
                      ·rw [if_pos c49] at H
                       have c49b0 : decide (0 ≤ x73_3) = true := decide_eq_true c49
                       clear c49
                       by_cases c50 : x73_3 < (x5_3.length : Int)
                       ·rw [if_pos c50] at H
                        have c50b0 : decide (x73_3 < (x5_3.length : Int)) = true := decide_eq_true c50
                        clear c50
                        obtain ⟨y199, hy199⟩ : ∃ y_ : List Int, y_ = (x5_3.set (x73_3 : Int).toNat (wrap64 ((rd x5_3 x73_3) + 1))) := ⟨_, rfl⟩
                        replace H : (impl_merge.l2 kj41 l0 a1 y199 x6_1 l0 (l0.length : Int) (wrap64 (x73_3 + 1)) ((rd_T33 (rd_L5 l0 x7_2) (rd x5_1 x7_2)).f0) ((rd_T33 (rd_L5 l0 x7_2) (rd x5_1 x7_2)).f1) ((rd_T33 (rd_L5 l0 x7_2) (rd x5_1 x7_2)).f2)) = some r := by first | (rw [hy199]; with_reducible exact H) | (have H2_ := (Option.bind_some _ _).symm.trans H; rw [hy199]; with_reducible exact H2_) | (have H2_ := (Option.bind_some _ _).symm.trans H; with_reducible exact H2_) | with_reducible exact H | (rw [hy199]; exact H) | exact H
                        have Ny199 := mS hy199
                        clear hy199
                        have H' := mS H
                        clear H
                        have p198 : 0 ≤ (x73_3 : Int) := of_decide_eq_true (by first | (with_reducible assumption) | assumption)
                        have q198 : x73_3 < (x5_3.length : Int) := of_decide_eq_true (by first | (with_reducible assumption) | assumption)
                        obtain ⟨ad198, e198, hx198_0⟩ := Kd.at_int (Kd.R_reads' HO_5.out).2.2 x73_3 p198 q198
                        obtain rfl : ad191 = ad198 := (by injection e198)
                        replace p198 := eq_true p198
                        replace q198 := eq_true q198
                        have p51 : 0 ≤ (x73_3 : Int) := of_decide_eq_true (by first | (with_reducible assumption) | assumption)
                        have q51 : (x73_3 : Int) < ((x5_3.length : Int) : Int) := of_decide_eq_true (by first | (with_reducible assumption) | assumption)
                        obtain ⟨go51, co51, eo51, gb51, gl51, cl51, HG51⟩ := Kd.R_form HO_5.out (by omega)
                        (first | cases eo51 | (injection eo51 with ea_ en_ ec_; (first | subst ea_ | (injection ea_ with ea_; subst ea_)); subst ec_; clear en_))
                        have GB51 := mS gb51
                        have GG51 := mS HG51
                        clear gb51 gl51 HG51
                        (first | simp only [add_plain] at hx191_0 | skip)
                        (first | simp only [add_plain] at hx195_0 | skip)
                        (first | simp only [add_plain] at hx196_0 | skip)
                        (first | simp only [add_plain] at hx198_0 | skip)
                        obtain ⟨hx51_0, hf51_0⟩ := Kd.R_celln 0 HO_5.out (x73_3 : Int) p51 q51
                        replace p51 := eq_true p51
                        replace q51 := eq_true q51
                        have HP52 := Kd.R_putg HO_5.out (x73_3 : Int) (wrap64 ((rd x5_3 x73_3) + 1))
                        go_wp2_with (first | ((with_reducible refine gate_store (t := 3) (p := 103) rfl ?_); refine store_event (t := 3) (p := 103) (v := ?vo_w53) (w1 := (wc.setCell ⟨go51, (x73_3 : Int).toNat, none⟩ (.int .i64 (wrap64 ((rd x5_3 x73_3) + 1))))) ?hg ?ho ?hn ?hr ?_; (case ho => rfl); (case hg => rfl); (case hn => rfl); (case hr => first | (go_simp; done) | (go_simp; rfl)); intro w53 hw; have hg : wc.grownBy w53 (some go51) := (by rw [hw]; exact HP52.2); have hp_ : Kd.R (Kd.int .i64) 3 w53 w.heap.size (fun _ => True) (.slice (some ⟨go51, 0, none⟩) x5_3.length co34) y199 := (by rw [hw, Ny199.out]; exact HP52.1); clear HP52; replace HO_6 := mS (Kd.R_over' (v := (.slice (some ⟨go51, 0, none⟩) x5_3.length co34)) (mR HO_6.out) (Kd.R_typed HO_5.out) (by decide) hg); replace BK193 := mS (blk_grown (g := gb193) (o := .cells #[.string ((rd_T33 (rd_L5 l0 x7_2) (rd x5_1 x7_2)).f0), .string ((rd_T33 (rd_L5 l0 x7_2) (rd x5_1 x7_2)).f1), .bool ((rd_T33 (rd_L5 l0 x7_2) (rd x5_1 x7_2)).f2)] 33 (0, 0)) (mK BK193.out) hg (Kd.R_ne HO_5.out BK193.out (by decide))); replace HO_5 := mS (hp_); replace HB := mS ((by rw [hw]; exact below_set (HB.out) GB51.out : Below w.heap.size w w53)); clear hg hw hp_))
                        (try simp only [← hl5_3])
                        (try simp only [add_plain] at *)
                        go_roundg kj41
                        case measure => have := HK1.out; have := HK2.out; have := HK3.out; have := HJ41.out; omega
                        case rel => exact ⟨(y199), (wrap64 (x73_3 + 1)), (by first | rfl | (simp; done) | (simp [*]; done)), H', ⟨by have := HK1.out; have := HK2.out; have := HK3.out; have := HJ41.out; omega⟩, ⟨by (try simp only [hl5_3]); (with_reducible repeat (first | apply Kd.R_alloc | apply Kd.R_drewN | apply Kd.R_drew)); exact HO_5.out⟩, ⟨by (try simp only [hl5_3]); (with_reducible repeat (first | apply Kd.R_alloc | apply Kd.R_drewN | apply Kd.R_drew)); exact HO_6.out⟩, ⟨by (try simp only [hl5_3]); (with_reducible repeat (first | refine blk_drewN ?_ _ | refine blk_drew ?_ | refine blk_alloc ?_ _)); exact BK193.out⟩, ⟨(mH1 HB.out GE193.out)⟩⟩
                       ·rw [if_neg c50] at H
                        exact absurd H (by simp)
                      ·rw [if_neg c49] at H
                       exact absurd H (by simp)
                     ·replace c48 := Bool.eq_false_iff.mpr c48
                      subst c48
                      have H1 : (impl_merge.l2 kj41 l0 a1 x5_3 x6_1 l0 (l0.length : Int) (wrap64 (x73_3 + 1)) ((rd_T33 (rd_L5 l0 x7_2) (rd x5_1 x7_2)).f0) ((rd_T33 (rd_L5 l0 x7_2) (rd x5_1 x7_2)).f1) ((rd_T33 (rd_L5 l0 x7_2) (rd x5_1 x7_2)).f2)) = some r := by rw [if_neg (show ¬ (false = true) by decide)] at H; exact H
                      clear H
                      have H := H1
                      clear H1
                      have H' := mS H
                      clear H
                      go_wp2
                      (try simp only [← hl5_3])
                      (try simp only [add_plain] at *)
                      go_roundg kj41
                      case measure => have := HK1.out; have := HK2.out; have := HK3.out; have := HJ41.out; omega
                      case rel => exact ⟨(x5_3), (wrap64 (x73_3 + 1)), (by first | rfl | (simp; done) | (simp [*]; done)), H', ⟨by have := HK1.out; have := HK2.out; have := HK3.out; have := HJ41.out; omega⟩, ⟨by (try simp only [hl5_3]); (with_reducible repeat (first | apply Kd.R_alloc | apply Kd.R_drewN | apply Kd.R_drew)); exact HO_5.out⟩, ⟨by (try simp only [hl5_3]); (with_reducible repeat (first | apply Kd.R_alloc | apply Kd.R_drewN | apply Kd.R_drew)); exact HO_6.out⟩, ⟨by (try simp only [hl5_3]); (with_reducible repeat (first | refine blk_drewN ?_ _ | refine blk_drew ?_ | refine blk_alloc ?_ _)); exact BK193.out⟩, ⟨(mH1 HB.out GE193.out)⟩⟩
                  ·rw [if_neg c41] at H
                   exact absurd H (by simp)
                 ·rw [if_neg c40] at H
                  exact absurd H (by simp)
                ·rw [if_neg c39] at H
                 have c39b0 : decide (x73_3 < (l0.length : Int)) = false := decide_eq_false c39
                 clear c39
                 have HC54 := mS H
                 clear H
                 go_upto_region 19 with (fail)
                 go_cut [111] (fun v111 wc => ∃ (kq : Nat) (x111_53 : Bool), v111 = .bool x111_53 ∧ Aside0 (impl_merge.j5 kq l0 a1 x5_3 x6_1 x111_53 ((rd_T33 (rd_L5 l0 x7_2) (rd x5_1 x7_2)).f0) ((rd_T33 (rd_L5 l0 x7_2) (rd x5_1 x7_2)).f1) ((rd_T33 (rd_L5 l0 x7_2) (rd x5_1 x7_2)).f2) = some r) ∧ Aside0 (kq ≤ k3) ∧ Aside0 (Kd.R (Kd.int .i64) 3 wc w.heap.size (fun _ => True) (.slice (some ad191) x5_3.length co34) x5_3) ∧ Aside0 (Kd.R k33 33 wc w.heap.size (fun k_ => k_ ≠ gb193) u6 x6_1) ∧ Aside0 (wc.heap[gb193]? = some (.cells #[.string ((rd_T33 (rd_L5 l0 x7_2) (rd x5_1 x7_2)).f0), .string ((rd_T33 (rd_L5 l0 x7_2) (rd x5_1 x7_2)).f1), .bool ((rd_T33 (rd_L5 l0 x7_2) (rd x5_1 x7_2)).f2)] 33 (0, 0))) ∧ Aside0 (Below w.heap.size w wc))
                 case first =>
                  have H := HC54.out
                  clear HC54
                  by_cases c55 : a1 = true
                  ·subst c55
                   have H1 : (impl_merge.j5 k3 l0 true x5_3 x6_1 (!((rd_T33 (rd_L5 l0 x7_2) (rd x5_1 x7_2)).f2)) ((rd_T33 (rd_L5 l0 x7_2) (rd x5_1 x7_2)).f0) ((rd_T33 (rd_L5 l0 x7_2) (rd x5_1 x7_2)).f1) ((rd_T33 (rd_L5 l0 x7_2) (rd x5_1 x7_2)).f2)) = some r := by rw [if_pos rfl] at H; exact H
                   clear H
                   have H := H1
                   clear H1
                   have H' := mS H
                   clear H
                   have hcz56_0 := mZ BK193.out 0
                   have hcz56_1 := mZ BK193.out 1
                   have hcz56_2 := mZ BK193.out 2
                   have hfz56_0 := blk_frozen BK193.out 0
                   have hfz56_1 := blk_frozen BK193.out 1
                   have hfz56_2 := blk_frozen BK193.out 2
                   go_wp2
                   go_meet
                   case rel => exact ⟨_, (!((rd_T33 (rd_L5 l0 x7_2) (rd x5_1 x7_2)).f2)), (by first | rfl | (simp; done) | (simp [*]; done)), H', ⟨by have := HK1.out; have := HK2.out; have := HK3.out; first | omega | exact Nat.le_refl _⟩, ⟨by (try simp only [hl5_3]); (with_reducible repeat (first | apply Kd.R_alloc | apply Kd.R_drewN | apply Kd.R_drew)); exact HO_5.out⟩, ⟨by (try simp only [hl5_3]); (with_reducible repeat (first | apply Kd.R_alloc | apply Kd.R_drewN | apply Kd.R_drew)); exact HO_6.out⟩, ⟨by (try simp only [hl5_3]); (with_reducible repeat (first | refine blk_drewN ?_ _ | refine blk_drew ?_ | refine blk_alloc ?_ _)); exact BK193.out⟩, ⟨(mH1 HB.out GE193.out)⟩⟩
                  ·replace c55 := Bool.eq_false_iff.mpr c55
                   subst c55
                   have H1 : (impl_merge.j5 k3 l0 false x5_3 x6_1 true ((rd_T33 (rd_L5 l0 x7_2) (rd x5_1 x7_2)).f0) ((rd_T33 (rd_L5 l0 x7_2) (rd x5_1 x7_2)).f1) ((rd_T33 (rd_L5 l0 x7_2) (rd x5_1 x7_2)).f2)) = some r := by rw [if_neg (show ¬ (false = true) by decide)] at H; exact H
                   clear H
                   have H := H1
                   clear H1
                   have H' := mS H
                   clear H
                   go_wp2
                   go_meet
                   case rel => exact ⟨_, (true), (by first | rfl | (simp; done) | (simp [*]; done)), H', ⟨by have := HK1.out; have := HK2.out; have := HK3.out; first | omega | exact Nat.le_refl _⟩, ⟨by (try simp only [hl5_3]); (with_reducible repeat (first | apply Kd.R_alloc | apply Kd.R_drewN | apply Kd.R_drew)); exact HO_5.out⟩, ⟨by (try simp only [hl5_3]); (with_reducible repeat (first | apply Kd.R_alloc | apply Kd.R_drewN | apply Kd.R_drew)); exact HO_6.out⟩, ⟨by (try simp only [hl5_3]); (with_reducible repeat (first | refine blk_drewN ?_ _ | refine blk_drew ?_ | refine blk_alloc ?_ _)); exact BK193.out⟩, ⟨(mH1 HB.out GE193.out)⟩⟩
                 case rest =>
                  clear HC54
                  try clear c1
                  try clear p1
                  try clear q1
                  try clear hx1
                  try clear c2
                  try clear p2
                  try clear c3
                  try clear c4
                  try clear c5
                  try clear p5
                  try clear q5
                  try clear hx5
                  try clear hf5
                  try clear p6
                  try clear c7
                  try clear c7b0
                  try clear c8
                  try clear c9
                  try clear c11
                  try clear c12
                  try clear c12b0
                  try clear c13
                  try clear c13b0
                  try clear c16
                  try clear c16b0
                  try clear c17
                  try clear c17b0
                  try clear c18
                  try clear c18b0
                  try clear p18
                  try clear q18
                  try clear hx18
                  try clear c19
                  try clear c19b0
                  try clear p19
                  try clear q19
                  try clear hx19
                  try clear c20
                  try clear c20b0
                  try clear c21
                  try clear c21b0
                  try clear c26
                  try clear c27
                  try clear c27b0
                  try clear c28
                  try clear c28b0
                  try clear c29
                  try clear c29b0
                  try clear c30
                  try clear c30b0
                  try clear c31
                  try clear c31b0
                  try clear c32
                  try clear c32b0
                  try clear c39
                  try clear c39b0
                  try clear c40
                  try clear c40b0
                  try clear c41
                  try clear c41b0
                  try clear c43
                  try clear c43b0
                  try clear c44
                  try clear c44b0
                  try clear c45
                  try clear c45b0
                  try clear c48
                  try clear c49
                  try clear c49b0
                  try clear c50
                  try clear c50b0
                  try clear p51
                  try clear q51
                  try clear hx51
                  try clear hf51
                  try clear c55
                  try clear hcz56_0
                  try clear hcz56_1
                  try clear hcz56_2
                  try clear hfz56_0
                  try clear hfz56_1
                  try clear hfz56_2
                  try clear hx184_0
                  try clear hx185_0
                  try clear hx186_0
                  try clear hx186_1
                  try clear hx186_2
                  try clear hx187_0
                  try clear hx188_0
                  try clear hx189_0
                  try clear hx189_1
                  try clear hx189_2
                  try clear hx190_0
                  try clear hx191_0
                  try clear hx192_0
                  try clear hx192_1
                  try clear hx192_2
                  try clear hx194_0
                  try clear hx195_0
                  try clear hx196_0
                  try clear hx197_0
                  try clear hx197_1
                  try clear hx197_2
                  try clear hx198_0
                  try clear hx51_0
                  try clear p1
                  try clear p18
                  try clear p184
                  try clear p185
                  try clear p186
                  try clear p187
                  try clear p188
                  try clear p189
                  try clear p19
                  try clear p190
                  try clear p191
                  try clear p192
                  try clear p194
                  try clear p195
                  try clear p196
                  try clear p197
                  try clear p198
                  try clear p2
                  try clear p51
                  try clear p6
                  try clear q1
                  try clear q18
                  try clear q184
                  try clear q185
                  try clear q186
                  try clear q187
                  try clear q188
                  try clear q189
                  try clear q19
                  try clear q190
                  try clear q191
                  try clear q192
                  try clear q194
                  try clear q195
                  try clear q196
                  try clear q197
                  try clear q198
                  try clear q51
                  obtain ⟨kq, x111_53, rfl, HA, HJ53, HO_5, HO_6, BK193, HB⟩ := hcut
                  cases kq with
                  | zero => exact absurd HA.out (by simp [impl_merge.j5])
                  | succ kj53 =>
                   have H := HA.out
                   clear HA
                   simp only [impl_merge.j5] at H
                   by_cases c57 : x111_53 = true
                   ·subst c57
                    have H1 : (if x6_1.length < 3518437208883 then (impl_merge.l0 kj53 l0 a1 x5_3 (x6_1 ++ [(⟨((rd_T33 (rd_L5 l0 x7_2) (rd x5_1 x7_2)).f0), ((rd_T33 (rd_L5 l0 x7_2) (rd x5_1 x7_2)).f1), ((rd_T33 (rd_L5 l0 x7_2) (rd x5_1 x7_2)).f2)⟩ : S33)])) else (none)) = some r := by rw [if_pos rfl] at H; exact H
                    clear H
                    have H := H1
                    clear H1
                    by_cases c58 : x6_1.length < 3518437208883
                    ·rw [if_pos c58] at H
                     have LMc58 := mS c58
                     clear c58
                     obtain ⟨y200, hy200⟩ : ∃ y_ : List (S33), y_ = (x6_1 ++ [(⟨((rd_T33 (rd_L5 l0 x7_2) (rd x5_1 x7_2)).f0), ((rd_T33 (rd_L5 l0 x7_2) (rd x5_1 x7_2)).f1), ((rd_T33 (rd_L5 l0 x7_2) (rd x5_1 x7_2)).f2)⟩ : S33)]) := ⟨_, rfl⟩
                     replace H : (impl_merge.l0 kj53 l0 a1 x5_3 y200) = some r := by first | (rw [hy200]; with_reducible exact H) | (have H2_ := (Option.bind_some _ _).symm.trans H; rw [hy200]; with_reducible exact H2_) | (have H2_ := (Option.bind_some _ _).symm.trans H; with_reducible exact H2_) | with_reducible exact H | (rw [hy200]; exact H) | exact H
                     have Ny200 := mS hy200
                     clear hy200
                     have H' := mS H
                     clear H
                     have hcz59_0 := mZ BK193.out 0
                     have hcz59_1 := mZ BK193.out 1
                     have hcz59_2 := mZ BK193.out 2
                     have hfz59_0 := blk_frozen BK193.out 0
                     have hfz59_1 := blk_frozen BK193.out 1
                     have hfz59_2 := blk_frozen BK193.out 2
                     go_wp2_with (first | ((with_reducible refine gate_builtin (b := .append) (xs := #[.tmp 112, .tmp 114]) rfl ?_); at_builtin; refine Kd.R_append k33 (w0 := w) w.heap.size rfl (.tmp 112) (.tmp 114) 90 33 (.agg #[(.string ⟨#[]⟩), (.string ⟨#[]⟩), (.bool false)]) 40 rfl Try.underlying90 info33 rfl (by decide) (by omega) u6 x6_1 (⟨((rd_T33 (rd_L5 l0 x7_2) (rd x5_1 x7_2)).f0), ((rd_T33 (rd_L5 l0 x7_2) (rd x5_1 x7_2)).f1), ((rd_T33 (rd_L5 l0 x7_2) (rd x5_1 x7_2)).f2)⟩ : S33) [.string ((rd_T33 (rd_L5 l0 x7_2) (rd x5_1 x7_2)).f0), .string ((rd_T33 (rd_L5 l0 x7_2) (rd x5_1 x7_2)).f1), .bool ((rd_T33 (rd_L5 l0 x7_2) (rd x5_1 x7_2)).f2)] (fun k_ => k_ ≠ gb193) (fun _ => False) rfl rfl ?aP (fun _ hk => hk.elim) ?aF ?aO ?aB ?aS ?aL ?_; (case aP => exact k33_mkM _ _ _ (⟨((rd_T33 (rd_L5 l0 x7_2) (rd x5_1 x7_2)).f0), ((rd_T33 (rd_L5 l0 x7_2) (rd x5_1 x7_2)).f1), ((rd_T33 (rd_L5 l0 x7_2) (rd x5_1 x7_2)).f2)⟩ : S33)); (case aB => exact (mH1 HB.out GE193.out)); (case aF => exact (fun k_ hk => Kd.freshB (g := gb193) (o := .cells #[.string ((rd_T33 (rd_L5 l0 x7_2) (rd x5_1 x7_2)).f0), .string ((rd_T33 (rd_L5 l0 x7_2) (rd x5_1 x7_2)).f1), .bool ((rd_T33 (rd_L5 l0 x7_2) (rd x5_1 x7_2)).f2)] 33 (0, 0)) (mK BK193.out) k_ hk)); (case aO => exact (mR HO_6.out)); (case aS => exact (below_size (mH1 HB.out GE193.out))); (case aL => have := LMc58.out; omega); intro v201 w60 ho hb hg hat; rw [← Ny200.out] at ho; replace HO_5 := mS (Kd.R_over' (mR HO_5.out) (Kd.R_typed (mR HO_6.out)) (by decide) hg); replace BK193 := mS (blk_grown (g := gb193) (o := .cells #[.string ((rd_T33 (rd_L5 l0 x7_2) (rd x5_1 x7_2)).f0), .string ((rd_T33 (rd_L5 l0 x7_2) (rd x5_1 x7_2)).f1), .bool ((rd_T33 (rd_L5 l0 x7_2) (rd x5_1 x7_2)).f2)] 33 (0, 0)) (mK BK193.out) hg (Kd.R_away HO_6.out (fun _ hk => hk))); replace HB := mS (hb); have HO202 := mS (ho); clear HO_6; clear ho hb hg hat))
                     (try simp only [← hl5_3])
                     (try simp only [add_plain] at *)
                     go_roundg kj53
                     case measure => have := HK1.out; have := HK2.out; have := HK3.out; have := HJ53.out; omega
                     case rel => exact ⟨(x5_3), (y200), H', ⟨by have := HK1.out; have := HK2.out; have := HK3.out; have := HJ53.out; omega⟩, ⟨by (try simp only [hl5_3]); (with_reducible repeat (first | apply Kd.R_alloc | apply Kd.R_drewN | apply Kd.R_drew)); exact HO_5.out⟩, ⟨by (try simp only [hl5_3]); (with_reducible repeat (first | apply Kd.R_alloc | apply Kd.R_drewN | apply Kd.R_drew)); exact Kd.R_mono HO202.out (fun _ hk => trivial)⟩, ⟨(mH1 HB.out GE193.out)⟩⟩
                    ·rw [if_neg c58] at H
                     exact absurd H (by simp)
                   ·replace c57 := Bool.eq_false_iff.mpr c57
                    subst c57
                    have H1 : (impl_merge.l0 kj53 l0 a1 x5_3 x6_1) = some r := by rw [if_neg (show ¬ (false = true) by decide)] at H; exact H
                    clear H
                    have H := H1
                    clear H1
                    have H' := mS H
                    clear H
                    go_wp2
                    (try simp only [← hl5_3])
                    (try simp only [add_plain] at *)
                    go_roundg kj53
                    case measure => have := HK1.out; have := HK2.out; have := HK3.out; have := HJ53.out; omega
                    case rel => exact ⟨(x5_3), (x6_1), H', ⟨by have := HK1.out; have := HK2.out; have := HK3.out; have := HJ53.out; omega⟩, ⟨by (try simp only [hl5_3]); (with_reducible repeat (first | apply Kd.R_alloc | apply Kd.R_drewN | apply Kd.R_drew)); exact HO_5.out⟩, ⟨by (try simp only [hl5_3]); (with_reducible repeat (first | apply Kd.R_alloc | apply Kd.R_drewN | apply Kd.R_drew)); exact Kd.R_mono HO_6.out (fun _ hk => trivial)⟩, ⟨(mH1 HB.out GE193.out)⟩⟩
             ·rw [if_neg c32] at H
              exact absurd H (by simp)
            ·rw [if_neg c31] at H
             exact absurd H (by simp)
           ·rw [if_neg c30] at H
            exact absurd H (by simp)
          ·rw [if_neg c29] at H
           exact absurd H (by simp)
         ·rw [if_neg c28] at H
          exact absurd H (by simp)
  ·rw [if_neg c4] at H
   exact absurd H (by simp)
 ·rw [if_neg c3] at H
  exact absurd H (by simp)

end Go.Proofs.Ytbepbgfkajnlbaa.MFnExactMerge
