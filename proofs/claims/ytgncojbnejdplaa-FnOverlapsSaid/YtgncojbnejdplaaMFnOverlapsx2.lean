-- Written by mp.py, this session's own printer (wip/mp.py).
import Derived.Test.YtgncojbnejdplaaVMShort
import Derived.Test.YtgncojbnejdplaaMFnOverlapsx0
import Derived.Test.YtgncojbnejdplaaMFnOverlapsx1
namespace Go.Proofs.Ytgncojbnejdplaa.MFnOverlaps
open Go.RowKit Go.Proofs.YtgncojbnejdplaaW.PrintWords Go.Proofs.YtgncojbnejdplaaW.PrintLast Go.Proofs.YtgncojbnejdplaaW.PrintMore Go.Proofs.Ytgncojbnejdplaa.MWords
attribute [local go_sem] max2_int min2_int max_two min_two max_three min_three max_four min_four   -- for this text's walks alone
set_option linter.unusedVariables false
set_option linter.unusedSimpArgs false

/-! ### spec_ManOk: function 55 -/
mutual
def spec_ManOk.j0 : Nat → Bool → Int → Int → List (S46) → Option (Bool)
 | 0, _, _, _, _ => none
 | k + 1, x25, x139000, x139001, x139002 => if x25 = true then (some false) else (spec_ManOk.l0 k 0 x139000 x139001 x139002)
def spec_ManOk.l0 : Nat → Int → Int → Int → List (S46) → Option (Bool)
 | 0, _, _, _, _ => none
 | k + 1, x3, x139000, x139001, x139002 => if x3 < (x139002.length : Int) then (if 0 ≤ x3 then ((spec_l6Meta.f x139000 x139001 x139002 ((rd_T46 x139002 x3).f0) ((rd_T46 x139002 x3).f1) ((rd_T46 x139002 x3).f2) ((rd_T46 x139002 x3).f3)).bind fun t143 => (if t143 = true then (if x3 > 0 then (if 0 ≤ (wrap64 (x3 - 1)) then (if (wrap64 (x3 - 1)) < (x139002.length : Int) then (spec_ManOk.j2 k x3 (decide (((rd_T46 x139002 (wrap64 (x3 - 1))).f0) ≥ ((rd_T46 x139002 x3).f0))) x139000 x139001 x139002 ((rd_T46 x139002 x3).f0) ((rd_T46 x139002 x3).f1) ((rd_T46 x139002 x3).f2) ((rd_T46 x139002 x3).f3)) else (none)) else (none)) else (spec_ManOk.j2 k x3 false x139000 x139001 x139002 ((rd_T46 x139002 x3).f0) ((rd_T46 x139002 x3).f1) ((rd_T46 x139002 x3).f2) ((rd_T46 x139002 x3).f3))) else (spec_ManOk.j2 k x3 true x139000 x139001 x139002 ((rd_T46 x139002 x3).f0) ((rd_T46 x139002 x3).f1) ((rd_T46 x139002 x3).f2) ((rd_T46 x139002 x3).f3)))) else (none)) else (some true)
def spec_ManOk.j2 : Nat → Int → Bool → Int → Int → List (S46) → Int → Int → ByteArray → ByteArray → Option (Bool)
 | 0, _, _, _, _, _, _, _, _, _ => none
 | k + 1, x3, x57, x139000, x139001, x139002, x143000, x143001, x143002, x143003 => if x57 = true then (some false) else (spec_ManOk.l1 k x3 0 x139000 x139001 x139002 x143000 x143001 x143002 x143003)
def spec_ManOk.l1 : Nat → Int → Int → Int → Int → List (S46) → Int → Int → ByteArray → ByteArray → Option (Bool)
 | 0, _, _, _, _, _, _, _, _, _ => none
 | k + 1, x3, x5, x139000, x139001, x139002, x143000, x143001, x143002, x143003 => if x5 < x3 then (if 0 ≤ x5 then (if x5 < (x139002.length : Int) then (if x143001 > 0 then (if ((rd_T46 x139002 x5).f1) = x143001 then (if ((Op.bytesLess x143003.toList (((rd_T46 x139002 x5).f2).toList)) = true) then (spec_ManOk.l1 k x3 (wrap64 (x5 + 1)) x139000 x139001 x139002 x143000 x143001 x143002 x143003) else (if ((Op.bytesLess (((rd_T46 x139002 x5).f3).toList) x143002.toList) = true) then (spec_ManOk.l1 k x3 (wrap64 (x5 + 1)) x139000 x139001 x139002 x143000 x143001 x143002 x143003) else (some false))) else (spec_ManOk.l1 k x3 (wrap64 (x5 + 1)) x139000 x139001 x139002 x143000 x143001 x143002 x143003)) else (spec_ManOk.l1 k x3 (wrap64 (x5 + 1)) x139000 x139001 x139002 x143000 x143001 x143002 x143003)) else (none)) else (none)) else (spec_ManOk.l0 k (wrap64 (x3 + 1)) x139000 x139001 x139002)
end
def spec_ManOk.f (k : Nat) (a0_0 : Int) (a0_1 : Int) (l0_2 : List (S46)) : Option (Bool) := (spec_l1In.f a0_0 1 100000).bind fun t139 => (if t139 = true then ((spec_l1In.f a0_1 0 (wrap64 (a0_0 - 1))).bind fun t140 => (if t140 = true then (spec_ManOk.j0 k (decide ((l0_2.length : Int) > 20)) a0_0 a0_1 l0_2) else (spec_ManOk.j0 k true a0_0 a0_1 l0_2))) else (spec_ManOk.j0 k true a0_0 a0_1 l0_2))
theorem spec_ManOk.mono_l : ∀ k, (∀ y0 y1 y2 y3, LeO (spec_ManOk.j0 k y0 y1 y2 y3) (spec_ManOk.j0 (k + 1) y0 y1 y2 y3)) ∧ (∀ y0 y1 y2 y3, LeO (spec_ManOk.l0 k y0 y1 y2 y3) (spec_ManOk.l0 (k + 1) y0 y1 y2 y3)) ∧ (∀ y0 y1 y2 y3 y4 y5 y6 y7 y8, LeO (spec_ManOk.j2 k y0 y1 y2 y3 y4 y5 y6 y7 y8) (spec_ManOk.j2 (k + 1) y0 y1 y2 y3 y4 y5 y6 y7 y8)) ∧ (∀ y0 y1 y2 y3 y4 y5 y6 y7 y8, LeO (spec_ManOk.l1 k y0 y1 y2 y3 y4 y5 y6 y7 y8) (spec_ManOk.l1 (k + 1) y0 y1 y2 y3 y4 y5 y6 y7 y8))
 | 0 => ⟨fun _ _ _ _ r h => by simp [spec_ManOk.j0] at h, fun _ _ _ _ r h => by simp [spec_ManOk.l0] at h, fun _ _ _ _ _ _ _ _ _ r h => by simp [spec_ManOk.j2] at h, fun _ _ _ _ _ _ _ _ _ r h => by simp [spec_ManOk.l1] at h⟩
 | k + 1 => by
  obtain ⟨ih0, ih1, ih2, ih3⟩ := spec_ManOk.mono_l k
  refine ⟨?_, ?_, ?_, ?_⟩
  ·intro y0 y1 y2 y3
   unfold spec_ManOk.j0
   repeat' first
   | (with_reducible exact ih0 _ _ _ _)
   | (with_reducible exact ih1 _ _ _ _)
   | (with_reducible exact ih2 _ _ _ _ _ _ _ _ _)
   | (with_reducible exact ih3 _ _ _ _ _ _ _ _ _)
   | (with_reducible exact LeO.refl _)
   | (with_reducible exact LeO.none _)
   | (with_reducible refine LeO.ite ?_ ?_)
   | (with_reducible refine LeO.bind ?_ (fun _ => ?_))
   | exact ih0 _ _ _ _
   | exact ih1 _ _ _ _
   | exact ih2 _ _ _ _ _ _ _ _ _
   | exact ih3 _ _ _ _ _ _ _ _ _
   | exact LeO.none _
   | refine LeO.ite ?_ ?_
   | refine LeO.bind ?_ (fun _ => ?_)
  ·intro y0 y1 y2 y3
   unfold spec_ManOk.l0
   repeat' first
   | (with_reducible exact ih0 _ _ _ _)
   | (with_reducible exact ih1 _ _ _ _)
   | (with_reducible exact ih2 _ _ _ _ _ _ _ _ _)
   | (with_reducible exact ih3 _ _ _ _ _ _ _ _ _)
   | (with_reducible exact LeO.refl _)
   | (with_reducible exact LeO.none _)
   | (with_reducible refine LeO.ite ?_ ?_)
   | (with_reducible refine LeO.bind ?_ (fun _ => ?_))
   | exact ih0 _ _ _ _
   | exact ih1 _ _ _ _
   | exact ih2 _ _ _ _ _ _ _ _ _
   | exact ih3 _ _ _ _ _ _ _ _ _
   | exact LeO.none _
   | refine LeO.ite ?_ ?_
   | refine LeO.bind ?_ (fun _ => ?_)
  ·intro y0 y1 y2 y3 y4 y5 y6 y7 y8
   unfold spec_ManOk.j2
   repeat' first
   | (with_reducible exact ih0 _ _ _ _)
   | (with_reducible exact ih1 _ _ _ _)
   | (with_reducible exact ih2 _ _ _ _ _ _ _ _ _)
   | (with_reducible exact ih3 _ _ _ _ _ _ _ _ _)
   | (with_reducible exact LeO.refl _)
   | (with_reducible exact LeO.none _)
   | (with_reducible refine LeO.ite ?_ ?_)
   | (with_reducible refine LeO.bind ?_ (fun _ => ?_))
   | exact ih0 _ _ _ _
   | exact ih1 _ _ _ _
   | exact ih2 _ _ _ _ _ _ _ _ _
   | exact ih3 _ _ _ _ _ _ _ _ _
   | exact LeO.none _
   | refine LeO.ite ?_ ?_
   | refine LeO.bind ?_ (fun _ => ?_)
  ·intro y0 y1 y2 y3 y4 y5 y6 y7 y8
   unfold spec_ManOk.l1
   repeat' first
   | (with_reducible exact ih0 _ _ _ _)
   | (with_reducible exact ih1 _ _ _ _)
   | (with_reducible exact ih2 _ _ _ _ _ _ _ _ _)
   | (with_reducible exact ih3 _ _ _ _ _ _ _ _ _)
   | (with_reducible exact LeO.refl _)
   | (with_reducible exact LeO.none _)
   | (with_reducible refine LeO.ite ?_ ?_)
   | (with_reducible refine LeO.bind ?_ (fun _ => ?_))
   | exact ih0 _ _ _ _
   | exact ih1 _ _ _ _
   | exact ih2 _ _ _ _ _ _ _ _ _
   | exact ih3 _ _ _ _ _ _ _ _ _
   | exact LeO.none _
   | refine LeO.ite ?_ ?_
   | refine LeO.bind ?_ (fun _ => ?_)
theorem spec_ManOk.mono : ∀ a0 a1 a2 k, LeO (spec_ManOk.f k a0 a1 a2) (spec_ManOk.f (k + 1) a0 a1 a2) := by
 intro a0 a1 a2 k
 obtain ⟨ih0, ih1, ih2, ih3⟩ := spec_ManOk.mono_l k
 unfold spec_ManOk.f
 repeat' first
   | (with_reducible exact ih0 _ _ _ _)
   | (with_reducible exact ih1 _ _ _ _)
   | (with_reducible exact ih2 _ _ _ _ _ _ _ _ _)
   | (with_reducible exact ih3 _ _ _ _ _ _ _ _ _)
   | (with_reducible exact LeO.refl _)
   | (with_reducible exact LeO.none _)
   | (with_reducible refine LeO.ite ?_ ?_)
   | (with_reducible refine LeO.bind ?_ (fun _ => ?_))
   | exact ih0 _ _ _ _
   | exact ih1 _ _ _ _
   | exact ih2 _ _ _ _ _ _ _ _ _
   | exact ih3 _ _ _ _ _ _ _ _ _
   | exact LeO.none _
   | refine LeO.ite ?_ ?_
   | refine LeO.bind ?_ (fun _ => ?_)
def spec_ManOk.T7 : Bool × List (List Nat × List Nat) := (true, [([], []), ([], []), ([0, 1], [0, 1]), ([2], [2]), ([3, 2], [3]), ([4], [4]), ([5, 4], [4, 5]), ([6, 4, 4], [4, 6]), ([7], [7]), ([8, 7], [7, 8]), ([7], [7]), ([10, 7], [7, 10]), ([9, 11, 7], [7, 9, 11]), ([12, 7], [7, 12]), ([13, 7], [7, 13]), ([7], [7]), ([15, 7], [7, 15]), ([14, 16, 7], [7, 14, 16]), ([7, 17, 4], [4, 7, 17]), ([4, 18], [4, 18])])
def spec_ManOk.B7 : List Nat := [0, 0, 3, 7, 15, 31, 63, 127, 255, 511, 255, 1279, 4095, 8191, 16383, 255, 33023, 131071, 262143, 524287]
theorem spec_ManOk.tab7 : rtab .any (opsOf Try.f55 7) = spec_ManOk.T7 := by kernel_rfl
theorem spec_ManOk.bits7 : waitsOk spec_ManOk.T7.2 spec_ManOk.B7 = true := by kernel_rfl
set_option maxHeartbeats 8000000 in
set_option maxRecDepth 100000 in
theorem spec_ManOk.calls (k : Nat) (a0_0 : Int) (a0_1 : Int) (A0_2 : Option Addr) (c0_2 : Nat) (l0_2 : List (S46)) (r : Bool) (w : World) (hr0_2 : Kd.C k46 w A0_2 l0_2.length l0_2) (hc0_2 : l0_2.length ≤ c0_2) (h : spec_ManOk.f k a0_0 a0_1 l0_2 = some r) :
  Calls Try.prog 55 #[.agg #[.int .i64 a0_0, .int .i64 a0_1, .slice A0_2 l0_2.length c0_2]] w fun e w' => e = .returned (.bool r) ∧ Below w.heap.size w w' := by
 have hu40 := Try.underlying40
 have hu46 := Try.underlying46
 have HR0_2 := mS hr0_2
 have HC0_2 := mS hc0_2
 clear hr0_2 hc0_2
 have HB := mS (Below.refl w.heap.size w)
 have H : ((spec_l1In.f a0_0 1 100000).bind fun t139 => (if t139 = true then ((spec_l1In.f a0_1 0 (wrap64 (a0_0 - 1))).bind fun t140 => (if t140 = true then (spec_ManOk.j0 k (decide ((l0_2.length : Int) > 20)) a0_0 a0_1 l0_2) else (spec_ManOk.j0 k true a0_0 a0_1 l0_2))) else (spec_ManOk.j0 k true a0_0 a0_1 l0_2))) = some r := h
 clear h
 have HC2 := mS H
 clear H
 go_enter Try.func55, Try.ntmps55
 go_upto_region 1 with (first | ((with_reducible refine gate_dst (N := 1) rfl ?_); (try (refine gate_guard (by rfl) ?_; dsimp only)); refine box_event ?hg (N := 1) ?hd (cs := #[.int .i64 a0_0, .int .i64 a0_1, .slice A0_2 l0_2.length c0_2]) (t := 40) ?hr ?_; (case hd => rfl); (case hg => rfl); (case hr => first | (go_simp; done) | (go_simp; rfl)); intro gb138 hg w3 hbox hb; have BK138 := mS (hbox); have GW138 := mG hg (mH HB.out); have GE138 := mG hg (mH HB.out); replace HB := mS (below_step (mH HB.out) hb); clear hb hbox hg))
 (try simp only [Act.put, zA, zB, zC])
 go_cut [25] (fun v25 wc => ∃ (kq : Nat) (x25_1 : Bool), v25 = .bool x25_1 ∧ Aside0 (spec_ManOk.j0 kq x25_1 a0_0 a0_1 l0_2 = some r) ∧ Aside0 (kq ≤ k) ∧ Aside0 (wc.heap[gb138]? = some (.cells #[.int .i64 a0_0, .int .i64 a0_1, (.slice A0_2 l0_2.length c0_2)] 40 (0, 0))) ∧ Aside0 (Below w.heap.size w wc))
 case first =>
  have H := HC2.out
  clear HC2
  replace H := Option.bind_eq_some_iff.mp H
  obtain ⟨t139, A40, H⟩ := H
  replace H : (if t139 = true then ((spec_l1In.f a0_1 0 (wrap64 (a0_0 - 1))).bind fun t140 => (if t140 = true then (spec_ManOk.j0 k (decide ((l0_2.length : Int) > 20)) a0_0 a0_1 l0_2) else (spec_ManOk.j0 k true a0_0 a0_1 l0_2))) else (spec_ManOk.j0 k true a0_0 a0_1 l0_2)) = some r := H
  have A4 := mS A40
  clear A40
  by_cases c5 : t139 = true
  ·subst c5
   have H1 : ((spec_l1In.f a0_1 0 (wrap64 (a0_0 - 1))).bind fun t140 => (if t140 = true then (spec_ManOk.j0 k (decide ((l0_2.length : Int) > 20)) a0_0 a0_1 l0_2) else (spec_ManOk.j0 k true a0_0 a0_1 l0_2))) = some r := by rw [if_pos rfl] at H; exact H
   clear H
   have H := H1
   clear H1
   replace H := Option.bind_eq_some_iff.mp H
   obtain ⟨t140, A60, H⟩ := H
   replace H : (if t140 = true then (spec_ManOk.j0 k (decide ((l0_2.length : Int) > 20)) a0_0 a0_1 l0_2) else (spec_ManOk.j0 k true a0_0 a0_1 l0_2)) = some r := H
   have A6 := mS A60
   clear A60
   by_cases c7 : t140 = true
   ·subst c7
    have H1 : (spec_ManOk.j0 k (decide ((l0_2.length : Int) > 20)) a0_0 a0_1 l0_2) = some r := by rw [if_pos rfl] at H; exact H
    clear H
    have H := H1
    clear H1
    have H' := mS H
    clear H
    have hcz8_0 := mZ BK138.out 0
    have hcz8_1 := mZ BK138.out 1
    have hcz8_2 := mZ BK138.out 2
    have hfz8_0 := blk_frozen BK138.out 0
    have hfz8_1 := blk_frozen BK138.out 1
    have hfz8_2 := blk_frozen BK138.out 2
    go_wp2_with (first | ((with_reducible refine gate_callee (f := 89) rfl ?_); refine goesL_ (some 9) rfl rfl Try.func89 (by kernel_rfl) rfl #[.int .i64 a0_0, .int .i64 1, .int .i64 100000] rfl mA ?_; (with_reducible refine (spec_l1In.calls a0_0 1 100000 true _ A4.out).mono ?_); rintro e w' ⟨rfl, ⟨nd, rfl⟩⟩; refine ⟨_, rfl, ?_⟩) | (go_at_call 89; (with_reducible refine (spec_l1In.calls a0_1 0 (wrap64 (a0_0 - 1)) true _ A6.out).mono ?_); rintro e w' ⟨rfl, ⟨nd, rfl⟩⟩))
    go_meet
    case rel => exact ⟨_, (decide ((l0_2.length : Int) > 20)), (by first | rfl | (simp; done) | (simp [*]; done)), H', ⟨by first | omega | exact Nat.le_refl _⟩, ⟨by (with_reducible repeat (first | refine blk_drewN ?_ _ | refine blk_drew ?_ | refine blk_alloc ?_ _)); exact BK138.out⟩, ⟨(mH1 HB.out GE138.out)⟩⟩
   ·replace c7 := Bool.eq_false_iff.mpr c7
    subst c7
    have H1 : (spec_ManOk.j0 k true a0_0 a0_1 l0_2) = some r := by rw [if_neg (show ¬ (false = true) by decide)] at H; exact H
    clear H
    have H := H1
    clear H1
    have H' := mS H
    clear H
    have hcz9_0 := mZ BK138.out 0
    have hcz9_1 := mZ BK138.out 1
    have hcz9_2 := mZ BK138.out 2
    have hfz9_0 := blk_frozen BK138.out 0
    have hfz9_1 := blk_frozen BK138.out 1
    have hfz9_2 := blk_frozen BK138.out 2
    go_wp2_with (first | ((with_reducible refine gate_callee (f := 89) rfl ?_); refine goesL_ (some 9) rfl rfl Try.func89 (by kernel_rfl) rfl #[.int .i64 a0_0, .int .i64 1, .int .i64 100000] rfl mA ?_; (with_reducible refine (spec_l1In.calls a0_0 1 100000 true _ A4.out).mono ?_); rintro e w' ⟨rfl, ⟨nd, rfl⟩⟩; refine ⟨_, rfl, ?_⟩) | (go_at_call 89; (with_reducible refine (spec_l1In.calls a0_1 0 (wrap64 (a0_0 - 1)) false _ A6.out).mono ?_); rintro e w' ⟨rfl, ⟨nd, rfl⟩⟩))
    go_meet
    case rel => exact ⟨_, (true), (by first | rfl | (simp; done) | (simp [*]; done)), H', ⟨by first | omega | exact Nat.le_refl _⟩, ⟨by (with_reducible repeat (first | refine blk_drewN ?_ _ | refine blk_drew ?_ | refine blk_alloc ?_ _)); exact BK138.out⟩, ⟨(mH1 HB.out GE138.out)⟩⟩
  ·replace c5 := Bool.eq_false_iff.mpr c5
   subst c5
   have H1 : (spec_ManOk.j0 k true a0_0 a0_1 l0_2) = some r := by rw [if_neg (show ¬ (false = true) by decide)] at H; exact H
   clear H
   have H := H1
   clear H1
   have H' := mS H
   clear H
   have hcz10_0 := mZ BK138.out 0
   have hcz10_1 := mZ BK138.out 1
   have hcz10_2 := mZ BK138.out 2
   have hfz10_0 := blk_frozen BK138.out 0
   have hfz10_1 := blk_frozen BK138.out 1
   have hfz10_2 := blk_frozen BK138.out 2
   go_wp2_with (first | ((with_reducible refine gate_callee (f := 89) rfl ?_); refine goesL_ (some 9) rfl rfl Try.func89 (by kernel_rfl) rfl #[.int .i64 a0_0, .int .i64 1, .int .i64 100000] rfl mA ?_; (with_reducible refine (spec_l1In.calls a0_0 1 100000 false _ A4.out).mono ?_); rintro e w' ⟨rfl, ⟨nd, rfl⟩⟩; refine ⟨_, rfl, ?_⟩))
   go_meet
   case rel => exact ⟨_, (true), (by first | rfl | (simp; done) | (simp [*]; done)), H', ⟨by first | omega | exact Nat.le_refl _⟩, ⟨by (with_reducible repeat (first | refine blk_drewN ?_ _ | refine blk_drew ?_ | refine blk_alloc ?_ _)); exact BK138.out⟩, ⟨(mH1 HB.out GE138.out)⟩⟩
 case rest =>
  clear HC2
  try clear p2
  try clear c5
  try clear p6
  try clear c7
  try clear c8
  try clear hcz10_0
  try clear hcz10_1
  try clear hcz10_2
  try clear hcz8_0
  try clear hcz8_1
  try clear hcz8_2
  try clear hcz9_0
  try clear hcz9_1
  try clear hcz9_2
  try clear hfz10_0
  try clear hfz10_1
  try clear hfz10_2
  try clear hfz8_0
  try clear hfz8_1
  try clear hfz8_2
  try clear hfz9_0
  try clear hfz9_1
  try clear hfz9_2
  obtain ⟨kq, x25_1, rfl, HA, HJ1, BK138, HB⟩ := hcut
  cases kq with
  | zero => exact absurd HA.out (by simp [spec_ManOk.j0])
  | succ kj1 =>
   have H := HA.out
   clear HA
   simp only [spec_ManOk.j0] at H
   by_cases c11 : x25_1 = true
   ·subst c11
    have H1 : (some false) = some r := by rw [if_pos rfl] at H; exact H
    clear H
    have H := H1
    clear H1
    obtain rfl := Option.some.inj H
    go_wp2
    go_ret
    exact ⟨by first | rfl | (simp [errW_none, errW_some] <;> rfl) | (simp [*, errW_none, errW_some] <;> rfl), (mH1 HB.out GE138.out)⟩
   ·replace c11 := Bool.eq_false_iff.mpr c11
    subst c11
    have H1 : (spec_ManOk.l0 kj1 0 a0_0 a0_1 l0_2) = some r := by rw [if_neg (show ¬ (false = true) by decide)] at H; exact H
    clear H
    have H := H1
    clear H1
    have H' := mS H
    clear H
    go_wp2
    go_loopg [3] kj1 (fun kq v3 w' => ∃ (x3_2 : Int), v3 = .int .i64 x3_2 ∧ Aside0 (spec_ManOk.l0 kq x3_2 a0_0 a0_1 l0_2 = some r) ∧ Aside0 (kq ≤ kj1) ∧ Aside0 (w'.heap[gb138]? = some (.cells #[.int .i64 a0_0, .int .i64 a0_1, (.slice A0_2 l0_2.length c0_2)] 40 (0, 0))) ∧ Aside0 (Below w.heap.size w w'))
    case atStart => exact ⟨(0), (by first | rfl | (simp; done) | (simp [*]; done)), H', ⟨Nat.le_refl _⟩, ⟨by (with_reducible repeat (first | refine blk_drewN ?_ _ | refine blk_drew ?_ | refine blk_alloc ?_ _)); exact BK138.out⟩, ⟨(mH1 HB.out GE138.out)⟩⟩
    case round =>
     clear H'
     try clear c1
     try clear p2
     try clear c5
     try clear p6
     try clear c7
     try clear c8
     try clear c11
     try clear hcz10_0
     try clear hcz10_1
     try clear hcz10_2
     try clear hcz8_0
     try clear hcz8_1
     try clear hcz8_2
     try clear hcz9_0
     try clear hcz9_1
     try clear hcz9_2
     try clear hfz10_0
     try clear hfz10_1
     try clear hfz10_2
     try clear hfz8_0
     try clear hfz8_1
     try clear hfz8_2
     try clear hfz9_0
     try clear hfz9_1
     try clear hfz9_2
     try clear p2
     try clear p6
     obtain ⟨x3_2, rfl, HA, HK2, BK138, HB⟩ := hrel
     cases gk with
     | zero => exact absurd HA.out (by simp [spec_ManOk.l0])
     | succ k2 =>
      have H := HA.out
      clear HA
      simp only [spec_ManOk.l0] at H
      by_cases c12 : x3_2 < (l0_2.length : Int)
      ·rw [if_pos c12] at H
       have c12b0 : decide (x3_2 < (l0_2.length : Int)) = true := decide_eq_true c12
       clear c12
       by_cases c13 : 0 ≤ x3_2
       ·rw [if_pos c13] at H
        have c13b0 : decide (0 ≤ x3_2) = true := decide_eq_true c13
        clear c13
        have HC14 := mS H
        clear H
        have hcz15_0 := mZ BK138.out 0
        have hcz15_1 := mZ BK138.out 1
        have hcz15_2 := mZ BK138.out 2
        have hfz15_0 := blk_frozen BK138.out 0
        have hfz15_1 := blk_frozen BK138.out 1
        have hfz15_2 := blk_frozen BK138.out 2
        have p141 : 0 ≤ (x3_2 : Int) := of_decide_eq_true (by first | (with_reducible assumption) | assumption)
        have q141 : x3_2 < (l0_2.length : Int) := of_decide_eq_true (by first | (with_reducible assumption) | assumption)
        obtain ⟨ad141, e141, hx141_0, hx141_1, hx141_2, hx141_3⟩ := at_T46 HR0_2.out x3_2 p141 q141
        cases e141
        replace hx141_0 := mX HB.out hx141_0
        replace hx141_1 := mX HB.out hx141_1
        replace hx141_2 := mX HB.out hx141_2
        replace hx141_3 := mX HB.out hx141_3
        replace p141 := eq_true p141
        replace q141 := eq_true q141
        go_upto_region 7 with (first | ((with_reducible refine gate_dst (N := 4) rfl ?_); (try (refine gate_guard (by rfl) ?_; dsimp only)); refine box_event ?hg (N := 4) ?hd (cs := #[.int .i64 0, .int .i64 0, .string (⟨#[]⟩ : ByteArray), .string (⟨#[]⟩ : ByteArray)]) (t := 46) ?hr ?_; (case hd => rfl); (case hg => rfl); (case hr => first | (go_simp; done) | (go_simp; rfl)); intro gb142 hg w16 hbox hb; have BK142 := mS (hbox); have GW142 := mG hg (mH1 HB.out GE138.out); have GE142 := mG hg (mH1 HB.out GE138.out); replace HB := mS (below_step (mH1 HB.out GE138.out) hb); have NB138_142 := mNl hg BK138.out; have NB142_138 := mNg hg BK138.out; replace BK138 := mB BK138 hb; clear hb hbox hg; have hnb17 := NB142_138.out; have hnc17 := NB138_142.out; have hcz18_0 := mZ BK142.out 0; have hcz18_1 := mZ BK142.out 1; have hcz18_2 := mZ BK142.out 2; have hcz18_3 := mZ BK142.out 3; have hfz18_0 := blk_frozen BK142.out 0; have hfz18_1 := blk_frozen BK142.out 1; have hfz18_2 := blk_frozen BK142.out 2; have hfz18_3 := blk_frozen BK142.out 3))
        (try simp only [Act.put, zA, zB, zC])
        go_cut [57] (fun v57 wc => ∃ (kq : Nat) (x57_13 : Bool), v57 = .bool x57_13 ∧ Aside0 (spec_ManOk.j2 kq x3_2 x57_13 a0_0 a0_1 l0_2 ((rd_T46 l0_2 x3_2).f0) ((rd_T46 l0_2 x3_2).f1) ((rd_T46 l0_2 x3_2).f2) ((rd_T46 l0_2 x3_2).f3) = some r) ∧ Aside0 (kq ≤ k2) ∧ Aside0 (wc.heap[gb138]? = some (.cells #[.int .i64 a0_0, .int .i64 a0_1, (.slice (some ad141) l0_2.length c0_2)] 40 (0, 0))) ∧ Aside0 (wc.heap[gb142]? = some (.cells #[.int .i64 ((rd_T46 l0_2 x3_2).f0), .int .i64 ((rd_T46 l0_2 x3_2).f1), .string ((rd_T46 l0_2 x3_2).f2), .string ((rd_T46 l0_2 x3_2).f3)] 46 (0, 0))) ∧ Aside0 (Below w.heap.size w wc))
        case first =>
         have H := HC14.out
         clear HC14
         replace H := Option.bind_eq_some_iff.mp H
         obtain ⟨t143, A190, H⟩ := H
         replace H : (if t143 = true then (if x3_2 > 0 then (if 0 ≤ (wrap64 (x3_2 - 1)) then (if (wrap64 (x3_2 - 1)) < (l0_2.length : Int) then (spec_ManOk.j2 k2 x3_2 (decide (((rd_T46 l0_2 (wrap64 (x3_2 - 1))).f0) ≥ ((rd_T46 l0_2 x3_2).f0))) a0_0 a0_1 l0_2 ((rd_T46 l0_2 x3_2).f0) ((rd_T46 l0_2 x3_2).f1) ((rd_T46 l0_2 x3_2).f2) ((rd_T46 l0_2 x3_2).f3)) else (none)) else (none)) else (spec_ManOk.j2 k2 x3_2 false a0_0 a0_1 l0_2 ((rd_T46 l0_2 x3_2).f0) ((rd_T46 l0_2 x3_2).f1) ((rd_T46 l0_2 x3_2).f2) ((rd_T46 l0_2 x3_2).f3))) else (spec_ManOk.j2 k2 x3_2 true a0_0 a0_1 l0_2 ((rd_T46 l0_2 x3_2).f0) ((rd_T46 l0_2 x3_2).f1) ((rd_T46 l0_2 x3_2).f2) ((rd_T46 l0_2 x3_2).f3))) = some r := H
         have A19 := mS A190
         clear A190
         by_cases c20 : t143 = true
         ·subst c20
          have H1 : (if x3_2 > 0 then (if 0 ≤ (wrap64 (x3_2 - 1)) then (if (wrap64 (x3_2 - 1)) < (l0_2.length : Int) then (spec_ManOk.j2 k2 x3_2 (decide (((rd_T46 l0_2 (wrap64 (x3_2 - 1))).f0) ≥ ((rd_T46 l0_2 x3_2).f0))) a0_0 a0_1 l0_2 ((rd_T46 l0_2 x3_2).f0) ((rd_T46 l0_2 x3_2).f1) ((rd_T46 l0_2 x3_2).f2) ((rd_T46 l0_2 x3_2).f3)) else (none)) else (none)) else (spec_ManOk.j2 k2 x3_2 false a0_0 a0_1 l0_2 ((rd_T46 l0_2 x3_2).f0) ((rd_T46 l0_2 x3_2).f1) ((rd_T46 l0_2 x3_2).f2) ((rd_T46 l0_2 x3_2).f3))) = some r := by rw [if_pos rfl] at H; exact H
          clear H
          have H := H1
          clear H1
          by_cases c21 : x3_2 > 0
          ·rw [if_pos c21] at H
           have c21b0 : decide (0 < x3_2) = true := decide_eq_true c21
           clear c21
           (first | rw [c21b0] | (simp only [i64_w, i32_w]; rw [c21b0]) | skip)
           obtain ⟨ji22, hji22⟩ : ∃ j_ : Int, (wrap64 (x3_2 - 1)) = j_ := ⟨_, rfl⟩
           replace H : (if 0 ≤ (ji22) then (if (ji22) < (l0_2.length : Int) then (spec_ManOk.j2 k2 x3_2 (decide (((rd_T46 l0_2 (ji22)).f0) ≥ ((rd_T46 l0_2 x3_2).f0))) a0_0 a0_1 l0_2 ((rd_T46 l0_2 x3_2).f0) ((rd_T46 l0_2 x3_2).f1) ((rd_T46 l0_2 x3_2).f2) ((rd_T46 l0_2 x3_2).f3)) else (none)) else (none)) = some r := by first | (rw [hji22] at H; exact H) | (simp only [hji22] at H ⊢; exact H)
           (try rw [hji22] at A19)
           have hji22w : (IntKind.i64.wrap (x3_2 - 1)) = ji22 := (i64_w _).trans hji22
           by_cases c23 : 0 ≤ (ji22)
           ·rw [if_pos c23] at H
            have c23b0 : decide (0 ≤ (ji22)) = true := decide_eq_true c23
            clear c23
            by_cases c24 : (ji22) < (l0_2.length : Int)
            ·rw [if_pos c24] at H
             have c24b0 : decide ((ji22) < (l0_2.length : Int)) = true := decide_eq_true c24
             clear c24
             have H' := mS H
             clear H
             try go_wp2
             have n0_ : Aside0 (((((w16.setCell ⟨gb142, 0, none⟩ (.int .i64 ((rd_T46 l0_2 x3_2).f0))).setCell ⟨gb142, 1, none⟩ (.int .i64 ((rd_T46 l0_2 x3_2).f1))).setCell ⟨gb142, 2, none⟩ (.string ((rd_T46 l0_2 x3_2).f2))).setCell ⟨gb142, 3, none⟩ (.string ((rd_T46 l0_2 x3_2).f3))).heap[gb138]? = some (.cells #[.int .i64 a0_0, .int .i64 a0_1, .slice (some ad141) l0_2.length c0_2] 40 (0, 0))) := ⟨by (with_reducible repeat (first | refine blk_drewN ?_ _ | refine blk_drew ?_ | refine blk_alloc ?_ _)); refine blk_far ?_ NB138_142.out _; (with_reducible repeat (first | refine blk_drewN ?_ _ | refine blk_drew ?_ | refine blk_alloc ?_ _)); refine blk_far ?_ NB138_142.out _; (with_reducible repeat (first | refine blk_drewN ?_ _ | refine blk_drew ?_ | refine blk_alloc ?_ _)); refine blk_far ?_ NB138_142.out _; (with_reducible repeat (first | refine blk_drewN ?_ _ | refine blk_drew ?_ | refine blk_alloc ?_ _)); refine blk_far ?_ NB138_142.out _; (with_reducible repeat (first | refine blk_drewN ?_ _ | refine blk_drew ?_ | refine blk_alloc ?_ _)); exact BK138.out⟩
             have n1_ : Aside0 (((((w16.setCell ⟨gb142, 0, none⟩ (.int .i64 ((rd_T46 l0_2 x3_2).f0))).setCell ⟨gb142, 1, none⟩ (.int .i64 ((rd_T46 l0_2 x3_2).f1))).setCell ⟨gb142, 2, none⟩ (.string ((rd_T46 l0_2 x3_2).f2))).setCell ⟨gb142, 3, none⟩ (.string ((rd_T46 l0_2 x3_2).f3))).heap[gb142]? = some (.cells #[.int .i64 ((rd_T46 l0_2 x3_2).f0), .int .i64 ((rd_T46 l0_2 x3_2).f1), .string ((rd_T46 l0_2 x3_2).f2), .string ((rd_T46 l0_2 x3_2).f3)] 46 (0, 0))) := ⟨by (with_reducible repeat (first | refine blk_drewN ?_ _ | refine blk_drew ?_ | refine blk_alloc ?_ _)); refine blk_put (cs := #[.int .i64 ((rd_T46 l0_2 x3_2).f0), .int .i64 ((rd_T46 l0_2 x3_2).f1), .string ((rd_T46 l0_2 x3_2).f2), .string (⟨#[]⟩ : ByteArray)]) ?_ 3 _ rfl; (with_reducible repeat (first | refine blk_drewN ?_ _ | refine blk_drew ?_ | refine blk_alloc ?_ _)); refine blk_put (cs := #[.int .i64 ((rd_T46 l0_2 x3_2).f0), .int .i64 ((rd_T46 l0_2 x3_2).f1), .string (⟨#[]⟩ : ByteArray), .string (⟨#[]⟩ : ByteArray)]) ?_ 2 _ rfl; (with_reducible repeat (first | refine blk_drewN ?_ _ | refine blk_drew ?_ | refine blk_alloc ?_ _)); refine blk_put (cs := #[.int .i64 ((rd_T46 l0_2 x3_2).f0), .int .i64 0, .string (⟨#[]⟩ : ByteArray), .string (⟨#[]⟩ : ByteArray)]) ?_ 1 _ rfl; (with_reducible repeat (first | refine blk_drewN ?_ _ | refine blk_drew ?_ | refine blk_alloc ?_ _)); refine blk_put (cs := #[.int .i64 0, .int .i64 0, .string (⟨#[]⟩ : ByteArray), .string (⟨#[]⟩ : ByteArray)]) ?_ 0 _ rfl; (with_reducible repeat (first | refine blk_drewN ?_ _ | refine blk_drew ?_ | refine blk_alloc ?_ _)); exact BK142.out⟩
             have n2_ : Aside0 (Below w.heap.size w ((((w16.setCell ⟨gb142, 0, none⟩ (.int .i64 ((rd_T46 l0_2 x3_2).f0))).setCell ⟨gb142, 1, none⟩ (.int .i64 ((rd_T46 l0_2 x3_2).f1))).setCell ⟨gb142, 2, none⟩ (.string ((rd_T46 l0_2 x3_2).f2))).setCell ⟨gb142, 3, none⟩ (.string ((rd_T46 l0_2 x3_2).f3)))) := ⟨(mH2 HB.out GE138.out GE142.out)⟩
             (try clear BK138)
             (try clear BK142)
             (try clear HB)
             generalize ((((w16.setCell ⟨gb142, 0, none⟩ (.int .i64 ((rd_T46 l0_2 x3_2).f0))).setCell ⟨gb142, 1, none⟩ (.int .i64 ((rd_T46 l0_2 x3_2).f1))).setCell ⟨gb142, 2, none⟩ (.string ((rd_T46 l0_2 x3_2).f2))).setCell ⟨gb142, 3, none⟩ (.string ((rd_T46 l0_2 x3_2).f3))) = w25 at n0_ n1_ n2_ ⊢
             have BK138 := n0_
             have BK142 := n1_
             have HB := n2_
             clear n0_ n1_ n2_
             have n0_ := mS (blk_drew BK138.out)
             have n1_ := mS (blk_drew BK142.out)
             have n2_ := mS (below_drew1 HB.out)
             clear BK138
             clear BK142
             clear HB
             have BK138 := n0_
             have BK142 := n1_
             have HB := n2_
             clear n0_ n1_ n2_
             have p144 : 0 ≤ ((ji22) : Int) := of_decide_eq_true (by first | (with_reducible assumption) | assumption)
             have q144 : (ji22) < (l0_2.length : Int) := of_decide_eq_true (by first | (with_reducible assumption) | assumption)
             obtain ⟨ad144, e144, hx144_0, hx144_1, hx144_2, hx144_3⟩ := at_T46 HR0_2.out (ji22) p144 q144
             have hw144_3 := hx144_3
             have hw144_2 := hx144_2
             have hw144_1 := hx144_1
             have hw144_0 := hx144_0
             obtain rfl : ad141 = ad144 := (by injection e144)
             replace hx144_0 := mX HB.out hx144_0
             replace hx144_1 := mX HB.out hx144_1
             replace hx144_2 := mX HB.out hx144_2
             replace hx144_3 := mX HB.out hx144_3
             replace p144 := eq_true p144
             replace q144 := eq_true q144
             refine start_ (n := 20) (S := fun w' => w'.cell? ⟨gb138, 0, none⟩ = some (.int .i64 a0_0) ∧ w'.cell? ⟨gb138, 1, none⟩ = some (.int .i64 a0_1) ∧ w'.cell? ⟨gb138, 2, none⟩ = some (.slice (some ad141) l0_2.length c0_2) ∧ w'.cell? ⟨gb142, 0, none⟩ = some (.int .i64 ((rd_T46 l0_2 x3_2).f0)) ∧ w'.cell? ⟨gb142, 1, none⟩ = some (.int .i64 ((rd_T46 l0_2 x3_2).f1)) ∧ w'.cell? ⟨gb142, 2, none⟩ = some (.string ((rd_T46 l0_2 x3_2).f2)) ∧ w'.cell? ⟨gb142, 3, none⟩ = some (.string ((rd_T46 l0_2 x3_2).f3)) ∧ w'.cell? (ad141.add (((ji22)).toNat * 4)) = some (.int .i64 ((rd_T46 l0_2 (ji22)).f0)) ∧ w'.cell? ⟨(ad141.add (((ji22)).toNat * 4)).block, (ad141.add (((ji22)).toNat * 4)).off + 1, none⟩ = some (.int .i64 ((rd_T46 l0_2 (ji22)).f1)) ∧ w'.cell? ⟨(ad141.add (((ji22)).toNat * 4)).block, (ad141.add (((ji22)).toNat * 4)).off + 2, none⟩ = some (.string ((rd_T46 l0_2 (ji22)).f2)) ∧ w'.cell? ⟨(ad141.add (((ji22)).toNat * 4)).block, (ad141.add (((ji22)).toNat * 4)).off + 3, none⟩ = some (.string ((rd_T46 l0_2 (ji22)).f3))) (ds := []) (mb 0 20) (by kernel_rfl) rfl rfl ⟨mZ BK138.out 0, mZ BK138.out 1, mZ BK138.out 2, mZ BK142.out 0, mZ BK142.out 1, mZ BK142.out 2, mZ BK142.out 3, ((HB.out.cell (World.block_lt_of_cell? w _ hw144_0)).trans hw144_0), ((HB.out.cell (World.block_lt_of_cell? w _ hw144_1)).trans hw144_1), ((HB.out.cell (World.block_lt_of_cell? w _ hw144_2)).trans hw144_2), ((HB.out.cell (World.block_lt_of_cell? w _ hw144_3)).trans hw144_3)⟩ (fun hHeld => ?_); refine with_tabW spec_ManOk.tab7 spec_ManOk.bits7 (fun HT_ HW_ => ?_)
             generalize w25.drew = w26 at BK138 BK142 HB hx144_0 hx144_1 hx144_2 hx144_3 hHeld ⊢
             refine take_ (i := 0) (N := some 38) (v := ?_) (a' := ?_) (mb 1 19) rfl rfl (take_ofW HT_.out HW_.out (by kernel_rfl)) (fun _ _ _ h => h) (Or.inl ⟨by rfl, ?_⟩) hHeld ?_ ?_
             rotate_left
             ·rintro w' ⟨s0, s1, s2, s3, s4, s5, s6, s7, s8, s9, s10⟩
              go_simp
              with_reducible rfl
             rotate_left
             ·simp only [Act.put, zA, zB, zC, i64_w, i32_w]
              rfl
             refine take_ (i := 1) (N := some 39) (v := ?_) (a' := ?_) (mb 2 18) rfl rfl (take_ofW HT_.out HW_.out (by kernel_rfl)) (fun _ _ _ h => h) (Or.inl ⟨by rfl, ?_⟩) hHeld ?_ ?_
             rotate_left
             ·rintro w' ⟨s0, s1, s2, s3, s4, s5, s6, s7, s8, s9, s10⟩
              go_simp
              with_reducible rfl
             rotate_left
             ·simp only [Act.put, zA, zB, zC, i64_w, i32_w]
              rfl
             refine one_ (i := 2) (N := some 40) (mb 3 17) rfl rfl (one_of HT_.out (by kernel_rfl)) (by decide) (fun K hK => ?_)
             refine goes_ Try.func93 (by kernel_rfl) rfl #[.agg #[.int .i64 a0_0, .int .i64 a0_1, .slice (some ad141) l0_2.length c0_2], .agg #[.int .i64 ((rd_T46 l0_2 x3_2).f0), .int .i64 ((rd_T46 l0_2 x3_2).f1), .string ((rd_T46 l0_2 x3_2).f2), .string ((rd_T46 l0_2 x3_2).f3)]] (by rfl) rfl rfl mA ?_
             with_reducible refine (spec_l6Meta.calls a0_0 a0_1 _ _ l0_2 ((rd_T46 l0_2 x3_2).f0) ((rd_T46 l0_2 x3_2).f1) ((rd_T46 l0_2 x3_2).f2) ((rd_T46 l0_2 x3_2).f3) true _ ?side1 ?side2 A19.out).mono ?_
             (case side1 => repeat (first | exact (Kd.C_below HR0_2.out HB.out) | (with_reducible refine Kd.C_alloc ?_ _) | (with_reducible refine Kd.C_drewN ?_ _) | (with_reducible refine Kd.C_drew ?_)))
             (case side2 => exact HC0_2.out)
             rintro e w27 ⟨rfl, hb⟩
             refine ⟨_, rfl, ?_⟩
             have n0_ := mB BK138 hb
             have n1_ := mB BK142 hb
             have n2_ := mS (below_step (mH2 HB.out GE138.out GE142.out) hb)
             clear BK138
             clear BK142
             clear HB
             have BK138 := n0_
             have BK142 := n1_
             have HB := n2_
             clear n0_ n1_ n2_
             (try clear hb)
             (try clear hb2)
             (try clear hk)
             (try clear hi)
             refine hK.out _ _ ⟨mZ BK138.out 0, mZ BK138.out 1, mZ BK138.out 2, mZ BK142.out 0, mZ BK142.out 1, mZ BK142.out 2, mZ BK142.out 3, ((HB.out.cell (World.block_lt_of_cell? w _ hw144_0)).trans hw144_0), ((HB.out.cell (World.block_lt_of_cell? w _ hw144_1)).trans hw144_1), ((HB.out.cell (World.block_lt_of_cell? w _ hw144_2)).trans hw144_2), ((HB.out.cell (World.block_lt_of_cell? w _ hw144_3)).trans hw144_3)⟩ (fun hHeld => ?_)
             clear hK K
             refine norm_ (a' := ?_) ?_ ?_
             rotate_left
             ·show Act.put _ (some 40) _ = _
              simp only [Act.put, zA, zB, zC, i64_w, i32_w]
              rfl
             refine pure_ (i := 3) (N := some 41) (v := ?_) (a' := ?_) (mb 4 16) rfl rfl (any_of HT_.out (by kernel_rfl)) (fun _ _ _ h => h) (Or.inl ⟨by rfl, ?_⟩) ?_ ?_
             rotate_left
             ·intro w'
              go_simp
              with_reducible rfl
             rotate_left
             ·simp only [Act.put, zA, zB, zC, i64_w, i32_w]
              rfl
             refine pure_ (i := 4) (N := some 42) (v := ?_) (a' := ?_) (mb 5 15) rfl rfl (any_of HT_.out (by kernel_rfl)) (fun _ _ _ h => h) (Or.inl ⟨by rfl, ?_⟩) ?_ ?_
             rotate_left
             ·intro w'
              go_simp
              with_reducible rfl
             rotate_left
             ·simp only [Act.put, zA, zB, zC, i64_w, i32_w]
              rfl
             refine pure_ (i := 5) (N := some 43) (v := ?_) (a' := ?_) (mb 6 14) rfl rfl (any_of HT_.out (by kernel_rfl)) (fun _ _ _ h => h) (Or.inl ⟨by rfl, ?_⟩) ?_ ?_
             rotate_left
             ·intro w'
              go_simp
              with_reducible rfl
             rotate_left
             ·simp only [Act.put, zA, zB, zC, i64_w, i32_w]
              rfl
             refine pure_ (i := 6) (N := some 44) (v := ?_) (a' := ?_) (mb 7 13) rfl rfl (any_of HT_.out (by kernel_rfl)) (fun _ _ _ h => h) (Or.inl ⟨by rfl, ?_⟩) ?_ ?_
             rotate_left
             ·intro w'
              go_simp
              with_reducible rfl
             rotate_left
             ·simp only [Act.put, zA, zB, zC, i64_w, i32_w]
              rfl
             refine pure_ (i := 7) (N := some 45) (v := ?_) (a' := ?_) (mb 8 12) rfl rfl (any_of HT_.out (by kernel_rfl)) (fun _ _ _ h => h) (Or.inl ⟨by rfl, ?_⟩) ?_ ?_
             rotate_left
             ·intro w'
              go_simp
              with_reducible rfl
             rotate_left
             ·simp only [Act.put, zA, zB, zC, i64_w, i32_w]
              rfl
             refine pure_ (i := 8) (N := some 46) (v := ?_) (a' := ?_) (mb 9 11) rfl rfl (any_of HT_.out (by kernel_rfl)) (fun _ _ _ h => h) (Or.inl ⟨by rfl, ?_⟩) ?_ ?_
             rotate_left
             ·intro w'
              go_simp
              with_reducible rfl
             rotate_left
             ·simp only [Act.put, zA, zB, zC, i64_w, i32_w]
              rfl
             refine pure_ (i := 10) (N := some 48) (v := ?_) (a' := ?_) #[true, true, true, true, true, true, true, true, true, false, true, false, false, false, false, false, false, false, false, false] rfl rfl (any_of HT_.out (by kernel_rfl)) (fun _ _ _ h => h) (Or.inl ⟨by rfl, ?_⟩) ?_ ?_
             rotate_left
             ·intro w'
              go_simp
              with_reducible rfl
             rotate_left
             ·simp only [Act.put, zA, zB, zC, i64_w, i32_w]
              rfl
             refine pure_ (i := 11) (N := some 49) (v := ?_) (a' := ?_) #[true, true, true, true, true, true, true, true, true, false, true, true, false, false, false, false, false, false, false, false] rfl rfl (any_of HT_.out (by kernel_rfl)) (fun _ _ _ h => h) (Or.inl ⟨by rfl, ?_⟩) ?_ ?_
             rotate_left
             ·intro w'
              go_simp
              with_reducible rfl
             rotate_left
             ·simp only [Act.put, zA, zB, zC, i64_w, i32_w]
              rfl
             refine pure_ (i := 15) (N := some 53) (v := ?_) (a' := ?_) #[true, true, true, true, true, true, true, true, true, false, true, true, false, false, false, true, false, false, false, false] rfl rfl (any_of HT_.out (by kernel_rfl)) (fun _ _ _ h => h) (Or.inl ⟨by rfl, ?_⟩) ?_ ?_
             rotate_left
             ·intro w'
              go_simp
              with_reducible rfl
             rotate_left
             ·simp only [Act.put, zA, zB, zC, i64_w, i32_w]
              rfl
             refine take_ (i := 9) (N := some 47) (v := ?_) (a' := ?_) #[true, true, true, true, true, true, true, true, true, true, true, true, false, false, false, true, false, false, false, false] rfl rfl (take_ofW HT_.out HW_.out (by kernel_rfl)) (fun _ _ _ h => h) (Or.inl ⟨by rfl, ?_⟩) hHeld ?_ ?_
             rotate_left
             ·rintro w' ⟨s0, s1, s2, s3, s4, s5, s6, s7, s8, s9, s10⟩
              go_simp
              with_reducible rfl
             rotate_left
             ·simp only [Act.put, zA, zB, zC, i64_w, i32_w]
              rfl
             refine pure_ (i := 12) (N := some 50) (v := ?_) (a' := ?_) #[true, true, true, true, true, true, true, true, true, true, true, true, true, false, false, true, false, false, false, false] rfl rfl (any_of HT_.out (by kernel_rfl)) (fun _ _ _ h => h) (Or.inl ⟨by rfl, ?_⟩) ?_ ?_
             rotate_left
             ·intro w'
              go_simp
              with_reducible rfl
             rotate_left
             ·simp only [Act.put, zA, zB, zC, i64_w, i32_w]
              rfl
             refine pure_ (i := 13) (N := some 51) (v := ?_) (a' := ?_) #[true, true, true, true, true, true, true, true, true, true, true, true, true, true, false, true, false, false, false, false] rfl rfl (any_of HT_.out (by kernel_rfl)) (fun _ _ _ h => h) (Or.inl ⟨by rfl, ?_⟩) ?_ ?_
             rotate_left
             ·intro w'
              go_simp
              with_reducible rfl
             rotate_left
             ·simp only [Act.put, zA, zB, zC, i64_w, i32_w]
              rfl
             refine take_ (i := 14) (N := some 52) (v := ?_) (a' := ?_) (mb 16 4) rfl rfl (take_ofW HT_.out HW_.out (by kernel_rfl)) (fun _ _ _ h => h) (Or.inl ⟨by rfl, ?_⟩) hHeld ?_ ?_
             rotate_left
             ·rintro w' ⟨s0, s1, s2, s3, s4, s5, s6, s7, s8, s9, s10⟩
              go_simp
              with_reducible rfl
             rotate_left
             ·simp only [Act.put, zA, zB, zC, i64_w, i32_w]
              rfl
             refine take_ (i := 16) (N := some 54) (v := ?_) (a' := ?_) (mb 17 3) rfl rfl (take_ofW HT_.out HW_.out (by kernel_rfl)) (fun _ _ _ h => h) (Or.inl ⟨by rfl, ?_⟩) hHeld ?_ ?_
             rotate_left
             ·rintro w' ⟨s0, s1, s2, s3, s4, s5, s6, s7, s8, s9, s10⟩
              go_simp
              with_reducible rfl
             rotate_left
             ·simp only [Act.put, zA, zB, zC, i64_w, i32_w]
              rfl
             refine pure_ (i := 17) (N := some 55) (v := ?_) (a' := ?_) (mb 18 2) rfl rfl (any_of HT_.out (by kernel_rfl)) (fun _ _ _ h => h) (Or.inl ⟨by rfl, ?_⟩) ?_ ?_
             rotate_left
             ·intro w'
              go_simp
              with_reducible rfl
             rotate_left
             ·simp only [Act.put, zA, zB, zC, i64_w, i32_w]
              rfl
             refine pure_ (i := 18) (N := some 56) (v := ?_) (a' := ?_) (mb 19 1) rfl rfl (any_of HT_.out (by kernel_rfl)) (fun _ _ _ h => h) (Or.inl ⟨by rfl, ?_⟩) ?_ ?_
             rotate_left
             ·intro w'
              go_simp
              with_reducible rfl
             rotate_left
             ·simp only [Act.put, zA, zB, zC, i64_w, i32_w]
              rfl
             refine pure_ (i := 19) (N := some 57) (v := ?_) (a' := ?_) (mb 20 0) rfl rfl (any_of HT_.out (by kernel_rfl)) (fun _ _ _ h => h) (Or.inl ⟨by rfl, ?_⟩) ?_ ?_
             rotate_left
             ·intro w'
              go_simp
              with_reducible rfl
             rotate_left
             ·simp only [Act.put, zA, zB, zC, i64_w, i32_w]
              rfl
             refine done_ (done_of HT_.out (by kernel_rfl)) ?_
             try go_wp2
             go_meet
             case rel => exact ⟨_, (decide (((rd_T46 l0_2 (ji22)).f0) ≥ ((rd_T46 l0_2 x3_2).f0))), (by first | rfl | (simp; done) | (simp only [← hji22] <;> (first | rfl | simp)) | (simp [*]; done)), H', ⟨by have := HJ1.out; have := HK2.out; first | omega | exact Nat.le_refl _⟩, ⟨by (with_reducible repeat (first | refine blk_drewN ?_ _ | refine blk_drew ?_ | refine blk_alloc ?_ _)); exact BK138.out⟩, ⟨by (with_reducible repeat (first | refine blk_drewN ?_ _ | refine blk_drew ?_ | refine blk_alloc ?_ _)); exact BK142.out⟩, ⟨(mH2 HB.out GE138.out GE142.out)⟩⟩
            ·rw [if_neg c24] at H
             exact absurd H (by simp)
           ·rw [if_neg c23] at H
            exact absurd H (by simp)
          ·rw [if_neg c21] at H
           have c21b0 : decide (0 < x3_2) = false := decide_eq_false c21
           clear c21
           (first | rw [c21b0] | (simp only [i64_w, i32_w]; rw [c21b0]) | skip)
           have H' := mS H
           clear H
           try go_wp2
           have n0_ : Aside0 (((((w16.setCell ⟨gb142, 0, none⟩ (.int .i64 ((rd_T46 l0_2 x3_2).f0))).setCell ⟨gb142, 1, none⟩ (.int .i64 ((rd_T46 l0_2 x3_2).f1))).setCell ⟨gb142, 2, none⟩ (.string ((rd_T46 l0_2 x3_2).f2))).setCell ⟨gb142, 3, none⟩ (.string ((rd_T46 l0_2 x3_2).f3))).heap[gb138]? = some (.cells #[.int .i64 a0_0, .int .i64 a0_1, .slice (some ad141) l0_2.length c0_2] 40 (0, 0))) := ⟨by (with_reducible repeat (first | refine blk_drewN ?_ _ | refine blk_drew ?_ | refine blk_alloc ?_ _)); refine blk_far ?_ NB138_142.out _; (with_reducible repeat (first | refine blk_drewN ?_ _ | refine blk_drew ?_ | refine blk_alloc ?_ _)); refine blk_far ?_ NB138_142.out _; (with_reducible repeat (first | refine blk_drewN ?_ _ | refine blk_drew ?_ | refine blk_alloc ?_ _)); refine blk_far ?_ NB138_142.out _; (with_reducible repeat (first | refine blk_drewN ?_ _ | refine blk_drew ?_ | refine blk_alloc ?_ _)); refine blk_far ?_ NB138_142.out _; (with_reducible repeat (first | refine blk_drewN ?_ _ | refine blk_drew ?_ | refine blk_alloc ?_ _)); exact BK138.out⟩
           have n1_ : Aside0 (((((w16.setCell ⟨gb142, 0, none⟩ (.int .i64 ((rd_T46 l0_2 x3_2).f0))).setCell ⟨gb142, 1, none⟩ (.int .i64 ((rd_T46 l0_2 x3_2).f1))).setCell ⟨gb142, 2, none⟩ (.string ((rd_T46 l0_2 x3_2).f2))).setCell ⟨gb142, 3, none⟩ (.string ((rd_T46 l0_2 x3_2).f3))).heap[gb142]? = some (.cells #[.int .i64 ((rd_T46 l0_2 x3_2).f0), .int .i64 ((rd_T46 l0_2 x3_2).f1), .string ((rd_T46 l0_2 x3_2).f2), .string ((rd_T46 l0_2 x3_2).f3)] 46 (0, 0))) := ⟨by (with_reducible repeat (first | refine blk_drewN ?_ _ | refine blk_drew ?_ | refine blk_alloc ?_ _)); refine blk_put (cs := #[.int .i64 ((rd_T46 l0_2 x3_2).f0), .int .i64 ((rd_T46 l0_2 x3_2).f1), .string ((rd_T46 l0_2 x3_2).f2), .string (⟨#[]⟩ : ByteArray)]) ?_ 3 _ rfl; (with_reducible repeat (first | refine blk_drewN ?_ _ | refine blk_drew ?_ | refine blk_alloc ?_ _)); refine blk_put (cs := #[.int .i64 ((rd_T46 l0_2 x3_2).f0), .int .i64 ((rd_T46 l0_2 x3_2).f1), .string (⟨#[]⟩ : ByteArray), .string (⟨#[]⟩ : ByteArray)]) ?_ 2 _ rfl; (with_reducible repeat (first | refine blk_drewN ?_ _ | refine blk_drew ?_ | refine blk_alloc ?_ _)); refine blk_put (cs := #[.int .i64 ((rd_T46 l0_2 x3_2).f0), .int .i64 0, .string (⟨#[]⟩ : ByteArray), .string (⟨#[]⟩ : ByteArray)]) ?_ 1 _ rfl; (with_reducible repeat (first | refine blk_drewN ?_ _ | refine blk_drew ?_ | refine blk_alloc ?_ _)); refine blk_put (cs := #[.int .i64 0, .int .i64 0, .string (⟨#[]⟩ : ByteArray), .string (⟨#[]⟩ : ByteArray)]) ?_ 0 _ rfl; (with_reducible repeat (first | refine blk_drewN ?_ _ | refine blk_drew ?_ | refine blk_alloc ?_ _)); exact BK142.out⟩
           have n2_ : Aside0 (Below w.heap.size w ((((w16.setCell ⟨gb142, 0, none⟩ (.int .i64 ((rd_T46 l0_2 x3_2).f0))).setCell ⟨gb142, 1, none⟩ (.int .i64 ((rd_T46 l0_2 x3_2).f1))).setCell ⟨gb142, 2, none⟩ (.string ((rd_T46 l0_2 x3_2).f2))).setCell ⟨gb142, 3, none⟩ (.string ((rd_T46 l0_2 x3_2).f3)))) := ⟨(mH2 HB.out GE138.out GE142.out)⟩
           (try clear BK138)
           (try clear BK142)
           (try clear HB)
           generalize ((((w16.setCell ⟨gb142, 0, none⟩ (.int .i64 ((rd_T46 l0_2 x3_2).f0))).setCell ⟨gb142, 1, none⟩ (.int .i64 ((rd_T46 l0_2 x3_2).f1))).setCell ⟨gb142, 2, none⟩ (.string ((rd_T46 l0_2 x3_2).f2))).setCell ⟨gb142, 3, none⟩ (.string ((rd_T46 l0_2 x3_2).f3))) = w28 at n0_ n1_ n2_ ⊢
           have BK138 := n0_
           have BK142 := n1_
           have HB := n2_
           clear n0_ n1_ n2_
           have n0_ := mS (blk_drew BK138.out)
           have n1_ := mS (blk_drew BK142.out)
           have n2_ := mS (below_drew1 HB.out)
           clear BK138
           clear BK142
           clear HB
           have BK138 := n0_
           have BK142 := n1_
           have HB := n2_
           clear n0_ n1_ n2_
           refine start_ (n := 20) (S := fun w' => w'.cell? ⟨gb138, 0, none⟩ = some (.int .i64 a0_0) ∧ w'.cell? ⟨gb138, 1, none⟩ = some (.int .i64 a0_1) ∧ w'.cell? ⟨gb138, 2, none⟩ = some (.slice (some ad141) l0_2.length c0_2) ∧ w'.cell? ⟨gb142, 0, none⟩ = some (.int .i64 ((rd_T46 l0_2 x3_2).f0)) ∧ w'.cell? ⟨gb142, 1, none⟩ = some (.int .i64 ((rd_T46 l0_2 x3_2).f1)) ∧ w'.cell? ⟨gb142, 2, none⟩ = some (.string ((rd_T46 l0_2 x3_2).f2)) ∧ w'.cell? ⟨gb142, 3, none⟩ = some (.string ((rd_T46 l0_2 x3_2).f3))) (ds := []) (mb 0 20) (by kernel_rfl) rfl rfl ⟨mZ BK138.out 0, mZ BK138.out 1, mZ BK138.out 2, mZ BK142.out 0, mZ BK142.out 1, mZ BK142.out 2, mZ BK142.out 3⟩ (fun hHeld => ?_); refine with_tabW spec_ManOk.tab7 spec_ManOk.bits7 (fun HT_ HW_ => ?_)
           generalize w28.drew = w29 at BK138 BK142 HB hHeld ⊢
           refine take_ (i := 0) (N := some 38) (v := ?_) (a' := ?_) (mb 1 19) rfl rfl (take_ofW HT_.out HW_.out (by kernel_rfl)) (fun _ _ _ h => h) (Or.inl ⟨by rfl, ?_⟩) hHeld ?_ ?_
           rotate_left
           ·rintro w' ⟨s0, s1, s2, s3, s4, s5, s6⟩
            go_simp
            with_reducible rfl
           rotate_left
           ·simp only [Act.put, zA, zB, zC, i64_w, i32_w]
            rfl
           refine take_ (i := 1) (N := some 39) (v := ?_) (a' := ?_) (mb 2 18) rfl rfl (take_ofW HT_.out HW_.out (by kernel_rfl)) (fun _ _ _ h => h) (Or.inl ⟨by rfl, ?_⟩) hHeld ?_ ?_
           rotate_left
           ·rintro w' ⟨s0, s1, s2, s3, s4, s5, s6⟩
            go_simp
            with_reducible rfl
           rotate_left
           ·simp only [Act.put, zA, zB, zC, i64_w, i32_w]
            rfl
           refine one_ (i := 2) (N := some 40) (mb 3 17) rfl rfl (one_of HT_.out (by kernel_rfl)) (by decide) (fun K hK => ?_)
           refine goes_ Try.func93 (by kernel_rfl) rfl #[.agg #[.int .i64 a0_0, .int .i64 a0_1, .slice (some ad141) l0_2.length c0_2], .agg #[.int .i64 ((rd_T46 l0_2 x3_2).f0), .int .i64 ((rd_T46 l0_2 x3_2).f1), .string ((rd_T46 l0_2 x3_2).f2), .string ((rd_T46 l0_2 x3_2).f3)]] (by rfl) rfl rfl mA ?_
           with_reducible refine (spec_l6Meta.calls a0_0 a0_1 _ _ l0_2 ((rd_T46 l0_2 x3_2).f0) ((rd_T46 l0_2 x3_2).f1) ((rd_T46 l0_2 x3_2).f2) ((rd_T46 l0_2 x3_2).f3) true _ ?side1 ?side2 A19.out).mono ?_
           (case side1 => repeat (first | exact (Kd.C_below HR0_2.out HB.out) | (with_reducible refine Kd.C_alloc ?_ _) | (with_reducible refine Kd.C_drewN ?_ _) | (with_reducible refine Kd.C_drew ?_)))
           (case side2 => exact HC0_2.out)
           rintro e w30 ⟨rfl, hb⟩
           refine ⟨_, rfl, ?_⟩
           have n0_ := mB BK138 hb
           have n1_ := mB BK142 hb
           have n2_ := mS (below_step (mH2 HB.out GE138.out GE142.out) hb)
           clear BK138
           clear BK142
           clear HB
           have BK138 := n0_
           have BK142 := n1_
           have HB := n2_
           clear n0_ n1_ n2_
           (try clear hb)
           (try clear hb2)
           (try clear hk)
           (try clear hi)
           refine hK.out _ _ ⟨mZ BK138.out 0, mZ BK138.out 1, mZ BK138.out 2, mZ BK142.out 0, mZ BK142.out 1, mZ BK142.out 2, mZ BK142.out 3⟩ (fun hHeld => ?_)
           clear hK K
           refine norm_ (a' := ?_) ?_ ?_
           rotate_left
           ·show Act.put _ (some 40) _ = _
            simp only [Act.put, zA, zB, zC, i64_w, i32_w]
            rfl
           refine pure_ (i := 3) (N := some 41) (v := ?_) (a' := ?_) (mb 4 16) rfl rfl (any_of HT_.out (by kernel_rfl)) (fun _ _ _ h => h) (Or.inl ⟨by rfl, ?_⟩) ?_ ?_
           rotate_left
           ·intro w'
            go_simp
            with_reducible rfl
           rotate_left
           ·simp only [Act.put, zA, zB, zC, i64_w, i32_w]
            rfl
           refine pure_ (i := 4) (N := some 42) (v := ?_) (a' := ?_) (mb 5 15) rfl rfl (any_of HT_.out (by kernel_rfl)) (fun _ _ _ h => h) (Or.inl ⟨by rfl, ?_⟩) ?_ ?_
           rotate_left
           ·intro w'
            go_simp
            with_reducible rfl
           rotate_left
           ·simp only [Act.put, zA, zB, zC, i64_w, i32_w]
            rfl
           refine pure_ (i := 5) (N := some 43) (v := ?_) (a' := ?_) (mb 6 14) rfl rfl (any_of HT_.out (by kernel_rfl)) (fun _ _ _ h => h) (Or.inl ⟨by rfl, ?_⟩) ?_ ?_
           rotate_left
           ·intro w'
            go_simp
            with_reducible rfl
           rotate_left
           ·simp only [Act.put, zA, zB, zC, i64_w, i32_w]
            rfl
           refine pure_ (i := 6) (N := some 44) (v := ?_) (a' := ?_) (mb 7 13) rfl rfl (any_of HT_.out (by kernel_rfl)) (fun _ _ _ h => h) (Or.inl ⟨by rfl, ?_⟩) ?_ ?_
           rotate_left
           ·intro w'
            go_simp
            with_reducible rfl
           rotate_left
           ·simp only [Act.put, zA, zB, zC, i64_w, i32_w]
            rfl
           refine pure_ (i := 7) (N := some 45) (v := ?_) (a' := ?_) (mb 8 12) rfl rfl (any_of HT_.out (by kernel_rfl)) (fun _ _ _ h => h) (Or.inl ⟨by rfl, ?_⟩) ?_ ?_
           rotate_left
           ·intro w'
            go_simp
            with_reducible rfl
           rotate_left
           ·simp only [Act.put, zA, zB, zC, i64_w, i32_w]
            rfl
           refine pure_ (i := 8) (N := some 46) (v := undef) (a' := ?_) (mb 9 11) rfl rfl (any_of HT_.out (by kernel_rfl)) (fun _ _ _ h => h) (Or.inr ⟨by rfl, rfl⟩) ?_ ?_
           rotate_left
           ·simp only [Act.put, zA, zB, zC, i64_w, i32_w]
            rfl
           refine pure_ (i := 9) (N := some 47) (v := undef) (a' := ?_) (mb 10 10) rfl rfl (any_of HT_.out (by kernel_rfl)) (fun _ _ _ h => h) (Or.inr ⟨by rfl, rfl⟩) ?_ ?_
           rotate_left
           ·simp only [Act.put, zA, zB, zC, i64_w, i32_w]
            rfl
           refine pure_ (i := 10) (N := some 48) (v := undef) (a' := ?_) (mb 11 9) rfl rfl (any_of HT_.out (by kernel_rfl)) (fun _ _ _ h => h) (Or.inr ⟨by rfl, rfl⟩) ?_ ?_
           rotate_left
           ·simp only [Act.put, zA, zB, zC, i64_w, i32_w]
            rfl
           refine pure_ (i := 11) (N := some 49) (v := undef) (a' := ?_) (mb 12 8) rfl rfl (any_of HT_.out (by kernel_rfl)) (fun _ _ _ h => h) (Or.inr ⟨by rfl, rfl⟩) ?_ ?_
           rotate_left
           ·simp only [Act.put, zA, zB, zC, i64_w, i32_w]
            rfl
           refine pure_ (i := 12) (N := some 50) (v := undef) (a' := ?_) (mb 13 7) rfl rfl (any_of HT_.out (by kernel_rfl)) (fun _ _ _ h => h) (Or.inr ⟨by rfl, rfl⟩) ?_ ?_
           rotate_left
           ·simp only [Act.put, zA, zB, zC, i64_w, i32_w]
            rfl
           refine pure_ (i := 13) (N := some 51) (v := undef) (a' := ?_) (mb 14 6) rfl rfl (any_of HT_.out (by kernel_rfl)) (fun _ _ _ h => h) (Or.inr ⟨by rfl, rfl⟩) ?_ ?_
           rotate_left
           ·simp only [Act.put, zA, zB, zC, i64_w, i32_w]
            rfl
           refine pure_ (i := 14) (N := some 52) (v := undef) (a' := ?_) (mb 15 5) rfl rfl (any_of HT_.out (by kernel_rfl)) (fun _ _ _ h => h) (Or.inr ⟨by rfl, rfl⟩) ?_ ?_
           rotate_left
           ·simp only [Act.put, zA, zB, zC, i64_w, i32_w]
            rfl
           refine pure_ (i := 15) (N := some 53) (v := undef) (a' := ?_) (mb 16 4) rfl rfl (any_of HT_.out (by kernel_rfl)) (fun _ _ _ h => h) (Or.inr ⟨by rfl, rfl⟩) ?_ ?_
           rotate_left
           ·simp only [Act.put, zA, zB, zC, i64_w, i32_w]
            rfl
           refine pure_ (i := 16) (N := some 54) (v := undef) (a' := ?_) (mb 17 3) rfl rfl (any_of HT_.out (by kernel_rfl)) (fun _ _ _ h => h) (Or.inr ⟨by rfl, rfl⟩) ?_ ?_
           rotate_left
           ·simp only [Act.put, zA, zB, zC, i64_w, i32_w]
            rfl
           refine pure_ (i := 17) (N := some 55) (v := undef) (a' := ?_) (mb 18 2) rfl rfl (any_of HT_.out (by kernel_rfl)) (fun _ _ _ h => h) (Or.inr ⟨by rfl, rfl⟩) ?_ ?_
           rotate_left
           ·simp only [Act.put, zA, zB, zC, i64_w, i32_w]
            rfl
           refine pure_ (i := 18) (N := some 56) (v := ?_) (a' := ?_) (mb 19 1) rfl rfl (any_of HT_.out (by kernel_rfl)) (fun _ _ _ h => h) (Or.inl ⟨by rfl, ?_⟩) ?_ ?_
           rotate_left
           ·intro w'
            go_simp
            with_reducible rfl
           rotate_left
           ·simp only [Act.put, zA, zB, zC, i64_w, i32_w]
            rfl
           refine pure_ (i := 19) (N := some 57) (v := ?_) (a' := ?_) (mb 20 0) rfl rfl (any_of HT_.out (by kernel_rfl)) (fun _ _ _ h => h) (Or.inl ⟨by rfl, ?_⟩) ?_ ?_
           rotate_left
           ·intro w'
            go_simp
            with_reducible rfl
           rotate_left
           ·simp only [Act.put, zA, zB, zC, i64_w, i32_w]
            rfl
           refine done_ (done_of HT_.out (by kernel_rfl)) ?_
           try go_wp2
           go_meet
           case rel => exact ⟨_, (false), (by first | rfl | (simp; done) | (simp [*]; done)), H', ⟨by have := HJ1.out; have := HK2.out; first | omega | exact Nat.le_refl _⟩, ⟨by (with_reducible repeat (first | refine blk_drewN ?_ _ | refine blk_drew ?_ | refine blk_alloc ?_ _)); exact BK138.out⟩, ⟨by (with_reducible repeat (first | refine blk_drewN ?_ _ | refine blk_drew ?_ | refine blk_alloc ?_ _)); exact BK142.out⟩, ⟨(mH2 HB.out GE138.out GE142.out)⟩⟩
         ·replace c20 := Bool.eq_false_iff.mpr c20
          subst c20
          have H1 : (spec_ManOk.j2 k2 x3_2 true a0_0 a0_1 l0_2 ((rd_T46 l0_2 x3_2).f0) ((rd_T46 l0_2 x3_2).f1) ((rd_T46 l0_2 x3_2).f2) ((rd_T46 l0_2 x3_2).f3)) = some r := by rw [if_neg (show ¬ (false = true) by decide)] at H; exact H
          clear H
          have H := H1
          clear H1
          have H' := mS H
          clear H
          try go_wp2
          have n0_ : Aside0 (((((w16.setCell ⟨gb142, 0, none⟩ (.int .i64 ((rd_T46 l0_2 x3_2).f0))).setCell ⟨gb142, 1, none⟩ (.int .i64 ((rd_T46 l0_2 x3_2).f1))).setCell ⟨gb142, 2, none⟩ (.string ((rd_T46 l0_2 x3_2).f2))).setCell ⟨gb142, 3, none⟩ (.string ((rd_T46 l0_2 x3_2).f3))).heap[gb138]? = some (.cells #[.int .i64 a0_0, .int .i64 a0_1, .slice (some ad141) l0_2.length c0_2] 40 (0, 0))) := ⟨by (with_reducible repeat (first | refine blk_drewN ?_ _ | refine blk_drew ?_ | refine blk_alloc ?_ _)); refine blk_far ?_ NB138_142.out _; (with_reducible repeat (first | refine blk_drewN ?_ _ | refine blk_drew ?_ | refine blk_alloc ?_ _)); refine blk_far ?_ NB138_142.out _; (with_reducible repeat (first | refine blk_drewN ?_ _ | refine blk_drew ?_ | refine blk_alloc ?_ _)); refine blk_far ?_ NB138_142.out _; (with_reducible repeat (first | refine blk_drewN ?_ _ | refine blk_drew ?_ | refine blk_alloc ?_ _)); refine blk_far ?_ NB138_142.out _; (with_reducible repeat (first | refine blk_drewN ?_ _ | refine blk_drew ?_ | refine blk_alloc ?_ _)); exact BK138.out⟩
          have n1_ : Aside0 (((((w16.setCell ⟨gb142, 0, none⟩ (.int .i64 ((rd_T46 l0_2 x3_2).f0))).setCell ⟨gb142, 1, none⟩ (.int .i64 ((rd_T46 l0_2 x3_2).f1))).setCell ⟨gb142, 2, none⟩ (.string ((rd_T46 l0_2 x3_2).f2))).setCell ⟨gb142, 3, none⟩ (.string ((rd_T46 l0_2 x3_2).f3))).heap[gb142]? = some (.cells #[.int .i64 ((rd_T46 l0_2 x3_2).f0), .int .i64 ((rd_T46 l0_2 x3_2).f1), .string ((rd_T46 l0_2 x3_2).f2), .string ((rd_T46 l0_2 x3_2).f3)] 46 (0, 0))) := ⟨by (with_reducible repeat (first | refine blk_drewN ?_ _ | refine blk_drew ?_ | refine blk_alloc ?_ _)); refine blk_put (cs := #[.int .i64 ((rd_T46 l0_2 x3_2).f0), .int .i64 ((rd_T46 l0_2 x3_2).f1), .string ((rd_T46 l0_2 x3_2).f2), .string (⟨#[]⟩ : ByteArray)]) ?_ 3 _ rfl; (with_reducible repeat (first | refine blk_drewN ?_ _ | refine blk_drew ?_ | refine blk_alloc ?_ _)); refine blk_put (cs := #[.int .i64 ((rd_T46 l0_2 x3_2).f0), .int .i64 ((rd_T46 l0_2 x3_2).f1), .string (⟨#[]⟩ : ByteArray), .string (⟨#[]⟩ : ByteArray)]) ?_ 2 _ rfl; (with_reducible repeat (first | refine blk_drewN ?_ _ | refine blk_drew ?_ | refine blk_alloc ?_ _)); refine blk_put (cs := #[.int .i64 ((rd_T46 l0_2 x3_2).f0), .int .i64 0, .string (⟨#[]⟩ : ByteArray), .string (⟨#[]⟩ : ByteArray)]) ?_ 1 _ rfl; (with_reducible repeat (first | refine blk_drewN ?_ _ | refine blk_drew ?_ | refine blk_alloc ?_ _)); refine blk_put (cs := #[.int .i64 0, .int .i64 0, .string (⟨#[]⟩ : ByteArray), .string (⟨#[]⟩ : ByteArray)]) ?_ 0 _ rfl; (with_reducible repeat (first | refine blk_drewN ?_ _ | refine blk_drew ?_ | refine blk_alloc ?_ _)); exact BK142.out⟩
          have n2_ : Aside0 (Below w.heap.size w ((((w16.setCell ⟨gb142, 0, none⟩ (.int .i64 ((rd_T46 l0_2 x3_2).f0))).setCell ⟨gb142, 1, none⟩ (.int .i64 ((rd_T46 l0_2 x3_2).f1))).setCell ⟨gb142, 2, none⟩ (.string ((rd_T46 l0_2 x3_2).f2))).setCell ⟨gb142, 3, none⟩ (.string ((rd_T46 l0_2 x3_2).f3)))) := ⟨(mH2 HB.out GE138.out GE142.out)⟩
          (try clear BK138)
          (try clear BK142)
          (try clear HB)
          generalize ((((w16.setCell ⟨gb142, 0, none⟩ (.int .i64 ((rd_T46 l0_2 x3_2).f0))).setCell ⟨gb142, 1, none⟩ (.int .i64 ((rd_T46 l0_2 x3_2).f1))).setCell ⟨gb142, 2, none⟩ (.string ((rd_T46 l0_2 x3_2).f2))).setCell ⟨gb142, 3, none⟩ (.string ((rd_T46 l0_2 x3_2).f3))) = w31 at n0_ n1_ n2_ ⊢
          have BK138 := n0_
          have BK142 := n1_
          have HB := n2_
          clear n0_ n1_ n2_
          have n0_ := mS (blk_drew BK138.out)
          have n1_ := mS (blk_drew BK142.out)
          have n2_ := mS (below_drew1 HB.out)
          clear BK138
          clear BK142
          clear HB
          have BK138 := n0_
          have BK142 := n1_
          have HB := n2_
          clear n0_ n1_ n2_
          refine start_ (n := 20) (S := fun w' => w'.cell? ⟨gb138, 0, none⟩ = some (.int .i64 a0_0) ∧ w'.cell? ⟨gb138, 1, none⟩ = some (.int .i64 a0_1) ∧ w'.cell? ⟨gb138, 2, none⟩ = some (.slice (some ad141) l0_2.length c0_2) ∧ w'.cell? ⟨gb142, 0, none⟩ = some (.int .i64 ((rd_T46 l0_2 x3_2).f0)) ∧ w'.cell? ⟨gb142, 1, none⟩ = some (.int .i64 ((rd_T46 l0_2 x3_2).f1)) ∧ w'.cell? ⟨gb142, 2, none⟩ = some (.string ((rd_T46 l0_2 x3_2).f2)) ∧ w'.cell? ⟨gb142, 3, none⟩ = some (.string ((rd_T46 l0_2 x3_2).f3))) (ds := []) (mb 0 20) (by kernel_rfl) rfl rfl ⟨mZ BK138.out 0, mZ BK138.out 1, mZ BK138.out 2, mZ BK142.out 0, mZ BK142.out 1, mZ BK142.out 2, mZ BK142.out 3⟩ (fun hHeld => ?_); refine with_tabW spec_ManOk.tab7 spec_ManOk.bits7 (fun HT_ HW_ => ?_)
          generalize w31.drew = w32 at BK138 BK142 HB hHeld ⊢
          refine take_ (i := 0) (N := some 38) (v := ?_) (a' := ?_) (mb 1 19) rfl rfl (take_ofW HT_.out HW_.out (by kernel_rfl)) (fun _ _ _ h => h) (Or.inl ⟨by rfl, ?_⟩) hHeld ?_ ?_
          rotate_left
          ·rintro w' ⟨s0, s1, s2, s3, s4, s5, s6⟩
           go_simp
           with_reducible rfl
          rotate_left
          ·simp only [Act.put, zA, zB, zC, i64_w, i32_w]
           rfl
          refine take_ (i := 1) (N := some 39) (v := ?_) (a' := ?_) (mb 2 18) rfl rfl (take_ofW HT_.out HW_.out (by kernel_rfl)) (fun _ _ _ h => h) (Or.inl ⟨by rfl, ?_⟩) hHeld ?_ ?_
          rotate_left
          ·rintro w' ⟨s0, s1, s2, s3, s4, s5, s6⟩
           go_simp
           with_reducible rfl
          rotate_left
          ·simp only [Act.put, zA, zB, zC, i64_w, i32_w]
           rfl
          refine one_ (i := 2) (N := some 40) (mb 3 17) rfl rfl (one_of HT_.out (by kernel_rfl)) (by decide) (fun K hK => ?_)
          refine goes_ Try.func93 (by kernel_rfl) rfl #[.agg #[.int .i64 a0_0, .int .i64 a0_1, .slice (some ad141) l0_2.length c0_2], .agg #[.int .i64 ((rd_T46 l0_2 x3_2).f0), .int .i64 ((rd_T46 l0_2 x3_2).f1), .string ((rd_T46 l0_2 x3_2).f2), .string ((rd_T46 l0_2 x3_2).f3)]] (by rfl) rfl rfl mA ?_
          with_reducible refine (spec_l6Meta.calls a0_0 a0_1 _ _ l0_2 ((rd_T46 l0_2 x3_2).f0) ((rd_T46 l0_2 x3_2).f1) ((rd_T46 l0_2 x3_2).f2) ((rd_T46 l0_2 x3_2).f3) false _ ?side1 ?side2 A19.out).mono ?_
          (case side1 => repeat (first | exact (Kd.C_below HR0_2.out HB.out) | (with_reducible refine Kd.C_alloc ?_ _) | (with_reducible refine Kd.C_drewN ?_ _) | (with_reducible refine Kd.C_drew ?_)))
          (case side2 => exact HC0_2.out)
          rintro e w33 ⟨rfl, hb⟩
          refine ⟨_, rfl, ?_⟩
          have n0_ := mB BK138 hb
          have n1_ := mB BK142 hb
          have n2_ := mS (below_step (mH2 HB.out GE138.out GE142.out) hb)
          clear BK138
          clear BK142
          clear HB
          have BK138 := n0_
          have BK142 := n1_
          have HB := n2_
          clear n0_ n1_ n2_
          (try clear hb)
          (try clear hb2)
          (try clear hk)
          (try clear hi)
          refine hK.out _ _ ⟨mZ BK138.out 0, mZ BK138.out 1, mZ BK138.out 2, mZ BK142.out 0, mZ BK142.out 1, mZ BK142.out 2, mZ BK142.out 3⟩ (fun hHeld => ?_)
          clear hK K
          refine norm_ (a' := ?_) ?_ ?_
          rotate_left
          ·show Act.put _ (some 40) _ = _
           simp only [Act.put, zA, zB, zC, i64_w, i32_w]
           rfl
          refine pure_ (i := 3) (N := some 41) (v := ?_) (a' := ?_) (mb 4 16) rfl rfl (any_of HT_.out (by kernel_rfl)) (fun _ _ _ h => h) (Or.inl ⟨by rfl, ?_⟩) ?_ ?_
          rotate_left
          ·intro w'
           go_simp
           with_reducible rfl
          rotate_left
          ·simp only [Act.put, zA, zB, zC, i64_w, i32_w]
           rfl
          refine pure_ (i := 4) (N := some 42) (v := ?_) (a' := ?_) (mb 5 15) rfl rfl (any_of HT_.out (by kernel_rfl)) (fun _ _ _ h => h) (Or.inl ⟨by rfl, ?_⟩) ?_ ?_
          rotate_left
          ·intro w'
           go_simp
           with_reducible rfl
          rotate_left
          ·simp only [Act.put, zA, zB, zC, i64_w, i32_w]
           rfl
          refine pure_ (i := 5) (N := some 43) (v := undef) (a' := ?_) (mb 6 14) rfl rfl (any_of HT_.out (by kernel_rfl)) (fun _ _ _ h => h) (Or.inr ⟨by rfl, rfl⟩) ?_ ?_
          rotate_left
          ·simp only [Act.put, zA, zB, zC, i64_w, i32_w]
           rfl
          refine pure_ (i := 6) (N := some 44) (v := undef) (a' := ?_) (mb 7 13) rfl rfl (any_of HT_.out (by kernel_rfl)) (fun _ _ _ h => h) (Or.inr ⟨by rfl, rfl⟩) ?_ ?_
          rotate_left
          ·simp only [Act.put, zA, zB, zC, i64_w, i32_w]
           rfl
          refine pure_ (i := 7) (N := some 45) (v := undef) (a' := ?_) (mb 8 12) rfl rfl (any_of HT_.out (by kernel_rfl)) (fun _ _ _ h => h) (Or.inr ⟨by rfl, rfl⟩) ?_ ?_
          rotate_left
          ·simp only [Act.put, zA, zB, zC, i64_w, i32_w]
           rfl
          refine pure_ (i := 8) (N := some 46) (v := undef) (a' := ?_) (mb 9 11) rfl rfl (any_of HT_.out (by kernel_rfl)) (fun _ _ _ h => h) (Or.inr ⟨by rfl, rfl⟩) ?_ ?_
          rotate_left
          ·simp only [Act.put, zA, zB, zC, i64_w, i32_w]
           rfl
          refine pure_ (i := 9) (N := some 47) (v := undef) (a' := ?_) (mb 10 10) rfl rfl (any_of HT_.out (by kernel_rfl)) (fun _ _ _ h => h) (Or.inr ⟨by rfl, rfl⟩) ?_ ?_
          rotate_left
          ·simp only [Act.put, zA, zB, zC, i64_w, i32_w]
           rfl
          refine pure_ (i := 10) (N := some 48) (v := undef) (a' := ?_) (mb 11 9) rfl rfl (any_of HT_.out (by kernel_rfl)) (fun _ _ _ h => h) (Or.inr ⟨by rfl, rfl⟩) ?_ ?_
          rotate_left
          ·simp only [Act.put, zA, zB, zC, i64_w, i32_w]
           rfl
          refine pure_ (i := 11) (N := some 49) (v := undef) (a' := ?_) (mb 12 8) rfl rfl (any_of HT_.out (by kernel_rfl)) (fun _ _ _ h => h) (Or.inr ⟨by rfl, rfl⟩) ?_ ?_
          rotate_left
          ·simp only [Act.put, zA, zB, zC, i64_w, i32_w]
           rfl
          refine pure_ (i := 12) (N := some 50) (v := undef) (a' := ?_) (mb 13 7) rfl rfl (any_of HT_.out (by kernel_rfl)) (fun _ _ _ h => h) (Or.inr ⟨by rfl, rfl⟩) ?_ ?_
          rotate_left
          ·simp only [Act.put, zA, zB, zC, i64_w, i32_w]
           rfl
          refine pure_ (i := 13) (N := some 51) (v := undef) (a' := ?_) (mb 14 6) rfl rfl (any_of HT_.out (by kernel_rfl)) (fun _ _ _ h => h) (Or.inr ⟨by rfl, rfl⟩) ?_ ?_
          rotate_left
          ·simp only [Act.put, zA, zB, zC, i64_w, i32_w]
           rfl
          refine pure_ (i := 14) (N := some 52) (v := undef) (a' := ?_) (mb 15 5) rfl rfl (any_of HT_.out (by kernel_rfl)) (fun _ _ _ h => h) (Or.inr ⟨by rfl, rfl⟩) ?_ ?_
          rotate_left
          ·simp only [Act.put, zA, zB, zC, i64_w, i32_w]
           rfl
          refine pure_ (i := 15) (N := some 53) (v := undef) (a' := ?_) (mb 16 4) rfl rfl (any_of HT_.out (by kernel_rfl)) (fun _ _ _ h => h) (Or.inr ⟨by rfl, rfl⟩) ?_ ?_
          rotate_left
          ·simp only [Act.put, zA, zB, zC, i64_w, i32_w]
           rfl
          refine pure_ (i := 16) (N := some 54) (v := undef) (a' := ?_) (mb 17 3) rfl rfl (any_of HT_.out (by kernel_rfl)) (fun _ _ _ h => h) (Or.inr ⟨by rfl, rfl⟩) ?_ ?_
          rotate_left
          ·simp only [Act.put, zA, zB, zC, i64_w, i32_w]
           rfl
          refine pure_ (i := 17) (N := some 55) (v := undef) (a' := ?_) (mb 18 2) rfl rfl (any_of HT_.out (by kernel_rfl)) (fun _ _ _ h => h) (Or.inr ⟨by rfl, rfl⟩) ?_ ?_
          rotate_left
          ·simp only [Act.put, zA, zB, zC, i64_w, i32_w]
           rfl
          refine pure_ (i := 18) (N := some 56) (v := undef) (a' := ?_) (mb 19 1) rfl rfl (any_of HT_.out (by kernel_rfl)) (fun _ _ _ h => h) (Or.inr ⟨by rfl, rfl⟩) ?_ ?_
          rotate_left
          ·simp only [Act.put, zA, zB, zC, i64_w, i32_w]
           rfl
          refine pure_ (i := 19) (N := some 57) (v := ?_) (a' := ?_) (mb 20 0) rfl rfl (any_of HT_.out (by kernel_rfl)) (fun _ _ _ h => h) (Or.inl ⟨by rfl, ?_⟩) ?_ ?_
          rotate_left
          ·intro w'
           go_simp
           with_reducible rfl
          rotate_left
          ·simp only [Act.put, zA, zB, zC, i64_w, i32_w]
           rfl
          refine done_ (done_of HT_.out (by kernel_rfl)) ?_
          try go_wp2
          go_meet
          case rel => exact ⟨_, (true), (by first | rfl | (simp; done) | (simp [*]; done)), H', ⟨by have := HJ1.out; have := HK2.out; first | omega | exact Nat.le_refl _⟩, ⟨by (with_reducible repeat (first | refine blk_drewN ?_ _ | refine blk_drew ?_ | refine blk_alloc ?_ _)); exact BK138.out⟩, ⟨by (with_reducible repeat (first | refine blk_drewN ?_ _ | refine blk_drew ?_ | refine blk_alloc ?_ _)); exact BK142.out⟩, ⟨(mH2 HB.out GE138.out GE142.out)⟩⟩
        case rest =>
         clear HC14
         try clear c1
         try clear p1
         try clear q1
         try clear hx1
         try clear c2
         try clear p2
         try clear p6
         try clear c9
         try clear p14
         try clear q14
         try clear hx14
         try clear c17
         try clear c20
         try clear c21
         try clear c21b0
         try clear c23
         try clear c23b0
         try clear c24
         try clear c24b0
         try clear hcz18_0
         try clear hcz18_1
         try clear hcz18_2
         try clear hcz18_3
         try clear hfz18_0
         try clear hfz18_1
         try clear hfz18_2
         try clear hfz18_3
         try clear hx144_0
         try clear hx144_1
         try clear hx144_2
         try clear hx144_3
         try clear p141
         try clear p144
         try clear q141
         try clear q144
         obtain ⟨kq, x57_13, rfl, HA, HJ13, BK138, BK142, HB⟩ := hcut
         cases kq with
         | zero => exact absurd HA.out (by simp [spec_ManOk.j2])
         | succ kj13 =>
          have H := HA.out
          clear HA
          simp only [spec_ManOk.j2] at H
          by_cases c34 : x57_13 = true
          ·subst c34
           have H1 : (some false) = some r := by rw [if_pos rfl] at H; exact H
           clear H
           have H := H1
           clear H1
           obtain rfl := Option.some.inj H
           go_wp2
           go_ret
           exact ⟨by first | rfl | (simp [errW_none, errW_some] <;> rfl) | (simp [*, errW_none, errW_some] <;> rfl), (mH2 HB.out GE138.out GE142.out)⟩
          ·replace c34 := Bool.eq_false_iff.mpr c34
           subst c34
           have H1 : (spec_ManOk.l1 kj13 x3_2 0 a0_0 a0_1 l0_2 ((rd_T46 l0_2 x3_2).f0) ((rd_T46 l0_2 x3_2).f1) ((rd_T46 l0_2 x3_2).f2) ((rd_T46 l0_2 x3_2).f3)) = some r := by rw [if_neg (show ¬ (false = true) by decide)] at H; exact H
           clear H
           have H := H1
           clear H1
           have H' := mS H
           clear H
           go_wp2
           go_loopg [5] kj13 (fun kq v5 w' => ∃ (x5_4 : Int), v5 = .int .i64 x5_4 ∧ Aside0 (spec_ManOk.l1 kq x3_2 x5_4 a0_0 a0_1 l0_2 ((rd_T46 l0_2 x3_2).f0) ((rd_T46 l0_2 x3_2).f1) ((rd_T46 l0_2 x3_2).f2) ((rd_T46 l0_2 x3_2).f3) = some r) ∧ Aside0 (kq ≤ kj13) ∧ Aside0 (w'.heap[gb138]? = some (.cells #[.int .i64 a0_0, .int .i64 a0_1, (.slice (some ad141) l0_2.length c0_2)] 40 (0, 0))) ∧ Aside0 (w'.heap[gb142]? = some (.cells #[.int .i64 ((rd_T46 l0_2 x3_2).f0), .int .i64 ((rd_T46 l0_2 x3_2).f1), .string ((rd_T46 l0_2 x3_2).f2), .string ((rd_T46 l0_2 x3_2).f3)] 46 (0, 0))) ∧ Aside0 (Below w.heap.size w w'))
           case atStart => exact ⟨(0), (by first | rfl | (simp; done) | (simp [*]; done)), H', ⟨Nat.le_refl _⟩, ⟨by (with_reducible repeat (first | refine blk_drewN ?_ _ | refine blk_drew ?_ | refine blk_alloc ?_ _)); exact BK138.out⟩, ⟨by (with_reducible repeat (first | refine blk_drewN ?_ _ | refine blk_drew ?_ | refine blk_alloc ?_ _)); exact BK142.out⟩, ⟨(mH2 HB.out GE138.out GE142.out)⟩⟩
           case round =>
            clear H'
            try clear c1
            try clear p1
            try clear q1
            try clear hx1
            try clear c2
            try clear p2
            try clear c3
            try clear p6
            try clear c9
            try clear p14
            try clear q14
            try clear hx14
            try clear c17
            try clear c20
            try clear c21
            try clear c21b0
            try clear c23
            try clear c23b0
            try clear c24
            try clear c24b0
            try clear c34
            try clear hcz18_0
            try clear hcz18_1
            try clear hcz18_2
            try clear hcz18_3
            try clear hfz18_0
            try clear hfz18_1
            try clear hfz18_2
            try clear hfz18_3
            try clear hx144_0
            try clear hx144_1
            try clear hx144_2
            try clear hx144_3
            try clear p1
            try clear p14
            try clear p141
            try clear p144
            try clear p2
            try clear p6
            try clear q1
            try clear q14
            try clear q141
            try clear q144
            obtain ⟨x5_4, rfl, HA, HK4, BK138, BK142, HB⟩ := hrel
            cases gk with
            | zero => exact absurd HA.out (by simp [spec_ManOk.l1])
            | succ k4 =>
             have H := HA.out
             clear HA
             simp only [spec_ManOk.l1] at H
             by_cases c35 : x5_4 < x3_2
             ·rw [if_pos c35] at H
              have c35b0 : decide (x5_4 < x3_2) = true := decide_eq_true c35
              clear c35
              by_cases c36 : 0 ≤ x5_4
              ·rw [if_pos c36] at H
               have c36b0 : decide (0 ≤ x5_4) = true := decide_eq_true c36
               clear c36
               by_cases c37 : x5_4 < (l0_2.length : Int)
               ·rw [if_pos c37] at H
                have c37b0 : decide (x5_4 < (l0_2.length : Int)) = true := decide_eq_true c37
                clear c37
                by_cases c38 : ((rd_T46 l0_2 x3_2).f1) > 0
                ·rw [if_pos c38] at H
                 have c38b0 : decide (0 < ((rd_T46 l0_2 x3_2).f1)) = true := decide_eq_true c38
                 clear c38
                 by_cases c39 : ((rd_T46 l0_2 x5_4).f1) = ((rd_T46 l0_2 x3_2).f1)
                 ·rw [if_pos c39] at H
                  have c39b0 : (((rd_T46 l0_2 x5_4).f1) == ((rd_T46 l0_2 x3_2).f1)) = true := beq_iff_eq.mpr c39
                  have c39b1 : (((rd_T46 l0_2 x5_4).f1) != ((rd_T46 l0_2 x3_2).f1)) = false := bne_eq_false_iff_eq.mpr c39
                  clear c39
                  by_cases c40 : ((Op.bytesLess ((rd_T46 l0_2 x3_2).f3).toList (((rd_T46 l0_2 x5_4).f2).toList)) = true)
                  ·rw [if_pos c40] at H
                   have c40b0 : (Op.bytesLess ((rd_T46 l0_2 x3_2).f3).toList (((rd_T46 l0_2 x5_4).f2).toList)) = true := c40
                   clear c40
                   have H' := mS H
                   clear H
                   have hnb41 := NB138_142.out
                   have hnc41 := NB142_138.out
                   have hcz42_0 := mZ BK138.out 0
                   have hcz42_1 := mZ BK138.out 1
                   have hcz42_2 := mZ BK138.out 2
                   have hfz42_0 := blk_frozen BK138.out 0
                   have hfz42_1 := blk_frozen BK138.out 1
                   have hfz42_2 := blk_frozen BK138.out 2
                   have p145 : 0 ≤ (x5_4 : Int) := of_decide_eq_true (by first | (with_reducible assumption) | assumption)
                   have q145 : x5_4 < (l0_2.length : Int) := of_decide_eq_true (by first | (with_reducible assumption) | assumption)
                   obtain ⟨ad145, e145, hx145_0, hx145_1, hx145_2, hx145_3⟩ := at_T46 HR0_2.out x5_4 p145 q145
                   obtain rfl : ad141 = ad145 := (by injection e145)
                   replace hx145_0 := mX HB.out hx145_0
                   replace hx145_1 := mX HB.out hx145_1
                   replace hx145_2 := mX HB.out hx145_2
                   replace hx145_3 := mX HB.out hx145_3
                   replace p145 := eq_true p145
                   replace q145 := eq_true q145
                   go_wp2_with (first | ((with_reducible refine gate_dst (N := 6) rfl ?_); (try (refine gate_guard (by rfl) ?_; dsimp only)); refine box_event ?hg (N := 6) ?hd (cs := #[.int .i64 0, .int .i64 0, .string (⟨#[]⟩ : ByteArray), .string (⟨#[]⟩ : ByteArray)]) (t := 46) ?hr ?_; (case hd => rfl); (case hg => rfl); (case hr => first | (go_simp; done) | (go_simp; rfl)); intro gb146 hg w43 hbox hb; have BK146 := mS (hbox); have GW146 := mG hg (mH2 HB.out GE138.out GE142.out); have GE146 := mG hg (mH2 HB.out GE138.out GE142.out); replace HB := mS (below_step (mH2 HB.out GE138.out GE142.out) hb); have NB138_146 := mNl hg BK138.out; have NB146_138 := mNg hg BK138.out; replace BK138 := mB BK138 hb; have NB142_146 := mNl hg BK142.out; have NB146_142 := mNg hg BK142.out; replace BK142 := mB BK142 hb; clear hb hbox hg; have hnb44 := NB146_138.out; have hnc44 := NB138_146.out; have hnb45 := NB146_142.out; have hnc45 := NB142_146.out; have hcz46_0 := mZ BK146.out 0; have hcz46_1 := mZ BK146.out 1; have hcz46_2 := mZ BK146.out 2; have hcz46_3 := mZ BK146.out 3; have hfz46_0 := blk_frozen BK146.out 0; have hfz46_1 := blk_frozen BK146.out 1; have hfz46_2 := blk_frozen BK146.out 2; have hfz46_3 := blk_frozen BK146.out 3; have hcz47_0 := mZ BK142.out 0; have hcz47_1 := mZ BK142.out 1; have hcz47_2 := mZ BK142.out 2; have hcz47_3 := mZ BK142.out 3; have hfz47_0 := blk_frozen BK142.out 0; have hfz47_1 := blk_frozen BK142.out 1; have hfz47_2 := blk_frozen BK142.out 2; have hfz47_3 := blk_frozen BK142.out 3))
                   go_roundg k4
                   case measure => have := HJ1.out; have := HK2.out; have := HJ13.out; have := HK4.out; omega
                   case rel => exact ⟨(wrap64 (x5_4 + 1)), (by first | rfl | (simp; done) | (simp [*]; done)), H', ⟨by have := HJ1.out; have := HK2.out; have := HJ13.out; have := HK4.out; omega⟩, ⟨by (with_reducible repeat (first | refine blk_drewN ?_ _ | refine blk_drew ?_ | refine blk_alloc ?_ _)); refine blk_far ?_ NB138_146.out _; (with_reducible repeat (first | refine blk_drewN ?_ _ | refine blk_drew ?_ | refine blk_alloc ?_ _)); refine blk_far ?_ NB138_146.out _; (with_reducible repeat (first | refine blk_drewN ?_ _ | refine blk_drew ?_ | refine blk_alloc ?_ _)); refine blk_far ?_ NB138_146.out _; (with_reducible repeat (first | refine blk_drewN ?_ _ | refine blk_drew ?_ | refine blk_alloc ?_ _)); refine blk_far ?_ NB138_146.out _; (with_reducible repeat (first | refine blk_drewN ?_ _ | refine blk_drew ?_ | refine blk_alloc ?_ _)); exact BK138.out⟩, ⟨by (with_reducible repeat (first | refine blk_drewN ?_ _ | refine blk_drew ?_ | refine blk_alloc ?_ _)); refine blk_far ?_ NB142_146.out _; (with_reducible repeat (first | refine blk_drewN ?_ _ | refine blk_drew ?_ | refine blk_alloc ?_ _)); refine blk_far ?_ NB142_146.out _; (with_reducible repeat (first | refine blk_drewN ?_ _ | refine blk_drew ?_ | refine blk_alloc ?_ _)); refine blk_far ?_ NB142_146.out _; (with_reducible repeat (first | refine blk_drewN ?_ _ | refine blk_drew ?_ | refine blk_alloc ?_ _)); refine blk_far ?_ NB142_146.out _; (with_reducible repeat (first | refine blk_drewN ?_ _ | refine blk_drew ?_ | refine blk_alloc ?_ _)); exact BK142.out⟩, ⟨(mH3 HB.out GE138.out GE142.out GE146.out)⟩⟩
                  ·rw [if_neg c40] at H
                   have c40b0 : (Op.bytesLess ((rd_T46 l0_2 x3_2).f3).toList (((rd_T46 l0_2 x5_4).f2).toList)) = false := by simpa using c40
                   clear c40
                   by_cases c48 : ((Op.bytesLess (((rd_T46 l0_2 x5_4).f3).toList) ((rd_T46 l0_2 x3_2).f2).toList) = true)
                   ·rw [if_pos c48] at H
                    have c48b0 : (Op.bytesLess (((rd_T46 l0_2 x5_4).f3).toList) ((rd_T46 l0_2 x3_2).f2).toList) = true := c48
                    clear c48
                    have H' := mS H
                    clear H
                    have hnb49 := NB138_142.out
                    have hnc49 := NB142_138.out
                    have hcz50_0 := mZ BK138.out 0
                    have hcz50_1 := mZ BK138.out 1
                    have hcz50_2 := mZ BK138.out 2
                    have hfz50_0 := blk_frozen BK138.out 0
                    have hfz50_1 := blk_frozen BK138.out 1
                    have hfz50_2 := blk_frozen BK138.out 2
                    have p145 : 0 ≤ (x5_4 : Int) := of_decide_eq_true (by first | (with_reducible assumption) | assumption)
                    have q145 : x5_4 < (l0_2.length : Int) := of_decide_eq_true (by first | (with_reducible assumption) | assumption)
                    obtain ⟨ad145, e145, hx145_0, hx145_1, hx145_2, hx145_3⟩ := at_T46 HR0_2.out x5_4 p145 q145
                    obtain rfl : ad141 = ad145 := (by injection e145)
                    replace hx145_0 := mX HB.out hx145_0
                    replace hx145_1 := mX HB.out hx145_1
                    replace hx145_2 := mX HB.out hx145_2
                    replace hx145_3 := mX HB.out hx145_3
                    replace p145 := eq_true p145
                    replace q145 := eq_true q145
                    go_wp2_with (first | ((with_reducible refine gate_dst (N := 6) rfl ?_); (try (refine gate_guard (by rfl) ?_; dsimp only)); refine box_event ?hg (N := 6) ?hd (cs := #[.int .i64 0, .int .i64 0, .string (⟨#[]⟩ : ByteArray), .string (⟨#[]⟩ : ByteArray)]) (t := 46) ?hr ?_; (case hd => rfl); (case hg => rfl); (case hr => first | (go_simp; done) | (go_simp; rfl)); intro gb146 hg w51 hbox hb; have BK146 := mS (hbox); have GW146 := mG hg (mH2 HB.out GE138.out GE142.out); have GE146 := mG hg (mH2 HB.out GE138.out GE142.out); replace HB := mS (below_step (mH2 HB.out GE138.out GE142.out) hb); have NB138_146 := mNl hg BK138.out; have NB146_138 := mNg hg BK138.out; replace BK138 := mB BK138 hb; have NB142_146 := mNl hg BK142.out; have NB146_142 := mNg hg BK142.out; replace BK142 := mB BK142 hb; clear hb hbox hg; have hnb52 := NB146_138.out; have hnc52 := NB138_146.out; have hnb53 := NB146_142.out; have hnc53 := NB142_146.out; have hcz54_0 := mZ BK146.out 0; have hcz54_1 := mZ BK146.out 1; have hcz54_2 := mZ BK146.out 2; have hcz54_3 := mZ BK146.out 3; have hfz54_0 := blk_frozen BK146.out 0; have hfz54_1 := blk_frozen BK146.out 1; have hfz54_2 := blk_frozen BK146.out 2; have hfz54_3 := blk_frozen BK146.out 3; have hcz55_0 := mZ BK142.out 0; have hcz55_1 := mZ BK142.out 1; have hcz55_2 := mZ BK142.out 2; have hcz55_3 := mZ BK142.out 3; have hfz55_0 := blk_frozen BK142.out 0; have hfz55_1 := blk_frozen BK142.out 1; have hfz55_2 := blk_frozen BK142.out 2; have hfz55_3 := blk_frozen BK142.out 3))
                    go_roundg k4
                    case measure => have := HJ1.out; have := HK2.out; have := HJ13.out; have := HK4.out; omega
                    case rel => exact ⟨(wrap64 (x5_4 + 1)), (by first | rfl | (simp; done) | (simp [*]; done)), H', ⟨by have := HJ1.out; have := HK2.out; have := HJ13.out; have := HK4.out; omega⟩, ⟨by (with_reducible repeat (first | refine blk_drewN ?_ _ | refine blk_drew ?_ | refine blk_alloc ?_ _)); refine blk_far ?_ NB138_146.out _; (with_reducible repeat (first | refine blk_drewN ?_ _ | refine blk_drew ?_ | refine blk_alloc ?_ _)); refine blk_far ?_ NB138_146.out _; (with_reducible repeat (first | refine blk_drewN ?_ _ | refine blk_drew ?_ | refine blk_alloc ?_ _)); refine blk_far ?_ NB138_146.out _; (with_reducible repeat (first | refine blk_drewN ?_ _ | refine blk_drew ?_ | refine blk_alloc ?_ _)); refine blk_far ?_ NB138_146.out _; (with_reducible repeat (first | refine blk_drewN ?_ _ | refine blk_drew ?_ | refine blk_alloc ?_ _)); exact BK138.out⟩, ⟨by (with_reducible repeat (first | refine blk_drewN ?_ _ | refine blk_drew ?_ | refine blk_alloc ?_ _)); refine blk_far ?_ NB142_146.out _; (with_reducible repeat (first | refine blk_drewN ?_ _ | refine blk_drew ?_ | refine blk_alloc ?_ _)); refine blk_far ?_ NB142_146.out _; (with_reducible repeat (first | refine blk_drewN ?_ _ | refine blk_drew ?_ | refine blk_alloc ?_ _)); refine blk_far ?_ NB142_146.out _; (with_reducible repeat (first | refine blk_drewN ?_ _ | refine blk_drew ?_ | refine blk_alloc ?_ _)); refine blk_far ?_ NB142_146.out _; (with_reducible repeat (first | refine blk_drewN ?_ _ | refine blk_drew ?_ | refine blk_alloc ?_ _)); exact BK142.out⟩, ⟨(mH3 HB.out GE138.out GE142.out GE146.out)⟩⟩
                   ·rw [if_neg c48] at H
                    have c48b0 : (Op.bytesLess (((rd_T46 l0_2 x5_4).f3).toList) ((rd_T46 l0_2 x3_2).f2).toList) = false := by simpa using c48
                    clear c48
                    obtain rfl := Option.some.inj H
                    have hnb56 := NB138_142.out
                    have hnc56 := NB142_138.out
                    have hcz57_0 := mZ BK138.out 0
                    have hcz57_1 := mZ BK138.out 1
                    have hcz57_2 := mZ BK138.out 2
                    have hfz57_0 := blk_frozen BK138.out 0
                    have hfz57_1 := blk_frozen BK138.out 1
                    have hfz57_2 := blk_frozen BK138.out 2
                    have p145 : 0 ≤ (x5_4 : Int) := of_decide_eq_true (by first | (with_reducible assumption) | assumption)
                    have q145 : x5_4 < (l0_2.length : Int) := of_decide_eq_true (by first | (with_reducible assumption) | assumption)
                    obtain ⟨ad145, e145, hx145_0, hx145_1, hx145_2, hx145_3⟩ := at_T46 HR0_2.out x5_4 p145 q145
                    obtain rfl : ad141 = ad145 := (by injection e145)
                    replace hx145_0 := mX HB.out hx145_0
                    replace hx145_1 := mX HB.out hx145_1
                    replace hx145_2 := mX HB.out hx145_2
                    replace hx145_3 := mX HB.out hx145_3
                    replace p145 := eq_true p145
                    replace q145 := eq_true q145
                    go_wp2_with (first | ((with_reducible refine gate_dst (N := 6) rfl ?_); (try (refine gate_guard (by rfl) ?_; dsimp only)); refine box_event ?hg (N := 6) ?hd (cs := #[.int .i64 0, .int .i64 0, .string (⟨#[]⟩ : ByteArray), .string (⟨#[]⟩ : ByteArray)]) (t := 46) ?hr ?_; (case hd => rfl); (case hg => rfl); (case hr => first | (go_simp; done) | (go_simp; rfl)); intro gb146 hg w58 hbox hb; have BK146 := mS (hbox); have GW146 := mG hg (mH2 HB.out GE138.out GE142.out); have GE146 := mG hg (mH2 HB.out GE138.out GE142.out); replace HB := mS (below_step (mH2 HB.out GE138.out GE142.out) hb); have NB138_146 := mNl hg BK138.out; have NB146_138 := mNg hg BK138.out; replace BK138 := mB BK138 hb; have NB142_146 := mNl hg BK142.out; have NB146_142 := mNg hg BK142.out; replace BK142 := mB BK142 hb; clear hb hbox hg; have hnb59 := NB146_138.out; have hnc59 := NB138_146.out; have hnb60 := NB146_142.out; have hnc60 := NB142_146.out; have hcz61_0 := mZ BK146.out 0; have hcz61_1 := mZ BK146.out 1; have hcz61_2 := mZ BK146.out 2; have hcz61_3 := mZ BK146.out 3; have hfz61_0 := blk_frozen BK146.out 0; have hfz61_1 := blk_frozen BK146.out 1; have hfz61_2 := blk_frozen BK146.out 2; have hfz61_3 := blk_frozen BK146.out 3; have hcz62_0 := mZ BK142.out 0; have hcz62_1 := mZ BK142.out 1; have hcz62_2 := mZ BK142.out 2; have hcz62_3 := mZ BK142.out 3; have hfz62_0 := blk_frozen BK142.out 0; have hfz62_1 := blk_frozen BK142.out 1; have hfz62_2 := blk_frozen BK142.out 2; have hfz62_3 := blk_frozen BK142.out 3))
                    go_ret
                    exact ⟨by first | rfl | (simp [errW_none, errW_some] <;> rfl) | (simp [*, errW_none, errW_some] <;> rfl), (mH3 HB.out GE138.out GE142.out GE146.out)⟩
                 ·rw [if_neg c39] at H
                  have c39b0 : (((rd_T46 l0_2 x5_4).f1) == ((rd_T46 l0_2 x3_2).f1)) = false := beq_eq_false_iff_ne.mpr c39
                  have c39b1 : (((rd_T46 l0_2 x5_4).f1) != ((rd_T46 l0_2 x3_2).f1)) = true := bne_iff_ne.mpr c39
                  have H' := mS H
                  clear H
                  have hnb63 := NB138_142.out
                  have hnc63 := NB142_138.out
                  have hcz64_0 := mZ BK138.out 0
                  have hcz64_1 := mZ BK138.out 1
                  have hcz64_2 := mZ BK138.out 2
                  have hfz64_0 := blk_frozen BK138.out 0
                  have hfz64_1 := blk_frozen BK138.out 1
                  have hfz64_2 := blk_frozen BK138.out 2
                  have p145 : 0 ≤ (x5_4 : Int) := of_decide_eq_true (by first | (with_reducible assumption) | assumption)
                  have q145 : x5_4 < (l0_2.length : Int) := of_decide_eq_true (by first | (with_reducible assumption) | assumption)
                  obtain ⟨ad145, e145, hx145_0, hx145_1, hx145_2, hx145_3⟩ := at_T46 HR0_2.out x5_4 p145 q145
                  obtain rfl : ad141 = ad145 := (by injection e145)
                  replace hx145_0 := mX HB.out hx145_0
                  replace hx145_1 := mX HB.out hx145_1
                  replace hx145_2 := mX HB.out hx145_2
                  replace hx145_3 := mX HB.out hx145_3
                  replace p145 := eq_true p145
                  replace q145 := eq_true q145
                  go_wp2_with (first | ((with_reducible refine gate_dst (N := 6) rfl ?_); (try (refine gate_guard (by rfl) ?_; dsimp only)); refine box_event ?hg (N := 6) ?hd (cs := #[.int .i64 0, .int .i64 0, .string (⟨#[]⟩ : ByteArray), .string (⟨#[]⟩ : ByteArray)]) (t := 46) ?hr ?_; (case hd => rfl); (case hg => rfl); (case hr => first | (go_simp; done) | (go_simp; rfl)); intro gb146 hg w65 hbox hb; have BK146 := mS (hbox); have GW146 := mG hg (mH2 HB.out GE138.out GE142.out); have GE146 := mG hg (mH2 HB.out GE138.out GE142.out); replace HB := mS (below_step (mH2 HB.out GE138.out GE142.out) hb); have NB138_146 := mNl hg BK138.out; have NB146_138 := mNg hg BK138.out; replace BK138 := mB BK138 hb; have NB142_146 := mNl hg BK142.out; have NB146_142 := mNg hg BK142.out; replace BK142 := mB BK142 hb; clear hb hbox hg; have hnb66 := NB146_138.out; have hnc66 := NB138_146.out; have hnb67 := NB146_142.out; have hnc67 := NB142_146.out; have hcz68_0 := mZ BK146.out 0; have hcz68_1 := mZ BK146.out 1; have hcz68_2 := mZ BK146.out 2; have hcz68_3 := mZ BK146.out 3; have hfz68_0 := blk_frozen BK146.out 0; have hfz68_1 := blk_frozen BK146.out 1; have hfz68_2 := blk_frozen BK146.out 2; have hfz68_3 := blk_frozen BK146.out 3; have hcz69_0 := mZ BK142.out 0; have hcz69_1 := mZ BK142.out 1; have hcz69_2 := mZ BK142.out 2; have hcz69_3 := mZ BK142.out 3; have hfz69_0 := blk_frozen BK142.out 0; have hfz69_1 := blk_frozen BK142.out 1; have hfz69_2 := blk_frozen BK142.out 2; have hfz69_3 := blk_frozen BK142.out 3))
                  go_roundg k4
                  case measure => have := HJ1.out; have := HK2.out; have := HJ13.out; have := HK4.out; omega
                  case rel => exact ⟨(wrap64 (x5_4 + 1)), (by first | rfl | (simp; done) | (simp [*]; done)), H', ⟨by have := HJ1.out; have := HK2.out; have := HJ13.out; have := HK4.out; omega⟩, ⟨by (with_reducible repeat (first | refine blk_drewN ?_ _ | refine blk_drew ?_ | refine blk_alloc ?_ _)); refine blk_far ?_ NB138_146.out _; (with_reducible repeat (first | refine blk_drewN ?_ _ | refine blk_drew ?_ | refine blk_alloc ?_ _)); refine blk_far ?_ NB138_146.out _; (with_reducible repeat (first | refine blk_drewN ?_ _ | refine blk_drew ?_ | refine blk_alloc ?_ _)); refine blk_far ?_ NB138_146.out _; (with_reducible repeat (first | refine blk_drewN ?_ _ | refine blk_drew ?_ | refine blk_alloc ?_ _)); refine blk_far ?_ NB138_146.out _; (with_reducible repeat (first | refine blk_drewN ?_ _ | refine blk_drew ?_ | refine blk_alloc ?_ _)); exact BK138.out⟩, ⟨by (with_reducible repeat (first | refine blk_drewN ?_ _ | refine blk_drew ?_ | refine blk_alloc ?_ _)); refine blk_far ?_ NB142_146.out _; (with_reducible repeat (first | refine blk_drewN ?_ _ | refine blk_drew ?_ | refine blk_alloc ?_ _)); refine blk_far ?_ NB142_146.out _; (with_reducible repeat (first | refine blk_drewN ?_ _ | refine blk_drew ?_ | refine blk_alloc ?_ _)); refine blk_far ?_ NB142_146.out _; (with_reducible repeat (first | refine blk_drewN ?_ _ | refine blk_drew ?_ | refine blk_alloc ?_ _)); refine blk_far ?_ NB142_146.out _; (with_reducible repeat (first | refine blk_drewN ?_ _ | refine blk_drew ?_ | refine blk_alloc ?_ _)); exact BK142.out⟩, ⟨(mH3 HB.out GE138.out GE142.out GE146.out)⟩⟩
                ·rw [if_neg c38] at H
                 have c38b0 : decide (0 < ((rd_T46 l0_2 x3_2).f1)) = false := decide_eq_false c38
                 clear c38
                 have H' := mS H
                 clear H
                 have hnb70 := NB138_142.out
                 have hnc70 := NB142_138.out
                 have hcz71_0 := mZ BK138.out 0
                 have hcz71_1 := mZ BK138.out 1
                 have hcz71_2 := mZ BK138.out 2
                 have hfz71_0 := blk_frozen BK138.out 0
                 have hfz71_1 := blk_frozen BK138.out 1
                 have hfz71_2 := blk_frozen BK138.out 2
                 have p145 : 0 ≤ (x5_4 : Int) := of_decide_eq_true (by first | (with_reducible assumption) | assumption)
                 have q145 : x5_4 < (l0_2.length : Int) := of_decide_eq_true (by first | (with_reducible assumption) | assumption)
                 obtain ⟨ad145, e145, hx145_0, hx145_1, hx145_2, hx145_3⟩ := at_T46 HR0_2.out x5_4 p145 q145
                 obtain rfl : ad141 = ad145 := (by injection e145)
                 replace hx145_0 := mX HB.out hx145_0
                 replace hx145_1 := mX HB.out hx145_1
                 replace hx145_2 := mX HB.out hx145_2
                 replace hx145_3 := mX HB.out hx145_3
                 replace p145 := eq_true p145
                 replace q145 := eq_true q145
                 go_wp2_with (first | ((with_reducible refine gate_dst (N := 6) rfl ?_); (try (refine gate_guard (by rfl) ?_; dsimp only)); refine box_event ?hg (N := 6) ?hd (cs := #[.int .i64 0, .int .i64 0, .string (⟨#[]⟩ : ByteArray), .string (⟨#[]⟩ : ByteArray)]) (t := 46) ?hr ?_; (case hd => rfl); (case hg => rfl); (case hr => first | (go_simp; done) | (go_simp; rfl)); intro gb146 hg w72 hbox hb; have BK146 := mS (hbox); have GW146 := mG hg (mH2 HB.out GE138.out GE142.out); have GE146 := mG hg (mH2 HB.out GE138.out GE142.out); replace HB := mS (below_step (mH2 HB.out GE138.out GE142.out) hb); have NB138_146 := mNl hg BK138.out; have NB146_138 := mNg hg BK138.out; replace BK138 := mB BK138 hb; have NB142_146 := mNl hg BK142.out; have NB146_142 := mNg hg BK142.out; replace BK142 := mB BK142 hb; clear hb hbox hg; have hnb73 := NB146_138.out; have hnc73 := NB138_146.out; have hnb74 := NB146_142.out; have hnc74 := NB142_146.out; have hcz75_0 := mZ BK146.out 0; have hcz75_1 := mZ BK146.out 1; have hcz75_2 := mZ BK146.out 2; have hcz75_3 := mZ BK146.out 3; have hfz75_0 := blk_frozen BK146.out 0; have hfz75_1 := blk_frozen BK146.out 1; have hfz75_2 := blk_frozen BK146.out 2; have hfz75_3 := blk_frozen BK146.out 3; have hcz76_0 := mZ BK142.out 0; have hcz76_1 := mZ BK142.out 1; have hcz76_2 := mZ BK142.out 2; have hcz76_3 := mZ BK142.out 3; have hfz76_0 := blk_frozen BK142.out 0; have hfz76_1 := blk_frozen BK142.out 1; have hfz76_2 := blk_frozen BK142.out 2; have hfz76_3 := blk_frozen BK142.out 3))
                 go_roundg k4
                 case measure => have := HJ1.out; have := HK2.out; have := HJ13.out; have := HK4.out; omega
                 case rel => exact ⟨(wrap64 (x5_4 + 1)), (by first | rfl | (simp; done) | (simp [*]; done)), H', ⟨by have := HJ1.out; have := HK2.out; have := HJ13.out; have := HK4.out; omega⟩, ⟨by (with_reducible repeat (first | refine blk_drewN ?_ _ | refine blk_drew ?_ | refine blk_alloc ?_ _)); refine blk_far ?_ NB138_146.out _; (with_reducible repeat (first | refine blk_drewN ?_ _ | refine blk_drew ?_ | refine blk_alloc ?_ _)); refine blk_far ?_ NB138_146.out _; (with_reducible repeat (first | refine blk_drewN ?_ _ | refine blk_drew ?_ | refine blk_alloc ?_ _)); refine blk_far ?_ NB138_146.out _; (with_reducible repeat (first | refine blk_drewN ?_ _ | refine blk_drew ?_ | refine blk_alloc ?_ _)); refine blk_far ?_ NB138_146.out _; (with_reducible repeat (first | refine blk_drewN ?_ _ | refine blk_drew ?_ | refine blk_alloc ?_ _)); exact BK138.out⟩, ⟨by (with_reducible repeat (first | refine blk_drewN ?_ _ | refine blk_drew ?_ | refine blk_alloc ?_ _)); refine blk_far ?_ NB142_146.out _; (with_reducible repeat (first | refine blk_drewN ?_ _ | refine blk_drew ?_ | refine blk_alloc ?_ _)); refine blk_far ?_ NB142_146.out _; (with_reducible repeat (first | refine blk_drewN ?_ _ | refine blk_drew ?_ | refine blk_alloc ?_ _)); refine blk_far ?_ NB142_146.out _; (with_reducible repeat (first | refine blk_drewN ?_ _ | refine blk_drew ?_ | refine blk_alloc ?_ _)); refine blk_far ?_ NB142_146.out _; (with_reducible repeat (first | refine blk_drewN ?_ _ | refine blk_drew ?_ | refine blk_alloc ?_ _)); exact BK142.out⟩, ⟨(mH3 HB.out GE138.out GE142.out GE146.out)⟩⟩
               ·rw [if_neg c37] at H
                exact absurd H (by simp)
              ·rw [if_neg c36] at H
               exact absurd H (by simp)
             ·rw [if_neg c35] at H
              have c35b0 : decide (x5_4 < x3_2) = false := decide_eq_false c35
              clear c35
              have H' := mS H
              clear H
              go_wp2
              go_roundg k4
              case measure => have := HJ1.out; have := HK2.out; have := HJ13.out; have := HK4.out; omega
              case rel => exact ⟨(wrap64 (x3_2 + 1)), (by first | rfl | (simp; done) | (simp [*]; done)), H', ⟨by have := HJ1.out; have := HK2.out; have := HJ13.out; have := HK4.out; omega⟩, ⟨by (with_reducible repeat (first | refine blk_drewN ?_ _ | refine blk_drew ?_ | refine blk_alloc ?_ _)); exact BK138.out⟩, ⟨(mH2 HB.out GE138.out GE142.out)⟩⟩
       ·rw [if_neg c13] at H
        exact absurd H (by simp)
      ·rw [if_neg c12] at H
       have c12b0 : decide (x3_2 < (l0_2.length : Int)) = false := decide_eq_false c12
       clear c12
       obtain rfl := Option.some.inj H
       have hcz77_0 := mZ BK138.out 0
       have hcz77_1 := mZ BK138.out 1
       have hcz77_2 := mZ BK138.out 2
       have hfz77_0 := blk_frozen BK138.out 0
       have hfz77_1 := blk_frozen BK138.out 1
       have hfz77_2 := blk_frozen BK138.out 2
       go_wp2
       go_ret
       exact ⟨by first | rfl | (simp [errW_none, errW_some] <;> rfl) | (simp [*, errW_none, errW_some] <;> rfl), (mH1 HB.out GE138.out)⟩

end Go.Proofs.Ytgncojbnejdplaa.MFnOverlaps
