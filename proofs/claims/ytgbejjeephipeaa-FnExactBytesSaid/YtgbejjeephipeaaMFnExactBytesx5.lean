-- Written by mp.py, this session's own printer (wip/mp.py).
import Derived.Test.YtgbejjeephipeaaVMShort
import Derived.Test.YtgbejjeephipeaaMFnExactBytesx0
import Derived.Test.YtgbejjeephipeaaMFnExactBytesx4
namespace Go.Proofs.Ytgbejjeephipeaa.MFnExactBytes
open Go.RowKit Go.Proofs.YtgbejjeephipeaaW.PrintWords Go.Proofs.YtgbejjeephipeaaW.PrintLast Go.Proofs.YtgbejjeephipeaaW.PrintMore Go.Proofs.Ytgbejjeephipeaa.MWords
attribute [local go_sem] max2_int min2_int max_two min_two max_three min_three max_four min_four   -- for this text's walks alone
set_option linter.unusedVariables false
set_option linter.unusedSimpArgs false

/-! ### spec_l2Entries: function 95 -/
mutual
def spec_l2Entries.l0 : Nat → List (S126) → Int → List (S120) → List (S126) → List (S126) → Int → Option (Bool)
 | 0, _, _, _, _, _, _ => none
 | k + 1, x1, x5, x187000, x187001, x187002, x187003 => if x5 < (x1.length : Int) then (if 0 ≤ x5 then ((spec_l2Name.f k ((rd_T126 x1 x5).f0)).bind fun t188 => (if t188 = true then ((spec_l2Inode.f k x187000 x187001 x187002 x187003 ((rd_T126 x1 x5).f1)).bind fun t190 => (if t190 < 0 then (spec_l2Entries.j1 k x1 x5 true x187000 x187001 x187002 x187003) else (if x5 > 0 then (if 0 ≤ (wrap64 (x5 - 1)) then (if (wrap64 (x5 - 1)) < (x1.length : Int) then (spec_l2Entries.j1 k x1 x5 (!(Op.bytesLess (((rd_T126 x1 (wrap64 (x5 - 1))).f0).toList) (((rd_T126 x1 x5).f0).toList))) x187000 x187001 x187002 x187003) else (none)) else (none)) else (spec_l2Entries.j1 k x1 x5 false x187000 x187001 x187002 x187003)))) else (spec_l2Entries.j1 k x1 x5 true x187000 x187001 x187002 x187003))) else (none)) else (some (decide ((x1.length : Int) ≤ 30)))
def spec_l2Entries.j1 : Nat → List (S126) → Int → Bool → List (S120) → List (S126) → List (S126) → Int → Option (Bool)
 | 0, _, _, _, _, _, _, _ => none
 | k + 1, x1, x5, x47, x187000, x187001, x187002, x187003 => if x47 = true then (some false) else (spec_l2Entries.l1 k x1 x5 0 x187000 x187001 x187002 x187003)
def spec_l2Entries.l1 : Nat → List (S126) → Int → Int → List (S120) → List (S126) → List (S126) → Int → Option (Bool)
 | 0, _, _, _, _, _, _, _ => none
 | k + 1, x1, x5, x6, x187000, x187001, x187002, x187003 => if x6 < x5 then (if 0 ≤ x6 then (if x6 < (x1.length : Int) then (if 0 ≤ x5 then (if x5 < (x1.length : Int) then (if ((rd_T126 x1 x6).f1) = ((rd_T126 x1 x5).f1) then (some false) else (spec_l2Entries.l1 k x1 x5 (wrap64 (x6 + 1)) x187000 x187001 x187002 x187003)) else (none)) else (none)) else (none)) else (none)) else (spec_l2Entries.l0 k x1 (wrap64 (x5 + 1)) x187000 x187001 x187002 x187003)
end
def spec_l2Entries.f (k : Nat) (l0_0 : List (S120)) (l0_1 : List (S126)) (l0_2 : List (S126)) (a0_3 : Int) (l1 : List (S126)) : Option (Bool) := spec_l2Entries.l0 k l1 0 l0_0 l0_1 l0_2 a0_3
theorem spec_l2Entries.mono_l : ∀ k, (∀ y0 y1 y2 y3 y4 y5, LeO (spec_l2Entries.l0 k y0 y1 y2 y3 y4 y5) (spec_l2Entries.l0 (k + 1) y0 y1 y2 y3 y4 y5)) ∧ (∀ y0 y1 y2 y3 y4 y5 y6, LeO (spec_l2Entries.j1 k y0 y1 y2 y3 y4 y5 y6) (spec_l2Entries.j1 (k + 1) y0 y1 y2 y3 y4 y5 y6)) ∧ (∀ y0 y1 y2 y3 y4 y5 y6, LeO (spec_l2Entries.l1 k y0 y1 y2 y3 y4 y5 y6) (spec_l2Entries.l1 (k + 1) y0 y1 y2 y3 y4 y5 y6))
 | 0 => ⟨fun _ _ _ _ _ _ r h => by simp [spec_l2Entries.l0] at h, fun _ _ _ _ _ _ _ r h => by simp [spec_l2Entries.j1] at h, fun _ _ _ _ _ _ _ r h => by simp [spec_l2Entries.l1] at h⟩
 | k + 1 => by
  obtain ⟨ih0, ih1, ih2⟩ := spec_l2Entries.mono_l k
  refine ⟨?_, ?_, ?_⟩
  ·intro y0 y1 y2 y3 y4 y5
   unfold spec_l2Entries.l0
   repeat' first
   | (with_reducible exact ih0 _ _ _ _ _ _)
   | (with_reducible exact ih1 _ _ _ _ _ _ _)
   | (with_reducible exact ih2 _ _ _ _ _ _ _)
   | (with_reducible exact spec_l2Inode.mono _ _ _ _ _ _)
   | (with_reducible exact spec_l2Name.mono _ _)
   | (with_reducible exact LeO.refl _)
   | (with_reducible exact LeO.none _)
   | (with_reducible refine LeO.ite ?_ ?_)
   | (with_reducible refine LeO.bind ?_ (fun _ => ?_))
   | exact ih0 _ _ _ _ _ _
   | exact ih1 _ _ _ _ _ _ _
   | exact ih2 _ _ _ _ _ _ _
   | exact spec_l2Inode.mono _ _ _ _ _ _
   | exact spec_l2Name.mono _ _
   | exact LeO.none _
   | refine LeO.ite ?_ ?_
   | refine LeO.bind ?_ (fun _ => ?_)
  ·intro y0 y1 y2 y3 y4 y5 y6
   unfold spec_l2Entries.j1
   repeat' first
   | (with_reducible exact ih0 _ _ _ _ _ _)
   | (with_reducible exact ih1 _ _ _ _ _ _ _)
   | (with_reducible exact ih2 _ _ _ _ _ _ _)
   | (with_reducible exact spec_l2Inode.mono _ _ _ _ _ _)
   | (with_reducible exact spec_l2Name.mono _ _)
   | (with_reducible exact LeO.refl _)
   | (with_reducible exact LeO.none _)
   | (with_reducible refine LeO.ite ?_ ?_)
   | (with_reducible refine LeO.bind ?_ (fun _ => ?_))
   | exact ih0 _ _ _ _ _ _
   | exact ih1 _ _ _ _ _ _ _
   | exact ih2 _ _ _ _ _ _ _
   | exact spec_l2Inode.mono _ _ _ _ _ _
   | exact spec_l2Name.mono _ _
   | exact LeO.none _
   | refine LeO.ite ?_ ?_
   | refine LeO.bind ?_ (fun _ => ?_)
  ·intro y0 y1 y2 y3 y4 y5 y6
   unfold spec_l2Entries.l1
   repeat' first
   | (with_reducible exact ih0 _ _ _ _ _ _)
   | (with_reducible exact ih1 _ _ _ _ _ _ _)
   | (with_reducible exact ih2 _ _ _ _ _ _ _)
   | (with_reducible exact spec_l2Inode.mono _ _ _ _ _ _)
   | (with_reducible exact spec_l2Name.mono _ _)
   | (with_reducible exact LeO.refl _)
   | (with_reducible exact LeO.none _)
   | (with_reducible refine LeO.ite ?_ ?_)
   | (with_reducible refine LeO.bind ?_ (fun _ => ?_))
   | exact ih0 _ _ _ _ _ _
   | exact ih1 _ _ _ _ _ _ _
   | exact ih2 _ _ _ _ _ _ _
   | exact spec_l2Inode.mono _ _ _ _ _ _
   | exact spec_l2Name.mono _ _
   | exact LeO.none _
   | refine LeO.ite ?_ ?_
   | refine LeO.bind ?_ (fun _ => ?_)
theorem spec_l2Entries.mono : ∀ a0 a1 a2 a3 a4 k, LeO (spec_l2Entries.f k a0 a1 a2 a3 a4) (spec_l2Entries.f (k + 1) a0 a1 a2 a3 a4) := by
 intro a0 a1 a2 a3 a4 k
 obtain ⟨ih0, ih1, ih2⟩ := spec_l2Entries.mono_l k
 unfold spec_l2Entries.f
 repeat' first
   | (with_reducible exact ih0 _ _ _ _ _ _)
   | (with_reducible exact ih1 _ _ _ _ _ _ _)
   | (with_reducible exact ih2 _ _ _ _ _ _ _)
   | (with_reducible exact spec_l2Inode.mono _ _ _ _ _ _)
   | (with_reducible exact spec_l2Name.mono _ _)
   | (with_reducible exact LeO.refl _)
   | (with_reducible exact LeO.none _)
   | (with_reducible refine LeO.ite ?_ ?_)
   | (with_reducible refine LeO.bind ?_ (fun _ => ?_))
   | exact ih0 _ _ _ _ _ _
   | exact ih1 _ _ _ _ _ _ _
   | exact ih2 _ _ _ _ _ _ _
   | exact spec_l2Inode.mono _ _ _ _ _ _
   | exact spec_l2Name.mono _ _
   | exact LeO.none _
   | refine LeO.ite ?_ ?_
   | refine LeO.bind ?_ (fun _ => ?_)
def spec_l2Entries.T4 : Bool × List (List Nat × List Nat) := (true, [([], []), ([], []), ([0, 1], [0, 1]), ([2], [2]), ([3], [3]), ([4], [4]), ([5], [5]), ([6, 5], [6]), ([7], [7]), ([7], [7]), ([7], [7]), ([9, 10, 7], [7, 9, 10]), ([11, 7], [7, 11]), ([12, 7], [7, 12]), ([8, 13, 7, 7], [7, 8, 13]), ([14, 7], [7, 14]), ([7, 15], [7, 15]), ([16, 14], [16]), ([17], [17]), ([18, 17], [17, 18]), ([19, 17, 17], [17, 19]), ([20], [20]), ([20], [20]), ([22, 20], [20, 22]), ([21, 23, 20], [20, 21, 23]), ([24, 20], [20, 24]), ([25, 20], [20, 25]), ([20], [20]), ([20], [20]), ([27, 28, 20], [20, 27, 28]), ([29, 20], [20, 29]), ([30, 20], [20, 30]), ([26, 31, 20], [20, 26, 31]), ([20, 32, 17], [17, 20, 32]), ([17, 33], [17, 33])])
def spec_l2Entries.B4 : List Nat := [0, 0, 3, 7, 15, 31, 63, 127, 255, 255, 255, 1791, 3839, 7935, 16383, 32767, 65535, 131071, 262143, 524287, 1048575, 2097151, 2097151, 6291455, 16777215, 33554431, 67108863, 2097151, 2097151, 404750335, 941621247, 2015363071, 4294967295, 8589934591, 17179869183]
theorem spec_l2Entries.tab4 : rtab .any (opsOf Try.f95 4) = spec_l2Entries.T4 := by kernel_rfl
theorem spec_l2Entries.bits4 : waitsOk spec_l2Entries.T4.2 spec_l2Entries.B4 = true := by kernel_rfl
def spec_l2Entries.T9 : Bool × List (List Nat × List Nat) := (true, [([], []), ([], []), ([0, 1], [0, 1]), ([2], [2]), ([3], [3]), ([], []), ([], []), ([5, 6], [5, 6]), ([7], [7]), ([8], [8]), ([4, 9], [4, 9])])
def spec_l2Entries.B9 : List Nat := [0, 0, 3, 7, 15, 0, 0, 96, 224, 480, 1023]
theorem spec_l2Entries.tab9 : rtab .any (opsOf Try.f95 9) = spec_l2Entries.T9 := by kernel_rfl
theorem spec_l2Entries.bits9 : waitsOk spec_l2Entries.T9.2 spec_l2Entries.B9 = true := by kernel_rfl
set_option maxHeartbeats 8000000 in
set_option maxRecDepth 100000 in
theorem spec_l2Entries.calls (k : Nat) (A0_0 : Option Addr) (c0_0 : Nat) (l0_0 : List (S120)) (A0_1 : Option Addr) (c0_1 : Nat) (l0_1 : List (S126)) (A0_2 : Option Addr) (c0_2 : Nat) (l0_2 : List (S126)) (a0_3 : Int) (A1 : Option Addr) (c1 : Nat) (l1 : List (S126)) (r : Bool) (w : World) (hr0_0 : Kd.C k120 w A0_0 l0_0.length l0_0) (hc0_0 : l0_0.length ≤ c0_0) (hr0_1 : Kd.C k126 w A0_1 l0_1.length l0_1) (hc0_1 : l0_1.length ≤ c0_1) (hr0_2 : Kd.C k126 w A0_2 l0_2.length l0_2) (hc0_2 : l0_2.length ≤ c0_2) (hr1 : Kd.C k126 w A1 l1.length l1) (hc1 : l1.length ≤ c1) (h : spec_l2Entries.f k l0_0 l0_1 l0_2 a0_3 l1 = some r) :
  Calls Try.prog 95 #[.agg #[.slice A0_0 l0_0.length c0_0, .slice A0_1 l0_1.length c0_1, .slice A0_2 l0_2.length c0_2, .int .i64 a0_3], .slice A1 l1.length c1] w fun e w' => e = .returned (.bool r) ∧ Below w.heap.size w w' := by
 have hu63 := Try.underlying63
 have HR0_0 := mS hr0_0
 have HC0_0 := mS hc0_0
 clear hr0_0 hc0_0
 have HR0_1 := mS hr0_1
 have HC0_1 := mS hc0_1
 clear hr0_1 hc0_1
 have HR0_2 := mS hr0_2
 have HC0_2 := mS hc0_2
 clear hr0_2 hc0_2
 have HR1 := mS hr1
 have HC1 := mS hc1
 clear hr1 hc1
 have HB := mS (Below.refl w.heap.size w)
 have H : (spec_l2Entries.l0 k l1 0 l0_0 l0_1 l0_2 a0_3) = some r := h
 clear h
 have H' := mS H
 clear H
 go_enter Try.func95, Try.ntmps95
 go_wp2_with (first | ((with_reducible refine gate_dst (N := 2) rfl ?_); refine box_event ?hg (N := 2) ?hd (cs := #[.slice A0_0 l0_0.length c0_0, .slice A0_1 l0_1.length c0_1, .slice A0_2 l0_2.length c0_2, .int .i64 a0_3]) (t := 63) ?hr ?_; (case hd => rfl); (case hg => rfl); (case hr => first | (go_simp; done) | (go_simp; rfl)); intro gb186 hg w3 hbox hb; have BK186 := mS (hbox); have GW186 := mG hg (mH HB.out); have GE186 := mG hg (mH HB.out); replace HB := mS (below_step (mH HB.out) hb); clear hb hbox hg))
 go_loopg [5] k (fun kq v5 w' => ∃ (x5_1 : Int), v5 = .int .i64 x5_1 ∧ Aside0 (spec_l2Entries.l0 kq l1 x5_1 l0_0 l0_1 l0_2 a0_3 = some r) ∧ Aside0 (kq ≤ k) ∧ Aside0 (w'.heap[gb186]? = some (.cells #[(.slice A0_0 l0_0.length c0_0), (.slice A0_1 l0_1.length c0_1), (.slice A0_2 l0_2.length c0_2), .int .i64 a0_3] 63 (0, 0))) ∧ Aside0 (Below w.heap.size w w'))
 case atStart => exact ⟨(0), (by first | rfl | (simp; done) | (simp [*]; done)), H', ⟨Nat.le_refl _⟩, ⟨by (with_reducible repeat (first | refine blk_drewN ?_ _ | refine blk_drew ?_ | refine blk_alloc ?_ _)); exact BK186.out⟩, ⟨(mH1 HB.out GE186.out)⟩⟩
 case round =>
  clear H'
  try clear c1
  try clear p2
  obtain ⟨x5_1, rfl, HA, HK1, BK186, HB⟩ := hrel
  cases gk with
  | zero => exact absurd HA.out (by simp [spec_l2Entries.l0])
  | succ k1 =>
   have H := HA.out
   clear HA
   simp only [spec_l2Entries.l0] at H
   by_cases c4 : x5_1 < (l1.length : Int)
   ·rw [if_pos c4] at H
    have c4b0 : decide (x5_1 < (l1.length : Int)) = true := decide_eq_true c4
    clear c4
    have HC5 := mS H
    clear H
    go_upto_region 4 with (fail)
    go_cut [47] (fun v47 wc => ∃ (kq : Nat) (x47_4 : Bool), v47 = .bool x47_4 ∧ Aside0 (spec_l2Entries.j1 kq l1 x5_1 x47_4 l0_0 l0_1 l0_2 a0_3 = some r) ∧ Aside0 (kq ≤ k1) ∧ Aside0 (wc.heap[gb186]? = some (.cells #[(.slice A0_0 l0_0.length c0_0), (.slice A0_1 l0_1.length c0_1), (.slice A0_2 l0_2.length c0_2), .int .i64 a0_3] 63 (0, 0))) ∧ Aside0 (Below w.heap.size w wc))
    case first =>
     have H := HC5.out
     clear HC5
     by_cases c6 : 0 ≤ x5_1
     ·rw [if_pos c6] at H
      have c6b0 : decide (0 ≤ x5_1) = true := decide_eq_true c6
      clear c6
      (first | rw [c6b0] | (simp only [i64_w, i32_w]; rw [c6b0]) | skip)
      replace H := Option.bind_eq_some_iff.mp H
      obtain ⟨t188, A70, H⟩ := H
      replace H : (if t188 = true then ((spec_l2Inode.f k1 l0_0 l0_1 l0_2 a0_3 ((rd_T126 l1 x5_1).f1)).bind fun t190 => (if t190 < 0 then (spec_l2Entries.j1 k1 l1 x5_1 true l0_0 l0_1 l0_2 a0_3) else (if x5_1 > 0 then (if 0 ≤ (wrap64 (x5_1 - 1)) then (if (wrap64 (x5_1 - 1)) < (l1.length : Int) then (spec_l2Entries.j1 k1 l1 x5_1 (!(Op.bytesLess (((rd_T126 l1 (wrap64 (x5_1 - 1))).f0).toList) (((rd_T126 l1 x5_1).f0).toList))) l0_0 l0_1 l0_2 a0_3) else (none)) else (none)) else (spec_l2Entries.j1 k1 l1 x5_1 false l0_0 l0_1 l0_2 a0_3)))) else (spec_l2Entries.j1 k1 l1 x5_1 true l0_0 l0_1 l0_2 a0_3)) = some r := H
      have A7 := mS A70
      clear A70
      by_cases c8 : t188 = true
      ·subst c8
       have H1 : ((spec_l2Inode.f k1 l0_0 l0_1 l0_2 a0_3 ((rd_T126 l1 x5_1).f1)).bind fun t190 => (if t190 < 0 then (spec_l2Entries.j1 k1 l1 x5_1 true l0_0 l0_1 l0_2 a0_3) else (if x5_1 > 0 then (if 0 ≤ (wrap64 (x5_1 - 1)) then (if (wrap64 (x5_1 - 1)) < (l1.length : Int) then (spec_l2Entries.j1 k1 l1 x5_1 (!(Op.bytesLess (((rd_T126 l1 (wrap64 (x5_1 - 1))).f0).toList) (((rd_T126 l1 x5_1).f0).toList))) l0_0 l0_1 l0_2 a0_3) else (none)) else (none)) else (spec_l2Entries.j1 k1 l1 x5_1 false l0_0 l0_1 l0_2 a0_3)))) = some r := by rw [if_pos rfl] at H; exact H
       clear H
       have H := H1
       clear H1
       replace H := Option.bind_eq_some_iff.mp H
       obtain ⟨t190, A90, H⟩ := H
       replace H : (if t190 < 0 then (spec_l2Entries.j1 k1 l1 x5_1 true l0_0 l0_1 l0_2 a0_3) else (if x5_1 > 0 then (if 0 ≤ (wrap64 (x5_1 - 1)) then (if (wrap64 (x5_1 - 1)) < (l1.length : Int) then (spec_l2Entries.j1 k1 l1 x5_1 (!(Op.bytesLess (((rd_T126 l1 (wrap64 (x5_1 - 1))).f0).toList) (((rd_T126 l1 x5_1).f0).toList))) l0_0 l0_1 l0_2 a0_3) else (none)) else (none)) else (spec_l2Entries.j1 k1 l1 x5_1 false l0_0 l0_1 l0_2 a0_3))) = some r := H
       have A9 := mS A90
       clear A90
       by_cases c10 : t190 < 0
       ·rw [if_pos c10] at H
        have c10b0 : decide (t190 < 0) = true := decide_eq_true c10
        clear c10
        have H' := mS H
        clear H
        try go_wp2
        have n0_ := mS (blk_drew BK186.out)
        have n1_ := mS (below_drew1 HB.out)
        clear BK186
        clear HB
        have BK186 := n0_
        have HB := n1_
        clear n0_ n1_
        have p187 : 0 ≤ (x5_1 : Int) := of_decide_eq_true (by first | (with_reducible assumption) | assumption)
        have q187 : x5_1 < (l1.length : Int) := of_decide_eq_true (by first | (with_reducible assumption) | assumption)
        obtain ⟨ad187, e187, hx187_0, hx187_1⟩ := at_T126 HR1.out x5_1 p187 q187
        have hw187_1 := hx187_1
        have hw187_0 := hx187_0
        cases e187
        replace hx187_0 := mX HB.out hx187_0
        replace hx187_1 := mX HB.out hx187_1
        replace p187 := eq_true p187
        replace q187 := eq_true q187
        have p189 : 0 ≤ (x5_1 : Int) := of_decide_eq_true (by first | (with_reducible assumption) | assumption)
        have q189 : x5_1 < (l1.length : Int) := of_decide_eq_true (by first | (with_reducible assumption) | assumption)
        obtain ⟨ad189, e189, hx189_0, hx189_1⟩ := at_T126 HR1.out x5_1 p189 q189
        have hw189_1 := hx189_1
        have hw189_0 := hx189_0
        obtain rfl : ad187 = ad189 := (by injection e189)
        replace hx189_0 := mX HB.out hx189_0
        replace hx189_1 := mX HB.out hx189_1
        replace p189 := eq_true p189
        replace q189 := eq_true q189
        refine start_ (n := 35) (S := fun w' => w'.cell? ⟨gb186, 0, none⟩ = some (.slice A0_0 l0_0.length c0_0) ∧ w'.cell? ⟨gb186, 1, none⟩ = some (.slice A0_1 l0_1.length c0_1) ∧ w'.cell? ⟨gb186, 2, none⟩ = some (.slice A0_2 l0_2.length c0_2) ∧ w'.cell? ⟨gb186, 3, none⟩ = some (.int .i64 a0_3) ∧ w'.cell? (ad187.add ((x5_1).toNat * 2)) = some (.string ((rd_T126 l1 x5_1).f0)) ∧ w'.cell? ⟨(ad187.add ((x5_1).toNat * 2)).block, (ad187.add ((x5_1).toNat * 2)).off + 1, none⟩ = some (.int .i64 ((rd_T126 l1 x5_1).f1)) ∧ w'.cell? (ad187.add ((x5_1).toNat * 2)) = some (.string ((rd_T126 l1 x5_1).f0)) ∧ w'.cell? ⟨(ad187.add ((x5_1).toNat * 2)).block, (ad187.add ((x5_1).toNat * 2)).off + 1, none⟩ = some (.int .i64 ((rd_T126 l1 x5_1).f1))) (ds := []) (mb 0 35) (by kernel_rfl) rfl rfl ⟨mZ BK186.out 0, mZ BK186.out 1, mZ BK186.out 2, mZ BK186.out 3, ((HB.out.cell (World.block_lt_of_cell? w _ hw187_0)).trans hw187_0), ((HB.out.cell (World.block_lt_of_cell? w _ hw187_1)).trans hw187_1), ((HB.out.cell (World.block_lt_of_cell? w _ hw189_0)).trans hw189_0), ((HB.out.cell (World.block_lt_of_cell? w _ hw189_1)).trans hw189_1)⟩ (fun hHeld => ?_); refine with_tabW spec_l2Entries.tab4 spec_l2Entries.bits4 (fun HT_ HW_ => ?_)
        generalize wr.drew = w11 at BK186 HB hx187_0 hx187_1 hx189_0 hx189_1 hHeld ⊢
        refine mpu 0 13 HT_.out (mb 1 34) ?_
        refine mpu 1 14 HT_.out (mb 2 33) ?_
        refine mpu 2 15 HT_.out (mb 3 32) ?_
        refine mpu 3 16 HT_.out (mb 4 31) ?_
        refine mpt 4 17 HT_.out HW_.out (mb 5 30) hHeld ?_
        refine one_ (i := 5) (N := some 18) (mb 6 29) rfl rfl (one_of HT_.out (by kernel_rfl)) (by decide) (fun K hK => ?_)
        refine goes_ Try.func121 (by kernel_rfl) rfl #[.string ((rd_T126 l1 x5_1).f0)] (by rfl) rfl rfl mA ?_
        with_reducible refine (spec_l2Name.calls k1 ((rd_T126 l1 x5_1).f0) true _ A7.out).mono ?_
        rintro e w' ⟨rfl, ⟨nd, rfl⟩⟩
        refine ⟨_, rfl, ?_⟩
        refine hK.out _ _ ⟨mZ BK186.out 0, mZ BK186.out 1, mZ BK186.out 2, mZ BK186.out 3, ((HB.out.cell (World.block_lt_of_cell? w _ hw187_0)).trans hw187_0), ((HB.out.cell (World.block_lt_of_cell? w _ hw187_1)).trans hw187_1), ((HB.out.cell (World.block_lt_of_cell? w _ hw189_0)).trans hw189_0), ((HB.out.cell (World.block_lt_of_cell? w _ hw189_1)).trans hw189_1)⟩ (fun hHeld => ?_)
        clear hK K
        refine norm_ (a' := ?_) ?_ ?_
        rotate_left
        ·show Act.put _ (some 18) _ = _
         simp only [Act.put, zA, zB, zC, i64_w, i32_w]
         rfl
        refine mpu 6 19 HT_.out (mb 7 28) ?_
        refine mpu 7 20 HT_.out (mb 8 27) ?_
        refine mpu 9 22 HT_.out #[true, true, true, true, true, true, true, true, false, true, false, false, false, false, false, false, false, false, false, false, false, false, false, false, false, false, false, false, false, false, false, false, false, false, false] ?_
        refine mpu 10 23 HT_.out #[true, true, true, true, true, true, true, true, false, true, true, false, false, false, false, false, false, false, false, false, false, false, false, false, false, false, false, false, false, false, false, false, false, false, false] ?_
        refine mpu 11 24 HT_.out #[true, true, true, true, true, true, true, true, false, true, true, true, false, false, false, false, false, false, false, false, false, false, false, false, false, false, false, false, false, false, false, false, false, false, false] ?_
        refine mpu 12 25 HT_.out #[true, true, true, true, true, true, true, true, false, true, true, true, true, false, false, false, false, false, false, false, false, false, false, false, false, false, false, false, false, false, false, false, false, false, false] ?_
        refine mpt 8 21 HT_.out HW_.out (mb 13 22) hHeld ?_
        refine mpt 13 26 HT_.out HW_.out (mb 14 21) hHeld ?_
        refine one_ (i := 14) (N := some 27) (mb 15 20) rfl rfl (one_of HT_.out (by kernel_rfl)) (by decide) (fun K hK => ?_)
        refine goes_ Try.func103 (by kernel_rfl) rfl #[.agg #[.slice A0_0 l0_0.length c0_0, .slice A0_1 l0_1.length c0_1, .slice A0_2 l0_2.length c0_2, .int .i64 a0_3], .int .i64 ((rd_T126 l1 x5_1).f1)] (by rfl) rfl rfl mA ?_
        with_reducible refine (spec_l2Inode.calls k1 _ _ l0_0 _ _ l0_1 _ _ l0_2 a0_3 ((rd_T126 l1 x5_1).f1) t190 _ ?side1 ?side2 ?side3 ?side4 ?side5 ?side6 A9.out).mono ?_
        (case side1 => repeat (first | exact (Kd.C_below HR0_0.out (mH1 HB.out GE186.out)) | (with_reducible refine Kd.C_alloc ?_ _) | (with_reducible refine Kd.C_drewN ?_ _) | (with_reducible refine Kd.C_drew ?_)))
        (case side2 => exact HC0_0.out)
        (case side3 => repeat (first | exact (Kd.C_below HR0_1.out (mH1 HB.out GE186.out)) | (with_reducible refine Kd.C_alloc ?_ _) | (with_reducible refine Kd.C_drewN ?_ _) | (with_reducible refine Kd.C_drew ?_)))
        (case side4 => exact HC0_1.out)
        (case side5 => repeat (first | exact (Kd.C_below HR0_2.out (mH1 HB.out GE186.out)) | (with_reducible refine Kd.C_alloc ?_ _) | (with_reducible refine Kd.C_drewN ?_ _) | (with_reducible refine Kd.C_drew ?_)))
        (case side6 => exact HC0_2.out)
        rintro e w12 ⟨rfl, hb⟩
        refine ⟨_, rfl, ?_⟩
        have n0_ := mB BK186 hb
        have n1_ := mS (below_step (mH1 HB.out GE186.out) hb)
        clear BK186
        clear HB
        have BK186 := n0_
        have HB := n1_
        clear n0_ n1_
        (try clear hb)
        (try clear hb2)
        (try clear hk)
        (try clear hi)
        refine hK.out _ _ ⟨mZ BK186.out 0, mZ BK186.out 1, mZ BK186.out 2, mZ BK186.out 3, ((HB.out.cell (World.block_lt_of_cell? w _ hw187_0)).trans hw187_0), ((HB.out.cell (World.block_lt_of_cell? w _ hw187_1)).trans hw187_1), ((HB.out.cell (World.block_lt_of_cell? w _ hw189_0)).trans hw189_0), ((HB.out.cell (World.block_lt_of_cell? w _ hw189_1)).trans hw189_1)⟩ (fun hHeld => ?_)
        clear hK K
        refine norm_ (a' := ?_) ?_ ?_
        rotate_left
        ·show Act.put _ (some 27) _ = _
         simp only [Act.put, zA, zB, zC, i64_w, i32_w]
         rfl
        refine mpu 15 28 HT_.out (mb 16 19) ?_
        refine mpu 16 29 HT_.out (mb 17 18) ?_
        refine mpu 17 30 HT_.out (mb 18 17) ?_
        refine mpf 18 31 HT_.out (mb 19 16) ?_
        refine mpf 19 32 HT_.out (mb 20 15) ?_
        refine mpf 20 33 HT_.out (mb 21 14) ?_
        refine mpf 21 34 HT_.out (mb 22 13) ?_
        refine mpf 22 35 HT_.out (mb 23 12) ?_
        refine mpf 23 36 HT_.out (mb 24 11) ?_
        refine mpf 24 37 HT_.out (mb 25 10) ?_
        refine mpf 25 38 HT_.out (mb 26 9) ?_
        refine mpf 26 39 HT_.out (mb 27 8) ?_
        refine mpf 27 40 HT_.out (mb 28 7) ?_
        refine mpf 28 41 HT_.out (mb 29 6) ?_
        refine mpf 29 42 HT_.out (mb 30 5) ?_
        refine mpf 30 43 HT_.out (mb 31 4) ?_
        refine mpf 31 44 HT_.out (mb 32 3) ?_
        refine mpf 32 45 HT_.out (mb 33 2) ?_
        refine mpf 33 46 HT_.out (mb 34 1) ?_
        refine mpu 34 47 HT_.out (mb 35 0) ?_
        refine done_ (done_of HT_.out (by kernel_rfl)) ?_
        try go_wp2
        go_meet
        case rel => exact ⟨_, (true), (by first | rfl | (simp; done) | (simp [*]; done)), H', ⟨by have := HK1.out; first | omega | exact Nat.le_refl _⟩, ⟨by (with_reducible repeat (first | refine blk_drewN ?_ _ | refine blk_drew ?_ | refine blk_alloc ?_ _)); exact BK186.out⟩, ⟨(mH1 HB.out GE186.out)⟩⟩
       ·rw [if_neg c10] at H
        have c10b0 : decide (t190 < 0) = false := decide_eq_false c10
        clear c10
        by_cases c13 : x5_1 > 0
        ·rw [if_pos c13] at H
         have c13b0 : decide (0 < x5_1) = true := decide_eq_true c13
         clear c13
         obtain ⟨ji14, hji14⟩ : ∃ j_ : Int, (wrap64 (x5_1 - 1)) = j_ := ⟨_, rfl⟩
         replace H : (if 0 ≤ (ji14) then (if (ji14) < (l1.length : Int) then (spec_l2Entries.j1 k1 l1 x5_1 (!(Op.bytesLess (((rd_T126 l1 (ji14)).f0).toList) (((rd_T126 l1 x5_1).f0).toList))) l0_0 l0_1 l0_2 a0_3) else (none)) else (none)) = some r := by first | (rw [hji14] at H; exact H) | (simp only [hji14] at H ⊢; exact H)
         (try rw [hji14] at A7)
         (try rw [hji14] at A9)
         have hji14w : (IntKind.i64.wrap (x5_1 - 1)) = ji14 := (i64_w _).trans hji14
         by_cases c15 : 0 ≤ (ji14)
         ·rw [if_pos c15] at H
          have c15b0 : decide (0 ≤ (ji14)) = true := decide_eq_true c15
          clear c15
          by_cases c16 : (ji14) < (l1.length : Int)
          ·rw [if_pos c16] at H
           have c16b0 : decide ((ji14) < (l1.length : Int)) = true := decide_eq_true c16
           clear c16
           have H' := mS H
           clear H
           try go_wp2
           have n0_ := mS (blk_drew BK186.out)
           have n1_ := mS (below_drew1 HB.out)
           clear BK186
           clear HB
           have BK186 := n0_
           have HB := n1_
           clear n0_ n1_
           have p187 : 0 ≤ (x5_1 : Int) := of_decide_eq_true (by first | (with_reducible assumption) | assumption)
           have q187 : x5_1 < (l1.length : Int) := of_decide_eq_true (by first | (with_reducible assumption) | assumption)
           obtain ⟨ad187, e187, hx187_0, hx187_1⟩ := at_T126 HR1.out x5_1 p187 q187
           have hw187_1 := hx187_1
           have hw187_0 := hx187_0
           cases e187
           replace hx187_0 := mX HB.out hx187_0
           replace hx187_1 := mX HB.out hx187_1
           replace p187 := eq_true p187
           replace q187 := eq_true q187
           have p189 : 0 ≤ (x5_1 : Int) := of_decide_eq_true (by first | (with_reducible assumption) | assumption)
           have q189 : x5_1 < (l1.length : Int) := of_decide_eq_true (by first | (with_reducible assumption) | assumption)
           obtain ⟨ad189, e189, hx189_0, hx189_1⟩ := at_T126 HR1.out x5_1 p189 q189
           have hw189_1 := hx189_1
           have hw189_0 := hx189_0
           obtain rfl : ad187 = ad189 := (by injection e189)
           replace hx189_0 := mX HB.out hx189_0
           replace hx189_1 := mX HB.out hx189_1
           replace p189 := eq_true p189
           replace q189 := eq_true q189
           have p191 : 0 ≤ ((ji14) : Int) := of_decide_eq_true (by first | (with_reducible assumption) | assumption)
           have q191 : (ji14) < (l1.length : Int) := of_decide_eq_true (by first | (with_reducible assumption) | assumption)
           obtain ⟨ad191, e191, hx191_0, hx191_1⟩ := at_T126 HR1.out (ji14) p191 q191
           have hw191_1 := hx191_1
           have hw191_0 := hx191_0
           obtain rfl : ad187 = ad191 := (by injection e191)
           replace hx191_0 := mX HB.out hx191_0
           replace hx191_1 := mX HB.out hx191_1
           replace p191 := eq_true p191
           replace q191 := eq_true q191
           have p192 : 0 ≤ (x5_1 : Int) := of_decide_eq_true (by first | (with_reducible assumption) | assumption)
           have q192 : x5_1 < (l1.length : Int) := of_decide_eq_true (by first | (with_reducible assumption) | assumption)
           obtain ⟨ad192, e192, hx192_0, hx192_1⟩ := at_T126 HR1.out x5_1 p192 q192
           have hw192_1 := hx192_1
           have hw192_0 := hx192_0
           obtain rfl : ad187 = ad192 := (by injection e192)
           replace hx192_0 := mX HB.out hx192_0
           replace hx192_1 := mX HB.out hx192_1
           replace p192 := eq_true p192
           replace q192 := eq_true q192
           refine start_ (n := 35) (S := fun w' => w'.cell? ⟨gb186, 0, none⟩ = some (.slice A0_0 l0_0.length c0_0) ∧ w'.cell? ⟨gb186, 1, none⟩ = some (.slice A0_1 l0_1.length c0_1) ∧ w'.cell? ⟨gb186, 2, none⟩ = some (.slice A0_2 l0_2.length c0_2) ∧ w'.cell? ⟨gb186, 3, none⟩ = some (.int .i64 a0_3) ∧ w'.cell? (ad187.add ((x5_1).toNat * 2)) = some (.string ((rd_T126 l1 x5_1).f0)) ∧ w'.cell? ⟨(ad187.add ((x5_1).toNat * 2)).block, (ad187.add ((x5_1).toNat * 2)).off + 1, none⟩ = some (.int .i64 ((rd_T126 l1 x5_1).f1)) ∧ w'.cell? (ad187.add ((x5_1).toNat * 2)) = some (.string ((rd_T126 l1 x5_1).f0)) ∧ w'.cell? ⟨(ad187.add ((x5_1).toNat * 2)).block, (ad187.add ((x5_1).toNat * 2)).off + 1, none⟩ = some (.int .i64 ((rd_T126 l1 x5_1).f1)) ∧ w'.cell? (ad187.add (((ji14)).toNat * 2)) = some (.string ((rd_T126 l1 (ji14)).f0)) ∧ w'.cell? ⟨(ad187.add (((ji14)).toNat * 2)).block, (ad187.add (((ji14)).toNat * 2)).off + 1, none⟩ = some (.int .i64 ((rd_T126 l1 (ji14)).f1)) ∧ w'.cell? (ad187.add ((x5_1).toNat * 2)) = some (.string ((rd_T126 l1 x5_1).f0)) ∧ w'.cell? ⟨(ad187.add ((x5_1).toNat * 2)).block, (ad187.add ((x5_1).toNat * 2)).off + 1, none⟩ = some (.int .i64 ((rd_T126 l1 x5_1).f1))) (ds := []) (mb 0 35) (by kernel_rfl) rfl rfl ⟨mZ BK186.out 0, mZ BK186.out 1, mZ BK186.out 2, mZ BK186.out 3, ((HB.out.cell (World.block_lt_of_cell? w _ hw187_0)).trans hw187_0), ((HB.out.cell (World.block_lt_of_cell? w _ hw187_1)).trans hw187_1), ((HB.out.cell (World.block_lt_of_cell? w _ hw189_0)).trans hw189_0), ((HB.out.cell (World.block_lt_of_cell? w _ hw189_1)).trans hw189_1), ((HB.out.cell (World.block_lt_of_cell? w _ hw191_0)).trans hw191_0), ((HB.out.cell (World.block_lt_of_cell? w _ hw191_1)).trans hw191_1), ((HB.out.cell (World.block_lt_of_cell? w _ hw192_0)).trans hw192_0), ((HB.out.cell (World.block_lt_of_cell? w _ hw192_1)).trans hw192_1)⟩ (fun hHeld => ?_); refine with_tabW spec_l2Entries.tab4 spec_l2Entries.bits4 (fun HT_ HW_ => ?_)
           generalize wr.drew = w17 at BK186 HB hx187_0 hx187_1 hx189_0 hx189_1 hx191_0 hx191_1 hx192_0 hx192_1 hHeld ⊢
           refine mpu 0 13 HT_.out (mb 1 34) ?_
           refine mpu 1 14 HT_.out (mb 2 33) ?_
           refine mpu 2 15 HT_.out (mb 3 32) ?_
           refine mpu 3 16 HT_.out (mb 4 31) ?_
           refine mpt 4 17 HT_.out HW_.out (mb 5 30) hHeld ?_
           refine one_ (i := 5) (N := some 18) (mb 6 29) rfl rfl (one_of HT_.out (by kernel_rfl)) (by decide) (fun K hK => ?_)
           refine goes_ Try.func121 (by kernel_rfl) rfl #[.string ((rd_T126 l1 x5_1).f0)] (by rfl) rfl rfl mA ?_
           with_reducible refine (spec_l2Name.calls k1 ((rd_T126 l1 x5_1).f0) true _ A7.out).mono ?_
           rintro e w' ⟨rfl, ⟨nd, rfl⟩⟩
           refine ⟨_, rfl, ?_⟩
           refine hK.out _ _ ⟨mZ BK186.out 0, mZ BK186.out 1, mZ BK186.out 2, mZ BK186.out 3, ((HB.out.cell (World.block_lt_of_cell? w _ hw187_0)).trans hw187_0), ((HB.out.cell (World.block_lt_of_cell? w _ hw187_1)).trans hw187_1), ((HB.out.cell (World.block_lt_of_cell? w _ hw189_0)).trans hw189_0), ((HB.out.cell (World.block_lt_of_cell? w _ hw189_1)).trans hw189_1), ((HB.out.cell (World.block_lt_of_cell? w _ hw191_0)).trans hw191_0), ((HB.out.cell (World.block_lt_of_cell? w _ hw191_1)).trans hw191_1), ((HB.out.cell (World.block_lt_of_cell? w _ hw192_0)).trans hw192_0), ((HB.out.cell (World.block_lt_of_cell? w _ hw192_1)).trans hw192_1)⟩ (fun hHeld => ?_)
           clear hK K
           refine norm_ (a' := ?_) ?_ ?_
           rotate_left
           ·show Act.put _ (some 18) _ = _
            simp only [Act.put, zA, zB, zC, i64_w, i32_w]
            rfl
           refine mpu 6 19 HT_.out (mb 7 28) ?_
           refine mpu 7 20 HT_.out (mb 8 27) ?_
           refine mpu 9 22 HT_.out #[true, true, true, true, true, true, true, true, false, true, false, false, false, false, false, false, false, false, false, false, false, false, false, false, false, false, false, false, false, false, false, false, false, false, false] ?_
           refine mpu 10 23 HT_.out #[true, true, true, true, true, true, true, true, false, true, true, false, false, false, false, false, false, false, false, false, false, false, false, false, false, false, false, false, false, false, false, false, false, false, false] ?_
           refine mpu 11 24 HT_.out #[true, true, true, true, true, true, true, true, false, true, true, true, false, false, false, false, false, false, false, false, false, false, false, false, false, false, false, false, false, false, false, false, false, false, false] ?_
           refine mpu 12 25 HT_.out #[true, true, true, true, true, true, true, true, false, true, true, true, true, false, false, false, false, false, false, false, false, false, false, false, false, false, false, false, false, false, false, false, false, false, false] ?_
           refine mpt 8 21 HT_.out HW_.out (mb 13 22) hHeld ?_
           refine mpt 13 26 HT_.out HW_.out (mb 14 21) hHeld ?_
           refine one_ (i := 14) (N := some 27) (mb 15 20) rfl rfl (one_of HT_.out (by kernel_rfl)) (by decide) (fun K hK => ?_)
           refine goes_ Try.func103 (by kernel_rfl) rfl #[.agg #[.slice A0_0 l0_0.length c0_0, .slice A0_1 l0_1.length c0_1, .slice A0_2 l0_2.length c0_2, .int .i64 a0_3], .int .i64 ((rd_T126 l1 x5_1).f1)] (by rfl) rfl rfl mA ?_
           with_reducible refine (spec_l2Inode.calls k1 _ _ l0_0 _ _ l0_1 _ _ l0_2 a0_3 ((rd_T126 l1 x5_1).f1) t190 _ ?side1 ?side2 ?side3 ?side4 ?side5 ?side6 A9.out).mono ?_
           (case side1 => repeat (first | exact (Kd.C_below HR0_0.out (mH1 HB.out GE186.out)) | (with_reducible refine Kd.C_alloc ?_ _) | (with_reducible refine Kd.C_drewN ?_ _) | (with_reducible refine Kd.C_drew ?_)))
           (case side2 => exact HC0_0.out)
           (case side3 => repeat (first | exact (Kd.C_below HR0_1.out (mH1 HB.out GE186.out)) | (with_reducible refine Kd.C_alloc ?_ _) | (with_reducible refine Kd.C_drewN ?_ _) | (with_reducible refine Kd.C_drew ?_)))
           (case side4 => exact HC0_1.out)
           (case side5 => repeat (first | exact (Kd.C_below HR0_2.out (mH1 HB.out GE186.out)) | (with_reducible refine Kd.C_alloc ?_ _) | (with_reducible refine Kd.C_drewN ?_ _) | (with_reducible refine Kd.C_drew ?_)))
           (case side6 => exact HC0_2.out)
           rintro e w18 ⟨rfl, hb⟩
           refine ⟨_, rfl, ?_⟩
           have n0_ := mB BK186 hb
           have n1_ := mS (below_step (mH1 HB.out GE186.out) hb)
           clear BK186
           clear HB
           have BK186 := n0_
           have HB := n1_
           clear n0_ n1_
           (try clear hb)
           (try clear hb2)
           (try clear hk)
           (try clear hi)
           refine hK.out _ _ ⟨mZ BK186.out 0, mZ BK186.out 1, mZ BK186.out 2, mZ BK186.out 3, ((HB.out.cell (World.block_lt_of_cell? w _ hw187_0)).trans hw187_0), ((HB.out.cell (World.block_lt_of_cell? w _ hw187_1)).trans hw187_1), ((HB.out.cell (World.block_lt_of_cell? w _ hw189_0)).trans hw189_0), ((HB.out.cell (World.block_lt_of_cell? w _ hw189_1)).trans hw189_1), ((HB.out.cell (World.block_lt_of_cell? w _ hw191_0)).trans hw191_0), ((HB.out.cell (World.block_lt_of_cell? w _ hw191_1)).trans hw191_1), ((HB.out.cell (World.block_lt_of_cell? w _ hw192_0)).trans hw192_0), ((HB.out.cell (World.block_lt_of_cell? w _ hw192_1)).trans hw192_1)⟩ (fun hHeld => ?_)
           clear hK K
           refine norm_ (a' := ?_) ?_ ?_
           rotate_left
           ·show Act.put _ (some 27) _ = _
            simp only [Act.put, zA, zB, zC, i64_w, i32_w]
            rfl
           refine mpu 15 28 HT_.out (mb 16 19) ?_
           refine mpu 16 29 HT_.out (mb 17 18) ?_
           refine mpu 17 30 HT_.out (mb 18 17) ?_
           refine mpu 18 31 HT_.out (mb 19 16) ?_
           refine mpu 19 32 HT_.out (mb 20 15) ?_
           refine mpu 20 33 HT_.out (mb 21 14) ?_
           refine mpu 21 34 HT_.out (mb 22 13) ?_
           refine mpu 22 35 HT_.out (mb 23 12) ?_
           refine mpu 23 36 HT_.out (mb 24 11) ?_
           refine mpu 24 37 HT_.out (mb 25 10) ?_
           refine mpu 25 38 HT_.out (mb 26 9) ?_
           refine mpu 27 40 HT_.out #[true, true, true, true, true, true, true, true, true, true, true, true, true, true, true, true, true, true, true, true, true, true, true, true, true, true, false, true, false, false, false, false, false, false, false] ?_
           refine mpu 28 41 HT_.out #[true, true, true, true, true, true, true, true, true, true, true, true, true, true, true, true, true, true, true, true, true, true, true, true, true, true, false, true, true, false, false, false, false, false, false] ?_
           refine mpu 29 42 HT_.out #[true, true, true, true, true, true, true, true, true, true, true, true, true, true, true, true, true, true, true, true, true, true, true, true, true, true, false, true, true, true, false, false, false, false, false] ?_
           refine mpu 30 43 HT_.out #[true, true, true, true, true, true, true, true, true, true, true, true, true, true, true, true, true, true, true, true, true, true, true, true, true, true, false, true, true, true, true, false, false, false, false] ?_
           refine mpt 26 39 HT_.out HW_.out (mb 31 4) hHeld ?_
           refine mpt 31 44 HT_.out HW_.out (mb 32 3) hHeld ?_
           refine mpu 32 45 HT_.out (mb 33 2) ?_
           refine mpu 33 46 HT_.out (mb 34 1) ?_
           refine mpu 34 47 HT_.out (mb 35 0) ?_
           refine done_ (done_of HT_.out (by kernel_rfl)) ?_
           try go_wp2
           go_meet
           case rel => exact ⟨_, (!(Op.bytesLess (((rd_T126 l1 (ji14)).f0).toList) (((rd_T126 l1 x5_1).f0).toList))), (by first | rfl | (simp; done) | (simp only [← hji14] <;> (first | rfl | simp)) | (simp [*]; done)), H', ⟨by have := HK1.out; first | omega | exact Nat.le_refl _⟩, ⟨by (with_reducible repeat (first | refine blk_drewN ?_ _ | refine blk_drew ?_ | refine blk_alloc ?_ _)); exact BK186.out⟩, ⟨(mH1 HB.out GE186.out)⟩⟩
          ·rw [if_neg c16] at H
           exact absurd H (by simp)
         ·rw [if_neg c15] at H
          exact absurd H (by simp)
        ·rw [if_neg c13] at H
         have c13b0 : decide (0 < x5_1) = false := decide_eq_false c13
         clear c13
         have H' := mS H
         clear H
         try go_wp2
         have n0_ := mS (blk_drew BK186.out)
         have n1_ := mS (below_drew1 HB.out)
         clear BK186
         clear HB
         have BK186 := n0_
         have HB := n1_
         clear n0_ n1_
         have p187 : 0 ≤ (x5_1 : Int) := of_decide_eq_true (by first | (with_reducible assumption) | assumption)
         have q187 : x5_1 < (l1.length : Int) := of_decide_eq_true (by first | (with_reducible assumption) | assumption)
         obtain ⟨ad187, e187, hx187_0, hx187_1⟩ := at_T126 HR1.out x5_1 p187 q187
         have hw187_1 := hx187_1
         have hw187_0 := hx187_0
         cases e187
         replace hx187_0 := mX HB.out hx187_0
         replace hx187_1 := mX HB.out hx187_1
         replace p187 := eq_true p187
         replace q187 := eq_true q187
         have p189 : 0 ≤ (x5_1 : Int) := of_decide_eq_true (by first | (with_reducible assumption) | assumption)
         have q189 : x5_1 < (l1.length : Int) := of_decide_eq_true (by first | (with_reducible assumption) | assumption)
         obtain ⟨ad189, e189, hx189_0, hx189_1⟩ := at_T126 HR1.out x5_1 p189 q189
         have hw189_1 := hx189_1
         have hw189_0 := hx189_0
         obtain rfl : ad187 = ad189 := (by injection e189)
         replace hx189_0 := mX HB.out hx189_0
         replace hx189_1 := mX HB.out hx189_1
         replace p189 := eq_true p189
         replace q189 := eq_true q189
         refine start_ (n := 35) (S := fun w' => w'.cell? ⟨gb186, 0, none⟩ = some (.slice A0_0 l0_0.length c0_0) ∧ w'.cell? ⟨gb186, 1, none⟩ = some (.slice A0_1 l0_1.length c0_1) ∧ w'.cell? ⟨gb186, 2, none⟩ = some (.slice A0_2 l0_2.length c0_2) ∧ w'.cell? ⟨gb186, 3, none⟩ = some (.int .i64 a0_3) ∧ w'.cell? (ad187.add ((x5_1).toNat * 2)) = some (.string ((rd_T126 l1 x5_1).f0)) ∧ w'.cell? ⟨(ad187.add ((x5_1).toNat * 2)).block, (ad187.add ((x5_1).toNat * 2)).off + 1, none⟩ = some (.int .i64 ((rd_T126 l1 x5_1).f1)) ∧ w'.cell? (ad187.add ((x5_1).toNat * 2)) = some (.string ((rd_T126 l1 x5_1).f0)) ∧ w'.cell? ⟨(ad187.add ((x5_1).toNat * 2)).block, (ad187.add ((x5_1).toNat * 2)).off + 1, none⟩ = some (.int .i64 ((rd_T126 l1 x5_1).f1))) (ds := []) (mb 0 35) (by kernel_rfl) rfl rfl ⟨mZ BK186.out 0, mZ BK186.out 1, mZ BK186.out 2, mZ BK186.out 3, ((HB.out.cell (World.block_lt_of_cell? w _ hw187_0)).trans hw187_0), ((HB.out.cell (World.block_lt_of_cell? w _ hw187_1)).trans hw187_1), ((HB.out.cell (World.block_lt_of_cell? w _ hw189_0)).trans hw189_0), ((HB.out.cell (World.block_lt_of_cell? w _ hw189_1)).trans hw189_1)⟩ (fun hHeld => ?_); refine with_tabW spec_l2Entries.tab4 spec_l2Entries.bits4 (fun HT_ HW_ => ?_)
         generalize wr.drew = w19 at BK186 HB hx187_0 hx187_1 hx189_0 hx189_1 hHeld ⊢
         refine mpu 0 13 HT_.out (mb 1 34) ?_
         refine mpu 1 14 HT_.out (mb 2 33) ?_
         refine mpu 2 15 HT_.out (mb 3 32) ?_
         refine mpu 3 16 HT_.out (mb 4 31) ?_
         refine mpt 4 17 HT_.out HW_.out (mb 5 30) hHeld ?_
         refine one_ (i := 5) (N := some 18) (mb 6 29) rfl rfl (one_of HT_.out (by kernel_rfl)) (by decide) (fun K hK => ?_)
         refine goes_ Try.func121 (by kernel_rfl) rfl #[.string ((rd_T126 l1 x5_1).f0)] (by rfl) rfl rfl mA ?_
         with_reducible refine (spec_l2Name.calls k1 ((rd_T126 l1 x5_1).f0) true _ A7.out).mono ?_
         rintro e w' ⟨rfl, ⟨nd, rfl⟩⟩
         refine ⟨_, rfl, ?_⟩
         refine hK.out _ _ ⟨mZ BK186.out 0, mZ BK186.out 1, mZ BK186.out 2, mZ BK186.out 3, ((HB.out.cell (World.block_lt_of_cell? w _ hw187_0)).trans hw187_0), ((HB.out.cell (World.block_lt_of_cell? w _ hw187_1)).trans hw187_1), ((HB.out.cell (World.block_lt_of_cell? w _ hw189_0)).trans hw189_0), ((HB.out.cell (World.block_lt_of_cell? w _ hw189_1)).trans hw189_1)⟩ (fun hHeld => ?_)
         clear hK K
         refine norm_ (a' := ?_) ?_ ?_
         rotate_left
         ·show Act.put _ (some 18) _ = _
          simp only [Act.put, zA, zB, zC, i64_w, i32_w]
          rfl
         refine mpu 6 19 HT_.out (mb 7 28) ?_
         refine mpu 7 20 HT_.out (mb 8 27) ?_
         refine mpu 9 22 HT_.out #[true, true, true, true, true, true, true, true, false, true, false, false, false, false, false, false, false, false, false, false, false, false, false, false, false, false, false, false, false, false, false, false, false, false, false] ?_
         refine mpu 10 23 HT_.out #[true, true, true, true, true, true, true, true, false, true, true, false, false, false, false, false, false, false, false, false, false, false, false, false, false, false, false, false, false, false, false, false, false, false, false] ?_
         refine mpu 11 24 HT_.out #[true, true, true, true, true, true, true, true, false, true, true, true, false, false, false, false, false, false, false, false, false, false, false, false, false, false, false, false, false, false, false, false, false, false, false] ?_
         refine mpu 12 25 HT_.out #[true, true, true, true, true, true, true, true, false, true, true, true, true, false, false, false, false, false, false, false, false, false, false, false, false, false, false, false, false, false, false, false, false, false, false] ?_
         refine mpt 8 21 HT_.out HW_.out (mb 13 22) hHeld ?_
         refine mpt 13 26 HT_.out HW_.out (mb 14 21) hHeld ?_
         refine one_ (i := 14) (N := some 27) (mb 15 20) rfl rfl (one_of HT_.out (by kernel_rfl)) (by decide) (fun K hK => ?_)
         refine goes_ Try.func103 (by kernel_rfl) rfl #[.agg #[.slice A0_0 l0_0.length c0_0, .slice A0_1 l0_1.length c0_1, .slice A0_2 l0_2.length c0_2, .int .i64 a0_3], .int .i64 ((rd_T126 l1 x5_1).f1)] (by rfl) rfl rfl mA ?_
         with_reducible refine (spec_l2Inode.calls k1 _ _ l0_0 _ _ l0_1 _ _ l0_2 a0_3 ((rd_T126 l1 x5_1).f1) t190 _ ?side1 ?side2 ?side3 ?side4 ?side5 ?side6 A9.out).mono ?_
         (case side1 => repeat (first | exact (Kd.C_below HR0_0.out (mH1 HB.out GE186.out)) | (with_reducible refine Kd.C_alloc ?_ _) | (with_reducible refine Kd.C_drewN ?_ _) | (with_reducible refine Kd.C_drew ?_)))
         (case side2 => exact HC0_0.out)
         (case side3 => repeat (first | exact (Kd.C_below HR0_1.out (mH1 HB.out GE186.out)) | (with_reducible refine Kd.C_alloc ?_ _) | (with_reducible refine Kd.C_drewN ?_ _) | (with_reducible refine Kd.C_drew ?_)))
         (case side4 => exact HC0_1.out)
         (case side5 => repeat (first | exact (Kd.C_below HR0_2.out (mH1 HB.out GE186.out)) | (with_reducible refine Kd.C_alloc ?_ _) | (with_reducible refine Kd.C_drewN ?_ _) | (with_reducible refine Kd.C_drew ?_)))
         (case side6 => exact HC0_2.out)
         rintro e w20 ⟨rfl, hb⟩
         refine ⟨_, rfl, ?_⟩
         have n0_ := mB BK186 hb
         have n1_ := mS (below_step (mH1 HB.out GE186.out) hb)
         clear BK186
         clear HB
         have BK186 := n0_
         have HB := n1_
         clear n0_ n1_
         (try clear hb)
         (try clear hb2)
         (try clear hk)
         (try clear hi)
         refine hK.out _ _ ⟨mZ BK186.out 0, mZ BK186.out 1, mZ BK186.out 2, mZ BK186.out 3, ((HB.out.cell (World.block_lt_of_cell? w _ hw187_0)).trans hw187_0), ((HB.out.cell (World.block_lt_of_cell? w _ hw187_1)).trans hw187_1), ((HB.out.cell (World.block_lt_of_cell? w _ hw189_0)).trans hw189_0), ((HB.out.cell (World.block_lt_of_cell? w _ hw189_1)).trans hw189_1)⟩ (fun hHeld => ?_)
         clear hK K
         refine norm_ (a' := ?_) ?_ ?_
         rotate_left
         ·show Act.put _ (some 27) _ = _
          simp only [Act.put, zA, zB, zC, i64_w, i32_w]
          rfl
         refine mpu 15 28 HT_.out (mb 16 19) ?_
         refine mpu 16 29 HT_.out (mb 17 18) ?_
         refine mpu 17 30 HT_.out (mb 18 17) ?_
         refine mpu 18 31 HT_.out (mb 19 16) ?_
         refine mpu 19 32 HT_.out (mb 20 15) ?_
         refine mpu 20 33 HT_.out (mb 21 14) ?_
         refine mpf 21 34 HT_.out (mb 22 13) ?_
         refine mpf 22 35 HT_.out (mb 23 12) ?_
         refine mpf 23 36 HT_.out (mb 24 11) ?_
         refine mpf 24 37 HT_.out (mb 25 10) ?_
         refine mpf 25 38 HT_.out (mb 26 9) ?_
         refine mpf 26 39 HT_.out (mb 27 8) ?_
         refine mpf 27 40 HT_.out (mb 28 7) ?_
         refine mpf 28 41 HT_.out (mb 29 6) ?_
         refine mpf 29 42 HT_.out (mb 30 5) ?_
         refine mpf 30 43 HT_.out (mb 31 4) ?_
         refine mpf 31 44 HT_.out (mb 32 3) ?_
         refine mpf 32 45 HT_.out (mb 33 2) ?_
         refine mpu 33 46 HT_.out (mb 34 1) ?_
         refine mpu 34 47 HT_.out (mb 35 0) ?_
         refine done_ (done_of HT_.out (by kernel_rfl)) ?_
         try go_wp2
         go_meet
         case rel => exact ⟨_, (false), (by first | rfl | (simp; done) | (simp [*]; done)), H', ⟨by have := HK1.out; first | omega | exact Nat.le_refl _⟩, ⟨by (with_reducible repeat (first | refine blk_drewN ?_ _ | refine blk_drew ?_ | refine blk_alloc ?_ _)); exact BK186.out⟩, ⟨(mH1 HB.out GE186.out)⟩⟩
      ·replace c8 := Bool.eq_false_iff.mpr c8
       subst c8
       have H1 : (spec_l2Entries.j1 k1 l1 x5_1 true l0_0 l0_1 l0_2 a0_3) = some r := by rw [if_neg (show ¬ (false = true) by decide)] at H; exact H
       clear H
       have H := H1
       clear H1
       have H' := mS H
       clear H
       try go_wp2
       have n0_ := mS (blk_drew BK186.out)
       have n1_ := mS (below_drew1 HB.out)
       clear BK186
       clear HB
       have BK186 := n0_
       have HB := n1_
       clear n0_ n1_
       have p187 : 0 ≤ (x5_1 : Int) := of_decide_eq_true (by first | (with_reducible assumption) | assumption)
       have q187 : x5_1 < (l1.length : Int) := of_decide_eq_true (by first | (with_reducible assumption) | assumption)
       obtain ⟨ad187, e187, hx187_0, hx187_1⟩ := at_T126 HR1.out x5_1 p187 q187
       have hw187_1 := hx187_1
       have hw187_0 := hx187_0
       cases e187
       replace hx187_0 := mX HB.out hx187_0
       replace hx187_1 := mX HB.out hx187_1
       replace p187 := eq_true p187
       replace q187 := eq_true q187
       refine start_ (n := 35) (S := fun w' => w'.cell? (ad187.add ((x5_1).toNat * 2)) = some (.string ((rd_T126 l1 x5_1).f0)) ∧ w'.cell? ⟨(ad187.add ((x5_1).toNat * 2)).block, (ad187.add ((x5_1).toNat * 2)).off + 1, none⟩ = some (.int .i64 ((rd_T126 l1 x5_1).f1))) (ds := []) (mb 0 35) (by kernel_rfl) rfl rfl ⟨((HB.out.cell (World.block_lt_of_cell? w _ hw187_0)).trans hw187_0), ((HB.out.cell (World.block_lt_of_cell? w _ hw187_1)).trans hw187_1)⟩ (fun hHeld => ?_); refine with_tabW spec_l2Entries.tab4 spec_l2Entries.bits4 (fun HT_ HW_ => ?_)
       generalize wr.drew = w21 at BK186 HB hx187_0 hx187_1 hHeld ⊢
       refine mpu 0 13 HT_.out (mb 1 34) ?_
       refine mpu 1 14 HT_.out (mb 2 33) ?_
       refine mpu 2 15 HT_.out (mb 3 32) ?_
       refine mpu 3 16 HT_.out (mb 4 31) ?_
       refine mpt 4 17 HT_.out HW_.out (mb 5 30) hHeld ?_
       refine one_ (i := 5) (N := some 18) (mb 6 29) rfl rfl (one_of HT_.out (by kernel_rfl)) (by decide) (fun K hK => ?_)
       refine goes_ Try.func121 (by kernel_rfl) rfl #[.string ((rd_T126 l1 x5_1).f0)] (by rfl) rfl rfl mA ?_
       with_reducible refine (spec_l2Name.calls k1 ((rd_T126 l1 x5_1).f0) false _ A7.out).mono ?_
       rintro e w' ⟨rfl, ⟨nd, rfl⟩⟩
       refine ⟨_, rfl, ?_⟩
       refine hK.out _ _ ⟨((HB.out.cell (World.block_lt_of_cell? w _ hw187_0)).trans hw187_0), ((HB.out.cell (World.block_lt_of_cell? w _ hw187_1)).trans hw187_1)⟩ (fun hHeld => ?_)
       clear hK K
       refine norm_ (a' := ?_) ?_ ?_
       rotate_left
       ·show Act.put _ (some 18) _ = _
        simp only [Act.put, zA, zB, zC, i64_w, i32_w]
        rfl
       refine mpu 6 19 HT_.out (mb 7 28) ?_
       refine mpu 7 20 HT_.out (mb 8 27) ?_
       refine mpf 8 21 HT_.out (mb 9 26) ?_
       refine mpf 9 22 HT_.out (mb 10 25) ?_
       refine mpf 10 23 HT_.out (mb 11 24) ?_
       refine mpf 11 24 HT_.out (mb 12 23) ?_
       refine mpf 12 25 HT_.out (mb 13 22) ?_
       refine mpf 13 26 HT_.out (mb 14 21) ?_
       refine mpf 14 27 HT_.out (mb 15 20) ?_
       refine mpf 15 28 HT_.out (mb 16 19) ?_
       refine mpu 16 29 HT_.out (mb 17 18) ?_
       refine mpu 17 30 HT_.out (mb 18 17) ?_
       refine mpf 18 31 HT_.out (mb 19 16) ?_
       refine mpf 19 32 HT_.out (mb 20 15) ?_
       refine mpf 20 33 HT_.out (mb 21 14) ?_
       refine mpf 21 34 HT_.out (mb 22 13) ?_
       refine mpf 22 35 HT_.out (mb 23 12) ?_
       refine mpf 23 36 HT_.out (mb 24 11) ?_
       refine mpf 24 37 HT_.out (mb 25 10) ?_
       refine mpf 25 38 HT_.out (mb 26 9) ?_
       refine mpf 26 39 HT_.out (mb 27 8) ?_
       refine mpf 27 40 HT_.out (mb 28 7) ?_
       refine mpf 28 41 HT_.out (mb 29 6) ?_
       refine mpf 29 42 HT_.out (mb 30 5) ?_
       refine mpf 30 43 HT_.out (mb 31 4) ?_
       refine mpf 31 44 HT_.out (mb 32 3) ?_
       refine mpf 32 45 HT_.out (mb 33 2) ?_
       refine mpf 33 46 HT_.out (mb 34 1) ?_
       refine mpu 34 47 HT_.out (mb 35 0) ?_
       refine done_ (done_of HT_.out (by kernel_rfl)) ?_
       try go_wp2
       go_meet
       case rel => exact ⟨_, (true), (by first | rfl | (simp; done) | (simp [*]; done)), H', ⟨by have := HK1.out; first | omega | exact Nat.le_refl _⟩, ⟨by (with_reducible repeat (first | refine blk_drewN ?_ _ | refine blk_drew ?_ | refine blk_alloc ?_ _)); exact BK186.out⟩, ⟨(mH1 HB.out GE186.out)⟩⟩
     ·rw [if_neg c6] at H
      exact absurd H (by simp)
    case rest =>
     clear HC5
     try clear c1
     try clear p1
     try clear q1
     try clear hx1
     try clear p2
     try clear c6
     try clear c8
     try clear c10
     try clear c12
     try clear c13
     try clear c13b0
     try clear c15
     try clear c16
     try clear p18
     try clear q18
     try clear hx18
     try clear hx187_0
     try clear hx187_1
     try clear hx189_0
     try clear hx189_1
     try clear p187
     try clear p189
     try clear q187
     try clear q189
     obtain ⟨kq, x47_4, rfl, HA, HJ4, BK186, HB⟩ := hcut
     cases kq with
     | zero => exact absurd HA.out (by simp [spec_l2Entries.j1])
     | succ kj4 =>
      have H := HA.out
      clear HA
      simp only [spec_l2Entries.j1] at H
      by_cases c22 : x47_4 = true
      ·subst c22
       have H1 : (some false) = some r := by rw [if_pos rfl] at H; exact H
       clear H
       have H := H1
       clear H1
       obtain rfl := Option.some.inj H
       go_wp2
       go_ret
       exact ⟨by first | rfl | (simp [errW_none, errW_some] <;> rfl) | (simp [*, errW_none, errW_some] <;> rfl), (mH1 HB.out GE186.out)⟩
      ·replace c22 := Bool.eq_false_iff.mpr c22
       subst c22
       have H1 : (spec_l2Entries.l1 kj4 l1 x5_1 0 l0_0 l0_1 l0_2 a0_3) = some r := by rw [if_neg (show ¬ (false = true) by decide)] at H; exact H
       clear H
       have H := H1
       clear H1
       have H' := mS H
       clear H
       go_wp2
       go_loopg [6] kj4 (fun kq v6 w' => ∃ (x6_3 : Int), v6 = .int .i64 x6_3 ∧ Aside0 (spec_l2Entries.l1 kq l1 x5_1 x6_3 l0_0 l0_1 l0_2 a0_3 = some r) ∧ Aside0 (kq ≤ kj4) ∧ Aside0 (w'.heap[gb186]? = some (.cells #[(.slice A0_0 l0_0.length c0_0), (.slice A0_1 l0_1.length c0_1), (.slice A0_2 l0_2.length c0_2), .int .i64 a0_3] 63 (0, 0))) ∧ Aside0 (Below w.heap.size w w'))
       case atStart => exact ⟨(0), (by first | rfl | (simp; done) | (simp [*]; done)), H', ⟨Nat.le_refl _⟩, ⟨by (with_reducible repeat (first | refine blk_drewN ?_ _ | refine blk_drew ?_ | refine blk_alloc ?_ _)); exact BK186.out⟩, ⟨(mH1 HB.out GE186.out)⟩⟩
       case round =>
        clear H'
        try clear c1
        try clear p1
        try clear q1
        try clear hx1
        try clear c2
        try clear p2
        try clear c6
        try clear c8
        try clear c10
        try clear c12
        try clear c13
        try clear c13b0
        try clear c15
        try clear c16
        try clear p18
        try clear q18
        try clear hx18
        try clear c22
        try clear hx187_0
        try clear hx187_1
        try clear hx189_0
        try clear hx189_1
        try clear p1
        try clear p18
        try clear p187
        try clear p189
        try clear p2
        try clear q1
        try clear q18
        try clear q187
        try clear q189
        obtain ⟨x6_3, rfl, HA, HK3, BK186, HB⟩ := hrel
        cases gk with
        | zero => exact absurd HA.out (by simp [spec_l2Entries.l1])
        | succ k3 =>
         have H := HA.out
         clear HA
         simp only [spec_l2Entries.l1] at H
         by_cases c23 : x6_3 < x5_1
         ·rw [if_pos c23] at H
          have c23b0 : decide (x6_3 < x5_1) = true := decide_eq_true c23
          clear c23
          by_cases c24 : 0 ≤ x6_3
          ·rw [if_pos c24] at H
           have c24b0 : decide (0 ≤ x6_3) = true := decide_eq_true c24
           clear c24
           by_cases c25 : x6_3 < (l1.length : Int)
           ·rw [if_pos c25] at H
            have c25b0 : decide (x6_3 < (l1.length : Int)) = true := decide_eq_true c25
            clear c25
            by_cases c26 : 0 ≤ x5_1
            ·rw [if_pos c26] at H
             have c26b0 : decide (0 ≤ x5_1) = true := decide_eq_true c26
             clear c26
             by_cases c27 : x5_1 < (l1.length : Int)
             ·rw [if_pos c27] at H
              have c27b0 : decide (x5_1 < (l1.length : Int)) = true := decide_eq_true c27
              clear c27
              by_cases c28 : ((rd_T126 l1 x6_3).f1) = ((rd_T126 l1 x5_1).f1)
              ·rw [if_pos c28] at H
               have c28b0 : (((rd_T126 l1 x6_3).f1) == ((rd_T126 l1 x5_1).f1)) = true := beq_iff_eq.mpr c28
               have c28b1 : (((rd_T126 l1 x6_3).f1) != ((rd_T126 l1 x5_1).f1)) = false := bne_eq_false_iff_eq.mpr c28
               clear c28
               obtain rfl := Option.some.inj H
               try go_wp2
               have n0_ := mS (blk_drew BK186.out)
               have n1_ := mS (below_drew1 HB.out)
               clear BK186
               clear HB
               have BK186 := n0_
               have HB := n1_
               clear n0_ n1_
               have p193 : 0 ≤ (x6_3 : Int) := of_decide_eq_true (by first | (with_reducible assumption) | assumption)
               have q193 : x6_3 < (l1.length : Int) := of_decide_eq_true (by first | (with_reducible assumption) | assumption)
               obtain ⟨ad193, e193, hx193_0, hx193_1⟩ := at_T126 HR1.out x6_3 p193 q193
               have hw193_1 := hx193_1
               have hw193_0 := hx193_0
               cases e193
               replace hx193_0 := mX HB.out hx193_0
               replace hx193_1 := mX HB.out hx193_1
               replace p193 := eq_true p193
               replace q193 := eq_true q193
               have p194 : 0 ≤ (x5_1 : Int) := of_decide_eq_true (by first | (with_reducible assumption) | assumption)
               have q194 : x5_1 < (l1.length : Int) := of_decide_eq_true (by first | (with_reducible assumption) | assumption)
               obtain ⟨ad194, e194, hx194_0, hx194_1⟩ := at_T126 HR1.out x5_1 p194 q194
               have hw194_1 := hx194_1
               have hw194_0 := hx194_0
               obtain rfl : ad193 = ad194 := (by injection e194)
               replace hx194_0 := mX HB.out hx194_0
               replace hx194_1 := mX HB.out hx194_1
               replace p194 := eq_true p194
               replace q194 := eq_true q194
               refine start_ (n := 11) (S := fun w' => w'.cell? (ad193.add ((x6_3).toNat * 2)) = some (.string ((rd_T126 l1 x6_3).f0)) ∧ w'.cell? ⟨(ad193.add ((x6_3).toNat * 2)).block, (ad193.add ((x6_3).toNat * 2)).off + 1, none⟩ = some (.int .i64 ((rd_T126 l1 x6_3).f1)) ∧ w'.cell? (ad193.add ((x5_1).toNat * 2)) = some (.string ((rd_T126 l1 x5_1).f0)) ∧ w'.cell? ⟨(ad193.add ((x5_1).toNat * 2)).block, (ad193.add ((x5_1).toNat * 2)).off + 1, none⟩ = some (.int .i64 ((rd_T126 l1 x5_1).f1))) (ds := []) (mb 0 11) (by kernel_rfl) rfl rfl ⟨((HB.out.cell (World.block_lt_of_cell? w _ hw193_0)).trans hw193_0), ((HB.out.cell (World.block_lt_of_cell? w _ hw193_1)).trans hw193_1), ((HB.out.cell (World.block_lt_of_cell? w _ hw194_0)).trans hw194_0), ((HB.out.cell (World.block_lt_of_cell? w _ hw194_1)).trans hw194_1)⟩ (fun hHeld => ?_); refine with_tabW spec_l2Entries.tab9 spec_l2Entries.bits9 (fun HT_ HW_ => ?_)
               generalize wr.drew = w29 at BK186 HB hx193_0 hx193_1 hx194_0 hx194_1 hHeld ⊢
               refine mpu 0 53 HT_.out (mb 1 10) ?_
               refine mpu 1 54 HT_.out (mb 2 9) ?_
               refine mpu 2 55 HT_.out (mb 3 8) ?_
               refine mpu 3 56 HT_.out (mb 4 7) ?_
               refine mpu 5 58 HT_.out #[true, true, true, true, false, true, false, false, false, false, false] ?_
               refine mpu 6 59 HT_.out #[true, true, true, true, false, true, true, false, false, false, false] ?_
               refine mpu 7 60 HT_.out #[true, true, true, true, false, true, true, true, false, false, false] ?_
               refine mpu 8 61 HT_.out #[true, true, true, true, false, true, true, true, true, false, false] ?_
               refine mpt 4 57 HT_.out HW_.out (mb 9 2) hHeld ?_
               refine mpt 9 62 HT_.out HW_.out (mb 10 1) hHeld ?_
               refine mpu 10 63 HT_.out (mb 11 0) ?_
               refine done_ (done_of HT_.out (by kernel_rfl)) ?_
               try go_wp2
               go_ret
               exact ⟨by first | rfl | (simp [errW_none, errW_some] <;> rfl) | (simp [*, errW_none, errW_some] <;> rfl), (mH1 HB.out GE186.out)⟩
              ·rw [if_neg c28] at H
               have c28b0 : (((rd_T126 l1 x6_3).f1) == ((rd_T126 l1 x5_1).f1)) = false := beq_eq_false_iff_ne.mpr c28
               have c28b1 : (((rd_T126 l1 x6_3).f1) != ((rd_T126 l1 x5_1).f1)) = true := bne_iff_ne.mpr c28
               have H' := mS H
               clear H
               try go_wp2
               have n0_ := mS (blk_drew BK186.out)
               have n1_ := mS (below_drew1 HB.out)
               clear BK186
               clear HB
               have BK186 := n0_
               have HB := n1_
               clear n0_ n1_
               have p193 : 0 ≤ (x6_3 : Int) := of_decide_eq_true (by first | (with_reducible assumption) | assumption)
               have q193 : x6_3 < (l1.length : Int) := of_decide_eq_true (by first | (with_reducible assumption) | assumption)
               obtain ⟨ad193, e193, hx193_0, hx193_1⟩ := at_T126 HR1.out x6_3 p193 q193
               have hw193_1 := hx193_1
               have hw193_0 := hx193_0
               cases e193
               replace hx193_0 := mX HB.out hx193_0
               replace hx193_1 := mX HB.out hx193_1
               replace p193 := eq_true p193
               replace q193 := eq_true q193
               have p194 : 0 ≤ (x5_1 : Int) := of_decide_eq_true (by first | (with_reducible assumption) | assumption)
               have q194 : x5_1 < (l1.length : Int) := of_decide_eq_true (by first | (with_reducible assumption) | assumption)
               obtain ⟨ad194, e194, hx194_0, hx194_1⟩ := at_T126 HR1.out x5_1 p194 q194
               have hw194_1 := hx194_1
               have hw194_0 := hx194_0
               obtain rfl : ad193 = ad194 := (by injection e194)
               replace hx194_0 := mX HB.out hx194_0
               replace hx194_1 := mX HB.out hx194_1
               replace p194 := eq_true p194
               replace q194 := eq_true q194
               refine start_ (n := 11) (S := fun w' => w'.cell? (ad193.add ((x6_3).toNat * 2)) = some (.string ((rd_T126 l1 x6_3).f0)) ∧ w'.cell? ⟨(ad193.add ((x6_3).toNat * 2)).block, (ad193.add ((x6_3).toNat * 2)).off + 1, none⟩ = some (.int .i64 ((rd_T126 l1 x6_3).f1)) ∧ w'.cell? (ad193.add ((x5_1).toNat * 2)) = some (.string ((rd_T126 l1 x5_1).f0)) ∧ w'.cell? ⟨(ad193.add ((x5_1).toNat * 2)).block, (ad193.add ((x5_1).toNat * 2)).off + 1, none⟩ = some (.int .i64 ((rd_T126 l1 x5_1).f1))) (ds := []) (mb 0 11) (by kernel_rfl) rfl rfl ⟨((HB.out.cell (World.block_lt_of_cell? w _ hw193_0)).trans hw193_0), ((HB.out.cell (World.block_lt_of_cell? w _ hw193_1)).trans hw193_1), ((HB.out.cell (World.block_lt_of_cell? w _ hw194_0)).trans hw194_0), ((HB.out.cell (World.block_lt_of_cell? w _ hw194_1)).trans hw194_1)⟩ (fun hHeld => ?_); refine with_tabW spec_l2Entries.tab9 spec_l2Entries.bits9 (fun HT_ HW_ => ?_)
               generalize wr.drew = w30 at BK186 HB hx193_0 hx193_1 hx194_0 hx194_1 hHeld ⊢
               refine mpu 0 53 HT_.out (mb 1 10) ?_
               refine mpu 1 54 HT_.out (mb 2 9) ?_
               refine mpu 2 55 HT_.out (mb 3 8) ?_
               refine mpu 3 56 HT_.out (mb 4 7) ?_
               refine mpu 5 58 HT_.out #[true, true, true, true, false, true, false, false, false, false, false] ?_
               refine mpu 6 59 HT_.out #[true, true, true, true, false, true, true, false, false, false, false] ?_
               refine mpu 7 60 HT_.out #[true, true, true, true, false, true, true, true, false, false, false] ?_
               refine mpu 8 61 HT_.out #[true, true, true, true, false, true, true, true, true, false, false] ?_
               refine mpt 4 57 HT_.out HW_.out (mb 9 2) hHeld ?_
               refine mpt 9 62 HT_.out HW_.out (mb 10 1) hHeld ?_
               refine mpu 10 63 HT_.out (mb 11 0) ?_
               refine done_ (done_of HT_.out (by kernel_rfl)) ?_
               try go_wp2
               go_roundg k3
               case measure => have := HK1.out; have := HJ4.out; have := HK3.out; omega
               case rel => exact ⟨(wrap64 (x6_3 + 1)), (by first | rfl | (simp; done) | (simp [*]; done)), H', ⟨by have := HK1.out; have := HJ4.out; have := HK3.out; omega⟩, ⟨by (with_reducible repeat (first | refine blk_drewN ?_ _ | refine blk_drew ?_ | refine blk_alloc ?_ _)); exact BK186.out⟩, ⟨(mH1 HB.out GE186.out)⟩⟩
             ·rw [if_neg c27] at H
              exact absurd H (by simp)
            ·rw [if_neg c26] at H
             exact absurd H (by simp)
           ·rw [if_neg c25] at H
            exact absurd H (by simp)
          ·rw [if_neg c24] at H
           exact absurd H (by simp)
         ·rw [if_neg c23] at H
          have c23b0 : decide (x6_3 < x5_1) = false := decide_eq_false c23
          clear c23
          have H' := mS H
          clear H
          go_wp2
          go_roundg k3
          case measure => have := HK1.out; have := HJ4.out; have := HK3.out; omega
          case rel => exact ⟨(wrap64 (x5_1 + 1)), (by first | rfl | (simp; done) | (simp [*]; done)), H', ⟨by have := HK1.out; have := HJ4.out; have := HK3.out; omega⟩, ⟨by (with_reducible repeat (first | refine blk_drewN ?_ _ | refine blk_drew ?_ | refine blk_alloc ?_ _)); exact BK186.out⟩, ⟨(mH1 HB.out GE186.out)⟩⟩
   ·rw [if_neg c4] at H
    have c4b0 : decide (x5_1 < (l1.length : Int)) = false := decide_eq_false c4
    clear c4
    obtain rfl := Option.some.inj H
    go_wp2
    go_ret
    exact ⟨by first | rfl | (simp [errW_none, errW_some] <;> rfl) | (simp [*, errW_none, errW_some] <;> rfl), (mH1 HB.out GE186.out)⟩

end Go.Proofs.Ytgbejjeephipeaa.MFnExactBytes
