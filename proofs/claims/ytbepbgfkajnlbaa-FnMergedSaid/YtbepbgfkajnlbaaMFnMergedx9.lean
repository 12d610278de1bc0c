-- Written by mp.py, this session's own printer (wip/mp.py).
import Derived.Test.YtbepbgfkajnlbaaVMShort
import Derived.Test.YtbepbgfkajnlbaaMFnMergedx0
import Derived.Test.YtbepbgfkajnlbaaMFnMergedx2
namespace Go.Proofs.Ytbepbgfkajnlbaa.MFnMerged
open Go.RowKit Go.Proofs.YtbepbgfkajnlbaaW.PrintWords Go.Proofs.YtbepbgfkajnlbaaW.PrintLast Go.Proofs.YtbepbgfkajnlbaaW.PrintMore Go.Proofs.Ytbepbgfkajnlbaa.MWords
attribute [local go_sem] max2_int min2_int max_two min_two max_three min_three max_four min_four   -- for this text's walks alone
set_option linter.unusedVariables false
set_option linter.unusedSimpArgs false

/-! ### spec_MemOk: function 17 -/
mutual
def spec_MemOk.l0 : Nat → Int → List (S35) → Option (Bool)
 | 0, _, _ => none
 | k + 1, x3, x203000 => if x3 < (x203000.length : Int) then (if 0 ≤ x3 then ((spec_PairOk.f ((rd_T35 x203000 x3).f0.f0) ((rd_T35 x203000 x3).f0.f1) ((rd_T35 x203000 x3).f0.f2)).bind fun t205 => (if t205 = true then ((spec_l1In.f ((rd_T35 x203000 x3).f1) 1 4).bind fun t206 => (if t206 = true then (if x3 > 0 then (if 0 ≤ (wrap64 (x3 - 1)) then (if (wrap64 (x3 - 1)) < (x203000.length : Int) then (spec_MemOk.j1 k x3 (!(Op.bytesLess (((rd_T35 x203000 (wrap64 (x3 - 1))).f0.f0).toList) (((rd_T35 x203000 x3).f0.f0).toList))) x203000) else (none)) else (none)) else (spec_MemOk.j1 k x3 false x203000)) else (spec_MemOk.j1 k x3 true x203000))) else (spec_MemOk.j1 k x3 true x203000))) else (none)) else (some (decide ((x203000.length : Int) ≤ 60)))
def spec_MemOk.j1 : Nat → Int → Bool → List (S35) → Option (Bool)
 | 0, _, _, _ => none
 | k + 1, x3, x44, x203000 => if x44 = true then (some false) else (spec_MemOk.l0 k (wrap64 (x3 + 1)) x203000)
end
def spec_MemOk.f (k : Nat) (l0_0 : List (S35)) : Option (Bool) := spec_MemOk.l0 k 0 l0_0
theorem spec_MemOk.mono_l : ∀ k, (∀ y0 y1, LeO (spec_MemOk.l0 k y0 y1) (spec_MemOk.l0 (k + 1) y0 y1)) ∧ (∀ y0 y1 y2, LeO (spec_MemOk.j1 k y0 y1 y2) (spec_MemOk.j1 (k + 1) y0 y1 y2))
 | 0 => ⟨fun _ _ r h => by simp [spec_MemOk.l0] at h, fun _ _ _ r h => by simp [spec_MemOk.j1] at h⟩
 | k + 1 => by
  obtain ⟨ih0, ih1⟩ := spec_MemOk.mono_l k
  refine ⟨?_, ?_⟩
  ·intro y0 y1
   unfold spec_MemOk.l0
   repeat' first
   | (with_reducible exact ih0 _ _)
   | (with_reducible exact ih1 _ _ _)
   | (with_reducible exact LeO.refl _)
   | (with_reducible exact LeO.none _)
   | (with_reducible refine LeO.ite ?_ ?_)
   | (with_reducible refine LeO.bind ?_ (fun _ => ?_))
   | exact ih0 _ _
   | exact ih1 _ _ _
   | exact LeO.none _
   | refine LeO.ite ?_ ?_
   | refine LeO.bind ?_ (fun _ => ?_)
  ·intro y0 y1 y2
   unfold spec_MemOk.j1
   repeat' first
   | (with_reducible exact ih0 _ _)
   | (with_reducible exact ih1 _ _ _)
   | (with_reducible exact LeO.refl _)
   | (with_reducible exact LeO.none _)
   | (with_reducible refine LeO.ite ?_ ?_)
   | (with_reducible refine LeO.bind ?_ (fun _ => ?_))
   | exact ih0 _ _
   | exact ih1 _ _ _
   | exact LeO.none _
   | refine LeO.ite ?_ ?_
   | refine LeO.bind ?_ (fun _ => ?_)
theorem spec_MemOk.mono : ∀ a0 k, LeO (spec_MemOk.f k a0) (spec_MemOk.f (k + 1) a0) := by
 intro a0 k
 obtain ⟨ih0, ih1⟩ := spec_MemOk.mono_l k
 unfold spec_MemOk.f
 repeat' first
   | (with_reducible exact ih0 _ _)
   | (with_reducible exact ih1 _ _ _)
   | (with_reducible exact LeO.refl _)
   | (with_reducible exact LeO.none _)
   | (with_reducible refine LeO.ite ?_ ?_)
   | (with_reducible refine LeO.bind ?_ (fun _ => ?_))
   | exact ih0 _ _
   | exact ih1 _ _ _
   | exact LeO.none _
   | refine LeO.ite ?_ ?_
   | refine LeO.bind ?_ (fun _ => ?_)
def spec_MemOk.T5 : Bool × List (List Nat × List Nat) := (true, [([], []), ([0], [0]), ([1], [1]), ([2], [2]), ([3, 2], [3]), ([4], [4]), ([5, 4], [4, 5]), ([6, 4, 4], [4, 6]), ([7, 4], [4, 7]), ([4, 8], [4, 8]), ([9, 7], [9]), ([10], [10]), ([11, 10], [10, 11]), ([12, 10, 10], [10, 12]), ([13], [13]), ([14, 13], [13, 14]), ([13], [13]), ([16, 13], [13, 16]), ([15, 17, 13], [13, 15, 17]), ([18, 13], [13, 18]), ([19, 13], [13, 19]), ([20, 13], [13, 20]), ([13], [13]), ([22, 13], [13, 22]), ([23, 13], [13, 23]), ([21, 24, 13], [13, 21, 24]), ([13, 25, 10], [10, 13, 25]), ([10, 26], [10, 26])])
def spec_MemOk.B5 : List Nat := [0, 1, 3, 7, 15, 31, 63, 127, 255, 511, 1023, 2047, 4095, 8191, 16383, 32767, 16383, 81919, 262143, 524287, 1048575, 2097151, 16383, 4210687, 12599295, 33554431, 67108863, 134217727]
theorem spec_MemOk.tab5 : rtab .any (opsOf Try.f17 5) = spec_MemOk.T5 := by kernel_rfl
theorem spec_MemOk.bits5 : waitsOk spec_MemOk.T5.2 spec_MemOk.B5 = true := by kernel_rfl
set_option maxHeartbeats 8000000 in
set_option maxRecDepth 100000 in
theorem spec_MemOk.calls (k : Nat) (A0_0 : Option Addr) (c0_0 : Nat) (l0_0 : List (S35)) (r : Bool) (w : World) (hr0_0 : Kd.C k35 w A0_0 l0_0.length l0_0) (hc0_0 : l0_0.length ≤ c0_0) (h : spec_MemOk.f k l0_0 = some r) :
  Calls Try.prog 17 #[.agg #[.slice A0_0 l0_0.length c0_0]] w fun e w' => e = .returned (.bool r) ∧ Below w.heap.size w w' := by
 have hu26 := Try.underlying26
 have hu35 := Try.underlying35
 have hu33 := Try.underlying33
 have HR0_0 := mS hr0_0
 have HC0_0 := mS hc0_0
 clear hr0_0 hc0_0
 have HB := mS (Below.refl w.heap.size w)
 have H : (spec_MemOk.l0 k 0 l0_0) = some r := h
 clear h
 have H' := mS H
 clear H
 go_enter Try.func17, Try.ntmps17
 go_wp2_with (first | ((with_reducible refine gate_dst (N := 1) rfl ?_); refine box_event ?hg (N := 1) ?hd (cs := #[.slice A0_0 l0_0.length c0_0]) (t := 26) ?hr ?_; (case hd => rfl); (case hg => rfl); (case hr => first | (go_simp; done) | (go_simp; rfl)); intro gb202 hg w2 hbox hb; have BK202 := mS (hbox); have GW202 := mG hg (mH HB.out); have GE202 := mG hg (mH HB.out); replace HB := mS (below_step (mH HB.out) hb); clear hb hbox hg))
 go_loopg [3] k (fun kq v3 w' => ∃ (x3_1 : Int), v3 = .int .i64 x3_1 ∧ Aside0 (spec_MemOk.l0 kq x3_1 l0_0 = some r) ∧ Aside0 (kq ≤ k) ∧ Aside0 (w'.heap[gb202]? = some (.cells #[(.slice A0_0 l0_0.length c0_0)] 26 (0, 0))) ∧ Aside0 (Below w.heap.size w w'))
 case atStart => exact ⟨(0), (by first | rfl | (simp; done) | (simp [*]; done)), H', ⟨Nat.le_refl _⟩, ⟨by (with_reducible repeat (first | refine blk_drewN ?_ _ | refine blk_drew ?_ | refine blk_alloc ?_ _)); exact BK202.out⟩, ⟨(mH1 HB.out GE202.out)⟩⟩
 case round =>
  clear H'
  try clear c1
  try clear p2
  obtain ⟨x3_1, rfl, HA, HK1, BK202, HB⟩ := hrel
  cases gk with
  | zero => exact absurd HA.out (by simp [spec_MemOk.l0])
  | succ k1 =>
   have H := HA.out
   clear HA
   simp only [spec_MemOk.l0] at H
   by_cases c3 : x3_1 < (l0_0.length : Int)
   ·rw [if_pos c3] at H
    have c3b0 : decide (x3_1 < (l0_0.length : Int)) = true := decide_eq_true c3
    clear c3
    by_cases c4 : 0 ≤ x3_1
    ·rw [if_pos c4] at H
     have c4b0 : decide (0 ≤ x3_1) = true := decide_eq_true c4
     clear c4
     have HC5 := mS H
     clear H
     have hcz6_0 := mZ BK202.out 0
     have hfz6_0 := blk_frozen BK202.out 0
     have p203 : 0 ≤ (x3_1 : Int) := of_decide_eq_true (by first | (with_reducible assumption) | assumption)
     have q203 : x3_1 < (l0_0.length : Int) := of_decide_eq_true (by first | (with_reducible assumption) | assumption)
     obtain ⟨ad203, e203, hx203_0, hx203_1, hx203_2, hx203_3⟩ := at_T35 HR0_0.out x3_1 p203 q203
     cases e203
     replace hx203_0 := mX HB.out hx203_0
     replace hx203_1 := mX HB.out hx203_1
     replace hx203_2 := mX HB.out hx203_2
     replace hx203_3 := mX HB.out hx203_3
     replace p203 := eq_true p203
     replace q203 := eq_true q203
     go_upto_region 5 with (first | ((with_reducible refine gate_dst (N := 4) rfl ?_); refine box_event ?hg (N := 4) ?hd (cs := #[.string (⟨#[]⟩ : ByteArray), .string (⟨#[]⟩ : ByteArray), .bool false, .int .i64 0]) (t := 35) ?hr ?_; (case hd => rfl); (case hg => rfl); (case hr => first | (go_simp; done) | (go_simp; rfl)); intro gb204 hg w7 hbox hb; have BK204 := mS (hbox); have GW204 := mG hg (mH1 HB.out GE202.out); have GE204 := mG hg (mH1 HB.out GE202.out); replace HB := mS (below_step (mH1 HB.out GE202.out) hb); have NB202_204 := mNl hg BK202.out; have NB204_202 := mNg hg BK202.out; replace BK202 := mB BK202 hb; clear hb hbox hg; have hnb8 := NB204_202.out; have hnc8 := NB202_204.out; have hcz9_0 := mZ BK204.out 0; have hcz9_1 := mZ BK204.out 1; have hcz9_2 := mZ BK204.out 2; have hcz9_3 := mZ BK204.out 3; have hfz9_0 := blk_frozen BK204.out 0; have hfz9_1 := blk_frozen BK204.out 1; have hfz9_2 := blk_frozen BK204.out 2; have hfz9_3 := blk_frozen BK204.out 3))
     (try simp only [Act.put, zA, zB, zC])
     go_cut [44] (fun v44 wc => ∃ (kq : Nat) (x44_4 : Bool), v44 = .bool x44_4 ∧ Aside0 (spec_MemOk.j1 kq x3_1 x44_4 l0_0 = some r) ∧ Aside0 (kq ≤ k1) ∧ Aside0 (wc.heap[gb202]? = some (.cells #[(.slice (some ad203) l0_0.length c0_0)] 26 (0, 0))) ∧ Aside0 (wc.heap[gb204]? = some (.cells #[.string ((rd_T35 l0_0 x3_1).f0.f0), .string ((rd_T35 l0_0 x3_1).f0.f1), .bool ((rd_T35 l0_0 x3_1).f0.f2), .int .i64 ((rd_T35 l0_0 x3_1).f1)] 35 (0, 0))) ∧ Aside0 (Below w.heap.size w wc))
     case first =>
      have H := HC5.out
      clear HC5
      replace H := Option.bind_eq_some_iff.mp H
      obtain ⟨t205, A100, H⟩ := H
      replace H : (if t205 = true then ((spec_l1In.f ((rd_T35 l0_0 x3_1).f1) 1 4).bind fun t206 => (if t206 = true then (if x3_1 > 0 then (if 0 ≤ (wrap64 (x3_1 - 1)) then (if (wrap64 (x3_1 - 1)) < (l0_0.length : Int) then (spec_MemOk.j1 k1 x3_1 (!(Op.bytesLess (((rd_T35 l0_0 (wrap64 (x3_1 - 1))).f0.f0).toList) (((rd_T35 l0_0 x3_1).f0.f0).toList))) l0_0) else (none)) else (none)) else (spec_MemOk.j1 k1 x3_1 false l0_0)) else (spec_MemOk.j1 k1 x3_1 true l0_0))) else (spec_MemOk.j1 k1 x3_1 true l0_0)) = some r := H
      have A10 := mS A100
      clear A100
      by_cases c11 : t205 = true
      ·subst c11
       have H1 : ((spec_l1In.f ((rd_T35 l0_0 x3_1).f1) 1 4).bind fun t206 => (if t206 = true then (if x3_1 > 0 then (if 0 ≤ (wrap64 (x3_1 - 1)) then (if (wrap64 (x3_1 - 1)) < (l0_0.length : Int) then (spec_MemOk.j1 k1 x3_1 (!(Op.bytesLess (((rd_T35 l0_0 (wrap64 (x3_1 - 1))).f0.f0).toList) (((rd_T35 l0_0 x3_1).f0.f0).toList))) l0_0) else (none)) else (none)) else (spec_MemOk.j1 k1 x3_1 false l0_0)) else (spec_MemOk.j1 k1 x3_1 true l0_0))) = some r := by rw [if_pos rfl] at H; exact H
       clear H
       have H := H1
       clear H1
       replace H := Option.bind_eq_some_iff.mp H
       obtain ⟨t206, A120, H⟩ := H
       replace H : (if t206 = true then (if x3_1 > 0 then (if 0 ≤ (wrap64 (x3_1 - 1)) then (if (wrap64 (x3_1 - 1)) < (l0_0.length : Int) then (spec_MemOk.j1 k1 x3_1 (!(Op.bytesLess (((rd_T35 l0_0 (wrap64 (x3_1 - 1))).f0.f0).toList) (((rd_T35 l0_0 x3_1).f0.f0).toList))) l0_0) else (none)) else (none)) else (spec_MemOk.j1 k1 x3_1 false l0_0)) else (spec_MemOk.j1 k1 x3_1 true l0_0)) = some r := H
       have A12 := mS A120
       clear A120
       by_cases c13 : t206 = true
       ·subst c13
        have H1 : (if x3_1 > 0 then (if 0 ≤ (wrap64 (x3_1 - 1)) then (if (wrap64 (x3_1 - 1)) < (l0_0.length : Int) then (spec_MemOk.j1 k1 x3_1 (!(Op.bytesLess (((rd_T35 l0_0 (wrap64 (x3_1 - 1))).f0.f0).toList) (((rd_T35 l0_0 x3_1).f0.f0).toList))) l0_0) else (none)) else (none)) else (spec_MemOk.j1 k1 x3_1 false l0_0)) = some r := by rw [if_pos rfl] at H; exact H
        clear H
        have H := H1
        clear H1
        by_cases c14 : x3_1 > 0
        ·rw [if_pos c14] at H
         have c14b0 : decide (0 < x3_1) = true := decide_eq_true c14
         clear c14
         (first | rw [c14b0] | (simp only [i64_w, i32_w]; rw [c14b0]) | skip)
         obtain ⟨ji15, hji15⟩ : ∃ j_ : Int, (wrap64 (x3_1 - 1)) = j_ := ⟨_, rfl⟩
         replace H : (if 0 ≤ (ji15) then (if (ji15) < (l0_0.length : Int) then (spec_MemOk.j1 k1 x3_1 (!(Op.bytesLess (((rd_T35 l0_0 (ji15)).f0.f0).toList) (((rd_T35 l0_0 x3_1).f0.f0).toList))) l0_0) else (none)) else (none)) = some r := by first | (rw [hji15] at H; exact H) | (simp only [hji15] at H ⊢; exact H)
         (try rw [hji15] at A10)
         (try rw [hji15] at A12)
         have hji15w : (IntKind.i64.wrap (x3_1 - 1)) = ji15 := (i64_w _).trans hji15
         by_cases c16 : 0 ≤ (ji15)
         ·rw [if_pos c16] at H
          have c16b0 : decide (0 ≤ (ji15)) = true := decide_eq_true c16
          clear c16
          by_cases c17 : (ji15) < (l0_0.length : Int)
          ·rw [if_pos c17] at H
           have c17b0 : decide ((ji15) < (l0_0.length : Int)) = true := decide_eq_true c17
           clear c17
           have H' := mS H
           clear H
           try go_wp2
           have n0_ : Aside0 (((((w7.setCell ⟨gb204, 0, none⟩ (.string ((rd_T35 l0_0 x3_1).f0.f0))).setCell ⟨gb204, 1, none⟩ (.string ((rd_T35 l0_0 x3_1).f0.f1))).setCell ⟨gb204, 2, none⟩ (.bool ((rd_T35 l0_0 x3_1).f0.f2))).setCell ⟨gb204, 3, none⟩ (.int .i64 ((rd_T35 l0_0 x3_1).f1))).heap[gb202]? = some (.cells #[.slice (some ad203) l0_0.length c0_0] 26 (0, 0))) := ⟨by (with_reducible repeat (first | refine blk_drewN ?_ _ | refine blk_drew ?_ | refine blk_alloc ?_ _)); refine blk_far ?_ NB202_204.out _; (with_reducible repeat (first | refine blk_drewN ?_ _ | refine blk_drew ?_ | refine blk_alloc ?_ _)); refine blk_far ?_ NB202_204.out _; (with_reducible repeat (first | refine blk_drewN ?_ _ | refine blk_drew ?_ | refine blk_alloc ?_ _)); refine blk_far ?_ NB202_204.out _; (with_reducible repeat (first | refine blk_drewN ?_ _ | refine blk_drew ?_ | refine blk_alloc ?_ _)); refine blk_far ?_ NB202_204.out _; (with_reducible repeat (first | refine blk_drewN ?_ _ | refine blk_drew ?_ | refine blk_alloc ?_ _)); exact BK202.out⟩
           have n1_ : Aside0 (((((w7.setCell ⟨gb204, 0, none⟩ (.string ((rd_T35 l0_0 x3_1).f0.f0))).setCell ⟨gb204, 1, none⟩ (.string ((rd_T35 l0_0 x3_1).f0.f1))).setCell ⟨gb204, 2, none⟩ (.bool ((rd_T35 l0_0 x3_1).f0.f2))).setCell ⟨gb204, 3, none⟩ (.int .i64 ((rd_T35 l0_0 x3_1).f1))).heap[gb204]? = some (.cells #[.string ((rd_T35 l0_0 x3_1).f0.f0), .string ((rd_T35 l0_0 x3_1).f0.f1), .bool ((rd_T35 l0_0 x3_1).f0.f2), .int .i64 ((rd_T35 l0_0 x3_1).f1)] 35 (0, 0))) := ⟨by (with_reducible repeat (first | refine blk_drewN ?_ _ | refine blk_drew ?_ | refine blk_alloc ?_ _)); refine blk_put (cs := #[.string ((rd_T35 l0_0 x3_1).f0.f0), .string ((rd_T35 l0_0 x3_1).f0.f1), .bool ((rd_T35 l0_0 x3_1).f0.f2), .int .i64 0]) ?_ 3 _ rfl; (with_reducible repeat (first | refine blk_drewN ?_ _ | refine blk_drew ?_ | refine blk_alloc ?_ _)); refine blk_put (cs := #[.string ((rd_T35 l0_0 x3_1).f0.f0), .string ((rd_T35 l0_0 x3_1).f0.f1), .bool false, .int .i64 0]) ?_ 2 _ rfl; (with_reducible repeat (first | refine blk_drewN ?_ _ | refine blk_drew ?_ | refine blk_alloc ?_ _)); refine blk_put (cs := #[.string ((rd_T35 l0_0 x3_1).f0.f0), .string (⟨#[]⟩ : ByteArray), .bool false, .int .i64 0]) ?_ 1 _ rfl; (with_reducible repeat (first | refine blk_drewN ?_ _ | refine blk_drew ?_ | refine blk_alloc ?_ _)); refine blk_put (cs := #[.string (⟨#[]⟩ : ByteArray), .string (⟨#[]⟩ : ByteArray), .bool false, .int .i64 0]) ?_ 0 _ rfl; (with_reducible repeat (first | refine blk_drewN ?_ _ | refine blk_drew ?_ | refine blk_alloc ?_ _)); exact BK204.out⟩
           have n2_ : Aside0 (Below w.heap.size w ((((w7.setCell ⟨gb204, 0, none⟩ (.string ((rd_T35 l0_0 x3_1).f0.f0))).setCell ⟨gb204, 1, none⟩ (.string ((rd_T35 l0_0 x3_1).f0.f1))).setCell ⟨gb204, 2, none⟩ (.bool ((rd_T35 l0_0 x3_1).f0.f2))).setCell ⟨gb204, 3, none⟩ (.int .i64 ((rd_T35 l0_0 x3_1).f1)))) := ⟨(mH2 HB.out GE202.out GE204.out)⟩
           (try clear BK202)
           (try clear BK204)
           (try clear HB)
           generalize ((((w7.setCell ⟨gb204, 0, none⟩ (.string ((rd_T35 l0_0 x3_1).f0.f0))).setCell ⟨gb204, 1, none⟩ (.string ((rd_T35 l0_0 x3_1).f0.f1))).setCell ⟨gb204, 2, none⟩ (.bool ((rd_T35 l0_0 x3_1).f0.f2))).setCell ⟨gb204, 3, none⟩ (.int .i64 ((rd_T35 l0_0 x3_1).f1))) = w18 at n0_ n1_ n2_ ⊢
           have BK202 := n0_
           have BK204 := n1_
           have HB := n2_
           clear n0_ n1_ n2_
           have n0_ := mS (blk_drew BK202.out)
           have n1_ := mS (blk_drew BK204.out)
           have n2_ := mS (below_drew1 HB.out)
           clear BK202
           clear BK204
           clear HB
           have BK202 := n0_
           have BK204 := n1_
           have HB := n2_
           clear n0_ n1_ n2_
           have p207 : 0 ≤ ((ji15) : Int) := of_decide_eq_true (by first | (with_reducible assumption) | assumption)
           have q207 : (ji15) < (l0_0.length : Int) := of_decide_eq_true (by first | (with_reducible assumption) | assumption)
           obtain ⟨ad207, e207, hx207_0, hx207_1, hx207_2, hx207_3⟩ := at_T35 HR0_0.out (ji15) p207 q207
           have hw207_3 := hx207_3
           have hw207_2 := hx207_2
           have hw207_1 := hx207_1
           have hw207_0 := hx207_0
           obtain rfl : ad203 = ad207 := (by injection e207)
           replace hx207_0 := mX HB.out hx207_0
           replace hx207_1 := mX HB.out hx207_1
           replace hx207_2 := mX HB.out hx207_2
           replace hx207_3 := mX HB.out hx207_3
           replace p207 := eq_true p207
           replace q207 := eq_true q207
           refine start_ (n := 28) (S := fun w' => w'.cell? ⟨gb204, 0, none⟩ = some (.string ((rd_T35 l0_0 x3_1).f0.f0)) ∧ w'.cell? ⟨gb204, 1, none⟩ = some (.string ((rd_T35 l0_0 x3_1).f0.f1)) ∧ w'.cell? ⟨gb204, 2, none⟩ = some (.bool ((rd_T35 l0_0 x3_1).f0.f2)) ∧ w'.cell? ⟨gb204, 3, none⟩ = some (.int .i64 ((rd_T35 l0_0 x3_1).f1)) ∧ w'.cell? ⟨gb202, 0, none⟩ = some (.slice (some ad203) l0_0.length c0_0) ∧ w'.cell? (ad203.add (((ji15)).toNat * 4)) = some (.string ((rd_T35 l0_0 (ji15)).f0.f0)) ∧ w'.cell? ⟨(ad203.add (((ji15)).toNat * 4)).block, (ad203.add (((ji15)).toNat * 4)).off + 1, none⟩ = some (.string ((rd_T35 l0_0 (ji15)).f0.f1)) ∧ w'.cell? ⟨(ad203.add (((ji15)).toNat * 4)).block, (ad203.add (((ji15)).toNat * 4)).off + 2, none⟩ = some (.bool ((rd_T35 l0_0 (ji15)).f0.f2)) ∧ w'.cell? ⟨(ad203.add (((ji15)).toNat * 4)).block, (ad203.add (((ji15)).toNat * 4)).off + 3, none⟩ = some (.int .i64 ((rd_T35 l0_0 (ji15)).f1))) (ds := []) (mb 0 28) (by kernel_rfl) rfl rfl ⟨mZ BK204.out 0, mZ BK204.out 1, mZ BK204.out 2, mZ BK204.out 3, mZ BK202.out 0, ((HB.out.cell (World.block_lt_of_cell? w _ hw207_0)).trans hw207_0), ((HB.out.cell (World.block_lt_of_cell? w _ hw207_1)).trans hw207_1), ((HB.out.cell (World.block_lt_of_cell? w _ hw207_2)).trans hw207_2), ((HB.out.cell (World.block_lt_of_cell? w _ hw207_3)).trans hw207_3)⟩ (fun hHeld => ?_); refine with_tabW spec_MemOk.tab5 spec_MemOk.bits5 (fun HT_ HW_ => ?_)
           generalize w18.drew = w19 at BK202 BK204 HB hx207_0 hx207_1 hx207_2 hx207_3 hHeld ⊢
           refine mpu 0 17 HT_.out (mb 1 27) ?_
           refine mpt 1 18 HT_.out HW_.out (mb 2 26) hHeld ?_
           refine one_ (i := 2) (N := some 19) (mb 3 25) rfl rfl (one_of HT_.out (by kernel_rfl)) (by decide) (fun K hK => ?_)
           refine goes_ Try.func75 (by kernel_rfl) rfl #[.agg #[.string ((rd_T35 l0_0 x3_1).f0.f0), .string ((rd_T35 l0_0 x3_1).f0.f1), .bool ((rd_T35 l0_0 x3_1).f0.f2)]] (by rfl) rfl rfl mA ?_
           with_reducible refine (spec_PairOk.calls ((rd_T35 l0_0 x3_1).f0.f0) ((rd_T35 l0_0 x3_1).f0.f1) ((rd_T35 l0_0 x3_1).f0.f2) true _ A10.out).mono ?_
           rintro e w20 ⟨rfl, hb⟩
           refine ⟨_, rfl, ?_⟩
           have n0_ := mB BK202 hb
           have n1_ := mB BK204 hb
           have n2_ := mS (below_step (mH2 HB.out GE202.out GE204.out) hb)
           clear BK202
           clear BK204
           clear HB
           have BK202 := n0_
           have BK204 := n1_
           have HB := n2_
           clear n0_ n1_ n2_
           (try clear hb)
           (try clear hb2)
           (try clear hk)
           (try clear hi)
           refine hK.out _ _ ⟨mZ BK204.out 0, mZ BK204.out 1, mZ BK204.out 2, mZ BK204.out 3, mZ BK202.out 0, ((HB.out.cell (World.block_lt_of_cell? w _ hw207_0)).trans hw207_0), ((HB.out.cell (World.block_lt_of_cell? w _ hw207_1)).trans hw207_1), ((HB.out.cell (World.block_lt_of_cell? w _ hw207_2)).trans hw207_2), ((HB.out.cell (World.block_lt_of_cell? w _ hw207_3)).trans hw207_3)⟩ (fun hHeld => ?_)
           clear hK K
           refine norm_ (a' := ?_) ?_ ?_
           rotate_left
           ·show Act.put _ (some 19) _ = _
            simp only [Act.put, zA, zB, zC, i64_w, i32_w]
            rfl
           refine mpu 3 20 HT_.out (mb 4 24) ?_
           refine mpu 4 21 HT_.out (mb 5 23) ?_
           refine mpu 5 22 HT_.out (mb 6 22) ?_
           refine mpt 6 23 HT_.out HW_.out (mb 7 21) hHeld ?_
           refine one_ (i := 7) (N := some 24) (mb 8 20) rfl rfl (one_of HT_.out (by kernel_rfl)) (by decide) (fun K hK => ?_)
           refine goes_ Try.func76 (by kernel_rfl) rfl #[.int .i64 ((rd_T35 l0_0 x3_1).f1), .int .i64 1, .int .i64 4] (by rfl) rfl rfl mA ?_
           with_reducible refine (spec_l1In.calls ((rd_T35 l0_0 x3_1).f1) 1 4 true _ A12.out).mono ?_
           rintro e w' ⟨rfl, ⟨nd, rfl⟩⟩
           refine ⟨_, rfl, ?_⟩
           refine hK.out _ _ ⟨mZ BK204.out 0, mZ BK204.out 1, mZ BK204.out 2, mZ BK204.out 3, mZ BK202.out 0, ((HB.out.cell (World.block_lt_of_cell? w _ hw207_0)).trans hw207_0), ((HB.out.cell (World.block_lt_of_cell? w _ hw207_1)).trans hw207_1), ((HB.out.cell (World.block_lt_of_cell? w _ hw207_2)).trans hw207_2), ((HB.out.cell (World.block_lt_of_cell? w _ hw207_3)).trans hw207_3)⟩ (fun hHeld => ?_)
           clear hK K
           refine norm_ (a' := ?_) ?_ ?_
           rotate_left
           ·show Act.put _ (some 24) _ = _
            simp only [Act.put, zA, zB, zC, i64_w, i32_w]
            rfl
           refine mpu 8 25 HT_.out (mb 9 19) ?_
           refine mpu 9 26 HT_.out (mb 10 18) ?_
           refine mpu 10 27 HT_.out (mb 11 17) ?_
           refine mpu 11 28 HT_.out (mb 12 16) ?_
           refine mpu 12 29 HT_.out (mb 13 15) ?_
           refine mpu 13 30 HT_.out (mb 14 14) ?_
           refine mpu 14 31 HT_.out (mb 15 13) ?_
           refine mpu 16 33 HT_.out #[true, true, true, true, true, true, true, true, true, true, true, true, true, true, true, false, true, false, false, false, false, false, false, false, false, false, false, false] ?_
           refine mpu 17 34 HT_.out #[true, true, true, true, true, true, true, true, true, true, true, true, true, true, true, false, true, true, false, false, false, false, false, false, false, false, false, false] ?_
           refine mpu 22 39 HT_.out #[true, true, true, true, true, true, true, true, true, true, true, true, true, true, true, false, true, true, false, false, false, false, true, false, false, false, false, false] ?_
           refine mpu 23 40 HT_.out #[true, true, true, true, true, true, true, true, true, true, true, true, true, true, true, false, true, true, false, false, false, false, true, true, false, false, false, false] ?_
           refine mpt 15 32 HT_.out HW_.out #[true, true, true, true, true, true, true, true, true, true, true, true, true, true, true, true, true, true, false, false, false, false, true, true, false, false, false, false] hHeld ?_
           refine mpu 18 35 HT_.out #[true, true, true, true, true, true, true, true, true, true, true, true, true, true, true, true, true, true, true, false, false, false, true, true, false, false, false, false] ?_
           refine mpu 19 36 HT_.out #[true, true, true, true, true, true, true, true, true, true, true, true, true, true, true, true, true, true, true, true, false, false, true, true, false, false, false, false] ?_
           refine mpu 20 37 HT_.out #[true, true, true, true, true, true, true, true, true, true, true, true, true, true, true, true, true, true, true, true, true, false, true, true, false, false, false, false] ?_
           refine mpt 21 38 HT_.out HW_.out (mb 24 4) hHeld ?_
           refine mpt 24 41 HT_.out HW_.out (mb 25 3) hHeld ?_
           refine mpu 25 42 HT_.out (mb 26 2) ?_
           refine mpu 26 43 HT_.out (mb 27 1) ?_
           refine mpu 27 44 HT_.out (mb 28 0) ?_
           refine done_ (done_of HT_.out (by kernel_rfl)) ?_
           try go_wp2
           go_meet
           case rel => exact ⟨_, (!(Op.bytesLess (((rd_T35 l0_0 (ji15)).f0.f0).toList) (((rd_T35 l0_0 x3_1).f0.f0).toList))), (by first | rfl | (simp; done) | (simp only [← hji15] <;> (first | rfl | simp)) | (simp [*]; done)), H', ⟨by have := HK1.out; first | omega | exact Nat.le_refl _⟩, ⟨by (with_reducible repeat (first | refine blk_drewN ?_ _ | refine blk_drew ?_ | refine blk_alloc ?_ _)); exact BK202.out⟩, ⟨by (with_reducible repeat (first | refine blk_drewN ?_ _ | refine blk_drew ?_ | refine blk_alloc ?_ _)); exact BK204.out⟩, ⟨(mH2 HB.out GE202.out GE204.out)⟩⟩
          ·rw [if_neg c17] at H
           exact absurd H (by simp)
         ·rw [if_neg c16] at H
          exact absurd H (by simp)
        ·rw [if_neg c14] at H
         have c14b0 : decide (0 < x3_1) = false := decide_eq_false c14
         clear c14
         (first | rw [c14b0] | (simp only [i64_w, i32_w]; rw [c14b0]) | skip)
         have H' := mS H
         clear H
         try go_wp2
         have n0_ : Aside0 (((((w7.setCell ⟨gb204, 0, none⟩ (.string ((rd_T35 l0_0 x3_1).f0.f0))).setCell ⟨gb204, 1, none⟩ (.string ((rd_T35 l0_0 x3_1).f0.f1))).setCell ⟨gb204, 2, none⟩ (.bool ((rd_T35 l0_0 x3_1).f0.f2))).setCell ⟨gb204, 3, none⟩ (.int .i64 ((rd_T35 l0_0 x3_1).f1))).heap[gb202]? = some (.cells #[.slice (some ad203) l0_0.length c0_0] 26 (0, 0))) := ⟨by (with_reducible repeat (first | refine blk_drewN ?_ _ | refine blk_drew ?_ | refine blk_alloc ?_ _)); refine blk_far ?_ NB202_204.out _; (with_reducible repeat (first | refine blk_drewN ?_ _ | refine blk_drew ?_ | refine blk_alloc ?_ _)); refine blk_far ?_ NB202_204.out _; (with_reducible repeat (first | refine blk_drewN ?_ _ | refine blk_drew ?_ | refine blk_alloc ?_ _)); refine blk_far ?_ NB202_204.out _; (with_reducible repeat (first | refine blk_drewN ?_ _ | refine blk_drew ?_ | refine blk_alloc ?_ _)); refine blk_far ?_ NB202_204.out _; (with_reducible repeat (first | refine blk_drewN ?_ _ | refine blk_drew ?_ | refine blk_alloc ?_ _)); exact BK202.out⟩
         have n1_ : Aside0 (((((w7.setCell ⟨gb204, 0, none⟩ (.string ((rd_T35 l0_0 x3_1).f0.f0))).setCell ⟨gb204, 1, none⟩ (.string ((rd_T35 l0_0 x3_1).f0.f1))).setCell ⟨gb204, 2, none⟩ (.bool ((rd_T35 l0_0 x3_1).f0.f2))).setCell ⟨gb204, 3, none⟩ (.int .i64 ((rd_T35 l0_0 x3_1).f1))).heap[gb204]? = some (.cells #[.string ((rd_T35 l0_0 x3_1).f0.f0), .string ((rd_T35 l0_0 x3_1).f0.f1), .bool ((rd_T35 l0_0 x3_1).f0.f2), .int .i64 ((rd_T35 l0_0 x3_1).f1)] 35 (0, 0))) := ⟨by (with_reducible repeat (first | refine blk_drewN ?_ _ | refine blk_drew ?_ | refine blk_alloc ?_ _)); refine blk_put (cs := #[.string ((rd_T35 l0_0 x3_1).f0.f0), .string ((rd_T35 l0_0 x3_1).f0.f1), .bool ((rd_T35 l0_0 x3_1).f0.f2), .int .i64 0]) ?_ 3 _ rfl; (with_reducible repeat (first | refine blk_drewN ?_ _ | refine blk_drew ?_ | refine blk_alloc ?_ _)); refine blk_put (cs := #[.string ((rd_T35 l0_0 x3_1).f0.f0), .string ((rd_T35 l0_0 x3_1).f0.f1), .bool false, .int .i64 0]) ?_ 2 _ rfl; (with_reducible repeat (first | refine blk_drewN ?_ _ | refine blk_drew ?_ | refine blk_alloc ?_ _)); refine blk_put (cs := #[.string ((rd_T35 l0_0 x3_1).f0.f0), .string (⟨#[]⟩ : ByteArray), .bool false, .int .i64 0]) ?_ 1 _ rfl; (with_reducible repeat (first | refine blk_drewN ?_ _ | refine blk_drew ?_ | refine blk_alloc ?_ _)); refine blk_put (cs := #[.string (⟨#[]⟩ : ByteArray), .string (⟨#[]⟩ : ByteArray), .bool false, .int .i64 0]) ?_ 0 _ rfl; (with_reducible repeat (first | refine blk_drewN ?_ _ | refine blk_drew ?_ | refine blk_alloc ?_ _)); exact BK204.out⟩
         have n2_ : Aside0 (Below w.heap.size w ((((w7.setCell ⟨gb204, 0, none⟩ (.string ((rd_T35 l0_0 x3_1).f0.f0))).setCell ⟨gb204, 1, none⟩ (.string ((rd_T35 l0_0 x3_1).f0.f1))).setCell ⟨gb204, 2, none⟩ (.bool ((rd_T35 l0_0 x3_1).f0.f2))).setCell ⟨gb204, 3, none⟩ (.int .i64 ((rd_T35 l0_0 x3_1).f1)))) := ⟨(mH2 HB.out GE202.out GE204.out)⟩
         (try clear BK202)
         (try clear BK204)
         (try clear HB)
         generalize ((((w7.setCell ⟨gb204, 0, none⟩ (.string ((rd_T35 l0_0 x3_1).f0.f0))).setCell ⟨gb204, 1, none⟩ (.string ((rd_T35 l0_0 x3_1).f0.f1))).setCell ⟨gb204, 2, none⟩ (.bool ((rd_T35 l0_0 x3_1).f0.f2))).setCell ⟨gb204, 3, none⟩ (.int .i64 ((rd_T35 l0_0 x3_1).f1))) = w21 at n0_ n1_ n2_ ⊢
         have BK202 := n0_
         have BK204 := n1_
         have HB := n2_
         clear n0_ n1_ n2_
         have n0_ := mS (blk_drew BK202.out)
         have n1_ := mS (blk_drew BK204.out)
         have n2_ := mS (below_drew1 HB.out)
         clear BK202
         clear BK204
         clear HB
         have BK202 := n0_
         have BK204 := n1_
         have HB := n2_
         clear n0_ n1_ n2_
         refine start_ (n := 28) (S := fun w' => w'.cell? ⟨gb204, 0, none⟩ = some (.string ((rd_T35 l0_0 x3_1).f0.f0)) ∧ w'.cell? ⟨gb204, 1, none⟩ = some (.string ((rd_T35 l0_0 x3_1).f0.f1)) ∧ w'.cell? ⟨gb204, 2, none⟩ = some (.bool ((rd_T35 l0_0 x3_1).f0.f2)) ∧ w'.cell? ⟨gb204, 3, none⟩ = some (.int .i64 ((rd_T35 l0_0 x3_1).f1))) (ds := []) (mb 0 28) (by kernel_rfl) rfl rfl ⟨mZ BK204.out 0, mZ BK204.out 1, mZ BK204.out 2, mZ BK204.out 3⟩ (fun hHeld => ?_); refine with_tabW spec_MemOk.tab5 spec_MemOk.bits5 (fun HT_ HW_ => ?_)
         generalize w21.drew = w22 at BK202 BK204 HB hHeld ⊢
         refine mpu 0 17 HT_.out (mb 1 27) ?_
         refine mpt 1 18 HT_.out HW_.out (mb 2 26) hHeld ?_
         refine one_ (i := 2) (N := some 19) (mb 3 25) rfl rfl (one_of HT_.out (by kernel_rfl)) (by decide) (fun K hK => ?_)
         refine goes_ Try.func75 (by kernel_rfl) rfl #[.agg #[.string ((rd_T35 l0_0 x3_1).f0.f0), .string ((rd_T35 l0_0 x3_1).f0.f1), .bool ((rd_T35 l0_0 x3_1).f0.f2)]] (by rfl) rfl rfl mA ?_
         with_reducible refine (spec_PairOk.calls ((rd_T35 l0_0 x3_1).f0.f0) ((rd_T35 l0_0 x3_1).f0.f1) ((rd_T35 l0_0 x3_1).f0.f2) true _ A10.out).mono ?_
         rintro e w23 ⟨rfl, hb⟩
         refine ⟨_, rfl, ?_⟩
         have n0_ := mB BK202 hb
         have n1_ := mB BK204 hb
         have n2_ := mS (below_step (mH2 HB.out GE202.out GE204.out) hb)
         clear BK202
         clear BK204
         clear HB
         have BK202 := n0_
         have BK204 := n1_
         have HB := n2_
         clear n0_ n1_ n2_
         (try clear hb)
         (try clear hb2)
         (try clear hk)
         (try clear hi)
         refine hK.out _ _ ⟨mZ BK204.out 0, mZ BK204.out 1, mZ BK204.out 2, mZ BK204.out 3⟩ (fun hHeld => ?_)
         clear hK K
         refine norm_ (a' := ?_) ?_ ?_
         rotate_left
         ·show Act.put _ (some 19) _ = _
          simp only [Act.put, zA, zB, zC, i64_w, i32_w]
          rfl
         refine mpu 3 20 HT_.out (mb 4 24) ?_
         refine mpu 4 21 HT_.out (mb 5 23) ?_
         refine mpu 5 22 HT_.out (mb 6 22) ?_
         refine mpt 6 23 HT_.out HW_.out (mb 7 21) hHeld ?_
         refine one_ (i := 7) (N := some 24) (mb 8 20) rfl rfl (one_of HT_.out (by kernel_rfl)) (by decide) (fun K hK => ?_)
         refine goes_ Try.func76 (by kernel_rfl) rfl #[.int .i64 ((rd_T35 l0_0 x3_1).f1), .int .i64 1, .int .i64 4] (by rfl) rfl rfl mA ?_
         with_reducible refine (spec_l1In.calls ((rd_T35 l0_0 x3_1).f1) 1 4 true _ A12.out).mono ?_
         rintro e w' ⟨rfl, ⟨nd, rfl⟩⟩
         refine ⟨_, rfl, ?_⟩
         refine hK.out _ _ ⟨mZ BK204.out 0, mZ BK204.out 1, mZ BK204.out 2, mZ BK204.out 3⟩ (fun hHeld => ?_)
         clear hK K
         refine norm_ (a' := ?_) ?_ ?_
         rotate_left
         ·show Act.put _ (some 24) _ = _
          simp only [Act.put, zA, zB, zC, i64_w, i32_w]
          rfl
         refine mpu 8 25 HT_.out (mb 9 19) ?_
         refine mpu 9 26 HT_.out (mb 10 18) ?_
         refine mpu 10 27 HT_.out (mb 11 17) ?_
         refine mpu 11 28 HT_.out (mb 12 16) ?_
         refine mpu 12 29 HT_.out (mb 13 15) ?_
         refine mpu 13 30 HT_.out (mb 14 14) ?_
         refine mpf 14 31 HT_.out (mb 15 13) ?_
         refine mpf 15 32 HT_.out (mb 16 12) ?_
         refine mpf 16 33 HT_.out (mb 17 11) ?_
         refine mpf 17 34 HT_.out (mb 18 10) ?_
         refine mpf 18 35 HT_.out (mb 19 9) ?_
         refine mpf 19 36 HT_.out (mb 20 8) ?_
         refine mpf 20 37 HT_.out (mb 21 7) ?_
         refine mpf 21 38 HT_.out (mb 22 6) ?_
         refine mpf 22 39 HT_.out (mb 23 5) ?_
         refine mpf 23 40 HT_.out (mb 24 4) ?_
         refine mpf 24 41 HT_.out (mb 25 3) ?_
         refine mpf 25 42 HT_.out (mb 26 2) ?_
         refine mpu 26 43 HT_.out (mb 27 1) ?_
         refine mpu 27 44 HT_.out (mb 28 0) ?_
         refine done_ (done_of HT_.out (by kernel_rfl)) ?_
         try go_wp2
         go_meet
         case rel => exact ⟨_, (false), (by first | rfl | (simp; done) | (simp [*]; done)), H', ⟨by have := HK1.out; first | omega | exact Nat.le_refl _⟩, ⟨by (with_reducible repeat (first | refine blk_drewN ?_ _ | refine blk_drew ?_ | refine blk_alloc ?_ _)); exact BK202.out⟩, ⟨by (with_reducible repeat (first | refine blk_drewN ?_ _ | refine blk_drew ?_ | refine blk_alloc ?_ _)); exact BK204.out⟩, ⟨(mH2 HB.out GE202.out GE204.out)⟩⟩
       ·replace c13 := Bool.eq_false_iff.mpr c13
        subst c13
        have H1 : (spec_MemOk.j1 k1 x3_1 true l0_0) = some r := by rw [if_neg (show ¬ (false = true) by decide)] at H; exact H
        clear H
        have H := H1
        clear H1
        have H' := mS H
        clear H
        try go_wp2
        have n0_ : Aside0 (((((w7.setCell ⟨gb204, 0, none⟩ (.string ((rd_T35 l0_0 x3_1).f0.f0))).setCell ⟨gb204, 1, none⟩ (.string ((rd_T35 l0_0 x3_1).f0.f1))).setCell ⟨gb204, 2, none⟩ (.bool ((rd_T35 l0_0 x3_1).f0.f2))).setCell ⟨gb204, 3, none⟩ (.int .i64 ((rd_T35 l0_0 x3_1).f1))).heap[gb202]? = some (.cells #[.slice (some ad203) l0_0.length c0_0] 26 (0, 0))) := ⟨by (with_reducible repeat (first | refine blk_drewN ?_ _ | refine blk_drew ?_ | refine blk_alloc ?_ _)); refine blk_far ?_ NB202_204.out _; (with_reducible repeat (first | refine blk_drewN ?_ _ | refine blk_drew ?_ | refine blk_alloc ?_ _)); refine blk_far ?_ NB202_204.out _; (with_reducible repeat (first | refine blk_drewN ?_ _ | refine blk_drew ?_ | refine blk_alloc ?_ _)); refine blk_far ?_ NB202_204.out _; (with_reducible repeat (first | refine blk_drewN ?_ _ | refine blk_drew ?_ | refine blk_alloc ?_ _)); refine blk_far ?_ NB202_204.out _; (with_reducible repeat (first | refine blk_drewN ?_ _ | refine blk_drew ?_ | refine blk_alloc ?_ _)); exact BK202.out⟩
        have n1_ : Aside0 (((((w7.setCell ⟨gb204, 0, none⟩ (.string ((rd_T35 l0_0 x3_1).f0.f0))).setCell ⟨gb204, 1, none⟩ (.string ((rd_T35 l0_0 x3_1).f0.f1))).setCell ⟨gb204, 2, none⟩ (.bool ((rd_T35 l0_0 x3_1).f0.f2))).setCell ⟨gb204, 3, none⟩ (.int .i64 ((rd_T35 l0_0 x3_1).f1))).heap[gb204]? = some (.cells #[.string ((rd_T35 l0_0 x3_1).f0.f0), .string ((rd_T35 l0_0 x3_1).f0.f1), .bool ((rd_T35 l0_0 x3_1).f0.f2), .int .i64 ((rd_T35 l0_0 x3_1).f1)] 35 (0, 0))) := ⟨by (with_reducible repeat (first | refine blk_drewN ?_ _ | refine blk_drew ?_ | refine blk_alloc ?_ _)); refine blk_put (cs := #[.string ((rd_T35 l0_0 x3_1).f0.f0), .string ((rd_T35 l0_0 x3_1).f0.f1), .bool ((rd_T35 l0_0 x3_1).f0.f2), .int .i64 0]) ?_ 3 _ rfl; (with_reducible repeat (first | refine blk_drewN ?_ _ | refine blk_drew ?_ | refine blk_alloc ?_ _)); refine blk_put (cs := #[.string ((rd_T35 l0_0 x3_1).f0.f0), .string ((rd_T35 l0_0 x3_1).f0.f1), .bool false, .int .i64 0]) ?_ 2 _ rfl; (with_reducible repeat (first | refine blk_drewN ?_ _ | refine blk_drew ?_ | refine blk_alloc ?_ _)); refine blk_put (cs := #[.string ((rd_T35 l0_0 x3_1).f0.f0), .string (⟨#[]⟩ : ByteArray), .bool false, .int .i64 0]) ?_ 1 _ rfl; (with_reducible repeat (first | refine blk_drewN ?_ _ | refine blk_drew ?_ | refine blk_alloc ?_ _)); refine blk_put (cs := #[.string (⟨#[]⟩ : ByteArray), .string (⟨#[]⟩ : ByteArray), .bool false, .int .i64 0]) ?_ 0 _ rfl; (with_reducible repeat (first | refine blk_drewN ?_ _ | refine blk_drew ?_ | refine blk_alloc ?_ _)); exact BK204.out⟩
        have n2_ : Aside0 (Below w.heap.size w ((((w7.setCell ⟨gb204, 0, none⟩ (.string ((rd_T35 l0_0 x3_1).f0.f0))).setCell ⟨gb204, 1, none⟩ (.string ((rd_T35 l0_0 x3_1).f0.f1))).setCell ⟨gb204, 2, none⟩ (.bool ((rd_T35 l0_0 x3_1).f0.f2))).setCell ⟨gb204, 3, none⟩ (.int .i64 ((rd_T35 l0_0 x3_1).f1)))) := ⟨(mH2 HB.out GE202.out GE204.out)⟩
        (try clear BK202)
        (try clear BK204)
        (try clear HB)
        generalize ((((w7.setCell ⟨gb204, 0, none⟩ (.string ((rd_T35 l0_0 x3_1).f0.f0))).setCell ⟨gb204, 1, none⟩ (.string ((rd_T35 l0_0 x3_1).f0.f1))).setCell ⟨gb204, 2, none⟩ (.bool ((rd_T35 l0_0 x3_1).f0.f2))).setCell ⟨gb204, 3, none⟩ (.int .i64 ((rd_T35 l0_0 x3_1).f1))) = w24 at n0_ n1_ n2_ ⊢
        have BK202 := n0_
        have BK204 := n1_
        have HB := n2_
        clear n0_ n1_ n2_
        have n0_ := mS (blk_drew BK202.out)
        have n1_ := mS (blk_drew BK204.out)
        have n2_ := mS (below_drew1 HB.out)
        clear BK202
        clear BK204
        clear HB
        have BK202 := n0_
        have BK204 := n1_
        have HB := n2_
        clear n0_ n1_ n2_
        refine start_ (n := 28) (S := fun w' => w'.cell? ⟨gb204, 0, none⟩ = some (.string ((rd_T35 l0_0 x3_1).f0.f0)) ∧ w'.cell? ⟨gb204, 1, none⟩ = some (.string ((rd_T35 l0_0 x3_1).f0.f1)) ∧ w'.cell? ⟨gb204, 2, none⟩ = some (.bool ((rd_T35 l0_0 x3_1).f0.f2)) ∧ w'.cell? ⟨gb204, 3, none⟩ = some (.int .i64 ((rd_T35 l0_0 x3_1).f1))) (ds := []) (mb 0 28) (by kernel_rfl) rfl rfl ⟨mZ BK204.out 0, mZ BK204.out 1, mZ BK204.out 2, mZ BK204.out 3⟩ (fun hHeld => ?_); refine with_tabW spec_MemOk.tab5 spec_MemOk.bits5 (fun HT_ HW_ => ?_)
        generalize w24.drew = w25 at BK202 BK204 HB hHeld ⊢
        refine mpu 0 17 HT_.out (mb 1 27) ?_
        refine mpt 1 18 HT_.out HW_.out (mb 2 26) hHeld ?_
        refine one_ (i := 2) (N := some 19) (mb 3 25) rfl rfl (one_of HT_.out (by kernel_rfl)) (by decide) (fun K hK => ?_)
        refine goes_ Try.func75 (by kernel_rfl) rfl #[.agg #[.string ((rd_T35 l0_0 x3_1).f0.f0), .string ((rd_T35 l0_0 x3_1).f0.f1), .bool ((rd_T35 l0_0 x3_1).f0.f2)]] (by rfl) rfl rfl mA ?_
        with_reducible refine (spec_PairOk.calls ((rd_T35 l0_0 x3_1).f0.f0) ((rd_T35 l0_0 x3_1).f0.f1) ((rd_T35 l0_0 x3_1).f0.f2) true _ A10.out).mono ?_
        rintro e w26 ⟨rfl, hb⟩
        refine ⟨_, rfl, ?_⟩
        have n0_ := mB BK202 hb
        have n1_ := mB BK204 hb
        have n2_ := mS (below_step (mH2 HB.out GE202.out GE204.out) hb)
        clear BK202
        clear BK204
        clear HB
        have BK202 := n0_
        have BK204 := n1_
        have HB := n2_
        clear n0_ n1_ n2_
        (try clear hb)
        (try clear hb2)
        (try clear hk)
        (try clear hi)
        refine hK.out _ _ ⟨mZ BK204.out 0, mZ BK204.out 1, mZ BK204.out 2, mZ BK204.out 3⟩ (fun hHeld => ?_)
        clear hK K
        refine norm_ (a' := ?_) ?_ ?_
        rotate_left
        ·show Act.put _ (some 19) _ = _
         simp only [Act.put, zA, zB, zC, i64_w, i32_w]
         rfl
        refine mpu 3 20 HT_.out (mb 4 24) ?_
        refine mpu 4 21 HT_.out (mb 5 23) ?_
        refine mpu 5 22 HT_.out (mb 6 22) ?_
        refine mpt 6 23 HT_.out HW_.out (mb 7 21) hHeld ?_
        refine one_ (i := 7) (N := some 24) (mb 8 20) rfl rfl (one_of HT_.out (by kernel_rfl)) (by decide) (fun K hK => ?_)
        refine goes_ Try.func76 (by kernel_rfl) rfl #[.int .i64 ((rd_T35 l0_0 x3_1).f1), .int .i64 1, .int .i64 4] (by rfl) rfl rfl mA ?_
        with_reducible refine (spec_l1In.calls ((rd_T35 l0_0 x3_1).f1) 1 4 false _ A12.out).mono ?_
        rintro e w' ⟨rfl, ⟨nd, rfl⟩⟩
        refine ⟨_, rfl, ?_⟩
        refine hK.out _ _ ⟨mZ BK204.out 0, mZ BK204.out 1, mZ BK204.out 2, mZ BK204.out 3⟩ (fun hHeld => ?_)
        clear hK K
        refine norm_ (a' := ?_) ?_ ?_
        rotate_left
        ·show Act.put _ (some 24) _ = _
         simp only [Act.put, zA, zB, zC, i64_w, i32_w]
         rfl
        refine mpu 8 25 HT_.out (mb 9 19) ?_
        refine mpu 9 26 HT_.out (mb 10 18) ?_
        refine mpu 10 27 HT_.out (mb 11 17) ?_
        refine mpf 11 28 HT_.out (mb 12 16) ?_
        refine mpf 12 29 HT_.out (mb 13 15) ?_
        refine mpf 13 30 HT_.out (mb 14 14) ?_
        refine mpf 14 31 HT_.out (mb 15 13) ?_
        refine mpf 15 32 HT_.out (mb 16 12) ?_
        refine mpf 16 33 HT_.out (mb 17 11) ?_
        refine mpf 17 34 HT_.out (mb 18 10) ?_
        refine mpf 18 35 HT_.out (mb 19 9) ?_
        refine mpf 19 36 HT_.out (mb 20 8) ?_
        refine mpf 20 37 HT_.out (mb 21 7) ?_
        refine mpf 21 38 HT_.out (mb 22 6) ?_
        refine mpf 22 39 HT_.out (mb 23 5) ?_
        refine mpf 23 40 HT_.out (mb 24 4) ?_
        refine mpf 24 41 HT_.out (mb 25 3) ?_
        refine mpf 25 42 HT_.out (mb 26 2) ?_
        refine mpf 26 43 HT_.out (mb 27 1) ?_
        refine mpu 27 44 HT_.out (mb 28 0) ?_
        refine done_ (done_of HT_.out (by kernel_rfl)) ?_
        try go_wp2
        go_meet
        case rel => exact ⟨_, (true), (by first | rfl | (simp; done) | (simp [*]; done)), H', ⟨by have := HK1.out; first | omega | exact Nat.le_refl _⟩, ⟨by (with_reducible repeat (first | refine blk_drewN ?_ _ | refine blk_drew ?_ | refine blk_alloc ?_ _)); exact BK202.out⟩, ⟨by (with_reducible repeat (first | refine blk_drewN ?_ _ | refine blk_drew ?_ | refine blk_alloc ?_ _)); exact BK204.out⟩, ⟨(mH2 HB.out GE202.out GE204.out)⟩⟩
      ·replace c11 := Bool.eq_false_iff.mpr c11
       subst c11
       have H1 : (spec_MemOk.j1 k1 x3_1 true l0_0) = some r := by rw [if_neg (show ¬ (false = true) by decide)] at H; exact H
       clear H
       have H := H1
       clear H1
       have H' := mS H
       clear H
       try go_wp2
       have n0_ : Aside0 (((((w7.setCell ⟨gb204, 0, none⟩ (.string ((rd_T35 l0_0 x3_1).f0.f0))).setCell ⟨gb204, 1, none⟩ (.string ((rd_T35 l0_0 x3_1).f0.f1))).setCell ⟨gb204, 2, none⟩ (.bool ((rd_T35 l0_0 x3_1).f0.f2))).setCell ⟨gb204, 3, none⟩ (.int .i64 ((rd_T35 l0_0 x3_1).f1))).heap[gb202]? = some (.cells #[.slice (some ad203) l0_0.length c0_0] 26 (0, 0))) := ⟨by (with_reducible repeat (first | refine blk_drewN ?_ _ | refine blk_drew ?_ | refine blk_alloc ?_ _)); refine blk_far ?_ NB202_204.out _; (with_reducible repeat (first | refine blk_drewN ?_ _ | refine blk_drew ?_ | refine blk_alloc ?_ _)); refine blk_far ?_ NB202_204.out _; (with_reducible repeat (first | refine blk_drewN ?_ _ | refine blk_drew ?_ | refine blk_alloc ?_ _)); refine blk_far ?_ NB202_204.out _; (with_reducible repeat (first | refine blk_drewN ?_ _ | refine blk_drew ?_ | refine blk_alloc ?_ _)); refine blk_far ?_ NB202_204.out _; (with_reducible repeat (first | refine blk_drewN ?_ _ | refine blk_drew ?_ | refine blk_alloc ?_ _)); exact BK202.out⟩
       have n1_ : Aside0 (((((w7.setCell ⟨gb204, 0, none⟩ (.string ((rd_T35 l0_0 x3_1).f0.f0))).setCell ⟨gb204, 1, none⟩ (.string ((rd_T35 l0_0 x3_1).f0.f1))).setCell ⟨gb204, 2, none⟩ (.bool ((rd_T35 l0_0 x3_1).f0.f2))).setCell ⟨gb204, 3, none⟩ (.int .i64 ((rd_T35 l0_0 x3_1).f1))).heap[gb204]? = some (.cells #[.string ((rd_T35 l0_0 x3_1).f0.f0), .string ((rd_T35 l0_0 x3_1).f0.f1), .bool ((rd_T35 l0_0 x3_1).f0.f2), .int .i64 ((rd_T35 l0_0 x3_1).f1)] 35 (0, 0))) := ⟨by (with_reducible repeat (first | refine blk_drewN ?_ _ | refine blk_drew ?_ | refine blk_alloc ?_ _)); refine blk_put (cs := #[.string ((rd_T35 l0_0 x3_1).f0.f0), .string ((rd_T35 l0_0 x3_1).f0.f1), .bool ((rd_T35 l0_0 x3_1).f0.f2), .int .i64 0]) ?_ 3 _ rfl; (with_reducible repeat (first | refine blk_drewN ?_ _ | refine blk_drew ?_ | refine blk_alloc ?_ _)); refine blk_put (cs := #[.string ((rd_T35 l0_0 x3_1).f0.f0), .string ((rd_T35 l0_0 x3_1).f0.f1), .bool false, .int .i64 0]) ?_ 2 _ rfl; (with_reducible repeat (first | refine blk_drewN ?_ _ | refine blk_drew ?_ | refine blk_alloc ?_ _)); refine blk_put (cs := #[.string ((rd_T35 l0_0 x3_1).f0.f0), .string (⟨#[]⟩ : ByteArray), .bool false, .int .i64 0]) ?_ 1 _ rfl; (with_reducible repeat (first | refine blk_drewN ?_ _ | refine blk_drew ?_ | refine blk_alloc ?_ _)); refine blk_put (cs := #[.string (⟨#[]⟩ : ByteArray), .string (⟨#[]⟩ : ByteArray), .bool false, .int .i64 0]) ?_ 0 _ rfl; (with_reducible repeat (first | refine blk_drewN ?_ _ | refine blk_drew ?_ | refine blk_alloc ?_ _)); exact BK204.out⟩
       have n2_ : Aside0 (Below w.heap.size w ((((w7.setCell ⟨gb204, 0, none⟩ (.string ((rd_T35 l0_0 x3_1).f0.f0))).setCell ⟨gb204, 1, none⟩ (.string ((rd_T35 l0_0 x3_1).f0.f1))).setCell ⟨gb204, 2, none⟩ (.bool ((rd_T35 l0_0 x3_1).f0.f2))).setCell ⟨gb204, 3, none⟩ (.int .i64 ((rd_T35 l0_0 x3_1).f1)))) := ⟨(mH2 HB.out GE202.out GE204.out)⟩
       (try clear BK202)
       (try clear BK204)
       (try clear HB)
       generalize ((((w7.setCell ⟨gb204, 0, none⟩ (.string ((rd_T35 l0_0 x3_1).f0.f0))).setCell ⟨gb204, 1, none⟩ (.string ((rd_T35 l0_0 x3_1).f0.f1))).setCell ⟨gb204, 2, none⟩ (.bool ((rd_T35 l0_0 x3_1).f0.f2))).setCell ⟨gb204, 3, none⟩ (.int .i64 ((rd_T35 l0_0 x3_1).f1))) = w27 at n0_ n1_ n2_ ⊢
       have BK202 := n0_
       have BK204 := n1_
       have HB := n2_
       clear n0_ n1_ n2_
       have n0_ := mS (blk_drew BK202.out)
       have n1_ := mS (blk_drew BK204.out)
       have n2_ := mS (below_drew1 HB.out)
       clear BK202
       clear BK204
       clear HB
       have BK202 := n0_
       have BK204 := n1_
       have HB := n2_
       clear n0_ n1_ n2_
       refine start_ (n := 28) (S := fun w' => w'.cell? ⟨gb204, 0, none⟩ = some (.string ((rd_T35 l0_0 x3_1).f0.f0)) ∧ w'.cell? ⟨gb204, 1, none⟩ = some (.string ((rd_T35 l0_0 x3_1).f0.f1)) ∧ w'.cell? ⟨gb204, 2, none⟩ = some (.bool ((rd_T35 l0_0 x3_1).f0.f2)) ∧ w'.cell? ⟨gb204, 3, none⟩ = some (.int .i64 ((rd_T35 l0_0 x3_1).f1))) (ds := []) (mb 0 28) (by kernel_rfl) rfl rfl ⟨mZ BK204.out 0, mZ BK204.out 1, mZ BK204.out 2, mZ BK204.out 3⟩ (fun hHeld => ?_); refine with_tabW spec_MemOk.tab5 spec_MemOk.bits5 (fun HT_ HW_ => ?_)
       generalize w27.drew = w28 at BK202 BK204 HB hHeld ⊢
       refine mpu 0 17 HT_.out (mb 1 27) ?_
       refine mpt 1 18 HT_.out HW_.out (mb 2 26) hHeld ?_
       refine one_ (i := 2) (N := some 19) (mb 3 25) rfl rfl (one_of HT_.out (by kernel_rfl)) (by decide) (fun K hK => ?_)
       refine goes_ Try.func75 (by kernel_rfl) rfl #[.agg #[.string ((rd_T35 l0_0 x3_1).f0.f0), .string ((rd_T35 l0_0 x3_1).f0.f1), .bool ((rd_T35 l0_0 x3_1).f0.f2)]] (by rfl) rfl rfl mA ?_
       with_reducible refine (spec_PairOk.calls ((rd_T35 l0_0 x3_1).f0.f0) ((rd_T35 l0_0 x3_1).f0.f1) ((rd_T35 l0_0 x3_1).f0.f2) false _ A10.out).mono ?_
       rintro e w29 ⟨rfl, hb⟩
       refine ⟨_, rfl, ?_⟩
       have n0_ := mB BK202 hb
       have n1_ := mB BK204 hb
       have n2_ := mS (below_step (mH2 HB.out GE202.out GE204.out) hb)
       clear BK202
       clear BK204
       clear HB
       have BK202 := n0_
       have BK204 := n1_
       have HB := n2_
       clear n0_ n1_ n2_
       (try clear hb)
       (try clear hb2)
       (try clear hk)
       (try clear hi)
       refine hK.out _ _ ⟨mZ BK204.out 0, mZ BK204.out 1, mZ BK204.out 2, mZ BK204.out 3⟩ (fun hHeld => ?_)
       clear hK K
       refine norm_ (a' := ?_) ?_ ?_
       rotate_left
       ·show Act.put _ (some 19) _ = _
        simp only [Act.put, zA, zB, zC, i64_w, i32_w]
        rfl
       refine mpu 3 20 HT_.out (mb 4 24) ?_
       refine mpu 4 21 HT_.out (mb 5 23) ?_
       refine mpf 5 22 HT_.out (mb 6 22) ?_
       refine mpf 6 23 HT_.out (mb 7 21) ?_
       refine mpf 7 24 HT_.out (mb 8 20) ?_
       refine mpf 8 25 HT_.out (mb 9 19) ?_
       refine mpu 9 26 HT_.out (mb 10 18) ?_
       refine mpu 10 27 HT_.out (mb 11 17) ?_
       refine mpf 11 28 HT_.out (mb 12 16) ?_
       refine mpf 12 29 HT_.out (mb 13 15) ?_
       refine mpf 13 30 HT_.out (mb 14 14) ?_
       refine mpf 14 31 HT_.out (mb 15 13) ?_
       refine mpf 15 32 HT_.out (mb 16 12) ?_
       refine mpf 16 33 HT_.out (mb 17 11) ?_
       refine mpf 17 34 HT_.out (mb 18 10) ?_
       refine mpf 18 35 HT_.out (mb 19 9) ?_
       refine mpf 19 36 HT_.out (mb 20 8) ?_
       refine mpf 20 37 HT_.out (mb 21 7) ?_
       refine mpf 21 38 HT_.out (mb 22 6) ?_
       refine mpf 22 39 HT_.out (mb 23 5) ?_
       refine mpf 23 40 HT_.out (mb 24 4) ?_
       refine mpf 24 41 HT_.out (mb 25 3) ?_
       refine mpf 25 42 HT_.out (mb 26 2) ?_
       refine mpf 26 43 HT_.out (mb 27 1) ?_
       refine mpu 27 44 HT_.out (mb 28 0) ?_
       refine done_ (done_of HT_.out (by kernel_rfl)) ?_
       try go_wp2
       go_meet
       case rel => exact ⟨_, (true), (by first | rfl | (simp; done) | (simp [*]; done)), H', ⟨by have := HK1.out; first | omega | exact Nat.le_refl _⟩, ⟨by (with_reducible repeat (first | refine blk_drewN ?_ _ | refine blk_drew ?_ | refine blk_alloc ?_ _)); exact BK202.out⟩, ⟨by (with_reducible repeat (first | refine blk_drewN ?_ _ | refine blk_drew ?_ | refine blk_alloc ?_ _)); exact BK204.out⟩, ⟨(mH2 HB.out GE202.out GE204.out)⟩⟩
     case rest =>
      clear HC5
      try clear c1
      try clear p2
      try clear c7
      try clear c11
      try clear c13
      obtain ⟨kq, x44_4, rfl, HA, HJ4, BK202, BK204, HB⟩ := hcut
      cases kq with
      | zero => exact absurd HA.out (by simp [spec_MemOk.j1])
      | succ kj4 =>
       have H := HA.out
       clear HA
       simp only [spec_MemOk.j1] at H
       by_cases c30 : x44_4 = true
       ·subst c30
        have H1 : (some false) = some r := by rw [if_pos rfl] at H; exact H
        clear H
        have H := H1
        clear H1
        obtain rfl := Option.some.inj H
        go_wp2
        go_ret
        exact ⟨by first | rfl | (simp [errW_none, errW_some] <;> rfl) | (simp [*, errW_none, errW_some] <;> rfl), (mH2 HB.out GE202.out GE204.out)⟩
       ·replace c30 := Bool.eq_false_iff.mpr c30
        subst c30
        have H1 : (spec_MemOk.l0 kj4 (wrap64 (x3_1 + 1)) l0_0) = some r := by rw [if_neg (show ¬ (false = true) by decide)] at H; exact H
        clear H
        have H := H1
        clear H1
        have H' := mS H
        clear H
        go_wp2
        go_roundg kj4
        case measure => have := HK1.out; have := HJ4.out; omega
        case rel => exact ⟨(wrap64 (x3_1 + 1)), (by first | rfl | (simp; done) | (simp [*]; done)), H', ⟨by have := HK1.out; have := HJ4.out; omega⟩, ⟨by (with_reducible repeat (first | refine blk_drewN ?_ _ | refine blk_drew ?_ | refine blk_alloc ?_ _)); exact BK202.out⟩, ⟨(mH2 HB.out GE202.out GE204.out)⟩⟩
    ·rw [if_neg c4] at H
     exact absurd H (by simp)
   ·rw [if_neg c3] at H
    have c3b0 : decide (x3_1 < (l0_0.length : Int)) = false := decide_eq_false c3
    clear c3
    obtain rfl := Option.some.inj H
    have hcz31_0 := mZ BK202.out 0
    have hfz31_0 := blk_frozen BK202.out 0
    go_wp2
    go_ret
    exact ⟨by first | rfl | (simp [errW_none, errW_some] <;> rfl) | (simp [*, errW_none, errW_some] <;> rfl), (mH1 HB.out GE202.out)⟩

end Go.Proofs.Ytbepbgfkajnlbaa.MFnMerged
