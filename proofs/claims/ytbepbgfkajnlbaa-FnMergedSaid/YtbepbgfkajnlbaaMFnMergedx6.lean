-- Written by mp.py, this session's own printer (wip/mp.py).
import Derived.Test.YtbepbgfkajnlbaaVMShort
import Derived.Test.YtbepbgfkajnlbaaMFnMergedx0
import Derived.Test.YtbepbgfkajnlbaaMFnMergedx5
namespace Go.Proofs.Ytbepbgfkajnlbaa.MFnMerged
open Go.RowKit Go.Proofs.YtbepbgfkajnlbaaW.PrintWords Go.Proofs.YtbepbgfkajnlbaaW.PrintLast Go.Proofs.YtbepbgfkajnlbaaW.PrintMore Go.Proofs.Ytbepbgfkajnlbaa.MWords
attribute [local go_sem] max2_int min2_int max_two min_two max_three min_three max_four min_four   -- for this text's walks alone
set_option linter.unusedVariables false
set_option linter.unusedSimpArgs false

/-! ### impl_rising: function 110 -/
mutual
def impl_rising.l0 : Nat → List (S33) → List (S33) → Int → Int → Option (Bool)
 | 0, _, _, _, _ => none
 | k + 1, x0, x5, x6, x7 => if x7 < x6 then (if 0 ≤ x7 then (if x7 < (x5.length : Int) then ((impl_PairOk.f ((rd_T33 x5 x7).f0) ((rd_T33 x5 x7).f1) ((rd_T33 x5 x7).f2)).bind fun t154 => (if t154 = true then (if x7 > 0 then (if 0 ≤ (wrap64 (x7 - 1)) then (if (wrap64 (x7 - 1)) < (x0.length : Int) then (impl_rising.j1 k x0 x5 x6 x7 (!(Op.bytesLess (((rd_T33 x0 (wrap64 (x7 - 1))).f0).toList) (((rd_T33 x5 x7).f0).toList)))) else (none)) else (none)) else (impl_rising.j1 k x0 x5 x6 x7 false)) else (impl_rising.j1 k x0 x5 x6 x7 true))) else (none)) else (none)) else (some true)
def impl_rising.j1 : Nat → List (S33) → List (S33) → Int → Int → Bool → Option (Bool)
 | 0, _, _, _, _, _ => none
 | k + 1, x0, x5, x6, x7, x29 => if x29 = true then (some false) else (impl_rising.l0 k x0 x5 x6 (wrap64 (x7 + 1)))
end
def impl_rising.f (k : Nat) (l0 : List (S33)) : Option (Bool) := impl_rising.l0 k l0 l0 (l0.length : Int) 0
theorem impl_rising.mono_l : ∀ k, (∀ y0 y1 y2 y3, LeO (impl_rising.l0 k y0 y1 y2 y3) (impl_rising.l0 (k + 1) y0 y1 y2 y3)) ∧ (∀ y0 y1 y2 y3 y4, LeO (impl_rising.j1 k y0 y1 y2 y3 y4) (impl_rising.j1 (k + 1) y0 y1 y2 y3 y4))
 | 0 => ⟨fun _ _ _ _ r h => by simp [impl_rising.l0] at h, fun _ _ _ _ _ r h => by simp [impl_rising.j1] at h⟩
 | k + 1 => by
  obtain ⟨ih0, ih1⟩ := impl_rising.mono_l k
  refine ⟨?_, ?_⟩
  ·intro y0 y1 y2 y3
   unfold impl_rising.l0
   repeat' first
   | (with_reducible exact ih0 _ _ _ _)
   | (with_reducible exact ih1 _ _ _ _ _)
   | (with_reducible exact LeO.refl _)
   | (with_reducible exact LeO.none _)
   | (with_reducible refine LeO.ite ?_ ?_)
   | (with_reducible refine LeO.bind ?_ (fun _ => ?_))
   | exact ih0 _ _ _ _
   | exact ih1 _ _ _ _ _
   | exact LeO.none _
   | refine LeO.ite ?_ ?_
   | refine LeO.bind ?_ (fun _ => ?_)
  ·intro y0 y1 y2 y3 y4
   unfold impl_rising.j1
   repeat' first
   | (with_reducible exact ih0 _ _ _ _)
   | (with_reducible exact ih1 _ _ _ _ _)
   | (with_reducible exact LeO.refl _)
   | (with_reducible exact LeO.none _)
   | (with_reducible refine LeO.ite ?_ ?_)
   | (with_reducible refine LeO.bind ?_ (fun _ => ?_))
   | exact ih0 _ _ _ _
   | exact ih1 _ _ _ _ _
   | exact LeO.none _
   | refine LeO.ite ?_ ?_
   | refine LeO.bind ?_ (fun _ => ?_)
theorem impl_rising.mono : ∀ a0 k, LeO (impl_rising.f k a0) (impl_rising.f (k + 1) a0) := by
 intro a0 k
 obtain ⟨ih0, ih1⟩ := impl_rising.mono_l k
 unfold impl_rising.f
 repeat' first
   | (with_reducible exact ih0 _ _ _ _)
   | (with_reducible exact ih1 _ _ _ _ _)
   | (with_reducible exact LeO.refl _)
   | (with_reducible exact LeO.none _)
   | (with_reducible refine LeO.ite ?_ ?_)
   | (with_reducible refine LeO.bind ?_ (fun _ => ?_))
   | exact ih0 _ _ _ _
   | exact ih1 _ _ _ _ _
   | exact LeO.none _
   | refine LeO.ite ?_ ?_
   | refine LeO.bind ?_ (fun _ => ?_)
def impl_rising.T4 : Bool × List (List Nat × List Nat) := (true, [([], []), ([0], [0]), ([1], [1]), ([2, 1], [2]), ([3], [3]), ([4, 3], [3, 4]), ([5, 3, 3], [3, 5]), ([6], [6]), ([6], [6]), ([8, 6], [6, 8]), ([7, 9, 6], [6, 7, 9]), ([10, 6], [6, 10]), ([11, 6], [6, 11]), ([6], [6]), ([13, 6], [6, 13]), ([12, 14, 6], [6, 12, 14]), ([6, 15, 3], [3, 6, 15]), ([3, 16], [3, 16])])
def impl_rising.B4 : List Nat := [0, 1, 3, 7, 15, 31, 63, 127, 127, 383, 1023, 2047, 4095, 127, 8319, 32767, 65535, 131071]
theorem impl_rising.tab4 : rtab .any (opsOf Try.f110 4) = impl_rising.T4 := by kernel_rfl
theorem impl_rising.bits4 : waitsOk impl_rising.T4.2 impl_rising.B4 = true := by kernel_rfl
set_option maxHeartbeats 8000000 in
set_option maxRecDepth 100000 in
theorem impl_rising.calls (k : Nat) (A0 : Option Addr) (c0 : Nat) (l0 : List (S33)) (r : Bool) (w : World) (hr0 : Kd.C k33 w A0 l0.length l0) (hc0 : l0.length ≤ c0) (h : impl_rising.f k l0 = some r) :
  Calls Try.prog 110 #[.slice A0 l0.length c0] w fun e w' => e = .returned (.bool r) ∧ Below w.heap.size w w' := by
 have hu33 := Try.underlying33
 have HR0 := mS hr0
 have HC0 := mS hc0
 clear hr0 hc0
 have HB := mS (Below.refl w.heap.size w)
 have H : (impl_rising.l0 k l0 l0 (l0.length : Int) 0) = some r := h
 clear h
 have H' := mS H
 clear H
 go_enter Try.func110, Try.ntmps110
 go_wp2
 go_loopg [7] k (fun kq v7 w' => ∃ (x7_1 : Int), v7 = .int .i64 x7_1 ∧ Aside0 (impl_rising.l0 kq l0 l0 (l0.length : Int) x7_1 = some r) ∧ Aside0 (kq ≤ k) ∧ Aside0 (Below w.heap.size w w'))
 case atStart => exact ⟨(0), (by first | rfl | (simp; done) | (simp [*]; done)), H', ⟨Nat.le_refl _⟩, ⟨(mH HB.out)⟩⟩
 case round =>
  clear H'
  try clear c1
  obtain ⟨x7_1, rfl, HA, HK1, HB⟩ := hrel
  cases gk with
  | zero => exact absurd HA.out (by simp [impl_rising.l0])
  | succ k1 =>
   have H := HA.out
   clear HA
   simp only [impl_rising.l0] at H
   by_cases c2 : x7_1 < (l0.length : Int)
   ·rw [if_pos c2] at H
    have c2b0 : decide (x7_1 < (l0.length : Int)) = true := decide_eq_true c2
    clear c2
    by_cases c3 : 0 ≤ x7_1
    ·rw [if_pos c3] at H
     have c3b0 : decide (0 ≤ x7_1) = true := decide_eq_true c3
     clear c3
     by_cases c4 : x7_1 < (l0.length : Int)
     ·rw [if_pos c4] at H
      have c4b0 : decide (x7_1 < (l0.length : Int)) = true := decide_eq_true c4
      clear c4
      have HC5 := mS H
      clear H
      have p152 : 0 ≤ (x7_1 : Int) := of_decide_eq_true (by first | (with_reducible assumption) | assumption)
      have q152 : x7_1 < (l0.length : Int) := of_decide_eq_true (by first | (with_reducible assumption) | assumption)
      obtain ⟨ad152, e152, hx152_0, hx152_1, hx152_2⟩ := at_T33 HR0.out x7_1 p152 q152
      cases e152
      replace hx152_0 := mX HB.out hx152_0
      replace hx152_1 := mX HB.out hx152_1
      replace hx152_2 := mX HB.out hx152_2
      replace p152 := eq_true p152
      replace q152 := eq_true q152
      go_upto_region 4 with (first | ((with_reducible refine gate_dst (N := 4) rfl ?_); refine box_event ?hg (N := 4) ?hd (cs := #[.string (⟨#[]⟩ : ByteArray), .string (⟨#[]⟩ : ByteArray), .bool false]) (t := 33) ?hr ?_; (case hd => rfl); (case hg => rfl); (case hr => first | (go_simp; done) | (go_simp; rfl)); intro gb153 hg w6 hbox hb; have BK153 := mS (hbox); have GW153 := mG hg (mH HB.out); have GE153 := mG hg (mH HB.out); replace HB := mS (below_step (mH HB.out) hb); clear hb hbox hg; have hcz7_0 := mZ BK153.out 0; have hcz7_1 := mZ BK153.out 1; have hcz7_2 := mZ BK153.out 2; have hfz7_0 := blk_frozen BK153.out 0; have hfz7_1 := blk_frozen BK153.out 1; have hfz7_2 := blk_frozen BK153.out 2))
      (try simp only [Act.put, zA, zB, zC])
      go_cut [29] (fun v29 wc => ∃ (kq : Nat) (x29_4 : Bool), v29 = .bool x29_4 ∧ Aside0 (impl_rising.j1 kq l0 l0 (l0.length : Int) x7_1 x29_4 = some r) ∧ Aside0 (kq ≤ k1) ∧ Aside0 (wc.heap[gb153]? = some (.cells #[.string ((rd_T33 l0 x7_1).f0), .string ((rd_T33 l0 x7_1).f1), .bool ((rd_T33 l0 x7_1).f2)] 33 (0, 0))) ∧ Aside0 (Below w.heap.size w wc))
      case first =>
       have H := HC5.out
       clear HC5
       replace H := Option.bind_eq_some_iff.mp H
       obtain ⟨t154, A80, H⟩ := H
       replace H : (if t154 = true then (if x7_1 > 0 then (if 0 ≤ (wrap64 (x7_1 - 1)) then (if (wrap64 (x7_1 - 1)) < (l0.length : Int) then (impl_rising.j1 k1 l0 l0 (l0.length : Int) x7_1 (!(Op.bytesLess (((rd_T33 l0 (wrap64 (x7_1 - 1))).f0).toList) (((rd_T33 l0 x7_1).f0).toList)))) else (none)) else (none)) else (impl_rising.j1 k1 l0 l0 (l0.length : Int) x7_1 false)) else (impl_rising.j1 k1 l0 l0 (l0.length : Int) x7_1 true)) = some r := H
       have A8 := mS A80
       clear A80
       by_cases c9 : t154 = true
       ·subst c9
        have H1 : (if x7_1 > 0 then (if 0 ≤ (wrap64 (x7_1 - 1)) then (if (wrap64 (x7_1 - 1)) < (l0.length : Int) then (impl_rising.j1 k1 l0 l0 (l0.length : Int) x7_1 (!(Op.bytesLess (((rd_T33 l0 (wrap64 (x7_1 - 1))).f0).toList) (((rd_T33 l0 x7_1).f0).toList)))) else (none)) else (none)) else (impl_rising.j1 k1 l0 l0 (l0.length : Int) x7_1 false)) = some r := by rw [if_pos rfl] at H; exact H
        clear H
        have H := H1
        clear H1
        by_cases c10 : x7_1 > 0
        ·rw [if_pos c10] at H
         have c10b0 : decide (0 < x7_1) = true := decide_eq_true c10
         clear c10
         (first | rw [c10b0] | (simp only [i64_w, i32_w]; rw [c10b0]) | skip)
         obtain ⟨ji11, hji11⟩ : ∃ j_ : Int, (wrap64 (x7_1 - 1)) = j_ := ⟨_, rfl⟩
         replace H : (if 0 ≤ (ji11) then (if (ji11) < (l0.length : Int) then (impl_rising.j1 k1 l0 l0 (l0.length : Int) x7_1 (!(Op.bytesLess (((rd_T33 l0 (ji11)).f0).toList) (((rd_T33 l0 x7_1).f0).toList)))) else (none)) else (none)) = some r := by first | (rw [hji11] at H; exact H) | (simp only [hji11] at H ⊢; exact H)
         (try rw [hji11] at A8)
         have hji11w : (IntKind.i64.wrap (x7_1 - 1)) = ji11 := (i64_w _).trans hji11
         by_cases c12 : 0 ≤ (ji11)
         ·rw [if_pos c12] at H
          have c12b0 : decide (0 ≤ (ji11)) = true := decide_eq_true c12
          clear c12
          by_cases c13 : (ji11) < (l0.length : Int)
          ·rw [if_pos c13] at H
           have c13b0 : decide ((ji11) < (l0.length : Int)) = true := decide_eq_true c13
           clear c13
           have H' := mS H
           clear H
           try go_wp2
           have n0_ : Aside0 ((((w6.setCell ⟨gb153, 0, none⟩ (.string ((rd_T33 l0 x7_1).f0))).setCell ⟨gb153, 1, none⟩ (.string ((rd_T33 l0 x7_1).f1))).setCell ⟨gb153, 2, none⟩ (.bool ((rd_T33 l0 x7_1).f2))).heap[gb153]? = some (.cells #[.string ((rd_T33 l0 x7_1).f0), .string ((rd_T33 l0 x7_1).f1), .bool ((rd_T33 l0 x7_1).f2)] 33 (0, 0))) := ⟨by (with_reducible repeat (first | refine blk_drewN ?_ _ | refine blk_drew ?_ | refine blk_alloc ?_ _)); refine blk_put (cs := #[.string ((rd_T33 l0 x7_1).f0), .string ((rd_T33 l0 x7_1).f1), .bool false]) ?_ 2 _ rfl; (with_reducible repeat (first | refine blk_drewN ?_ _ | refine blk_drew ?_ | refine blk_alloc ?_ _)); refine blk_put (cs := #[.string ((rd_T33 l0 x7_1).f0), .string (⟨#[]⟩ : ByteArray), .bool false]) ?_ 1 _ rfl; (with_reducible repeat (first | refine blk_drewN ?_ _ | refine blk_drew ?_ | refine blk_alloc ?_ _)); refine blk_put (cs := #[.string (⟨#[]⟩ : ByteArray), .string (⟨#[]⟩ : ByteArray), .bool false]) ?_ 0 _ rfl; (with_reducible repeat (first | refine blk_drewN ?_ _ | refine blk_drew ?_ | refine blk_alloc ?_ _)); exact BK153.out⟩
           have n1_ : Aside0 (Below w.heap.size w (((w6.setCell ⟨gb153, 0, none⟩ (.string ((rd_T33 l0 x7_1).f0))).setCell ⟨gb153, 1, none⟩ (.string ((rd_T33 l0 x7_1).f1))).setCell ⟨gb153, 2, none⟩ (.bool ((rd_T33 l0 x7_1).f2)))) := ⟨(mH1 HB.out GE153.out)⟩
           (try clear BK153)
           (try clear HB)
           generalize (((w6.setCell ⟨gb153, 0, none⟩ (.string ((rd_T33 l0 x7_1).f0))).setCell ⟨gb153, 1, none⟩ (.string ((rd_T33 l0 x7_1).f1))).setCell ⟨gb153, 2, none⟩ (.bool ((rd_T33 l0 x7_1).f2))) = w14 at n0_ n1_ ⊢
           have BK153 := n0_
           have HB := n1_
           clear n0_ n1_
           have n0_ := mS (blk_drew BK153.out)
           have n1_ := mS (below_drew1 HB.out)
           clear BK153
           clear HB
           have BK153 := n0_
           have HB := n1_
           clear n0_ n1_
           have p155 : 0 ≤ ((ji11) : Int) := of_decide_eq_true (by first | (with_reducible assumption) | assumption)
           have q155 : (ji11) < (l0.length : Int) := of_decide_eq_true (by first | (with_reducible assumption) | assumption)
           obtain ⟨ad155, e155, hx155_0, hx155_1, hx155_2⟩ := at_T33 HR0.out (ji11) p155 q155
           have hw155_2 := hx155_2
           have hw155_1 := hx155_1
           have hw155_0 := hx155_0
           obtain rfl : ad152 = ad155 := (by injection e155)
           replace hx155_0 := mX HB.out hx155_0
           replace hx155_1 := mX HB.out hx155_1
           replace hx155_2 := mX HB.out hx155_2
           replace p155 := eq_true p155
           replace q155 := eq_true q155
           refine start_ (n := 18) (S := fun w' => w'.cell? ⟨gb153, 0, none⟩ = some (.string ((rd_T33 l0 x7_1).f0)) ∧ w'.cell? ⟨gb153, 1, none⟩ = some (.string ((rd_T33 l0 x7_1).f1)) ∧ w'.cell? ⟨gb153, 2, none⟩ = some (.bool ((rd_T33 l0 x7_1).f2)) ∧ w'.cell? (ad152.add (((ji11)).toNat * 3)) = some (.string ((rd_T33 l0 (ji11)).f0)) ∧ w'.cell? ⟨(ad152.add (((ji11)).toNat * 3)).block, (ad152.add (((ji11)).toNat * 3)).off + 1, none⟩ = some (.string ((rd_T33 l0 (ji11)).f1)) ∧ w'.cell? ⟨(ad152.add (((ji11)).toNat * 3)).block, (ad152.add (((ji11)).toNat * 3)).off + 2, none⟩ = some (.bool ((rd_T33 l0 (ji11)).f2))) (ds := []) (mb 0 18) (by kernel_rfl) rfl rfl ⟨mZ BK153.out 0, mZ BK153.out 1, mZ BK153.out 2, ((HB.out.cell (World.block_lt_of_cell? w _ hw155_0)).trans hw155_0), ((HB.out.cell (World.block_lt_of_cell? w _ hw155_1)).trans hw155_1), ((HB.out.cell (World.block_lt_of_cell? w _ hw155_2)).trans hw155_2)⟩ (fun hHeld => ?_); refine with_tabW impl_rising.tab4 impl_rising.bits4 (fun HT_ HW_ => ?_)
           generalize w14.drew = w15 at BK153 HB hx155_0 hx155_1 hx155_2 hHeld ⊢
           refine mpt 0 12 HT_.out HW_.out (mb 1 17) hHeld ?_
           refine one_ (i := 1) (N := some 13) (mb 2 16) rfl rfl (one_of HT_.out (by kernel_rfl)) (by decide) (fun K hK => ?_)
           refine goes_ Try.func23 (by kernel_rfl) rfl #[.agg #[.string ((rd_T33 l0 x7_1).f0), .string ((rd_T33 l0 x7_1).f1), .bool ((rd_T33 l0 x7_1).f2)]] (by rfl) rfl rfl mA ?_
           with_reducible refine (impl_PairOk.calls ((rd_T33 l0 x7_1).f0) ((rd_T33 l0 x7_1).f1) ((rd_T33 l0 x7_1).f2) true _ A8.out).mono ?_
           rintro e w16 ⟨rfl, hb⟩
           refine ⟨_, rfl, ?_⟩
           have n0_ := mB BK153 hb
           have n1_ := mS (below_step (mH1 HB.out GE153.out) hb)
           clear BK153
           clear HB
           have BK153 := n0_
           have HB := n1_
           clear n0_ n1_
           (try clear hb)
           (try clear hb2)
           (try clear hk)
           (try clear hi)
           refine hK.out _ _ ⟨mZ BK153.out 0, mZ BK153.out 1, mZ BK153.out 2, ((HB.out.cell (World.block_lt_of_cell? w _ hw155_0)).trans hw155_0), ((HB.out.cell (World.block_lt_of_cell? w _ hw155_1)).trans hw155_1), ((HB.out.cell (World.block_lt_of_cell? w _ hw155_2)).trans hw155_2)⟩ (fun hHeld => ?_)
           clear hK K
           refine norm_ (a' := ?_) ?_ ?_
           rotate_left
           ·show Act.put _ (some 13) _ = _
            simp only [Act.put, zA, zB, zC, i64_w, i32_w]
            rfl
           refine mpu 2 14 HT_.out (mb 3 15) ?_
           refine mpu 3 15 HT_.out (mb 4 14) ?_
           refine mpu 4 16 HT_.out (mb 5 13) ?_
           refine mpu 5 17 HT_.out (mb 6 12) ?_
           refine mpu 6 18 HT_.out (mb 7 11) ?_
           refine mpu 7 19 HT_.out (mb 8 10) ?_
           refine mpu 8 20 HT_.out (mb 9 9) ?_
           refine mpu 9 21 HT_.out (mb 10 8) ?_
           refine mpu 10 22 HT_.out (mb 11 7) ?_
           refine mpu 11 23 HT_.out (mb 12 6) ?_
           refine mpu 13 25 HT_.out #[true, true, true, true, true, true, true, true, true, true, true, true, false, true, false, false, false, false] ?_
           refine mpt 12 24 HT_.out HW_.out (mb 14 4) hHeld ?_
           refine mpt 14 26 HT_.out HW_.out (mb 15 3) hHeld ?_
           refine mpu 15 27 HT_.out (mb 16 2) ?_
           refine mpu 16 28 HT_.out (mb 17 1) ?_
           refine mpu 17 29 HT_.out (mb 18 0) ?_
           refine done_ (done_of HT_.out (by kernel_rfl)) ?_
           try go_wp2
           go_meet
           case rel => exact ⟨_, (!(Op.bytesLess (((rd_T33 l0 (ji11)).f0).toList) (((rd_T33 l0 x7_1).f0).toList))), (by first | rfl | (simp; done) | (simp only [← hji11] <;> (first | rfl | simp)) | (simp [*]; done)), H', ⟨by have := HK1.out; first | omega | exact Nat.le_refl _⟩, ⟨by (with_reducible repeat (first | refine blk_drewN ?_ _ | refine blk_drew ?_ | refine blk_alloc ?_ _)); exact BK153.out⟩, ⟨(mH1 HB.out GE153.out)⟩⟩
          ·rw [if_neg c13] at H
           exact absurd H (by simp)
         ·rw [if_neg c12] at H
          exact absurd H (by simp)
        ·rw [if_neg c10] at H
         have c10b0 : decide (0 < x7_1) = false := decide_eq_false c10
         clear c10
         (first | rw [c10b0] | (simp only [i64_w, i32_w]; rw [c10b0]) | skip)
         have H' := mS H
         clear H
         try go_wp2
         have n0_ : Aside0 ((((w6.setCell ⟨gb153, 0, none⟩ (.string ((rd_T33 l0 x7_1).f0))).setCell ⟨gb153, 1, none⟩ (.string ((rd_T33 l0 x7_1).f1))).setCell ⟨gb153, 2, none⟩ (.bool ((rd_T33 l0 x7_1).f2))).heap[gb153]? = some (.cells #[.string ((rd_T33 l0 x7_1).f0), .string ((rd_T33 l0 x7_1).f1), .bool ((rd_T33 l0 x7_1).f2)] 33 (0, 0))) := ⟨by (with_reducible repeat (first | refine blk_drewN ?_ _ | refine blk_drew ?_ | refine blk_alloc ?_ _)); refine blk_put (cs := #[.string ((rd_T33 l0 x7_1).f0), .string ((rd_T33 l0 x7_1).f1), .bool false]) ?_ 2 _ rfl; (with_reducible repeat (first | refine blk_drewN ?_ _ | refine blk_drew ?_ | refine blk_alloc ?_ _)); refine blk_put (cs := #[.string ((rd_T33 l0 x7_1).f0), .string (⟨#[]⟩ : ByteArray), .bool false]) ?_ 1 _ rfl; (with_reducible repeat (first | refine blk_drewN ?_ _ | refine blk_drew ?_ | refine blk_alloc ?_ _)); refine blk_put (cs := #[.string (⟨#[]⟩ : ByteArray), .string (⟨#[]⟩ : ByteArray), .bool false]) ?_ 0 _ rfl; (with_reducible repeat (first | refine blk_drewN ?_ _ | refine blk_drew ?_ | refine blk_alloc ?_ _)); exact BK153.out⟩
         have n1_ : Aside0 (Below w.heap.size w (((w6.setCell ⟨gb153, 0, none⟩ (.string ((rd_T33 l0 x7_1).f0))).setCell ⟨gb153, 1, none⟩ (.string ((rd_T33 l0 x7_1).f1))).setCell ⟨gb153, 2, none⟩ (.bool ((rd_T33 l0 x7_1).f2)))) := ⟨(mH1 HB.out GE153.out)⟩
         (try clear BK153)
         (try clear HB)
         generalize (((w6.setCell ⟨gb153, 0, none⟩ (.string ((rd_T33 l0 x7_1).f0))).setCell ⟨gb153, 1, none⟩ (.string ((rd_T33 l0 x7_1).f1))).setCell ⟨gb153, 2, none⟩ (.bool ((rd_T33 l0 x7_1).f2))) = w17 at n0_ n1_ ⊢
         have BK153 := n0_
         have HB := n1_
         clear n0_ n1_
         have n0_ := mS (blk_drew BK153.out)
         have n1_ := mS (below_drew1 HB.out)
         clear BK153
         clear HB
         have BK153 := n0_
         have HB := n1_
         clear n0_ n1_
         refine start_ (n := 18) (S := fun w' => w'.cell? ⟨gb153, 0, none⟩ = some (.string ((rd_T33 l0 x7_1).f0)) ∧ w'.cell? ⟨gb153, 1, none⟩ = some (.string ((rd_T33 l0 x7_1).f1)) ∧ w'.cell? ⟨gb153, 2, none⟩ = some (.bool ((rd_T33 l0 x7_1).f2))) (ds := []) (mb 0 18) (by kernel_rfl) rfl rfl ⟨mZ BK153.out 0, mZ BK153.out 1, mZ BK153.out 2⟩ (fun hHeld => ?_); refine with_tabW impl_rising.tab4 impl_rising.bits4 (fun HT_ HW_ => ?_)
         generalize w17.drew = w18 at BK153 HB hHeld ⊢
         refine mpt 0 12 HT_.out HW_.out (mb 1 17) hHeld ?_
         refine one_ (i := 1) (N := some 13) (mb 2 16) rfl rfl (one_of HT_.out (by kernel_rfl)) (by decide) (fun K hK => ?_)
         refine goes_ Try.func23 (by kernel_rfl) rfl #[.agg #[.string ((rd_T33 l0 x7_1).f0), .string ((rd_T33 l0 x7_1).f1), .bool ((rd_T33 l0 x7_1).f2)]] (by rfl) rfl rfl mA ?_
         with_reducible refine (impl_PairOk.calls ((rd_T33 l0 x7_1).f0) ((rd_T33 l0 x7_1).f1) ((rd_T33 l0 x7_1).f2) true _ A8.out).mono ?_
         rintro e w19 ⟨rfl, hb⟩
         refine ⟨_, rfl, ?_⟩
         have n0_ := mB BK153 hb
         have n1_ := mS (below_step (mH1 HB.out GE153.out) hb)
         clear BK153
         clear HB
         have BK153 := n0_
         have HB := n1_
         clear n0_ n1_
         (try clear hb)
         (try clear hb2)
         (try clear hk)
         (try clear hi)
         refine hK.out _ _ ⟨mZ BK153.out 0, mZ BK153.out 1, mZ BK153.out 2⟩ (fun hHeld => ?_)
         clear hK K
         refine norm_ (a' := ?_) ?_ ?_
         rotate_left
         ·show Act.put _ (some 13) _ = _
          simp only [Act.put, zA, zB, zC, i64_w, i32_w]
          rfl
         refine mpu 2 14 HT_.out (mb 3 15) ?_
         refine mpu 3 15 HT_.out (mb 4 14) ?_
         refine mpu 4 16 HT_.out (mb 5 13) ?_
         refine mpu 5 17 HT_.out (mb 6 12) ?_
         refine mpu 6 18 HT_.out (mb 7 11) ?_
         refine mpf 7 19 HT_.out (mb 8 10) ?_
         refine mpf 8 20 HT_.out (mb 9 9) ?_
         refine mpf 9 21 HT_.out (mb 10 8) ?_
         refine mpf 10 22 HT_.out (mb 11 7) ?_
         refine mpf 11 23 HT_.out (mb 12 6) ?_
         refine mpf 12 24 HT_.out (mb 13 5) ?_
         refine mpf 13 25 HT_.out (mb 14 4) ?_
         refine mpf 14 26 HT_.out (mb 15 3) ?_
         refine mpf 15 27 HT_.out (mb 16 2) ?_
         refine mpu 16 28 HT_.out (mb 17 1) ?_
         refine mpu 17 29 HT_.out (mb 18 0) ?_
         refine done_ (done_of HT_.out (by kernel_rfl)) ?_
         try go_wp2
         go_meet
         case rel => exact ⟨_, (false), (by first | rfl | (simp; done) | (simp [*]; done)), H', ⟨by have := HK1.out; first | omega | exact Nat.le_refl _⟩, ⟨by (with_reducible repeat (first | refine blk_drewN ?_ _ | refine blk_drew ?_ | refine blk_alloc ?_ _)); exact BK153.out⟩, ⟨(mH1 HB.out GE153.out)⟩⟩
       ·replace c9 := Bool.eq_false_iff.mpr c9
        subst c9
        have H1 : (impl_rising.j1 k1 l0 l0 (l0.length : Int) x7_1 true) = some r := by rw [if_neg (show ¬ (false = true) by decide)] at H; exact H
        clear H
        have H := H1
        clear H1
        have H' := mS H
        clear H
        try go_wp2
        have n0_ : Aside0 ((((w6.setCell ⟨gb153, 0, none⟩ (.string ((rd_T33 l0 x7_1).f0))).setCell ⟨gb153, 1, none⟩ (.string ((rd_T33 l0 x7_1).f1))).setCell ⟨gb153, 2, none⟩ (.bool ((rd_T33 l0 x7_1).f2))).heap[gb153]? = some (.cells #[.string ((rd_T33 l0 x7_1).f0), .string ((rd_T33 l0 x7_1).f1), .bool ((rd_T33 l0 x7_1).f2)] 33 (0, 0))) := ⟨by (with_reducible repeat (first | refine blk_drewN ?_ _ | refine blk_drew ?_ | refine blk_alloc ?_ _)); refine blk_put (cs := #[.string ((rd_T33 l0 x7_1).f0), .string ((rd_T33 l0 x7_1).f1), .bool false]) ?_ 2 _ rfl; (with_reducible repeat (first | refine blk_drewN ?_ _ | refine blk_drew ?_ | refine blk_alloc ?_ _)); refine blk_put (cs := #[.string ((rd_T33 l0 x7_1).f0), .string (⟨#[]⟩ : ByteArray), .bool false]) ?_ 1 _ rfl; (with_reducible repeat (first | refine blk_drewN ?_ _ | refine blk_drew ?_ | refine blk_alloc ?_ _)); refine blk_put (cs := #[.string (⟨#[]⟩ : ByteArray), .string (⟨#[]⟩ : ByteArray), .bool false]) ?_ 0 _ rfl; (with_reducible repeat (first | refine blk_drewN ?_ _ | refine blk_drew ?_ | refine blk_alloc ?_ _)); exact BK153.out⟩
        have n1_ : Aside0 (Below w.heap.size w (((w6.setCell ⟨gb153, 0, none⟩ (.string ((rd_T33 l0 x7_1).f0))).setCell ⟨gb153, 1, none⟩ (.string ((rd_T33 l0 x7_1).f1))).setCell ⟨gb153, 2, none⟩ (.bool ((rd_T33 l0 x7_1).f2)))) := ⟨(mH1 HB.out GE153.out)⟩
        (try clear BK153)
        (try clear HB)
        generalize (((w6.setCell ⟨gb153, 0, none⟩ (.string ((rd_T33 l0 x7_1).f0))).setCell ⟨gb153, 1, none⟩ (.string ((rd_T33 l0 x7_1).f1))).setCell ⟨gb153, 2, none⟩ (.bool ((rd_T33 l0 x7_1).f2))) = w20 at n0_ n1_ ⊢
        have BK153 := n0_
        have HB := n1_
        clear n0_ n1_
        have n0_ := mS (blk_drew BK153.out)
        have n1_ := mS (below_drew1 HB.out)
        clear BK153
        clear HB
        have BK153 := n0_
        have HB := n1_
        clear n0_ n1_
        refine start_ (n := 18) (S := fun w' => w'.cell? ⟨gb153, 0, none⟩ = some (.string ((rd_T33 l0 x7_1).f0)) ∧ w'.cell? ⟨gb153, 1, none⟩ = some (.string ((rd_T33 l0 x7_1).f1)) ∧ w'.cell? ⟨gb153, 2, none⟩ = some (.bool ((rd_T33 l0 x7_1).f2))) (ds := []) (mb 0 18) (by kernel_rfl) rfl rfl ⟨mZ BK153.out 0, mZ BK153.out 1, mZ BK153.out 2⟩ (fun hHeld => ?_); refine with_tabW impl_rising.tab4 impl_rising.bits4 (fun HT_ HW_ => ?_)
        generalize w20.drew = w21 at BK153 HB hHeld ⊢
        refine mpt 0 12 HT_.out HW_.out (mb 1 17) hHeld ?_
        refine one_ (i := 1) (N := some 13) (mb 2 16) rfl rfl (one_of HT_.out (by kernel_rfl)) (by decide) (fun K hK => ?_)
        refine goes_ Try.func23 (by kernel_rfl) rfl #[.agg #[.string ((rd_T33 l0 x7_1).f0), .string ((rd_T33 l0 x7_1).f1), .bool ((rd_T33 l0 x7_1).f2)]] (by rfl) rfl rfl mA ?_
        with_reducible refine (impl_PairOk.calls ((rd_T33 l0 x7_1).f0) ((rd_T33 l0 x7_1).f1) ((rd_T33 l0 x7_1).f2) false _ A8.out).mono ?_
        rintro e w22 ⟨rfl, hb⟩
        refine ⟨_, rfl, ?_⟩
        have n0_ := mB BK153 hb
        have n1_ := mS (below_step (mH1 HB.out GE153.out) hb)
        clear BK153
        clear HB
        have BK153 := n0_
        have HB := n1_
        clear n0_ n1_
        (try clear hb)
        (try clear hb2)
        (try clear hk)
        (try clear hi)
        refine hK.out _ _ ⟨mZ BK153.out 0, mZ BK153.out 1, mZ BK153.out 2⟩ (fun hHeld => ?_)
        clear hK K
        refine norm_ (a' := ?_) ?_ ?_
        rotate_left
        ·show Act.put _ (some 13) _ = _
         simp only [Act.put, zA, zB, zC, i64_w, i32_w]
         rfl
        refine mpu 2 14 HT_.out (mb 3 15) ?_
        refine mpu 3 15 HT_.out (mb 4 14) ?_
        refine mpf 4 16 HT_.out (mb 5 13) ?_
        refine mpf 5 17 HT_.out (mb 6 12) ?_
        refine mpf 6 18 HT_.out (mb 7 11) ?_
        refine mpf 7 19 HT_.out (mb 8 10) ?_
        refine mpf 8 20 HT_.out (mb 9 9) ?_
        refine mpf 9 21 HT_.out (mb 10 8) ?_
        refine mpf 10 22 HT_.out (mb 11 7) ?_
        refine mpf 11 23 HT_.out (mb 12 6) ?_
        refine mpf 12 24 HT_.out (mb 13 5) ?_
        refine mpf 13 25 HT_.out (mb 14 4) ?_
        refine mpf 14 26 HT_.out (mb 15 3) ?_
        refine mpf 15 27 HT_.out (mb 16 2) ?_
        refine mpf 16 28 HT_.out (mb 17 1) ?_
        refine mpu 17 29 HT_.out (mb 18 0) ?_
        refine done_ (done_of HT_.out (by kernel_rfl)) ?_
        try go_wp2
        go_meet
        case rel => exact ⟨_, (true), (by first | rfl | (simp; done) | (simp [*]; done)), H', ⟨by have := HK1.out; first | omega | exact Nat.le_refl _⟩, ⟨by (with_reducible repeat (first | refine blk_drewN ?_ _ | refine blk_drew ?_ | refine blk_alloc ?_ _)); exact BK153.out⟩, ⟨(mH1 HB.out GE153.out)⟩⟩
      case rest =>
       clear HC5
       try clear c1
       try clear p1
       try clear q1
       try clear hx1
       try clear c2
       try clear c2b0
       try clear p2
       try clear c3
       try clear c3b0
       try clear c4
       try clear c4b0
       try clear p6
       try clear c9
       try clear c10
       try clear c10b0
       try clear c11
       try clear c12
       try clear c12b0
       try clear c13
       try clear c13b0
       try clear p15
       try clear q15
       try clear hx15
       try clear hcz7_0
       try clear hcz7_1
       try clear hcz7_2
       try clear hfz7_0
       try clear hfz7_1
       try clear hfz7_2
       try clear hx152_0
       try clear hx152_1
       try clear hx152_2
       try clear hx155_0
       try clear hx155_1
       try clear hx155_2
       try clear p152
       try clear p155
       try clear q152
       try clear q155
       obtain ⟨kq, x29_4, rfl, HA, HJ4, BK153, HB⟩ := hcut
       cases kq with
       | zero => exact absurd HA.out (by simp [impl_rising.j1])
       | succ kj4 =>
        have H := HA.out
        clear HA
        simp only [impl_rising.j1] at H
        by_cases c23 : x29_4 = true
        ·subst c23
         have H1 : (some false) = some r := by rw [if_pos rfl] at H; exact H
         clear H
         have H := H1
         clear H1
         obtain rfl := Option.some.inj H
         go_wp2
         go_ret
         exact ⟨by first | rfl | (simp [errW_none, errW_some] <;> rfl) | (simp [*, errW_none, errW_some] <;> rfl), (mH1 HB.out GE153.out)⟩
        ·replace c23 := Bool.eq_false_iff.mpr c23
         subst c23
         have H1 : (impl_rising.l0 kj4 l0 l0 (l0.length : Int) (wrap64 (x7_1 + 1))) = some r := by rw [if_neg (show ¬ (false = true) by decide)] at H; exact H
         clear H
         have H := H1
         clear H1
         have H' := mS H
         clear H
         go_wp2
         go_roundg kj4
         case measure => have := HK1.out; have := HJ4.out; omega
         case rel => exact ⟨(wrap64 (x7_1 + 1)), (by first | rfl | (simp; done) | (simp [*]; done)), H', ⟨by have := HK1.out; have := HJ4.out; omega⟩, ⟨(mH1 HB.out GE153.out)⟩⟩
     ·rw [if_neg c4] at H
      exact absurd H (by simp)
    ·rw [if_neg c3] at H
     exact absurd H (by simp)
   ·rw [if_neg c2] at H
    have c2b0 : decide (x7_1 < (l0.length : Int)) = false := decide_eq_false c2
    clear c2
    obtain rfl := Option.some.inj H
    go_wp2
    go_ret
    exact ⟨by first | rfl | (simp [errW_none, errW_some] <;> rfl) | (simp [*, errW_none, errW_some] <;> rfl), (mH HB.out)⟩

end Go.Proofs.Ytbepbgfkajnlbaa.MFnMerged
