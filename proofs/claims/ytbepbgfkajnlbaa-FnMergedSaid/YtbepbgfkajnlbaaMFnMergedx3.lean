-- Written by mp.py, this session's own printer (wip/mp.py).
import Derived.Test.YtbepbgfkajnlbaaVMShort
import Derived.Test.YtbepbgfkajnlbaaMFnMergedx0
import Derived.Test.YtbepbgfkajnlbaaMFnMergedx2
namespace Go.Proofs.Ytbepbgfkajnlbaa.MFnMerged
open Go.RowKit Go.Proofs.YtbepbgfkajnlbaaW.PrintWords Go.Proofs.YtbepbgfkajnlbaaW.PrintLast Go.Proofs.YtbepbgfkajnlbaaW.PrintMore Go.Proofs.Ytbepbgfkajnlbaa.MWords
attribute [local go_sem] max2_int min2_int max_two min_two max_three min_three max_four min_four   -- for this text's walks alone
set_option linter.unusedVariables false
set_option linter.unusedSimpArgs false

/-! ### spec_l4Rising: function 107 -/
mutual
def spec_l4Rising.l0 : Nat → List (S33) → Int → Option (Bool)
 | 0, _, _ => none
 | k + 1, x0, x3 => if x3 < (x0.length : Int) then (if 0 ≤ x3 then ((spec_PairOk.f ((rd_T33 x0 x3).f0) ((rd_T33 x0 x3).f1) ((rd_T33 x0 x3).f2)).bind fun t104 => (if t104 = true then (if x3 > 0 then (if 0 ≤ (wrap64 (x3 - 1)) then (if (wrap64 (x3 - 1)) < (x0.length : Int) then (spec_l4Rising.j1 k x0 x3 (!(Op.bytesLess (((rd_T33 x0 (wrap64 (x3 - 1))).f0).toList) (((rd_T33 x0 x3).f0).toList)))) else (none)) else (none)) else (spec_l4Rising.j1 k x0 x3 false)) else (spec_l4Rising.j1 k x0 x3 true))) else (none)) else (some true)
def spec_l4Rising.j1 : Nat → List (S33) → Int → Bool → Option (Bool)
 | 0, _, _, _ => none
 | k + 1, x0, x3, x33 => if x33 = true then (some false) else (spec_l4Rising.l0 k x0 (wrap64 (x3 + 1)))
end
def spec_l4Rising.f (k : Nat) (l0 : List (S33)) : Option (Bool) := spec_l4Rising.l0 k l0 0
theorem spec_l4Rising.mono_l : ∀ k, (∀ y0 y1, LeO (spec_l4Rising.l0 k y0 y1) (spec_l4Rising.l0 (k + 1) y0 y1)) ∧ (∀ y0 y1 y2, LeO (spec_l4Rising.j1 k y0 y1 y2) (spec_l4Rising.j1 (k + 1) y0 y1 y2))
 | 0 => ⟨fun _ _ r h => by simp [spec_l4Rising.l0] at h, fun _ _ _ r h => by simp [spec_l4Rising.j1] at h⟩
 | k + 1 => by
  obtain ⟨ih0, ih1⟩ := spec_l4Rising.mono_l k
  refine ⟨?_, ?_⟩
  ·intro y0 y1
   unfold spec_l4Rising.l0
   repeat' first
   | (with_reducible exact ih0 _ _)
   | (with_reducible exact ih1 _ _ _)
   | (with_reducible exact LeO.refl _)
   | (with_reducible exact LeO.none _)
   | (with_reducible refine LeO.ite ?_ ?_)
   | (with_reducible refine LeO.bind ?_ (fun _ => ?_))
   | exact ih0 _ _
   | exact ih1 _ _ _
   | exact LeO.none _
   | refine LeO.ite ?_ ?_
   | refine LeO.bind ?_ (fun _ => ?_)
  ·intro y0 y1 y2
   unfold spec_l4Rising.j1
   repeat' first
   | (with_reducible exact ih0 _ _)
   | (with_reducible exact ih1 _ _ _)
   | (with_reducible exact LeO.refl _)
   | (with_reducible exact LeO.none _)
   | (with_reducible refine LeO.ite ?_ ?_)
   | (with_reducible refine LeO.bind ?_ (fun _ => ?_))
   | exact ih0 _ _
   | exact ih1 _ _ _
   | exact LeO.none _
   | refine LeO.ite ?_ ?_
   | refine LeO.bind ?_ (fun _ => ?_)
theorem spec_l4Rising.mono : ∀ a0 k, LeO (spec_l4Rising.f k a0) (spec_l4Rising.f (k + 1) a0) := by
 intro a0 k
 obtain ⟨ih0, ih1⟩ := spec_l4Rising.mono_l k
 unfold spec_l4Rising.f
 repeat' first
   | (with_reducible exact ih0 _ _)
   | (with_reducible exact ih1 _ _ _)
   | (with_reducible exact LeO.refl _)
   | (with_reducible exact LeO.none _)
   | (with_reducible refine LeO.ite ?_ ?_)
   | (with_reducible refine LeO.bind ?_ (fun _ => ?_))
   | exact ih0 _ _
   | exact ih1 _ _ _
   | exact LeO.none _
   | refine LeO.ite ?_ ?_
   | refine LeO.bind ?_ (fun _ => ?_)
def spec_l4Rising.T4 : Bool × List (List Nat × List Nat) := (true, [([], []), ([], []), ([0, 1], [0, 1]), ([2], [2]), ([3], [3]), ([4], [4]), ([5, 4], [5]), ([6], [6]), ([7, 6], [6, 7]), ([8, 6, 6], [6, 8]), ([9], [9]), ([9], [9]), ([11, 9], [9, 11]), ([10, 12, 9], [9, 10, 12]), ([13, 9], [9, 13]), ([14, 9], [9, 14]), ([9], [9]), ([9], [9]), ([16, 17, 9], [9, 16, 17]), ([18, 9], [9, 18]), ([19, 9], [9, 19]), ([15, 20, 9], [9, 15, 20]), ([9, 21, 6], [6, 9, 21]), ([6, 22], [6, 22])])
def spec_l4Rising.B4 : List Nat := [0, 0, 3, 7, 15, 31, 63, 127, 255, 511, 1023, 1023, 3071, 8191, 16383, 32767, 1023, 1023, 197631, 459775, 984063, 2097151, 4194303, 8388607]
theorem spec_l4Rising.tab4 : rtab .any (opsOf Try.f107 4) = spec_l4Rising.T4 := by kernel_rfl
theorem spec_l4Rising.bits4 : waitsOk spec_l4Rising.T4.2 spec_l4Rising.B4 = true := by kernel_rfl
set_option maxHeartbeats 8000000 in
set_option maxRecDepth 100000 in
theorem spec_l4Rising.calls (k : Nat) (A0 : Option Addr) (c0 : Nat) (l0 : List (S33)) (r : Bool) (w : World) (hr0 : Kd.C k33 w A0 l0.length l0) (hc0 : l0.length ≤ c0) (h : spec_l4Rising.f k l0 = some r) :
  Calls Try.prog 107 #[.slice A0 l0.length c0] w fun e w' => e = .returned (.bool r) ∧ Below w.heap.size w w' := by
 have hu33 := Try.underlying33
 have HR0 := mS hr0
 have HC0 := mS hc0
 clear hr0 hc0
 have HB := mS (Below.refl w.heap.size w)
 have H : (spec_l4Rising.l0 k l0 0) = some r := h
 clear h
 have H' := mS H
 clear H
 go_enter Try.func107, Try.ntmps107
 go_wp2
 go_loopg [3] k (fun kq v3 w' => ∃ (x3_1 : Int), v3 = .int .i64 x3_1 ∧ Aside0 (spec_l4Rising.l0 kq l0 x3_1 = some r) ∧ Aside0 (kq ≤ k) ∧ Aside0 (Below w.heap.size w w'))
 case atStart => exact ⟨(0), (by first | rfl | (simp; done) | (simp [*]; done)), H', ⟨Nat.le_refl _⟩, ⟨(mH HB.out)⟩⟩
 case round =>
  clear H'
  try clear c1
  obtain ⟨x3_1, rfl, HA, HK1, HB⟩ := hrel
  cases gk with
  | zero => exact absurd HA.out (by simp [spec_l4Rising.l0])
  | succ k1 =>
   have H := HA.out
   clear HA
   simp only [spec_l4Rising.l0] at H
   by_cases c2 : x3_1 < (l0.length : Int)
   ·rw [if_pos c2] at H
    have c2b0 : decide (x3_1 < (l0.length : Int)) = true := decide_eq_true c2
    clear c2
    have HC3 := mS H
    clear H
    go_upto_region 4 with (fail)
    go_cut [33] (fun v33 wc => ∃ (kq : Nat) (x33_2 : Bool), v33 = .bool x33_2 ∧ Aside0 (spec_l4Rising.j1 kq l0 x3_1 x33_2 = some r) ∧ Aside0 (kq ≤ k1) ∧ Aside0 (Below w.heap.size w wc))
    case first =>
     have H := HC3.out
     clear HC3
     by_cases c4 : 0 ≤ x3_1
     ·rw [if_pos c4] at H
      have c4b0 : decide (0 ≤ x3_1) = true := decide_eq_true c4
      clear c4
      (first | rw [c4b0] | (simp only [i64_w, i32_w]; rw [c4b0]) | skip)
      replace H := Option.bind_eq_some_iff.mp H
      obtain ⟨t104, A50, H⟩ := H
      replace H : (if t104 = true then (if x3_1 > 0 then (if 0 ≤ (wrap64 (x3_1 - 1)) then (if (wrap64 (x3_1 - 1)) < (l0.length : Int) then (spec_l4Rising.j1 k1 l0 x3_1 (!(Op.bytesLess (((rd_T33 l0 (wrap64 (x3_1 - 1))).f0).toList) (((rd_T33 l0 x3_1).f0).toList)))) else (none)) else (none)) else (spec_l4Rising.j1 k1 l0 x3_1 false)) else (spec_l4Rising.j1 k1 l0 x3_1 true)) = some r := H
      have A5 := mS A50
      clear A50
      by_cases c6 : t104 = true
      ·subst c6
       have H1 : (if x3_1 > 0 then (if 0 ≤ (wrap64 (x3_1 - 1)) then (if (wrap64 (x3_1 - 1)) < (l0.length : Int) then (spec_l4Rising.j1 k1 l0 x3_1 (!(Op.bytesLess (((rd_T33 l0 (wrap64 (x3_1 - 1))).f0).toList) (((rd_T33 l0 x3_1).f0).toList)))) else (none)) else (none)) else (spec_l4Rising.j1 k1 l0 x3_1 false)) = some r := by rw [if_pos rfl] at H; exact H
       clear H
       have H := H1
       clear H1
       by_cases c7 : x3_1 > 0
       ·rw [if_pos c7] at H
        have c7b0 : decide (0 < x3_1) = true := decide_eq_true c7
        clear c7
        obtain ⟨ji8, hji8⟩ : ∃ j_ : Int, (wrap64 (x3_1 - 1)) = j_ := ⟨_, rfl⟩
        replace H : (if 0 ≤ (ji8) then (if (ji8) < (l0.length : Int) then (spec_l4Rising.j1 k1 l0 x3_1 (!(Op.bytesLess (((rd_T33 l0 (ji8)).f0).toList) (((rd_T33 l0 x3_1).f0).toList)))) else (none)) else (none)) = some r := by first | (rw [hji8] at H; exact H) | (simp only [hji8] at H ⊢; exact H)
        (try rw [hji8] at A5)
        have hji8w : (IntKind.i64.wrap (x3_1 - 1)) = ji8 := (i64_w _).trans hji8
        by_cases c9 : 0 ≤ (ji8)
        ·rw [if_pos c9] at H
         have c9b0 : decide (0 ≤ (ji8)) = true := decide_eq_true c9
         clear c9
         by_cases c10 : (ji8) < (l0.length : Int)
         ·rw [if_pos c10] at H
          have c10b0 : decide ((ji8) < (l0.length : Int)) = true := decide_eq_true c10
          clear c10
          have H' := mS H
          clear H
          try go_wp2
          have n0_ := mS (below_drew1 HB.out)
          clear HB
          have HB := n0_
          clear n0_
          have p103 : 0 ≤ (x3_1 : Int) := of_decide_eq_true (by first | (with_reducible assumption) | assumption)
          have q103 : x3_1 < (l0.length : Int) := of_decide_eq_true (by first | (with_reducible assumption) | assumption)
          obtain ⟨ad103, e103, hx103_0, hx103_1, hx103_2⟩ := at_T33 HR0.out x3_1 p103 q103
          have hw103_2 := hx103_2
          have hw103_1 := hx103_1
          have hw103_0 := hx103_0
          cases e103
          replace hx103_0 := mX HB.out hx103_0
          replace hx103_1 := mX HB.out hx103_1
          replace hx103_2 := mX HB.out hx103_2
          replace p103 := eq_true p103
          replace q103 := eq_true q103
          have p105 : 0 ≤ ((ji8) : Int) := of_decide_eq_true (by first | (with_reducible assumption) | assumption)
          have q105 : (ji8) < (l0.length : Int) := of_decide_eq_true (by first | (with_reducible assumption) | assumption)
          obtain ⟨ad105, e105, hx105_0, hx105_1, hx105_2⟩ := at_T33 HR0.out (ji8) p105 q105
          have hw105_2 := hx105_2
          have hw105_1 := hx105_1
          have hw105_0 := hx105_0
          obtain rfl : ad103 = ad105 := (by injection e105)
          replace hx105_0 := mX HB.out hx105_0
          replace hx105_1 := mX HB.out hx105_1
          replace hx105_2 := mX HB.out hx105_2
          replace p105 := eq_true p105
          replace q105 := eq_true q105
          have p106 : 0 ≤ (x3_1 : Int) := of_decide_eq_true (by first | (with_reducible assumption) | assumption)
          have q106 : x3_1 < (l0.length : Int) := of_decide_eq_true (by first | (with_reducible assumption) | assumption)
          obtain ⟨ad106, e106, hx106_0, hx106_1, hx106_2⟩ := at_T33 HR0.out x3_1 p106 q106
          have hw106_2 := hx106_2
          have hw106_1 := hx106_1
          have hw106_0 := hx106_0
          obtain rfl : ad103 = ad106 := (by injection e106)
          replace hx106_0 := mX HB.out hx106_0
          replace hx106_1 := mX HB.out hx106_1
          replace hx106_2 := mX HB.out hx106_2
          replace p106 := eq_true p106
          replace q106 := eq_true q106
          refine start_ (n := 24) (S := fun w' => w'.cell? (ad103.add ((x3_1).toNat * 3)) = some (.string ((rd_T33 l0 x3_1).f0)) ∧ w'.cell? ⟨(ad103.add ((x3_1).toNat * 3)).block, (ad103.add ((x3_1).toNat * 3)).off + 1, none⟩ = some (.string ((rd_T33 l0 x3_1).f1)) ∧ w'.cell? ⟨(ad103.add ((x3_1).toNat * 3)).block, (ad103.add ((x3_1).toNat * 3)).off + 2, none⟩ = some (.bool ((rd_T33 l0 x3_1).f2)) ∧ w'.cell? (ad103.add (((ji8)).toNat * 3)) = some (.string ((rd_T33 l0 (ji8)).f0)) ∧ w'.cell? ⟨(ad103.add (((ji8)).toNat * 3)).block, (ad103.add (((ji8)).toNat * 3)).off + 1, none⟩ = some (.string ((rd_T33 l0 (ji8)).f1)) ∧ w'.cell? ⟨(ad103.add (((ji8)).toNat * 3)).block, (ad103.add (((ji8)).toNat * 3)).off + 2, none⟩ = some (.bool ((rd_T33 l0 (ji8)).f2)) ∧ w'.cell? (ad103.add ((x3_1).toNat * 3)) = some (.string ((rd_T33 l0 x3_1).f0)) ∧ w'.cell? ⟨(ad103.add ((x3_1).toNat * 3)).block, (ad103.add ((x3_1).toNat * 3)).off + 1, none⟩ = some (.string ((rd_T33 l0 x3_1).f1)) ∧ w'.cell? ⟨(ad103.add ((x3_1).toNat * 3)).block, (ad103.add ((x3_1).toNat * 3)).off + 2, none⟩ = some (.bool ((rd_T33 l0 x3_1).f2))) (ds := []) (mb 0 24) (by kernel_rfl) rfl rfl ⟨((HB.out.cell (World.block_lt_of_cell? w _ hw103_0)).trans hw103_0), ((HB.out.cell (World.block_lt_of_cell? w _ hw103_1)).trans hw103_1), ((HB.out.cell (World.block_lt_of_cell? w _ hw103_2)).trans hw103_2), ((HB.out.cell (World.block_lt_of_cell? w _ hw105_0)).trans hw105_0), ((HB.out.cell (World.block_lt_of_cell? w _ hw105_1)).trans hw105_1), ((HB.out.cell (World.block_lt_of_cell? w _ hw105_2)).trans hw105_2), ((HB.out.cell (World.block_lt_of_cell? w _ hw106_0)).trans hw106_0), ((HB.out.cell (World.block_lt_of_cell? w _ hw106_1)).trans hw106_1), ((HB.out.cell (World.block_lt_of_cell? w _ hw106_2)).trans hw106_2)⟩ (fun hHeld => ?_); refine with_tabW spec_l4Rising.tab4 spec_l4Rising.bits4 (fun HT_ HW_ => ?_)
          generalize wr.drew = w11 at HB hx103_0 hx103_1 hx103_2 hx105_0 hx105_1 hx105_2 hx106_0 hx106_1 hx106_2 hHeld ⊢
          refine mpu 0 10 HT_.out (mb 1 23) ?_
          refine mpu 1 11 HT_.out (mb 2 22) ?_
          refine mpu 2 12 HT_.out (mb 3 21) ?_
          refine mpt 3 13 HT_.out HW_.out (mb 4 20) hHeld ?_
          refine one_ (i := 4) (N := some 14) (mb 5 19) rfl rfl (one_of HT_.out (by kernel_rfl)) (by decide) (fun K hK => ?_)
          refine goes_ Try.func75 (by kernel_rfl) rfl #[.agg #[.string ((rd_T33 l0 x3_1).f0), .string ((rd_T33 l0 x3_1).f1), .bool ((rd_T33 l0 x3_1).f2)]] (by rfl) rfl rfl mA ?_
          with_reducible refine (spec_PairOk.calls ((rd_T33 l0 x3_1).f0) ((rd_T33 l0 x3_1).f1) ((rd_T33 l0 x3_1).f2) true _ A5.out).mono ?_
          rintro e w12 ⟨rfl, hb⟩
          refine ⟨_, rfl, ?_⟩
          have n0_ := mS (below_step (mH HB.out) hb)
          clear HB
          have HB := n0_
          clear n0_
          (try clear hb)
          (try clear hb2)
          (try clear hk)
          (try clear hi)
          refine hK.out _ _ ⟨((HB.out.cell (World.block_lt_of_cell? w _ hw103_0)).trans hw103_0), ((HB.out.cell (World.block_lt_of_cell? w _ hw103_1)).trans hw103_1), ((HB.out.cell (World.block_lt_of_cell? w _ hw103_2)).trans hw103_2), ((HB.out.cell (World.block_lt_of_cell? w _ hw105_0)).trans hw105_0), ((HB.out.cell (World.block_lt_of_cell? w _ hw105_1)).trans hw105_1), ((HB.out.cell (World.block_lt_of_cell? w _ hw105_2)).trans hw105_2), ((HB.out.cell (World.block_lt_of_cell? w _ hw106_0)).trans hw106_0), ((HB.out.cell (World.block_lt_of_cell? w _ hw106_1)).trans hw106_1), ((HB.out.cell (World.block_lt_of_cell? w _ hw106_2)).trans hw106_2)⟩ (fun hHeld => ?_)
          clear hK K
          refine norm_ (a' := ?_) ?_ ?_
          rotate_left
          ·show Act.put _ (some 14) _ = _
           simp only [Act.put, zA, zB, zC, i64_w, i32_w]
           rfl
          refine mpu 5 15 HT_.out (mb 6 18) ?_
          refine mpu 6 16 HT_.out (mb 7 17) ?_
          refine mpu 7 17 HT_.out (mb 8 16) ?_
          refine mpu 8 18 HT_.out (mb 9 15) ?_
          refine mpu 9 19 HT_.out (mb 10 14) ?_
          refine mpu 10 20 HT_.out (mb 11 13) ?_
          refine mpu 11 21 HT_.out (mb 12 12) ?_
          refine mpu 12 22 HT_.out (mb 13 11) ?_
          refine mpu 13 23 HT_.out (mb 14 10) ?_
          refine mpu 14 24 HT_.out (mb 15 9) ?_
          refine mpu 16 26 HT_.out #[true, true, true, true, true, true, true, true, true, true, true, true, true, true, true, false, true, false, false, false, false, false, false, false] ?_
          refine mpu 17 27 HT_.out #[true, true, true, true, true, true, true, true, true, true, true, true, true, true, true, false, true, true, false, false, false, false, false, false] ?_
          refine mpu 18 28 HT_.out #[true, true, true, true, true, true, true, true, true, true, true, true, true, true, true, false, true, true, true, false, false, false, false, false] ?_
          refine mpu 19 29 HT_.out #[true, true, true, true, true, true, true, true, true, true, true, true, true, true, true, false, true, true, true, true, false, false, false, false] ?_
          refine mpt 15 25 HT_.out HW_.out (mb 20 4) hHeld ?_
          refine mpt 20 30 HT_.out HW_.out (mb 21 3) hHeld ?_
          refine mpu 21 31 HT_.out (mb 22 2) ?_
          refine mpu 22 32 HT_.out (mb 23 1) ?_
          refine mpu 23 33 HT_.out (mb 24 0) ?_
          refine done_ (done_of HT_.out (by kernel_rfl)) ?_
          try go_wp2
          go_meet
          case rel => exact ⟨_, (!(Op.bytesLess (((rd_T33 l0 (ji8)).f0).toList) (((rd_T33 l0 x3_1).f0).toList))), (by first | rfl | (simp; done) | (simp only [← hji8] <;> (first | rfl | simp)) | (simp [*]; done)), H', ⟨by have := HK1.out; first | omega | exact Nat.le_refl _⟩, ⟨(mH HB.out)⟩⟩
         ·rw [if_neg c10] at H
          exact absurd H (by simp)
        ·rw [if_neg c9] at H
         exact absurd H (by simp)
       ·rw [if_neg c7] at H
        have c7b0 : decide (0 < x3_1) = false := decide_eq_false c7
        clear c7
        have H' := mS H
        clear H
        try go_wp2
        have n0_ := mS (below_drew1 HB.out)
        clear HB
        have HB := n0_
        clear n0_
        have p103 : 0 ≤ (x3_1 : Int) := of_decide_eq_true (by first | (with_reducible assumption) | assumption)
        have q103 : x3_1 < (l0.length : Int) := of_decide_eq_true (by first | (with_reducible assumption) | assumption)
        obtain ⟨ad103, e103, hx103_0, hx103_1, hx103_2⟩ := at_T33 HR0.out x3_1 p103 q103
        have hw103_2 := hx103_2
        have hw103_1 := hx103_1
        have hw103_0 := hx103_0
        cases e103
        replace hx103_0 := mX HB.out hx103_0
        replace hx103_1 := mX HB.out hx103_1
        replace hx103_2 := mX HB.out hx103_2
        replace p103 := eq_true p103
        replace q103 := eq_true q103
        refine start_ (n := 24) (S := fun w' => w'.cell? (ad103.add ((x3_1).toNat * 3)) = some (.string ((rd_T33 l0 x3_1).f0)) ∧ w'.cell? ⟨(ad103.add ((x3_1).toNat * 3)).block, (ad103.add ((x3_1).toNat * 3)).off + 1, none⟩ = some (.string ((rd_T33 l0 x3_1).f1)) ∧ w'.cell? ⟨(ad103.add ((x3_1).toNat * 3)).block, (ad103.add ((x3_1).toNat * 3)).off + 2, none⟩ = some (.bool ((rd_T33 l0 x3_1).f2))) (ds := []) (mb 0 24) (by kernel_rfl) rfl rfl ⟨((HB.out.cell (World.block_lt_of_cell? w _ hw103_0)).trans hw103_0), ((HB.out.cell (World.block_lt_of_cell? w _ hw103_1)).trans hw103_1), ((HB.out.cell (World.block_lt_of_cell? w _ hw103_2)).trans hw103_2)⟩ (fun hHeld => ?_); refine with_tabW spec_l4Rising.tab4 spec_l4Rising.bits4 (fun HT_ HW_ => ?_)
        generalize wr.drew = w13 at HB hx103_0 hx103_1 hx103_2 hHeld ⊢
        refine mpu 0 10 HT_.out (mb 1 23) ?_
        refine mpu 1 11 HT_.out (mb 2 22) ?_
        refine mpu 2 12 HT_.out (mb 3 21) ?_
        refine mpt 3 13 HT_.out HW_.out (mb 4 20) hHeld ?_
        refine one_ (i := 4) (N := some 14) (mb 5 19) rfl rfl (one_of HT_.out (by kernel_rfl)) (by decide) (fun K hK => ?_)
        refine goes_ Try.func75 (by kernel_rfl) rfl #[.agg #[.string ((rd_T33 l0 x3_1).f0), .string ((rd_T33 l0 x3_1).f1), .bool ((rd_T33 l0 x3_1).f2)]] (by rfl) rfl rfl mA ?_
        with_reducible refine (spec_PairOk.calls ((rd_T33 l0 x3_1).f0) ((rd_T33 l0 x3_1).f1) ((rd_T33 l0 x3_1).f2) true _ A5.out).mono ?_
        rintro e w14 ⟨rfl, hb⟩
        refine ⟨_, rfl, ?_⟩
        have n0_ := mS (below_step (mH HB.out) hb)
        clear HB
        have HB := n0_
        clear n0_
        (try clear hb)
        (try clear hb2)
        (try clear hk)
        (try clear hi)
        refine hK.out _ _ ⟨((HB.out.cell (World.block_lt_of_cell? w _ hw103_0)).trans hw103_0), ((HB.out.cell (World.block_lt_of_cell? w _ hw103_1)).trans hw103_1), ((HB.out.cell (World.block_lt_of_cell? w _ hw103_2)).trans hw103_2)⟩ (fun hHeld => ?_)
        clear hK K
        refine norm_ (a' := ?_) ?_ ?_
        rotate_left
        ·show Act.put _ (some 14) _ = _
         simp only [Act.put, zA, zB, zC, i64_w, i32_w]
         rfl
        refine mpu 5 15 HT_.out (mb 6 18) ?_
        refine mpu 6 16 HT_.out (mb 7 17) ?_
        refine mpu 7 17 HT_.out (mb 8 16) ?_
        refine mpu 8 18 HT_.out (mb 9 15) ?_
        refine mpu 9 19 HT_.out (mb 10 14) ?_
        refine mpf 10 20 HT_.out (mb 11 13) ?_
        refine mpf 11 21 HT_.out (mb 12 12) ?_
        refine mpf 12 22 HT_.out (mb 13 11) ?_
        refine mpf 13 23 HT_.out (mb 14 10) ?_
        refine mpf 14 24 HT_.out (mb 15 9) ?_
        refine mpf 15 25 HT_.out (mb 16 8) ?_
        refine mpf 16 26 HT_.out (mb 17 7) ?_
        refine mpf 17 27 HT_.out (mb 18 6) ?_
        refine mpf 18 28 HT_.out (mb 19 5) ?_
        refine mpf 19 29 HT_.out (mb 20 4) ?_
        refine mpf 20 30 HT_.out (mb 21 3) ?_
        refine mpf 21 31 HT_.out (mb 22 2) ?_
        refine mpu 22 32 HT_.out (mb 23 1) ?_
        refine mpu 23 33 HT_.out (mb 24 0) ?_
        refine done_ (done_of HT_.out (by kernel_rfl)) ?_
        try go_wp2
        go_meet
        case rel => exact ⟨_, (false), (by first | rfl | (simp; done) | (simp [*]; done)), H', ⟨by have := HK1.out; first | omega | exact Nat.le_refl _⟩, ⟨(mH HB.out)⟩⟩
      ·replace c6 := Bool.eq_false_iff.mpr c6
       subst c6
       have H1 : (spec_l4Rising.j1 k1 l0 x3_1 true) = some r := by rw [if_neg (show ¬ (false = true) by decide)] at H; exact H
       clear H
       have H := H1
       clear H1
       have H' := mS H
       clear H
       try go_wp2
       have n0_ := mS (below_drew1 HB.out)
       clear HB
       have HB := n0_
       clear n0_
       have p103 : 0 ≤ (x3_1 : Int) := of_decide_eq_true (by first | (with_reducible assumption) | assumption)
       have q103 : x3_1 < (l0.length : Int) := of_decide_eq_true (by first | (with_reducible assumption) | assumption)
       obtain ⟨ad103, e103, hx103_0, hx103_1, hx103_2⟩ := at_T33 HR0.out x3_1 p103 q103
       have hw103_2 := hx103_2
       have hw103_1 := hx103_1
       have hw103_0 := hx103_0
       cases e103
       replace hx103_0 := mX HB.out hx103_0
       replace hx103_1 := mX HB.out hx103_1
       replace hx103_2 := mX HB.out hx103_2
       replace p103 := eq_true p103
       replace q103 := eq_true q103
       refine start_ (n := 24) (S := fun w' => w'.cell? (ad103.add ((x3_1).toNat * 3)) = some (.string ((rd_T33 l0 x3_1).f0)) ∧ w'.cell? ⟨(ad103.add ((x3_1).toNat * 3)).block, (ad103.add ((x3_1).toNat * 3)).off + 1, none⟩ = some (.string ((rd_T33 l0 x3_1).f1)) ∧ w'.cell? ⟨(ad103.add ((x3_1).toNat * 3)).block, (ad103.add ((x3_1).toNat * 3)).off + 2, none⟩ = some (.bool ((rd_T33 l0 x3_1).f2))) (ds := []) (mb 0 24) (by kernel_rfl) rfl rfl ⟨((HB.out.cell (World.block_lt_of_cell? w _ hw103_0)).trans hw103_0), ((HB.out.cell (World.block_lt_of_cell? w _ hw103_1)).trans hw103_1), ((HB.out.cell (World.block_lt_of_cell? w _ hw103_2)).trans hw103_2)⟩ (fun hHeld => ?_); refine with_tabW spec_l4Rising.tab4 spec_l4Rising.bits4 (fun HT_ HW_ => ?_)
       generalize wr.drew = w15 at HB hx103_0 hx103_1 hx103_2 hHeld ⊢
       refine mpu 0 10 HT_.out (mb 1 23) ?_
       refine mpu 1 11 HT_.out (mb 2 22) ?_
       refine mpu 2 12 HT_.out (mb 3 21) ?_
       refine mpt 3 13 HT_.out HW_.out (mb 4 20) hHeld ?_
       refine one_ (i := 4) (N := some 14) (mb 5 19) rfl rfl (one_of HT_.out (by kernel_rfl)) (by decide) (fun K hK => ?_)
       refine goes_ Try.func75 (by kernel_rfl) rfl #[.agg #[.string ((rd_T33 l0 x3_1).f0), .string ((rd_T33 l0 x3_1).f1), .bool ((rd_T33 l0 x3_1).f2)]] (by rfl) rfl rfl mA ?_
       with_reducible refine (spec_PairOk.calls ((rd_T33 l0 x3_1).f0) ((rd_T33 l0 x3_1).f1) ((rd_T33 l0 x3_1).f2) false _ A5.out).mono ?_
       rintro e w16 ⟨rfl, hb⟩
       refine ⟨_, rfl, ?_⟩
       have n0_ := mS (below_step (mH HB.out) hb)
       clear HB
       have HB := n0_
       clear n0_
       (try clear hb)
       (try clear hb2)
       (try clear hk)
       (try clear hi)
       refine hK.out _ _ ⟨((HB.out.cell (World.block_lt_of_cell? w _ hw103_0)).trans hw103_0), ((HB.out.cell (World.block_lt_of_cell? w _ hw103_1)).trans hw103_1), ((HB.out.cell (World.block_lt_of_cell? w _ hw103_2)).trans hw103_2)⟩ (fun hHeld => ?_)
       clear hK K
       refine norm_ (a' := ?_) ?_ ?_
       rotate_left
       ·show Act.put _ (some 14) _ = _
        simp only [Act.put, zA, zB, zC, i64_w, i32_w]
        rfl
       refine mpu 5 15 HT_.out (mb 6 18) ?_
       refine mpu 6 16 HT_.out (mb 7 17) ?_
       refine mpf 7 17 HT_.out (mb 8 16) ?_
       refine mpf 8 18 HT_.out (mb 9 15) ?_
       refine mpf 9 19 HT_.out (mb 10 14) ?_
       refine mpf 10 20 HT_.out (mb 11 13) ?_
       refine mpf 11 21 HT_.out (mb 12 12) ?_
       refine mpf 12 22 HT_.out (mb 13 11) ?_
       refine mpf 13 23 HT_.out (mb 14 10) ?_
       refine mpf 14 24 HT_.out (mb 15 9) ?_
       refine mpf 15 25 HT_.out (mb 16 8) ?_
       refine mpf 16 26 HT_.out (mb 17 7) ?_
       refine mpf 17 27 HT_.out (mb 18 6) ?_
       refine mpf 18 28 HT_.out (mb 19 5) ?_
       refine mpf 19 29 HT_.out (mb 20 4) ?_
       refine mpf 20 30 HT_.out (mb 21 3) ?_
       refine mpf 21 31 HT_.out (mb 22 2) ?_
       refine mpf 22 32 HT_.out (mb 23 1) ?_
       refine mpu 23 33 HT_.out (mb 24 0) ?_
       refine done_ (done_of HT_.out (by kernel_rfl)) ?_
       try go_wp2
       go_meet
       case rel => exact ⟨_, (true), (by first | rfl | (simp; done) | (simp [*]; done)), H', ⟨by have := HK1.out; first | omega | exact Nat.le_refl _⟩, ⟨(mH HB.out)⟩⟩
     ·rw [if_neg c4] at H
      exact absurd H (by simp)
    case rest =>
     clear HC3
     try clear c1
     try clear p1
     try clear q1
     try clear hx1
     try clear p2
     try clear c4
     try clear c6
     try clear c7
     try clear c7b0
     try clear c9
     try clear c10
     try clear p10
     try clear q10
     try clear hx10
     try clear hx103_0
     try clear hx103_1
     try clear hx103_2
     try clear hx105_0
     try clear hx105_1
     try clear hx105_2
     try clear hx106_0
     try clear hx106_1
     try clear hx106_2
     try clear p103
     try clear p105
     try clear p106
     try clear q103
     try clear q105
     try clear q106
     obtain ⟨kq, x33_2, rfl, HA, HJ2, HB⟩ := hcut
     cases kq with
     | zero => exact absurd HA.out (by simp [spec_l4Rising.j1])
     | succ kj2 =>
      have H := HA.out
      clear HA
      simp only [spec_l4Rising.j1] at H
      by_cases c17 : x33_2 = true
      ·subst c17
       have H1 : (some false) = some r := by rw [if_pos rfl] at H; exact H
       clear H
       have H := H1
       clear H1
       obtain rfl := Option.some.inj H
       go_wp2
       go_ret
       exact ⟨by first | rfl | (simp [errW_none, errW_some] <;> rfl) | (simp [*, errW_none, errW_some] <;> rfl), (mH HB.out)⟩
      ·replace c17 := Bool.eq_false_iff.mpr c17
       subst c17
       have H1 : (spec_l4Rising.l0 kj2 l0 (wrap64 (x3_1 + 1))) = some r := by rw [if_neg (show ¬ (false = true) by decide)] at H; exact H
       clear H
       have H := H1
       clear H1
       have H' := mS H
       clear H
       go_wp2
       go_roundg kj2
       case measure => have := HK1.out; have := HJ2.out; omega
       case rel => exact ⟨(wrap64 (x3_1 + 1)), (by first | rfl | (simp; done) | (simp [*]; done)), H', ⟨by have := HK1.out; have := HJ2.out; omega⟩, ⟨(mH HB.out)⟩⟩
   ·rw [if_neg c2] at H
    have c2b0 : decide (x3_1 < (l0.length : Int)) = false := decide_eq_false c2
    clear c2
    obtain rfl := Option.some.inj H
    go_wp2
    go_ret
    exact ⟨by first | rfl | (simp [errW_none, errW_some] <;> rfl) | (simp [*, errW_none, errW_some] <;> rfl), (mH HB.out)⟩

end Go.Proofs.Ytbepbgfkajnlbaa.MFnMerged
