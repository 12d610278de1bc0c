-- Written by mp.py, our own printer (wip/mp.py), and made shorter by wip/mp_shrink*.py.
import Derived.Test.YtgbejjeephipeaaVMShort
import Derived.Test.YtgbejjeephipeaaMFnExactFallx0
import Derived.Test.YtgbejjeephipeaaMFnExactFallx5
namespace Go.Proofs.Ytgbejjeephipeaa.MFnExactFall
open Go.RowKit Go.Proofs.YtgbejjeephipeaaW.PrintWords Go.Proofs.YtgbejjeephipeaaW.PrintLast Go.Proofs.YtgbejjeephipeaaW.PrintMore Go.Proofs.Ytgbejjeephipeaa.MWords
attribute [local go_sem] max2_int min2_int max_two min_two max_three min_three max_four min_four
set_option linter.unusedVariables false
set_option linter.unusedSimpArgs false
mutual
def spec_l2Entries.l0 : Nat → List (S126) → Int → List (S120) → List (S126) → List (S126) → Int → Option (Bool)
 | 0, _, _, _, _, _, _ => none
 | k + 1, x1, x5, x199000, x199001, x199002, x199003 => if x5 < (x1.length : Int) then (if 0 ≤ x5 then ((spec_l2Name.f k ((rd_T126 x1 x5).f0)).bind fun t200 => (if t200 = true then ((spec_l2Inode.f k x199000 x199001 x199002 x199003 ((rd_T126 x1 x5).f1)).bind fun t202 => (if t202 < 0 then (spec_l2Entries.j1 k x1 x5 true x199000 x199001 x199002 x199003) else (if x5 > 0 then (if 0 ≤ (wrap64 (x5 - 1)) then (if (wrap64 (x5 - 1)) < (x1.length : Int) then (spec_l2Entries.j1 k x1 x5 (!(Op.bytesLess (((rd_T126 x1 (wrap64 (x5 - 1))).f0).toList) (((rd_T126 x1 x5).f0).toList))) x199000 x199001 x199002 x199003) else (none)) else (none)) else (spec_l2Entries.j1 k x1 x5 false x199000 x199001 x199002 x199003)))) else (spec_l2Entries.j1 k x1 x5 true x199000 x199001 x199002 x199003))) else (none)) else (some (decide ((x1.length : Int) ≤ 30)))
def spec_l2Entries.j1 : Nat → List (S126) → Int → Bool → List (S120) → List (S126) → List (S126) → Int → Option (Bool)
 | 0, _, _, _, _, _, _, _ => none
 | k + 1, x1, x5, x47, x199000, x199001, x199002, x199003 => if x47 = true then (some false) else (spec_l2Entries.l1 k x1 x5 0 x199000 x199001 x199002 x199003)
def spec_l2Entries.l1 : Nat → List (S126) → Int → Int → List (S120) → List (S126) → List (S126) → Int → Option (Bool)
 | 0, _, _, _, _, _, _, _ => none
 | k + 1, x1, x5, x6, x199000, x199001, x199002, x199003 => if x6 < x5 then (if 0 ≤ x6 then (if x6 < (x1.length : Int) then (if 0 ≤ x5 then (if x5 < (x1.length : Int) then (if ((rd_T126 x1 x6).f1) = ((rd_T126 x1 x5).f1) then (some false) else (spec_l2Entries.l1 k x1 x5 (wrap64 (x6 + 1)) x199000 x199001 x199002 x199003)) else (none)) else (none)) else (none)) else (none)) else (spec_l2Entries.l0 k x1 (wrap64 (x5 + 1)) x199000 x199001 x199002 x199003)
end
def spec_l2Entries.f (k : Nat) (l0_0 : List (S120)) (l0_1 : List (S126)) (l0_2 : List (S126)) (a0_3 : Int) (l1 : List (S126)) : Option (Bool) := spec_l2Entries.l0 k l1 0 l0_0 l0_1 l0_2 a0_3
def spec_l2Entries.T4 : Bool × List (List Nat × List Nat) := (true, [([], []), ([], []), ([0, 1], [0, 1]), ([2], [2]), ([3], [3]), ([4], [4]), ([5], [5]), ([6, 5], [6]), ([7], [7]), ([7], [7]), ([7], [7]), ([9, 10, 7], [7, 9, 10]), ([11, 7], [7, 11]), ([12, 7], [7, 12]), ([8, 13, 7, 7], [7, 8, 13]), ([14, 7], [7, 14]), ([7, 15], [7, 15]), ([16, 14], [16]), ([17], [17]), ([18, 17], [17, 18]), ([19, 17, 17], [17, 19]), ([20], [20]), ([20], [20]), ([22, 20], [20, 22]), ([21, 23, 20], [20, 21, 23]), ([24, 20], [20, 24]), ([25, 20], [20, 25]), ([20], [20]), ([20], [20]), ([27, 28, 20], [20, 27, 28]), ([29, 20], [20, 29]), ([30, 20], [20, 30]), ([26, 31, 20], [20, 26, 31]), ([20, 32, 17], [17, 20, 32]), ([17, 33], [17, 33])])
def spec_l2Entries.B4 : List Nat := [0, 0, 3, 7, 15, 31, 63, 127, 255, 255, 255, 1791, 3839, 7935, 16383, 32767, 65535, 131071, 262143, 524287, 1048575, 2097151, 2097151, 6291455, 16777215, 33554431, 67108863, 2097151, 2097151, 404750335, 941621247, 2015363071, 4294967295, 8589934591, 17179869183]
theorem spec_l2Entries.tab4 : rtab .any (opsOf Try.f95 4) = spec_l2Entries.T4 := by kernel_rfl
theorem spec_l2Entries.bits4 : waitsOk spec_l2Entries.T4.2 spec_l2Entries.B4 = true := by kernel_rfl
def spec_l2Entries.T9 : Bool × List (List Nat × List Nat) := (true, [([], []), ([], []), ([0, 1], [0, 1]), ([2], [2]), ([3], [3]), ([], []), ([], []), ([5, 6], [5, 6]), ([7], [7]), ([8], [8]), ([4, 9], [4, 9])])
def spec_l2Entries.B9 : List Nat := [0, 0, 3, 7, 15, 0, 0, 96, 224, 480, 1023]
theorem spec_l2Entries.tab9 : rtab .any (opsOf Try.f95 9) = spec_l2Entries.T9 := by kernel_rfl
theorem spec_l2Entries.bits9 : waitsOk spec_l2Entries.T9.2 spec_l2Entries.B9 = true := by kernel_rfl
set_option maxHeartbeats 8000000 in
set_option maxRecDepth 100000 in
theorem spec_l2Entries.calls (k : Nat) (A0_0 : Option Addr) (c0_0 : Nat) (l0_0 : List (S120)) (A0_1 : Option Addr) (c0_1 : Nat) (l0_1 : List (S126)) (A0_2 : Option Addr) (c0_2 : Nat) (l0_2 : List (S126)) (a0_3 : Int) (A1 : Option Addr) (c1 : Nat) (l1 : List (S126)) (r : Bool) (w : World) (hr0_0 : Kd.C k120 w A0_0 l0_0.length l0_0) (hc0_0 : l0_0.length ≤ c0_0) (hr0_1 : Kd.C k126 w A0_1 l0_1.length l0_1) (hc0_1 : l0_1.length ≤ c0_1) (hr0_2 : Kd.C k126 w A0_2 l0_2.length l0_2) (hc0_2 : l0_2.length ≤ c0_2) (hr1 : Kd.C k126 w A1 l1.length l1) (hc1 : l1.length ≤ c1) (h : spec_l2Entries.f k l0_0 l0_1 l0_2 a0_3 l1 = some r) :
  Calls Try.prog 95 #[.agg #[.slice A0_0 l0_0.length c0_0, .slice A0_1 l0_1.length c0_1, .slice A0_2 l0_2.length c0_2, .int .i64 a0_3], .slice A1 l1.length c1] w fun e w' => e = .returned (.bool r) ∧ Below w.heap.size w w' := by
 have hu63 := Try.underlying63
 have HR0_0 := mS hr0_0
 have HC0_0 := mS hc0_0
 clear hr0_0 hc0_0
 have HR0_1 := mS hr0_1
 have HC0_1 := mS hc0_1
 clear hr0_1 hc0_1
 have HR0_2 := mS hr0_2
 have HC0_2 := mS hc0_2
 clear hr0_2 hc0_2
 have HR1 := mS hr1
 have HC1 := mS hc1
 clear hr1 hc1
 have HB := mS (Below.refl w.heap.size w)
 have H : (spec_l2Entries.l0 k l1 0 l0_0 l0_1 l0_2 a0_3) = some r := h
 clear h
 have H' := mS H
 clear H
 go_enter Try.func95, Try.ntmps95
 go_wp2_with (first | ((with_reducible refine gate_dst (N := 2) rfl ?_); refine mBx 2 #[.slice A0_0 l0_0.length c0_0, .slice A0_1 l0_1.length c0_1, .slice A0_2 l0_2.length c0_2, .int .i64 a0_3] 63 ?_; intro gb198 hg w3 hbox hb; have BK198 := mS (hbox); have GW198 := mG hg (mH HB.out); have GE198 := mG hg (mH HB.out); replace HB := mS (below_step (mH HB.out) hb); clear hb hbox hg))
 go_loopg [5] k (fun kq v5 w' => ∃ (x5_1 : Int), v5 = .int .i64 x5_1 ∧ Aside0 (spec_l2Entries.l0 kq l1 x5_1 l0_0 l0_1 l0_2 a0_3 = some r) ∧ Aside0 (kq ≤ k) ∧ Aside0 (w'.heap[gb198]? = some (.cells #[(.slice A0_0 l0_0.length c0_0), (.slice A0_1 l0_1.length c0_1), (.slice A0_2 l0_2.length c0_2), .int .i64 a0_3] 63 (0, 0))) ∧ Aside0 (Below w.heap.size w w'))
 case atStart => exact ⟨(0), mE, H', ⟨Nat.le_refl _⟩, ⟨mK BK198.out⟩, ⟨(mH1 HB.out GE198.out)⟩⟩
 case round =>
  clear H'
  try clear c1
  try clear p2
  obtain ⟨x5_1, rfl, HA, HK1, BK198, HB⟩ := hrel
  cases gk with
  | zero => exact absurd HA.out (by simp [spec_l2Entries.l0])
  | succ k1 =>
   have H := HA.out
   clear HA
   simp only [spec_l2Entries.l0] at H
   by_cases c4 : x5_1 < (l1.length : Int)
   ·rw [if_pos c4] at H
    have c4b0 := decide_eq_true c4
    clear c4
    have HC5 := mS H
    clear H
    go_upto_region 4 with (fail)
    go_cut [47] (fun v47 wc => ∃ (kq : Nat) (x47_4 : Bool), v47 = .bool x47_4 ∧ Aside0 (spec_l2Entries.j1 kq l1 x5_1 x47_4 l0_0 l0_1 l0_2 a0_3 = some r) ∧ Aside0 (kq ≤ k1) ∧ Aside0 (wc.heap[gb198]? = some (.cells #[(.slice A0_0 l0_0.length c0_0), (.slice A0_1 l0_1.length c0_1), (.slice A0_2 l0_2.length c0_2), .int .i64 a0_3] 63 (0, 0))) ∧ Aside0 (Below w.heap.size w wc))
    case first =>
     have H := HC5.out
     clear HC5
     by_cases c6 : 0 ≤ x5_1
     ·rw [if_pos c6] at H
      have c6b0 := decide_eq_true c6
      clear c6
      (first | rw [c6b0] | (simp only [i64_w, i32_w]; rw [c6b0]) | skip)
      replace H := Option.bind_eq_some_iff.mp H
      obtain ⟨t200, A70, H⟩ := H
      replace H : (if t200 = true then ((spec_l2Inode.f k1 l0_0 l0_1 l0_2 a0_3 ((rd_T126 l1 x5_1).f1)).bind fun t202 => (if t202 < 0 then (spec_l2Entries.j1 k1 l1 x5_1 true l0_0 l0_1 l0_2 a0_3) else (if x5_1 > 0 then (if 0 ≤ (wrap64 (x5_1 - 1)) then (if (wrap64 (x5_1 - 1)) < (l1.length : Int) then (spec_l2Entries.j1 k1 l1 x5_1 (!(Op.bytesLess (((rd_T126 l1 (wrap64 (x5_1 - 1))).f0).toList) (((rd_T126 l1 x5_1).f0).toList))) l0_0 l0_1 l0_2 a0_3) else (none)) else (none)) else (spec_l2Entries.j1 k1 l1 x5_1 false l0_0 l0_1 l0_2 a0_3)))) else (spec_l2Entries.j1 k1 l1 x5_1 true l0_0 l0_1 l0_2 a0_3)) = some r := H
      have A7 := mS A70
      clear A70
      by_cases c8 : t200 = true
      ·subst c8
       have H1 := H
       rw [if_pos rfl] at H1
       clear H
       have H := H1
       clear H1
       replace H := Option.bind_eq_some_iff.mp H
       obtain ⟨t202, A90, H⟩ := H
       replace H : (if t202 < 0 then (spec_l2Entries.j1 k1 l1 x5_1 true l0_0 l0_1 l0_2 a0_3) else (if x5_1 > 0 then (if 0 ≤ (wrap64 (x5_1 - 1)) then (if (wrap64 (x5_1 - 1)) < (l1.length : Int) then (spec_l2Entries.j1 k1 l1 x5_1 (!(Op.bytesLess (((rd_T126 l1 (wrap64 (x5_1 - 1))).f0).toList) (((rd_T126 l1 x5_1).f0).toList))) l0_0 l0_1 l0_2 a0_3) else (none)) else (none)) else (spec_l2Entries.j1 k1 l1 x5_1 false l0_0 l0_1 l0_2 a0_3))) = some r := H
       have A9 := mS A90
       clear A90
       by_cases c10 : t202 < 0
       ·rw [if_pos c10] at H
        have c10b0 := decide_eq_true c10
        clear c10
        have H' := mS H
        clear H
        try go_wp2
        replace BK198 := mS (blk_drew BK198.out)
        replace HB := mS (below_drew1 HB.out)
        have p199 : 0 ≤ (x5_1 : Int) := mD
        have q199 : x5_1 < (l1.length : Int) := mD
        obtain ⟨ad199, e199, hx199_0, hx199_1⟩ := at_T126 HR1.out x5_1 p199 q199
        have hw199_1 := hx199_1
        have hw199_0 := hx199_0
        cases e199
        replace hx199_0 := mX HB.out hx199_0
        replace hx199_1 := mX HB.out hx199_1
        replace p199 := eq_true p199
        replace q199 := eq_true q199
        have p201 : 0 ≤ (x5_1 : Int) := mD
        have q201 : x5_1 < (l1.length : Int) := mD
        obtain ⟨ad201, e201, hx201_0, hx201_1⟩ := at_T126 HR1.out x5_1 p201 q201
        have hw201_1 := hx201_1
        have hw201_0 := hx201_0
        obtain rfl : ad199 = ad201 := (by injection e201)
        replace hx201_0 := mX HB.out hx201_0
        replace hx201_1 := mX HB.out hx201_1
        replace p201 := eq_true p201
        replace q201 := eq_true q201
        refine start_ (n := 35) (S := fun w' => w'.cell? ⟨gb198, 0, none⟩ = some (.slice A0_0 l0_0.length c0_0) ∧ w'.cell? ⟨gb198, 1, none⟩ = some (.slice A0_1 l0_1.length c0_1) ∧ w'.cell? ⟨gb198, 2, none⟩ = some (.slice A0_2 l0_2.length c0_2) ∧ w'.cell? ⟨gb198, 3, none⟩ = some (.int .i64 a0_3) ∧ w'.cell? (ad199.add ((x5_1).toNat * 2)) = some (.string ((rd_T126 l1 x5_1).f0)) ∧ w'.cell? ⟨(ad199.add ((x5_1).toNat * 2)).block, (ad199.add ((x5_1).toNat * 2)).off + 1, none⟩ = some (.int .i64 ((rd_T126 l1 x5_1).f1)) ∧ w'.cell? (ad199.add ((x5_1).toNat * 2)) = some (.string ((rd_T126 l1 x5_1).f0)) ∧ w'.cell? ⟨(ad199.add ((x5_1).toNat * 2)).block, (ad199.add ((x5_1).toNat * 2)).off + 1, none⟩ = some (.int .i64 ((rd_T126 l1 x5_1).f1))) (ds := []) (mb 0 35) (by kernel_rfl) rfl rfl (mb4 BK198.out ⟨(mX HB.out hw199_0 :), ⟨(mX HB.out hw199_1 :), ⟨(mX HB.out hw201_0 :), (mX HB.out hw201_1 :)⟩⟩⟩) (fun hHeld => ?_); refine with_tabW spec_l2Entries.tab4 spec_l2Entries.bits4 (fun HT_ HW_ => ?_)
        generalize wr.drew = w11 at BK198 HB hx199_0 hx199_1 hx201_0 hx201_1 hHeld ⊢
        refine mpu 0 13 HT_.out (mb 1 34) ?_
        refine mpu 1 14 HT_.out (mb 2 33) ?_
        refine mpu 2 15 HT_.out (mb 3 32) ?_
        refine mpu 3 16 HT_.out (mb 4 31) ?_
        refine mpt 4 17 HT_.out HW_.out (mb 5 30) hHeld ?_
        refine mone 5 (some 18) HT_.out (mb 6 29) (fun K hK => ?_)
        refine goes_ Try.func121 (by kernel_rfl) rfl #[.string ((rd_T126 l1 x5_1).f0)] (by rfl) rfl rfl mA ?_
        with_reducible refine (spec_l2Name.calls k1 ((rd_T126 l1 x5_1).f0) true _ A7.out).mono ?_
        rintro e w' ⟨rfl, ⟨nd, rfl⟩⟩
        refine ⟨_, rfl, ?_⟩
        refine hK.out _ _ (mb4 BK198.out ⟨(mX HB.out hw199_0 :), ⟨(mX HB.out hw199_1 :), ⟨(mX HB.out hw201_0 :), (mX HB.out hw201_1 :)⟩⟩⟩) (fun hHeld => ?_)
        clear hK K
        refine mno 18 ?_
        refine mpu 6 19 HT_.out (mb 7 28) ?_
        refine mpu 7 20 HT_.out (mb 8 27) ?_
        refine mpu 9 22 HT_.out (mr [8,1,1,25]) ?_
        refine mpu 10 23 HT_.out (mr [8,1,2,24]) ?_
        refine mpu 11 24 HT_.out (mr [8,1,3,23]) ?_
        refine mpu 12 25 HT_.out (mr [8,1,4,22]) ?_
        refine mpt 8 21 HT_.out HW_.out (mb 13 22) hHeld ?_
        refine mpt 13 26 HT_.out HW_.out (mb 14 21) hHeld ?_
        refine mone 14 (some 27) HT_.out (mb 15 20) (fun K hK => ?_)
        refine goes_ Try.func103 (by kernel_rfl) rfl #[.agg #[.slice A0_0 l0_0.length c0_0, .slice A0_1 l0_1.length c0_1, .slice A0_2 l0_2.length c0_2, .int .i64 a0_3], .int .i64 ((rd_T126 l1 x5_1).f1)] (by rfl) rfl rfl mA ?_
        with_reducible refine (spec_l2Inode.calls k1 _ _ l0_0 _ _ l0_1 _ _ l0_2 a0_3 ((rd_T126 l1 x5_1).f1) t202 _ ?side1 ?side2 ?side3 ?side4 ?side5 ?side6 A9.out).mono ?_
        (case side1 => exact mC (Kd.C_below HR0_0.out (mH1 HB.out GE198.out)))
        (case side2 => exact HC0_0.out)
        (case side3 => exact mC (Kd.C_below HR0_1.out (mH1 HB.out GE198.out)))
        (case side4 => exact HC0_1.out)
        (case side5 => exact mC (Kd.C_below HR0_2.out (mH1 HB.out GE198.out)))
        (case side6 => exact HC0_2.out)
        rintro e w12 ⟨rfl, hb⟩
        refine ⟨_, rfl, ?_⟩
        replace BK198 := mB BK198 hb
        replace HB := mS (below_step (mH1 HB.out GE198.out) hb)
        (try clear hb)
        (try clear hb2)
        (try clear hk)
        (try clear hi)
        refine hK.out _ _ (mb4 BK198.out ⟨(mX HB.out hw199_0 :), ⟨(mX HB.out hw199_1 :), ⟨(mX HB.out hw201_0 :), (mX HB.out hw201_1 :)⟩⟩⟩) (fun hHeld => ?_)
        clear hK K
        refine mno 27 ?_
        refine mpu 15 28 HT_.out (mb 16 19) ?_
        refine mpu 16 29 HT_.out (mb 17 18) ?_
        refine mpu 17 30 HT_.out (mb 18 17) ?_
        refine mpf 18 31 HT_.out (mb 19 16) ?_
        refine mpf 19 32 HT_.out (mb 20 15) ?_
        refine mpf 20 33 HT_.out (mb 21 14) ?_
        refine mpf 21 34 HT_.out (mb 22 13) ?_
        refine mpf 22 35 HT_.out (mb 23 12) ?_
        refine mpf 23 36 HT_.out (mb 24 11) ?_
        refine mpf 24 37 HT_.out (mb 25 10) ?_
        refine mpf 25 38 HT_.out (mb 26 9) ?_
        refine mpf 26 39 HT_.out (mb 27 8) ?_
        refine mpf 27 40 HT_.out (mb 28 7) ?_
        refine mpf 28 41 HT_.out (mb 29 6) ?_
        refine mpf 29 42 HT_.out (mb 30 5) ?_
        refine mpf 30 43 HT_.out (mb 31 4) ?_
        refine mpf 31 44 HT_.out (mb 32 3) ?_
        refine mpf 32 45 HT_.out (mb 33 2) ?_
        refine mpf 33 46 HT_.out (mb 34 1) ?_
        refine mpu 34 47 HT_.out (mb 35 0) ?_
        refine done_ (done_of HT_.out (by kernel_rfl)) ?_
        try go_wp2
        go_meet
        case rel => exact ⟨_, (true), mE, H', ⟨by have := HK1.out; first | omega | exact Nat.le_refl _⟩, ⟨mK BK198.out⟩, ⟨(mH1 HB.out GE198.out)⟩⟩
       ·rw [if_neg c10] at H
        have c10b0 := decide_eq_false c10
        clear c10
        by_cases c13 : x5_1 > 0
        ·rw [if_pos c13] at H
         have c13b0 : decide (0 < x5_1) = true := decide_eq_true c13
         clear c13
         obtain ⟨ji14, hji14⟩ : ∃ j_ : Int, (wrap64 (x5_1 - 1)) = j_ := ⟨_, rfl⟩
         replace H : (if 0 ≤ (ji14) then (if (ji14) < (l1.length : Int) then (spec_l2Entries.j1 k1 l1 x5_1 (!(Op.bytesLess (((rd_T126 l1 (ji14)).f0).toList) (((rd_T126 l1 x5_1).f0).toList))) l0_0 l0_1 l0_2 a0_3) else (none)) else (none)) = some r := by first | (rw [hji14] at H; exact H) | (simp only [hji14] at H ⊢; exact H)
         (try rw [hji14] at A7)
         (try rw [hji14] at A9)
         have hji14w : (IntKind.i64.wrap (x5_1 - 1)) = ji14 := (i64_w _).trans hji14
         by_cases c15 : 0 ≤ (ji14)
         ·rw [if_pos c15] at H
          have c15b0 := decide_eq_true c15
          clear c15
          by_cases c16 : (ji14) < (l1.length : Int)
          ·rw [if_pos c16] at H
           have c16b0 := decide_eq_true c16
           clear c16
           have H' := mS H
           clear H
           try go_wp2
           replace BK198 := mS (blk_drew BK198.out)
           replace HB := mS (below_drew1 HB.out)
           have p199 : 0 ≤ (x5_1 : Int) := mD
           have q199 : x5_1 < (l1.length : Int) := mD
           obtain ⟨ad199, e199, hx199_0, hx199_1⟩ := at_T126 HR1.out x5_1 p199 q199
           have hw199_1 := hx199_1
           have hw199_0 := hx199_0
           cases e199
           replace hx199_0 := mX HB.out hx199_0
           replace hx199_1 := mX HB.out hx199_1
           replace p199 := eq_true p199
           replace q199 := eq_true q199
           have p201 : 0 ≤ (x5_1 : Int) := mD
           have q201 : x5_1 < (l1.length : Int) := mD
           obtain ⟨ad201, e201, hx201_0, hx201_1⟩ := at_T126 HR1.out x5_1 p201 q201
           have hw201_1 := hx201_1
           have hw201_0 := hx201_0
           obtain rfl : ad199 = ad201 := (by injection e201)
           replace hx201_0 := mX HB.out hx201_0
           replace hx201_1 := mX HB.out hx201_1
           replace p201 := eq_true p201
           replace q201 := eq_true q201
           have p203 : 0 ≤ ((ji14) : Int) := mD
           have q203 : (ji14) < (l1.length : Int) := mD
           obtain ⟨ad203, e203, hx203_0, hx203_1⟩ := at_T126 HR1.out (ji14) p203 q203
           have hw203_1 := hx203_1
           have hw203_0 := hx203_0
           obtain rfl : ad199 = ad203 := (by injection e203)
           replace hx203_0 := mX HB.out hx203_0
           replace hx203_1 := mX HB.out hx203_1
           replace p203 := eq_true p203
           replace q203 := eq_true q203
           have p204 : 0 ≤ (x5_1 : Int) := mD
           have q204 : x5_1 < (l1.length : Int) := mD
           obtain ⟨ad204, e204, hx204_0, hx204_1⟩ := at_T126 HR1.out x5_1 p204 q204
           have hw204_1 := hx204_1
           have hw204_0 := hx204_0
           obtain rfl : ad199 = ad204 := (by injection e204)
           replace hx204_0 := mX HB.out hx204_0
           replace hx204_1 := mX HB.out hx204_1
           replace p204 := eq_true p204
           replace q204 := eq_true q204
           refine start_ (n := 35) (S := fun w' => w'.cell? ⟨gb198, 0, none⟩ = some (.slice A0_0 l0_0.length c0_0) ∧ w'.cell? ⟨gb198, 1, none⟩ = some (.slice A0_1 l0_1.length c0_1) ∧ w'.cell? ⟨gb198, 2, none⟩ = some (.slice A0_2 l0_2.length c0_2) ∧ w'.cell? ⟨gb198, 3, none⟩ = some (.int .i64 a0_3) ∧ w'.cell? (ad199.add ((x5_1).toNat * 2)) = some (.string ((rd_T126 l1 x5_1).f0)) ∧ w'.cell? ⟨(ad199.add ((x5_1).toNat * 2)).block, (ad199.add ((x5_1).toNat * 2)).off + 1, none⟩ = some (.int .i64 ((rd_T126 l1 x5_1).f1)) ∧ w'.cell? (ad199.add ((x5_1).toNat * 2)) = some (.string ((rd_T126 l1 x5_1).f0)) ∧ w'.cell? ⟨(ad199.add ((x5_1).toNat * 2)).block, (ad199.add ((x5_1).toNat * 2)).off + 1, none⟩ = some (.int .i64 ((rd_T126 l1 x5_1).f1)) ∧ w'.cell? (ad199.add (((ji14)).toNat * 2)) = some (.string ((rd_T126 l1 (ji14)).f0)) ∧ w'.cell? ⟨(ad199.add (((ji14)).toNat * 2)).block, (ad199.add (((ji14)).toNat * 2)).off + 1, none⟩ = some (.int .i64 ((rd_T126 l1 (ji14)).f1)) ∧ w'.cell? (ad199.add ((x5_1).toNat * 2)) = some (.string ((rd_T126 l1 x5_1).f0)) ∧ w'.cell? ⟨(ad199.add ((x5_1).toNat * 2)).block, (ad199.add ((x5_1).toNat * 2)).off + 1, none⟩ = some (.int .i64 ((rd_T126 l1 x5_1).f1))) (ds := []) (mb 0 35) (by kernel_rfl) rfl rfl (mb4 BK198.out ⟨(mX HB.out hw199_0 :), ⟨(mX HB.out hw199_1 :), ⟨(mX HB.out hw201_0 :), ⟨(mX HB.out hw201_1 :), ⟨(mX HB.out hw203_0 :), ⟨(mX HB.out hw203_1 :), ⟨(mX HB.out hw204_0 :), (mX HB.out hw204_1 :)⟩⟩⟩⟩⟩⟩⟩) (fun hHeld => ?_); refine with_tabW spec_l2Entries.tab4 spec_l2Entries.bits4 (fun HT_ HW_ => ?_)
           generalize wr.drew = w17 at BK198 HB hx199_0 hx199_1 hx201_0 hx201_1 hx203_0 hx203_1 hx204_0 hx204_1 hHeld ⊢
           refine mpu 0 13 HT_.out (mb 1 34) ?_
           refine mpu 1 14 HT_.out (mb 2 33) ?_
           refine mpu 2 15 HT_.out (mb 3 32) ?_
           refine mpu 3 16 HT_.out (mb 4 31) ?_
           refine mpt 4 17 HT_.out HW_.out (mb 5 30) hHeld ?_
           refine mone 5 (some 18) HT_.out (mb 6 29) (fun K hK => ?_)
           refine goes_ Try.func121 (by kernel_rfl) rfl #[.string ((rd_T126 l1 x5_1).f0)] (by rfl) rfl rfl mA ?_
           with_reducible refine (spec_l2Name.calls k1 ((rd_T126 l1 x5_1).f0) true _ A7.out).mono ?_
           rintro e w' ⟨rfl, ⟨nd, rfl⟩⟩
           refine ⟨_, rfl, ?_⟩
           refine hK.out _ _ (mb4 BK198.out ⟨(mX HB.out hw199_0 :), ⟨(mX HB.out hw199_1 :), ⟨(mX HB.out hw201_0 :), ⟨(mX HB.out hw201_1 :), ⟨(mX HB.out hw203_0 :), ⟨(mX HB.out hw203_1 :), ⟨(mX HB.out hw204_0 :), (mX HB.out hw204_1 :)⟩⟩⟩⟩⟩⟩⟩) (fun hHeld => ?_)
           clear hK K
           refine mno 18 ?_
           refine mpu 6 19 HT_.out (mb 7 28) ?_
           refine mpu 7 20 HT_.out (mb 8 27) ?_
           refine mpu 9 22 HT_.out (mr [8,1,1,25]) ?_
           refine mpu 10 23 HT_.out (mr [8,1,2,24]) ?_
           refine mpu 11 24 HT_.out (mr [8,1,3,23]) ?_
           refine mpu 12 25 HT_.out (mr [8,1,4,22]) ?_
           refine mpt 8 21 HT_.out HW_.out (mb 13 22) hHeld ?_
           refine mpt 13 26 HT_.out HW_.out (mb 14 21) hHeld ?_
           refine mone 14 (some 27) HT_.out (mb 15 20) (fun K hK => ?_)
           refine goes_ Try.func103 (by kernel_rfl) rfl #[.agg #[.slice A0_0 l0_0.length c0_0, .slice A0_1 l0_1.length c0_1, .slice A0_2 l0_2.length c0_2, .int .i64 a0_3], .int .i64 ((rd_T126 l1 x5_1).f1)] (by rfl) rfl rfl mA ?_
           with_reducible refine (spec_l2Inode.calls k1 _ _ l0_0 _ _ l0_1 _ _ l0_2 a0_3 ((rd_T126 l1 x5_1).f1) t202 _ ?side1 ?side2 ?side3 ?side4 ?side5 ?side6 A9.out).mono ?_
           (case side1 => exact mC (Kd.C_below HR0_0.out (mH1 HB.out GE198.out)))
           (case side2 => exact HC0_0.out)
           (case side3 => exact mC (Kd.C_below HR0_1.out (mH1 HB.out GE198.out)))
           (case side4 => exact HC0_1.out)
           (case side5 => exact mC (Kd.C_below HR0_2.out (mH1 HB.out GE198.out)))
           (case side6 => exact HC0_2.out)
           rintro e w18 ⟨rfl, hb⟩
           refine ⟨_, rfl, ?_⟩
           replace BK198 := mB BK198 hb
           replace HB := mS (below_step (mH1 HB.out GE198.out) hb)
           (try clear hb)
           (try clear hb2)
           (try clear hk)
           (try clear hi)
           refine hK.out _ _ (mb4 BK198.out ⟨(mX HB.out hw199_0 :), ⟨(mX HB.out hw199_1 :), ⟨(mX HB.out hw201_0 :), ⟨(mX HB.out hw201_1 :), ⟨(mX HB.out hw203_0 :), ⟨(mX HB.out hw203_1 :), ⟨(mX HB.out hw204_0 :), (mX HB.out hw204_1 :)⟩⟩⟩⟩⟩⟩⟩) (fun hHeld => ?_)
           clear hK K
           refine mno 27 ?_
           refine mpu 15 28 HT_.out (mb 16 19) ?_
           refine mpu 16 29 HT_.out (mb 17 18) ?_
           refine mpu 17 30 HT_.out (mb 18 17) ?_
           refine mpu 18 31 HT_.out (mb 19 16) ?_
           refine mpu 19 32 HT_.out (mb 20 15) ?_
           refine mpu 20 33 HT_.out (mb 21 14) ?_
           refine mpu 21 34 HT_.out (mb 22 13) ?_
           refine mpu 22 35 HT_.out (mb 23 12) ?_
           refine mpu 23 36 HT_.out (mb 24 11) ?_
           refine mpu 24 37 HT_.out (mb 25 10) ?_
           refine mpu 25 38 HT_.out (mb 26 9) ?_
           refine mpu 27 40 HT_.out (mr [26,1,1,7]) ?_
           refine mpu 28 41 HT_.out (mr [26,1,2,6]) ?_
           refine mpu 29 42 HT_.out (mr [26,1,3,5]) ?_
           refine mpu 30 43 HT_.out (mr [26,1,4,4]) ?_
           refine mpt 26 39 HT_.out HW_.out (mb 31 4) hHeld ?_
           refine mpt 31 44 HT_.out HW_.out (mb 32 3) hHeld ?_
           refine mpu 32 45 HT_.out (mb 33 2) ?_
           refine mpu 33 46 HT_.out (mb 34 1) ?_
           refine mpu 34 47 HT_.out (mb 35 0) ?_
           refine done_ (done_of HT_.out (by kernel_rfl)) ?_
           try go_wp2
           go_meet
           case rel => exact ⟨_, (!(Op.bytesLess (((rd_T126 l1 (ji14)).f0).toList) (((rd_T126 l1 x5_1).f0).toList))), (by first | rfl | (simp; done) | (simp only [← hji14] <;> (first | rfl | simp)) | (simp [*]; done)), H', ⟨by have := HK1.out; first | omega | exact Nat.le_refl _⟩, ⟨mK BK198.out⟩, ⟨(mH1 HB.out GE198.out)⟩⟩
          ·rw [if_neg c16] at H
           exact absurd H (by simp)
         ·rw [if_neg c15] at H
          exact absurd H (by simp)
        ·rw [if_neg c13] at H
         have c13b0 : decide (0 < x5_1) = false := decide_eq_false c13
         clear c13
         have H' := mS H
         clear H
         try go_wp2
         replace BK198 := mS (blk_drew BK198.out)
         replace HB := mS (below_drew1 HB.out)
         have p199 : 0 ≤ (x5_1 : Int) := mD
         have q199 : x5_1 < (l1.length : Int) := mD
         obtain ⟨ad199, e199, hx199_0, hx199_1⟩ := at_T126 HR1.out x5_1 p199 q199
         have hw199_1 := hx199_1
         have hw199_0 := hx199_0
         cases e199
         replace hx199_0 := mX HB.out hx199_0
         replace hx199_1 := mX HB.out hx199_1
         replace p199 := eq_true p199
         replace q199 := eq_true q199
         have p201 : 0 ≤ (x5_1 : Int) := mD
         have q201 : x5_1 < (l1.length : Int) := mD
         obtain ⟨ad201, e201, hx201_0, hx201_1⟩ := at_T126 HR1.out x5_1 p201 q201
         have hw201_1 := hx201_1
         have hw201_0 := hx201_0
         obtain rfl : ad199 = ad201 := (by injection e201)
         replace hx201_0 := mX HB.out hx201_0
         replace hx201_1 := mX HB.out hx201_1
         replace p201 := eq_true p201
         replace q201 := eq_true q201
         refine start_ (n := 35) (S := fun w' => w'.cell? ⟨gb198, 0, none⟩ = some (.slice A0_0 l0_0.length c0_0) ∧ w'.cell? ⟨gb198, 1, none⟩ = some (.slice A0_1 l0_1.length c0_1) ∧ w'.cell? ⟨gb198, 2, none⟩ = some (.slice A0_2 l0_2.length c0_2) ∧ w'.cell? ⟨gb198, 3, none⟩ = some (.int .i64 a0_3) ∧ w'.cell? (ad199.add ((x5_1).toNat * 2)) = some (.string ((rd_T126 l1 x5_1).f0)) ∧ w'.cell? ⟨(ad199.add ((x5_1).toNat * 2)).block, (ad199.add ((x5_1).toNat * 2)).off + 1, none⟩ = some (.int .i64 ((rd_T126 l1 x5_1).f1)) ∧ w'.cell? (ad199.add ((x5_1).toNat * 2)) = some (.string ((rd_T126 l1 x5_1).f0)) ∧ w'.cell? ⟨(ad199.add ((x5_1).toNat * 2)).block, (ad199.add ((x5_1).toNat * 2)).off + 1, none⟩ = some (.int .i64 ((rd_T126 l1 x5_1).f1))) (ds := []) (mb 0 35) (by kernel_rfl) rfl rfl (mb4 BK198.out ⟨(mX HB.out hw199_0 :), ⟨(mX HB.out hw199_1 :), ⟨(mX HB.out hw201_0 :), (mX HB.out hw201_1 :)⟩⟩⟩) (fun hHeld => ?_); refine with_tabW spec_l2Entries.tab4 spec_l2Entries.bits4 (fun HT_ HW_ => ?_)
         generalize wr.drew = w19 at BK198 HB hx199_0 hx199_1 hx201_0 hx201_1 hHeld ⊢
         refine mpu 0 13 HT_.out (mb 1 34) ?_
         refine mpu 1 14 HT_.out (mb 2 33) ?_
         refine mpu 2 15 HT_.out (mb 3 32) ?_
         refine mpu 3 16 HT_.out (mb 4 31) ?_
         refine mpt 4 17 HT_.out HW_.out (mb 5 30) hHeld ?_
         refine mone 5 (some 18) HT_.out (mb 6 29) (fun K hK => ?_)
         refine goes_ Try.func121 (by kernel_rfl) rfl #[.string ((rd_T126 l1 x5_1).f0)] (by rfl) rfl rfl mA ?_
         with_reducible refine (spec_l2Name.calls k1 ((rd_T126 l1 x5_1).f0) true _ A7.out).mono ?_
         rintro e w' ⟨rfl, ⟨nd, rfl⟩⟩
         refine ⟨_, rfl, ?_⟩
         refine hK.out _ _ (mb4 BK198.out ⟨(mX HB.out hw199_0 :), ⟨(mX HB.out hw199_1 :), ⟨(mX HB.out hw201_0 :), (mX HB.out hw201_1 :)⟩⟩⟩) (fun hHeld => ?_)
         clear hK K
         refine mno 18 ?_
         refine mpu 6 19 HT_.out (mb 7 28) ?_
         refine mpu 7 20 HT_.out (mb 8 27) ?_
         refine mpu 9 22 HT_.out (mr [8,1,1,25]) ?_
         refine mpu 10 23 HT_.out (mr [8,1,2,24]) ?_
         refine mpu 11 24 HT_.out (mr [8,1,3,23]) ?_
         refine mpu 12 25 HT_.out (mr [8,1,4,22]) ?_
         refine mpt 8 21 HT_.out HW_.out (mb 13 22) hHeld ?_
         refine mpt 13 26 HT_.out HW_.out (mb 14 21) hHeld ?_
         refine mone 14 (some 27) HT_.out (mb 15 20) (fun K hK => ?_)
         refine goes_ Try.func103 (by kernel_rfl) rfl #[.agg #[.slice A0_0 l0_0.length c0_0, .slice A0_1 l0_1.length c0_1, .slice A0_2 l0_2.length c0_2, .int .i64 a0_3], .int .i64 ((rd_T126 l1 x5_1).f1)] (by rfl) rfl rfl mA ?_
         with_reducible refine (spec_l2Inode.calls k1 _ _ l0_0 _ _ l0_1 _ _ l0_2 a0_3 ((rd_T126 l1 x5_1).f1) t202 _ ?side1 ?side2 ?side3 ?side4 ?side5 ?side6 A9.out).mono ?_
         (case side1 => exact mC (Kd.C_below HR0_0.out (mH1 HB.out GE198.out)))
         (case side2 => exact HC0_0.out)
         (case side3 => exact mC (Kd.C_below HR0_1.out (mH1 HB.out GE198.out)))
         (case side4 => exact HC0_1.out)
         (case side5 => exact mC (Kd.C_below HR0_2.out (mH1 HB.out GE198.out)))
         (case side6 => exact HC0_2.out)
         rintro e w20 ⟨rfl, hb⟩
         refine ⟨_, rfl, ?_⟩
         replace BK198 := mB BK198 hb
         replace HB := mS (below_step (mH1 HB.out GE198.out) hb)
         (try clear hb)
         (try clear hb2)
         (try clear hk)
         (try clear hi)
         refine hK.out _ _ (mb4 BK198.out ⟨(mX HB.out hw199_0 :), ⟨(mX HB.out hw199_1 :), ⟨(mX HB.out hw201_0 :), (mX HB.out hw201_1 :)⟩⟩⟩) (fun hHeld => ?_)
         clear hK K
         refine mno 27 ?_
         refine mpu 15 28 HT_.out (mb 16 19) ?_
         refine mpu 16 29 HT_.out (mb 17 18) ?_
         refine mpu 17 30 HT_.out (mb 18 17) ?_
         refine mpu 18 31 HT_.out (mb 19 16) ?_
         refine mpu 19 32 HT_.out (mb 20 15) ?_
         refine mpu 20 33 HT_.out (mb 21 14) ?_
         refine mpf 21 34 HT_.out (mb 22 13) ?_
         refine mpf 22 35 HT_.out (mb 23 12) ?_
         refine mpf 23 36 HT_.out (mb 24 11) ?_
         refine mpf 24 37 HT_.out (mb 25 10) ?_
         refine mpf 25 38 HT_.out (mb 26 9) ?_
         refine mpf 26 39 HT_.out (mb 27 8) ?_
         refine mpf 27 40 HT_.out (mb 28 7) ?_
         refine mpf 28 41 HT_.out (mb 29 6) ?_
         refine mpf 29 42 HT_.out (mb 30 5) ?_
         refine mpf 30 43 HT_.out (mb 31 4) ?_
         refine mpf 31 44 HT_.out (mb 32 3) ?_
         refine mpf 32 45 HT_.out (mb 33 2) ?_
         refine mpu 33 46 HT_.out (mb 34 1) ?_
         refine mpu 34 47 HT_.out (mb 35 0) ?_
         refine done_ (done_of HT_.out (by kernel_rfl)) ?_
         try go_wp2
         go_meet
         case rel => exact ⟨_, (false), mE, H', ⟨by have := HK1.out; first | omega | exact Nat.le_refl _⟩, ⟨mK BK198.out⟩, ⟨(mH1 HB.out GE198.out)⟩⟩
      ·replace c8 := Bool.eq_false_iff.mpr c8
       subst c8
       have H1 := H
       rw [if_neg (show ¬ (false = true) by decide)] at H1
       clear H
       have H := H1
       clear H1
       have H' := mS H
       clear H
       try go_wp2
       replace BK198 := mS (blk_drew BK198.out)
       replace HB := mS (below_drew1 HB.out)
       have p199 : 0 ≤ (x5_1 : Int) := mD
       have q199 : x5_1 < (l1.length : Int) := mD
       obtain ⟨ad199, e199, hx199_0, hx199_1⟩ := at_T126 HR1.out x5_1 p199 q199
       have hw199_1 := hx199_1
       have hw199_0 := hx199_0
       cases e199
       replace hx199_0 := mX HB.out hx199_0
       replace hx199_1 := mX HB.out hx199_1
       replace p199 := eq_true p199
       replace q199 := eq_true q199
       refine start_ (n := 35) (S := fun w' => w'.cell? (ad199.add ((x5_1).toNat * 2)) = some (.string ((rd_T126 l1 x5_1).f0)) ∧ w'.cell? ⟨(ad199.add ((x5_1).toNat * 2)).block, (ad199.add ((x5_1).toNat * 2)).off + 1, none⟩ = some (.int .i64 ((rd_T126 l1 x5_1).f1))) (ds := []) (mb 0 35) (by kernel_rfl) rfl rfl ⟨(mX HB.out hw199_0 :), (mX HB.out hw199_1 :)⟩ (fun hHeld => ?_); refine with_tabW spec_l2Entries.tab4 spec_l2Entries.bits4 (fun HT_ HW_ => ?_)
       generalize wr.drew = w21 at BK198 HB hx199_0 hx199_1 hHeld ⊢
       refine mpu 0 13 HT_.out (mb 1 34) ?_
       refine mpu 1 14 HT_.out (mb 2 33) ?_
       refine mpu 2 15 HT_.out (mb 3 32) ?_
       refine mpu 3 16 HT_.out (mb 4 31) ?_
       refine mpt 4 17 HT_.out HW_.out (mb 5 30) hHeld ?_
       refine mone 5 (some 18) HT_.out (mb 6 29) (fun K hK => ?_)
       refine goes_ Try.func121 (by kernel_rfl) rfl #[.string ((rd_T126 l1 x5_1).f0)] (by rfl) rfl rfl mA ?_
       with_reducible refine (spec_l2Name.calls k1 ((rd_T126 l1 x5_1).f0) false _ A7.out).mono ?_
       rintro e w' ⟨rfl, ⟨nd, rfl⟩⟩
       refine ⟨_, rfl, ?_⟩
       refine hK.out _ _ ⟨(mX HB.out hw199_0 :), (mX HB.out hw199_1 :)⟩ (fun hHeld => ?_)
       clear hK K
       refine mno 18 ?_
       refine mpu 6 19 HT_.out (mb 7 28) ?_
       refine mpu 7 20 HT_.out (mb 8 27) ?_
       refine mpf 8 21 HT_.out (mb 9 26) ?_
       refine mpf 9 22 HT_.out (mb 10 25) ?_
       refine mpf 10 23 HT_.out (mb 11 24) ?_
       refine mpf 11 24 HT_.out (mb 12 23) ?_
       refine mpf 12 25 HT_.out (mb 13 22) ?_
       refine mpf 13 26 HT_.out (mb 14 21) ?_
       refine mpf 14 27 HT_.out (mb 15 20) ?_
       refine mpf 15 28 HT_.out (mb 16 19) ?_
       refine mpu 16 29 HT_.out (mb 17 18) ?_
       refine mpu 17 30 HT_.out (mb 18 17) ?_
       refine mpf 18 31 HT_.out (mb 19 16) ?_
       refine mpf 19 32 HT_.out (mb 20 15) ?_
       refine mpf 20 33 HT_.out (mb 21 14) ?_
       refine mpf 21 34 HT_.out (mb 22 13) ?_
       refine mpf 22 35 HT_.out (mb 23 12) ?_
       refine mpf 23 36 HT_.out (mb 24 11) ?_
       refine mpf 24 37 HT_.out (mb 25 10) ?_
       refine mpf 25 38 HT_.out (mb 26 9) ?_
       refine mpf 26 39 HT_.out (mb 27 8) ?_
       refine mpf 27 40 HT_.out (mb 28 7) ?_
       refine mpf 28 41 HT_.out (mb 29 6) ?_
       refine mpf 29 42 HT_.out (mb 30 5) ?_
       refine mpf 30 43 HT_.out (mb 31 4) ?_
       refine mpf 31 44 HT_.out (mb 32 3) ?_
       refine mpf 32 45 HT_.out (mb 33 2) ?_
       refine mpf 33 46 HT_.out (mb 34 1) ?_
       refine mpu 34 47 HT_.out (mb 35 0) ?_
       refine done_ (done_of HT_.out (by kernel_rfl)) ?_
       try go_wp2
       go_meet
       case rel => exact ⟨_, (true), mE, H', ⟨by have := HK1.out; first | omega | exact Nat.le_refl _⟩, ⟨mK BK198.out⟩, ⟨(mH1 HB.out GE198.out)⟩⟩
     ·rw [if_neg c6] at H
      exact absurd H (by simp)
    case rest =>
     clear HC5
     try clear c1
     try clear p1
     try clear q1
     try clear hx1
     try clear p2
     try clear q2
     try clear hx2
     try clear c6
     try clear c8
     try clear c10
     try clear c12
     try clear c13
     try clear c13b0
     try clear c15
     try clear c16
     try clear p19
     try clear q19
     try clear hx19
     try clear p20
     try clear q20
     try clear hx20
     try clear hx199_0
     try clear hx199_1
     try clear hx201_0
     try clear hx201_1
     try clear p199
     try clear p201
     try clear q199
     try clear q201
     obtain ⟨kq, x47_4, rfl, HA, HJ4, BK198, HB⟩ := hcut
     cases kq with
     | zero => exact absurd HA.out (by simp [spec_l2Entries.j1])
     | succ kj4 =>
      have H := HA.out
      clear HA
      simp only [spec_l2Entries.j1] at H
      by_cases c22 : x47_4 = true
      ·subst c22
       have H1 := H
       rw [if_pos rfl] at H1
       clear H
       have H := H1
       clear H1
       obtain rfl := Option.some.inj H
       go_wp2
       go_ret
       exact ⟨mEw, (mH1 HB.out GE198.out)⟩
      ·replace c22 := Bool.eq_false_iff.mpr c22
       subst c22
       have H1 := H
       rw [if_neg (show ¬ (false = true) by decide)] at H1
       clear H
       have H := H1
       clear H1
       have H' := mS H
       clear H
       go_wp2
       go_loopg [6] kj4 (fun kq v6 w' => ∃ (x6_3 : Int), v6 = .int .i64 x6_3 ∧ Aside0 (spec_l2Entries.l1 kq l1 x5_1 x6_3 l0_0 l0_1 l0_2 a0_3 = some r) ∧ Aside0 (kq ≤ kj4) ∧ Aside0 (w'.heap[gb198]? = some (.cells #[(.slice A0_0 l0_0.length c0_0), (.slice A0_1 l0_1.length c0_1), (.slice A0_2 l0_2.length c0_2), .int .i64 a0_3] 63 (0, 0))) ∧ Aside0 (Below w.heap.size w w'))
       case atStart => exact ⟨(0), mE, H', ⟨Nat.le_refl _⟩, ⟨mK BK198.out⟩, ⟨(mH1 HB.out GE198.out)⟩⟩
       case round =>
        clear H'
        try clear c1
        try clear p1
        try clear q1
        try clear hx1
        try clear c2
        try clear p2
        try clear q2
        try clear hx2
        try clear c6
        try clear c8
        try clear c10
        try clear c12
        try clear c13
        try clear c13b0
        try clear c15
        try clear c16
        try clear p19
        try clear q19
        try clear hx19
        try clear p20
        try clear q20
        try clear hx20
        try clear c22
        try clear hx199_0
        try clear hx199_1
        try clear hx201_0
        try clear hx201_1
        try clear p1
        try clear p19
        try clear p199
        try clear p2
        try clear p20
        try clear p201
        try clear q1
        try clear q19
        try clear q199
        try clear q2
        try clear q20
        try clear q201
        obtain ⟨x6_3, rfl, HA, HK3, BK198, HB⟩ := hrel
        cases gk with
        | zero => exact absurd HA.out (by simp [spec_l2Entries.l1])
        | succ k3 =>
         have H := HA.out
         clear HA
         simp only [spec_l2Entries.l1] at H
         by_cases c23 : x6_3 < x5_1
         ·rw [if_pos c23] at H
          have c23b0 := decide_eq_true c23
          clear c23
          by_cases c24 : 0 ≤ x6_3
          ·rw [if_pos c24] at H
           have c24b0 := decide_eq_true c24
           clear c24
           by_cases c25 : x6_3 < (l1.length : Int)
           ·rw [if_pos c25] at H
            have c25b0 := decide_eq_true c25
            clear c25
            by_cases c26 : 0 ≤ x5_1
            ·rw [if_pos c26] at H
             have c26b0 := decide_eq_true c26
             clear c26
             by_cases c27 : x5_1 < (l1.length : Int)
             ·rw [if_pos c27] at H
              have c27b0 := decide_eq_true c27
              clear c27
              by_cases c28 : ((rd_T126 l1 x6_3).f1) = ((rd_T126 l1 x5_1).f1)
              ·rw [if_pos c28] at H
               have c28b0 : (((rd_T126 l1 x6_3).f1) == ((rd_T126 l1 x5_1).f1)) = true := beq_iff_eq.mpr c28
               have c28b1 : (((rd_T126 l1 x6_3).f1) != ((rd_T126 l1 x5_1).f1)) = false := bne_eq_false_iff_eq.mpr c28
               clear c28
               obtain rfl := Option.some.inj H
               try go_wp2
               replace BK198 := mS (blk_drew BK198.out)
               replace HB := mS (below_drew1 HB.out)
               have p205 : 0 ≤ (x6_3 : Int) := mD
               have q205 : x6_3 < (l1.length : Int) := mD
               obtain ⟨ad205, e205, hx205_0, hx205_1⟩ := at_T126 HR1.out x6_3 p205 q205
               have hw205_1 := hx205_1
               have hw205_0 := hx205_0
               cases e205
               replace hx205_0 := mX HB.out hx205_0
               replace hx205_1 := mX HB.out hx205_1
               replace p205 := eq_true p205
               replace q205 := eq_true q205
               have p206 : 0 ≤ (x5_1 : Int) := mD
               have q206 : x5_1 < (l1.length : Int) := mD
               obtain ⟨ad206, e206, hx206_0, hx206_1⟩ := at_T126 HR1.out x5_1 p206 q206
               have hw206_1 := hx206_1
               have hw206_0 := hx206_0
               obtain rfl : ad205 = ad206 := (by injection e206)
               replace hx206_0 := mX HB.out hx206_0
               replace hx206_1 := mX HB.out hx206_1
               replace p206 := eq_true p206
               replace q206 := eq_true q206
               refine start_ (n := 11) (S := fun w' => w'.cell? (ad205.add ((x6_3).toNat * 2)) = some (.string ((rd_T126 l1 x6_3).f0)) ∧ w'.cell? ⟨(ad205.add ((x6_3).toNat * 2)).block, (ad205.add ((x6_3).toNat * 2)).off + 1, none⟩ = some (.int .i64 ((rd_T126 l1 x6_3).f1)) ∧ w'.cell? (ad205.add ((x5_1).toNat * 2)) = some (.string ((rd_T126 l1 x5_1).f0)) ∧ w'.cell? ⟨(ad205.add ((x5_1).toNat * 2)).block, (ad205.add ((x5_1).toNat * 2)).off + 1, none⟩ = some (.int .i64 ((rd_T126 l1 x5_1).f1))) (ds := []) (mb 0 11) (by kernel_rfl) rfl rfl ⟨(mX HB.out hw205_0 :), (mX HB.out hw205_1 :), (mX HB.out hw206_0 :), (mX HB.out hw206_1 :)⟩ (fun hHeld => ?_); refine with_tabW spec_l2Entries.tab9 spec_l2Entries.bits9 (fun HT_ HW_ => ?_)
               generalize wr.drew = w29 at BK198 HB hx205_0 hx205_1 hx206_0 hx206_1 hHeld ⊢
               refine mpu 0 53 HT_.out (mb 1 10) ?_
               refine mpu 1 54 HT_.out (mb 2 9) ?_
               refine mpu 2 55 HT_.out (mb 3 8) ?_
               refine mpu 3 56 HT_.out (mb 4 7) ?_
               refine mpu 5 58 HT_.out (mr [4,1,1,5]) ?_
               refine mpu 6 59 HT_.out (mr [4,1,2,4]) ?_
               refine mpu 7 60 HT_.out (mr [4,1,3,3]) ?_
               refine mpu 8 61 HT_.out (mr [4,1,4,2]) ?_
               refine mpt 4 57 HT_.out HW_.out (mb 9 2) hHeld ?_
               refine mpt 9 62 HT_.out HW_.out (mb 10 1) hHeld ?_
               refine mpu 10 63 HT_.out (mb 11 0) ?_
               refine done_ (done_of HT_.out (by kernel_rfl)) ?_
               try go_wp2
               go_ret
               exact ⟨mEw, (mH1 HB.out GE198.out)⟩
              ·rw [if_neg c28] at H
               have c28b0 : (((rd_T126 l1 x6_3).f1) == ((rd_T126 l1 x5_1).f1)) = false := beq_eq_false_iff_ne.mpr c28
               have c28b1 : (((rd_T126 l1 x6_3).f1) != ((rd_T126 l1 x5_1).f1)) = true := bne_iff_ne.mpr c28
               have H' := mS H
               clear H
               try go_wp2
               replace BK198 := mS (blk_drew BK198.out)
               replace HB := mS (below_drew1 HB.out)
               have p205 : 0 ≤ (x6_3 : Int) := mD
               have q205 : x6_3 < (l1.length : Int) := mD
               obtain ⟨ad205, e205, hx205_0, hx205_1⟩ := at_T126 HR1.out x6_3 p205 q205
               have hw205_1 := hx205_1
               have hw205_0 := hx205_0
               cases e205
               replace hx205_0 := mX HB.out hx205_0
               replace hx205_1 := mX HB.out hx205_1
               replace p205 := eq_true p205
               replace q205 := eq_true q205
               have p206 : 0 ≤ (x5_1 : Int) := mD
               have q206 : x5_1 < (l1.length : Int) := mD
               obtain ⟨ad206, e206, hx206_0, hx206_1⟩ := at_T126 HR1.out x5_1 p206 q206
               have hw206_1 := hx206_1
               have hw206_0 := hx206_0
               obtain rfl : ad205 = ad206 := (by injection e206)
               replace hx206_0 := mX HB.out hx206_0
               replace hx206_1 := mX HB.out hx206_1
               replace p206 := eq_true p206
               replace q206 := eq_true q206
               refine start_ (n := 11) (S := fun w' => w'.cell? (ad205.add ((x6_3).toNat * 2)) = some (.string ((rd_T126 l1 x6_3).f0)) ∧ w'.cell? ⟨(ad205.add ((x6_3).toNat * 2)).block, (ad205.add ((x6_3).toNat * 2)).off + 1, none⟩ = some (.int .i64 ((rd_T126 l1 x6_3).f1)) ∧ w'.cell? (ad205.add ((x5_1).toNat * 2)) = some (.string ((rd_T126 l1 x5_1).f0)) ∧ w'.cell? ⟨(ad205.add ((x5_1).toNat * 2)).block, (ad205.add ((x5_1).toNat * 2)).off + 1, none⟩ = some (.int .i64 ((rd_T126 l1 x5_1).f1))) (ds := []) (mb 0 11) (by kernel_rfl) rfl rfl ⟨(mX HB.out hw205_0 :), (mX HB.out hw205_1 :), (mX HB.out hw206_0 :), (mX HB.out hw206_1 :)⟩ (fun hHeld => ?_); refine with_tabW spec_l2Entries.tab9 spec_l2Entries.bits9 (fun HT_ HW_ => ?_)
               generalize wr.drew = w30 at BK198 HB hx205_0 hx205_1 hx206_0 hx206_1 hHeld ⊢
               refine mpu 0 53 HT_.out (mb 1 10) ?_
               refine mpu 1 54 HT_.out (mb 2 9) ?_
               refine mpu 2 55 HT_.out (mb 3 8) ?_
               refine mpu 3 56 HT_.out (mb 4 7) ?_
               refine mpu 5 58 HT_.out (mr [4,1,1,5]) ?_
               refine mpu 6 59 HT_.out (mr [4,1,2,4]) ?_
               refine mpu 7 60 HT_.out (mr [4,1,3,3]) ?_
               refine mpu 8 61 HT_.out (mr [4,1,4,2]) ?_
               refine mpt 4 57 HT_.out HW_.out (mb 9 2) hHeld ?_
               refine mpt 9 62 HT_.out HW_.out (mb 10 1) hHeld ?_
               refine mpu 10 63 HT_.out (mb 11 0) ?_
               refine done_ (done_of HT_.out (by kernel_rfl)) ?_
               try go_wp2
               go_roundg k3
               case measure => have := HK1.out; have := HJ4.out; have := HK3.out; omega
               case rel => exact ⟨(wrap64 (x6_3 + 1)), mE, H', ⟨by have := HK1.out; have := HJ4.out; have := HK3.out; omega⟩, ⟨mK BK198.out⟩, ⟨(mH1 HB.out GE198.out)⟩⟩
             ·rw [if_neg c27] at H
              exact absurd H (by simp)
            ·rw [if_neg c26] at H
             exact absurd H (by simp)
           ·rw [if_neg c25] at H
            exact absurd H (by simp)
          ·rw [if_neg c24] at H
           exact absurd H (by simp)
         ·rw [if_neg c23] at H
          have c23b0 := decide_eq_false c23
          clear c23
          have H' := mS H
          clear H
          go_wp2
          go_roundg k3
          case measure => have := HK1.out; have := HJ4.out; have := HK3.out; omega
          case rel => exact ⟨(wrap64 (x5_1 + 1)), mE, H', ⟨by have := HK1.out; have := HJ4.out; have := HK3.out; omega⟩, ⟨mK BK198.out⟩, ⟨(mH1 HB.out GE198.out)⟩⟩
   ·rw [if_neg c4] at H
    have c4b0 := decide_eq_false c4
    clear c4
    obtain rfl := Option.some.inj H
    go_wp2
    go_ret
    exact ⟨mEw, (mH1 HB.out GE198.out)⟩
end Go.Proofs.Ytgbejjeephipeaa.MFnExactFall
