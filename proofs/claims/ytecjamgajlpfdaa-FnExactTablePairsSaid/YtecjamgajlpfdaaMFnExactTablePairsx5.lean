-- Written by mp.py, this session's own printer (wip/mp.py).
import Derived.Test.YtecjamgajlpfdaaVMShort
import Derived.Test.YtecjamgajlpfdaaMFnExactTablePairsx0
import Derived.Test.YtecjamgajlpfdaaMFnExactTablePairsx4
namespace Go.Proofs.Ytecjamgajlpfdaa.MFnExactTablePairs
open Go.RowKit Go.Proofs.YtecjamgajlpfdaaW.PrintWords Go.Proofs.YtecjamgajlpfdaaW.PrintLast Go.Proofs.YtecjamgajlpfdaaW.PrintMore Go.Proofs.Ytecjamgajlpfdaa.MWords
attribute [local go_sem] max2_int min2_int max_two min_two max_three min_three max_four min_four   -- for this text's walks alone
set_option linter.unusedVariables false
set_option linter.unusedSimpArgs false

/-! ### spec_l4Rising: function 73 -/
def spec_l4Rising.l0 : Nat → List (S87) → Int → Option (Bool)
 | 0, _, _ => none
 | k + 1, x0, x3 => if x3 < (x0.length : Int) then (if 0 ≤ x3 then ((spec_PairOk.f ((rd_T87 x0 x3).f0) ((rd_T87 x0 x3).f1) ((rd_T87 x0 x3).f2)).bind fun t216 => (if t216 = true then (if x3 > 0 then (if 0 ≤ (wrap64 (x3 - 1)) then (if (wrap64 (x3 - 1)) < (x0.length : Int) then (if ((Op.bytesLess (((rd_T87 x0 (wrap64 (x3 - 1))).f0).toList) (((rd_T87 x0 x3).f0).toList)) = true) then (spec_l4Rising.l0 k x0 (wrap64 (x3 + 1))) else (some false)) else (none)) else (none)) else (spec_l4Rising.l0 k x0 (wrap64 (x3 + 1)))) else (some false))) else (none)) else (some true)
def spec_l4Rising.f (k : Nat) (l0 : List (S87)) : Option (Bool) := spec_l4Rising.l0 k l0 0
theorem spec_l4Rising.mono_l : ∀ k, (∀ y0 y1, LeO (spec_l4Rising.l0 k y0 y1) (spec_l4Rising.l0 (k + 1) y0 y1))
 | 0 => fun _ _ r h => by simp [spec_l4Rising.l0] at h
 | k + 1 => by
  have ih0 := spec_l4Rising.mono_l k
  ·intro y0 y1
   unfold spec_l4Rising.l0
   repeat' first
   | (with_reducible exact ih0 _ _)
   | (with_reducible exact LeO.refl _)
   | (with_reducible exact LeO.none _)
   | (with_reducible refine LeO.ite ?_ ?_)
   | (with_reducible refine LeO.bind ?_ (fun _ => ?_))
   | exact ih0 _ _
   | exact LeO.none _
   | refine LeO.ite ?_ ?_
   | refine LeO.bind ?_ (fun _ => ?_)
theorem spec_l4Rising.mono : ∀ a0 k, LeO (spec_l4Rising.f k a0) (spec_l4Rising.f (k + 1) a0) := by
 intro a0 k
 have ih0 := spec_l4Rising.mono_l k
 unfold spec_l4Rising.f
 repeat' first
   | (with_reducible exact ih0 _ _)
   | (with_reducible exact LeO.refl _)
   | (with_reducible exact LeO.none _)
   | (with_reducible refine LeO.ite ?_ ?_)
   | (with_reducible refine LeO.bind ?_ (fun _ => ?_))
   | exact ih0 _ _
   | exact LeO.none _
   | refine LeO.ite ?_ ?_
   | refine LeO.bind ?_ (fun _ => ?_)
def spec_l4Rising.T4 : Bool × List (List Nat × List Nat) := (true, [([], []), ([], []), ([0, 1], [0, 1]), ([2], [2]), ([3], [3]), ([4], [4]), ([5, 4], [5]), ([6], [6]), ([7, 6], [6, 7]), ([8, 6, 6], [6, 8]), ([9], [9]), ([9], [9]), ([11, 9], [9, 11]), ([10, 12, 9], [9, 10, 12]), ([13, 9], [9, 13]), ([14, 9], [9, 14]), ([9], [9]), ([9], [9]), ([16, 17, 9], [9, 16, 17]), ([18, 9], [9, 18]), ([19, 9], [9, 19]), ([15, 20, 9], [9, 15, 20]), ([9, 21, 6], [6, 9, 21]), ([6, 22], [6, 22])])
def spec_l4Rising.B4 : List Nat := [0, 0, 3, 7, 15, 31, 63, 127, 255, 511, 1023, 1023, 3071, 8191, 16383, 32767, 1023, 1023, 197631, 459775, 984063, 2097151, 4194303, 8388607]
theorem spec_l4Rising.tab4 : rtab .any (opsOf Try.f73 4) = spec_l4Rising.T4 := by kernel_rfl
theorem spec_l4Rising.bits4 : waitsOk spec_l4Rising.T4.2 spec_l4Rising.B4 = true := by kernel_rfl
set_option maxHeartbeats 8000000 in
set_option maxRecDepth 100000 in
theorem spec_l4Rising.calls (k : Nat) (A0 : Option Addr) (c0 : Nat) (l0 : List (S87)) (r : Bool) (w : World) (hr0 : Kd.C k87 w A0 l0.length l0) (hc0 : l0.length ≤ c0) (h : spec_l4Rising.f k l0 = some r) :
  Calls Try.prog 73 #[.slice A0 l0.length c0] w fun e w' => e = .returned (.bool r) ∧ Below w.heap.size w w' := by
 have hu87 := Try.underlying87
 have HR0 := mS hr0
 have HC0 := mS hc0
 clear hr0 hc0
 have HB := mS (Below.refl w.heap.size w)
 have H : (spec_l4Rising.l0 k l0 0) = some r := h
 clear h
 have H' := mS H
 clear H
 go_enter Try.func73, Try.ntmps73
 go_wp2
 go_loopg [3] k (fun kq v3 w' => ∃ (x3_1 : Int), v3 = .int .i64 x3_1 ∧ Aside0 (spec_l4Rising.l0 kq l0 x3_1 = some r) ∧ Aside0 (kq ≤ k) ∧ Aside0 (Below w.heap.size w w'))
 case atStart => exact ⟨(0), mE, H', ⟨Nat.le_refl _⟩, ⟨(mH HB.out)⟩⟩
 case round =>
  clear H'
  obtain ⟨x3_1, rfl, HA, HK1, HB⟩ := hrel
  cases gk with
  | zero => exact absurd HA.out (by simp [spec_l4Rising.l0])
  | succ k1 =>
   have H := HA.out
   clear HA
   simp only [spec_l4Rising.l0] at H
   by_cases c2 : x3_1 < (l0.length : Int)
   ·rw [if_pos c2] at H
    have c2b0 := decide_eq_true c2
    clear c2
    by_cases c3 : 0 ≤ x3_1
    ·rw [if_pos c3] at H
     have c3b0 := decide_eq_true c3
     clear c3
     replace H := Option.bind_eq_some_iff.mp H
     obtain ⟨t216, A40, H⟩ := H
     replace H : (if t216 = true then (if x3_1 > 0 then (if 0 ≤ (wrap64 (x3_1 - 1)) then (if (wrap64 (x3_1 - 1)) < (l0.length : Int) then (if ((Op.bytesLess (((rd_T87 l0 (wrap64 (x3_1 - 1))).f0).toList) (((rd_T87 l0 x3_1).f0).toList)) = true) then (spec_l4Rising.l0 k1 l0 (wrap64 (x3_1 + 1))) else (some false)) else (none)) else (none)) else (spec_l4Rising.l0 k1 l0 (wrap64 (x3_1 + 1)))) else (some false)) = some r := H
     have A4 := mS A40
     clear A40
     by_cases c5 : t216 = true
     ·subst c5
      have H1 := H
      rw [if_pos rfl] at H1
      clear H
      have H := H1
      clear H1
      by_cases c6 : x3_1 > 0
      ·rw [if_pos c6] at H
       have c6b0 : decide (0 < x3_1) = true := decide_eq_true c6
       clear c6
       obtain ⟨ji7, hji7⟩ : ∃ j_ : Int, (wrap64 (x3_1 - 1)) = j_ := ⟨_, rfl⟩
       replace H : (if 0 ≤ (ji7) then (if (ji7) < (l0.length : Int) then (if ((Op.bytesLess (((rd_T87 l0 (ji7)).f0).toList) (((rd_T87 l0 x3_1).f0).toList)) = true) then (spec_l4Rising.l0 k1 l0 (wrap64 (x3_1 + 1))) else (some false)) else (none)) else (none)) = some r := by first | (rw [hji7] at H; exact H) | (simp only [hji7] at H ⊢; exact H)
       (try rw [hji7] at A4)
       have hji7w : (IntKind.i64.wrap (x3_1 - 1)) = ji7 := (i64_w _).trans hji7
       by_cases c8 : 0 ≤ (ji7)
       ·rw [if_pos c8] at H
        have c8b0 := decide_eq_true c8
        clear c8
        by_cases c9 : (ji7) < (l0.length : Int)
        ·rw [if_pos c9] at H
         have c9b0 := decide_eq_true c9
         clear c9
         by_cases c10 : ((Op.bytesLess (((rd_T87 l0 (ji7)).f0).toList) (((rd_T87 l0 x3_1).f0).toList)) = true)
         ·rw [if_pos c10] at H
          have c10b0 : (Op.bytesLess (((rd_T87 l0 (ji7)).f0).toList) (((rd_T87 l0 x3_1).f0).toList)) = true := c10
          clear c10
          have H' := mS H
          clear H
          try go_wp2
          replace HB := mS (below_drew1 HB.out)
          have p215 : 0 ≤ (x3_1 : Int) := mD
          have q215 : x3_1 < (l0.length : Int) := mD
          obtain ⟨ad215, e215, hx215_0, hx215_1, hx215_2⟩ := at_T87 HR0.out x3_1 p215 q215
          have hw215_2 := hx215_2
          have hw215_1 := hx215_1
          have hw215_0 := hx215_0
          cases e215
          replace hx215_0 := mX HB.out hx215_0
          replace hx215_1 := mX HB.out hx215_1
          replace hx215_2 := mX HB.out hx215_2
          replace p215 := eq_true p215
          replace q215 := eq_true q215
          have p217 : 0 ≤ ((ji7) : Int) := mD
          have q217 : (ji7) < (l0.length : Int) := mD
          obtain ⟨ad217, e217, hx217_0, hx217_1, hx217_2⟩ := at_T87 HR0.out (ji7) p217 q217
          have hw217_2 := hx217_2
          have hw217_1 := hx217_1
          have hw217_0 := hx217_0
          obtain rfl : ad215 = ad217 := (by injection e217)
          replace hx217_0 := mX HB.out hx217_0
          replace hx217_1 := mX HB.out hx217_1
          replace hx217_2 := mX HB.out hx217_2
          replace p217 := eq_true p217
          replace q217 := eq_true q217
          have p218 : 0 ≤ (x3_1 : Int) := mD
          have q218 : x3_1 < (l0.length : Int) := mD
          obtain ⟨ad218, e218, hx218_0, hx218_1, hx218_2⟩ := at_T87 HR0.out x3_1 p218 q218
          have hw218_2 := hx218_2
          have hw218_1 := hx218_1
          have hw218_0 := hx218_0
          obtain rfl : ad215 = ad218 := (by injection e218)
          replace hx218_0 := mX HB.out hx218_0
          replace hx218_1 := mX HB.out hx218_1
          replace hx218_2 := mX HB.out hx218_2
          replace p218 := eq_true p218
          replace q218 := eq_true q218
          refine start_ (n := 24) (S := fun w' => w'.cell? (ad215.add ((x3_1).toNat * 3)) = some (.string ((rd_T87 l0 x3_1).f0)) ∧ w'.cell? ⟨(ad215.add ((x3_1).toNat * 3)).block, (ad215.add ((x3_1).toNat * 3)).off + 1, none⟩ = some (.string ((rd_T87 l0 x3_1).f1)) ∧ w'.cell? ⟨(ad215.add ((x3_1).toNat * 3)).block, (ad215.add ((x3_1).toNat * 3)).off + 2, none⟩ = some (.bool ((rd_T87 l0 x3_1).f2)) ∧ w'.cell? (ad215.add (((ji7)).toNat * 3)) = some (.string ((rd_T87 l0 (ji7)).f0)) ∧ w'.cell? ⟨(ad215.add (((ji7)).toNat * 3)).block, (ad215.add (((ji7)).toNat * 3)).off + 1, none⟩ = some (.string ((rd_T87 l0 (ji7)).f1)) ∧ w'.cell? ⟨(ad215.add (((ji7)).toNat * 3)).block, (ad215.add (((ji7)).toNat * 3)).off + 2, none⟩ = some (.bool ((rd_T87 l0 (ji7)).f2)) ∧ w'.cell? (ad215.add ((x3_1).toNat * 3)) = some (.string ((rd_T87 l0 x3_1).f0)) ∧ w'.cell? ⟨(ad215.add ((x3_1).toNat * 3)).block, (ad215.add ((x3_1).toNat * 3)).off + 1, none⟩ = some (.string ((rd_T87 l0 x3_1).f1)) ∧ w'.cell? ⟨(ad215.add ((x3_1).toNat * 3)).block, (ad215.add ((x3_1).toNat * 3)).off + 2, none⟩ = some (.bool ((rd_T87 l0 x3_1).f2))) (ds := []) (mb 0 24) (by kernel_rfl) rfl rfl ⟨(mX HB.out hw215_0 :), (mX HB.out hw215_1 :), (mX HB.out hw215_2 :), (mX HB.out hw217_0 :), (mX HB.out hw217_1 :), (mX HB.out hw217_2 :), (mX HB.out hw218_0 :), (mX HB.out hw218_1 :), (mX HB.out hw218_2 :)⟩ (fun hHeld => ?_); refine with_tabW spec_l4Rising.tab4 spec_l4Rising.bits4 (fun HT_ HW_ => ?_)
          generalize wr.drew = w11 at HB hx215_0 hx215_1 hx215_2 hx217_0 hx217_1 hx217_2 hx218_0 hx218_1 hx218_2 hHeld ⊢
          refine mpu 0 10 HT_.out (mb 1 23) ?_
          refine mpu 1 11 HT_.out (mb 2 22) ?_
          refine mpu 2 12 HT_.out (mb 3 21) ?_
          refine mpt 3 13 HT_.out HW_.out (mb 4 20) hHeld ?_
          refine mone 4 (some 14) HT_.out (mb 5 19) (fun K hK => ?_)
          refine goes_ Try.func95 (by kernel_rfl) rfl #[.agg #[.string ((rd_T87 l0 x3_1).f0), .string ((rd_T87 l0 x3_1).f1), .bool ((rd_T87 l0 x3_1).f2)]] (by rfl) rfl rfl mA ?_
          with_reducible refine (spec_PairOk.calls ((rd_T87 l0 x3_1).f0) ((rd_T87 l0 x3_1).f1) ((rd_T87 l0 x3_1).f2) true _ A4.out).mono ?_
          rintro e w12 ⟨rfl, hb⟩
          refine ⟨_, rfl, ?_⟩
          replace HB := mS (below_step (mH HB.out) hb)
          (try clear hb)
          (try clear hb2)
          (try clear hk)
          (try clear hi)
          refine hK.out _ _ ⟨(mX HB.out hw215_0 :), (mX HB.out hw215_1 :), (mX HB.out hw215_2 :), (mX HB.out hw217_0 :), (mX HB.out hw217_1 :), (mX HB.out hw217_2 :), (mX HB.out hw218_0 :), (mX HB.out hw218_1 :), (mX HB.out hw218_2 :)⟩ (fun hHeld => ?_)
          clear hK K
          refine mno 14 ?_
          refine mpu 5 15 HT_.out (mb 6 18) ?_
          refine mpu 6 16 HT_.out (mb 7 17) ?_
          refine mpu 7 17 HT_.out (mb 8 16) ?_
          refine mpu 8 18 HT_.out (mb 9 15) ?_
          refine mpu 9 19 HT_.out (mb 10 14) ?_
          refine mpu 10 20 HT_.out (mb 11 13) ?_
          refine mpu 11 21 HT_.out (mb 12 12) ?_
          refine mpu 12 22 HT_.out (mb 13 11) ?_
          refine mpu 13 23 HT_.out (mb 14 10) ?_
          refine mpu 14 24 HT_.out (mb 15 9) ?_
          refine mpu 16 26 HT_.out (mr [15,1,1,7]) ?_
          refine mpu 17 27 HT_.out (mr [15,1,2,6]) ?_
          refine mpu 18 28 HT_.out (mr [15,1,3,5]) ?_
          refine mpu 19 29 HT_.out (mr [15,1,4,4]) ?_
          refine mpt 15 25 HT_.out HW_.out (mb 20 4) hHeld ?_
          refine mpt 20 30 HT_.out HW_.out (mb 21 3) hHeld ?_
          refine mpu 21 31 HT_.out (mb 22 2) ?_
          refine mpu 22 32 HT_.out (mb 23 1) ?_
          refine mpu 23 33 HT_.out (mb 24 0) ?_
          refine done_ (done_of HT_.out (by kernel_rfl)) ?_
          try go_wp2
          go_roundg k1
          case measure => have := HK1.out; omega
          case rel => exact ⟨(wrap64 (x3_1 + 1)), mE, H', ⟨by have := HK1.out; omega⟩, ⟨(mH HB.out)⟩⟩
         ·rw [if_neg c10] at H
          have c10b0 : (Op.bytesLess (((rd_T87 l0 (ji7)).f0).toList) (((rd_T87 l0 x3_1).f0).toList)) = false := by simpa using c10
          clear c10
          obtain rfl := Option.some.inj H
          try go_wp2
          replace HB := mS (below_drew1 HB.out)
          have p215 : 0 ≤ (x3_1 : Int) := mD
          have q215 : x3_1 < (l0.length : Int) := mD
          obtain ⟨ad215, e215, hx215_0, hx215_1, hx215_2⟩ := at_T87 HR0.out x3_1 p215 q215
          have hw215_2 := hx215_2
          have hw215_1 := hx215_1
          have hw215_0 := hx215_0
          cases e215
          replace hx215_0 := mX HB.out hx215_0
          replace hx215_1 := mX HB.out hx215_1
          replace hx215_2 := mX HB.out hx215_2
          replace p215 := eq_true p215
          replace q215 := eq_true q215
          have p217 : 0 ≤ ((ji7) : Int) := mD
          have q217 : (ji7) < (l0.length : Int) := mD
          obtain ⟨ad217, e217, hx217_0, hx217_1, hx217_2⟩ := at_T87 HR0.out (ji7) p217 q217
          have hw217_2 := hx217_2
          have hw217_1 := hx217_1
          have hw217_0 := hx217_0
          obtain rfl : ad215 = ad217 := (by injection e217)
          replace hx217_0 := mX HB.out hx217_0
          replace hx217_1 := mX HB.out hx217_1
          replace hx217_2 := mX HB.out hx217_2
          replace p217 := eq_true p217
          replace q217 := eq_true q217
          have p218 : 0 ≤ (x3_1 : Int) := mD
          have q218 : x3_1 < (l0.length : Int) := mD
          obtain ⟨ad218, e218, hx218_0, hx218_1, hx218_2⟩ := at_T87 HR0.out x3_1 p218 q218
          have hw218_2 := hx218_2
          have hw218_1 := hx218_1
          have hw218_0 := hx218_0
          obtain rfl : ad215 = ad218 := (by injection e218)
          replace hx218_0 := mX HB.out hx218_0
          replace hx218_1 := mX HB.out hx218_1
          replace hx218_2 := mX HB.out hx218_2
          replace p218 := eq_true p218
          replace q218 := eq_true q218
          refine start_ (n := 24) (S := fun w' => w'.cell? (ad215.add ((x3_1).toNat * 3)) = some (.string ((rd_T87 l0 x3_1).f0)) ∧ w'.cell? ⟨(ad215.add ((x3_1).toNat * 3)).block, (ad215.add ((x3_1).toNat * 3)).off + 1, none⟩ = some (.string ((rd_T87 l0 x3_1).f1)) ∧ w'.cell? ⟨(ad215.add ((x3_1).toNat * 3)).block, (ad215.add ((x3_1).toNat * 3)).off + 2, none⟩ = some (.bool ((rd_T87 l0 x3_1).f2)) ∧ w'.cell? (ad215.add (((ji7)).toNat * 3)) = some (.string ((rd_T87 l0 (ji7)).f0)) ∧ w'.cell? ⟨(ad215.add (((ji7)).toNat * 3)).block, (ad215.add (((ji7)).toNat * 3)).off + 1, none⟩ = some (.string ((rd_T87 l0 (ji7)).f1)) ∧ w'.cell? ⟨(ad215.add (((ji7)).toNat * 3)).block, (ad215.add (((ji7)).toNat * 3)).off + 2, none⟩ = some (.bool ((rd_T87 l0 (ji7)).f2)) ∧ w'.cell? (ad215.add ((x3_1).toNat * 3)) = some (.string ((rd_T87 l0 x3_1).f0)) ∧ w'.cell? ⟨(ad215.add ((x3_1).toNat * 3)).block, (ad215.add ((x3_1).toNat * 3)).off + 1, none⟩ = some (.string ((rd_T87 l0 x3_1).f1)) ∧ w'.cell? ⟨(ad215.add ((x3_1).toNat * 3)).block, (ad215.add ((x3_1).toNat * 3)).off + 2, none⟩ = some (.bool ((rd_T87 l0 x3_1).f2))) (ds := []) (mb 0 24) (by kernel_rfl) rfl rfl ⟨(mX HB.out hw215_0 :), (mX HB.out hw215_1 :), (mX HB.out hw215_2 :), (mX HB.out hw217_0 :), (mX HB.out hw217_1 :), (mX HB.out hw217_2 :), (mX HB.out hw218_0 :), (mX HB.out hw218_1 :), (mX HB.out hw218_2 :)⟩ (fun hHeld => ?_); refine with_tabW spec_l4Rising.tab4 spec_l4Rising.bits4 (fun HT_ HW_ => ?_)
          generalize wr.drew = w13 at HB hx215_0 hx215_1 hx215_2 hx217_0 hx217_1 hx217_2 hx218_0 hx218_1 hx218_2 hHeld ⊢
          refine mpu 0 10 HT_.out (mb 1 23) ?_
          refine mpu 1 11 HT_.out (mb 2 22) ?_
          refine mpu 2 12 HT_.out (mb 3 21) ?_
          refine mpt 3 13 HT_.out HW_.out (mb 4 20) hHeld ?_
          refine mone 4 (some 14) HT_.out (mb 5 19) (fun K hK => ?_)
          refine goes_ Try.func95 (by kernel_rfl) rfl #[.agg #[.string ((rd_T87 l0 x3_1).f0), .string ((rd_T87 l0 x3_1).f1), .bool ((rd_T87 l0 x3_1).f2)]] (by rfl) rfl rfl mA ?_
          with_reducible refine (spec_PairOk.calls ((rd_T87 l0 x3_1).f0) ((rd_T87 l0 x3_1).f1) ((rd_T87 l0 x3_1).f2) true _ A4.out).mono ?_
          rintro e w14 ⟨rfl, hb⟩
          refine ⟨_, rfl, ?_⟩
          replace HB := mS (below_step (mH HB.out) hb)
          (try clear hb)
          (try clear hb2)
          (try clear hk)
          (try clear hi)
          refine hK.out _ _ ⟨(mX HB.out hw215_0 :), (mX HB.out hw215_1 :), (mX HB.out hw215_2 :), (mX HB.out hw217_0 :), (mX HB.out hw217_1 :), (mX HB.out hw217_2 :), (mX HB.out hw218_0 :), (mX HB.out hw218_1 :), (mX HB.out hw218_2 :)⟩ (fun hHeld => ?_)
          clear hK K
          refine mno 14 ?_
          refine mpu 5 15 HT_.out (mb 6 18) ?_
          refine mpu 6 16 HT_.out (mb 7 17) ?_
          refine mpu 7 17 HT_.out (mb 8 16) ?_
          refine mpu 8 18 HT_.out (mb 9 15) ?_
          refine mpu 9 19 HT_.out (mb 10 14) ?_
          refine mpu 10 20 HT_.out (mb 11 13) ?_
          refine mpu 11 21 HT_.out (mb 12 12) ?_
          refine mpu 12 22 HT_.out (mb 13 11) ?_
          refine mpu 13 23 HT_.out (mb 14 10) ?_
          refine mpu 14 24 HT_.out (mb 15 9) ?_
          refine mpu 16 26 HT_.out (mr [15,1,1,7]) ?_
          refine mpu 17 27 HT_.out (mr [15,1,2,6]) ?_
          refine mpu 18 28 HT_.out (mr [15,1,3,5]) ?_
          refine mpu 19 29 HT_.out (mr [15,1,4,4]) ?_
          refine mpt 15 25 HT_.out HW_.out (mb 20 4) hHeld ?_
          refine mpt 20 30 HT_.out HW_.out (mb 21 3) hHeld ?_
          refine mpu 21 31 HT_.out (mb 22 2) ?_
          refine mpu 22 32 HT_.out (mb 23 1) ?_
          refine mpu 23 33 HT_.out (mb 24 0) ?_
          refine done_ (done_of HT_.out (by kernel_rfl)) ?_
          try go_wp2
          go_ret
          exact ⟨by first | rfl | (simp [errW_none, errW_some] <;> rfl) | (simp only [← hji7]; first | rfl | (simp [errW_none, errW_some] <;> rfl)) | (simp [*, errW_none, errW_some] <;> rfl), (mH HB.out)⟩
        ·rw [if_neg c9] at H
         exact absurd H (by simp)
       ·rw [if_neg c8] at H
        exact absurd H (by simp)
      ·rw [if_neg c6] at H
       have c6b0 : decide (0 < x3_1) = false := decide_eq_false c6
       clear c6
       have H' := mS H
       clear H
       try go_wp2
       replace HB := mS (below_drew1 HB.out)
       have p215 : 0 ≤ (x3_1 : Int) := mD
       have q215 : x3_1 < (l0.length : Int) := mD
       obtain ⟨ad215, e215, hx215_0, hx215_1, hx215_2⟩ := at_T87 HR0.out x3_1 p215 q215
       have hw215_2 := hx215_2
       have hw215_1 := hx215_1
       have hw215_0 := hx215_0
       cases e215
       replace hx215_0 := mX HB.out hx215_0
       replace hx215_1 := mX HB.out hx215_1
       replace hx215_2 := mX HB.out hx215_2
       replace p215 := eq_true p215
       replace q215 := eq_true q215
       refine start_ (n := 24) (S := fun w' => w'.cell? (ad215.add ((x3_1).toNat * 3)) = some (.string ((rd_T87 l0 x3_1).f0)) ∧ w'.cell? ⟨(ad215.add ((x3_1).toNat * 3)).block, (ad215.add ((x3_1).toNat * 3)).off + 1, none⟩ = some (.string ((rd_T87 l0 x3_1).f1)) ∧ w'.cell? ⟨(ad215.add ((x3_1).toNat * 3)).block, (ad215.add ((x3_1).toNat * 3)).off + 2, none⟩ = some (.bool ((rd_T87 l0 x3_1).f2))) (ds := []) (mb 0 24) (by kernel_rfl) rfl rfl ⟨(mX HB.out hw215_0 :), (mX HB.out hw215_1 :), (mX HB.out hw215_2 :)⟩ (fun hHeld => ?_); refine with_tabW spec_l4Rising.tab4 spec_l4Rising.bits4 (fun HT_ HW_ => ?_)
       generalize wr.drew = w15 at HB hx215_0 hx215_1 hx215_2 hHeld ⊢
       refine mpu 0 10 HT_.out (mb 1 23) ?_
       refine mpu 1 11 HT_.out (mb 2 22) ?_
       refine mpu 2 12 HT_.out (mb 3 21) ?_
       refine mpt 3 13 HT_.out HW_.out (mb 4 20) hHeld ?_
       refine mone 4 (some 14) HT_.out (mb 5 19) (fun K hK => ?_)
       refine goes_ Try.func95 (by kernel_rfl) rfl #[.agg #[.string ((rd_T87 l0 x3_1).f0), .string ((rd_T87 l0 x3_1).f1), .bool ((rd_T87 l0 x3_1).f2)]] (by rfl) rfl rfl mA ?_
       with_reducible refine (spec_PairOk.calls ((rd_T87 l0 x3_1).f0) ((rd_T87 l0 x3_1).f1) ((rd_T87 l0 x3_1).f2) true _ A4.out).mono ?_
       rintro e w16 ⟨rfl, hb⟩
       refine ⟨_, rfl, ?_⟩
       replace HB := mS (below_step (mH HB.out) hb)
       (try clear hb)
       (try clear hb2)
       (try clear hk)
       (try clear hi)
       refine hK.out _ _ ⟨(mX HB.out hw215_0 :), (mX HB.out hw215_1 :), (mX HB.out hw215_2 :)⟩ (fun hHeld => ?_)
       clear hK K
       refine mno 14 ?_
       refine mpu 5 15 HT_.out (mb 6 18) ?_
       refine mpu 6 16 HT_.out (mb 7 17) ?_
       refine mpu 7 17 HT_.out (mb 8 16) ?_
       refine mpu 8 18 HT_.out (mb 9 15) ?_
       refine mpu 9 19 HT_.out (mb 10 14) ?_
       refine mpf 10 20 HT_.out (mb 11 13) ?_
       refine mpf 11 21 HT_.out (mb 12 12) ?_
       refine mpf 12 22 HT_.out (mb 13 11) ?_
       refine mpf 13 23 HT_.out (mb 14 10) ?_
       refine mpf 14 24 HT_.out (mb 15 9) ?_
       refine mpf 15 25 HT_.out (mb 16 8) ?_
       refine mpf 16 26 HT_.out (mb 17 7) ?_
       refine mpf 17 27 HT_.out (mb 18 6) ?_
       refine mpf 18 28 HT_.out (mb 19 5) ?_
       refine mpf 19 29 HT_.out (mb 20 4) ?_
       refine mpf 20 30 HT_.out (mb 21 3) ?_
       refine mpf 21 31 HT_.out (mb 22 2) ?_
       refine mpu 22 32 HT_.out (mb 23 1) ?_
       refine mpu 23 33 HT_.out (mb 24 0) ?_
       refine done_ (done_of HT_.out (by kernel_rfl)) ?_
       try go_wp2
       go_roundg k1
       case measure => have := HK1.out; omega
       case rel => exact ⟨(wrap64 (x3_1 + 1)), mE, H', ⟨by have := HK1.out; omega⟩, ⟨(mH HB.out)⟩⟩
     ·replace c5 := Bool.eq_false_iff.mpr c5
      subst c5
      have H1 := H
      rw [if_neg (show ¬ (false = true) by decide)] at H1
      clear H
      have H := H1
      clear H1
      obtain rfl := Option.some.inj H
      try go_wp2
      replace HB := mS (below_drew1 HB.out)
      have p215 : 0 ≤ (x3_1 : Int) := mD
      have q215 : x3_1 < (l0.length : Int) := mD
      obtain ⟨ad215, e215, hx215_0, hx215_1, hx215_2⟩ := at_T87 HR0.out x3_1 p215 q215
      have hw215_2 := hx215_2
      have hw215_1 := hx215_1
      have hw215_0 := hx215_0
      cases e215
      replace hx215_0 := mX HB.out hx215_0
      replace hx215_1 := mX HB.out hx215_1
      replace hx215_2 := mX HB.out hx215_2
      replace p215 := eq_true p215
      replace q215 := eq_true q215
      refine start_ (n := 24) (S := fun w' => w'.cell? (ad215.add ((x3_1).toNat * 3)) = some (.string ((rd_T87 l0 x3_1).f0)) ∧ w'.cell? ⟨(ad215.add ((x3_1).toNat * 3)).block, (ad215.add ((x3_1).toNat * 3)).off + 1, none⟩ = some (.string ((rd_T87 l0 x3_1).f1)) ∧ w'.cell? ⟨(ad215.add ((x3_1).toNat * 3)).block, (ad215.add ((x3_1).toNat * 3)).off + 2, none⟩ = some (.bool ((rd_T87 l0 x3_1).f2))) (ds := []) (mb 0 24) (by kernel_rfl) rfl rfl ⟨(mX HB.out hw215_0 :), (mX HB.out hw215_1 :), (mX HB.out hw215_2 :)⟩ (fun hHeld => ?_); refine with_tabW spec_l4Rising.tab4 spec_l4Rising.bits4 (fun HT_ HW_ => ?_)
      generalize wr.drew = w17 at HB hx215_0 hx215_1 hx215_2 hHeld ⊢
      refine mpu 0 10 HT_.out (mb 1 23) ?_
      refine mpu 1 11 HT_.out (mb 2 22) ?_
      refine mpu 2 12 HT_.out (mb 3 21) ?_
      refine mpt 3 13 HT_.out HW_.out (mb 4 20) hHeld ?_
      refine mone 4 (some 14) HT_.out (mb 5 19) (fun K hK => ?_)
      refine goes_ Try.func95 (by kernel_rfl) rfl #[.agg #[.string ((rd_T87 l0 x3_1).f0), .string ((rd_T87 l0 x3_1).f1), .bool ((rd_T87 l0 x3_1).f2)]] (by rfl) rfl rfl mA ?_
      with_reducible refine (spec_PairOk.calls ((rd_T87 l0 x3_1).f0) ((rd_T87 l0 x3_1).f1) ((rd_T87 l0 x3_1).f2) false _ A4.out).mono ?_
      rintro e w18 ⟨rfl, hb⟩
      refine ⟨_, rfl, ?_⟩
      replace HB := mS (below_step (mH HB.out) hb)
      (try clear hb)
      (try clear hb2)
      (try clear hk)
      (try clear hi)
      refine hK.out _ _ ⟨(mX HB.out hw215_0 :), (mX HB.out hw215_1 :), (mX HB.out hw215_2 :)⟩ (fun hHeld => ?_)
      clear hK K
      refine mno 14 ?_
      refine mpu 5 15 HT_.out (mb 6 18) ?_
      refine mpu 6 16 HT_.out (mb 7 17) ?_
      refine mpf 7 17 HT_.out (mb 8 16) ?_
      refine mpf 8 18 HT_.out (mb 9 15) ?_
      refine mpf 9 19 HT_.out (mb 10 14) ?_
      refine mpf 10 20 HT_.out (mb 11 13) ?_
      refine mpf 11 21 HT_.out (mb 12 12) ?_
      refine mpf 12 22 HT_.out (mb 13 11) ?_
      refine mpf 13 23 HT_.out (mb 14 10) ?_
      refine mpf 14 24 HT_.out (mb 15 9) ?_
      refine mpf 15 25 HT_.out (mb 16 8) ?_
      refine mpf 16 26 HT_.out (mb 17 7) ?_
      refine mpf 17 27 HT_.out (mb 18 6) ?_
      refine mpf 18 28 HT_.out (mb 19 5) ?_
      refine mpf 19 29 HT_.out (mb 20 4) ?_
      refine mpf 20 30 HT_.out (mb 21 3) ?_
      refine mpf 21 31 HT_.out (mb 22 2) ?_
      refine mpf 22 32 HT_.out (mb 23 1) ?_
      refine mpu 23 33 HT_.out (mb 24 0) ?_
      refine done_ (done_of HT_.out (by kernel_rfl)) ?_
      try go_wp2
      go_ret
      exact ⟨mEw, (mH HB.out)⟩
    ·rw [if_neg c3] at H
     exact absurd H (by simp)
   ·rw [if_neg c2] at H
    have c2b0 := decide_eq_false c2
    clear c2
    obtain rfl := Option.some.inj H
    go_wp2
    go_ret
    exact ⟨mEw, (mH HB.out)⟩

end Go.Proofs.Ytecjamgajlpfdaa.MFnExactTablePairs
