-- Written by mp.py, this session's own printer (wip/mp.py).
import Derived.Test.YtecjamgajlpfdaaVMShort
import Derived.Test.YtecjamgajlpfdaaMFnExactTablePairsx0
import Derived.Test.YtecjamgajlpfdaaMFnExactTablePairsx11
namespace Go.Proofs.Ytecjamgajlpfdaa.MFnExactTablePairs
open Go.RowKit Go.Proofs.YtecjamgajlpfdaaW.PrintWords Go.Proofs.YtecjamgajlpfdaaW.PrintLast Go.Proofs.YtecjamgajlpfdaaW.PrintMore Go.Proofs.Ytecjamgajlpfdaa.MWords
attribute [local go_sem] max2_int min2_int max_two min_two max_three min_three max_four min_four   -- for this text's walks alone
set_option linter.unusedVariables false
set_option linter.unusedSimpArgs false

/-! ### impl_rising: function 84 -/
def impl_rising.l0 : Nat → List (S87) → List (S87) → Int → Int → Option (Bool)
 | 0, _, _, _, _ => none
 | k + 1, x0, x5, x6, x7 => if x7 < x6 then (if 0 ≤ x7 then (if x7 < (x5.length : Int) then ((impl_PairOk.f ((rd_T87 x5 x7).f0) ((rd_T87 x5 x7).f1) ((rd_T87 x5 x7).f2)).bind fun t474 => (if t474 = true then (if x7 > 0 then (if 0 ≤ (wrap64 (x7 - 1)) then (if (wrap64 (x7 - 1)) < (x0.length : Int) then (if ((Op.bytesLess (((rd_T87 x0 (wrap64 (x7 - 1))).f0).toList) (((rd_T87 x5 x7).f0).toList)) = true) then (impl_rising.l0 k x0 x5 x6 (wrap64 (x7 + 1))) else (some false)) else (none)) else (none)) else (impl_rising.l0 k x0 x5 x6 (wrap64 (x7 + 1)))) else (some false))) else (none)) else (none)) else (some true)
def impl_rising.f (k : Nat) (l0 : List (S87)) : Option (Bool) := impl_rising.l0 k l0 l0 (l0.length : Int) 0
theorem impl_rising.mono_l : ∀ k, (∀ y0 y1 y2 y3, LeO (impl_rising.l0 k y0 y1 y2 y3) (impl_rising.l0 (k + 1) y0 y1 y2 y3))
 | 0 => fun _ _ _ _ r h => by simp [impl_rising.l0] at h
 | k + 1 => by
  have ih0 := impl_rising.mono_l k
  ·intro y0 y1 y2 y3
   unfold impl_rising.l0
   repeat' first
   | (with_reducible exact ih0 _ _ _ _)
   | (with_reducible exact LeO.refl _)
   | (with_reducible exact LeO.none _)
   | (with_reducible refine LeO.ite ?_ ?_)
   | (with_reducible refine LeO.bind ?_ (fun _ => ?_))
   | exact ih0 _ _ _ _
   | exact LeO.none _
   | refine LeO.ite ?_ ?_
   | refine LeO.bind ?_ (fun _ => ?_)
theorem impl_rising.mono : ∀ a0 k, LeO (impl_rising.f k a0) (impl_rising.f (k + 1) a0) := by
 intro a0 k
 have ih0 := impl_rising.mono_l k
 unfold impl_rising.f
 repeat' first
   | (with_reducible exact ih0 _ _ _ _)
   | (with_reducible exact LeO.refl _)
   | (with_reducible exact LeO.none _)
   | (with_reducible refine LeO.ite ?_ ?_)
   | (with_reducible refine LeO.bind ?_ (fun _ => ?_))
   | exact ih0 _ _ _ _
   | exact LeO.none _
   | refine LeO.ite ?_ ?_
   | refine LeO.bind ?_ (fun _ => ?_)
def impl_rising.T4 : Bool × List (List Nat × List Nat) := (true, [([], []), ([0], [0]), ([1], [1]), ([2, 1], [2]), ([3], [3]), ([4, 3], [3, 4]), ([5, 3, 3], [3, 5]), ([6], [6]), ([6], [6]), ([8, 6], [6, 8]), ([7, 9, 6], [6, 7, 9]), ([10, 6], [6, 10]), ([11, 6], [6, 11]), ([6], [6]), ([13, 6], [6, 13]), ([12, 14, 6], [6, 12, 14]), ([6, 15, 3], [3, 6, 15]), ([3, 16], [3, 16])])
def impl_rising.B4 : List Nat := [0, 1, 3, 7, 15, 31, 63, 127, 127, 383, 1023, 2047, 4095, 127, 8319, 32767, 65535, 131071]
theorem impl_rising.tab4 : rtab .any (opsOf Try.f84 4) = impl_rising.T4 := by kernel_rfl
theorem impl_rising.bits4 : waitsOk impl_rising.T4.2 impl_rising.B4 = true := by kernel_rfl
set_option maxHeartbeats 8000000 in
set_option maxRecDepth 100000 in
theorem impl_rising.calls (k : Nat) (A0 : Option Addr) (c0 : Nat) (l0 : List (S87)) (r : Bool) (w : World) (hr0 : Kd.C k87 w A0 l0.length l0) (hc0 : l0.length ≤ c0) (h : impl_rising.f k l0 = some r) :
  Calls Try.prog 84 #[.slice A0 l0.length c0] w fun e w' => e = .returned (.bool r) ∧ Below w.heap.size w w' := by
 have hu87 := Try.underlying87
 have HR0 := mS hr0
 have HC0 := mS hc0
 clear hr0 hc0
 have HB := mS (Below.refl w.heap.size w)
 have H : (impl_rising.l0 k l0 l0 (l0.length : Int) 0) = some r := h
 clear h
 have H' := mS H
 clear H
 go_enter Try.func84, Try.ntmps84
 go_wp2
 go_loopg [7] k (fun kq v7 w' => ∃ (x7_1 : Int), v7 = .int .i64 x7_1 ∧ Aside0 (impl_rising.l0 kq l0 l0 (l0.length : Int) x7_1 = some r) ∧ Aside0 (kq ≤ k) ∧ Aside0 (Below w.heap.size w w'))
 case atStart => exact ⟨(0), mE, H', ⟨Nat.le_refl _⟩, ⟨(mH HB.out)⟩⟩
 case round =>
  clear H'
  obtain ⟨x7_1, rfl, HA, HK1, HB⟩ := hrel
  cases gk with
  | zero => exact absurd HA.out (by simp [impl_rising.l0])
  | succ k1 =>
   have H := HA.out
   clear HA
   simp only [impl_rising.l0] at H
   by_cases c2 : x7_1 < (l0.length : Int)
   ·rw [if_pos c2] at H
    have c2b0 := decide_eq_true c2
    clear c2
    by_cases c3 : 0 ≤ x7_1
    ·rw [if_pos c3] at H
     have c3b0 := decide_eq_true c3
     clear c3
     by_cases c4 : x7_1 < (l0.length : Int)
     ·rw [if_pos c4] at H
      have c4b0 := decide_eq_true c4
      clear c4
      replace H := Option.bind_eq_some_iff.mp H
      obtain ⟨t474, A50, H⟩ := H
      replace H : (if t474 = true then (if x7_1 > 0 then (if 0 ≤ (wrap64 (x7_1 - 1)) then (if (wrap64 (x7_1 - 1)) < (l0.length : Int) then (if ((Op.bytesLess (((rd_T87 l0 (wrap64 (x7_1 - 1))).f0).toList) (((rd_T87 l0 x7_1).f0).toList)) = true) then (impl_rising.l0 k1 l0 l0 (l0.length : Int) (wrap64 (x7_1 + 1))) else (some false)) else (none)) else (none)) else (impl_rising.l0 k1 l0 l0 (l0.length : Int) (wrap64 (x7_1 + 1)))) else (some false)) = some r := H
      have A5 := mS A50
      clear A50
      by_cases c6 : t474 = true
      ·subst c6
       have H1 := H
       rw [if_pos rfl] at H1
       clear H
       have H := H1
       clear H1
       by_cases c7 : x7_1 > 0
       ·rw [if_pos c7] at H
        have c7b0 : decide (0 < x7_1) = true := decide_eq_true c7
        clear c7
        obtain ⟨ji8, hji8⟩ : ∃ j_ : Int, (wrap64 (x7_1 - 1)) = j_ := ⟨_, rfl⟩
        replace H : (if 0 ≤ (ji8) then (if (ji8) < (l0.length : Int) then (if ((Op.bytesLess (((rd_T87 l0 (ji8)).f0).toList) (((rd_T87 l0 x7_1).f0).toList)) = true) then (impl_rising.l0 k1 l0 l0 (l0.length : Int) (wrap64 (x7_1 + 1))) else (some false)) else (none)) else (none)) = some r := by first | (rw [hji8] at H; exact H) | (simp only [hji8] at H ⊢; exact H)
        (try rw [hji8] at A5)
        have hji8w : (IntKind.i64.wrap (x7_1 - 1)) = ji8 := (i64_w _).trans hji8
        by_cases c9 : 0 ≤ (ji8)
        ·rw [if_pos c9] at H
         have c9b0 := decide_eq_true c9
         clear c9
         by_cases c10 : (ji8) < (l0.length : Int)
         ·rw [if_pos c10] at H
          have c10b0 := decide_eq_true c10
          clear c10
          by_cases c11 : ((Op.bytesLess (((rd_T87 l0 (ji8)).f0).toList) (((rd_T87 l0 x7_1).f0).toList)) = true)
          ·rw [if_pos c11] at H
           have c11b0 : (Op.bytesLess (((rd_T87 l0 (ji8)).f0).toList) (((rd_T87 l0 x7_1).f0).toList)) = true := c11
           clear c11
           have H' := mS H
           clear H
           have p472 : 0 ≤ (x7_1 : Int) := mD
           have q472 : x7_1 < (l0.length : Int) := mD
           obtain ⟨ad472, e472, hx472_0, hx472_1, hx472_2⟩ := at_T87 HR0.out x7_1 p472 q472
           cases e472
           replace hx472_0 := mX HB.out hx472_0
           replace hx472_1 := mX HB.out hx472_1
           replace hx472_2 := mX HB.out hx472_2
           replace p472 := eq_true p472
           replace q472 := eq_true q472
           try go_wp2_with (first | ((with_reducible refine gate_dst (N := 4) rfl ?_); refine mBx 4 #[.string (⟨#[]⟩ : ByteArray), .string (⟨#[]⟩ : ByteArray), .bool false] 87 ?_; intro gb473 hg w12 hbox hb; have BK473 := mS (hbox); have GW473 := mG hg (mH HB.out); have GE473 := mG hg (mH HB.out); replace HB := mS (below_step (mH HB.out) hb); clear hb hbox hg; obtain ⟨hcz13_0, hcz13_1, hcz13_2, hfz13_0, hfz13_1, hfz13_2⟩ := mZ3 BK473.out))
           generalize hW_ : (((w12.setCell ⟨gb473, 0, none⟩ (.string ((rd_T87 l0 x7_1).f0))).setCell ⟨gb473, 1, none⟩ (.string ((rd_T87 l0 x7_1).f1))).setCell ⟨gb473, 2, none⟩ (.bool ((rd_T87 l0 x7_1).f2))) = w14
           replace BK473 : Aside0 (w14.heap[gb473]? = some (.cells #[.string ((rd_T87 l0 x7_1).f0), .string ((rd_T87 l0 x7_1).f1), .bool ((rd_T87 l0 x7_1).f2)] 87 (0, 0))) := by rw [← hW_]; exact ⟨by refine mK ?_; refine blk_put (cs := #[.string ((rd_T87 l0 x7_1).f0), .string ((rd_T87 l0 x7_1).f1), .bool false]) ?_ 2 _ rfl; refine mK ?_; refine blk_put (cs := #[.string ((rd_T87 l0 x7_1).f0), .string (⟨#[]⟩ : ByteArray), .bool false]) ?_ 1 _ rfl; refine mK ?_; refine blk_put (cs := #[.string (⟨#[]⟩ : ByteArray), .string (⟨#[]⟩ : ByteArray), .bool false]) ?_ 0 _ rfl; refine mK ?_; exact BK473.out⟩
           replace HB : Aside0 (Below w.heap.size w w14) := by rw [← hW_]; exact ⟨(mH1 HB.out GE473.out)⟩
           clear hW_
           replace BK473 := mS (blk_drew BK473.out)
           replace HB := mS (below_drew1 HB.out)
           have p475 : 0 ≤ ((ji8) : Int) := mD
           have q475 : (ji8) < (l0.length : Int) := mD
           obtain ⟨ad475, e475, hx475_0, hx475_1, hx475_2⟩ := at_T87 HR0.out (ji8) p475 q475
           have hw475_2 := hx475_2
           have hw475_1 := hx475_1
           have hw475_0 := hx475_0
           obtain rfl : ad472 = ad475 := (by injection e475)
           replace hx475_0 := mX HB.out hx475_0
           replace hx475_1 := mX HB.out hx475_1
           replace hx475_2 := mX HB.out hx475_2
           replace p475 := eq_true p475
           replace q475 := eq_true q475
           refine start_ (n := 18) (S := fun w' => w'.cell? ⟨gb473, 0, none⟩ = some (.string ((rd_T87 l0 x7_1).f0)) ∧ w'.cell? ⟨gb473, 1, none⟩ = some (.string ((rd_T87 l0 x7_1).f1)) ∧ w'.cell? ⟨gb473, 2, none⟩ = some (.bool ((rd_T87 l0 x7_1).f2)) ∧ w'.cell? (ad472.add (((ji8)).toNat * 3)) = some (.string ((rd_T87 l0 (ji8)).f0)) ∧ w'.cell? ⟨(ad472.add (((ji8)).toNat * 3)).block, (ad472.add (((ji8)).toNat * 3)).off + 1, none⟩ = some (.string ((rd_T87 l0 (ji8)).f1)) ∧ w'.cell? ⟨(ad472.add (((ji8)).toNat * 3)).block, (ad472.add (((ji8)).toNat * 3)).off + 2, none⟩ = some (.bool ((rd_T87 l0 (ji8)).f2))) (ds := []) (mb 0 18) (by kernel_rfl) rfl rfl (mb3 BK473.out ⟨(mX HB.out hw475_0 :), ⟨(mX HB.out hw475_1 :), (mX HB.out hw475_2 :)⟩⟩) (fun hHeld => ?_); refine with_tabW impl_rising.tab4 impl_rising.bits4 (fun HT_ HW_ => ?_)
           generalize w14.drew = w15 at BK473 HB hx475_0 hx475_1 hx475_2 hHeld ⊢
           refine mpt 0 12 HT_.out HW_.out (mb 1 17) hHeld ?_
           refine mone 1 (some 13) HT_.out (mb 2 16) (fun K hK => ?_)
           refine goes_ Try.func99 (by kernel_rfl) rfl #[.agg #[.string ((rd_T87 l0 x7_1).f0), .string ((rd_T87 l0 x7_1).f1), .bool ((rd_T87 l0 x7_1).f2)]] (by rfl) rfl rfl mA ?_
           with_reducible refine (impl_PairOk.calls ((rd_T87 l0 x7_1).f0) ((rd_T87 l0 x7_1).f1) ((rd_T87 l0 x7_1).f2) true _ A5.out).mono ?_
           rintro e w16 ⟨rfl, hb⟩
           refine ⟨_, rfl, ?_⟩
           replace BK473 := mB BK473 hb
           replace HB := mS (below_step (mH1 HB.out GE473.out) hb)
           (try clear hb)
           (try clear hb2)
           (try clear hk)
           (try clear hi)
           refine hK.out _ _ (mb3 BK473.out ⟨(mX HB.out hw475_0 :), ⟨(mX HB.out hw475_1 :), (mX HB.out hw475_2 :)⟩⟩) (fun hHeld => ?_)
           clear hK K
           refine mno 13 ?_
           refine mpu 2 14 HT_.out (mb 3 15) ?_
           refine mpu 3 15 HT_.out (mb 4 14) ?_
           refine mpu 4 16 HT_.out (mb 5 13) ?_
           refine mpu 5 17 HT_.out (mb 6 12) ?_
           refine mpu 6 18 HT_.out (mb 7 11) ?_
           refine mpu 7 19 HT_.out (mb 8 10) ?_
           refine mpu 8 20 HT_.out (mb 9 9) ?_
           refine mpu 9 21 HT_.out (mb 10 8) ?_
           refine mpu 10 22 HT_.out (mb 11 7) ?_
           refine mpu 11 23 HT_.out (mb 12 6) ?_
           refine mpu 13 25 HT_.out (mr [12,1,1,4]) ?_
           refine mpt 12 24 HT_.out HW_.out (mb 14 4) hHeld ?_
           refine mpt 14 26 HT_.out HW_.out (mb 15 3) hHeld ?_
           refine mpu 15 27 HT_.out (mb 16 2) ?_
           refine mpu 16 28 HT_.out (mb 17 1) ?_
           refine mpu 17 29 HT_.out (mb 18 0) ?_
           refine done_ (done_of HT_.out (by kernel_rfl)) ?_
           try go_wp2
           go_roundg k1
           case measure => have := HK1.out; omega
           case rel => exact ⟨(wrap64 (x7_1 + 1)), mE, H', ⟨by have := HK1.out; omega⟩, ⟨(mH1 HB.out GE473.out)⟩⟩
          ·rw [if_neg c11] at H
           have c11b0 : (Op.bytesLess (((rd_T87 l0 (ji8)).f0).toList) (((rd_T87 l0 x7_1).f0).toList)) = false := by simpa using c11
           clear c11
           obtain rfl := Option.some.inj H
           have p472 : 0 ≤ (x7_1 : Int) := mD
           have q472 : x7_1 < (l0.length : Int) := mD
           obtain ⟨ad472, e472, hx472_0, hx472_1, hx472_2⟩ := at_T87 HR0.out x7_1 p472 q472
           cases e472
           replace hx472_0 := mX HB.out hx472_0
           replace hx472_1 := mX HB.out hx472_1
           replace hx472_2 := mX HB.out hx472_2
           replace p472 := eq_true p472
           replace q472 := eq_true q472
           try go_wp2_with (first | ((with_reducible refine gate_dst (N := 4) rfl ?_); refine mBx 4 #[.string (⟨#[]⟩ : ByteArray), .string (⟨#[]⟩ : ByteArray), .bool false] 87 ?_; intro gb473 hg w17 hbox hb; have BK473 := mS (hbox); have GW473 := mG hg (mH HB.out); have GE473 := mG hg (mH HB.out); replace HB := mS (below_step (mH HB.out) hb); clear hb hbox hg; obtain ⟨hcz18_0, hcz18_1, hcz18_2, hfz18_0, hfz18_1, hfz18_2⟩ := mZ3 BK473.out))
           generalize hW_ : (((w17.setCell ⟨gb473, 0, none⟩ (.string ((rd_T87 l0 x7_1).f0))).setCell ⟨gb473, 1, none⟩ (.string ((rd_T87 l0 x7_1).f1))).setCell ⟨gb473, 2, none⟩ (.bool ((rd_T87 l0 x7_1).f2))) = w19
           replace BK473 : Aside0 (w19.heap[gb473]? = some (.cells #[.string ((rd_T87 l0 x7_1).f0), .string ((rd_T87 l0 x7_1).f1), .bool ((rd_T87 l0 x7_1).f2)] 87 (0, 0))) := by rw [← hW_]; exact ⟨by refine mK ?_; refine blk_put (cs := #[.string ((rd_T87 l0 x7_1).f0), .string ((rd_T87 l0 x7_1).f1), .bool false]) ?_ 2 _ rfl; refine mK ?_; refine blk_put (cs := #[.string ((rd_T87 l0 x7_1).f0), .string (⟨#[]⟩ : ByteArray), .bool false]) ?_ 1 _ rfl; refine mK ?_; refine blk_put (cs := #[.string (⟨#[]⟩ : ByteArray), .string (⟨#[]⟩ : ByteArray), .bool false]) ?_ 0 _ rfl; refine mK ?_; exact BK473.out⟩
           replace HB : Aside0 (Below w.heap.size w w19) := by rw [← hW_]; exact ⟨(mH1 HB.out GE473.out)⟩
           clear hW_
           replace BK473 := mS (blk_drew BK473.out)
           replace HB := mS (below_drew1 HB.out)
           have p475 : 0 ≤ ((ji8) : Int) := mD
           have q475 : (ji8) < (l0.length : Int) := mD
           obtain ⟨ad475, e475, hx475_0, hx475_1, hx475_2⟩ := at_T87 HR0.out (ji8) p475 q475
           have hw475_2 := hx475_2
           have hw475_1 := hx475_1
           have hw475_0 := hx475_0
           obtain rfl : ad472 = ad475 := (by injection e475)
           replace hx475_0 := mX HB.out hx475_0
           replace hx475_1 := mX HB.out hx475_1
           replace hx475_2 := mX HB.out hx475_2
           replace p475 := eq_true p475
           replace q475 := eq_true q475
           refine start_ (n := 18) (S := fun w' => w'.cell? ⟨gb473, 0, none⟩ = some (.string ((rd_T87 l0 x7_1).f0)) ∧ w'.cell? ⟨gb473, 1, none⟩ = some (.string ((rd_T87 l0 x7_1).f1)) ∧ w'.cell? ⟨gb473, 2, none⟩ = some (.bool ((rd_T87 l0 x7_1).f2)) ∧ w'.cell? (ad472.add (((ji8)).toNat * 3)) = some (.string ((rd_T87 l0 (ji8)).f0)) ∧ w'.cell? ⟨(ad472.add (((ji8)).toNat * 3)).block, (ad472.add (((ji8)).toNat * 3)).off + 1, none⟩ = some (.string ((rd_T87 l0 (ji8)).f1)) ∧ w'.cell? ⟨(ad472.add (((ji8)).toNat * 3)).block, (ad472.add (((ji8)).toNat * 3)).off + 2, none⟩ = some (.bool ((rd_T87 l0 (ji8)).f2))) (ds := []) (mb 0 18) (by kernel_rfl) rfl rfl (mb3 BK473.out ⟨(mX HB.out hw475_0 :), ⟨(mX HB.out hw475_1 :), (mX HB.out hw475_2 :)⟩⟩) (fun hHeld => ?_); refine with_tabW impl_rising.tab4 impl_rising.bits4 (fun HT_ HW_ => ?_)
           generalize w19.drew = w20 at BK473 HB hx475_0 hx475_1 hx475_2 hHeld ⊢
           refine mpt 0 12 HT_.out HW_.out (mb 1 17) hHeld ?_
           refine mone 1 (some 13) HT_.out (mb 2 16) (fun K hK => ?_)
           refine goes_ Try.func99 (by kernel_rfl) rfl #[.agg #[.string ((rd_T87 l0 x7_1).f0), .string ((rd_T87 l0 x7_1).f1), .bool ((rd_T87 l0 x7_1).f2)]] (by rfl) rfl rfl mA ?_
           with_reducible refine (impl_PairOk.calls ((rd_T87 l0 x7_1).f0) ((rd_T87 l0 x7_1).f1) ((rd_T87 l0 x7_1).f2) true _ A5.out).mono ?_
           rintro e w21 ⟨rfl, hb⟩
           refine ⟨_, rfl, ?_⟩
           replace BK473 := mB BK473 hb
           replace HB := mS (below_step (mH1 HB.out GE473.out) hb)
           (try clear hb)
           (try clear hb2)
           (try clear hk)
           (try clear hi)
           refine hK.out _ _ (mb3 BK473.out ⟨(mX HB.out hw475_0 :), ⟨(mX HB.out hw475_1 :), (mX HB.out hw475_2 :)⟩⟩) (fun hHeld => ?_)
           clear hK K
           refine mno 13 ?_
           refine mpu 2 14 HT_.out (mb 3 15) ?_
           refine mpu 3 15 HT_.out (mb 4 14) ?_
           refine mpu 4 16 HT_.out (mb 5 13) ?_
           refine mpu 5 17 HT_.out (mb 6 12) ?_
           refine mpu 6 18 HT_.out (mb 7 11) ?_
           refine mpu 7 19 HT_.out (mb 8 10) ?_
           refine mpu 8 20 HT_.out (mb 9 9) ?_
           refine mpu 9 21 HT_.out (mb 10 8) ?_
           refine mpu 10 22 HT_.out (mb 11 7) ?_
           refine mpu 11 23 HT_.out (mb 12 6) ?_
           refine mpu 13 25 HT_.out (mr [12,1,1,4]) ?_
           refine mpt 12 24 HT_.out HW_.out (mb 14 4) hHeld ?_
           refine mpt 14 26 HT_.out HW_.out (mb 15 3) hHeld ?_
           refine mpu 15 27 HT_.out (mb 16 2) ?_
           refine mpu 16 28 HT_.out (mb 17 1) ?_
           refine mpu 17 29 HT_.out (mb 18 0) ?_
           refine done_ (done_of HT_.out (by kernel_rfl)) ?_
           try go_wp2
           go_ret
           exact ⟨by first | rfl | (simp [errW_none, errW_some] <;> rfl) | (simp only [← hji8]; first | rfl | (simp [errW_none, errW_some] <;> rfl)) | (simp [*, errW_none, errW_some] <;> rfl), (mH1 HB.out GE473.out)⟩
         ·rw [if_neg c10] at H
          exact absurd H (by simp)
        ·rw [if_neg c9] at H
         exact absurd H (by simp)
       ·rw [if_neg c7] at H
        have c7b0 : decide (0 < x7_1) = false := decide_eq_false c7
        clear c7
        have H' := mS H
        clear H
        have p472 : 0 ≤ (x7_1 : Int) := mD
        have q472 : x7_1 < (l0.length : Int) := mD
        obtain ⟨ad472, e472, hx472_0, hx472_1, hx472_2⟩ := at_T87 HR0.out x7_1 p472 q472
        cases e472
        replace hx472_0 := mX HB.out hx472_0
        replace hx472_1 := mX HB.out hx472_1
        replace hx472_2 := mX HB.out hx472_2
        replace p472 := eq_true p472
        replace q472 := eq_true q472
        try go_wp2_with (first | ((with_reducible refine gate_dst (N := 4) rfl ?_); refine mBx 4 #[.string (⟨#[]⟩ : ByteArray), .string (⟨#[]⟩ : ByteArray), .bool false] 87 ?_; intro gb473 hg w22 hbox hb; have BK473 := mS (hbox); have GW473 := mG hg (mH HB.out); have GE473 := mG hg (mH HB.out); replace HB := mS (below_step (mH HB.out) hb); clear hb hbox hg; obtain ⟨hcz23_0, hcz23_1, hcz23_2, hfz23_0, hfz23_1, hfz23_2⟩ := mZ3 BK473.out))
        generalize hW_ : (((w22.setCell ⟨gb473, 0, none⟩ (.string ((rd_T87 l0 x7_1).f0))).setCell ⟨gb473, 1, none⟩ (.string ((rd_T87 l0 x7_1).f1))).setCell ⟨gb473, 2, none⟩ (.bool ((rd_T87 l0 x7_1).f2))) = w24
        replace BK473 : Aside0 (w24.heap[gb473]? = some (.cells #[.string ((rd_T87 l0 x7_1).f0), .string ((rd_T87 l0 x7_1).f1), .bool ((rd_T87 l0 x7_1).f2)] 87 (0, 0))) := by rw [← hW_]; exact ⟨by refine mK ?_; refine blk_put (cs := #[.string ((rd_T87 l0 x7_1).f0), .string ((rd_T87 l0 x7_1).f1), .bool false]) ?_ 2 _ rfl; refine mK ?_; refine blk_put (cs := #[.string ((rd_T87 l0 x7_1).f0), .string (⟨#[]⟩ : ByteArray), .bool false]) ?_ 1 _ rfl; refine mK ?_; refine blk_put (cs := #[.string (⟨#[]⟩ : ByteArray), .string (⟨#[]⟩ : ByteArray), .bool false]) ?_ 0 _ rfl; refine mK ?_; exact BK473.out⟩
        replace HB : Aside0 (Below w.heap.size w w24) := by rw [← hW_]; exact ⟨(mH1 HB.out GE473.out)⟩
        clear hW_
        replace BK473 := mS (blk_drew BK473.out)
        replace HB := mS (below_drew1 HB.out)
        refine start_ (n := 18) (S := fun w' => w'.cell? ⟨gb473, 0, none⟩ = some (.string ((rd_T87 l0 x7_1).f0)) ∧ w'.cell? ⟨gb473, 1, none⟩ = some (.string ((rd_T87 l0 x7_1).f1)) ∧ w'.cell? ⟨gb473, 2, none⟩ = some (.bool ((rd_T87 l0 x7_1).f2))) (ds := []) (mb 0 18) (by kernel_rfl) rfl rfl (mc3 BK473.out) (fun hHeld => ?_); refine with_tabW impl_rising.tab4 impl_rising.bits4 (fun HT_ HW_ => ?_)
        generalize w24.drew = w25 at BK473 HB hHeld ⊢
        refine mpt 0 12 HT_.out HW_.out (mb 1 17) hHeld ?_
        refine mone 1 (some 13) HT_.out (mb 2 16) (fun K hK => ?_)
        refine goes_ Try.func99 (by kernel_rfl) rfl #[.agg #[.string ((rd_T87 l0 x7_1).f0), .string ((rd_T87 l0 x7_1).f1), .bool ((rd_T87 l0 x7_1).f2)]] (by rfl) rfl rfl mA ?_
        with_reducible refine (impl_PairOk.calls ((rd_T87 l0 x7_1).f0) ((rd_T87 l0 x7_1).f1) ((rd_T87 l0 x7_1).f2) true _ A5.out).mono ?_
        rintro e w26 ⟨rfl, hb⟩
        refine ⟨_, rfl, ?_⟩
        replace BK473 := mB BK473 hb
        replace HB := mS (below_step (mH1 HB.out GE473.out) hb)
        (try clear hb)
        (try clear hb2)
        (try clear hk)
        (try clear hi)
        refine hK.out _ _ (mc3 BK473.out) (fun hHeld => ?_)
        clear hK K
        refine mno 13 ?_
        refine mpu 2 14 HT_.out (mb 3 15) ?_
        refine mpu 3 15 HT_.out (mb 4 14) ?_
        refine mpu 4 16 HT_.out (mb 5 13) ?_
        refine mpu 5 17 HT_.out (mb 6 12) ?_
        refine mpu 6 18 HT_.out (mb 7 11) ?_
        refine mpf 7 19 HT_.out (mb 8 10) ?_
        refine mpf 8 20 HT_.out (mb 9 9) ?_
        refine mpf 9 21 HT_.out (mb 10 8) ?_
        refine mpf 10 22 HT_.out (mb 11 7) ?_
        refine mpf 11 23 HT_.out (mb 12 6) ?_
        refine mpf 12 24 HT_.out (mb 13 5) ?_
        refine mpf 13 25 HT_.out (mb 14 4) ?_
        refine mpf 14 26 HT_.out (mb 15 3) ?_
        refine mpf 15 27 HT_.out (mb 16 2) ?_
        refine mpu 16 28 HT_.out (mb 17 1) ?_
        refine mpu 17 29 HT_.out (mb 18 0) ?_
        refine done_ (done_of HT_.out (by kernel_rfl)) ?_
        try go_wp2
        go_roundg k1
        case measure => have := HK1.out; omega
        case rel => exact ⟨(wrap64 (x7_1 + 1)), mE, H', ⟨by have := HK1.out; omega⟩, ⟨(mH1 HB.out GE473.out)⟩⟩
      ·replace c6 := Bool.eq_false_iff.mpr c6
       subst c6
       have H1 := H
       rw [if_neg (show ¬ (false = true) by decide)] at H1
       clear H
       have H := H1
       clear H1
       obtain rfl := Option.some.inj H
       have p472 : 0 ≤ (x7_1 : Int) := mD
       have q472 : x7_1 < (l0.length : Int) := mD
       obtain ⟨ad472, e472, hx472_0, hx472_1, hx472_2⟩ := at_T87 HR0.out x7_1 p472 q472
       cases e472
       replace hx472_0 := mX HB.out hx472_0
       replace hx472_1 := mX HB.out hx472_1
       replace hx472_2 := mX HB.out hx472_2
       replace p472 := eq_true p472
       replace q472 := eq_true q472
       try go_wp2_with (first | ((with_reducible refine gate_dst (N := 4) rfl ?_); refine mBx 4 #[.string (⟨#[]⟩ : ByteArray), .string (⟨#[]⟩ : ByteArray), .bool false] 87 ?_; intro gb473 hg w27 hbox hb; have BK473 := mS (hbox); have GW473 := mG hg (mH HB.out); have GE473 := mG hg (mH HB.out); replace HB := mS (below_step (mH HB.out) hb); clear hb hbox hg; obtain ⟨hcz28_0, hcz28_1, hcz28_2, hfz28_0, hfz28_1, hfz28_2⟩ := mZ3 BK473.out))
       generalize hW_ : (((w27.setCell ⟨gb473, 0, none⟩ (.string ((rd_T87 l0 x7_1).f0))).setCell ⟨gb473, 1, none⟩ (.string ((rd_T87 l0 x7_1).f1))).setCell ⟨gb473, 2, none⟩ (.bool ((rd_T87 l0 x7_1).f2))) = w29
       replace BK473 : Aside0 (w29.heap[gb473]? = some (.cells #[.string ((rd_T87 l0 x7_1).f0), .string ((rd_T87 l0 x7_1).f1), .bool ((rd_T87 l0 x7_1).f2)] 87 (0, 0))) := by rw [← hW_]; exact ⟨by refine mK ?_; refine blk_put (cs := #[.string ((rd_T87 l0 x7_1).f0), .string ((rd_T87 l0 x7_1).f1), .bool false]) ?_ 2 _ rfl; refine mK ?_; refine blk_put (cs := #[.string ((rd_T87 l0 x7_1).f0), .string (⟨#[]⟩ : ByteArray), .bool false]) ?_ 1 _ rfl; refine mK ?_; refine blk_put (cs := #[.string (⟨#[]⟩ : ByteArray), .string (⟨#[]⟩ : ByteArray), .bool false]) ?_ 0 _ rfl; refine mK ?_; exact BK473.out⟩
       replace HB : Aside0 (Below w.heap.size w w29) := by rw [← hW_]; exact ⟨(mH1 HB.out GE473.out)⟩
       clear hW_
       replace BK473 := mS (blk_drew BK473.out)
       replace HB := mS (below_drew1 HB.out)
       refine start_ (n := 18) (S := fun w' => w'.cell? ⟨gb473, 0, none⟩ = some (.string ((rd_T87 l0 x7_1).f0)) ∧ w'.cell? ⟨gb473, 1, none⟩ = some (.string ((rd_T87 l0 x7_1).f1)) ∧ w'.cell? ⟨gb473, 2, none⟩ = some (.bool ((rd_T87 l0 x7_1).f2))) (ds := []) (mb 0 18) (by kernel_rfl) rfl rfl (mc3 BK473.out) (fun hHeld => ?_); refine with_tabW impl_rising.tab4 impl_rising.bits4 (fun HT_ HW_ => ?_)
       generalize w29.drew = w30 at BK473 HB hHeld ⊢
       refine mpt 0 12 HT_.out HW_.out (mb 1 17) hHeld ?_
       refine mone 1 (some 13) HT_.out (mb 2 16) (fun K hK => ?_)
       refine goes_ Try.func99 (by kernel_rfl) rfl #[.agg #[.string ((rd_T87 l0 x7_1).f0), .string ((rd_T87 l0 x7_1).f1), .bool ((rd_T87 l0 x7_1).f2)]] (by rfl) rfl rfl mA ?_
       with_reducible refine (impl_PairOk.calls ((rd_T87 l0 x7_1).f0) ((rd_T87 l0 x7_1).f1) ((rd_T87 l0 x7_1).f2) false _ A5.out).mono ?_
       rintro e w31 ⟨rfl, hb⟩
       refine ⟨_, rfl, ?_⟩
       replace BK473 := mB BK473 hb
       replace HB := mS (below_step (mH1 HB.out GE473.out) hb)
       (try clear hb)
       (try clear hb2)
       (try clear hk)
       (try clear hi)
       refine hK.out _ _ (mc3 BK473.out) (fun hHeld => ?_)
       clear hK K
       refine mno 13 ?_
       refine mpu 2 14 HT_.out (mb 3 15) ?_
       refine mpu 3 15 HT_.out (mb 4 14) ?_
       refine mpf 4 16 HT_.out (mb 5 13) ?_
       refine mpf 5 17 HT_.out (mb 6 12) ?_
       refine mpf 6 18 HT_.out (mb 7 11) ?_
       refine mpf 7 19 HT_.out (mb 8 10) ?_
       refine mpf 8 20 HT_.out (mb 9 9) ?_
       refine mpf 9 21 HT_.out (mb 10 8) ?_
       refine mpf 10 22 HT_.out (mb 11 7) ?_
       refine mpf 11 23 HT_.out (mb 12 6) ?_
       refine mpf 12 24 HT_.out (mb 13 5) ?_
       refine mpf 13 25 HT_.out (mb 14 4) ?_
       refine mpf 14 26 HT_.out (mb 15 3) ?_
       refine mpf 15 27 HT_.out (mb 16 2) ?_
       refine mpf 16 28 HT_.out (mb 17 1) ?_
       refine mpu 17 29 HT_.out (mb 18 0) ?_
       refine done_ (done_of HT_.out (by kernel_rfl)) ?_
       try go_wp2
       go_ret
       exact ⟨mEw, (mH1 HB.out GE473.out)⟩
     ·rw [if_neg c4] at H
      exact absurd H (by simp)
    ·rw [if_neg c3] at H
     exact absurd H (by simp)
   ·rw [if_neg c2] at H
    have c2b0 := decide_eq_false c2
    clear c2
    obtain rfl := Option.some.inj H
    go_wp2
    go_ret
    exact ⟨mEw, (mH HB.out)⟩

end Go.Proofs.Ytecjamgajlpfdaa.MFnExactTablePairs
