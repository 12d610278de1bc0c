-- Written by mp.py, this session's own printer (wip/mp.py).
import Derived.Test.YtecjamgajlpfdaaVMShort
import Derived.Test.YtecjamgajlpfdaaMFnExactGraphPutx0
import Derived.Test.YtecjamgajlpfdaaMFnExactGraphPutx1
import Derived.Test.YtecjamgajlpfdaaMFnExactGraphPutx7
import Derived.Test.YtecjamgajlpfdaaMFnExactGraphPutx8
namespace Go.Proofs.Ytecjamgajlpfdaa.MFnExactGraphPut
open Go.RowKit Go.Proofs.YtecjamgajlpfdaaW.PrintWords Go.Proofs.YtecjamgajlpfdaaW.PrintLast Go.Proofs.YtecjamgajlpfdaaW.PrintMore Go.Proofs.Ytecjamgajlpfdaa.MWords
attribute [local go_sem] max2_int min2_int max_two min_two max_three min_three max_four min_four   -- for this text's walks alone
set_option linter.unusedVariables false
set_option linter.unusedSimpArgs false

attribute [local go_sem high] eqA56
/-! ### impl_depsOk: function 93 -/
def impl_depsOk.l0 : Nat → List (S56) → List (S56) → Int → Int → Int → Int → Option (Bool)
 | 0, _, _, _, _, _, _ => none
 | k + 1, x1, x7, x8, x9, x255000, x255001 => if x9 < x8 then (if 0 ≤ x9 then (if x9 < (x7.length : Int) then ((impl_DotOk.f ((rd_T56 x7 x9).f0) ((rd_T56 x7 x9).f1)).bind fun t257 => (if t257 = true then (if (((rd_T56 x7 x9).f0) == x255000 && (((rd_T56 x7 x9).f1) == x255001)) = true then (some false) else (if x9 > 0 then (if 0 ≤ (wrap64 (x9 - 1)) then (if (wrap64 (x9 - 1)) < (x1.length : Int) then ((impl_DotLess.f ((rd_T56 x1 (wrap64 (x9 - 1))).f0) ((rd_T56 x1 (wrap64 (x9 - 1))).f1) ((rd_T56 x7 x9).f0) ((rd_T56 x7 x9).f1)).bind fun t259 => (if t259 = true then (impl_depsOk.l0 k x1 x7 x8 (wrap64 (x9 + 1)) x255000 x255001) else (some false))) else (none)) else (none)) else (impl_depsOk.l0 k x1 x7 x8 (wrap64 (x9 + 1)) x255000 x255001))) else (some false))) else (none)) else (none)) else (some (decide ((x1.length : Int) ≤ 60)))
def impl_depsOk.f (k : Nat) (a0_0 : Int) (a0_1 : Int) (l1 : List (S56)) : Option (Bool) := impl_depsOk.l0 k l1 l1 (l1.length : Int) 0 a0_0 a0_1
theorem impl_depsOk.mono_l : ∀ k, (∀ y0 y1 y2 y3 y4 y5, LeO (impl_depsOk.l0 k y0 y1 y2 y3 y4 y5) (impl_depsOk.l0 (k + 1) y0 y1 y2 y3 y4 y5))
 | 0 => fun _ _ _ _ _ _ r h => by simp [impl_depsOk.l0] at h
 | k + 1 => by
  have ih0 := impl_depsOk.mono_l k
  ·intro y0 y1 y2 y3 y4 y5
   unfold impl_depsOk.l0
   repeat' first
   | (with_reducible exact ih0 _ _ _ _ _ _)
   | (with_reducible exact LeO.refl _)
   | (with_reducible exact LeO.none _)
   | (with_reducible refine LeO.ite ?_ ?_)
   | (with_reducible refine LeO.bind ?_ (fun _ => ?_))
   | exact ih0 _ _ _ _ _ _
   | exact LeO.none _
   | refine LeO.ite ?_ ?_
   | refine LeO.bind ?_ (fun _ => ?_)
theorem impl_depsOk.mono : ∀ a0 a1 a2 k, LeO (impl_depsOk.f k a0 a1 a2) (impl_depsOk.f (k + 1) a0 a1 a2) := by
 intro a0 a1 a2 k
 have ih0 := impl_depsOk.mono_l k
 unfold impl_depsOk.f
 repeat' first
   | (with_reducible exact ih0 _ _ _ _ _ _)
   | (with_reducible exact LeO.refl _)
   | (with_reducible exact LeO.none _)
   | (with_reducible refine LeO.ite ?_ ?_)
   | (with_reducible refine LeO.bind ?_ (fun _ => ?_))
   | exact ih0 _ _ _ _ _ _
   | exact LeO.none _
   | refine LeO.ite ?_ ?_
   | refine LeO.bind ?_ (fun _ => ?_)
def impl_depsOk.T4 : Bool × List (List Nat × List Nat) := (true, [([], []), ([0], [0]), ([1], [1]), ([2, 1], [2]), ([3], [3]), ([3], [3]), ([4, 5, 3], [3, 4, 5]), ([3, 6], [3, 6]), ([7, 3], [7]), ([8], [8]), ([9, 8], [8, 9]), ([10, 8, 8], [8, 10]), ([11], [11]), ([11], [11]), ([13, 11], [11, 13]), ([12, 14, 11], [11, 12, 14]), ([15, 11], [11, 15]), ([11], [11]), ([16, 17, 11, 11], [11, 16, 17]), ([18, 11], [11, 18]), ([11, 19, 8], [8, 11, 19]), ([8, 20], [8, 20])])
def impl_depsOk.B4 : List Nat := [0, 1, 3, 7, 15, 15, 63, 127, 255, 511, 1023, 2047, 4095, 4095, 12287, 32767, 65535, 4095, 262143, 524287, 1048575, 2097151]
theorem impl_depsOk.tab4 : rtab .any (opsOf Try.f93 4) = impl_depsOk.T4 := by kernel_rfl
theorem impl_depsOk.bits4 : waitsOk impl_depsOk.T4.2 impl_depsOk.B4 = true := by kernel_rfl
set_option maxHeartbeats 8000000 in
set_option maxRecDepth 100000 in
theorem impl_depsOk.calls (k : Nat) (a0_0 : Int) (a0_1 : Int) (A1 : Option Addr) (c1 : Nat) (l1 : List (S56)) (r : Bool) (w : World) (hr1 : Kd.C k56 w A1 l1.length l1) (hc1 : l1.length ≤ c1) (h : impl_depsOk.f k a0_0 a0_1 l1 = some r) :
  Calls Try.prog 93 #[.agg #[.int .i64 a0_0, .int .i64 a0_1], .slice A1 l1.length c1] w fun e w' => e = .returned (.bool r) ∧ Below w.heap.size w w' := by
 have hu56 := Try.underlying56
 have HR1 := mS hr1
 have HC1 := mS hc1
 clear hr1 hc1
 have HB := mS (Below.refl w.heap.size w)
 have H : (impl_depsOk.l0 k l1 l1 (l1.length : Int) 0 a0_0 a0_1) = some r := h
 clear h
 have H' := mS H
 clear H
 go_enter Try.func93, Try.ntmps93
 go_wp2_with (first | ((with_reducible refine gate_dst (N := 2) rfl ?_); refine mBx 2 #[.int .i64 a0_0, .int .i64 a0_1] 56 ?_; intro gb254 hg w3 hbox hb; have BK254 := mS (hbox); have GW254 := mG hg (mH HB.out); have GE254 := mG hg (mH HB.out); replace HB := mS (below_step (mH HB.out) hb); clear hb hbox hg))
 go_loopg [9] k (fun kq v9 w' => ∃ (x9_1 : Int), v9 = .int .i64 x9_1 ∧ Aside0 (impl_depsOk.l0 kq l1 l1 (l1.length : Int) x9_1 a0_0 a0_1 = some r) ∧ Aside0 (kq ≤ k) ∧ Aside0 (w'.heap[gb254]? = some (.cells #[.int .i64 a0_0, .int .i64 a0_1] 56 (0, 0))) ∧ Aside0 (Below w.heap.size w w'))
 case atStart => exact ⟨(0), mE, H', ⟨Nat.le_refl _⟩, ⟨mK BK254.out⟩, ⟨(mH1 HB.out GE254.out)⟩⟩
 case round =>
  clear H'
  try clear c1
  try clear p2
  obtain ⟨x9_1, rfl, HA, HK1, BK254, HB⟩ := hrel
  cases gk with
  | zero => exact absurd HA.out (by simp [impl_depsOk.l0])
  | succ k1 =>
   have H := HA.out
   clear HA
   simp only [impl_depsOk.l0] at H
   by_cases c4 : x9_1 < (l1.length : Int)
   ·rw [if_pos c4] at H
    have c4b0 := decide_eq_true c4
    clear c4
    by_cases c5 : 0 ≤ x9_1
    ·rw [if_pos c5] at H
     have c5b0 := decide_eq_true c5
     clear c5
     by_cases c6 : x9_1 < (l1.length : Int)
     ·rw [if_pos c6] at H
      have c6b0 := decide_eq_true c6
      clear c6
      replace H := Option.bind_eq_some_iff.mp H
      obtain ⟨t257, A70, H⟩ := H
      replace H : (if t257 = true then (if (((rd_T56 l1 x9_1).f0) == a0_0 && (((rd_T56 l1 x9_1).f1) == a0_1)) = true then (some false) else (if x9_1 > 0 then (if 0 ≤ (wrap64 (x9_1 - 1)) then (if (wrap64 (x9_1 - 1)) < (l1.length : Int) then ((impl_DotLess.f ((rd_T56 l1 (wrap64 (x9_1 - 1))).f0) ((rd_T56 l1 (wrap64 (x9_1 - 1))).f1) ((rd_T56 l1 x9_1).f0) ((rd_T56 l1 x9_1).f1)).bind fun t259 => (if t259 = true then (impl_depsOk.l0 k1 l1 l1 (l1.length : Int) (wrap64 (x9_1 + 1)) a0_0 a0_1) else (some false))) else (none)) else (none)) else (impl_depsOk.l0 k1 l1 l1 (l1.length : Int) (wrap64 (x9_1 + 1)) a0_0 a0_1))) else (some false)) = some r := H
      have A7 := mS A70
      clear A70
      by_cases c8 : t257 = true
      ·subst c8
       have H1 := H
       rw [if_pos rfl] at H1
       clear H
       have H := H1
       clear H1
       by_cases c9 : (((rd_T56 l1 x9_1).f0) == a0_0 && (((rd_T56 l1 x9_1).f1) == a0_1)) = true
       ·rw [if_pos c9] at H
        have c9b0 : (((rd_T56 l1 x9_1).f0) == a0_0 && (((rd_T56 l1 x9_1).f1) == a0_1)) = true := c9
        (try (have c9b1 : decide (((rd_T56 l1 x9_1).f0) = a0_0 && (((rd_T56 l1 x9_1).f1) == a0_1)) = true := by simpa using c9))
        (try (have c9b2 : (((rd_T56 l1 x9_1).f0) == a0_0 && (((rd_T56 l1 x9_1).f1) == a0_1)) = true := by simpa using c9))
        clear c9
        obtain rfl := Option.some.inj H
        have p255 : 0 ≤ (x9_1 : Int) := mD
        have q255 : x9_1 < (l1.length : Int) := mD
        obtain ⟨ad255, e255, hx255_0, hx255_1⟩ := at_T56 HR1.out x9_1 p255 q255
        cases e255
        replace hx255_0 := mX HB.out hx255_0
        replace hx255_1 := mX HB.out hx255_1
        replace p255 := eq_true p255
        replace q255 := eq_true q255
        try go_wp2_with (first | ((with_reducible refine gate_dst (N := 6) rfl ?_); refine mBx 6 #[.int .i64 0, .int .i64 0] 56 ?_; intro gb256 hg w10 hbox hb; have BK256 := mS (hbox); have GW256 := mG hg (mH1 HB.out GE254.out); have GE256 := mG hg (mH1 HB.out GE254.out); replace HB := mS (below_step (mH1 HB.out GE254.out) hb); have NB254_256 := mNl hg BK254.out; have NB256_254 := mNg hg BK254.out; replace BK254 := mB BK254 hb; clear hb hbox hg; have hnb11 := NB256_254.out; have hnc11 := NB254_256.out; obtain ⟨hcz12_0, hcz12_1, hfz12_0, hfz12_1⟩ := mZ2 BK256.out))
        generalize hW_ : ((w10.setCell ⟨gb256, 0, none⟩ (.int .i64 ((rd_T56 l1 x9_1).f0))).setCell ⟨gb256, 1, none⟩ (.int .i64 ((rd_T56 l1 x9_1).f1))) = w13
        replace BK254 : Aside0 (w13.heap[gb254]? = some (.cells #[.int .i64 a0_0, .int .i64 a0_1] 56 (0, 0))) := by rw [← hW_]; exact ⟨mKf NB254_256.out BK254.out⟩
        replace BK256 : Aside0 (w13.heap[gb256]? = some (.cells #[.int .i64 ((rd_T56 l1 x9_1).f0), .int .i64 ((rd_T56 l1 x9_1).f1)] 56 (0, 0))) := by rw [← hW_]; exact ⟨by refine mK ?_; refine blk_put (cs := #[.int .i64 ((rd_T56 l1 x9_1).f0), .int .i64 0]) ?_ 1 _ rfl; refine mK ?_; refine blk_put (cs := #[.int .i64 0, .int .i64 0]) ?_ 0 _ rfl; refine mK ?_; exact BK256.out⟩
        replace HB : Aside0 (Below w.heap.size w w13) := by rw [← hW_]; exact ⟨(mH2 HB.out GE254.out GE256.out)⟩
        clear hW_
        replace BK254 := mS (blk_drew BK254.out)
        replace BK256 := mS (blk_drew BK256.out)
        replace HB := mS (below_drew1 HB.out)
        refine start_ (n := 22) (S := fun w' => w'.cell? ⟨gb256, 0, none⟩ = some (.int .i64 ((rd_T56 l1 x9_1).f0)) ∧ w'.cell? ⟨gb256, 1, none⟩ = some (.int .i64 ((rd_T56 l1 x9_1).f1)) ∧ w'.cell? ⟨gb254, 0, none⟩ = some (.int .i64 a0_0) ∧ w'.cell? ⟨gb254, 1, none⟩ = some (.int .i64 a0_1)) (ds := []) (mb 0 22) (by kernel_rfl) rfl rfl (mb2 BK256.out (mc2 BK254.out)) (fun hHeld => ?_); refine with_tabW impl_depsOk.tab4 impl_depsOk.bits4 (fun HT_ HW_ => ?_)
        generalize w13.drew = w14 at BK254 BK256 HB hHeld ⊢
        refine mpt 0 14 HT_.out HW_.out (mb 1 21) hHeld ?_
        refine mone 1 (some 15) HT_.out (mb 2 20) (fun K hK => ?_)
        refine goes_ Try.func92 (by kernel_rfl) rfl #[.agg #[.int .i64 ((rd_T56 l1 x9_1).f0), .int .i64 ((rd_T56 l1 x9_1).f1)]] (by rfl) rfl rfl mA ?_
        with_reducible refine (impl_DotOk.calls ((rd_T56 l1 x9_1).f0) ((rd_T56 l1 x9_1).f1) true _ A7.out).mono ?_
        rintro e w15 ⟨rfl, hb⟩
        refine ⟨_, rfl, ?_⟩
        replace BK254 := mB BK254 hb
        replace BK256 := mB BK256 hb
        replace HB := mS (below_step (mH2 HB.out GE254.out GE256.out) hb)
        (try clear hb)
        (try clear hb2)
        (try clear hk)
        (try clear hi)
        refine hK.out _ _ (mb2 BK256.out (mc2 BK254.out)) (fun hHeld => ?_)
        clear hK K
        refine mno 15 ?_
        refine mpu 2 16 HT_.out (mb 3 19) ?_
        refine mpu 3 17 HT_.out (mb 4 18) ?_
        refine mpt 4 18 HT_.out HW_.out (mb 5 17) hHeld ?_
        refine mpt 5 19 HT_.out HW_.out (mb 6 16) hHeld ?_
        refine mpu 6 20 HT_.out (mb 7 15) ?_
        refine mpu 7 21 HT_.out (mb 8 14) ?_
        refine mpu 8 22 HT_.out (mb 9 13) ?_
        refine mpf 9 23 HT_.out (mb 10 12) ?_
        refine mpf 10 24 HT_.out (mb 11 11) ?_
        refine mpf 11 25 HT_.out (mb 12 10) ?_
        refine mpf 12 26 HT_.out (mb 13 9) ?_
        refine mpf 13 27 HT_.out (mb 14 8) ?_
        refine mpf 14 28 HT_.out (mb 15 7) ?_
        refine mpf 15 29 HT_.out (mb 16 6) ?_
        refine mpf 16 30 HT_.out (mb 17 5) ?_
        refine mpf 17 31 HT_.out (mb 18 4) ?_
        refine mpf 18 32 HT_.out (mb 19 3) ?_
        refine mpf 19 33 HT_.out (mb 20 2) ?_
        refine mpf 20 34 HT_.out (mb 21 1) ?_
        refine mpu 21 35 HT_.out (mb 22 0) ?_
        refine done_ (done_of HT_.out (by kernel_rfl)) ?_
        try go_wp2
        go_ret
        exact ⟨mEw, (mH2 HB.out GE254.out GE256.out)⟩
       ·rw [if_neg c9] at H
        have c9b0 : (((rd_T56 l1 x9_1).f0) == a0_0 && (((rd_T56 l1 x9_1).f1) == a0_1)) = false := by simpa using c9
        (try (have c9b1 : decide (((rd_T56 l1 x9_1).f0) = a0_0 && (((rd_T56 l1 x9_1).f1) == a0_1)) = false := by simpa using c9))
        (try (have c9b2 : (((rd_T56 l1 x9_1).f0) == a0_0 && (((rd_T56 l1 x9_1).f1) == a0_1)) = false := by simpa using c9))
        (try (have c9b3 : ¬ (((rd_T56 l1 x9_1).f0) = a0_0 && (((rd_T56 l1 x9_1).f1) == a0_1)) := by simpa using c9))
        clear c9
        by_cases c16 : x9_1 > 0
        ·rw [if_pos c16] at H
         have c16b0 : decide (0 < x9_1) = true := decide_eq_true c16
         clear c16
         obtain ⟨ji17, hji17⟩ : ∃ j_ : Int, (wrap64 (x9_1 - 1)) = j_ := ⟨_, rfl⟩
         replace H : (if 0 ≤ (ji17) then (if (ji17) < (l1.length : Int) then ((impl_DotLess.f ((rd_T56 l1 (ji17)).f0) ((rd_T56 l1 (ji17)).f1) ((rd_T56 l1 x9_1).f0) ((rd_T56 l1 x9_1).f1)).bind fun t259 => (if t259 = true then (impl_depsOk.l0 k1 l1 l1 (l1.length : Int) (wrap64 (x9_1 + 1)) a0_0 a0_1) else (some false))) else (none)) else (none)) = some r := by first | (rw [hji17] at H; exact H) | (simp only [hji17] at H ⊢; exact H)
         (try rw [hji17] at A7)
         have hji17w : (IntKind.i64.wrap (x9_1 - 1)) = ji17 := (i64_w _).trans hji17
         by_cases c18 : 0 ≤ (ji17)
         ·rw [if_pos c18] at H
          have c18b0 := decide_eq_true c18
          clear c18
          by_cases c19 : (ji17) < (l1.length : Int)
          ·rw [if_pos c19] at H
           have c19b0 := decide_eq_true c19
           clear c19
           replace H := Option.bind_eq_some_iff.mp H
           obtain ⟨t259, A200, H⟩ := H
           replace H : (if t259 = true then (impl_depsOk.l0 k1 l1 l1 (l1.length : Int) (wrap64 (x9_1 + 1)) a0_0 a0_1) else (some false)) = some r := H
           have A20 := mS A200
           clear A200
           by_cases c21 : t259 = true
           ·subst c21
            have H1 := H
            rw [if_pos rfl] at H1
            clear H
            have H := H1
            clear H1
            have H' := mS H
            clear H
            have p255 : 0 ≤ (x9_1 : Int) := mD
            have q255 : x9_1 < (l1.length : Int) := mD
            obtain ⟨ad255, e255, hx255_0, hx255_1⟩ := at_T56 HR1.out x9_1 p255 q255
            cases e255
            replace hx255_0 := mX HB.out hx255_0
            replace hx255_1 := mX HB.out hx255_1
            replace p255 := eq_true p255
            replace q255 := eq_true q255
            try go_wp2_with (first | ((with_reducible refine gate_dst (N := 6) rfl ?_); refine mBx 6 #[.int .i64 0, .int .i64 0] 56 ?_; intro gb256 hg w22 hbox hb; have BK256 := mS (hbox); have GW256 := mG hg (mH1 HB.out GE254.out); have GE256 := mG hg (mH1 HB.out GE254.out); replace HB := mS (below_step (mH1 HB.out GE254.out) hb); have NB254_256 := mNl hg BK254.out; have NB256_254 := mNg hg BK254.out; replace BK254 := mB BK254 hb; clear hb hbox hg; have hnb23 := NB256_254.out; have hnc23 := NB254_256.out; obtain ⟨hcz24_0, hcz24_1, hfz24_0, hfz24_1⟩ := mZ2 BK256.out))
            generalize hW_ : ((w22.setCell ⟨gb256, 0, none⟩ (.int .i64 ((rd_T56 l1 x9_1).f0))).setCell ⟨gb256, 1, none⟩ (.int .i64 ((rd_T56 l1 x9_1).f1))) = w25
            replace BK254 : Aside0 (w25.heap[gb254]? = some (.cells #[.int .i64 a0_0, .int .i64 a0_1] 56 (0, 0))) := by rw [← hW_]; exact ⟨mKf NB254_256.out BK254.out⟩
            replace BK256 : Aside0 (w25.heap[gb256]? = some (.cells #[.int .i64 ((rd_T56 l1 x9_1).f0), .int .i64 ((rd_T56 l1 x9_1).f1)] 56 (0, 0))) := by rw [← hW_]; exact ⟨by refine mK ?_; refine blk_put (cs := #[.int .i64 ((rd_T56 l1 x9_1).f0), .int .i64 0]) ?_ 1 _ rfl; refine mK ?_; refine blk_put (cs := #[.int .i64 0, .int .i64 0]) ?_ 0 _ rfl; refine mK ?_; exact BK256.out⟩
            replace HB : Aside0 (Below w.heap.size w w25) := by rw [← hW_]; exact ⟨(mH2 HB.out GE254.out GE256.out)⟩
            clear hW_
            replace BK254 := mS (blk_drew BK254.out)
            replace BK256 := mS (blk_drew BK256.out)
            replace HB := mS (below_drew1 HB.out)
            have p258 : 0 ≤ ((ji17) : Int) := mD
            have q258 : (ji17) < (l1.length : Int) := mD
            obtain ⟨ad258, e258, hx258_0, hx258_1⟩ := at_T56 HR1.out (ji17) p258 q258
            have hw258_1 := hx258_1
            have hw258_0 := hx258_0
            obtain rfl : ad255 = ad258 := (by injection e258)
            replace hx258_0 := mX HB.out hx258_0
            replace hx258_1 := mX HB.out hx258_1
            replace p258 := eq_true p258
            replace q258 := eq_true q258
            refine start_ (n := 22) (S := fun w' => w'.cell? ⟨gb256, 0, none⟩ = some (.int .i64 ((rd_T56 l1 x9_1).f0)) ∧ w'.cell? ⟨gb256, 1, none⟩ = some (.int .i64 ((rd_T56 l1 x9_1).f1)) ∧ w'.cell? ⟨gb254, 0, none⟩ = some (.int .i64 a0_0) ∧ w'.cell? ⟨gb254, 1, none⟩ = some (.int .i64 a0_1) ∧ w'.cell? (ad255.add (((ji17)).toNat * 2)) = some (.int .i64 ((rd_T56 l1 (ji17)).f0)) ∧ w'.cell? ⟨(ad255.add (((ji17)).toNat * 2)).block, (ad255.add (((ji17)).toNat * 2)).off + 1, none⟩ = some (.int .i64 ((rd_T56 l1 (ji17)).f1))) (ds := []) (mb 0 22) (by kernel_rfl) rfl rfl (mb2 BK256.out (mb2 BK254.out ⟨(mX HB.out hw258_0 :), (mX HB.out hw258_1 :)⟩)) (fun hHeld => ?_); refine with_tabW impl_depsOk.tab4 impl_depsOk.bits4 (fun HT_ HW_ => ?_)
            generalize w25.drew = w26 at BK254 BK256 HB hx258_0 hx258_1 hHeld ⊢
            refine mpt 0 14 HT_.out HW_.out (mb 1 21) hHeld ?_
            refine mone 1 (some 15) HT_.out (mb 2 20) (fun K hK => ?_)
            refine goes_ Try.func92 (by kernel_rfl) rfl #[.agg #[.int .i64 ((rd_T56 l1 x9_1).f0), .int .i64 ((rd_T56 l1 x9_1).f1)]] (by rfl) rfl rfl mA ?_
            with_reducible refine (impl_DotOk.calls ((rd_T56 l1 x9_1).f0) ((rd_T56 l1 x9_1).f1) true _ A7.out).mono ?_
            rintro e w27 ⟨rfl, hb⟩
            refine ⟨_, rfl, ?_⟩
            replace BK254 := mB BK254 hb
            replace BK256 := mB BK256 hb
            replace HB := mS (below_step (mH2 HB.out GE254.out GE256.out) hb)
            (try clear hb)
            (try clear hb2)
            (try clear hk)
            (try clear hi)
            refine hK.out _ _ (mb2 BK256.out (mb2 BK254.out ⟨(mX HB.out hw258_0 :), (mX HB.out hw258_1 :)⟩)) (fun hHeld => ?_)
            clear hK K
            refine mno 15 ?_
            refine mpu 2 16 HT_.out (mb 3 19) ?_
            refine mpu 3 17 HT_.out (mb 4 18) ?_
            refine mpt 4 18 HT_.out HW_.out (mb 5 17) hHeld ?_
            refine mpt 5 19 HT_.out HW_.out (mb 6 16) hHeld ?_
            refine mpu 6 20 HT_.out (mb 7 15) ?_
            refine mpu 7 21 HT_.out (mb 8 14) ?_
            refine mpu 8 22 HT_.out (mb 9 13) ?_
            refine mpu 9 23 HT_.out (mb 10 12) ?_
            refine mpu 10 24 HT_.out (mb 11 11) ?_
            refine mpu 11 25 HT_.out (mb 12 10) ?_
            refine mpu 12 26 HT_.out (mb 13 9) ?_
            refine mpu 13 27 HT_.out (mb 14 8) ?_
            refine mpu 14 28 HT_.out (mb 15 7) ?_
            refine mpu 15 29 HT_.out (mb 16 6) ?_
            refine mpt 16 30 HT_.out HW_.out (mb 17 5) hHeld ?_
            refine mpt 17 31 HT_.out HW_.out (mb 18 4) hHeld ?_
            refine mone 18 (some 32) HT_.out (mb 19 3) (fun K hK => ?_)
            refine goes_ Try.func61 (by kernel_rfl) rfl #[.agg #[.int .i64 ((rd_T56 l1 (ji17)).f0), .int .i64 ((rd_T56 l1 (ji17)).f1)], .agg #[.int .i64 ((rd_T56 l1 x9_1).f0), .int .i64 ((rd_T56 l1 x9_1).f1)]] (by rfl) rfl rfl (by (try simp only [List.map_toArray, List.map_cons, List.map_nil]); first | done | (simp only [hji17]; rfl) | rfl | (simp only [List.length_drop, List.length_take]; rfl)) ?_
            with_reducible refine (impl_DotLess.calls ((rd_T56 l1 (ji17)).f0) ((rd_T56 l1 (ji17)).f1) ((rd_T56 l1 x9_1).f0) ((rd_T56 l1 x9_1).f1) true _ A20.out).mono ?_
            rintro e w28 ⟨rfl, hb⟩
            refine ⟨_, rfl, ?_⟩
            replace BK254 := mB BK254 hb
            replace BK256 := mB BK256 hb
            replace HB := mS (below_step (mH2 HB.out GE254.out GE256.out) hb)
            (try clear hb)
            (try clear hb2)
            (try clear hk)
            (try clear hi)
            refine hK.out _ _ (mb2 BK256.out (mb2 BK254.out ⟨(mX HB.out hw258_0 :), (mX HB.out hw258_1 :)⟩)) (fun hHeld => ?_)
            clear hK K
            refine mno 32 ?_
            refine mpu 19 33 HT_.out (mb 20 2) ?_
            refine mpu 20 34 HT_.out (mb 21 1) ?_
            refine mpu 21 35 HT_.out (mb 22 0) ?_
            refine done_ (done_of HT_.out (by kernel_rfl)) ?_
            try go_wp2
            go_roundg k1
            case measure => have := HK1.out; omega
            case rel => exact ⟨(wrap64 (x9_1 + 1)), mE, H', ⟨by have := HK1.out; omega⟩, ⟨mK BK254.out⟩, ⟨(mH2 HB.out GE254.out GE256.out)⟩⟩
           ·replace c21 := Bool.eq_false_iff.mpr c21
            subst c21
            have H1 := H
            rw [if_neg (show ¬ (false = true) by decide)] at H1
            clear H
            have H := H1
            clear H1
            obtain rfl := Option.some.inj H
            have p255 : 0 ≤ (x9_1 : Int) := mD
            have q255 : x9_1 < (l1.length : Int) := mD
            obtain ⟨ad255, e255, hx255_0, hx255_1⟩ := at_T56 HR1.out x9_1 p255 q255
            cases e255
            replace hx255_0 := mX HB.out hx255_0
            replace hx255_1 := mX HB.out hx255_1
            replace p255 := eq_true p255
            replace q255 := eq_true q255
            try go_wp2_with (first | ((with_reducible refine gate_dst (N := 6) rfl ?_); refine mBx 6 #[.int .i64 0, .int .i64 0] 56 ?_; intro gb256 hg w29 hbox hb; have BK256 := mS (hbox); have GW256 := mG hg (mH1 HB.out GE254.out); have GE256 := mG hg (mH1 HB.out GE254.out); replace HB := mS (below_step (mH1 HB.out GE254.out) hb); have NB254_256 := mNl hg BK254.out; have NB256_254 := mNg hg BK254.out; replace BK254 := mB BK254 hb; clear hb hbox hg; have hnb30 := NB256_254.out; have hnc30 := NB254_256.out; obtain ⟨hcz31_0, hcz31_1, hfz31_0, hfz31_1⟩ := mZ2 BK256.out))
            generalize hW_ : ((w29.setCell ⟨gb256, 0, none⟩ (.int .i64 ((rd_T56 l1 x9_1).f0))).setCell ⟨gb256, 1, none⟩ (.int .i64 ((rd_T56 l1 x9_1).f1))) = w32
            replace BK254 : Aside0 (w32.heap[gb254]? = some (.cells #[.int .i64 a0_0, .int .i64 a0_1] 56 (0, 0))) := by rw [← hW_]; exact ⟨mKf NB254_256.out BK254.out⟩
            replace BK256 : Aside0 (w32.heap[gb256]? = some (.cells #[.int .i64 ((rd_T56 l1 x9_1).f0), .int .i64 ((rd_T56 l1 x9_1).f1)] 56 (0, 0))) := by rw [← hW_]; exact ⟨by refine mK ?_; refine blk_put (cs := #[.int .i64 ((rd_T56 l1 x9_1).f0), .int .i64 0]) ?_ 1 _ rfl; refine mK ?_; refine blk_put (cs := #[.int .i64 0, .int .i64 0]) ?_ 0 _ rfl; refine mK ?_; exact BK256.out⟩
            replace HB : Aside0 (Below w.heap.size w w32) := by rw [← hW_]; exact ⟨(mH2 HB.out GE254.out GE256.out)⟩
            clear hW_
            replace BK254 := mS (blk_drew BK254.out)
            replace BK256 := mS (blk_drew BK256.out)
            replace HB := mS (below_drew1 HB.out)
            have p258 : 0 ≤ ((ji17) : Int) := mD
            have q258 : (ji17) < (l1.length : Int) := mD
            obtain ⟨ad258, e258, hx258_0, hx258_1⟩ := at_T56 HR1.out (ji17) p258 q258
            have hw258_1 := hx258_1
            have hw258_0 := hx258_0
            obtain rfl : ad255 = ad258 := (by injection e258)
            replace hx258_0 := mX HB.out hx258_0
            replace hx258_1 := mX HB.out hx258_1
            replace p258 := eq_true p258
            replace q258 := eq_true q258
            refine start_ (n := 22) (S := fun w' => w'.cell? ⟨gb256, 0, none⟩ = some (.int .i64 ((rd_T56 l1 x9_1).f0)) ∧ w'.cell? ⟨gb256, 1, none⟩ = some (.int .i64 ((rd_T56 l1 x9_1).f1)) ∧ w'.cell? ⟨gb254, 0, none⟩ = some (.int .i64 a0_0) ∧ w'.cell? ⟨gb254, 1, none⟩ = some (.int .i64 a0_1) ∧ w'.cell? (ad255.add (((ji17)).toNat * 2)) = some (.int .i64 ((rd_T56 l1 (ji17)).f0)) ∧ w'.cell? ⟨(ad255.add (((ji17)).toNat * 2)).block, (ad255.add (((ji17)).toNat * 2)).off + 1, none⟩ = some (.int .i64 ((rd_T56 l1 (ji17)).f1))) (ds := []) (mb 0 22) (by kernel_rfl) rfl rfl (mb2 BK256.out (mb2 BK254.out ⟨(mX HB.out hw258_0 :), (mX HB.out hw258_1 :)⟩)) (fun hHeld => ?_); refine with_tabW impl_depsOk.tab4 impl_depsOk.bits4 (fun HT_ HW_ => ?_)
            generalize w32.drew = w33 at BK254 BK256 HB hx258_0 hx258_1 hHeld ⊢
            refine mpt 0 14 HT_.out HW_.out (mb 1 21) hHeld ?_
            refine mone 1 (some 15) HT_.out (mb 2 20) (fun K hK => ?_)
            refine goes_ Try.func92 (by kernel_rfl) rfl #[.agg #[.int .i64 ((rd_T56 l1 x9_1).f0), .int .i64 ((rd_T56 l1 x9_1).f1)]] (by rfl) rfl rfl mA ?_
            with_reducible refine (impl_DotOk.calls ((rd_T56 l1 x9_1).f0) ((rd_T56 l1 x9_1).f1) true _ A7.out).mono ?_
            rintro e w34 ⟨rfl, hb⟩
            refine ⟨_, rfl, ?_⟩
            replace BK254 := mB BK254 hb
            replace BK256 := mB BK256 hb
            replace HB := mS (below_step (mH2 HB.out GE254.out GE256.out) hb)
            (try clear hb)
            (try clear hb2)
            (try clear hk)
            (try clear hi)
            refine hK.out _ _ (mb2 BK256.out (mb2 BK254.out ⟨(mX HB.out hw258_0 :), (mX HB.out hw258_1 :)⟩)) (fun hHeld => ?_)
            clear hK K
            refine mno 15 ?_
            refine mpu 2 16 HT_.out (mb 3 19) ?_
            refine mpu 3 17 HT_.out (mb 4 18) ?_
            refine mpt 4 18 HT_.out HW_.out (mb 5 17) hHeld ?_
            refine mpt 5 19 HT_.out HW_.out (mb 6 16) hHeld ?_
            refine mpu 6 20 HT_.out (mb 7 15) ?_
            refine mpu 7 21 HT_.out (mb 8 14) ?_
            refine mpu 8 22 HT_.out (mb 9 13) ?_
            refine mpu 9 23 HT_.out (mb 10 12) ?_
            refine mpu 10 24 HT_.out (mb 11 11) ?_
            refine mpu 11 25 HT_.out (mb 12 10) ?_
            refine mpu 12 26 HT_.out (mb 13 9) ?_
            refine mpu 13 27 HT_.out (mb 14 8) ?_
            refine mpu 14 28 HT_.out (mb 15 7) ?_
            refine mpu 15 29 HT_.out (mb 16 6) ?_
            refine mpt 16 30 HT_.out HW_.out (mb 17 5) hHeld ?_
            refine mpt 17 31 HT_.out HW_.out (mb 18 4) hHeld ?_
            refine mone 18 (some 32) HT_.out (mb 19 3) (fun K hK => ?_)
            refine goes_ Try.func61 (by kernel_rfl) rfl #[.agg #[.int .i64 ((rd_T56 l1 (ji17)).f0), .int .i64 ((rd_T56 l1 (ji17)).f1)], .agg #[.int .i64 ((rd_T56 l1 x9_1).f0), .int .i64 ((rd_T56 l1 x9_1).f1)]] (by rfl) rfl rfl (by (try simp only [List.map_toArray, List.map_cons, List.map_nil]); first | done | (simp only [hji17]; rfl) | rfl | (simp only [List.length_drop, List.length_take]; rfl)) ?_
            with_reducible refine (impl_DotLess.calls ((rd_T56 l1 (ji17)).f0) ((rd_T56 l1 (ji17)).f1) ((rd_T56 l1 x9_1).f0) ((rd_T56 l1 x9_1).f1) false _ A20.out).mono ?_
            rintro e w35 ⟨rfl, hb⟩
            refine ⟨_, rfl, ?_⟩
            replace BK254 := mB BK254 hb
            replace BK256 := mB BK256 hb
            replace HB := mS (below_step (mH2 HB.out GE254.out GE256.out) hb)
            (try clear hb)
            (try clear hb2)
            (try clear hk)
            (try clear hi)
            refine hK.out _ _ (mb2 BK256.out (mb2 BK254.out ⟨(mX HB.out hw258_0 :), (mX HB.out hw258_1 :)⟩)) (fun hHeld => ?_)
            clear hK K
            refine mno 32 ?_
            refine mpu 19 33 HT_.out (mb 20 2) ?_
            refine mpu 20 34 HT_.out (mb 21 1) ?_
            refine mpu 21 35 HT_.out (mb 22 0) ?_
            refine done_ (done_of HT_.out (by kernel_rfl)) ?_
            try go_wp2
            go_ret
            exact ⟨by first | rfl | (simp [errW_none, errW_some] <;> rfl) | (simp only [← hji17]; first | rfl | (simp [errW_none, errW_some] <;> rfl)) | (simp [*, errW_none, errW_some] <;> rfl), (mH2 HB.out GE254.out GE256.out)⟩
          ·rw [if_neg c19] at H
           exact absurd H (by simp)
         ·rw [if_neg c18] at H
          exact absurd H (by simp)
        ·rw [if_neg c16] at H
         have c16b0 : decide (0 < x9_1) = false := decide_eq_false c16
         clear c16
         have H' := mS H
         clear H
         have p255 : 0 ≤ (x9_1 : Int) := mD
         have q255 : x9_1 < (l1.length : Int) := mD
         obtain ⟨ad255, e255, hx255_0, hx255_1⟩ := at_T56 HR1.out x9_1 p255 q255
         cases e255
         replace hx255_0 := mX HB.out hx255_0
         replace hx255_1 := mX HB.out hx255_1
         replace p255 := eq_true p255
         replace q255 := eq_true q255
         try go_wp2_with (first | ((with_reducible refine gate_dst (N := 6) rfl ?_); refine mBx 6 #[.int .i64 0, .int .i64 0] 56 ?_; intro gb256 hg w36 hbox hb; have BK256 := mS (hbox); have GW256 := mG hg (mH1 HB.out GE254.out); have GE256 := mG hg (mH1 HB.out GE254.out); replace HB := mS (below_step (mH1 HB.out GE254.out) hb); have NB254_256 := mNl hg BK254.out; have NB256_254 := mNg hg BK254.out; replace BK254 := mB BK254 hb; clear hb hbox hg; have hnb37 := NB256_254.out; have hnc37 := NB254_256.out; obtain ⟨hcz38_0, hcz38_1, hfz38_0, hfz38_1⟩ := mZ2 BK256.out))
         generalize hW_ : ((w36.setCell ⟨gb256, 0, none⟩ (.int .i64 ((rd_T56 l1 x9_1).f0))).setCell ⟨gb256, 1, none⟩ (.int .i64 ((rd_T56 l1 x9_1).f1))) = w39
         replace BK254 : Aside0 (w39.heap[gb254]? = some (.cells #[.int .i64 a0_0, .int .i64 a0_1] 56 (0, 0))) := by rw [← hW_]; exact ⟨mKf NB254_256.out BK254.out⟩
         replace BK256 : Aside0 (w39.heap[gb256]? = some (.cells #[.int .i64 ((rd_T56 l1 x9_1).f0), .int .i64 ((rd_T56 l1 x9_1).f1)] 56 (0, 0))) := by rw [← hW_]; exact ⟨by refine mK ?_; refine blk_put (cs := #[.int .i64 ((rd_T56 l1 x9_1).f0), .int .i64 0]) ?_ 1 _ rfl; refine mK ?_; refine blk_put (cs := #[.int .i64 0, .int .i64 0]) ?_ 0 _ rfl; refine mK ?_; exact BK256.out⟩
         replace HB : Aside0 (Below w.heap.size w w39) := by rw [← hW_]; exact ⟨(mH2 HB.out GE254.out GE256.out)⟩
         clear hW_
         replace BK254 := mS (blk_drew BK254.out)
         replace BK256 := mS (blk_drew BK256.out)
         replace HB := mS (below_drew1 HB.out)
         refine start_ (n := 22) (S := fun w' => w'.cell? ⟨gb256, 0, none⟩ = some (.int .i64 ((rd_T56 l1 x9_1).f0)) ∧ w'.cell? ⟨gb256, 1, none⟩ = some (.int .i64 ((rd_T56 l1 x9_1).f1)) ∧ w'.cell? ⟨gb254, 0, none⟩ = some (.int .i64 a0_0) ∧ w'.cell? ⟨gb254, 1, none⟩ = some (.int .i64 a0_1)) (ds := []) (mb 0 22) (by kernel_rfl) rfl rfl (mb2 BK256.out (mc2 BK254.out)) (fun hHeld => ?_); refine with_tabW impl_depsOk.tab4 impl_depsOk.bits4 (fun HT_ HW_ => ?_)
         generalize w39.drew = w40 at BK254 BK256 HB hHeld ⊢
         refine mpt 0 14 HT_.out HW_.out (mb 1 21) hHeld ?_
         refine mone 1 (some 15) HT_.out (mb 2 20) (fun K hK => ?_)
         refine goes_ Try.func92 (by kernel_rfl) rfl #[.agg #[.int .i64 ((rd_T56 l1 x9_1).f0), .int .i64 ((rd_T56 l1 x9_1).f1)]] (by rfl) rfl rfl mA ?_
         with_reducible refine (impl_DotOk.calls ((rd_T56 l1 x9_1).f0) ((rd_T56 l1 x9_1).f1) true _ A7.out).mono ?_
         rintro e w41 ⟨rfl, hb⟩
         refine ⟨_, rfl, ?_⟩
         replace BK254 := mB BK254 hb
         replace BK256 := mB BK256 hb
         replace HB := mS (below_step (mH2 HB.out GE254.out GE256.out) hb)
         (try clear hb)
         (try clear hb2)
         (try clear hk)
         (try clear hi)
         refine hK.out _ _ (mb2 BK256.out (mc2 BK254.out)) (fun hHeld => ?_)
         clear hK K
         refine mno 15 ?_
         refine mpu 2 16 HT_.out (mb 3 19) ?_
         refine mpu 3 17 HT_.out (mb 4 18) ?_
         refine mpt 4 18 HT_.out HW_.out (mb 5 17) hHeld ?_
         refine mpt 5 19 HT_.out HW_.out (mb 6 16) hHeld ?_
         refine mpu 6 20 HT_.out (mb 7 15) ?_
         refine mpu 7 21 HT_.out (mb 8 14) ?_
         refine mpu 8 22 HT_.out (mb 9 13) ?_
         refine mpu 9 23 HT_.out (mb 10 12) ?_
         refine mpu 10 24 HT_.out (mb 11 11) ?_
         refine mpu 11 25 HT_.out (mb 12 10) ?_
         refine mpf 12 26 HT_.out (mb 13 9) ?_
         refine mpf 13 27 HT_.out (mb 14 8) ?_
         refine mpf 14 28 HT_.out (mb 15 7) ?_
         refine mpf 15 29 HT_.out (mb 16 6) ?_
         refine mpf 16 30 HT_.out (mb 17 5) ?_
         refine mpf 17 31 HT_.out (mb 18 4) ?_
         refine mpf 18 32 HT_.out (mb 19 3) ?_
         refine mpf 19 33 HT_.out (mb 20 2) ?_
         refine mpu 20 34 HT_.out (mb 21 1) ?_
         refine mpu 21 35 HT_.out (mb 22 0) ?_
         refine done_ (done_of HT_.out (by kernel_rfl)) ?_
         try go_wp2
         go_roundg k1
         case measure => have := HK1.out; omega
         case rel => exact ⟨(wrap64 (x9_1 + 1)), mE, H', ⟨by have := HK1.out; omega⟩, ⟨mK BK254.out⟩, ⟨(mH2 HB.out GE254.out GE256.out)⟩⟩
      ·replace c8 := Bool.eq_false_iff.mpr c8
       subst c8
       have H1 := H
       rw [if_neg (show ¬ (false = true) by decide)] at H1
       clear H
       have H := H1
       clear H1
       obtain rfl := Option.some.inj H
       have p255 : 0 ≤ (x9_1 : Int) := mD
       have q255 : x9_1 < (l1.length : Int) := mD
       obtain ⟨ad255, e255, hx255_0, hx255_1⟩ := at_T56 HR1.out x9_1 p255 q255
       cases e255
       replace hx255_0 := mX HB.out hx255_0
       replace hx255_1 := mX HB.out hx255_1
       replace p255 := eq_true p255
       replace q255 := eq_true q255
       try go_wp2_with (first | ((with_reducible refine gate_dst (N := 6) rfl ?_); refine mBx 6 #[.int .i64 0, .int .i64 0] 56 ?_; intro gb256 hg w42 hbox hb; have BK256 := mS (hbox); have GW256 := mG hg (mH1 HB.out GE254.out); have GE256 := mG hg (mH1 HB.out GE254.out); replace HB := mS (below_step (mH1 HB.out GE254.out) hb); have NB254_256 := mNl hg BK254.out; have NB256_254 := mNg hg BK254.out; replace BK254 := mB BK254 hb; clear hb hbox hg; have hnb43 := NB256_254.out; have hnc43 := NB254_256.out; obtain ⟨hcz44_0, hcz44_1, hfz44_0, hfz44_1⟩ := mZ2 BK256.out))
       generalize hW_ : ((w42.setCell ⟨gb256, 0, none⟩ (.int .i64 ((rd_T56 l1 x9_1).f0))).setCell ⟨gb256, 1, none⟩ (.int .i64 ((rd_T56 l1 x9_1).f1))) = w45
       replace BK254 : Aside0 (w45.heap[gb254]? = some (.cells #[.int .i64 a0_0, .int .i64 a0_1] 56 (0, 0))) := by rw [← hW_]; exact ⟨mKf NB254_256.out BK254.out⟩
       replace BK256 : Aside0 (w45.heap[gb256]? = some (.cells #[.int .i64 ((rd_T56 l1 x9_1).f0), .int .i64 ((rd_T56 l1 x9_1).f1)] 56 (0, 0))) := by rw [← hW_]; exact ⟨by refine mK ?_; refine blk_put (cs := #[.int .i64 ((rd_T56 l1 x9_1).f0), .int .i64 0]) ?_ 1 _ rfl; refine mK ?_; refine blk_put (cs := #[.int .i64 0, .int .i64 0]) ?_ 0 _ rfl; refine mK ?_; exact BK256.out⟩
       replace HB : Aside0 (Below w.heap.size w w45) := by rw [← hW_]; exact ⟨(mH2 HB.out GE254.out GE256.out)⟩
       clear hW_
       replace BK254 := mS (blk_drew BK254.out)
       replace BK256 := mS (blk_drew BK256.out)
       replace HB := mS (below_drew1 HB.out)
       refine start_ (n := 22) (S := fun w' => w'.cell? ⟨gb256, 0, none⟩ = some (.int .i64 ((rd_T56 l1 x9_1).f0)) ∧ w'.cell? ⟨gb256, 1, none⟩ = some (.int .i64 ((rd_T56 l1 x9_1).f1))) (ds := []) (mb 0 22) (by kernel_rfl) rfl rfl (mc2 BK256.out) (fun hHeld => ?_); refine with_tabW impl_depsOk.tab4 impl_depsOk.bits4 (fun HT_ HW_ => ?_)
       generalize w45.drew = w46 at BK254 BK256 HB hHeld ⊢
       refine mpt 0 14 HT_.out HW_.out (mb 1 21) hHeld ?_
       refine mone 1 (some 15) HT_.out (mb 2 20) (fun K hK => ?_)
       refine goes_ Try.func92 (by kernel_rfl) rfl #[.agg #[.int .i64 ((rd_T56 l1 x9_1).f0), .int .i64 ((rd_T56 l1 x9_1).f1)]] (by rfl) rfl rfl mA ?_
       with_reducible refine (impl_DotOk.calls ((rd_T56 l1 x9_1).f0) ((rd_T56 l1 x9_1).f1) false _ A7.out).mono ?_
       rintro e w47 ⟨rfl, hb⟩
       refine ⟨_, rfl, ?_⟩
       replace BK254 := mB BK254 hb
       replace BK256 := mB BK256 hb
       replace HB := mS (below_step (mH2 HB.out GE254.out GE256.out) hb)
       (try clear hb)
       (try clear hb2)
       (try clear hk)
       (try clear hi)
       refine hK.out _ _ (mc2 BK256.out) (fun hHeld => ?_)
       clear hK K
       refine mno 15 ?_
       refine mpu 2 16 HT_.out (mb 3 19) ?_
       refine mpu 3 17 HT_.out (mb 4 18) ?_
       refine mpf 4 18 HT_.out (mb 5 17) ?_
       refine mpf 5 19 HT_.out (mb 6 16) ?_
       refine mpf 6 20 HT_.out (mb 7 15) ?_
       refine mpu 7 21 HT_.out (mb 8 14) ?_
       refine mpu 8 22 HT_.out (mb 9 13) ?_
       refine mpf 9 23 HT_.out (mb 10 12) ?_
       refine mpf 10 24 HT_.out (mb 11 11) ?_
       refine mpf 11 25 HT_.out (mb 12 10) ?_
       refine mpf 12 26 HT_.out (mb 13 9) ?_
       refine mpf 13 27 HT_.out (mb 14 8) ?_
       refine mpf 14 28 HT_.out (mb 15 7) ?_
       refine mpf 15 29 HT_.out (mb 16 6) ?_
       refine mpf 16 30 HT_.out (mb 17 5) ?_
       refine mpf 17 31 HT_.out (mb 18 4) ?_
       refine mpf 18 32 HT_.out (mb 19 3) ?_
       refine mpf 19 33 HT_.out (mb 20 2) ?_
       refine mpf 20 34 HT_.out (mb 21 1) ?_
       refine mpu 21 35 HT_.out (mb 22 0) ?_
       refine done_ (done_of HT_.out (by kernel_rfl)) ?_
       try go_wp2
       go_ret
       exact ⟨mEw, (mH2 HB.out GE254.out GE256.out)⟩
     ·rw [if_neg c6] at H
      exact absurd H (by simp)
    ·rw [if_neg c5] at H
     exact absurd H (by simp)
   ·rw [if_neg c4] at H
    have c4b0 := decide_eq_false c4
    clear c4
    obtain rfl := Option.some.inj H
    go_wp2
    go_ret
    exact ⟨mEw, (mH1 HB.out GE254.out)⟩

end Go.Proofs.Ytecjamgajlpfdaa.MFnExactGraphPut
