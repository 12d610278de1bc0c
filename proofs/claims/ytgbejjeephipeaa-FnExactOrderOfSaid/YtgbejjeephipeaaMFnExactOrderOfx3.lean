-- Written by mp.py, this session's own printer (wip/mp.py).
import Derived.Test.YtgbejjeephipeaaVMShort
import Derived.Test.YtgbejjeephipeaaMFnExactOrderOfx0
import Derived.Test.YtgbejjeephipeaaMFnExactOrderOfx1
import Derived.Test.YtgbejjeephipeaaMFnExactOrderOfx2
namespace Go.Proofs.Ytgbejjeephipeaa.MFnExactOrderOf
open Go.RowKit Go.Proofs.YtgbejjeephipeaaW.PrintWords Go.Proofs.YtgbejjeephipeaaW.PrintLast Go.Proofs.YtgbejjeephipeaaW.PrintMore Go.Proofs.Ytgbejjeephipeaa.MWords
attribute [local go_sem] max2_int min2_int max_two min_two max_three min_three max_four min_four   -- for this text's walks alone
set_option linter.unusedVariables false
set_option linter.unusedSimpArgs false

attribute [local go_sem high] eqA31
/-! ### impl_depsOk: function 114 -/
def impl_depsOk.l0 : Nat → List (S31) → List (S31) → Int → Int → Int → Int → Option (Bool)
 | 0, _, _, _, _, _, _ => none
 | k + 1, x1, x7, x8, x9, x107000, x107001 => if x9 < x8 then (if 0 ≤ x9 then (if x9 < (x7.length : Int) then ((impl_DotOk.f ((rd_T31 x7 x9).f0) ((rd_T31 x7 x9).f1)).bind fun t109 => (if t109 = true then (if (((rd_T31 x7 x9).f0) == x107000 && (((rd_T31 x7 x9).f1) == x107001)) = true then (some false) else (if x9 > 0 then (if 0 ≤ (wrap64 (x9 - 1)) then (if (wrap64 (x9 - 1)) < (x1.length : Int) then ((impl_DotLess.f ((rd_T31 x1 (wrap64 (x9 - 1))).f0) ((rd_T31 x1 (wrap64 (x9 - 1))).f1) ((rd_T31 x7 x9).f0) ((rd_T31 x7 x9).f1)).bind fun t111 => (if t111 = true then (impl_depsOk.l0 k x1 x7 x8 (wrap64 (x9 + 1)) x107000 x107001) else (some false))) else (none)) else (none)) else (impl_depsOk.l0 k x1 x7 x8 (wrap64 (x9 + 1)) x107000 x107001))) else (some false))) else (none)) else (none)) else (some (decide ((x1.length : Int) ≤ 60)))
def impl_depsOk.f (k : Nat) (a0_0 : Int) (a0_1 : Int) (l1 : List (S31)) : Option (Bool) := impl_depsOk.l0 k l1 l1 (l1.length : Int) 0 a0_0 a0_1
theorem impl_depsOk.mono_l : ∀ k, (∀ y0 y1 y2 y3 y4 y5, LeO (impl_depsOk.l0 k y0 y1 y2 y3 y4 y5) (impl_depsOk.l0 (k + 1) y0 y1 y2 y3 y4 y5))
 | 0 => fun _ _ _ _ _ _ r h => by simp [impl_depsOk.l0] at h
 | k + 1 => by
  have ih0 := impl_depsOk.mono_l k
  ·intro y0 y1 y2 y3 y4 y5
   unfold impl_depsOk.l0
   repeat' first
   | (with_reducible exact ih0 _ _ _ _ _ _)
   | (with_reducible exact LeO.refl _)
   | (with_reducible exact LeO.none _)
   | (with_reducible refine LeO.ite ?_ ?_)
   | (with_reducible refine LeO.bind ?_ (fun _ => ?_))
   | exact ih0 _ _ _ _ _ _
   | exact LeO.none _
   | refine LeO.ite ?_ ?_
   | refine LeO.bind ?_ (fun _ => ?_)
theorem impl_depsOk.mono : ∀ a0 a1 a2 k, LeO (impl_depsOk.f k a0 a1 a2) (impl_depsOk.f (k + 1) a0 a1 a2) := by
 intro a0 a1 a2 k
 have ih0 := impl_depsOk.mono_l k
 unfold impl_depsOk.f
 repeat' first
   | (with_reducible exact ih0 _ _ _ _ _ _)
   | (with_reducible exact LeO.refl _)
   | (with_reducible exact LeO.none _)
   | (with_reducible refine LeO.ite ?_ ?_)
   | (with_reducible refine LeO.bind ?_ (fun _ => ?_))
   | exact ih0 _ _ _ _ _ _
   | exact LeO.none _
   | refine LeO.ite ?_ ?_
   | refine LeO.bind ?_ (fun _ => ?_)
def impl_depsOk.T4 : Bool × List (List Nat × List Nat) := (true, [([], []), ([0], [0]), ([1], [1]), ([2, 1], [2]), ([3], [3]), ([3], [3]), ([4, 5, 3], [3, 4, 5]), ([3, 6], [3, 6]), ([7, 3], [7]), ([8], [8]), ([9, 8], [8, 9]), ([10, 8, 8], [8, 10]), ([11], [11]), ([11], [11]), ([13, 11], [11, 13]), ([12, 14, 11], [11, 12, 14]), ([15, 11], [11, 15]), ([11], [11]), ([16, 17, 11, 11], [11, 16, 17]), ([18, 11], [11, 18]), ([11, 19, 8], [8, 11, 19]), ([8, 20], [8, 20])])
def impl_depsOk.B4 : List Nat := [0, 1, 3, 7, 15, 15, 63, 127, 255, 511, 1023, 2047, 4095, 4095, 12287, 32767, 65535, 4095, 262143, 524287, 1048575, 2097151]
theorem impl_depsOk.tab4 : rtab .any (opsOf Try.f114 4) = impl_depsOk.T4 := by kernel_rfl
theorem impl_depsOk.bits4 : waitsOk impl_depsOk.T4.2 impl_depsOk.B4 = true := by kernel_rfl
set_option maxHeartbeats 8000000 in
set_option maxRecDepth 100000 in
theorem impl_depsOk.calls (k : Nat) (a0_0 : Int) (a0_1 : Int) (A1 : Option Addr) (c1 : Nat) (l1 : List (S31)) (r : Bool) (w : World) (hr1 : Kd.C k31 w A1 l1.length l1) (hc1 : l1.length ≤ c1) (h : impl_depsOk.f k a0_0 a0_1 l1 = some r) :
  Calls Try.prog 114 #[.agg #[.int .i64 a0_0, .int .i64 a0_1], .slice A1 l1.length c1] w fun e w' => e = .returned (.bool r) ∧ Below w.heap.size w w' := by
 have hu31 := Try.underlying31
 have HR1 := mS hr1
 have HC1 := mS hc1
 clear hr1 hc1
 have HB := mS (Below.refl w.heap.size w)
 have H : (impl_depsOk.l0 k l1 l1 (l1.length : Int) 0 a0_0 a0_1) = some r := h
 clear h
 have H' := mS H
 clear H
 go_enter Try.func114, Try.ntmps114
 go_wp2_with (first | ((with_reducible refine gate_dst (N := 2) rfl ?_); refine mBx 2 #[.int .i64 a0_0, .int .i64 a0_1] 31 ?_; intro gb106 hg w3 hbox hb; have BK106 := mS (hbox); have GW106 := mG hg (mH HB.out); have GE106 := mG hg (mH HB.out); replace HB := mS (below_step (mH HB.out) hb); clear hb hbox hg))
 go_loopg [9] k (fun kq v9 w' => ∃ (x9_1 : Int), v9 = .int .i64 x9_1 ∧ Aside0 (impl_depsOk.l0 kq l1 l1 (l1.length : Int) x9_1 a0_0 a0_1 = some r) ∧ Aside0 (kq ≤ k) ∧ Aside0 (w'.heap[gb106]? = some (.cells #[.int .i64 a0_0, .int .i64 a0_1] 31 (0, 0))) ∧ Aside0 (Below w.heap.size w w'))
 case atStart => exact ⟨(0), mE, H', ⟨Nat.le_refl _⟩, ⟨mK BK106.out⟩, ⟨(mH1 HB.out GE106.out)⟩⟩
 case round =>
  clear H'
  try clear c1
  try clear p2
  obtain ⟨x9_1, rfl, HA, HK1, BK106, HB⟩ := hrel
  cases gk with
  | zero => exact absurd HA.out (by simp [impl_depsOk.l0])
  | succ k1 =>
   have H := HA.out
   clear HA
   simp only [impl_depsOk.l0] at H
   by_cases c4 : x9_1 < (l1.length : Int)
   ·rw [if_pos c4] at H
    have c4b0 := decide_eq_true c4
    clear c4
    by_cases c5 : 0 ≤ x9_1
    ·rw [if_pos c5] at H
     have c5b0 := decide_eq_true c5
     clear c5
     by_cases c6 : x9_1 < (l1.length : Int)
     ·rw [if_pos c6] at H
      have c6b0 := decide_eq_true c6
      clear c6
      replace H := Option.bind_eq_some_iff.mp H
      obtain ⟨t109, A70, H⟩ := H
      replace H : (if t109 = true then (if (((rd_T31 l1 x9_1).f0) == a0_0 && (((rd_T31 l1 x9_1).f1) == a0_1)) = true then (some false) else (if x9_1 > 0 then (if 0 ≤ (wrap64 (x9_1 - 1)) then (if (wrap64 (x9_1 - 1)) < (l1.length : Int) then ((impl_DotLess.f ((rd_T31 l1 (wrap64 (x9_1 - 1))).f0) ((rd_T31 l1 (wrap64 (x9_1 - 1))).f1) ((rd_T31 l1 x9_1).f0) ((rd_T31 l1 x9_1).f1)).bind fun t111 => (if t111 = true then (impl_depsOk.l0 k1 l1 l1 (l1.length : Int) (wrap64 (x9_1 + 1)) a0_0 a0_1) else (some false))) else (none)) else (none)) else (impl_depsOk.l0 k1 l1 l1 (l1.length : Int) (wrap64 (x9_1 + 1)) a0_0 a0_1))) else (some false)) = some r := H
      have A7 := mS A70
      clear A70
      by_cases c8 : t109 = true
      ·subst c8
       have H1 := H
       rw [if_pos rfl] at H1
       clear H
       have H := H1
       clear H1
       by_cases c9 : (((rd_T31 l1 x9_1).f0) == a0_0 && (((rd_T31 l1 x9_1).f1) == a0_1)) = true
       ·rw [if_pos c9] at H
        have c9b0 : (((rd_T31 l1 x9_1).f0) == a0_0 && (((rd_T31 l1 x9_1).f1) == a0_1)) = true := c9
        (try (have c9b1 : decide (((rd_T31 l1 x9_1).f0) = a0_0 && (((rd_T31 l1 x9_1).f1) == a0_1)) = true := by simpa using c9))
        (try (have c9b2 : (((rd_T31 l1 x9_1).f0) == a0_0 && (((rd_T31 l1 x9_1).f1) == a0_1)) = true := by simpa using c9))
        clear c9
        obtain rfl := Option.some.inj H
        have p107 : 0 ≤ (x9_1 : Int) := mD
        have q107 : x9_1 < (l1.length : Int) := mD
        obtain ⟨ad107, e107, hx107_0, hx107_1⟩ := at_T31 HR1.out x9_1 p107 q107
        cases e107
        replace hx107_0 := mX HB.out hx107_0
        replace hx107_1 := mX HB.out hx107_1
        replace p107 := eq_true p107
        replace q107 := eq_true q107
        try go_wp2_with (first | ((with_reducible refine gate_dst (N := 6) rfl ?_); refine mBx 6 #[.int .i64 0, .int .i64 0] 31 ?_; intro gb108 hg w10 hbox hb; have BK108 := mS (hbox); have GW108 := mG hg (mH1 HB.out GE106.out); have GE108 := mG hg (mH1 HB.out GE106.out); replace HB := mS (below_step (mH1 HB.out GE106.out) hb); have NB106_108 := mNl hg BK106.out; have NB108_106 := mNg hg BK106.out; replace BK106 := mB BK106 hb; clear hb hbox hg; have hnb11 := NB108_106.out; have hnc11 := NB106_108.out; obtain ⟨hcz12_0, hcz12_1, hfz12_0, hfz12_1⟩ := mZ2 BK108.out))
        generalize hW_ : ((w10.setCell ⟨gb108, 0, none⟩ (.int .i64 ((rd_T31 l1 x9_1).f0))).setCell ⟨gb108, 1, none⟩ (.int .i64 ((rd_T31 l1 x9_1).f1))) = w13
        replace BK106 : Aside0 (w13.heap[gb106]? = some (.cells #[.int .i64 a0_0, .int .i64 a0_1] 31 (0, 0))) := by rw [← hW_]; exact ⟨mKf NB106_108.out BK106.out⟩
        replace BK108 : Aside0 (w13.heap[gb108]? = some (.cells #[.int .i64 ((rd_T31 l1 x9_1).f0), .int .i64 ((rd_T31 l1 x9_1).f1)] 31 (0, 0))) := by rw [← hW_]; exact ⟨by refine mK ?_; refine blk_put (cs := #[.int .i64 ((rd_T31 l1 x9_1).f0), .int .i64 0]) ?_ 1 _ rfl; refine mK ?_; refine blk_put (cs := #[.int .i64 0, .int .i64 0]) ?_ 0 _ rfl; refine mK ?_; exact BK108.out⟩
        replace HB : Aside0 (Below w.heap.size w w13) := by rw [← hW_]; exact ⟨(mH2 HB.out GE106.out GE108.out)⟩
        clear hW_
        replace BK106 := mS (blk_drew BK106.out)
        replace BK108 := mS (blk_drew BK108.out)
        replace HB := mS (below_drew1 HB.out)
        refine start_ (n := 22) (S := fun w' => w'.cell? ⟨gb108, 0, none⟩ = some (.int .i64 ((rd_T31 l1 x9_1).f0)) ∧ w'.cell? ⟨gb108, 1, none⟩ = some (.int .i64 ((rd_T31 l1 x9_1).f1)) ∧ w'.cell? ⟨gb106, 0, none⟩ = some (.int .i64 a0_0) ∧ w'.cell? ⟨gb106, 1, none⟩ = some (.int .i64 a0_1)) (ds := []) (mb 0 22) (by kernel_rfl) rfl rfl (mb2 BK108.out (mc2 BK106.out)) (fun hHeld => ?_); refine with_tabW impl_depsOk.tab4 impl_depsOk.bits4 (fun HT_ HW_ => ?_)
        generalize w13.drew = w14 at BK106 BK108 HB hHeld ⊢
        refine mpt 0 14 HT_.out HW_.out (mb 1 21) hHeld ?_
        refine mone 1 (some 15) HT_.out (mb 2 20) (fun K hK => ?_)
        refine goes_ Try.func113 (by kernel_rfl) rfl #[.agg #[.int .i64 ((rd_T31 l1 x9_1).f0), .int .i64 ((rd_T31 l1 x9_1).f1)]] (by rfl) rfl rfl mA ?_
        with_reducible refine (impl_DotOk.calls ((rd_T31 l1 x9_1).f0) ((rd_T31 l1 x9_1).f1) true _ A7.out).mono ?_
        rintro e w15 ⟨rfl, hb⟩
        refine ⟨_, rfl, ?_⟩
        replace BK106 := mB BK106 hb
        replace BK108 := mB BK108 hb
        replace HB := mS (below_step (mH2 HB.out GE106.out GE108.out) hb)
        (try clear hb)
        (try clear hb2)
        (try clear hk)
        (try clear hi)
        refine hK.out _ _ (mb2 BK108.out (mc2 BK106.out)) (fun hHeld => ?_)
        clear hK K
        refine mno 15 ?_
        refine mpu 2 16 HT_.out (mb 3 19) ?_
        refine mpu 3 17 HT_.out (mb 4 18) ?_
        refine mpt 4 18 HT_.out HW_.out (mb 5 17) hHeld ?_
        refine mpt 5 19 HT_.out HW_.out (mb 6 16) hHeld ?_
        refine mpu 6 20 HT_.out (mb 7 15) ?_
        refine mpu 7 21 HT_.out (mb 8 14) ?_
        refine mpu 8 22 HT_.out (mb 9 13) ?_
        refine mpf 9 23 HT_.out (mb 10 12) ?_
        refine mpf 10 24 HT_.out (mb 11 11) ?_
        refine mpf 11 25 HT_.out (mb 12 10) ?_
        refine mpf 12 26 HT_.out (mb 13 9) ?_
        refine mpf 13 27 HT_.out (mb 14 8) ?_
        refine mpf 14 28 HT_.out (mb 15 7) ?_
        refine mpf 15 29 HT_.out (mb 16 6) ?_
        refine mpf 16 30 HT_.out (mb 17 5) ?_
        refine mpf 17 31 HT_.out (mb 18 4) ?_
        refine mpf 18 32 HT_.out (mb 19 3) ?_
        refine mpf 19 33 HT_.out (mb 20 2) ?_
        refine mpf 20 34 HT_.out (mb 21 1) ?_
        refine mpu 21 35 HT_.out (mb 22 0) ?_
        refine done_ (done_of HT_.out (by kernel_rfl)) ?_
        try go_wp2
        go_ret
        exact ⟨mEw, (mH2 HB.out GE106.out GE108.out)⟩
       ·rw [if_neg c9] at H
        have c9b0 : (((rd_T31 l1 x9_1).f0) == a0_0 && (((rd_T31 l1 x9_1).f1) == a0_1)) = false := by simpa using c9
        (try (have c9b1 : decide (((rd_T31 l1 x9_1).f0) = a0_0 && (((rd_T31 l1 x9_1).f1) == a0_1)) = false := by simpa using c9))
        (try (have c9b2 : (((rd_T31 l1 x9_1).f0) == a0_0 && (((rd_T31 l1 x9_1).f1) == a0_1)) = false := by simpa using c9))
        (try (have c9b3 : ¬ (((rd_T31 l1 x9_1).f0) = a0_0 && (((rd_T31 l1 x9_1).f1) == a0_1)) := by simpa using c9))
        clear c9
        by_cases c16 : x9_1 > 0
        ·rw [if_pos c16] at H
         have c16b0 : decide (0 < x9_1) = true := decide_eq_true c16
         clear c16
         obtain ⟨ji17, hji17⟩ : ∃ j_ : Int, (wrap64 (x9_1 - 1)) = j_ := ⟨_, rfl⟩
         replace H : (if 0 ≤ (ji17) then (if (ji17) < (l1.length : Int) then ((impl_DotLess.f ((rd_T31 l1 (ji17)).f0) ((rd_T31 l1 (ji17)).f1) ((rd_T31 l1 x9_1).f0) ((rd_T31 l1 x9_1).f1)).bind fun t111 => (if t111 = true then (impl_depsOk.l0 k1 l1 l1 (l1.length : Int) (wrap64 (x9_1 + 1)) a0_0 a0_1) else (some false))) else (none)) else (none)) = some r := by first | (rw [hji17] at H; exact H) | (simp only [hji17] at H ⊢; exact H)
         (try rw [hji17] at A7)
         have hji17w : (IntKind.i64.wrap (x9_1 - 1)) = ji17 := (i64_w _).trans hji17
         by_cases c18 : 0 ≤ (ji17)
         ·rw [if_pos c18] at H
          have c18b0 := decide_eq_true c18
          clear c18
          by_cases c19 : (ji17) < (l1.length : Int)
          ·rw [if_pos c19] at H
           have c19b0 := decide_eq_true c19
           clear c19
           replace H := Option.bind_eq_some_iff.mp H
           obtain ⟨t111, A200, H⟩ := H
           replace H : (if t111 = true then (impl_depsOk.l0 k1 l1 l1 (l1.length : Int) (wrap64 (x9_1 + 1)) a0_0 a0_1) else (some false)) = some r := H
           have A20 := mS A200
           clear A200
           by_cases c21 : t111 = true
           ·subst c21
            have H1 := H
            rw [if_pos rfl] at H1
            clear H
            have H := H1
            clear H1
            have H' := mS H
            clear H
            have p107 : 0 ≤ (x9_1 : Int) := mD
            have q107 : x9_1 < (l1.length : Int) := mD
            obtain ⟨ad107, e107, hx107_0, hx107_1⟩ := at_T31 HR1.out x9_1 p107 q107
            cases e107
            replace hx107_0 := mX HB.out hx107_0
            replace hx107_1 := mX HB.out hx107_1
            replace p107 := eq_true p107
            replace q107 := eq_true q107
            try go_wp2_with (first | ((with_reducible refine gate_dst (N := 6) rfl ?_); refine mBx 6 #[.int .i64 0, .int .i64 0] 31 ?_; intro gb108 hg w22 hbox hb; have BK108 := mS (hbox); have GW108 := mG hg (mH1 HB.out GE106.out); have GE108 := mG hg (mH1 HB.out GE106.out); replace HB := mS (below_step (mH1 HB.out GE106.out) hb); have NB106_108 := mNl hg BK106.out; have NB108_106 := mNg hg BK106.out; replace BK106 := mB BK106 hb; clear hb hbox hg; have hnb23 := NB108_106.out; have hnc23 := NB106_108.out; obtain ⟨hcz24_0, hcz24_1, hfz24_0, hfz24_1⟩ := mZ2 BK108.out))
            generalize hW_ : ((w22.setCell ⟨gb108, 0, none⟩ (.int .i64 ((rd_T31 l1 x9_1).f0))).setCell ⟨gb108, 1, none⟩ (.int .i64 ((rd_T31 l1 x9_1).f1))) = w25
            replace BK106 : Aside0 (w25.heap[gb106]? = some (.cells #[.int .i64 a0_0, .int .i64 a0_1] 31 (0, 0))) := by rw [← hW_]; exact ⟨mKf NB106_108.out BK106.out⟩
            replace BK108 : Aside0 (w25.heap[gb108]? = some (.cells #[.int .i64 ((rd_T31 l1 x9_1).f0), .int .i64 ((rd_T31 l1 x9_1).f1)] 31 (0, 0))) := by rw [← hW_]; exact ⟨by refine mK ?_; refine blk_put (cs := #[.int .i64 ((rd_T31 l1 x9_1).f0), .int .i64 0]) ?_ 1 _ rfl; refine mK ?_; refine blk_put (cs := #[.int .i64 0, .int .i64 0]) ?_ 0 _ rfl; refine mK ?_; exact BK108.out⟩
            replace HB : Aside0 (Below w.heap.size w w25) := by rw [← hW_]; exact ⟨(mH2 HB.out GE106.out GE108.out)⟩
            clear hW_
            replace BK106 := mS (blk_drew BK106.out)
            replace BK108 := mS (blk_drew BK108.out)
            replace HB := mS (below_drew1 HB.out)
            have p110 : 0 ≤ ((ji17) : Int) := mD
            have q110 : (ji17) < (l1.length : Int) := mD
            obtain ⟨ad110, e110, hx110_0, hx110_1⟩ := at_T31 HR1.out (ji17) p110 q110
            have hw110_1 := hx110_1
            have hw110_0 := hx110_0
            obtain rfl : ad107 = ad110 := (by injection e110)
            replace hx110_0 := mX HB.out hx110_0
            replace hx110_1 := mX HB.out hx110_1
            replace p110 := eq_true p110
            replace q110 := eq_true q110
            refine start_ (n := 22) (S := fun w' => w'.cell? ⟨gb108, 0, none⟩ = some (.int .i64 ((rd_T31 l1 x9_1).f0)) ∧ w'.cell? ⟨gb108, 1, none⟩ = some (.int .i64 ((rd_T31 l1 x9_1).f1)) ∧ w'.cell? ⟨gb106, 0, none⟩ = some (.int .i64 a0_0) ∧ w'.cell? ⟨gb106, 1, none⟩ = some (.int .i64 a0_1) ∧ w'.cell? (ad107.add (((ji17)).toNat * 2)) = some (.int .i64 ((rd_T31 l1 (ji17)).f0)) ∧ w'.cell? ⟨(ad107.add (((ji17)).toNat * 2)).block, (ad107.add (((ji17)).toNat * 2)).off + 1, none⟩ = some (.int .i64 ((rd_T31 l1 (ji17)).f1))) (ds := []) (mb 0 22) (by kernel_rfl) rfl rfl (mb2 BK108.out (mb2 BK106.out ⟨(mX HB.out hw110_0 :), (mX HB.out hw110_1 :)⟩)) (fun hHeld => ?_); refine with_tabW impl_depsOk.tab4 impl_depsOk.bits4 (fun HT_ HW_ => ?_)
            generalize w25.drew = w26 at BK106 BK108 HB hx110_0 hx110_1 hHeld ⊢
            refine mpt 0 14 HT_.out HW_.out (mb 1 21) hHeld ?_
            refine mone 1 (some 15) HT_.out (mb 2 20) (fun K hK => ?_)
            refine goes_ Try.func113 (by kernel_rfl) rfl #[.agg #[.int .i64 ((rd_T31 l1 x9_1).f0), .int .i64 ((rd_T31 l1 x9_1).f1)]] (by rfl) rfl rfl mA ?_
            with_reducible refine (impl_DotOk.calls ((rd_T31 l1 x9_1).f0) ((rd_T31 l1 x9_1).f1) true _ A7.out).mono ?_
            rintro e w27 ⟨rfl, hb⟩
            refine ⟨_, rfl, ?_⟩
            replace BK106 := mB BK106 hb
            replace BK108 := mB BK108 hb
            replace HB := mS (below_step (mH2 HB.out GE106.out GE108.out) hb)
            (try clear hb)
            (try clear hb2)
            (try clear hk)
            (try clear hi)
            refine hK.out _ _ (mb2 BK108.out (mb2 BK106.out ⟨(mX HB.out hw110_0 :), (mX HB.out hw110_1 :)⟩)) (fun hHeld => ?_)
            clear hK K
            refine mno 15 ?_
            refine mpu 2 16 HT_.out (mb 3 19) ?_
            refine mpu 3 17 HT_.out (mb 4 18) ?_
            refine mpt 4 18 HT_.out HW_.out (mb 5 17) hHeld ?_
            refine mpt 5 19 HT_.out HW_.out (mb 6 16) hHeld ?_
            refine mpu 6 20 HT_.out (mb 7 15) ?_
            refine mpu 7 21 HT_.out (mb 8 14) ?_
            refine mpu 8 22 HT_.out (mb 9 13) ?_
            refine mpu 9 23 HT_.out (mb 10 12) ?_
            refine mpu 10 24 HT_.out (mb 11 11) ?_
            refine mpu 11 25 HT_.out (mb 12 10) ?_
            refine mpu 12 26 HT_.out (mb 13 9) ?_
            refine mpu 13 27 HT_.out (mb 14 8) ?_
            refine mpu 14 28 HT_.out (mb 15 7) ?_
            refine mpu 15 29 HT_.out (mb 16 6) ?_
            refine mpt 16 30 HT_.out HW_.out (mb 17 5) hHeld ?_
            refine mpt 17 31 HT_.out HW_.out (mb 18 4) hHeld ?_
            refine mone 18 (some 32) HT_.out (mb 19 3) (fun K hK => ?_)
            refine goes_ Try.func64 (by kernel_rfl) rfl #[.agg #[.int .i64 ((rd_T31 l1 (ji17)).f0), .int .i64 ((rd_T31 l1 (ji17)).f1)], .agg #[.int .i64 ((rd_T31 l1 x9_1).f0), .int .i64 ((rd_T31 l1 x9_1).f1)]] (by rfl) rfl rfl (by (try simp only [List.map_toArray, List.map_cons, List.map_nil]); first | done | (simp only [hji17]; rfl) | rfl | (simp only [List.length_drop, List.length_take]; rfl)) ?_
            with_reducible refine (impl_DotLess.calls ((rd_T31 l1 (ji17)).f0) ((rd_T31 l1 (ji17)).f1) ((rd_T31 l1 x9_1).f0) ((rd_T31 l1 x9_1).f1) true _ A20.out).mono ?_
            rintro e w28 ⟨rfl, hb⟩
            refine ⟨_, rfl, ?_⟩
            replace BK106 := mB BK106 hb
            replace BK108 := mB BK108 hb
            replace HB := mS (below_step (mH2 HB.out GE106.out GE108.out) hb)
            (try clear hb)
            (try clear hb2)
            (try clear hk)
            (try clear hi)
            refine hK.out _ _ (mb2 BK108.out (mb2 BK106.out ⟨(mX HB.out hw110_0 :), (mX HB.out hw110_1 :)⟩)) (fun hHeld => ?_)
            clear hK K
            refine mno 32 ?_
            refine mpu 19 33 HT_.out (mb 20 2) ?_
            refine mpu 20 34 HT_.out (mb 21 1) ?_
            refine mpu 21 35 HT_.out (mb 22 0) ?_
            refine done_ (done_of HT_.out (by kernel_rfl)) ?_
            try go_wp2
            go_roundg k1
            case measure => have := HK1.out; omega
            case rel => exact ⟨(wrap64 (x9_1 + 1)), mE, H', ⟨by have := HK1.out; omega⟩, ⟨mK BK106.out⟩, ⟨(mH2 HB.out GE106.out GE108.out)⟩⟩
           ·replace c21 := Bool.eq_false_iff.mpr c21
            subst c21
            have H1 := H
            rw [if_neg (show ¬ (false = true) by decide)] at H1
            clear H
            have H := H1
            clear H1
            obtain rfl := Option.some.inj H
            have p107 : 0 ≤ (x9_1 : Int) := mD
            have q107 : x9_1 < (l1.length : Int) := mD
            obtain ⟨ad107, e107, hx107_0, hx107_1⟩ := at_T31 HR1.out x9_1 p107 q107
            cases e107
            replace hx107_0 := mX HB.out hx107_0
            replace hx107_1 := mX HB.out hx107_1
            replace p107 := eq_true p107
            replace q107 := eq_true q107
            try go_wp2_with (first | ((with_reducible refine gate_dst (N := 6) rfl ?_); refine mBx 6 #[.int .i64 0, .int .i64 0] 31 ?_; intro gb108 hg w29 hbox hb; have BK108 := mS (hbox); have GW108 := mG hg (mH1 HB.out GE106.out); have GE108 := mG hg (mH1 HB.out GE106.out); replace HB := mS (below_step (mH1 HB.out GE106.out) hb); have NB106_108 := mNl hg BK106.out; have NB108_106 := mNg hg BK106.out; replace BK106 := mB BK106 hb; clear hb hbox hg; have hnb30 := NB108_106.out; have hnc30 := NB106_108.out; obtain ⟨hcz31_0, hcz31_1, hfz31_0, hfz31_1⟩ := mZ2 BK108.out))
            generalize hW_ : ((w29.setCell ⟨gb108, 0, none⟩ (.int .i64 ((rd_T31 l1 x9_1).f0))).setCell ⟨gb108, 1, none⟩ (.int .i64 ((rd_T31 l1 x9_1).f1))) = w32
            replace BK106 : Aside0 (w32.heap[gb106]? = some (.cells #[.int .i64 a0_0, .int .i64 a0_1] 31 (0, 0))) := by rw [← hW_]; exact ⟨mKf NB106_108.out BK106.out⟩
            replace BK108 : Aside0 (w32.heap[gb108]? = some (.cells #[.int .i64 ((rd_T31 l1 x9_1).f0), .int .i64 ((rd_T31 l1 x9_1).f1)] 31 (0, 0))) := by rw [← hW_]; exact ⟨by refine mK ?_; refine blk_put (cs := #[.int .i64 ((rd_T31 l1 x9_1).f0), .int .i64 0]) ?_ 1 _ rfl; refine mK ?_; refine blk_put (cs := #[.int .i64 0, .int .i64 0]) ?_ 0 _ rfl; refine mK ?_; exact BK108.out⟩
            replace HB : Aside0 (Below w.heap.size w w32) := by rw [← hW_]; exact ⟨(mH2 HB.out GE106.out GE108.out)⟩
            clear hW_
            replace BK106 := mS (blk_drew BK106.out)
            replace BK108 := mS (blk_drew BK108.out)
            replace HB := mS (below_drew1 HB.out)
            have p110 : 0 ≤ ((ji17) : Int) := mD
            have q110 : (ji17) < (l1.length : Int) := mD
            obtain ⟨ad110, e110, hx110_0, hx110_1⟩ := at_T31 HR1.out (ji17) p110 q110
            have hw110_1 := hx110_1
            have hw110_0 := hx110_0
            obtain rfl : ad107 = ad110 := (by injection e110)
            replace hx110_0 := mX HB.out hx110_0
            replace hx110_1 := mX HB.out hx110_1
            replace p110 := eq_true p110
            replace q110 := eq_true q110
            refine start_ (n := 22) (S := fun w' => w'.cell? ⟨gb108, 0, none⟩ = some (.int .i64 ((rd_T31 l1 x9_1).f0)) ∧ w'.cell? ⟨gb108, 1, none⟩ = some (.int .i64 ((rd_T31 l1 x9_1).f1)) ∧ w'.cell? ⟨gb106, 0, none⟩ = some (.int .i64 a0_0) ∧ w'.cell? ⟨gb106, 1, none⟩ = some (.int .i64 a0_1) ∧ w'.cell? (ad107.add (((ji17)).toNat * 2)) = some (.int .i64 ((rd_T31 l1 (ji17)).f0)) ∧ w'.cell? ⟨(ad107.add (((ji17)).toNat * 2)).block, (ad107.add (((ji17)).toNat * 2)).off + 1, none⟩ = some (.int .i64 ((rd_T31 l1 (ji17)).f1))) (ds := []) (mb 0 22) (by kernel_rfl) rfl rfl (mb2 BK108.out (mb2 BK106.out ⟨(mX HB.out hw110_0 :), (mX HB.out hw110_1 :)⟩)) (fun hHeld => ?_); refine with_tabW impl_depsOk.tab4 impl_depsOk.bits4 (fun HT_ HW_ => ?_)
            generalize w32.drew = w33 at BK106 BK108 HB hx110_0 hx110_1 hHeld ⊢
            refine mpt 0 14 HT_.out HW_.out (mb 1 21) hHeld ?_
            refine mone 1 (some 15) HT_.out (mb 2 20) (fun K hK => ?_)
            refine goes_ Try.func113 (by kernel_rfl) rfl #[.agg #[.int .i64 ((rd_T31 l1 x9_1).f0), .int .i64 ((rd_T31 l1 x9_1).f1)]] (by rfl) rfl rfl mA ?_
            with_reducible refine (impl_DotOk.calls ((rd_T31 l1 x9_1).f0) ((rd_T31 l1 x9_1).f1) true _ A7.out).mono ?_
            rintro e w34 ⟨rfl, hb⟩
            refine ⟨_, rfl, ?_⟩
            replace BK106 := mB BK106 hb
            replace BK108 := mB BK108 hb
            replace HB := mS (below_step (mH2 HB.out GE106.out GE108.out) hb)
            (try clear hb)
            (try clear hb2)
            (try clear hk)
            (try clear hi)
            refine hK.out _ _ (mb2 BK108.out (mb2 BK106.out ⟨(mX HB.out hw110_0 :), (mX HB.out hw110_1 :)⟩)) (fun hHeld => ?_)
            clear hK K
            refine mno 15 ?_
            refine mpu 2 16 HT_.out (mb 3 19) ?_
            refine mpu 3 17 HT_.out (mb 4 18) ?_
            refine mpt 4 18 HT_.out HW_.out (mb 5 17) hHeld ?_
            refine mpt 5 19 HT_.out HW_.out (mb 6 16) hHeld ?_
            refine mpu 6 20 HT_.out (mb 7 15) ?_
            refine mpu 7 21 HT_.out (mb 8 14) ?_
            refine mpu 8 22 HT_.out (mb 9 13) ?_
            refine mpu 9 23 HT_.out (mb 10 12) ?_
            refine mpu 10 24 HT_.out (mb 11 11) ?_
            refine mpu 11 25 HT_.out (mb 12 10) ?_
            refine mpu 12 26 HT_.out (mb 13 9) ?_
            refine mpu 13 27 HT_.out (mb 14 8) ?_
            refine mpu 14 28 HT_.out (mb 15 7) ?_
            refine mpu 15 29 HT_.out (mb 16 6) ?_
            refine mpt 16 30 HT_.out HW_.out (mb 17 5) hHeld ?_
            refine mpt 17 31 HT_.out HW_.out (mb 18 4) hHeld ?_
            refine mone 18 (some 32) HT_.out (mb 19 3) (fun K hK => ?_)
            refine goes_ Try.func64 (by kernel_rfl) rfl #[.agg #[.int .i64 ((rd_T31 l1 (ji17)).f0), .int .i64 ((rd_T31 l1 (ji17)).f1)], .agg #[.int .i64 ((rd_T31 l1 x9_1).f0), .int .i64 ((rd_T31 l1 x9_1).f1)]] (by rfl) rfl rfl (by (try simp only [List.map_toArray, List.map_cons, List.map_nil]); first | done | (simp only [hji17]; rfl) | rfl | (simp only [List.length_drop, List.length_take]; rfl)) ?_
            with_reducible refine (impl_DotLess.calls ((rd_T31 l1 (ji17)).f0) ((rd_T31 l1 (ji17)).f1) ((rd_T31 l1 x9_1).f0) ((rd_T31 l1 x9_1).f1) false _ A20.out).mono ?_
            rintro e w35 ⟨rfl, hb⟩
            refine ⟨_, rfl, ?_⟩
            replace BK106 := mB BK106 hb
            replace BK108 := mB BK108 hb
            replace HB := mS (below_step (mH2 HB.out GE106.out GE108.out) hb)
            (try clear hb)
            (try clear hb2)
            (try clear hk)
            (try clear hi)
            refine hK.out _ _ (mb2 BK108.out (mb2 BK106.out ⟨(mX HB.out hw110_0 :), (mX HB.out hw110_1 :)⟩)) (fun hHeld => ?_)
            clear hK K
            refine mno 32 ?_
            refine mpu 19 33 HT_.out (mb 20 2) ?_
            refine mpu 20 34 HT_.out (mb 21 1) ?_
            refine mpu 21 35 HT_.out (mb 22 0) ?_
            refine done_ (done_of HT_.out (by kernel_rfl)) ?_
            try go_wp2
            go_ret
            exact ⟨by first | rfl | (simp [errW_none, errW_some] <;> rfl) | (simp only [← hji17]; first | rfl | (simp [errW_none, errW_some] <;> rfl)) | (simp [*, errW_none, errW_some] <;> rfl), (mH2 HB.out GE106.out GE108.out)⟩
          ·rw [if_neg c19] at H
           exact absurd H (by simp)
         ·rw [if_neg c18] at H
          exact absurd H (by simp)
        ·rw [if_neg c16] at H
         have c16b0 : decide (0 < x9_1) = false := decide_eq_false c16
         clear c16
         have H' := mS H
         clear H
         have p107 : 0 ≤ (x9_1 : Int) := mD
         have q107 : x9_1 < (l1.length : Int) := mD
         obtain ⟨ad107, e107, hx107_0, hx107_1⟩ := at_T31 HR1.out x9_1 p107 q107
         cases e107
         replace hx107_0 := mX HB.out hx107_0
         replace hx107_1 := mX HB.out hx107_1
         replace p107 := eq_true p107
         replace q107 := eq_true q107
         try go_wp2_with (first | ((with_reducible refine gate_dst (N := 6) rfl ?_); refine mBx 6 #[.int .i64 0, .int .i64 0] 31 ?_; intro gb108 hg w36 hbox hb; have BK108 := mS (hbox); have GW108 := mG hg (mH1 HB.out GE106.out); have GE108 := mG hg (mH1 HB.out GE106.out); replace HB := mS (below_step (mH1 HB.out GE106.out) hb); have NB106_108 := mNl hg BK106.out; have NB108_106 := mNg hg BK106.out; replace BK106 := mB BK106 hb; clear hb hbox hg; have hnb37 := NB108_106.out; have hnc37 := NB106_108.out; obtain ⟨hcz38_0, hcz38_1, hfz38_0, hfz38_1⟩ := mZ2 BK108.out))
         generalize hW_ : ((w36.setCell ⟨gb108, 0, none⟩ (.int .i64 ((rd_T31 l1 x9_1).f0))).setCell ⟨gb108, 1, none⟩ (.int .i64 ((rd_T31 l1 x9_1).f1))) = w39
         replace BK106 : Aside0 (w39.heap[gb106]? = some (.cells #[.int .i64 a0_0, .int .i64 a0_1] 31 (0, 0))) := by rw [← hW_]; exact ⟨mKf NB106_108.out BK106.out⟩
         replace BK108 : Aside0 (w39.heap[gb108]? = some (.cells #[.int .i64 ((rd_T31 l1 x9_1).f0), .int .i64 ((rd_T31 l1 x9_1).f1)] 31 (0, 0))) := by rw [← hW_]; exact ⟨by refine mK ?_; refine blk_put (cs := #[.int .i64 ((rd_T31 l1 x9_1).f0), .int .i64 0]) ?_ 1 _ rfl; refine mK ?_; refine blk_put (cs := #[.int .i64 0, .int .i64 0]) ?_ 0 _ rfl; refine mK ?_; exact BK108.out⟩
         replace HB : Aside0 (Below w.heap.size w w39) := by rw [← hW_]; exact ⟨(mH2 HB.out GE106.out GE108.out)⟩
         clear hW_
         replace BK106 := mS (blk_drew BK106.out)
         replace BK108 := mS (blk_drew BK108.out)
         replace HB := mS (below_drew1 HB.out)
         refine start_ (n := 22) (S := fun w' => w'.cell? ⟨gb108, 0, none⟩ = some (.int .i64 ((rd_T31 l1 x9_1).f0)) ∧ w'.cell? ⟨gb108, 1, none⟩ = some (.int .i64 ((rd_T31 l1 x9_1).f1)) ∧ w'.cell? ⟨gb106, 0, none⟩ = some (.int .i64 a0_0) ∧ w'.cell? ⟨gb106, 1, none⟩ = some (.int .i64 a0_1)) (ds := []) (mb 0 22) (by kernel_rfl) rfl rfl (mb2 BK108.out (mc2 BK106.out)) (fun hHeld => ?_); refine with_tabW impl_depsOk.tab4 impl_depsOk.bits4 (fun HT_ HW_ => ?_)
         generalize w39.drew = w40 at BK106 BK108 HB hHeld ⊢
         refine mpt 0 14 HT_.out HW_.out (mb 1 21) hHeld ?_
         refine mone 1 (some 15) HT_.out (mb 2 20) (fun K hK => ?_)
         refine goes_ Try.func113 (by kernel_rfl) rfl #[.agg #[.int .i64 ((rd_T31 l1 x9_1).f0), .int .i64 ((rd_T31 l1 x9_1).f1)]] (by rfl) rfl rfl mA ?_
         with_reducible refine (impl_DotOk.calls ((rd_T31 l1 x9_1).f0) ((rd_T31 l1 x9_1).f1) true _ A7.out).mono ?_
         rintro e w41 ⟨rfl, hb⟩
         refine ⟨_, rfl, ?_⟩
         replace BK106 := mB BK106 hb
         replace BK108 := mB BK108 hb
         replace HB := mS (below_step (mH2 HB.out GE106.out GE108.out) hb)
         (try clear hb)
         (try clear hb2)
         (try clear hk)
         (try clear hi)
         refine hK.out _ _ (mb2 BK108.out (mc2 BK106.out)) (fun hHeld => ?_)
         clear hK K
         refine mno 15 ?_
         refine mpu 2 16 HT_.out (mb 3 19) ?_
         refine mpu 3 17 HT_.out (mb 4 18) ?_
         refine mpt 4 18 HT_.out HW_.out (mb 5 17) hHeld ?_
         refine mpt 5 19 HT_.out HW_.out (mb 6 16) hHeld ?_
         refine mpu 6 20 HT_.out (mb 7 15) ?_
         refine mpu 7 21 HT_.out (mb 8 14) ?_
         refine mpu 8 22 HT_.out (mb 9 13) ?_
         refine mpu 9 23 HT_.out (mb 10 12) ?_
         refine mpu 10 24 HT_.out (mb 11 11) ?_
         refine mpu 11 25 HT_.out (mb 12 10) ?_
         refine mpf 12 26 HT_.out (mb 13 9) ?_
         refine mpf 13 27 HT_.out (mb 14 8) ?_
         refine mpf 14 28 HT_.out (mb 15 7) ?_
         refine mpf 15 29 HT_.out (mb 16 6) ?_
         refine mpf 16 30 HT_.out (mb 17 5) ?_
         refine mpf 17 31 HT_.out (mb 18 4) ?_
         refine mpf 18 32 HT_.out (mb 19 3) ?_
         refine mpf 19 33 HT_.out (mb 20 2) ?_
         refine mpu 20 34 HT_.out (mb 21 1) ?_
         refine mpu 21 35 HT_.out (mb 22 0) ?_
         refine done_ (done_of HT_.out (by kernel_rfl)) ?_
         try go_wp2
         go_roundg k1
         case measure => have := HK1.out; omega
         case rel => exact ⟨(wrap64 (x9_1 + 1)), mE, H', ⟨by have := HK1.out; omega⟩, ⟨mK BK106.out⟩, ⟨(mH2 HB.out GE106.out GE108.out)⟩⟩
      ·replace c8 := Bool.eq_false_iff.mpr c8
       subst c8
       have H1 := H
       rw [if_neg (show ¬ (false = true) by decide)] at H1
       clear H
       have H := H1
       clear H1
       obtain rfl := Option.some.inj H
       have p107 : 0 ≤ (x9_1 : Int) := mD
       have q107 : x9_1 < (l1.length : Int) := mD
       obtain ⟨ad107, e107, hx107_0, hx107_1⟩ := at_T31 HR1.out x9_1 p107 q107
       cases e107
       replace hx107_0 := mX HB.out hx107_0
       replace hx107_1 := mX HB.out hx107_1
       replace p107 := eq_true p107
       replace q107 := eq_true q107
       try go_wp2_with (first | ((with_reducible refine gate_dst (N := 6) rfl ?_); refine mBx 6 #[.int .i64 0, .int .i64 0] 31 ?_; intro gb108 hg w42 hbox hb; have BK108 := mS (hbox); have GW108 := mG hg (mH1 HB.out GE106.out); have GE108 := mG hg (mH1 HB.out GE106.out); replace HB := mS (below_step (mH1 HB.out GE106.out) hb); have NB106_108 := mNl hg BK106.out; have NB108_106 := mNg hg BK106.out; replace BK106 := mB BK106 hb; clear hb hbox hg; have hnb43 := NB108_106.out; have hnc43 := NB106_108.out; obtain ⟨hcz44_0, hcz44_1, hfz44_0, hfz44_1⟩ := mZ2 BK108.out))
       generalize hW_ : ((w42.setCell ⟨gb108, 0, none⟩ (.int .i64 ((rd_T31 l1 x9_1).f0))).setCell ⟨gb108, 1, none⟩ (.int .i64 ((rd_T31 l1 x9_1).f1))) = w45
       replace BK106 : Aside0 (w45.heap[gb106]? = some (.cells #[.int .i64 a0_0, .int .i64 a0_1] 31 (0, 0))) := by rw [← hW_]; exact ⟨mKf NB106_108.out BK106.out⟩
       replace BK108 : Aside0 (w45.heap[gb108]? = some (.cells #[.int .i64 ((rd_T31 l1 x9_1).f0), .int .i64 ((rd_T31 l1 x9_1).f1)] 31 (0, 0))) := by rw [← hW_]; exact ⟨by refine mK ?_; refine blk_put (cs := #[.int .i64 ((rd_T31 l1 x9_1).f0), .int .i64 0]) ?_ 1 _ rfl; refine mK ?_; refine blk_put (cs := #[.int .i64 0, .int .i64 0]) ?_ 0 _ rfl; refine mK ?_; exact BK108.out⟩
       replace HB : Aside0 (Below w.heap.size w w45) := by rw [← hW_]; exact ⟨(mH2 HB.out GE106.out GE108.out)⟩
       clear hW_
       replace BK106 := mS (blk_drew BK106.out)
       replace BK108 := mS (blk_drew BK108.out)
       replace HB := mS (below_drew1 HB.out)
       refine start_ (n := 22) (S := fun w' => w'.cell? ⟨gb108, 0, none⟩ = some (.int .i64 ((rd_T31 l1 x9_1).f0)) ∧ w'.cell? ⟨gb108, 1, none⟩ = some (.int .i64 ((rd_T31 l1 x9_1).f1))) (ds := []) (mb 0 22) (by kernel_rfl) rfl rfl (mc2 BK108.out) (fun hHeld => ?_); refine with_tabW impl_depsOk.tab4 impl_depsOk.bits4 (fun HT_ HW_ => ?_)
       generalize w45.drew = w46 at BK106 BK108 HB hHeld ⊢
       refine mpt 0 14 HT_.out HW_.out (mb 1 21) hHeld ?_
       refine mone 1 (some 15) HT_.out (mb 2 20) (fun K hK => ?_)
       refine goes_ Try.func113 (by kernel_rfl) rfl #[.agg #[.int .i64 ((rd_T31 l1 x9_1).f0), .int .i64 ((rd_T31 l1 x9_1).f1)]] (by rfl) rfl rfl mA ?_
       with_reducible refine (impl_DotOk.calls ((rd_T31 l1 x9_1).f0) ((rd_T31 l1 x9_1).f1) false _ A7.out).mono ?_
       rintro e w47 ⟨rfl, hb⟩
       refine ⟨_, rfl, ?_⟩
       replace BK106 := mB BK106 hb
       replace BK108 := mB BK108 hb
       replace HB := mS (below_step (mH2 HB.out GE106.out GE108.out) hb)
       (try clear hb)
       (try clear hb2)
       (try clear hk)
       (try clear hi)
       refine hK.out _ _ (mc2 BK108.out) (fun hHeld => ?_)
       clear hK K
       refine mno 15 ?_
       refine mpu 2 16 HT_.out (mb 3 19) ?_
       refine mpu 3 17 HT_.out (mb 4 18) ?_
       refine mpf 4 18 HT_.out (mb 5 17) ?_
       refine mpf 5 19 HT_.out (mb 6 16) ?_
       refine mpf 6 20 HT_.out (mb 7 15) ?_
       refine mpu 7 21 HT_.out (mb 8 14) ?_
       refine mpu 8 22 HT_.out (mb 9 13) ?_
       refine mpf 9 23 HT_.out (mb 10 12) ?_
       refine mpf 10 24 HT_.out (mb 11 11) ?_
       refine mpf 11 25 HT_.out (mb 12 10) ?_
       refine mpf 12 26 HT_.out (mb 13 9) ?_
       refine mpf 13 27 HT_.out (mb 14 8) ?_
       refine mpf 14 28 HT_.out (mb 15 7) ?_
       refine mpf 15 29 HT_.out (mb 16 6) ?_
       refine mpf 16 30 HT_.out (mb 17 5) ?_
       refine mpf 17 31 HT_.out (mb 18 4) ?_
       refine mpf 18 32 HT_.out (mb 19 3) ?_
       refine mpf 19 33 HT_.out (mb 20 2) ?_
       refine mpf 20 34 HT_.out (mb 21 1) ?_
       refine mpu 21 35 HT_.out (mb 22 0) ?_
       refine done_ (done_of HT_.out (by kernel_rfl)) ?_
       try go_wp2
       go_ret
       exact ⟨mEw, (mH2 HB.out GE106.out GE108.out)⟩
     ·rw [if_neg c6] at H
      exact absurd H (by simp)
    ·rw [if_neg c5] at H
     exact absurd H (by simp)
   ·rw [if_neg c4] at H
    have c4b0 := decide_eq_false c4
    clear c4
    obtain rfl := Option.some.inj H
    go_wp2
    go_ret
    exact ⟨mEw, (mH1 HB.out GE106.out)⟩

end Go.Proofs.Ytgbejjeephipeaa.MFnExactOrderOf
