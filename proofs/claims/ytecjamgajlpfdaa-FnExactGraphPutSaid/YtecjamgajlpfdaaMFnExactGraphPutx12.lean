-- Written by mp.py, this session's own printer (wip/mp.py).
import Derived.Test.YtecjamgajlpfdaaVMShort
import Derived.Test.YtecjamgajlpfdaaMFnExactGraphPutx0
namespace Go.Proofs.Ytecjamgajlpfdaa.MFnExactGraphPut
open Go.RowKit Go.Proofs.YtecjamgajlpfdaaW.PrintWords Go.Proofs.YtecjamgajlpfdaaW.PrintLast Go.Proofs.YtecjamgajlpfdaaW.PrintMore Go.Proofs.Ytecjamgajlpfdaa.MWords
attribute [local go_sem] max2_int min2_int max_two min_two max_three min_three max_four min_four   -- for this text's walks alone
set_option linter.unusedVariables false
set_option linter.unusedSimpArgs false

/-! ### laws_eqDot: function 66 -/
def laws_eqDot.f (a0_0 : Int) (a0_1 : Int) (a1_0 : Int) (a1_1 : Int) : Option (Bool) := if a0_0 = a1_0 then (if a0_1 = a1_1 then (some true) else (some false)) else (some false)
set_option maxHeartbeats 8000000 in
set_option maxRecDepth 100000 in
theorem laws_eqDot.calls (a0_0 : Int) (a0_1 : Int) (a1_0 : Int) (a1_1 : Int) (r : Bool) (w : World) (h : laws_eqDot.f a0_0 a0_1 a1_0 a1_1 = some r) :
  Calls Try.prog 66 #[.agg #[.int .i64 a0_0, .int .i64 a0_1], .agg #[.int .i64 a1_0, .int .i64 a1_1]] w fun e w' => e = .returned (.bool r) ∧ Below w.heap.size w w' := by
 have hu56 := Try.underlying56
 have HB := mS (Below.refl w.heap.size w)
 have H : (if a0_0 = a1_0 then (if a0_1 = a1_1 then (some true) else (some false)) else (some false)) = some r := h
 clear h
 by_cases c3 : a0_0 = a1_0
 ·rw [if_pos c3] at H
  have c3b0 : (a0_0 == a1_0) = true := beq_iff_eq.mpr c3
  have c3b1 : (a0_0 != a1_0) = false := bne_eq_false_iff_eq.mpr c3
  clear c3
  by_cases c4 : a0_1 = a1_1
  ·rw [if_pos c4] at H
   have c4b0 : (a0_1 == a1_1) = true := beq_iff_eq.mpr c4
   have c4b1 : (a0_1 != a1_1) = false := bne_eq_false_iff_eq.mpr c4
   clear c4
   obtain rfl := Option.some.inj H
   go_enter Try.func66, Try.ntmps66
   go_wp2_with (first | ((with_reducible refine gate_dst (N := 2) rfl ?_); refine mBx 2 #[.int .i64 a0_0, .int .i64 a0_1] 56 ?_; intro gb306 hg w5 hbox hb; have BK306 := mS (hbox); have GW306 := mG hg (mH HB.out); have GE306 := mG hg (mH HB.out); replace HB := mS (below_step (mH HB.out) hb); clear hb hbox hg) | ((with_reducible refine gate_dst (N := 3) rfl ?_); refine mBx 3 #[.int .i64 a1_0, .int .i64 a1_1] 56 ?_; intro gb307 hg w6 hbox hb; have BK307 := mS (hbox); have GW307 := mG hg (mH1 HB.out GE306.out); have GE307 := mG hg (mH1 HB.out GE306.out); replace HB := mS (below_step (mH1 HB.out GE306.out) hb); have NB306_307 := mNl hg BK306.out; have NB307_306 := mNg hg BK306.out; replace BK306 := mB BK306 hb; clear hb hbox hg; have hnb7 := NB306_307.out; have hnc7 := NB307_306.out; obtain ⟨hcz8_0, hcz8_1, hfz8_0, hfz8_1⟩ := mZ2 BK306.out; obtain ⟨hcz9_0, hcz9_1, hfz9_0, hfz9_1⟩ := mZ2 BK307.out))
   go_ret
   exact ⟨mEw, (mH2 HB.out GE306.out GE307.out)⟩
  ·rw [if_neg c4] at H
   have c4b0 : (a0_1 == a1_1) = false := beq_eq_false_iff_ne.mpr c4
   have c4b1 : (a0_1 != a1_1) = true := bne_iff_ne.mpr c4
   obtain rfl := Option.some.inj H
   go_enter Try.func66, Try.ntmps66
   go_wp2_with (first | ((with_reducible refine gate_dst (N := 2) rfl ?_); refine mBx 2 #[.int .i64 a0_0, .int .i64 a0_1] 56 ?_; intro gb306 hg w10 hbox hb; have BK306 := mS (hbox); have GW306 := mG hg (mH HB.out); have GE306 := mG hg (mH HB.out); replace HB := mS (below_step (mH HB.out) hb); clear hb hbox hg) | ((with_reducible refine gate_dst (N := 3) rfl ?_); refine mBx 3 #[.int .i64 a1_0, .int .i64 a1_1] 56 ?_; intro gb307 hg w11 hbox hb; have BK307 := mS (hbox); have GW307 := mG hg (mH1 HB.out GE306.out); have GE307 := mG hg (mH1 HB.out GE306.out); replace HB := mS (below_step (mH1 HB.out GE306.out) hb); have NB306_307 := mNl hg BK306.out; have NB307_306 := mNg hg BK306.out; replace BK306 := mB BK306 hb; clear hb hbox hg; have hnb12 := NB306_307.out; have hnc12 := NB307_306.out; obtain ⟨hcz13_0, hcz13_1, hfz13_0, hfz13_1⟩ := mZ2 BK306.out; obtain ⟨hcz14_0, hcz14_1, hfz14_0, hfz14_1⟩ := mZ2 BK307.out))
   go_ret
   exact ⟨mEw, (mH2 HB.out GE306.out GE307.out)⟩
 ·rw [if_neg c3] at H
  have c3b0 : (a0_0 == a1_0) = false := beq_eq_false_iff_ne.mpr c3
  have c3b1 : (a0_0 != a1_0) = true := bne_iff_ne.mpr c3
  obtain rfl := Option.some.inj H
  go_enter Try.func66, Try.ntmps66
  go_wp2_with (first | ((with_reducible refine gate_dst (N := 2) rfl ?_); refine mBx 2 #[.int .i64 a0_0, .int .i64 a0_1] 56 ?_; intro gb306 hg w15 hbox hb; have BK306 := mS (hbox); have GW306 := mG hg (mH HB.out); have GE306 := mG hg (mH HB.out); replace HB := mS (below_step (mH HB.out) hb); clear hb hbox hg) | ((with_reducible refine gate_dst (N := 3) rfl ?_); refine mBx 3 #[.int .i64 a1_0, .int .i64 a1_1] 56 ?_; intro gb307 hg w16 hbox hb; have BK307 := mS (hbox); have GW307 := mG hg (mH1 HB.out GE306.out); have GE307 := mG hg (mH1 HB.out GE306.out); replace HB := mS (below_step (mH1 HB.out GE306.out) hb); have NB306_307 := mNl hg BK306.out; have NB307_306 := mNg hg BK306.out; replace BK306 := mB BK306 hb; clear hb hbox hg; have hnb17 := NB306_307.out; have hnc17 := NB307_306.out; obtain ⟨hcz18_0, hcz18_1, hfz18_0, hfz18_1⟩ := mZ2 BK306.out; obtain ⟨hcz19_0, hcz19_1, hfz19_0, hfz19_1⟩ := mZ2 BK307.out))
  go_ret
  exact ⟨mEw, (mH2 HB.out GE306.out GE307.out)⟩

/-! ### laws_eqDotS: function 67 -/
def laws_eqDotS.l0 : Nat → List (S56) → List (S56) → Int → Option (Bool)
 | 0, _, _, _ => none
 | k + 1, x0, x1, x5 => if x5 < (x0.length : Int) then (if 0 ≤ x5 then (if x5 < (x1.length : Int) then ((laws_eqDot.f ((rd_T56 x0 x5).f0) ((rd_T56 x0 x5).f1) ((rd_T56 x1 x5).f0) ((rd_T56 x1 x5).f1)).bind fun t310 => (if t310 = true then (laws_eqDotS.l0 k x0 x1 (wrap64 (x5 + 1))) else (some false))) else (none)) else (none)) else (some true)
def laws_eqDotS.f (k : Nat) (l0 : List (S56)) (l1 : List (S56)) : Option (Bool) := if (l0.length : Int) = (l1.length : Int) then (laws_eqDotS.l0 k l0 l1 0) else (some false)
theorem laws_eqDotS.mono_l : ∀ k, (∀ y0 y1 y2, LeO (laws_eqDotS.l0 k y0 y1 y2) (laws_eqDotS.l0 (k + 1) y0 y1 y2))
 | 0 => fun _ _ _ r h => by simp [laws_eqDotS.l0] at h
 | k + 1 => by
  have ih0 := laws_eqDotS.mono_l k
  ·intro y0 y1 y2
   unfold laws_eqDotS.l0
   repeat' first
   | (with_reducible exact ih0 _ _ _)
   | (with_reducible exact LeO.refl _)
   | (with_reducible exact LeO.none _)
   | (with_reducible refine LeO.ite ?_ ?_)
   | (with_reducible refine LeO.bind ?_ (fun _ => ?_))
   | exact ih0 _ _ _
   | exact LeO.none _
   | refine LeO.ite ?_ ?_
   | refine LeO.bind ?_ (fun _ => ?_)
theorem laws_eqDotS.mono : ∀ a0 a1 k, LeO (laws_eqDotS.f k a0 a1) (laws_eqDotS.f (k + 1) a0 a1) := by
 intro a0 a1 k
 have ih0 := laws_eqDotS.mono_l k
 unfold laws_eqDotS.f
 repeat' first
   | (with_reducible exact ih0 _ _ _)
   | (with_reducible exact LeO.refl _)
   | (with_reducible exact LeO.none _)
   | (with_reducible refine LeO.ite ?_ ?_)
   | (with_reducible refine LeO.bind ?_ (fun _ => ?_))
   | exact ih0 _ _ _
   | exact LeO.none _
   | refine LeO.ite ?_ ?_
   | refine LeO.bind ?_ (fun _ => ?_)
def laws_eqDotS.T6 : Bool × List (List Nat × List Nat) := (true, [([], []), ([], []), ([0, 1], [0, 1]), ([2], [2]), ([], []), ([], []), ([4, 5], [4, 5]), ([6], [6]), ([3, 7], [3, 7]), ([8], [8])])
def laws_eqDotS.B6 : List Nat := [0, 0, 3, 7, 0, 0, 48, 112, 255, 511]
theorem laws_eqDotS.tab6 : rtab .any (opsOf Try.f67 6) = laws_eqDotS.T6 := by kernel_rfl
theorem laws_eqDotS.bits6 : waitsOk laws_eqDotS.T6.2 laws_eqDotS.B6 = true := by kernel_rfl
set_option maxHeartbeats 8000000 in
set_option maxRecDepth 100000 in
theorem laws_eqDotS.calls (k : Nat) (A0 : Option Addr) (c0 : Nat) (l0 : List (S56)) (A1 : Option Addr) (c1 : Nat) (l1 : List (S56)) (r : Bool) (w : World) (hr0 : Kd.C k56 w A0 l0.length l0) (hc0 : l0.length ≤ c0) (hr1 : Kd.C k56 w A1 l1.length l1) (hc1 : l1.length ≤ c1) (h : laws_eqDotS.f k l0 l1 = some r) :
  Calls Try.prog 67 #[.slice A0 l0.length c0, .slice A1 l1.length c1] w fun e w' => e = .returned (.bool r) ∧ Below w.heap.size w w' := by
 have hu56 := Try.underlying56
 have HR0 := mS hr0
 have HC0 := mS hc0
 clear hr0 hc0
 have HR1 := mS hr1
 have HC1 := mS hc1
 clear hr1 hc1
 have HB := mS (Below.refl w.heap.size w)
 have H : (if (l0.length : Int) = (l1.length : Int) then (laws_eqDotS.l0 k l0 l1 0) else (some false)) = some r := h
 clear h
 by_cases c3 : (l0.length : Int) = (l1.length : Int)
 ·rw [if_pos c3] at H
  have c3b0 : ((l0.length : Int) == (l1.length : Int)) = true := beq_iff_eq.mpr c3
  have c3b1 : ((l0.length : Int) != (l1.length : Int)) = false := bne_eq_false_iff_eq.mpr c3
  have c3b2 : (l0.length == l1.length) = true := by first | simpa using c3 | (simp at c3 ⊢; omega)
  clear c3
  have H' := mS H
  clear H
  go_enter Try.func67, Try.ntmps67
  go_wp2
  go_loopg [5] k (fun kq v5 w' => ∃ (x5_1 : Int), v5 = .int .i64 x5_1 ∧ Aside0 (laws_eqDotS.l0 kq l0 l1 x5_1 = some r) ∧ Aside0 (kq ≤ k) ∧ Aside0 (Below w.heap.size w w'))
  case atStart => exact ⟨(0), mE, H', ⟨Nat.le_refl _⟩, ⟨(mH HB.out)⟩⟩
  case round =>
   clear H'
   try clear c1
   try clear p2
   try clear c3
   try clear c3b0
   try clear c3b1
   try clear c3b2
   obtain ⟨x5_1, rfl, HA, HK1, HB⟩ := hrel
   cases gk with
   | zero => exact absurd HA.out (by simp [laws_eqDotS.l0])
   | succ k1 =>
    have H := HA.out
    clear HA
    simp only [laws_eqDotS.l0] at H
    by_cases c4 : x5_1 < (l0.length : Int)
    ·rw [if_pos c4] at H
     have c4b0 := decide_eq_true c4
     clear c4
     by_cases c5 : 0 ≤ x5_1
     ·rw [if_pos c5] at H
      have c5b0 := decide_eq_true c5
      clear c5
      by_cases c6 : x5_1 < (l1.length : Int)
      ·rw [if_pos c6] at H
       have c6b0 := decide_eq_true c6
       clear c6
       replace H := Option.bind_eq_some_iff.mp H
       obtain ⟨t310, A70, H⟩ := H
       replace H : (if t310 = true then (laws_eqDotS.l0 k1 l0 l1 (wrap64 (x5_1 + 1))) else (some false)) = some r := H
       have A7 := mS A70
       clear A70
       by_cases c8 : t310 = true
       ·subst c8
        have H1 := H
        rw [if_pos rfl] at H1
        clear H
        have H := H1
        clear H1
        have H' := mS H
        clear H
        try go_wp2
        replace HB := mS (below_drew1 HB.out)
        have p308 : 0 ≤ (x5_1 : Int) := mD
        have q308 : x5_1 < (l0.length : Int) := mD
        obtain ⟨ad308, e308, hx308_0, hx308_1⟩ := at_T56 HR0.out x5_1 p308 q308
        have hw308_1 := hx308_1
        have hw308_0 := hx308_0
        cases e308
        replace hx308_0 := mX HB.out hx308_0
        replace hx308_1 := mX HB.out hx308_1
        replace p308 := eq_true p308
        replace q308 := eq_true q308
        have p309 : 0 ≤ (x5_1 : Int) := mD
        have q309 : x5_1 < (l1.length : Int) := mD
        obtain ⟨ad309, e309, hx309_0, hx309_1⟩ := at_T56 HR1.out x5_1 p309 q309
        have hw309_1 := hx309_1
        have hw309_0 := hx309_0
        cases e309
        replace hx309_0 := mX HB.out hx309_0
        replace hx309_1 := mX HB.out hx309_1
        replace p309 := eq_true p309
        replace q309 := eq_true q309
        refine start_ (n := 10) (S := fun w' => w'.cell? (ad308.add ((x5_1).toNat * 2)) = some (.int .i64 ((rd_T56 l0 x5_1).f0)) ∧ w'.cell? ⟨(ad308.add ((x5_1).toNat * 2)).block, (ad308.add ((x5_1).toNat * 2)).off + 1, none⟩ = some (.int .i64 ((rd_T56 l0 x5_1).f1)) ∧ w'.cell? (ad309.add ((x5_1).toNat * 2)) = some (.int .i64 ((rd_T56 l1 x5_1).f0)) ∧ w'.cell? ⟨(ad309.add ((x5_1).toNat * 2)).block, (ad309.add ((x5_1).toNat * 2)).off + 1, none⟩ = some (.int .i64 ((rd_T56 l1 x5_1).f1))) (ds := []) (mb 0 10) (by kernel_rfl) rfl rfl ⟨(mX HB.out hw308_0 :), (mX HB.out hw308_1 :), (mX HB.out hw309_0 :), (mX HB.out hw309_1 :)⟩ (fun hHeld => ?_); refine with_tabW laws_eqDotS.tab6 laws_eqDotS.bits6 (fun HT_ HW_ => ?_)
        generalize wr.drew = w9 at HB hx308_0 hx308_1 hx309_0 hx309_1 hHeld ⊢
        refine mpu 0 17 HT_.out (mb 1 9) ?_
        refine mpu 1 18 HT_.out (mb 2 8) ?_
        refine mpu 2 19 HT_.out (mb 3 7) ?_
        refine mpu 4 21 HT_.out (mr [3,1,1,5]) ?_
        refine mpu 5 22 HT_.out (mr [3,1,2,4]) ?_
        refine mpu 6 23 HT_.out (mr [3,1,3,3]) ?_
        refine mpt 3 20 HT_.out HW_.out (mb 7 3) hHeld ?_
        refine mpt 7 24 HT_.out HW_.out (mb 8 2) hHeld ?_
        refine mone 8 (some 25) HT_.out (mb 9 1) (fun K hK => ?_)
        refine goes_ Try.func66 (by kernel_rfl) rfl #[.agg #[.int .i64 ((rd_T56 l0 x5_1).f0), .int .i64 ((rd_T56 l0 x5_1).f1)], .agg #[.int .i64 ((rd_T56 l1 x5_1).f0), .int .i64 ((rd_T56 l1 x5_1).f1)]] (by rfl) rfl rfl mA ?_
        with_reducible refine (laws_eqDot.calls ((rd_T56 l0 x5_1).f0) ((rd_T56 l0 x5_1).f1) ((rd_T56 l1 x5_1).f0) ((rd_T56 l1 x5_1).f1) true _ A7.out).mono ?_
        rintro e w10 ⟨rfl, hb⟩
        refine ⟨_, rfl, ?_⟩
        replace HB := mS (below_step (mH HB.out) hb)
        (try clear hb)
        (try clear hb2)
        (try clear hk)
        (try clear hi)
        refine hK.out _ _ ⟨(mX HB.out hw308_0 :), (mX HB.out hw308_1 :), (mX HB.out hw309_0 :), (mX HB.out hw309_1 :)⟩ (fun hHeld => ?_)
        clear hK K
        refine mno 25 ?_
        refine mpu 9 26 HT_.out (mb 10 0) ?_
        refine done_ (done_of HT_.out (by kernel_rfl)) ?_
        try go_wp2
        go_roundg k1
        case measure => have := HK1.out; omega
        case rel => exact ⟨(wrap64 (x5_1 + 1)), mE, H', ⟨by have := HK1.out; omega⟩, ⟨(mH HB.out)⟩⟩
       ·replace c8 := Bool.eq_false_iff.mpr c8
        subst c8
        have H1 := H
        rw [if_neg (show ¬ (false = true) by decide)] at H1
        clear H
        have H := H1
        clear H1
        obtain rfl := Option.some.inj H
        try go_wp2
        replace HB := mS (below_drew1 HB.out)
        have p308 : 0 ≤ (x5_1 : Int) := mD
        have q308 : x5_1 < (l0.length : Int) := mD
        obtain ⟨ad308, e308, hx308_0, hx308_1⟩ := at_T56 HR0.out x5_1 p308 q308
        have hw308_1 := hx308_1
        have hw308_0 := hx308_0
        cases e308
        replace hx308_0 := mX HB.out hx308_0
        replace hx308_1 := mX HB.out hx308_1
        replace p308 := eq_true p308
        replace q308 := eq_true q308
        have p309 : 0 ≤ (x5_1 : Int) := mD
        have q309 : x5_1 < (l1.length : Int) := mD
        obtain ⟨ad309, e309, hx309_0, hx309_1⟩ := at_T56 HR1.out x5_1 p309 q309
        have hw309_1 := hx309_1
        have hw309_0 := hx309_0
        cases e309
        replace hx309_0 := mX HB.out hx309_0
        replace hx309_1 := mX HB.out hx309_1
        replace p309 := eq_true p309
        replace q309 := eq_true q309
        refine start_ (n := 10) (S := fun w' => w'.cell? (ad308.add ((x5_1).toNat * 2)) = some (.int .i64 ((rd_T56 l0 x5_1).f0)) ∧ w'.cell? ⟨(ad308.add ((x5_1).toNat * 2)).block, (ad308.add ((x5_1).toNat * 2)).off + 1, none⟩ = some (.int .i64 ((rd_T56 l0 x5_1).f1)) ∧ w'.cell? (ad309.add ((x5_1).toNat * 2)) = some (.int .i64 ((rd_T56 l1 x5_1).f0)) ∧ w'.cell? ⟨(ad309.add ((x5_1).toNat * 2)).block, (ad309.add ((x5_1).toNat * 2)).off + 1, none⟩ = some (.int .i64 ((rd_T56 l1 x5_1).f1))) (ds := []) (mb 0 10) (by kernel_rfl) rfl rfl ⟨(mX HB.out hw308_0 :), (mX HB.out hw308_1 :), (mX HB.out hw309_0 :), (mX HB.out hw309_1 :)⟩ (fun hHeld => ?_); refine with_tabW laws_eqDotS.tab6 laws_eqDotS.bits6 (fun HT_ HW_ => ?_)
        generalize wr.drew = w11 at HB hx308_0 hx308_1 hx309_0 hx309_1 hHeld ⊢
        refine mpu 0 17 HT_.out (mb 1 9) ?_
        refine mpu 1 18 HT_.out (mb 2 8) ?_
        refine mpu 2 19 HT_.out (mb 3 7) ?_
        refine mpu 4 21 HT_.out (mr [3,1,1,5]) ?_
        refine mpu 5 22 HT_.out (mr [3,1,2,4]) ?_
        refine mpu 6 23 HT_.out (mr [3,1,3,3]) ?_
        refine mpt 3 20 HT_.out HW_.out (mb 7 3) hHeld ?_
        refine mpt 7 24 HT_.out HW_.out (mb 8 2) hHeld ?_
        refine mone 8 (some 25) HT_.out (mb 9 1) (fun K hK => ?_)
        refine goes_ Try.func66 (by kernel_rfl) rfl #[.agg #[.int .i64 ((rd_T56 l0 x5_1).f0), .int .i64 ((rd_T56 l0 x5_1).f1)], .agg #[.int .i64 ((rd_T56 l1 x5_1).f0), .int .i64 ((rd_T56 l1 x5_1).f1)]] (by rfl) rfl rfl mA ?_
        with_reducible refine (laws_eqDot.calls ((rd_T56 l0 x5_1).f0) ((rd_T56 l0 x5_1).f1) ((rd_T56 l1 x5_1).f0) ((rd_T56 l1 x5_1).f1) false _ A7.out).mono ?_
        rintro e w12 ⟨rfl, hb⟩
        refine ⟨_, rfl, ?_⟩
        replace HB := mS (below_step (mH HB.out) hb)
        (try clear hb)
        (try clear hb2)
        (try clear hk)
        (try clear hi)
        refine hK.out _ _ ⟨(mX HB.out hw308_0 :), (mX HB.out hw308_1 :), (mX HB.out hw309_0 :), (mX HB.out hw309_1 :)⟩ (fun hHeld => ?_)
        clear hK K
        refine mno 25 ?_
        refine mpu 9 26 HT_.out (mb 10 0) ?_
        refine done_ (done_of HT_.out (by kernel_rfl)) ?_
        try go_wp2
        go_ret
        exact ⟨mEw, (mH HB.out)⟩
      ·rw [if_neg c6] at H
       exact absurd H (by simp)
     ·rw [if_neg c5] at H
      exact absurd H (by simp)
    ·rw [if_neg c4] at H
     have c4b0 := decide_eq_false c4
     clear c4
     obtain rfl := Option.some.inj H
     go_wp2
     go_ret
     exact ⟨mEw, (mH HB.out)⟩
 ·rw [if_neg c3] at H
  have c3b0 : ((l0.length : Int) == (l1.length : Int)) = false := beq_eq_false_iff_ne.mpr c3
  have c3b1 : ((l0.length : Int) != (l1.length : Int)) = true := bne_iff_ne.mpr c3
  have c3b2 : (l0.length == l1.length) = false := by first | simpa using c3 | (simp at c3 ⊢; omega)
  obtain rfl := Option.some.inj H
  go_enter Try.func67, Try.ntmps67
  go_wp2
  go_ret
  exact ⟨mEw, (mH HB.out)⟩

/-! ### laws_eqItem: function 30 -/
def laws_eqItem.f (k : Nat) (a0_0 : Int) (a0_1 : Int) (l0_2 : List (S56)) (a1_0 : Int) (a1_1 : Int) (l1_2 : List (S56)) : Option (Bool) := (laws_eqDot.f a0_0 a0_1 a1_0 a1_1).bind fun t313 => (if t313 = true then ((laws_eqDotS.f k l0_2 l1_2).bind fun t314 => (if t314 = true then (some true) else (some false))) else (some false))
theorem laws_eqItem.mono : ∀ a0 a1 a2 a3 a4 a5 k, LeO (laws_eqItem.f k a0 a1 a2 a3 a4 a5) (laws_eqItem.f (k + 1) a0 a1 a2 a3 a4 a5) := by
 intro a0 a1 a2 a3 a4 a5 k
 unfold laws_eqItem.f
 repeat' first
   | (with_reducible exact laws_eqDotS.mono _ _ _)
   | (with_reducible exact LeO.refl _)
   | (with_reducible exact LeO.none _)
   | (with_reducible refine LeO.ite ?_ ?_)
   | (with_reducible refine LeO.bind ?_ (fun _ => ?_))
   | exact laws_eqDotS.mono _ _ _
   | exact LeO.none _
   | refine LeO.ite ?_ ?_
   | refine LeO.bind ?_ (fun _ => ?_)
set_option maxHeartbeats 8000000 in
set_option maxRecDepth 100000 in
theorem laws_eqItem.calls (k : Nat) (a0_0 : Int) (a0_1 : Int) (A0_2 : Option Addr) (c0_2 : Nat) (l0_2 : List (S56)) (a1_0 : Int) (a1_1 : Int) (A1_2 : Option Addr) (c1_2 : Nat) (l1_2 : List (S56)) (r : Bool) (w : World) (hr0_2 : Kd.C k56 w A0_2 l0_2.length l0_2) (hc0_2 : l0_2.length ≤ c0_2) (hr1_2 : Kd.C k56 w A1_2 l1_2.length l1_2) (hc1_2 : l1_2.length ≤ c1_2) (h : laws_eqItem.f k a0_0 a0_1 l0_2 a1_0 a1_1 l1_2 = some r) :
  Calls Try.prog 30 #[.agg #[.int .i64 a0_0, .int .i64 a0_1, .slice A0_2 l0_2.length c0_2], .agg #[.int .i64 a1_0, .int .i64 a1_1, .slice A1_2 l1_2.length c1_2]] w fun e w' => e = .returned (.bool r) ∧ Below w.heap.size w w' := by
 have hu59 := Try.underlying59
 have hu56 := Try.underlying56
 have HR0_2 := mS hr0_2
 have HC0_2 := mS hc0_2
 clear hr0_2 hc0_2
 have HR1_2 := mS hr1_2
 have HC1_2 := mS hc1_2
 clear hr1_2 hc1_2
 have HB := mS (Below.refl w.heap.size w)
 have H : ((laws_eqDot.f a0_0 a0_1 a1_0 a1_1).bind fun t313 => (if t313 = true then ((laws_eqDotS.f k l0_2 l1_2).bind fun t314 => (if t314 = true then (some true) else (some false))) else (some false))) = some r := h
 clear h
 replace H := Option.bind_eq_some_iff.mp H
 obtain ⟨t313, A30, H⟩ := H
 replace H : (if t313 = true then ((laws_eqDotS.f k l0_2 l1_2).bind fun t314 => (if t314 = true then (some true) else (some false))) else (some false)) = some r := H
 have A3 := mS A30
 clear A30
 by_cases c4 : t313 = true
 ·subst c4
  have H1 := H
  rw [if_pos rfl] at H1
  clear H
  have H := H1
  clear H1
  replace H := Option.bind_eq_some_iff.mp H
  obtain ⟨t314, A50, H⟩ := H
  replace H : (if t314 = true then (some true) else (some false)) = some r := H
  have A5 := mS A50
  clear A50
  by_cases c6 : t314 = true
  ·subst c6
   have H1 := H
   rw [if_pos rfl] at H1
   clear H
   have H := H1
   clear H1
   obtain rfl := Option.some.inj H
   go_enter Try.func30, Try.ntmps30
   go_wp2_with (first | ((with_reducible refine gate_dst (N := 2) rfl ?_); refine mBx 2 #[.int .i64 a0_0, .int .i64 a0_1, .slice A0_2 l0_2.length c0_2] 59 ?_; intro gb311 hg w7 hbox hb; have BK311 := mS (hbox); have GW311 := mG hg (mH HB.out); have GE311 := mG hg (mH HB.out); replace HB := mS (below_step (mH HB.out) hb); clear hb hbox hg) | ((with_reducible refine gate_dst (N := 3) rfl ?_); refine mBx 3 #[.int .i64 a1_0, .int .i64 a1_1, .slice A1_2 l1_2.length c1_2] 59 ?_; intro gb312 hg w8 hbox hb; have BK312 := mS (hbox); have GW312 := mG hg (mH1 HB.out GE311.out); have GE312 := mG hg (mH1 HB.out GE311.out); replace HB := mS (below_step (mH1 HB.out GE311.out) hb); have NB311_312 := mNl hg BK311.out; have NB312_311 := mNg hg BK311.out; replace BK311 := mB BK311 hb; clear hb hbox hg; have hnb9 := NB311_312.out; have hnc9 := NB312_311.out; obtain ⟨hcz10_0, hcz10_1, hcz10_2, hfz10_0, hfz10_1, hfz10_2⟩ := mZ3 BK311.out; obtain ⟨hcz11_0, hcz11_1, hcz11_2, hfz11_0, hfz11_1, hfz11_2⟩ := mZ3 BK312.out) | ((with_reducible refine gate_callee (f := 66) rfl ?_); refine mGo 9 Try.func66 #[.agg #[.int .i64 a0_0, .int .i64 a0_1], .agg #[.int .i64 a1_0, .int .i64 a1_1]] ?_; (with_reducible refine (laws_eqDot.calls a0_0 a0_1 a1_0 a1_1 true _ A3.out).mono ?_); rintro e w12 ⟨rfl, hb⟩; refine ⟨_, rfl, ?_⟩; replace BK311 := mB BK311 hb; replace BK312 := mB BK312 hb; replace HB := mS (below_step (mH2 HB.out GE311.out GE312.out) hb); (try clear hb); obtain ⟨hcz13_0, hcz13_1, hcz13_2, hfz13_0, hfz13_1, hfz13_2⟩ := mZ3 BK311.out; obtain ⟨hcz14_0, hcz14_1, hcz14_2, hfz14_0, hfz14_1, hfz14_2⟩ := mZ3 BK312.out) | ((with_reducible refine gate_callee (f := 67) rfl ?_); refine mGo 15 Try.func67 #[.slice A0_2 l0_2.length c0_2, .slice A1_2 l1_2.length c1_2] ?_; (with_reducible refine (laws_eqDotS.calls k _ _ l0_2 _ _ l1_2 true _ ?side1 ?side2 ?side3 ?side4 A5.out).mono ?_); (case side1 => exact mC (Kd.C_below HR0_2.out HB.out)); (case side2 => exact HC0_2.out); (case side3 => exact mC (Kd.C_below HR1_2.out HB.out)); (case side4 => exact HC1_2.out); rintro e w15 ⟨rfl, hb⟩; refine ⟨_, rfl, ?_⟩; replace BK311 := mB BK311 hb; replace BK312 := mB BK312 hb; replace HB := mS (below_step (mH2 HB.out GE311.out GE312.out) hb); (try clear hb)))
   go_ret
   exact ⟨mEw, (mH2 HB.out GE311.out GE312.out)⟩
  ·replace c6 := Bool.eq_false_iff.mpr c6
   subst c6
   have H1 := H
   rw [if_neg (show ¬ (false = true) by decide)] at H1
   clear H
   have H := H1
   clear H1
   obtain rfl := Option.some.inj H
   go_enter Try.func30, Try.ntmps30
   go_wp2_with (first | ((with_reducible refine gate_dst (N := 2) rfl ?_); refine mBx 2 #[.int .i64 a0_0, .int .i64 a0_1, .slice A0_2 l0_2.length c0_2] 59 ?_; intro gb311 hg w16 hbox hb; have BK311 := mS (hbox); have GW311 := mG hg (mH HB.out); have GE311 := mG hg (mH HB.out); replace HB := mS (below_step (mH HB.out) hb); clear hb hbox hg) | ((with_reducible refine gate_dst (N := 3) rfl ?_); refine mBx 3 #[.int .i64 a1_0, .int .i64 a1_1, .slice A1_2 l1_2.length c1_2] 59 ?_; intro gb312 hg w17 hbox hb; have BK312 := mS (hbox); have GW312 := mG hg (mH1 HB.out GE311.out); have GE312 := mG hg (mH1 HB.out GE311.out); replace HB := mS (below_step (mH1 HB.out GE311.out) hb); have NB311_312 := mNl hg BK311.out; have NB312_311 := mNg hg BK311.out; replace BK311 := mB BK311 hb; clear hb hbox hg; have hnb18 := NB311_312.out; have hnc18 := NB312_311.out; obtain ⟨hcz19_0, hcz19_1, hcz19_2, hfz19_0, hfz19_1, hfz19_2⟩ := mZ3 BK311.out; obtain ⟨hcz20_0, hcz20_1, hcz20_2, hfz20_0, hfz20_1, hfz20_2⟩ := mZ3 BK312.out) | ((with_reducible refine gate_callee (f := 66) rfl ?_); refine mGo 9 Try.func66 #[.agg #[.int .i64 a0_0, .int .i64 a0_1], .agg #[.int .i64 a1_0, .int .i64 a1_1]] ?_; (with_reducible refine (laws_eqDot.calls a0_0 a0_1 a1_0 a1_1 true _ A3.out).mono ?_); rintro e w21 ⟨rfl, hb⟩; refine ⟨_, rfl, ?_⟩; replace BK311 := mB BK311 hb; replace BK312 := mB BK312 hb; replace HB := mS (below_step (mH2 HB.out GE311.out GE312.out) hb); (try clear hb); obtain ⟨hcz22_0, hcz22_1, hcz22_2, hfz22_0, hfz22_1, hfz22_2⟩ := mZ3 BK311.out; obtain ⟨hcz23_0, hcz23_1, hcz23_2, hfz23_0, hfz23_1, hfz23_2⟩ := mZ3 BK312.out) | ((with_reducible refine gate_callee (f := 67) rfl ?_); refine mGo 15 Try.func67 #[.slice A0_2 l0_2.length c0_2, .slice A1_2 l1_2.length c1_2] ?_; (with_reducible refine (laws_eqDotS.calls k _ _ l0_2 _ _ l1_2 false _ ?side1 ?side2 ?side3 ?side4 A5.out).mono ?_); (case side1 => exact mC (Kd.C_below HR0_2.out HB.out)); (case side2 => exact HC0_2.out); (case side3 => exact mC (Kd.C_below HR1_2.out HB.out)); (case side4 => exact HC1_2.out); rintro e w24 ⟨rfl, hb⟩; refine ⟨_, rfl, ?_⟩; replace BK311 := mB BK311 hb; replace BK312 := mB BK312 hb; replace HB := mS (below_step (mH2 HB.out GE311.out GE312.out) hb); (try clear hb)))
   go_ret
   exact ⟨mEw, (mH2 HB.out GE311.out GE312.out)⟩
 ·replace c4 := Bool.eq_false_iff.mpr c4
  subst c4
  have H1 := H
  rw [if_neg (show ¬ (false = true) by decide)] at H1
  clear H
  have H := H1
  clear H1
  obtain rfl := Option.some.inj H
  go_enter Try.func30, Try.ntmps30
  go_wp2_with (first | ((with_reducible refine gate_dst (N := 2) rfl ?_); refine mBx 2 #[.int .i64 a0_0, .int .i64 a0_1, .slice A0_2 l0_2.length c0_2] 59 ?_; intro gb311 hg w25 hbox hb; have BK311 := mS (hbox); have GW311 := mG hg (mH HB.out); have GE311 := mG hg (mH HB.out); replace HB := mS (below_step (mH HB.out) hb); clear hb hbox hg) | ((with_reducible refine gate_dst (N := 3) rfl ?_); refine mBx 3 #[.int .i64 a1_0, .int .i64 a1_1, .slice A1_2 l1_2.length c1_2] 59 ?_; intro gb312 hg w26 hbox hb; have BK312 := mS (hbox); have GW312 := mG hg (mH1 HB.out GE311.out); have GE312 := mG hg (mH1 HB.out GE311.out); replace HB := mS (below_step (mH1 HB.out GE311.out) hb); have NB311_312 := mNl hg BK311.out; have NB312_311 := mNg hg BK311.out; replace BK311 := mB BK311 hb; clear hb hbox hg; have hnb27 := NB311_312.out; have hnc27 := NB312_311.out; obtain ⟨hcz28_0, hcz28_1, hcz28_2, hfz28_0, hfz28_1, hfz28_2⟩ := mZ3 BK311.out; obtain ⟨hcz29_0, hcz29_1, hcz29_2, hfz29_0, hfz29_1, hfz29_2⟩ := mZ3 BK312.out) | ((with_reducible refine gate_callee (f := 66) rfl ?_); refine mGo 9 Try.func66 #[.agg #[.int .i64 a0_0, .int .i64 a0_1], .agg #[.int .i64 a1_0, .int .i64 a1_1]] ?_; (with_reducible refine (laws_eqDot.calls a0_0 a0_1 a1_0 a1_1 false _ A3.out).mono ?_); rintro e w30 ⟨rfl, hb⟩; refine ⟨_, rfl, ?_⟩; replace BK311 := mB BK311 hb; replace BK312 := mB BK312 hb; replace HB := mS (below_step (mH2 HB.out GE311.out GE312.out) hb); (try clear hb)))
  go_ret
  exact ⟨mEw, (mH2 HB.out GE311.out GE312.out)⟩

end Go.Proofs.Ytecjamgajlpfdaa.MFnExactGraphPut
