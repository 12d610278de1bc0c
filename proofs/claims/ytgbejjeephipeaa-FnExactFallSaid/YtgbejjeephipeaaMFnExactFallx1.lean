-- Written by mp.py, our own printer (wip/mp.py), and made shorter by wip/mp_shrink*.py.
import Derived.Test.YtgbejjeephipeaaVMShort
import Derived.Test.YtgbejjeephipeaaMFnExactFallx0
namespace Go.Proofs.Ytgbejjeephipeaa.MFnExactFall
open Go.RowKit Go.Proofs.YtgbejjeephipeaaW.PrintWords Go.Proofs.YtgbejjeephipeaaW.PrintLast Go.Proofs.YtgbejjeephipeaaW.PrintMore Go.Proofs.Ytgbejjeephipeaa.MWords
attribute [local go_sem] max2_int min2_int max_two min_two max_three min_three max_four min_four
set_option linter.unusedVariables false
set_option linter.unusedSimpArgs false
def laws_eqByteS.l0 : Nat → List Int → List Int → Int → Option (Bool)
 | 0, _, _, _ => none
 | k + 1, x0, x1, x5 => if x5 < (x0.length : Int) then (if 0 ≤ x5 then (if x5 < (x1.length : Int) then (if (rd x0 x5) = (rd x1 x5) then (laws_eqByteS.l0 k x0 x1 (wrap64 (x5 + 1))) else (some false)) else (none)) else (none)) else (some true)
def laws_eqByteS.f (k : Nat) (l0 : List Int) (l1 : List Int) : Option (Bool) := if (l0.length : Int) = (l1.length : Int) then (laws_eqByteS.l0 k l0 l1 0) else (some false)
set_option maxHeartbeats 8000000 in
set_option maxRecDepth 100000 in
theorem laws_eqByteS.calls (k : Nat) (A0 : Option Addr) (c0 : Nat) (l0 : List Int) (A1 : Option Addr) (c1 : Nat) (l1 : List Int) (r : Bool) (w : World) (hr0 : Kd.C (Kd.int .u8) w A0 l0.length l0) (hc0 : l0.length ≤ c0) (hr1 : Kd.C (Kd.int .u8) w A1 l1.length l1) (hc1 : l1.length ≤ c1) (h : laws_eqByteS.f k l0 l1 = some r) :
  Calls Try.prog 54 #[.slice A0 l0.length c0, .slice A1 l1.length c1] w fun e w' => e = .returned (.bool r) ∧ Drawn0 w w' := by
 have HR0 := mS hr0
 have HC0 := mS hc0
 clear hr0 hc0
 have HR1 := mS hr1
 have HC1 := mS hc1
 clear hr1 hc1
 have H : (if (l0.length : Int) = (l1.length : Int) then (laws_eqByteS.l0 k l0 l1 0) else (some false)) = some r := h
 clear h
 by_cases c3 : (l0.length : Int) = (l1.length : Int)
 ·rw [if_pos c3] at H
  have c3b0 : ((l0.length : Int) == (l1.length : Int)) = true := beq_iff_eq.mpr c3
  have c3b1 : ((l0.length : Int) != (l1.length : Int)) = false := bne_eq_false_iff_eq.mpr c3
  have c3b2 : (l0.length == l1.length) = true := by first | simpa using c3 | (simp at c3 ⊢; omega)
  clear c3
  have H' := mS H
  clear H
  go_enter Try.func54, Try.ntmps54
  go_wp2
  repeat (go_quiet (fail); try go_wp2)
  go_loopg [5] k (fun kq v5 w' => ∃ (x5_1 : Int), v5 = .int .i64 x5_1 ∧ Aside0 (laws_eqByteS.l0 kq l0 l1 x5_1 = some r) ∧ Aside0 (kq ≤ k) ∧ Drawn0 w w')
  case atStart => exact ⟨(0), mE, H', ⟨Nat.le_refl _⟩, by repeat (first | exact Drawn0.refl _ | apply Drawn0.step)⟩
  case round =>
   clear H'
   try clear c1
   try clear p2
   try clear c3
   try clear c3b0
   try clear c3b1
   try clear c3b2
   obtain ⟨x5_1, rfl, HA, HK1, ⟨m1, rfl⟩⟩ := hrel
   cases gk with
   | zero => exact absurd HA.out (by simp [laws_eqByteS.l0])
   | succ k1 =>
    have H := HA.out
    clear HA
    simp only [laws_eqByteS.l0] at H
    by_cases c4 : x5_1 < (l0.length : Int)
    ·rw [if_pos c4] at H
     have c4b0 := decide_eq_true c4
     clear c4
     by_cases c5 : 0 ≤ x5_1
     ·rw [if_pos c5] at H
      have c5b0 := decide_eq_true c5
      clear c5
      by_cases c6 : x5_1 < (l1.length : Int)
      ·rw [if_pos c6] at H
       have c6b0 := decide_eq_true c6
       clear c6
       by_cases c7 : (rd l0 x5_1) = (rd l1 x5_1)
       ·rw [if_pos c7] at H
        have c7b0 : ((rd l0 x5_1) == (rd l1 x5_1)) = true := beq_iff_eq.mpr c7
        have c7b1 : ((rd l0 x5_1) != (rd l1 x5_1)) = false := bne_eq_false_iff_eq.mpr c7
        clear c7
        have H' := mS H
        clear H
        have p101 : 0 ≤ (x5_1 : Int) := mD
        have q101 : x5_1 < (l0.length : Int) := mD
        obtain ⟨ad101, e101, hx101_0⟩ := Kd.at_int HR0.out x5_1 p101 q101
        cases e101
        replace p101 := eq_true p101
        replace q101 := eq_true q101
        have p102 : 0 ≤ (x5_1 : Int) := mD
        have q102 : x5_1 < (l1.length : Int) := mD
        obtain ⟨ad102, e102, hx102_0⟩ := Kd.at_int HR1.out x5_1 p102 q102
        cases e102
        replace p102 := eq_true p102
        replace q102 := eq_true q102
        go_wp2
        repeat (go_quiet (fail); try go_wp2)
        go_roundg k1
        case measure => have := HK1.out; omega
        case rel => exact ⟨(wrap64 (x5_1 + 1)), mE, H', ⟨by have := HK1.out; omega⟩, by repeat (first | exact Drawn0.refl _ | apply Drawn0.step)⟩
       ·rw [if_neg c7] at H
        have c7b0 : ((rd l0 x5_1) == (rd l1 x5_1)) = false := beq_eq_false_iff_ne.mpr c7
        have c7b1 : ((rd l0 x5_1) != (rd l1 x5_1)) = true := bne_iff_ne.mpr c7
        obtain rfl := Option.some.inj H
        have p101 : 0 ≤ (x5_1 : Int) := mD
        have q101 : x5_1 < (l0.length : Int) := mD
        obtain ⟨ad101, e101, hx101_0⟩ := Kd.at_int HR0.out x5_1 p101 q101
        cases e101
        replace p101 := eq_true p101
        replace q101 := eq_true q101
        have p102 : 0 ≤ (x5_1 : Int) := mD
        have q102 : x5_1 < (l1.length : Int) := mD
        obtain ⟨ad102, e102, hx102_0⟩ := Kd.at_int HR1.out x5_1 p102 q102
        cases e102
        replace p102 := eq_true p102
        replace q102 := eq_true q102
        go_wp2
        repeat (go_quiet (fail); try go_wp2)
        go_ret
        exact ⟨mE, by repeat (first | exact Drawn0.refl _ | apply Drawn0.step)⟩
      ·rw [if_neg c6] at H
       exact absurd H (by simp)
     ·rw [if_neg c5] at H
      exact absurd H (by simp)
    ·rw [if_neg c4] at H
     have c4b0 := decide_eq_false c4
     clear c4
     obtain rfl := Option.some.inj H
     go_wp2
     repeat (go_quiet (fail); try go_wp2)
     go_ret
     exact ⟨mE, by repeat (first | exact Drawn0.refl _ | apply Drawn0.step)⟩
 ·rw [if_neg c3] at H
  have c3b0 : ((l0.length : Int) == (l1.length : Int)) = false := beq_eq_false_iff_ne.mpr c3
  have c3b1 : ((l0.length : Int) != (l1.length : Int)) = true := bne_iff_ne.mpr c3
  have c3b2 : (l0.length == l1.length) = false := by first | simpa using c3 | (simp at c3 ⊢; omega)
  obtain rfl := Option.some.inj H
  go_enter Try.func54, Try.ntmps54
  go_wp2
  repeat (go_quiet (fail); try go_wp2)
  go_ret
  exact ⟨mE, by repeat (first | exact Drawn0.refl _ | apply Drawn0.step)⟩
def laws_eqInode.f (k : Nat) (a0_0 : Int) (l0_1 : List Int) (a0_2 : Int) (a1_0 : Int) (l1_1 : List Int) (a1_2 : Int) : Option (Bool) := if a0_0 = a1_0 then ((laws_eqByteS.f k l0_1 l1_1).bind fun t105 => (if t105 = true then (if a0_2 = a1_2 then (some true) else (some false)) else (some false))) else (some false)
set_option maxHeartbeats 8000000 in
set_option maxRecDepth 100000 in
theorem laws_eqInode.calls (k : Nat) (a0_0 : Int) (A0_1 : Option Addr) (c0_1 : Nat) (l0_1 : List Int) (a0_2 : Int) (a1_0 : Int) (A1_1 : Option Addr) (c1_1 : Nat) (l1_1 : List Int) (a1_2 : Int) (r : Bool) (w : World) (hr0_1 : Kd.C (Kd.int .u8) w A0_1 l0_1.length l0_1) (hc0_1 : l0_1.length ≤ c0_1) (hr1_1 : Kd.C (Kd.int .u8) w A1_1 l1_1.length l1_1) (hc1_1 : l1_1.length ≤ c1_1) (h : laws_eqInode.f k a0_0 l0_1 a0_2 a1_0 l1_1 a1_2 = some r) :
  Calls Try.prog 117 #[.agg #[.int .i64 a0_0, .slice A0_1 l0_1.length c0_1, .int .i64 a0_2], .agg #[.int .i64 a1_0, .slice A1_1 l1_1.length c1_1, .int .i64 a1_2]] w fun e w' => e = .returned (.bool r) ∧ Below w.heap.size w w' := by
 have hu120 := Try.underlying120
 have HR0_1 := mS hr0_1
 have HC0_1 := mS hc0_1
 clear hr0_1 hc0_1
 have HR1_1 := mS hr1_1
 have HC1_1 := mS hc1_1
 clear hr1_1 hc1_1
 have HB := mS (Below.refl w.heap.size w)
 have H : (if a0_0 = a1_0 then ((laws_eqByteS.f k l0_1 l1_1).bind fun t105 => (if t105 = true then (if a0_2 = a1_2 then (some true) else (some false)) else (some false))) else (some false)) = some r := h
 clear h
 by_cases c3 : a0_0 = a1_0
 ·rw [if_pos c3] at H
  have c3b0 : (a0_0 == a1_0) = true := beq_iff_eq.mpr c3
  have c3b1 : (a0_0 != a1_0) = false := bne_eq_false_iff_eq.mpr c3
  clear c3
  replace H := Option.bind_eq_some_iff.mp H
  obtain ⟨t105, A40, H⟩ := H
  replace H : (if t105 = true then (if a0_2 = a1_2 then (some true) else (some false)) else (some false)) = some r := H
  have A4 := mS A40
  clear A40
  by_cases c5 : t105 = true
  ·subst c5
   have H1 := H
   rw [if_pos rfl] at H1
   clear H
   have H := H1
   clear H1
   by_cases c6 : a0_2 = a1_2
   ·rw [if_pos c6] at H
    have c6b0 : (a0_2 == a1_2) = true := beq_iff_eq.mpr c6
    have c6b1 : (a0_2 != a1_2) = false := bne_eq_false_iff_eq.mpr c6
    clear c6
    obtain rfl := Option.some.inj H
    go_enter Try.func117, Try.ntmps117
    go_wp2_with (first | ((with_reducible refine gate_dst (N := 2) rfl ?_); refine mBx 2 #[.int .i64 a0_0, .slice A0_1 l0_1.length c0_1, .int .i64 a0_2] 120 ?_; intro gb103 hg w7 hbox hb; have BK103 := mS (hbox); have GW103 := mG hg (mH HB.out); have GE103 := mG hg (mH HB.out); replace HB := mS (below_step (mH HB.out) hb); clear hb hbox hg) | ((with_reducible refine gate_dst (N := 3) rfl ?_); refine mBx 3 #[.int .i64 a1_0, .slice A1_1 l1_1.length c1_1, .int .i64 a1_2] 120 ?_; intro gb104 hg w8 hbox hb; have BK104 := mS (hbox); have GW104 := mG hg (mH1 HB.out GE103.out); have GE104 := mG hg (mH1 HB.out GE103.out); replace HB := mS (below_step (mH1 HB.out GE103.out) hb); have NB103_104 := mNl hg BK103.out; have NB104_103 := mNg hg BK103.out; replace BK103 := mB BK103 hb; clear hb hbox hg; have hnb9 := NB103_104.out; have hnc9 := NB104_103.out; obtain ⟨hcz10_0, hcz10_1, hcz10_2, hfz10_0, hfz10_1, hfz10_2⟩ := mZ3 BK103.out; obtain ⟨hcz11_0, hcz11_1, hcz11_2, hfz11_0, hfz11_1, hfz11_2⟩ := mZ3 BK104.out) | ((with_reducible refine gate_callee (f := 54) rfl ?_); refine mGo 14 Try.func54 #[.slice A0_1 l0_1.length c0_1, .slice A1_1 l1_1.length c1_1] ?_; (with_reducible refine (laws_eqByteS.calls k _ _ l0_1 _ _ l1_1 true _ ?side1 ?side2 ?side3 ?side4 A4.out).mono ?_); (case side1 => exact mC (Kd.C_below HR0_1.out HB.out)); (case side2 => exact HC0_1.out); (case side3 => exact mC (Kd.C_below HR1_1.out HB.out)); (case side4 => exact HC1_1.out); rintro e w' ⟨rfl, ⟨nd, rfl⟩⟩; refine ⟨_, rfl, ?_⟩))
    go_ret
    exact ⟨mEw, (mH2 HB.out GE103.out GE104.out)⟩
   ·rw [if_neg c6] at H
    have c6b0 : (a0_2 == a1_2) = false := beq_eq_false_iff_ne.mpr c6
    have c6b1 : (a0_2 != a1_2) = true := bne_iff_ne.mpr c6
    obtain rfl := Option.some.inj H
    go_enter Try.func117, Try.ntmps117
    go_wp2_with (first | ((with_reducible refine gate_dst (N := 2) rfl ?_); refine mBx 2 #[.int .i64 a0_0, .slice A0_1 l0_1.length c0_1, .int .i64 a0_2] 120 ?_; intro gb103 hg w12 hbox hb; have BK103 := mS (hbox); have GW103 := mG hg (mH HB.out); have GE103 := mG hg (mH HB.out); replace HB := mS (below_step (mH HB.out) hb); clear hb hbox hg) | ((with_reducible refine gate_dst (N := 3) rfl ?_); refine mBx 3 #[.int .i64 a1_0, .slice A1_1 l1_1.length c1_1, .int .i64 a1_2] 120 ?_; intro gb104 hg w13 hbox hb; have BK104 := mS (hbox); have GW104 := mG hg (mH1 HB.out GE103.out); have GE104 := mG hg (mH1 HB.out GE103.out); replace HB := mS (below_step (mH1 HB.out GE103.out) hb); have NB103_104 := mNl hg BK103.out; have NB104_103 := mNg hg BK103.out; replace BK103 := mB BK103 hb; clear hb hbox hg; have hnb14 := NB103_104.out; have hnc14 := NB104_103.out; obtain ⟨hcz15_0, hcz15_1, hcz15_2, hfz15_0, hfz15_1, hfz15_2⟩ := mZ3 BK103.out; obtain ⟨hcz16_0, hcz16_1, hcz16_2, hfz16_0, hfz16_1, hfz16_2⟩ := mZ3 BK104.out) | ((with_reducible refine gate_callee (f := 54) rfl ?_); refine mGo 14 Try.func54 #[.slice A0_1 l0_1.length c0_1, .slice A1_1 l1_1.length c1_1] ?_; (with_reducible refine (laws_eqByteS.calls k _ _ l0_1 _ _ l1_1 true _ ?side1 ?side2 ?side3 ?side4 A4.out).mono ?_); (case side1 => exact mC (Kd.C_below HR0_1.out HB.out)); (case side2 => exact HC0_1.out); (case side3 => exact mC (Kd.C_below HR1_1.out HB.out)); (case side4 => exact HC1_1.out); rintro e w' ⟨rfl, ⟨nd, rfl⟩⟩; refine ⟨_, rfl, ?_⟩))
    go_ret
    exact ⟨mEw, (mH2 HB.out GE103.out GE104.out)⟩
  ·replace c5 := Bool.eq_false_iff.mpr c5
   subst c5
   have H1 := H
   rw [if_neg (show ¬ (false = true) by decide)] at H1
   clear H
   have H := H1
   clear H1
   obtain rfl := Option.some.inj H
   go_enter Try.func117, Try.ntmps117
   go_wp2_with (first | ((with_reducible refine gate_dst (N := 2) rfl ?_); refine mBx 2 #[.int .i64 a0_0, .slice A0_1 l0_1.length c0_1, .int .i64 a0_2] 120 ?_; intro gb103 hg w17 hbox hb; have BK103 := mS (hbox); have GW103 := mG hg (mH HB.out); have GE103 := mG hg (mH HB.out); replace HB := mS (below_step (mH HB.out) hb); clear hb hbox hg) | ((with_reducible refine gate_dst (N := 3) rfl ?_); refine mBx 3 #[.int .i64 a1_0, .slice A1_1 l1_1.length c1_1, .int .i64 a1_2] 120 ?_; intro gb104 hg w18 hbox hb; have BK104 := mS (hbox); have GW104 := mG hg (mH1 HB.out GE103.out); have GE104 := mG hg (mH1 HB.out GE103.out); replace HB := mS (below_step (mH1 HB.out GE103.out) hb); have NB103_104 := mNl hg BK103.out; have NB104_103 := mNg hg BK103.out; replace BK103 := mB BK103 hb; clear hb hbox hg; have hnb19 := NB103_104.out; have hnc19 := NB104_103.out; obtain ⟨hcz20_0, hcz20_1, hcz20_2, hfz20_0, hfz20_1, hfz20_2⟩ := mZ3 BK103.out; obtain ⟨hcz21_0, hcz21_1, hcz21_2, hfz21_0, hfz21_1, hfz21_2⟩ := mZ3 BK104.out) | ((with_reducible refine gate_callee (f := 54) rfl ?_); refine mGo 14 Try.func54 #[.slice A0_1 l0_1.length c0_1, .slice A1_1 l1_1.length c1_1] ?_; (with_reducible refine (laws_eqByteS.calls k _ _ l0_1 _ _ l1_1 false _ ?side1 ?side2 ?side3 ?side4 A4.out).mono ?_); (case side1 => exact mC (Kd.C_below HR0_1.out HB.out)); (case side2 => exact HC0_1.out); (case side3 => exact mC (Kd.C_below HR1_1.out HB.out)); (case side4 => exact HC1_1.out); rintro e w' ⟨rfl, ⟨nd, rfl⟩⟩; refine ⟨_, rfl, ?_⟩))
   go_ret
   exact ⟨mEw, (mH2 HB.out GE103.out GE104.out)⟩
 ·rw [if_neg c3] at H
  have c3b0 : (a0_0 == a1_0) = false := beq_eq_false_iff_ne.mpr c3
  have c3b1 : (a0_0 != a1_0) = true := bne_iff_ne.mpr c3
  obtain rfl := Option.some.inj H
  go_enter Try.func117, Try.ntmps117
  go_wp2_with (first | ((with_reducible refine gate_dst (N := 2) rfl ?_); refine mBx 2 #[.int .i64 a0_0, .slice A0_1 l0_1.length c0_1, .int .i64 a0_2] 120 ?_; intro gb103 hg w22 hbox hb; have BK103 := mS (hbox); have GW103 := mG hg (mH HB.out); have GE103 := mG hg (mH HB.out); replace HB := mS (below_step (mH HB.out) hb); clear hb hbox hg) | ((with_reducible refine gate_dst (N := 3) rfl ?_); refine mBx 3 #[.int .i64 a1_0, .slice A1_1 l1_1.length c1_1, .int .i64 a1_2] 120 ?_; intro gb104 hg w23 hbox hb; have BK104 := mS (hbox); have GW104 := mG hg (mH1 HB.out GE103.out); have GE104 := mG hg (mH1 HB.out GE103.out); replace HB := mS (below_step (mH1 HB.out GE103.out) hb); have NB103_104 := mNl hg BK103.out; have NB104_103 := mNg hg BK103.out; replace BK103 := mB BK103 hb; clear hb hbox hg; have hnb24 := NB103_104.out; have hnc24 := NB104_103.out; obtain ⟨hcz25_0, hcz25_1, hcz25_2, hfz25_0, hfz25_1, hfz25_2⟩ := mZ3 BK103.out; obtain ⟨hcz26_0, hcz26_1, hcz26_2, hfz26_0, hfz26_1, hfz26_2⟩ := mZ3 BK104.out))
  go_ret
  exact ⟨mEw, (mH2 HB.out GE103.out GE104.out)⟩
def laws_eqInodeS.l0 : Nat → List (S120) → List (S120) → Int → Option (Bool)
 | 0, _, _, _ => none
 | k + 1, x0, x1, x5 => if x5 < (x0.length : Int) then (if 0 ≤ x5 then (if x5 < (x1.length : Int) then ((laws_eqInode.f k ((rd_T120 x0 x5).f0) ((rd_T120 x0 x5).f1) ((rd_T120 x0 x5).f2) ((rd_T120 x1 x5).f0) ((rd_T120 x1 x5).f1) ((rd_T120 x1 x5).f2)).bind fun t108 => (if t108 = true then (laws_eqInodeS.l0 k x0 x1 (wrap64 (x5 + 1))) else (some false))) else (none)) else (none)) else (some true)
def laws_eqInodeS.f (k : Nat) (l0 : List (S120)) (l1 : List (S120)) : Option (Bool) := if (l0.length : Int) = (l1.length : Int) then (laws_eqInodeS.l0 k l0 l1 0) else (some false)
def laws_eqInodeS.T6 : Bool × List (List Nat × List Nat) := (true, [([], []), ([], []), ([0, 1], [0, 1]), ([2], [2]), ([], []), ([], []), ([4, 5], [4, 5]), ([6], [6]), ([3, 7], [3, 7]), ([8], [8])])
def laws_eqInodeS.B6 : List Nat := [0, 0, 3, 7, 0, 0, 48, 112, 255, 511]
theorem laws_eqInodeS.tab6 : rtab .any (opsOf Try.f85 6) = laws_eqInodeS.T6 := by kernel_rfl
theorem laws_eqInodeS.bits6 : waitsOk laws_eqInodeS.T6.2 laws_eqInodeS.B6 = true := by kernel_rfl
set_option maxHeartbeats 8000000 in
set_option maxRecDepth 100000 in
theorem laws_eqInodeS.calls (k : Nat) (A0 : Option Addr) (c0 : Nat) (l0 : List (S120)) (A1 : Option Addr) (c1 : Nat) (l1 : List (S120)) (r : Bool) (w : World) (hr0 : Kd.C k120 w A0 l0.length l0) (hc0 : l0.length ≤ c0) (hr1 : Kd.C k120 w A1 l1.length l1) (hc1 : l1.length ≤ c1) (h : laws_eqInodeS.f k l0 l1 = some r) :
  Calls Try.prog 85 #[.slice A0 l0.length c0, .slice A1 l1.length c1] w fun e w' => e = .returned (.bool r) ∧ Below w.heap.size w w' := by
 have hu120 := Try.underlying120
 have HR0 := mS hr0
 have HC0 := mS hc0
 clear hr0 hc0
 have HR1 := mS hr1
 have HC1 := mS hc1
 clear hr1 hc1
 have HB := mS (Below.refl w.heap.size w)
 have H : (if (l0.length : Int) = (l1.length : Int) then (laws_eqInodeS.l0 k l0 l1 0) else (some false)) = some r := h
 clear h
 by_cases c3 : (l0.length : Int) = (l1.length : Int)
 ·rw [if_pos c3] at H
  have c3b0 : ((l0.length : Int) == (l1.length : Int)) = true := beq_iff_eq.mpr c3
  have c3b1 : ((l0.length : Int) != (l1.length : Int)) = false := bne_eq_false_iff_eq.mpr c3
  have c3b2 : (l0.length == l1.length) = true := by first | simpa using c3 | (simp at c3 ⊢; omega)
  clear c3
  have H' := mS H
  clear H
  go_enter Try.func85, Try.ntmps85
  go_wp2
  go_loopg [5] k (fun kq v5 w' => ∃ (x5_1 : Int), v5 = .int .i64 x5_1 ∧ Aside0 (laws_eqInodeS.l0 kq l0 l1 x5_1 = some r) ∧ Aside0 (kq ≤ k) ∧ Aside0 (Below w.heap.size w w'))
  case atStart => exact ⟨(0), mE, H', ⟨Nat.le_refl _⟩, ⟨(mH HB.out)⟩⟩
  case round =>
   clear H'
   try clear c1
   try clear p2
   try clear c3
   try clear c3b0
   try clear c3b1
   try clear c3b2
   obtain ⟨x5_1, rfl, HA, HK1, HB⟩ := hrel
   cases gk with
   | zero => exact absurd HA.out (by simp [laws_eqInodeS.l0])
   | succ k1 =>
    have H := HA.out
    clear HA
    simp only [laws_eqInodeS.l0] at H
    by_cases c4 : x5_1 < (l0.length : Int)
    ·rw [if_pos c4] at H
     have c4b0 := decide_eq_true c4
     clear c4
     by_cases c5 : 0 ≤ x5_1
     ·rw [if_pos c5] at H
      have c5b0 := decide_eq_true c5
      clear c5
      by_cases c6 : x5_1 < (l1.length : Int)
      ·rw [if_pos c6] at H
       have c6b0 := decide_eq_true c6
       clear c6
       replace H := Option.bind_eq_some_iff.mp H
       obtain ⟨t108, A70, H⟩ := H
       replace H : (if t108 = true then (laws_eqInodeS.l0 k1 l0 l1 (wrap64 (x5_1 + 1))) else (some false)) = some r := H
       have A7 := mS A70
       clear A70
       by_cases c8 : t108 = true
       ·subst c8
        have H1 := H
        rw [if_pos rfl] at H1
        clear H
        have H := H1
        clear H1
        have H' := mS H
        clear H
        try go_wp2
        replace HB := mS (below_drew1 HB.out)
        have p106 : 0 ≤ (x5_1 : Int) := mD
        have q106 : x5_1 < (l0.length : Int) := mD
        obtain ⟨ad106, A106_1, c106_1, e106, hx106_0, hx106_1, hx106_2, hl106_1, hi106_1⟩ := at_T120 HR0.out x5_1 p106 q106
        have hw106_2 := hx106_2
        have hw106_1 := hx106_1
        have hw106_0 := hx106_0
        cases e106
        replace hx106_0 := mX HB.out hx106_0
        replace hx106_1 := mX HB.out hx106_1
        replace hx106_2 := mX HB.out hx106_2
        have HR106_1 := mS hi106_1
        have HC106_1 := mS hl106_1
        clear hi106_1 hl106_1
        replace p106 := eq_true p106
        replace q106 := eq_true q106
        have p107 : 0 ≤ (x5_1 : Int) := mD
        have q107 : x5_1 < (l1.length : Int) := mD
        obtain ⟨ad107, A107_1, c107_1, e107, hx107_0, hx107_1, hx107_2, hl107_1, hi107_1⟩ := at_T120 HR1.out x5_1 p107 q107
        have hw107_2 := hx107_2
        have hw107_1 := hx107_1
        have hw107_0 := hx107_0
        cases e107
        replace hx107_0 := mX HB.out hx107_0
        replace hx107_1 := mX HB.out hx107_1
        replace hx107_2 := mX HB.out hx107_2
        have HR107_1 := mS hi107_1
        have HC107_1 := mS hl107_1
        clear hi107_1 hl107_1
        replace p107 := eq_true p107
        replace q107 := eq_true q107
        refine start_ (n := 10) (S := fun w' => w'.cell? (ad106.add ((x5_1).toNat * 3)) = some (.int .i64 ((rd_T120 l0 x5_1).f0)) ∧ w'.cell? ⟨(ad106.add ((x5_1).toNat * 3)).block, (ad106.add ((x5_1).toNat * 3)).off + 1, none⟩ = some (.slice A106_1 ((rd_T120 l0 x5_1).f1).length c106_1) ∧ w'.cell? ⟨(ad106.add ((x5_1).toNat * 3)).block, (ad106.add ((x5_1).toNat * 3)).off + 2, none⟩ = some (.int .i64 ((rd_T120 l0 x5_1).f2)) ∧ w'.cell? (ad107.add ((x5_1).toNat * 3)) = some (.int .i64 ((rd_T120 l1 x5_1).f0)) ∧ w'.cell? ⟨(ad107.add ((x5_1).toNat * 3)).block, (ad107.add ((x5_1).toNat * 3)).off + 1, none⟩ = some (.slice A107_1 ((rd_T120 l1 x5_1).f1).length c107_1) ∧ w'.cell? ⟨(ad107.add ((x5_1).toNat * 3)).block, (ad107.add ((x5_1).toNat * 3)).off + 2, none⟩ = some (.int .i64 ((rd_T120 l1 x5_1).f2))) (ds := []) (mb 0 10) (by kernel_rfl) rfl rfl ⟨(mX HB.out hw106_0 :), (mX HB.out hw106_1 :), (mX HB.out hw106_2 :), (mX HB.out hw107_0 :), (mX HB.out hw107_1 :), (mX HB.out hw107_2 :)⟩ (fun hHeld => ?_); refine with_tabW laws_eqInodeS.tab6 laws_eqInodeS.bits6 (fun HT_ HW_ => ?_)
        generalize wr.drew = w9 at HB HR106_1 HR107_1 hx106_0 hx106_1 hx106_2 hx107_0 hx107_1 hx107_2 hHeld ⊢
        refine mpu 0 17 HT_.out (mb 1 9) ?_
        refine mpu 1 18 HT_.out (mb 2 8) ?_
        refine mpu 2 19 HT_.out (mb 3 7) ?_
        refine mpu 4 21 HT_.out (mr [3,1,1,5]) ?_
        refine mpu 5 22 HT_.out (mr [3,1,2,4]) ?_
        refine mpu 6 23 HT_.out (mr [3,1,3,3]) ?_
        refine mpt 3 20 HT_.out HW_.out (mb 7 3) hHeld ?_
        refine mpt 7 24 HT_.out HW_.out (mb 8 2) hHeld ?_
        refine mone 8 (some 25) HT_.out (mb 9 1) (fun K hK => ?_)
        refine goes_ Try.func117 (by kernel_rfl) rfl #[.agg #[.int .i64 ((rd_T120 l0 x5_1).f0), .slice A106_1 ((rd_T120 l0 x5_1).f1).length c106_1, .int .i64 ((rd_T120 l0 x5_1).f2)], .agg #[.int .i64 ((rd_T120 l1 x5_1).f0), .slice A107_1 ((rd_T120 l1 x5_1).f1).length c107_1, .int .i64 ((rd_T120 l1 x5_1).f2)]] (by rfl) rfl rfl mA ?_
        with_reducible refine (laws_eqInode.calls k1 ((rd_T120 l0 x5_1).f0) _ _ ((rd_T120 l0 x5_1).f1) ((rd_T120 l0 x5_1).f2) ((rd_T120 l1 x5_1).f0) _ _ ((rd_T120 l1 x5_1).f1) ((rd_T120 l1 x5_1).f2) true _ ?side1 ?side2 ?side3 ?side4 A7.out).mono ?_
        (case side1 => exact mC (Kd.C_below HR106_1.out HB.out))
        (case side2 => exact HC106_1.out)
        (case side3 => exact mC (Kd.C_below HR107_1.out HB.out))
        (case side4 => exact HC107_1.out)
        rintro e w10 ⟨rfl, hb⟩
        refine ⟨_, rfl, ?_⟩
        replace HB := mS (below_step (mH HB.out) hb)
        (try clear hb)
        (try clear hb2)
        (try clear hk)
        (try clear hi)
        refine hK.out _ _ ⟨(mX HB.out hw106_0 :), (mX HB.out hw106_1 :), (mX HB.out hw106_2 :), (mX HB.out hw107_0 :), (mX HB.out hw107_1 :), (mX HB.out hw107_2 :)⟩ (fun hHeld => ?_)
        clear hK K
        refine mno 25 ?_
        refine mpu 9 26 HT_.out (mb 10 0) ?_
        refine done_ (done_of HT_.out (by kernel_rfl)) ?_
        try go_wp2
        go_roundg k1
        case measure => have := HK1.out; omega
        case rel => exact ⟨(wrap64 (x5_1 + 1)), mE, H', ⟨by have := HK1.out; omega⟩, ⟨(mH HB.out)⟩⟩
       ·replace c8 := Bool.eq_false_iff.mpr c8
        subst c8
        have H1 := H
        rw [if_neg (show ¬ (false = true) by decide)] at H1
        clear H
        have H := H1
        clear H1
        obtain rfl := Option.some.inj H
        try go_wp2
        replace HB := mS (below_drew1 HB.out)
        have p106 : 0 ≤ (x5_1 : Int) := mD
        have q106 : x5_1 < (l0.length : Int) := mD
        obtain ⟨ad106, A106_1, c106_1, e106, hx106_0, hx106_1, hx106_2, hl106_1, hi106_1⟩ := at_T120 HR0.out x5_1 p106 q106
        have hw106_2 := hx106_2
        have hw106_1 := hx106_1
        have hw106_0 := hx106_0
        cases e106
        replace hx106_0 := mX HB.out hx106_0
        replace hx106_1 := mX HB.out hx106_1
        replace hx106_2 := mX HB.out hx106_2
        have HR106_1 := mS hi106_1
        have HC106_1 := mS hl106_1
        clear hi106_1 hl106_1
        replace p106 := eq_true p106
        replace q106 := eq_true q106
        have p107 : 0 ≤ (x5_1 : Int) := mD
        have q107 : x5_1 < (l1.length : Int) := mD
        obtain ⟨ad107, A107_1, c107_1, e107, hx107_0, hx107_1, hx107_2, hl107_1, hi107_1⟩ := at_T120 HR1.out x5_1 p107 q107
        have hw107_2 := hx107_2
        have hw107_1 := hx107_1
        have hw107_0 := hx107_0
        cases e107
        replace hx107_0 := mX HB.out hx107_0
        replace hx107_1 := mX HB.out hx107_1
        replace hx107_2 := mX HB.out hx107_2
        have HR107_1 := mS hi107_1
        have HC107_1 := mS hl107_1
        clear hi107_1 hl107_1
        replace p107 := eq_true p107
        replace q107 := eq_true q107
        refine start_ (n := 10) (S := fun w' => w'.cell? (ad106.add ((x5_1).toNat * 3)) = some (.int .i64 ((rd_T120 l0 x5_1).f0)) ∧ w'.cell? ⟨(ad106.add ((x5_1).toNat * 3)).block, (ad106.add ((x5_1).toNat * 3)).off + 1, none⟩ = some (.slice A106_1 ((rd_T120 l0 x5_1).f1).length c106_1) ∧ w'.cell? ⟨(ad106.add ((x5_1).toNat * 3)).block, (ad106.add ((x5_1).toNat * 3)).off + 2, none⟩ = some (.int .i64 ((rd_T120 l0 x5_1).f2)) ∧ w'.cell? (ad107.add ((x5_1).toNat * 3)) = some (.int .i64 ((rd_T120 l1 x5_1).f0)) ∧ w'.cell? ⟨(ad107.add ((x5_1).toNat * 3)).block, (ad107.add ((x5_1).toNat * 3)).off + 1, none⟩ = some (.slice A107_1 ((rd_T120 l1 x5_1).f1).length c107_1) ∧ w'.cell? ⟨(ad107.add ((x5_1).toNat * 3)).block, (ad107.add ((x5_1).toNat * 3)).off + 2, none⟩ = some (.int .i64 ((rd_T120 l1 x5_1).f2))) (ds := []) (mb 0 10) (by kernel_rfl) rfl rfl ⟨(mX HB.out hw106_0 :), (mX HB.out hw106_1 :), (mX HB.out hw106_2 :), (mX HB.out hw107_0 :), (mX HB.out hw107_1 :), (mX HB.out hw107_2 :)⟩ (fun hHeld => ?_); refine with_tabW laws_eqInodeS.tab6 laws_eqInodeS.bits6 (fun HT_ HW_ => ?_)
        generalize wr.drew = w11 at HB HR106_1 HR107_1 hx106_0 hx106_1 hx106_2 hx107_0 hx107_1 hx107_2 hHeld ⊢
        refine mpu 0 17 HT_.out (mb 1 9) ?_
        refine mpu 1 18 HT_.out (mb 2 8) ?_
        refine mpu 2 19 HT_.out (mb 3 7) ?_
        refine mpu 4 21 HT_.out (mr [3,1,1,5]) ?_
        refine mpu 5 22 HT_.out (mr [3,1,2,4]) ?_
        refine mpu 6 23 HT_.out (mr [3,1,3,3]) ?_
        refine mpt 3 20 HT_.out HW_.out (mb 7 3) hHeld ?_
        refine mpt 7 24 HT_.out HW_.out (mb 8 2) hHeld ?_
        refine mone 8 (some 25) HT_.out (mb 9 1) (fun K hK => ?_)
        refine goes_ Try.func117 (by kernel_rfl) rfl #[.agg #[.int .i64 ((rd_T120 l0 x5_1).f0), .slice A106_1 ((rd_T120 l0 x5_1).f1).length c106_1, .int .i64 ((rd_T120 l0 x5_1).f2)], .agg #[.int .i64 ((rd_T120 l1 x5_1).f0), .slice A107_1 ((rd_T120 l1 x5_1).f1).length c107_1, .int .i64 ((rd_T120 l1 x5_1).f2)]] (by rfl) rfl rfl mA ?_
        with_reducible refine (laws_eqInode.calls k1 ((rd_T120 l0 x5_1).f0) _ _ ((rd_T120 l0 x5_1).f1) ((rd_T120 l0 x5_1).f2) ((rd_T120 l1 x5_1).f0) _ _ ((rd_T120 l1 x5_1).f1) ((rd_T120 l1 x5_1).f2) false _ ?side1 ?side2 ?side3 ?side4 A7.out).mono ?_
        (case side1 => exact mC (Kd.C_below HR106_1.out HB.out))
        (case side2 => exact HC106_1.out)
        (case side3 => exact mC (Kd.C_below HR107_1.out HB.out))
        (case side4 => exact HC107_1.out)
        rintro e w12 ⟨rfl, hb⟩
        refine ⟨_, rfl, ?_⟩
        replace HB := mS (below_step (mH HB.out) hb)
        (try clear hb)
        (try clear hb2)
        (try clear hk)
        (try clear hi)
        refine hK.out _ _ ⟨(mX HB.out hw106_0 :), (mX HB.out hw106_1 :), (mX HB.out hw106_2 :), (mX HB.out hw107_0 :), (mX HB.out hw107_1 :), (mX HB.out hw107_2 :)⟩ (fun hHeld => ?_)
        clear hK K
        refine mno 25 ?_
        refine mpu 9 26 HT_.out (mb 10 0) ?_
        refine done_ (done_of HT_.out (by kernel_rfl)) ?_
        try go_wp2
        go_ret
        exact ⟨mEw, (mH HB.out)⟩
      ·rw [if_neg c6] at H
       exact absurd H (by simp)
     ·rw [if_neg c5] at H
      exact absurd H (by simp)
    ·rw [if_neg c4] at H
     have c4b0 := decide_eq_false c4
     clear c4
     obtain rfl := Option.some.inj H
     go_wp2
     go_ret
     exact ⟨mEw, (mH HB.out)⟩
 ·rw [if_neg c3] at H
  have c3b0 : ((l0.length : Int) == (l1.length : Int)) = false := beq_eq_false_iff_ne.mpr c3
  have c3b1 : ((l0.length : Int) != (l1.length : Int)) = true := bne_iff_ne.mpr c3
  have c3b2 : (l0.length == l1.length) = false := by first | simpa using c3 | (simp at c3 ⊢; omega)
  obtain rfl := Option.some.inj H
  go_enter Try.func85, Try.ntmps85
  go_wp2
  go_ret
  exact ⟨mEw, (mH HB.out)⟩
def laws_eqEntry.f (a0_0 : ByteArray) (a0_1 : Int) (a1_0 : ByteArray) (a1_1 : Int) : Option (Bool) := if a0_0.toList = a1_0.toList then (if a0_1 = a1_1 then (some true) else (some false)) else (some false)
set_option maxHeartbeats 8000000 in
set_option maxRecDepth 100000 in
theorem laws_eqEntry.calls (a0_0 : ByteArray) (a0_1 : Int) (a1_0 : ByteArray) (a1_1 : Int) (r : Bool) (w : World) (h : laws_eqEntry.f a0_0 a0_1 a1_0 a1_1 = some r) :
  Calls Try.prog 118 #[.agg #[.string a0_0, .int .i64 a0_1], .agg #[.string a1_0, .int .i64 a1_1]] w fun e w' => e = .returned (.bool r) ∧ Below w.heap.size w w' := by
 have hu126 := Try.underlying126
 have HB := mS (Below.refl w.heap.size w)
 have H : (if a0_0.toList = a1_0.toList then (if a0_1 = a1_1 then (some true) else (some false)) else (some false)) = some r := h
 clear h
 by_cases c3 : a0_0.toList = a1_0.toList
 ·rw [if_pos c3] at H
  have c3b0 : (a0_0.toList == a1_0.toList) = true := beq_iff_eq.mpr c3
  have c3b1 : (a0_0.toList != a1_0.toList) = false := bne_eq_false_iff_eq.mpr c3
  clear c3
  by_cases c4 : a0_1 = a1_1
  ·rw [if_pos c4] at H
   have c4b0 : (a0_1 == a1_1) = true := beq_iff_eq.mpr c4
   have c4b1 : (a0_1 != a1_1) = false := bne_eq_false_iff_eq.mpr c4
   clear c4
   obtain rfl := Option.some.inj H
   go_enter Try.func118, Try.ntmps118
   go_wp2_with (first | ((with_reducible refine gate_dst (N := 2) rfl ?_); refine mBx 2 #[.string a0_0, .int .i64 a0_1] 126 ?_; intro gb109 hg w5 hbox hb; have BK109 := mS (hbox); have GW109 := mG hg (mH HB.out); have GE109 := mG hg (mH HB.out); replace HB := mS (below_step (mH HB.out) hb); clear hb hbox hg) | ((with_reducible refine gate_dst (N := 3) rfl ?_); refine mBx 3 #[.string a1_0, .int .i64 a1_1] 126 ?_; intro gb110 hg w6 hbox hb; have BK110 := mS (hbox); have GW110 := mG hg (mH1 HB.out GE109.out); have GE110 := mG hg (mH1 HB.out GE109.out); replace HB := mS (below_step (mH1 HB.out GE109.out) hb); have NB109_110 := mNl hg BK109.out; have NB110_109 := mNg hg BK109.out; replace BK109 := mB BK109 hb; clear hb hbox hg; have hnb7 := NB109_110.out; have hnc7 := NB110_109.out; obtain ⟨hcz8_0, hcz8_1, hfz8_0, hfz8_1⟩ := mZ2 BK109.out; obtain ⟨hcz9_0, hcz9_1, hfz9_0, hfz9_1⟩ := mZ2 BK110.out))
   go_ret
   exact ⟨mEw, (mH2 HB.out GE109.out GE110.out)⟩
  ·rw [if_neg c4] at H
   have c4b0 : (a0_1 == a1_1) = false := beq_eq_false_iff_ne.mpr c4
   have c4b1 : (a0_1 != a1_1) = true := bne_iff_ne.mpr c4
   obtain rfl := Option.some.inj H
   go_enter Try.func118, Try.ntmps118
   go_wp2_with (first | ((with_reducible refine gate_dst (N := 2) rfl ?_); refine mBx 2 #[.string a0_0, .int .i64 a0_1] 126 ?_; intro gb109 hg w10 hbox hb; have BK109 := mS (hbox); have GW109 := mG hg (mH HB.out); have GE109 := mG hg (mH HB.out); replace HB := mS (below_step (mH HB.out) hb); clear hb hbox hg) | ((with_reducible refine gate_dst (N := 3) rfl ?_); refine mBx 3 #[.string a1_0, .int .i64 a1_1] 126 ?_; intro gb110 hg w11 hbox hb; have BK110 := mS (hbox); have GW110 := mG hg (mH1 HB.out GE109.out); have GE110 := mG hg (mH1 HB.out GE109.out); replace HB := mS (below_step (mH1 HB.out GE109.out) hb); have NB109_110 := mNl hg BK109.out; have NB110_109 := mNg hg BK109.out; replace BK109 := mB BK109 hb; clear hb hbox hg; have hnb12 := NB109_110.out; have hnc12 := NB110_109.out; obtain ⟨hcz13_0, hcz13_1, hfz13_0, hfz13_1⟩ := mZ2 BK109.out; obtain ⟨hcz14_0, hcz14_1, hfz14_0, hfz14_1⟩ := mZ2 BK110.out))
   go_ret
   exact ⟨mEw, (mH2 HB.out GE109.out GE110.out)⟩
 ·rw [if_neg c3] at H
  have c3b0 : (a0_0.toList == a1_0.toList) = false := beq_eq_false_iff_ne.mpr c3
  have c3b1 : (a0_0.toList != a1_0.toList) = true := bne_iff_ne.mpr c3
  obtain rfl := Option.some.inj H
  go_enter Try.func118, Try.ntmps118
  go_wp2_with (first | ((with_reducible refine gate_dst (N := 2) rfl ?_); refine mBx 2 #[.string a0_0, .int .i64 a0_1] 126 ?_; intro gb109 hg w15 hbox hb; have BK109 := mS (hbox); have GW109 := mG hg (mH HB.out); have GE109 := mG hg (mH HB.out); replace HB := mS (below_step (mH HB.out) hb); clear hb hbox hg) | ((with_reducible refine gate_dst (N := 3) rfl ?_); refine mBx 3 #[.string a1_0, .int .i64 a1_1] 126 ?_; intro gb110 hg w16 hbox hb; have BK110 := mS (hbox); have GW110 := mG hg (mH1 HB.out GE109.out); have GE110 := mG hg (mH1 HB.out GE109.out); replace HB := mS (below_step (mH1 HB.out GE109.out) hb); have NB109_110 := mNl hg BK109.out; have NB110_109 := mNg hg BK109.out; replace BK109 := mB BK109 hb; clear hb hbox hg; have hnb17 := NB109_110.out; have hnc17 := NB110_109.out; obtain ⟨hcz18_0, hcz18_1, hfz18_0, hfz18_1⟩ := mZ2 BK109.out; obtain ⟨hcz19_0, hcz19_1, hfz19_0, hfz19_1⟩ := mZ2 BK110.out))
  go_ret
  exact ⟨mEw, (mH2 HB.out GE109.out GE110.out)⟩
end Go.Proofs.Ytgbejjeephipeaa.MFnExactFall
