-- Written by mp.py, this session's own printer (wip/mp.py).
import Derived.Test.YtecjamgajlpfdaaVMShort
import Derived.Test.YtecjamgajlpfdaaMFnExactGraphPutx0
import Derived.Test.YtecjamgajlpfdaaMFnExactGraphPutx1
namespace Go.Proofs.Ytecjamgajlpfdaa.MFnExactGraphPut
open Go.RowKit Go.Proofs.YtecjamgajlpfdaaW.PrintWords Go.Proofs.YtecjamgajlpfdaaW.PrintLast Go.Proofs.YtecjamgajlpfdaaW.PrintMore Go.Proofs.Ytecjamgajlpfdaa.MWords
attribute [local go_sem] max2_int min2_int max_two min_two max_three min_three max_four min_four   -- for this text's walks alone
set_option linter.unusedVariables false
set_option linter.unusedSimpArgs false

attribute [local go_sem high] eqA56
/-! ### laws_szDotS: function 51 -/
def laws_szDotS.f (l0 : List (S44)) (a1 : Int) : Option (Int) := if (wrap64 (a1 - (l0.length : Int))) < 0 then (some (-1)) else (some (wrap64 (a1 - (l0.length : Int))))
set_option maxHeartbeats 8000000 in
set_option maxRecDepth 100000 in
theorem laws_szDotS.calls (A0 : Option Addr) (c0 : Nat) (l0 : List (S44)) (a1 : Int) (r : Int) (w : World) (hr0 : Kd.C k44 w A0 l0.length l0) (hc0 : l0.length ≤ c0) (h : laws_szDotS.f l0 a1 = some r) :
  Calls Try.prog 51 #[.slice A0 l0.length c0, .int .i64 a1] w fun e w' => e = .returned (.int .i64 r) ∧ Drawn0 w w' := by
 have HR0 := mS hr0
 have HC0 := mS hc0
 clear hr0 hc0
 have H : (if (wrap64 (a1 - (l0.length : Int))) < 0 then (some (-1)) else (some (wrap64 (a1 - (l0.length : Int))))) = some r := h
 clear h
 by_cases c3 : (wrap64 (a1 - (l0.length : Int))) < 0
 ·rw [if_pos c3] at H
  have c3b0 := decide_eq_true c3
  clear c3
  obtain rfl := Option.some.inj H
  go_enter Try.func51, Try.ntmps51
  go_wp2
  go_ret
  exact ⟨mE, by repeat (first | exact Drawn0.refl _ | apply Drawn0.step)⟩
 ·rw [if_neg c3] at H
  have c3b0 := decide_eq_false c3
  clear c3
  obtain rfl := Option.some.inj H
  go_enter Try.func51, Try.ntmps51
  go_wp2
  go_ret
  exact ⟨mE, by repeat (first | exact Drawn0.refl _ | apply Drawn0.step)⟩

/-! ### laws_szItem: function 24 -/
def laws_szItem.f (a0_0 : Int) (a0_1 : Int) (l0_2 : List (S44)) (a1 : Int) : Option (Int) := (laws_szDotS.f l0_2 a1).bind fun t102 => (if t102 < 0 then (some (-1)) else (some t102))
set_option maxHeartbeats 8000000 in
set_option maxRecDepth 100000 in
theorem laws_szItem.calls (a0_0 : Int) (a0_1 : Int) (A0_2 : Option Addr) (c0_2 : Nat) (l0_2 : List (S44)) (a1 : Int) (r : Int) (w : World) (hr0_2 : Kd.C k44 w A0_2 l0_2.length l0_2) (hc0_2 : l0_2.length ≤ c0_2) (h : laws_szItem.f a0_0 a0_1 l0_2 a1 = some r) :
  Calls Try.prog 24 #[.agg #[.int .i64 a0_0, .int .i64 a0_1, .slice A0_2 l0_2.length c0_2], .int .i64 a1] w fun e w' => e = .returned (.int .i64 r) ∧ Below w.heap.size w w' := by
 have hu47 := Try.underlying47
 have HR0_2 := mS hr0_2
 have HC0_2 := mS hc0_2
 clear hr0_2 hc0_2
 have HB := mS (Below.refl w.heap.size w)
 have H : ((laws_szDotS.f l0_2 a1).bind fun t102 => (if t102 < 0 then (some (-1)) else (some t102))) = some r := h
 clear h
 replace H := Option.bind_eq_some_iff.mp H
 obtain ⟨t102, A30, H⟩ := H
 replace H : (if t102 < 0 then (some (-1)) else (some t102)) = some r := H
 have A3 := mS A30
 clear A30
 by_cases c4 : t102 < 0
 ·rw [if_pos c4] at H
  have c4b0 := decide_eq_true c4
  clear c4
  obtain rfl := Option.some.inj H
  go_enter Try.func24, Try.ntmps24
  go_wp2_with (first | ((with_reducible refine gate_dst (N := 2) rfl ?_); refine mBx 2 #[.int .i64 a0_0, .int .i64 a0_1, .slice A0_2 l0_2.length c0_2] 47 ?_; intro gb101 hg w5 hbox hb; have BK101 := mS (hbox); have GW101 := mG hg (mH HB.out); have GE101 := mG hg (mH HB.out); replace HB := mS (below_step (mH HB.out) hb); clear hb hbox hg; obtain ⟨hcz6_0, hcz6_1, hcz6_2, hfz6_0, hfz6_1, hfz6_2⟩ := mZ3 BK101.out) | ((with_reducible refine gate_callee (f := 51) rfl ?_); refine mGo 8 Try.func51 #[.slice A0_2 l0_2.length c0_2, .int .i64 a1] ?_; (with_reducible refine (laws_szDotS.calls _ _ l0_2 a1 t102 _ ?side1 ?side2 A3.out).mono ?_); (case side1 => exact mC (Kd.C_below HR0_2.out HB.out)); (case side2 => exact HC0_2.out); rintro e w' ⟨rfl, ⟨nd, rfl⟩⟩; refine ⟨_, rfl, ?_⟩))
  go_ret
  exact ⟨mEw, (mH1 HB.out GE101.out)⟩
 ·rw [if_neg c4] at H
  have c4b0 := decide_eq_false c4
  clear c4
  obtain rfl := Option.some.inj H
  go_enter Try.func24, Try.ntmps24
  go_wp2_with (first | ((with_reducible refine gate_dst (N := 2) rfl ?_); refine mBx 2 #[.int .i64 a0_0, .int .i64 a0_1, .slice A0_2 l0_2.length c0_2] 47 ?_; intro gb101 hg w7 hbox hb; have BK101 := mS (hbox); have GW101 := mG hg (mH HB.out); have GE101 := mG hg (mH HB.out); replace HB := mS (below_step (mH HB.out) hb); clear hb hbox hg; obtain ⟨hcz8_0, hcz8_1, hcz8_2, hfz8_0, hfz8_1, hfz8_2⟩ := mZ3 BK101.out) | ((with_reducible refine gate_callee (f := 51) rfl ?_); refine mGo 8 Try.func51 #[.slice A0_2 l0_2.length c0_2, .int .i64 a1] ?_; (with_reducible refine (laws_szDotS.calls _ _ l0_2 a1 t102 _ ?side1 ?side2 A3.out).mono ?_); (case side1 => exact mC (Kd.C_below HR0_2.out HB.out)); (case side2 => exact HC0_2.out); rintro e w' ⟨rfl, ⟨nd, rfl⟩⟩; refine ⟨_, rfl, ?_⟩))
  go_ret
  exact ⟨mEw, (mH1 HB.out GE101.out)⟩

/-! ### laws_szItemS: function 50 -/
def laws_szItemS.l0 : Nat → List (S47) → Int → Int → Option (Int)
 | 0, _, _, _ => none
 | k + 1, x0, x1, x5 => if x5 < (x0.length : Int) then (if 0 ≤ x5 then ((laws_szItem.f ((rd_T47 x0 x5).f0.f0) ((rd_T47 x0 x5).f0.f1) ((rd_T47 x0 x5).f1) x1).bind fun t104 => (if t104 < 0 then (some (-1)) else (laws_szItemS.l0 k x0 t104 (wrap64 (x5 + 1))))) else (none)) else (some x1)
def laws_szItemS.f (k : Nat) (l0 : List (S47)) (a1 : Int) : Option (Int) := if (wrap64 (a1 - (l0.length : Int))) < 0 then (some (-1)) else (laws_szItemS.l0 k l0 (wrap64 (a1 - (l0.length : Int))) 0)
theorem laws_szItemS.mono_l : ∀ k, (∀ y0 y1 y2, LeO (laws_szItemS.l0 k y0 y1 y2) (laws_szItemS.l0 (k + 1) y0 y1 y2))
 | 0 => fun _ _ _ r h => by simp [laws_szItemS.l0] at h
 | k + 1 => by
  have ih0 := laws_szItemS.mono_l k
  ·intro y0 y1 y2
   unfold laws_szItemS.l0
   repeat' first
   | (with_reducible exact ih0 _ _ _)
   | (with_reducible exact LeO.refl _)
   | (with_reducible exact LeO.none _)
   | (with_reducible refine LeO.ite ?_ ?_)
   | (with_reducible refine LeO.bind ?_ (fun _ => ?_))
   | exact ih0 _ _ _
   | exact LeO.none _
   | refine LeO.ite ?_ ?_
   | refine LeO.bind ?_ (fun _ => ?_)
theorem laws_szItemS.mono : ∀ a0 a1 k, LeO (laws_szItemS.f k a0 a1) (laws_szItemS.f (k + 1) a0 a1) := by
 intro a0 a1 k
 have ih0 := laws_szItemS.mono_l k
 unfold laws_szItemS.f
 repeat' first
   | (with_reducible exact ih0 _ _ _)
   | (with_reducible exact LeO.refl _)
   | (with_reducible exact LeO.none _)
   | (with_reducible refine LeO.ite ?_ ?_)
   | (with_reducible refine LeO.bind ?_ (fun _ => ?_))
   | exact ih0 _ _ _
   | exact LeO.none _
   | refine LeO.ite ?_ ?_
   | refine LeO.bind ?_ (fun _ => ?_)
set_option maxHeartbeats 8000000 in
set_option maxRecDepth 100000 in
theorem laws_szItemS.calls (k : Nat) (A0 : Option Addr) (c0 : Nat) (l0 : List (S47)) (a1 : Int) (r : Int) (w : World) (hr0 : Kd.C k47 w A0 l0.length l0) (hc0 : l0.length ≤ c0) (h : laws_szItemS.f k l0 a1 = some r) :
  Calls Try.prog 50 #[.slice A0 l0.length c0, .int .i64 a1] w fun e w' => e = .returned (.int .i64 r) ∧ Below w.heap.size w w' := by
 have hu47 := Try.underlying47
 have HR0 := mS hr0
 have HC0 := mS hc0
 clear hr0 hc0
 have HB := mS (Below.refl w.heap.size w)
 have H : (if (wrap64 (a1 - (l0.length : Int))) < 0 then (some (-1)) else (laws_szItemS.l0 k l0 (wrap64 (a1 - (l0.length : Int))) 0)) = some r := h
 clear h
 by_cases c3 : (wrap64 (a1 - (l0.length : Int))) < 0
 ·rw [if_pos c3] at H
  have c3b0 := decide_eq_true c3
  clear c3
  obtain rfl := Option.some.inj H
  go_enter Try.func50, Try.ntmps50
  go_wp2
  go_ret
  exact ⟨mEw, (mH HB.out)⟩
 ·rw [if_neg c3] at H
  have c3b0 := decide_eq_false c3
  clear c3
  have H' := mS H
  clear H
  go_enter Try.func50, Try.ntmps50
  go_wp2
  go_loopg [1, 5] k (fun kq v1 v5 w' => ∃ (x1_1 : Int) (x5_1 : Int), v1 = .int .i64 x1_1 ∧ v5 = .int .i64 x5_1 ∧ Aside0 (laws_szItemS.l0 kq l0 x1_1 x5_1 = some r) ∧ Aside0 (kq ≤ k) ∧ Aside0 (Below w.heap.size w w'))
  case atStart => exact ⟨(wrap64 (a1 - (l0.length : Int))), (0), mE, mE, H', ⟨Nat.le_refl _⟩, ⟨(mH HB.out)⟩⟩
  case round =>
   clear H'
   try clear p2
   try clear c3
   try clear c3b0
   obtain ⟨x1_1, x5_1, rfl, rfl, HA, HK1, HB⟩ := hrel
   cases gk with
   | zero => exact absurd HA.out (by simp [laws_szItemS.l0])
   | succ k1 =>
    have H := HA.out
    clear HA
    simp only [laws_szItemS.l0] at H
    by_cases c4 : x5_1 < (l0.length : Int)
    ·rw [if_pos c4] at H
     have c4b0 := decide_eq_true c4
     clear c4
     by_cases c5 : 0 ≤ x5_1
     ·rw [if_pos c5] at H
      have c5b0 := decide_eq_true c5
      clear c5
      replace H := Option.bind_eq_some_iff.mp H
      obtain ⟨t104, A60, H⟩ := H
      replace H : (if t104 < 0 then (some (-1)) else (laws_szItemS.l0 k1 l0 t104 (wrap64 (x5_1 + 1)))) = some r := H
      have A6 := mS A60
      clear A60
      by_cases c7 : t104 < 0
      ·rw [if_pos c7] at H
       have c7b0 := decide_eq_true c7
       clear c7
       obtain rfl := Option.some.inj H
       have p103 : 0 ≤ (x5_1 : Int) := mD
       have q103 : x5_1 < (l0.length : Int) := mD
       obtain ⟨ad103, A103_2, c103_2, e103, hx103_0, hx103_1, hx103_2, hl103_2, hi103_2⟩ := at_T47 HR0.out x5_1 p103 q103
       cases e103
       replace hx103_0 := mX HB.out hx103_0
       replace hx103_1 := mX HB.out hx103_1
       replace hx103_2 := mX HB.out hx103_2
       have HR103_2 := mS hi103_2
       have HC103_2 := mS hl103_2
       clear hi103_2 hl103_2
       replace p103 := eq_true p103
       replace q103 := eq_true q103
       go_wp2_with (first | ((with_reducible refine gate_callee (f := 24) rfl ?_); refine mGo 23 Try.func24 #[.agg #[.int .i64 ((rd_T47 l0 x5_1).f0.f0), .int .i64 ((rd_T47 l0 x5_1).f0.f1), .slice A103_2 ((rd_T47 l0 x5_1).f1).length c103_2], .int .i64 x1_1] ?_; (with_reducible refine (laws_szItem.calls ((rd_T47 l0 x5_1).f0.f0) ((rd_T47 l0 x5_1).f0.f1) _ _ ((rd_T47 l0 x5_1).f1) x1_1 t104 _ ?side1 ?side2 A6.out).mono ?_); (case side1 => exact mC (Kd.C_below HR103_2.out HB.out)); (case side2 => exact HC103_2.out); rintro e w8 ⟨rfl, hb⟩; refine ⟨_, rfl, ?_⟩; replace HB := mS (below_step (mH HB.out) hb); (try clear hb)))
       go_ret
       exact ⟨mEw, (mH HB.out)⟩
      ·rw [if_neg c7] at H
       have c7b0 := decide_eq_false c7
       clear c7
       have H' := mS H
       clear H
       have p103 : 0 ≤ (x5_1 : Int) := mD
       have q103 : x5_1 < (l0.length : Int) := mD
       obtain ⟨ad103, A103_2, c103_2, e103, hx103_0, hx103_1, hx103_2, hl103_2, hi103_2⟩ := at_T47 HR0.out x5_1 p103 q103
       cases e103
       replace hx103_0 := mX HB.out hx103_0
       replace hx103_1 := mX HB.out hx103_1
       replace hx103_2 := mX HB.out hx103_2
       have HR103_2 := mS hi103_2
       have HC103_2 := mS hl103_2
       clear hi103_2 hl103_2
       replace p103 := eq_true p103
       replace q103 := eq_true q103
       go_wp2_with (first | ((with_reducible refine gate_callee (f := 24) rfl ?_); refine mGo 23 Try.func24 #[.agg #[.int .i64 ((rd_T47 l0 x5_1).f0.f0), .int .i64 ((rd_T47 l0 x5_1).f0.f1), .slice A103_2 ((rd_T47 l0 x5_1).f1).length c103_2], .int .i64 x1_1] ?_; (with_reducible refine (laws_szItem.calls ((rd_T47 l0 x5_1).f0.f0) ((rd_T47 l0 x5_1).f0.f1) _ _ ((rd_T47 l0 x5_1).f1) x1_1 t104 _ ?side1 ?side2 A6.out).mono ?_); (case side1 => exact mC (Kd.C_below HR103_2.out HB.out)); (case side2 => exact HC103_2.out); rintro e w9 ⟨rfl, hb⟩; refine ⟨_, rfl, ?_⟩; replace HB := mS (below_step (mH HB.out) hb); (try clear hb)))
       go_roundg k1
       case measure => have := HK1.out; omega
       case rel => exact ⟨(t104), (wrap64 (x5_1 + 1)), mE, mE, H', ⟨by have := HK1.out; omega⟩, ⟨(mH HB.out)⟩⟩
     ·rw [if_neg c5] at H
      exact absurd H (by simp)
    ·rw [if_neg c4] at H
     have c4b0 := decide_eq_false c4
     clear c4
     obtain rfl := Option.some.inj H
     go_wp2
     go_ret
     exact ⟨mEw, (mH HB.out)⟩

/-! ### laws_szGraph: function 23 -/
def laws_szGraph.f (k : Nat) (l0_0 : List (S47)) (a1 : Int) : Option (Int) := (laws_szItemS.f k l0_0 a1).bind fun t106 => (if t106 < 0 then (some (-1)) else (some t106))
theorem laws_szGraph.mono : ∀ a0 a1 k, LeO (laws_szGraph.f k a0 a1) (laws_szGraph.f (k + 1) a0 a1) := by
 intro a0 a1 k
 unfold laws_szGraph.f
 repeat' first
   | (with_reducible exact laws_szItemS.mono _ _ _)
   | (with_reducible exact LeO.refl _)
   | (with_reducible exact LeO.none _)
   | (with_reducible refine LeO.ite ?_ ?_)
   | (with_reducible refine LeO.bind ?_ (fun _ => ?_))
   | exact laws_szItemS.mono _ _ _
   | exact LeO.none _
   | refine LeO.ite ?_ ?_
   | refine LeO.bind ?_ (fun _ => ?_)
set_option maxHeartbeats 8000000 in
set_option maxRecDepth 100000 in
theorem laws_szGraph.calls (k : Nat) (A0_0 : Option Addr) (c0_0 : Nat) (l0_0 : List (S47)) (a1 : Int) (r : Int) (w : World) (hr0_0 : Kd.C k47 w A0_0 l0_0.length l0_0) (hc0_0 : l0_0.length ≤ c0_0) (h : laws_szGraph.f k l0_0 a1 = some r) :
  Calls Try.prog 23 #[.agg #[.slice A0_0 l0_0.length c0_0], .int .i64 a1] w fun e w' => e = .returned (.int .i64 r) ∧ Below w.heap.size w w' := by
 have hu42 := Try.underlying42
 have HR0_0 := mS hr0_0
 have HC0_0 := mS hc0_0
 clear hr0_0 hc0_0
 have HB := mS (Below.refl w.heap.size w)
 have H : ((laws_szItemS.f k l0_0 a1).bind fun t106 => (if t106 < 0 then (some (-1)) else (some t106))) = some r := h
 clear h
 replace H := Option.bind_eq_some_iff.mp H
 obtain ⟨t106, A30, H⟩ := H
 replace H : (if t106 < 0 then (some (-1)) else (some t106)) = some r := H
 have A3 := mS A30
 clear A30
 by_cases c4 : t106 < 0
 ·rw [if_pos c4] at H
  have c4b0 := decide_eq_true c4
  clear c4
  obtain rfl := Option.some.inj H
  go_enter Try.func23, Try.ntmps23
  go_wp2_with (first | ((with_reducible refine gate_dst (N := 2) rfl ?_); refine mBx 2 #[.slice A0_0 l0_0.length c0_0] 42 ?_; intro gb105 hg w5 hbox hb; have BK105 := mS (hbox); have GW105 := mG hg (mH HB.out); have GE105 := mG hg (mH HB.out); replace HB := mS (below_step (mH HB.out) hb); clear hb hbox hg; have hcz6_0 := mZ BK105.out 0; have hfz6_0 := blk_frozen BK105.out 0) | ((with_reducible refine gate_callee (f := 50) rfl ?_); refine mGo 8 Try.func50 #[.slice A0_0 l0_0.length c0_0, .int .i64 a1] ?_; (with_reducible refine (laws_szItemS.calls k _ _ l0_0 a1 t106 _ ?side1 ?side2 A3.out).mono ?_); (case side1 => exact mC (Kd.C_below HR0_0.out HB.out)); (case side2 => exact HC0_0.out); rintro e w7 ⟨rfl, hb⟩; refine ⟨_, rfl, ?_⟩; replace BK105 := mB BK105 hb; replace HB := mS (below_step (mH1 HB.out GE105.out) hb); (try clear hb)))
  go_ret
  exact ⟨mEw, (mH1 HB.out GE105.out)⟩
 ·rw [if_neg c4] at H
  have c4b0 := decide_eq_false c4
  clear c4
  obtain rfl := Option.some.inj H
  go_enter Try.func23, Try.ntmps23
  go_wp2_with (first | ((with_reducible refine gate_dst (N := 2) rfl ?_); refine mBx 2 #[.slice A0_0 l0_0.length c0_0] 42 ?_; intro gb105 hg w8 hbox hb; have BK105 := mS (hbox); have GW105 := mG hg (mH HB.out); have GE105 := mG hg (mH HB.out); replace HB := mS (below_step (mH HB.out) hb); clear hb hbox hg; have hcz9_0 := mZ BK105.out 0; have hfz9_0 := blk_frozen BK105.out 0) | ((with_reducible refine gate_callee (f := 50) rfl ?_); refine mGo 8 Try.func50 #[.slice A0_0 l0_0.length c0_0, .int .i64 a1] ?_; (with_reducible refine (laws_szItemS.calls k _ _ l0_0 a1 t106 _ ?side1 ?side2 A3.out).mono ?_); (case side1 => exact mC (Kd.C_below HR0_0.out HB.out)); (case side2 => exact HC0_0.out); rintro e w10 ⟨rfl, hb⟩; refine ⟨_, rfl, ?_⟩; replace BK105 := mB BK105 hb; replace HB := mS (below_step (mH1 HB.out GE105.out) hb); (try clear hb)))
  go_ret
  exact ⟨mEw, (mH1 HB.out GE105.out)⟩

/-! ### spec_DotLess: function 52 -/
def spec_DotLess.f (a0_0 : Int) (a0_1 : Int) (a1_0 : Int) (a1_1 : Int) : Option (Bool) := if a0_0 < a1_0 then (some true) else (if a0_0 = a1_0 then (some (decide (a0_1 < a1_1))) else (some false))
set_option maxHeartbeats 8000000 in
set_option maxRecDepth 100000 in
theorem spec_DotLess.calls (a0_0 : Int) (a0_1 : Int) (a1_0 : Int) (a1_1 : Int) (r : Bool) (w : World) (h : spec_DotLess.f a0_0 a0_1 a1_0 a1_1 = some r) :
  Calls Try.prog 52 #[.agg #[.int .i64 a0_0, .int .i64 a0_1], .agg #[.int .i64 a1_0, .int .i64 a1_1]] w fun e w' => e = .returned (.bool r) ∧ Below w.heap.size w w' := by
 have hu56 := Try.underlying56
 have HB := mS (Below.refl w.heap.size w)
 have H : (if a0_0 < a1_0 then (some true) else (if a0_0 = a1_0 then (some (decide (a0_1 < a1_1))) else (some false))) = some r := h
 clear h
 by_cases c3 : a0_0 < a1_0
 ·rw [if_pos c3] at H
  have c3b0 := decide_eq_true c3
  clear c3
  obtain rfl := Option.some.inj H
  go_enter Try.func52, Try.ntmps52
  go_wp2_with (first | ((with_reducible refine gate_dst (N := 2) rfl ?_); refine mBx 2 #[.int .i64 a0_0, .int .i64 a0_1] 56 ?_; intro gb107 hg w4 hbox hb; have BK107 := mS (hbox); have GW107 := mG hg (mH HB.out); have GE107 := mG hg (mH HB.out); replace HB := mS (below_step (mH HB.out) hb); clear hb hbox hg) | ((with_reducible refine gate_dst (N := 3) rfl ?_); refine mBx 3 #[.int .i64 a1_0, .int .i64 a1_1] 56 ?_; intro gb108 hg w5 hbox hb; have BK108 := mS (hbox); have GW108 := mG hg (mH1 HB.out GE107.out); have GE108 := mG hg (mH1 HB.out GE107.out); replace HB := mS (below_step (mH1 HB.out GE107.out) hb); have NB107_108 := mNl hg BK107.out; have NB108_107 := mNg hg BK107.out; replace BK107 := mB BK107 hb; clear hb hbox hg; have hnb6 := NB107_108.out; have hnc6 := NB108_107.out; obtain ⟨hcz7_0, hcz7_1, hfz7_0, hfz7_1⟩ := mZ2 BK107.out; obtain ⟨hcz8_0, hcz8_1, hfz8_0, hfz8_1⟩ := mZ2 BK108.out))
  go_ret
  exact ⟨mEw, (mH2 HB.out GE107.out GE108.out)⟩
 ·rw [if_neg c3] at H
  have c3b0 := decide_eq_false c3
  clear c3
  by_cases c9 : a0_0 = a1_0
  ·rw [if_pos c9] at H
   have c9b0 : (a0_0 == a1_0) = true := beq_iff_eq.mpr c9
   have c9b1 : (a0_0 != a1_0) = false := bne_eq_false_iff_eq.mpr c9
   clear c9
   obtain rfl := Option.some.inj H
   go_enter Try.func52, Try.ntmps52
   go_wp2_with (first | ((with_reducible refine gate_dst (N := 2) rfl ?_); refine mBx 2 #[.int .i64 a0_0, .int .i64 a0_1] 56 ?_; intro gb107 hg w10 hbox hb; have BK107 := mS (hbox); have GW107 := mG hg (mH HB.out); have GE107 := mG hg (mH HB.out); replace HB := mS (below_step (mH HB.out) hb); clear hb hbox hg) | ((with_reducible refine gate_dst (N := 3) rfl ?_); refine mBx 3 #[.int .i64 a1_0, .int .i64 a1_1] 56 ?_; intro gb108 hg w11 hbox hb; have BK108 := mS (hbox); have GW108 := mG hg (mH1 HB.out GE107.out); have GE108 := mG hg (mH1 HB.out GE107.out); replace HB := mS (below_step (mH1 HB.out GE107.out) hb); have NB107_108 := mNl hg BK107.out; have NB108_107 := mNg hg BK107.out; replace BK107 := mB BK107 hb; clear hb hbox hg; have hnb12 := NB107_108.out; have hnc12 := NB108_107.out; obtain ⟨hcz13_0, hcz13_1, hfz13_0, hfz13_1⟩ := mZ2 BK107.out; obtain ⟨hcz14_0, hcz14_1, hfz14_0, hfz14_1⟩ := mZ2 BK108.out))
   go_ret
   exact ⟨mEw, (mH2 HB.out GE107.out GE108.out)⟩
  ·rw [if_neg c9] at H
   have c9b0 : (a0_0 == a1_0) = false := beq_eq_false_iff_ne.mpr c9
   have c9b1 : (a0_0 != a1_0) = true := bne_iff_ne.mpr c9
   obtain rfl := Option.some.inj H
   go_enter Try.func52, Try.ntmps52
   go_wp2_with (first | ((with_reducible refine gate_dst (N := 2) rfl ?_); refine mBx 2 #[.int .i64 a0_0, .int .i64 a0_1] 56 ?_; intro gb107 hg w15 hbox hb; have BK107 := mS (hbox); have GW107 := mG hg (mH HB.out); have GE107 := mG hg (mH HB.out); replace HB := mS (below_step (mH HB.out) hb); clear hb hbox hg) | ((with_reducible refine gate_dst (N := 3) rfl ?_); refine mBx 3 #[.int .i64 a1_0, .int .i64 a1_1] 56 ?_; intro gb108 hg w16 hbox hb; have BK108 := mS (hbox); have GW108 := mG hg (mH1 HB.out GE107.out); have GE108 := mG hg (mH1 HB.out GE107.out); replace HB := mS (below_step (mH1 HB.out GE107.out) hb); have NB107_108 := mNl hg BK107.out; have NB108_107 := mNg hg BK107.out; replace BK107 := mB BK107 hb; clear hb hbox hg; have hnb17 := NB107_108.out; have hnc17 := NB108_107.out; obtain ⟨hcz18_0, hcz18_1, hfz18_0, hfz18_1⟩ := mZ2 BK107.out; obtain ⟨hcz19_0, hcz19_1, hfz19_0, hfz19_1⟩ := mZ2 BK108.out))
   go_ret
   exact ⟨mEw, (mH2 HB.out GE107.out GE108.out)⟩

/-! ### spec_l8CopyItem: function 53 -/
def spec_l8CopyItem.f (a0_0 : Int) (a0_1 : Int) (l0_2 : List (S56)) : Option (Int × Int × (List (S56))) := (some (([] : List (S56)) : List (S56))).bind fun y111 => (if y111.length + l0_2.length < 8796093022208 then (some (a0_0, a0_1, (y111 ++ l0_2))) else (none))
def spec_l8CopyItem.T1 : Bool × List (List Nat × List Nat) := (true, [([], []), ([0], [0]), ([], []), ([], []), ([3], [3]), ([2, 4], [2, 4]), ([1, 5], [1, 5]), ([6, 5, 0, 1, 2, 3, 4, 5, 6], [6])])
def spec_l8CopyItem.B1 : List Nat := [0, 1, 0, 0, 8, 28, 63, 127]
theorem spec_l8CopyItem.tab1 : rtab .any (opsOf Try.f53 1) = spec_l8CopyItem.T1 := by kernel_rfl
theorem spec_l8CopyItem.bits1 : waitsOk spec_l8CopyItem.T1.2 spec_l8CopyItem.B1 = true := by kernel_rfl
set_option maxHeartbeats 8000000 in
set_option maxRecDepth 100000 in
theorem spec_l8CopyItem.calls (a0_0 : Int) (a0_1 : Int) (A0_2 : Option Addr) (c0_2 : Nat) (l0_2 : List (S56)) (r1 : Int) (r2 : Int) (r3 : List (S56)) (w : World) (hr0_2 : Kd.C k56 w A0_2 l0_2.length l0_2) (hc0_2 : l0_2.length ≤ c0_2) (h : spec_l8CopyItem.f a0_0 a0_1 l0_2 = some (r1, r2, r3)) :
  Calls Try.prog 53 #[.agg #[.int .i64 a0_0, .int .i64 a0_1, .slice A0_2 l0_2.length c0_2]] w fun e w' => ∃ v2_ : Value, e = .returned (.agg #[.int .i64 r1, .int .i64 r2, v2_]) ∧ Kd.R k56 56 w' w.heap.size (fun _ => True) v2_ r3 ∧ Below w.heap.size w w' := by
 have hu59 := Try.underlying59
 have hu56 := Try.underlying56
 have HR0_2 := mS hr0_2
 have HC0_2 := mS hc0_2
 clear hr0_2 hc0_2
 have HB := mS (Below.refl w.heap.size w)
 have H : ((some (([] : List (S56)) : List (S56))).bind fun y111 => (if y111.length + l0_2.length < 8796093022208 then (some (a0_0, a0_1, (y111 ++ l0_2))) else (none))) = some (r1, r2, r3) := h
 clear h
 obtain ⟨y111, hy111⟩ : ∃ y_ : List (S56), y_ = (([] : List (S56))) := ⟨_, rfl⟩
 replace H : (if y111.length + l0_2.length < 8796093022208 then (some (a0_0, a0_1, (y111 ++ l0_2))) else (none)) = some (r1, r2, r3) := by first | (rw [hy111]; with_reducible exact H) | (have H2_ := (Option.bind_some _ _).symm.trans H; rw [hy111]; with_reducible exact H2_) | (have H2_ := (Option.bind_some _ _).symm.trans H; with_reducible exact H2_) | with_reducible exact H | (rw [hy111]; exact H) | exact H
 have Ny111 := mS hy111
 clear hy111
 by_cases c2 : y111.length + l0_2.length < 8796093022208
 ·rw [if_pos c2] at H
  have LMc2 := mS c2
  clear c2
  obtain ⟨y114, hy114⟩ : ∃ y_ : List (S56), y_ = (y111 ++ l0_2) := ⟨_, rfl⟩
  replace H : (some (a0_0, a0_1, y114)) = some (r1, r2, r3) := by first | (rw [hy114]; with_reducible exact H) | (have H2_ := (Option.bind_some _ _).symm.trans H; rw [hy114]; with_reducible exact H2_) | (have H2_ := (Option.bind_some _ _).symm.trans H; with_reducible exact H2_) | with_reducible exact H | (rw [hy114]; exact H) | exact H
  have Ny114 := mS hy114
  clear hy114
  simp only [Option.some.injEq, Prod.mk.injEq] at H
  obtain ⟨rfl, rfl, rfl⟩ := H
  go_enter Try.func53, Try.ntmps53
  try go_wp2_with (first | ((with_reducible refine gate_dst (N := 1) rfl ?_); refine mBx 1 #[.int .i64 a0_0, .int .i64 a0_1, .slice A0_2 l0_2.length c0_2] 59 ?_; intro gb109 hg w3 hbox hb; have BK109 := mS (hbox); have GW109 := mG hg (mH HB.out); have GE109 := mG hg (mH HB.out); replace HB := mS (below_step (mH HB.out) hb); clear hb hbox hg) | ((with_reducible refine gate_dst (N := 2) rfl ?_); refine mBx 2 #[.int .i64 0, .int .i64 0, .slice none 0 0] 59 ?_; intro gb110 hg w4 hbox hb; have BK110 := mS (hbox); have GW110 := mG hg (mH1 HB.out GE109.out); have GE110 := mG hg (mH1 HB.out GE109.out); replace HB := mS (below_step (mH1 HB.out GE109.out) hb); have NB109_110 := mNl hg BK109.out; have NB110_109 := mNg hg BK109.out; replace BK109 := mB BK109 hb; clear hb hbox hg))
  replace BK109 := mS (blk_drew BK109.out)
  replace BK110 := mS (blk_drew BK110.out)
  replace HB := mS (below_drew1 HB.out)
  refine start_ (n := 8) (S := fun w' => w'.cell? ⟨gb109, 0, none⟩ = some (.int .i64 a0_0) ∧ w'.cell? ⟨gb109, 1, none⟩ = some (.int .i64 a0_1) ∧ w'.cell? ⟨gb109, 2, none⟩ = some (.slice A0_2 l0_2.length c0_2)) (ds := []) (mb 0 8) (by kernel_rfl) rfl rfl (mc3 BK109.out) (fun hHeld => ?_); refine with_tabW spec_l8CopyItem.tab1 spec_l8CopyItem.bits1 (fun HT_ HW_ => ?_)
  generalize w4.drew = w5 at BK109 BK110 HB hHeld ⊢
  refine mpu 0 3 HT_.out (mb 1 7) ?_
  refine mpu 3 6 HT_.out (mr [1,2,1,4]) ?_
  refine mpt 1 4 HT_.out HW_.out (mr [2,1,1,4]) hHeld ?_
  refine mpt 4 7 HT_.out HW_.out (mr [2,1,2,3]) hHeld ?_
  refine mone 2 (some 5) HT_.out (mb 5 3) (fun K hK => ?_)
  refine Kd.R_lit_step k56 _ 56 ?hg (N := 5) ?hd (xs := ([] : List (S56))) (inner := []) (ok := fun _ => True) (okp := fun _ => True) ?hr ?hp (fun _ hk => hk) trivial (Below.refl _ _) (Nat.le_refl _) (by simp) ?_; (case hd => rfl); (case hg => rfl); (case hr => first | (go_simp; done) | (go_simp; rfl)); (case hp => exact (Reps.none _ _))
  intro v112 w6 ho7 hb hg_ hnew_
  clear hg_ hnew_
  (first | rw [← Ny111.out] at ho7 | (simp only [Int.reduceToNat] at ho7; rw [← Ny111.out] at ho7))
  have HO113 := mS (Kd.R_lower ho7 (below_size (mH2 HB.out GE109.out GE110.out)))
  replace BK109 := mB BK109 hb
  replace BK110 := mB BK110 hb
  replace HB := mS (below_step (mH2 HB.out GE109.out GE110.out) hb)
  clear hb ho7
  refine hK.out _ _ (mc3 BK109.out) (fun hHeld => ?_)
  clear hK K
  refine mno 5 ?_
  refine mone 5 (some 8) HT_.out (mb 6 2) (fun K hK => ?_)
  refine Kd.R_append_rows_step k56 (w0 := w) w.heap.size (by rfl) (.tmp 5) (.tmp 7) 57 56 (.agg #[(.int .i64 0), (.int .i64 0)]) 16 rfl Try.underlying57 info56 rfl (by decide) (by omega) v112 y111 l0_2 _ _ _ (fun _ => True) (fun _ => False) rfl rfl ?aO ?aR (fun _ _ h => h) (fun _ h => h.elim) ?aF ?aB ?aS ?aL ?_
  (case aR => exact mC (Kd.C_below HR0_2.out HB.out))
  (case aB => exact (mH2 HB.out GE109.out GE110.out))
  (case aF => exact (fun _ _ => trivial))
  (case aO => exact (mR HO113.out))
  (case aS => exact (below_size (mH2 HB.out GE109.out GE110.out)))
  (case aL => have := LMc2.out; omega)
  intro v115 w8 ho hb hg hat
  rw [← Ny114.out] at ho
  replace BK109 := mS (blk_grown (g := gb109) (o := .cells #[.int .i64 a0_0, .int .i64 a0_1, .slice A0_2 l0_2.length c0_2] 59 (0, 0)) (mK BK109.out) hg (Kd.R_ne HO113.out BK109.out (by decide)))
  replace BK110 := mS (blk_grown (g := gb110) (o := .cells #[.int .i64 0, .int .i64 0, .slice none 0 0] 59 (0, 0)) (mK BK110.out) hg (Kd.R_ne HO113.out BK110.out (by decide)))
  replace HB := mS (hb)
  have HO116 := mS (ho)
  clear HO113
  clear ho hb hg hat
  obtain ⟨Ao9, co9, eo9⟩ := Kd.R_slice HO116.out
  (first | subst eo9 | (injection eo9 with f1_ f2_ f3_; have f4_ := f1_.symm; have f5_ := f3_.symm; clear f1_ f2_ f3_; subst f4_; subst f5_))
  refine hK.out _ _ (mc3 BK109.out) (fun hHeld => ?_)
  clear hK K
  refine mno 8 ?_
  refine mpu 6 9 HT_.out (mb 7 1) ?_
  refine mone 7 none HT_.out (mb 8 0) (fun K hK => ?_)
  have hs10 : w8.cell? ⟨gb110, 0, none⟩ = some (.int .i64 0) := mZ BK110.out 0
  have hfs10 := blk_frozen BK110.out 0
  have hns10_0 := NB109_110.out
  have hms10_0 := NB110_109.out
  have hs11 : w8.cell? ⟨gb110, 1, none⟩ = some (.int .i64 0) := mZ BK110.out 1
  have hfs11 := blk_frozen BK110.out 1
  have hns11_0 := NB109_110.out
  have hms11_0 := NB110_109.out
  have hs12 : w8.cell? ⟨gb110, 2, none⟩ = some (.slice none 0 0) := mZ BK110.out 2
  have hfs12 := blk_frozen BK110.out 2
  have hns12_0 := NB109_110.out
  have hms12_0 := NB110_109.out
  refine skip_ (w1 := ?_) (by rfl) rfl ?_ ?_
  rotate_left
  ·go_simp
   rfl
  refine hK.out _ _ ⟨((cell_far (p := ⟨gb110, _, none⟩) NB109_110.out _).trans (((cell_far (p := ⟨gb110, _, none⟩) NB109_110.out _).trans (((cell_far (p := ⟨gb110, _, none⟩) NB109_110.out _).trans (hHeld.1)))))), ((cell_far (p := ⟨gb110, _, none⟩) NB109_110.out _).trans (((cell_far (p := ⟨gb110, _, none⟩) NB109_110.out _).trans (((cell_far (p := ⟨gb110, _, none⟩) NB109_110.out _).trans (hHeld.2.1)))))), ((cell_far (p := ⟨gb110, _, none⟩) NB109_110.out _).trans (((cell_far (p := ⟨gb110, _, none⟩) NB109_110.out _).trans (((cell_far (p := ⟨gb110, _, none⟩) NB109_110.out _).trans (hHeld.2.2))))))⟩ (fun hHeld => ?_)
  clear hK K
  refine done_ (done_of HT_.out (by kernel_rfl)) ?_
  try go_wp2
  refine bodyPost_ret (results_cell_row rfl _ _ gb110 59 #[.int .i64 a0_0, .int .i64 a0_1, .slice Ao9 y114.length co9] (0, 0) _ rfl (by refine mK ?_; refine blk_put (cs := #[.int .i64 a0_0, .int .i64 a0_1, .slice none 0 0]) ?_ 2 _ rfl; refine mK ?_; refine blk_put (cs := #[.int .i64 a0_0, .int .i64 0, .slice none 0 0]) ?_ 1 _ rfl; refine mK ?_; refine blk_put (cs := #[.int .i64 0, .int .i64 0, .slice none 0 0]) ?_ 0 _ rfl; refine mK ?_; exact BK110.out) Try.underlying59 rfl (by kernel_rfl)) rfl ?_
  exact ⟨_, mEw, by refine mR ?_; exact Kd.R_mono (mRf3 (Kd.R_types HO116.out BK110.out (by decide))) (fun _ hk => trivial), (mH2 HB.out GE109.out GE110.out)⟩
 ·rw [if_neg c2] at H
  exact absurd H (by simp)

/-! ### spec_l8At: function 54 -/
def spec_l8At.l0 : Nat → Int → List (S59) → Int → Int → Option (Int)
 | 0, _, _, _, _ => none
 | k + 1, x5, x118000, x119000, x119001 => if x5 < (x118000.length : Int) then (if 0 ≤ x5 then (if (((rd_T59 x118000 x5).f0.f0) == x119000 && (((rd_T59 x118000 x5).f0.f1) == x119001)) = true then (some x5) else (spec_l8At.l0 k (wrap64 (x5 + 1)) x118000 x119000 x119001)) else (none)) else (some (-1))
def spec_l8At.f (k : Nat) (l0_0 : List (S59)) (a1_0 : Int) (a1_1 : Int) : Option (Int) := spec_l8At.l0 k 0 l0_0 a1_0 a1_1
theorem spec_l8At.mono_l : ∀ k, (∀ y0 y1 y2 y3, LeO (spec_l8At.l0 k y0 y1 y2 y3) (spec_l8At.l0 (k + 1) y0 y1 y2 y3))
 | 0 => fun _ _ _ _ r h => by simp [spec_l8At.l0] at h
 | k + 1 => by
  have ih0 := spec_l8At.mono_l k
  ·intro y0 y1 y2 y3
   unfold spec_l8At.l0
   repeat' first
   | (with_reducible exact ih0 _ _ _ _)
   | (with_reducible exact LeO.refl _)
   | (with_reducible exact LeO.none _)
   | (with_reducible refine LeO.ite ?_ ?_)
   | (with_reducible refine LeO.bind ?_ (fun _ => ?_))
   | exact ih0 _ _ _ _
   | exact LeO.none _
   | refine LeO.ite ?_ ?_
   | refine LeO.bind ?_ (fun _ => ?_)
theorem spec_l8At.mono : ∀ a0 a1 a2 k, LeO (spec_l8At.f k a0 a1 a2) (spec_l8At.f (k + 1) a0 a1 a2) := by
 intro a0 a1 a2 k
 have ih0 := spec_l8At.mono_l k
 unfold spec_l8At.f
 repeat' first
   | (with_reducible exact ih0 _ _ _ _)
   | (with_reducible exact LeO.refl _)
   | (with_reducible exact LeO.none _)
   | (with_reducible refine LeO.ite ?_ ?_)
   | (with_reducible refine LeO.bind ?_ (fun _ => ?_))
   | exact ih0 _ _ _ _
   | exact LeO.none _
   | refine LeO.ite ?_ ?_
   | refine LeO.bind ?_ (fun _ => ?_)
set_option maxHeartbeats 8000000 in
set_option maxRecDepth 100000 in
theorem spec_l8At.calls (k : Nat) (A0_0 : Option Addr) (c0_0 : Nat) (l0_0 : List (S59)) (a1_0 : Int) (a1_1 : Int) (r : Int) (w : World) (hr0_0 : Kd.C k59 w A0_0 l0_0.length l0_0) (hc0_0 : l0_0.length ≤ c0_0) (h : spec_l8At.f k l0_0 a1_0 a1_1 = some r) :
  Calls Try.prog 54 #[.agg #[.slice A0_0 l0_0.length c0_0], .agg #[.int .i64 a1_0, .int .i64 a1_1]] w fun e w' => e = .returned (.int .i64 r) ∧ Below w.heap.size w w' := by
 have hu52 := Try.underlying52
 have hu56 := Try.underlying56
 have HR0_0 := mS hr0_0
 have HC0_0 := mS hc0_0
 clear hr0_0 hc0_0
 have HB := mS (Below.refl w.heap.size w)
 have H : (spec_l8At.l0 k 0 l0_0 a1_0 a1_1) = some r := h
 clear h
 have H' := mS H
 clear H
 go_enter Try.func54, Try.ntmps54
 go_wp2_with (first | ((with_reducible refine gate_dst (N := 2) rfl ?_); refine mBx 2 #[.slice A0_0 l0_0.length c0_0] 52 ?_; intro gb117 hg w3 hbox hb; have BK117 := mS (hbox); have GW117 := mG hg (mH HB.out); have GE117 := mG hg (mH HB.out); replace HB := mS (below_step (mH HB.out) hb); clear hb hbox hg) | ((with_reducible refine gate_dst (N := 3) rfl ?_); refine mBx 3 #[.int .i64 a1_0, .int .i64 a1_1] 56 ?_; intro gb118 hg w4 hbox hb; have BK118 := mS (hbox); have GW118 := mG hg (mH1 HB.out GE117.out); have GE118 := mG hg (mH1 HB.out GE117.out); replace HB := mS (below_step (mH1 HB.out GE117.out) hb); have NB117_118 := mNl hg BK117.out; have NB118_117 := mNg hg BK117.out; replace BK117 := mB BK117 hb; clear hb hbox hg))
 repeat (go_quiet (first | ((with_reducible refine gate_dst (N := 2) rfl ?_); refine mBx 2 #[.slice A0_0 l0_0.length c0_0] 52 ?_; intro gb117 hg w3 hbox hb; have BK117 := mS (hbox); have GW117 := mG hg (mH HB.out); have GE117 := mG hg (mH HB.out); replace HB := mS (below_step (mH HB.out) hb); clear hb hbox hg) | ((with_reducible refine gate_dst (N := 3) rfl ?_); refine mBx 3 #[.int .i64 a1_0, .int .i64 a1_1] 56 ?_; intro gb118 hg w4 hbox hb; have BK118 := mS (hbox); have GW118 := mG hg (mH1 HB.out GE117.out); have GE118 := mG hg (mH1 HB.out GE117.out); replace HB := mS (below_step (mH1 HB.out GE117.out) hb); have NB117_118 := mNl hg BK117.out; have NB118_117 := mNg hg BK117.out; replace BK117 := mB BK117 hb; clear hb hbox hg)); try go_wp2_with (first | ((with_reducible refine gate_dst (N := 2) rfl ?_); refine mBx 2 #[.slice A0_0 l0_0.length c0_0] 52 ?_; intro gb117 hg w3 hbox hb; have BK117 := mS (hbox); have GW117 := mG hg (mH HB.out); have GE117 := mG hg (mH HB.out); replace HB := mS (below_step (mH HB.out) hb); clear hb hbox hg) | ((with_reducible refine gate_dst (N := 3) rfl ?_); refine mBx 3 #[.int .i64 a1_0, .int .i64 a1_1] 56 ?_; intro gb118 hg w4 hbox hb; have BK118 := mS (hbox); have GW118 := mG hg (mH1 HB.out GE117.out); have GE118 := mG hg (mH1 HB.out GE117.out); replace HB := mS (below_step (mH1 HB.out GE117.out) hb); have NB117_118 := mNl hg BK117.out; have NB118_117 := mNg hg BK117.out; replace BK117 := mB BK117 hb; clear hb hbox hg)))
 go_loopg [5] k (fun kq v5 w' => ∃ (x5_1 : Int), v5 = .int .i64 x5_1 ∧ Aside0 (spec_l8At.l0 kq x5_1 l0_0 a1_0 a1_1 = some r) ∧ Aside0 (kq ≤ k) ∧ Aside0 (w'.heap[gb117]? = some (.cells #[(.slice A0_0 l0_0.length c0_0)] 52 (0, 0))) ∧ Aside0 (w'.heap[gb118]? = some (.cells #[.int .i64 a1_0, .int .i64 a1_1] 56 (0, 0))) ∧ Aside0 (Below w.heap.size w w'))
 case atStart => exact ⟨(0), mE, H', ⟨Nat.le_refl _⟩, ⟨mK BK117.out⟩, ⟨mK BK118.out⟩, ⟨(mH2 HB.out GE117.out GE118.out)⟩⟩
 case round =>
  clear H'
  try clear p2
  obtain ⟨x5_1, rfl, HA, HK1, BK117, BK118, HB⟩ := hrel
  cases gk with
  | zero => exact absurd HA.out (by simp [spec_l8At.l0])
  | succ k1 =>
   have H := HA.out
   clear HA
   simp only [spec_l8At.l0] at H
   by_cases c5 : x5_1 < (l0_0.length : Int)
   ·rw [if_pos c5] at H
    have c5b0 := decide_eq_true c5
    clear c5
    by_cases c6 : 0 ≤ x5_1
    ·rw [if_pos c6] at H
     have c6b0 := decide_eq_true c6
     clear c6
     by_cases c7 : (((rd_T59 l0_0 x5_1).f0.f0) == a1_0 && (((rd_T59 l0_0 x5_1).f0.f1) == a1_1)) = true
     ·rw [if_pos c7] at H
      have c7b0 : (((rd_T59 l0_0 x5_1).f0.f0) == a1_0 && (((rd_T59 l0_0 x5_1).f0.f1) == a1_1)) = true := c7
      (try (have c7b1 : decide (((rd_T59 l0_0 x5_1).f0.f0) = a1_0 && (((rd_T59 l0_0 x5_1).f0.f1) == a1_1)) = true := by simpa using c7))
      (try (have c7b2 : (((rd_T59 l0_0 x5_1).f0.f0) == a1_0 && (((rd_T59 l0_0 x5_1).f0.f1) == a1_1)) = true := by simpa using c7))
      clear c7
      obtain rfl := Option.some.inj H
      have hnb8 := NB117_118.out
      have hnc8 := NB118_117.out
      have hcz9_0 := mZ BK117.out 0
      have hfz9_0 := blk_frozen BK117.out 0
      have p119 : 0 ≤ (x5_1 : Int) := mD
      have q119 : x5_1 < (l0_0.length : Int) := mD
      obtain ⟨ad119, A119_2, c119_2, e119, hx119_0, hx119_1, hx119_2, hl119_2, hi119_2⟩ := at_T59 HR0_0.out x5_1 p119 q119
      cases e119
      replace hx119_0 := mX HB.out hx119_0
      replace hx119_1 := mX HB.out hx119_1
      replace hx119_2 := mX HB.out hx119_2
      have HR119_2 := mS hi119_2
      have HC119_2 := mS hl119_2
      clear hi119_2 hl119_2
      replace p119 := eq_true p119
      replace q119 := eq_true q119
      obtain ⟨hcz10_0, hcz10_1, hfz10_0, hfz10_1⟩ := mZ2 BK118.out
      go_wp2
      repeat (go_quiet (fail); try go_wp2)
      go_ret
      exact ⟨mEw, (mH2 HB.out GE117.out GE118.out)⟩
     ·rw [if_neg c7] at H
      have c7b0 : (((rd_T59 l0_0 x5_1).f0.f0) == a1_0 && (((rd_T59 l0_0 x5_1).f0.f1) == a1_1)) = false := by simpa using c7
      (try (have c7b1 : decide (((rd_T59 l0_0 x5_1).f0.f0) = a1_0 && (((rd_T59 l0_0 x5_1).f0.f1) == a1_1)) = false := by simpa using c7))
      (try (have c7b2 : (((rd_T59 l0_0 x5_1).f0.f0) == a1_0 && (((rd_T59 l0_0 x5_1).f0.f1) == a1_1)) = false := by simpa using c7))
      (try (have c7b3 : ¬ (((rd_T59 l0_0 x5_1).f0.f0) = a1_0 && (((rd_T59 l0_0 x5_1).f0.f1) == a1_1)) := by simpa using c7))
      clear c7
      have H' := mS H
      clear H
      have hnb11 := NB117_118.out
      have hnc11 := NB118_117.out
      have hcz12_0 := mZ BK117.out 0
      have hfz12_0 := blk_frozen BK117.out 0
      have p119 : 0 ≤ (x5_1 : Int) := mD
      have q119 : x5_1 < (l0_0.length : Int) := mD
      obtain ⟨ad119, A119_2, c119_2, e119, hx119_0, hx119_1, hx119_2, hl119_2, hi119_2⟩ := at_T59 HR0_0.out x5_1 p119 q119
      cases e119
      replace hx119_0 := mX HB.out hx119_0
      replace hx119_1 := mX HB.out hx119_1
      replace hx119_2 := mX HB.out hx119_2
      have HR119_2 := mS hi119_2
      have HC119_2 := mS hl119_2
      clear hi119_2 hl119_2
      replace p119 := eq_true p119
      replace q119 := eq_true q119
      obtain ⟨hcz13_0, hcz13_1, hfz13_0, hfz13_1⟩ := mZ2 BK118.out
      go_wp2
      repeat (go_quiet (fail); try go_wp2)
      go_roundg k1
      case measure => have := HK1.out; omega
      case rel => exact ⟨(wrap64 (x5_1 + 1)), mE, H', ⟨by have := HK1.out; omega⟩, ⟨mK BK117.out⟩, ⟨mK BK118.out⟩, ⟨(mH2 HB.out GE117.out GE118.out)⟩⟩
    ·rw [if_neg c6] at H
     exact absurd H (by simp)
   ·rw [if_neg c5] at H
    have c5b0 := decide_eq_false c5
    clear c5
    obtain rfl := Option.some.inj H
    have hnb14 := NB117_118.out
    have hnc14 := NB118_117.out
    have hcz15_0 := mZ BK117.out 0
    have hfz15_0 := blk_frozen BK117.out 0
    go_wp2
    repeat (go_quiet (fail); try go_wp2)
    go_ret
    exact ⟨mEw, (mH2 HB.out GE117.out GE118.out)⟩

/-! ### spec_l1In: function 74 -/
def spec_l1In.f (a0 : Int) (a1 : Int) (a2 : Int) : Option (Bool) := if a0 ≥ a1 then (some (decide (a0 ≤ a2))) else (some false)
set_option maxHeartbeats 8000000 in
set_option maxRecDepth 100000 in
theorem spec_l1In.calls (a0 : Int) (a1 : Int) (a2 : Int) (r : Bool) (w : World) (h : spec_l1In.f a0 a1 a2 = some r) :
  Calls Try.prog 74 #[.int .i64 a0, .int .i64 a1, .int .i64 a2] w fun e w' => e = .returned (.bool r) ∧ Drawn0 w w' := by
 have H : (if a0 ≥ a1 then (some (decide (a0 ≤ a2))) else (some false)) = some r := h
 clear h
 by_cases c4 : a0 ≥ a1
 ·rw [if_pos c4] at H
  have c4b0 : decide (a1 ≤ a0) = true := decide_eq_true c4
  clear c4
  obtain rfl := Option.some.inj H
  go_enter Try.func74, Try.ntmps74
  go_wp2
  go_ret
  exact ⟨mE, by repeat (first | exact Drawn0.refl _ | apply Drawn0.step)⟩
 ·rw [if_neg c4] at H
  have c4b0 : decide (a1 ≤ a0) = false := decide_eq_false c4
  clear c4
  obtain rfl := Option.some.inj H
  go_enter Try.func74, Try.ntmps74
  go_wp2
  go_ret
  exact ⟨mE, by repeat (first | exact Drawn0.refl _ | apply Drawn0.step)⟩

/-! ### spec_DotOk: function 103 -/
def spec_DotOk.f (a0_0 : Int) (a0_1 : Int) : Option (Bool) := (spec_l1In.f a0_0 1 7).bind fun t121 => (if t121 = true then ((spec_l1In.f a0_1 1 999).bind fun t122 => (some t122)) else (some false))
set_option maxHeartbeats 8000000 in
set_option maxRecDepth 100000 in
theorem spec_DotOk.calls (a0_0 : Int) (a0_1 : Int) (r : Bool) (w : World) (h : spec_DotOk.f a0_0 a0_1 = some r) :
  Calls Try.prog 103 #[.agg #[.int .i64 a0_0, .int .i64 a0_1]] w fun e w' => e = .returned (.bool r) ∧ Below w.heap.size w w' := by
 have hu56 := Try.underlying56
 have HB := mS (Below.refl w.heap.size w)
 have H : ((spec_l1In.f a0_0 1 7).bind fun t121 => (if t121 = true then ((spec_l1In.f a0_1 1 999).bind fun t122 => (some t122)) else (some false))) = some r := h
 clear h
 replace H := Option.bind_eq_some_iff.mp H
 obtain ⟨t121, A20, H⟩ := H
 replace H : (if t121 = true then ((spec_l1In.f a0_1 1 999).bind fun t122 => (some t122)) else (some false)) = some r := H
 have A2 := mS A20
 clear A20
 by_cases c3 : t121 = true
 ·subst c3
  have H1 := H
  rw [if_pos rfl] at H1
  clear H
  have H := H1
  clear H1
  replace H := Option.bind_eq_some_iff.mp H
  obtain ⟨t122, A40, H⟩ := H
  replace H : (some t122) = some r := H
  have A4 := mS A40
  clear A40
  obtain rfl := Option.some.inj H
  go_enter Try.func103, Try.ntmps103
  go_wp2_with (first | ((with_reducible refine gate_dst (N := 1) rfl ?_); refine mBx 1 #[.int .i64 a0_0, .int .i64 a0_1] 56 ?_; intro gb120 hg w5 hbox hb; have BK120 := mS (hbox); have GW120 := mG hg (mH HB.out); have GE120 := mG hg (mH HB.out); replace HB := mS (below_step (mH HB.out) hb); clear hb hbox hg; obtain ⟨hcz6_0, hcz6_1, hfz6_0, hfz6_1⟩ := mZ2 BK120.out) | ((with_reducible refine gate_callee (f := 74) rfl ?_); refine mGo 5 Try.func74 #[.int .i64 a0_0, .int .i64 1, .int .i64 7] ?_; (with_reducible refine (spec_l1In.calls a0_0 1 7 true _ A2.out).mono ?_); rintro e w' ⟨rfl, ⟨nd, rfl⟩⟩; refine ⟨_, rfl, ?_⟩) | (go_at_call 74; (with_reducible refine (spec_l1In.calls a0_1 1 999 t122 _ A4.out).mono ?_); rintro e w' ⟨rfl, ⟨nd, rfl⟩⟩))
  go_ret
  exact ⟨mEw, (mH1 HB.out GE120.out)⟩
 ·replace c3 := Bool.eq_false_iff.mpr c3
  subst c3
  have H1 := H
  rw [if_neg (show ¬ (false = true) by decide)] at H1
  clear H
  have H := H1
  clear H1
  obtain rfl := Option.some.inj H
  go_enter Try.func103, Try.ntmps103
  go_wp2_with (first | ((with_reducible refine gate_dst (N := 1) rfl ?_); refine mBx 1 #[.int .i64 a0_0, .int .i64 a0_1] 56 ?_; intro gb120 hg w7 hbox hb; have BK120 := mS (hbox); have GW120 := mG hg (mH HB.out); have GE120 := mG hg (mH HB.out); replace HB := mS (below_step (mH HB.out) hb); clear hb hbox hg; obtain ⟨hcz8_0, hcz8_1, hfz8_0, hfz8_1⟩ := mZ2 BK120.out) | ((with_reducible refine gate_callee (f := 74) rfl ?_); refine mGo 5 Try.func74 #[.int .i64 a0_0, .int .i64 1, .int .i64 7] ?_; (with_reducible refine (spec_l1In.calls a0_0 1 7 false _ A2.out).mono ?_); rintro e w' ⟨rfl, ⟨nd, rfl⟩⟩; refine ⟨_, rfl, ?_⟩))
  go_ret
  exact ⟨mEw, (mH1 HB.out GE120.out)⟩

/-! ### spec_l8Has: function 104 -/
def spec_l8Has.l0 : Nat → List (S56) → Int → Int → Int → Option (Bool)
 | 0, _, _, _, _ => none
 | k + 1, x0, x5, x124000, x124001 => if x5 < (x0.length : Int) then (if 0 ≤ x5 then (if (((rd_T56 x0 x5).f0) == x124000 && (((rd_T56 x0 x5).f1) == x124001)) = true then (some true) else (spec_l8Has.l0 k x0 (wrap64 (x5 + 1)) x124000 x124001)) else (none)) else (some false)
def spec_l8Has.f (k : Nat) (l0 : List (S56)) (a1_0 : Int) (a1_1 : Int) : Option (Bool) := spec_l8Has.l0 k l0 0 a1_0 a1_1
theorem spec_l8Has.mono_l : ∀ k, (∀ y0 y1 y2 y3, LeO (spec_l8Has.l0 k y0 y1 y2 y3) (spec_l8Has.l0 (k + 1) y0 y1 y2 y3))
 | 0 => fun _ _ _ _ r h => by simp [spec_l8Has.l0] at h
 | k + 1 => by
  have ih0 := spec_l8Has.mono_l k
  ·intro y0 y1 y2 y3
   unfold spec_l8Has.l0
   repeat' first
   | (with_reducible exact ih0 _ _ _ _)
   | (with_reducible exact LeO.refl _)
   | (with_reducible exact LeO.none _)
   | (with_reducible refine LeO.ite ?_ ?_)
   | (with_reducible refine LeO.bind ?_ (fun _ => ?_))
   | exact ih0 _ _ _ _
   | exact LeO.none _
   | refine LeO.ite ?_ ?_
   | refine LeO.bind ?_ (fun _ => ?_)
theorem spec_l8Has.mono : ∀ a0 a1 a2 k, LeO (spec_l8Has.f k a0 a1 a2) (spec_l8Has.f (k + 1) a0 a1 a2) := by
 intro a0 a1 a2 k
 have ih0 := spec_l8Has.mono_l k
 unfold spec_l8Has.f
 repeat' first
   | (with_reducible exact ih0 _ _ _ _)
   | (with_reducible exact LeO.refl _)
   | (with_reducible exact LeO.none _)
   | (with_reducible refine LeO.ite ?_ ?_)
   | (with_reducible refine LeO.bind ?_ (fun _ => ?_))
   | exact ih0 _ _ _ _
   | exact LeO.none _
   | refine LeO.ite ?_ ?_
   | refine LeO.bind ?_ (fun _ => ?_)
set_option maxHeartbeats 8000000 in
set_option maxRecDepth 100000 in
theorem spec_l8Has.calls (k : Nat) (A0 : Option Addr) (c0 : Nat) (l0 : List (S56)) (a1_0 : Int) (a1_1 : Int) (r : Bool) (w : World) (hr0 : Kd.C k56 w A0 l0.length l0) (hc0 : l0.length ≤ c0) (h : spec_l8Has.f k l0 a1_0 a1_1 = some r) :
  Calls Try.prog 104 #[.slice A0 l0.length c0, .agg #[.int .i64 a1_0, .int .i64 a1_1]] w fun e w' => e = .returned (.bool r) ∧ Below w.heap.size w w' := by
 have hu56 := Try.underlying56
 have HR0 := mS hr0
 have HC0 := mS hc0
 clear hr0 hc0
 have HB := mS (Below.refl w.heap.size w)
 have H : (spec_l8Has.l0 k l0 0 a1_0 a1_1) = some r := h
 clear h
 have H' := mS H
 clear H
 go_enter Try.func104, Try.ntmps104
 go_wp2_with (first | ((with_reducible refine gate_dst (N := 3) rfl ?_); refine mBx 3 #[.int .i64 a1_0, .int .i64 a1_1] 56 ?_; intro gb123 hg w3 hbox hb; have BK123 := mS (hbox); have GW123 := mG hg (mH HB.out); have GE123 := mG hg (mH HB.out); replace HB := mS (below_step (mH HB.out) hb); clear hb hbox hg))
 repeat (go_quiet (first | ((with_reducible refine gate_dst (N := 3) rfl ?_); refine mBx 3 #[.int .i64 a1_0, .int .i64 a1_1] 56 ?_; intro gb123 hg w3 hbox hb; have BK123 := mS (hbox); have GW123 := mG hg (mH HB.out); have GE123 := mG hg (mH HB.out); replace HB := mS (below_step (mH HB.out) hb); clear hb hbox hg)); try go_wp2_with (first | ((with_reducible refine gate_dst (N := 3) rfl ?_); refine mBx 3 #[.int .i64 a1_0, .int .i64 a1_1] 56 ?_; intro gb123 hg w3 hbox hb; have BK123 := mS (hbox); have GW123 := mG hg (mH HB.out); have GE123 := mG hg (mH HB.out); replace HB := mS (below_step (mH HB.out) hb); clear hb hbox hg)))
 go_loopg [5] k (fun kq v5 w' => ∃ (x5_1 : Int), v5 = .int .i64 x5_1 ∧ Aside0 (spec_l8Has.l0 kq l0 x5_1 a1_0 a1_1 = some r) ∧ Aside0 (kq ≤ k) ∧ Aside0 (w'.heap[gb123]? = some (.cells #[.int .i64 a1_0, .int .i64 a1_1] 56 (0, 0))) ∧ Aside0 (Below w.heap.size w w'))
 case atStart => exact ⟨(0), mE, H', ⟨Nat.le_refl _⟩, ⟨mK BK123.out⟩, ⟨(mH1 HB.out GE123.out)⟩⟩
 case round =>
  clear H'
  try clear c1
  try clear p2
  obtain ⟨x5_1, rfl, HA, HK1, BK123, HB⟩ := hrel
  cases gk with
  | zero => exact absurd HA.out (by simp [spec_l8Has.l0])
  | succ k1 =>
   have H := HA.out
   clear HA
   simp only [spec_l8Has.l0] at H
   by_cases c4 : x5_1 < (l0.length : Int)
   ·rw [if_pos c4] at H
    have c4b0 := decide_eq_true c4
    clear c4
    by_cases c5 : 0 ≤ x5_1
    ·rw [if_pos c5] at H
     have c5b0 := decide_eq_true c5
     clear c5
     by_cases c6 : (((rd_T56 l0 x5_1).f0) == a1_0 && (((rd_T56 l0 x5_1).f1) == a1_1)) = true
     ·rw [if_pos c6] at H
      have c6b0 : (((rd_T56 l0 x5_1).f0) == a1_0 && (((rd_T56 l0 x5_1).f1) == a1_1)) = true := c6
      (try (have c6b1 : decide (((rd_T56 l0 x5_1).f0) = a1_0 && (((rd_T56 l0 x5_1).f1) == a1_1)) = true := by simpa using c6))
      (try (have c6b2 : (((rd_T56 l0 x5_1).f0) == a1_0 && (((rd_T56 l0 x5_1).f1) == a1_1)) = true := by simpa using c6))
      clear c6
      obtain rfl := Option.some.inj H
      have p124 : 0 ≤ (x5_1 : Int) := mD
      have q124 : x5_1 < (l0.length : Int) := mD
      obtain ⟨ad124, e124, hx124_0, hx124_1⟩ := at_T56 HR0.out x5_1 p124 q124
      cases e124
      replace hx124_0 := mX HB.out hx124_0
      replace hx124_1 := mX HB.out hx124_1
      replace p124 := eq_true p124
      replace q124 := eq_true q124
      obtain ⟨hcz7_0, hcz7_1, hfz7_0, hfz7_1⟩ := mZ2 BK123.out
      go_wp2
      repeat (go_quiet (fail); try go_wp2)
      go_ret
      exact ⟨mEw, (mH1 HB.out GE123.out)⟩
     ·rw [if_neg c6] at H
      have c6b0 : (((rd_T56 l0 x5_1).f0) == a1_0 && (((rd_T56 l0 x5_1).f1) == a1_1)) = false := by simpa using c6
      (try (have c6b1 : decide (((rd_T56 l0 x5_1).f0) = a1_0 && (((rd_T56 l0 x5_1).f1) == a1_1)) = false := by simpa using c6))
      (try (have c6b2 : (((rd_T56 l0 x5_1).f0) == a1_0 && (((rd_T56 l0 x5_1).f1) == a1_1)) = false := by simpa using c6))
      (try (have c6b3 : ¬ (((rd_T56 l0 x5_1).f0) = a1_0 && (((rd_T56 l0 x5_1).f1) == a1_1)) := by simpa using c6))
      clear c6
      have H' := mS H
      clear H
      have p124 : 0 ≤ (x5_1 : Int) := mD
      have q124 : x5_1 < (l0.length : Int) := mD
      obtain ⟨ad124, e124, hx124_0, hx124_1⟩ := at_T56 HR0.out x5_1 p124 q124
      cases e124
      replace hx124_0 := mX HB.out hx124_0
      replace hx124_1 := mX HB.out hx124_1
      replace p124 := eq_true p124
      replace q124 := eq_true q124
      obtain ⟨hcz8_0, hcz8_1, hfz8_0, hfz8_1⟩ := mZ2 BK123.out
      go_wp2
      repeat (go_quiet (fail); try go_wp2)
      go_roundg k1
      case measure => have := HK1.out; omega
      case rel => exact ⟨(wrap64 (x5_1 + 1)), mE, H', ⟨by have := HK1.out; omega⟩, ⟨mK BK123.out⟩, ⟨(mH1 HB.out GE123.out)⟩⟩
    ·rw [if_neg c5] at H
     exact absurd H (by simp)
   ·rw [if_neg c4] at H
    have c4b0 := decide_eq_false c4
    clear c4
    obtain rfl := Option.some.inj H
    go_wp2
    repeat (go_quiet (fail); try go_wp2)
    go_ret
    exact ⟨mEw, (mH1 HB.out GE123.out)⟩

end Go.Proofs.Ytecjamgajlpfdaa.MFnExactGraphPut
