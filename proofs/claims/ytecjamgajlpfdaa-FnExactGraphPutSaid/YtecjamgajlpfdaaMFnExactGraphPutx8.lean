-- Written by mp.py, this session's own printer (wip/mp.py).
import Derived.Test.YtecjamgajlpfdaaVMShort
import Derived.Test.YtecjamgajlpfdaaMFnExactGraphPutx0
import Derived.Test.YtecjamgajlpfdaaMFnExactGraphPutx1
namespace Go.Proofs.Ytecjamgajlpfdaa.MFnExactGraphPut
open Go.RowKit Go.Proofs.YtecjamgajlpfdaaW.PrintWords Go.Proofs.YtecjamgajlpfdaaW.PrintLast Go.Proofs.YtecjamgajlpfdaaW.PrintMore Go.Proofs.Ytecjamgajlpfdaa.MWords
attribute [local go_sem] max2_int min2_int max_two min_two max_three min_three max_four min_four   -- for this text's walks alone
set_option linter.unusedVariables false
set_option linter.unusedSimpArgs false

attribute [local go_sem high] eqA56
/-! ### impl_itemAt: function 63 -/
def impl_itemAt.l0 : Nat → List (S59) → Int → Int → Int → Int → Option (Int)
 | 0, _, _, _, _, _ => none
 | k + 1, x8, x9, x10, x249000, x249001 => if x10 < x9 then (if 0 ≤ x10 then (if x10 < (x8.length : Int) then (if (((rd_T59 x8 x10).f0.f0) == x249000 && (((rd_T59 x8 x10).f0.f1) == x249001)) = true then (some x10) else (impl_itemAt.l0 k x8 x9 (wrap64 (x10 + 1)) x249000 x249001)) else (none)) else (none)) else (some (-1))
def impl_itemAt.f (k : Nat) (l0_0 : List (S59)) (a1_0 : Int) (a1_1 : Int) : Option (Int) := impl_itemAt.l0 k l0_0 (l0_0.length : Int) 0 a1_0 a1_1
theorem impl_itemAt.mono_l : ∀ k, (∀ y0 y1 y2 y3 y4, LeO (impl_itemAt.l0 k y0 y1 y2 y3 y4) (impl_itemAt.l0 (k + 1) y0 y1 y2 y3 y4))
 | 0 => fun _ _ _ _ _ r h => by simp [impl_itemAt.l0] at h
 | k + 1 => by
  have ih0 := impl_itemAt.mono_l k
  ·intro y0 y1 y2 y3 y4
   unfold impl_itemAt.l0
   repeat' first
   | (with_reducible exact ih0 _ _ _ _ _)
   | (with_reducible exact LeO.refl _)
   | (with_reducible exact LeO.none _)
   | (with_reducible refine LeO.ite ?_ ?_)
   | (with_reducible refine LeO.bind ?_ (fun _ => ?_))
   | exact ih0 _ _ _ _ _
   | exact LeO.none _
   | refine LeO.ite ?_ ?_
   | refine LeO.bind ?_ (fun _ => ?_)
theorem impl_itemAt.mono : ∀ a0 a1 a2 k, LeO (impl_itemAt.f k a0 a1 a2) (impl_itemAt.f (k + 1) a0 a1 a2) := by
 intro a0 a1 a2 k
 have ih0 := impl_itemAt.mono_l k
 unfold impl_itemAt.f
 repeat' first
   | (with_reducible exact ih0 _ _ _ _ _)
   | (with_reducible exact LeO.refl _)
   | (with_reducible exact LeO.none _)
   | (with_reducible refine LeO.ite ?_ ?_)
   | (with_reducible refine LeO.bind ?_ (fun _ => ?_))
   | exact ih0 _ _ _ _ _
   | exact LeO.none _
   | refine LeO.ite ?_ ?_
   | refine LeO.bind ?_ (fun _ => ?_)
set_option maxHeartbeats 8000000 in
set_option maxRecDepth 100000 in
theorem impl_itemAt.calls (k : Nat) (A0_0 : Option Addr) (c0_0 : Nat) (l0_0 : List (S59)) (a1_0 : Int) (a1_1 : Int) (r : Int) (w : World) (hr0_0 : Kd.C k59 w A0_0 l0_0.length l0_0) (hc0_0 : l0_0.length ≤ c0_0) (h : impl_itemAt.f k l0_0 a1_0 a1_1 = some r) :
  Calls Try.prog 63 #[.agg #[.slice A0_0 l0_0.length c0_0], .agg #[.int .i64 a1_0, .int .i64 a1_1]] w fun e w' => e = .returned (.int .i64 r) ∧ Below w.heap.size w w' := by
 have hu52 := Try.underlying52
 have hu56 := Try.underlying56
 have hu59 := Try.underlying59
 have HR0_0 := mS hr0_0
 have HC0_0 := mS hc0_0
 clear hr0_0 hc0_0
 have HB := mS (Below.refl w.heap.size w)
 have H : (impl_itemAt.l0 k l0_0 (l0_0.length : Int) 0 a1_0 a1_1) = some r := h
 clear h
 have H' := mS H
 clear H
 go_enter Try.func63, Try.ntmps63
 go_wp2_with (first | ((with_reducible refine gate_dst (N := 2) rfl ?_); refine mBx 2 #[.slice A0_0 l0_0.length c0_0] 52 ?_; intro gb247 hg w3 hbox hb; have BK247 := mS (hbox); have GW247 := mG hg (mH HB.out); have GE247 := mG hg (mH HB.out); replace HB := mS (below_step (mH HB.out) hb); clear hb hbox hg) | ((with_reducible refine gate_dst (N := 3) rfl ?_); refine mBx 3 #[.int .i64 a1_0, .int .i64 a1_1] 56 ?_; intro gb248 hg w4 hbox hb; have BK248 := mS (hbox); have GW248 := mG hg (mH1 HB.out GE247.out); have GE248 := mG hg (mH1 HB.out GE247.out); replace HB := mS (below_step (mH1 HB.out GE247.out) hb); have NB247_248 := mNl hg BK247.out; have NB248_247 := mNg hg BK247.out; replace BK247 := mB BK247 hb; clear hb hbox hg; have hnb5 := NB247_248.out; have hnc5 := NB248_247.out; have hcz6_0 := mZ BK247.out 0; have hfz6_0 := blk_frozen BK247.out 0))
 go_loopg [10] k (fun kq v10 w' => ∃ (x10_1 : Int), v10 = .int .i64 x10_1 ∧ Aside0 (impl_itemAt.l0 kq l0_0 (l0_0.length : Int) x10_1 a1_0 a1_1 = some r) ∧ Aside0 (kq ≤ k) ∧ Aside0 (w'.heap[gb247]? = some (.cells #[(.slice A0_0 l0_0.length c0_0)] 52 (0, 0))) ∧ Aside0 (w'.heap[gb248]? = some (.cells #[.int .i64 a1_0, .int .i64 a1_1] 56 (0, 0))) ∧ Aside0 (Below w.heap.size w w'))
 case atStart => exact ⟨(0), mE, H', ⟨Nat.le_refl _⟩, ⟨mK BK247.out⟩, ⟨mK BK248.out⟩, ⟨(mH2 HB.out GE247.out GE248.out)⟩⟩
 case round =>
  clear H'
  try clear p2
  try clear c5
  try clear c6
  try clear hcz6_0
  try clear hfz6_0
  obtain ⟨x10_1, rfl, HA, HK1, BK247, BK248, HB⟩ := hrel
  cases gk with
  | zero => exact absurd HA.out (by simp [impl_itemAt.l0])
  | succ k1 =>
   have H := HA.out
   clear HA
   simp only [impl_itemAt.l0] at H
   by_cases c7 : x10_1 < (l0_0.length : Int)
   ·rw [if_pos c7] at H
    have c7b0 := decide_eq_true c7
    clear c7
    by_cases c8 : 0 ≤ x10_1
    ·rw [if_pos c8] at H
     have c8b0 := decide_eq_true c8
     clear c8
     by_cases c9 : x10_1 < (l0_0.length : Int)
     ·rw [if_pos c9] at H
      have c9b0 := decide_eq_true c9
      clear c9
      by_cases c10 : (((rd_T59 l0_0 x10_1).f0.f0) == a1_0 && (((rd_T59 l0_0 x10_1).f0.f1) == a1_1)) = true
      ·rw [if_pos c10] at H
       have c10b0 : (((rd_T59 l0_0 x10_1).f0.f0) == a1_0 && (((rd_T59 l0_0 x10_1).f0.f1) == a1_1)) = true := c10
       (try (have c10b1 : decide (((rd_T59 l0_0 x10_1).f0.f0) = a1_0 && (((rd_T59 l0_0 x10_1).f0.f1) == a1_1)) = true := by simpa using c10))
       (try (have c10b2 : (((rd_T59 l0_0 x10_1).f0.f0) == a1_0 && (((rd_T59 l0_0 x10_1).f0.f1) == a1_1)) = true := by simpa using c10))
       clear c10
       obtain rfl := Option.some.inj H
       have p249 : 0 ≤ (x10_1 : Int) := mD
       have q249 : x10_1 < (l0_0.length : Int) := mD
       obtain ⟨ad249, A249_2, c249_2, e249, hx249_0, hx249_1, hx249_2, hl249_2, hi249_2⟩ := at_T59 HR0_0.out x10_1 p249 q249
       cases e249
       replace hx249_0 := mX HB.out hx249_0
       replace hx249_1 := mX HB.out hx249_1
       replace hx249_2 := mX HB.out hx249_2
       have HR249_2 := mS hi249_2
       have HC249_2 := mS hl249_2
       clear hi249_2 hl249_2
       replace p249 := eq_true p249
       replace q249 := eq_true q249
       go_wp2_with (first | ((with_reducible refine gate_dst (N := 6) rfl ?_); refine mBx 6 #[.int .i64 0, .int .i64 0, .slice none 0 0] 59 ?_; intro gb250 hg w11 hbox hb; have BK250 := mS (hbox); have GW250 := mG hg (mH2 HB.out GE247.out GE248.out); have GE250 := mG hg (mH2 HB.out GE247.out GE248.out); replace HB := mS (below_step (mH2 HB.out GE247.out GE248.out) hb); have NB247_250 := mNl hg BK247.out; have NB250_247 := mNg hg BK247.out; replace BK247 := mB BK247 hb; have NB248_250 := mNl hg BK248.out; have NB250_248 := mNg hg BK248.out; replace BK248 := mB BK248 hb; clear hb hbox hg; have hnb12 := NB250_247.out; have hnc12 := NB247_250.out; have hnb13 := NB250_248.out; have hnc13 := NB248_250.out; obtain ⟨hcz14_0, hcz14_1, hcz14_2, hfz14_0, hfz14_1, hfz14_2⟩ := mZ3 BK250.out; have hnb15 := NB248_247.out; have hnc15 := NB247_248.out; obtain ⟨hcz16_0, hcz16_1, hfz16_0, hfz16_1⟩ := mZ2 BK248.out))
       go_ret
       exact ⟨mEw, (mH3 HB.out GE247.out GE248.out GE250.out)⟩
      ·rw [if_neg c10] at H
       have c10b0 : (((rd_T59 l0_0 x10_1).f0.f0) == a1_0 && (((rd_T59 l0_0 x10_1).f0.f1) == a1_1)) = false := by simpa using c10
       (try (have c10b1 : decide (((rd_T59 l0_0 x10_1).f0.f0) = a1_0 && (((rd_T59 l0_0 x10_1).f0.f1) == a1_1)) = false := by simpa using c10))
       (try (have c10b2 : (((rd_T59 l0_0 x10_1).f0.f0) == a1_0 && (((rd_T59 l0_0 x10_1).f0.f1) == a1_1)) = false := by simpa using c10))
       (try (have c10b3 : ¬ (((rd_T59 l0_0 x10_1).f0.f0) = a1_0 && (((rd_T59 l0_0 x10_1).f0.f1) == a1_1)) := by simpa using c10))
       clear c10
       have H' := mS H
       clear H
       have p249 : 0 ≤ (x10_1 : Int) := mD
       have q249 : x10_1 < (l0_0.length : Int) := mD
       obtain ⟨ad249, A249_2, c249_2, e249, hx249_0, hx249_1, hx249_2, hl249_2, hi249_2⟩ := at_T59 HR0_0.out x10_1 p249 q249
       cases e249
       replace hx249_0 := mX HB.out hx249_0
       replace hx249_1 := mX HB.out hx249_1
       replace hx249_2 := mX HB.out hx249_2
       have HR249_2 := mS hi249_2
       have HC249_2 := mS hl249_2
       clear hi249_2 hl249_2
       replace p249 := eq_true p249
       replace q249 := eq_true q249
       go_wp2_with (first | ((with_reducible refine gate_dst (N := 6) rfl ?_); refine mBx 6 #[.int .i64 0, .int .i64 0, .slice none 0 0] 59 ?_; intro gb250 hg w17 hbox hb; have BK250 := mS (hbox); have GW250 := mG hg (mH2 HB.out GE247.out GE248.out); have GE250 := mG hg (mH2 HB.out GE247.out GE248.out); replace HB := mS (below_step (mH2 HB.out GE247.out GE248.out) hb); have NB247_250 := mNl hg BK247.out; have NB250_247 := mNg hg BK247.out; replace BK247 := mB BK247 hb; have NB248_250 := mNl hg BK248.out; have NB250_248 := mNg hg BK248.out; replace BK248 := mB BK248 hb; clear hb hbox hg; have hnb18 := NB250_247.out; have hnc18 := NB247_250.out; have hnb19 := NB250_248.out; have hnc19 := NB248_250.out; obtain ⟨hcz20_0, hcz20_1, hcz20_2, hfz20_0, hfz20_1, hfz20_2⟩ := mZ3 BK250.out; have hnb21 := NB248_247.out; have hnc21 := NB247_248.out; obtain ⟨hcz22_0, hcz22_1, hfz22_0, hfz22_1⟩ := mZ2 BK248.out))
       go_roundg k1
       case measure => have := HK1.out; omega
       case rel => exact ⟨(wrap64 (x10_1 + 1)), mE, H', ⟨by have := HK1.out; omega⟩, ⟨mKf NB247_250.out BK247.out⟩, ⟨mKf NB248_250.out BK248.out⟩, ⟨(mH3 HB.out GE247.out GE248.out GE250.out)⟩⟩
     ·rw [if_neg c9] at H
      exact absurd H (by simp)
    ·rw [if_neg c8] at H
     exact absurd H (by simp)
   ·rw [if_neg c7] at H
    have c7b0 := decide_eq_false c7
    clear c7
    obtain rfl := Option.some.inj H
    go_wp2
    go_ret
    exact ⟨mEw, (mH2 HB.out GE247.out GE248.out)⟩

/-! ### impl_in: function 37 -/
def impl_in.f (a0 : Int) (a1 : Int) (a2 : Int) : Option (Bool) := if a0 ≥ a1 then (some (decide (a0 ≤ a2))) else (some false)
set_option maxHeartbeats 8000000 in
set_option maxRecDepth 100000 in
theorem impl_in.calls (a0 : Int) (a1 : Int) (a2 : Int) (r : Bool) (w : World) (h : impl_in.f a0 a1 a2 = some r) :
  Calls Try.prog 37 #[.int .i64 a0, .int .i64 a1, .int .i64 a2] w fun e w' => e = .returned (.bool r) ∧ Drawn0 w w' := by
 have H : (if a0 ≥ a1 then (some (decide (a0 ≤ a2))) else (some false)) = some r := h
 clear h
 by_cases c4 : a0 ≥ a1
 ·rw [if_pos c4] at H
  have c4b0 : decide (a1 ≤ a0) = true := decide_eq_true c4
  clear c4
  obtain rfl := Option.some.inj H
  go_enter Try.func37, Try.ntmps37
  go_wp2
  go_ret
  exact ⟨mE, by repeat (first | exact Drawn0.refl _ | apply Drawn0.step)⟩
 ·rw [if_neg c4] at H
  have c4b0 : decide (a1 ≤ a0) = false := decide_eq_false c4
  clear c4
  obtain rfl := Option.some.inj H
  go_enter Try.func37, Try.ntmps37
  go_wp2
  go_ret
  exact ⟨mE, by repeat (first | exact Drawn0.refl _ | apply Drawn0.step)⟩

/-! ### impl_DotOk: function 92 -/
def impl_DotOk.f (a0_0 : Int) (a0_1 : Int) : Option (Bool) := (impl_in.f a0_0 1 7).bind fun t252 => (if t252 = true then ((impl_in.f a0_1 1 999).bind fun t253 => (some t253)) else (some false))
set_option maxHeartbeats 8000000 in
set_option maxRecDepth 100000 in
theorem impl_DotOk.calls (a0_0 : Int) (a0_1 : Int) (r : Bool) (w : World) (h : impl_DotOk.f a0_0 a0_1 = some r) :
  Calls Try.prog 92 #[.agg #[.int .i64 a0_0, .int .i64 a0_1]] w fun e w' => e = .returned (.bool r) ∧ Below w.heap.size w w' := by
 have hu56 := Try.underlying56
 have HB := mS (Below.refl w.heap.size w)
 have H : ((impl_in.f a0_0 1 7).bind fun t252 => (if t252 = true then ((impl_in.f a0_1 1 999).bind fun t253 => (some t253)) else (some false))) = some r := h
 clear h
 replace H := Option.bind_eq_some_iff.mp H
 obtain ⟨t252, A20, H⟩ := H
 replace H : (if t252 = true then ((impl_in.f a0_1 1 999).bind fun t253 => (some t253)) else (some false)) = some r := H
 have A2 := mS A20
 clear A20
 by_cases c3 : t252 = true
 ·subst c3
  have H1 := H
  rw [if_pos rfl] at H1
  clear H
  have H := H1
  clear H1
  replace H := Option.bind_eq_some_iff.mp H
  obtain ⟨t253, A40, H⟩ := H
  replace H : (some t253) = some r := H
  have A4 := mS A40
  clear A40
  obtain rfl := Option.some.inj H
  go_enter Try.func92, Try.ntmps92
  go_wp2_with (first | ((with_reducible refine gate_dst (N := 1) rfl ?_); refine mBx 1 #[.int .i64 a0_0, .int .i64 a0_1] 56 ?_; intro gb251 hg w5 hbox hb; have BK251 := mS (hbox); have GW251 := mG hg (mH HB.out); have GE251 := mG hg (mH HB.out); replace HB := mS (below_step (mH HB.out) hb); clear hb hbox hg; obtain ⟨hcz6_0, hcz6_1, hfz6_0, hfz6_1⟩ := mZ2 BK251.out) | ((with_reducible refine gate_callee (f := 37) rfl ?_); refine mGo 5 Try.func37 #[.int .i64 a0_0, .int .i64 1, .int .i64 7] ?_; (with_reducible refine (impl_in.calls a0_0 1 7 true _ A2.out).mono ?_); rintro e w' ⟨rfl, ⟨nd, rfl⟩⟩; refine ⟨_, rfl, ?_⟩) | (go_at_call 37; (with_reducible refine (impl_in.calls a0_1 1 999 t253 _ A4.out).mono ?_); rintro e w' ⟨rfl, ⟨nd, rfl⟩⟩))
  go_ret
  exact ⟨mEw, (mH1 HB.out GE251.out)⟩
 ·replace c3 := Bool.eq_false_iff.mpr c3
  subst c3
  have H1 := H
  rw [if_neg (show ¬ (false = true) by decide)] at H1
  clear H
  have H := H1
  clear H1
  obtain rfl := Option.some.inj H
  go_enter Try.func92, Try.ntmps92
  go_wp2_with (first | ((with_reducible refine gate_dst (N := 1) rfl ?_); refine mBx 1 #[.int .i64 a0_0, .int .i64 a0_1] 56 ?_; intro gb251 hg w7 hbox hb; have BK251 := mS (hbox); have GW251 := mG hg (mH HB.out); have GE251 := mG hg (mH HB.out); replace HB := mS (below_step (mH HB.out) hb); clear hb hbox hg; obtain ⟨hcz8_0, hcz8_1, hfz8_0, hfz8_1⟩ := mZ2 BK251.out) | ((with_reducible refine gate_callee (f := 37) rfl ?_); refine mGo 5 Try.func37 #[.int .i64 a0_0, .int .i64 1, .int .i64 7] ?_; (with_reducible refine (impl_in.calls a0_0 1 7 false _ A2.out).mono ?_); rintro e w' ⟨rfl, ⟨nd, rfl⟩⟩; refine ⟨_, rfl, ?_⟩))
  go_ret
  exact ⟨mEw, (mH1 HB.out GE251.out)⟩

end Go.Proofs.Ytecjamgajlpfdaa.MFnExactGraphPut
