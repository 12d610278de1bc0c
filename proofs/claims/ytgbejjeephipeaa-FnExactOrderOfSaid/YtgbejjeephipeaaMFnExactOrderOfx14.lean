-- Written by mp.py, this session's own printer (wip/mp.py).
import Derived.Test.YtgbejjeephipeaaVMShort
import Derived.Test.YtgbejjeephipeaaMFnExactOrderOfx0
import Derived.Test.YtgbejjeephipeaaMFnExactOrderOfx1
namespace Go.Proofs.Ytgbejjeephipeaa.MFnExactOrderOf
open Go.RowKit Go.Proofs.YtgbejjeephipeaaW.PrintWords Go.Proofs.YtgbejjeephipeaaW.PrintLast Go.Proofs.YtgbejjeephipeaaW.PrintMore Go.Proofs.Ytgbejjeephipeaa.MWords
attribute [local go_sem] max2_int min2_int max_two min_two max_three min_three max_four min_four   -- for this text's walks alone
set_option linter.unusedVariables false
set_option linter.unusedSimpArgs false

attribute [local go_sem high] eqA31
/-! ### spec_l8At: function 72 -/
def spec_l8At.l0 : Nat → Int → List (S33) → Int → Int → Option (Int)
 | 0, _, _, _, _ => none
 | k + 1, x5, x308000, x309000, x309001 => if x5 < (x308000.length : Int) then (if 0 ≤ x5 then (if (((rd_T33 x308000 x5).f0.f0) == x309000 && (((rd_T33 x308000 x5).f0.f1) == x309001)) = true then (some x5) else (spec_l8At.l0 k (wrap64 (x5 + 1)) x308000 x309000 x309001)) else (none)) else (some (-1))
def spec_l8At.f (k : Nat) (l0_0 : List (S33)) (a1_0 : Int) (a1_1 : Int) : Option (Int) := spec_l8At.l0 k 0 l0_0 a1_0 a1_1
theorem spec_l8At.mono_l : ∀ k, (∀ y0 y1 y2 y3, LeO (spec_l8At.l0 k y0 y1 y2 y3) (spec_l8At.l0 (k + 1) y0 y1 y2 y3))
 | 0 => fun _ _ _ _ r h => by simp [spec_l8At.l0] at h
 | k + 1 => by
  have ih0 := spec_l8At.mono_l k
  ·intro y0 y1 y2 y3
   unfold spec_l8At.l0
   repeat' first
   | (with_reducible exact ih0 _ _ _ _)
   | (with_reducible exact LeO.refl _)
   | (with_reducible exact LeO.none _)
   | (with_reducible refine LeO.ite ?_ ?_)
   | (with_reducible refine LeO.bind ?_ (fun _ => ?_))
   | exact ih0 _ _ _ _
   | exact LeO.none _
   | refine LeO.ite ?_ ?_
   | refine LeO.bind ?_ (fun _ => ?_)
theorem spec_l8At.mono : ∀ a0 a1 a2 k, LeO (spec_l8At.f k a0 a1 a2) (spec_l8At.f (k + 1) a0 a1 a2) := by
 intro a0 a1 a2 k
 have ih0 := spec_l8At.mono_l k
 unfold spec_l8At.f
 repeat' first
   | (with_reducible exact ih0 _ _ _ _)
   | (with_reducible exact LeO.refl _)
   | (with_reducible exact LeO.none _)
   | (with_reducible refine LeO.ite ?_ ?_)
   | (with_reducible refine LeO.bind ?_ (fun _ => ?_))
   | exact ih0 _ _ _ _
   | exact LeO.none _
   | refine LeO.ite ?_ ?_
   | refine LeO.bind ?_ (fun _ => ?_)
set_option maxHeartbeats 8000000 in
set_option maxRecDepth 100000 in
theorem spec_l8At.calls (k : Nat) (A0_0 : Option Addr) (c0_0 : Nat) (l0_0 : List (S33)) (a1_0 : Int) (a1_1 : Int) (r : Int) (w : World) (hr0_0 : Kd.C k33 w A0_0 l0_0.length l0_0) (hc0_0 : l0_0.length ≤ c0_0) (h : spec_l8At.f k l0_0 a1_0 a1_1 = some r) :
  Calls Try.prog 72 #[.agg #[.slice A0_0 l0_0.length c0_0], .agg #[.int .i64 a1_0, .int .i64 a1_1]] w fun e w' => e = .returned (.int .i64 r) ∧ Below w.heap.size w w' := by
 have hu26 := Try.underlying26
 have hu31 := Try.underlying31
 have HR0_0 := mS hr0_0
 have HC0_0 := mS hc0_0
 clear hr0_0 hc0_0
 have HB := mS (Below.refl w.heap.size w)
 have H : (spec_l8At.l0 k 0 l0_0 a1_0 a1_1) = some r := h
 clear h
 have H' := mS H
 clear H
 go_enter Try.func72, Try.ntmps72
 go_wp2_with (first | ((with_reducible refine gate_dst (N := 2) rfl ?_); refine mBx 2 #[.slice A0_0 l0_0.length c0_0] 26 ?_; intro gb307 hg w3 hbox hb; have BK307 := mS (hbox); have GW307 := mG hg (mH HB.out); have GE307 := mG hg (mH HB.out); replace HB := mS (below_step (mH HB.out) hb); clear hb hbox hg) | ((with_reducible refine gate_dst (N := 3) rfl ?_); refine mBx 3 #[.int .i64 a1_0, .int .i64 a1_1] 31 ?_; intro gb308 hg w4 hbox hb; have BK308 := mS (hbox); have GW308 := mG hg (mH1 HB.out GE307.out); have GE308 := mG hg (mH1 HB.out GE307.out); replace HB := mS (below_step (mH1 HB.out GE307.out) hb); have NB307_308 := mNl hg BK307.out; have NB308_307 := mNg hg BK307.out; replace BK307 := mB BK307 hb; clear hb hbox hg))
 repeat (go_quiet (first | ((with_reducible refine gate_dst (N := 2) rfl ?_); refine mBx 2 #[.slice A0_0 l0_0.length c0_0] 26 ?_; intro gb307 hg w3 hbox hb; have BK307 := mS (hbox); have GW307 := mG hg (mH HB.out); have GE307 := mG hg (mH HB.out); replace HB := mS (below_step (mH HB.out) hb); clear hb hbox hg) | ((with_reducible refine gate_dst (N := 3) rfl ?_); refine mBx 3 #[.int .i64 a1_0, .int .i64 a1_1] 31 ?_; intro gb308 hg w4 hbox hb; have BK308 := mS (hbox); have GW308 := mG hg (mH1 HB.out GE307.out); have GE308 := mG hg (mH1 HB.out GE307.out); replace HB := mS (below_step (mH1 HB.out GE307.out) hb); have NB307_308 := mNl hg BK307.out; have NB308_307 := mNg hg BK307.out; replace BK307 := mB BK307 hb; clear hb hbox hg)); try go_wp2_with (first | ((with_reducible refine gate_dst (N := 2) rfl ?_); refine mBx 2 #[.slice A0_0 l0_0.length c0_0] 26 ?_; intro gb307 hg w3 hbox hb; have BK307 := mS (hbox); have GW307 := mG hg (mH HB.out); have GE307 := mG hg (mH HB.out); replace HB := mS (below_step (mH HB.out) hb); clear hb hbox hg) | ((with_reducible refine gate_dst (N := 3) rfl ?_); refine mBx 3 #[.int .i64 a1_0, .int .i64 a1_1] 31 ?_; intro gb308 hg w4 hbox hb; have BK308 := mS (hbox); have GW308 := mG hg (mH1 HB.out GE307.out); have GE308 := mG hg (mH1 HB.out GE307.out); replace HB := mS (below_step (mH1 HB.out GE307.out) hb); have NB307_308 := mNl hg BK307.out; have NB308_307 := mNg hg BK307.out; replace BK307 := mB BK307 hb; clear hb hbox hg)))
 go_loopg [5] k (fun kq v5 w' => ∃ (x5_1 : Int), v5 = .int .i64 x5_1 ∧ Aside0 (spec_l8At.l0 kq x5_1 l0_0 a1_0 a1_1 = some r) ∧ Aside0 (kq ≤ k) ∧ Aside0 (w'.heap[gb307]? = some (.cells #[(.slice A0_0 l0_0.length c0_0)] 26 (0, 0))) ∧ Aside0 (w'.heap[gb308]? = some (.cells #[.int .i64 a1_0, .int .i64 a1_1] 31 (0, 0))) ∧ Aside0 (Below w.heap.size w w'))
 case atStart => exact ⟨(0), mE, H', ⟨Nat.le_refl _⟩, ⟨mK BK307.out⟩, ⟨mK BK308.out⟩, ⟨(mH2 HB.out GE307.out GE308.out)⟩⟩
 case round =>
  clear H'
  try clear p2
  obtain ⟨x5_1, rfl, HA, HK1, BK307, BK308, HB⟩ := hrel
  cases gk with
  | zero => exact absurd HA.out (by simp [spec_l8At.l0])
  | succ k1 =>
   have H := HA.out
   clear HA
   simp only [spec_l8At.l0] at H
   by_cases c5 : x5_1 < (l0_0.length : Int)
   ·rw [if_pos c5] at H
    have c5b0 := decide_eq_true c5
    clear c5
    by_cases c6 : 0 ≤ x5_1
    ·rw [if_pos c6] at H
     have c6b0 := decide_eq_true c6
     clear c6
     by_cases c7 : (((rd_T33 l0_0 x5_1).f0.f0) == a1_0 && (((rd_T33 l0_0 x5_1).f0.f1) == a1_1)) = true
     ·rw [if_pos c7] at H
      have c7b0 : (((rd_T33 l0_0 x5_1).f0.f0) == a1_0 && (((rd_T33 l0_0 x5_1).f0.f1) == a1_1)) = true := c7
      (try (have c7b1 : decide (((rd_T33 l0_0 x5_1).f0.f0) = a1_0 && (((rd_T33 l0_0 x5_1).f0.f1) == a1_1)) = true := by simpa using c7))
      (try (have c7b2 : (((rd_T33 l0_0 x5_1).f0.f0) == a1_0 && (((rd_T33 l0_0 x5_1).f0.f1) == a1_1)) = true := by simpa using c7))
      clear c7
      obtain rfl := Option.some.inj H
      have hnb8 := NB307_308.out
      have hnc8 := NB308_307.out
      have hcz9_0 := mZ BK307.out 0
      have hfz9_0 := blk_frozen BK307.out 0
      have p309 : 0 ≤ (x5_1 : Int) := mD
      have q309 : x5_1 < (l0_0.length : Int) := mD
      obtain ⟨ad309, A309_2, c309_2, e309, hx309_0, hx309_1, hx309_2, hl309_2, hi309_2⟩ := at_T33 HR0_0.out x5_1 p309 q309
      cases e309
      replace hx309_0 := mX HB.out hx309_0
      replace hx309_1 := mX HB.out hx309_1
      replace hx309_2 := mX HB.out hx309_2
      have HR309_2 := mS hi309_2
      have HC309_2 := mS hl309_2
      clear hi309_2 hl309_2
      replace p309 := eq_true p309
      replace q309 := eq_true q309
      obtain ⟨hcz10_0, hcz10_1, hfz10_0, hfz10_1⟩ := mZ2 BK308.out
      go_wp2
      repeat (go_quiet (fail); try go_wp2)
      go_ret
      exact ⟨mEw, (mH2 HB.out GE307.out GE308.out)⟩
     ·rw [if_neg c7] at H
      have c7b0 : (((rd_T33 l0_0 x5_1).f0.f0) == a1_0 && (((rd_T33 l0_0 x5_1).f0.f1) == a1_1)) = false := by simpa using c7
      (try (have c7b1 : decide (((rd_T33 l0_0 x5_1).f0.f0) = a1_0 && (((rd_T33 l0_0 x5_1).f0.f1) == a1_1)) = false := by simpa using c7))
      (try (have c7b2 : (((rd_T33 l0_0 x5_1).f0.f0) == a1_0 && (((rd_T33 l0_0 x5_1).f0.f1) == a1_1)) = false := by simpa using c7))
      (try (have c7b3 : ¬ (((rd_T33 l0_0 x5_1).f0.f0) = a1_0 && (((rd_T33 l0_0 x5_1).f0.f1) == a1_1)) := by simpa using c7))
      clear c7
      have H' := mS H
      clear H
      have hnb11 := NB307_308.out
      have hnc11 := NB308_307.out
      have hcz12_0 := mZ BK307.out 0
      have hfz12_0 := blk_frozen BK307.out 0
      have p309 : 0 ≤ (x5_1 : Int) := mD
      have q309 : x5_1 < (l0_0.length : Int) := mD
      obtain ⟨ad309, A309_2, c309_2, e309, hx309_0, hx309_1, hx309_2, hl309_2, hi309_2⟩ := at_T33 HR0_0.out x5_1 p309 q309
      cases e309
      replace hx309_0 := mX HB.out hx309_0
      replace hx309_1 := mX HB.out hx309_1
      replace hx309_2 := mX HB.out hx309_2
      have HR309_2 := mS hi309_2
      have HC309_2 := mS hl309_2
      clear hi309_2 hl309_2
      replace p309 := eq_true p309
      replace q309 := eq_true q309
      obtain ⟨hcz13_0, hcz13_1, hfz13_0, hfz13_1⟩ := mZ2 BK308.out
      go_wp2
      repeat (go_quiet (fail); try go_wp2)
      go_roundg k1
      case measure => have := HK1.out; omega
      case rel => exact ⟨(wrap64 (x5_1 + 1)), mE, H', ⟨by have := HK1.out; omega⟩, ⟨mK BK307.out⟩, ⟨mK BK308.out⟩, ⟨(mH2 HB.out GE307.out GE308.out)⟩⟩
    ·rw [if_neg c6] at H
     exact absurd H (by simp)
   ·rw [if_neg c5] at H
    have c5b0 := decide_eq_false c5
    clear c5
    obtain rfl := Option.some.inj H
    have hnb14 := NB307_308.out
    have hnc14 := NB308_307.out
    have hcz15_0 := mZ BK307.out 0
    have hfz15_0 := blk_frozen BK307.out 0
    go_wp2
    repeat (go_quiet (fail); try go_wp2)
    go_ret
    exact ⟨mEw, (mH2 HB.out GE307.out GE308.out)⟩

end Go.Proofs.Ytgbejjeephipeaa.MFnExactOrderOf
