-- Written by mp.py, this session's own printer (wip/mp.py).
import Derived.Test.YtgbejjeephipeaaVMShort
import Derived.Test.YtgbejjeephipeaaMFnStablex0
import Derived.Test.YtgbejjeephipeaaMFnStablex1
namespace Go.Proofs.Ytgbejjeephipeaa.MFnStable
open Go.RowKit Go.Proofs.YtgbejjeephipeaaW.PrintWords Go.Proofs.YtgbejjeephipeaaW.PrintLast Go.Proofs.YtgbejjeephipeaaW.PrintMore Go.Proofs.Ytgbejjeephipeaa.MWords
attribute [local go_sem] max2_int min2_int max_two min_two max_three min_three max_four min_four   -- for this text's walks alone
set_option linter.unusedVariables false
set_option linter.unusedSimpArgs false

attribute [local go_sem high] eqA31
/-! ### laws_place: function 18 -/
def laws_place.l0 : Nat → List (S31) → Int → Int → Int → Option (Int)
 | 0, _, _, _, _ => none
 | k + 1, x0, x5, x414000, x414001 => if x5 < (x0.length : Int) then (if 0 ≤ x5 then (if (((rd_T31 x0 x5).f0) == x414000 && (((rd_T31 x0 x5).f1) == x414001)) = true then (some x5) else (laws_place.l0 k x0 (wrap64 (x5 + 1)) x414000 x414001)) else (none)) else (some (-1))
def laws_place.f (k : Nat) (l0 : List (S31)) (a1_0 : Int) (a1_1 : Int) : Option (Int) := laws_place.l0 k l0 0 a1_0 a1_1
theorem laws_place.mono_l : ∀ k, (∀ y0 y1 y2 y3, LeO (laws_place.l0 k y0 y1 y2 y3) (laws_place.l0 (k + 1) y0 y1 y2 y3))
 | 0 => fun _ _ _ _ r h => by simp [laws_place.l0] at h
 | k + 1 => by
  have ih0 := laws_place.mono_l k
  ·intro y0 y1 y2 y3
   unfold laws_place.l0
   repeat' first
   | (with_reducible exact ih0 _ _ _ _)
   | (with_reducible exact LeO.refl _)
   | (with_reducible exact LeO.none _)
   | (with_reducible refine LeO.ite ?_ ?_)
   | (with_reducible refine LeO.bind ?_ (fun _ => ?_))
   | exact ih0 _ _ _ _
   | exact LeO.none _
   | refine LeO.ite ?_ ?_
   | refine LeO.bind ?_ (fun _ => ?_)
theorem laws_place.mono : ∀ a0 a1 a2 k, LeO (laws_place.f k a0 a1 a2) (laws_place.f (k + 1) a0 a1 a2) := by
 intro a0 a1 a2 k
 have ih0 := laws_place.mono_l k
 unfold laws_place.f
 repeat' first
   | (with_reducible exact ih0 _ _ _ _)
   | (with_reducible exact LeO.refl _)
   | (with_reducible exact LeO.none _)
   | (with_reducible refine LeO.ite ?_ ?_)
   | (with_reducible refine LeO.bind ?_ (fun _ => ?_))
   | exact ih0 _ _ _ _
   | exact LeO.none _
   | refine LeO.ite ?_ ?_
   | refine LeO.bind ?_ (fun _ => ?_)
set_option maxHeartbeats 8000000 in
set_option maxRecDepth 100000 in
theorem laws_place.calls (k : Nat) (A0 : Option Addr) (c0 : Nat) (l0 : List (S31)) (a1_0 : Int) (a1_1 : Int) (r : Int) (w : World) (hr0 : Kd.C k31 w A0 l0.length l0) (hc0 : l0.length ≤ c0) (h : laws_place.f k l0 a1_0 a1_1 = some r) :
  Calls Try.prog 18 #[.slice A0 l0.length c0, .agg #[.int .i64 a1_0, .int .i64 a1_1]] w fun e w' => e = .returned (.int .i64 r) ∧ Below w.heap.size w w' := by
 have hu31 := Try.underlying31
 have HR0 := mS hr0
 have HC0 := mS hc0
 clear hr0 hc0
 have HB := mS (Below.refl w.heap.size w)
 have H : (laws_place.l0 k l0 0 a1_0 a1_1) = some r := h
 clear h
 have H' := mS H
 clear H
 go_enter Try.func18, Try.ntmps18
 go_wp2_with (first | ((with_reducible refine gate_dst (N := 3) rfl ?_); refine mBx 3 #[.int .i64 a1_0, .int .i64 a1_1] 31 ?_; intro gb413 hg w3 hbox hb; have BK413 := mS (hbox); have GW413 := mG hg (mH HB.out); have GE413 := mG hg (mH HB.out); replace HB := mS (below_step (mH HB.out) hb); clear hb hbox hg))
 repeat (go_quiet (first | ((with_reducible refine gate_dst (N := 3) rfl ?_); refine mBx 3 #[.int .i64 a1_0, .int .i64 a1_1] 31 ?_; intro gb413 hg w3 hbox hb; have BK413 := mS (hbox); have GW413 := mG hg (mH HB.out); have GE413 := mG hg (mH HB.out); replace HB := mS (below_step (mH HB.out) hb); clear hb hbox hg)); try go_wp2_with (first | ((with_reducible refine gate_dst (N := 3) rfl ?_); refine mBx 3 #[.int .i64 a1_0, .int .i64 a1_1] 31 ?_; intro gb413 hg w3 hbox hb; have BK413 := mS (hbox); have GW413 := mG hg (mH HB.out); have GE413 := mG hg (mH HB.out); replace HB := mS (below_step (mH HB.out) hb); clear hb hbox hg)))
 go_loopg [5] k (fun kq v5 w' => ∃ (x5_1 : Int), v5 = .int .i64 x5_1 ∧ Aside0 (laws_place.l0 kq l0 x5_1 a1_0 a1_1 = some r) ∧ Aside0 (kq ≤ k) ∧ Aside0 (w'.heap[gb413]? = some (.cells #[.int .i64 a1_0, .int .i64 a1_1] 31 (0, 0))) ∧ Aside0 (Below w.heap.size w w'))
 case atStart => exact ⟨(0), mE, H', ⟨Nat.le_refl _⟩, ⟨mK BK413.out⟩, ⟨(mH1 HB.out GE413.out)⟩⟩
 case round =>
  clear H'
  try clear c1
  try clear p2
  obtain ⟨x5_1, rfl, HA, HK1, BK413, HB⟩ := hrel
  cases gk with
  | zero => exact absurd HA.out (by simp [laws_place.l0])
  | succ k1 =>
   have H := HA.out
   clear HA
   simp only [laws_place.l0] at H
   by_cases c4 : x5_1 < (l0.length : Int)
   ·rw [if_pos c4] at H
    have c4b0 := decide_eq_true c4
    clear c4
    by_cases c5 : 0 ≤ x5_1
    ·rw [if_pos c5] at H
     have c5b0 := decide_eq_true c5
     clear c5
     by_cases c6 : (((rd_T31 l0 x5_1).f0) == a1_0 && (((rd_T31 l0 x5_1).f1) == a1_1)) = true
     ·rw [if_pos c6] at H
      have c6b0 : (((rd_T31 l0 x5_1).f0) == a1_0 && (((rd_T31 l0 x5_1).f1) == a1_1)) = true := c6
      (try (have c6b1 : decide (((rd_T31 l0 x5_1).f0) = a1_0 && (((rd_T31 l0 x5_1).f1) == a1_1)) = true := by simpa using c6))
      (try (have c6b2 : (((rd_T31 l0 x5_1).f0) == a1_0 && (((rd_T31 l0 x5_1).f1) == a1_1)) = true := by simpa using c6))
      clear c6
      obtain rfl := Option.some.inj H
      have p414 : 0 ≤ (x5_1 : Int) := mD
      have q414 : x5_1 < (l0.length : Int) := mD
      obtain ⟨ad414, e414, hx414_0, hx414_1⟩ := at_T31 HR0.out x5_1 p414 q414
      cases e414
      replace hx414_0 := mX HB.out hx414_0
      replace hx414_1 := mX HB.out hx414_1
      replace p414 := eq_true p414
      replace q414 := eq_true q414
      obtain ⟨hcz7_0, hcz7_1, hfz7_0, hfz7_1⟩ := mZ2 BK413.out
      go_wp2
      repeat (go_quiet (fail); try go_wp2)
      go_ret
      exact ⟨mEw, (mH1 HB.out GE413.out)⟩
     ·rw [if_neg c6] at H
      have c6b0 : (((rd_T31 l0 x5_1).f0) == a1_0 && (((rd_T31 l0 x5_1).f1) == a1_1)) = false := by simpa using c6
      (try (have c6b1 : decide (((rd_T31 l0 x5_1).f0) = a1_0 && (((rd_T31 l0 x5_1).f1) == a1_1)) = false := by simpa using c6))
      (try (have c6b2 : (((rd_T31 l0 x5_1).f0) == a1_0 && (((rd_T31 l0 x5_1).f1) == a1_1)) = false := by simpa using c6))
      (try (have c6b3 : ¬ (((rd_T31 l0 x5_1).f0) = a1_0 && (((rd_T31 l0 x5_1).f1) == a1_1)) := by simpa using c6))
      clear c6
      have H' := mS H
      clear H
      have p414 : 0 ≤ (x5_1 : Int) := mD
      have q414 : x5_1 < (l0.length : Int) := mD
      obtain ⟨ad414, e414, hx414_0, hx414_1⟩ := at_T31 HR0.out x5_1 p414 q414
      cases e414
      replace hx414_0 := mX HB.out hx414_0
      replace hx414_1 := mX HB.out hx414_1
      replace p414 := eq_true p414
      replace q414 := eq_true q414
      obtain ⟨hcz8_0, hcz8_1, hfz8_0, hfz8_1⟩ := mZ2 BK413.out
      go_wp2
      repeat (go_quiet (fail); try go_wp2)
      go_roundg k1
      case measure => have := HK1.out; omega
      case rel => exact ⟨(wrap64 (x5_1 + 1)), mE, H', ⟨by have := HK1.out; omega⟩, ⟨mK BK413.out⟩, ⟨(mH1 HB.out GE413.out)⟩⟩
    ·rw [if_neg c5] at H
     exact absurd H (by simp)
   ·rw [if_neg c4] at H
    have c4b0 := decide_eq_false c4
    clear c4
    obtain rfl := Option.some.inj H
    go_wp2
    repeat (go_quiet (fail); try go_wp2)
    go_ret
    exact ⟨mEw, (mH1 HB.out GE413.out)⟩

end Go.Proofs.Ytgbejjeephipeaa.MFnStable
