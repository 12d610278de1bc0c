-- Written by mp.py, this session's own printer (wip/mp.py).
import Derived.Test.YtgbejjeephipeaaVMShort
import Derived.Test.YtgbejjeephipeaaMFnExactWholex0
import Derived.Test.YtgbejjeephipeaaMFnExactWholex1
namespace Go.Proofs.Ytgbejjeephipeaa.MFnExactWhole
open Go.RowKit Go.Proofs.YtgbejjeephipeaaW.PrintWords Go.Proofs.YtgbejjeephipeaaW.PrintLast Go.Proofs.YtgbejjeephipeaaW.PrintMore Go.Proofs.Ytgbejjeephipeaa.MWords
attribute [local go_sem] max2_int min2_int max_two min_two max_three min_three max_four min_four   -- for this text's walks alone
set_option linter.unusedVariables false
set_option linter.unusedSimpArgs false

attribute [local go_sem high] eqA31
/-! ### spec_l8At: function 72 -/
def spec_l8At.l0 : Nat → Int → List (S33) → Int → Int → Option (Int)
 | 0, _, _, _, _ => none
 | k + 1, x5, x180000, x181000, x181001 => if x5 < (x180000.length : Int) then (if 0 ≤ x5 then (if (((rd_T33 x180000 x5).f0.f0) == x181000 && (((rd_T33 x180000 x5).f0.f1) == x181001)) = true then (some x5) else (spec_l8At.l0 k (wrap64 (x5 + 1)) x180000 x181000 x181001)) else (none)) else (some (-1))
def spec_l8At.f (k : Nat) (l0_0 : List (S33)) (a1_0 : Int) (a1_1 : Int) : Option (Int) := spec_l8At.l0 k 0 l0_0 a1_0 a1_1
theorem spec_l8At.mono_l : ∀ k, (∀ y0 y1 y2 y3, LeO (spec_l8At.l0 k y0 y1 y2 y3) (spec_l8At.l0 (k + 1) y0 y1 y2 y3))
 | 0 => fun _ _ _ _ r h => by simp [spec_l8At.l0] at h
 | k + 1 => by
  have ih0 := spec_l8At.mono_l k
  ·intro y0 y1 y2 y3
   unfold spec_l8At.l0
   repeat' first
   | (with_reducible exact ih0 _ _ _ _)
   | (with_reducible exact LeO.refl _)
   | (with_reducible exact LeO.none _)
   | (with_reducible refine LeO.ite ?_ ?_)
   | (with_reducible refine LeO.bind ?_ (fun _ => ?_))
   | exact ih0 _ _ _ _
   | exact LeO.none _
   | refine LeO.ite ?_ ?_
   | refine LeO.bind ?_ (fun _ => ?_)
theorem spec_l8At.mono : ∀ a0 a1 a2 k, LeO (spec_l8At.f k a0 a1 a2) (spec_l8At.f (k + 1) a0 a1 a2) := by
 intro a0 a1 a2 k
 have ih0 := spec_l8At.mono_l k
 unfold spec_l8At.f
 repeat' first
   | (with_reducible exact ih0 _ _ _ _)
   | (with_reducible exact LeO.refl _)
   | (with_reducible exact LeO.none _)
   | (with_reducible refine LeO.ite ?_ ?_)
   | (with_reducible refine LeO.bind ?_ (fun _ => ?_))
   | exact ih0 _ _ _ _
   | exact LeO.none _
   | refine LeO.ite ?_ ?_
   | refine LeO.bind ?_ (fun _ => ?_)
set_option maxHeartbeats 8000000 in
set_option maxRecDepth 100000 in
theorem spec_l8At.calls (k : Nat) (A0_0 : Option Addr) (c0_0 : Nat) (l0_0 : List (S33)) (a1_0 : Int) (a1_1 : Int) (r : Int) (w : World) (hr0_0 : Kd.C k33 w A0_0 l0_0.length l0_0) (hc0_0 : l0_0.length ≤ c0_0) (h : spec_l8At.f k l0_0 a1_0 a1_1 = some r) :
  Calls Try.prog 72 #[.agg #[.slice A0_0 l0_0.length c0_0], .agg #[.int .i64 a1_0, .int .i64 a1_1]] w fun e w' => e = .returned (.int .i64 r) ∧ Below w.heap.size w w' := by
 have hu26 := Try.underlying26
 have hu31 := Try.underlying31
 have HR0_0 := mS hr0_0
 have HC0_0 := mS hc0_0
 clear hr0_0 hc0_0
 have HB := mS (Below.refl w.heap.size w)
 have H : (spec_l8At.l0 k 0 l0_0 a1_0 a1_1) = some r := h
 clear h
 have H' := mS H
 clear H
 go_enter Try.func72, Try.ntmps72
 go_wp2_with (first | ((with_reducible refine gate_dst (N := 2) rfl ?_); refine mBx 2 #[.slice A0_0 l0_0.length c0_0] 26 ?_; intro gb179 hg w3 hbox hb; have BK179 := mS (hbox); have GW179 := mG hg (mH HB.out); have GE179 := mG hg (mH HB.out); replace HB := mS (below_step (mH HB.out) hb); clear hb hbox hg) | ((with_reducible refine gate_dst (N := 3) rfl ?_); refine mBx 3 #[.int .i64 a1_0, .int .i64 a1_1] 31 ?_; intro gb180 hg w4 hbox hb; have BK180 := mS (hbox); have GW180 := mG hg (mH1 HB.out GE179.out); have GE180 := mG hg (mH1 HB.out GE179.out); replace HB := mS (below_step (mH1 HB.out GE179.out) hb); have NB179_180 := mNl hg BK179.out; have NB180_179 := mNg hg BK179.out; replace BK179 := mB BK179 hb; clear hb hbox hg))
 repeat (go_quiet (first | ((with_reducible refine gate_dst (N := 2) rfl ?_); refine mBx 2 #[.slice A0_0 l0_0.length c0_0] 26 ?_; intro gb179 hg w3 hbox hb; have BK179 := mS (hbox); have GW179 := mG hg (mH HB.out); have GE179 := mG hg (mH HB.out); replace HB := mS (below_step (mH HB.out) hb); clear hb hbox hg) | ((with_reducible refine gate_dst (N := 3) rfl ?_); refine mBx 3 #[.int .i64 a1_0, .int .i64 a1_1] 31 ?_; intro gb180 hg w4 hbox hb; have BK180 := mS (hbox); have GW180 := mG hg (mH1 HB.out GE179.out); have GE180 := mG hg (mH1 HB.out GE179.out); replace HB := mS (below_step (mH1 HB.out GE179.out) hb); have NB179_180 := mNl hg BK179.out; have NB180_179 := mNg hg BK179.out; replace BK179 := mB BK179 hb; clear hb hbox hg)); try go_wp2_with (first | ((with_reducible refine gate_dst (N := 2) rfl ?_); refine mBx 2 #[.slice A0_0 l0_0.length c0_0] 26 ?_; intro gb179 hg w3 hbox hb; have BK179 := mS (hbox); have GW179 := mG hg (mH HB.out); have GE179 := mG hg (mH HB.out); replace HB := mS (below_step (mH HB.out) hb); clear hb hbox hg) | ((with_reducible refine gate_dst (N := 3) rfl ?_); refine mBx 3 #[.int .i64 a1_0, .int .i64 a1_1] 31 ?_; intro gb180 hg w4 hbox hb; have BK180 := mS (hbox); have GW180 := mG hg (mH1 HB.out GE179.out); have GE180 := mG hg (mH1 HB.out GE179.out); replace HB := mS (below_step (mH1 HB.out GE179.out) hb); have NB179_180 := mNl hg BK179.out; have NB180_179 := mNg hg BK179.out; replace BK179 := mB BK179 hb; clear hb hbox hg)))
 go_loopg [5] k (fun kq v5 w' => ∃ (x5_1 : Int), v5 = .int .i64 x5_1 ∧ Aside0 (spec_l8At.l0 kq x5_1 l0_0 a1_0 a1_1 = some r) ∧ Aside0 (kq ≤ k) ∧ Aside0 (w'.heap[gb179]? = some (.cells #[(.slice A0_0 l0_0.length c0_0)] 26 (0, 0))) ∧ Aside0 (w'.heap[gb180]? = some (.cells #[.int .i64 a1_0, .int .i64 a1_1] 31 (0, 0))) ∧ Aside0 (Below w.heap.size w w'))
 case atStart => exact ⟨(0), mE, H', ⟨Nat.le_refl _⟩, ⟨mK BK179.out⟩, ⟨mK BK180.out⟩, ⟨(mH2 HB.out GE179.out GE180.out)⟩⟩
 case round =>
  clear H'
  try clear p2
  obtain ⟨x5_1, rfl, HA, HK1, BK179, BK180, HB⟩ := hrel
  cases gk with
  | zero => exact absurd HA.out (by simp [spec_l8At.l0])
  | succ k1 =>
   have H := HA.out
   clear HA
   simp only [spec_l8At.l0] at H
   by_cases c5 : x5_1 < (l0_0.length : Int)
   ·rw [if_pos c5] at H
    have c5b0 := decide_eq_true c5
    clear c5
    by_cases c6 : 0 ≤ x5_1
    ·rw [if_pos c6] at H
     have c6b0 := decide_eq_true c6
     clear c6
     by_cases c7 : (((rd_T33 l0_0 x5_1).f0.f0) == a1_0 && (((rd_T33 l0_0 x5_1).f0.f1) == a1_1)) = true
     ·rw [if_pos c7] at H
      have c7b0 : (((rd_T33 l0_0 x5_1).f0.f0) == a1_0 && (((rd_T33 l0_0 x5_1).f0.f1) == a1_1)) = true := c7
      (try (have c7b1 : decide (((rd_T33 l0_0 x5_1).f0.f0) = a1_0 && (((rd_T33 l0_0 x5_1).f0.f1) == a1_1)) = true := by simpa using c7))
      (try (have c7b2 : (((rd_T33 l0_0 x5_1).f0.f0) == a1_0 && (((rd_T33 l0_0 x5_1).f0.f1) == a1_1)) = true := by simpa using c7))
      clear c7
      obtain rfl := Option.some.inj H
      have hnb8 := NB179_180.out
      have hnc8 := NB180_179.out
      have hcz9_0 := mZ BK179.out 0
      have hfz9_0 := blk_frozen BK179.out 0
      have p181 : 0 ≤ (x5_1 : Int) := mD
      have q181 : x5_1 < (l0_0.length : Int) := mD
      obtain ⟨ad181, A181_2, c181_2, e181, hx181_0, hx181_1, hx181_2, hl181_2, hi181_2⟩ := at_T33 HR0_0.out x5_1 p181 q181
      cases e181
      replace hx181_0 := mX HB.out hx181_0
      replace hx181_1 := mX HB.out hx181_1
      replace hx181_2 := mX HB.out hx181_2
      have HR181_2 := mS hi181_2
      have HC181_2 := mS hl181_2
      clear hi181_2 hl181_2
      replace p181 := eq_true p181
      replace q181 := eq_true q181
      obtain ⟨hcz10_0, hcz10_1, hfz10_0, hfz10_1⟩ := mZ2 BK180.out
      go_wp2
      repeat (go_quiet (fail); try go_wp2)
      go_ret
      exact ⟨mEw, (mH2 HB.out GE179.out GE180.out)⟩
     ·rw [if_neg c7] at H
      have c7b0 : (((rd_T33 l0_0 x5_1).f0.f0) == a1_0 && (((rd_T33 l0_0 x5_1).f0.f1) == a1_1)) = false := by simpa using c7
      (try (have c7b1 : decide (((rd_T33 l0_0 x5_1).f0.f0) = a1_0 && (((rd_T33 l0_0 x5_1).f0.f1) == a1_1)) = false := by simpa using c7))
      (try (have c7b2 : (((rd_T33 l0_0 x5_1).f0.f0) == a1_0 && (((rd_T33 l0_0 x5_1).f0.f1) == a1_1)) = false := by simpa using c7))
      (try (have c7b3 : ¬ (((rd_T33 l0_0 x5_1).f0.f0) = a1_0 && (((rd_T33 l0_0 x5_1).f0.f1) == a1_1)) := by simpa using c7))
      clear c7
      have H' := mS H
      clear H
      have hnb11 := NB179_180.out
      have hnc11 := NB180_179.out
      have hcz12_0 := mZ BK179.out 0
      have hfz12_0 := blk_frozen BK179.out 0
      have p181 : 0 ≤ (x5_1 : Int) := mD
      have q181 : x5_1 < (l0_0.length : Int) := mD
      obtain ⟨ad181, A181_2, c181_2, e181, hx181_0, hx181_1, hx181_2, hl181_2, hi181_2⟩ := at_T33 HR0_0.out x5_1 p181 q181
      cases e181
      replace hx181_0 := mX HB.out hx181_0
      replace hx181_1 := mX HB.out hx181_1
      replace hx181_2 := mX HB.out hx181_2
      have HR181_2 := mS hi181_2
      have HC181_2 := mS hl181_2
      clear hi181_2 hl181_2
      replace p181 := eq_true p181
      replace q181 := eq_true q181
      obtain ⟨hcz13_0, hcz13_1, hfz13_0, hfz13_1⟩ := mZ2 BK180.out
      go_wp2
      repeat (go_quiet (fail); try go_wp2)
      go_roundg k1
      case measure => have := HK1.out; omega
      case rel => exact ⟨(wrap64 (x5_1 + 1)), mE, H', ⟨by have := HK1.out; omega⟩, ⟨mK BK179.out⟩, ⟨mK BK180.out⟩, ⟨(mH2 HB.out GE179.out GE180.out)⟩⟩
    ·rw [if_neg c6] at H
     exact absurd H (by simp)
   ·rw [if_neg c5] at H
    have c5b0 := decide_eq_false c5
    clear c5
    obtain rfl := Option.some.inj H
    have hnb14 := NB179_180.out
    have hnc14 := NB180_179.out
    have hcz15_0 := mZ BK179.out 0
    have hfz15_0 := blk_frozen BK179.out 0
    go_wp2
    repeat (go_quiet (fail); try go_wp2)
    go_ret
    exact ⟨mEw, (mH2 HB.out GE179.out GE180.out)⟩

end Go.Proofs.Ytgbejjeephipeaa.MFnExactWhole
