-- Written by mp.py, this session's own printer (wip/mp.py).
import Derived.Test.YtgbejjeephipeaaVMShort
import Derived.Test.YtgbejjeephipeaaMFnStablex0
import Derived.Test.YtgbejjeephipeaaMFnStablex1
namespace Go.Proofs.Ytgbejjeephipeaa.MFnStable
open Go.RowKit Go.Proofs.YtgbejjeephipeaaW.PrintWords Go.Proofs.YtgbejjeephipeaaW.PrintLast Go.Proofs.YtgbejjeephipeaaW.PrintMore Go.Proofs.Ytgbejjeephipeaa.MWords
attribute [local go_sem] max2_int min2_int max_two min_two max_three min_three max_four min_four   -- for this text's walks alone
set_option linter.unusedVariables false
set_option linter.unusedSimpArgs false

attribute [local go_sem high] eqA31
/-! ### impl_hasDot: function 61 -/
def impl_hasDot.l0 : Nat → List (S31) → Int → Int → Int → Int → Option (Bool)
 | 0, _, _, _, _, _ => none
 | k + 1, x7, x8, x9, x255000, x255001 => if x9 < x8 then (if 0 ≤ x9 then (if x9 < (x7.length : Int) then (if (((rd_T31 x7 x9).f0) == x255000 && (((rd_T31 x7 x9).f1) == x255001)) = true then (some true) else (impl_hasDot.l0 k x7 x8 (wrap64 (x9 + 1)) x255000 x255001)) else (none)) else (none)) else (some false)
def impl_hasDot.f (k : Nat) (l0 : List (S31)) (a1_0 : Int) (a1_1 : Int) : Option (Bool) := impl_hasDot.l0 k l0 (l0.length : Int) 0 a1_0 a1_1
theorem impl_hasDot.mono_l : ∀ k, (∀ y0 y1 y2 y3 y4, LeO (impl_hasDot.l0 k y0 y1 y2 y3 y4) (impl_hasDot.l0 (k + 1) y0 y1 y2 y3 y4))
 | 0 => fun _ _ _ _ _ r h => by simp [impl_hasDot.l0] at h
 | k + 1 => by
  have ih0 := impl_hasDot.mono_l k
  ·intro y0 y1 y2 y3 y4
   unfold impl_hasDot.l0
   repeat' first
   | (with_reducible exact ih0 _ _ _ _ _)
   | (with_reducible exact LeO.refl _)
   | (with_reducible exact LeO.none _)
   | (with_reducible refine LeO.ite ?_ ?_)
   | (with_reducible refine LeO.bind ?_ (fun _ => ?_))
   | exact ih0 _ _ _ _ _
   | exact LeO.none _
   | refine LeO.ite ?_ ?_
   | refine LeO.bind ?_ (fun _ => ?_)
theorem impl_hasDot.mono : ∀ a0 a1 a2 k, LeO (impl_hasDot.f k a0 a1 a2) (impl_hasDot.f (k + 1) a0 a1 a2) := by
 intro a0 a1 a2 k
 have ih0 := impl_hasDot.mono_l k
 unfold impl_hasDot.f
 repeat' first
   | (with_reducible exact ih0 _ _ _ _ _)
   | (with_reducible exact LeO.refl _)
   | (with_reducible exact LeO.none _)
   | (with_reducible refine LeO.ite ?_ ?_)
   | (with_reducible refine LeO.bind ?_ (fun _ => ?_))
   | exact ih0 _ _ _ _ _
   | exact LeO.none _
   | refine LeO.ite ?_ ?_
   | refine LeO.bind ?_ (fun _ => ?_)
set_option maxHeartbeats 8000000 in
set_option maxRecDepth 100000 in
theorem impl_hasDot.calls (k : Nat) (A0 : Option Addr) (c0 : Nat) (l0 : List (S31)) (a1_0 : Int) (a1_1 : Int) (r : Bool) (w : World) (hr0 : Kd.C k31 w A0 l0.length l0) (hc0 : l0.length ≤ c0) (h : impl_hasDot.f k l0 a1_0 a1_1 = some r) :
  Calls Try.prog 61 #[.slice A0 l0.length c0, .agg #[.int .i64 a1_0, .int .i64 a1_1]] w fun e w' => e = .returned (.bool r) ∧ Below w.heap.size w w' := by
 have hu31 := Try.underlying31
 have HR0 := mS hr0
 have HC0 := mS hc0
 clear hr0 hc0
 have HB := mS (Below.refl w.heap.size w)
 have H : (impl_hasDot.l0 k l0 (l0.length : Int) 0 a1_0 a1_1) = some r := h
 clear h
 have H' := mS H
 clear H
 go_enter Try.func61, Try.ntmps61
 go_wp2_with (first | ((with_reducible refine gate_dst (N := 3) rfl ?_); refine mBx 3 #[.int .i64 a1_0, .int .i64 a1_1] 31 ?_; intro gb254 hg w3 hbox hb; have BK254 := mS (hbox); have GW254 := mG hg (mH HB.out); have GE254 := mG hg (mH HB.out); replace HB := mS (below_step (mH HB.out) hb); clear hb hbox hg))
 go_loopg [9] k (fun kq v9 w' => ∃ (x9_1 : Int), v9 = .int .i64 x9_1 ∧ Aside0 (impl_hasDot.l0 kq l0 (l0.length : Int) x9_1 a1_0 a1_1 = some r) ∧ Aside0 (kq ≤ k) ∧ Aside0 (w'.heap[gb254]? = some (.cells #[.int .i64 a1_0, .int .i64 a1_1] 31 (0, 0))) ∧ Aside0 (Below w.heap.size w w'))
 case atStart => exact ⟨(0), mE, H', ⟨Nat.le_refl _⟩, ⟨mK BK254.out⟩, ⟨(mH1 HB.out GE254.out)⟩⟩
 case round =>
  clear H'
  try clear p2
  obtain ⟨x9_1, rfl, HA, HK1, BK254, HB⟩ := hrel
  cases gk with
  | zero => exact absurd HA.out (by simp [impl_hasDot.l0])
  | succ k1 =>
   have H := HA.out
   clear HA
   simp only [impl_hasDot.l0] at H
   by_cases c4 : x9_1 < (l0.length : Int)
   ·rw [if_pos c4] at H
    have c4b0 := decide_eq_true c4
    clear c4
    by_cases c5 : 0 ≤ x9_1
    ·rw [if_pos c5] at H
     have c5b0 := decide_eq_true c5
     clear c5
     by_cases c6 : x9_1 < (l0.length : Int)
     ·rw [if_pos c6] at H
      have c6b0 := decide_eq_true c6
      clear c6
      by_cases c7 : (((rd_T31 l0 x9_1).f0) == a1_0 && (((rd_T31 l0 x9_1).f1) == a1_1)) = true
      ·rw [if_pos c7] at H
       have c7b0 : (((rd_T31 l0 x9_1).f0) == a1_0 && (((rd_T31 l0 x9_1).f1) == a1_1)) = true := c7
       (try (have c7b1 : decide (((rd_T31 l0 x9_1).f0) = a1_0 && (((rd_T31 l0 x9_1).f1) == a1_1)) = true := by simpa using c7))
       (try (have c7b2 : (((rd_T31 l0 x9_1).f0) == a1_0 && (((rd_T31 l0 x9_1).f1) == a1_1)) = true := by simpa using c7))
       clear c7
       obtain rfl := Option.some.inj H
       have p255 : 0 ≤ (x9_1 : Int) := mD
       have q255 : x9_1 < (l0.length : Int) := mD
       obtain ⟨ad255, e255, hx255_0, hx255_1⟩ := at_T31 HR0.out x9_1 p255 q255
       cases e255
       replace hx255_0 := mX HB.out hx255_0
       replace hx255_1 := mX HB.out hx255_1
       replace p255 := eq_true p255
       replace q255 := eq_true q255
       go_wp2_with (first | ((with_reducible refine gate_dst (N := 6) rfl ?_); refine mBx 6 #[.int .i64 0, .int .i64 0] 31 ?_; intro gb256 hg w8 hbox hb; have BK256 := mS (hbox); have GW256 := mG hg (mH1 HB.out GE254.out); have GE256 := mG hg (mH1 HB.out GE254.out); replace HB := mS (below_step (mH1 HB.out GE254.out) hb); have NB254_256 := mNl hg BK254.out; have NB256_254 := mNg hg BK254.out; replace BK254 := mB BK254 hb; clear hb hbox hg; have hnb9 := NB256_254.out; have hnc9 := NB254_256.out; obtain ⟨hcz10_0, hcz10_1, hfz10_0, hfz10_1⟩ := mZ2 BK256.out; obtain ⟨hcz11_0, hcz11_1, hfz11_0, hfz11_1⟩ := mZ2 BK254.out))
       go_ret
       exact ⟨mEw, (mH2 HB.out GE254.out GE256.out)⟩
      ·rw [if_neg c7] at H
       have c7b0 : (((rd_T31 l0 x9_1).f0) == a1_0 && (((rd_T31 l0 x9_1).f1) == a1_1)) = false := by simpa using c7
       (try (have c7b1 : decide (((rd_T31 l0 x9_1).f0) = a1_0 && (((rd_T31 l0 x9_1).f1) == a1_1)) = false := by simpa using c7))
       (try (have c7b2 : (((rd_T31 l0 x9_1).f0) == a1_0 && (((rd_T31 l0 x9_1).f1) == a1_1)) = false := by simpa using c7))
       (try (have c7b3 : ¬ (((rd_T31 l0 x9_1).f0) = a1_0 && (((rd_T31 l0 x9_1).f1) == a1_1)) := by simpa using c7))
       clear c7
       have H' := mS H
       clear H
       have p255 : 0 ≤ (x9_1 : Int) := mD
       have q255 : x9_1 < (l0.length : Int) := mD
       obtain ⟨ad255, e255, hx255_0, hx255_1⟩ := at_T31 HR0.out x9_1 p255 q255
       cases e255
       replace hx255_0 := mX HB.out hx255_0
       replace hx255_1 := mX HB.out hx255_1
       replace p255 := eq_true p255
       replace q255 := eq_true q255
       go_wp2_with (first | ((with_reducible refine gate_dst (N := 6) rfl ?_); refine mBx 6 #[.int .i64 0, .int .i64 0] 31 ?_; intro gb256 hg w12 hbox hb; have BK256 := mS (hbox); have GW256 := mG hg (mH1 HB.out GE254.out); have GE256 := mG hg (mH1 HB.out GE254.out); replace HB := mS (below_step (mH1 HB.out GE254.out) hb); have NB254_256 := mNl hg BK254.out; have NB256_254 := mNg hg BK254.out; replace BK254 := mB BK254 hb; clear hb hbox hg; have hnb13 := NB256_254.out; have hnc13 := NB254_256.out; obtain ⟨hcz14_0, hcz14_1, hfz14_0, hfz14_1⟩ := mZ2 BK256.out; obtain ⟨hcz15_0, hcz15_1, hfz15_0, hfz15_1⟩ := mZ2 BK254.out))
       go_roundg k1
       case measure => have := HK1.out; omega
       case rel => exact ⟨(wrap64 (x9_1 + 1)), mE, H', ⟨by have := HK1.out; omega⟩, ⟨mKf NB254_256.out BK254.out⟩, ⟨(mH2 HB.out GE254.out GE256.out)⟩⟩
     ·rw [if_neg c6] at H
      exact absurd H (by simp)
    ·rw [if_neg c5] at H
     exact absurd H (by simp)
   ·rw [if_neg c4] at H
    have c4b0 := decide_eq_false c4
    clear c4
    obtain rfl := Option.some.inj H
    go_wp2
    go_ret
    exact ⟨mEw, (mH1 HB.out GE254.out)⟩

/-! ### impl_itemAt: function 66 -/
def impl_itemAt.l0 : Nat → List (S33) → Int → Int → Int → Int → Option (Int)
 | 0, _, _, _, _, _ => none
 | k + 1, x8, x9, x10, x259000, x259001 => if x10 < x9 then (if 0 ≤ x10 then (if x10 < (x8.length : Int) then (if (((rd_T33 x8 x10).f0.f0) == x259000 && (((rd_T33 x8 x10).f0.f1) == x259001)) = true then (some x10) else (impl_itemAt.l0 k x8 x9 (wrap64 (x10 + 1)) x259000 x259001)) else (none)) else (none)) else (some (-1))
def impl_itemAt.f (k : Nat) (l0_0 : List (S33)) (a1_0 : Int) (a1_1 : Int) : Option (Int) := impl_itemAt.l0 k l0_0 (l0_0.length : Int) 0 a1_0 a1_1
theorem impl_itemAt.mono_l : ∀ k, (∀ y0 y1 y2 y3 y4, LeO (impl_itemAt.l0 k y0 y1 y2 y3 y4) (impl_itemAt.l0 (k + 1) y0 y1 y2 y3 y4))
 | 0 => fun _ _ _ _ _ r h => by simp [impl_itemAt.l0] at h
 | k + 1 => by
  have ih0 := impl_itemAt.mono_l k
  ·intro y0 y1 y2 y3 y4
   unfold impl_itemAt.l0
   repeat' first
   | (with_reducible exact ih0 _ _ _ _ _)
   | (with_reducible exact LeO.refl _)
   | (with_reducible exact LeO.none _)
   | (with_reducible refine LeO.ite ?_ ?_)
   | (with_reducible refine LeO.bind ?_ (fun _ => ?_))
   | exact ih0 _ _ _ _ _
   | exact LeO.none _
   | refine LeO.ite ?_ ?_
   | refine LeO.bind ?_ (fun _ => ?_)
theorem impl_itemAt.mono : ∀ a0 a1 a2 k, LeO (impl_itemAt.f k a0 a1 a2) (impl_itemAt.f (k + 1) a0 a1 a2) := by
 intro a0 a1 a2 k
 have ih0 := impl_itemAt.mono_l k
 unfold impl_itemAt.f
 repeat' first
   | (with_reducible exact ih0 _ _ _ _ _)
   | (with_reducible exact LeO.refl _)
   | (with_reducible exact LeO.none _)
   | (with_reducible refine LeO.ite ?_ ?_)
   | (with_reducible refine LeO.bind ?_ (fun _ => ?_))
   | exact ih0 _ _ _ _ _
   | exact LeO.none _
   | refine LeO.ite ?_ ?_
   | refine LeO.bind ?_ (fun _ => ?_)
set_option maxHeartbeats 8000000 in
set_option maxRecDepth 100000 in
theorem impl_itemAt.calls (k : Nat) (A0_0 : Option Addr) (c0_0 : Nat) (l0_0 : List (S33)) (a1_0 : Int) (a1_1 : Int) (r : Int) (w : World) (hr0_0 : Kd.C k33 w A0_0 l0_0.length l0_0) (hc0_0 : l0_0.length ≤ c0_0) (h : impl_itemAt.f k l0_0 a1_0 a1_1 = some r) :
  Calls Try.prog 66 #[.agg #[.slice A0_0 l0_0.length c0_0], .agg #[.int .i64 a1_0, .int .i64 a1_1]] w fun e w' => e = .returned (.int .i64 r) ∧ Below w.heap.size w w' := by
 have hu26 := Try.underlying26
 have hfd26 : ∀ (v : Value) (w : World), (Instr.field 26 (.agg #[v]) 0).run Try.prog w = .ok v w := fun _ _ => by first | kernel_rfl | rfl
 have hu31 := Try.underlying31
 have hu33 := Try.underlying33
 have HR0_0 := mS hr0_0
 have HC0_0 := mS hc0_0
 clear hr0_0 hc0_0
 have HB := mS (Below.refl w.heap.size w)
 have H : (impl_itemAt.l0 k l0_0 (l0_0.length : Int) 0 a1_0 a1_1) = some r := h
 clear h
 have H' := mS H
 clear H
 go_enter Try.func66, Try.ntmps66
 go_wp2_with (first | ((with_reducible refine gate_dst (N := 2) rfl ?_); refine mBx 2 #[.slice A0_0 l0_0.length c0_0] 26 ?_; intro gb257 hg w3 hbox hb; have BK257 := mS (hbox); have GW257 := mG hg (mH HB.out); have GE257 := mG hg (mH HB.out); replace HB := mS (below_step (mH HB.out) hb); clear hb hbox hg) | ((with_reducible refine gate_dst (N := 3) rfl ?_); refine mBx 3 #[.int .i64 a1_0, .int .i64 a1_1] 31 ?_; intro gb258 hg w4 hbox hb; have BK258 := mS (hbox); have GW258 := mG hg (mH1 HB.out GE257.out); have GE258 := mG hg (mH1 HB.out GE257.out); replace HB := mS (below_step (mH1 HB.out GE257.out) hb); have NB257_258 := mNl hg BK257.out; have NB258_257 := mNg hg BK257.out; replace BK257 := mB BK257 hb; clear hb hbox hg; have hnb5 := NB257_258.out; have hnc5 := NB258_257.out; have hcz6_0 := mZ BK257.out 0; have hfz6_0 := blk_frozen BK257.out 0))
 go_loopg [10] k (fun kq v10 w' => ∃ (x10_1 : Int), v10 = .int .i64 x10_1 ∧ Aside0 (impl_itemAt.l0 kq l0_0 (l0_0.length : Int) x10_1 a1_0 a1_1 = some r) ∧ Aside0 (kq ≤ k) ∧ Aside0 (w'.heap[gb257]? = some (.cells #[(.slice A0_0 l0_0.length c0_0)] 26 (0, 0))) ∧ Aside0 (w'.heap[gb258]? = some (.cells #[.int .i64 a1_0, .int .i64 a1_1] 31 (0, 0))) ∧ Aside0 (Below w.heap.size w w'))
 case atStart => exact ⟨(0), mE, H', ⟨Nat.le_refl _⟩, ⟨mK BK257.out⟩, ⟨mK BK258.out⟩, ⟨(mH2 HB.out GE257.out GE258.out)⟩⟩
 case round =>
  clear H'
  try clear p2
  try clear c5
  try clear c6
  try clear hcz6_0
  try clear hfz6_0
  obtain ⟨x10_1, rfl, HA, HK1, BK257, BK258, HB⟩ := hrel
  cases gk with
  | zero => exact absurd HA.out (by simp [impl_itemAt.l0])
  | succ k1 =>
   have H := HA.out
   clear HA
   simp only [impl_itemAt.l0] at H
   by_cases c7 : x10_1 < (l0_0.length : Int)
   ·rw [if_pos c7] at H
    have c7b0 := decide_eq_true c7
    clear c7
    by_cases c8 : 0 ≤ x10_1
    ·rw [if_pos c8] at H
     have c8b0 := decide_eq_true c8
     clear c8
     by_cases c9 : x10_1 < (l0_0.length : Int)
     ·rw [if_pos c9] at H
      have c9b0 := decide_eq_true c9
      clear c9
      by_cases c10 : (((rd_T33 l0_0 x10_1).f0.f0) == a1_0 && (((rd_T33 l0_0 x10_1).f0.f1) == a1_1)) = true
      ·rw [if_pos c10] at H
       have c10b0 : (((rd_T33 l0_0 x10_1).f0.f0) == a1_0 && (((rd_T33 l0_0 x10_1).f0.f1) == a1_1)) = true := c10
       (try (have c10b1 : decide (((rd_T33 l0_0 x10_1).f0.f0) = a1_0 && (((rd_T33 l0_0 x10_1).f0.f1) == a1_1)) = true := by simpa using c10))
       (try (have c10b2 : (((rd_T33 l0_0 x10_1).f0.f0) == a1_0 && (((rd_T33 l0_0 x10_1).f0.f1) == a1_1)) = true := by simpa using c10))
       clear c10
       obtain rfl := Option.some.inj H
       have p259 : 0 ≤ (x10_1 : Int) := mD
       have q259 : x10_1 < (l0_0.length : Int) := mD
       obtain ⟨ad259, A259_2, c259_2, e259, hx259_0, hx259_1, hx259_2, hl259_2, hi259_2⟩ := at_T33 HR0_0.out x10_1 p259 q259
       cases e259
       replace hx259_0 := mX HB.out hx259_0
       replace hx259_1 := mX HB.out hx259_1
       replace hx259_2 := mX HB.out hx259_2
       have HR259_2 := mS hi259_2
       have HC259_2 := mS hl259_2
       clear hi259_2 hl259_2
       replace p259 := eq_true p259
       replace q259 := eq_true q259
       go_wp2_with (first | ((with_reducible refine gate_dst (N := 6) rfl ?_); refine mBx 6 #[.int .i64 0, .int .i64 0, .slice none 0 0] 33 ?_; intro gb260 hg w11 hbox hb; have BK260 := mS (hbox); have GW260 := mG hg (mH2 HB.out GE257.out GE258.out); have GE260 := mG hg (mH2 HB.out GE257.out GE258.out); replace HB := mS (below_step (mH2 HB.out GE257.out GE258.out) hb); have NB257_260 := mNl hg BK257.out; have NB260_257 := mNg hg BK257.out; replace BK257 := mB BK257 hb; have NB258_260 := mNl hg BK258.out; have NB260_258 := mNg hg BK258.out; replace BK258 := mB BK258 hb; clear hb hbox hg; have hnb12 := NB260_257.out; have hnc12 := NB257_260.out; have hnb13 := NB260_258.out; have hnc13 := NB258_260.out; obtain ⟨hcz14_0, hcz14_1, hcz14_2, hfz14_0, hfz14_1, hfz14_2⟩ := mZ3 BK260.out; have hnb15 := NB258_257.out; have hnc15 := NB257_258.out; obtain ⟨hcz16_0, hcz16_1, hfz16_0, hfz16_1⟩ := mZ2 BK258.out))
       go_ret
       exact ⟨mEw, (mH3 HB.out GE257.out GE258.out GE260.out)⟩
      ·rw [if_neg c10] at H
       have c10b0 : (((rd_T33 l0_0 x10_1).f0.f0) == a1_0 && (((rd_T33 l0_0 x10_1).f0.f1) == a1_1)) = false := by simpa using c10
       (try (have c10b1 : decide (((rd_T33 l0_0 x10_1).f0.f0) = a1_0 && (((rd_T33 l0_0 x10_1).f0.f1) == a1_1)) = false := by simpa using c10))
       (try (have c10b2 : (((rd_T33 l0_0 x10_1).f0.f0) == a1_0 && (((rd_T33 l0_0 x10_1).f0.f1) == a1_1)) = false := by simpa using c10))
       (try (have c10b3 : ¬ (((rd_T33 l0_0 x10_1).f0.f0) = a1_0 && (((rd_T33 l0_0 x10_1).f0.f1) == a1_1)) := by simpa using c10))
       clear c10
       have H' := mS H
       clear H
       have p259 : 0 ≤ (x10_1 : Int) := mD
       have q259 : x10_1 < (l0_0.length : Int) := mD
       obtain ⟨ad259, A259_2, c259_2, e259, hx259_0, hx259_1, hx259_2, hl259_2, hi259_2⟩ := at_T33 HR0_0.out x10_1 p259 q259
       cases e259
       replace hx259_0 := mX HB.out hx259_0
       replace hx259_1 := mX HB.out hx259_1
       replace hx259_2 := mX HB.out hx259_2
       have HR259_2 := mS hi259_2
       have HC259_2 := mS hl259_2
       clear hi259_2 hl259_2
       replace p259 := eq_true p259
       replace q259 := eq_true q259
       go_wp2_with (first | ((with_reducible refine gate_dst (N := 6) rfl ?_); refine mBx 6 #[.int .i64 0, .int .i64 0, .slice none 0 0] 33 ?_; intro gb260 hg w17 hbox hb; have BK260 := mS (hbox); have GW260 := mG hg (mH2 HB.out GE257.out GE258.out); have GE260 := mG hg (mH2 HB.out GE257.out GE258.out); replace HB := mS (below_step (mH2 HB.out GE257.out GE258.out) hb); have NB257_260 := mNl hg BK257.out; have NB260_257 := mNg hg BK257.out; replace BK257 := mB BK257 hb; have NB258_260 := mNl hg BK258.out; have NB260_258 := mNg hg BK258.out; replace BK258 := mB BK258 hb; clear hb hbox hg; have hnb18 := NB260_257.out; have hnc18 := NB257_260.out; have hnb19 := NB260_258.out; have hnc19 := NB258_260.out; obtain ⟨hcz20_0, hcz20_1, hcz20_2, hfz20_0, hfz20_1, hfz20_2⟩ := mZ3 BK260.out; have hnb21 := NB258_257.out; have hnc21 := NB257_258.out; obtain ⟨hcz22_0, hcz22_1, hfz22_0, hfz22_1⟩ := mZ2 BK258.out))
       go_roundg k1
       case measure => have := HK1.out; omega
       case rel => exact ⟨(wrap64 (x10_1 + 1)), mE, H', ⟨by have := HK1.out; omega⟩, ⟨mKf NB257_260.out BK257.out⟩, ⟨mKf NB258_260.out BK258.out⟩, ⟨(mH3 HB.out GE257.out GE258.out GE260.out)⟩⟩
     ·rw [if_neg c9] at H
      exact absurd H (by simp)
    ·rw [if_neg c8] at H
     exact absurd H (by simp)
   ·rw [if_neg c7] at H
    have c7b0 := decide_eq_false c7
    clear c7
    obtain rfl := Option.some.inj H
    go_wp2
    go_ret
    exact ⟨mEw, (mH2 HB.out GE257.out GE258.out)⟩

/-! ### impl_reached: function 82 -/
mutual
def impl_reached.l0 : Nat → List (S31) → List (S31) → List (S33) → Option ((List (S31)) × Bool)
 | 0, _, _, _ => none
 | k + 1, x6, x7, x262000 => if (x7.length : Int) > 0 then (if 0 < (x7.length : Int) then ((impl_itemAt.f k x262000 ((rd_T31 x7 0).f0) ((rd_T31 x7 0).f1)).bind fun t267 => (if 1 ≤ (x7.length : Int) then (if t267 < 0 then (some (([] : List (S31)), false)) else (if 0 ≤ t267 then (if t267 < (x262000.length : Int) then (impl_reached.l1 k x6 (x7.drop (1 : Int).toNat) ((rd_T33 x262000 t267).f1) (((rd_T33 x262000 t267).f1).length : Int) 0 x262000) else (none)) else (none))) else (none))) else (none)) else (some (x6, true))
def impl_reached.l1 : Nat → List (S31) → List (S31) → List (S31) → Int → Int → List (S33) → Option ((List (S31)) × Bool)
 | 0, _, _, _, _, _, _ => none
 | k + 1, x6, x7, x30, x31, x32, x262000 => if x32 < x31 then (if 0 ≤ x32 then (if x32 < (x30.length : Int) then ((impl_hasDot.f k x6 ((rd_T31 x30 x32).f0) ((rd_T31 x30 x32).f1)).bind fun t274 => (if t274 = true then (impl_reached.l1 k x6 x7 x30 x31 (wrap64 (x32 + 1)) x262000) else (if x6.length < 8796093022208 then (if x7.length < 8796093022208 then (impl_reached.l1 k (x6 ++ [(⟨(rd_T31 x30 x32).f0, (rd_T31 x30 x32).f1⟩ : S31)]) (x7 ++ [(⟨(rd_T31 x30 x32).f0, (rd_T31 x30 x32).f1⟩ : S31)]) x30 x31 (wrap64 (x32 + 1)) x262000) else (none)) else (none)))) else (none)) else (none)) else (impl_reached.l0 k x6 x7 x262000)
end
def impl_reached.f (k : Nat) (l0_0 : List (S33)) (a1_0 : Int) (a1_1 : Int) : Option ((List (S31)) × Bool) := impl_reached.l0 k ([] : List (S31)) (([(⟨a1_0, a1_1⟩ : S31)] : List (S31))) l0_0
theorem impl_reached.mono_l : ∀ k, (∀ y0 y1 y2, LeO (impl_reached.l0 k y0 y1 y2) (impl_reached.l0 (k + 1) y0 y1 y2)) ∧ (∀ y0 y1 y2 y3 y4 y5, LeO (impl_reached.l1 k y0 y1 y2 y3 y4 y5) (impl_reached.l1 (k + 1) y0 y1 y2 y3 y4 y5))
 | 0 => ⟨fun _ _ _ r h => by simp [impl_reached.l0] at h, fun _ _ _ _ _ _ r h => by simp [impl_reached.l1] at h⟩
 | k + 1 => by
  obtain ⟨ih0, ih1⟩ := impl_reached.mono_l k
  refine ⟨?_, ?_⟩
  ·intro y0 y1 y2
   unfold impl_reached.l0
   repeat' first
   | (with_reducible exact ih0 _ _ _)
   | (with_reducible exact ih1 _ _ _ _ _ _)
   | (with_reducible exact impl_hasDot.mono _ _ _ _)
   | (with_reducible exact impl_itemAt.mono _ _ _ _)
   | (with_reducible exact LeO.refl _)
   | (with_reducible exact LeO.none _)
   | (with_reducible refine LeO.ite ?_ ?_)
   | (with_reducible refine LeO.bind ?_ (fun _ => ?_))
   | exact ih0 _ _ _
   | exact ih1 _ _ _ _ _ _
   | exact impl_hasDot.mono _ _ _ _
   | exact impl_itemAt.mono _ _ _ _
   | exact LeO.none _
   | refine LeO.ite ?_ ?_
   | refine LeO.bind ?_ (fun _ => ?_)
  ·intro y0 y1 y2 y3 y4 y5
   unfold impl_reached.l1
   repeat' first
   | (with_reducible exact ih0 _ _ _)
   | (with_reducible exact ih1 _ _ _ _ _ _)
   | (with_reducible exact impl_hasDot.mono _ _ _ _)
   | (with_reducible exact impl_itemAt.mono _ _ _ _)
   | (with_reducible exact LeO.refl _)
   | (with_reducible exact LeO.none _)
   | (with_reducible refine LeO.ite ?_ ?_)
   | (with_reducible refine LeO.bind ?_ (fun _ => ?_))
   | exact ih0 _ _ _
   | exact ih1 _ _ _ _ _ _
   | exact impl_hasDot.mono _ _ _ _
   | exact impl_itemAt.mono _ _ _ _
   | exact LeO.none _
   | refine LeO.ite ?_ ?_
   | refine LeO.bind ?_ (fun _ => ?_)
theorem impl_reached.mono : ∀ a0 a1 a2 k, LeO (impl_reached.f k a0 a1 a2) (impl_reached.f (k + 1) a0 a1 a2) := by
 intro a0 a1 a2 k
 obtain ⟨ih0, ih1⟩ := impl_reached.mono_l k
 unfold impl_reached.f
 repeat' first
   | (with_reducible exact ih0 _ _ _)
   | (with_reducible exact ih1 _ _ _ _ _ _)
   | (with_reducible exact impl_hasDot.mono _ _ _ _)
   | (with_reducible exact impl_itemAt.mono _ _ _ _)
   | (with_reducible exact LeO.refl _)
   | (with_reducible exact LeO.none _)
   | (with_reducible refine LeO.ite ?_ ?_)
   | (with_reducible refine LeO.bind ?_ (fun _ => ?_))
   | exact ih0 _ _ _
   | exact ih1 _ _ _ _ _ _
   | exact impl_hasDot.mono _ _ _ _
   | exact impl_itemAt.mono _ _ _ _
   | exact LeO.none _
   | refine LeO.ite ?_ ?_
   | refine LeO.bind ?_ (fun _ => ?_)
set_option maxHeartbeats 8000000 in
set_option maxRecDepth 100000 in
theorem impl_reached.calls (k : Nat) (A0_0 : Option Addr) (c0_0 : Nat) (l0_0 : List (S33)) (a1_0 : Int) (a1_1 : Int) (r1 : List (S31)) (r2 : Bool) (w : World) (hr0_0 : Kd.C k33 w A0_0 l0_0.length l0_0) (hc0_0 : l0_0.length ≤ c0_0) (h : impl_reached.f k l0_0 a1_0 a1_1 = some (r1, r2)) :
  Calls Try.prog 82 #[.agg #[.slice A0_0 l0_0.length c0_0], .agg #[.int .i64 a1_0, .int .i64 a1_1]] w fun e w' => ∃ v0_ : Value, e = .returned (.tuple #[v0_, .bool r2]) ∧ Kd.R k31 31 w' w.heap.size (fun _ => True) v0_ r1 ∧ Below w.heap.size w w' := by
 have hu26 := Try.underlying26
 have hfd26 : ∀ (v : Value) (w : World), (Instr.field 26 (.agg #[v]) 0).run Try.prog w = .ok v w := fun _ _ => by first | kernel_rfl | rfl
 have hu31 := Try.underlying31
 have HR0_0 := mS hr0_0
 have HC0_0 := mS hc0_0
 clear hr0_0 hc0_0
 have HB := mS (Below.refl w.heap.size w)
 have H : (impl_reached.l0 k ([] : List (S31)) (([(⟨a1_0, a1_1⟩ : S31)] : List (S31))) l0_0) = some (r1, r2) := h
 clear h
 obtain ⟨y263, hy263⟩ : ∃ y_ : List (S31), y_ = (([(⟨a1_0, a1_1⟩ : S31)] : List (S31))) := ⟨_, rfl⟩
 replace H : (impl_reached.l0 k ([] : List (S31)) y263 l0_0) = some (r1, r2) := by first | (rw [hy263]; with_reducible exact H) | (have H2_ := (Option.bind_some _ _).symm.trans H; rw [hy263]; with_reducible exact H2_) | (have H2_ := (Option.bind_some _ _).symm.trans H; with_reducible exact H2_) | with_reducible exact H | (rw [hy263]; exact H) | exact H
 have Ny263 := mS hy263
 clear hy263
 have H' := mS H
 clear H
 go_enter Try.func82, Try.ntmps82
 go_wp2_with (first | ((with_reducible refine gate_dst (N := 2) rfl ?_); refine mBx 2 #[.slice A0_0 l0_0.length c0_0] 26 ?_; intro gb261 hg w3 hbox hb; have BK261 := mS (hbox); have GW261 := mG hg (mH HB.out); have GE261 := mG hg (mH HB.out); replace HB := mS (below_step (mH HB.out) hb); clear hb hbox hg) | ((with_reducible refine gate_dst (N := 3) rfl ?_); refine mBx 3 #[.int .i64 a1_0, .int .i64 a1_1] 31 ?_; intro gb262 hg w4 hbox hb; have BK262 := mS (hbox); have GW262 := mG hg (mH1 HB.out GE261.out); have GE262 := mG hg (mH1 HB.out GE261.out); replace HB := mS (below_step (mH1 HB.out GE261.out) hb); have NB261_262 := mNl hg BK261.out; have NB262_261 := mNg hg BK261.out; replace BK261 := mB BK261 hb; clear hb hbox hg; have hnb5 := NB262_261.out; have hnc5 := NB261_262.out; obtain ⟨hcz6_0, hcz6_1, hfz6_0, hfz6_1⟩ := mZ2 BK262.out) | ((with_reducible refine gate_dst (N := 12) rfl ?_); refine Kd.R_lit k31 _ 31 ?hg (N := 12) ?hd (xs := ([(⟨a1_0, a1_1⟩ : S31)] : List (S31))) (inner := [.int .i64 a1_0, .int .i64 a1_1]) (ok := fun _ => True) (okp := fun _ => True) ?hr ?hp (fun _ hk => hk) trivial (Below.refl _ _) (Nat.le_refl _) (by simp) ?_; (case hd => rfl); (case hg => rfl); (case hr => first | (go_simp; done) | (go_simp; rfl)); (case hp => exact (Reps.c2 (show Kd.M k31 _ _ _ (⟨a1_0, a1_1⟩ : S31) [.int .i64 a1_0, .int .i64 a1_1] from (k31_mkM _ _ _ (⟨a1_0, a1_1⟩ : S31) )) (Reps.none _ _))); intro v264 w7 ho8 hb hg_ hnew_; clear hg_ hnew_; (first | rw [← Ny263.out] at ho8 | (simp only [Int.reduceToNat] at ho8; rw [← Ny263.out] at ho8)); have HO265 := mS (Kd.R_lower (Kd.R_newB ho8 (g := gb262) (o := .cells #[.int .i64 a1_0, .int .i64 a1_1] 31 (0, 0)) (mK BK262.out)) (below_size (mH2 HB.out GE261.out GE262.out))); replace BK261 := mB BK261 hb; replace BK262 := mB BK262 hb; replace HB := mS (below_step (mH2 HB.out GE261.out GE262.out) hb); clear hb ho8))
 go_loopg [6, 7] k (fun kq v6 v7 w' => ∃ (x6_1 : List (S31)) (x7_1 : List (S31)), Aside0 (impl_reached.l0 kq x6_1 x7_1 l0_0 = some (r1, r2)) ∧ Aside0 (kq ≤ k) ∧ Aside0 (Kd.R k31 31 w' w.heap.size (fun k_ => some k_ ≠ (v7 : Value).ownBlock ∧ k_ ≠ gb262) v6 x6_1) ∧ Aside0 (Kd.Q k31 31 w' w.heap.size (fun k_ => some k_ ≠ (v6 : Value).ownBlock ∧ k_ ≠ gb262) v7 x7_1) ∧ Aside0 (w'.heap[gb261]? = some (.cells #[(.slice A0_0 l0_0.length c0_0)] 26 (0, 0))) ∧ Aside0 (w'.heap[gb262]? = some (.cells #[.int .i64 a1_0, .int .i64 a1_1] 31 (0, 0))) ∧ Aside0 (Below w.heap.size w w'))
 case atStart => exact ⟨(([] : List (S31))), (y263), H', ⟨Nat.le_refl _⟩, ⟨by first | exact Kd.R_nil _ _ _ _ _ | exact Kd.N_nil _ _ _ _ _ | exact Kd.V_nil _ _ _ _ _ | exact Kd.Q_nil _ _ _ _ _ | exact Kd.S_nil _ _ _ _ _⟩, ⟨Kd.Q_of_R (by refine mR ?_; exact Kd.R_mono HO265.out (fun _ hk => ⟨(by simp [Value.ownBlock]), hk.2⟩))⟩, ⟨mK BK261.out⟩, ⟨mK BK262.out⟩, ⟨(mH2 HB.out GE261.out GE262.out)⟩⟩
 case round =>
  clear H'
  try clear c2
  try clear p2
  try clear c5
  try clear c8
  try clear hcz6_0
  try clear hcz6_1
  try clear hfz6_0
  try clear hfz6_1
  obtain ⟨x6_1, x7_1, HA, HK1, HO_6, HO_7, BK261, BK262, HB⟩ := hrel
  cases gk with
  | zero => exact absurd HA.out (by simp [impl_reached.l0])
  | succ k1 =>
   have H := HA.out
   clear HA
   simp only [impl_reached.l0] at H
   by_cases c9 : (x7_1.length : Int) > 0
   ·rw [if_pos c9] at H
    have c9b0 : decide (0 < (x7_1.length : Int)) = true := decide_eq_true c9
    have c9b1 : decide (0 < x7_1.length) = true := decide_eq_true (by omega)
    clear c9
    by_cases c10 : 0 < (x7_1.length : Int)
    ·rw [if_pos c10] at H
     have c10b0 := decide_eq_true c10
     have c10b1 : decide (0 < x7_1.length) = true := decide_eq_true (by omega)
     clear c10
     replace H := Option.bind_eq_some_iff.mp H
     obtain ⟨t267, A110, H⟩ := H
     replace H : (if 1 ≤ (x7_1.length : Int) then (if t267 < 0 then (some (([] : List (S31)), false)) else (if 0 ≤ t267 then (if t267 < (l0_0.length : Int) then (impl_reached.l1 k1 x6_1 (x7_1.drop (1 : Int).toNat) ((rd_T33 l0_0 t267).f1) (((rd_T33 l0_0 t267).f1).length : Int) 0 l0_0) else (none)) else (none))) else (none)) = some (r1, r2) := H
     have A11 := mS A110
     clear A110
     by_cases c12 : 1 ≤ (x7_1.length : Int)
     ·rw [if_pos c12] at H
      have c12b0 := eq_true c12
      have c12b1 := decide_eq_true c12
      clear c12
      obtain ⟨y268, hy268⟩ : ∃ y_ : List (S31), y_ = (x7_1.drop (1 : Int).toNat) := ⟨_, rfl⟩
      replace H : (if t267 < 0 then (some (([] : List (S31)), false)) else (if 0 ≤ t267 then (if t267 < (l0_0.length : Int) then (impl_reached.l1 k1 x6_1 y268 ((rd_T33 l0_0 t267).f1) (((rd_T33 l0_0 t267).f1).length : Int) 0 l0_0) else (none)) else (none))) = some (r1, r2) := by first | (rw [hy268]; with_reducible exact H) | (have H2_ := (Option.bind_some _ _).symm.trans H; rw [hy268]; with_reducible exact H2_) | (have H2_ := (Option.bind_some _ _).symm.trans H; with_reducible exact H2_) | with_reducible exact H | (rw [hy268]; exact H) | exact H
      have Ny268 := mS hy268
      clear hy268
      by_cases c13 : t267 < 0
      ·rw [if_pos c13] at H
       have c13b0 := decide_eq_true c13
       clear c13
       simp only [Option.some.injEq, Prod.mk.injEq] at H
       obtain ⟨rfl, rfl⟩ := H
       obtain ⟨Ao14, co14, eo14, _⟩ := Kd.Q_slice HO_7.out
       subst eo14
       try go_wp2
       replace HO_6 := mS (Kd.R_drew HO_6.out)
       replace HO_7 := mS (Kd.Q_drew HO_7.out)
       replace BK261 := mS (blk_drew BK261.out)
       replace BK262 := mS (blk_drew BK262.out)
       replace HB := mS (below_drew1 HB.out)
       have p266 : 0 ≤ (0 : Int) := (by omega)
       have q266 : 0 < (x7_1.length : Int) := mD
       obtain ⟨ad266, e266, hx266_0, hx266_1⟩ := at_T31 (Kd.Q_reads' HO_7.out).2.2 0 p266 q266
       cases e266
       have qi266 : (0 < x7_1.length) = True := eq_true (by omega)
       (try rw [show ((0 : Int)).toNat = 0 from rfl] at hx266_0)
       (try rw [show 0 * 2 = 0 from rfl] at hx266_0)
       (try rw [Addr.add_zero'] at hx266_0)
       (try rw [show ((0 : Int)).toNat = 0 from rfl] at hx266_1)
       (try rw [show 0 * 2 = 0 from rfl] at hx266_1)
       (try rw [Addr.add_zero'] at hx266_1)
       replace p266 := eq_true p266
       replace q266 := eq_true q266
       refine start_ (n := 6) (S := fun w' => w'.cell? ⟨gb261, 0, none⟩ = some (.slice A0_0 l0_0.length c0_0) ∧ w'.cell? ad266 = some (.int .i64 ((rd_T31 x7_1 0).f0)) ∧ w'.cell? ⟨ad266.block, ad266.off + 1, none⟩ = some (.int .i64 ((rd_T31 x7_1 0).f1))) (ds := []) (mb 0 6) (by kernel_rfl) rfl rfl ⟨mZ BK261.out 0, hx266_0, hx266_1⟩ (fun hHeld => ?_)
       generalize wr.drew = w15 at HO_6 HO_7 BK261 BK262 HB hx266_0 hx266_1 hHeld ⊢
       refine pure_ (i := 1) (N := some 17) (v := ?_) (a' := ?_) (mr [0,1,1,4]) rfl rfl (by kernel_rfl) (fun _ _ _ h => h) (Or.inl ⟨by rfl, ?_⟩) ?_ ?_
       rotate_left
       ·intro w'
        go_simp
        with_reducible rfl
       rotate_left
       ·simp only [Act.put, zA, zB, zC, i64_w, i32_w]
        rfl
       refine pure_ (i := 2) (N := some 18) (v := ?_) (a' := ?_) (mr [0,1,2,3]) rfl rfl (by kernel_rfl) (fun _ _ _ h => h) (Or.inl ⟨by rfl, ?_⟩) ?_ ?_
       rotate_left
       ·intro w'
        go_simp
        with_reducible rfl
       rotate_left
       ·simp only [Act.put, zA, zB, zC, i64_w, i32_w]
        rfl
       refine take_ (i := 0) (N := some 16) (v := ?_) (a' := ?_) (mb 3 3) rfl rfl (by kernel_rfl) (fun _ _ _ h => h) (Or.inl ⟨by rfl, ?_⟩) hHeld ?_ ?_
       rotate_left
       ·rintro w' ⟨s0, s1, s2⟩
        go_simp
        with_reducible rfl
       rotate_left
       ·simp only [Act.put, zA, zB, zC, i64_w, i32_w]
        rfl
       refine take_ (i := 3) (N := some 19) (v := ?_) (a' := ?_) (mb 4 2) rfl rfl (by kernel_rfl) (fun _ _ _ h => h) (Or.inl ⟨by rfl, ?_⟩) hHeld ?_ ?_
       rotate_left
       ·rintro w' ⟨s0, s1, s2⟩
        go_simp
        with_reducible rfl
       rotate_left
       ·simp only [Act.put, zA, zB, zC, i64_w, i32_w]
        rfl
       refine one_ (i := 4) (N := some 20) (mb 5 1) rfl rfl (by kernel_rfl) (by decide) (fun K hK => ?_)
       refine goes_ Try.func66 (by kernel_rfl) rfl #[.agg #[.slice A0_0 l0_0.length c0_0], .agg #[.int .i64 ((rd_T31 x7_1 0).f0), .int .i64 ((rd_T31 x7_1 0).f1)]] (by rfl) rfl rfl mA ?_
       with_reducible refine (impl_itemAt.calls k1 _ _ l0_0 ((rd_T31 x7_1 0).f0) ((rd_T31 x7_1 0).f1) t267 _ ?side1 ?side2 A11.out).mono ?_
       (case side1 => exact mC (Kd.C_below HR0_0.out HB.out))
       (case side2 => exact HC0_0.out)
       rintro e w16 ⟨rfl, hb⟩
       have HS1_ := (hb.cell (World.block_lt_of_cell? _ _ (hHeld.2.1))).trans (hHeld.2.1)
       have HS2_ := (hb.cell (World.block_lt_of_cell? _ _ (hHeld.2.2))).trans (hHeld.2.2)
       refine ⟨_, rfl, ?_⟩
       replace HO_6 := mS (Kd.R_below (mR HO_6.out) hb)
       replace HO_7 := mS (Kd.Q_below (mQd HO_7.out) hb)
       replace BK261 := mB BK261 hb
       replace BK262 := mB BK262 hb
       replace HB := mS (below_step (mH2 HB.out GE261.out GE262.out) hb)
       (try clear hb)
       (try clear hb2)
       (try clear hk)
       (try clear hi)
       refine hK.out _ _ ⟨mZ BK261.out 0, HS1_, HS2_⟩ (fun hHeld => ?_)
       clear hK K
       refine mno 20 ?_
       refine pure_ (i := 5) (N := some 8) (v := ?_) (a' := ?_) (mb 6 0) rfl rfl (by kernel_rfl) (fun _ _ _ h => h) (Or.inl ⟨by rfl, ?_⟩) ?_ ?_
       rotate_left
       ·intro w'
        go_simp
        with_reducible rfl
       rotate_left
       ·simp only [Act.put, zA, zB, zC, i64_w, i32_w]
        rfl
       refine done_ (by kernel_rfl) ?_
       have q17 : (1 : Int) ≤ ((x7_1.length : Int) : Int) := mD
       obtain ⟨i017, hi017, _, hsz17, _⟩ := info_parts info31
       have hcut17 := cut_from (P := Try.prog) 28 31 .i64 Try.underlying28 hi017 2 hsz17 (some ad266) x7_1.length co14 1 (by omega) q17
       have hr17 := Kd.Q_drop (k := (1 : Int).toNat) HO_7.out (by omega)
       obtain ⟨A17, hA17⟩ : ∃ A1, A1 = (if co14 = (1 : Int).toNat then (some ad266) else ((some ad266) : Option Addr).map (·.add ((1 : Int).toNat * 2))) := ⟨_, rfl⟩
       obtain ⟨c17, hc17⟩ : ∃ c1, c1 = co14 - (1 : Int).toNat := ⟨_, rfl⟩
       have hy17 : y268.length = x7_1.length - (1 : Int).toNat := (by rw [Ny268.out, List.length_drop])
       rw [← Ny268.out] at hr17
       rw [← hy17, ← hA17, ← hc17] at hcut17
       replace hr17 : Kd.Q k31 31 w16 w.heap.size (fun k_ => some k_ ≠ (u6 : Value).ownBlock ∧ k_ ≠ gb262) (.slice A17 y268.length c17) y268 := (by rw [hA17, hc17, hy17]; exact hr17)
       have HE17 : Aside0 ((Value.slice A17 y268.length c17).ownBlock = (.slice (some ad266) x7_1.length co14 : Value).ownBlock) := ⟨by rw [hA17]; split <;> (cases ((some ad266) : Option Addr) <;> rfl)⟩
       clear hy17 hi017 hsz17 HO_7 hA17 hc17
       have HO270 := mS hr17
       clear hr17
       replace q17 := eq_true q17
       have n_ := mS (Kd.R_mono (ok' := fun k_ => (some k_ ≠ (.slice A17 y268.length c17 : Value).ownBlock ∧ k_ ≠ gb262)) HO_6.out (fun k_ hk => ⟨(by rw [HE17.out]; exact hk.1), hk.2⟩))
       clear HO_6
       have HO_6 := n_
       clear n_
       try go_wp2
       go_ret2
       exact ⟨_, mEw, by first | exact Kd.R_nil _ _ _ _ _ | exact Kd.N_nil _ _ _ _ _ | exact Kd.V_nil _ _ _ _ _ | exact Kd.Q_nil _ _ _ _ _ | exact Kd.S_nil _ _ _ _ _, (mH2 HB.out GE261.out GE262.out)⟩
      ·rw [if_neg c13] at H
       have c13b0 := decide_eq_false c13
       clear c13
       by_cases c18 : 0 ≤ t267
       ·rw [if_pos c18] at H
        have c18b0 := decide_eq_true c18
        clear c18
        by_cases c19 : t267 < (l0_0.length : Int)
        ·rw [if_pos c19] at H
         have c19b0 := decide_eq_true c19
         clear c19
         have H' := mS H
         clear H
         obtain ⟨Ao20, co20, eo20, _⟩ := Kd.Q_slice HO_7.out
         subst eo20
         try go_wp2
         replace HO_6 := mS (Kd.R_drew HO_6.out)
         replace HO_7 := mS (Kd.Q_drew HO_7.out)
         replace BK261 := mS (blk_drew BK261.out)
         replace BK262 := mS (blk_drew BK262.out)
         replace HB := mS (below_drew1 HB.out)
         have p266 : 0 ≤ (0 : Int) := (by omega)
         have q266 : 0 < (x7_1.length : Int) := mD
         obtain ⟨ad266, e266, hx266_0, hx266_1⟩ := at_T31 (Kd.Q_reads' HO_7.out).2.2 0 p266 q266
         cases e266
         have qi266 : (0 < x7_1.length) = True := eq_true (by omega)
         (try rw [show ((0 : Int)).toNat = 0 from rfl] at hx266_0)
         (try rw [show 0 * 2 = 0 from rfl] at hx266_0)
         (try rw [Addr.add_zero'] at hx266_0)
         (try rw [show ((0 : Int)).toNat = 0 from rfl] at hx266_1)
         (try rw [show 0 * 2 = 0 from rfl] at hx266_1)
         (try rw [Addr.add_zero'] at hx266_1)
         replace p266 := eq_true p266
         replace q266 := eq_true q266
         refine start_ (n := 6) (S := fun w' => w'.cell? ⟨gb261, 0, none⟩ = some (.slice A0_0 l0_0.length c0_0) ∧ w'.cell? ad266 = some (.int .i64 ((rd_T31 x7_1 0).f0)) ∧ w'.cell? ⟨ad266.block, ad266.off + 1, none⟩ = some (.int .i64 ((rd_T31 x7_1 0).f1))) (ds := []) (mb 0 6) (by kernel_rfl) rfl rfl ⟨mZ BK261.out 0, hx266_0, hx266_1⟩ (fun hHeld => ?_)
         generalize wr.drew = w21 at HO_6 HO_7 BK261 BK262 HB hx266_0 hx266_1 hHeld ⊢
         refine pure_ (i := 1) (N := some 17) (v := ?_) (a' := ?_) (mr [0,1,1,4]) rfl rfl (by kernel_rfl) (fun _ _ _ h => h) (Or.inl ⟨by rfl, ?_⟩) ?_ ?_
         rotate_left
         ·intro w'
          go_simp
          with_reducible rfl
         rotate_left
         ·simp only [Act.put, zA, zB, zC, i64_w, i32_w]
          rfl
         refine pure_ (i := 2) (N := some 18) (v := ?_) (a' := ?_) (mr [0,1,2,3]) rfl rfl (by kernel_rfl) (fun _ _ _ h => h) (Or.inl ⟨by rfl, ?_⟩) ?_ ?_
         rotate_left
         ·intro w'
          go_simp
          with_reducible rfl
         rotate_left
         ·simp only [Act.put, zA, zB, zC, i64_w, i32_w]
          rfl
         refine take_ (i := 0) (N := some 16) (v := ?_) (a' := ?_) (mb 3 3) rfl rfl (by kernel_rfl) (fun _ _ _ h => h) (Or.inl ⟨by rfl, ?_⟩) hHeld ?_ ?_
         rotate_left
         ·rintro w' ⟨s0, s1, s2⟩
          go_simp
          with_reducible rfl
         rotate_left
         ·simp only [Act.put, zA, zB, zC, i64_w, i32_w]
          rfl
         refine take_ (i := 3) (N := some 19) (v := ?_) (a' := ?_) (mb 4 2) rfl rfl (by kernel_rfl) (fun _ _ _ h => h) (Or.inl ⟨by rfl, ?_⟩) hHeld ?_ ?_
         rotate_left
         ·rintro w' ⟨s0, s1, s2⟩
          go_simp
          with_reducible rfl
         rotate_left
         ·simp only [Act.put, zA, zB, zC, i64_w, i32_w]
          rfl
         refine one_ (i := 4) (N := some 20) (mb 5 1) rfl rfl (by kernel_rfl) (by decide) (fun K hK => ?_)
         refine goes_ Try.func66 (by kernel_rfl) rfl #[.agg #[.slice A0_0 l0_0.length c0_0], .agg #[.int .i64 ((rd_T31 x7_1 0).f0), .int .i64 ((rd_T31 x7_1 0).f1)]] (by rfl) rfl rfl mA ?_
         with_reducible refine (impl_itemAt.calls k1 _ _ l0_0 ((rd_T31 x7_1 0).f0) ((rd_T31 x7_1 0).f1) t267 _ ?side1 ?side2 A11.out).mono ?_
         (case side1 => exact mC (Kd.C_below HR0_0.out HB.out))
         (case side2 => exact HC0_0.out)
         rintro e w22 ⟨rfl, hb⟩
         have HS1_ := (hb.cell (World.block_lt_of_cell? _ _ (hHeld.2.1))).trans (hHeld.2.1)
         have HS2_ := (hb.cell (World.block_lt_of_cell? _ _ (hHeld.2.2))).trans (hHeld.2.2)
         refine ⟨_, rfl, ?_⟩
         replace HO_6 := mS (Kd.R_below (mR HO_6.out) hb)
         replace HO_7 := mS (Kd.Q_below (mQd HO_7.out) hb)
         replace BK261 := mB BK261 hb
         replace BK262 := mB BK262 hb
         replace HB := mS (below_step (mH2 HB.out GE261.out GE262.out) hb)
         (try clear hb)
         (try clear hb2)
         (try clear hk)
         (try clear hi)
         refine hK.out _ _ ⟨mZ BK261.out 0, HS1_, HS2_⟩ (fun hHeld => ?_)
         clear hK K
         refine mno 20 ?_
         refine pure_ (i := 5) (N := some 8) (v := ?_) (a' := ?_) (mb 6 0) rfl rfl (by kernel_rfl) (fun _ _ _ h => h) (Or.inl ⟨by rfl, ?_⟩) ?_ ?_
         rotate_left
         ·intro w'
          go_simp
          with_reducible rfl
         rotate_left
         ·simp only [Act.put, zA, zB, zC, i64_w, i32_w]
          rfl
         refine done_ (by kernel_rfl) ?_
         have q23 : (1 : Int) ≤ ((x7_1.length : Int) : Int) := mD
         obtain ⟨i023, hi023, _, hsz23, _⟩ := info_parts info31
         have hcut23 := cut_from (P := Try.prog) 28 31 .i64 Try.underlying28 hi023 2 hsz23 (some ad266) x7_1.length co20 1 (by omega) q23
         have hr23 := Kd.Q_drop (k := (1 : Int).toNat) HO_7.out (by omega)
         obtain ⟨A23, hA23⟩ : ∃ A1, A1 = (if co20 = (1 : Int).toNat then (some ad266) else ((some ad266) : Option Addr).map (·.add ((1 : Int).toNat * 2))) := ⟨_, rfl⟩
         obtain ⟨c23, hc23⟩ : ∃ c1, c1 = co20 - (1 : Int).toNat := ⟨_, rfl⟩
         have hy23 : y268.length = x7_1.length - (1 : Int).toNat := (by rw [Ny268.out, List.length_drop])
         rw [← Ny268.out] at hr23
         rw [← hy23, ← hA23, ← hc23] at hcut23
         replace hr23 : Kd.Q k31 31 w22 w.heap.size (fun k_ => some k_ ≠ (u6 : Value).ownBlock ∧ k_ ≠ gb262) (.slice A23 y268.length c23) y268 := (by rw [hA23, hc23, hy23]; exact hr23)
         have HE23 : Aside0 ((Value.slice A23 y268.length c23).ownBlock = (.slice (some ad266) x7_1.length co20 : Value).ownBlock) := ⟨by rw [hA23]; split <;> (cases ((some ad266) : Option Addr) <;> rfl)⟩
         clear hy23 hi023 hsz23 HO_7 hA23 hc23
         have HO270 := mS hr23
         clear hr23
         replace q23 := eq_true q23
         have n_ := mS (Kd.R_mono (ok' := fun k_ => (some k_ ≠ (.slice A23 y268.length c23 : Value).ownBlock ∧ k_ ≠ gb262)) HO_6.out (fun k_ hk => ⟨(by rw [HE23.out]; exact hk.1), hk.2⟩))
         clear HO_6
         have HO_6 := n_
         clear n_
         have hnb24 := NB261_262.out
         have hnc24 := NB262_261.out
         have hcz25_0 := mZ BK261.out 0
         have hfz25_0 := blk_frozen BK261.out 0
         have p271 : 0 ≤ (t267 : Int) := mD
         have q271 : t267 < (l0_0.length : Int) := mD
         obtain ⟨ad271, A271_2, c271_2, e271, hx271_0, hx271_1, hx271_2, hl271_2, hi271_2⟩ := at_T33 HR0_0.out t267 p271 q271
         cases e271
         replace hx271_0 := mX HB.out hx271_0
         replace hx271_1 := mX HB.out hx271_1
         replace hx271_2 := mX HB.out hx271_2
         have HR271_2 := mS hi271_2
         have HC271_2 := mS hl271_2
         clear hi271_2 hl271_2
         replace p271 := eq_true p271
         replace q271 := eq_true q271
         try go_wp2
         go_loopg [6, 7, 32] k1 (fun kq v6 v7 v32 w' => ∃ (x6_2 : List (S31)) (x7_2 : List (S31)) (x32_2 : Int), v32 = .int .i64 x32_2 ∧ Aside0 (impl_reached.l1 kq x6_2 x7_2 ((rd_T33 l0_0 t267).f1) (((rd_T33 l0_0 t267).f1).length : Int) x32_2 l0_0 = some (r1, r2)) ∧ Aside0 (kq ≤ k1) ∧ Aside0 (Kd.R k31 31 w' w.heap.size (fun k_ => some k_ ≠ (v7 : Value).ownBlock ∧ k_ ≠ gb262) v6 x6_2) ∧ Aside0 (Kd.Q k31 31 w' w.heap.size (fun k_ => some k_ ≠ (v6 : Value).ownBlock ∧ k_ ≠ gb262) v7 x7_2) ∧ Aside0 (w'.heap[gb261]? = some (.cells #[(.slice (some ad271) l0_0.length c0_0)] 26 (0, 0))) ∧ Aside0 (w'.heap[gb262]? = some (.cells #[.int .i64 a1_0, .int .i64 a1_1] 31 (0, 0))) ∧ Aside0 (Below w.heap.size w w'))
         case atStart => exact ⟨(x6_1), (y268), (0), mE, H', ⟨Nat.le_refl _⟩, ⟨mR HO_6.out⟩, ⟨mQd HO270.out⟩, ⟨mK BK261.out⟩, ⟨mK BK262.out⟩, ⟨(mH2 HB.out GE261.out GE262.out)⟩⟩
         case round =>
          clear H'
          try clear c1
          try clear q1
          try clear c2
          try clear p2
          try clear q2
          try clear hx2
          try clear qi2
          try clear c5
          try clear c6
          try clear c8
          try clear c9
          try clear c9b0
          try clear c9b1
          try clear c10
          try clear c10b0
          try clear c10b1
          try clear c12
          try clear c12b0
          try clear c12b1
          try clear c13
          try clear c13b0
          try clear c17
          try clear q17
          try clear c18
          try clear c18b0
          try clear c19
          try clear c19b0
          try clear c23
          try clear q23
          try clear c24
          try clear hcz25_0
          try clear hcz6_0
          try clear hcz6_1
          try clear hfz25_0
          try clear hfz6_0
          try clear hfz6_1
          try clear hx266_0
          try clear hx266_1
          try clear hx271_0
          try clear hx271_1
          try clear hx271_2
          try clear p2
          try clear p266
          try clear p271
          try clear q17
          try clear q23
          try clear q266
          try clear q271
          obtain ⟨x6_2, x7_2, x32_2, rfl, HA, HK2, HO_6, HO_7, BK261, BK262, HB⟩ := hrel
          cases gk with
          | zero => exact absurd HA.out (by simp [impl_reached.l1])
          | succ k2 =>
           have H := HA.out
           clear HA
           simp only [impl_reached.l1] at H
           by_cases c26 : x32_2 < (((rd_T33 l0_0 t267).f1).length : Int)
           ·rw [if_pos c26] at H
            have c26b0 := decide_eq_true c26
            clear c26
            by_cases c27 : 0 ≤ x32_2
            ·rw [if_pos c27] at H
             have c27b0 := decide_eq_true c27
             clear c27
             by_cases c28 : x32_2 < (((rd_T33 l0_0 t267).f1).length : Int)
             ·rw [if_pos c28] at H
              have c28b0 := decide_eq_true c28
              clear c28
              replace H := Option.bind_eq_some_iff.mp H
              obtain ⟨t274, A290, H⟩ := H
              replace H : (if t274 = true then (impl_reached.l1 k2 x6_2 x7_2 ((rd_T33 l0_0 t267).f1) (((rd_T33 l0_0 t267).f1).length : Int) (wrap64 (x32_2 + 1)) l0_0) else (if x6_2.length < 8796093022208 then (if x7_2.length < 8796093022208 then (impl_reached.l1 k2 (x6_2 ++ [(⟨(rd_T31 ((rd_T33 l0_0 t267).f1) x32_2).f0, (rd_T31 ((rd_T33 l0_0 t267).f1) x32_2).f1⟩ : S31)]) (x7_2 ++ [(⟨(rd_T31 ((rd_T33 l0_0 t267).f1) x32_2).f0, (rd_T31 ((rd_T33 l0_0 t267).f1) x32_2).f1⟩ : S31)]) ((rd_T33 l0_0 t267).f1) (((rd_T33 l0_0 t267).f1).length : Int) (wrap64 (x32_2 + 1)) l0_0) else (none)) else (none))) = some (r1, r2) := H
              have A29 := mS A290
              clear A290
              by_cases c30 : t274 = true
              ·subst c30
               have H1 := H
               rw [if_pos rfl] at H1
               clear H
               have H := H1
               clear H1
               have H' := mS H
               clear H
               have p272 : 0 ≤ (x32_2 : Int) := mD
               have q272 : x32_2 < (((rd_T33 l0_0 t267).f1).length : Int) := mD
               obtain ⟨ad272, e272, hx272_0, hx272_1⟩ := at_T31 HR271_2.out x32_2 p272 q272
               cases e272
               replace hx272_0 := mX HB.out hx272_0
               replace hx272_1 := mX HB.out hx272_1
               replace p272 := eq_true p272
               replace q272 := eq_true q272
               go_wp2_with (first | ((with_reducible refine gate_dst (N := 10) rfl ?_); refine mBx 10 #[.int .i64 0, .int .i64 0] 31 ?_; intro gb273 hg w31 hbox hb; replace HO_6 := mS (Kd.R_below (Kd.R_elderB (mR HO_6.out) gb273 (Nat.le_of_eq hg.symm)) hb); replace HO_7 := mS (Kd.Q_below (Kd.Q_elderB (mQd HO_7.out) gb273 (Nat.le_of_eq hg.symm)) hb); have BK273 := mS (hbox); have GW273 := mG hg (mH2 HB.out GE261.out GE262.out); have GE273 := mG hg (mH2 HB.out GE261.out GE262.out); replace HB := mS (below_step (mH2 HB.out GE261.out GE262.out) hb); have NB261_273 := mNl hg BK261.out; have NB273_261 := mNg hg BK261.out; replace BK261 := mB BK261 hb; have NB262_273 := mNl hg BK262.out; have NB273_262 := mNg hg BK262.out; replace BK262 := mB BK262 hb; clear hb hbox hg; have hnb32 := NB273_261.out; have hnc32 := NB261_273.out; have hnb33 := NB273_262.out; have hnc33 := NB262_273.out; obtain ⟨hcz34_0, hcz34_1, hfz34_0, hfz34_1⟩ := mZ2 BK273.out; obtain ⟨Ao35, co35, eo35⟩ := Kd.R_slice HO_6.out; subst eo35) | ((with_reducible refine gate_callee (f := 61) rfl ?_); refine mGo 38 Try.func61 #[.slice Ao35 x6_2.length co35, .agg #[.int .i64 ((rd_T31 ((rd_T33 l0_0 t267).f1) x32_2).f0), .int .i64 ((rd_T31 ((rd_T33 l0_0 t267).f1) x32_2).f1)]] ?_; (with_reducible refine (impl_hasDot.calls k2 _ _ x6_2 ((rd_T31 ((rd_T33 l0_0 t267).f1) x32_2).f0) ((rd_T31 ((rd_T33 l0_0 t267).f1) x32_2).f1) true _ ?side1 ?side2 A29.out).mono ?_); (case side1 => refine (Kd.R_reads' (e := 31) (base := w.heap.size) (ok := fun k_ => ((some k_ ≠ (u7 : Value).ownBlock ∧ k_ ≠ gb262) ∧ k_ ≠ gb273)) (n := x6_2.length) (c := co35) ?_).2.2; exact (by refine mR ?_; exact (Kd.R_mono (mRf2 (Kd.R_mono HO_6.out (fun k_ hk => (⟨hk, hk.2⟩ : _ ∧ k_ ≠ gb273)))) (fun _ h_ => h_.1)))); (case side2 => exact (Kd.R_reads' HO_6.out).2.1); rintro e w36 ⟨rfl, hb⟩; refine ⟨_, rfl, ?_⟩; replace HO_6 := mS (Kd.R_below (by refine mR ?_; exact (Kd.R_mono (mRf2 (Kd.R_mono HO_6.out (fun k_ hk => (⟨hk, hk.2⟩ : _ ∧ k_ ≠ gb273)))) (fun _ h_ => h_.1))) hb); replace HO_7 := mS (Kd.Q_below (by refine mQd ?_; exact (Kd.Q_mono (Kd.Q_far (p := ⟨gb273, 1, none⟩) (Kd.Q_far (p := ⟨gb273, 0, none⟩) (Kd.Q_mono HO_7.out (fun k_ hk => (⟨hk, hk.2⟩ : _ ∧ k_ ≠ gb273))) (fun _ hk => hk.2) (.int .i64 ((rd_T31 ((rd_T33 l0_0 t267).f1) x32_2).f0))) (fun _ hk => hk.2) (.int .i64 ((rd_T31 ((rd_T33 l0_0 t267).f1) x32_2).f1))) (fun _ h_ => h_.1))) hb); replace BK261 := mS (blk_below (g := gb261) (o := .cells #[.slice (some ad271) l0_0.length c0_0] 26 (0, 0)) (mKf NB261_273.out BK261.out) hb); replace BK262 := mS (blk_below (g := gb262) (o := .cells #[.int .i64 a1_0, .int .i64 a1_1] 31 (0, 0)) (mKf NB262_273.out BK262.out) hb); replace BK273 := mS (blk_below (g := gb273) (o := .cells #[.int .i64 ((rd_T31 ((rd_T33 l0_0 t267).f1) x32_2).f0), .int .i64 ((rd_T31 ((rd_T33 l0_0 t267).f1) x32_2).f1)] 31 (0, 0)) (by refine mK ?_; refine blk_put (cs := #[.int .i64 ((rd_T31 ((rd_T33 l0_0 t267).f1) x32_2).f0), .int .i64 0]) ?_ 1 _ rfl; refine mK ?_; refine blk_put (cs := #[.int .i64 0, .int .i64 0]) ?_ 0 _ rfl; refine mK ?_; exact BK273.out) hb); replace HB := mS (below_step (mH3 HB.out GE261.out GE262.out GE273.out) hb); (try clear hb)))
               go_roundg k2
               case measure => have := HK1.out; have := HK2.out; omega
               case rel => exact ⟨(x6_2), (x7_2), (wrap64 (x32_2 + 1)), mE, H', ⟨by have := HK1.out; have := HK2.out; omega⟩, ⟨by refine mR ?_; exact Kd.R_mono HO_6.out (fun _ hk => ⟨hk.1.1, hk.1.2⟩)⟩, ⟨by refine mQd ?_; exact Kd.Q_mono HO_7.out (fun _ hk => ⟨hk.1.1, hk.1.2⟩)⟩, ⟨mK BK261.out⟩, ⟨mK BK262.out⟩, ⟨(mH3 HB.out GE261.out GE262.out GE273.out)⟩⟩
              ·replace c30 := Bool.eq_false_iff.mpr c30
               subst c30
               have H1 := H
               rw [if_neg (show ¬ (false = true) by decide)] at H1
               clear H
               have H := H1
               clear H1
               by_cases c37 : x6_2.length < 8796093022208
               ·rw [if_pos c37] at H
                have LMc37 := mS c37
                clear c37
                obtain ⟨y275, hy275⟩ : ∃ y_ : List (S31), y_ = (x6_2 ++ [(⟨(rd_T31 ((rd_T33 l0_0 t267).f1) x32_2).f0, (rd_T31 ((rd_T33 l0_0 t267).f1) x32_2).f1⟩ : S31)]) := ⟨_, rfl⟩
                replace H : (if x7_2.length < 8796093022208 then (impl_reached.l1 k2 y275 (x7_2 ++ [(⟨(rd_T31 ((rd_T33 l0_0 t267).f1) x32_2).f0, (rd_T31 ((rd_T33 l0_0 t267).f1) x32_2).f1⟩ : S31)]) ((rd_T33 l0_0 t267).f1) (((rd_T33 l0_0 t267).f1).length : Int) (wrap64 (x32_2 + 1)) l0_0) else (none)) = some (r1, r2) := by first | (rw [hy275]; with_reducible exact H) | (have H2_ := (Option.bind_some _ _).symm.trans H; rw [hy275]; with_reducible exact H2_) | (have H2_ := (Option.bind_some _ _).symm.trans H; with_reducible exact H2_) | with_reducible exact H | (rw [hy275]; exact H) | exact H
                have Ny275 := mS hy275
                clear hy275
                by_cases c38 : x7_2.length < 8796093022208
                ·rw [if_pos c38] at H
                 have LMc38 := mS c38
                 clear c38
                 obtain ⟨y278, hy278⟩ : ∃ y_ : List (S31), y_ = (x7_2 ++ [(⟨(rd_T31 ((rd_T33 l0_0 t267).f1) x32_2).f0, (rd_T31 ((rd_T33 l0_0 t267).f1) x32_2).f1⟩ : S31)]) := ⟨_, rfl⟩
                 replace H : (impl_reached.l1 k2 y275 y278 ((rd_T33 l0_0 t267).f1) (((rd_T33 l0_0 t267).f1).length : Int) (wrap64 (x32_2 + 1)) l0_0) = some (r1, r2) := by first | (rw [hy278]; with_reducible exact H) | (have H2_ := (Option.bind_some _ _).symm.trans H; rw [hy278]; with_reducible exact H2_) | (have H2_ := (Option.bind_some _ _).symm.trans H; with_reducible exact H2_) | with_reducible exact H | (rw [hy278]; exact H) | exact H
                 have Ny278 := mS hy278
                 clear hy278
                 have H' := mS H
                 clear H
                 have p272 : 0 ≤ (x32_2 : Int) := mD
                 have q272 : x32_2 < (((rd_T33 l0_0 t267).f1).length : Int) := mD
                 obtain ⟨ad272, e272, hx272_0, hx272_1⟩ := at_T31 HR271_2.out x32_2 p272 q272
                 cases e272
                 replace hx272_0 := mX HB.out hx272_0
                 replace hx272_1 := mX HB.out hx272_1
                 replace p272 := eq_true p272
                 replace q272 := eq_true q272
                 go_wp2_with (first | ((with_reducible refine gate_dst (N := 10) rfl ?_); refine mBx 10 #[.int .i64 0, .int .i64 0] 31 ?_; intro gb273 hg w39 hbox hb; replace HO_6 := mS (Kd.R_below (Kd.R_elderB (mR HO_6.out) gb273 (Nat.le_of_eq hg.symm)) hb); replace HO_7 := mS (Kd.Q_below (Kd.Q_elderB (mQd HO_7.out) gb273 (Nat.le_of_eq hg.symm)) hb); have BK273 := mS (hbox); have GW273 := mG hg (mH2 HB.out GE261.out GE262.out); have GE273 := mG hg (mH2 HB.out GE261.out GE262.out); replace HB := mS (below_step (mH2 HB.out GE261.out GE262.out) hb); have NB261_273 := mNl hg BK261.out; have NB273_261 := mNg hg BK261.out; replace BK261 := mB BK261 hb; have NB262_273 := mNl hg BK262.out; have NB273_262 := mNg hg BK262.out; replace BK262 := mB BK262 hb; clear hb hbox hg; have hnb40 := NB273_261.out; have hnc40 := NB261_273.out; have hnb41 := NB273_262.out; have hnc41 := NB262_273.out; obtain ⟨hcz42_0, hcz42_1, hfz42_0, hfz42_1⟩ := mZ2 BK273.out; obtain ⟨Ao43, co43, eo43⟩ := Kd.R_slice HO_6.out; subst eo43) | ((with_reducible refine gate_callee (f := 61) rfl ?_); refine mGo 38 Try.func61 #[.slice Ao43 x6_2.length co43, .agg #[.int .i64 ((rd_T31 ((rd_T33 l0_0 t267).f1) x32_2).f0), .int .i64 ((rd_T31 ((rd_T33 l0_0 t267).f1) x32_2).f1)]] ?_; (with_reducible refine (impl_hasDot.calls k2 _ _ x6_2 ((rd_T31 ((rd_T33 l0_0 t267).f1) x32_2).f0) ((rd_T31 ((rd_T33 l0_0 t267).f1) x32_2).f1) false _ ?side1 ?side2 A29.out).mono ?_); (case side1 => refine (Kd.R_reads' (e := 31) (base := w.heap.size) (ok := fun k_ => ((some k_ ≠ (u7 : Value).ownBlock ∧ k_ ≠ gb262) ∧ k_ ≠ gb273)) (n := x6_2.length) (c := co43) ?_).2.2; exact (by refine mR ?_; exact (Kd.R_mono (mRf2 (Kd.R_mono HO_6.out (fun k_ hk => (⟨hk, hk.2⟩ : _ ∧ k_ ≠ gb273)))) (fun _ h_ => h_.1)))); (case side2 => exact (Kd.R_reads' HO_6.out).2.1); rintro e w44 ⟨rfl, hb⟩; refine ⟨_, rfl, ?_⟩; replace HO_6 := mS (Kd.R_below (by refine mR ?_; exact (Kd.R_mono (mRf2 (Kd.R_mono HO_6.out (fun k_ hk => (⟨hk, hk.2⟩ : _ ∧ k_ ≠ gb273)))) (fun _ h_ => h_.1))) hb); replace HO_7 := mS (Kd.Q_below (by refine mQd ?_; exact (Kd.Q_mono (Kd.Q_far (p := ⟨gb273, 1, none⟩) (Kd.Q_far (p := ⟨gb273, 0, none⟩) (Kd.Q_mono HO_7.out (fun k_ hk => (⟨hk, hk.2⟩ : _ ∧ k_ ≠ gb273))) (fun _ hk => hk.2) (.int .i64 ((rd_T31 ((rd_T33 l0_0 t267).f1) x32_2).f0))) (fun _ hk => hk.2) (.int .i64 ((rd_T31 ((rd_T33 l0_0 t267).f1) x32_2).f1))) (fun _ h_ => h_.1))) hb); replace BK261 := mS (blk_below (g := gb261) (o := .cells #[.slice (some ad271) l0_0.length c0_0] 26 (0, 0)) (mKf NB261_273.out BK261.out) hb); replace BK262 := mS (blk_below (g := gb262) (o := .cells #[.int .i64 a1_0, .int .i64 a1_1] 31 (0, 0)) (mKf NB262_273.out BK262.out) hb); replace BK273 := mS (blk_below (g := gb273) (o := .cells #[.int .i64 ((rd_T31 ((rd_T33 l0_0 t267).f1) x32_2).f0), .int .i64 ((rd_T31 ((rd_T33 l0_0 t267).f1) x32_2).f1)] 31 (0, 0)) (by refine mK ?_; refine blk_put (cs := #[.int .i64 ((rd_T31 ((rd_T33 l0_0 t267).f1) x32_2).f0), .int .i64 0]) ?_ 1 _ rfl; refine mK ?_; refine blk_put (cs := #[.int .i64 0, .int .i64 0]) ?_ 0 _ rfl; refine mK ?_; exact BK273.out) hb); replace HB := mS (below_step (mH3 HB.out GE261.out GE262.out GE273.out) hb); (try clear hb); obtain ⟨hcz45_0, hcz45_1, hfz45_0, hfz45_1⟩ := mZ2 BK273.out) | ((with_reducible refine gate_builtin (b := .append) (xs := #[.tmp 40, .tmp 42]) rfl ?_); at_builtin; refine Kd.R_append k31 (w0 := w) w.heap.size rfl (.tmp 40) (.tmp 42) 28 31 (.agg #[(.int .i64 0), (.int .i64 0)]) 16 rfl Try.underlying28 info31 rfl (by decide) (by omega) (.slice Ao43 x6_2.length co43) x6_2 (⟨(rd_T31 ((rd_T33 l0_0 t267).f1) x32_2).f0, (rd_T31 ((rd_T33 l0_0 t267).f1) x32_2).f1⟩ : S31) [.int .i64 ((rd_T31 ((rd_T33 l0_0 t267).f1) x32_2).f0), .int .i64 ((rd_T31 ((rd_T33 l0_0 t267).f1) x32_2).f1)] (fun k_ => some k_ ≠ (u7 : Value).ownBlock ∧ k_ ≠ gb262 ∧ k_ ≠ gb273) (fun _ => False) rfl rfl ?aP (fun _ hk => hk.elim) ?aF ?aO ?aB ?aS ?aL ?_; (case aP => exact k31_mkM _ _ _ (⟨(rd_T31 ((rd_T33 l0_0 t267).f1) x32_2).f0, (rd_T31 ((rd_T33 l0_0 t267).f1) x32_2).f1⟩ : S31)); (case aB => exact (mH3 HB.out GE261.out GE262.out GE273.out)); (case aF => exact (fun k_ hk => ⟨Kd.fresh' (Kd.Q_lt (mQd HO_7.out)) k_ hk, Kd.freshB (g := gb262) (o := .cells #[.int .i64 a1_0, .int .i64 a1_1] 31 (0, 0)) (mK BK262.out) k_ hk, Kd.freshB (g := gb273) (o := .cells #[.int .i64 ((rd_T31 ((rd_T33 l0_0 t267).f1) x32_2).f0), .int .i64 ((rd_T31 ((rd_T33 l0_0 t267).f1) x32_2).f1)] 31 (0, 0)) (mK BK273.out) k_ hk⟩)); (case aO => exact (by refine mR ?_; exact Kd.R_mono HO_6.out (fun _ hk => ⟨hk.1.1, ⟨hk.1.2, hk.2⟩⟩))); (case aS => exact (below_size (mH3 HB.out GE261.out GE262.out GE273.out))); (case aL => have := LMc37.out; omega); intro v276 w46 ho hb hg hat; rw [← Ny275.out] at ho; replace HO_7 := mS (Kd.Q_after (ok := (fun k_ => k_ ≠ gb262 ∧ k_ ≠ gb273)) (by refine mQd ?_; exact Kd.Q_mono HO_7.out (fun _ hk => ⟨⟨hk.1.2, hk.2⟩, hk.1.1⟩)) hg hat); replace BK261 := mS (blk_grown (g := gb261) (o := .cells #[.slice (some ad271) l0_0.length c0_0] 26 (0, 0)) (mK BK261.out) hg (Kd.R_ne HO_6.out BK261.out (by decide))); replace BK262 := mS (blk_grown (g := gb262) (o := .cells #[.int .i64 a1_0, .int .i64 a1_1] 31 (0, 0)) (mK BK262.out) hg (Kd.R_away HO_6.out (fun _ hk => hk.1.2))); replace BK273 := mS (blk_grown (g := gb273) (o := .cells #[.int .i64 ((rd_T31 ((rd_T33 l0_0 t267).f1) x32_2).f0), .int .i64 ((rd_T31 ((rd_T33 l0_0 t267).f1) x32_2).f1)] 31 (0, 0)) (mK BK273.out) hg (Kd.R_away HO_6.out (fun _ hk => hk.2))); replace HB := mS (hb); have HO277 := mS (ho); clear HO_6; clear ho hb hg hat; obtain ⟨hcz47_0, hcz47_1, hfz47_0, hfz47_1⟩ := mZ2 BK273.out) | ((with_reducible refine gate_builtin (b := .append) (xs := #[.tmp 44, .tmp 46]) rfl ?_); at_builtin; refine Kd.Q_append k31 (w0 := w) w.heap.size rfl (.tmp 44) (.tmp 46) 28 31 (.agg #[(.int .i64 0), (.int .i64 0)]) 16 rfl Try.underlying28 info31 rfl (by decide) (by omega) u7 x7_2 (⟨(rd_T31 ((rd_T33 l0_0 t267).f1) x32_2).f0, (rd_T31 ((rd_T33 l0_0 t267).f1) x32_2).f1⟩ : S31) [.int .i64 ((rd_T31 ((rd_T33 l0_0 t267).f1) x32_2).f0), .int .i64 ((rd_T31 ((rd_T33 l0_0 t267).f1) x32_2).f1)] (fun k_ => some k_ ≠ (v276 : Value).ownBlock ∧ k_ ≠ gb262 ∧ k_ ≠ gb273) (fun _ => False) rfl rfl ?aP (fun _ hk => hk.elim) ?aF ?aO ?aB ?aS ?aL ?_; (case aP => exact k31_mkM _ _ _ (⟨(rd_T31 ((rd_T33 l0_0 t267).f1) x32_2).f0, (rd_T31 ((rd_T33 l0_0 t267).f1) x32_2).f1⟩ : S31)); (case aB => exact (mH3 HB.out GE261.out GE262.out GE273.out)); (case aF => exact (fun k_ hk => ⟨Kd.fresh' (Kd.R_lt (mR HO277.out)) k_ hk, Kd.freshB (g := gb262) (o := .cells #[.int .i64 a1_0, .int .i64 a1_1] 31 (0, 0)) (mK BK262.out) k_ hk, Kd.freshB (g := gb273) (o := .cells #[.int .i64 ((rd_T31 ((rd_T33 l0_0 t267).f1) x32_2).f0), .int .i64 ((rd_T31 ((rd_T33 l0_0 t267).f1) x32_2).f1)] 31 (0, 0)) (mK BK273.out) k_ hk⟩)); (case aO => exact (by refine mQd ?_; exact Kd.Q_mono HO_7.out (fun _ hk => ⟨hk.2, ⟨hk.1.1, hk.1.2⟩⟩))); (case aS => exact (below_size (mH3 HB.out GE261.out GE262.out GE273.out))); (case aL => have := LMc38.out; omega); intro v279 w48 ho hb hg hat; rw [← Ny278.out] at ho; replace BK261 := mS (blk_grown (g := gb261) (o := .cells #[.slice (some ad271) l0_0.length c0_0] 26 (0, 0)) (mK BK261.out) hg (Kd.Q_ne HO_7.out BK261.out (by decide))); replace BK262 := mS (blk_grown (g := gb262) (o := .cells #[.int .i64 a1_0, .int .i64 a1_1] 31 (0, 0)) (mK BK262.out) hg (Kd.Q_away HO_7.out (fun _ hk => hk.1.1))); replace BK273 := mS (blk_grown (g := gb273) (o := .cells #[.int .i64 ((rd_T31 ((rd_T33 l0_0 t267).f1) x32_2).f0), .int .i64 ((rd_T31 ((rd_T33 l0_0 t267).f1) x32_2).f1)] 31 (0, 0)) (mK BK273.out) hg (Kd.Q_away HO_7.out (fun _ hk => hk.1.2))); replace HO277 := mS (Kd.R_after (ok := (fun k_ => k_ ≠ gb262 ∧ k_ ≠ gb273)) (by refine mR ?_; exact Kd.R_mono HO277.out (fun _ hk => ⟨⟨hk.2.1, hk.2.2⟩, hk.1⟩)) hg hat); replace HB := mS (hb); have HO280 := mS (ho); clear HO_7; clear ho hb hg hat))
                 go_roundg k2
                 case measure => have := HK1.out; have := HK2.out; omega
                 case rel => exact ⟨(y275), (y278), (wrap64 (x32_2 + 1)), mE, H', ⟨by have := HK1.out; have := HK2.out; omega⟩, ⟨by refine mR ?_; exact Kd.R_mono HO277.out (fun _ hk => ⟨hk.2, hk.1.1⟩)⟩, ⟨by refine mQd ?_; exact Kd.Q_mono HO280.out (fun _ hk => ⟨hk.1, hk.2.1⟩)⟩, ⟨mK BK261.out⟩, ⟨mK BK262.out⟩, ⟨(mH3 HB.out GE261.out GE262.out GE273.out)⟩⟩
                ·rw [if_neg c38] at H
                 exact absurd H (by simp)
               ·rw [if_neg c37] at H
                exact absurd H (by simp)
             ·rw [if_neg c28] at H
              exact absurd H (by simp)
            ·rw [if_neg c27] at H
             exact absurd H (by simp)
           ·rw [if_neg c26] at H
            have c26b0 := decide_eq_false c26
            clear c26
            have H' := mS H
            clear H
            go_wp2
            go_roundg k2
            case measure => have := HK1.out; have := HK2.out; omega
            case rel => exact ⟨(x6_2), (x7_2), H', ⟨by have := HK1.out; have := HK2.out; omega⟩, ⟨mR HO_6.out⟩, ⟨mQd HO_7.out⟩, ⟨mK BK261.out⟩, ⟨mK BK262.out⟩, ⟨(mH2 HB.out GE261.out GE262.out)⟩⟩
        ·rw [if_neg c19] at H
         exact absurd H (by simp)
       ·rw [if_neg c18] at H
        exact absurd H (by simp)
     ·rw [if_neg c12] at H
      exact absurd H (by simp)
    ·rw [if_neg c10] at H
     exact absurd H (by simp)
   ·rw [if_neg c9] at H
    have c9b0 : decide (0 < (x7_1.length : Int)) = false := decide_eq_false c9
    have c9b1 : decide (0 < x7_1.length) = false := decide_eq_false (by omega)
    clear c9
    simp only [Option.some.injEq, Prod.mk.injEq] at H
    obtain ⟨rfl, rfl⟩ := H
    obtain ⟨Ao49, co49, eo49, _⟩ := Kd.Q_slice HO_7.out
    subst eo49
    go_wp2
    go_ret2
    exact ⟨_, mEw, by refine mR ?_; exact Kd.R_mono HO_6.out (fun _ hk => trivial), (mH2 HB.out GE261.out GE262.out)⟩

/-! ### impl_copyDots: function 65 -/
def impl_copyDots.f (l0 : List (S31)) : Option ((List (S31))) := if ([] : List (S31)).length + l0.length < 8796093022208 then (some (([] : List (S31)) ++ l0)) else (none)
set_option maxHeartbeats 8000000 in
set_option maxRecDepth 100000 in
theorem impl_copyDots.calls (A0 : Option Addr) (c0 : Nat) (l0 : List (S31)) (r : List (S31)) (w : World) (hr0 : Kd.C k31 w A0 l0.length l0) (hc0 : l0.length ≤ c0) (h : impl_copyDots.f l0 = some r) :
  Calls Try.prog 65 #[.slice A0 l0.length c0] w fun e w' => ∃ v0_ : Value, e = .returned (v0_) ∧ Kd.R k31 31 w' w.heap.size (fun _ => True) v0_ r ∧ Below w.heap.size w w' := by
 have HR0 := mS hr0
 have HC0 := mS hc0
 clear hr0 hc0
 have HB := mS (Below.refl w.heap.size w)
 have H : (if ([] : List (S31)).length + l0.length < 8796093022208 then (some (([] : List (S31)) ++ l0)) else (none)) = some r := h
 clear h
 by_cases c2 : ([] : List (S31)).length + l0.length < 8796093022208
 ·rw [if_pos c2] at H
  have LMc2 := mS c2
  clear c2
  obtain ⟨y281, hy281⟩ : ∃ y_ : List (S31), y_ = (([] : List (S31)) ++ l0) := ⟨_, rfl⟩
  replace H : (some y281) = some r := by first | (rw [hy281]; with_reducible exact H) | (have H2_ := (Option.bind_some _ _).symm.trans H; rw [hy281]; with_reducible exact H2_) | (have H2_ := (Option.bind_some _ _).symm.trans H; with_reducible exact H2_) | with_reducible exact H | (rw [hy281]; exact H) | exact H
  have Ny281 := mS hy281
  clear hy281
  obtain rfl := Option.some.inj H
  go_enter Try.func65, Try.ntmps65
  go_wp2_with (first | ((with_reducible refine gate_builtin (b := .append) (xs := #[.const (.slice none 0 0), .tmp 3]) rfl ?_); at_builtin; refine Kd.R_append_rows k31 (w0 := w) w.heap.size rfl (.const (.slice none 0 0)) (.tmp 3) 28 31 (.agg #[(.int .i64 0), (.int .i64 0)]) 16 rfl Try.underlying28 info31 rfl (by decide) (by omega) (.slice none 0 0) ([] : List (S31)) l0 _ _ _ (fun _ => True) (fun _ => False) rfl rfl ?aO ?aR (fun _ _ h => h) (fun _ h => h.elim) ?aF ?aB ?aS ?aL ?_; (case aR => exact mC HR0.out); (case aB => exact (mH HB.out)); (case aF => exact (fun _ _ => trivial)); (case aO => exact ((Kd.R_nil _ _ _ _ (fun _ => True)))); (case aS => exact (below_size (mH HB.out))); (case aL => have := LMc2.out; omega); intro v282 w3 ho hb hg hat; rw [← Ny281.out] at ho; replace HB := mS (hb); have HO283 := mS (ho); clear ho hb hg hat))
  go_ret
  exact ⟨_, mEw, mR HO283.out, (mH HB.out)⟩
 ·rw [if_neg c2] at H
  exact absurd H (by simp)

end Go.Proofs.Ytgbejjeephipeaa.MFnStable
