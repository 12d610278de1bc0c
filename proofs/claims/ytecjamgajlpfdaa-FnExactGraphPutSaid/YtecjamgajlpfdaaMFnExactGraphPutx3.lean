-- Written by mp.py, this session's own printer (wip/mp.py).
import Derived.Test.YtecjamgajlpfdaaVMShort
import Derived.Test.YtecjamgajlpfdaaMFnExactGraphPutx0
import Derived.Test.YtecjamgajlpfdaaMFnExactGraphPutx2
namespace Go.Proofs.Ytecjamgajlpfdaa.MFnExactGraphPut
open Go.RowKit Go.Proofs.YtecjamgajlpfdaaW.PrintWords Go.Proofs.YtecjamgajlpfdaaW.PrintLast Go.Proofs.YtecjamgajlpfdaaW.PrintMore Go.Proofs.Ytecjamgajlpfdaa.MWords
attribute [local go_sem] max2_int min2_int max_two min_two max_three min_three max_four min_four   -- for this text's walks alone
set_option linter.unusedVariables false
set_option linter.unusedSimpArgs false

/-! ### spec_l8Item: function 91 -/
mutual
def spec_l8Item.j0 : Nat → Bool → Int → Int → List (S56) → Option (Bool)
 | 0, _, _, _, _ => none
 | k + 1, x20, x126000, x126001, x126002 => if x20 = true then (some false) else (spec_l8Item.l0 k 0 x126000 x126001 x126002)
def spec_l8Item.l0 : Nat → Int → Int → Int → List (S56) → Option (Bool)
 | 0, _, _, _, _ => none
 | k + 1, x3, x126000, x126001, x126002 => if x3 < (x126002.length : Int) then (if 0 ≤ x3 then ((spec_DotOk.f ((rd_T56 x126002 x3).f0) ((rd_T56 x126002 x3).f1)).bind fun t129 => (if t129 = true then (if x3 > 0 then (if 0 ≤ (wrap64 (x3 - 1)) then (if (wrap64 (x3 - 1)) < (x126002.length : Int) then ((spec_DotLess.f ((rd_T56 x126002 (wrap64 (x3 - 1))).f0) ((rd_T56 x126002 (wrap64 (x3 - 1))).f1) ((rd_T56 x126002 x3).f0) ((rd_T56 x126002 x3).f1)).bind fun t132 => (if t132 = true then (spec_l8Item.l0 k (wrap64 (x3 + 1)) x126000 x126001 x126002) else (some false))) else (none)) else (none)) else (spec_l8Item.l0 k (wrap64 (x3 + 1)) x126000 x126001 x126002)) else (some false))) else (none)) else (some true)
end
def spec_l8Item.f (k : Nat) (a0_0 : Int) (a0_1 : Int) (l0_2 : List (S56)) : Option (Bool) := (spec_DotOk.f a0_0 a0_1).bind fun t126 => (if t126 = true then (if (l0_2.length : Int) > 60 then (spec_l8Item.j0 k true a0_0 a0_1 l0_2) else ((spec_l8Has.f k l0_2 a0_0 a0_1).bind fun t127 => (spec_l8Item.j0 k t127 a0_0 a0_1 l0_2))) else (spec_l8Item.j0 k true a0_0 a0_1 l0_2))
theorem spec_l8Item.mono_l : ∀ k, (∀ y0 y1 y2 y3, LeO (spec_l8Item.j0 k y0 y1 y2 y3) (spec_l8Item.j0 (k + 1) y0 y1 y2 y3)) ∧ (∀ y0 y1 y2 y3, LeO (spec_l8Item.l0 k y0 y1 y2 y3) (spec_l8Item.l0 (k + 1) y0 y1 y2 y3))
 | 0 => ⟨fun _ _ _ _ r h => by simp [spec_l8Item.j0] at h, fun _ _ _ _ r h => by simp [spec_l8Item.l0] at h⟩
 | k + 1 => by
  obtain ⟨ih0, ih1⟩ := spec_l8Item.mono_l k
  refine ⟨?_, ?_⟩
  ·intro y0 y1 y2 y3
   unfold spec_l8Item.j0
   repeat' first
   | (with_reducible exact ih0 _ _ _ _)
   | (with_reducible exact ih1 _ _ _ _)
   | (with_reducible exact spec_l8Has.mono _ _ _ _)
   | (with_reducible exact LeO.refl _)
   | (with_reducible exact LeO.none _)
   | (with_reducible refine LeO.ite ?_ ?_)
   | (with_reducible refine LeO.bind ?_ (fun _ => ?_))
   | exact ih0 _ _ _ _
   | exact ih1 _ _ _ _
   | exact spec_l8Has.mono _ _ _ _
   | exact LeO.none _
   | refine LeO.ite ?_ ?_
   | refine LeO.bind ?_ (fun _ => ?_)
  ·intro y0 y1 y2 y3
   unfold spec_l8Item.l0
   repeat' first
   | (with_reducible exact ih0 _ _ _ _)
   | (with_reducible exact ih1 _ _ _ _)
   | (with_reducible exact spec_l8Has.mono _ _ _ _)
   | (with_reducible exact LeO.refl _)
   | (with_reducible exact LeO.none _)
   | (with_reducible refine LeO.ite ?_ ?_)
   | (with_reducible refine LeO.bind ?_ (fun _ => ?_))
   | exact ih0 _ _ _ _
   | exact ih1 _ _ _ _
   | exact spec_l8Has.mono _ _ _ _
   | exact LeO.none _
   | refine LeO.ite ?_ ?_
   | refine LeO.bind ?_ (fun _ => ?_)
theorem spec_l8Item.mono : ∀ a0 a1 a2 k, LeO (spec_l8Item.f k a0 a1 a2) (spec_l8Item.f (k + 1) a0 a1 a2) := by
 intro a0 a1 a2 k
 obtain ⟨ih0, ih1⟩ := spec_l8Item.mono_l k
 unfold spec_l8Item.f
 repeat' first
   | (with_reducible exact ih0 _ _ _ _)
   | (with_reducible exact ih1 _ _ _ _)
   | (with_reducible exact spec_l8Has.mono _ _ _ _)
   | (with_reducible exact LeO.refl _)
   | (with_reducible exact LeO.none _)
   | (with_reducible refine LeO.ite ?_ ?_)
   | (with_reducible refine LeO.bind ?_ (fun _ => ?_))
   | exact ih0 _ _ _ _
   | exact ih1 _ _ _ _
   | exact spec_l8Has.mono _ _ _ _
   | exact LeO.none _
   | refine LeO.ite ?_ ?_
   | refine LeO.bind ?_ (fun _ => ?_)
def spec_l8Item.T6 : Bool × List (List Nat × List Nat) := (true, [([], []), ([0], [0]), ([], []), ([1, 2], [1, 2]), ([3], [3]), ([4], [4]), ([5], [5]), ([6, 5], [6]), ([7], [7]), ([8, 7], [7, 8]), ([9, 7, 7], [7, 9]), ([10], [10]), ([11, 10], [10, 11]), ([10], [10]), ([13, 10], [10, 13]), ([12, 14, 10], [10, 12, 14]), ([15, 10], [10, 15]), ([10], [10]), ([17, 10], [10, 17]), ([10], [10]), ([18, 19, 10], [10, 18, 19]), ([20, 10], [10, 20]), ([16, 21, 10, 10], [10, 16, 21]), ([22, 10], [10, 22]), ([10, 23, 7], [7, 10, 23]), ([7, 24], [7, 24])])
def spec_l8Item.B6 : List Nat := [0, 1, 0, 7, 15, 31, 63, 127, 255, 511, 1023, 2047, 4095, 2047, 10239, 32767, 65535, 2047, 133119, 2047, 919551, 1968127, 4194303, 8388607, 16777215, 33554431]
theorem spec_l8Item.tab6 : rtab .any (opsOf Try.f91 6) = spec_l8Item.T6 := by kernel_rfl
theorem spec_l8Item.bits6 : waitsOk spec_l8Item.T6.2 spec_l8Item.B6 = true := by kernel_rfl
set_option maxHeartbeats 8000000 in
set_option maxRecDepth 100000 in
theorem spec_l8Item.calls (k : Nat) (a0_0 : Int) (a0_1 : Int) (A0_2 : Option Addr) (c0_2 : Nat) (l0_2 : List (S56)) (r : Bool) (w : World) (hr0_2 : Kd.C k56 w A0_2 l0_2.length l0_2) (hc0_2 : l0_2.length ≤ c0_2) (h : spec_l8Item.f k a0_0 a0_1 l0_2 = some r) :
  Calls Try.prog 91 #[.agg #[.int .i64 a0_0, .int .i64 a0_1, .slice A0_2 l0_2.length c0_2]] w fun e w' => e = .returned (.bool r) ∧ Below w.heap.size w w' := by
 have hu59 := Try.underlying59
 have hu56 := Try.underlying56
 have HR0_2 := mS hr0_2
 have HC0_2 := mS hc0_2
 clear hr0_2 hc0_2
 have HB := mS (Below.refl w.heap.size w)
 have H : ((spec_DotOk.f a0_0 a0_1).bind fun t126 => (if t126 = true then (if (l0_2.length : Int) > 60 then (spec_l8Item.j0 k true a0_0 a0_1 l0_2) else ((spec_l8Has.f k l0_2 a0_0 a0_1).bind fun t127 => (spec_l8Item.j0 k t127 a0_0 a0_1 l0_2))) else (spec_l8Item.j0 k true a0_0 a0_1 l0_2))) = some r := h
 clear h
 have HC2 := mS H
 clear H
 go_enter Try.func91, Try.ntmps91
 go_upto_region 1 with (first | ((with_reducible refine gate_dst (N := 1) rfl ?_); (try (refine gate_guard (by rfl) ?_; dsimp only)); refine mBx 1 #[.int .i64 a0_0, .int .i64 a0_1, .slice A0_2 l0_2.length c0_2] 59 ?_; intro gb125 hg w3 hbox hb; have BK125 := mS (hbox); have GW125 := mG hg (mH HB.out); have GE125 := mG hg (mH HB.out); replace HB := mS (below_step (mH HB.out) hb); clear hb hbox hg))
 (try simp only [Act.put, zA, zB, zC])
 go_cut [20] (fun v20 wc => ∃ (kq : Nat) (x20_1 : Bool), v20 = .bool x20_1 ∧ Aside0 (spec_l8Item.j0 kq x20_1 a0_0 a0_1 l0_2 = some r) ∧ Aside0 (kq ≤ k) ∧ Aside0 (wc.heap[gb125]? = some (.cells #[.int .i64 a0_0, .int .i64 a0_1, (.slice A0_2 l0_2.length c0_2)] 59 (0, 0))) ∧ Aside0 (Below w.heap.size w wc))
 case first =>
  have H := HC2.out
  clear HC2
  replace H := Option.bind_eq_some_iff.mp H
  obtain ⟨t126, A40, H⟩ := H
  replace H : (if t126 = true then (if (l0_2.length : Int) > 60 then (spec_l8Item.j0 k true a0_0 a0_1 l0_2) else ((spec_l8Has.f k l0_2 a0_0 a0_1).bind fun t127 => (spec_l8Item.j0 k t127 a0_0 a0_1 l0_2))) else (spec_l8Item.j0 k true a0_0 a0_1 l0_2)) = some r := H
  have A4 := mS A40
  clear A40
  by_cases c5 : t126 = true
  ·subst c5
   have H1 := H
   rw [if_pos rfl] at H1
   clear H
   have H := H1
   clear H1
   by_cases c6 : (l0_2.length : Int) > 60
   ·rw [if_pos c6] at H
    have c6b0 : decide (60 < (l0_2.length : Int)) = true := decide_eq_true c6
    have c6b1 : decide (60 < l0_2.length) = true := decide_eq_true (by omega)
    clear c6
    (first | rw [c6b0] | (simp only [i64_w, i32_w]; rw [c6b0]) | skip)
    have H' := mS H
    clear H
    obtain ⟨hcz7_0, hcz7_1, hcz7_2, hfz7_0, hfz7_1, hfz7_2⟩ := mZ3 BK125.out
    go_wp2_with (first | ((with_reducible refine gate_callee (f := 103) rfl ?_); refine mGo 6 Try.func103 #[.agg #[.int .i64 a0_0, .int .i64 a0_1]] ?_; (with_reducible refine (spec_DotOk.calls a0_0 a0_1 true _ A4.out).mono ?_); rintro e w8 ⟨rfl, hb⟩; refine ⟨_, rfl, ?_⟩; replace BK125 := mB BK125 hb; replace HB := mS (below_step (mH1 HB.out GE125.out) hb); (try clear hb); obtain ⟨hcz9_0, hcz9_1, hcz9_2, hfz9_0, hfz9_1, hfz9_2⟩ := mZ3 BK125.out))
    go_meet
    case rel => exact ⟨_, (true), mE, H', ⟨by first | omega | exact Nat.le_refl _⟩, ⟨mK BK125.out⟩, ⟨(mH1 HB.out GE125.out)⟩⟩
   ·rw [if_neg c6] at H
    have c6b0 : decide (60 < (l0_2.length : Int)) = false := decide_eq_false c6
    have c6b1 : decide (60 < l0_2.length) = false := decide_eq_false (by omega)
    clear c6
    (first | rw [c6b0] | (simp only [i64_w, i32_w]; rw [c6b0]) | skip)
    replace H := Option.bind_eq_some_iff.mp H
    obtain ⟨t127, A100, H⟩ := H
    replace H : (spec_l8Item.j0 k t127 a0_0 a0_1 l0_2) = some r := H
    have A10 := mS A100
    clear A100
    have H' := mS H
    clear H
    obtain ⟨hcz11_0, hcz11_1, hcz11_2, hfz11_0, hfz11_1, hfz11_2⟩ := mZ3 BK125.out
    go_wp2_with (first | ((with_reducible refine gate_callee (f := 103) rfl ?_); refine mGo 6 Try.func103 #[.agg #[.int .i64 a0_0, .int .i64 a0_1]] ?_; (with_reducible refine (spec_DotOk.calls a0_0 a0_1 true _ A4.out).mono ?_); rintro e w12 ⟨rfl, hb⟩; refine ⟨_, rfl, ?_⟩; replace BK125 := mB BK125 hb; replace HB := mS (below_step (mH1 HB.out GE125.out) hb); (try clear hb); obtain ⟨hcz13_0, hcz13_1, hcz13_2, hfz13_0, hfz13_1, hfz13_2⟩ := mZ3 BK125.out) | (go_at_call 104; (with_reducible refine (spec_l8Has.calls k _ _ l0_2 a0_0 a0_1 t127 _ ?side1 ?side2 A10.out).mono ?_); (case side1 => exact mC (Kd.C_below HR0_2.out HB.out)); (case side2 => exact HC0_2.out); rintro e w14 ⟨rfl, hb⟩; replace BK125 := mB BK125 hb; replace HB := mS (below_step (mH1 HB.out GE125.out) hb); (try clear hb); (try clear hb2); (try clear hk); (try clear hi)))
    go_meet
    case rel => exact ⟨_, (t127), mE, H', ⟨by first | omega | exact Nat.le_refl _⟩, ⟨mK BK125.out⟩, ⟨(mH1 HB.out GE125.out)⟩⟩
  ·replace c5 := Bool.eq_false_iff.mpr c5
   subst c5
   have H1 := H
   rw [if_neg (show ¬ (false = true) by decide)] at H1
   clear H
   have H := H1
   clear H1
   have H' := mS H
   clear H
   obtain ⟨hcz15_0, hcz15_1, hcz15_2, hfz15_0, hfz15_1, hfz15_2⟩ := mZ3 BK125.out
   go_wp2_with (first | ((with_reducible refine gate_callee (f := 103) rfl ?_); refine mGo 6 Try.func103 #[.agg #[.int .i64 a0_0, .int .i64 a0_1]] ?_; (with_reducible refine (spec_DotOk.calls a0_0 a0_1 false _ A4.out).mono ?_); rintro e w16 ⟨rfl, hb⟩; refine ⟨_, rfl, ?_⟩; replace BK125 := mB BK125 hb; replace HB := mS (below_step (mH1 HB.out GE125.out) hb); (try clear hb)))
   go_meet
   case rel => exact ⟨_, (true), mE, H', ⟨by first | omega | exact Nat.le_refl _⟩, ⟨mK BK125.out⟩, ⟨(mH1 HB.out GE125.out)⟩⟩
 case rest =>
  clear HC2
  try clear c1
  try clear p2
  try clear c5
  try clear c6
  try clear c6b0
  try clear c6b1
  try clear c9
  try clear c10
  try clear hcz11_0
  try clear hcz11_1
  try clear hcz11_2
  try clear hcz13_0
  try clear hcz13_1
  try clear hcz13_2
  try clear hcz15_0
  try clear hcz15_1
  try clear hcz15_2
  try clear hcz7_0
  try clear hcz7_1
  try clear hcz7_2
  try clear hcz9_0
  try clear hcz9_1
  try clear hcz9_2
  try clear hfz11_0
  try clear hfz11_1
  try clear hfz11_2
  try clear hfz13_0
  try clear hfz13_1
  try clear hfz13_2
  try clear hfz15_0
  try clear hfz15_1
  try clear hfz15_2
  try clear hfz7_0
  try clear hfz7_1
  try clear hfz7_2
  try clear hfz9_0
  try clear hfz9_1
  try clear hfz9_2
  obtain ⟨kq, x20_1, rfl, HA, HJ1, BK125, HB⟩ := hcut
  cases kq with
  | zero => exact absurd HA.out (by simp [spec_l8Item.j0])
  | succ kj1 =>
   have H := HA.out
   clear HA
   simp only [spec_l8Item.j0] at H
   by_cases c17 : x20_1 = true
   ·subst c17
    have H1 := H
    rw [if_pos rfl] at H1
    clear H
    have H := H1
    clear H1
    obtain rfl := Option.some.inj H
    go_wp2
    go_ret
    exact ⟨mEw, (mH1 HB.out GE125.out)⟩
   ·replace c17 := Bool.eq_false_iff.mpr c17
    subst c17
    have H1 := H
    rw [if_neg (show ¬ (false = true) by decide)] at H1
    clear H
    have H := H1
    clear H1
    have H' := mS H
    clear H
    go_wp2
    go_loopg [3] kj1 (fun kq v3 w' => ∃ (x3_2 : Int), v3 = .int .i64 x3_2 ∧ Aside0 (spec_l8Item.l0 kq x3_2 a0_0 a0_1 l0_2 = some r) ∧ Aside0 (kq ≤ kj1) ∧ Aside0 (w'.heap[gb125]? = some (.cells #[.int .i64 a0_0, .int .i64 a0_1, (.slice A0_2 l0_2.length c0_2)] 59 (0, 0))) ∧ Aside0 (Below w.heap.size w w'))
    case atStart => exact ⟨(0), mE, H', ⟨Nat.le_refl _⟩, ⟨mK BK125.out⟩, ⟨(mH1 HB.out GE125.out)⟩⟩
    case round =>
     clear H'
     try clear c1
     try clear p2
     try clear c5
     try clear c6
     try clear c6b0
     try clear c6b1
     try clear c9
     try clear c10
     try clear c17
     try clear hcz11_0
     try clear hcz11_1
     try clear hcz11_2
     try clear hcz13_0
     try clear hcz13_1
     try clear hcz13_2
     try clear hcz15_0
     try clear hcz15_1
     try clear hcz15_2
     try clear hcz7_0
     try clear hcz7_1
     try clear hcz7_2
     try clear hcz9_0
     try clear hcz9_1
     try clear hcz9_2
     try clear hfz11_0
     try clear hfz11_1
     try clear hfz11_2
     try clear hfz13_0
     try clear hfz13_1
     try clear hfz13_2
     try clear hfz15_0
     try clear hfz15_1
     try clear hfz15_2
     try clear hfz7_0
     try clear hfz7_1
     try clear hfz7_2
     try clear hfz9_0
     try clear hfz9_1
     try clear hfz9_2
     try clear p2
     obtain ⟨x3_2, rfl, HA, HK2, BK125, HB⟩ := hrel
     cases gk with
     | zero => exact absurd HA.out (by simp [spec_l8Item.l0])
     | succ k2 =>
      have H := HA.out
      clear HA
      simp only [spec_l8Item.l0] at H
      by_cases c18 : x3_2 < (l0_2.length : Int)
      ·rw [if_pos c18] at H
       have c18b0 := decide_eq_true c18
       clear c18
       by_cases c19 : 0 ≤ x3_2
       ·rw [if_pos c19] at H
        have c19b0 := decide_eq_true c19
        clear c19
        replace H := Option.bind_eq_some_iff.mp H
        obtain ⟨t129, A200, H⟩ := H
        replace H : (if t129 = true then (if x3_2 > 0 then (if 0 ≤ (wrap64 (x3_2 - 1)) then (if (wrap64 (x3_2 - 1)) < (l0_2.length : Int) then ((spec_DotLess.f ((rd_T56 l0_2 (wrap64 (x3_2 - 1))).f0) ((rd_T56 l0_2 (wrap64 (x3_2 - 1))).f1) ((rd_T56 l0_2 x3_2).f0) ((rd_T56 l0_2 x3_2).f1)).bind fun t132 => (if t132 = true then (spec_l8Item.l0 k2 (wrap64 (x3_2 + 1)) a0_0 a0_1 l0_2) else (some false))) else (none)) else (none)) else (spec_l8Item.l0 k2 (wrap64 (x3_2 + 1)) a0_0 a0_1 l0_2)) else (some false)) = some r := H
        have A20 := mS A200
        clear A200
        by_cases c21 : t129 = true
        ·subst c21
         have H1 := H
         rw [if_pos rfl] at H1
         clear H
         have H := H1
         clear H1
         by_cases c22 : x3_2 > 0
         ·rw [if_pos c22] at H
          have c22b0 : decide (0 < x3_2) = true := decide_eq_true c22
          clear c22
          obtain ⟨ji23, hji23⟩ : ∃ j_ : Int, (wrap64 (x3_2 - 1)) = j_ := ⟨_, rfl⟩
          replace H : (if 0 ≤ (ji23) then (if (ji23) < (l0_2.length : Int) then ((spec_DotLess.f ((rd_T56 l0_2 (ji23)).f0) ((rd_T56 l0_2 (ji23)).f1) ((rd_T56 l0_2 x3_2).f0) ((rd_T56 l0_2 x3_2).f1)).bind fun t132 => (if t132 = true then (spec_l8Item.l0 k2 (wrap64 (x3_2 + 1)) a0_0 a0_1 l0_2) else (some false))) else (none)) else (none)) = some r := by first | (rw [hji23] at H; exact H) | (simp only [hji23] at H ⊢; exact H)
          (try rw [hji23] at A20)
          have hji23w : (IntKind.i64.wrap (x3_2 - 1)) = ji23 := (i64_w _).trans hji23
          by_cases c24 : 0 ≤ (ji23)
          ·rw [if_pos c24] at H
           have c24b0 := decide_eq_true c24
           clear c24
           by_cases c25 : (ji23) < (l0_2.length : Int)
           ·rw [if_pos c25] at H
            have c25b0 := decide_eq_true c25
            clear c25
            replace H := Option.bind_eq_some_iff.mp H
            obtain ⟨t132, A260, H⟩ := H
            replace H : (if t132 = true then (spec_l8Item.l0 k2 (wrap64 (x3_2 + 1)) a0_0 a0_1 l0_2) else (some false)) = some r := H
            have A26 := mS A260
            clear A260
            by_cases c27 : t132 = true
            ·subst c27
             have H1 := H
             rw [if_pos rfl] at H1
             clear H
             have H := H1
             clear H1
             have H' := mS H
             clear H
             obtain ⟨hcz28_0, hcz28_1, hcz28_2, hfz28_0, hfz28_1, hfz28_2⟩ := mZ3 BK125.out
             try go_wp2
             replace BK125 := mS (blk_drew BK125.out)
             replace HB := mS (below_drew1 HB.out)
             have p128 : 0 ≤ (x3_2 : Int) := mD
             have q128 : x3_2 < (l0_2.length : Int) := mD
             obtain ⟨ad128, e128, hx128_0, hx128_1⟩ := at_T56 HR0_2.out x3_2 p128 q128
             have hw128_1 := hx128_1
             have hw128_0 := hx128_0
             cases e128
             replace hx128_0 := mX HB.out hx128_0
             replace hx128_1 := mX HB.out hx128_1
             replace p128 := eq_true p128
             replace q128 := eq_true q128
             have p130 : 0 ≤ ((ji23) : Int) := mD
             have q130 : (ji23) < (l0_2.length : Int) := mD
             obtain ⟨ad130, e130, hx130_0, hx130_1⟩ := at_T56 HR0_2.out (ji23) p130 q130
             have hw130_1 := hx130_1
             have hw130_0 := hx130_0
             obtain rfl : ad128 = ad130 := (by injection e130)
             replace hx130_0 := mX HB.out hx130_0
             replace hx130_1 := mX HB.out hx130_1
             replace p130 := eq_true p130
             replace q130 := eq_true q130
             have p131 : 0 ≤ (x3_2 : Int) := mD
             have q131 : x3_2 < (l0_2.length : Int) := mD
             obtain ⟨ad131, e131, hx131_0, hx131_1⟩ := at_T56 HR0_2.out x3_2 p131 q131
             have hw131_1 := hx131_1
             have hw131_0 := hx131_0
             obtain rfl : ad128 = ad131 := (by injection e131)
             replace hx131_0 := mX HB.out hx131_0
             replace hx131_1 := mX HB.out hx131_1
             replace p131 := eq_true p131
             replace q131 := eq_true q131
             refine start_ (n := 26) (S := fun w' => w'.cell? ⟨gb125, 0, none⟩ = some (.int .i64 a0_0) ∧ w'.cell? ⟨gb125, 1, none⟩ = some (.int .i64 a0_1) ∧ w'.cell? ⟨gb125, 2, none⟩ = some (.slice (some ad128) l0_2.length c0_2) ∧ w'.cell? (ad128.add ((x3_2).toNat * 2)) = some (.int .i64 ((rd_T56 l0_2 x3_2).f0)) ∧ w'.cell? ⟨(ad128.add ((x3_2).toNat * 2)).block, (ad128.add ((x3_2).toNat * 2)).off + 1, none⟩ = some (.int .i64 ((rd_T56 l0_2 x3_2).f1)) ∧ w'.cell? (ad128.add (((ji23)).toNat * 2)) = some (.int .i64 ((rd_T56 l0_2 (ji23)).f0)) ∧ w'.cell? ⟨(ad128.add (((ji23)).toNat * 2)).block, (ad128.add (((ji23)).toNat * 2)).off + 1, none⟩ = some (.int .i64 ((rd_T56 l0_2 (ji23)).f1)) ∧ w'.cell? (ad128.add ((x3_2).toNat * 2)) = some (.int .i64 ((rd_T56 l0_2 x3_2).f0)) ∧ w'.cell? ⟨(ad128.add ((x3_2).toNat * 2)).block, (ad128.add ((x3_2).toNat * 2)).off + 1, none⟩ = some (.int .i64 ((rd_T56 l0_2 x3_2).f1))) (ds := []) (mb 0 26) (by kernel_rfl) rfl rfl (mb3 BK125.out ⟨(mX HB.out hw128_0 :), ⟨(mX HB.out hw128_1 :), ⟨(mX HB.out hw130_0 :), ⟨(mX HB.out hw130_1 :), ⟨(mX HB.out hw131_0 :), (mX HB.out hw131_1 :)⟩⟩⟩⟩⟩) (fun hHeld => ?_); refine with_tabW spec_l8Item.tab6 spec_l8Item.bits6 (fun HT_ HW_ => ?_)
             generalize wr.drew = w29 at BK125 HB hx128_0 hx128_1 hx130_0 hx130_1 hx131_0 hx131_1 hHeld ⊢
             refine mpu 0 28 HT_.out (mb 1 25) ?_
             refine mpu 2 30 HT_.out (mr [1,1,1,23]) ?_
             refine mpt 1 29 HT_.out HW_.out (mb 3 23) hHeld ?_
             refine mpu 3 31 HT_.out (mb 4 22) ?_
             refine mpt 4 32 HT_.out HW_.out (mb 5 21) hHeld ?_
             refine mone 5 (some 33) HT_.out (mb 6 20) (fun K hK => ?_)
             refine goes_ Try.func103 (by kernel_rfl) rfl #[.agg #[.int .i64 ((rd_T56 l0_2 x3_2).f0), .int .i64 ((rd_T56 l0_2 x3_2).f1)]] (by rfl) rfl rfl mA ?_
             with_reducible refine (spec_DotOk.calls ((rd_T56 l0_2 x3_2).f0) ((rd_T56 l0_2 x3_2).f1) true _ A20.out).mono ?_
             rintro e w30 ⟨rfl, hb⟩
             refine ⟨_, rfl, ?_⟩
             replace BK125 := mB BK125 hb
             replace HB := mS (below_step (mH1 HB.out GE125.out) hb)
             (try clear hb)
             (try clear hb2)
             (try clear hk)
             (try clear hi)
             refine hK.out _ _ (mb3 BK125.out ⟨(mX HB.out hw128_0 :), ⟨(mX HB.out hw128_1 :), ⟨(mX HB.out hw130_0 :), ⟨(mX HB.out hw130_1 :), ⟨(mX HB.out hw131_0 :), (mX HB.out hw131_1 :)⟩⟩⟩⟩⟩) (fun hHeld => ?_)
             clear hK K
             refine mno 33 ?_
             refine mpu 6 34 HT_.out (mb 7 19) ?_
             refine mpu 7 35 HT_.out (mb 8 18) ?_
             refine mpu 8 36 HT_.out (mb 9 17) ?_
             refine mpu 9 37 HT_.out (mb 10 16) ?_
             refine mpu 10 38 HT_.out (mb 11 15) ?_
             refine mpu 11 39 HT_.out (mb 12 14) ?_
             refine mpu 13 41 HT_.out (mr [12,1,1,12]) ?_
             refine mpu 14 42 HT_.out (mr [12,1,2,11]) ?_
             refine mpu 17 45 HT_.out (mr [12,1,2,2,1,8]) ?_
             refine mpu 19 47 HT_.out (mr [12,1,2,2,1,1,1,6]) ?_
             refine mpt 12 40 HT_.out HW_.out (mr [15,2,1,1,1,6]) hHeld ?_
             refine mpu 15 43 HT_.out (mr [16,1,1,1,1,6]) ?_
             refine mpt 16 44 HT_.out HW_.out (mr [18,1,1,6]) hHeld ?_
             refine mpt 18 46 HT_.out HW_.out (mb 20 6) hHeld ?_
             refine mpu 20 48 HT_.out (mb 21 5) ?_
             refine mpt 21 49 HT_.out HW_.out (mb 22 4) hHeld ?_
             refine mone 22 (some 50) HT_.out (mb 23 3) (fun K hK => ?_)
             refine goes_ Try.func52 (by kernel_rfl) rfl #[.agg #[.int .i64 ((rd_T56 l0_2 (ji23)).f0), .int .i64 ((rd_T56 l0_2 (ji23)).f1)], .agg #[.int .i64 ((rd_T56 l0_2 x3_2).f0), .int .i64 ((rd_T56 l0_2 x3_2).f1)]] (by rfl) rfl rfl (by (try simp only [List.map_toArray, List.map_cons, List.map_nil]); first | done | (simp only [hji23]; rfl) | rfl | (simp only [List.length_drop, List.length_take]; rfl)) ?_
             with_reducible refine (spec_DotLess.calls ((rd_T56 l0_2 (ji23)).f0) ((rd_T56 l0_2 (ji23)).f1) ((rd_T56 l0_2 x3_2).f0) ((rd_T56 l0_2 x3_2).f1) true _ A26.out).mono ?_
             rintro e w31 ⟨rfl, hb⟩
             refine ⟨_, rfl, ?_⟩
             replace BK125 := mB BK125 hb
             replace HB := mS (below_step (mH1 HB.out GE125.out) hb)
             (try clear hb)
             (try clear hb2)
             (try clear hk)
             (try clear hi)
             refine hK.out _ _ (mb3 BK125.out ⟨(mX HB.out hw128_0 :), ⟨(mX HB.out hw128_1 :), ⟨(mX HB.out hw130_0 :), ⟨(mX HB.out hw130_1 :), ⟨(mX HB.out hw131_0 :), (mX HB.out hw131_1 :)⟩⟩⟩⟩⟩) (fun hHeld => ?_)
             clear hK K
             refine mno 50 ?_
             refine mpu 23 51 HT_.out (mb 24 2) ?_
             refine mpu 24 52 HT_.out (mb 25 1) ?_
             refine mpu 25 53 HT_.out (mb 26 0) ?_
             refine done_ (done_of HT_.out (by kernel_rfl)) ?_
             try go_wp2
             go_roundg k2
             case measure => have := HJ1.out; have := HK2.out; omega
             case rel => exact ⟨(wrap64 (x3_2 + 1)), mE, H', ⟨by have := HJ1.out; have := HK2.out; omega⟩, ⟨mK BK125.out⟩, ⟨(mH1 HB.out GE125.out)⟩⟩
            ·replace c27 := Bool.eq_false_iff.mpr c27
             subst c27
             have H1 := H
             rw [if_neg (show ¬ (false = true) by decide)] at H1
             clear H
             have H := H1
             clear H1
             obtain rfl := Option.some.inj H
             obtain ⟨hcz32_0, hcz32_1, hcz32_2, hfz32_0, hfz32_1, hfz32_2⟩ := mZ3 BK125.out
             try go_wp2
             replace BK125 := mS (blk_drew BK125.out)
             replace HB := mS (below_drew1 HB.out)
             have p128 : 0 ≤ (x3_2 : Int) := mD
             have q128 : x3_2 < (l0_2.length : Int) := mD
             obtain ⟨ad128, e128, hx128_0, hx128_1⟩ := at_T56 HR0_2.out x3_2 p128 q128
             have hw128_1 := hx128_1
             have hw128_0 := hx128_0
             cases e128
             replace hx128_0 := mX HB.out hx128_0
             replace hx128_1 := mX HB.out hx128_1
             replace p128 := eq_true p128
             replace q128 := eq_true q128
             have p130 : 0 ≤ ((ji23) : Int) := mD
             have q130 : (ji23) < (l0_2.length : Int) := mD
             obtain ⟨ad130, e130, hx130_0, hx130_1⟩ := at_T56 HR0_2.out (ji23) p130 q130
             have hw130_1 := hx130_1
             have hw130_0 := hx130_0
             obtain rfl : ad128 = ad130 := (by injection e130)
             replace hx130_0 := mX HB.out hx130_0
             replace hx130_1 := mX HB.out hx130_1
             replace p130 := eq_true p130
             replace q130 := eq_true q130
             have p131 : 0 ≤ (x3_2 : Int) := mD
             have q131 : x3_2 < (l0_2.length : Int) := mD
             obtain ⟨ad131, e131, hx131_0, hx131_1⟩ := at_T56 HR0_2.out x3_2 p131 q131
             have hw131_1 := hx131_1
             have hw131_0 := hx131_0
             obtain rfl : ad128 = ad131 := (by injection e131)
             replace hx131_0 := mX HB.out hx131_0
             replace hx131_1 := mX HB.out hx131_1
             replace p131 := eq_true p131
             replace q131 := eq_true q131
             refine start_ (n := 26) (S := fun w' => w'.cell? ⟨gb125, 0, none⟩ = some (.int .i64 a0_0) ∧ w'.cell? ⟨gb125, 1, none⟩ = some (.int .i64 a0_1) ∧ w'.cell? ⟨gb125, 2, none⟩ = some (.slice (some ad128) l0_2.length c0_2) ∧ w'.cell? (ad128.add ((x3_2).toNat * 2)) = some (.int .i64 ((rd_T56 l0_2 x3_2).f0)) ∧ w'.cell? ⟨(ad128.add ((x3_2).toNat * 2)).block, (ad128.add ((x3_2).toNat * 2)).off + 1, none⟩ = some (.int .i64 ((rd_T56 l0_2 x3_2).f1)) ∧ w'.cell? (ad128.add (((ji23)).toNat * 2)) = some (.int .i64 ((rd_T56 l0_2 (ji23)).f0)) ∧ w'.cell? ⟨(ad128.add (((ji23)).toNat * 2)).block, (ad128.add (((ji23)).toNat * 2)).off + 1, none⟩ = some (.int .i64 ((rd_T56 l0_2 (ji23)).f1)) ∧ w'.cell? (ad128.add ((x3_2).toNat * 2)) = some (.int .i64 ((rd_T56 l0_2 x3_2).f0)) ∧ w'.cell? ⟨(ad128.add ((x3_2).toNat * 2)).block, (ad128.add ((x3_2).toNat * 2)).off + 1, none⟩ = some (.int .i64 ((rd_T56 l0_2 x3_2).f1))) (ds := []) (mb 0 26) (by kernel_rfl) rfl rfl (mb3 BK125.out ⟨(mX HB.out hw128_0 :), ⟨(mX HB.out hw128_1 :), ⟨(mX HB.out hw130_0 :), ⟨(mX HB.out hw130_1 :), ⟨(mX HB.out hw131_0 :), (mX HB.out hw131_1 :)⟩⟩⟩⟩⟩) (fun hHeld => ?_); refine with_tabW spec_l8Item.tab6 spec_l8Item.bits6 (fun HT_ HW_ => ?_)
             generalize wr.drew = w33 at BK125 HB hx128_0 hx128_1 hx130_0 hx130_1 hx131_0 hx131_1 hHeld ⊢
             refine mpu 0 28 HT_.out (mb 1 25) ?_
             refine mpu 2 30 HT_.out (mr [1,1,1,23]) ?_
             refine mpt 1 29 HT_.out HW_.out (mb 3 23) hHeld ?_
             refine mpu 3 31 HT_.out (mb 4 22) ?_
             refine mpt 4 32 HT_.out HW_.out (mb 5 21) hHeld ?_
             refine mone 5 (some 33) HT_.out (mb 6 20) (fun K hK => ?_)
             refine goes_ Try.func103 (by kernel_rfl) rfl #[.agg #[.int .i64 ((rd_T56 l0_2 x3_2).f0), .int .i64 ((rd_T56 l0_2 x3_2).f1)]] (by rfl) rfl rfl mA ?_
             with_reducible refine (spec_DotOk.calls ((rd_T56 l0_2 x3_2).f0) ((rd_T56 l0_2 x3_2).f1) true _ A20.out).mono ?_
             rintro e w34 ⟨rfl, hb⟩
             refine ⟨_, rfl, ?_⟩
             replace BK125 := mB BK125 hb
             replace HB := mS (below_step (mH1 HB.out GE125.out) hb)
             (try clear hb)
             (try clear hb2)
             (try clear hk)
             (try clear hi)
             refine hK.out _ _ (mb3 BK125.out ⟨(mX HB.out hw128_0 :), ⟨(mX HB.out hw128_1 :), ⟨(mX HB.out hw130_0 :), ⟨(mX HB.out hw130_1 :), ⟨(mX HB.out hw131_0 :), (mX HB.out hw131_1 :)⟩⟩⟩⟩⟩) (fun hHeld => ?_)
             clear hK K
             refine mno 33 ?_
             refine mpu 6 34 HT_.out (mb 7 19) ?_
             refine mpu 7 35 HT_.out (mb 8 18) ?_
             refine mpu 8 36 HT_.out (mb 9 17) ?_
             refine mpu 9 37 HT_.out (mb 10 16) ?_
             refine mpu 10 38 HT_.out (mb 11 15) ?_
             refine mpu 11 39 HT_.out (mb 12 14) ?_
             refine mpu 13 41 HT_.out (mr [12,1,1,12]) ?_
             refine mpu 14 42 HT_.out (mr [12,1,2,11]) ?_
             refine mpu 17 45 HT_.out (mr [12,1,2,2,1,8]) ?_
             refine mpu 19 47 HT_.out (mr [12,1,2,2,1,1,1,6]) ?_
             refine mpt 12 40 HT_.out HW_.out (mr [15,2,1,1,1,6]) hHeld ?_
             refine mpu 15 43 HT_.out (mr [16,1,1,1,1,6]) ?_
             refine mpt 16 44 HT_.out HW_.out (mr [18,1,1,6]) hHeld ?_
             refine mpt 18 46 HT_.out HW_.out (mb 20 6) hHeld ?_
             refine mpu 20 48 HT_.out (mb 21 5) ?_
             refine mpt 21 49 HT_.out HW_.out (mb 22 4) hHeld ?_
             refine mone 22 (some 50) HT_.out (mb 23 3) (fun K hK => ?_)
             refine goes_ Try.func52 (by kernel_rfl) rfl #[.agg #[.int .i64 ((rd_T56 l0_2 (ji23)).f0), .int .i64 ((rd_T56 l0_2 (ji23)).f1)], .agg #[.int .i64 ((rd_T56 l0_2 x3_2).f0), .int .i64 ((rd_T56 l0_2 x3_2).f1)]] (by rfl) rfl rfl (by (try simp only [List.map_toArray, List.map_cons, List.map_nil]); first | done | (simp only [hji23]; rfl) | rfl | (simp only [List.length_drop, List.length_take]; rfl)) ?_
             with_reducible refine (spec_DotLess.calls ((rd_T56 l0_2 (ji23)).f0) ((rd_T56 l0_2 (ji23)).f1) ((rd_T56 l0_2 x3_2).f0) ((rd_T56 l0_2 x3_2).f1) false _ A26.out).mono ?_
             rintro e w35 ⟨rfl, hb⟩
             refine ⟨_, rfl, ?_⟩
             replace BK125 := mB BK125 hb
             replace HB := mS (below_step (mH1 HB.out GE125.out) hb)
             (try clear hb)
             (try clear hb2)
             (try clear hk)
             (try clear hi)
             refine hK.out _ _ (mb3 BK125.out ⟨(mX HB.out hw128_0 :), ⟨(mX HB.out hw128_1 :), ⟨(mX HB.out hw130_0 :), ⟨(mX HB.out hw130_1 :), ⟨(mX HB.out hw131_0 :), (mX HB.out hw131_1 :)⟩⟩⟩⟩⟩) (fun hHeld => ?_)
             clear hK K
             refine mno 50 ?_
             refine mpu 23 51 HT_.out (mb 24 2) ?_
             refine mpu 24 52 HT_.out (mb 25 1) ?_
             refine mpu 25 53 HT_.out (mb 26 0) ?_
             refine done_ (done_of HT_.out (by kernel_rfl)) ?_
             try go_wp2
             go_ret
             exact ⟨by first | rfl | (simp [errW_none, errW_some] <;> rfl) | (simp only [← hji23]; first | rfl | (simp [errW_none, errW_some] <;> rfl)) | (simp [*, errW_none, errW_some] <;> rfl), (mH1 HB.out GE125.out)⟩
           ·rw [if_neg c25] at H
            exact absurd H (by simp)
          ·rw [if_neg c24] at H
           exact absurd H (by simp)
         ·rw [if_neg c22] at H
          have c22b0 : decide (0 < x3_2) = false := decide_eq_false c22
          clear c22
          have H' := mS H
          clear H
          obtain ⟨hcz36_0, hcz36_1, hcz36_2, hfz36_0, hfz36_1, hfz36_2⟩ := mZ3 BK125.out
          try go_wp2
          replace BK125 := mS (blk_drew BK125.out)
          replace HB := mS (below_drew1 HB.out)
          have p128 : 0 ≤ (x3_2 : Int) := mD
          have q128 : x3_2 < (l0_2.length : Int) := mD
          obtain ⟨ad128, e128, hx128_0, hx128_1⟩ := at_T56 HR0_2.out x3_2 p128 q128
          have hw128_1 := hx128_1
          have hw128_0 := hx128_0
          cases e128
          replace hx128_0 := mX HB.out hx128_0
          replace hx128_1 := mX HB.out hx128_1
          replace p128 := eq_true p128
          replace q128 := eq_true q128
          refine start_ (n := 26) (S := fun w' => w'.cell? ⟨gb125, 0, none⟩ = some (.int .i64 a0_0) ∧ w'.cell? ⟨gb125, 1, none⟩ = some (.int .i64 a0_1) ∧ w'.cell? ⟨gb125, 2, none⟩ = some (.slice (some ad128) l0_2.length c0_2) ∧ w'.cell? (ad128.add ((x3_2).toNat * 2)) = some (.int .i64 ((rd_T56 l0_2 x3_2).f0)) ∧ w'.cell? ⟨(ad128.add ((x3_2).toNat * 2)).block, (ad128.add ((x3_2).toNat * 2)).off + 1, none⟩ = some (.int .i64 ((rd_T56 l0_2 x3_2).f1))) (ds := []) (mb 0 26) (by kernel_rfl) rfl rfl (mb3 BK125.out ⟨(mX HB.out hw128_0 :), (mX HB.out hw128_1 :)⟩) (fun hHeld => ?_); refine with_tabW spec_l8Item.tab6 spec_l8Item.bits6 (fun HT_ HW_ => ?_)
          generalize wr.drew = w37 at BK125 HB hx128_0 hx128_1 hHeld ⊢
          refine mpu 0 28 HT_.out (mb 1 25) ?_
          refine mpu 2 30 HT_.out (mr [1,1,1,23]) ?_
          refine mpt 1 29 HT_.out HW_.out (mb 3 23) hHeld ?_
          refine mpu 3 31 HT_.out (mb 4 22) ?_
          refine mpt 4 32 HT_.out HW_.out (mb 5 21) hHeld ?_
          refine mone 5 (some 33) HT_.out (mb 6 20) (fun K hK => ?_)
          refine goes_ Try.func103 (by kernel_rfl) rfl #[.agg #[.int .i64 ((rd_T56 l0_2 x3_2).f0), .int .i64 ((rd_T56 l0_2 x3_2).f1)]] (by rfl) rfl rfl mA ?_
          with_reducible refine (spec_DotOk.calls ((rd_T56 l0_2 x3_2).f0) ((rd_T56 l0_2 x3_2).f1) true _ A20.out).mono ?_
          rintro e w38 ⟨rfl, hb⟩
          refine ⟨_, rfl, ?_⟩
          replace BK125 := mB BK125 hb
          replace HB := mS (below_step (mH1 HB.out GE125.out) hb)
          (try clear hb)
          (try clear hb2)
          (try clear hk)
          (try clear hi)
          refine hK.out _ _ (mb3 BK125.out ⟨(mX HB.out hw128_0 :), (mX HB.out hw128_1 :)⟩) (fun hHeld => ?_)
          clear hK K
          refine mno 33 ?_
          refine mpu 6 34 HT_.out (mb 7 19) ?_
          refine mpu 7 35 HT_.out (mb 8 18) ?_
          refine mpu 8 36 HT_.out (mb 9 17) ?_
          refine mpu 9 37 HT_.out (mb 10 16) ?_
          refine mpu 10 38 HT_.out (mb 11 15) ?_
          refine mpf 11 39 HT_.out (mb 12 14) ?_
          refine mpf 12 40 HT_.out (mb 13 13) ?_
          refine mpf 13 41 HT_.out (mb 14 12) ?_
          refine mpf 14 42 HT_.out (mb 15 11) ?_
          refine mpf 15 43 HT_.out (mb 16 10) ?_
          refine mpf 16 44 HT_.out (mb 17 9) ?_
          refine mpf 17 45 HT_.out (mb 18 8) ?_
          refine mpf 18 46 HT_.out (mb 19 7) ?_
          refine mpf 19 47 HT_.out (mb 20 6) ?_
          refine mpf 20 48 HT_.out (mb 21 5) ?_
          refine mpf 21 49 HT_.out (mb 22 4) ?_
          refine mpf 22 50 HT_.out (mb 23 3) ?_
          refine mpf 23 51 HT_.out (mb 24 2) ?_
          refine mpu 24 52 HT_.out (mb 25 1) ?_
          refine mpu 25 53 HT_.out (mb 26 0) ?_
          refine done_ (done_of HT_.out (by kernel_rfl)) ?_
          try go_wp2
          go_roundg k2
          case measure => have := HJ1.out; have := HK2.out; omega
          case rel => exact ⟨(wrap64 (x3_2 + 1)), mE, H', ⟨by have := HJ1.out; have := HK2.out; omega⟩, ⟨mK BK125.out⟩, ⟨(mH1 HB.out GE125.out)⟩⟩
        ·replace c21 := Bool.eq_false_iff.mpr c21
         subst c21
         have H1 := H
         rw [if_neg (show ¬ (false = true) by decide)] at H1
         clear H
         have H := H1
         clear H1
         obtain rfl := Option.some.inj H
         obtain ⟨hcz39_0, hcz39_1, hcz39_2, hfz39_0, hfz39_1, hfz39_2⟩ := mZ3 BK125.out
         try go_wp2
         replace BK125 := mS (blk_drew BK125.out)
         replace HB := mS (below_drew1 HB.out)
         have p128 : 0 ≤ (x3_2 : Int) := mD
         have q128 : x3_2 < (l0_2.length : Int) := mD
         obtain ⟨ad128, e128, hx128_0, hx128_1⟩ := at_T56 HR0_2.out x3_2 p128 q128
         have hw128_1 := hx128_1
         have hw128_0 := hx128_0
         cases e128
         replace hx128_0 := mX HB.out hx128_0
         replace hx128_1 := mX HB.out hx128_1
         replace p128 := eq_true p128
         replace q128 := eq_true q128
         refine start_ (n := 26) (S := fun w' => w'.cell? ⟨gb125, 0, none⟩ = some (.int .i64 a0_0) ∧ w'.cell? ⟨gb125, 1, none⟩ = some (.int .i64 a0_1) ∧ w'.cell? ⟨gb125, 2, none⟩ = some (.slice (some ad128) l0_2.length c0_2) ∧ w'.cell? (ad128.add ((x3_2).toNat * 2)) = some (.int .i64 ((rd_T56 l0_2 x3_2).f0)) ∧ w'.cell? ⟨(ad128.add ((x3_2).toNat * 2)).block, (ad128.add ((x3_2).toNat * 2)).off + 1, none⟩ = some (.int .i64 ((rd_T56 l0_2 x3_2).f1))) (ds := []) (mb 0 26) (by kernel_rfl) rfl rfl (mb3 BK125.out ⟨(mX HB.out hw128_0 :), (mX HB.out hw128_1 :)⟩) (fun hHeld => ?_); refine with_tabW spec_l8Item.tab6 spec_l8Item.bits6 (fun HT_ HW_ => ?_)
         generalize wr.drew = w40 at BK125 HB hx128_0 hx128_1 hHeld ⊢
         refine mpu 0 28 HT_.out (mb 1 25) ?_
         refine mpu 2 30 HT_.out (mr [1,1,1,23]) ?_
         refine mpt 1 29 HT_.out HW_.out (mb 3 23) hHeld ?_
         refine mpu 3 31 HT_.out (mb 4 22) ?_
         refine mpt 4 32 HT_.out HW_.out (mb 5 21) hHeld ?_
         refine mone 5 (some 33) HT_.out (mb 6 20) (fun K hK => ?_)
         refine goes_ Try.func103 (by kernel_rfl) rfl #[.agg #[.int .i64 ((rd_T56 l0_2 x3_2).f0), .int .i64 ((rd_T56 l0_2 x3_2).f1)]] (by rfl) rfl rfl mA ?_
         with_reducible refine (spec_DotOk.calls ((rd_T56 l0_2 x3_2).f0) ((rd_T56 l0_2 x3_2).f1) false _ A20.out).mono ?_
         rintro e w41 ⟨rfl, hb⟩
         refine ⟨_, rfl, ?_⟩
         replace BK125 := mB BK125 hb
         replace HB := mS (below_step (mH1 HB.out GE125.out) hb)
         (try clear hb)
         (try clear hb2)
         (try clear hk)
         (try clear hi)
         refine hK.out _ _ (mb3 BK125.out ⟨(mX HB.out hw128_0 :), (mX HB.out hw128_1 :)⟩) (fun hHeld => ?_)
         clear hK K
         refine mno 33 ?_
         refine mpu 6 34 HT_.out (mb 7 19) ?_
         refine mpu 7 35 HT_.out (mb 8 18) ?_
         refine mpf 8 36 HT_.out (mb 9 17) ?_
         refine mpf 9 37 HT_.out (mb 10 16) ?_
         refine mpf 10 38 HT_.out (mb 11 15) ?_
         refine mpf 11 39 HT_.out (mb 12 14) ?_
         refine mpf 12 40 HT_.out (mb 13 13) ?_
         refine mpf 13 41 HT_.out (mb 14 12) ?_
         refine mpf 14 42 HT_.out (mb 15 11) ?_
         refine mpf 15 43 HT_.out (mb 16 10) ?_
         refine mpf 16 44 HT_.out (mb 17 9) ?_
         refine mpf 17 45 HT_.out (mb 18 8) ?_
         refine mpf 18 46 HT_.out (mb 19 7) ?_
         refine mpf 19 47 HT_.out (mb 20 6) ?_
         refine mpf 20 48 HT_.out (mb 21 5) ?_
         refine mpf 21 49 HT_.out (mb 22 4) ?_
         refine mpf 22 50 HT_.out (mb 23 3) ?_
         refine mpf 23 51 HT_.out (mb 24 2) ?_
         refine mpf 24 52 HT_.out (mb 25 1) ?_
         refine mpu 25 53 HT_.out (mb 26 0) ?_
         refine done_ (done_of HT_.out (by kernel_rfl)) ?_
         try go_wp2
         go_ret
         exact ⟨mEw, (mH1 HB.out GE125.out)⟩
       ·rw [if_neg c19] at H
        exact absurd H (by simp)
      ·rw [if_neg c18] at H
       have c18b0 := decide_eq_false c18
       clear c18
       obtain rfl := Option.some.inj H
       obtain ⟨hcz42_0, hcz42_1, hcz42_2, hfz42_0, hfz42_1, hfz42_2⟩ := mZ3 BK125.out
       go_wp2
       go_ret
       exact ⟨mEw, (mH1 HB.out GE125.out)⟩

end Go.Proofs.Ytecjamgajlpfdaa.MFnExactGraphPut
