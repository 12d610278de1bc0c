-- Written by mp.py, this session's own printer (wip/mp.py).
import Derived.Test.YtgbejjeephipeaaVMShort
import Derived.Test.YtgbejjeephipeaaMFnStablex0
import Derived.Test.YtgbejjeephipeaaMFnStablex2
namespace Go.Proofs.Ytgbejjeephipeaa.MFnStable
open Go.RowKit Go.Proofs.YtgbejjeephipeaaW.PrintWords Go.Proofs.YtgbejjeephipeaaW.PrintLast Go.Proofs.YtgbejjeephipeaaW.PrintMore Go.Proofs.Ytgbejjeephipeaa.MWords
attribute [local go_sem] max2_int min2_int max_two min_two max_three min_three max_four min_four   -- for this text's walks alone
set_option linter.unusedVariables false
set_option linter.unusedSimpArgs false

/-! ### spec_l8Item: function 115 -/
mutual
def spec_l8Item.j0 : Nat → Bool → Int → Int → List (S31) → Option (Bool)
 | 0, _, _, _, _ => none
 | k + 1, x20, x122000, x122001, x122002 => if x20 = true then (some false) else (spec_l8Item.l0 k 0 x122000 x122001 x122002)
def spec_l8Item.l0 : Nat → Int → Int → Int → List (S31) → Option (Bool)
 | 0, _, _, _, _ => none
 | k + 1, x3, x122000, x122001, x122002 => if x3 < (x122002.length : Int) then (if 0 ≤ x3 then ((spec_DotOk.f ((rd_T31 x122002 x3).f0) ((rd_T31 x122002 x3).f1)).bind fun t125 => (if t125 = true then (if x3 > 0 then (if 0 ≤ (wrap64 (x3 - 1)) then (if (wrap64 (x3 - 1)) < (x122002.length : Int) then ((spec_DotLess.f ((rd_T31 x122002 (wrap64 (x3 - 1))).f0) ((rd_T31 x122002 (wrap64 (x3 - 1))).f1) ((rd_T31 x122002 x3).f0) ((rd_T31 x122002 x3).f1)).bind fun t128 => (if t128 = true then (spec_l8Item.l0 k (wrap64 (x3 + 1)) x122000 x122001 x122002) else (some false))) else (none)) else (none)) else (spec_l8Item.l0 k (wrap64 (x3 + 1)) x122000 x122001 x122002)) else (some false))) else (none)) else (some true)
end
def spec_l8Item.f (k : Nat) (a0_0 : Int) (a0_1 : Int) (l0_2 : List (S31)) : Option (Bool) := (spec_DotOk.f a0_0 a0_1).bind fun t122 => (if t122 = true then (if (l0_2.length : Int) > 60 then (spec_l8Item.j0 k true a0_0 a0_1 l0_2) else ((spec_l8Has.f k l0_2 a0_0 a0_1).bind fun t123 => (spec_l8Item.j0 k t123 a0_0 a0_1 l0_2))) else (spec_l8Item.j0 k true a0_0 a0_1 l0_2))
theorem spec_l8Item.mono_l : ∀ k, (∀ y0 y1 y2 y3, LeO (spec_l8Item.j0 k y0 y1 y2 y3) (spec_l8Item.j0 (k + 1) y0 y1 y2 y3)) ∧ (∀ y0 y1 y2 y3, LeO (spec_l8Item.l0 k y0 y1 y2 y3) (spec_l8Item.l0 (k + 1) y0 y1 y2 y3))
 | 0 => ⟨fun _ _ _ _ r h => by simp [spec_l8Item.j0] at h, fun _ _ _ _ r h => by simp [spec_l8Item.l0] at h⟩
 | k + 1 => by
  obtain ⟨ih0, ih1⟩ := spec_l8Item.mono_l k
  refine ⟨?_, ?_⟩
  ·intro y0 y1 y2 y3
   unfold spec_l8Item.j0
   repeat' first
   | (with_reducible exact ih0 _ _ _ _)
   | (with_reducible exact ih1 _ _ _ _)
   | (with_reducible exact spec_l8Has.mono _ _ _ _)
   | (with_reducible exact LeO.refl _)
   | (with_reducible exact LeO.none _)
   | (with_reducible refine LeO.ite ?_ ?_)
   | (with_reducible refine LeO.bind ?_ (fun _ => ?_))
   | exact ih0 _ _ _ _
   | exact ih1 _ _ _ _
   | exact spec_l8Has.mono _ _ _ _
   | exact LeO.none _
   | refine LeO.ite ?_ ?_
   | refine LeO.bind ?_ (fun _ => ?_)
  ·intro y0 y1 y2 y3
   unfold spec_l8Item.l0
   repeat' first
   | (with_reducible exact ih0 _ _ _ _)
   | (with_reducible exact ih1 _ _ _ _)
   | (with_reducible exact spec_l8Has.mono _ _ _ _)
   | (with_reducible exact LeO.refl _)
   | (with_reducible exact LeO.none _)
   | (with_reducible refine LeO.ite ?_ ?_)
   | (with_reducible refine LeO.bind ?_ (fun _ => ?_))
   | exact ih0 _ _ _ _
   | exact ih1 _ _ _ _
   | exact spec_l8Has.mono _ _ _ _
   | exact LeO.none _
   | refine LeO.ite ?_ ?_
   | refine LeO.bind ?_ (fun _ => ?_)
theorem spec_l8Item.mono : ∀ a0 a1 a2 k, LeO (spec_l8Item.f k a0 a1 a2) (spec_l8Item.f (k + 1) a0 a1 a2) := by
 intro a0 a1 a2 k
 obtain ⟨ih0, ih1⟩ := spec_l8Item.mono_l k
 unfold spec_l8Item.f
 repeat' first
   | (with_reducible exact ih0 _ _ _ _)
   | (with_reducible exact ih1 _ _ _ _)
   | (with_reducible exact spec_l8Has.mono _ _ _ _)
   | (with_reducible exact LeO.refl _)
   | (with_reducible exact LeO.none _)
   | (with_reducible refine LeO.ite ?_ ?_)
   | (with_reducible refine LeO.bind ?_ (fun _ => ?_))
   | exact ih0 _ _ _ _
   | exact ih1 _ _ _ _
   | exact spec_l8Has.mono _ _ _ _
   | exact LeO.none _
   | refine LeO.ite ?_ ?_
   | refine LeO.bind ?_ (fun _ => ?_)
def spec_l8Item.T6 : Bool × List (List Nat × List Nat) := (true, [([], []), ([0], [0]), ([], []), ([1, 2], [1, 2]), ([3], [3]), ([4], [4]), ([5], [5]), ([6, 5], [6]), ([7], [7]), ([8, 7], [7, 8]), ([9, 7, 7], [7, 9]), ([10], [10]), ([11, 10], [10, 11]), ([10], [10]), ([13, 10], [10, 13]), ([12, 14, 10], [10, 12, 14]), ([15, 10], [10, 15]), ([10], [10]), ([17, 10], [10, 17]), ([10], [10]), ([18, 19, 10], [10, 18, 19]), ([20, 10], [10, 20]), ([16, 21, 10, 10], [10, 16, 21]), ([22, 10], [10, 22]), ([10, 23, 7], [7, 10, 23]), ([7, 24], [7, 24])])
def spec_l8Item.B6 : List Nat := [0, 1, 0, 7, 15, 31, 63, 127, 255, 511, 1023, 2047, 4095, 2047, 10239, 32767, 65535, 2047, 133119, 2047, 919551, 1968127, 4194303, 8388607, 16777215, 33554431]
theorem spec_l8Item.tab6 : rtab .any (opsOf Try.f115 6) = spec_l8Item.T6 := by kernel_rfl
theorem spec_l8Item.bits6 : waitsOk spec_l8Item.T6.2 spec_l8Item.B6 = true := by kernel_rfl
set_option maxHeartbeats 8000000 in
set_option maxRecDepth 100000 in
theorem spec_l8Item.calls (k : Nat) (a0_0 : Int) (a0_1 : Int) (A0_2 : Option Addr) (c0_2 : Nat) (l0_2 : List (S31)) (r : Bool) (w : World) (hr0_2 : Kd.C k31 w A0_2 l0_2.length l0_2) (hc0_2 : l0_2.length ≤ c0_2) (h : spec_l8Item.f k a0_0 a0_1 l0_2 = some r) :
  Calls Try.prog 115 #[.agg #[.int .i64 a0_0, .int .i64 a0_1, .slice A0_2 l0_2.length c0_2]] w fun e w' => e = .returned (.bool r) ∧ Below w.heap.size w w' := by
 have hu33 := Try.underlying33
 have hu31 := Try.underlying31
 have HR0_2 := mS hr0_2
 have HC0_2 := mS hc0_2
 clear hr0_2 hc0_2
 have HB := mS (Below.refl w.heap.size w)
 have H : ((spec_DotOk.f a0_0 a0_1).bind fun t122 => (if t122 = true then (if (l0_2.length : Int) > 60 then (spec_l8Item.j0 k true a0_0 a0_1 l0_2) else ((spec_l8Has.f k l0_2 a0_0 a0_1).bind fun t123 => (spec_l8Item.j0 k t123 a0_0 a0_1 l0_2))) else (spec_l8Item.j0 k true a0_0 a0_1 l0_2))) = some r := h
 clear h
 have HC2 := mS H
 clear H
 go_enter Try.func115, Try.ntmps115
 go_upto_region 1 with (first | ((with_reducible refine gate_dst (N := 1) rfl ?_); (try (refine gate_guard (by rfl) ?_; dsimp only)); refine mBx 1 #[.int .i64 a0_0, .int .i64 a0_1, .slice A0_2 l0_2.length c0_2] 33 ?_; intro gb121 hg w3 hbox hb; have BK121 := mS (hbox); have GW121 := mG hg (mH HB.out); have GE121 := mG hg (mH HB.out); replace HB := mS (below_step (mH HB.out) hb); clear hb hbox hg))
 (try simp only [Act.put, zA, zB, zC])
 go_cut [20] (fun v20 wc => ∃ (kq : Nat) (x20_1 : Bool), v20 = .bool x20_1 ∧ Aside0 (spec_l8Item.j0 kq x20_1 a0_0 a0_1 l0_2 = some r) ∧ Aside0 (kq ≤ k) ∧ Aside0 (wc.heap[gb121]? = some (.cells #[.int .i64 a0_0, .int .i64 a0_1, (.slice A0_2 l0_2.length c0_2)] 33 (0, 0))) ∧ Aside0 (Below w.heap.size w wc))
 case first =>
  have H := HC2.out
  clear HC2
  replace H := Option.bind_eq_some_iff.mp H
  obtain ⟨t122, A40, H⟩ := H
  replace H : (if t122 = true then (if (l0_2.length : Int) > 60 then (spec_l8Item.j0 k true a0_0 a0_1 l0_2) else ((spec_l8Has.f k l0_2 a0_0 a0_1).bind fun t123 => (spec_l8Item.j0 k t123 a0_0 a0_1 l0_2))) else (spec_l8Item.j0 k true a0_0 a0_1 l0_2)) = some r := H
  have A4 := mS A40
  clear A40
  by_cases c5 : t122 = true
  ·subst c5
   have H1 := H
   rw [if_pos rfl] at H1
   clear H
   have H := H1
   clear H1
   by_cases c6 : (l0_2.length : Int) > 60
   ·rw [if_pos c6] at H
    have c6b0 : decide (60 < (l0_2.length : Int)) = true := decide_eq_true c6
    have c6b1 : decide (60 < l0_2.length) = true := decide_eq_true (by omega)
    clear c6
    (first | rw [c6b0] | (simp only [i64_w, i32_w]; rw [c6b0]) | skip)
    have H' := mS H
    clear H
    obtain ⟨hcz7_0, hcz7_1, hcz7_2, hfz7_0, hfz7_1, hfz7_2⟩ := mZ3 BK121.out
    go_wp2_with (first | ((with_reducible refine gate_callee (f := 126) rfl ?_); refine mGo 6 Try.func126 #[.agg #[.int .i64 a0_0, .int .i64 a0_1]] ?_; (with_reducible refine (spec_DotOk.calls a0_0 a0_1 true _ A4.out).mono ?_); rintro e w8 ⟨rfl, hb⟩; refine ⟨_, rfl, ?_⟩; replace BK121 := mB BK121 hb; replace HB := mS (below_step (mH1 HB.out GE121.out) hb); (try clear hb); obtain ⟨hcz9_0, hcz9_1, hcz9_2, hfz9_0, hfz9_1, hfz9_2⟩ := mZ3 BK121.out))
    go_meet
    case rel => exact ⟨_, (true), mE, H', ⟨by first | omega | exact Nat.le_refl _⟩, ⟨mK BK121.out⟩, ⟨(mH1 HB.out GE121.out)⟩⟩
   ·rw [if_neg c6] at H
    have c6b0 : decide (60 < (l0_2.length : Int)) = false := decide_eq_false c6
    have c6b1 : decide (60 < l0_2.length) = false := decide_eq_false (by omega)
    clear c6
    (first | rw [c6b0] | (simp only [i64_w, i32_w]; rw [c6b0]) | skip)
    replace H := Option.bind_eq_some_iff.mp H
    obtain ⟨t123, A100, H⟩ := H
    replace H : (spec_l8Item.j0 k t123 a0_0 a0_1 l0_2) = some r := H
    have A10 := mS A100
    clear A100
    have H' := mS H
    clear H
    obtain ⟨hcz11_0, hcz11_1, hcz11_2, hfz11_0, hfz11_1, hfz11_2⟩ := mZ3 BK121.out
    go_wp2_with (first | ((with_reducible refine gate_callee (f := 126) rfl ?_); refine mGo 6 Try.func126 #[.agg #[.int .i64 a0_0, .int .i64 a0_1]] ?_; (with_reducible refine (spec_DotOk.calls a0_0 a0_1 true _ A4.out).mono ?_); rintro e w12 ⟨rfl, hb⟩; refine ⟨_, rfl, ?_⟩; replace BK121 := mB BK121 hb; replace HB := mS (below_step (mH1 HB.out GE121.out) hb); (try clear hb); obtain ⟨hcz13_0, hcz13_1, hcz13_2, hfz13_0, hfz13_1, hfz13_2⟩ := mZ3 BK121.out) | (go_at_call 127; (with_reducible refine (spec_l8Has.calls k _ _ l0_2 a0_0 a0_1 t123 _ ?side1 ?side2 A10.out).mono ?_); (case side1 => exact mC (Kd.C_below HR0_2.out HB.out)); (case side2 => exact HC0_2.out); rintro e w14 ⟨rfl, hb⟩; replace BK121 := mB BK121 hb; replace HB := mS (below_step (mH1 HB.out GE121.out) hb); (try clear hb); (try clear hb2); (try clear hk); (try clear hi)))
    go_meet
    case rel => exact ⟨_, (t123), mE, H', ⟨by first | omega | exact Nat.le_refl _⟩, ⟨mK BK121.out⟩, ⟨(mH1 HB.out GE121.out)⟩⟩
  ·replace c5 := Bool.eq_false_iff.mpr c5
   subst c5
   have H1 := H
   rw [if_neg (show ¬ (false = true) by decide)] at H1
   clear H
   have H := H1
   clear H1
   have H' := mS H
   clear H
   obtain ⟨hcz15_0, hcz15_1, hcz15_2, hfz15_0, hfz15_1, hfz15_2⟩ := mZ3 BK121.out
   go_wp2_with (first | ((with_reducible refine gate_callee (f := 126) rfl ?_); refine mGo 6 Try.func126 #[.agg #[.int .i64 a0_0, .int .i64 a0_1]] ?_; (with_reducible refine (spec_DotOk.calls a0_0 a0_1 false _ A4.out).mono ?_); rintro e w16 ⟨rfl, hb⟩; refine ⟨_, rfl, ?_⟩; replace BK121 := mB BK121 hb; replace HB := mS (below_step (mH1 HB.out GE121.out) hb); (try clear hb)))
   go_meet
   case rel => exact ⟨_, (true), mE, H', ⟨by first | omega | exact Nat.le_refl _⟩, ⟨mK BK121.out⟩, ⟨(mH1 HB.out GE121.out)⟩⟩
 case rest =>
  clear HC2
  try clear c1
  try clear p2
  try clear c5
  try clear c6
  try clear c6b0
  try clear c6b1
  try clear c11
  try clear c12
  try clear hcz11_0
  try clear hcz11_1
  try clear hcz11_2
  try clear hcz13_0
  try clear hcz13_1
  try clear hcz13_2
  try clear hcz15_0
  try clear hcz15_1
  try clear hcz15_2
  try clear hcz7_0
  try clear hcz7_1
  try clear hcz7_2
  try clear hcz9_0
  try clear hcz9_1
  try clear hcz9_2
  try clear hfz11_0
  try clear hfz11_1
  try clear hfz11_2
  try clear hfz13_0
  try clear hfz13_1
  try clear hfz13_2
  try clear hfz15_0
  try clear hfz15_1
  try clear hfz15_2
  try clear hfz7_0
  try clear hfz7_1
  try clear hfz7_2
  try clear hfz9_0
  try clear hfz9_1
  try clear hfz9_2
  obtain ⟨kq, x20_1, rfl, HA, HJ1, BK121, HB⟩ := hcut
  cases kq with
  | zero => exact absurd HA.out (by simp [spec_l8Item.j0])
  | succ kj1 =>
   have H := HA.out
   clear HA
   simp only [spec_l8Item.j0] at H
   by_cases c17 : x20_1 = true
   ·subst c17
    have H1 := H
    rw [if_pos rfl] at H1
    clear H
    have H := H1
    clear H1
    obtain rfl := Option.some.inj H
    go_wp2
    go_ret
    exact ⟨mEw, (mH1 HB.out GE121.out)⟩
   ·replace c17 := Bool.eq_false_iff.mpr c17
    subst c17
    have H1 := H
    rw [if_neg (show ¬ (false = true) by decide)] at H1
    clear H
    have H := H1
    clear H1
    have H' := mS H
    clear H
    go_wp2
    go_loopg [3] kj1 (fun kq v3 w' => ∃ (x3_2 : Int), v3 = .int .i64 x3_2 ∧ Aside0 (spec_l8Item.l0 kq x3_2 a0_0 a0_1 l0_2 = some r) ∧ Aside0 (kq ≤ kj1) ∧ Aside0 (w'.heap[gb121]? = some (.cells #[.int .i64 a0_0, .int .i64 a0_1, (.slice A0_2 l0_2.length c0_2)] 33 (0, 0))) ∧ Aside0 (Below w.heap.size w w'))
    case atStart => exact ⟨(0), mE, H', ⟨Nat.le_refl _⟩, ⟨mK BK121.out⟩, ⟨(mH1 HB.out GE121.out)⟩⟩
    case round =>
     clear H'
     try clear c1
     try clear p2
     try clear c5
     try clear c6
     try clear c6b0
     try clear c6b1
     try clear c11
     try clear c12
     try clear c17
     try clear hcz11_0
     try clear hcz11_1
     try clear hcz11_2
     try clear hcz13_0
     try clear hcz13_1
     try clear hcz13_2
     try clear hcz15_0
     try clear hcz15_1
     try clear hcz15_2
     try clear hcz7_0
     try clear hcz7_1
     try clear hcz7_2
     try clear hcz9_0
     try clear hcz9_1
     try clear hcz9_2
     try clear hfz11_0
     try clear hfz11_1
     try clear hfz11_2
     try clear hfz13_0
     try clear hfz13_1
     try clear hfz13_2
     try clear hfz15_0
     try clear hfz15_1
     try clear hfz15_2
     try clear hfz7_0
     try clear hfz7_1
     try clear hfz7_2
     try clear hfz9_0
     try clear hfz9_1
     try clear hfz9_2
     try clear p2
     obtain ⟨x3_2, rfl, HA, HK2, BK121, HB⟩ := hrel
     cases gk with
     | zero => exact absurd HA.out (by simp [spec_l8Item.l0])
     | succ k2 =>
      have H := HA.out
      clear HA
      simp only [spec_l8Item.l0] at H
      by_cases c18 : x3_2 < (l0_2.length : Int)
      ·rw [if_pos c18] at H
       have c18b0 := decide_eq_true c18
       clear c18
       by_cases c19 : 0 ≤ x3_2
       ·rw [if_pos c19] at H
        have c19b0 := decide_eq_true c19
        clear c19
        replace H := Option.bind_eq_some_iff.mp H
        obtain ⟨t125, A200, H⟩ := H
        replace H : (if t125 = true then (if x3_2 > 0 then (if 0 ≤ (wrap64 (x3_2 - 1)) then (if (wrap64 (x3_2 - 1)) < (l0_2.length : Int) then ((spec_DotLess.f ((rd_T31 l0_2 (wrap64 (x3_2 - 1))).f0) ((rd_T31 l0_2 (wrap64 (x3_2 - 1))).f1) ((rd_T31 l0_2 x3_2).f0) ((rd_T31 l0_2 x3_2).f1)).bind fun t128 => (if t128 = true then (spec_l8Item.l0 k2 (wrap64 (x3_2 + 1)) a0_0 a0_1 l0_2) else (some false))) else (none)) else (none)) else (spec_l8Item.l0 k2 (wrap64 (x3_2 + 1)) a0_0 a0_1 l0_2)) else (some false)) = some r := H
        have A20 := mS A200
        clear A200
        by_cases c21 : t125 = true
        ·subst c21
         have H1 := H
         rw [if_pos rfl] at H1
         clear H
         have H := H1
         clear H1
         by_cases c22 : x3_2 > 0
         ·rw [if_pos c22] at H
          have c22b0 : decide (0 < x3_2) = true := decide_eq_true c22
          clear c22
          obtain ⟨ji23, hji23⟩ : ∃ j_ : Int, (wrap64 (x3_2 - 1)) = j_ := ⟨_, rfl⟩
          replace H : (if 0 ≤ (ji23) then (if (ji23) < (l0_2.length : Int) then ((spec_DotLess.f ((rd_T31 l0_2 (ji23)).f0) ((rd_T31 l0_2 (ji23)).f1) ((rd_T31 l0_2 x3_2).f0) ((rd_T31 l0_2 x3_2).f1)).bind fun t128 => (if t128 = true then (spec_l8Item.l0 k2 (wrap64 (x3_2 + 1)) a0_0 a0_1 l0_2) else (some false))) else (none)) else (none)) = some r := by first | (rw [hji23] at H; exact H) | (simp only [hji23] at H ⊢; exact H)
          (try rw [hji23] at A20)
          have hji23w : (IntKind.i64.wrap (x3_2 - 1)) = ji23 := (i64_w _).trans hji23
          by_cases c24 : 0 ≤ (ji23)
          ·rw [if_pos c24] at H
           have c24b0 := decide_eq_true c24
           clear c24
           by_cases c25 : (ji23) < (l0_2.length : Int)
           ·rw [if_pos c25] at H
            have c25b0 := decide_eq_true c25
            clear c25
            replace H := Option.bind_eq_some_iff.mp H
            obtain ⟨t128, A260, H⟩ := H
            replace H : (if t128 = true then (spec_l8Item.l0 k2 (wrap64 (x3_2 + 1)) a0_0 a0_1 l0_2) else (some false)) = some r := H
            have A26 := mS A260
            clear A260
            by_cases c27 : t128 = true
            ·subst c27
             have H1 := H
             rw [if_pos rfl] at H1
             clear H
             have H := H1
             clear H1
             have H' := mS H
             clear H
             obtain ⟨hcz28_0, hcz28_1, hcz28_2, hfz28_0, hfz28_1, hfz28_2⟩ := mZ3 BK121.out
             try go_wp2
             replace BK121 := mS (blk_drew BK121.out)
             replace HB := mS (below_drew1 HB.out)
             have p124 : 0 ≤ (x3_2 : Int) := mD
             have q124 : x3_2 < (l0_2.length : Int) := mD
             obtain ⟨ad124, e124, hx124_0, hx124_1⟩ := at_T31 HR0_2.out x3_2 p124 q124
             have hw124_1 := hx124_1
             have hw124_0 := hx124_0
             cases e124
             replace hx124_0 := mX HB.out hx124_0
             replace hx124_1 := mX HB.out hx124_1
             replace p124 := eq_true p124
             replace q124 := eq_true q124
             have p126 : 0 ≤ ((ji23) : Int) := mD
             have q126 : (ji23) < (l0_2.length : Int) := mD
             obtain ⟨ad126, e126, hx126_0, hx126_1⟩ := at_T31 HR0_2.out (ji23) p126 q126
             have hw126_1 := hx126_1
             have hw126_0 := hx126_0
             obtain rfl : ad124 = ad126 := (by injection e126)
             replace hx126_0 := mX HB.out hx126_0
             replace hx126_1 := mX HB.out hx126_1
             replace p126 := eq_true p126
             replace q126 := eq_true q126
             have p127 : 0 ≤ (x3_2 : Int) := mD
             have q127 : x3_2 < (l0_2.length : Int) := mD
             obtain ⟨ad127, e127, hx127_0, hx127_1⟩ := at_T31 HR0_2.out x3_2 p127 q127
             have hw127_1 := hx127_1
             have hw127_0 := hx127_0
             obtain rfl : ad124 = ad127 := (by injection e127)
             replace hx127_0 := mX HB.out hx127_0
             replace hx127_1 := mX HB.out hx127_1
             replace p127 := eq_true p127
             replace q127 := eq_true q127
             refine start_ (n := 26) (S := fun w' => w'.cell? ⟨gb121, 0, none⟩ = some (.int .i64 a0_0) ∧ w'.cell? ⟨gb121, 1, none⟩ = some (.int .i64 a0_1) ∧ w'.cell? ⟨gb121, 2, none⟩ = some (.slice (some ad124) l0_2.length c0_2) ∧ w'.cell? (ad124.add ((x3_2).toNat * 2)) = some (.int .i64 ((rd_T31 l0_2 x3_2).f0)) ∧ w'.cell? ⟨(ad124.add ((x3_2).toNat * 2)).block, (ad124.add ((x3_2).toNat * 2)).off + 1, none⟩ = some (.int .i64 ((rd_T31 l0_2 x3_2).f1)) ∧ w'.cell? (ad124.add (((ji23)).toNat * 2)) = some (.int .i64 ((rd_T31 l0_2 (ji23)).f0)) ∧ w'.cell? ⟨(ad124.add (((ji23)).toNat * 2)).block, (ad124.add (((ji23)).toNat * 2)).off + 1, none⟩ = some (.int .i64 ((rd_T31 l0_2 (ji23)).f1)) ∧ w'.cell? (ad124.add ((x3_2).toNat * 2)) = some (.int .i64 ((rd_T31 l0_2 x3_2).f0)) ∧ w'.cell? ⟨(ad124.add ((x3_2).toNat * 2)).block, (ad124.add ((x3_2).toNat * 2)).off + 1, none⟩ = some (.int .i64 ((rd_T31 l0_2 x3_2).f1))) (ds := []) (mb 0 26) (by kernel_rfl) rfl rfl (mb3 BK121.out ⟨(mX HB.out hw124_0 :), ⟨(mX HB.out hw124_1 :), ⟨(mX HB.out hw126_0 :), ⟨(mX HB.out hw126_1 :), ⟨(mX HB.out hw127_0 :), (mX HB.out hw127_1 :)⟩⟩⟩⟩⟩) (fun hHeld => ?_); refine with_tabW spec_l8Item.tab6 spec_l8Item.bits6 (fun HT_ HW_ => ?_)
             generalize wr.drew = w29 at BK121 HB hx124_0 hx124_1 hx126_0 hx126_1 hx127_0 hx127_1 hHeld ⊢
             refine mpu 0 28 HT_.out (mb 1 25) ?_
             refine mpu 2 30 HT_.out (mr [1,1,1,23]) ?_
             refine mpt 1 29 HT_.out HW_.out (mb 3 23) hHeld ?_
             refine mpu 3 31 HT_.out (mb 4 22) ?_
             refine mpt 4 32 HT_.out HW_.out (mb 5 21) hHeld ?_
             refine mone 5 (some 33) HT_.out (mb 6 20) (fun K hK => ?_)
             refine goes_ Try.func126 (by kernel_rfl) rfl #[.agg #[.int .i64 ((rd_T31 l0_2 x3_2).f0), .int .i64 ((rd_T31 l0_2 x3_2).f1)]] (by rfl) rfl rfl mA ?_
             with_reducible refine (spec_DotOk.calls ((rd_T31 l0_2 x3_2).f0) ((rd_T31 l0_2 x3_2).f1) true _ A20.out).mono ?_
             rintro e w30 ⟨rfl, hb⟩
             refine ⟨_, rfl, ?_⟩
             replace BK121 := mB BK121 hb
             replace HB := mS (below_step (mH1 HB.out GE121.out) hb)
             (try clear hb)
             (try clear hb2)
             (try clear hk)
             (try clear hi)
             refine hK.out _ _ (mb3 BK121.out ⟨(mX HB.out hw124_0 :), ⟨(mX HB.out hw124_1 :), ⟨(mX HB.out hw126_0 :), ⟨(mX HB.out hw126_1 :), ⟨(mX HB.out hw127_0 :), (mX HB.out hw127_1 :)⟩⟩⟩⟩⟩) (fun hHeld => ?_)
             clear hK K
             refine mno 33 ?_
             refine mpu 6 34 HT_.out (mb 7 19) ?_
             refine mpu 7 35 HT_.out (mb 8 18) ?_
             refine mpu 8 36 HT_.out (mb 9 17) ?_
             refine mpu 9 37 HT_.out (mb 10 16) ?_
             refine mpu 10 38 HT_.out (mb 11 15) ?_
             refine mpu 11 39 HT_.out (mb 12 14) ?_
             refine mpu 13 41 HT_.out (mr [12,1,1,12]) ?_
             refine mpu 14 42 HT_.out (mr [12,1,2,11]) ?_
             refine mpu 17 45 HT_.out (mr [12,1,2,2,1,8]) ?_
             refine mpu 19 47 HT_.out (mr [12,1,2,2,1,1,1,6]) ?_
             refine mpt 12 40 HT_.out HW_.out (mr [15,2,1,1,1,6]) hHeld ?_
             refine mpu 15 43 HT_.out (mr [16,1,1,1,1,6]) ?_
             refine mpt 16 44 HT_.out HW_.out (mr [18,1,1,6]) hHeld ?_
             refine mpt 18 46 HT_.out HW_.out (mb 20 6) hHeld ?_
             refine mpu 20 48 HT_.out (mb 21 5) ?_
             refine mpt 21 49 HT_.out HW_.out (mb 22 4) hHeld ?_
             refine mone 22 (some 50) HT_.out (mb 23 3) (fun K hK => ?_)
             refine goes_ Try.func70 (by kernel_rfl) rfl #[.agg #[.int .i64 ((rd_T31 l0_2 (ji23)).f0), .int .i64 ((rd_T31 l0_2 (ji23)).f1)], .agg #[.int .i64 ((rd_T31 l0_2 x3_2).f0), .int .i64 ((rd_T31 l0_2 x3_2).f1)]] (by rfl) rfl rfl (by (try simp only [List.map_toArray, List.map_cons, List.map_nil]); first | done | (simp only [hji23]; rfl) | rfl | (simp only [List.length_drop, List.length_take]; rfl)) ?_
             with_reducible refine (spec_DotLess.calls ((rd_T31 l0_2 (ji23)).f0) ((rd_T31 l0_2 (ji23)).f1) ((rd_T31 l0_2 x3_2).f0) ((rd_T31 l0_2 x3_2).f1) true _ A26.out).mono ?_
             rintro e w31 ⟨rfl, hb⟩
             refine ⟨_, rfl, ?_⟩
             replace BK121 := mB BK121 hb
             replace HB := mS (below_step (mH1 HB.out GE121.out) hb)
             (try clear hb)
             (try clear hb2)
             (try clear hk)
             (try clear hi)
             refine hK.out _ _ (mb3 BK121.out ⟨(mX HB.out hw124_0 :), ⟨(mX HB.out hw124_1 :), ⟨(mX HB.out hw126_0 :), ⟨(mX HB.out hw126_1 :), ⟨(mX HB.out hw127_0 :), (mX HB.out hw127_1 :)⟩⟩⟩⟩⟩) (fun hHeld => ?_)
             clear hK K
             refine mno 50 ?_
             refine mpu 23 51 HT_.out (mb 24 2) ?_
             refine mpu 24 52 HT_.out (mb 25 1) ?_
             refine mpu 25 53 HT_.out (mb 26 0) ?_
             refine done_ (done_of HT_.out (by kernel_rfl)) ?_
             try go_wp2
             go_roundg k2
             case measure => have := HJ1.out; have := HK2.out; omega
             case rel => exact ⟨(wrap64 (x3_2 + 1)), mE, H', ⟨by have := HJ1.out; have := HK2.out; omega⟩, ⟨mK BK121.out⟩, ⟨(mH1 HB.out GE121.out)⟩⟩
            ·replace c27 := Bool.eq_false_iff.mpr c27
             subst c27
             have H1 := H
             rw [if_neg (show ¬ (false = true) by decide)] at H1
             clear H
             have H := H1
             clear H1
             obtain rfl := Option.some.inj H
             obtain ⟨hcz32_0, hcz32_1, hcz32_2, hfz32_0, hfz32_1, hfz32_2⟩ := mZ3 BK121.out
             try go_wp2
             replace BK121 := mS (blk_drew BK121.out)
             replace HB := mS (below_drew1 HB.out)
             have p124 : 0 ≤ (x3_2 : Int) := mD
             have q124 : x3_2 < (l0_2.length : Int) := mD
             obtain ⟨ad124, e124, hx124_0, hx124_1⟩ := at_T31 HR0_2.out x3_2 p124 q124
             have hw124_1 := hx124_1
             have hw124_0 := hx124_0
             cases e124
             replace hx124_0 := mX HB.out hx124_0
             replace hx124_1 := mX HB.out hx124_1
             replace p124 := eq_true p124
             replace q124 := eq_true q124
             have p126 : 0 ≤ ((ji23) : Int) := mD
             have q126 : (ji23) < (l0_2.length : Int) := mD
             obtain ⟨ad126, e126, hx126_0, hx126_1⟩ := at_T31 HR0_2.out (ji23) p126 q126
             have hw126_1 := hx126_1
             have hw126_0 := hx126_0
             obtain rfl : ad124 = ad126 := (by injection e126)
             replace hx126_0 := mX HB.out hx126_0
             replace hx126_1 := mX HB.out hx126_1
             replace p126 := eq_true p126
             replace q126 := eq_true q126
             have p127 : 0 ≤ (x3_2 : Int) := mD
             have q127 : x3_2 < (l0_2.length : Int) := mD
             obtain ⟨ad127, e127, hx127_0, hx127_1⟩ := at_T31 HR0_2.out x3_2 p127 q127
             have hw127_1 := hx127_1
             have hw127_0 := hx127_0
             obtain rfl : ad124 = ad127 := (by injection e127)
             replace hx127_0 := mX HB.out hx127_0
             replace hx127_1 := mX HB.out hx127_1
             replace p127 := eq_true p127
             replace q127 := eq_true q127
             refine start_ (n := 26) (S := fun w' => w'.cell? ⟨gb121, 0, none⟩ = some (.int .i64 a0_0) ∧ w'.cell? ⟨gb121, 1, none⟩ = some (.int .i64 a0_1) ∧ w'.cell? ⟨gb121, 2, none⟩ = some (.slice (some ad124) l0_2.length c0_2) ∧ w'.cell? (ad124.add ((x3_2).toNat * 2)) = some (.int .i64 ((rd_T31 l0_2 x3_2).f0)) ∧ w'.cell? ⟨(ad124.add ((x3_2).toNat * 2)).block, (ad124.add ((x3_2).toNat * 2)).off + 1, none⟩ = some (.int .i64 ((rd_T31 l0_2 x3_2).f1)) ∧ w'.cell? (ad124.add (((ji23)).toNat * 2)) = some (.int .i64 ((rd_T31 l0_2 (ji23)).f0)) ∧ w'.cell? ⟨(ad124.add (((ji23)).toNat * 2)).block, (ad124.add (((ji23)).toNat * 2)).off + 1, none⟩ = some (.int .i64 ((rd_T31 l0_2 (ji23)).f1)) ∧ w'.cell? (ad124.add ((x3_2).toNat * 2)) = some (.int .i64 ((rd_T31 l0_2 x3_2).f0)) ∧ w'.cell? ⟨(ad124.add ((x3_2).toNat * 2)).block, (ad124.add ((x3_2).toNat * 2)).off + 1, none⟩ = some (.int .i64 ((rd_T31 l0_2 x3_2).f1))) (ds := []) (mb 0 26) (by kernel_rfl) rfl rfl (mb3 BK121.out ⟨(mX HB.out hw124_0 :), ⟨(mX HB.out hw124_1 :), ⟨(mX HB.out hw126_0 :), ⟨(mX HB.out hw126_1 :), ⟨(mX HB.out hw127_0 :), (mX HB.out hw127_1 :)⟩⟩⟩⟩⟩) (fun hHeld => ?_); refine with_tabW spec_l8Item.tab6 spec_l8Item.bits6 (fun HT_ HW_ => ?_)
             generalize wr.drew = w33 at BK121 HB hx124_0 hx124_1 hx126_0 hx126_1 hx127_0 hx127_1 hHeld ⊢
             refine mpu 0 28 HT_.out (mb 1 25) ?_
             refine mpu 2 30 HT_.out (mr [1,1,1,23]) ?_
             refine mpt 1 29 HT_.out HW_.out (mb 3 23) hHeld ?_
             refine mpu 3 31 HT_.out (mb 4 22) ?_
             refine mpt 4 32 HT_.out HW_.out (mb 5 21) hHeld ?_
             refine mone 5 (some 33) HT_.out (mb 6 20) (fun K hK => ?_)
             refine goes_ Try.func126 (by kernel_rfl) rfl #[.agg #[.int .i64 ((rd_T31 l0_2 x3_2).f0), .int .i64 ((rd_T31 l0_2 x3_2).f1)]] (by rfl) rfl rfl mA ?_
             with_reducible refine (spec_DotOk.calls ((rd_T31 l0_2 x3_2).f0) ((rd_T31 l0_2 x3_2).f1) true _ A20.out).mono ?_
             rintro e w34 ⟨rfl, hb⟩
             refine ⟨_, rfl, ?_⟩
             replace BK121 := mB BK121 hb
             replace HB := mS (below_step (mH1 HB.out GE121.out) hb)
             (try clear hb)
             (try clear hb2)
             (try clear hk)
             (try clear hi)
             refine hK.out _ _ (mb3 BK121.out ⟨(mX HB.out hw124_0 :), ⟨(mX HB.out hw124_1 :), ⟨(mX HB.out hw126_0 :), ⟨(mX HB.out hw126_1 :), ⟨(mX HB.out hw127_0 :), (mX HB.out hw127_1 :)⟩⟩⟩⟩⟩) (fun hHeld => ?_)
             clear hK K
             refine mno 33 ?_
             refine mpu 6 34 HT_.out (mb 7 19) ?_
             refine mpu 7 35 HT_.out (mb 8 18) ?_
             refine mpu 8 36 HT_.out (mb 9 17) ?_
             refine mpu 9 37 HT_.out (mb 10 16) ?_
             refine mpu 10 38 HT_.out (mb 11 15) ?_
             refine mpu 11 39 HT_.out (mb 12 14) ?_
             refine mpu 13 41 HT_.out (mr [12,1,1,12]) ?_
             refine mpu 14 42 HT_.out (mr [12,1,2,11]) ?_
             refine mpu 17 45 HT_.out (mr [12,1,2,2,1,8]) ?_
             refine mpu 19 47 HT_.out (mr [12,1,2,2,1,1,1,6]) ?_
             refine mpt 12 40 HT_.out HW_.out (mr [15,2,1,1,1,6]) hHeld ?_
             refine mpu 15 43 HT_.out (mr [16,1,1,1,1,6]) ?_
             refine mpt 16 44 HT_.out HW_.out (mr [18,1,1,6]) hHeld ?_
             refine mpt 18 46 HT_.out HW_.out (mb 20 6) hHeld ?_
             refine mpu 20 48 HT_.out (mb 21 5) ?_
             refine mpt 21 49 HT_.out HW_.out (mb 22 4) hHeld ?_
             refine mone 22 (some 50) HT_.out (mb 23 3) (fun K hK => ?_)
             refine goes_ Try.func70 (by kernel_rfl) rfl #[.agg #[.int .i64 ((rd_T31 l0_2 (ji23)).f0), .int .i64 ((rd_T31 l0_2 (ji23)).f1)], .agg #[.int .i64 ((rd_T31 l0_2 x3_2).f0), .int .i64 ((rd_T31 l0_2 x3_2).f1)]] (by rfl) rfl rfl (by (try simp only [List.map_toArray, List.map_cons, List.map_nil]); first | done | (simp only [hji23]; rfl) | rfl | (simp only [List.length_drop, List.length_take]; rfl)) ?_
             with_reducible refine (spec_DotLess.calls ((rd_T31 l0_2 (ji23)).f0) ((rd_T31 l0_2 (ji23)).f1) ((rd_T31 l0_2 x3_2).f0) ((rd_T31 l0_2 x3_2).f1) false _ A26.out).mono ?_
             rintro e w35 ⟨rfl, hb⟩
             refine ⟨_, rfl, ?_⟩
             replace BK121 := mB BK121 hb
             replace HB := mS (below_step (mH1 HB.out GE121.out) hb)
             (try clear hb)
             (try clear hb2)
             (try clear hk)
             (try clear hi)
             refine hK.out _ _ (mb3 BK121.out ⟨(mX HB.out hw124_0 :), ⟨(mX HB.out hw124_1 :), ⟨(mX HB.out hw126_0 :), ⟨(mX HB.out hw126_1 :), ⟨(mX HB.out hw127_0 :), (mX HB.out hw127_1 :)⟩⟩⟩⟩⟩) (fun hHeld => ?_)
             clear hK K
             refine mno 50 ?_
             refine mpu 23 51 HT_.out (mb 24 2) ?_
             refine mpu 24 52 HT_.out (mb 25 1) ?_
             refine mpu 25 53 HT_.out (mb 26 0) ?_
             refine done_ (done_of HT_.out (by kernel_rfl)) ?_
             try go_wp2
             go_ret
             exact ⟨by first | rfl | (simp [errW_none, errW_some] <;> rfl) | (simp only [← hji23]; first | rfl | (simp [errW_none, errW_some] <;> rfl)) | (simp [*, errW_none, errW_some] <;> rfl), (mH1 HB.out GE121.out)⟩
           ·rw [if_neg c25] at H
            exact absurd H (by simp)
          ·rw [if_neg c24] at H
           exact absurd H (by simp)
         ·rw [if_neg c22] at H
          have c22b0 : decide (0 < x3_2) = false := decide_eq_false c22
          clear c22
          have H' := mS H
          clear H
          obtain ⟨hcz36_0, hcz36_1, hcz36_2, hfz36_0, hfz36_1, hfz36_2⟩ := mZ3 BK121.out
          try go_wp2
          replace BK121 := mS (blk_drew BK121.out)
          replace HB := mS (below_drew1 HB.out)
          have p124 : 0 ≤ (x3_2 : Int) := mD
          have q124 : x3_2 < (l0_2.length : Int) := mD
          obtain ⟨ad124, e124, hx124_0, hx124_1⟩ := at_T31 HR0_2.out x3_2 p124 q124
          have hw124_1 := hx124_1
          have hw124_0 := hx124_0
          cases e124
          replace hx124_0 := mX HB.out hx124_0
          replace hx124_1 := mX HB.out hx124_1
          replace p124 := eq_true p124
          replace q124 := eq_true q124
          refine start_ (n := 26) (S := fun w' => w'.cell? ⟨gb121, 0, none⟩ = some (.int .i64 a0_0) ∧ w'.cell? ⟨gb121, 1, none⟩ = some (.int .i64 a0_1) ∧ w'.cell? ⟨gb121, 2, none⟩ = some (.slice (some ad124) l0_2.length c0_2) ∧ w'.cell? (ad124.add ((x3_2).toNat * 2)) = some (.int .i64 ((rd_T31 l0_2 x3_2).f0)) ∧ w'.cell? ⟨(ad124.add ((x3_2).toNat * 2)).block, (ad124.add ((x3_2).toNat * 2)).off + 1, none⟩ = some (.int .i64 ((rd_T31 l0_2 x3_2).f1))) (ds := []) (mb 0 26) (by kernel_rfl) rfl rfl (mb3 BK121.out ⟨(mX HB.out hw124_0 :), (mX HB.out hw124_1 :)⟩) (fun hHeld => ?_); refine with_tabW spec_l8Item.tab6 spec_l8Item.bits6 (fun HT_ HW_ => ?_)
          generalize wr.drew = w37 at BK121 HB hx124_0 hx124_1 hHeld ⊢
          refine mpu 0 28 HT_.out (mb 1 25) ?_
          refine mpu 2 30 HT_.out (mr [1,1,1,23]) ?_
          refine mpt 1 29 HT_.out HW_.out (mb 3 23) hHeld ?_
          refine mpu 3 31 HT_.out (mb 4 22) ?_
          refine mpt 4 32 HT_.out HW_.out (mb 5 21) hHeld ?_
          refine mone 5 (some 33) HT_.out (mb 6 20) (fun K hK => ?_)
          refine goes_ Try.func126 (by kernel_rfl) rfl #[.agg #[.int .i64 ((rd_T31 l0_2 x3_2).f0), .int .i64 ((rd_T31 l0_2 x3_2).f1)]] (by rfl) rfl rfl mA ?_
          with_reducible refine (spec_DotOk.calls ((rd_T31 l0_2 x3_2).f0) ((rd_T31 l0_2 x3_2).f1) true _ A20.out).mono ?_
          rintro e w38 ⟨rfl, hb⟩
          refine ⟨_, rfl, ?_⟩
          replace BK121 := mB BK121 hb
          replace HB := mS (below_step (mH1 HB.out GE121.out) hb)
          (try clear hb)
          (try clear hb2)
          (try clear hk)
          (try clear hi)
          refine hK.out _ _ (mb3 BK121.out ⟨(mX HB.out hw124_0 :), (mX HB.out hw124_1 :)⟩) (fun hHeld => ?_)
          clear hK K
          refine mno 33 ?_
          refine mpu 6 34 HT_.out (mb 7 19) ?_
          refine mpu 7 35 HT_.out (mb 8 18) ?_
          refine mpu 8 36 HT_.out (mb 9 17) ?_
          refine mpu 9 37 HT_.out (mb 10 16) ?_
          refine mpu 10 38 HT_.out (mb 11 15) ?_
          refine mpf 11 39 HT_.out (mb 12 14) ?_
          refine mpf 12 40 HT_.out (mb 13 13) ?_
          refine mpf 13 41 HT_.out (mb 14 12) ?_
          refine mpf 14 42 HT_.out (mb 15 11) ?_
          refine mpf 15 43 HT_.out (mb 16 10) ?_
          refine mpf 16 44 HT_.out (mb 17 9) ?_
          refine mpf 17 45 HT_.out (mb 18 8) ?_
          refine mpf 18 46 HT_.out (mb 19 7) ?_
          refine mpf 19 47 HT_.out (mb 20 6) ?_
          refine mpf 20 48 HT_.out (mb 21 5) ?_
          refine mpf 21 49 HT_.out (mb 22 4) ?_
          refine mpf 22 50 HT_.out (mb 23 3) ?_
          refine mpf 23 51 HT_.out (mb 24 2) ?_
          refine mpu 24 52 HT_.out (mb 25 1) ?_
          refine mpu 25 53 HT_.out (mb 26 0) ?_
          refine done_ (done_of HT_.out (by kernel_rfl)) ?_
          try go_wp2
          go_roundg k2
          case measure => have := HJ1.out; have := HK2.out; omega
          case rel => exact ⟨(wrap64 (x3_2 + 1)), mE, H', ⟨by have := HJ1.out; have := HK2.out; omega⟩, ⟨mK BK121.out⟩, ⟨(mH1 HB.out GE121.out)⟩⟩
        ·replace c21 := Bool.eq_false_iff.mpr c21
         subst c21
         have H1 := H
         rw [if_neg (show ¬ (false = true) by decide)] at H1
         clear H
         have H := H1
         clear H1
         obtain rfl := Option.some.inj H
         obtain ⟨hcz39_0, hcz39_1, hcz39_2, hfz39_0, hfz39_1, hfz39_2⟩ := mZ3 BK121.out
         try go_wp2
         replace BK121 := mS (blk_drew BK121.out)
         replace HB := mS (below_drew1 HB.out)
         have p124 : 0 ≤ (x3_2 : Int) := mD
         have q124 : x3_2 < (l0_2.length : Int) := mD
         obtain ⟨ad124, e124, hx124_0, hx124_1⟩ := at_T31 HR0_2.out x3_2 p124 q124
         have hw124_1 := hx124_1
         have hw124_0 := hx124_0
         cases e124
         replace hx124_0 := mX HB.out hx124_0
         replace hx124_1 := mX HB.out hx124_1
         replace p124 := eq_true p124
         replace q124 := eq_true q124
         refine start_ (n := 26) (S := fun w' => w'.cell? ⟨gb121, 0, none⟩ = some (.int .i64 a0_0) ∧ w'.cell? ⟨gb121, 1, none⟩ = some (.int .i64 a0_1) ∧ w'.cell? ⟨gb121, 2, none⟩ = some (.slice (some ad124) l0_2.length c0_2) ∧ w'.cell? (ad124.add ((x3_2).toNat * 2)) = some (.int .i64 ((rd_T31 l0_2 x3_2).f0)) ∧ w'.cell? ⟨(ad124.add ((x3_2).toNat * 2)).block, (ad124.add ((x3_2).toNat * 2)).off + 1, none⟩ = some (.int .i64 ((rd_T31 l0_2 x3_2).f1))) (ds := []) (mb 0 26) (by kernel_rfl) rfl rfl (mb3 BK121.out ⟨(mX HB.out hw124_0 :), (mX HB.out hw124_1 :)⟩) (fun hHeld => ?_); refine with_tabW spec_l8Item.tab6 spec_l8Item.bits6 (fun HT_ HW_ => ?_)
         generalize wr.drew = w40 at BK121 HB hx124_0 hx124_1 hHeld ⊢
         refine mpu 0 28 HT_.out (mb 1 25) ?_
         refine mpu 2 30 HT_.out (mr [1,1,1,23]) ?_
         refine mpt 1 29 HT_.out HW_.out (mb 3 23) hHeld ?_
         refine mpu 3 31 HT_.out (mb 4 22) ?_
         refine mpt 4 32 HT_.out HW_.out (mb 5 21) hHeld ?_
         refine mone 5 (some 33) HT_.out (mb 6 20) (fun K hK => ?_)
         refine goes_ Try.func126 (by kernel_rfl) rfl #[.agg #[.int .i64 ((rd_T31 l0_2 x3_2).f0), .int .i64 ((rd_T31 l0_2 x3_2).f1)]] (by rfl) rfl rfl mA ?_
         with_reducible refine (spec_DotOk.calls ((rd_T31 l0_2 x3_2).f0) ((rd_T31 l0_2 x3_2).f1) false _ A20.out).mono ?_
         rintro e w41 ⟨rfl, hb⟩
         refine ⟨_, rfl, ?_⟩
         replace BK121 := mB BK121 hb
         replace HB := mS (below_step (mH1 HB.out GE121.out) hb)
         (try clear hb)
         (try clear hb2)
         (try clear hk)
         (try clear hi)
         refine hK.out _ _ (mb3 BK121.out ⟨(mX HB.out hw124_0 :), (mX HB.out hw124_1 :)⟩) (fun hHeld => ?_)
         clear hK K
         refine mno 33 ?_
         refine mpu 6 34 HT_.out (mb 7 19) ?_
         refine mpu 7 35 HT_.out (mb 8 18) ?_
         refine mpf 8 36 HT_.out (mb 9 17) ?_
         refine mpf 9 37 HT_.out (mb 10 16) ?_
         refine mpf 10 38 HT_.out (mb 11 15) ?_
         refine mpf 11 39 HT_.out (mb 12 14) ?_
         refine mpf 12 40 HT_.out (mb 13 13) ?_
         refine mpf 13 41 HT_.out (mb 14 12) ?_
         refine mpf 14 42 HT_.out (mb 15 11) ?_
         refine mpf 15 43 HT_.out (mb 16 10) ?_
         refine mpf 16 44 HT_.out (mb 17 9) ?_
         refine mpf 17 45 HT_.out (mb 18 8) ?_
         refine mpf 18 46 HT_.out (mb 19 7) ?_
         refine mpf 19 47 HT_.out (mb 20 6) ?_
         refine mpf 20 48 HT_.out (mb 21 5) ?_
         refine mpf 21 49 HT_.out (mb 22 4) ?_
         refine mpf 22 50 HT_.out (mb 23 3) ?_
         refine mpf 23 51 HT_.out (mb 24 2) ?_
         refine mpf 24 52 HT_.out (mb 25 1) ?_
         refine mpu 25 53 HT_.out (mb 26 0) ?_
         refine done_ (done_of HT_.out (by kernel_rfl)) ?_
         try go_wp2
         go_ret
         exact ⟨mEw, (mH1 HB.out GE121.out)⟩
       ·rw [if_neg c19] at H
        exact absurd H (by simp)
      ·rw [if_neg c18] at H
       have c18b0 := decide_eq_false c18
       clear c18
       obtain rfl := Option.some.inj H
       obtain ⟨hcz42_0, hcz42_1, hcz42_2, hfz42_0, hfz42_1, hfz42_2⟩ := mZ3 BK121.out
       go_wp2
       go_ret
       exact ⟨mEw, (mH1 HB.out GE121.out)⟩

end Go.Proofs.Ytgbejjeephipeaa.MFnStable
