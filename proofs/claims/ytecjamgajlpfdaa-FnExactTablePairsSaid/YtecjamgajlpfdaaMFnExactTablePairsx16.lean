-- Written by mp.py, this session's own printer (wip/mp.py).
import Derived.Test.YtecjamgajlpfdaaVMShort
import Derived.Test.YtecjamgajlpfdaaMFnExactTablePairsx0
import Derived.Test.YtecjamgajlpfdaaMFnExactTablePairsx9
import Derived.Test.YtecjamgajlpfdaaMFnExactTablePairsx12
import Derived.Test.YtecjamgajlpfdaaMFnExactTablePairsx13
import Derived.Test.YtecjamgajlpfdaaMFnExactTablePairsx14
import Derived.Test.YtecjamgajlpfdaaMFnExactTablePairsx15
namespace Go.Proofs.Ytecjamgajlpfdaa.MFnExactTablePairs
open Go.RowKit Go.Proofs.YtecjamgajlpfdaaW.PrintWords Go.Proofs.YtecjamgajlpfdaaW.PrintLast Go.Proofs.YtecjamgajlpfdaaW.PrintMore Go.Proofs.Ytecjamgajlpfdaa.MWords
attribute [local go_sem] max2_int min2_int max_two min_two max_three min_three max_four min_four   -- for this text's walks alone
set_option linter.unusedVariables false
set_option linter.unusedSimpArgs false

/-! ### impl_PutTable: function 47 -/
mutual
def impl_PutTable.j0 : Nat → List (S87) → Bool → Option (List Int)
 | 0, _, _ => none
 | k + 1, x0, x21 => if x21 = true then (some ([] : List Int)) else (impl_PutTable.l0 k x0 ([] : List Int) ([] : List Int) 0 0)
def impl_PutTable.l0 : Nat → List (S87) → List Int → List Int → Int → Int → Option (List Int)
 | 0, _, _, _, _, _ => none
 | k + 1, x0, x3, x4, x6, x7 => if x7 < (x0.length : Int) then (if 0 ≤ x7 then (if x7 ≤ (mn (wrap64 (x7 + 4)) (x0.length : Int)) then (if (mn (wrap64 (x7 + 4)) (x0.length : Int)) ≤ (x0.length : Int) then ((some ((x0.take ((mn (wrap64 (x7 + 4)) (x0.length : Int)) : Int).toNat).drop (x7 : Int).toNat : List (S87))).bind fun y532 => (if 0 ≤ (wrap64 ((y532.length : Int) - 1)) then (if (wrap64 ((y532.length : Int) - 1)) < (y532.length : Int) then ((impl_addText.f k x4 ((rd_T87 y532 (wrap64 ((y532.length : Int) - 1))).f0)).bind fun t537 => ((impl_addNum.f k t537 (x3.length : Int)).bind fun t540 => ((impl_putBlock.f k y532).bind fun t543 => (if x3.length + t543.length < 140737488355328 then (impl_PutTable.l0 k x0 (x3 ++ t543) t540 (wrap64 (x6 + 1)) (wrap64 (x7 + 4))) else (none))))) else (none)) else (none))) else (none)) else (none)) else (none)) else (impl_PutTable.l1 k x3 x4 ([] : List ByteArray) x6 x0 (x0.length : Int) 0)
def impl_PutTable.l1 : Nat → List Int → List Int → List ByteArray → Int → List (S87) → Int → Int → Option (List Int)
 | 0, _, _, _, _, _, _, _ => none
 | k + 1, x3, x4, x5, x6, x54, x55, x56 => if x56 < x55 then (if 0 ≤ x56 then (if x56 < (x54.length : Int) then (if x5.length < 8796093022208 then (impl_PutTable.l1 k x3 x4 (x5 ++ [(rd_T87 x54 x56).f0]) x6 x54 x55 (wrap64 (x56 + 1))) else (none)) else (none)) else (none)) else ((impl_addNum.f k ([] : List Int) x6).bind fun t554 => (if t554.length + x4.length < 140737488355328 then ((some (t554 ++ x4 : List Int)).bind fun y557 => ((impl_Filter.f k x5).bind fun t560 => (if y557.length + t560.length < 140737488355328 then ((impl_Frame.f k (y557 ++ t560)).bind fun t566 => (if x3.length + t566.length < 140737488355328 then ((some (x3 ++ t566 : List Int)).bind fun y569 => ((impl_word.f (x3.length : Int)).bind fun t572 => (if y569.length + t572.length < 140737488355328 then (some (y569 ++ t572)) else (none)))) else (none))) else (none)))) else (none)))
end
def impl_PutTable.f (k : Nat) (l0 : List (S87)) : Option (List Int) := (impl_in.f (l0.length : Int) 1 200).bind fun t530 => (if t530 = true then ((impl_rising.f k l0).bind fun t531 => (impl_PutTable.j0 k l0 (!t531))) else (impl_PutTable.j0 k l0 true))
theorem impl_PutTable.mono_l : ∀ k, (∀ y0 y1, LeO (impl_PutTable.j0 k y0 y1) (impl_PutTable.j0 (k + 1) y0 y1)) ∧ (∀ y0 y1 y2 y3 y4, LeO (impl_PutTable.l0 k y0 y1 y2 y3 y4) (impl_PutTable.l0 (k + 1) y0 y1 y2 y3 y4)) ∧ (∀ y0 y1 y2 y3 y4 y5 y6, LeO (impl_PutTable.l1 k y0 y1 y2 y3 y4 y5 y6) (impl_PutTable.l1 (k + 1) y0 y1 y2 y3 y4 y5 y6))
 | 0 => ⟨fun _ _ r h => by simp [impl_PutTable.j0] at h, fun _ _ _ _ _ r h => by simp [impl_PutTable.l0] at h, fun _ _ _ _ _ _ _ r h => by simp [impl_PutTable.l1] at h⟩
 | k + 1 => by
  obtain ⟨ih0, ih1, ih2⟩ := impl_PutTable.mono_l k
  refine ⟨?_, ?_, ?_⟩
  ·intro y0 y1
   unfold impl_PutTable.j0
   repeat' first
   | (with_reducible exact ih0 _ _)
   | (with_reducible exact ih1 _ _ _ _ _)
   | (with_reducible exact ih2 _ _ _ _ _ _ _)
   | (with_reducible exact impl_Filter.mono _ _)
   | (with_reducible exact impl_Frame.mono _ _)
   | (with_reducible exact impl_addNum.mono _ _ _)
   | (with_reducible exact impl_addText.mono _ _ _)
   | (with_reducible exact impl_putBlock.mono _ _)
   | (with_reducible exact impl_rising.mono _ _)
   | (with_reducible exact LeO.refl _)
   | (with_reducible exact LeO.none _)
   | (with_reducible refine LeO.ite ?_ ?_)
   | (with_reducible refine LeO.bind ?_ (fun _ => ?_))
   | exact ih0 _ _
   | exact ih1 _ _ _ _ _
   | exact ih2 _ _ _ _ _ _ _
   | exact impl_Filter.mono _ _
   | exact impl_Frame.mono _ _
   | exact impl_addNum.mono _ _ _
   | exact impl_addText.mono _ _ _
   | exact impl_putBlock.mono _ _
   | exact impl_rising.mono _ _
   | exact LeO.none _
   | refine LeO.ite ?_ ?_
   | refine LeO.bind ?_ (fun _ => ?_)
  ·intro y0 y1 y2 y3 y4
   unfold impl_PutTable.l0
   repeat' first
   | (with_reducible exact ih0 _ _)
   | (with_reducible exact ih1 _ _ _ _ _)
   | (with_reducible exact ih2 _ _ _ _ _ _ _)
   | (with_reducible exact impl_Filter.mono _ _)
   | (with_reducible exact impl_Frame.mono _ _)
   | (with_reducible exact impl_addNum.mono _ _ _)
   | (with_reducible exact impl_addText.mono _ _ _)
   | (with_reducible exact impl_putBlock.mono _ _)
   | (with_reducible exact impl_rising.mono _ _)
   | (with_reducible exact LeO.refl _)
   | (with_reducible exact LeO.none _)
   | (with_reducible refine LeO.ite ?_ ?_)
   | (with_reducible refine LeO.bind ?_ (fun _ => ?_))
   | exact ih0 _ _
   | exact ih1 _ _ _ _ _
   | exact ih2 _ _ _ _ _ _ _
   | exact impl_Filter.mono _ _
   | exact impl_Frame.mono _ _
   | exact impl_addNum.mono _ _ _
   | exact impl_addText.mono _ _ _
   | exact impl_putBlock.mono _ _
   | exact impl_rising.mono _ _
   | exact LeO.none _
   | refine LeO.ite ?_ ?_
   | refine LeO.bind ?_ (fun _ => ?_)
  ·intro y0 y1 y2 y3 y4 y5 y6
   unfold impl_PutTable.l1
   repeat' first
   | (with_reducible exact ih0 _ _)
   | (with_reducible exact ih1 _ _ _ _ _)
   | (with_reducible exact ih2 _ _ _ _ _ _ _)
   | (with_reducible exact impl_Filter.mono _ _)
   | (with_reducible exact impl_Frame.mono _ _)
   | (with_reducible exact impl_addNum.mono _ _ _)
   | (with_reducible exact impl_addText.mono _ _ _)
   | (with_reducible exact impl_putBlock.mono _ _)
   | (with_reducible exact impl_rising.mono _ _)
   | (with_reducible exact LeO.refl _)
   | (with_reducible exact LeO.none _)
   | (with_reducible refine LeO.ite ?_ ?_)
   | (with_reducible refine LeO.bind ?_ (fun _ => ?_))
   | exact ih0 _ _
   | exact ih1 _ _ _ _ _
   | exact ih2 _ _ _ _ _ _ _
   | exact impl_Filter.mono _ _
   | exact impl_Frame.mono _ _
   | exact impl_addNum.mono _ _ _
   | exact impl_addText.mono _ _ _
   | exact impl_putBlock.mono _ _
   | exact impl_rising.mono _ _
   | exact LeO.none _
   | refine LeO.ite ?_ ?_
   | refine LeO.bind ?_ (fun _ => ?_)
theorem impl_PutTable.mono : ∀ a0 k, LeO (impl_PutTable.f k a0) (impl_PutTable.f (k + 1) a0) := by
 intro a0 k
 obtain ⟨ih0, ih1, ih2⟩ := impl_PutTable.mono_l k
 unfold impl_PutTable.f
 repeat' first
   | (with_reducible exact ih0 _ _)
   | (with_reducible exact ih1 _ _ _ _ _)
   | (with_reducible exact ih2 _ _ _ _ _ _ _)
   | (with_reducible exact impl_Filter.mono _ _)
   | (with_reducible exact impl_Frame.mono _ _)
   | (with_reducible exact impl_addNum.mono _ _ _)
   | (with_reducible exact impl_addText.mono _ _ _)
   | (with_reducible exact impl_putBlock.mono _ _)
   | (with_reducible exact impl_rising.mono _ _)
   | (with_reducible exact LeO.refl _)
   | (with_reducible exact LeO.none _)
   | (with_reducible refine LeO.ite ?_ ?_)
   | (with_reducible refine LeO.bind ?_ (fun _ => ?_))
   | exact ih0 _ _
   | exact ih1 _ _ _ _ _
   | exact ih2 _ _ _ _ _ _ _
   | exact impl_Filter.mono _ _
   | exact impl_Frame.mono _ _
   | exact impl_addNum.mono _ _ _
   | exact impl_addText.mono _ _ _
   | exact impl_putBlock.mono _ _
   | exact impl_rising.mono _ _
   | exact LeO.none _
   | refine LeO.ite ?_ ?_
   | refine LeO.bind ?_ (fun _ => ?_)
set_option maxHeartbeats 8000000 in
set_option maxRecDepth 100000 in
theorem impl_PutTable.calls (k : Nat) (A0 : Option Addr) (c0 : Nat) (l0 : List (S87)) (r : List Int) (w : World) (hr0 : Kd.C k87 w A0 l0.length l0) (hc0 : l0.length ≤ c0) (h : impl_PutTable.f k l0 = some r) :
  Calls Try.prog 47 #[.slice A0 l0.length c0] w fun e w' => ∃ v0_ : Value, e = .returned (v0_) ∧ Kd.R (Kd.int .u8) 5 w' w.heap.size (fun _ => True) v0_ r ∧ Below w.heap.size w w' := by
 have hu87 := Try.underlying87
 have HR0 := mS hr0
 have HC0 := mS hc0
 clear hr0 hc0
 have HB := mS (Below.refl w.heap.size w)
 have H : ((impl_in.f (l0.length : Int) 1 200).bind fun t530 => (if t530 = true then ((impl_rising.f k l0).bind fun t531 => (impl_PutTable.j0 k l0 (!t531))) else (impl_PutTable.j0 k l0 true))) = some r := h
 clear h
 have HC2 := mS H
 clear H
 go_enter Try.func47, Try.ntmps47
 go_upto_region 1 with (fail)
 go_cut [21] (fun v21 wc => ∃ (kq : Nat) (x21_1 : Bool), v21 = .bool x21_1 ∧ Aside0 (impl_PutTable.j0 kq l0 x21_1 = some r) ∧ Aside0 (kq ≤ k) ∧ Aside0 (Below w.heap.size w wc))
 case first =>
  have H := HC2.out
  clear HC2
  replace H := Option.bind_eq_some_iff.mp H
  obtain ⟨t530, A30, H⟩ := H
  replace H : (if t530 = true then ((impl_rising.f k l0).bind fun t531 => (impl_PutTable.j0 k l0 (!t531))) else (impl_PutTable.j0 k l0 true)) = some r := H
  have A3 := mS A30
  clear A30
  by_cases c4 : t530 = true
  ·subst c4
   have H1 := H
   rw [if_pos rfl] at H1
   clear H
   have H := H1
   clear H1
   replace H := Option.bind_eq_some_iff.mp H
   obtain ⟨t531, A50, H⟩ := H
   replace H : (impl_PutTable.j0 k l0 (!t531)) = some r := H
   have A5 := mS A50
   clear A50
   have H' := mS H
   clear H
   go_wp2_with (first | ((with_reducible refine gate_callee (f := 37) rfl ?_); refine mGo 15 Try.func37 #[.int .i64 (l0.length : Int), .int .i64 1, .int .i64 200] ?_; (with_reducible refine (impl_in.calls (l0.length : Int) 1 200 true _ A3.out).mono ?_); rintro e w' ⟨rfl, ⟨nd, rfl⟩⟩; refine ⟨_, rfl, ?_⟩) | (go_at_call 84; (with_reducible refine (impl_rising.calls k _ _ l0 t531 _ ?side1 ?side2 A5.out).mono ?_); (case side1 => exact mC (Kd.C_below HR0.out (mH HB.out))); (case side2 => exact HC0.out); rintro e w6 ⟨rfl, hb⟩; replace HB := mS (below_step (mH HB.out) hb); (try clear hb); (try clear hb2); (try clear hk); (try clear hi)))
   go_meet
   case rel => exact ⟨_, (!t531), mE, H', ⟨by first | omega | exact Nat.le_refl _⟩, ⟨(mH HB.out)⟩⟩
  ·replace c4 := Bool.eq_false_iff.mpr c4
   subst c4
   have H1 := H
   rw [if_neg (show ¬ (false = true) by decide)] at H1
   clear H
   have H := H1
   clear H1
   have H' := mS H
   clear H
   go_wp2_with (first | ((with_reducible refine gate_callee (f := 37) rfl ?_); refine mGo 15 Try.func37 #[.int .i64 (l0.length : Int), .int .i64 1, .int .i64 200] ?_; (with_reducible refine (impl_in.calls (l0.length : Int) 1 200 false _ A3.out).mono ?_); rintro e w' ⟨rfl, ⟨nd, rfl⟩⟩; refine ⟨_, rfl, ?_⟩))
   go_meet
   case rel => exact ⟨_, (true), mE, H', ⟨by first | omega | exact Nat.le_refl _⟩, ⟨(mH HB.out)⟩⟩
 case rest =>
  clear HC2
  try clear p2
  try clear c3
  try clear c4
  obtain ⟨kq, x21_1, rfl, HA, HJ1, HB⟩ := hcut
  cases kq with
  | zero => exact absurd HA.out (by simp [impl_PutTable.j0])
  | succ kj1 =>
   have H := HA.out
   clear HA
   simp only [impl_PutTable.j0] at H
   by_cases c7 : x21_1 = true
   ·subst c7
    have H1 := H
    rw [if_pos rfl] at H1
    clear H
    have H := H1
    clear H1
    obtain rfl := Option.some.inj H
    go_wp2
    go_ret
    exact ⟨_, mEw, by first | exact Kd.R_nil _ _ _ _ _ | exact Kd.N_nil _ _ _ _ _ | exact Kd.V_nil _ _ _ _ _ | exact Kd.Q_nil _ _ _ _ _ | exact Kd.S_nil _ _ _ _ _, (mH HB.out)⟩
   ·replace c7 := Bool.eq_false_iff.mpr c7
    subst c7
    have H1 := H
    rw [if_neg (show ¬ (false = true) by decide)] at H1
    clear H
    have H := H1
    clear H1
    have H' := mS H
    clear H
    go_wp2
    go_loopg [3, 4, 6, 7] kj1 (fun kq v3 v4 v6 v7 w' => ∃ (x3_2 : List Int) (x4_2 : List Int) (x6_2 : Int) (x7_2 : Int), v6 = .int .i64 x6_2 ∧ v7 = .int .i64 x7_2 ∧ Aside0 (impl_PutTable.l0 kq l0 x3_2 x4_2 x6_2 x7_2 = some r) ∧ Aside0 (kq ≤ kj1) ∧ Aside0 (Kd.R (Kd.int .u8) 5 w' w.heap.size (fun k_ => some k_ ≠ (v4 : Value).ownBlock) v3 x3_2) ∧ Aside0 (Kd.R (Kd.int .u8) 5 w' w.heap.size (fun k_ => some k_ ≠ (v3 : Value).ownBlock) v4 x4_2) ∧ Aside0 (Below w.heap.size w w'))
    case atStart => exact ⟨(([] : List Int)), (([] : List Int)), (0), (0), mE, mE, H', ⟨Nat.le_refl _⟩, ⟨by first | exact Kd.R_nil _ _ _ _ _ | exact Kd.N_nil _ _ _ _ _ | exact Kd.V_nil _ _ _ _ _ | exact Kd.Q_nil _ _ _ _ _ | exact Kd.S_nil _ _ _ _ _⟩, ⟨by first | exact Kd.R_nil _ _ _ _ _ | exact Kd.N_nil _ _ _ _ _ | exact Kd.V_nil _ _ _ _ _ | exact Kd.Q_nil _ _ _ _ _ | exact Kd.S_nil _ _ _ _ _⟩, ⟨(mH HB.out)⟩⟩
    case round =>
     clear H'
     try clear p2
     try clear c3
     try clear c4
     try clear c7
     try clear p2
     obtain ⟨x3_2, x4_2, x6_2, x7_2, rfl, rfl, HA, HK2, HO_3, HO_4, HB⟩ := hrel
     cases gk with
     | zero => exact absurd HA.out (by simp [impl_PutTable.l0])
     | succ k2 =>
      have H := HA.out
      clear HA
      simp only [impl_PutTable.l0] at H
      by_cases c8 : x7_2 < (l0.length : Int)
      ·rw [if_pos c8] at H
       have c8b0 := decide_eq_true c8
       clear c8
       obtain ⟨ji9, hji9⟩ : ∃ j_ : Int, (mn (wrap64 (x7_2 + 4)) (l0.length : Int)) = j_ := ⟨_, rfl⟩
       replace H : (if 0 ≤ x7_2 then (if x7_2 ≤ (ji9) then (if (ji9) ≤ (l0.length : Int) then ((some ((l0.take ((ji9) : Int).toNat).drop (x7_2 : Int).toNat : List (S87))).bind fun y532 => (if 0 ≤ (wrap64 ((y532.length : Int) - 1)) then (if (wrap64 ((y532.length : Int) - 1)) < (y532.length : Int) then ((impl_addText.f k2 x4_2 ((rd_T87 y532 (wrap64 ((y532.length : Int) - 1))).f0)).bind fun t537 => ((impl_addNum.f k2 t537 (x3_2.length : Int)).bind fun t540 => ((impl_putBlock.f k2 y532).bind fun t543 => (if x3_2.length + t543.length < 140737488355328 then (impl_PutTable.l0 k2 l0 (x3_2 ++ t543) t540 (wrap64 (x6_2 + 1)) (wrap64 (x7_2 + 4))) else (none))))) else (none)) else (none))) else (none)) else (none)) else (none)) = some r := by first | (rw [hji9] at H; exact H) | (simp only [hji9] at H ⊢; exact H)
       have hji9_ : (if (l0.length : Int) < (wrap64 (x7_2 + 4)) then (l0.length : Int) else (wrap64 (x7_2 + 4))) = ji9 := hji9
       by_cases c10 : 0 ≤ x7_2
       ·rw [if_pos c10] at H
        have c10b0 := eq_true c10
        have c10b1 := decide_eq_true c10
        clear c10
        by_cases c11 : x7_2 ≤ (ji9)
        ·rw [if_pos c11] at H
         have c11b0 := eq_true c11
         have c11b1 := decide_eq_true c11
         clear c11
         by_cases c12 : (ji9) ≤ (l0.length : Int)
         ·rw [if_pos c12] at H
          have c12b0 := eq_true c12
          have c12b1 := decide_eq_true c12
          clear c12
          obtain ⟨y532, hy532⟩ : ∃ y_ : List (S87), y_ = ((l0.take ((ji9) : Int).toNat).drop (x7_2 : Int).toNat) := ⟨_, rfl⟩
          replace H : (if 0 ≤ (wrap64 ((y532.length : Int) - 1)) then (if (wrap64 ((y532.length : Int) - 1)) < (y532.length : Int) then ((impl_addText.f k2 x4_2 ((rd_T87 y532 (wrap64 ((y532.length : Int) - 1))).f0)).bind fun t537 => ((impl_addNum.f k2 t537 (x3_2.length : Int)).bind fun t540 => ((impl_putBlock.f k2 y532).bind fun t543 => (if x3_2.length + t543.length < 140737488355328 then (impl_PutTable.l0 k2 l0 (x3_2 ++ t543) t540 (wrap64 (x6_2 + 1)) (wrap64 (x7_2 + 4))) else (none))))) else (none)) else (none)) = some r := by first | (rw [hy532]; with_reducible exact H) | (have H2_ := (Option.bind_some _ _).symm.trans H; rw [hy532]; with_reducible exact H2_) | (have H2_ := (Option.bind_some _ _).symm.trans H; with_reducible exact H2_) | with_reducible exact H | (rw [hy532]; exact H) | exact H
          have Ny532 := mS hy532
          clear hy532
          obtain ⟨ji13, hji13⟩ : ∃ j_ : Int, (wrap64 ((y532.length : Int) - 1)) = j_ := ⟨_, rfl⟩
          replace H : (if 0 ≤ (ji13) then (if (ji13) < (y532.length : Int) then ((impl_addText.f k2 x4_2 ((rd_T87 y532 (ji13)).f0)).bind fun t537 => ((impl_addNum.f k2 t537 (x3_2.length : Int)).bind fun t540 => ((impl_putBlock.f k2 y532).bind fun t543 => (if x3_2.length + t543.length < 140737488355328 then (impl_PutTable.l0 k2 l0 (x3_2 ++ t543) t540 (wrap64 (x6_2 + 1)) (wrap64 (x7_2 + 4))) else (none))))) else (none)) else (none)) = some r := by first | (rw [hji13] at H; exact H) | (simp only [hji13] at H ⊢; exact H)
          have hji13w : (IntKind.i64.wrap ((y532.length : Int) - 1)) = ji13 := (i64_w _).trans hji13
          by_cases c14 : 0 ≤ (ji13)
          ·rw [if_pos c14] at H
           have c14b0 := decide_eq_true c14
           clear c14
           by_cases c15 : (ji13) < (y532.length : Int)
           ·rw [if_pos c15] at H
            have c15b0 := decide_eq_true c15
            clear c15
            replace H := Option.bind_eq_some_iff.mp H
            obtain ⟨t537, A160, H⟩ := H
            replace H : ((impl_addNum.f k2 t537 (x3_2.length : Int)).bind fun t540 => ((impl_putBlock.f k2 y532).bind fun t543 => (if x3_2.length + t543.length < 140737488355328 then (impl_PutTable.l0 k2 l0 (x3_2 ++ t543) t540 (wrap64 (x6_2 + 1)) (wrap64 (x7_2 + 4))) else (none)))) = some r := H
            have A16 := mS A160
            clear A160
            replace H := Option.bind_eq_some_iff.mp H
            obtain ⟨t540, A170, H⟩ := H
            replace H : ((impl_putBlock.f k2 y532).bind fun t543 => (if x3_2.length + t543.length < 140737488355328 then (impl_PutTable.l0 k2 l0 (x3_2 ++ t543) t540 (wrap64 (x6_2 + 1)) (wrap64 (x7_2 + 4))) else (none))) = some r := H
            have A17 := mS A170
            clear A170
            replace H := Option.bind_eq_some_iff.mp H
            obtain ⟨t543, A180, H⟩ := H
            replace H : (if x3_2.length + t543.length < 140737488355328 then (impl_PutTable.l0 k2 l0 (x3_2 ++ t543) t540 (wrap64 (x6_2 + 1)) (wrap64 (x7_2 + 4))) else (none)) = some r := H
            have A18 := mS A180
            clear A180
            by_cases c19 : x3_2.length + t543.length < 140737488355328
            ·rw [if_pos c19] at H
             have LMc19 := mS c19
             clear c19
             obtain ⟨y546, hy546⟩ : ∃ y_ : List Int, y_ = (x3_2 ++ t543) := ⟨_, rfl⟩
             replace H : (impl_PutTable.l0 k2 l0 y546 t540 (wrap64 (x6_2 + 1)) (wrap64 (x7_2 + 4))) = some r := by first | (rw [hy546]; with_reducible exact H) | (have H2_ := (Option.bind_some _ _).symm.trans H; rw [hy546]; with_reducible exact H2_) | (have H2_ := (Option.bind_some _ _).symm.trans H; with_reducible exact H2_) | with_reducible exact H | (rw [hy546]; exact H) | exact H
             have Ny546 := mS hy546
             clear hy546
             have H' := mS H
             clear H
             have q20 : ((ji9) : Int) ≤ ((l0.length : Int) : Int) := mD
             obtain ⟨i020, hi020, _, hsz20, _⟩ := info_parts info87
             have hroom20 : l0.length ≤ c0 := HC0.out
             have hC20 : Kd.C k87 _ A0 l0.length l0 := HR0.out
             have ql20 : (x7_2 : Int) ≤ ((ji9) : Int) := mD
             have q020 : (0 : Int) ≤ (x7_2 : Int) := mD
             have hcut20 := cut_mid (P := Try.prog) 35 87 .i64 .i64 Try.underlying35 hi020 3 hsz20 A0 l0.length c0 x7_2 (ji9) q020 ql20 q20 hroom20
             have hr20 := Kd.C_mid (lo := (x7_2 : Int).toNat) (hi := ((ji9) : Int).toNat) (c := c0) hC20 (by omega) (by omega) hroom20
             obtain ⟨A20, hA20⟩ : ∃ A1, A1 = (if c0 = (x7_2 : Int).toNat then A0 else (A0 : Option Addr).map (·.add ((x7_2 : Int).toNat * 3))) := ⟨_, rfl⟩
             obtain ⟨c20, hc20⟩ : ∃ c1, c1 = c0 - (x7_2 : Int).toNat := ⟨_, rfl⟩
             have hy20 : y532.length = ((ji9) : Int).toNat - (x7_2 : Int).toNat := (by rw [Ny532.out, List.length_drop, List.length_take] <;> omega)
             rw [show ((l0).take ((ji9) : Int).toNat).drop (x7_2 : Int).toNat = y532 from Ny532.out.symm] at hr20
             replace hr20 : Kd.C k87 _ A20 y532.length y532 := (by rw [hA20]; exact hr20)
             rw [← hy20, ← hA20, ← hc20] at hcut20
             have HR535 := mS hr20
             have HC535 := mS (show y532.length ≤ c20 from by rw [hy20, hc20]; exact Nat.sub_le_sub_right (Nat.le_trans (by omega) hroom20) _)
             clear hr20 hC20 hroom20 hi020 hsz20 hc20
             have KY20 := mS hy20
             have KA20 := mS hA20
             clear hy20 hA20
             replace q20 := eq_true q20
             have p536 : 0 ≤ ((ji13) : Int) := mD
             have q536 : (ji13) < (y532.length : Int) := mD
             obtain ⟨ad536, e536, hx536_0, hx536_1, hx536_2⟩ := at_T87 HR535.out (ji13) p536 q536
             cases e536
             replace hx536_0 := mX HB.out hx536_0
             replace hx536_1 := mX HB.out hx536_1
             replace hx536_2 := mX HB.out hx536_2
             replace p536 := eq_true p536
             replace q536 := eq_true q536
             obtain ⟨Ao21, co21, eo21⟩ := Kd.R_slice HO_4.out
             subst eo21
             go_wp2_with (first | ((with_reducible refine gate_callee (f := 86) rfl ?_); refine goesL_ (some 44) rfl rfl Try.func86 (by kernel_rfl) rfl #[.slice Ao21 x4_2.length co21, .string ((rd_T87 y532 (ji13)).f0)] rfl (by (try simp only [List.map_toArray, List.map_cons, List.map_nil]); first | done | (simp only [hji13]; rfl) | rfl | (simp only [List.length_drop, List.length_take]; rfl)) ?_; (with_reducible refine (impl_addText.calls k2 (fun k_ => some k_ = (.slice Ao21 x4_2.length co21 : Value).ownBlock) (.slice Ao21 x4_2.length co21) x4_2 ((rd_T87 y532 (ji13)).f0) t537 w _ ?side1 ?side2 A16.out).mono ?_); (case side1 => exact mH HB.out); (case side2 => exact Kd.R_tight rfl HO_4.out); rintro e w22 ⟨v538, rfl, ho0, hb, hkp⟩; refine ⟨_, rfl, ?_⟩; have HO539 := mS (Kd.R_mono (ok' := fun k_ => some k_ ≠ (u3 : Value).ownBlock) ho0 (fun k_ hk_ => Or.elim hk_ (fun hs_ => fun e_ => (((HO_3.out).1 k_ e_.symm)) hs_) (fun hn_ => (Kd.fresh' (Kd.R_lt (mR HO_3.out)) k_ hn_)))); replace HO_3 := mS (Kd.R_mono (ok' := fun k_ => some k_ ≠ (v538 : Value).ownBlock) (Kd.R_keptB (HO_3.out) hkp (fun k_ hk_ hs_ => (hk_) hs_)) (fun k_ hk_ => fun e_ => Or.elim (ho0.1 k_ e_.symm) (fun hs_ => hk_.2.1 hs_) (fun hn_ => Nat.not_le.2 hk_.2.2 hn_))); replace HB := mS (hb); clear HO_4; (try clear hb); (try clear hkp); (try clear ho0); obtain ⟨Ao23, co23, eo23⟩ := Kd.R_slice HO_3.out; subst eo23; obtain ⟨Ao24, co24, eo24⟩ := Kd.R_slice HO539.out; subst eo24) | ((with_reducible refine gate_callee (f := 85) rfl ?_); refine mGo 47 Try.func85 #[.slice Ao24 t537.length co24, .int .i64 (x3_2.length : Int)] ?_; (with_reducible refine (impl_addNum.calls k2 (fun k_ => some k_ = (.slice Ao24 t537.length co24 : Value).ownBlock) (.slice Ao24 t537.length co24) t537 (x3_2.length : Int) t540 w _ ?side1 ?side2 A17.out).mono ?_); (case side1 => exact mH HB.out); (case side2 => exact Kd.R_tight rfl HO539.out); rintro e w25 ⟨v541, rfl, ho0, hb, hkp⟩; refine ⟨_, rfl, ?_⟩; have HO542 := mS (Kd.R_mono (ok' := fun k_ => some k_ ≠ (.slice Ao23 x3_2.length co23 : Value).ownBlock) ho0 (fun k_ hk_ => Or.elim hk_ (fun hs_ => fun e_ => (((HO_3.out).1 k_ e_.symm)) hs_) (fun hn_ => (Kd.fresh' (Kd.R_lt (mR HO_3.out)) k_ hn_)))); replace HO_3 := mS (Kd.R_mono (ok' := fun k_ => some k_ ≠ (v541 : Value).ownBlock) (Kd.R_keptB (HO_3.out) hkp (fun k_ hk_ hs_ => (hk_) hs_)) (fun k_ hk_ => fun e_ => Or.elim (ho0.1 k_ e_.symm) (fun hs_ => hk_.2.1 hs_) (fun hn_ => Nat.not_le.2 hk_.2.2 hn_))); replace HB := mS (hb); clear HO539; (try clear hb); (try clear hkp); (try clear ho0)) | ((with_reducible refine gate_callee (f := 87) rfl ?_); refine mGo 50 Try.func87 #[.slice (some ad536) y532.length c20] ?_; (with_reducible refine (impl_putBlock.calls k2 _ _ y532 t543 _ ?side1 ?side2 A18.out).mono ?_); (case side1 => exact mC (Kd.C_below HR535.out HB.out)); (case side2 => exact HC535.out); rintro e w26 ⟨v544, rfl, ho0, hb⟩; refine ⟨_, rfl, ?_⟩; have HO545 := mS (Kd.R_lower (Kd.R_new' (Kd.R_new' ho0 (Kd.R_lt (mR HO_3.out))) (Kd.R_lt (mR HO542.out))) (below_size (mH HB.out))); replace HO_3 := mS (Kd.R_elder' (mR HO_3.out) (Kd.R_base ho0) hb); replace HO542 := mS (Kd.R_elder' (mR HO542.out) (Kd.R_base ho0) hb); replace HB := mS (below_step (mH HB.out) hb); (try clear hb); (try clear ho0); obtain ⟨Ao28, co28, eo28⟩ := Kd.R_slice HO545.out; subst eo28) | ((with_reducible refine gate_builtin (b := .append) (xs := #[.tmp 48, .tmp 50]) rfl ?_); at_builtin; refine Kd.R_append_rows (Kd.int .u8) (w0 := w) w.heap.size rfl (.tmp 48) (.tmp 50) 22 5 (.int .u8 0) 1 rfl Try.underlying22 info5 rfl (by decide) (by omega) (.slice Ao23 x3_2.length co23) x3_2 t543 _ _ _ (fun k_ => some k_ ≠ (v541 : Value).ownBlock ∧ some k_ ≠ (.slice Ao28 t543.length co28 : Value).ownBlock) (fun _ => False) rfl rfl ?aO ?aR (fun _ _ h => h) (fun _ h => h.elim) ?aF ?aB ?aS ?aL ?_; (case aR => exact mC (Kd.R_reads' HO545.out).2.2); (case aB => exact (mH HB.out)); (case aF => exact (fun k_ hk => ⟨Kd.fresh' (Kd.R_lt (mR HO542.out)) k_ hk, Kd.fresh' (Kd.R_lt (mR HO545.out)) k_ hk⟩)); (case aO => exact (mR HO_3.out)); (case aS => exact (below_size (mH HB.out))); (case aL => have := LMc19.out; omega); intro v547 w27 ho hb hg hat; rw [← Ny546.out] at ho; replace HO542 := mS (Kd.R_after (ok := (fun k_ => some k_ ≠ (.slice Ao28 t543.length co28 : Value).ownBlock)) (by refine mR ?_; exact Kd.R_mono HO542.out (fun _ hk => ⟨hk.2, hk.1⟩)) hg hat); replace HO545 := mS (Kd.R_after (ok := (fun k_ => some k_ ≠ (v541 : Value).ownBlock)) (by refine mR ?_; exact Kd.R_mono HO545.out (fun _ hk => ⟨hk.2, hk.1.2⟩)) hg hat); replace HB := mS (hb); have HO548 := mS (ho); clear HO_3; clear ho hb hg hat))
             go_roundg k2
             case measure => have := HJ1.out; have := HK2.out; omega
             case rel => exact ⟨(y546), (t540), (wrap64 (x6_2 + 1)), (wrap64 (x7_2 + 4)), mE, mE, H', ⟨by have := HJ1.out; have := HK2.out; omega⟩, ⟨by refine mR ?_; exact Kd.R_mono HO548.out (fun _ hk => hk.1)⟩, ⟨by refine mR ?_; exact Kd.R_mono HO542.out (fun _ hk => hk.2)⟩, ⟨(mH HB.out)⟩⟩
            ·rw [if_neg c19] at H
             exact absurd H (by simp)
           ·rw [if_neg c15] at H
            exact absurd H (by simp)
          ·rw [if_neg c14] at H
           exact absurd H (by simp)
         ·rw [if_neg c12] at H
          exact absurd H (by simp)
        ·rw [if_neg c11] at H
         exact absurd H (by simp)
       ·rw [if_neg c10] at H
        exact absurd H (by simp)
      ·rw [if_neg c8] at H
       have c8b0 := decide_eq_false c8
       clear c8
       have H' := mS H
       clear H
       go_wp2
       go_loopg [5, 56] k2 (fun kq v5 v56 w' => ∃ (x5_3 : List ByteArray) (x56_3 : Int), v56 = .int .i64 x56_3 ∧ Aside0 (impl_PutTable.l1 kq x3_2 x4_2 x5_3 x6_2 l0 (l0.length : Int) x56_3 = some r) ∧ Aside0 (kq ≤ k2) ∧ Aside0 (Kd.R (Kd.int .u8) 5 w' w.heap.size (fun k_ => some k_ ≠ (u4 : Value).ownBlock) u3 x3_2) ∧ Aside0 (Kd.R (Kd.int .u8) 5 w' w.heap.size (fun k_ => some k_ ≠ (u3 : Value).ownBlock) u4 x4_2) ∧ Aside0 (Kd.R Kd.string 9 w' w.heap.size (fun _ => True) v5 x5_3) ∧ Aside0 (Below w.heap.size w w'))
       case atStart => exact ⟨(([] : List ByteArray)), (0), mE, H', ⟨Nat.le_refl _⟩, ⟨mR HO_3.out⟩, ⟨mR HO_4.out⟩, ⟨by first | exact Kd.R_nil _ _ _ _ _ | exact Kd.N_nil _ _ _ _ _ | exact Kd.V_nil _ _ _ _ _ | exact Kd.Q_nil _ _ _ _ _ | exact Kd.S_nil _ _ _ _ _⟩, ⟨(mH HB.out)⟩⟩
       case round =>
        clear H'
        try clear c1
        try clear c2
        try clear p2
        try clear q2
        try clear c3
        try clear c4
        try clear p5
        try clear q5
        try clear hx5
        try clear p6
        try clear c7
        try clear c8
        try clear c8b0
        try clear c10
        try clear c10b0
        try clear c10b1
        try clear c11
        try clear c11b0
        try clear c11b1
        try clear c12
        try clear c12b0
        try clear c12b1
        try clear c14
        try clear c14b0
        try clear c15
        try clear c15b0
        try clear c19
        try clear c20
        try clear q20
        try clear hx536_0
        try clear hx536_1
        try clear hx536_2
        try clear p2
        try clear p536
        try clear q020
        try clear q20
        try clear q536
        obtain ⟨x5_3, x56_3, rfl, HA, HK3, HO_3, HO_4, HO_5, HB⟩ := hrel
        cases gk with
        | zero => exact absurd HA.out (by simp [impl_PutTable.l1])
        | succ k3 =>
         have H := HA.out
         clear HA
         simp only [impl_PutTable.l1] at H
         by_cases c29 : x56_3 < (l0.length : Int)
         ·rw [if_pos c29] at H
          have c29b0 := decide_eq_true c29
          clear c29
          by_cases c30 : 0 ≤ x56_3
          ·rw [if_pos c30] at H
           have c30b0 := decide_eq_true c30
           clear c30
           by_cases c31 : x56_3 < (l0.length : Int)
           ·rw [if_pos c31] at H
            have c31b0 := decide_eq_true c31
            clear c31
            by_cases c32 : x5_3.length < 8796093022208
            ·rw [if_pos c32] at H
             have LMc32 := mS c32
             clear c32
             obtain ⟨y551, hy551⟩ : ∃ y_ : List ByteArray, y_ = (x5_3 ++ [(rd_T87 l0 x56_3).f0]) := ⟨_, rfl⟩
             replace H : (impl_PutTable.l1 k3 x3_2 x4_2 y551 x6_2 l0 (l0.length : Int) (wrap64 (x56_3 + 1))) = some r := by first | (rw [hy551]; with_reducible exact H) | (have H2_ := (Option.bind_some _ _).symm.trans H; rw [hy551]; with_reducible exact H2_) | (have H2_ := (Option.bind_some _ _).symm.trans H; with_reducible exact H2_) | with_reducible exact H | (rw [hy551]; exact H) | exact H
             have Ny551 := mS hy551
             clear hy551
             have H' := mS H
             clear H
             have p549 : 0 ≤ (x56_3 : Int) := mD
             have q549 : x56_3 < (l0.length : Int) := mD
             obtain ⟨ad549, e549, hx549_0, hx549_1, hx549_2⟩ := at_T87 HR0.out x56_3 p549 q549
             cases e549
             replace hx549_0 := mX HB.out hx549_0
             replace hx549_1 := mX HB.out hx549_1
             replace hx549_2 := mX HB.out hx549_2
             replace p549 := eq_true p549
             replace q549 := eq_true q549
             go_wp2_with (first | ((with_reducible refine gate_dst (N := 10) rfl ?_); refine mBx 10 #[.string (⟨#[]⟩ : ByteArray), .string (⟨#[]⟩ : ByteArray), .bool false] 87 ?_; intro gb550 hg w33 hbox hb; replace HO_3 := mS (Kd.R_below (mR HO_3.out) hb); replace HO_4 := mS (Kd.R_below (mR HO_4.out) hb); replace HO_5 := mS (Kd.R_below (mR HO_5.out) hb); have BK550 := mS (hbox); have GW550 := mG hg (mH HB.out); have GE550 := mG hg (mH HB.out); replace HB := mS (below_step (mH HB.out) hb); clear hb hbox hg; obtain ⟨hcz34_0, hcz34_1, hcz34_2, hfz34_0, hfz34_1, hfz34_2⟩ := mZ3 BK550.out) | ((with_reducible refine gate_builtin (b := .append) (xs := #[.tmp 60, .tmp 63]) rfl ?_); at_builtin; refine Kd.R_append Kd.string (w0 := w) w.heap.size rfl (.tmp 60) (.tmp 63) 74 9 (.string ⟨#[]⟩) 16 rfl Try.underlying74 info9 rfl (by decide) (by omega) u5 x5_3 ((rd_T87 l0 x56_3).f0) [.string ((rd_T87 l0 x56_3).f0)] (fun _ => True) (fun _ => False) rfl (by first | (go_simp; done) | (go_simp; rfl)) ?aP (fun _ hk => hk.elim) ?aF ?aO ?aB ?aS ?aL ?_; (case aP => exact rfl); (case aB => exact (mH1 HB.out GE550.out)); (case aF => exact (fun _ _ => trivial)); (case aO => exact (by refine mR ?_; exact Kd.R_mono (mRf3 (Kd.R_types HO_5.out BK550.out (by decide))) (fun _ hk => trivial))); (case aS => exact (below_size (mH1 HB.out GE550.out))); (case aL => have := LMc32.out; omega); intro v552 w35 ho hb hg hat; rw [← Ny551.out] at ho; replace HO_3 := mS (Kd.R_over' (by refine mR ?_; exact (Kd.R_mono (mRf3 (Kd.R_types HO_3.out BK550.out (by decide))) (fun _ h_ => h_.1))) (Kd.R_typed (by refine mR ?_; exact (Kd.R_mono (mRf3 (Kd.R_types HO_5.out BK550.out (by decide))) (fun _ h_ => h_.1)))) (by decide) hg); replace HO_4 := mS (Kd.R_over' (by refine mR ?_; exact (Kd.R_mono (mRf3 (Kd.R_types HO_4.out BK550.out (by decide))) (fun _ h_ => h_.1))) (Kd.R_typed (by refine mR ?_; exact (Kd.R_mono (mRf3 (Kd.R_types HO_5.out BK550.out (by decide))) (fun _ h_ => h_.1)))) (by decide) hg); replace BK550 := mS (blk_grown (g := gb550) (o := .cells #[.string ((rd_T87 l0 x56_3).f0), .string ((rd_T87 l0 x56_3).f1), .bool ((rd_T87 l0 x56_3).f2)] 87 (0, 0)) (by refine mK ?_; refine blk_put (cs := #[.string ((rd_T87 l0 x56_3).f0), .string ((rd_T87 l0 x56_3).f1), .bool false]) ?_ 2 _ rfl; refine mK ?_; refine blk_put (cs := #[.string ((rd_T87 l0 x56_3).f0), .string (⟨#[]⟩ : ByteArray), .bool false]) ?_ 1 _ rfl; refine mK ?_; refine blk_put (cs := #[.string (⟨#[]⟩ : ByteArray), .string (⟨#[]⟩ : ByteArray), .bool false]) ?_ 0 _ rfl; refine mK ?_; exact BK550.out) hg (Kd.R_ne HO_5.out BK550.out (by decide))); replace HB := mS (hb); have HO553 := mS (ho); clear HO_5; clear ho hb hg hat))
             go_roundg k3
             case measure => have := HJ1.out; have := HK2.out; have := HK3.out; omega
             case rel => exact ⟨(y551), (wrap64 (x56_3 + 1)), mE, H', ⟨by have := HJ1.out; have := HK2.out; have := HK3.out; omega⟩, ⟨mR HO_3.out⟩, ⟨mR HO_4.out⟩, ⟨mR HO553.out⟩, ⟨(mH1 HB.out GE550.out)⟩⟩
            ·rw [if_neg c32] at H
             exact absurd H (by simp)
           ·rw [if_neg c31] at H
            exact absurd H (by simp)
          ·rw [if_neg c30] at H
           exact absurd H (by simp)
         ·rw [if_neg c29] at H
          have c29b0 := decide_eq_false c29
          clear c29
          replace H := Option.bind_eq_some_iff.mp H
          obtain ⟨t554, A360, H⟩ := H
          replace H : (if t554.length + x4_2.length < 140737488355328 then ((some (t554 ++ x4_2 : List Int)).bind fun y557 => ((impl_Filter.f k3 x5_3).bind fun t560 => (if y557.length + t560.length < 140737488355328 then ((impl_Frame.f k3 (y557 ++ t560)).bind fun t566 => (if x3_2.length + t566.length < 140737488355328 then ((some (x3_2 ++ t566 : List Int)).bind fun y569 => ((impl_word.f (x3_2.length : Int)).bind fun t572 => (if y569.length + t572.length < 140737488355328 then (some (y569 ++ t572)) else (none)))) else (none))) else (none)))) else (none)) = some r := H
          have A36 := mS A360
          clear A360
          by_cases c37 : t554.length + x4_2.length < 140737488355328
          ·rw [if_pos c37] at H
           have LMc37 := mS c37
           clear c37
           obtain ⟨y557, hy557⟩ : ∃ y_ : List Int, y_ = (t554 ++ x4_2) := ⟨_, rfl⟩
           replace H : ((impl_Filter.f k3 x5_3).bind fun t560 => (if y557.length + t560.length < 140737488355328 then ((impl_Frame.f k3 (y557 ++ t560)).bind fun t566 => (if x3_2.length + t566.length < 140737488355328 then ((some (x3_2 ++ t566 : List Int)).bind fun y569 => ((impl_word.f (x3_2.length : Int)).bind fun t572 => (if y569.length + t572.length < 140737488355328 then (some (y569 ++ t572)) else (none)))) else (none))) else (none))) = some r := by first | (rw [hy557]; with_reducible exact H) | (have H2_ := (Option.bind_some _ _).symm.trans H; rw [hy557]; with_reducible exact H2_) | (have H2_ := (Option.bind_some _ _).symm.trans H; with_reducible exact H2_) | with_reducible exact H | (rw [hy557]; exact H) | exact H
           have Ny557 := mS hy557
           clear hy557
           replace H := Option.bind_eq_some_iff.mp H
           obtain ⟨t560, A380, H⟩ := H
           replace H : (if y557.length + t560.length < 140737488355328 then ((impl_Frame.f k3 (y557 ++ t560)).bind fun t566 => (if x3_2.length + t566.length < 140737488355328 then ((some (x3_2 ++ t566 : List Int)).bind fun y569 => ((impl_word.f (x3_2.length : Int)).bind fun t572 => (if y569.length + t572.length < 140737488355328 then (some (y569 ++ t572)) else (none)))) else (none))) else (none)) = some r := H
           have A38 := mS A380
           clear A380
           by_cases c39 : y557.length + t560.length < 140737488355328
           ·rw [if_pos c39] at H
            have LMc39 := mS c39
            clear c39
            obtain ⟨y563, hy563⟩ : ∃ y_ : List Int, y_ = (y557 ++ t560) := ⟨_, rfl⟩
            replace H : ((impl_Frame.f k3 y563).bind fun t566 => (if x3_2.length + t566.length < 140737488355328 then ((some (x3_2 ++ t566 : List Int)).bind fun y569 => ((impl_word.f (x3_2.length : Int)).bind fun t572 => (if y569.length + t572.length < 140737488355328 then (some (y569 ++ t572)) else (none)))) else (none))) = some r := by first | (rw [hy563]; with_reducible exact H) | (have H2_ := (Option.bind_some _ _).symm.trans H; rw [hy563]; with_reducible exact H2_) | (have H2_ := (Option.bind_some _ _).symm.trans H; with_reducible exact H2_) | with_reducible exact H | (rw [hy563]; exact H) | exact H
            have Ny563 := mS hy563
            clear hy563
            replace H := Option.bind_eq_some_iff.mp H
            obtain ⟨t566, A400, H⟩ := H
            replace H : (if x3_2.length + t566.length < 140737488355328 then ((some (x3_2 ++ t566 : List Int)).bind fun y569 => ((impl_word.f (x3_2.length : Int)).bind fun t572 => (if y569.length + t572.length < 140737488355328 then (some (y569 ++ t572)) else (none)))) else (none)) = some r := H
            have A40 := mS A400
            clear A400
            by_cases c41 : x3_2.length + t566.length < 140737488355328
            ·rw [if_pos c41] at H
             have LMc41 := mS c41
             clear c41
             obtain ⟨y569, hy569⟩ : ∃ y_ : List Int, y_ = (x3_2 ++ t566) := ⟨_, rfl⟩
             replace H : ((impl_word.f (x3_2.length : Int)).bind fun t572 => (if y569.length + t572.length < 140737488355328 then (some (y569 ++ t572)) else (none))) = some r := by first | (rw [hy569]; with_reducible exact H) | (have H2_ := (Option.bind_some _ _).symm.trans H; rw [hy569]; with_reducible exact H2_) | (have H2_ := (Option.bind_some _ _).symm.trans H; with_reducible exact H2_) | with_reducible exact H | (rw [hy569]; exact H) | exact H
             have Ny569 := mS hy569
             clear hy569
             replace H := Option.bind_eq_some_iff.mp H
             obtain ⟨t572, A420, H⟩ := H
             replace H : (if y569.length + t572.length < 140737488355328 then (some (y569 ++ t572)) else (none)) = some r := H
             have A42 := mS A420
             clear A420
             by_cases c43 : y569.length + t572.length < 140737488355328
             ·rw [if_pos c43] at H
              have LMc43 := mS c43
              clear c43
              obtain ⟨y575, hy575⟩ : ∃ y_ : List Int, y_ = (y569 ++ t572) := ⟨_, rfl⟩
              replace H : (some y575) = some r := by first | (rw [hy575]; with_reducible exact H) | (have H2_ := (Option.bind_some _ _).symm.trans H; rw [hy575]; with_reducible exact H2_) | (have H2_ := (Option.bind_some _ _).symm.trans H; with_reducible exact H2_) | with_reducible exact H | (rw [hy575]; exact H) | exact H
              have Ny575 := mS hy575
              clear hy575
              obtain rfl := Option.some.inj H
              obtain ⟨Ao44, co44, eo44⟩ := Kd.R_slice HO_3.out
              subst eo44
              go_wp2_with (first | ((with_reducible refine gate_callee (f := 85) rfl ?_); refine mGo 69 Try.func85 #[.slice none 0 0, .int .i64 x6_2] ?_; (refine (impl_addNum.calls k3 (fun k_ => some k_ = (.slice none 0 0 : Value).ownBlock) (.slice none 0 0) ([] : List Int) x6_2 t554 w _ ?side1 ?side2 A36.out).mono ?_); (case side1 => exact mH HB.out); (case side2 => exact Kd.R_nil _ _ _ _ _); rintro e w45 ⟨v555, rfl, ho0, hb, hkp⟩; refine ⟨_, rfl, ?_⟩; replace HO_5 := mS (Kd.R_mono (ok' := fun k_ => True) (Kd.R_keptB (HO_5.out) hkp (fun k_ hk_ hs_ => (fun e_ => by simp [Value.ownBlock] at e_) hs_)) (fun k_ hk_ => trivial)); have HO556 := mS (Kd.R_mono (ok' := fun k_ => some k_ ≠ (.slice Ao44 x3_2.length co44 : Value).ownBlock ∧ some k_ ≠ (u4 : Value).ownBlock) ho0 (fun k_ hk_ => ⟨Or.elim hk_ (fun hs_ => absurd hs_ (by simp [Value.ownBlock])) (fun hn_ => (Kd.fresh' (Kd.R_lt (mR HO_3.out)) k_ hn_)), Or.elim hk_ (fun hs_ => absurd hs_ (by simp [Value.ownBlock])) (fun hn_ => (Kd.fresh' (Kd.R_lt (mR HO_4.out)) k_ hn_))⟩)); replace HO_3 := mS (Kd.R_mono (ok' := fun k_ => some k_ ≠ (u4 : Value).ownBlock ∧ some k_ ≠ (v555 : Value).ownBlock) (Kd.R_keptB (HO_3.out) hkp (fun k_ hk_ hs_ => (fun e_ => by simp [Value.ownBlock] at e_) hs_)) (fun k_ hk_ => ⟨hk_.1, fun e_ => Or.elim (ho0.1 k_ e_.symm) (fun hs_ => hk_.2.1 hs_) (fun hn_ => Nat.not_le.2 hk_.2.2 hn_)⟩)); replace HO_4 := mS (Kd.R_mono (ok' := fun k_ => some k_ ≠ (.slice Ao44 x3_2.length co44 : Value).ownBlock ∧ some k_ ≠ (v555 : Value).ownBlock) (Kd.R_keptB (HO_4.out) hkp (fun k_ hk_ hs_ => (fun e_ => by simp [Value.ownBlock] at e_) hs_)) (fun k_ hk_ => ⟨hk_.1, fun e_ => Or.elim (ho0.1 k_ e_.symm) (fun hs_ => hk_.2.1 hs_) (fun hn_ => Nat.not_le.2 hk_.2.2 hn_)⟩)); replace HB := mS (hb); (try clear hb); (try clear hkp); (try clear ho0); obtain ⟨Ao47, co47, eo47⟩ := Kd.R_slice HO_4.out; subst eo47) | ((with_reducible refine gate_builtin (b := .append) (xs := #[.tmp 69, .tmp 70]) rfl ?_); at_builtin; refine Kd.R_append_rows (Kd.int .u8) (w0 := w) w.heap.size rfl (.tmp 69) (.tmp 70) 22 5 (.int .u8 0) 1 rfl Try.underlying22 info5 rfl (by decide) (by omega) v555 t554 x4_2 _ _ _ (fun k_ => some k_ ≠ (.slice Ao44 x3_2.length co44 : Value).ownBlock ∧ some k_ ≠ (.slice Ao47 x4_2.length co47 : Value).ownBlock) (fun _ => False) rfl rfl ?aO ?aR (fun _ _ h => h) (fun _ h => h.elim) ?aF ?aB ?aS ?aL ?_; (case aR => exact mC (Kd.R_reads' HO_4.out).2.2); (case aB => exact (mH HB.out)); (case aF => exact (fun k_ hk => ⟨Kd.fresh' (Kd.R_lt (mR HO_3.out)) k_ hk, Kd.fresh' (Kd.R_lt (mR HO_4.out)) k_ hk⟩)); (case aO => exact (mR HO556.out)); (case aS => exact (below_size (mH HB.out))); (case aL => have := LMc37.out; omega); intro v558 w46 ho hb hg hat; rw [← Ny557.out] at ho; replace HO_3 := mS (Kd.R_after (ok := (fun k_ => some k_ ≠ (.slice Ao47 x4_2.length co47 : Value).ownBlock)) (mR HO_3.out) hg hat); replace HO_4 := mS (Kd.R_after (ok := (fun k_ => some k_ ≠ (.slice Ao44 x3_2.length co44 : Value).ownBlock)) (mR HO_4.out) hg hat); replace HO_5 := mS (Kd.R_over' (mR HO_5.out) (Kd.R_typed (mR HO556.out)) (by decide) hg); replace HB := mS (hb); have HO559 := mS (ho); clear HO556; clear ho hb hg hat; obtain ⟨Ao48, co48, eo48⟩ := Kd.R_slice HO_5.out; subst eo48) | ((with_reducible refine gate_callee (f := 88) rfl ?_); refine mGo 73 Try.func88 #[.slice Ao48 x5_3.length co48] ?_; (with_reducible refine (impl_Filter.calls k3 _ _ x5_3 t560 _ ?side1 ?side2 A38.out).mono ?_); (case side1 => exact mC (Kd.R_reads' HO_5.out).2.2); (case side2 => exact (Kd.R_reads' HO_5.out).2.1); rintro e w49 ⟨v561, rfl, ho0, hb⟩; refine ⟨_, rfl, ?_⟩; replace HO_5 := mS (Kd.R_below (mR HO_5.out) hb); have HO562 := mS (Kd.R_lower (Kd.R_new' (Kd.R_new' (Kd.R_new' ho0 (Kd.R_lt (mR HO_3.out))) (Kd.R_lt (mR HO_4.out))) (Kd.R_lt (mR HO559.out))) (below_size (mH HB.out))); replace HO_3 := mS (Kd.R_elder' (mR HO_3.out) (Kd.R_base ho0) hb); replace HO_4 := mS (Kd.R_elder' (mR HO_4.out) (Kd.R_base ho0) hb); replace HO559 := mS (Kd.R_elder' (mR HO559.out) (Kd.R_base ho0) hb); replace HB := mS (below_step (mH HB.out) hb); (try clear hb); (try clear ho0); obtain ⟨Ao51, co51, eo51⟩ := Kd.R_slice HO562.out; subst eo51) | ((with_reducible refine gate_builtin (b := .append) (xs := #[.tmp 71, .tmp 73]) rfl ?_); at_builtin; refine Kd.R_append_rows (Kd.int .u8) (w0 := w) w.heap.size rfl (.tmp 71) (.tmp 73) 22 5 (.int .u8 0) 1 rfl Try.underlying22 info5 rfl (by decide) (by omega) v558 y557 t560 _ _ _ (fun k_ => some k_ ≠ (.slice Ao44 x3_2.length co44 : Value).ownBlock ∧ some k_ ≠ (.slice Ao47 x4_2.length co47 : Value).ownBlock ∧ some k_ ≠ (.slice Ao51 t560.length co51 : Value).ownBlock) (fun _ => False) rfl rfl ?aO ?aR (fun _ _ h => h) (fun _ h => h.elim) ?aF ?aB ?aS ?aL ?_; (case aR => exact mC (Kd.R_reads' HO562.out).2.2); (case aB => exact (mH HB.out)); (case aF => exact (fun k_ hk => ⟨Kd.fresh' (Kd.R_lt (mR HO_3.out)) k_ hk, Kd.fresh' (Kd.R_lt (mR HO_4.out)) k_ hk, Kd.fresh' (Kd.R_lt (mR HO562.out)) k_ hk⟩)); (case aO => exact (by refine mR ?_; exact Kd.R_mono HO559.out (fun _ hk => ⟨hk.1.1, ⟨hk.1.2, hk.2⟩⟩))); (case aS => exact (below_size (mH HB.out))); (case aL => have := LMc39.out; omega); intro v564 w50 ho hb hg hat; rw [← Ny563.out] at ho; replace HO_3 := mS (Kd.R_after (ok := (fun k_ => some k_ ≠ (.slice Ao47 x4_2.length co47 : Value).ownBlock ∧ some k_ ≠ (.slice Ao51 t560.length co51 : Value).ownBlock)) (by refine mR ?_; exact Kd.R_mono HO_3.out (fun _ hk => ⟨⟨hk.1.1, hk.2⟩, hk.1.2⟩)) hg hat); replace HO_4 := mS (Kd.R_after (ok := (fun k_ => some k_ ≠ (.slice Ao44 x3_2.length co44 : Value).ownBlock ∧ some k_ ≠ (.slice Ao51 t560.length co51 : Value).ownBlock)) (by refine mR ?_; exact Kd.R_mono HO_4.out (fun _ hk => ⟨⟨hk.1.1, hk.2⟩, hk.1.2⟩)) hg hat); replace HO_5 := mS (Kd.R_over' (mR HO_5.out) (Kd.R_typed (mR HO559.out)) (by decide) hg); replace HO562 := mS (Kd.R_after (ok := (fun k_ => some k_ ≠ (.slice Ao44 x3_2.length co44 : Value).ownBlock ∧ some k_ ≠ (.slice Ao47 x4_2.length co47 : Value).ownBlock)) (by refine mR ?_; exact Kd.R_mono HO562.out (fun _ hk => ⟨⟨hk.1.1.2, hk.1.2⟩, hk.2⟩)) hg hat); replace HB := mS (hb); have HO565 := mS (ho); clear HO559; clear ho hb hg hat; obtain ⟨Ao52, co52, eo52⟩ := Kd.R_slice HO565.out; subst eo52) | ((with_reducible refine gate_callee (f := 89) rfl ?_); refine mGo 77 Try.func89 #[.slice Ao52 y563.length co52] ?_; (with_reducible refine (impl_Frame.calls k3 _ _ y563 t566 _ ?side1 ?side2 A40.out).mono ?_); (case side1 => exact mC (Kd.R_reads' HO565.out).2.2); (case side2 => exact (Kd.R_reads' HO565.out).2.1); rintro e w53 ⟨v567, rfl, ho0, hb⟩; refine ⟨_, rfl, ?_⟩; replace HO_5 := mS (Kd.R_below (mR HO_5.out) hb); have HO568 := mS (Kd.R_lower (Kd.R_new' (Kd.R_new' (Kd.R_new' (Kd.R_new' ho0 (Kd.R_lt (mR HO_3.out))) (Kd.R_lt (mR HO_4.out))) (Kd.R_lt (mR HO562.out))) (Kd.R_lt (mR HO565.out))) (below_size (mH HB.out))); replace HO_3 := mS (Kd.R_elder' (mR HO_3.out) (Kd.R_base ho0) hb); replace HO_4 := mS (Kd.R_elder' (mR HO_4.out) (Kd.R_base ho0) hb); replace HO562 := mS (Kd.R_elder' (mR HO562.out) (Kd.R_base ho0) hb); replace HO565 := mS (Kd.R_elder' (mR HO565.out) (Kd.R_base ho0) hb); replace HB := mS (below_step (mH HB.out) hb); (try clear hb); (try clear ho0); obtain ⟨Ao55, co55, eo55⟩ := Kd.R_slice HO568.out; subst eo55) | ((with_reducible refine gate_builtin (b := .append) (xs := #[.tmp 75, .tmp 77]) rfl ?_); at_builtin; refine Kd.R_append_rows (Kd.int .u8) (w0 := w) w.heap.size rfl (.tmp 75) (.tmp 77) 22 5 (.int .u8 0) 1 rfl Try.underlying22 info5 rfl (by decide) (by omega) (.slice Ao44 x3_2.length co44) x3_2 t566 _ _ _ (fun k_ => some k_ ≠ (.slice Ao47 x4_2.length co47 : Value).ownBlock ∧ some k_ ≠ (.slice Ao51 t560.length co51 : Value).ownBlock ∧ some k_ ≠ (.slice Ao52 y563.length co52 : Value).ownBlock ∧ some k_ ≠ (.slice Ao55 t566.length co55 : Value).ownBlock) (fun _ => False) rfl rfl ?aO ?aR (fun _ _ h => h) (fun _ h => h.elim) ?aF ?aB ?aS ?aL ?_; (case aR => exact mC (Kd.R_reads' HO568.out).2.2); (case aB => exact (mH HB.out)); (case aF => exact (fun k_ hk => ⟨Kd.fresh' (Kd.R_lt (mR HO_4.out)) k_ hk, Kd.fresh' (Kd.R_lt (mR HO562.out)) k_ hk, Kd.fresh' (Kd.R_lt (mR HO565.out)) k_ hk, Kd.fresh' (Kd.R_lt (mR HO568.out)) k_ hk⟩)); (case aO => exact (by refine mR ?_; exact Kd.R_mono HO_3.out (fun _ hk => ⟨hk.1.1.1, ⟨hk.1.1.2, ⟨hk.1.2, hk.2⟩⟩⟩))); (case aS => exact (below_size (mH HB.out))); (case aL => have := LMc41.out; omega); intro v570 w54 ho hb hg hat; rw [← Ny569.out] at ho; replace HO_4 := mS (Kd.R_after (ok := (fun k_ => some k_ ≠ (.slice Ao51 t560.length co51 : Value).ownBlock ∧ some k_ ≠ (.slice Ao52 y563.length co52 : Value).ownBlock ∧ some k_ ≠ (.slice Ao55 t566.length co55 : Value).ownBlock)) (by refine mR ?_; exact Kd.R_mono HO_4.out (fun _ hk => ⟨⟨hk.1.1.2, ⟨hk.1.2, hk.2⟩⟩, hk.1.1.1⟩)) hg hat); replace HO_5 := mS (Kd.R_over' (mR HO_5.out) (Kd.R_typed (mR HO_3.out)) (by decide) hg); replace HO562 := mS (Kd.R_after (ok := (fun k_ => some k_ ≠ (.slice Ao47 x4_2.length co47 : Value).ownBlock ∧ some k_ ≠ (.slice Ao52 y563.length co52 : Value).ownBlock ∧ some k_ ≠ (.slice Ao55 t566.length co55 : Value).ownBlock)) (by refine mR ?_; exact Kd.R_mono HO562.out (fun _ hk => ⟨⟨hk.1.1.2, ⟨hk.1.2, hk.2⟩⟩, hk.1.1.1⟩)) hg hat); replace HO565 := mS (Kd.R_after (ok := (fun k_ => some k_ ≠ (.slice Ao47 x4_2.length co47 : Value).ownBlock ∧ some k_ ≠ (.slice Ao51 t560.length co51 : Value).ownBlock ∧ some k_ ≠ (.slice Ao55 t566.length co55 : Value).ownBlock)) (by refine mR ?_; exact Kd.R_mono HO565.out (fun _ hk => ⟨⟨hk.1.2.1, ⟨hk.1.2.2, hk.2⟩⟩, hk.1.1⟩)) hg hat); replace HO568 := mS (Kd.R_after (ok := (fun k_ => some k_ ≠ (.slice Ao47 x4_2.length co47 : Value).ownBlock ∧ some k_ ≠ (.slice Ao51 t560.length co51 : Value).ownBlock ∧ some k_ ≠ (.slice Ao52 y563.length co52 : Value).ownBlock)) (by refine mR ?_; exact Kd.R_mono HO568.out (fun _ hk => ⟨⟨hk.1.1.2, ⟨hk.1.2, hk.2⟩⟩, hk.1.1.1.2⟩)) hg hat); replace HB := mS (hb); have HO571 := mS (ho); clear HO_3; clear ho hb hg hat) | ((with_reducible refine gate_callee (f := 90) rfl ?_); refine mGo 80 Try.func90 #[.int .i64 (x3_2.length : Int)] ?_; (with_reducible refine (impl_word.calls (x3_2.length : Int) t572 _ A42.out).mono ?_); rintro e w56 ⟨v573, rfl, ho0, hb⟩; refine ⟨_, rfl, ?_⟩; replace HO_5 := mS (Kd.R_below (mR HO_5.out) hb); have HO574 := mS (Kd.R_lower (Kd.R_new' (Kd.R_new' (Kd.R_new' (Kd.R_new' (Kd.R_new' ho0 (Kd.R_lt (mR HO_4.out))) (Kd.R_lt (mR HO562.out))) (Kd.R_lt (mR HO565.out))) (Kd.R_lt (mR HO568.out))) (Kd.R_lt (mR HO571.out))) (below_size (mH HB.out))); replace HO_4 := mS (Kd.R_elder' (mR HO_4.out) (Kd.R_base ho0) hb); replace HO562 := mS (Kd.R_elder' (mR HO562.out) (Kd.R_base ho0) hb); replace HO565 := mS (Kd.R_elder' (mR HO565.out) (Kd.R_base ho0) hb); replace HO568 := mS (Kd.R_elder' (mR HO568.out) (Kd.R_base ho0) hb); replace HO571 := mS (Kd.R_elder' (mR HO571.out) (Kd.R_base ho0) hb); replace HB := mS (below_step (mH HB.out) hb); (try clear hb); (try clear ho0); obtain ⟨Ao58, co58, eo58⟩ := Kd.R_slice HO574.out; subst eo58) | ((with_reducible refine gate_builtin (b := .append) (xs := #[.tmp 78, .tmp 80]) rfl ?_); at_builtin; refine Kd.R_append_rows (Kd.int .u8) (w0 := w) w.heap.size rfl (.tmp 78) (.tmp 80) 22 5 (.int .u8 0) 1 rfl Try.underlying22 info5 rfl (by decide) (by omega) v570 y569 t572 _ _ _ (fun k_ => some k_ ≠ (.slice Ao47 x4_2.length co47 : Value).ownBlock ∧ some k_ ≠ (.slice Ao51 t560.length co51 : Value).ownBlock ∧ some k_ ≠ (.slice Ao52 y563.length co52 : Value).ownBlock ∧ some k_ ≠ (.slice Ao55 t566.length co55 : Value).ownBlock ∧ some k_ ≠ (.slice Ao58 t572.length co58 : Value).ownBlock) (fun _ => False) rfl rfl ?aO ?aR (fun _ _ h => h) (fun _ h => h.elim) ?aF ?aB ?aS ?aL ?_; (case aR => exact mC (Kd.R_reads' HO574.out).2.2); (case aB => exact (mH HB.out)); (case aF => exact (fun k_ hk => ⟨Kd.fresh' (Kd.R_lt (mR HO_4.out)) k_ hk, Kd.fresh' (Kd.R_lt (mR HO562.out)) k_ hk, Kd.fresh' (Kd.R_lt (mR HO565.out)) k_ hk, Kd.fresh' (Kd.R_lt (mR HO568.out)) k_ hk, Kd.fresh' (Kd.R_lt (mR HO574.out)) k_ hk⟩)); (case aO => exact (by refine mR ?_; exact Kd.R_mono HO571.out (fun _ hk => ⟨hk.1.1, ⟨hk.1.2.1, ⟨hk.1.2.2.1, ⟨hk.1.2.2.2, hk.2⟩⟩⟩⟩))); (case aS => exact (below_size (mH HB.out))); (case aL => have := LMc43.out; omega); intro v576 w57 ho hb hg hat; rw [← Ny575.out] at ho; replace HO_4 := mS (Kd.R_after (ok := (fun k_ => some k_ ≠ (.slice Ao51 t560.length co51 : Value).ownBlock ∧ some k_ ≠ (.slice Ao52 y563.length co52 : Value).ownBlock ∧ some k_ ≠ (.slice Ao55 t566.length co55 : Value).ownBlock ∧ some k_ ≠ (.slice Ao58 t572.length co58 : Value).ownBlock)) (by refine mR ?_; exact Kd.R_mono HO_4.out (fun _ hk => ⟨⟨hk.1.1.1, ⟨hk.1.1.2.1, ⟨hk.1.1.2.2, hk.2⟩⟩⟩, hk.1.2⟩)) hg hat); replace HO_5 := mS (Kd.R_over' (mR HO_5.out) (Kd.R_typed (mR HO571.out)) (by decide) hg); replace HO562 := mS (Kd.R_after (ok := (fun k_ => some k_ ≠ (.slice Ao47 x4_2.length co47 : Value).ownBlock ∧ some k_ ≠ (.slice Ao52 y563.length co52 : Value).ownBlock ∧ some k_ ≠ (.slice Ao55 t566.length co55 : Value).ownBlock ∧ some k_ ≠ (.slice Ao58 t572.length co58 : Value).ownBlock)) (by refine mR ?_; exact Kd.R_mono HO562.out (fun _ hk => ⟨⟨hk.1.1.1, ⟨hk.1.1.2.1, ⟨hk.1.1.2.2, hk.2⟩⟩⟩, hk.1.2⟩)) hg hat); replace HO565 := mS (Kd.R_after (ok := (fun k_ => some k_ ≠ (.slice Ao47 x4_2.length co47 : Value).ownBlock ∧ some k_ ≠ (.slice Ao51 t560.length co51 : Value).ownBlock ∧ some k_ ≠ (.slice Ao55 t566.length co55 : Value).ownBlock ∧ some k_ ≠ (.slice Ao58 t572.length co58 : Value).ownBlock)) (by refine mR ?_; exact Kd.R_mono HO565.out (fun _ hk => ⟨⟨hk.1.1.1, ⟨hk.1.1.2.1, ⟨hk.1.1.2.2, hk.2⟩⟩⟩, hk.1.2⟩)) hg hat); replace HO568 := mS (Kd.R_after (ok := (fun k_ => some k_ ≠ (.slice Ao47 x4_2.length co47 : Value).ownBlock ∧ some k_ ≠ (.slice Ao51 t560.length co51 : Value).ownBlock ∧ some k_ ≠ (.slice Ao52 y563.length co52 : Value).ownBlock ∧ some k_ ≠ (.slice Ao58 t572.length co58 : Value).ownBlock)) (by refine mR ?_; exact Kd.R_mono HO568.out (fun _ hk => ⟨⟨hk.1.1.1, ⟨hk.1.1.2.1, ⟨hk.1.1.2.2, hk.2⟩⟩⟩, hk.1.2⟩)) hg hat); replace HO574 := mS (Kd.R_after (ok := (fun k_ => some k_ ≠ (.slice Ao47 x4_2.length co47 : Value).ownBlock ∧ some k_ ≠ (.slice Ao51 t560.length co51 : Value).ownBlock ∧ some k_ ≠ (.slice Ao52 y563.length co52 : Value).ownBlock ∧ some k_ ≠ (.slice Ao55 t566.length co55 : Value).ownBlock)) (by refine mR ?_; exact Kd.R_mono HO574.out (fun _ hk => ⟨⟨hk.1.1.1.1.2, ⟨hk.1.1.1.2, ⟨hk.1.1.2, hk.1.2⟩⟩⟩, hk.2⟩)) hg hat); replace HB := mS (hb); have HO577 := mS (ho); clear HO571; clear ho hb hg hat))
              go_ret
              exact ⟨_, mEw, by refine mR ?_; exact Kd.R_mono HO577.out (fun _ hk => trivial), (mH HB.out)⟩
             ·rw [if_neg c43] at H
              exact absurd H (by simp)
            ·rw [if_neg c41] at H
             exact absurd H (by simp)
           ·rw [if_neg c39] at H
            exact absurd H (by simp)
          ·rw [if_neg c37] at H
           exact absurd H (by simp)

end Go.Proofs.Ytecjamgajlpfdaa.MFnExactTablePairs
