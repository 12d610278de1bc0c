-- Written by mp.py, this session's own printer (wip/mp.py).
import Derived.Test.YtbepbgfkajnlbaaVMShort
import Derived.Test.YtbepbgfkajnlbaaMFnExactPutTablex0
import Derived.Test.YtbepbgfkajnlbaaMFnExactPutTablex7
import Derived.Test.YtbepbgfkajnlbaaMFnExactPutTablex8
import Derived.Test.YtbepbgfkajnlbaaMFnExactPutTablex9
import Derived.Test.YtbepbgfkajnlbaaMFnExactPutTablex10
import Derived.Test.YtbepbgfkajnlbaaMFnExactPutTablex11
namespace Go.Proofs.Ytbepbgfkajnlbaa.MFnExactPutTable
open Go.RowKit Go.Proofs.YtbepbgfkajnlbaaW.PrintWords Go.Proofs.YtbepbgfkajnlbaaW.PrintLast Go.Proofs.YtbepbgfkajnlbaaW.PrintMore Go.Proofs.Ytbepbgfkajnlbaa.MWords
attribute [local go_sem] max2_int min2_int max_two min_two max_three min_three max_four min_four   -- for this text's walks alone
set_option linter.unusedVariables false
set_option linter.unusedSimpArgs false

/-! ### impl_PutTable: function 69 -/
mutual
def impl_PutTable.j0 : Nat → List (S33) → Bool → Option (List Int)
 | 0, _, _ => none
 | k + 1, x0, x21 => if x21 = true then (some ([] : List Int)) else (impl_PutTable.l0 k x0 ([] : List Int) ([] : List Int) 0 0)
def impl_PutTable.l0 : Nat → List (S33) → List Int → List Int → Int → Int → Option (List Int)
 | 0, _, _, _, _, _ => none
 | k + 1, x0, x3, x4, x6, x7 => if x7 < (x0.length : Int) then (if 0 ≤ x7 then (if x7 ≤ (mn (wrap64 (x7 + 4)) (x0.length : Int)) then (if (mn (wrap64 (x7 + 4)) (x0.length : Int)) ≤ (x0.length : Int) then ((some ((x0.take ((mn (wrap64 (x7 + 4)) (x0.length : Int)) : Int).toNat).drop (x7 : Int).toNat : List (S33))).bind fun y354 => (if 0 ≤ (wrap64 ((y354.length : Int) - 1)) then (if (wrap64 ((y354.length : Int) - 1)) < (y354.length : Int) then ((impl_addText.f k x4 ((rd_T33 y354 (wrap64 ((y354.length : Int) - 1))).f0)).bind fun t359 => ((impl_addNum.f k t359 (x3.length : Int)).bind fun t362 => ((impl_putBlock.f k y354).bind fun t365 => (if x3.length + t365.length < 140737488355328 then (impl_PutTable.l0 k x0 (x3 ++ t365) t362 (wrap64 (x6 + 1)) (wrap64 (x7 + 4))) else (none))))) else (none)) else (none))) else (none)) else (none)) else (none)) else (impl_PutTable.l1 k x3 x4 ([] : List ByteArray) x6 x0 (x0.length : Int) 0)
def impl_PutTable.l1 : Nat → List Int → List Int → List ByteArray → Int → List (S33) → Int → Int → Option (List Int)
 | 0, _, _, _, _, _, _, _ => none
 | k + 1, x3, x4, x5, x6, x54, x55, x56 => if x56 < x55 then (if 0 ≤ x56 then (if x56 < (x54.length : Int) then (if x5.length < 8796093022208 then (impl_PutTable.l1 k x3 x4 (x5 ++ [(rd_T33 x54 x56).f0]) x6 x54 x55 (wrap64 (x56 + 1))) else (none)) else (none)) else (none)) else ((impl_addNum.f k ([] : List Int) x6).bind fun t376 => (if t376.length + x4.length < 140737488355328 then ((some (t376 ++ x4 : List Int)).bind fun y379 => ((impl_Filter.f k x5).bind fun t382 => (if y379.length + t382.length < 140737488355328 then ((impl_Frame.f k (y379 ++ t382)).bind fun t388 => (if x3.length + t388.length < 140737488355328 then ((some (x3 ++ t388 : List Int)).bind fun y391 => ((impl_word.f (x3.length : Int)).bind fun t394 => (if y391.length + t394.length < 140737488355328 then (some (y391 ++ t394)) else (none)))) else (none))) else (none)))) else (none)))
end
def impl_PutTable.f (k : Nat) (l0 : List (S33)) : Option (List Int) := (impl_in.f (l0.length : Int) 1 200).bind fun t352 => (if t352 = true then ((impl_rising.f k l0).bind fun t353 => (impl_PutTable.j0 k l0 (!t353))) else (impl_PutTable.j0 k l0 true))
theorem impl_PutTable.mono_l : ∀ k, (∀ y0 y1, LeO (impl_PutTable.j0 k y0 y1) (impl_PutTable.j0 (k + 1) y0 y1)) ∧ (∀ y0 y1 y2 y3 y4, LeO (impl_PutTable.l0 k y0 y1 y2 y3 y4) (impl_PutTable.l0 (k + 1) y0 y1 y2 y3 y4)) ∧ (∀ y0 y1 y2 y3 y4 y5 y6, LeO (impl_PutTable.l1 k y0 y1 y2 y3 y4 y5 y6) (impl_PutTable.l1 (k + 1) y0 y1 y2 y3 y4 y5 y6))
 | 0 => ⟨fun _ _ r h => by simp [impl_PutTable.j0] at h, fun _ _ _ _ _ r h => by simp [impl_PutTable.l0] at h, fun _ _ _ _ _ _ _ r h => by simp [impl_PutTable.l1] at h⟩
 | k + 1 => by
  obtain ⟨ih0, ih1, ih2⟩ := impl_PutTable.mono_l k
  refine ⟨?_, ?_, ?_⟩
  ·intro y0 y1
   unfold impl_PutTable.j0
   repeat' first
   | (with_reducible exact ih0 _ _)
   | (with_reducible exact ih1 _ _ _ _ _)
   | (with_reducible exact ih2 _ _ _ _ _ _ _)
   | (with_reducible exact impl_Filter.mono _ _)
   | (with_reducible exact impl_Frame.mono _ _)
   | (with_reducible exact impl_addNum.mono _ _ _)
   | (with_reducible exact impl_addText.mono _ _ _)
   | (with_reducible exact impl_putBlock.mono _ _)
   | (with_reducible exact impl_rising.mono _ _)
   | (with_reducible exact LeO.refl _)
   | (with_reducible exact LeO.none _)
   | (with_reducible refine LeO.ite ?_ ?_)
   | (with_reducible refine LeO.bind ?_ (fun _ => ?_))
   | exact ih0 _ _
   | exact ih1 _ _ _ _ _
   | exact ih2 _ _ _ _ _ _ _
   | exact impl_Filter.mono _ _
   | exact impl_Frame.mono _ _
   | exact impl_addNum.mono _ _ _
   | exact impl_addText.mono _ _ _
   | exact impl_putBlock.mono _ _
   | exact impl_rising.mono _ _
   | exact LeO.none _
   | refine LeO.ite ?_ ?_
   | refine LeO.bind ?_ (fun _ => ?_)
  ·intro y0 y1 y2 y3 y4
   unfold impl_PutTable.l0
   repeat' first
   | (with_reducible exact ih0 _ _)
   | (with_reducible exact ih1 _ _ _ _ _)
   | (with_reducible exact ih2 _ _ _ _ _ _ _)
   | (with_reducible exact impl_Filter.mono _ _)
   | (with_reducible exact impl_Frame.mono _ _)
   | (with_reducible exact impl_addNum.mono _ _ _)
   | (with_reducible exact impl_addText.mono _ _ _)
   | (with_reducible exact impl_putBlock.mono _ _)
   | (with_reducible exact impl_rising.mono _ _)
   | (with_reducible exact LeO.refl _)
   | (with_reducible exact LeO.none _)
   | (with_reducible refine LeO.ite ?_ ?_)
   | (with_reducible refine LeO.bind ?_ (fun _ => ?_))
   | exact ih0 _ _
   | exact ih1 _ _ _ _ _
   | exact ih2 _ _ _ _ _ _ _
   | exact impl_Filter.mono _ _
   | exact impl_Frame.mono _ _
   | exact impl_addNum.mono _ _ _
   | exact impl_addText.mono _ _ _
   | exact impl_putBlock.mono _ _
   | exact impl_rising.mono _ _
   | exact LeO.none _
   | refine LeO.ite ?_ ?_
   | refine LeO.bind ?_ (fun _ => ?_)
  ·intro y0 y1 y2 y3 y4 y5 y6
   unfold impl_PutTable.l1
   repeat' first
   | (with_reducible exact ih0 _ _)
   | (with_reducible exact ih1 _ _ _ _ _)
   | (with_reducible exact ih2 _ _ _ _ _ _ _)
   | (with_reducible exact impl_Filter.mono _ _)
   | (with_reducible exact impl_Frame.mono _ _)
   | (with_reducible exact impl_addNum.mono _ _ _)
   | (with_reducible exact impl_addText.mono _ _ _)
   | (with_reducible exact impl_putBlock.mono _ _)
   | (with_reducible exact impl_rising.mono _ _)
   | (with_reducible exact LeO.refl _)
   | (with_reducible exact LeO.none _)
   | (with_reducible refine LeO.ite ?_ ?_)
   | (with_reducible refine LeO.bind ?_ (fun _ => ?_))
   | exact ih0 _ _
   | exact ih1 _ _ _ _ _
   | exact ih2 _ _ _ _ _ _ _
   | exact impl_Filter.mono _ _
   | exact impl_Frame.mono _ _
   | exact impl_addNum.mono _ _ _
   | exact impl_addText.mono _ _ _
   | exact impl_putBlock.mono _ _
   | exact impl_rising.mono _ _
   | exact LeO.none _
   | refine LeO.ite ?_ ?_
   | refine LeO.bind ?_ (fun _ => ?_)
theorem impl_PutTable.mono : ∀ a0 k, LeO (impl_PutTable.f k a0) (impl_PutTable.f (k + 1) a0) := by
 intro a0 k
 obtain ⟨ih0, ih1, ih2⟩ := impl_PutTable.mono_l k
 unfold impl_PutTable.f
 repeat' first
   | (with_reducible exact ih0 _ _)
   | (with_reducible exact ih1 _ _ _ _ _)
   | (with_reducible exact ih2 _ _ _ _ _ _ _)
   | (with_reducible exact impl_Filter.mono _ _)
   | (with_reducible exact impl_Frame.mono _ _)
   | (with_reducible exact impl_addNum.mono _ _ _)
   | (with_reducible exact impl_addText.mono _ _ _)
   | (with_reducible exact impl_putBlock.mono _ _)
   | (with_reducible exact impl_rising.mono _ _)
   | (with_reducible exact LeO.refl _)
   | (with_reducible exact LeO.none _)
   | (with_reducible refine LeO.ite ?_ ?_)
   | (with_reducible refine LeO.bind ?_ (fun _ => ?_))
   | exact ih0 _ _
   | exact ih1 _ _ _ _ _
   | exact ih2 _ _ _ _ _ _ _
   | exact impl_Filter.mono _ _
   | exact impl_Frame.mono _ _
   | exact impl_addNum.mono _ _ _
   | exact impl_addText.mono _ _ _
   | exact impl_putBlock.mono _ _
   | exact impl_rising.mono _ _
   | exact LeO.none _
   | refine LeO.ite ?_ ?_
   | refine LeO.bind ?_ (fun _ => ?_)
set_option maxHeartbeats 8000000 in
set_option maxRecDepth 100000 in
theorem impl_PutTable.calls (k : Nat) (A0 : Option Addr) (c0 : Nat) (l0 : List (S33)) (r : List Int) (w : World) (hr0 : Kd.C k33 w A0 l0.length l0) (hc0 : l0.length ≤ c0) (h : impl_PutTable.f k l0 = some r) :
  Calls Try.prog 69 #[.slice A0 l0.length c0] w fun e w' => ∃ v0_ : Value, e = .returned (v0_) ∧ Kd.R (Kd.int .u8) 5 w' w.heap.size (fun _ => True) v0_ r ∧ Below w.heap.size w w' := by
 have hu33 := Try.underlying33
 have HR0 := mS hr0
 have HC0 := mS hc0
 clear hr0 hc0
 have HB := mS (Below.refl w.heap.size w)
 have H : ((impl_in.f (l0.length : Int) 1 200).bind fun t352 => (if t352 = true then ((impl_rising.f k l0).bind fun t353 => (impl_PutTable.j0 k l0 (!t353))) else (impl_PutTable.j0 k l0 true))) = some r := h
 clear h
 have HC2 := mS H
 clear H
 go_enter Try.func69, Try.ntmps69
 go_upto_region 1 with (fail)
 go_cut [21] (fun v21 wc => ∃ (kq : Nat) (x21_1 : Bool), v21 = .bool x21_1 ∧ Aside0 (impl_PutTable.j0 kq l0 x21_1 = some r) ∧ Aside0 (kq ≤ k) ∧ Aside0 (Below w.heap.size w wc))
 case first =>
  have H := HC2.out
  clear HC2
  replace H := Option.bind_eq_some_iff.mp H
  obtain ⟨t352, A30, H⟩ := H
  replace H : (if t352 = true then ((impl_rising.f k l0).bind fun t353 => (impl_PutTable.j0 k l0 (!t353))) else (impl_PutTable.j0 k l0 true)) = some r := H
  have A3 := mS A30
  clear A30
  by_cases c4 : t352 = true
  ·subst c4
   have H1 : ((impl_rising.f k l0).bind fun t353 => (impl_PutTable.j0 k l0 (!t353))) = some r := by rw [if_pos rfl] at H; exact H
   clear H
   have H := H1
   clear H1
   replace H := Option.bind_eq_some_iff.mp H
   obtain ⟨t353, A50, H⟩ := H
   replace H : (impl_PutTable.j0 k l0 (!t353)) = some r := H
   have A5 := mS A50
   clear A50
   have H' := mS H
   clear H
   go_wp2_with (first | ((with_reducible refine gate_callee (f := 77) rfl ?_); refine goesL_ (some 15) rfl rfl Try.func77 (by kernel_rfl) rfl #[.int .i64 (l0.length : Int), .int .i64 1, .int .i64 200] rfl mA ?_; (with_reducible refine (impl_in.calls (l0.length : Int) 1 200 true _ A3.out).mono ?_); rintro e w' ⟨rfl, ⟨nd, rfl⟩⟩; refine ⟨_, rfl, ?_⟩) | (go_at_call 110; (with_reducible refine (impl_rising.calls k _ _ l0 t353 _ ?side1 ?side2 A5.out).mono ?_); (case side1 => repeat (first | exact (Kd.C_below HR0.out (mH HB.out)) | (with_reducible refine Kd.C_alloc ?_ _) | (with_reducible refine Kd.C_drewN ?_ _) | (with_reducible refine Kd.C_drew ?_))); (case side2 => exact HC0.out); rintro e w6 ⟨rfl, hb⟩; replace HB := mS (below_step (mH HB.out) hb); (try clear hb); (try clear hb2); (try clear hk); (try clear hi)))
   go_meet
   case rel => exact ⟨_, (!t353), (by first | rfl | (simp; done) | (simp [*]; done)), H', ⟨by first | omega | exact Nat.le_refl _⟩, ⟨(mH HB.out)⟩⟩
  ·replace c4 := Bool.eq_false_iff.mpr c4
   subst c4
   have H1 : (impl_PutTable.j0 k l0 true) = some r := by rw [if_neg (show ¬ (false = true) by decide)] at H; exact H
   clear H
   have H := H1
   clear H1
   have H' := mS H
   clear H
   go_wp2_with (first | ((with_reducible refine gate_callee (f := 77) rfl ?_); refine goesL_ (some 15) rfl rfl Try.func77 (by kernel_rfl) rfl #[.int .i64 (l0.length : Int), .int .i64 1, .int .i64 200] rfl mA ?_; (with_reducible refine (impl_in.calls (l0.length : Int) 1 200 false _ A3.out).mono ?_); rintro e w' ⟨rfl, ⟨nd, rfl⟩⟩; refine ⟨_, rfl, ?_⟩))
   go_meet
   case rel => exact ⟨_, (true), (by first | rfl | (simp; done) | (simp [*]; done)), H', ⟨by first | omega | exact Nat.le_refl _⟩, ⟨(mH HB.out)⟩⟩
 case rest =>
  clear HC2
  try clear p2
  try clear c4
  try clear c6
  obtain ⟨kq, x21_1, rfl, HA, HJ1, HB⟩ := hcut
  cases kq with
  | zero => exact absurd HA.out (by simp [impl_PutTable.j0])
  | succ kj1 =>
   have H := HA.out
   clear HA
   simp only [impl_PutTable.j0] at H
   by_cases c7 : x21_1 = true
   ·subst c7
    have H1 : (some ([] : List Int)) = some r := by rw [if_pos rfl] at H; exact H
    clear H
    have H := H1
    clear H1
    obtain rfl := Option.some.inj H
    go_wp2
    go_ret
    exact ⟨_, by first | rfl | (simp [errW_none, errW_some] <;> rfl) | (simp [*, errW_none, errW_some] <;> rfl), by first | exact Kd.R_nil _ _ _ _ _ | exact Kd.N_nil _ _ _ _ _ | exact Kd.V_nil _ _ _ _ _ | exact Kd.Q_nil _ _ _ _ _ | exact Kd.S_nil _ _ _ _ _, (mH HB.out)⟩
   ·replace c7 := Bool.eq_false_iff.mpr c7
    subst c7
    have H1 : (impl_PutTable.l0 kj1 l0 ([] : List Int) ([] : List Int) 0 0) = some r := by rw [if_neg (show ¬ (false = true) by decide)] at H; exact H
    clear H
    have H := H1
    clear H1
    have H' := mS H
    clear H
    go_wp2
    go_loopg [3, 4, 6, 7] kj1 (fun kq v3 v4 v6 v7 w' => ∃ (x3_2 : List Int) (x4_2 : List Int) (x6_2 : Int) (x7_2 : Int), v6 = .int .i64 x6_2 ∧ v7 = .int .i64 x7_2 ∧ Aside0 (impl_PutTable.l0 kq l0 x3_2 x4_2 x6_2 x7_2 = some r) ∧ Aside0 (kq ≤ kj1) ∧ Aside0 (Kd.R (Kd.int .u8) 5 w' w.heap.size (fun k_ => some k_ ≠ (v4 : Value).ownBlock) v3 x3_2) ∧ Aside0 (Kd.R (Kd.int .u8) 5 w' w.heap.size (fun k_ => some k_ ≠ (v3 : Value).ownBlock) v4 x4_2) ∧ Aside0 (Below w.heap.size w w'))
    case atStart => exact ⟨(([] : List Int)), (([] : List Int)), (0), (0), (by first | rfl | (simp; done) | (simp [*]; done)), (by first | rfl | (simp; done) | (simp [*]; done)), H', ⟨Nat.le_refl _⟩, ⟨by first | exact Kd.R_nil _ _ _ _ _ | exact Kd.N_nil _ _ _ _ _ | exact Kd.V_nil _ _ _ _ _ | exact Kd.Q_nil _ _ _ _ _ | exact Kd.S_nil _ _ _ _ _⟩, ⟨by first | exact Kd.R_nil _ _ _ _ _ | exact Kd.N_nil _ _ _ _ _ | exact Kd.V_nil _ _ _ _ _ | exact Kd.Q_nil _ _ _ _ _ | exact Kd.S_nil _ _ _ _ _⟩, ⟨(mH HB.out)⟩⟩
    case round =>
     clear H'
     try clear p2
     try clear c4
     try clear c6
     try clear c7
     try clear p2
     obtain ⟨x3_2, x4_2, x6_2, x7_2, rfl, rfl, HA, HK2, HO_3, HO_4, HB⟩ := hrel
     cases gk with
     | zero => exact absurd HA.out (by simp [impl_PutTable.l0])
     | succ k2 =>
      have H := HA.out
      clear HA
      simp only [impl_PutTable.l0] at H
      by_cases c8 : x7_2 < (l0.length : Int)
      ·rw [if_pos c8] at H
       have c8b0 : decide (x7_2 < (l0.length : Int)) = true := decide_eq_true c8
       clear c8
       obtain ⟨ji9, hji9⟩ : ∃ j_ : Int, (mn (wrap64 (x7_2 + 4)) (l0.length : Int)) = j_ := ⟨_, rfl⟩
       replace H : (if 0 ≤ x7_2 then (if x7_2 ≤ (ji9) then (if (ji9) ≤ (l0.length : Int) then ((some ((l0.take ((ji9) : Int).toNat).drop (x7_2 : Int).toNat : List (S33))).bind fun y354 => (if 0 ≤ (wrap64 ((y354.length : Int) - 1)) then (if (wrap64 ((y354.length : Int) - 1)) < (y354.length : Int) then ((impl_addText.f k2 x4_2 ((rd_T33 y354 (wrap64 ((y354.length : Int) - 1))).f0)).bind fun t359 => ((impl_addNum.f k2 t359 (x3_2.length : Int)).bind fun t362 => ((impl_putBlock.f k2 y354).bind fun t365 => (if x3_2.length + t365.length < 140737488355328 then (impl_PutTable.l0 k2 l0 (x3_2 ++ t365) t362 (wrap64 (x6_2 + 1)) (wrap64 (x7_2 + 4))) else (none))))) else (none)) else (none))) else (none)) else (none)) else (none)) = some r := by first | (rw [hji9] at H; exact H) | (simp only [hji9] at H ⊢; exact H)
       have hji9_ : (if (l0.length : Int) < (wrap64 (x7_2 + 4)) then (l0.length : Int) else (wrap64 (x7_2 + 4))) = ji9 := hji9
       by_cases c10 : 0 ≤ x7_2
       ·rw [if_pos c10] at H
        have c10b0 := eq_true c10
        have c10b1 : decide (0 ≤ x7_2) = true := decide_eq_true c10
        clear c10
        by_cases c11 : x7_2 ≤ (ji9)
        ·rw [if_pos c11] at H
         have c11b0 := eq_true c11
         have c11b1 : decide (x7_2 ≤ (ji9)) = true := decide_eq_true c11
         clear c11
         by_cases c12 : (ji9) ≤ (l0.length : Int)
         ·rw [if_pos c12] at H
          have c12b0 := eq_true c12
          have c12b1 : decide ((ji9) ≤ (l0.length : Int)) = true := decide_eq_true c12
          clear c12
          obtain ⟨y354, hy354⟩ : ∃ y_ : List (S33), y_ = ((l0.take ((ji9) : Int).toNat).drop (x7_2 : Int).toNat) := ⟨_, rfl⟩
          replace H : (if 0 ≤ (wrap64 ((y354.length : Int) - 1)) then (if (wrap64 ((y354.length : Int) - 1)) < (y354.length : Int) then ((impl_addText.f k2 x4_2 ((rd_T33 y354 (wrap64 ((y354.length : Int) - 1))).f0)).bind fun t359 => ((impl_addNum.f k2 t359 (x3_2.length : Int)).bind fun t362 => ((impl_putBlock.f k2 y354).bind fun t365 => (if x3_2.length + t365.length < 140737488355328 then (impl_PutTable.l0 k2 l0 (x3_2 ++ t365) t362 (wrap64 (x6_2 + 1)) (wrap64 (x7_2 + 4))) else (none))))) else (none)) else (none)) = some r := by first | (rw [hy354]; with_reducible exact H) | (have H2_ := (Option.bind_some _ _).symm.trans H; rw [hy354]; with_reducible exact H2_) | (have H2_ := (Option.bind_some _ _).symm.trans H; with_reducible exact H2_) | with_reducible exact H | (rw [hy354]; exact H) | exact H
          have Ny354 := mS hy354
          clear hy354
          obtain ⟨ji13, hji13⟩ : ∃ j_ : Int, (wrap64 ((y354.length : Int) - 1)) = j_ := ⟨_, rfl⟩
          replace H : (if 0 ≤ (ji13) then (if (ji13) < (y354.length : Int) then ((impl_addText.f k2 x4_2 ((rd_T33 y354 (ji13)).f0)).bind fun t359 => ((impl_addNum.f k2 t359 (x3_2.length : Int)).bind fun t362 => ((impl_putBlock.f k2 y354).bind fun t365 => (if x3_2.length + t365.length < 140737488355328 then (impl_PutTable.l0 k2 l0 (x3_2 ++ t365) t362 (wrap64 (x6_2 + 1)) (wrap64 (x7_2 + 4))) else (none))))) else (none)) else (none)) = some r := by first | (rw [hji13] at H; exact H) | (simp only [hji13] at H ⊢; exact H)
          have hji13w : (IntKind.i64.wrap ((y354.length : Int) - 1)) = ji13 := (i64_w _).trans hji13
          by_cases c14 : 0 ≤ (ji13)
          ·rw [if_pos c14] at H
           have c14b0 : decide (0 ≤ (ji13)) = true := decide_eq_true c14
           clear c14
           by_cases c15 : (ji13) < (y354.length : Int)
           ·rw [if_pos c15] at H
            have c15b0 : decide ((ji13) < (y354.length : Int)) = true := decide_eq_true c15
            clear c15
            replace H := Option.bind_eq_some_iff.mp H
            obtain ⟨t359, A160, H⟩ := H
            replace H : ((impl_addNum.f k2 t359 (x3_2.length : Int)).bind fun t362 => ((impl_putBlock.f k2 y354).bind fun t365 => (if x3_2.length + t365.length < 140737488355328 then (impl_PutTable.l0 k2 l0 (x3_2 ++ t365) t362 (wrap64 (x6_2 + 1)) (wrap64 (x7_2 + 4))) else (none)))) = some r := H
            have A16 := mS A160
            clear A160
            replace H := Option.bind_eq_some_iff.mp H
            obtain ⟨t362, A170, H⟩ := H
            replace H : ((impl_putBlock.f k2 y354).bind fun t365 => (if x3_2.length + t365.length < 140737488355328 then (impl_PutTable.l0 k2 l0 (x3_2 ++ t365) t362 (wrap64 (x6_2 + 1)) (wrap64 (x7_2 + 4))) else (none))) = some r := H
            have A17 := mS A170
            clear A170
            replace H := Option.bind_eq_some_iff.mp H
            obtain ⟨t365, A180, H⟩ := H
            replace H : (if x3_2.length + t365.length < 140737488355328 then (impl_PutTable.l0 k2 l0 (x3_2 ++ t365) t362 (wrap64 (x6_2 + 1)) (wrap64 (x7_2 + 4))) else (none)) = some r := H
            have A18 := mS A180
            clear A180
            by_cases c19 : x3_2.length + t365.length < 140737488355328
            ·rw [if_pos c19] at H
             have LMc19 := mS c19
             clear c19
             obtain ⟨y368, hy368⟩ : ∃ y_ : List Int, y_ = (x3_2 ++ t365) := ⟨_, rfl⟩
             replace H : (impl_PutTable.l0 k2 l0 y368 t362 (wrap64 (x6_2 + 1)) (wrap64 (x7_2 + 4))) = some r := by first | (rw [hy368]; with_reducible exact H) | (have H2_ := (Option.bind_some _ _).symm.trans H; rw [hy368]; with_reducible exact H2_) | (have H2_ := (Option.bind_some _ _).symm.trans H; with_reducible exact H2_) | with_reducible exact H | (rw [hy368]; exact H) | exact H
             have Ny368 := mS hy368
             clear hy368
             have H' := mS H
             clear H
             have q20 : ((ji9) : Int) ≤ ((l0.length : Int) : Int) := of_decide_eq_true (by first | (with_reducible assumption) | assumption)
             obtain ⟨i020, hi020, _, hsz20, _⟩ := info_parts info33
             have hroom20 : l0.length ≤ c0 := HC0.out
             have hC20 : Kd.C k33 _ A0 l0.length l0 := HR0.out
             have ql20 : (x7_2 : Int) ≤ ((ji9) : Int) := of_decide_eq_true (by first | (with_reducible assumption) | assumption)
             have q020 : (0 : Int) ≤ (x7_2 : Int) := of_decide_eq_true (by first | (with_reducible assumption) | assumption)
             have hcut20 := cut_mid (P := Try.prog) 90 33 .i64 .i64 Try.underlying90 hi020 3 hsz20 A0 l0.length c0 x7_2 (ji9) q020 ql20 q20 hroom20
             have hr20 := Kd.C_mid (lo := (x7_2 : Int).toNat) (hi := ((ji9) : Int).toNat) (c := c0) hC20 (by omega) (by omega) hroom20
             obtain ⟨A20, hA20⟩ : ∃ A1, A1 = (if c0 = (x7_2 : Int).toNat then A0 else (A0 : Option Addr).map (·.add ((x7_2 : Int).toNat * 3))) := ⟨_, rfl⟩
             obtain ⟨c20, hc20⟩ : ∃ c1, c1 = c0 - (x7_2 : Int).toNat := ⟨_, rfl⟩
             have hy20 : y354.length = ((ji9) : Int).toNat - (x7_2 : Int).toNat := (by rw [Ny354.out, List.length_drop, List.length_take] <;> omega)
             rw [show ((l0).take ((ji9) : Int).toNat).drop (x7_2 : Int).toNat = y354 from Ny354.out.symm] at hr20
             replace hr20 : Kd.C k33 _ A20 y354.length y354 := (by rw [hA20]; exact hr20)
             rw [← hy20, ← hA20, ← hc20] at hcut20
             have HR357 := mS hr20
             have HC357 := mS (show y354.length ≤ c20 from by rw [hy20, hc20]; exact Nat.sub_le_sub_right (Nat.le_trans (by omega) hroom20) _)
             clear hr20 hC20 hroom20 hi020 hsz20 hc20
             have KY20 := mS hy20
             have KA20 := mS hA20
             clear hy20 hA20
             replace q20 := eq_true q20
             have p358 : 0 ≤ ((ji13) : Int) := of_decide_eq_true (by first | (with_reducible assumption) | assumption)
             have q358 : (ji13) < (y354.length : Int) := of_decide_eq_true (by first | (with_reducible assumption) | assumption)
             obtain ⟨ad358, e358, hx358_0, hx358_1, hx358_2⟩ := at_T33 HR357.out (ji13) p358 q358
             cases e358
             replace hx358_0 := (HB.out.cell (World.block_lt_of_cell? w _ hx358_0)).trans hx358_0
             replace hx358_1 := (HB.out.cell (World.block_lt_of_cell? w _ hx358_1)).trans hx358_1
             replace hx358_2 := (HB.out.cell (World.block_lt_of_cell? w _ hx358_2)).trans hx358_2
             replace p358 := eq_true p358
             replace q358 := eq_true q358
             obtain ⟨Ao21, co21, eo21⟩ := Kd.R_slice HO_4.out
             subst eo21
             go_wp2_with (first | ((with_reducible refine gate_callee (f := 123) rfl ?_); refine goesL_ (some 44) rfl rfl Try.func123 (by kernel_rfl) rfl #[.slice Ao21 x4_2.length co21, .string ((rd_T33 y354 (ji13)).f0)] rfl (by (try simp only [List.map_toArray, List.map_cons, List.map_nil]); first | done | (simp only [hji13]; rfl) | rfl | (simp only [List.length_drop, List.length_take]; rfl)) ?_; (with_reducible refine (impl_addText.calls k2 (fun k_ => some k_ = (.slice Ao21 x4_2.length co21 : Value).ownBlock) (.slice Ao21 x4_2.length co21) x4_2 ((rd_T33 y354 (ji13)).f0) t359 w _ ?side1 ?side2 A16.out).mono ?_); (case side1 => repeat (first | (with_reducible first | exact HB.out | apply below_alloc | apply pw_below_drewN | apply below_drew1) | exact HB.out)); (case side2 => exact Kd.R_tight rfl HO_4.out); rintro e w22 ⟨v360, rfl, ho0, hb, hkp⟩; refine ⟨_, rfl, ?_⟩; have HO361 := mS (Kd.R_mono (ok' := fun k_ => some k_ ≠ (u3 : Value).ownBlock) ho0 (fun k_ hk_ => Or.elim hk_ (fun hs_ => fun e_ => (((HO_3.out).1 k_ e_.symm)) hs_) (fun hn_ => (Kd.fresh' (Kd.R_lt (mR HO_3.out)) k_ hn_)))); replace HO_3 := mS (Kd.R_mono (ok' := fun k_ => some k_ ≠ (v360 : Value).ownBlock) (Kd.R_keptB (HO_3.out) hkp (fun k_ hk_ hs_ => (hk_) hs_)) (fun k_ hk_ => fun e_ => Or.elim (ho0.1 k_ e_.symm) (fun hs_ => hk_.2.1 hs_) (fun hn_ => Nat.not_le.2 hk_.2.2 hn_))); replace HB := mS (hb); clear HO_4; (try clear hb); (try clear hkp); (try clear ho0); obtain ⟨Ao23, co23, eo23⟩ := Kd.R_slice HO_3.out; subst eo23; obtain ⟨Ao24, co24, eo24⟩ := Kd.R_slice HO361.out; subst eo24) | ((with_reducible refine gate_callee (f := 122) rfl ?_); refine goesL_ (some 47) rfl rfl Try.func122 (by kernel_rfl) rfl #[.slice Ao24 t359.length co24, .int .i64 (x3_2.length : Int)] rfl mA ?_; (with_reducible refine (impl_addNum.calls k2 (fun k_ => some k_ = (.slice Ao24 t359.length co24 : Value).ownBlock) (.slice Ao24 t359.length co24) t359 (x3_2.length : Int) t362 w _ ?side1 ?side2 A17.out).mono ?_); (case side1 => repeat (first | (with_reducible first | exact HB.out | apply below_alloc | apply pw_below_drewN | apply below_drew1) | exact HB.out)); (case side2 => exact Kd.R_tight rfl HO361.out); rintro e w25 ⟨v363, rfl, ho0, hb, hkp⟩; refine ⟨_, rfl, ?_⟩; have HO364 := mS (Kd.R_mono (ok' := fun k_ => some k_ ≠ (.slice Ao23 x3_2.length co23 : Value).ownBlock) ho0 (fun k_ hk_ => Or.elim hk_ (fun hs_ => fun e_ => (((HO_3.out).1 k_ e_.symm)) hs_) (fun hn_ => (Kd.fresh' (Kd.R_lt (mR HO_3.out)) k_ hn_)))); replace HO_3 := mS (Kd.R_mono (ok' := fun k_ => some k_ ≠ (v363 : Value).ownBlock) (Kd.R_keptB (HO_3.out) hkp (fun k_ hk_ hs_ => (hk_) hs_)) (fun k_ hk_ => fun e_ => Or.elim (ho0.1 k_ e_.symm) (fun hs_ => hk_.2.1 hs_) (fun hn_ => Nat.not_le.2 hk_.2.2 hn_))); replace HB := mS (hb); clear HO361; (try clear hb); (try clear hkp); (try clear ho0)) | ((with_reducible refine gate_callee (f := 124) rfl ?_); refine goesL_ (some 50) rfl rfl Try.func124 (by kernel_rfl) rfl #[.slice (some ad358) y354.length c20] rfl mA ?_; (with_reducible refine (impl_putBlock.calls k2 _ _ y354 t365 _ ?side1 ?side2 A18.out).mono ?_); (case side1 => repeat (first | exact (Kd.C_below HR357.out HB.out) | (with_reducible refine Kd.C_alloc ?_ _) | (with_reducible refine Kd.C_drewN ?_ _) | (with_reducible refine Kd.C_drew ?_))); (case side2 => exact HC357.out); rintro e w26 ⟨v366, rfl, ho0, hb⟩; refine ⟨_, rfl, ?_⟩; have HO367 := mS (Kd.R_lower (Kd.R_new' (Kd.R_new' ho0 (Kd.R_lt (mR HO_3.out))) (Kd.R_lt (mR HO364.out))) (below_size (mH HB.out))); replace HO_3 := mS (Kd.R_elder' (mR HO_3.out) (Kd.R_base ho0) hb); replace HO364 := mS (Kd.R_elder' (mR HO364.out) (Kd.R_base ho0) hb); replace HB := mS (below_step (mH HB.out) hb); (try clear hb); (try clear hb2); (try clear hk); (try clear hi); (try clear ho0); obtain ⟨Ao28, co28, eo28⟩ := Kd.R_slice HO367.out; subst eo28) | ((with_reducible refine gate_builtin (b := .append) (xs := #[.tmp 48, .tmp 50]) rfl ?_); at_builtin; refine Kd.R_append_rows (Kd.int .u8) (w0 := w) w.heap.size rfl (.tmp 48) (.tmp 50) 22 5 (.int .u8 0) 1 rfl Try.underlying22 info5 rfl (by decide) (by omega) (.slice Ao23 x3_2.length co23) x3_2 t365 _ _ _ (fun k_ => some k_ ≠ (v363 : Value).ownBlock ∧ some k_ ≠ (.slice Ao28 t365.length co28 : Value).ownBlock) (fun _ => False) rfl rfl ?aO ?aR (fun _ _ h => h) (fun _ h => h.elim) ?aF ?aB ?aS ?aL ?_; (case aR => repeat (first | exact (Kd.R_reads' HO367.out).2.2 | (with_reducible refine Kd.C_alloc ?_ _) | (with_reducible refine Kd.C_drewN ?_ _) | (with_reducible refine Kd.C_drew ?_))); (case aB => exact (mH HB.out)); (case aF => exact (fun k_ hk => ⟨Kd.fresh' (Kd.R_lt (mR HO364.out)) k_ hk, Kd.fresh' (Kd.R_lt (mR HO367.out)) k_ hk⟩)); (case aO => exact (mR HO_3.out)); (case aS => exact (below_size (mH HB.out))); (case aL => have := LMc19.out; omega); intro v369 w27 ho hb hg hat; rw [← Ny368.out] at ho; replace HO364 := mS (Kd.R_after (ok := (fun k_ => some k_ ≠ (.slice Ao28 t365.length co28 : Value).ownBlock)) (by (with_reducible repeat (first | apply Kd.R_alloc | apply Kd.R_drewN | apply Kd.R_drew)); exact Kd.R_mono HO364.out (fun _ hk => ⟨hk.2, hk.1⟩)) hg hat); replace HO367 := mS (Kd.R_after (ok := (fun k_ => some k_ ≠ (v363 : Value).ownBlock)) (by (with_reducible repeat (first | apply Kd.R_alloc | apply Kd.R_drewN | apply Kd.R_drew)); exact Kd.R_mono HO367.out (fun _ hk => ⟨hk.2, hk.1.2⟩)) hg hat); replace HB := mS (hb); have HO370 := mS (ho); clear HO_3; clear ho hb hg hat))
             go_roundg k2
             case measure => have := HJ1.out; have := HK2.out; omega
             case rel => exact ⟨(y368), (t362), (wrap64 (x6_2 + 1)), (wrap64 (x7_2 + 4)), (by first | rfl | (simp; done) | (simp [*]; done)), (by first | rfl | (simp; done) | (simp [*]; done)), H', ⟨by have := HJ1.out; have := HK2.out; omega⟩, ⟨by (with_reducible repeat (first | apply Kd.R_alloc | apply Kd.R_drewN | apply Kd.R_drew)); exact Kd.R_mono HO370.out (fun _ hk => hk.1)⟩, ⟨by (with_reducible repeat (first | apply Kd.R_alloc | apply Kd.R_drewN | apply Kd.R_drew)); exact Kd.R_mono HO364.out (fun _ hk => hk.2)⟩, ⟨(mH HB.out)⟩⟩
            ·rw [if_neg c19] at H
             exact absurd H (by simp)
           ·rw [if_neg c15] at H
            exact absurd H (by simp)
          ·rw [if_neg c14] at H
           exact absurd H (by simp)
         ·rw [if_neg c12] at H
          exact absurd H (by simp)
        ·rw [if_neg c11] at H
         exact absurd H (by simp)
       ·rw [if_neg c10] at H
        exact absurd H (by simp)
      ·rw [if_neg c8] at H
       have c8b0 : decide (x7_2 < (l0.length : Int)) = false := decide_eq_false c8
       clear c8
       have H' := mS H
       clear H
       go_wp2
       go_loopg [5, 56] k2 (fun kq v5 v56 w' => ∃ (x5_3 : List ByteArray) (x56_3 : Int), v56 = .int .i64 x56_3 ∧ Aside0 (impl_PutTable.l1 kq x3_2 x4_2 x5_3 x6_2 l0 (l0.length : Int) x56_3 = some r) ∧ Aside0 (kq ≤ k2) ∧ Aside0 (Kd.R (Kd.int .u8) 5 w' w.heap.size (fun k_ => some k_ ≠ (u4 : Value).ownBlock) u3 x3_2) ∧ Aside0 (Kd.R (Kd.int .u8) 5 w' w.heap.size (fun k_ => some k_ ≠ (u3 : Value).ownBlock) u4 x4_2) ∧ Aside0 (Kd.R Kd.string 9 w' w.heap.size (fun _ => True) v5 x5_3) ∧ Aside0 (Below w.heap.size w w'))
       case atStart => exact ⟨(([] : List ByteArray)), (0), (by first | rfl | (simp; done) | (simp [*]; done)), H', ⟨Nat.le_refl _⟩, ⟨by (with_reducible repeat (first | apply Kd.R_alloc | apply Kd.R_drewN | apply Kd.R_drew)); exact HO_3.out⟩, ⟨by (with_reducible repeat (first | apply Kd.R_alloc | apply Kd.R_drewN | apply Kd.R_drew)); exact HO_4.out⟩, ⟨by first | exact Kd.R_nil _ _ _ _ _ | exact Kd.N_nil _ _ _ _ _ | exact Kd.V_nil _ _ _ _ _ | exact Kd.Q_nil _ _ _ _ _ | exact Kd.S_nil _ _ _ _ _⟩, ⟨(mH HB.out)⟩⟩
       case round =>
        clear H'
        try clear c1
        try clear c2
        try clear p2
        try clear q2
        try clear p3
        try clear q3
        try clear hx3
        try clear c4
        try clear c6
        try clear p6
        try clear c7
        try clear c8
        try clear c8b0
        try clear c10
        try clear c10b0
        try clear c10b1
        try clear c11
        try clear c11b0
        try clear c11b1
        try clear c12
        try clear c12b0
        try clear c12b1
        try clear c14
        try clear c14b0
        try clear c15
        try clear c15b0
        try clear c19
        try clear c20
        try clear q20
        try clear hx358_0
        try clear hx358_1
        try clear hx358_2
        try clear p2
        try clear p358
        try clear q020
        try clear q20
        try clear q358
        obtain ⟨x5_3, x56_3, rfl, HA, HK3, HO_3, HO_4, HO_5, HB⟩ := hrel
        cases gk with
        | zero => exact absurd HA.out (by simp [impl_PutTable.l1])
        | succ k3 =>
         have H := HA.out
         clear HA
         simp only [impl_PutTable.l1] at H
         by_cases c29 : x56_3 < (l0.length : Int)
         ·rw [if_pos c29] at H
          have c29b0 : decide (x56_3 < (l0.length : Int)) = true := decide_eq_true c29
          clear c29
          by_cases c30 : 0 ≤ x56_3
          ·rw [if_pos c30] at H
           have c30b0 : decide (0 ≤ x56_3) = true := decide_eq_true c30
           clear c30
           by_cases c31 : x56_3 < (l0.length : Int)
           ·rw [if_pos c31] at H
            have c31b0 : decide (x56_3 < (l0.length : Int)) = true := decide_eq_true c31
            clear c31
            by_cases c32 : x5_3.length < 8796093022208
            ·rw [if_pos c32] at H
             have LMc32 := mS c32
             clear c32
             obtain ⟨y373, hy373⟩ : ∃ y_ : List ByteArray, y_ = (x5_3 ++ [(rd_T33 l0 x56_3).f0]) := ⟨_, rfl⟩
             replace H : (impl_PutTable.l1 k3 x3_2 x4_2 y373 x6_2 l0 (l0.length : Int) (wrap64 (x56_3 + 1))) = some r := by first | (rw [hy373]; with_reducible exact H) | (have H2_ := (Option.bind_some _ _).symm.trans H; rw [hy373]; with_reducible exact H2_) | (have H2_ := (Option.bind_some _ _).symm.trans H; with_reducible exact H2_) | with_reducible exact H | (rw [hy373]; exact H) | exact H
             have Ny373 := mS hy373
             clear hy373
             have H' := mS H
             clear H
             have p371 : 0 ≤ (x56_3 : Int) := of_decide_eq_true (by first | (with_reducible assumption) | assumption)
             have q371 : x56_3 < (l0.length : Int) := of_decide_eq_true (by first | (with_reducible assumption) | assumption)
             obtain ⟨ad371, e371, hx371_0, hx371_1, hx371_2⟩ := at_T33 HR0.out x56_3 p371 q371
             cases e371
             replace hx371_0 := (HB.out.cell (World.block_lt_of_cell? w _ hx371_0)).trans hx371_0
             replace hx371_1 := (HB.out.cell (World.block_lt_of_cell? w _ hx371_1)).trans hx371_1
             replace hx371_2 := (HB.out.cell (World.block_lt_of_cell? w _ hx371_2)).trans hx371_2
             replace p371 := eq_true p371
             replace q371 := eq_true q371
             go_wp2_with (first | ((with_reducible refine gate_dst (N := 10) rfl ?_); refine box_event ?hg (N := 10) ?hd (cs := #[.string (⟨#[]⟩ : ByteArray), .string (⟨#[]⟩ : ByteArray), .bool false]) (t := 33) ?hr ?_; (case hd => rfl); (case hg => rfl); (case hr => first | (go_simp; done) | (go_simp; rfl)); intro gb372 hg w33 hbox hb; replace HO_3 := mS (Kd.R_below (mR HO_3.out) hb); replace HO_4 := mS (Kd.R_below (mR HO_4.out) hb); replace HO_5 := mS (Kd.R_below (mR HO_5.out) hb); have BK372 := mS (hbox); have GW372 := mG hg (mH HB.out); have GE372 := mG hg (mH HB.out); replace HB := mS (below_step (mH HB.out) hb); clear hb hbox hg; have hcz34_0 : w33.cell? ⟨gb372, 0, none⟩ = some (.string (⟨#[]⟩ : ByteArray)) := (blk_cell BK372.out 0).trans rfl; have hcz34_1 : w33.cell? ⟨gb372, 1, none⟩ = some (.string (⟨#[]⟩ : ByteArray)) := (blk_cell BK372.out 1).trans rfl; have hcz34_2 : w33.cell? ⟨gb372, 2, none⟩ = some (.bool false) := (blk_cell BK372.out 2).trans rfl; have hfz34_0 := blk_frozen BK372.out 0; have hfz34_1 := blk_frozen BK372.out 1; have hfz34_2 := blk_frozen BK372.out 2) | ((with_reducible refine gate_builtin (b := .append) (xs := #[.tmp 60, .tmp 63]) rfl ?_); at_builtin; refine Kd.R_append Kd.string (w0 := w) w.heap.size rfl (.tmp 60) (.tmp 63) 151 9 (.string ⟨#[]⟩) 16 rfl Try.underlying151 info9 rfl (by decide) (by omega) u5 x5_3 ((rd_T33 l0 x56_3).f0) [.string ((rd_T33 l0 x56_3).f0)] (fun _ => True) (fun _ => False) rfl (by first | (go_simp; done) | (go_simp; rfl)) ?aP (fun _ hk => hk.elim) ?aF ?aO ?aB ?aS ?aL ?_; (case aP => exact rfl); (case aB => exact (mH1 HB.out GE372.out)); (case aF => exact (fun _ _ => trivial)); (case aO => exact (by (with_reducible repeat (first | apply Kd.R_alloc | apply Kd.R_drewN | apply Kd.R_drew)); exact Kd.R_mono (Kd.R_far (p := ⟨gb372, 2, none⟩) (Kd.R_far (p := ⟨gb372, 1, none⟩) (Kd.R_far (p := ⟨gb372, 0, none⟩) (Kd.R_types HO_5.out BK372.out (by decide)) (fun _ hk => hk.2) (.string ((rd_T33 l0 x56_3).f0))) (fun _ hk => hk.2) (.string ((rd_T33 l0 x56_3).f1))) (fun _ hk => hk.2) (.bool ((rd_T33 l0 x56_3).f2))) (fun _ hk => trivial))); (case aS => exact (below_size (mH1 HB.out GE372.out))); (case aL => have := LMc32.out; omega); intro v374 w35 ho hb hg hat; rw [← Ny373.out] at ho; replace HO_3 := mS (Kd.R_over' (by (with_reducible repeat (first | apply Kd.R_alloc | apply Kd.R_drewN | apply Kd.R_drew)); exact (Kd.R_mono (Kd.R_far (p := ⟨gb372, 2, none⟩) (Kd.R_far (p := ⟨gb372, 1, none⟩) (Kd.R_far (p := ⟨gb372, 0, none⟩) (Kd.R_types HO_3.out BK372.out (by decide)) (fun _ hk => hk.2) (.string ((rd_T33 l0 x56_3).f0))) (fun _ hk => hk.2) (.string ((rd_T33 l0 x56_3).f1))) (fun _ hk => hk.2) (.bool ((rd_T33 l0 x56_3).f2))) (fun _ h_ => h_.1))) (Kd.R_typed (by (with_reducible repeat (first | apply Kd.R_alloc | apply Kd.R_drewN | apply Kd.R_drew)); exact (Kd.R_mono (Kd.R_far (p := ⟨gb372, 2, none⟩) (Kd.R_far (p := ⟨gb372, 1, none⟩) (Kd.R_far (p := ⟨gb372, 0, none⟩) (Kd.R_types HO_5.out BK372.out (by decide)) (fun _ hk => hk.2) (.string ((rd_T33 l0 x56_3).f0))) (fun _ hk => hk.2) (.string ((rd_T33 l0 x56_3).f1))) (fun _ hk => hk.2) (.bool ((rd_T33 l0 x56_3).f2))) (fun _ h_ => h_.1)))) (by decide) hg); replace HO_4 := mS (Kd.R_over' (by (with_reducible repeat (first | apply Kd.R_alloc | apply Kd.R_drewN | apply Kd.R_drew)); exact (Kd.R_mono (Kd.R_far (p := ⟨gb372, 2, none⟩) (Kd.R_far (p := ⟨gb372, 1, none⟩) (Kd.R_far (p := ⟨gb372, 0, none⟩) (Kd.R_types HO_4.out BK372.out (by decide)) (fun _ hk => hk.2) (.string ((rd_T33 l0 x56_3).f0))) (fun _ hk => hk.2) (.string ((rd_T33 l0 x56_3).f1))) (fun _ hk => hk.2) (.bool ((rd_T33 l0 x56_3).f2))) (fun _ h_ => h_.1))) (Kd.R_typed (by (with_reducible repeat (first | apply Kd.R_alloc | apply Kd.R_drewN | apply Kd.R_drew)); exact (Kd.R_mono (Kd.R_far (p := ⟨gb372, 2, none⟩) (Kd.R_far (p := ⟨gb372, 1, none⟩) (Kd.R_far (p := ⟨gb372, 0, none⟩) (Kd.R_types HO_5.out BK372.out (by decide)) (fun _ hk => hk.2) (.string ((rd_T33 l0 x56_3).f0))) (fun _ hk => hk.2) (.string ((rd_T33 l0 x56_3).f1))) (fun _ hk => hk.2) (.bool ((rd_T33 l0 x56_3).f2))) (fun _ h_ => h_.1)))) (by decide) hg); replace BK372 := mS (blk_grown (g := gb372) (o := .cells #[.string ((rd_T33 l0 x56_3).f0), .string ((rd_T33 l0 x56_3).f1), .bool ((rd_T33 l0 x56_3).f2)] 33 (0, 0)) (by (with_reducible repeat (first | refine blk_drewN ?_ _ | refine blk_drew ?_ | refine blk_alloc ?_ _)); refine blk_put (cs := #[.string ((rd_T33 l0 x56_3).f0), .string ((rd_T33 l0 x56_3).f1), .bool false]) ?_ 2 _ rfl; (with_reducible repeat (first | refine blk_drewN ?_ _ | refine blk_drew ?_ | refine blk_alloc ?_ _)); refine blk_put (cs := #[.string ((rd_T33 l0 x56_3).f0), .string (⟨#[]⟩ : ByteArray), .bool false]) ?_ 1 _ rfl; (with_reducible repeat (first | refine blk_drewN ?_ _ | refine blk_drew ?_ | refine blk_alloc ?_ _)); refine blk_put (cs := #[.string (⟨#[]⟩ : ByteArray), .string (⟨#[]⟩ : ByteArray), .bool false]) ?_ 0 _ rfl; (with_reducible repeat (first | refine blk_drewN ?_ _ | refine blk_drew ?_ | refine blk_alloc ?_ _)); exact BK372.out) hg (Kd.R_ne HO_5.out BK372.out (by decide))); replace HB := mS (hb); have HO375 := mS (ho); clear HO_5; clear ho hb hg hat))
             go_roundg k3
             case measure => have := HJ1.out; have := HK2.out; have := HK3.out; omega
             case rel => exact ⟨(y373), (wrap64 (x56_3 + 1)), (by first | rfl | (simp; done) | (simp [*]; done)), H', ⟨by have := HJ1.out; have := HK2.out; have := HK3.out; omega⟩, ⟨by (with_reducible repeat (first | apply Kd.R_alloc | apply Kd.R_drewN | apply Kd.R_drew)); exact HO_3.out⟩, ⟨by (with_reducible repeat (first | apply Kd.R_alloc | apply Kd.R_drewN | apply Kd.R_drew)); exact HO_4.out⟩, ⟨by (with_reducible repeat (first | apply Kd.R_alloc | apply Kd.R_drewN | apply Kd.R_drew)); exact HO375.out⟩, ⟨(mH1 HB.out GE372.out)⟩⟩
            ·rw [if_neg c32] at H
             exact absurd H (by simp)
           ·rw [if_neg c31] at H
            exact absurd H (by simp)
          ·rw [if_neg c30] at H
           exact absurd H (by simp)
         ·rw [if_neg c29] at H
          have c29b0 : decide (x56_3 < (l0.length : Int)) = false := decide_eq_false c29
          clear c29
          replace H := Option.bind_eq_some_iff.mp H
          obtain ⟨t376, A360, H⟩ := H
          replace H : (if t376.length + x4_2.length < 140737488355328 then ((some (t376 ++ x4_2 : List Int)).bind fun y379 => ((impl_Filter.f k3 x5_3).bind fun t382 => (if y379.length + t382.length < 140737488355328 then ((impl_Frame.f k3 (y379 ++ t382)).bind fun t388 => (if x3_2.length + t388.length < 140737488355328 then ((some (x3_2 ++ t388 : List Int)).bind fun y391 => ((impl_word.f (x3_2.length : Int)).bind fun t394 => (if y391.length + t394.length < 140737488355328 then (some (y391 ++ t394)) else (none)))) else (none))) else (none)))) else (none)) = some r := H
          have A36 := mS A360
          clear A360
          by_cases c37 : t376.length + x4_2.length < 140737488355328
          ·rw [if_pos c37] at H
           have LMc37 := mS c37
           clear c37
           obtain ⟨y379, hy379⟩ : ∃ y_ : List Int, y_ = (t376 ++ x4_2) := ⟨_, rfl⟩
           replace H : ((impl_Filter.f k3 x5_3).bind fun t382 => (if y379.length + t382.length < 140737488355328 then ((impl_Frame.f k3 (y379 ++ t382)).bind fun t388 => (if x3_2.length + t388.length < 140737488355328 then ((some (x3_2 ++ t388 : List Int)).bind fun y391 => ((impl_word.f (x3_2.length : Int)).bind fun t394 => (if y391.length + t394.length < 140737488355328 then (some (y391 ++ t394)) else (none)))) else (none))) else (none))) = some r := by first | (rw [hy379]; with_reducible exact H) | (have H2_ := (Option.bind_some _ _).symm.trans H; rw [hy379]; with_reducible exact H2_) | (have H2_ := (Option.bind_some _ _).symm.trans H; with_reducible exact H2_) | with_reducible exact H | (rw [hy379]; exact H) | exact H
           have Ny379 := mS hy379
           clear hy379
           replace H := Option.bind_eq_some_iff.mp H
           obtain ⟨t382, A380, H⟩ := H
           replace H : (if y379.length + t382.length < 140737488355328 then ((impl_Frame.f k3 (y379 ++ t382)).bind fun t388 => (if x3_2.length + t388.length < 140737488355328 then ((some (x3_2 ++ t388 : List Int)).bind fun y391 => ((impl_word.f (x3_2.length : Int)).bind fun t394 => (if y391.length + t394.length < 140737488355328 then (some (y391 ++ t394)) else (none)))) else (none))) else (none)) = some r := H
           have A38 := mS A380
           clear A380
           by_cases c39 : y379.length + t382.length < 140737488355328
           ·rw [if_pos c39] at H
            have LMc39 := mS c39
            clear c39
            obtain ⟨y385, hy385⟩ : ∃ y_ : List Int, y_ = (y379 ++ t382) := ⟨_, rfl⟩
            replace H : ((impl_Frame.f k3 y385).bind fun t388 => (if x3_2.length + t388.length < 140737488355328 then ((some (x3_2 ++ t388 : List Int)).bind fun y391 => ((impl_word.f (x3_2.length : Int)).bind fun t394 => (if y391.length + t394.length < 140737488355328 then (some (y391 ++ t394)) else (none)))) else (none))) = some r := by first | (rw [hy385]; with_reducible exact H) | (have H2_ := (Option.bind_some _ _).symm.trans H; rw [hy385]; with_reducible exact H2_) | (have H2_ := (Option.bind_some _ _).symm.trans H; with_reducible exact H2_) | with_reducible exact H | (rw [hy385]; exact H) | exact H
            have Ny385 := mS hy385
            clear hy385
            replace H := Option.bind_eq_some_iff.mp H
            obtain ⟨t388, A400, H⟩ := H
            replace H : (if x3_2.length + t388.length < 140737488355328 then ((some (x3_2 ++ t388 : List Int)).bind fun y391 => ((impl_word.f (x3_2.length : Int)).bind fun t394 => (if y391.length + t394.length < 140737488355328 then (some (y391 ++ t394)) else (none)))) else (none)) = some r := H
            have A40 := mS A400
            clear A400
            by_cases c41 : x3_2.length + t388.length < 140737488355328
            ·rw [if_pos c41] at H
             have LMc41 := mS c41
             clear c41
             obtain ⟨y391, hy391⟩ : ∃ y_ : List Int, y_ = (x3_2 ++ t388) := ⟨_, rfl⟩
             replace H : ((impl_word.f (x3_2.length : Int)).bind fun t394 => (if y391.length + t394.length < 140737488355328 then (some (y391 ++ t394)) else (none))) = some r := by first | (rw [hy391]; with_reducible exact H) | (have H2_ := (Option.bind_some _ _).symm.trans H; rw [hy391]; with_reducible exact H2_) | (have H2_ := (Option.bind_some _ _).symm.trans H; with_reducible exact H2_) | with_reducible exact H | (rw [hy391]; exact H) | exact H
             have Ny391 := mS hy391
             clear hy391
             replace H := Option.bind_eq_some_iff.mp H
             obtain ⟨t394, A420, H⟩ := H
             replace H : (if y391.length + t394.length < 140737488355328 then (some (y391 ++ t394)) else (none)) = some r := H
             have A42 := mS A420
             clear A420
             by_cases c43 : y391.length + t394.length < 140737488355328
             ·rw [if_pos c43] at H
              have LMc43 := mS c43
              clear c43
              obtain ⟨y397, hy397⟩ : ∃ y_ : List Int, y_ = (y391 ++ t394) := ⟨_, rfl⟩
              replace H : (some y397) = some r := by first | (rw [hy397]; with_reducible exact H) | (have H2_ := (Option.bind_some _ _).symm.trans H; rw [hy397]; with_reducible exact H2_) | (have H2_ := (Option.bind_some _ _).symm.trans H; with_reducible exact H2_) | with_reducible exact H | (rw [hy397]; exact H) | exact H
              have Ny397 := mS hy397
              clear hy397
              obtain rfl := Option.some.inj H
              obtain ⟨Ao44, co44, eo44⟩ := Kd.R_slice HO_3.out
              subst eo44
              go_wp2_with (first | ((with_reducible refine gate_callee (f := 122) rfl ?_); refine goesL_ (some 69) rfl rfl Try.func122 (by kernel_rfl) rfl #[.slice none 0 0, .int .i64 x6_2] rfl mA ?_; (refine (impl_addNum.calls k3 (fun k_ => some k_ = (.slice none 0 0 : Value).ownBlock) (.slice none 0 0) ([] : List Int) x6_2 t376 w _ ?side1 ?side2 A36.out).mono ?_); (case side1 => repeat (first | (with_reducible first | exact HB.out | apply below_alloc | apply pw_below_drewN | apply below_drew1) | exact HB.out)); (case side2 => exact Kd.R_nil _ _ _ _ _); rintro e w45 ⟨v377, rfl, ho0, hb, hkp⟩; refine ⟨_, rfl, ?_⟩; replace HO_5 := mS (Kd.R_mono (ok' := fun k_ => True) (Kd.R_keptB (HO_5.out) hkp (fun k_ hk_ hs_ => (fun e_ => by simp [Value.ownBlock] at e_) hs_)) (fun k_ hk_ => trivial)); have HO378 := mS (Kd.R_mono (ok' := fun k_ => some k_ ≠ (.slice Ao44 x3_2.length co44 : Value).ownBlock ∧ some k_ ≠ (u4 : Value).ownBlock) ho0 (fun k_ hk_ => ⟨Or.elim hk_ (fun hs_ => absurd hs_ (by simp [Value.ownBlock])) (fun hn_ => (Kd.fresh' (Kd.R_lt (mR HO_3.out)) k_ hn_)), Or.elim hk_ (fun hs_ => absurd hs_ (by simp [Value.ownBlock])) (fun hn_ => (Kd.fresh' (Kd.R_lt (mR HO_4.out)) k_ hn_))⟩)); replace HO_3 := mS (Kd.R_mono (ok' := fun k_ => some k_ ≠ (u4 : Value).ownBlock ∧ some k_ ≠ (v377 : Value).ownBlock) (Kd.R_keptB (HO_3.out) hkp (fun k_ hk_ hs_ => (fun e_ => by simp [Value.ownBlock] at e_) hs_)) (fun k_ hk_ => ⟨hk_.1, fun e_ => Or.elim (ho0.1 k_ e_.symm) (fun hs_ => hk_.2.1 hs_) (fun hn_ => Nat.not_le.2 hk_.2.2 hn_)⟩)); replace HO_4 := mS (Kd.R_mono (ok' := fun k_ => some k_ ≠ (.slice Ao44 x3_2.length co44 : Value).ownBlock ∧ some k_ ≠ (v377 : Value).ownBlock) (Kd.R_keptB (HO_4.out) hkp (fun k_ hk_ hs_ => (fun e_ => by simp [Value.ownBlock] at e_) hs_)) (fun k_ hk_ => ⟨hk_.1, fun e_ => Or.elim (ho0.1 k_ e_.symm) (fun hs_ => hk_.2.1 hs_) (fun hn_ => Nat.not_le.2 hk_.2.2 hn_)⟩)); replace HB := mS (hb); (try clear hb); (try clear hkp); (try clear ho0); obtain ⟨Ao47, co47, eo47⟩ := Kd.R_slice HO_4.out; subst eo47) | ((with_reducible refine gate_builtin (b := .append) (xs := #[.tmp 69, .tmp 70]) rfl ?_); at_builtin; refine Kd.R_append_rows (Kd.int .u8) (w0 := w) w.heap.size rfl (.tmp 69) (.tmp 70) 22 5 (.int .u8 0) 1 rfl Try.underlying22 info5 rfl (by decide) (by omega) v377 t376 x4_2 _ _ _ (fun k_ => some k_ ≠ (.slice Ao44 x3_2.length co44 : Value).ownBlock ∧ some k_ ≠ (.slice Ao47 x4_2.length co47 : Value).ownBlock) (fun _ => False) rfl rfl ?aO ?aR (fun _ _ h => h) (fun _ h => h.elim) ?aF ?aB ?aS ?aL ?_; (case aR => repeat (first | exact (Kd.R_reads' HO_4.out).2.2 | (with_reducible refine Kd.C_alloc ?_ _) | (with_reducible refine Kd.C_drewN ?_ _) | (with_reducible refine Kd.C_drew ?_))); (case aB => exact (mH HB.out)); (case aF => exact (fun k_ hk => ⟨Kd.fresh' (Kd.R_lt (mR HO_3.out)) k_ hk, Kd.fresh' (Kd.R_lt (mR HO_4.out)) k_ hk⟩)); (case aO => exact (mR HO378.out)); (case aS => exact (below_size (mH HB.out))); (case aL => have := LMc37.out; omega); intro v380 w46 ho hb hg hat; rw [← Ny379.out] at ho; replace HO_3 := mS (Kd.R_after (ok := (fun k_ => some k_ ≠ (.slice Ao47 x4_2.length co47 : Value).ownBlock)) (mR HO_3.out) hg hat); replace HO_4 := mS (Kd.R_after (ok := (fun k_ => some k_ ≠ (.slice Ao44 x3_2.length co44 : Value).ownBlock)) (mR HO_4.out) hg hat); replace HO_5 := mS (Kd.R_over' (mR HO_5.out) (Kd.R_typed (mR HO378.out)) (by decide) hg); replace HB := mS (hb); have HO381 := mS (ho); clear HO378; clear ho hb hg hat; obtain ⟨Ao48, co48, eo48⟩ := Kd.R_slice HO_5.out; subst eo48) | ((with_reducible refine gate_callee (f := 125) rfl ?_); refine goesL_ (some 73) rfl rfl Try.func125 (by kernel_rfl) rfl #[.slice Ao48 x5_3.length co48] rfl mA ?_; (with_reducible refine (impl_Filter.calls k3 _ _ x5_3 t382 _ ?side1 ?side2 A38.out).mono ?_); (case side1 => repeat (first | exact (Kd.R_reads' HO_5.out).2.2 | (with_reducible refine Kd.C_alloc ?_ _) | (with_reducible refine Kd.C_drewN ?_ _) | (with_reducible refine Kd.C_drew ?_))); (case side2 => exact (Kd.R_reads' HO_5.out).2.1); rintro e w49 ⟨v383, rfl, ho0, hb⟩; refine ⟨_, rfl, ?_⟩; replace HO_5 := mS (Kd.R_below (mR HO_5.out) hb); have HO384 := mS (Kd.R_lower (Kd.R_new' (Kd.R_new' (Kd.R_new' ho0 (Kd.R_lt (mR HO_3.out))) (Kd.R_lt (mR HO_4.out))) (Kd.R_lt (mR HO381.out))) (below_size (mH HB.out))); replace HO_3 := mS (Kd.R_elder' (mR HO_3.out) (Kd.R_base ho0) hb); replace HO_4 := mS (Kd.R_elder' (mR HO_4.out) (Kd.R_base ho0) hb); replace HO381 := mS (Kd.R_elder' (mR HO381.out) (Kd.R_base ho0) hb); replace HB := mS (below_step (mH HB.out) hb); (try clear hb); (try clear hb2); (try clear hk); (try clear hi); (try clear ho0); obtain ⟨Ao51, co51, eo51⟩ := Kd.R_slice HO384.out; subst eo51) | ((with_reducible refine gate_builtin (b := .append) (xs := #[.tmp 71, .tmp 73]) rfl ?_); at_builtin; refine Kd.R_append_rows (Kd.int .u8) (w0 := w) w.heap.size rfl (.tmp 71) (.tmp 73) 22 5 (.int .u8 0) 1 rfl Try.underlying22 info5 rfl (by decide) (by omega) v380 y379 t382 _ _ _ (fun k_ => some k_ ≠ (.slice Ao44 x3_2.length co44 : Value).ownBlock ∧ some k_ ≠ (.slice Ao47 x4_2.length co47 : Value).ownBlock ∧ some k_ ≠ (.slice Ao51 t382.length co51 : Value).ownBlock) (fun _ => False) rfl rfl ?aO ?aR (fun _ _ h => h) (fun _ h => h.elim) ?aF ?aB ?aS ?aL ?_; (case aR => repeat (first | exact (Kd.R_reads' HO384.out).2.2 | (with_reducible refine Kd.C_alloc ?_ _) | (with_reducible refine Kd.C_drewN ?_ _) | (with_reducible refine Kd.C_drew ?_))); (case aB => exact (mH HB.out)); (case aF => exact (fun k_ hk => ⟨Kd.fresh' (Kd.R_lt (mR HO_3.out)) k_ hk, Kd.fresh' (Kd.R_lt (mR HO_4.out)) k_ hk, Kd.fresh' (Kd.R_lt (mR HO384.out)) k_ hk⟩)); (case aO => exact (by (with_reducible repeat (first | apply Kd.R_alloc | apply Kd.R_drewN | apply Kd.R_drew)); exact Kd.R_mono HO381.out (fun _ hk => ⟨hk.1.1, ⟨hk.1.2, hk.2⟩⟩))); (case aS => exact (below_size (mH HB.out))); (case aL => have := LMc39.out; omega); intro v386 w50 ho hb hg hat; rw [← Ny385.out] at ho; replace HO_3 := mS (Kd.R_after (ok := (fun k_ => some k_ ≠ (.slice Ao47 x4_2.length co47 : Value).ownBlock ∧ some k_ ≠ (.slice Ao51 t382.length co51 : Value).ownBlock)) (by (with_reducible repeat (first | apply Kd.R_alloc | apply Kd.R_drewN | apply Kd.R_drew)); exact Kd.R_mono HO_3.out (fun _ hk => ⟨⟨hk.1.1, hk.2⟩, hk.1.2⟩)) hg hat); replace HO_4 := mS (Kd.R_after (ok := (fun k_ => some k_ ≠ (.slice Ao44 x3_2.length co44 : Value).ownBlock ∧ some k_ ≠ (.slice Ao51 t382.length co51 : Value).ownBlock)) (by (with_reducible repeat (first | apply Kd.R_alloc | apply Kd.R_drewN | apply Kd.R_drew)); exact Kd.R_mono HO_4.out (fun _ hk => ⟨⟨hk.1.1, hk.2⟩, hk.1.2⟩)) hg hat); replace HO_5 := mS (Kd.R_over' (mR HO_5.out) (Kd.R_typed (mR HO381.out)) (by decide) hg); replace HO384 := mS (Kd.R_after (ok := (fun k_ => some k_ ≠ (.slice Ao44 x3_2.length co44 : Value).ownBlock ∧ some k_ ≠ (.slice Ao47 x4_2.length co47 : Value).ownBlock)) (by (with_reducible repeat (first | apply Kd.R_alloc | apply Kd.R_drewN | apply Kd.R_drew)); exact Kd.R_mono HO384.out (fun _ hk => ⟨⟨hk.1.1.2, hk.1.2⟩, hk.2⟩)) hg hat); replace HB := mS (hb); have HO387 := mS (ho); clear HO381; clear ho hb hg hat; obtain ⟨Ao52, co52, eo52⟩ := Kd.R_slice HO387.out; subst eo52) | ((with_reducible refine gate_callee (f := 126) rfl ?_); refine goesL_ (some 77) rfl rfl Try.func126 (by kernel_rfl) rfl #[.slice Ao52 y385.length co52] rfl mA ?_; (with_reducible refine (impl_Frame.calls k3 _ _ y385 t388 _ ?side1 ?side2 A40.out).mono ?_); (case side1 => repeat (first | exact (Kd.R_reads' HO387.out).2.2 | (with_reducible refine Kd.C_alloc ?_ _) | (with_reducible refine Kd.C_drewN ?_ _) | (with_reducible refine Kd.C_drew ?_))); (case side2 => exact (Kd.R_reads' HO387.out).2.1); rintro e w53 ⟨v389, rfl, ho0, hb⟩; refine ⟨_, rfl, ?_⟩; replace HO_5 := mS (Kd.R_below (mR HO_5.out) hb); have HO390 := mS (Kd.R_lower (Kd.R_new' (Kd.R_new' (Kd.R_new' (Kd.R_new' ho0 (Kd.R_lt (mR HO_3.out))) (Kd.R_lt (mR HO_4.out))) (Kd.R_lt (mR HO384.out))) (Kd.R_lt (mR HO387.out))) (below_size (mH HB.out))); replace HO_3 := mS (Kd.R_elder' (mR HO_3.out) (Kd.R_base ho0) hb); replace HO_4 := mS (Kd.R_elder' (mR HO_4.out) (Kd.R_base ho0) hb); replace HO384 := mS (Kd.R_elder' (mR HO384.out) (Kd.R_base ho0) hb); replace HO387 := mS (Kd.R_elder' (mR HO387.out) (Kd.R_base ho0) hb); replace HB := mS (below_step (mH HB.out) hb); (try clear hb); (try clear hb2); (try clear hk); (try clear hi); (try clear ho0); obtain ⟨Ao55, co55, eo55⟩ := Kd.R_slice HO390.out; subst eo55) | ((with_reducible refine gate_builtin (b := .append) (xs := #[.tmp 75, .tmp 77]) rfl ?_); at_builtin; refine Kd.R_append_rows (Kd.int .u8) (w0 := w) w.heap.size rfl (.tmp 75) (.tmp 77) 22 5 (.int .u8 0) 1 rfl Try.underlying22 info5 rfl (by decide) (by omega) (.slice Ao44 x3_2.length co44) x3_2 t388 _ _ _ (fun k_ => some k_ ≠ (.slice Ao47 x4_2.length co47 : Value).ownBlock ∧ some k_ ≠ (.slice Ao51 t382.length co51 : Value).ownBlock ∧ some k_ ≠ (.slice Ao52 y385.length co52 : Value).ownBlock ∧ some k_ ≠ (.slice Ao55 t388.length co55 : Value).ownBlock) (fun _ => False) rfl rfl ?aO ?aR (fun _ _ h => h) (fun _ h => h.elim) ?aF ?aB ?aS ?aL ?_; (case aR => repeat (first | exact (Kd.R_reads' HO390.out).2.2 | (with_reducible refine Kd.C_alloc ?_ _) | (with_reducible refine Kd.C_drewN ?_ _) | (with_reducible refine Kd.C_drew ?_))); (case aB => exact (mH HB.out)); (case aF => exact (fun k_ hk => ⟨Kd.fresh' (Kd.R_lt (mR HO_4.out)) k_ hk, Kd.fresh' (Kd.R_lt (mR HO384.out)) k_ hk, Kd.fresh' (Kd.R_lt (mR HO387.out)) k_ hk, Kd.fresh' (Kd.R_lt (mR HO390.out)) k_ hk⟩)); (case aO => exact (by (with_reducible repeat (first | apply Kd.R_alloc | apply Kd.R_drewN | apply Kd.R_drew)); exact Kd.R_mono HO_3.out (fun _ hk => ⟨hk.1.1.1, ⟨hk.1.1.2, ⟨hk.1.2, hk.2⟩⟩⟩))); (case aS => exact (below_size (mH HB.out))); (case aL => have := LMc41.out; omega); intro v392 w54 ho hb hg hat; rw [← Ny391.out] at ho; replace HO_4 := mS (Kd.R_after (ok := (fun k_ => some k_ ≠ (.slice Ao51 t382.length co51 : Value).ownBlock ∧ some k_ ≠ (.slice Ao52 y385.length co52 : Value).ownBlock ∧ some k_ ≠ (.slice Ao55 t388.length co55 : Value).ownBlock)) (by (with_reducible repeat (first | apply Kd.R_alloc | apply Kd.R_drewN | apply Kd.R_drew)); exact Kd.R_mono HO_4.out (fun _ hk => ⟨⟨hk.1.1.2, ⟨hk.1.2, hk.2⟩⟩, hk.1.1.1⟩)) hg hat); replace HO_5 := mS (Kd.R_over' (mR HO_5.out) (Kd.R_typed (mR HO_3.out)) (by decide) hg); replace HO384 := mS (Kd.R_after (ok := (fun k_ => some k_ ≠ (.slice Ao47 x4_2.length co47 : Value).ownBlock ∧ some k_ ≠ (.slice Ao52 y385.length co52 : Value).ownBlock ∧ some k_ ≠ (.slice Ao55 t388.length co55 : Value).ownBlock)) (by (with_reducible repeat (first | apply Kd.R_alloc | apply Kd.R_drewN | apply Kd.R_drew)); exact Kd.R_mono HO384.out (fun _ hk => ⟨⟨hk.1.1.2, ⟨hk.1.2, hk.2⟩⟩, hk.1.1.1⟩)) hg hat); replace HO387 := mS (Kd.R_after (ok := (fun k_ => some k_ ≠ (.slice Ao47 x4_2.length co47 : Value).ownBlock ∧ some k_ ≠ (.slice Ao51 t382.length co51 : Value).ownBlock ∧ some k_ ≠ (.slice Ao55 t388.length co55 : Value).ownBlock)) (by (with_reducible repeat (first | apply Kd.R_alloc | apply Kd.R_drewN | apply Kd.R_drew)); exact Kd.R_mono HO387.out (fun _ hk => ⟨⟨hk.1.2.1, ⟨hk.1.2.2, hk.2⟩⟩, hk.1.1⟩)) hg hat); replace HO390 := mS (Kd.R_after (ok := (fun k_ => some k_ ≠ (.slice Ao47 x4_2.length co47 : Value).ownBlock ∧ some k_ ≠ (.slice Ao51 t382.length co51 : Value).ownBlock ∧ some k_ ≠ (.slice Ao52 y385.length co52 : Value).ownBlock)) (by (with_reducible repeat (first | apply Kd.R_alloc | apply Kd.R_drewN | apply Kd.R_drew)); exact Kd.R_mono HO390.out (fun _ hk => ⟨⟨hk.1.1.2, ⟨hk.1.2, hk.2⟩⟩, hk.1.1.1.2⟩)) hg hat); replace HB := mS (hb); have HO393 := mS (ho); clear HO_3; clear ho hb hg hat) | ((with_reducible refine gate_callee (f := 127) rfl ?_); refine goesL_ (some 80) rfl rfl Try.func127 (by kernel_rfl) rfl #[.int .i64 (x3_2.length : Int)] rfl mA ?_; (with_reducible refine (impl_word.calls (x3_2.length : Int) t394 _ A42.out).mono ?_); rintro e w56 ⟨v395, rfl, ho0, hb⟩; refine ⟨_, rfl, ?_⟩; replace HO_5 := mS (Kd.R_below (mR HO_5.out) hb); have HO396 := mS (Kd.R_lower (Kd.R_new' (Kd.R_new' (Kd.R_new' (Kd.R_new' (Kd.R_new' ho0 (Kd.R_lt (mR HO_4.out))) (Kd.R_lt (mR HO384.out))) (Kd.R_lt (mR HO387.out))) (Kd.R_lt (mR HO390.out))) (Kd.R_lt (mR HO393.out))) (below_size (mH HB.out))); replace HO_4 := mS (Kd.R_elder' (mR HO_4.out) (Kd.R_base ho0) hb); replace HO384 := mS (Kd.R_elder' (mR HO384.out) (Kd.R_base ho0) hb); replace HO387 := mS (Kd.R_elder' (mR HO387.out) (Kd.R_base ho0) hb); replace HO390 := mS (Kd.R_elder' (mR HO390.out) (Kd.R_base ho0) hb); replace HO393 := mS (Kd.R_elder' (mR HO393.out) (Kd.R_base ho0) hb); replace HB := mS (below_step (mH HB.out) hb); (try clear hb); (try clear hb2); (try clear hk); (try clear hi); (try clear ho0); obtain ⟨Ao58, co58, eo58⟩ := Kd.R_slice HO396.out; subst eo58) | ((with_reducible refine gate_builtin (b := .append) (xs := #[.tmp 78, .tmp 80]) rfl ?_); at_builtin; refine Kd.R_append_rows (Kd.int .u8) (w0 := w) w.heap.size rfl (.tmp 78) (.tmp 80) 22 5 (.int .u8 0) 1 rfl Try.underlying22 info5 rfl (by decide) (by omega) v392 y391 t394 _ _ _ (fun k_ => some k_ ≠ (.slice Ao47 x4_2.length co47 : Value).ownBlock ∧ some k_ ≠ (.slice Ao51 t382.length co51 : Value).ownBlock ∧ some k_ ≠ (.slice Ao52 y385.length co52 : Value).ownBlock ∧ some k_ ≠ (.slice Ao55 t388.length co55 : Value).ownBlock ∧ some k_ ≠ (.slice Ao58 t394.length co58 : Value).ownBlock) (fun _ => False) rfl rfl ?aO ?aR (fun _ _ h => h) (fun _ h => h.elim) ?aF ?aB ?aS ?aL ?_; (case aR => repeat (first | exact (Kd.R_reads' HO396.out).2.2 | (with_reducible refine Kd.C_alloc ?_ _) | (with_reducible refine Kd.C_drewN ?_ _) | (with_reducible refine Kd.C_drew ?_))); (case aB => exact (mH HB.out)); (case aF => exact (fun k_ hk => ⟨Kd.fresh' (Kd.R_lt (mR HO_4.out)) k_ hk, Kd.fresh' (Kd.R_lt (mR HO384.out)) k_ hk, Kd.fresh' (Kd.R_lt (mR HO387.out)) k_ hk, Kd.fresh' (Kd.R_lt (mR HO390.out)) k_ hk, Kd.fresh' (Kd.R_lt (mR HO396.out)) k_ hk⟩)); (case aO => exact (by (with_reducible repeat (first | apply Kd.R_alloc | apply Kd.R_drewN | apply Kd.R_drew)); exact Kd.R_mono HO393.out (fun _ hk => ⟨hk.1.1, ⟨hk.1.2.1, ⟨hk.1.2.2.1, ⟨hk.1.2.2.2, hk.2⟩⟩⟩⟩))); (case aS => exact (below_size (mH HB.out))); (case aL => have := LMc43.out; omega); intro v398 w57 ho hb hg hat; rw [← Ny397.out] at ho; replace HO_4 := mS (Kd.R_after (ok := (fun k_ => some k_ ≠ (.slice Ao51 t382.length co51 : Value).ownBlock ∧ some k_ ≠ (.slice Ao52 y385.length co52 : Value).ownBlock ∧ some k_ ≠ (.slice Ao55 t388.length co55 : Value).ownBlock ∧ some k_ ≠ (.slice Ao58 t394.length co58 : Value).ownBlock)) (by (with_reducible repeat (first | apply Kd.R_alloc | apply Kd.R_drewN | apply Kd.R_drew)); exact Kd.R_mono HO_4.out (fun _ hk => ⟨⟨hk.1.1.1, ⟨hk.1.1.2.1, ⟨hk.1.1.2.2, hk.2⟩⟩⟩, hk.1.2⟩)) hg hat); replace HO_5 := mS (Kd.R_over' (mR HO_5.out) (Kd.R_typed (mR HO393.out)) (by decide) hg); replace HO384 := mS (Kd.R_after (ok := (fun k_ => some k_ ≠ (.slice Ao47 x4_2.length co47 : Value).ownBlock ∧ some k_ ≠ (.slice Ao52 y385.length co52 : Value).ownBlock ∧ some k_ ≠ (.slice Ao55 t388.length co55 : Value).ownBlock ∧ some k_ ≠ (.slice Ao58 t394.length co58 : Value).ownBlock)) (by (with_reducible repeat (first | apply Kd.R_alloc | apply Kd.R_drewN | apply Kd.R_drew)); exact Kd.R_mono HO384.out (fun _ hk => ⟨⟨hk.1.1.1, ⟨hk.1.1.2.1, ⟨hk.1.1.2.2, hk.2⟩⟩⟩, hk.1.2⟩)) hg hat); replace HO387 := mS (Kd.R_after (ok := (fun k_ => some k_ ≠ (.slice Ao47 x4_2.length co47 : Value).ownBlock ∧ some k_ ≠ (.slice Ao51 t382.length co51 : Value).ownBlock ∧ some k_ ≠ (.slice Ao55 t388.length co55 : Value).ownBlock ∧ some k_ ≠ (.slice Ao58 t394.length co58 : Value).ownBlock)) (by (with_reducible repeat (first | apply Kd.R_alloc | apply Kd.R_drewN | apply Kd.R_drew)); exact Kd.R_mono HO387.out (fun _ hk => ⟨⟨hk.1.1.1, ⟨hk.1.1.2.1, ⟨hk.1.1.2.2, hk.2⟩⟩⟩, hk.1.2⟩)) hg hat); replace HO390 := mS (Kd.R_after (ok := (fun k_ => some k_ ≠ (.slice Ao47 x4_2.length co47 : Value).ownBlock ∧ some k_ ≠ (.slice Ao51 t382.length co51 : Value).ownBlock ∧ some k_ ≠ (.slice Ao52 y385.length co52 : Value).ownBlock ∧ some k_ ≠ (.slice Ao58 t394.length co58 : Value).ownBlock)) (by (with_reducible repeat (first | apply Kd.R_alloc | apply Kd.R_drewN | apply Kd.R_drew)); exact Kd.R_mono HO390.out (fun _ hk => ⟨⟨hk.1.1.1, ⟨hk.1.1.2.1, ⟨hk.1.1.2.2, hk.2⟩⟩⟩, hk.1.2⟩)) hg hat); replace HO396 := mS (Kd.R_after (ok := (fun k_ => some k_ ≠ (.slice Ao47 x4_2.length co47 : Value).ownBlock ∧ some k_ ≠ (.slice Ao51 t382.length co51 : Value).ownBlock ∧ some k_ ≠ (.slice Ao52 y385.length co52 : Value).ownBlock ∧ some k_ ≠ (.slice Ao55 t388.length co55 : Value).ownBlock)) (by (with_reducible repeat (first | apply Kd.R_alloc | apply Kd.R_drewN | apply Kd.R_drew)); exact Kd.R_mono HO396.out (fun _ hk => ⟨⟨hk.1.1.1.1.2, ⟨hk.1.1.1.2, ⟨hk.1.1.2, hk.1.2⟩⟩⟩, hk.2⟩)) hg hat); replace HB := mS (hb); have HO399 := mS (ho); clear HO393; clear ho hb hg hat))
              go_ret
              exact ⟨_, by first | rfl | (simp [errW_none, errW_some] <;> rfl) | (simp [*, errW_none, errW_some] <;> rfl), by (with_reducible repeat (first | apply Kd.R_alloc | apply Kd.R_drewN | apply Kd.R_drew)); exact Kd.R_mono HO399.out (fun _ hk => trivial), (mH HB.out)⟩
             ·rw [if_neg c43] at H
              exact absurd H (by simp)
            ·rw [if_neg c41] at H
             exact absurd H (by simp)
           ·rw [if_neg c39] at H
            exact absurd H (by simp)
          ·rw [if_neg c37] at H
           exact absurd H (by simp)

/-! ### laws_heldByteS: function 70 -/
def laws_heldByteS.l0 : Nat → List Int → Int → Int → Option (Int)
 | 0, _, _, _ => none
 | k + 1, x0, x1, x5 => if x5 < (x0.length : Int) then (if 0 ≤ x5 then (if (rd x0 x5) = ((x1) % 256) then (laws_heldByteS.l0 k x0 (wrap64 (x1 + 1)) (wrap64 (x5 + 1))) else (some (-1))) else (none)) else (some x1)
def laws_heldByteS.f (k : Nat) (l0 : List Int) (a1 : Int) : Option (Int) := laws_heldByteS.l0 k l0 a1 0
theorem laws_heldByteS.mono_l : ∀ k, (∀ y0 y1 y2, LeO (laws_heldByteS.l0 k y0 y1 y2) (laws_heldByteS.l0 (k + 1) y0 y1 y2))
 | 0 => fun _ _ _ r h => by simp [laws_heldByteS.l0] at h
 | k + 1 => by
  have ih0 := laws_heldByteS.mono_l k
  ·intro y0 y1 y2
   unfold laws_heldByteS.l0
   repeat' first
   | (with_reducible exact ih0 _ _ _)
   | (with_reducible exact LeO.refl _)
   | (with_reducible exact LeO.none _)
   | (with_reducible refine LeO.ite ?_ ?_)
   | (with_reducible refine LeO.bind ?_ (fun _ => ?_))
   | exact ih0 _ _ _
   | exact LeO.none _
   | refine LeO.ite ?_ ?_
   | refine LeO.bind ?_ (fun _ => ?_)
theorem laws_heldByteS.mono : ∀ a0 a1 k, LeO (laws_heldByteS.f k a0 a1) (laws_heldByteS.f (k + 1) a0 a1) := by
 intro a0 a1 k
 have ih0 := laws_heldByteS.mono_l k
 unfold laws_heldByteS.f
 repeat' first
   | (with_reducible exact ih0 _ _ _)
   | (with_reducible exact LeO.refl _)
   | (with_reducible exact LeO.none _)
   | (with_reducible refine LeO.ite ?_ ?_)
   | (with_reducible refine LeO.bind ?_ (fun _ => ?_))
   | exact ih0 _ _ _
   | exact LeO.none _
   | refine LeO.ite ?_ ?_
   | refine LeO.bind ?_ (fun _ => ?_)
set_option maxHeartbeats 8000000 in
set_option maxRecDepth 100000 in
theorem laws_heldByteS.calls (k : Nat) (A0 : Option Addr) (c0 : Nat) (l0 : List Int) (a1 : Int) (r : Int) (w : World) (hr0 : Kd.C (Kd.int .u8) w A0 l0.length l0) (hc0 : l0.length ≤ c0) (h : laws_heldByteS.f k l0 a1 = some r) :
  Calls Try.prog 70 #[.slice A0 l0.length c0, .int .i64 a1] w fun e w' => e = .returned (.int .i64 r) ∧ Drawn0 w w' := by
 have HR0 := mS hr0
 have HC0 := mS hc0
 clear hr0 hc0
 have H : (laws_heldByteS.l0 k l0 a1 0) = some r := h
 clear h
 have H' := mS H
 clear H
 go_enter Try.func70, Try.ntmps70
 go_wp2
 go_loopg [1, 5] k (fun kq v1 v5 w' => ∃ (x1_1 : Int) (x5_1 : Int), v1 = .int .i64 x1_1 ∧ v5 = .int .i64 x5_1 ∧ Aside0 (laws_heldByteS.l0 kq l0 x1_1 x5_1 = some r) ∧ Aside0 (kq ≤ k) ∧ Drawn0 w w')
 case atStart => exact ⟨(a1), (0), (by first | rfl | (simp; done) | (simp [*]; done)), (by first | rfl | (simp; done) | (simp [*]; done)), H', ⟨Nat.le_refl _⟩, by repeat (first | exact Drawn0.refl _ | apply Drawn0.step)⟩
 case round =>
  clear H'
  try clear p2
  obtain ⟨x1_1, x5_1, rfl, rfl, HA, HK1, ⟨m1, rfl⟩⟩ := hrel
  cases gk with
  | zero => exact absurd HA.out (by simp [laws_heldByteS.l0])
  | succ k1 =>
   have H := HA.out
   clear HA
   simp only [laws_heldByteS.l0] at H
   by_cases c3 : x5_1 < (l0.length : Int)
   ·rw [if_pos c3] at H
    have c3b0 : decide (x5_1 < (l0.length : Int)) = true := decide_eq_true c3
    clear c3
    by_cases c4 : 0 ≤ x5_1
    ·rw [if_pos c4] at H
     have c4b0 : decide (0 ≤ x5_1) = true := decide_eq_true c4
     clear c4
     by_cases c5 : (rd l0 x5_1) = ((x1_1) % 256)
     ·rw [if_pos c5] at H
      have c5b0 : ((rd l0 x5_1) == ((x1_1) % 256)) = true := beq_iff_eq.mpr c5
      have c5b1 : ((rd l0 x5_1) != ((x1_1) % 256)) = false := bne_eq_false_iff_eq.mpr c5
      clear c5
      have H' := mS H
      clear H
      have p400 : 0 ≤ (x5_1 : Int) := of_decide_eq_true (by first | (with_reducible assumption) | assumption)
      have q400 : x5_1 < (l0.length : Int) := of_decide_eq_true (by first | (with_reducible assumption) | assumption)
      obtain ⟨ad400, e400, hx400_0⟩ := Kd.at_int HR0.out x5_1 p400 q400
      cases e400
      replace p400 := eq_true p400
      replace q400 := eq_true q400
      go_wp2
      go_roundg k1
      case measure => have := HK1.out; omega
      case rel => exact ⟨(wrap64 (x1_1 + 1)), (wrap64 (x5_1 + 1)), (by first | rfl | (simp; done) | (simp [*]; done)), (by first | rfl | (simp; done) | (simp [*]; done)), H', ⟨by have := HK1.out; omega⟩, by repeat (first | exact Drawn0.refl _ | apply Drawn0.step)⟩
     ·rw [if_neg c5] at H
      have c5b0 : ((rd l0 x5_1) == ((x1_1) % 256)) = false := beq_eq_false_iff_ne.mpr c5
      have c5b1 : ((rd l0 x5_1) != ((x1_1) % 256)) = true := bne_iff_ne.mpr c5
      obtain rfl := Option.some.inj H
      have p400 : 0 ≤ (x5_1 : Int) := of_decide_eq_true (by first | (with_reducible assumption) | assumption)
      have q400 : x5_1 < (l0.length : Int) := of_decide_eq_true (by first | (with_reducible assumption) | assumption)
      obtain ⟨ad400, e400, hx400_0⟩ := Kd.at_int HR0.out x5_1 p400 q400
      cases e400
      replace p400 := eq_true p400
      replace q400 := eq_true q400
      go_wp2
      go_ret
      exact ⟨by first | rfl | (simp; done) | (simp [*]; done), by repeat (first | exact Drawn0.refl _ | apply Drawn0.step)⟩
    ·rw [if_neg c4] at H
     exact absurd H (by simp)
   ·rw [if_neg c3] at H
    have c3b0 : decide (x5_1 < (l0.length : Int)) = false := decide_eq_false c3
    clear c3
    obtain rfl := Option.some.inj H
    go_wp2
    go_ret
    exact ⟨by first | rfl | (simp; done) | (simp [*]; done), by repeat (first | exact Drawn0.refl _ | apply Drawn0.step)⟩

end Go.Proofs.Ytbepbgfkajnlbaa.MFnExactPutTable
