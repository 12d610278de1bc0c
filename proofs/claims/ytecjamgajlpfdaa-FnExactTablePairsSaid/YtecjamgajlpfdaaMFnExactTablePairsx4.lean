-- Written by mp.py, this session's own printer (wip/mp.py).
import Derived.Test.YtecjamgajlpfdaaVMShort
import Derived.Test.YtecjamgajlpfdaaMFnExactTablePairsx0
import Derived.Test.YtecjamgajlpfdaaMFnExactTablePairsx2
namespace Go.Proofs.Ytecjamgajlpfdaa.MFnExactTablePairs
open Go.RowKit Go.Proofs.YtecjamgajlpfdaaW.PrintWords Go.Proofs.YtecjamgajlpfdaaW.PrintLast Go.Proofs.YtecjamgajlpfdaaW.PrintMore Go.Proofs.Ytecjamgajlpfdaa.MWords
attribute [local go_sem] max2_int min2_int max_two min_two max_three min_three max_four min_four   -- for this text's walks alone
set_option linter.unusedVariables false
set_option linter.unusedSimpArgs false

/-! ### spec_l5Pairs: function 42 -/
mutual
def spec_l5Pairs.l0 : Nat → List (S87) → List Int → ByteArray → Int → Option ((List (S87)) × Bool)
 | 0, _, _, _, _ => none
 | k + 1, x6, x7, x10, x11 => if x11 < (x7.length : Int) then ((spec_GetNum.f k x7 x11).bind fun bt196 => ((spec_GetText.f k x7 bt196.2.1).bind fun bt199 => (if bt196.2.2 = true then (if bt199.2.2 = true then (if bt196.1 > (x10.size : Int) then (spec_l5Pairs.j1 k x6 x7 x10 bt196.1 bt199.1 bt199.2.1 true) else (if bt199.2.1 ≥ (x7.length : Int) then (spec_l5Pairs.j1 k x6 x7 x10 bt196.1 bt199.1 bt199.2.1 true) else (if 0 ≤ bt199.2.1 then (if bt199.2.1 < (x7.length : Int) then (spec_l5Pairs.j1 k x6 x7 x10 bt196.1 bt199.1 bt199.2.1 (decide ((rd x7 bt199.2.1) > 1))) else (none)) else (none)))) else (spec_l5Pairs.j1 k x6 x7 x10 bt196.1 bt199.1 bt199.2.1 true)) else (spec_l5Pairs.j1 k x6 x7 x10 bt196.1 bt199.1 bt199.2.1 true)))) else (some (x6, true))
def spec_l5Pairs.j1 : Nat → List (S87) → List Int → ByteArray → Int → ByteArray → Int → Bool → Option ((List (S87)) × Bool)
 | 0, _, _, _, _, _, _, _ => none
 | k + 1, x6, x7, x10, x12, x15, x16, x75 => if x75 = true then (some (x6, false)) else ((spec_GetText.f k x7 (wrap64 (x16 + 1))).bind fun bt203 => (if bt203.2.2 = true then (if 0 ≤ x12 then (if x12 ≤ (x10.size : Int) then (if (x10.extract 0 (x12 : Int).toNat).size + x15.size ≤ 9223372036854775807 then (if 0 ≤ x16 then (if x16 < (x7.length : Int) then (if x6.length < 3518437208883 then (spec_l5Pairs.l0 k (x6 ++ [(⟨(x10.extract 0 (x12 : Int).toNat) ++ x15, bt203.1, ((rd x7 x16) == 1)⟩ : S87)]) x7 ((x10.extract 0 (x12 : Int).toNat) ++ x15) bt203.2.1) else (none)) else (none)) else (none)) else (none)) else (none)) else (none)) else (some (x6, false))))
end
def spec_l5Pairs.f (k : Nat) (l0 : List Int) (a1 : Int) : Option ((List (S87)) × Bool) := (some (([] : List (S87)) : List (S87))).bind fun y188 => ((spec_Unframe.f k l0 a1).bind fun bt191 => (if bt191.2.2 = true then (spec_l5Pairs.l0 k y188 bt191.1 (⟨#[]⟩ : ByteArray) 0) else (some (y188, false))))
theorem spec_l5Pairs.mono_l : ∀ k, (∀ y0 y1 y2 y3, LeO (spec_l5Pairs.l0 k y0 y1 y2 y3) (spec_l5Pairs.l0 (k + 1) y0 y1 y2 y3)) ∧ (∀ y0 y1 y2 y3 y4 y5 y6, LeO (spec_l5Pairs.j1 k y0 y1 y2 y3 y4 y5 y6) (spec_l5Pairs.j1 (k + 1) y0 y1 y2 y3 y4 y5 y6))
 | 0 => ⟨fun _ _ _ _ r h => by simp [spec_l5Pairs.l0] at h, fun _ _ _ _ _ _ _ r h => by simp [spec_l5Pairs.j1] at h⟩
 | k + 1 => by
  obtain ⟨ih0, ih1⟩ := spec_l5Pairs.mono_l k
  refine ⟨?_, ?_⟩
  ·intro y0 y1 y2 y3
   unfold spec_l5Pairs.l0
   repeat' first
   | (with_reducible exact ih0 _ _ _ _)
   | (with_reducible exact ih1 _ _ _ _ _ _ _)
   | (with_reducible exact spec_GetNum.mono _ _ _)
   | (with_reducible exact spec_GetText.mono _ _ _)
   | (with_reducible exact spec_Unframe.mono _ _ _)
   | (with_reducible exact LeO.refl _)
   | (with_reducible exact LeO.none _)
   | (with_reducible refine LeO.ite ?_ ?_)
   | (with_reducible refine LeO.bind ?_ (fun _ => ?_))
   | exact ih0 _ _ _ _
   | exact ih1 _ _ _ _ _ _ _
   | exact spec_GetNum.mono _ _ _
   | exact spec_GetText.mono _ _ _
   | exact spec_Unframe.mono _ _ _
   | exact LeO.none _
   | refine LeO.ite ?_ ?_
   | refine LeO.bind ?_ (fun _ => ?_)
  ·intro y0 y1 y2 y3 y4 y5 y6
   unfold spec_l5Pairs.j1
   repeat' first
   | (with_reducible exact ih0 _ _ _ _)
   | (with_reducible exact ih1 _ _ _ _ _ _ _)
   | (with_reducible exact spec_GetNum.mono _ _ _)
   | (with_reducible exact spec_GetText.mono _ _ _)
   | (with_reducible exact spec_Unframe.mono _ _ _)
   | (with_reducible exact LeO.refl _)
   | (with_reducible exact LeO.none _)
   | (with_reducible refine LeO.ite ?_ ?_)
   | (with_reducible refine LeO.bind ?_ (fun _ => ?_))
   | exact ih0 _ _ _ _
   | exact ih1 _ _ _ _ _ _ _
   | exact spec_GetNum.mono _ _ _
   | exact spec_GetText.mono _ _ _
   | exact spec_Unframe.mono _ _ _
   | exact LeO.none _
   | refine LeO.ite ?_ ?_
   | refine LeO.bind ?_ (fun _ => ?_)
theorem spec_l5Pairs.mono : ∀ a0 a1 k, LeO (spec_l5Pairs.f k a0 a1) (spec_l5Pairs.f (k + 1) a0 a1) := by
 intro a0 a1 k
 obtain ⟨ih0, ih1⟩ := spec_l5Pairs.mono_l k
 unfold spec_l5Pairs.f
 repeat' first
   | (with_reducible exact ih0 _ _ _ _)
   | (with_reducible exact ih1 _ _ _ _ _ _ _)
   | (with_reducible exact spec_GetNum.mono _ _ _)
   | (with_reducible exact spec_GetText.mono _ _ _)
   | (with_reducible exact spec_Unframe.mono _ _ _)
   | (with_reducible exact LeO.refl _)
   | (with_reducible exact LeO.none _)
   | (with_reducible refine LeO.ite ?_ ?_)
   | (with_reducible refine LeO.bind ?_ (fun _ => ?_))
   | exact ih0 _ _ _ _
   | exact ih1 _ _ _ _ _ _ _
   | exact spec_GetNum.mono _ _ _
   | exact spec_GetText.mono _ _ _
   | exact spec_Unframe.mono _ _ _
   | exact LeO.none _
   | refine LeO.ite ?_ ?_
   | refine LeO.bind ?_ (fun _ => ?_)
def spec_l5Pairs.T15 : Bool × List (List Nat × List Nat) := (true, [([], []), ([], []), ([0, 1], [0, 1]), ([], []), ([2, 3], [2, 3]), ([], []), ([], []), ([], []), ([6, 7], [6, 7]), ([8], [8]), ([9], [9]), ([4, 5, 10], [4, 5, 10]), ([], []), ([12, 11, 0, 1, 2, 3, 4, 5, 6, 7, 8, 9, 10, 11, 12], [11, 12])])
def spec_l5Pairs.B15 : List Nat := [0, 0, 3, 0, 15, 0, 0, 0, 192, 448, 960, 2047, 0, 8191]
theorem spec_l5Pairs.tab15 : rtab .any (opsOf Try.f42 15) = spec_l5Pairs.T15 := by kernel_rfl
theorem spec_l5Pairs.bits15 : waitsOk spec_l5Pairs.T15.2 spec_l5Pairs.B15 = true := by kernel_rfl
set_option maxHeartbeats 8000000 in
set_option maxRecDepth 100000 in
theorem spec_l5Pairs.calls (k : Nat) (A0 : Option Addr) (c0 : Nat) (l0 : List Int) (a1 : Int) (r1 : List (S87)) (r2 : Bool) (w : World) (hr0 : Kd.C (Kd.int .u8) w A0 l0.length l0) (hc0 : l0.length ≤ c0) (h : spec_l5Pairs.f k l0 a1 = some (r1, r2)) :
  Calls Try.prog 42 #[.slice A0 l0.length c0, .int .i64 a1] w fun e w' => ∃ v0_ : Value, e = .returned (.tuple #[v0_, .bool r2]) ∧ Kd.R k87 87 w' w.heap.size (fun _ => True) v0_ r1 ∧ Below w.heap.size w w' := by
 have hu87 := Try.underlying87
 have HR0 := mS hr0
 have HC0 := mS hc0
 clear hr0 hc0
 have HB := mS (Below.refl w.heap.size w)
 have H : ((some (([] : List (S87)) : List (S87))).bind fun y188 => ((spec_Unframe.f k l0 a1).bind fun bt191 => (if bt191.2.2 = true then (spec_l5Pairs.l0 k y188 bt191.1 (⟨#[]⟩ : ByteArray) 0) else (some (y188, false))))) = some (r1, r2) := h
 clear h
 obtain ⟨y188, hy188⟩ : ∃ y_ : List (S87), y_ = (([] : List (S87))) := ⟨_, rfl⟩
 replace H : ((spec_Unframe.f k l0 a1).bind fun bt191 => (if bt191.2.2 = true then (spec_l5Pairs.l0 k y188 bt191.1 (⟨#[]⟩ : ByteArray) 0) else (some (y188, false)))) = some (r1, r2) := by first | (rw [hy188]; with_reducible exact H) | (have H2_ := (Option.bind_some _ _).symm.trans H; rw [hy188]; with_reducible exact H2_) | (have H2_ := (Option.bind_some _ _).symm.trans H; with_reducible exact H2_) | with_reducible exact H | (rw [hy188]; exact H) | exact H
 have Ny188 := mS hy188
 clear hy188
 replace H := Option.bind_eq_some_iff.mp H
 obtain ⟨⟨t191, t192, t193⟩, A30, H⟩ := H
 replace H : (if t193 = true then (spec_l5Pairs.l0 k y188 t191 (⟨#[]⟩ : ByteArray) 0) else (some (y188, false))) = some (r1, r2) := H
 have A3 := mS A30
 clear A30
 by_cases c4 : t193 = true
 ·subst c4
  have H1 := H
  rw [if_pos rfl] at H1
  clear H
  have H := H1
  clear H1
  have H' := mS H
  clear H
  go_enter Try.func42, Try.ntmps42
  go_wp2_with (first | ((with_reducible refine gate_dst (N := 22) rfl ?_); (try (refine gate_guard (by rfl) ?_; dsimp only)); refine Kd.R_lit k87 _ 87 ?hg (N := 22) ?hd (xs := ([] : List (S87))) (inner := []) (ok := fun _ => True) (okp := fun _ => True) ?hr ?hp (fun _ hk => hk) trivial (Below.refl _ _) (Nat.le_refl _) (by simp) ?_; (case hd => rfl); (case hg => rfl); (case hr => first | (go_simp; done) | (go_simp; rfl)); (case hp => exact (Reps.none _ _)); intro v189 w5 ho6 hb hg_ hnew_; clear hg_ hnew_; (first | rw [← Ny188.out] at ho6 | (simp only [Int.reduceToNat] at ho6; rw [← Ny188.out] at ho6)); have HO190 := mS (Kd.R_lower ho6 (below_size (mH HB.out))); replace HB := mS (below_step (mH HB.out) hb); clear hb ho6) | ((with_reducible refine gate_callee (f := 7) rfl ?_); refine mGo 26 Try.func7 #[.slice A0 l0.length c0, .int .i64 a1] ?_; (with_reducible refine (spec_Unframe.calls k _ _ l0 a1 t191 t192 true _ ?side1 ?side2 A3.out).mono ?_); (case side1 => exact mC (Kd.C_below HR0.out HB.out)); (case side2 => exact HC0.out); rintro e w7 ⟨v194, rfl, ho0, hb⟩; refine ⟨_, rfl, ?_⟩; replace HO190 := mS (Kd.R_below (mR HO190.out) hb); have HO195 := mS (Kd.R_lower ho0 (below_size (mH HB.out))); replace HB := mS (below_step (mH HB.out) hb); (try clear hb); (try clear ho0)))
  go_loopg [6, 10, 11] k (fun kq v6 v10 v11 w' => ∃ (x6_1 : List (S87)) (x10_1 : ByteArray) (x11_1 : Int), v10 = .string x10_1 ∧ v11 = .int .i64 x11_1 ∧ Aside0 (spec_l5Pairs.l0 kq x6_1 t191 x10_1 x11_1 = some (r1, r2)) ∧ Aside0 (kq ≤ k) ∧ Aside0 (Kd.R k87 87 w' w.heap.size (fun _ => True) v6 x6_1) ∧ Aside0 (Kd.R (Kd.int .u8) 5 w' w.heap.size (fun _ => True) v194 t191) ∧ Aside0 (Below w.heap.size w w'))
  case atStart => exact ⟨(y188), ((⟨#[]⟩ : ByteArray)), (0), mE, mE, H', ⟨Nat.le_refl _⟩, ⟨mR HO190.out⟩, ⟨mR HO195.out⟩, ⟨(mH HB.out)⟩⟩
  case round =>
   clear H'
   try clear p2
   try clear c4
   try clear c7
   obtain ⟨x6_1, x10_1, x11_1, rfl, rfl, HA, HK1, HO_6, HO_7, HB⟩ := hrel
   cases gk with
   | zero => exact absurd HA.out (by simp [spec_l5Pairs.l0])
   | succ k1 =>
    have H := HA.out
    clear HA
    simp only [spec_l5Pairs.l0] at H
    by_cases c8 : x11_1 < (t191.length : Int)
    ·rw [if_pos c8] at H
     have c8b0 := decide_eq_true c8
     clear c8
     replace H := Option.bind_eq_some_iff.mp H
     obtain ⟨⟨t196, t197, t198⟩, A90, H⟩ := H
     replace H : ((spec_GetText.f k1 t191 t197).bind fun bt199 => (if t198 = true then (if bt199.2.2 = true then (if t196 > (x10_1.size : Int) then (spec_l5Pairs.j1 k1 x6_1 t191 x10_1 t196 bt199.1 bt199.2.1 true) else (if bt199.2.1 ≥ (t191.length : Int) then (spec_l5Pairs.j1 k1 x6_1 t191 x10_1 t196 bt199.1 bt199.2.1 true) else (if 0 ≤ bt199.2.1 then (if bt199.2.1 < (t191.length : Int) then (spec_l5Pairs.j1 k1 x6_1 t191 x10_1 t196 bt199.1 bt199.2.1 (decide ((rd t191 bt199.2.1) > 1))) else (none)) else (none)))) else (spec_l5Pairs.j1 k1 x6_1 t191 x10_1 t196 bt199.1 bt199.2.1 true)) else (spec_l5Pairs.j1 k1 x6_1 t191 x10_1 t196 bt199.1 bt199.2.1 true))) = some (r1, r2) := H
     have A9 := mS A90
     clear A90
     replace H := Option.bind_eq_some_iff.mp H
     obtain ⟨⟨t199, t200, t201⟩, A100, H⟩ := H
     replace H : (if t198 = true then (if t201 = true then (if t196 > (x10_1.size : Int) then (spec_l5Pairs.j1 k1 x6_1 t191 x10_1 t196 t199 t200 true) else (if t200 ≥ (t191.length : Int) then (spec_l5Pairs.j1 k1 x6_1 t191 x10_1 t196 t199 t200 true) else (if 0 ≤ t200 then (if t200 < (t191.length : Int) then (spec_l5Pairs.j1 k1 x6_1 t191 x10_1 t196 t199 t200 (decide ((rd t191 t200) > 1))) else (none)) else (none)))) else (spec_l5Pairs.j1 k1 x6_1 t191 x10_1 t196 t199 t200 true)) else (spec_l5Pairs.j1 k1 x6_1 t191 x10_1 t196 t199 t200 true)) = some (r1, r2) := H
     have A10 := mS A100
     clear A100
     have HC11 := mS H
     clear H
     obtain ⟨Ao12, co12, eo12⟩ := Kd.R_slice HO_7.out
     subst eo12
     go_upto_region 10 with (first | ((with_reducible refine gate_callee (f := 35) rfl ?_); refine mGo 40 Try.func35 #[.slice Ao12 t191.length co12, .int .i64 x11_1] ?_; (with_reducible refine (spec_GetNum.calls k1 _ _ t191 x11_1 t196 t197 t198 _ ?side1 ?side2 A9.out).mono ?_); (case side1 => exact mC (Kd.R_reads' HO_7.out).2.2); (case side2 => exact (Kd.R_reads' HO_7.out).2.1); rintro e w' ⟨rfl, ⟨nd, rfl⟩⟩; refine ⟨_, rfl, ?_⟩) | ((with_reducible refine gate_callee (f := 72) rfl ?_); refine mGo 47 Try.func72 #[.slice Ao12 t191.length co12, .int .i64 t197] ?_; (with_reducible refine (spec_GetText.calls k1 _ _ t191 t197 t199 t200 t201 _ ?side1 ?side2 A10.out).mono ?_); (case side1 => exact mC (Kd.R_reads' HO_7.out).2.2); (case side2 => exact (Kd.R_reads' HO_7.out).2.1); rintro e w' ⟨rfl, ⟨nd, rfl⟩⟩; refine ⟨_, rfl, ?_⟩))
     (try simp only [Act.put, zA, zB, zC])
     go_cut [75] (fun v75 wc => ∃ (kq : Nat) (x75_10 : Bool), v75 = .bool x75_10 ∧ Aside0 (spec_l5Pairs.j1 kq x6_1 t191 x10_1 t196 t199 t200 x75_10 = some (r1, r2)) ∧ Aside0 (kq ≤ k1) ∧ Aside0 (Kd.R k87 87 wc w.heap.size (fun _ => True) u6 x6_1) ∧ Aside0 (Kd.R (Kd.int .u8) 5 wc w.heap.size (fun _ => True) (.slice Ao12 t191.length co12) t191) ∧ Aside0 (Below w.heap.size w wc))
     case first =>
      have H := HC11.out
      clear HC11
      by_cases c13 : t198 = true
      ·subst c13
       have H1 := H
       rw [if_pos rfl] at H1
       clear H
       have H := H1
       clear H1
       by_cases c14 : t201 = true
       ·subst c14
        have H1 := H
        rw [if_pos rfl] at H1
        clear H
        have H := H1
        clear H1
        by_cases c15 : t196 > (x10_1.size : Int)
        ·rw [if_pos c15] at H
         have c15b0 : decide ((x10_1.size : Int) < t196) = true := decide_eq_true c15
         clear c15
         (first | rw [c15b0] | (simp only [i64_w, i32_w]; rw [c15b0]) | skip)
         have H' := mS H
         clear H
         go_wp2
         go_meet
         case rel => exact ⟨_, (true), mE, H', ⟨by have := HK1.out; first | omega | exact Nat.le_refl _⟩, ⟨mR HO_6.out⟩, ⟨mR HO_7.out⟩, ⟨(mH HB.out)⟩⟩
        ·rw [if_neg c15] at H
         have c15b0 : decide ((x10_1.size : Int) < t196) = false := decide_eq_false c15
         clear c15
         (first | rw [c15b0] | (simp only [i64_w, i32_w]; rw [c15b0]) | skip)
         by_cases c16 : t200 ≥ (t191.length : Int)
         ·rw [if_pos c16] at H
          have c16b0 : decide ((t191.length : Int) ≤ t200) = true := decide_eq_true c16
          clear c16
          have H' := mS H
          clear H
          go_wp2
          go_meet
          case rel => exact ⟨_, (true), mE, H', ⟨by have := HK1.out; first | omega | exact Nat.le_refl _⟩, ⟨mR HO_6.out⟩, ⟨mR HO_7.out⟩, ⟨(mH HB.out)⟩⟩
         ·rw [if_neg c16] at H
          have c16b0 : decide ((t191.length : Int) ≤ t200) = false := decide_eq_false c16
          clear c16
          by_cases c17 : 0 ≤ t200
          ·rw [if_pos c17] at H
           have c17b0 := decide_eq_true c17
           clear c17
           by_cases c18 : t200 < (t191.length : Int)
           ·rw [if_pos c18] at H
            have c18b0 := decide_eq_true c18
            clear c18
            have H' := mS H
            clear H
            have p202 : 0 ≤ (t200 : Int) := mD
            have q202 : t200 < (t191.length : Int) := mD
            obtain ⟨ad202, e202, hx202_0⟩ := Kd.at_int (Kd.R_reads' HO_7.out).2.2 t200 p202 q202
            cases e202
            replace p202 := eq_true p202
            replace q202 := eq_true q202
            go_wp2
            go_meet
            case rel => exact ⟨_, (decide ((rd t191 t200) > 1)), mE, H', ⟨by have := HK1.out; first | omega | exact Nat.le_refl _⟩, ⟨mR HO_6.out⟩, ⟨mR HO_7.out⟩, ⟨(mH HB.out)⟩⟩
           ·rw [if_neg c18] at H
            exact absurd H (by simp)
          ·rw [if_neg c17] at H
           exact absurd H (by simp)
       ·replace c14 := Bool.eq_false_iff.mpr c14
        subst c14
        have H1 := H
        rw [if_neg (show ¬ (false = true) by decide)] at H1
        clear H
        have H := H1
        clear H1
        have H' := mS H
        clear H
        go_wp2
        go_meet
        case rel => exact ⟨_, (true), mE, H', ⟨by have := HK1.out; first | omega | exact Nat.le_refl _⟩, ⟨mR HO_6.out⟩, ⟨mR HO_7.out⟩, ⟨(mH HB.out)⟩⟩
      ·replace c13 := Bool.eq_false_iff.mpr c13
       subst c13
       have H1 := H
       rw [if_neg (show ¬ (false = true) by decide)] at H1
       clear H
       have H := H1
       clear H1
       have H' := mS H
       clear H
       go_wp2
       go_meet
       case rel => exact ⟨_, (true), mE, H', ⟨by have := HK1.out; first | omega | exact Nat.le_refl _⟩, ⟨mR HO_6.out⟩, ⟨mR HO_7.out⟩, ⟨(mH HB.out)⟩⟩
     case rest =>
      clear HC11
      try clear c1
      try clear p2
      try clear q2
      try clear hx2
      try clear c3
      try clear c4
      try clear c7
      try clear c8
      try clear c8b0
      try clear c13
      try clear c14
      try clear c15
      try clear c15b0
      try clear c16
      try clear c16b0
      try clear c17
      try clear c17b0
      try clear c18
      try clear c18b0
      try clear hx202_0
      try clear p2
      try clear p202
      try clear q202
      obtain ⟨kq, x75_10, rfl, HA, HJ10, HO_6, HO_7, HB⟩ := hcut
      cases kq with
      | zero => exact absurd HA.out (by simp [spec_l5Pairs.j1])
      | succ kj10 =>
       have H := HA.out
       clear HA
       simp only [spec_l5Pairs.j1] at H
       by_cases c19 : x75_10 = true
       ·subst c19
        have H1 := H
        rw [if_pos rfl] at H1
        clear H
        have H := H1
        clear H1
        simp only [Option.some.injEq, Prod.mk.injEq] at H
        obtain ⟨rfl, rfl⟩ := H
        go_wp2
        go_ret2
        exact ⟨_, mEw, mR HO_6.out, (mH HB.out)⟩
       ·replace c19 := Bool.eq_false_iff.mpr c19
        subst c19
        have H1 := H
        rw [if_neg (show ¬ (false = true) by decide)] at H1
        clear H
        have H := H1
        clear H1
        replace H := Option.bind_eq_some_iff.mp H
        obtain ⟨⟨t203, t204, t205⟩, A200, H⟩ := H
        replace H : (if t205 = true then (if 0 ≤ t196 then (if t196 ≤ (x10_1.size : Int) then (if (x10_1.extract 0 (t196 : Int).toNat).size + t199.size ≤ 9223372036854775807 then (if 0 ≤ t200 then (if t200 < (t191.length : Int) then (if x6_1.length < 3518437208883 then (spec_l5Pairs.l0 kj10 (x6_1 ++ [(⟨(x10_1.extract 0 (t196 : Int).toNat) ++ t199, t203, ((rd t191 t200) == 1)⟩ : S87)]) t191 ((x10_1.extract 0 (t196 : Int).toNat) ++ t199) t204) else (none)) else (none)) else (none)) else (none)) else (none)) else (none)) else (some (x6_1, false))) = some (r1, r2) := H
        have A20 := mS A200
        clear A200
        by_cases c21 : t205 = true
        ·subst c21
         have H1 := H
         rw [if_pos rfl] at H1
         clear H
         have H := H1
         clear H1
         by_cases c22 : 0 ≤ t196
         ·rw [if_pos c22] at H
          have c22b0 := eq_true c22
          have c22b1 := decide_eq_true c22
          clear c22
          by_cases c23 : t196 ≤ (x10_1.size : Int)
          ·rw [if_pos c23] at H
           have c23b0 := eq_true c23
           have c23b1 := decide_eq_true c23
           clear c23
           by_cases c24 : (x10_1.extract 0 (t196 : Int).toNat).size + t199.size ≤ 9223372036854775807
           ·rw [if_pos c24] at H
            have c24b0 := eq_true c24
            have c24b1 := decide_eq_true c24
            try have c24b2 : (9223372036854775807 < (x10_1.extract 0 (t196 : Int).toNat).size + t199.size) = False := eq_false (Nat.not_lt.2 c24)
            try have c24b3 : (9223372036854775807 < (t196 : Int).toNat + t199.size) = False := eq_false (Nat.not_lt.2 (by have z_ := of_eq_false c24b2; have y_ := of_eq_true c23b0; rw [ByteArray.size_extract] at z_; omega))
            by_cases c25 : 0 ≤ t200
            ·rw [if_pos c25] at H
             have c25b0 := decide_eq_true c25
             clear c25
             by_cases c26 : t200 < (t191.length : Int)
             ·rw [if_pos c26] at H
              have c26b0 := decide_eq_true c26
              clear c26
              by_cases c27 : x6_1.length < 3518437208883
              ·rw [if_pos c27] at H
               have LMc27 := mS c27
               clear c27
               obtain ⟨y208, hy208⟩ : ∃ y_ : List (S87), y_ = (x6_1 ++ [(⟨(x10_1.extract 0 (t196 : Int).toNat) ++ t199, t203, ((rd t191 t200) == 1)⟩ : S87)]) := ⟨_, rfl⟩
               replace H : (spec_l5Pairs.l0 kj10 y208 t191 ((x10_1.extract 0 (t196 : Int).toNat) ++ t199) t204) = some (r1, r2) := by first | (rw [hy208]; with_reducible exact H) | (have H2_ := (Option.bind_some _ _).symm.trans H; rw [hy208]; with_reducible exact H2_) | (have H2_ := (Option.bind_some _ _).symm.trans H; with_reducible exact H2_) | with_reducible exact H | (rw [hy208]; exact H) | exact H
               have Ny208 := mS hy208
               clear hy208
               have H' := mS H
               clear H
               try go_wp2_with (first | ((with_reducible refine gate_callee (f := 72) rfl ?_); refine mGo 81 Try.func72 #[.slice Ao12 t191.length co12, .int .i64 (wrap64 (t200 + 1))] ?_; (with_reducible refine (spec_GetText.calls kj10 _ _ t191 (wrap64 (t200 + 1)) t203 t204 true _ ?side1 ?side2 A20.out).mono ?_); (case side1 => exact mC (Kd.R_reads' HO_7.out).2.2); (case side2 => exact (Kd.R_reads' HO_7.out).2.1); rintro e w' ⟨rfl, ⟨nd, rfl⟩⟩; refine ⟨_, rfl, ?_⟩; (try (rw [drewN_self wc]; generalize hq_ : World.drewN wc _ = wc; have n0_ : Aside0 (Kd.R k87 87 wc w.heap.size (fun k_ => True) u6 x6_1) := ⟨by rw [← hq_]; exact (mR HO_6.out)⟩; have n1_ : Aside0 (Kd.R (Kd.int .u8) 5 wc w.heap.size (fun k_ => True) (.slice Ao12 t191.length co12) t191) := ⟨by rw [← hq_]; exact (mR HO_7.out)⟩; have n2_ : Aside0 (Below w.heap.size w wc) := ⟨by rw [← hq_]; exact (mH HB.out)⟩; clear HO_6 HO_7 HB hq_; have HO_6 := n0_; have HO_7 := n1_; have HB := n2_; clear n0_ n1_ n2_))))
               replace HO_6 := mS (Kd.R_drew HO_6.out)
               replace HO_7 := mS (Kd.R_drew HO_7.out)
               replace HB := mS (below_drew1 HB.out)
               have p206 : 0 ≤ (t200 : Int) := mD
               have q206 : t200 < (t191.length : Int) := mD
               obtain ⟨ad206, e206, hx206_0⟩ := Kd.at_int (Kd.R_reads' HO_7.out).2.2 t200 p206 q206
               cases e206
               replace p206 := eq_true p206
               replace q206 := eq_true q206
               refine start_ (n := 14) (S := fun w' => w'.cell? (ad206.add (t200).toNat) = some (.int .u8 (rd t191 t200))) (ds := []) (mb 0 14) (by kernel_rfl) rfl rfl (hx206_0) (fun hHeld => ?_); refine with_tabW spec_l5Pairs.tab15 spec_l5Pairs.bits15 (fun HT_ HW_ => ?_)
               generalize wc.drew = w28 at HO_6 HO_7 HB hx206_0 hHeld ⊢
               refine mpu 0 88 HT_.out (mb 1 13) ?_
               refine mpu 1 89 HT_.out (mb 2 12) ?_
               refine mpu 2 90 HT_.out (mb 3 11) ?_
               refine mpu 3 91 HT_.out (mb 4 10) ?_
               refine mpu 4 92 HT_.out (mb 5 9) ?_
               refine mpu 5 93 HT_.out (mb 6 8) ?_
               refine mpu 6 94 HT_.out (mb 7 7) ?_
               refine mpu 7 95 HT_.out (mb 8 6) ?_
               refine mpu 8 96 HT_.out (mb 9 5) ?_
               refine take_ (i := 9) (N := some 97) (v := ?_) (a' := ?_) (mb 10 4) rfl rfl (take_ofW HT_.out HW_.out (by kernel_rfl)) (fun _ _ _ h => h) (Or.inl ⟨by rfl, ?_⟩) hHeld ?_ ?_
               rotate_left
               ·intro w' s0
                go_simp
                with_reducible rfl
               rotate_left
               ·simp only [Act.put, zA, zB, zC, i64_w, i32_w]
                rfl
               refine mpu 10 98 HT_.out (mb 11 3) ?_
               refine mpu 11 99 HT_.out (mb 12 2) ?_
               refine mone 12 (some 21) HT_.out (mb 13 1) (fun K hK => ?_)
               refine box_step ?hg (N := 21) ?hd (cs := #[.string (⟨#[]⟩ : ByteArray), .string (⟨#[]⟩ : ByteArray), .bool false]) (t := 87) ?hr ?_; (case hd => rfl); (case hg => rfl); (case hr => first | (go_simp; done) | (go_simp; rfl))
               intro gb207 hg w29 hbox hb
               have HS0_ := (hb.cell (World.block_lt_of_cell? _ _ (hHeld))).trans (hHeld)
               replace HO_6 := mS (Kd.R_below (Kd.R_elderB (mR HO_6.out) gb207 (Nat.le_of_eq hg.symm)) hb)
               replace HO_7 := mS (Kd.R_below (mR HO_7.out) hb)
               have BK207 := mS (hbox)
               have GW207 := mG hg (mH HB.out)
               have GE207 := mG hg (mH HB.out)
               replace HB := mS (below_step (mH HB.out) hb)
               clear hb hbox hg
               refine hK.out _ _ (HS0_) (fun hHeld => ?_)
               clear hK K
               refine mno 21 ?_
               refine mone 13 none HT_.out (mb 14 0) (fun K hK => ?_)
               have hs30 : w29.cell? ⟨gb207, 0, none⟩ = some (.string (⟨#[]⟩ : ByteArray)) := mZ BK207.out 0
               have hfs30 := blk_frozen BK207.out 0
               have hs31 : w29.cell? ⟨gb207, 1, none⟩ = some (.string (⟨#[]⟩ : ByteArray)) := mZ BK207.out 1
               have hfs31 := blk_frozen BK207.out 1
               have hs32 : w29.cell? ⟨gb207, 2, none⟩ = some (.bool false) := mZ BK207.out 2
               have hfs32 := blk_frozen BK207.out 2
               refine skip_ (w1 := ?_) (by rfl) rfl ?_ ?_
               rotate_left
               ·go_simp
                rfl
               refine hK.out _ _ (((cell_far (p := ⟨gb207, _, none⟩) (by first | exact Kd.own_blk (Kd.R_ne HO_7.out BK207.out (by decide)) | (rw [add_block]; exact Kd.own_blk (Kd.R_ne HO_7.out BK207.out (by decide))) | (show (Addr.add _ _).block ≠ _; rw [add_block]; exact Kd.own_blk (Kd.R_ne HO_7.out BK207.out (by decide))) | (dsimp only; exact Kd.own_blk (Kd.R_ne HO_7.out BK207.out (by decide)))) _).trans (((cell_far (p := ⟨gb207, _, none⟩) (by first | exact Kd.own_blk (Kd.R_ne HO_7.out BK207.out (by decide)) | (rw [add_block]; exact Kd.own_blk (Kd.R_ne HO_7.out BK207.out (by decide))) | (show (Addr.add _ _).block ≠ _; rw [add_block]; exact Kd.own_blk (Kd.R_ne HO_7.out BK207.out (by decide))) | (dsimp only; exact Kd.own_blk (Kd.R_ne HO_7.out BK207.out (by decide)))) _).trans (((cell_far (p := ⟨gb207, _, none⟩) (by first | exact Kd.own_blk (Kd.R_ne HO_7.out BK207.out (by decide)) | (rw [add_block]; exact Kd.own_blk (Kd.R_ne HO_7.out BK207.out (by decide))) | (show (Addr.add _ _).block ≠ _; rw [add_block]; exact Kd.own_blk (Kd.R_ne HO_7.out BK207.out (by decide))) | (dsimp only; exact Kd.own_blk (Kd.R_ne HO_7.out BK207.out (by decide)))) _).trans (hHeld))))))) (fun hHeld => ?_)
               clear hK K
               refine done_ (done_of HT_.out (by kernel_rfl)) ?_
               obtain ⟨hcz33_0, hcz33_1, hcz33_2, hfz33_0, hfz33_1, hfz33_2⟩ := mZ3 BK207.out
               try go_wp2_with (first | ((with_reducible refine gate_builtin (b := .append) (xs := #[.tmp 100, .tmp 102]) rfl ?_); (try (refine gate_guard (by rfl) ?_; dsimp only)); at_builtin; refine Kd.R_append k87 (w0 := w) w.heap.size rfl (.tmp 100) (.tmp 102) 35 87 (.agg #[(.string ⟨#[]⟩), (.string ⟨#[]⟩), (.bool false)]) 40 rfl Try.underlying35 info87 rfl (by decide) (by omega) u6 x6_1 (⟨(x10_1.extract 0 (t196 : Int).toNat) ++ t199, t203, ((rd t191 t200) == 1)⟩ : S87) [.string ((x10_1.extract 0 (t196 : Int).toNat) ++ t199), .string t203, .bool ((rd t191 t200) == 1)] (fun k_ => k_ ≠ gb207) (fun _ => False) rfl (by first | (go_simp; done) | (go_simp; rfl)) ?aP (fun _ hk => hk.elim) ?aF ?aO ?aB ?aS ?aL ?_; (case aP => exact k87_mkM _ _ _ (⟨(x10_1.extract 0 (t196 : Int).toNat) ++ t199, t203, ((rd t191 t200) == 1)⟩ : S87)); (case aB => exact (mH1 HB.out GE207.out)); (case aF => exact (fun k_ hk => Kd.freshB (g := gb207) (o := .cells #[.string ((x10_1.extract 0 (t196 : Int).toNat) ++ t199), .string t203, .bool ((rd t191 t200) == 1)] 87 (0, 0)) (by refine mK ?_; refine blk_put (cs := #[.string ((x10_1.extract 0 (t196 : Int).toNat) ++ t199), .string t203, .bool false]) ?_ 2 _ rfl; refine mK ?_; refine blk_put (cs := #[.string ((x10_1.extract 0 (t196 : Int).toNat) ++ t199), .string (⟨#[]⟩ : ByteArray), .bool false]) ?_ 1 _ rfl; refine mK ?_; refine blk_put (cs := #[.string (⟨#[]⟩ : ByteArray), .string (⟨#[]⟩ : ByteArray), .bool false]) ?_ 0 _ rfl; refine mK ?_; exact BK207.out) k_ hk)); (case aO => exact (by refine mR ?_; exact Kd.R_mono (mRf3 (Kd.R_mono HO_6.out (fun k_ hk => (⟨hk, hk.2⟩ : _ ∧ k_ ≠ gb207)))) (fun _ hk => hk.1.2))); (case aS => exact (below_size (mH1 HB.out GE207.out))); (case aL => have := LMc27.out; omega); intro v209 w34 ho hb hg hat; rw [← Ny208.out] at ho; replace HO_7 := mS (Kd.R_over' (by refine mR ?_; exact (Kd.R_mono (mRf3 (Kd.R_types HO_7.out BK207.out (by decide))) (fun _ h_ => h_.1))) (Kd.R_typed (by refine mR ?_; exact (Kd.R_mono (mRf3 (Kd.R_mono HO_6.out (fun k_ hk => (⟨hk, hk.2⟩ : _ ∧ k_ ≠ gb207)))) (fun _ h_ => h_.1)))) (by decide) hg); replace BK207 := mS (blk_grown (g := gb207) (o := .cells #[.string ((x10_1.extract 0 (t196 : Int).toNat) ++ t199), .string t203, .bool ((rd t191 t200) == 1)] 87 (0, 0)) (by refine mK ?_; refine blk_put (cs := #[.string ((x10_1.extract 0 (t196 : Int).toNat) ++ t199), .string t203, .bool false]) ?_ 2 _ rfl; refine mK ?_; refine blk_put (cs := #[.string ((x10_1.extract 0 (t196 : Int).toNat) ++ t199), .string (⟨#[]⟩ : ByteArray), .bool false]) ?_ 1 _ rfl; refine mK ?_; refine blk_put (cs := #[.string (⟨#[]⟩ : ByteArray), .string (⟨#[]⟩ : ByteArray), .bool false]) ?_ 0 _ rfl; refine mK ?_; exact BK207.out) hg (Kd.R_away HO_6.out (fun _ hk => hk.2))); replace HB := mS (hb); have HO210 := mS (ho); clear HO_6; clear ho hb hg hat; obtain ⟨hcz35_0, hcz35_1, hcz35_2, hfz35_0, hfz35_1, hfz35_2⟩ := mZ3 BK207.out))
               go_roundg kj10
               case measure => have := HK1.out; have := HJ10.out; omega
               case rel => exact ⟨(y208), ((x10_1.extract 0 (t196 : Int).toNat) ++ t199), (t204), mE, mE, H', ⟨by have := HK1.out; have := HJ10.out; omega⟩, ⟨by refine mR ?_; exact Kd.R_mono HO210.out (fun _ hk => trivial)⟩, ⟨mR HO_7.out⟩, ⟨(mH1 HB.out GE207.out)⟩⟩
              ·rw [if_neg c27] at H
               exact absurd H (by simp)
             ·rw [if_neg c26] at H
              exact absurd H (by simp)
            ·rw [if_neg c25] at H
             exact absurd H (by simp)
           ·rw [if_neg c24] at H
            exact absurd H (by simp)
          ·rw [if_neg c23] at H
           exact absurd H (by simp)
         ·rw [if_neg c22] at H
          exact absurd H (by simp)
        ·replace c21 := Bool.eq_false_iff.mpr c21
         subst c21
         have H1 := H
         rw [if_neg (show ¬ (false = true) by decide)] at H1
         clear H
         have H := H1
         clear H1
         simp only [Option.some.injEq, Prod.mk.injEq] at H
         obtain ⟨rfl, rfl⟩ := H
         go_wp2_with (first | ((with_reducible refine gate_callee (f := 72) rfl ?_); refine mGo 81 Try.func72 #[.slice Ao12 t191.length co12, .int .i64 (wrap64 (t200 + 1))] ?_; (with_reducible refine (spec_GetText.calls kj10 _ _ t191 (wrap64 (t200 + 1)) t203 t204 false _ ?side1 ?side2 A20.out).mono ?_); (case side1 => exact mC (Kd.R_reads' HO_7.out).2.2); (case side2 => exact (Kd.R_reads' HO_7.out).2.1); rintro e w' ⟨rfl, ⟨nd, rfl⟩⟩; refine ⟨_, rfl, ?_⟩))
         go_ret2
         exact ⟨_, mEw, mR HO_6.out, (mH HB.out)⟩
    ·rw [if_neg c8] at H
     have c8b0 := decide_eq_false c8
     clear c8
     simp only [Option.some.injEq, Prod.mk.injEq] at H
     obtain ⟨rfl, rfl⟩ := H
     obtain ⟨Ao36, co36, eo36⟩ := Kd.R_slice HO_7.out
     subst eo36
     go_wp2
     go_ret2
     exact ⟨_, mEw, mR HO_6.out, (mH HB.out)⟩
 ·replace c4 := Bool.eq_false_iff.mpr c4
  subst c4
  have H1 := H
  rw [if_neg (show ¬ (false = true) by decide)] at H1
  clear H
  have H := H1
  clear H1
  simp only [Option.some.injEq, Prod.mk.injEq] at H
  obtain ⟨rfl, rfl⟩ := H
  go_enter Try.func42, Try.ntmps42
  go_wp2_with (first | ((with_reducible refine gate_dst (N := 22) rfl ?_); (try (refine gate_guard (by rfl) ?_; dsimp only)); refine Kd.R_lit k87 _ 87 ?hg (N := 22) ?hd (xs := ([] : List (S87))) (inner := []) (ok := fun _ => True) (okp := fun _ => True) ?hr ?hp (fun _ hk => hk) trivial (Below.refl _ _) (Nat.le_refl _) (by simp) ?_; (case hd => rfl); (case hg => rfl); (case hr => first | (go_simp; done) | (go_simp; rfl)); (case hp => exact (Reps.none _ _)); intro v189 w37 ho38 hb hg_ hnew_; clear hg_ hnew_; (first | rw [← Ny188.out] at ho38 | (simp only [Int.reduceToNat] at ho38; rw [← Ny188.out] at ho38)); have HO190 := mS (Kd.R_lower ho38 (below_size (mH HB.out))); replace HB := mS (below_step (mH HB.out) hb); clear hb ho38) | ((with_reducible refine gate_callee (f := 7) rfl ?_); refine mGo 26 Try.func7 #[.slice A0 l0.length c0, .int .i64 a1] ?_; (with_reducible refine (spec_Unframe.calls k _ _ l0 a1 t191 t192 false _ ?side1 ?side2 A3.out).mono ?_); (case side1 => exact mC (Kd.C_below HR0.out HB.out)); (case side2 => exact HC0.out); rintro e w39 ⟨v194, rfl, ho0, hb⟩; refine ⟨_, rfl, ?_⟩; replace HO190 := mS (Kd.R_below (mR HO190.out) hb); have HO195 := mS (Kd.R_lower ho0 (below_size (mH HB.out))); replace HB := mS (below_step (mH HB.out) hb); (try clear hb); (try clear ho0)))
  go_ret2
  exact ⟨_, mEw, mR HO190.out, (mH HB.out)⟩

/-! ### spec_l5Same: function 43 -/
def spec_l5Same.l0 : Nat → List Int → List Int → Int → Option (Bool)
 | 0, _, _, _ => none
 | k + 1, x0, x1, x5 => if x5 < (x0.length : Int) then (if 0 ≤ x5 then (if x5 < (x1.length : Int) then (if (rd x0 x5) = (rd x1 x5) then (spec_l5Same.l0 k x0 x1 (wrap64 (x5 + 1))) else (some false)) else (none)) else (none)) else (some true)
def spec_l5Same.f (k : Nat) (l0 : List Int) (l1 : List Int) : Option (Bool) := if (l0.length : Int) = (l1.length : Int) then (spec_l5Same.l0 k l0 l1 0) else (some false)
theorem spec_l5Same.mono_l : ∀ k, (∀ y0 y1 y2, LeO (spec_l5Same.l0 k y0 y1 y2) (spec_l5Same.l0 (k + 1) y0 y1 y2))
 | 0 => fun _ _ _ r h => by simp [spec_l5Same.l0] at h
 | k + 1 => by
  have ih0 := spec_l5Same.mono_l k
  ·intro y0 y1 y2
   unfold spec_l5Same.l0
   repeat' first
   | (with_reducible exact ih0 _ _ _)
   | (with_reducible exact LeO.refl _)
   | (with_reducible exact LeO.none _)
   | (with_reducible refine LeO.ite ?_ ?_)
   | (with_reducible refine LeO.bind ?_ (fun _ => ?_))
   | exact ih0 _ _ _
   | exact LeO.none _
   | refine LeO.ite ?_ ?_
   | refine LeO.bind ?_ (fun _ => ?_)
theorem spec_l5Same.mono : ∀ a0 a1 k, LeO (spec_l5Same.f k a0 a1) (spec_l5Same.f (k + 1) a0 a1) := by
 intro a0 a1 k
 have ih0 := spec_l5Same.mono_l k
 unfold spec_l5Same.f
 repeat' first
   | (with_reducible exact ih0 _ _ _)
   | (with_reducible exact LeO.refl _)
   | (with_reducible exact LeO.none _)
   | (with_reducible refine LeO.ite ?_ ?_)
   | (with_reducible refine LeO.bind ?_ (fun _ => ?_))
   | exact ih0 _ _ _
   | exact LeO.none _
   | refine LeO.ite ?_ ?_
   | refine LeO.bind ?_ (fun _ => ?_)
set_option maxHeartbeats 8000000 in
set_option maxRecDepth 100000 in
theorem spec_l5Same.calls (k : Nat) (A0 : Option Addr) (c0 : Nat) (l0 : List Int) (A1 : Option Addr) (c1 : Nat) (l1 : List Int) (r : Bool) (w : World) (hr0 : Kd.C (Kd.int .u8) w A0 l0.length l0) (hc0 : l0.length ≤ c0) (hr1 : Kd.C (Kd.int .u8) w A1 l1.length l1) (hc1 : l1.length ≤ c1) (h : spec_l5Same.f k l0 l1 = some r) :
  Calls Try.prog 43 #[.slice A0 l0.length c0, .slice A1 l1.length c1] w fun e w' => e = .returned (.bool r) ∧ Drawn0 w w' := by
 have HR0 := mS hr0
 have HC0 := mS hc0
 clear hr0 hc0
 have HR1 := mS hr1
 have HC1 := mS hc1
 clear hr1 hc1
 have H : (if (l0.length : Int) = (l1.length : Int) then (spec_l5Same.l0 k l0 l1 0) else (some false)) = some r := h
 clear h
 by_cases c3 : (l0.length : Int) = (l1.length : Int)
 ·rw [if_pos c3] at H
  have c3b0 : ((l0.length : Int) == (l1.length : Int)) = true := beq_iff_eq.mpr c3
  have c3b1 : ((l0.length : Int) != (l1.length : Int)) = false := bne_eq_false_iff_eq.mpr c3
  have c3b2 : (l0.length == l1.length) = true := by first | simpa using c3 | (simp at c3 ⊢; omega)
  clear c3
  have H' := mS H
  clear H
  go_enter Try.func43, Try.ntmps43
  go_wp2
  repeat (go_quiet (fail); try go_wp2)
  go_loopg [5] k (fun kq v5 w' => ∃ (x5_1 : Int), v5 = .int .i64 x5_1 ∧ Aside0 (spec_l5Same.l0 kq l0 l1 x5_1 = some r) ∧ Aside0 (kq ≤ k) ∧ Drawn0 w w')
  case atStart => exact ⟨(0), mE, H', ⟨Nat.le_refl _⟩, by repeat (first | exact Drawn0.refl _ | apply Drawn0.step)⟩
  case round =>
   clear H'
   try clear c1
   try clear p2
   try clear c3
   try clear c3b0
   try clear c3b1
   try clear c3b2
   obtain ⟨x5_1, rfl, HA, HK1, ⟨m1, rfl⟩⟩ := hrel
   cases gk with
   | zero => exact absurd HA.out (by simp [spec_l5Same.l0])
   | succ k1 =>
    have H := HA.out
    clear HA
    simp only [spec_l5Same.l0] at H
    by_cases c4 : x5_1 < (l0.length : Int)
    ·rw [if_pos c4] at H
     have c4b0 := decide_eq_true c4
     clear c4
     by_cases c5 : 0 ≤ x5_1
     ·rw [if_pos c5] at H
      have c5b0 := decide_eq_true c5
      clear c5
      by_cases c6 : x5_1 < (l1.length : Int)
      ·rw [if_pos c6] at H
       have c6b0 := decide_eq_true c6
       clear c6
       by_cases c7 : (rd l0 x5_1) = (rd l1 x5_1)
       ·rw [if_pos c7] at H
        have c7b0 : ((rd l0 x5_1) == (rd l1 x5_1)) = true := beq_iff_eq.mpr c7
        have c7b1 : ((rd l0 x5_1) != (rd l1 x5_1)) = false := bne_eq_false_iff_eq.mpr c7
        clear c7
        have H' := mS H
        clear H
        have p211 : 0 ≤ (x5_1 : Int) := mD
        have q211 : x5_1 < (l0.length : Int) := mD
        obtain ⟨ad211, e211, hx211_0⟩ := Kd.at_int HR0.out x5_1 p211 q211
        cases e211
        replace p211 := eq_true p211
        replace q211 := eq_true q211
        have p212 : 0 ≤ (x5_1 : Int) := mD
        have q212 : x5_1 < (l1.length : Int) := mD
        obtain ⟨ad212, e212, hx212_0⟩ := Kd.at_int HR1.out x5_1 p212 q212
        cases e212
        replace p212 := eq_true p212
        replace q212 := eq_true q212
        go_wp2
        repeat (go_quiet (fail); try go_wp2)
        go_roundg k1
        case measure => have := HK1.out; omega
        case rel => exact ⟨(wrap64 (x5_1 + 1)), mE, H', ⟨by have := HK1.out; omega⟩, by repeat (first | exact Drawn0.refl _ | apply Drawn0.step)⟩
       ·rw [if_neg c7] at H
        have c7b0 : ((rd l0 x5_1) == (rd l1 x5_1)) = false := beq_eq_false_iff_ne.mpr c7
        have c7b1 : ((rd l0 x5_1) != (rd l1 x5_1)) = true := bne_iff_ne.mpr c7
        obtain rfl := Option.some.inj H
        have p211 : 0 ≤ (x5_1 : Int) := mD
        have q211 : x5_1 < (l0.length : Int) := mD
        obtain ⟨ad211, e211, hx211_0⟩ := Kd.at_int HR0.out x5_1 p211 q211
        cases e211
        replace p211 := eq_true p211
        replace q211 := eq_true q211
        have p212 : 0 ≤ (x5_1 : Int) := mD
        have q212 : x5_1 < (l1.length : Int) := mD
        obtain ⟨ad212, e212, hx212_0⟩ := Kd.at_int HR1.out x5_1 p212 q212
        cases e212
        replace p212 := eq_true p212
        replace q212 := eq_true q212
        go_wp2
        repeat (go_quiet (fail); try go_wp2)
        go_ret
        exact ⟨mE, by repeat (first | exact Drawn0.refl _ | apply Drawn0.step)⟩
      ·rw [if_neg c6] at H
       exact absurd H (by simp)
     ·rw [if_neg c5] at H
      exact absurd H (by simp)
    ·rw [if_neg c4] at H
     have c4b0 := decide_eq_false c4
     clear c4
     obtain rfl := Option.some.inj H
     go_wp2
     repeat (go_quiet (fail); try go_wp2)
     go_ret
     exact ⟨mE, by repeat (first | exact Drawn0.refl _ | apply Drawn0.step)⟩
 ·rw [if_neg c3] at H
  have c3b0 : ((l0.length : Int) == (l1.length : Int)) = false := beq_eq_false_iff_ne.mpr c3
  have c3b1 : ((l0.length : Int) != (l1.length : Int)) = true := bne_iff_ne.mpr c3
  have c3b2 : (l0.length == l1.length) = false := by first | simpa using c3 | (simp at c3 ⊢; omega)
  obtain rfl := Option.some.inj H
  go_enter Try.func43, Try.ntmps43
  go_wp2
  repeat (go_quiet (fail); try go_wp2)
  go_ret
  exact ⟨mE, by repeat (first | exact Drawn0.refl _ | apply Drawn0.step)⟩

/-! ### spec_l1In: function 74 -/
def spec_l1In.f (a0 : Int) (a1 : Int) (a2 : Int) : Option (Bool) := if a0 ≥ a1 then (some (decide (a0 ≤ a2))) else (some false)
set_option maxHeartbeats 8000000 in
set_option maxRecDepth 100000 in
theorem spec_l1In.calls (a0 : Int) (a1 : Int) (a2 : Int) (r : Bool) (w : World) (h : spec_l1In.f a0 a1 a2 = some r) :
  Calls Try.prog 74 #[.int .i64 a0, .int .i64 a1, .int .i64 a2] w fun e w' => e = .returned (.bool r) ∧ Drawn0 w w' := by
 have H : (if a0 ≥ a1 then (some (decide (a0 ≤ a2))) else (some false)) = some r := h
 clear h
 by_cases c4 : a0 ≥ a1
 ·rw [if_pos c4] at H
  have c4b0 : decide (a1 ≤ a0) = true := decide_eq_true c4
  clear c4
  obtain rfl := Option.some.inj H
  go_enter Try.func74, Try.ntmps74
  go_wp2
  go_ret
  exact ⟨mE, by repeat (first | exact Drawn0.refl _ | apply Drawn0.step)⟩
 ·rw [if_neg c4] at H
  have c4b0 : decide (a1 ≤ a0) = false := decide_eq_false c4
  clear c4
  obtain rfl := Option.some.inj H
  go_enter Try.func74, Try.ntmps74
  go_wp2
  go_ret
  exact ⟨mE, by repeat (first | exact Drawn0.refl _ | apply Drawn0.step)⟩

/-! ### spec_PairOk: function 95 -/
def spec_PairOk.f (a0_0 : ByteArray) (a0_1 : ByteArray) (a0_2 : Bool) : Option (Bool) := (spec_l1In.f (a0_0.size : Int) 1 20).bind fun t214 => (if t214 = true then (if (a0_1.size : Int) ≤ 20 then (if a0_2 = true then (some (a0_1.toList == ([] : List UInt8))) else (some true)) else (some false)) else (some false))
set_option maxHeartbeats 8000000 in
set_option maxRecDepth 100000 in
theorem spec_PairOk.calls (a0_0 : ByteArray) (a0_1 : ByteArray) (a0_2 : Bool) (r : Bool) (w : World) (h : spec_PairOk.f a0_0 a0_1 a0_2 = some r) :
  Calls Try.prog 95 #[.agg #[.string a0_0, .string a0_1, .bool a0_2]] w fun e w' => e = .returned (.bool r) ∧ Below w.heap.size w w' := by
 have hu87 := Try.underlying87
 have HB := mS (Below.refl w.heap.size w)
 have H : ((spec_l1In.f (a0_0.size : Int) 1 20).bind fun t214 => (if t214 = true then (if (a0_1.size : Int) ≤ 20 then (if a0_2 = true then (some (a0_1.toList == ([] : List UInt8))) else (some true)) else (some false)) else (some false))) = some r := h
 clear h
 replace H := Option.bind_eq_some_iff.mp H
 obtain ⟨t214, A20, H⟩ := H
 replace H : (if t214 = true then (if (a0_1.size : Int) ≤ 20 then (if a0_2 = true then (some (a0_1.toList == ([] : List UInt8))) else (some true)) else (some false)) else (some false)) = some r := H
 have A2 := mS A20
 clear A20
 by_cases c3 : t214 = true
 ·subst c3
  have H1 := H
  rw [if_pos rfl] at H1
  clear H
  have H := H1
  clear H1
  by_cases c4 : (a0_1.size : Int) ≤ 20
  ·rw [if_pos c4] at H
   have c4b0 := decide_eq_true c4
   have c4b1 : decide (a0_1.size ≤ 20) = true := decide_eq_true (by omega)
   clear c4
   by_cases c5 : a0_2 = true
   ·subst c5
    have H1 := H
    rw [if_pos rfl] at H1
    clear H
    have H := H1
    clear H1
    obtain rfl := Option.some.inj H
    go_enter Try.func95, Try.ntmps95
    go_wp2_with (first | ((with_reducible refine gate_dst (N := 1) rfl ?_); (try (refine gate_guard (by rfl) ?_; dsimp only)); refine mBx 1 #[.string a0_0, .string a0_1, .bool true] 87 ?_; intro gb213 hg w6 hbox hb; have BK213 := mS (hbox); have GW213 := mG hg (mH HB.out); have GE213 := mG hg (mH HB.out); replace HB := mS (below_step (mH HB.out) hb); clear hb hbox hg; obtain ⟨hcz7_0, hcz7_1, hcz7_2, hfz7_0, hfz7_1, hfz7_2⟩ := mZ3 BK213.out) | ((with_reducible refine gate_callee (f := 74) rfl ?_); refine mGo 6 Try.func74 #[.int .i64 (a0_0.size : Int), .int .i64 1, .int .i64 20] ?_; (with_reducible refine (spec_l1In.calls (a0_0.size : Int) 1 20 true _ A2.out).mono ?_); rintro e w' ⟨rfl, ⟨nd, rfl⟩⟩; refine ⟨_, rfl, ?_⟩))
    go_ret
    exact ⟨mEw, (mH1 HB.out GE213.out)⟩
   ·replace c5 := Bool.eq_false_iff.mpr c5
    subst c5
    have H1 := H
    rw [if_neg (show ¬ (false = true) by decide)] at H1
    clear H
    have H := H1
    clear H1
    obtain rfl := Option.some.inj H
    go_enter Try.func95, Try.ntmps95
    go_wp2_with (first | ((with_reducible refine gate_dst (N := 1) rfl ?_); (try (refine gate_guard (by rfl) ?_; dsimp only)); refine mBx 1 #[.string a0_0, .string a0_1, .bool false] 87 ?_; intro gb213 hg w8 hbox hb; have BK213 := mS (hbox); have GW213 := mG hg (mH HB.out); have GE213 := mG hg (mH HB.out); replace HB := mS (below_step (mH HB.out) hb); clear hb hbox hg; obtain ⟨hcz9_0, hcz9_1, hcz9_2, hfz9_0, hfz9_1, hfz9_2⟩ := mZ3 BK213.out) | ((with_reducible refine gate_callee (f := 74) rfl ?_); refine mGo 6 Try.func74 #[.int .i64 (a0_0.size : Int), .int .i64 1, .int .i64 20] ?_; (with_reducible refine (spec_l1In.calls (a0_0.size : Int) 1 20 true _ A2.out).mono ?_); rintro e w' ⟨rfl, ⟨nd, rfl⟩⟩; refine ⟨_, rfl, ?_⟩))
    go_ret
    exact ⟨mEw, (mH1 HB.out GE213.out)⟩
  ·rw [if_neg c4] at H
   have c4b0 := decide_eq_false c4
   have c4b1 : decide (a0_1.size ≤ 20) = false := decide_eq_false (by omega)
   clear c4
   obtain rfl := Option.some.inj H
   go_enter Try.func95, Try.ntmps95
   go_wp2_with (first | ((with_reducible refine gate_dst (N := 1) rfl ?_); (try (refine gate_guard (by rfl) ?_; dsimp only)); refine mBx 1 #[.string a0_0, .string a0_1, .bool a0_2] 87 ?_; intro gb213 hg w10 hbox hb; have BK213 := mS (hbox); have GW213 := mG hg (mH HB.out); have GE213 := mG hg (mH HB.out); replace HB := mS (below_step (mH HB.out) hb); clear hb hbox hg; obtain ⟨hcz11_0, hcz11_1, hcz11_2, hfz11_0, hfz11_1, hfz11_2⟩ := mZ3 BK213.out) | ((with_reducible refine gate_callee (f := 74) rfl ?_); refine mGo 6 Try.func74 #[.int .i64 (a0_0.size : Int), .int .i64 1, .int .i64 20] ?_; (with_reducible refine (spec_l1In.calls (a0_0.size : Int) 1 20 true _ A2.out).mono ?_); rintro e w' ⟨rfl, ⟨nd, rfl⟩⟩; refine ⟨_, rfl, ?_⟩))
   go_ret
   exact ⟨mEw, (mH1 HB.out GE213.out)⟩
 ·replace c3 := Bool.eq_false_iff.mpr c3
  subst c3
  have H1 := H
  rw [if_neg (show ¬ (false = true) by decide)] at H1
  clear H
  have H := H1
  clear H1
  obtain rfl := Option.some.inj H
  go_enter Try.func95, Try.ntmps95
  go_wp2_with (first | ((with_reducible refine gate_dst (N := 1) rfl ?_); (try (refine gate_guard (by rfl) ?_; dsimp only)); refine mBx 1 #[.string a0_0, .string a0_1, .bool a0_2] 87 ?_; intro gb213 hg w12 hbox hb; have BK213 := mS (hbox); have GW213 := mG hg (mH HB.out); have GE213 := mG hg (mH HB.out); replace HB := mS (below_step (mH HB.out) hb); clear hb hbox hg; obtain ⟨hcz13_0, hcz13_1, hcz13_2, hfz13_0, hfz13_1, hfz13_2⟩ := mZ3 BK213.out) | ((with_reducible refine gate_callee (f := 74) rfl ?_); refine mGo 6 Try.func74 #[.int .i64 (a0_0.size : Int), .int .i64 1, .int .i64 20] ?_; (with_reducible refine (spec_l1In.calls (a0_0.size : Int) 1 20 false _ A2.out).mono ?_); rintro e w' ⟨rfl, ⟨nd, rfl⟩⟩; refine ⟨_, rfl, ?_⟩))
  go_ret
  exact ⟨mEw, (mH1 HB.out GE213.out)⟩

end Go.Proofs.Ytecjamgajlpfdaa.MFnExactTablePairs
