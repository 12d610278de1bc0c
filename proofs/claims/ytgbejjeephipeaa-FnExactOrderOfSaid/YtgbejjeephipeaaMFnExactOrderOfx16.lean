-- Written by mp.py, this session's own printer (wip/mp.py).
import Derived.Test.YtgbejjeephipeaaVMShort
import Derived.Test.YtgbejjeephipeaaMFnExactOrderOfx0
import Derived.Test.YtgbejjeephipeaaMFnExactOrderOfx14
namespace Go.Proofs.Ytgbejjeephipeaa.MFnExactOrderOf
open Go.RowKit Go.Proofs.YtgbejjeephipeaaW.PrintWords Go.Proofs.YtgbejjeephipeaaW.PrintLast Go.Proofs.YtgbejjeephipeaaW.PrintMore Go.Proofs.Ytgbejjeephipeaa.MWords
attribute [local go_sem] max2_int min2_int max_two min_two max_three min_three max_four min_four   -- for this text's walks alone
set_option linter.unusedVariables false
set_option linter.unusedSimpArgs false

/-! ### spec_l8Ready: function 84 -/
mutual
def spec_l8Ready.l0 : Nat → List (List Bool) → List Bool → Int → Int → List (S33) → Option (Bool)
 | 0, _, _, _, _, _ => none
 | k + 1, x1, x2, x3, x9, x344000 => if x9 < (x2.length : Int) then (if x9 = x3 then (spec_l8Ready.j1 k x1 x2 x3 x9 false x344000) else (if 0 ≤ x3 then (if x3 < (x1.length : Int) then (if 0 ≤ x9 then (if x9 < ((rd_L10 x1 x3).length : Int) then (if rdOf false (rd_L10 x1 x3) x9 = true then (if x9 < (x1.length : Int) then (if x3 < ((rd_L10 x1 x9).length : Int) then (spec_l8Ready.j1 k x1 x2 x3 x9 (!(rdOf false (rd_L10 x1 x9) x3)) x344000) else (none)) else (none)) else (spec_l8Ready.j1 k x1 x2 x3 x9 (!false) x344000)) else (none)) else (none)) else (none)) else (none))) else (some true)
def spec_l8Ready.j1 : Nat → List (List Bool) → List Bool → Int → Int → Bool → List (S33) → Option (Bool)
 | 0, _, _, _, _, _, _ => none
 | k + 1, x1, x2, x3, x9, x40, x344000 => if x40 = true then (spec_l8Ready.l0 k x1 x2 x3 (wrap64 (x9 + 1)) x344000) else (if 0 ≤ x9 then (if x9 < (x344000.length : Int) then (spec_l8Ready.l1 k x1 x2 x3 x9 ((rd_T33 x344000 x9).f1) 0 x344000) else (none)) else (none))
def spec_l8Ready.l1 : Nat → List (List Bool) → List Bool → Int → Int → List (S31) → Int → List (S33) → Option (Bool)
 | 0, _, _, _, _, _, _, _ => none
 | k + 1, x1, x2, x3, x9, x10, x11, x344000 => if x11 < (x10.length : Int) then (if 0 ≤ x11 then ((spec_l8At.f k x344000 ((rd_T31 x10 x11).f0) ((rd_T31 x10 x11).f1)).bind fun t350 => (if 0 ≤ t350 then (if t350 < (x2.length : Int) then (if rdOf false x2 t350 = true then (spec_l8Ready.j3 k x1 x2 x3 x9 x10 x11 false x344000) else (if t350 = x3 then (spec_l8Ready.j3 k x1 x2 x3 x9 x10 x11 false x344000) else (if 0 ≤ x3 then (if x3 < (x1.length : Int) then (if t350 < ((rd_L10 x1 x3).length : Int) then (if rdOf false (rd_L10 x1 x3) t350 = true then (if t350 < (x1.length : Int) then (if x3 < ((rd_L10 x1 t350).length : Int) then (spec_l8Ready.j3 k x1 x2 x3 x9 x10 x11 (!(rdOf false (rd_L10 x1 t350) x3)) x344000) else (none)) else (none)) else (spec_l8Ready.j3 k x1 x2 x3 x9 x10 x11 (!false) x344000)) else (none)) else (none)) else (none)))) else (none)) else (none))) else (none)) else (spec_l8Ready.l0 k x1 x2 x3 (wrap64 (x9 + 1)) x344000)
def spec_l8Ready.j3 : Nat → List (List Bool) → List Bool → Int → Int → List (S31) → Int → Bool → List (S33) → Option (Bool)
 | 0, _, _, _, _, _, _, _, _ => none
 | k + 1, x1, x2, x3, x9, x10, x11, x87, x344000 => if x87 = true then (some false) else (spec_l8Ready.l1 k x1 x2 x3 x9 x10 (wrap64 (x11 + 1)) x344000)
end
def spec_l8Ready.f (k : Nat) (l0_0 : List (S33)) (l1 : List (List Bool)) (l2 : List Bool) (a3 : Int) : Option (Bool) := spec_l8Ready.l0 k l1 l2 a3 0 l0_0
theorem spec_l8Ready.mono_l : ∀ k, (∀ y0 y1 y2 y3 y4, LeO (spec_l8Ready.l0 k y0 y1 y2 y3 y4) (spec_l8Ready.l0 (k + 1) y0 y1 y2 y3 y4)) ∧ (∀ y0 y1 y2 y3 y4 y5, LeO (spec_l8Ready.j1 k y0 y1 y2 y3 y4 y5) (spec_l8Ready.j1 (k + 1) y0 y1 y2 y3 y4 y5)) ∧ (∀ y0 y1 y2 y3 y4 y5 y6, LeO (spec_l8Ready.l1 k y0 y1 y2 y3 y4 y5 y6) (spec_l8Ready.l1 (k + 1) y0 y1 y2 y3 y4 y5 y6)) ∧ (∀ y0 y1 y2 y3 y4 y5 y6 y7, LeO (spec_l8Ready.j3 k y0 y1 y2 y3 y4 y5 y6 y7) (spec_l8Ready.j3 (k + 1) y0 y1 y2 y3 y4 y5 y6 y7))
 | 0 => ⟨fun _ _ _ _ _ r h => by simp [spec_l8Ready.l0] at h, fun _ _ _ _ _ _ r h => by simp [spec_l8Ready.j1] at h, fun _ _ _ _ _ _ _ r h => by simp [spec_l8Ready.l1] at h, fun _ _ _ _ _ _ _ _ r h => by simp [spec_l8Ready.j3] at h⟩
 | k + 1 => by
  obtain ⟨ih0, ih1, ih2, ih3⟩ := spec_l8Ready.mono_l k
  refine ⟨?_, ?_, ?_, ?_⟩
  ·intro y0 y1 y2 y3 y4
   unfold spec_l8Ready.l0
   repeat' first
   | (with_reducible exact ih0 _ _ _ _ _)
   | (with_reducible exact ih1 _ _ _ _ _ _)
   | (with_reducible exact ih2 _ _ _ _ _ _ _)
   | (with_reducible exact ih3 _ _ _ _ _ _ _ _)
   | (with_reducible exact spec_l8At.mono _ _ _ _)
   | (with_reducible exact LeO.refl _)
   | (with_reducible exact LeO.none _)
   | (with_reducible refine LeO.ite ?_ ?_)
   | (with_reducible refine LeO.bind ?_ (fun _ => ?_))
   | exact ih0 _ _ _ _ _
   | exact ih1 _ _ _ _ _ _
   | exact ih2 _ _ _ _ _ _ _
   | exact ih3 _ _ _ _ _ _ _ _
   | exact spec_l8At.mono _ _ _ _
   | exact LeO.none _
   | refine LeO.ite ?_ ?_
   | refine LeO.bind ?_ (fun _ => ?_)
  ·intro y0 y1 y2 y3 y4 y5
   unfold spec_l8Ready.j1
   repeat' first
   | (with_reducible exact ih0 _ _ _ _ _)
   | (with_reducible exact ih1 _ _ _ _ _ _)
   | (with_reducible exact ih2 _ _ _ _ _ _ _)
   | (with_reducible exact ih3 _ _ _ _ _ _ _ _)
   | (with_reducible exact spec_l8At.mono _ _ _ _)
   | (with_reducible exact LeO.refl _)
   | (with_reducible exact LeO.none _)
   | (with_reducible refine LeO.ite ?_ ?_)
   | (with_reducible refine LeO.bind ?_ (fun _ => ?_))
   | exact ih0 _ _ _ _ _
   | exact ih1 _ _ _ _ _ _
   | exact ih2 _ _ _ _ _ _ _
   | exact ih3 _ _ _ _ _ _ _ _
   | exact spec_l8At.mono _ _ _ _
   | exact LeO.none _
   | refine LeO.ite ?_ ?_
   | refine LeO.bind ?_ (fun _ => ?_)
  ·intro y0 y1 y2 y3 y4 y5 y6
   unfold spec_l8Ready.l1
   repeat' first
   | (with_reducible exact ih0 _ _ _ _ _)
   | (with_reducible exact ih1 _ _ _ _ _ _)
   | (with_reducible exact ih2 _ _ _ _ _ _ _)
   | (with_reducible exact ih3 _ _ _ _ _ _ _ _)
   | (with_reducible exact spec_l8At.mono _ _ _ _)
   | (with_reducible exact LeO.refl _)
   | (with_reducible exact LeO.none _)
   | (with_reducible refine LeO.ite ?_ ?_)
   | (with_reducible refine LeO.bind ?_ (fun _ => ?_))
   | exact ih0 _ _ _ _ _
   | exact ih1 _ _ _ _ _ _
   | exact ih2 _ _ _ _ _ _ _
   | exact ih3 _ _ _ _ _ _ _ _
   | exact spec_l8At.mono _ _ _ _
   | exact LeO.none _
   | refine LeO.ite ?_ ?_
   | refine LeO.bind ?_ (fun _ => ?_)
  ·intro y0 y1 y2 y3 y4 y5 y6 y7
   unfold spec_l8Ready.j3
   repeat' first
   | (with_reducible exact ih0 _ _ _ _ _)
   | (with_reducible exact ih1 _ _ _ _ _ _)
   | (with_reducible exact ih2 _ _ _ _ _ _ _)
   | (with_reducible exact ih3 _ _ _ _ _ _ _ _)
   | (with_reducible exact spec_l8At.mono _ _ _ _)
   | (with_reducible exact LeO.refl _)
   | (with_reducible exact LeO.none _)
   | (with_reducible refine LeO.ite ?_ ?_)
   | (with_reducible refine LeO.bind ?_ (fun _ => ?_))
   | exact ih0 _ _ _ _ _
   | exact ih1 _ _ _ _ _ _
   | exact ih2 _ _ _ _ _ _ _
   | exact ih3 _ _ _ _ _ _ _ _
   | exact spec_l8At.mono _ _ _ _
   | exact LeO.none _
   | refine LeO.ite ?_ ?_
   | refine LeO.bind ?_ (fun _ => ?_)
theorem spec_l8Ready.mono : ∀ a0 a1 a2 a3 k, LeO (spec_l8Ready.f k a0 a1 a2 a3) (spec_l8Ready.f (k + 1) a0 a1 a2 a3) := by
 intro a0 a1 a2 a3 k
 obtain ⟨ih0, ih1, ih2, ih3⟩ := spec_l8Ready.mono_l k
 unfold spec_l8Ready.f
 repeat' first
   | (with_reducible exact ih0 _ _ _ _ _)
   | (with_reducible exact ih1 _ _ _ _ _ _)
   | (with_reducible exact ih2 _ _ _ _ _ _ _)
   | (with_reducible exact ih3 _ _ _ _ _ _ _ _)
   | (with_reducible exact spec_l8At.mono _ _ _ _)
   | (with_reducible exact LeO.refl _)
   | (with_reducible exact LeO.none _)
   | (with_reducible refine LeO.ite ?_ ?_)
   | (with_reducible refine LeO.bind ?_ (fun _ => ?_))
   | exact ih0 _ _ _ _ _
   | exact ih1 _ _ _ _ _ _
   | exact ih2 _ _ _ _ _ _ _
   | exact ih3 _ _ _ _ _ _ _ _
   | exact spec_l8At.mono _ _ _ _
   | exact LeO.none _
   | refine LeO.ite ?_ ?_
   | refine LeO.bind ?_ (fun _ => ?_)
set_option maxHeartbeats 8000000 in
set_option maxRecDepth 100000 in
theorem spec_l8Ready.calls (k : Nat) (A0_0 : Option Addr) (c0_0 : Nat) (l0_0 : List (S33)) (A1 : Option Addr) (c1 : Nat) (l1 : List (List Bool)) (A2 : Option Addr) (c2 : Nat) (l2 : List Bool) (a3 : Int) (r : Bool) (w : World) (hr0_0 : Kd.C k33 w A0_0 l0_0.length l0_0) (hc0_0 : l0_0.length ≤ c0_0) (hr1 : Kd.C (Kd.slice 4 Kd.bool) w A1 l1.length l1) (hc1 : l1.length ≤ c1) (hr2 : Kd.C Kd.bool w A2 l2.length l2) (hc2 : l2.length ≤ c2) (h : spec_l8Ready.f k l0_0 l1 l2 a3 = some r) :
  Calls Try.prog 84 #[.agg #[.slice A0_0 l0_0.length c0_0], .slice A1 l1.length c1, .slice A2 l2.length c2, .int .i64 a3] w fun e w' => e = .returned (.bool r) ∧ Below w.heap.size w w' := by
 have hu26 := Try.underlying26
 have hu31 := Try.underlying31
 have HR0_0 := mS hr0_0
 have HC0_0 := mS hc0_0
 clear hr0_0 hc0_0
 have HR1 := mS hr1
 have HC1 := mS hc1
 clear hr1 hc1
 have HR2 := mS hr2
 have HC2 := mS hc2
 clear hr2 hc2
 have HB := mS (Below.refl w.heap.size w)
 have H : (spec_l8Ready.l0 k l1 l2 a3 0 l0_0) = some r := h
 clear h
 have H' := mS H
 clear H
 go_enter Try.func84, Try.ntmps84
 go_wp2_with (first | ((with_reducible refine gate_dst (N := 4) rfl ?_); refine mBx 4 #[.slice A0_0 l0_0.length c0_0] 26 ?_; intro gb343 hg w5 hbox hb; have BK343 := mS (hbox); have GW343 := mG hg (mH HB.out); have GE343 := mG hg (mH HB.out); replace HB := mS (below_step (mH HB.out) hb); clear hb hbox hg))
 go_loopg [9] k (fun kq v9 w' => ∃ (x9_1 : Int), v9 = .int .i64 x9_1 ∧ Aside0 (spec_l8Ready.l0 kq l1 l2 a3 x9_1 l0_0 = some r) ∧ Aside0 (kq ≤ k) ∧ Aside0 (w'.heap[gb343]? = some (.cells #[(.slice A0_0 l0_0.length c0_0)] 26 (0, 0))) ∧ Aside0 (Below w.heap.size w w'))
 case atStart => exact ⟨(0), mE, H', ⟨Nat.le_refl _⟩, ⟨mK BK343.out⟩, ⟨(mH1 HB.out GE343.out)⟩⟩
 case round =>
  clear H'
  try clear c1
  try clear c2
  try clear p2
  obtain ⟨x9_1, rfl, HA, HK1, BK343, HB⟩ := hrel
  cases gk with
  | zero => exact absurd HA.out (by simp [spec_l8Ready.l0])
  | succ k1 =>
   have H := HA.out
   clear HA
   simp only [spec_l8Ready.l0] at H
   by_cases c6 : x9_1 < (l2.length : Int)
   ·rw [if_pos c6] at H
    have c6b0 := decide_eq_true c6
    clear c6
    have HC7 := mS H
    clear H
    go_upto_region 4 with (fail)
    go_cut [40] (fun v40 wc => ∃ (kq : Nat) (x40_6 : Bool), v40 = .bool x40_6 ∧ Aside0 (spec_l8Ready.j1 kq l1 l2 a3 x9_1 x40_6 l0_0 = some r) ∧ Aside0 (kq ≤ k1) ∧ Aside0 (wc.heap[gb343]? = some (.cells #[(.slice A0_0 l0_0.length c0_0)] 26 (0, 0))) ∧ Aside0 (Below w.heap.size w wc))
    case first =>
     have H := HC7.out
     clear HC7
     by_cases c8 : x9_1 = a3
     ·rw [if_pos c8] at H
      have c8b0 : (x9_1 == a3) = true := beq_iff_eq.mpr c8
      have c8b1 : (x9_1 != a3) = false := bne_eq_false_iff_eq.mpr c8
      clear c8
      (first | rw [c8b0] | (simp only [i64_w, i32_w]; rw [c8b0]) | skip)
      have H' := mS H
      clear H
      go_wp2
      go_meet
      case rel => exact ⟨_, (false), mE, H', ⟨by have := HK1.out; first | omega | exact Nat.le_refl _⟩, ⟨mK BK343.out⟩, ⟨(mH1 HB.out GE343.out)⟩⟩
     ·rw [if_neg c8] at H
      have c8b0 : (x9_1 == a3) = false := beq_eq_false_iff_ne.mpr c8
      have c8b1 : (x9_1 != a3) = true := bne_iff_ne.mpr c8
      (first | rw [c8b0] | (simp only [i64_w, i32_w]; rw [c8b0]) | skip)
      by_cases c9 : 0 ≤ a3
      ·rw [if_pos c9] at H
       have c9b0 := decide_eq_true c9
       clear c9
       by_cases c10 : a3 < (l1.length : Int)
       ·rw [if_pos c10] at H
        have c10b0 := decide_eq_true c10
        clear c10
        by_cases c11 : 0 ≤ x9_1
        ·rw [if_pos c11] at H
         have c11b0 := decide_eq_true c11
         clear c11
         by_cases c12 : x9_1 < ((rd_L10 l1 a3).length : Int)
         ·rw [if_pos c12] at H
          have c12b0 := decide_eq_true c12
          clear c12
          obtain ⟨bq13, hbq13⟩ : ∃ b_ : Bool, b_ = (rdOf false (rd_L10 l1 a3) x9_1) := ⟨_, rfl⟩
          replace H : (if bq13 = true then (if x9_1 < (l1.length : Int) then (if a3 < ((rd_L10 l1 x9_1).length : Int) then (spec_l8Ready.j1 k1 l1 l2 a3 x9_1 (!(rdOf false (rd_L10 l1 x9_1) a3)) l0_0) else (none)) else (none)) else (spec_l8Ready.j1 k1 l1 l2 a3 x9_1 (!false) l0_0)) = some r := by rw [← hbq13] at H; exact H
          have Nbq13 := mS hbq13
          clear hbq13
          by_cases c14 : bq13 = true
          ·subst c14
           have H1 := H
           rw [if_pos rfl] at H1
           clear H
           have H := H1
           clear H1
           by_cases c15 : x9_1 < (l1.length : Int)
           ·rw [if_pos c15] at H
            have c15b0 := decide_eq_true c15
            clear c15
            by_cases c16 : a3 < ((rd_L10 l1 x9_1).length : Int)
            ·rw [if_pos c16] at H
             have c16b0 := decide_eq_true c16
             clear c16
             have H' := mS H
             clear H
             have p344 : 0 ≤ (a3 : Int) := mD
             have q344 : a3 < (l1.length : Int) := mD
             obtain ⟨ad344, A344_0, c344_0, e344, hx344_0, hl344_0, hi344_0⟩ := at_L10 HR1.out a3 p344 q344
             cases e344
             replace hx344_0 := mX HB.out hx344_0
             have HR344_0 := mS hi344_0
             have HC344_0 := mS hl344_0
             clear hi344_0 hl344_0
             replace p344 := eq_true p344
             replace q344 := eq_true q344
             have p345 : 0 ≤ (x9_1 : Int) := mD
             have q345 : x9_1 < ((rd_L10 l1 a3).length : Int) := mD
             obtain ⟨ad345, e345, hx345_0⟩ := Kd.at_bool HR344_0.out x9_1 p345 q345
             (try rw [← Nbq13.out] at hx345_0); (try rw [← Nbq13.out] at hw345_0)
             cases e345
             replace hx345_0 := mX HB.out hx345_0
             replace p345 := eq_true p345
             replace q345 := eq_true q345
             have p346 : 0 ≤ (x9_1 : Int) := mD
             have q346 : x9_1 < (l1.length : Int) := mD
             obtain ⟨ad346, A346_0, c346_0, e346, hx346_0, hl346_0, hi346_0⟩ := at_L10 HR1.out x9_1 p346 q346
             obtain rfl : ad344 = ad346 := (by injection e346)
             replace hx346_0 := mX HB.out hx346_0
             have HR346_0 := mS hi346_0
             have HC346_0 := mS hl346_0
             clear hi346_0 hl346_0
             replace p346 := eq_true p346
             replace q346 := eq_true q346
             have p347 : 0 ≤ (a3 : Int) := mD
             have q347 : a3 < ((rd_L10 l1 x9_1).length : Int) := mD
             obtain ⟨ad347, e347, hx347_0⟩ := Kd.at_bool HR346_0.out a3 p347 q347
             (try rw [← Nbq13.out] at hx347_0); (try rw [← Nbq13.out] at hw347_0)
             cases e347
             replace hx347_0 := mX HB.out hx347_0
             replace p347 := eq_true p347
             replace q347 := eq_true q347
             go_wp2
             go_meet
             case rel => exact ⟨_, (!(rdOf false (rd_L10 l1 x9_1) a3)), mE, H', ⟨by have := HK1.out; first | omega | exact Nat.le_refl _⟩, ⟨mK BK343.out⟩, ⟨(mH1 HB.out GE343.out)⟩⟩
            ·rw [if_neg c16] at H
             exact absurd H (by simp)
           ·rw [if_neg c15] at H
            exact absurd H (by simp)
          ·replace c14 := Bool.eq_false_iff.mpr c14
           subst c14
           have H1 := H
           rw [if_neg (show ¬ (false = true) by decide)] at H1
           clear H
           have H := H1
           clear H1
           have H' := mS H
           clear H
           have p344 : 0 ≤ (a3 : Int) := mD
           have q344 : a3 < (l1.length : Int) := mD
           obtain ⟨ad344, A344_0, c344_0, e344, hx344_0, hl344_0, hi344_0⟩ := at_L10 HR1.out a3 p344 q344
           cases e344
           replace hx344_0 := mX HB.out hx344_0
           have HR344_0 := mS hi344_0
           have HC344_0 := mS hl344_0
           clear hi344_0 hl344_0
           replace p344 := eq_true p344
           replace q344 := eq_true q344
           have p345 : 0 ≤ (x9_1 : Int) := mD
           have q345 : x9_1 < ((rd_L10 l1 a3).length : Int) := mD
           obtain ⟨ad345, e345, hx345_0⟩ := Kd.at_bool HR344_0.out x9_1 p345 q345
           (try rw [← Nbq13.out] at hx345_0); (try rw [← Nbq13.out] at hw345_0)
           cases e345
           replace hx345_0 := mX HB.out hx345_0
           replace p345 := eq_true p345
           replace q345 := eq_true q345
           go_wp2
           go_meet
           case rel => exact ⟨_, (!false), mE, H', ⟨by have := HK1.out; first | omega | exact Nat.le_refl _⟩, ⟨mK BK343.out⟩, ⟨(mH1 HB.out GE343.out)⟩⟩
         ·rw [if_neg c12] at H
          exact absurd H (by simp)
        ·rw [if_neg c11] at H
         exact absurd H (by simp)
       ·rw [if_neg c10] at H
        exact absurd H (by simp)
      ·rw [if_neg c9] at H
       exact absurd H (by simp)
    case rest =>
     clear HC7
     try clear c1
     try clear q1
     try clear c2
     try clear p2
     try clear c3
     try clear p3
     try clear q3
     try clear hx3
     try clear c6
     try clear c6b0
     try clear c8
     try clear c8b0
     try clear c8b1
     try clear c9
     try clear c9b0
     try clear c10
     try clear c10b0
     try clear c11
     try clear c11b0
     try clear c12
     try clear c12b0
     try clear q13
     try clear c14
     try clear c15
     try clear c15b0
     try clear c16
     try clear c16b0
     try clear hx344_0
     try clear hx345_0
     try clear hx346_0
     try clear hx347_0
     try clear p2
     try clear p344
     try clear p345
     try clear p346
     try clear p347
     try clear q344
     try clear q345
     try clear q346
     try clear q347
     obtain ⟨kq, x40_6, rfl, HA, HJ6, BK343, HB⟩ := hcut
     cases kq with
     | zero => exact absurd HA.out (by simp [spec_l8Ready.j1])
     | succ kj6 =>
      have H := HA.out
      clear HA
      simp only [spec_l8Ready.j1] at H
      by_cases c17 : x40_6 = true
      ·subst c17
       have H1 := H
       rw [if_pos rfl] at H1
       clear H
       have H := H1
       clear H1
       have H' := mS H
       clear H
       go_wp2
       go_roundg kj6
       case measure => have := HK1.out; have := HJ6.out; omega
       case rel => exact ⟨(wrap64 (x9_1 + 1)), mE, H', ⟨by have := HK1.out; have := HJ6.out; omega⟩, ⟨mK BK343.out⟩, ⟨(mH1 HB.out GE343.out)⟩⟩
      ·replace c17 := Bool.eq_false_iff.mpr c17
       subst c17
       have H1 := H
       rw [if_neg (show ¬ (false = true) by decide)] at H1
       clear H
       have H := H1
       clear H1
       by_cases c18 : 0 ≤ x9_1
       ·rw [if_pos c18] at H
        have c18b0 := decide_eq_true c18
        clear c18
        by_cases c19 : x9_1 < (l0_0.length : Int)
        ·rw [if_pos c19] at H
         have c19b0 := decide_eq_true c19
         clear c19
         have H' := mS H
         clear H
         have hcz20_0 := mZ BK343.out 0
         have hfz20_0 := blk_frozen BK343.out 0
         have p348 : 0 ≤ (x9_1 : Int) := mD
         have q348 : x9_1 < (l0_0.length : Int) := mD
         obtain ⟨ad348, A348_2, c348_2, e348, hx348_0, hx348_1, hx348_2, hl348_2, hi348_2⟩ := at_T33 HR0_0.out x9_1 p348 q348
         cases e348
         replace hx348_0 := mX HB.out hx348_0
         replace hx348_1 := mX HB.out hx348_1
         replace hx348_2 := mX HB.out hx348_2
         have HR348_2 := mS hi348_2
         have HC348_2 := mS hl348_2
         clear hi348_2 hl348_2
         replace p348 := eq_true p348
         replace q348 := eq_true q348
         go_wp2
         go_loopg [11] kj6 (fun kq v11 w' => ∃ (x11_3 : Int), v11 = .int .i64 x11_3 ∧ Aside0 (spec_l8Ready.l1 kq l1 l2 a3 x9_1 ((rd_T33 l0_0 x9_1).f1) x11_3 l0_0 = some r) ∧ Aside0 (kq ≤ kj6) ∧ Aside0 (w'.heap[gb343]? = some (.cells #[(.slice (some ad348) l0_0.length c0_0)] 26 (0, 0))) ∧ Aside0 (Below w.heap.size w w'))
         case atStart => exact ⟨(0), mE, H', ⟨Nat.le_refl _⟩, ⟨mK BK343.out⟩, ⟨(mH1 HB.out GE343.out)⟩⟩
         case round =>
          clear H'
          try clear c1
          try clear q1
          try clear c2
          try clear p2
          try clear c3
          try clear p3
          try clear q3
          try clear hx3
          try clear c6
          try clear c6b0
          try clear p6
          try clear c8
          try clear c8b0
          try clear c8b1
          try clear c9
          try clear c9b0
          try clear c10
          try clear c10b0
          try clear c11
          try clear c11b0
          try clear c12
          try clear c12b0
          try clear q13
          try clear c14
          try clear c15
          try clear c15b0
          try clear c16
          try clear c16b0
          try clear c17
          try clear c18
          try clear c18b0
          try clear c19
          try clear c19b0
          try clear hcz20_0
          try clear hfz20_0
          try clear hx344_0
          try clear hx345_0
          try clear hx346_0
          try clear hx347_0
          try clear hx348_0
          try clear hx348_1
          try clear hx348_2
          try clear p2
          try clear p3
          try clear p344
          try clear p345
          try clear p346
          try clear p347
          try clear p348
          try clear q1
          try clear q13
          try clear q3
          try clear q344
          try clear q345
          try clear q346
          try clear q347
          try clear q348
          obtain ⟨x11_3, rfl, HA, HK3, BK343, HB⟩ := hrel
          cases gk with
          | zero => exact absurd HA.out (by simp [spec_l8Ready.l1])
          | succ k3 =>
           have H := HA.out
           clear HA
           simp only [spec_l8Ready.l1] at H
           by_cases c21 : x11_3 < (((rd_T33 l0_0 x9_1).f1).length : Int)
           ·rw [if_pos c21] at H
            have c21b0 := decide_eq_true c21
            clear c21
            by_cases c22 : 0 ≤ x11_3
            ·rw [if_pos c22] at H
             have c22b0 := decide_eq_true c22
             clear c22
             replace H := Option.bind_eq_some_iff.mp H
             obtain ⟨t350, A230, H⟩ := H
             replace H : (if 0 ≤ t350 then (if t350 < (l2.length : Int) then (if rdOf false l2 t350 = true then (spec_l8Ready.j3 k3 l1 l2 a3 x9_1 ((rd_T33 l0_0 x9_1).f1) x11_3 false l0_0) else (if t350 = a3 then (spec_l8Ready.j3 k3 l1 l2 a3 x9_1 ((rd_T33 l0_0 x9_1).f1) x11_3 false l0_0) else (if 0 ≤ a3 then (if a3 < (l1.length : Int) then (if t350 < ((rd_L10 l1 a3).length : Int) then (if rdOf false (rd_L10 l1 a3) t350 = true then (if t350 < (l1.length : Int) then (if a3 < ((rd_L10 l1 t350).length : Int) then (spec_l8Ready.j3 k3 l1 l2 a3 x9_1 ((rd_T33 l0_0 x9_1).f1) x11_3 (!(rdOf false (rd_L10 l1 t350) a3)) l0_0) else (none)) else (none)) else (spec_l8Ready.j3 k3 l1 l2 a3 x9_1 ((rd_T33 l0_0 x9_1).f1) x11_3 (!false) l0_0)) else (none)) else (none)) else (none)))) else (none)) else (none)) = some r := H
             have A23 := mS A230
             clear A230
             have HC24 := mS H
             clear H
             try go_wp2
             replace BK343 := mS (blk_drew BK343.out)
             replace HB := mS (below_drew1 HB.out)
             have p349 : 0 ≤ (x11_3 : Int) := mD
             have q349 : x11_3 < (((rd_T33 l0_0 x9_1).f1).length : Int) := mD
             obtain ⟨ad349, e349, hx349_0, hx349_1⟩ := at_T31 HR348_2.out x11_3 p349 q349
             have hw349_1 := hx349_1
             have hw349_0 := hx349_0
             cases e349
             replace hx349_0 := mX HB.out hx349_0
             replace hx349_1 := mX HB.out hx349_1
             replace p349 := eq_true p349
             replace q349 := eq_true q349
             refine start_ (n := 7) (S := fun w' => w'.cell? ⟨gb343, 0, none⟩ = some (.slice (some ad348) l0_0.length c0_0) ∧ w'.cell? (ad349.add ((x11_3).toNat * 2)) = some (.int .i64 ((rd_T31 ((rd_T33 l0_0 x9_1).f1) x11_3).f0)) ∧ w'.cell? ⟨(ad349.add ((x11_3).toNat * 2)).block, (ad349.add ((x11_3).toNat * 2)).off + 1, none⟩ = some (.int .i64 ((rd_T31 ((rd_T33 l0_0 x9_1).f1) x11_3).f1))) (ds := []) (mb 0 7) (by kernel_rfl) rfl rfl ⟨mZ BK343.out 0, (mX HB.out hw349_0 :), (mX HB.out hw349_1 :)⟩ (fun hHeld => ?_)
             generalize wr.drew = w25 at BK343 HB hx349_0 hx349_1 hHeld ⊢
             refine pure_ (i := 1) (N := some 54) (v := ?_) (a' := ?_) (mr [0,1,1,5]) rfl rfl (by kernel_rfl) (fun _ _ _ h => h) (Or.inl ⟨by rfl, ?_⟩) ?_ ?_
             rotate_left
             ·intro w'
              go_simp
              with_reducible rfl
             rotate_left
             ·simp only [Act.put, zA, zB, zC, i64_w, i32_w]
              rfl
             refine pure_ (i := 2) (N := some 55) (v := ?_) (a' := ?_) (mr [0,1,2,4]) rfl rfl (by kernel_rfl) (fun _ _ _ h => h) (Or.inl ⟨by rfl, ?_⟩) ?_ ?_
             rotate_left
             ·intro w'
              go_simp
              with_reducible rfl
             rotate_left
             ·simp only [Act.put, zA, zB, zC, i64_w, i32_w]
              rfl
             refine pure_ (i := 3) (N := some 56) (v := ?_) (a' := ?_) (mr [0,1,3,3]) rfl rfl (by kernel_rfl) (fun _ _ _ h => h) (Or.inl ⟨by rfl, ?_⟩) ?_ ?_
             rotate_left
             ·intro w'
              go_simp
              with_reducible rfl
             rotate_left
             ·simp only [Act.put, zA, zB, zC, i64_w, i32_w]
              rfl
             refine take_ (i := 0) (N := some 53) (v := ?_) (a' := ?_) (mb 4 3) rfl rfl (by kernel_rfl) (fun _ _ _ h => h) (Or.inl ⟨by rfl, ?_⟩) hHeld ?_ ?_
             rotate_left
             ·rintro w' ⟨s0, s1, s2⟩
              go_simp
              with_reducible rfl
             rotate_left
             ·simp only [Act.put, zA, zB, zC, i64_w, i32_w]
              rfl
             refine take_ (i := 4) (N := some 57) (v := ?_) (a' := ?_) (mb 5 2) rfl rfl (by kernel_rfl) (fun _ _ _ h => h) (Or.inl ⟨by rfl, ?_⟩) hHeld ?_ ?_
             rotate_left
             ·rintro w' ⟨s0, s1, s2⟩
              go_simp
              with_reducible rfl
             rotate_left
             ·simp only [Act.put, zA, zB, zC, i64_w, i32_w]
              rfl
             refine one_ (i := 5) (N := some 58) (mb 6 1) rfl rfl (by kernel_rfl) (by decide) (fun K hK => ?_)
             refine goes_ Try.func72 (by kernel_rfl) rfl #[.agg #[.slice (some ad348) l0_0.length c0_0], .agg #[.int .i64 ((rd_T31 ((rd_T33 l0_0 x9_1).f1) x11_3).f0), .int .i64 ((rd_T31 ((rd_T33 l0_0 x9_1).f1) x11_3).f1)]] (by rfl) rfl rfl mA ?_
             with_reducible refine (spec_l8At.calls k3 _ _ l0_0 ((rd_T31 ((rd_T33 l0_0 x9_1).f1) x11_3).f0) ((rd_T31 ((rd_T33 l0_0 x9_1).f1) x11_3).f1) t350 _ ?side1 ?side2 A23.out).mono ?_
             (case side1 => exact mC (Kd.C_below HR0_0.out HB.out))
             (case side2 => exact HC0_0.out)
             rintro e w26 ⟨rfl, hb⟩
             refine ⟨_, rfl, ?_⟩
             replace BK343 := mB BK343 hb
             replace HB := mS (below_step (mH1 HB.out GE343.out) hb)
             (try clear hb)
             (try clear hb2)
             (try clear hk)
             (try clear hi)
             refine hK.out _ _ ⟨mZ BK343.out 0, (mX HB.out hw349_0 :), (mX HB.out hw349_1 :)⟩ (fun hHeld => ?_)
             clear hK K
             refine mno 58 ?_
             refine pure_ (i := 6) (N := some 12) (v := ?_) (a' := ?_) (mb 7 0) rfl rfl (by kernel_rfl) (fun _ _ _ h => h) (Or.inl ⟨by rfl, ?_⟩) ?_ ?_
             rotate_left
             ·intro w'
              go_simp
              with_reducible rfl
             rotate_left
             ·simp only [Act.put, zA, zB, zC, i64_w, i32_w]
              rfl
             refine done_ (by kernel_rfl) ?_
             go_upto_region 10 with (fail)
             go_cut [87] (fun v87 wc => ∃ (kq : Nat) (x87_23 : Bool), v87 = .bool x87_23 ∧ Aside0 (spec_l8Ready.j3 kq l1 l2 a3 x9_1 ((rd_T33 l0_0 x9_1).f1) x11_3 x87_23 l0_0 = some r) ∧ Aside0 (kq ≤ k3) ∧ Aside0 (wc.heap[gb343]? = some (.cells #[(.slice (some ad348) l0_0.length c0_0)] 26 (0, 0))) ∧ Aside0 (Below w.heap.size w wc))
             case first =>
              have H := HC24.out
              clear HC24
              by_cases c27 : 0 ≤ t350
              ·rw [if_pos c27] at H
               have c27b0 := decide_eq_true c27
               clear c27
               (first | rw [c27b0] | (simp only [i64_w, i32_w]; rw [c27b0]) | skip)
               by_cases c28 : t350 < (l2.length : Int)
               ·rw [if_pos c28] at H
                have c28b0 := decide_eq_true c28
                clear c28
                obtain ⟨bq29, hbq29⟩ : ∃ b_ : Bool, b_ = (rdOf false l2 t350) := ⟨_, rfl⟩
                replace H : (if bq29 = true then (spec_l8Ready.j3 k3 l1 l2 a3 x9_1 ((rd_T33 l0_0 x9_1).f1) x11_3 false l0_0) else (if t350 = a3 then (spec_l8Ready.j3 k3 l1 l2 a3 x9_1 ((rd_T33 l0_0 x9_1).f1) x11_3 false l0_0) else (if 0 ≤ a3 then (if a3 < (l1.length : Int) then (if t350 < ((rd_L10 l1 a3).length : Int) then (if rdOf false (rd_L10 l1 a3) t350 = true then (if t350 < (l1.length : Int) then (if a3 < ((rd_L10 l1 t350).length : Int) then (spec_l8Ready.j3 k3 l1 l2 a3 x9_1 ((rd_T33 l0_0 x9_1).f1) x11_3 (!(rdOf false (rd_L10 l1 t350) a3)) l0_0) else (none)) else (none)) else (spec_l8Ready.j3 k3 l1 l2 a3 x9_1 ((rd_T33 l0_0 x9_1).f1) x11_3 (!false) l0_0)) else (none)) else (none)) else (none)))) = some r := by rw [← hbq29] at H; exact H
                have Nbq29 := mS hbq29
                clear hbq29
                by_cases c30 : bq29 = true
                ·subst c30
                 have H1 := H
                 rw [if_pos rfl] at H1
                 clear H
                 have H := H1
                 clear H1
                 have H' := mS H
                 clear H
                 have p351 : 0 ≤ (t350 : Int) := mD
                 have q351 : t350 < (l2.length : Int) := mD
                 obtain ⟨ad351, e351, hx351_0⟩ := Kd.at_bool HR2.out t350 p351 q351
                 (try rw [← Nbq29.out] at hx351_0); (try rw [← Nbq29.out] at hw351_0)
                 cases e351
                 replace hx351_0 := mX HB.out hx351_0
                 replace p351 := eq_true p351
                 replace q351 := eq_true q351
                 go_wp2
                 go_meet
                 case rel => exact ⟨_, (false), mE, H', ⟨by have := HK1.out; have := HJ6.out; have := HK3.out; first | omega | exact Nat.le_refl _⟩, ⟨mK BK343.out⟩, ⟨(mH1 HB.out GE343.out)⟩⟩
                ·replace c30 := Bool.eq_false_iff.mpr c30
                 subst c30
                 have H1 := H
                 rw [if_neg (show ¬ (false = true) by decide)] at H1
                 clear H
                 have H := H1
                 clear H1
                 by_cases c31 : t350 = a3
                 ·rw [if_pos c31] at H
                  have c31b0 : (t350 == a3) = true := beq_iff_eq.mpr c31
                  have c31b1 : (t350 != a3) = false := bne_eq_false_iff_eq.mpr c31
                  clear c31
                  have H' := mS H
                  clear H
                  have p351 : 0 ≤ (t350 : Int) := mD
                  have q351 : t350 < (l2.length : Int) := mD
                  obtain ⟨ad351, e351, hx351_0⟩ := Kd.at_bool HR2.out t350 p351 q351
                  (try rw [← Nbq29.out] at hx351_0); (try rw [← Nbq29.out] at hw351_0)
                  cases e351
                  replace hx351_0 := mX HB.out hx351_0
                  replace p351 := eq_true p351
                  replace q351 := eq_true q351
                  go_wp2
                  go_meet
                  case rel => exact ⟨_, (false), mE, H', ⟨by have := HK1.out; have := HJ6.out; have := HK3.out; first | omega | exact Nat.le_refl _⟩, ⟨mK BK343.out⟩, ⟨(mH1 HB.out GE343.out)⟩⟩
                 ·rw [if_neg c31] at H
                  have c31b0 : (t350 == a3) = false := beq_eq_false_iff_ne.mpr c31
                  have c31b1 : (t350 != a3) = true := bne_iff_ne.mpr c31
                  by_cases c32 : 0 ≤ a3
                  ·rw [if_pos c32] at H
                   have c32b0 := decide_eq_true c32
                   clear c32
                   by_cases c33 : a3 < (l1.length : Int)
                   ·rw [if_pos c33] at H
                    have c33b0 := decide_eq_true c33
                    clear c33
                    by_cases c34 : t350 < ((rd_L10 l1 a3).length : Int)
                    ·rw [if_pos c34] at H
                     have c34b0 := decide_eq_true c34
                     clear c34
                     obtain ⟨bq35, hbq35⟩ : ∃ b_ : Bool, b_ = (rdOf false (rd_L10 l1 a3) t350) := ⟨_, rfl⟩
                     replace H : (if bq35 = true then (if t350 < (l1.length : Int) then (if a3 < ((rd_L10 l1 t350).length : Int) then (spec_l8Ready.j3 k3 l1 l2 a3 x9_1 ((rd_T33 l0_0 x9_1).f1) x11_3 (!(rdOf false (rd_L10 l1 t350) a3)) l0_0) else (none)) else (none)) else (spec_l8Ready.j3 k3 l1 l2 a3 x9_1 ((rd_T33 l0_0 x9_1).f1) x11_3 (!false) l0_0)) = some r := by rw [← hbq35] at H; exact H
                     have Nbq35 := mS hbq35
                     clear hbq35
                     by_cases c36 : bq35 = true
                     ·subst c36
                      have H1 := H
                      rw [if_pos rfl] at H1
                      clear H
                      have H := H1
                      clear H1
                      by_cases c37 : t350 < (l1.length : Int)
                      ·rw [if_pos c37] at H
                       have c37b0 := decide_eq_true c37
                       clear c37
                       by_cases c38 : a3 < ((rd_L10 l1 t350).length : Int)
                       ·rw [if_pos c38] at H
                        have c38b0 := decide_eq_true c38
                        clear c38
                        have H' := mS H
                        clear H
                        have p351 : 0 ≤ (t350 : Int) := mD
                        have q351 : t350 < (l2.length : Int) := mD
                        obtain ⟨ad351, e351, hx351_0⟩ := Kd.at_bool HR2.out t350 p351 q351
                        (try rw [← Nbq29.out] at hx351_0); (try rw [← Nbq29.out] at hw351_0)
                        (try rw [← Nbq35.out] at hx351_0); (try rw [← Nbq35.out] at hw351_0)
                        cases e351
                        replace hx351_0 := mX HB.out hx351_0
                        replace p351 := eq_true p351
                        replace q351 := eq_true q351
                        have p352 : 0 ≤ (a3 : Int) := mD
                        have q352 : a3 < (l1.length : Int) := mD
                        obtain ⟨ad352, A352_0, c352_0, e352, hx352_0, hl352_0, hi352_0⟩ := at_L10 HR1.out a3 p352 q352
                        cases e352
                        replace hx352_0 := mX HB.out hx352_0
                        have HR352_0 := mS hi352_0
                        have HC352_0 := mS hl352_0
                        clear hi352_0 hl352_0
                        replace p352 := eq_true p352
                        replace q352 := eq_true q352
                        have p353 : 0 ≤ (t350 : Int) := mD
                        have q353 : t350 < ((rd_L10 l1 a3).length : Int) := mD
                        obtain ⟨ad353, e353, hx353_0⟩ := Kd.at_bool HR352_0.out t350 p353 q353
                        (try rw [← Nbq29.out] at hx353_0); (try rw [← Nbq29.out] at hw353_0)
                        (try rw [← Nbq35.out] at hx353_0); (try rw [← Nbq35.out] at hw353_0)
                        cases e353
                        replace hx353_0 := mX HB.out hx353_0
                        replace p353 := eq_true p353
                        replace q353 := eq_true q353
                        have p354 : 0 ≤ (t350 : Int) := mD
                        have q354 : t350 < (l1.length : Int) := mD
                        obtain ⟨ad354, A354_0, c354_0, e354, hx354_0, hl354_0, hi354_0⟩ := at_L10 HR1.out t350 p354 q354
                        obtain rfl : ad352 = ad354 := (by injection e354)
                        replace hx354_0 := mX HB.out hx354_0
                        have HR354_0 := mS hi354_0
                        have HC354_0 := mS hl354_0
                        clear hi354_0 hl354_0
                        replace p354 := eq_true p354
                        replace q354 := eq_true q354
                        have p355 : 0 ≤ (a3 : Int) := mD
                        have q355 : a3 < ((rd_L10 l1 t350).length : Int) := mD
                        obtain ⟨ad355, e355, hx355_0⟩ := Kd.at_bool HR354_0.out a3 p355 q355
                        (try rw [← Nbq29.out] at hx355_0); (try rw [← Nbq29.out] at hw355_0)
                        (try rw [← Nbq35.out] at hx355_0); (try rw [← Nbq35.out] at hw355_0)
                        cases e355
                        replace hx355_0 := mX HB.out hx355_0
                        replace p355 := eq_true p355
                        replace q355 := eq_true q355
                        go_wp2
                        go_meet
                        case rel => exact ⟨_, (!(rdOf false (rd_L10 l1 t350) a3)), mE, H', ⟨by have := HK1.out; have := HJ6.out; have := HK3.out; first | omega | exact Nat.le_refl _⟩, ⟨mK BK343.out⟩, ⟨(mH1 HB.out GE343.out)⟩⟩
                       ·rw [if_neg c38] at H
                        exact absurd H (by simp)
                      ·rw [if_neg c37] at H
                       exact absurd H (by simp)
                     ·replace c36 := Bool.eq_false_iff.mpr c36
                      subst c36
                      have H1 := H
                      rw [if_neg (show ¬ (false = true) by decide)] at H1
                      clear H
                      have H := H1
                      clear H1
                      have H' := mS H
                      clear H
                      have p351 : 0 ≤ (t350 : Int) := mD
                      have q351 : t350 < (l2.length : Int) := mD
                      obtain ⟨ad351, e351, hx351_0⟩ := Kd.at_bool HR2.out t350 p351 q351
                      (try rw [← Nbq29.out] at hx351_0); (try rw [← Nbq29.out] at hw351_0)
                      (try rw [← Nbq35.out] at hx351_0); (try rw [← Nbq35.out] at hw351_0)
                      cases e351
                      replace hx351_0 := mX HB.out hx351_0
                      replace p351 := eq_true p351
                      replace q351 := eq_true q351
                      have p352 : 0 ≤ (a3 : Int) := mD
                      have q352 : a3 < (l1.length : Int) := mD
                      obtain ⟨ad352, A352_0, c352_0, e352, hx352_0, hl352_0, hi352_0⟩ := at_L10 HR1.out a3 p352 q352
                      cases e352
                      replace hx352_0 := mX HB.out hx352_0
                      have HR352_0 := mS hi352_0
                      have HC352_0 := mS hl352_0
                      clear hi352_0 hl352_0
                      replace p352 := eq_true p352
                      replace q352 := eq_true q352
                      have p353 : 0 ≤ (t350 : Int) := mD
                      have q353 : t350 < ((rd_L10 l1 a3).length : Int) := mD
                      obtain ⟨ad353, e353, hx353_0⟩ := Kd.at_bool HR352_0.out t350 p353 q353
                      (try rw [← Nbq29.out] at hx353_0); (try rw [← Nbq29.out] at hw353_0)
                      (try rw [← Nbq35.out] at hx353_0); (try rw [← Nbq35.out] at hw353_0)
                      cases e353
                      replace hx353_0 := mX HB.out hx353_0
                      replace p353 := eq_true p353
                      replace q353 := eq_true q353
                      go_wp2
                      go_meet
                      case rel => exact ⟨_, (!false), mE, H', ⟨by have := HK1.out; have := HJ6.out; have := HK3.out; first | omega | exact Nat.le_refl _⟩, ⟨mK BK343.out⟩, ⟨(mH1 HB.out GE343.out)⟩⟩
                    ·rw [if_neg c34] at H
                     exact absurd H (by simp)
                   ·rw [if_neg c33] at H
                    exact absurd H (by simp)
                  ·rw [if_neg c32] at H
                   exact absurd H (by simp)
               ·rw [if_neg c28] at H
                exact absurd H (by simp)
              ·rw [if_neg c27] at H
               exact absurd H (by simp)
             case rest =>
              clear HC24
              try clear c1
              try clear q1
              try clear c2
              try clear p2
              try clear q2
              try clear c3
              try clear p3
              try clear q3
              try clear hx3
              try clear c6
              try clear c6b0
              try clear p6
              try clear c7
              try clear c8
              try clear c8b0
              try clear c8b1
              try clear c9
              try clear c9b0
              try clear c10
              try clear c10b0
              try clear c11
              try clear c11b0
              try clear c12
              try clear c12b0
              try clear q13
              try clear c14
              try clear c15
              try clear c15b0
              try clear c16
              try clear c16b0
              try clear c17
              try clear c18
              try clear c18b0
              try clear c19
              try clear c19b0
              try clear c21
              try clear c21b0
              try clear c22
              try clear c22b0
              try clear c27
              try clear c27b0
              try clear c28
              try clear c28b0
              try clear q29
              try clear c30
              try clear c31
              try clear c31b0
              try clear c31b1
              try clear c32
              try clear c32b0
              try clear c33
              try clear c33b0
              try clear c34
              try clear c34b0
              try clear p34
              try clear q34
              try clear hx34
              try clear c35
              try clear p35
              try clear q35
              try clear hx35
              try clear c36
              try clear c37
              try clear c37b0
              try clear c38
              try clear c38b0
              try clear hcz20_0
              try clear hfz20_0
              try clear hx344_0
              try clear hx345_0
              try clear hx346_0
              try clear hx347_0
              try clear hx348_0
              try clear hx348_1
              try clear hx348_2
              try clear hx349_0
              try clear hx349_1
              try clear hx351_0
              try clear hx352_0
              try clear hx353_0
              try clear hx354_0
              try clear hx355_0
              try clear p2
              try clear p3
              try clear p344
              try clear p345
              try clear p346
              try clear p347
              try clear p348
              try clear p349
              try clear p351
              try clear p352
              try clear p353
              try clear p354
              try clear p355
              try clear p6
              try clear q1
              try clear q13
              try clear q3
              try clear q344
              try clear q345
              try clear q346
              try clear q347
              try clear q348
              try clear q349
              try clear q351
              try clear q352
              try clear q353
              try clear q354
              try clear q355
              obtain ⟨kq, x87_23, rfl, HA, HJ23, BK343, HB⟩ := hcut
              cases kq with
              | zero => exact absurd HA.out (by simp [spec_l8Ready.j3])
              | succ kj23 =>
               have H := HA.out
               clear HA
               simp only [spec_l8Ready.j3] at H
               by_cases c39 : x87_23 = true
               ·subst c39
                have H1 := H
                rw [if_pos rfl] at H1
                clear H
                have H := H1
                clear H1
                obtain rfl := Option.some.inj H
                go_wp2
                go_ret
                exact ⟨mEw, (mH1 HB.out GE343.out)⟩
               ·replace c39 := Bool.eq_false_iff.mpr c39
                subst c39
                have H1 := H
                rw [if_neg (show ¬ (false = true) by decide)] at H1
                clear H
                have H := H1
                clear H1
                have H' := mS H
                clear H
                go_wp2
                go_roundg kj23
                case measure => have := HK1.out; have := HJ6.out; have := HK3.out; have := HJ23.out; omega
                case rel => exact ⟨(wrap64 (x11_3 + 1)), mE, H', ⟨by have := HK1.out; have := HJ6.out; have := HK3.out; have := HJ23.out; omega⟩, ⟨mK BK343.out⟩, ⟨(mH1 HB.out GE343.out)⟩⟩
            ·rw [if_neg c22] at H
             exact absurd H (by simp)
           ·rw [if_neg c21] at H
            have c21b0 := decide_eq_false c21
            clear c21
            have H' := mS H
            clear H
            go_wp2
            go_roundg k3
            case measure => have := HK1.out; have := HJ6.out; have := HK3.out; omega
            case rel => exact ⟨(wrap64 (x9_1 + 1)), mE, H', ⟨by have := HK1.out; have := HJ6.out; have := HK3.out; omega⟩, ⟨mK BK343.out⟩, ⟨(mH1 HB.out GE343.out)⟩⟩
        ·rw [if_neg c19] at H
         exact absurd H (by simp)
       ·rw [if_neg c18] at H
        exact absurd H (by simp)
   ·rw [if_neg c6] at H
    have c6b0 := decide_eq_false c6
    clear c6
    obtain rfl := Option.some.inj H
    go_wp2
    go_ret
    exact ⟨mEw, (mH1 HB.out GE343.out)⟩

end Go.Proofs.Ytgbejjeephipeaa.MFnExactOrderOf
