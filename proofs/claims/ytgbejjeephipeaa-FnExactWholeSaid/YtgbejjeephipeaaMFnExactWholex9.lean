-- Written by mp.py, this session's own printer (wip/mp.py).
import Derived.Test.YtgbejjeephipeaaVMShort
import Derived.Test.YtgbejjeephipeaaMFnExactWholex0
import Derived.Test.YtgbejjeephipeaaMFnExactWholex6
import Derived.Test.YtgbejjeephipeaaMFnExactWholex8
namespace Go.Proofs.Ytgbejjeephipeaa.MFnExactWhole
open Go.RowKit Go.Proofs.YtgbejjeephipeaaW.PrintWords Go.Proofs.YtgbejjeephipeaaW.PrintLast Go.Proofs.YtgbejjeephipeaaW.PrintMore Go.Proofs.Ytgbejjeephipeaa.MWords
attribute [local go_sem] max2_int min2_int max_two min_two max_three min_three max_four min_four   -- for this text's walks alone
set_option linter.unusedVariables false
set_option linter.unusedSimpArgs false

/-! ### spec_Whole: function 29 -/
def spec_Whole.l0 : Nat → List (S31) → List Bool → Int → List (S33) → Option ((List (S31)))
 | 0, _, _, _, _ => none
 | k + 1, x3, x5, x6, x216000 => if x6 < (x5.length : Int) then (if 0 ≤ x6 then (if rdOf false x5 x6 = true then (if x6 < (x216000.length : Int) then (if x3.length < 8796093022208 then (spec_Whole.l0 k (x3 ++ [(⟨(rd_T33 x216000 x6).f0.f0, (rd_T33 x216000 x6).f0.f1⟩ : S31)]) x5 (wrap64 (x6 + 1)) x216000) else (none)) else (none)) else (spec_Whole.l0 k x3 x5 (wrap64 (x6 + 1)) x216000)) else (none)) else (some x3)
def spec_Whole.f (k : Nat) (l0_0 : List (S33)) : Option ((List (S31))) := (some (([] : List (S31)) : List (S31))).bind fun y216 => ((spec_GraphOk.f k l0_0).bind fun t219 => (if t219 = true then ((spec_l8All.f k l0_0).bind fun bt220 => (spec_Whole.l0 k y216 bt220.2 0 l0_0)) else (some y216)))
theorem spec_Whole.mono_l : ∀ k, (∀ y0 y1 y2 y3, LeO (spec_Whole.l0 k y0 y1 y2 y3) (spec_Whole.l0 (k + 1) y0 y1 y2 y3))
 | 0 => fun _ _ _ _ r h => by simp [spec_Whole.l0] at h
 | k + 1 => by
  have ih0 := spec_Whole.mono_l k
  ·intro y0 y1 y2 y3
   unfold spec_Whole.l0
   repeat' first
   | (with_reducible exact ih0 _ _ _ _)
   | (with_reducible exact spec_GraphOk.mono _ _)
   | (with_reducible exact spec_l8All.mono _ _)
   | (with_reducible exact LeO.refl _)
   | (with_reducible exact LeO.none _)
   | (with_reducible refine LeO.ite ?_ ?_)
   | (with_reducible refine LeO.bind ?_ (fun _ => ?_))
   | exact ih0 _ _ _ _
   | exact spec_GraphOk.mono _ _
   | exact spec_l8All.mono _ _
   | exact LeO.none _
   | refine LeO.ite ?_ ?_
   | refine LeO.bind ?_ (fun _ => ?_)
theorem spec_Whole.mono : ∀ a0 k, LeO (spec_Whole.f k a0) (spec_Whole.f (k + 1) a0) := by
 intro a0 k
 have ih0 := spec_Whole.mono_l k
 unfold spec_Whole.f
 repeat' first
   | (with_reducible exact ih0 _ _ _ _)
   | (with_reducible exact spec_GraphOk.mono _ _)
   | (with_reducible exact spec_l8All.mono _ _)
   | (with_reducible exact LeO.refl _)
   | (with_reducible exact LeO.none _)
   | (with_reducible refine LeO.ite ?_ ?_)
   | (with_reducible refine LeO.bind ?_ (fun _ => ?_))
   | exact ih0 _ _ _ _
   | exact spec_GraphOk.mono _ _
   | exact spec_l8All.mono _ _
   | exact LeO.none _
   | refine LeO.ite ?_ ?_
   | refine LeO.bind ?_ (fun _ => ?_)
set_option maxHeartbeats 8000000 in
set_option maxRecDepth 100000 in
theorem spec_Whole.calls (k : Nat) (A0_0 : Option Addr) (c0_0 : Nat) (l0_0 : List (S33)) (r : List (S31)) (w : World) (hr0_0 : Kd.C k33 w A0_0 l0_0.length l0_0) (hc0_0 : l0_0.length ≤ c0_0) (h : spec_Whole.f k l0_0 = some r) :
  Calls Try.prog 29 #[.agg #[.slice A0_0 l0_0.length c0_0]] w fun e w' => ∃ v0_ : Value, e = .returned (v0_) ∧ Kd.R k31 31 w' w.heap.size (fun _ => True) v0_ r ∧ Below w.heap.size w w' := by
 have hu26 := Try.underlying26
 have hu31 := Try.underlying31
 have HR0_0 := mS hr0_0
 have HC0_0 := mS hc0_0
 clear hr0_0 hc0_0
 have HB := mS (Below.refl w.heap.size w)
 have H : ((some (([] : List (S31)) : List (S31))).bind fun y216 => ((spec_GraphOk.f k l0_0).bind fun t219 => (if t219 = true then ((spec_l8All.f k l0_0).bind fun bt220 => (spec_Whole.l0 k y216 bt220.2 0 l0_0)) else (some y216)))) = some r := h
 clear h
 obtain ⟨y216, hy216⟩ : ∃ y_ : List (S31), y_ = (([] : List (S31))) := ⟨_, rfl⟩
 replace H : ((spec_GraphOk.f k l0_0).bind fun t219 => (if t219 = true then ((spec_l8All.f k l0_0).bind fun bt220 => (spec_Whole.l0 k y216 bt220.2 0 l0_0)) else (some y216))) = some r := by first | (rw [hy216]; with_reducible exact H) | (have H2_ := (Option.bind_some _ _).symm.trans H; rw [hy216]; with_reducible exact H2_) | (have H2_ := (Option.bind_some _ _).symm.trans H; with_reducible exact H2_) | with_reducible exact H | (rw [hy216]; exact H) | exact H
 have Ny216 := mS hy216
 clear hy216
 replace H := Option.bind_eq_some_iff.mp H
 obtain ⟨t219, A20, H⟩ := H
 replace H : (if t219 = true then ((spec_l8All.f k l0_0).bind fun bt220 => (spec_Whole.l0 k y216 bt220.2 0 l0_0)) else (some y216)) = some r := H
 have A2 := mS A20
 clear A20
 by_cases c3 : t219 = true
 ·subst c3
  have H1 := H
  rw [if_pos rfl] at H1
  clear H
  have H := H1
  clear H1
  replace H := Option.bind_eq_some_iff.mp H
  obtain ⟨⟨t220, t223⟩, A40, H⟩ := H
  replace H : (spec_Whole.l0 k y216 t223 0 l0_0) = some r := H
  have A4 := mS A40
  clear A40
  have H' := mS H
  clear H
  go_enter Try.func29, Try.ntmps29
  go_wp2_with (first | ((with_reducible refine gate_dst (N := 1) rfl ?_); refine mBx 1 #[.slice A0_0 l0_0.length c0_0] 26 ?_; intro gb215 hg w5 hbox hb; have BK215 := mS (hbox); have GW215 := mG hg (mH HB.out); have GE215 := mG hg (mH HB.out); replace HB := mS (below_step (mH HB.out) hb); clear hb hbox hg) | ((with_reducible refine gate_dst (N := 7) rfl ?_); refine Kd.R_lit k31 _ 31 ?hg (N := 7) ?hd (xs := ([] : List (S31))) (inner := []) (ok := fun _ => True) (okp := fun _ => True) ?hr ?hp (fun _ hk => hk) trivial (Below.refl _ _) (Nat.le_refl _) (by simp) ?_; (case hd => rfl); (case hg => rfl); (case hr => first | (go_simp; done) | (go_simp; rfl)); (case hp => exact (Reps.none _ _)); intro v217 w6 ho7 hb hg_ hnew_; clear hg_ hnew_; (first | rw [← Ny216.out] at ho7 | (simp only [Int.reduceToNat] at ho7; rw [← Ny216.out] at ho7)); have HO218 := mS (Kd.R_lower ho7 (below_size (mH1 HB.out GE215.out))); replace BK215 := mB BK215 hb; replace HB := mS (below_step (mH1 HB.out GE215.out) hb); clear hb ho7; have hcz8_0 := mZ BK215.out 0; have hfz8_0 := blk_frozen BK215.out 0) | ((with_reducible refine gate_callee (f := 73) rfl ?_); refine mGo 9 Try.func73 #[.agg #[.slice A0_0 l0_0.length c0_0]] ?_; (with_reducible refine (spec_GraphOk.calls k _ _ l0_0 true _ ?side1 ?side2 A2.out).mono ?_); (case side1 => exact mC (Kd.C_below HR0_0.out HB.out)); (case side2 => exact HC0_0.out); rintro e w9 ⟨rfl, hb⟩; refine ⟨_, rfl, ?_⟩; replace HO218 := mS (Kd.R_below (mR HO218.out) hb); replace BK215 := mB BK215 hb; replace HB := mS (below_step (mH1 HB.out GE215.out) hb); (try clear hb); have hcz10_0 := mZ BK215.out 0; have hfz10_0 := blk_frozen BK215.out 0) | ((with_reducible refine gate_callee (f := 81) rfl ?_); refine mGo 14 Try.func81 #[.agg #[.slice A0_0 l0_0.length c0_0]] ?_; (with_reducible refine (spec_l8All.calls k _ _ l0_0 t220 t223 _ ?side1 ?side2 A4.out).mono ?_); (case side1 => exact mC (Kd.C_below HR0_0.out HB.out)); (case side2 => exact HC0_0.out); rintro e w11 ⟨v221, v224, rfl, ho0, ho1, hb⟩; refine ⟨_, rfl, ?_⟩; replace HO218 := mS (Kd.R_below (mR HO218.out) hb); have HO222 := mS (Kd.S_lower ho0 (below_size (mH1 HB.out GE215.out))); have HO225 := mS (Kd.R_lower ho1 (below_size (mH1 HB.out GE215.out))); replace BK215 := mB BK215 hb; replace HB := mS (below_step (mH1 HB.out GE215.out) hb); (try clear hb); (try clear ho0); (try clear ho1)))
  go_loopg [3, 6] k (fun kq v3 v6 w' => ∃ (x3_1 : List (S31)) (x6_1 : Int), v6 = .int .i64 x6_1 ∧ Aside0 (spec_Whole.l0 kq x3_1 t223 x6_1 l0_0 = some r) ∧ Aside0 (kq ≤ k) ∧ Aside0 (Kd.R k31 31 w' w.heap.size (fun _ => True) v3 x3_1) ∧ Aside0 (Kd.R Kd.bool 4 w' w.heap.size (fun _ => True) v224 t223) ∧ Aside0 (w'.heap[gb215]? = some (.cells #[(.slice A0_0 l0_0.length c0_0)] 26 (0, 0))) ∧ Aside0 (Below w.heap.size w w'))
  case atStart => exact ⟨(y216), (0), mE, H', ⟨Nat.le_refl _⟩, ⟨mR HO218.out⟩, ⟨mR HO225.out⟩, ⟨mK BK215.out⟩, ⟨(mH1 HB.out GE215.out)⟩⟩
  case round =>
   clear H'
   try clear c2
   try clear p2
   try clear c3
   try clear c7
   try clear c8
   try clear hcz10_0
   try clear hcz8_0
   try clear hfz10_0
   try clear hfz8_0
   obtain ⟨x3_1, x6_1, rfl, HA, HK1, HO_3, HO_5, BK215, HB⟩ := hrel
   cases gk with
   | zero => exact absurd HA.out (by simp [spec_Whole.l0])
   | succ k1 =>
    have H := HA.out
    clear HA
    simp only [spec_Whole.l0] at H
    by_cases c12 : x6_1 < (t223.length : Int)
    ·rw [if_pos c12] at H
     have c12b0 := decide_eq_true c12
     clear c12
     by_cases c13 : 0 ≤ x6_1
     ·rw [if_pos c13] at H
      have c13b0 := decide_eq_true c13
      clear c13
      obtain ⟨bq14, hbq14⟩ : ∃ b_ : Bool, b_ = (rdOf false t223 x6_1) := ⟨_, rfl⟩
      replace H : (if bq14 = true then (if x6_1 < (l0_0.length : Int) then (if x3_1.length < 8796093022208 then (spec_Whole.l0 k1 (x3_1 ++ [(⟨(rd_T33 l0_0 x6_1).f0.f0, (rd_T33 l0_0 x6_1).f0.f1⟩ : S31)]) t223 (wrap64 (x6_1 + 1)) l0_0) else (none)) else (none)) else (spec_Whole.l0 k1 x3_1 t223 (wrap64 (x6_1 + 1)) l0_0)) = some r := by rw [← hbq14] at H; exact H
      have Nbq14 := mS hbq14
      clear hbq14
      by_cases c15 : bq14 = true
      ·subst c15
       have H1 := H
       rw [if_pos rfl] at H1
       clear H
       have H := H1
       clear H1
       by_cases c16 : x6_1 < (l0_0.length : Int)
       ·rw [if_pos c16] at H
        have c16b0 := decide_eq_true c16
        clear c16
        by_cases c17 : x3_1.length < 8796093022208
        ·rw [if_pos c17] at H
         have LMc17 := mS c17
         clear c17
         obtain ⟨y228, hy228⟩ : ∃ y_ : List (S31), y_ = (x3_1 ++ [(⟨(rd_T33 l0_0 x6_1).f0.f0, (rd_T33 l0_0 x6_1).f0.f1⟩ : S31)]) := ⟨_, rfl⟩
         replace H : (spec_Whole.l0 k1 y228 t223 (wrap64 (x6_1 + 1)) l0_0) = some r := by first | (rw [hy228]; with_reducible exact H) | (have H2_ := (Option.bind_some _ _).symm.trans H; rw [hy228]; with_reducible exact H2_) | (have H2_ := (Option.bind_some _ _).symm.trans H; with_reducible exact H2_) | with_reducible exact H | (rw [hy228]; exact H) | exact H
         have Ny228 := mS hy228
         clear hy228
         have H' := mS H
         clear H
         obtain ⟨Ao18, co18, eo18⟩ := Kd.R_slice HO_5.out
         subst eo18
         have p226 : 0 ≤ (x6_1 : Int) := mD
         have q226 : x6_1 < (t223.length : Int) := mD
         obtain ⟨ad226, e226, hx226_0⟩ := Kd.at_bool (Kd.R_reads' HO_5.out).2.2 x6_1 p226 q226
         (try rw [← Nbq14.out] at hx226_0); (try rw [← Nbq14.out] at hw226_0)
         cases e226
         replace p226 := eq_true p226
         replace q226 := eq_true q226
         have hcz19_0 := mZ BK215.out 0
         have hfz19_0 := blk_frozen BK215.out 0
         have p227 : 0 ≤ (x6_1 : Int) := mD
         have q227 : x6_1 < (l0_0.length : Int) := mD
         obtain ⟨ad227, A227_2, c227_2, e227, hx227_0, hx227_1, hx227_2, hl227_2, hi227_2⟩ := at_T33 HR0_0.out x6_1 p227 q227
         cases e227
         replace hx227_0 := mX HB.out hx227_0
         replace hx227_1 := mX HB.out hx227_1
         replace hx227_2 := mX HB.out hx227_2
         have HR227_2 := mS hi227_2
         have HC227_2 := mS hl227_2
         clear hi227_2 hl227_2
         replace p227 := eq_true p227
         replace q227 := eq_true q227
         go_wp2_with (first | ((with_reducible refine gate_builtin (b := .append) (xs := #[.tmp 27, .tmp 34]) rfl ?_); at_builtin; refine Kd.R_append k31 (w0 := w) w.heap.size rfl (.tmp 27) (.tmp 34) 28 31 (.agg #[(.int .i64 0), (.int .i64 0)]) 16 rfl Try.underlying28 info31 rfl (by decide) (by omega) u3 x3_1 (⟨(rd_T33 l0_0 x6_1).f0.f0, (rd_T33 l0_0 x6_1).f0.f1⟩ : S31) [.int .i64 ((rd_T33 l0_0 x6_1).f0.f0), .int .i64 ((rd_T33 l0_0 x6_1).f0.f1)] (fun _ => True) (fun _ => False) rfl rfl ?aP (fun _ hk => hk.elim) ?aF ?aO ?aB ?aS ?aL ?_; (case aP => exact k31_mkM _ _ _ (⟨(rd_T33 l0_0 x6_1).f0.f0, (rd_T33 l0_0 x6_1).f0.f1⟩ : S31)); (case aB => exact (mH1 HB.out GE215.out)); (case aF => exact (fun _ _ => trivial)); (case aO => exact (mR HO_3.out)); (case aS => exact (below_size (mH1 HB.out GE215.out))); (case aL => have := LMc17.out; omega); intro v229 w20 ho hb hg hat; rw [← Ny228.out] at ho; replace HO_5 := mS (Kd.R_over' (mR HO_5.out) (Kd.R_typed (mR HO_3.out)) (by decide) hg); replace BK215 := mS (blk_grown (g := gb215) (o := .cells #[.slice (some ad227) l0_0.length c0_0] 26 (0, 0)) (mK BK215.out) hg (Kd.R_ne HO_3.out BK215.out (by decide))); replace HB := mS (hb); have HO230 := mS (ho); clear HO_3; clear ho hb hg hat))
         go_roundg k1
         case measure => have := HK1.out; omega
         case rel => exact ⟨(y228), (wrap64 (x6_1 + 1)), mE, H', ⟨by have := HK1.out; omega⟩, ⟨mR HO230.out⟩, ⟨mR HO_5.out⟩, ⟨mK BK215.out⟩, ⟨(mH1 HB.out GE215.out)⟩⟩
        ·rw [if_neg c17] at H
         exact absurd H (by simp)
       ·rw [if_neg c16] at H
        exact absurd H (by simp)
      ·replace c15 := Bool.eq_false_iff.mpr c15
       subst c15
       have H1 := H
       rw [if_neg (show ¬ (false = true) by decide)] at H1
       clear H
       have H := H1
       clear H1
       have H' := mS H
       clear H
       obtain ⟨Ao21, co21, eo21⟩ := Kd.R_slice HO_5.out
       subst eo21
       have p226 : 0 ≤ (x6_1 : Int) := mD
       have q226 : x6_1 < (t223.length : Int) := mD
       obtain ⟨ad226, e226, hx226_0⟩ := Kd.at_bool (Kd.R_reads' HO_5.out).2.2 x6_1 p226 q226
       (try rw [← Nbq14.out] at hx226_0); (try rw [← Nbq14.out] at hw226_0)
       cases e226
       replace p226 := eq_true p226
       replace q226 := eq_true q226
       go_wp2
       go_roundg k1
       case measure => have := HK1.out; omega
       case rel => exact ⟨(x3_1), (wrap64 (x6_1 + 1)), mE, H', ⟨by have := HK1.out; omega⟩, ⟨mR HO_3.out⟩, ⟨mR HO_5.out⟩, ⟨mK BK215.out⟩, ⟨(mH1 HB.out GE215.out)⟩⟩
     ·rw [if_neg c13] at H
      exact absurd H (by simp)
    ·rw [if_neg c12] at H
     have c12b0 := decide_eq_false c12
     clear c12
     obtain rfl := Option.some.inj H
     obtain ⟨Ao22, co22, eo22⟩ := Kd.R_slice HO_5.out
     subst eo22
     go_wp2
     go_ret
     exact ⟨_, mEw, mR HO_3.out, (mH1 HB.out GE215.out)⟩
 ·replace c3 := Bool.eq_false_iff.mpr c3
  subst c3
  have H1 := H
  rw [if_neg (show ¬ (false = true) by decide)] at H1
  clear H
  have H := H1
  clear H1
  obtain rfl := Option.some.inj H
  go_enter Try.func29, Try.ntmps29
  go_wp2_with (first | ((with_reducible refine gate_dst (N := 1) rfl ?_); refine mBx 1 #[.slice A0_0 l0_0.length c0_0] 26 ?_; intro gb215 hg w23 hbox hb; have BK215 := mS (hbox); have GW215 := mG hg (mH HB.out); have GE215 := mG hg (mH HB.out); replace HB := mS (below_step (mH HB.out) hb); clear hb hbox hg) | ((with_reducible refine gate_dst (N := 7) rfl ?_); refine Kd.R_lit k31 _ 31 ?hg (N := 7) ?hd (xs := ([] : List (S31))) (inner := []) (ok := fun _ => True) (okp := fun _ => True) ?hr ?hp (fun _ hk => hk) trivial (Below.refl _ _) (Nat.le_refl _) (by simp) ?_; (case hd => rfl); (case hg => rfl); (case hr => first | (go_simp; done) | (go_simp; rfl)); (case hp => exact (Reps.none _ _)); intro v217 w24 ho25 hb hg_ hnew_; clear hg_ hnew_; (first | rw [← Ny216.out] at ho25 | (simp only [Int.reduceToNat] at ho25; rw [← Ny216.out] at ho25)); have HO218 := mS (Kd.R_lower ho25 (below_size (mH1 HB.out GE215.out))); replace BK215 := mB BK215 hb; replace HB := mS (below_step (mH1 HB.out GE215.out) hb); clear hb ho25; have hcz26_0 := mZ BK215.out 0; have hfz26_0 := blk_frozen BK215.out 0) | ((with_reducible refine gate_callee (f := 73) rfl ?_); refine mGo 9 Try.func73 #[.agg #[.slice A0_0 l0_0.length c0_0]] ?_; (with_reducible refine (spec_GraphOk.calls k _ _ l0_0 false _ ?side1 ?side2 A2.out).mono ?_); (case side1 => exact mC (Kd.C_below HR0_0.out HB.out)); (case side2 => exact HC0_0.out); rintro e w27 ⟨rfl, hb⟩; refine ⟨_, rfl, ?_⟩; replace HO218 := mS (Kd.R_below (mR HO218.out) hb); replace BK215 := mB BK215 hb; replace HB := mS (below_step (mH1 HB.out GE215.out) hb); (try clear hb)))
  go_ret
  exact ⟨_, mEw, mR HO218.out, (mH1 HB.out GE215.out)⟩

/-! ### impl_DotLess: function 64 -/
def impl_DotLess.f (a0_0 : Int) (a0_1 : Int) (a1_0 : Int) (a1_1 : Int) : Option (Bool) := if a0_0 < a1_0 then (some true) else (if a0_0 = a1_0 then (some (decide (a0_1 < a1_1))) else (some false))
set_option maxHeartbeats 8000000 in
set_option maxRecDepth 100000 in
theorem impl_DotLess.calls (a0_0 : Int) (a0_1 : Int) (a1_0 : Int) (a1_1 : Int) (r : Bool) (w : World) (h : impl_DotLess.f a0_0 a0_1 a1_0 a1_1 = some r) :
  Calls Try.prog 64 #[.agg #[.int .i64 a0_0, .int .i64 a0_1], .agg #[.int .i64 a1_0, .int .i64 a1_1]] w fun e w' => e = .returned (.bool r) ∧ Below w.heap.size w w' := by
 have hu31 := Try.underlying31
 have HB := mS (Below.refl w.heap.size w)
 have H : (if a0_0 < a1_0 then (some true) else (if a0_0 = a1_0 then (some (decide (a0_1 < a1_1))) else (some false))) = some r := h
 clear h
 by_cases c3 : a0_0 < a1_0
 ·rw [if_pos c3] at H
  have c3b0 := decide_eq_true c3
  clear c3
  obtain rfl := Option.some.inj H
  go_enter Try.func64, Try.ntmps64
  go_wp2_with (first | ((with_reducible refine gate_dst (N := 2) rfl ?_); refine mBx 2 #[.int .i64 a0_0, .int .i64 a0_1] 31 ?_; intro gb231 hg w4 hbox hb; have BK231 := mS (hbox); have GW231 := mG hg (mH HB.out); have GE231 := mG hg (mH HB.out); replace HB := mS (below_step (mH HB.out) hb); clear hb hbox hg) | ((with_reducible refine gate_dst (N := 3) rfl ?_); refine mBx 3 #[.int .i64 a1_0, .int .i64 a1_1] 31 ?_; intro gb232 hg w5 hbox hb; have BK232 := mS (hbox); have GW232 := mG hg (mH1 HB.out GE231.out); have GE232 := mG hg (mH1 HB.out GE231.out); replace HB := mS (below_step (mH1 HB.out GE231.out) hb); have NB231_232 := mNl hg BK231.out; have NB232_231 := mNg hg BK231.out; replace BK231 := mB BK231 hb; clear hb hbox hg; have hnb6 := NB231_232.out; have hnc6 := NB232_231.out; obtain ⟨hcz7_0, hcz7_1, hfz7_0, hfz7_1⟩ := mZ2 BK231.out; obtain ⟨hcz8_0, hcz8_1, hfz8_0, hfz8_1⟩ := mZ2 BK232.out))
  go_ret
  exact ⟨mEw, (mH2 HB.out GE231.out GE232.out)⟩
 ·rw [if_neg c3] at H
  have c3b0 := decide_eq_false c3
  clear c3
  by_cases c9 : a0_0 = a1_0
  ·rw [if_pos c9] at H
   have c9b0 : (a0_0 == a1_0) = true := beq_iff_eq.mpr c9
   have c9b1 : (a0_0 != a1_0) = false := bne_eq_false_iff_eq.mpr c9
   clear c9
   obtain rfl := Option.some.inj H
   go_enter Try.func64, Try.ntmps64
   go_wp2_with (first | ((with_reducible refine gate_dst (N := 2) rfl ?_); refine mBx 2 #[.int .i64 a0_0, .int .i64 a0_1] 31 ?_; intro gb231 hg w10 hbox hb; have BK231 := mS (hbox); have GW231 := mG hg (mH HB.out); have GE231 := mG hg (mH HB.out); replace HB := mS (below_step (mH HB.out) hb); clear hb hbox hg) | ((with_reducible refine gate_dst (N := 3) rfl ?_); refine mBx 3 #[.int .i64 a1_0, .int .i64 a1_1] 31 ?_; intro gb232 hg w11 hbox hb; have BK232 := mS (hbox); have GW232 := mG hg (mH1 HB.out GE231.out); have GE232 := mG hg (mH1 HB.out GE231.out); replace HB := mS (below_step (mH1 HB.out GE231.out) hb); have NB231_232 := mNl hg BK231.out; have NB232_231 := mNg hg BK231.out; replace BK231 := mB BK231 hb; clear hb hbox hg; have hnb12 := NB231_232.out; have hnc12 := NB232_231.out; obtain ⟨hcz13_0, hcz13_1, hfz13_0, hfz13_1⟩ := mZ2 BK231.out; obtain ⟨hcz14_0, hcz14_1, hfz14_0, hfz14_1⟩ := mZ2 BK232.out))
   go_ret
   exact ⟨mEw, (mH2 HB.out GE231.out GE232.out)⟩
  ·rw [if_neg c9] at H
   have c9b0 : (a0_0 == a1_0) = false := beq_eq_false_iff_ne.mpr c9
   have c9b1 : (a0_0 != a1_0) = true := bne_iff_ne.mpr c9
   obtain rfl := Option.some.inj H
   go_enter Try.func64, Try.ntmps64
   go_wp2_with (first | ((with_reducible refine gate_dst (N := 2) rfl ?_); refine mBx 2 #[.int .i64 a0_0, .int .i64 a0_1] 31 ?_; intro gb231 hg w15 hbox hb; have BK231 := mS (hbox); have GW231 := mG hg (mH HB.out); have GE231 := mG hg (mH HB.out); replace HB := mS (below_step (mH HB.out) hb); clear hb hbox hg) | ((with_reducible refine gate_dst (N := 3) rfl ?_); refine mBx 3 #[.int .i64 a1_0, .int .i64 a1_1] 31 ?_; intro gb232 hg w16 hbox hb; have BK232 := mS (hbox); have GW232 := mG hg (mH1 HB.out GE231.out); have GE232 := mG hg (mH1 HB.out GE231.out); replace HB := mS (below_step (mH1 HB.out GE231.out) hb); have NB231_232 := mNl hg BK231.out; have NB232_231 := mNg hg BK231.out; replace BK231 := mB BK231 hb; clear hb hbox hg; have hnb17 := NB231_232.out; have hnc17 := NB232_231.out; obtain ⟨hcz18_0, hcz18_1, hfz18_0, hfz18_1⟩ := mZ2 BK231.out; obtain ⟨hcz19_0, hcz19_1, hfz19_0, hfz19_1⟩ := mZ2 BK232.out))
   go_ret
   exact ⟨mEw, (mH2 HB.out GE231.out GE232.out)⟩

/-! ### impl_in: function 98 -/
def impl_in.f (a0 : Int) (a1 : Int) (a2 : Int) : Option (Bool) := if a0 ≥ a1 then (some (decide (a0 ≤ a2))) else (some false)
set_option maxHeartbeats 8000000 in
set_option maxRecDepth 100000 in
theorem impl_in.calls (a0 : Int) (a1 : Int) (a2 : Int) (r : Bool) (w : World) (h : impl_in.f a0 a1 a2 = some r) :
  Calls Try.prog 98 #[.int .i64 a0, .int .i64 a1, .int .i64 a2] w fun e w' => e = .returned (.bool r) ∧ Drawn0 w w' := by
 have H : (if a0 ≥ a1 then (some (decide (a0 ≤ a2))) else (some false)) = some r := h
 clear h
 by_cases c4 : a0 ≥ a1
 ·rw [if_pos c4] at H
  have c4b0 : decide (a1 ≤ a0) = true := decide_eq_true c4
  clear c4
  obtain rfl := Option.some.inj H
  go_enter Try.func98, Try.ntmps98
  go_wp2
  go_ret
  exact ⟨mE, by repeat (first | exact Drawn0.refl _ | apply Drawn0.step)⟩
 ·rw [if_neg c4] at H
  have c4b0 : decide (a1 ≤ a0) = false := decide_eq_false c4
  clear c4
  obtain rfl := Option.some.inj H
  go_enter Try.func98, Try.ntmps98
  go_wp2
  go_ret
  exact ⟨mE, by repeat (first | exact Drawn0.refl _ | apply Drawn0.step)⟩

/-! ### impl_DotOk: function 113 -/
def impl_DotOk.f (a0_0 : Int) (a0_1 : Int) : Option (Bool) := (impl_in.f a0_0 1 7).bind fun t234 => (if t234 = true then ((impl_in.f a0_1 1 999).bind fun t235 => (some t235)) else (some false))
set_option maxHeartbeats 8000000 in
set_option maxRecDepth 100000 in
theorem impl_DotOk.calls (a0_0 : Int) (a0_1 : Int) (r : Bool) (w : World) (h : impl_DotOk.f a0_0 a0_1 = some r) :
  Calls Try.prog 113 #[.agg #[.int .i64 a0_0, .int .i64 a0_1]] w fun e w' => e = .returned (.bool r) ∧ Below w.heap.size w w' := by
 have hu31 := Try.underlying31
 have HB := mS (Below.refl w.heap.size w)
 have H : ((impl_in.f a0_0 1 7).bind fun t234 => (if t234 = true then ((impl_in.f a0_1 1 999).bind fun t235 => (some t235)) else (some false))) = some r := h
 clear h
 replace H := Option.bind_eq_some_iff.mp H
 obtain ⟨t234, A20, H⟩ := H
 replace H : (if t234 = true then ((impl_in.f a0_1 1 999).bind fun t235 => (some t235)) else (some false)) = some r := H
 have A2 := mS A20
 clear A20
 by_cases c3 : t234 = true
 ·subst c3
  have H1 := H
  rw [if_pos rfl] at H1
  clear H
  have H := H1
  clear H1
  replace H := Option.bind_eq_some_iff.mp H
  obtain ⟨t235, A40, H⟩ := H
  replace H : (some t235) = some r := H
  have A4 := mS A40
  clear A40
  obtain rfl := Option.some.inj H
  go_enter Try.func113, Try.ntmps113
  go_wp2_with (first | ((with_reducible refine gate_dst (N := 1) rfl ?_); refine mBx 1 #[.int .i64 a0_0, .int .i64 a0_1] 31 ?_; intro gb233 hg w5 hbox hb; have BK233 := mS (hbox); have GW233 := mG hg (mH HB.out); have GE233 := mG hg (mH HB.out); replace HB := mS (below_step (mH HB.out) hb); clear hb hbox hg; obtain ⟨hcz6_0, hcz6_1, hfz6_0, hfz6_1⟩ := mZ2 BK233.out) | ((with_reducible refine gate_callee (f := 98) rfl ?_); refine mGo 5 Try.func98 #[.int .i64 a0_0, .int .i64 1, .int .i64 7] ?_; (with_reducible refine (impl_in.calls a0_0 1 7 true _ A2.out).mono ?_); rintro e w' ⟨rfl, ⟨nd, rfl⟩⟩; refine ⟨_, rfl, ?_⟩) | (go_at_call 98; (with_reducible refine (impl_in.calls a0_1 1 999 t235 _ A4.out).mono ?_); rintro e w' ⟨rfl, ⟨nd, rfl⟩⟩))
  go_ret
  exact ⟨mEw, (mH1 HB.out GE233.out)⟩
 ·replace c3 := Bool.eq_false_iff.mpr c3
  subst c3
  have H1 := H
  rw [if_neg (show ¬ (false = true) by decide)] at H1
  clear H
  have H := H1
  clear H1
  obtain rfl := Option.some.inj H
  go_enter Try.func113, Try.ntmps113
  go_wp2_with (first | ((with_reducible refine gate_dst (N := 1) rfl ?_); refine mBx 1 #[.int .i64 a0_0, .int .i64 a0_1] 31 ?_; intro gb233 hg w7 hbox hb; have BK233 := mS (hbox); have GW233 := mG hg (mH HB.out); have GE233 := mG hg (mH HB.out); replace HB := mS (below_step (mH HB.out) hb); clear hb hbox hg; obtain ⟨hcz8_0, hcz8_1, hfz8_0, hfz8_1⟩ := mZ2 BK233.out) | ((with_reducible refine gate_callee (f := 98) rfl ?_); refine mGo 5 Try.func98 #[.int .i64 a0_0, .int .i64 1, .int .i64 7] ?_; (with_reducible refine (impl_in.calls a0_0 1 7 false _ A2.out).mono ?_); rintro e w' ⟨rfl, ⟨nd, rfl⟩⟩; refine ⟨_, rfl, ?_⟩))
  go_ret
  exact ⟨mEw, (mH1 HB.out GE233.out)⟩

end Go.Proofs.Ytgbejjeephipeaa.MFnExactWhole
