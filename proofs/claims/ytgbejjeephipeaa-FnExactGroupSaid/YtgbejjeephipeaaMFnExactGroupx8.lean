-- Written by mp.py, this session's own printer (wip/mp.py).
import Derived.Test.YtgbejjeephipeaaVMShort
import Derived.Test.YtgbejjeephipeaaMFnExactGroupx0
import Derived.Test.YtgbejjeephipeaaMFnExactGroupx1
import Derived.Test.YtgbejjeephipeaaMFnExactGroupx4
import Derived.Test.YtgbejjeephipeaaMFnExactGroupx6
import Derived.Test.YtgbejjeephipeaaMFnExactGroupx7
namespace Go.Proofs.Ytgbejjeephipeaa.MFnExactGroup
open Go.RowKit Go.Proofs.YtgbejjeephipeaaW.PrintWords Go.Proofs.YtgbejjeephipeaaW.PrintLast Go.Proofs.YtgbejjeephipeaaW.PrintMore Go.Proofs.Ytgbejjeephipeaa.MWords
attribute [local go_sem] max2_int min2_int max_two min_two max_three min_three max_four min_four   -- for this text's walks alone
set_option linter.unusedVariables false
set_option linter.unusedSimpArgs false

attribute [local go_sem high] eqA31
/-! ### spec_Group: function 34 -/
mutual
def spec_Group.j0 : Nat → List (S31) → Int → Bool → List (S33) → Option ((List (S31)))
 | 0, _, _, _, _ => none
 | k + 1, x5, x6, x20, x218000 => if x20 = true then (some x5) else ((spec_l8All.f k x218000).bind fun bt224 => (spec_Group.l0 k x5 x6 bt224.1 bt224.2 0 x218000))
def spec_Group.l0 : Nat → List (S31) → Int → List (List Bool) → List Bool → Int → List (S33) → Option ((List (S31)))
 | 0, _, _, _, _, _, _ => none
 | k + 1, x5, x6, x7, x8, x9, x218000 => if x9 < (x8.length : Int) then (if 0 ≤ x6 then (if x6 < (x8.length : Int) then (if rdOf false x8 x6 = true then (if x9 = x6 then (spec_Group.j2 k x5 x6 x7 x8 x9 true x218000) else (if x6 < (x7.length : Int) then (if 0 ≤ x9 then (if x9 < ((rd_L10 x7 x6).length : Int) then (if rdOf false (rd_L10 x7 x6) x9 = true then (if x9 < (x7.length : Int) then (if x6 < ((rd_L10 x7 x9).length : Int) then (spec_Group.j2 k x5 x6 x7 x8 x9 (rdOf false (rd_L10 x7 x9) x6) x218000) else (none)) else (none)) else (spec_Group.j2 k x5 x6 x7 x8 x9 false x218000)) else (none)) else (none)) else (none))) else (spec_Group.j2 k x5 x6 x7 x8 x9 false x218000)) else (none)) else (none)) else (some x5)
def spec_Group.j2 : Nat → List (S31) → Int → List (List Bool) → List Bool → Int → Bool → List (S33) → Option ((List (S31)))
 | 0, _, _, _, _, _, _, _ => none
 | k + 1, x5, x6, x7, x8, x9, x59, x218000 => if x59 = true then (if 0 ≤ x9 then (if x9 < (x218000.length : Int) then (if x5.length < 8796093022208 then (spec_Group.l0 k (x5 ++ [(⟨(rd_T33 x218000 x9).f0.f0, (rd_T33 x218000 x9).f0.f1⟩ : S31)]) x6 x7 x8 (wrap64 (x9 + 1)) x218000) else (none)) else (none)) else (none)) else (spec_Group.l0 k x5 x6 x7 x8 (wrap64 (x9 + 1)) x218000)
end
def spec_Group.f (k : Nat) (l0_0 : List (S33)) (a1_0 : Int) (a1_1 : Int) : Option ((List (S31))) := (some (([] : List (S31)) : List (S31))).bind fun y219 => ((spec_l8At.f k l0_0 a1_0 a1_1).bind fun t222 => ((spec_GraphOk.f k l0_0).bind fun t223 => (if t223 = true then (spec_Group.j0 k y219 t222 (decide (t222 < 0)) l0_0) else (spec_Group.j0 k y219 t222 true l0_0))))
theorem spec_Group.mono_l : ∀ k, (∀ y0 y1 y2 y3, LeO (spec_Group.j0 k y0 y1 y2 y3) (spec_Group.j0 (k + 1) y0 y1 y2 y3)) ∧ (∀ y0 y1 y2 y3 y4 y5, LeO (spec_Group.l0 k y0 y1 y2 y3 y4 y5) (spec_Group.l0 (k + 1) y0 y1 y2 y3 y4 y5)) ∧ (∀ y0 y1 y2 y3 y4 y5 y6, LeO (spec_Group.j2 k y0 y1 y2 y3 y4 y5 y6) (spec_Group.j2 (k + 1) y0 y1 y2 y3 y4 y5 y6))
 | 0 => ⟨fun _ _ _ _ r h => by simp [spec_Group.j0] at h, fun _ _ _ _ _ _ r h => by simp [spec_Group.l0] at h, fun _ _ _ _ _ _ _ r h => by simp [spec_Group.j2] at h⟩
 | k + 1 => by
  obtain ⟨ih0, ih1, ih2⟩ := spec_Group.mono_l k
  refine ⟨?_, ?_, ?_⟩
  ·intro y0 y1 y2 y3
   unfold spec_Group.j0
   repeat' first
   | (with_reducible exact ih0 _ _ _ _)
   | (with_reducible exact ih1 _ _ _ _ _ _)
   | (with_reducible exact ih2 _ _ _ _ _ _ _)
   | (with_reducible exact spec_GraphOk.mono _ _)
   | (with_reducible exact spec_l8All.mono _ _)
   | (with_reducible exact spec_l8At.mono _ _ _ _)
   | (with_reducible exact LeO.refl _)
   | (with_reducible exact LeO.none _)
   | (with_reducible refine LeO.ite ?_ ?_)
   | (with_reducible refine LeO.bind ?_ (fun _ => ?_))
   | exact ih0 _ _ _ _
   | exact ih1 _ _ _ _ _ _
   | exact ih2 _ _ _ _ _ _ _
   | exact spec_GraphOk.mono _ _
   | exact spec_l8All.mono _ _
   | exact spec_l8At.mono _ _ _ _
   | exact LeO.none _
   | refine LeO.ite ?_ ?_
   | refine LeO.bind ?_ (fun _ => ?_)
  ·intro y0 y1 y2 y3 y4 y5
   unfold spec_Group.l0
   repeat' first
   | (with_reducible exact ih0 _ _ _ _)
   | (with_reducible exact ih1 _ _ _ _ _ _)
   | (with_reducible exact ih2 _ _ _ _ _ _ _)
   | (with_reducible exact spec_GraphOk.mono _ _)
   | (with_reducible exact spec_l8All.mono _ _)
   | (with_reducible exact spec_l8At.mono _ _ _ _)
   | (with_reducible exact LeO.refl _)
   | (with_reducible exact LeO.none _)
   | (with_reducible refine LeO.ite ?_ ?_)
   | (with_reducible refine LeO.bind ?_ (fun _ => ?_))
   | exact ih0 _ _ _ _
   | exact ih1 _ _ _ _ _ _
   | exact ih2 _ _ _ _ _ _ _
   | exact spec_GraphOk.mono _ _
   | exact spec_l8All.mono _ _
   | exact spec_l8At.mono _ _ _ _
   | exact LeO.none _
   | refine LeO.ite ?_ ?_
   | refine LeO.bind ?_ (fun _ => ?_)
  ·intro y0 y1 y2 y3 y4 y5 y6
   unfold spec_Group.j2
   repeat' first
   | (with_reducible exact ih0 _ _ _ _)
   | (with_reducible exact ih1 _ _ _ _ _ _)
   | (with_reducible exact ih2 _ _ _ _ _ _ _)
   | (with_reducible exact spec_GraphOk.mono _ _)
   | (with_reducible exact spec_l8All.mono _ _)
   | (with_reducible exact spec_l8At.mono _ _ _ _)
   | (with_reducible exact LeO.refl _)
   | (with_reducible exact LeO.none _)
   | (with_reducible refine LeO.ite ?_ ?_)
   | (with_reducible refine LeO.bind ?_ (fun _ => ?_))
   | exact ih0 _ _ _ _
   | exact ih1 _ _ _ _ _ _
   | exact ih2 _ _ _ _ _ _ _
   | exact spec_GraphOk.mono _ _
   | exact spec_l8All.mono _ _
   | exact spec_l8At.mono _ _ _ _
   | exact LeO.none _
   | refine LeO.ite ?_ ?_
   | refine LeO.bind ?_ (fun _ => ?_)
theorem spec_Group.mono : ∀ a0 a1 a2 k, LeO (spec_Group.f k a0 a1 a2) (spec_Group.f (k + 1) a0 a1 a2) := by
 intro a0 a1 a2 k
 obtain ⟨ih0, ih1, ih2⟩ := spec_Group.mono_l k
 unfold spec_Group.f
 repeat' first
   | (with_reducible exact ih0 _ _ _ _)
   | (with_reducible exact ih1 _ _ _ _ _ _)
   | (with_reducible exact ih2 _ _ _ _ _ _ _)
   | (with_reducible exact spec_GraphOk.mono _ _)
   | (with_reducible exact spec_l8All.mono _ _)
   | (with_reducible exact spec_l8At.mono _ _ _ _)
   | (with_reducible exact LeO.refl _)
   | (with_reducible exact LeO.none _)
   | (with_reducible refine LeO.ite ?_ ?_)
   | (with_reducible refine LeO.bind ?_ (fun _ => ?_))
   | exact ih0 _ _ _ _
   | exact ih1 _ _ _ _ _ _
   | exact ih2 _ _ _ _ _ _ _
   | exact spec_GraphOk.mono _ _
   | exact spec_l8All.mono _ _
   | exact spec_l8At.mono _ _ _ _
   | exact LeO.none _
   | refine LeO.ite ?_ ?_
   | refine LeO.bind ?_ (fun _ => ?_)
set_option maxHeartbeats 8000000 in
set_option maxRecDepth 100000 in
theorem spec_Group.calls (k : Nat) (A0_0 : Option Addr) (c0_0 : Nat) (l0_0 : List (S33)) (a1_0 : Int) (a1_1 : Int) (r : List (S31)) (w : World) (hr0_0 : Kd.C k33 w A0_0 l0_0.length l0_0) (hc0_0 : l0_0.length ≤ c0_0) (h : spec_Group.f k l0_0 a1_0 a1_1 = some r) :
  Calls Try.prog 34 #[.agg #[.slice A0_0 l0_0.length c0_0], .agg #[.int .i64 a1_0, .int .i64 a1_1]] w fun e w' => ∃ v0_ : Value, e = .returned (v0_) ∧ Kd.R k31 31 w' w.heap.size (fun _ => True) v0_ r ∧ Below w.heap.size w w' := by
 have hu26 := Try.underlying26
 have hu31 := Try.underlying31
 have HR0_0 := mS hr0_0
 have HC0_0 := mS hc0_0
 clear hr0_0 hc0_0
 have HB := mS (Below.refl w.heap.size w)
 have H : ((some (([] : List (S31)) : List (S31))).bind fun y219 => ((spec_l8At.f k l0_0 a1_0 a1_1).bind fun t222 => ((spec_GraphOk.f k l0_0).bind fun t223 => (if t223 = true then (spec_Group.j0 k y219 t222 (decide (t222 < 0)) l0_0) else (spec_Group.j0 k y219 t222 true l0_0))))) = some r := h
 clear h
 obtain ⟨y219, hy219⟩ : ∃ y_ : List (S31), y_ = (([] : List (S31))) := ⟨_, rfl⟩
 replace H : ((spec_l8At.f k l0_0 a1_0 a1_1).bind fun t222 => ((spec_GraphOk.f k l0_0).bind fun t223 => (if t223 = true then (spec_Group.j0 k y219 t222 (decide (t222 < 0)) l0_0) else (spec_Group.j0 k y219 t222 true l0_0)))) = some r := by first | (rw [hy219]; with_reducible exact H) | (have H2_ := (Option.bind_some _ _).symm.trans H; rw [hy219]; with_reducible exact H2_) | (have H2_ := (Option.bind_some _ _).symm.trans H; with_reducible exact H2_) | with_reducible exact H | (rw [hy219]; exact H) | exact H
 have Ny219 := mS hy219
 clear hy219
 replace H := Option.bind_eq_some_iff.mp H
 obtain ⟨t222, A30, H⟩ := H
 replace H : ((spec_GraphOk.f k l0_0).bind fun t223 => (if t223 = true then (spec_Group.j0 k y219 t222 (decide (t222 < 0)) l0_0) else (spec_Group.j0 k y219 t222 true l0_0))) = some r := H
 have A3 := mS A30
 clear A30
 have HC4 := mS H
 clear H
 go_enter Try.func34, Try.ntmps34
 go_upto_region 3 with (first | ((with_reducible refine gate_dst (N := 2) rfl ?_); refine mBx 2 #[.slice A0_0 l0_0.length c0_0] 26 ?_; intro gb217 hg w5 hbox hb; have BK217 := mS (hbox); have GW217 := mG hg (mH HB.out); have GE217 := mG hg (mH HB.out); replace HB := mS (below_step (mH HB.out) hb); clear hb hbox hg) | ((with_reducible refine gate_dst (N := 3) rfl ?_); refine mBx 3 #[.int .i64 a1_0, .int .i64 a1_1] 31 ?_; intro gb218 hg w6 hbox hb; have BK218 := mS (hbox); have GW218 := mG hg (mH1 HB.out GE217.out); have GE218 := mG hg (mH1 HB.out GE217.out); replace HB := mS (below_step (mH1 HB.out GE217.out) hb); have NB217_218 := mNl hg BK217.out; have NB218_217 := mNg hg BK217.out; replace BK217 := mB BK217 hb; clear hb hbox hg) | ((with_reducible refine gate_dst (N := 10) rfl ?_); refine Kd.R_lit k31 _ 31 ?hg (N := 10) ?hd (xs := ([] : List (S31))) (inner := []) (ok := fun _ => True) (okp := fun _ => True) ?hr ?hp (fun _ hk => hk) trivial (Below.refl _ _) (Nat.le_refl _) (by simp) ?_; (case hd => rfl); (case hg => rfl); (case hr => first | (go_simp; done) | (go_simp; rfl)); (case hp => exact (Reps.none _ _)); intro v220 w7 ho8 hb hg_ hnew_; clear hg_ hnew_; (first | rw [← Ny219.out] at ho8 | (simp only [Int.reduceToNat] at ho8; rw [← Ny219.out] at ho8)); have HO221 := mS (Kd.R_lower (Kd.R_newB ho8 (g := gb218) (o := .cells #[.int .i64 a1_0, .int .i64 a1_1] 31 (0, 0)) (mK BK218.out)) (below_size (mH2 HB.out GE217.out GE218.out))); replace BK217 := mB BK217 hb; replace BK218 := mB BK218 hb; replace HB := mS (below_step (mH2 HB.out GE217.out GE218.out) hb); clear hb ho8; have hnb9 := NB217_218.out; have hnc9 := NB218_217.out; have hcz10_0 := mZ BK217.out 0; have hfz10_0 := blk_frozen BK217.out 0; obtain ⟨hcz11_0, hcz11_1, hfz11_0, hfz11_1⟩ := mZ2 BK218.out) | ((with_reducible refine gate_callee (f := 72) rfl ?_); refine mGo 13 Try.func72 #[.agg #[.slice A0_0 l0_0.length c0_0], .agg #[.int .i64 a1_0, .int .i64 a1_1]] ?_; (with_reducible refine (spec_l8At.calls k _ _ l0_0 a1_0 a1_1 t222 _ ?side1 ?side2 A3.out).mono ?_); (case side1 => exact mC (Kd.C_below HR0_0.out HB.out)); (case side2 => exact HC0_0.out); rintro e w12 ⟨rfl, hb⟩; refine ⟨_, rfl, ?_⟩; replace HO221 := mS (Kd.R_below (mR HO221.out) hb); replace BK217 := mB BK217 hb; replace BK218 := mB BK218 hb; replace HB := mS (below_step (mH2 HB.out GE217.out GE218.out) hb); (try clear hb)))
 (try simp only [Act.put, zA, zB, zC])
 go_cut [20] (fun v20 wc => ∃ (kq : Nat) (x20_3 : Bool), v20 = .bool x20_3 ∧ Aside0 (spec_Group.j0 kq y219 t222 x20_3 l0_0 = some r) ∧ Aside0 (kq ≤ k) ∧ Aside0 (Kd.R k31 31 wc w.heap.size (fun k_ => k_ ≠ gb218) v220 y219) ∧ Aside0 (wc.heap[gb217]? = some (.cells #[(.slice A0_0 l0_0.length c0_0)] 26 (0, 0))) ∧ Aside0 (wc.heap[gb218]? = some (.cells #[.int .i64 a1_0, .int .i64 a1_1] 31 (0, 0))) ∧ Aside0 (Below w.heap.size w wc))
 case first =>
  have H := HC4.out
  clear HC4
  replace H := Option.bind_eq_some_iff.mp H
  obtain ⟨t223, A130, H⟩ := H
  replace H : (if t223 = true then (spec_Group.j0 k y219 t222 (decide (t222 < 0)) l0_0) else (spec_Group.j0 k y219 t222 true l0_0)) = some r := H
  have A13 := mS A130
  clear A130
  by_cases c14 : t223 = true
  ·subst c14
   have H1 := H
   rw [if_pos rfl] at H1
   clear H
   have H := H1
   clear H1
   have H' := mS H
   clear H
   have hnb15 := NB217_218.out
   have hnc15 := NB218_217.out
   have hcz16_0 := mZ BK217.out 0
   have hfz16_0 := blk_frozen BK217.out 0
   go_wp2_with (first | ((with_reducible refine gate_callee (f := 73) rfl ?_); refine mGo 15 Try.func73 #[.agg #[.slice A0_0 l0_0.length c0_0]] ?_; (with_reducible refine (spec_GraphOk.calls k _ _ l0_0 true _ ?side1 ?side2 A13.out).mono ?_); (case side1 => exact mC (Kd.C_below HR0_0.out HB.out)); (case side2 => exact HC0_0.out); rintro e w17 ⟨rfl, hb⟩; refine ⟨_, rfl, ?_⟩; replace HO221 := mS (Kd.R_below (mR HO221.out) hb); replace BK217 := mB BK217 hb; replace BK218 := mB BK218 hb; replace HB := mS (below_step (mH2 HB.out GE217.out GE218.out) hb); (try clear hb)))
   go_meet
   case rel => exact ⟨_, (decide (t222 < 0)), mE, H', ⟨by first | omega | exact Nat.le_refl _⟩, ⟨by refine mR ?_; exact Kd.R_mono HO221.out (fun _ hk => hk.2)⟩, ⟨mK BK217.out⟩, ⟨mK BK218.out⟩, ⟨(mH2 HB.out GE217.out GE218.out)⟩⟩
  ·replace c14 := Bool.eq_false_iff.mpr c14
   subst c14
   have H1 := H
   rw [if_neg (show ¬ (false = true) by decide)] at H1
   clear H
   have H := H1
   clear H1
   have H' := mS H
   clear H
   have hnb18 := NB217_218.out
   have hnc18 := NB218_217.out
   have hcz19_0 := mZ BK217.out 0
   have hfz19_0 := blk_frozen BK217.out 0
   go_wp2_with (first | ((with_reducible refine gate_callee (f := 73) rfl ?_); refine mGo 15 Try.func73 #[.agg #[.slice A0_0 l0_0.length c0_0]] ?_; (with_reducible refine (spec_GraphOk.calls k _ _ l0_0 false _ ?side1 ?side2 A13.out).mono ?_); (case side1 => exact mC (Kd.C_below HR0_0.out HB.out)); (case side2 => exact HC0_0.out); rintro e w20 ⟨rfl, hb⟩; refine ⟨_, rfl, ?_⟩; replace HO221 := mS (Kd.R_below (mR HO221.out) hb); replace BK217 := mB BK217 hb; replace BK218 := mB BK218 hb; replace HB := mS (below_step (mH2 HB.out GE217.out GE218.out) hb); (try clear hb)))
   go_meet
   case rel => exact ⟨_, (true), mE, H', ⟨by first | omega | exact Nat.le_refl _⟩, ⟨by refine mR ?_; exact Kd.R_mono HO221.out (fun _ hk => hk.2)⟩, ⟨mK BK217.out⟩, ⟨mK BK218.out⟩, ⟨(mH2 HB.out GE217.out GE218.out)⟩⟩
 case rest =>
  clear HC4
  try clear c1
  try clear p2
  try clear c3
  try clear c7
  try clear c9
  try clear c14
  try clear c15
  try clear c18
  try clear hcz10_0
  try clear hcz11_0
  try clear hcz11_1
  try clear hcz16_0
  try clear hcz19_0
  try clear hfz10_0
  try clear hfz11_0
  try clear hfz11_1
  try clear hfz16_0
  try clear hfz19_0
  obtain ⟨kq, x20_3, rfl, HA, HJ3, HO_5, BK217, BK218, HB⟩ := hcut
  cases kq with
  | zero => exact absurd HA.out (by simp [spec_Group.j0])
  | succ kj3 =>
   have H := HA.out
   clear HA
   simp only [spec_Group.j0] at H
   by_cases c21 : x20_3 = true
   ·subst c21
    have H1 := H
    rw [if_pos rfl] at H1
    clear H
    have H := H1
    clear H1
    obtain rfl := Option.some.inj H
    go_wp2
    go_ret
    exact ⟨_, mEw, by refine mR ?_; exact Kd.R_mono HO_5.out (fun _ hk => trivial), (mH2 HB.out GE217.out GE218.out)⟩
   ·replace c21 := Bool.eq_false_iff.mpr c21
    subst c21
    have H1 := H
    rw [if_neg (show ¬ (false = true) by decide)] at H1
    clear H
    have H := H1
    clear H1
    replace H := Option.bind_eq_some_iff.mp H
    obtain ⟨⟨t224, t227⟩, A220, H⟩ := H
    replace H : (spec_Group.l0 kj3 y219 t222 t224 t227 0 l0_0) = some r := H
    have A22 := mS A220
    clear A220
    have H' := mS H
    clear H
    have hnb23 := NB217_218.out
    have hnc23 := NB218_217.out
    have hcz24_0 := mZ BK217.out 0
    have hfz24_0 := blk_frozen BK217.out 0
    go_wp2_with (first | ((with_reducible refine gate_callee (f := 81) rfl ?_); refine mGo 24 Try.func81 #[.agg #[.slice A0_0 l0_0.length c0_0]] ?_; (with_reducible refine (spec_l8All.calls kj3 _ _ l0_0 t224 t227 _ ?side1 ?side2 A22.out).mono ?_); (case side1 => exact mC (Kd.C_below HR0_0.out HB.out)); (case side2 => exact HC0_0.out); rintro e w25 ⟨v225, v228, rfl, ho0, ho1, hb⟩; refine ⟨_, rfl, ?_⟩; replace HO_5 := mS (Kd.R_below (mR HO_5.out) hb); have HO226 := mS (Kd.S_lower ho0 (below_size (mH2 HB.out GE217.out GE218.out))); have HO229 := mS (Kd.R_lower ho1 (below_size (mH2 HB.out GE217.out GE218.out))); replace BK217 := mB BK217 hb; replace BK218 := mB BK218 hb; replace HB := mS (below_step (mH2 HB.out GE217.out GE218.out) hb); (try clear hb); (try clear ho0); (try clear ho1)))
    go_loopg [5, 9] kj3 (fun kq v5 v9 w' => ∃ (x5_2 : List (S31)) (x9_2 : Int), v9 = .int .i64 x9_2 ∧ Aside0 (spec_Group.l0 kq x5_2 t222 t224 t227 x9_2 l0_0 = some r) ∧ Aside0 (kq ≤ kj3) ∧ Aside0 (Kd.R k31 31 w' w.heap.size (fun k_ => k_ ≠ gb218) v5 x5_2) ∧ Aside0 (Kd.S (Kd.slice 4 Kd.bool) 105 w' w.heap.size (fun k_ => some k_ ≠ (v228 : Value).ownBlock) v225 t224) ∧ Aside0 (Kd.R Kd.bool 4 w' w.heap.size (fun _ => True) v228 t227) ∧ Aside0 (w'.heap[gb217]? = some (.cells #[(.slice A0_0 l0_0.length c0_0)] 26 (0, 0))) ∧ Aside0 (w'.heap[gb218]? = some (.cells #[.int .i64 a1_0, .int .i64 a1_1] 31 (0, 0))) ∧ Aside0 (Below w.heap.size w w'))
    case atStart => exact ⟨(y219), (0), mE, H', ⟨Nat.le_refl _⟩, ⟨mR HO_5.out⟩, ⟨mSd HO226.out⟩, ⟨mR HO229.out⟩, ⟨mK BK217.out⟩, ⟨mK BK218.out⟩, ⟨(mH2 HB.out GE217.out GE218.out)⟩⟩
    case round =>
     clear H'
     try clear c1
     try clear c2
     try clear p2
     try clear c3
     try clear c7
     try clear c8
     try clear c9
     try clear c14
     try clear c15
     try clear c18
     try clear c21
     try clear c23
     try clear hcz10_0
     try clear hcz11_0
     try clear hcz11_1
     try clear hcz16_0
     try clear hcz19_0
     try clear hcz24_0
     try clear hfz10_0
     try clear hfz11_0
     try clear hfz11_1
     try clear hfz16_0
     try clear hfz19_0
     try clear hfz24_0
     try clear p2
     obtain ⟨x5_2, x9_2, rfl, HA, HK2, HO_5, HO_7, HO_8, BK217, BK218, HB⟩ := hrel
     cases gk with
     | zero => exact absurd HA.out (by simp [spec_Group.l0])
     | succ k2 =>
      have H := HA.out
      clear HA
      simp only [spec_Group.l0] at H
      by_cases c26 : x9_2 < (t227.length : Int)
      ·rw [if_pos c26] at H
       have c26b0 := decide_eq_true c26
       clear c26
       have HC27 := mS H
       clear H
       obtain ⟨Ao28, co28, eo28⟩ := Kd.R_slice HO_8.out
       subst eo28
       go_upto_region 9 with (fail)
       go_cut [59] (fun v59 wc => ∃ (kq : Nat) (x59_26 : Bool), v59 = .bool x59_26 ∧ Aside0 (spec_Group.j2 kq x5_2 t222 t224 t227 x9_2 x59_26 l0_0 = some r) ∧ Aside0 (kq ≤ k2) ∧ Aside0 (Kd.R k31 31 wc w.heap.size (fun k_ => k_ ≠ gb218) u5 x5_2) ∧ Aside0 (Kd.S (Kd.slice 4 Kd.bool) 105 wc w.heap.size (fun k_ => some k_ ≠ ((.slice Ao28 t227.length co28) : Value).ownBlock) v225 t224) ∧ Aside0 (Kd.R Kd.bool 4 wc w.heap.size (fun _ => True) (.slice Ao28 t227.length co28) t227) ∧ Aside0 (wc.heap[gb217]? = some (.cells #[(.slice A0_0 l0_0.length c0_0)] 26 (0, 0))) ∧ Aside0 (wc.heap[gb218]? = some (.cells #[.int .i64 a1_0, .int .i64 a1_1] 31 (0, 0))) ∧ Aside0 (Below w.heap.size w wc))
       case first =>
        have H := HC27.out
        clear HC27
        by_cases c29 : 0 ≤ t222
        ·rw [if_pos c29] at H
         have c29b0 := decide_eq_true c29
         clear c29
         (first | rw [c29b0] | (simp only [i64_w, i32_w]; rw [c29b0]) | skip)
         by_cases c30 : t222 < (t227.length : Int)
         ·rw [if_pos c30] at H
          have c30b0 := decide_eq_true c30
          clear c30
          obtain ⟨bq31, hbq31⟩ : ∃ b_ : Bool, b_ = (rdOf false t227 t222) := ⟨_, rfl⟩
          replace H : (if bq31 = true then (if x9_2 = t222 then (spec_Group.j2 k2 x5_2 t222 t224 t227 x9_2 true l0_0) else (if t222 < (t224.length : Int) then (if 0 ≤ x9_2 then (if x9_2 < ((rd_L10 t224 t222).length : Int) then (if rdOf false (rd_L10 t224 t222) x9_2 = true then (if x9_2 < (t224.length : Int) then (if t222 < ((rd_L10 t224 x9_2).length : Int) then (spec_Group.j2 k2 x5_2 t222 t224 t227 x9_2 (rdOf false (rd_L10 t224 x9_2) t222) l0_0) else (none)) else (none)) else (spec_Group.j2 k2 x5_2 t222 t224 t227 x9_2 false l0_0)) else (none)) else (none)) else (none))) else (spec_Group.j2 k2 x5_2 t222 t224 t227 x9_2 false l0_0)) = some r := by rw [← hbq31] at H; exact H
          have Nbq31 := mS hbq31
          clear hbq31
          by_cases c32 : bq31 = true
          ·subst c32
           have H1 := H
           rw [if_pos rfl] at H1
           clear H
           have H := H1
           clear H1
           by_cases c33 : x9_2 = t222
           ·rw [if_pos c33] at H
            have c33b0 : (x9_2 == t222) = true := beq_iff_eq.mpr c33
            have c33b1 : (x9_2 != t222) = false := bne_eq_false_iff_eq.mpr c33
            clear c33
            have H' := mS H
            clear H
            have p230 : 0 ≤ (t222 : Int) := mD
            have q230 : t222 < (t227.length : Int) := mD
            obtain ⟨ad230, e230, hx230_0⟩ := Kd.at_bool (Kd.R_reads' HO_8.out).2.2 t222 p230 q230
            (try rw [← Nbq31.out] at hx230_0); (try rw [← Nbq31.out] at hw230_0)
            cases e230
            replace p230 := eq_true p230
            replace q230 := eq_true q230
            go_wp2
            go_meet
            case rel => exact ⟨_, (true), mE, H', ⟨by have := HJ3.out; have := HK2.out; first | omega | exact Nat.le_refl _⟩, ⟨mR HO_5.out⟩, ⟨mSd HO_7.out⟩, ⟨mR HO_8.out⟩, ⟨mK BK217.out⟩, ⟨mK BK218.out⟩, ⟨(mH2 HB.out GE217.out GE218.out)⟩⟩
           ·rw [if_neg c33] at H
            have c33b0 : (x9_2 == t222) = false := beq_eq_false_iff_ne.mpr c33
            have c33b1 : (x9_2 != t222) = true := bne_iff_ne.mpr c33
            by_cases c34 : t222 < (t224.length : Int)
            ·rw [if_pos c34] at H
             have c34b0 := decide_eq_true c34
             clear c34
             by_cases c35 : 0 ≤ x9_2
             ·rw [if_pos c35] at H
              have c35b0 := decide_eq_true c35
              clear c35
              by_cases c36 : x9_2 < ((rd_L10 t224 t222).length : Int)
              ·rw [if_pos c36] at H
               have c36b0 := decide_eq_true c36
               clear c36
               obtain ⟨bq37, hbq37⟩ : ∃ b_ : Bool, b_ = (rdOf false (rd_L10 t224 t222) x9_2) := ⟨_, rfl⟩
               replace H : (if bq37 = true then (if x9_2 < (t224.length : Int) then (if t222 < ((rd_L10 t224 x9_2).length : Int) then (spec_Group.j2 k2 x5_2 t222 t224 t227 x9_2 (rdOf false (rd_L10 t224 x9_2) t222) l0_0) else (none)) else (none)) else (spec_Group.j2 k2 x5_2 t222 t224 t227 x9_2 false l0_0)) = some r := by rw [← hbq37] at H; exact H
               have Nbq37 := mS hbq37
               clear hbq37
               by_cases c38 : bq37 = true
               ·subst c38
                have H1 := H
                rw [if_pos rfl] at H1
                clear H
                have H := H1
                clear H1
                by_cases c39 : x9_2 < (t224.length : Int)
                ·rw [if_pos c39] at H
                 have c39b0 := decide_eq_true c39
                 clear c39
                 by_cases c40 : t222 < ((rd_L10 t224 x9_2).length : Int)
                 ·rw [if_pos c40] at H
                  have c40b0 := decide_eq_true c40
                  clear c40
                  have H' := mS H
                  clear H
                  have p230 : 0 ≤ (t222 : Int) := mD
                  have q230 : t222 < (t227.length : Int) := mD
                  obtain ⟨ad230, e230, hx230_0⟩ := Kd.at_bool (Kd.R_reads' HO_8.out).2.2 t222 p230 q230
                  (try rw [← Nbq31.out] at hx230_0); (try rw [← Nbq31.out] at hw230_0)
                  (try rw [← Nbq37.out] at hx230_0); (try rw [← Nbq37.out] at hw230_0)
                  cases e230
                  replace p230 := eq_true p230
                  replace q230 := eq_true q230
                  obtain ⟨Ao41, co41, eo41⟩ := Kd.S_slice HO_7.out
                  subst eo41
                  have p231 : 0 ≤ (t222 : Int) := mD
                  have q231 : t222 < (t224.length : Int) := mD
                  obtain ⟨ad231, A231_0, c231_0, e231, hx231_0, hl231_0, hi231_0⟩ := at_L10 (Kd.S_reads' HO_7.out).2.2 t222 p231 q231
                  cases e231
                  obtain ⟨ce231, hce231, hMe231, hcc231⟩ := Kd.S_get HO_7.out [] t222 p231 (by first | exact q231 | exact mD | (have e_ := (Kd.S_reads' HO_7.out).1; omega))
                  obtain ⟨ve231_0, rfl, ge231_0⟩ := hMe231
                  have hv231_0 := hcc231 0 _ rfl
                  rw [Nat.add_zero, show ((Kd.slice 4 Kd.bool)).sz = 1 from rfl, Nat.mul_one] at hv231_0
                  replace hv231_0 := Option.some.inj (hv231_0.symm.trans hx231_0)
                  rw [hv231_0] at ge231_0
                  have HL231_0 := mS (show Kd.R Kd.bool 4 _ _ _ _ (rd_L10 t224 t222) from ge231_0)
                  clear hv231_0 ge231_0
                  clear hcc231 hce231
                  have HR231_0 := mS hi231_0
                  have HC231_0 := mS hl231_0
                  clear hi231_0 hl231_0
                  replace p231 := eq_true p231
                  replace q231 := eq_true q231
                  have p232 : 0 ≤ (x9_2 : Int) := mD
                  have q232 : x9_2 < ((rd_L10 t224 t222).length : Int) := mD
                  obtain ⟨ad232, e232, hx232_0⟩ := Kd.at_bool (by repeat (first | (with_reducible exact HR231_0.out) | (with_reducible refine Kd.C_alloc ?_ _) | (with_reducible refine Kd.C_drewN ?_ _) | (with_reducible refine Kd.C_drew ?_) | exact HR231_0.out)) x9_2 p232 q232
                  (try rw [← Nbq31.out] at hx232_0); (try rw [← Nbq31.out] at hw232_0)
                  (try rw [← Nbq37.out] at hx232_0); (try rw [← Nbq37.out] at hw232_0)
                  cases e232
                  replace p232 := eq_true p232
                  replace q232 := eq_true q232
                  have p233 : 0 ≤ (x9_2 : Int) := mD
                  have q233 : x9_2 < (t224.length : Int) := mD
                  obtain ⟨ad233, A233_0, c233_0, e233, hx233_0, hl233_0, hi233_0⟩ := at_L10 (Kd.S_reads' HO_7.out).2.2 x9_2 p233 q233
                  obtain rfl : ad231 = ad233 := (by injection e233)
                  obtain ⟨ce233, hce233, hMe233, hcc233⟩ := Kd.S_get HO_7.out [] x9_2 p233 (by first | exact q233 | exact mD | (have e_ := (Kd.S_reads' HO_7.out).1; omega))
                  obtain ⟨ve233_0, rfl, ge233_0⟩ := hMe233
                  have hv233_0 := hcc233 0 _ rfl
                  rw [Nat.add_zero, show ((Kd.slice 4 Kd.bool)).sz = 1 from rfl, Nat.mul_one] at hv233_0
                  replace hv233_0 := Option.some.inj (hv233_0.symm.trans hx233_0)
                  rw [hv233_0] at ge233_0
                  have HL233_0 := mS (show Kd.R Kd.bool 4 _ _ _ _ (rd_L10 t224 x9_2) from ge233_0)
                  clear hv233_0 ge233_0
                  clear hcc233 hce233
                  have HR233_0 := mS hi233_0
                  have HC233_0 := mS hl233_0
                  clear hi233_0 hl233_0
                  replace p233 := eq_true p233
                  replace q233 := eq_true q233
                  have p234 : 0 ≤ (t222 : Int) := mD
                  have q234 : t222 < ((rd_L10 t224 x9_2).length : Int) := mD
                  obtain ⟨ad234, e234, hx234_0⟩ := Kd.at_bool (by repeat (first | (with_reducible exact HR233_0.out) | (with_reducible refine Kd.C_alloc ?_ _) | (with_reducible refine Kd.C_drewN ?_ _) | (with_reducible refine Kd.C_drew ?_) | exact HR233_0.out)) t222 p234 q234
                  (try rw [← Nbq31.out] at hx234_0); (try rw [← Nbq31.out] at hw234_0)
                  (try rw [← Nbq37.out] at hx234_0); (try rw [← Nbq37.out] at hw234_0)
                  cases e234
                  replace p234 := eq_true p234
                  replace q234 := eq_true q234
                  go_wp2
                  go_meet
                  case rel => exact ⟨_, (rdOf false (rd_L10 t224 x9_2) t222), mE, H', ⟨by have := HJ3.out; have := HK2.out; first | omega | exact Nat.le_refl _⟩, ⟨mR HO_5.out⟩, ⟨mSd HO_7.out⟩, ⟨mR HO_8.out⟩, ⟨mK BK217.out⟩, ⟨mK BK218.out⟩, ⟨(mH2 HB.out GE217.out GE218.out)⟩⟩
                 ·rw [if_neg c40] at H
                  exact absurd H (by simp)
                ·rw [if_neg c39] at H
                 exact absurd H (by simp)
               ·replace c38 := Bool.eq_false_iff.mpr c38
                subst c38
                have H1 := H
                rw [if_neg (show ¬ (false = true) by decide)] at H1
                clear H
                have H := H1
                clear H1
                have H' := mS H
                clear H
                have p230 : 0 ≤ (t222 : Int) := mD
                have q230 : t222 < (t227.length : Int) := mD
                obtain ⟨ad230, e230, hx230_0⟩ := Kd.at_bool (Kd.R_reads' HO_8.out).2.2 t222 p230 q230
                (try rw [← Nbq31.out] at hx230_0); (try rw [← Nbq31.out] at hw230_0)
                (try rw [← Nbq37.out] at hx230_0); (try rw [← Nbq37.out] at hw230_0)
                cases e230
                replace p230 := eq_true p230
                replace q230 := eq_true q230
                obtain ⟨Ao42, co42, eo42⟩ := Kd.S_slice HO_7.out
                subst eo42
                have p231 : 0 ≤ (t222 : Int) := mD
                have q231 : t222 < (t224.length : Int) := mD
                obtain ⟨ad231, A231_0, c231_0, e231, hx231_0, hl231_0, hi231_0⟩ := at_L10 (Kd.S_reads' HO_7.out).2.2 t222 p231 q231
                cases e231
                obtain ⟨ce231, hce231, hMe231, hcc231⟩ := Kd.S_get HO_7.out [] t222 p231 (by first | exact q231 | exact mD | (have e_ := (Kd.S_reads' HO_7.out).1; omega))
                obtain ⟨ve231_0, rfl, ge231_0⟩ := hMe231
                have hv231_0 := hcc231 0 _ rfl
                rw [Nat.add_zero, show ((Kd.slice 4 Kd.bool)).sz = 1 from rfl, Nat.mul_one] at hv231_0
                replace hv231_0 := Option.some.inj (hv231_0.symm.trans hx231_0)
                rw [hv231_0] at ge231_0
                have HL231_0 := mS (show Kd.R Kd.bool 4 _ _ _ _ (rd_L10 t224 t222) from ge231_0)
                clear hv231_0 ge231_0
                clear hcc231 hce231
                have HR231_0 := mS hi231_0
                have HC231_0 := mS hl231_0
                clear hi231_0 hl231_0
                replace p231 := eq_true p231
                replace q231 := eq_true q231
                have p232 : 0 ≤ (x9_2 : Int) := mD
                have q232 : x9_2 < ((rd_L10 t224 t222).length : Int) := mD
                obtain ⟨ad232, e232, hx232_0⟩ := Kd.at_bool (by repeat (first | (with_reducible exact HR231_0.out) | (with_reducible refine Kd.C_alloc ?_ _) | (with_reducible refine Kd.C_drewN ?_ _) | (with_reducible refine Kd.C_drew ?_) | exact HR231_0.out)) x9_2 p232 q232
                (try rw [← Nbq31.out] at hx232_0); (try rw [← Nbq31.out] at hw232_0)
                (try rw [← Nbq37.out] at hx232_0); (try rw [← Nbq37.out] at hw232_0)
                cases e232
                replace p232 := eq_true p232
                replace q232 := eq_true q232
                go_wp2
                go_meet
                case rel => exact ⟨_, (false), mE, H', ⟨by have := HJ3.out; have := HK2.out; first | omega | exact Nat.le_refl _⟩, ⟨mR HO_5.out⟩, ⟨mSd HO_7.out⟩, ⟨mR HO_8.out⟩, ⟨mK BK217.out⟩, ⟨mK BK218.out⟩, ⟨(mH2 HB.out GE217.out GE218.out)⟩⟩
              ·rw [if_neg c36] at H
               exact absurd H (by simp)
             ·rw [if_neg c35] at H
              exact absurd H (by simp)
            ·rw [if_neg c34] at H
             exact absurd H (by simp)
          ·replace c32 := Bool.eq_false_iff.mpr c32
           subst c32
           have H1 := H
           rw [if_neg (show ¬ (false = true) by decide)] at H1
           clear H
           have H := H1
           clear H1
           have H' := mS H
           clear H
           have p230 : 0 ≤ (t222 : Int) := mD
           have q230 : t222 < (t227.length : Int) := mD
           obtain ⟨ad230, e230, hx230_0⟩ := Kd.at_bool (Kd.R_reads' HO_8.out).2.2 t222 p230 q230
           (try rw [← Nbq31.out] at hx230_0); (try rw [← Nbq31.out] at hw230_0)
           cases e230
           replace p230 := eq_true p230
           replace q230 := eq_true q230
           go_wp2
           go_meet
           case rel => exact ⟨_, (false), mE, H', ⟨by have := HJ3.out; have := HK2.out; first | omega | exact Nat.le_refl _⟩, ⟨mR HO_5.out⟩, ⟨mSd HO_7.out⟩, ⟨mR HO_8.out⟩, ⟨mK BK217.out⟩, ⟨mK BK218.out⟩, ⟨(mH2 HB.out GE217.out GE218.out)⟩⟩
         ·rw [if_neg c30] at H
          exact absurd H (by simp)
        ·rw [if_neg c29] at H
         exact absurd H (by simp)
       case rest =>
        clear HC27
        try clear c1
        try clear c2
        try clear p2
        try clear q2
        try clear hx2
        try clear c3
        try clear q3
        try clear c4
        try clear c7
        try clear c8
        try clear c9
        try clear c14
        try clear c15
        try clear c18
        try clear c21
        try clear c23
        try clear p23
        try clear q23
        try clear hx23
        try clear c26
        try clear c26b0
        try clear c29
        try clear c29b0
        try clear c30
        try clear c30b0
        try clear q31
        try clear c32
        try clear c33
        try clear c33b0
        try clear c33b1
        try clear c34
        try clear c34b0
        try clear c35
        try clear c35b0
        try clear c36
        try clear c36b0
        try clear q37
        try clear c38
        try clear c39
        try clear c39b0
        try clear c40
        try clear c40b0
        try clear hcz10_0
        try clear hcz11_0
        try clear hcz11_1
        try clear hcz16_0
        try clear hcz19_0
        try clear hcz24_0
        try clear hfz10_0
        try clear hfz11_0
        try clear hfz11_1
        try clear hfz16_0
        try clear hfz19_0
        try clear hfz24_0
        try clear hx230_0
        try clear hx231_0
        try clear hx232_0
        try clear hx233_0
        try clear hx234_0
        try clear p2
        try clear p230
        try clear p231
        try clear p232
        try clear p233
        try clear p234
        try clear q230
        try clear q231
        try clear q232
        try clear q233
        try clear q234
        obtain ⟨kq, x59_26, rfl, HA, HJ26, HO_5, HO_7, HO_8, BK217, BK218, HB⟩ := hcut
        cases kq with
        | zero => exact absurd HA.out (by simp [spec_Group.j2])
        | succ kj26 =>
         have H := HA.out
         clear HA
         simp only [spec_Group.j2] at H
         by_cases c43 : x59_26 = true
         ·subst c43
          have H1 := H
          rw [if_pos rfl] at H1
          clear H
          have H := H1
          clear H1
          by_cases c44 : 0 ≤ x9_2
          ·rw [if_pos c44] at H
           have c44b0 := decide_eq_true c44
           clear c44
           by_cases c45 : x9_2 < (l0_0.length : Int)
           ·rw [if_pos c45] at H
            have c45b0 := decide_eq_true c45
            clear c45
            by_cases c46 : x5_2.length < 8796093022208
            ·rw [if_pos c46] at H
             have LMc46 := mS c46
             clear c46
             obtain ⟨y236, hy236⟩ : ∃ y_ : List (S31), y_ = (x5_2 ++ [(⟨(rd_T33 l0_0 x9_2).f0.f0, (rd_T33 l0_0 x9_2).f0.f1⟩ : S31)]) := ⟨_, rfl⟩
             replace H : (spec_Group.l0 kj26 y236 t222 t224 t227 (wrap64 (x9_2 + 1)) l0_0) = some r := by first | (rw [hy236]; with_reducible exact H) | (have H2_ := (Option.bind_some _ _).symm.trans H; rw [hy236]; with_reducible exact H2_) | (have H2_ := (Option.bind_some _ _).symm.trans H; with_reducible exact H2_) | with_reducible exact H | (rw [hy236]; exact H) | exact H
             have Ny236 := mS hy236
             clear hy236
             have H' := mS H
             clear H
             have hnb47 := NB217_218.out
             have hnc47 := NB218_217.out
             have hcz48_0 := mZ BK217.out 0
             have hfz48_0 := blk_frozen BK217.out 0
             have p235 : 0 ≤ (x9_2 : Int) := mD
             have q235 : x9_2 < (l0_0.length : Int) := mD
             obtain ⟨ad235, A235_2, c235_2, e235, hx235_0, hx235_1, hx235_2, hl235_2, hi235_2⟩ := at_T33 HR0_0.out x9_2 p235 q235
             cases e235
             replace hx235_0 := mX HB.out hx235_0
             replace hx235_1 := mX HB.out hx235_1
             replace hx235_2 := mX HB.out hx235_2
             have HR235_2 := mS hi235_2
             have HC235_2 := mS hl235_2
             clear hi235_2 hl235_2
             replace p235 := eq_true p235
             replace q235 := eq_true q235
             go_wp2_with (first | ((with_reducible refine gate_builtin (b := .append) (xs := #[.tmp 60, .tmp 67]) rfl ?_); at_builtin; refine Kd.R_append k31 (w0 := w) w.heap.size rfl (.tmp 60) (.tmp 67) 28 31 (.agg #[(.int .i64 0), (.int .i64 0)]) 16 rfl Try.underlying28 info31 rfl (by decide) (by omega) u5 x5_2 (⟨(rd_T33 l0_0 x9_2).f0.f0, (rd_T33 l0_0 x9_2).f0.f1⟩ : S31) [.int .i64 ((rd_T33 l0_0 x9_2).f0.f0), .int .i64 ((rd_T33 l0_0 x9_2).f0.f1)] (fun k_ => k_ ≠ gb218) (fun _ => False) rfl rfl ?aP (fun _ hk => hk.elim) ?aF ?aO ?aB ?aS ?aL ?_; (case aP => exact k31_mkM _ _ _ (⟨(rd_T33 l0_0 x9_2).f0.f0, (rd_T33 l0_0 x9_2).f0.f1⟩ : S31)); (case aB => exact (mH2 HB.out GE217.out GE218.out)); (case aF => exact (fun k_ hk => Kd.freshB (g := gb218) (o := .cells #[.int .i64 a1_0, .int .i64 a1_1] 31 (0, 0)) (mK BK218.out) k_ hk)); (case aO => exact (mR HO_5.out)); (case aS => exact (below_size (mH2 HB.out GE217.out GE218.out))); (case aL => have := LMc46.out; omega); intro v237 w49 ho hb hg hat; rw [← Ny236.out] at ho; replace HO_7 := mS (Kd.S_over' (mSd HO_7.out) (Kd.R_typed (mR HO_5.out)) (by decide) hg); replace HO_8 := mS (Kd.R_over' (mR HO_8.out) (Kd.R_typed (mR HO_5.out)) (by decide) hg); replace BK217 := mS (blk_grown (g := gb217) (o := .cells #[.slice (some ad235) l0_0.length c0_0] 26 (0, 0)) (mK BK217.out) hg (Kd.R_ne HO_5.out BK217.out (by decide))); replace BK218 := mS (blk_grown (g := gb218) (o := .cells #[.int .i64 a1_0, .int .i64 a1_1] 31 (0, 0)) (mK BK218.out) hg (Kd.R_away HO_5.out (fun _ hk => hk))); replace HB := mS (hb); have HO238 := mS (ho); clear HO_5; clear ho hb hg hat))
             go_roundg kj26
             case measure => have := HJ3.out; have := HK2.out; have := HJ26.out; omega
             case rel => exact ⟨(y236), (wrap64 (x9_2 + 1)), mE, H', ⟨by have := HJ3.out; have := HK2.out; have := HJ26.out; omega⟩, ⟨mR HO238.out⟩, ⟨mSd HO_7.out⟩, ⟨mR HO_8.out⟩, ⟨mK BK217.out⟩, ⟨mK BK218.out⟩, ⟨(mH2 HB.out GE217.out GE218.out)⟩⟩
            ·rw [if_neg c46] at H
             exact absurd H (by simp)
           ·rw [if_neg c45] at H
            exact absurd H (by simp)
          ·rw [if_neg c44] at H
           exact absurd H (by simp)
         ·replace c43 := Bool.eq_false_iff.mpr c43
          subst c43
          have H1 := H
          rw [if_neg (show ¬ (false = true) by decide)] at H1
          clear H
          have H := H1
          clear H1
          have H' := mS H
          clear H
          go_wp2
          go_roundg kj26
          case measure => have := HJ3.out; have := HK2.out; have := HJ26.out; omega
          case rel => exact ⟨(x5_2), (wrap64 (x9_2 + 1)), mE, H', ⟨by have := HJ3.out; have := HK2.out; have := HJ26.out; omega⟩, ⟨mR HO_5.out⟩, ⟨mSd HO_7.out⟩, ⟨mR HO_8.out⟩, ⟨mK BK217.out⟩, ⟨mK BK218.out⟩, ⟨(mH2 HB.out GE217.out GE218.out)⟩⟩
      ·rw [if_neg c26] at H
       have c26b0 := decide_eq_false c26
       clear c26
       obtain rfl := Option.some.inj H
       obtain ⟨Ao50, co50, eo50⟩ := Kd.R_slice HO_8.out
       subst eo50
       go_wp2
       go_ret
       exact ⟨_, mEw, by refine mR ?_; exact Kd.R_mono HO_5.out (fun _ hk => trivial), (mH2 HB.out GE217.out GE218.out)⟩

/-! ### impl_hasDot: function 61 -/
def impl_hasDot.l0 : Nat → List (S31) → Int → Int → Int → Int → Option (Bool)
 | 0, _, _, _, _, _ => none
 | k + 1, x7, x8, x9, x240000, x240001 => if x9 < x8 then (if 0 ≤ x9 then (if x9 < (x7.length : Int) then (if (((rd_T31 x7 x9).f0) == x240000 && (((rd_T31 x7 x9).f1) == x240001)) = true then (some true) else (impl_hasDot.l0 k x7 x8 (wrap64 (x9 + 1)) x240000 x240001)) else (none)) else (none)) else (some false)
def impl_hasDot.f (k : Nat) (l0 : List (S31)) (a1_0 : Int) (a1_1 : Int) : Option (Bool) := impl_hasDot.l0 k l0 (l0.length : Int) 0 a1_0 a1_1
theorem impl_hasDot.mono_l : ∀ k, (∀ y0 y1 y2 y3 y4, LeO (impl_hasDot.l0 k y0 y1 y2 y3 y4) (impl_hasDot.l0 (k + 1) y0 y1 y2 y3 y4))
 | 0 => fun _ _ _ _ _ r h => by simp [impl_hasDot.l0] at h
 | k + 1 => by
  have ih0 := impl_hasDot.mono_l k
  ·intro y0 y1 y2 y3 y4
   unfold impl_hasDot.l0
   repeat' first
   | (with_reducible exact ih0 _ _ _ _ _)
   | (with_reducible exact LeO.refl _)
   | (with_reducible exact LeO.none _)
   | (with_reducible refine LeO.ite ?_ ?_)
   | (with_reducible refine LeO.bind ?_ (fun _ => ?_))
   | exact ih0 _ _ _ _ _
   | exact LeO.none _
   | refine LeO.ite ?_ ?_
   | refine LeO.bind ?_ (fun _ => ?_)
theorem impl_hasDot.mono : ∀ a0 a1 a2 k, LeO (impl_hasDot.f k a0 a1 a2) (impl_hasDot.f (k + 1) a0 a1 a2) := by
 intro a0 a1 a2 k
 have ih0 := impl_hasDot.mono_l k
 unfold impl_hasDot.f
 repeat' first
   | (with_reducible exact ih0 _ _ _ _ _)
   | (with_reducible exact LeO.refl _)
   | (with_reducible exact LeO.none _)
   | (with_reducible refine LeO.ite ?_ ?_)
   | (with_reducible refine LeO.bind ?_ (fun _ => ?_))
   | exact ih0 _ _ _ _ _
   | exact LeO.none _
   | refine LeO.ite ?_ ?_
   | refine LeO.bind ?_ (fun _ => ?_)
set_option maxHeartbeats 8000000 in
set_option maxRecDepth 100000 in
theorem impl_hasDot.calls (k : Nat) (A0 : Option Addr) (c0 : Nat) (l0 : List (S31)) (a1_0 : Int) (a1_1 : Int) (r : Bool) (w : World) (hr0 : Kd.C k31 w A0 l0.length l0) (hc0 : l0.length ≤ c0) (h : impl_hasDot.f k l0 a1_0 a1_1 = some r) :
  Calls Try.prog 61 #[.slice A0 l0.length c0, .agg #[.int .i64 a1_0, .int .i64 a1_1]] w fun e w' => e = .returned (.bool r) ∧ Below w.heap.size w w' := by
 have hu31 := Try.underlying31
 have HR0 := mS hr0
 have HC0 := mS hc0
 clear hr0 hc0
 have HB := mS (Below.refl w.heap.size w)
 have H : (impl_hasDot.l0 k l0 (l0.length : Int) 0 a1_0 a1_1) = some r := h
 clear h
 have H' := mS H
 clear H
 go_enter Try.func61, Try.ntmps61
 go_wp2_with (first | ((with_reducible refine gate_dst (N := 3) rfl ?_); refine mBx 3 #[.int .i64 a1_0, .int .i64 a1_1] 31 ?_; intro gb239 hg w3 hbox hb; have BK239 := mS (hbox); have GW239 := mG hg (mH HB.out); have GE239 := mG hg (mH HB.out); replace HB := mS (below_step (mH HB.out) hb); clear hb hbox hg))
 go_loopg [9] k (fun kq v9 w' => ∃ (x9_1 : Int), v9 = .int .i64 x9_1 ∧ Aside0 (impl_hasDot.l0 kq l0 (l0.length : Int) x9_1 a1_0 a1_1 = some r) ∧ Aside0 (kq ≤ k) ∧ Aside0 (w'.heap[gb239]? = some (.cells #[.int .i64 a1_0, .int .i64 a1_1] 31 (0, 0))) ∧ Aside0 (Below w.heap.size w w'))
 case atStart => exact ⟨(0), mE, H', ⟨Nat.le_refl _⟩, ⟨mK BK239.out⟩, ⟨(mH1 HB.out GE239.out)⟩⟩
 case round =>
  clear H'
  try clear p2
  obtain ⟨x9_1, rfl, HA, HK1, BK239, HB⟩ := hrel
  cases gk with
  | zero => exact absurd HA.out (by simp [impl_hasDot.l0])
  | succ k1 =>
   have H := HA.out
   clear HA
   simp only [impl_hasDot.l0] at H
   by_cases c4 : x9_1 < (l0.length : Int)
   ·rw [if_pos c4] at H
    have c4b0 := decide_eq_true c4
    clear c4
    by_cases c5 : 0 ≤ x9_1
    ·rw [if_pos c5] at H
     have c5b0 := decide_eq_true c5
     clear c5
     by_cases c6 : x9_1 < (l0.length : Int)
     ·rw [if_pos c6] at H
      have c6b0 := decide_eq_true c6
      clear c6
      by_cases c7 : (((rd_T31 l0 x9_1).f0) == a1_0 && (((rd_T31 l0 x9_1).f1) == a1_1)) = true
      ·rw [if_pos c7] at H
       have c7b0 : (((rd_T31 l0 x9_1).f0) == a1_0 && (((rd_T31 l0 x9_1).f1) == a1_1)) = true := c7
       (try (have c7b1 : decide (((rd_T31 l0 x9_1).f0) = a1_0 && (((rd_T31 l0 x9_1).f1) == a1_1)) = true := by simpa using c7))
       (try (have c7b2 : (((rd_T31 l0 x9_1).f0) == a1_0 && (((rd_T31 l0 x9_1).f1) == a1_1)) = true := by simpa using c7))
       clear c7
       obtain rfl := Option.some.inj H
       have p240 : 0 ≤ (x9_1 : Int) := mD
       have q240 : x9_1 < (l0.length : Int) := mD
       obtain ⟨ad240, e240, hx240_0, hx240_1⟩ := at_T31 HR0.out x9_1 p240 q240
       cases e240
       replace hx240_0 := mX HB.out hx240_0
       replace hx240_1 := mX HB.out hx240_1
       replace p240 := eq_true p240
       replace q240 := eq_true q240
       go_wp2_with (first | ((with_reducible refine gate_dst (N := 6) rfl ?_); refine mBx 6 #[.int .i64 0, .int .i64 0] 31 ?_; intro gb241 hg w8 hbox hb; have BK241 := mS (hbox); have GW241 := mG hg (mH1 HB.out GE239.out); have GE241 := mG hg (mH1 HB.out GE239.out); replace HB := mS (below_step (mH1 HB.out GE239.out) hb); have NB239_241 := mNl hg BK239.out; have NB241_239 := mNg hg BK239.out; replace BK239 := mB BK239 hb; clear hb hbox hg; have hnb9 := NB241_239.out; have hnc9 := NB239_241.out; obtain ⟨hcz10_0, hcz10_1, hfz10_0, hfz10_1⟩ := mZ2 BK241.out; obtain ⟨hcz11_0, hcz11_1, hfz11_0, hfz11_1⟩ := mZ2 BK239.out))
       go_ret
       exact ⟨mEw, (mH2 HB.out GE239.out GE241.out)⟩
      ·rw [if_neg c7] at H
       have c7b0 : (((rd_T31 l0 x9_1).f0) == a1_0 && (((rd_T31 l0 x9_1).f1) == a1_1)) = false := by simpa using c7
       (try (have c7b1 : decide (((rd_T31 l0 x9_1).f0) = a1_0 && (((rd_T31 l0 x9_1).f1) == a1_1)) = false := by simpa using c7))
       (try (have c7b2 : (((rd_T31 l0 x9_1).f0) == a1_0 && (((rd_T31 l0 x9_1).f1) == a1_1)) = false := by simpa using c7))
       (try (have c7b3 : ¬ (((rd_T31 l0 x9_1).f0) = a1_0 && (((rd_T31 l0 x9_1).f1) == a1_1)) := by simpa using c7))
       clear c7
       have H' := mS H
       clear H
       have p240 : 0 ≤ (x9_1 : Int) := mD
       have q240 : x9_1 < (l0.length : Int) := mD
       obtain ⟨ad240, e240, hx240_0, hx240_1⟩ := at_T31 HR0.out x9_1 p240 q240
       cases e240
       replace hx240_0 := mX HB.out hx240_0
       replace hx240_1 := mX HB.out hx240_1
       replace p240 := eq_true p240
       replace q240 := eq_true q240
       go_wp2_with (first | ((with_reducible refine gate_dst (N := 6) rfl ?_); refine mBx 6 #[.int .i64 0, .int .i64 0] 31 ?_; intro gb241 hg w12 hbox hb; have BK241 := mS (hbox); have GW241 := mG hg (mH1 HB.out GE239.out); have GE241 := mG hg (mH1 HB.out GE239.out); replace HB := mS (below_step (mH1 HB.out GE239.out) hb); have NB239_241 := mNl hg BK239.out; have NB241_239 := mNg hg BK239.out; replace BK239 := mB BK239 hb; clear hb hbox hg; have hnb13 := NB241_239.out; have hnc13 := NB239_241.out; obtain ⟨hcz14_0, hcz14_1, hfz14_0, hfz14_1⟩ := mZ2 BK241.out; obtain ⟨hcz15_0, hcz15_1, hfz15_0, hfz15_1⟩ := mZ2 BK239.out))
       go_roundg k1
       case measure => have := HK1.out; omega
       case rel => exact ⟨(wrap64 (x9_1 + 1)), mE, H', ⟨by have := HK1.out; omega⟩, ⟨mKf NB239_241.out BK239.out⟩, ⟨(mH2 HB.out GE239.out GE241.out)⟩⟩
     ·rw [if_neg c6] at H
      exact absurd H (by simp)
    ·rw [if_neg c5] at H
     exact absurd H (by simp)
   ·rw [if_neg c4] at H
    have c4b0 := decide_eq_false c4
    clear c4
    obtain rfl := Option.some.inj H
    go_wp2
    go_ret
    exact ⟨mEw, (mH1 HB.out GE239.out)⟩

/-! ### impl_DotLess: function 64 -/
def impl_DotLess.f (a0_0 : Int) (a0_1 : Int) (a1_0 : Int) (a1_1 : Int) : Option (Bool) := if a0_0 < a1_0 then (some true) else (if a0_0 = a1_0 then (some (decide (a0_1 < a1_1))) else (some false))
set_option maxHeartbeats 8000000 in
set_option maxRecDepth 100000 in
theorem impl_DotLess.calls (a0_0 : Int) (a0_1 : Int) (a1_0 : Int) (a1_1 : Int) (r : Bool) (w : World) (h : impl_DotLess.f a0_0 a0_1 a1_0 a1_1 = some r) :
  Calls Try.prog 64 #[.agg #[.int .i64 a0_0, .int .i64 a0_1], .agg #[.int .i64 a1_0, .int .i64 a1_1]] w fun e w' => e = .returned (.bool r) ∧ Below w.heap.size w w' := by
 have hu31 := Try.underlying31
 have HB := mS (Below.refl w.heap.size w)
 have H : (if a0_0 < a1_0 then (some true) else (if a0_0 = a1_0 then (some (decide (a0_1 < a1_1))) else (some false))) = some r := h
 clear h
 by_cases c3 : a0_0 < a1_0
 ·rw [if_pos c3] at H
  have c3b0 := decide_eq_true c3
  clear c3
  obtain rfl := Option.some.inj H
  go_enter Try.func64, Try.ntmps64
  go_wp2_with (first | ((with_reducible refine gate_dst (N := 2) rfl ?_); refine mBx 2 #[.int .i64 a0_0, .int .i64 a0_1] 31 ?_; intro gb242 hg w4 hbox hb; have BK242 := mS (hbox); have GW242 := mG hg (mH HB.out); have GE242 := mG hg (mH HB.out); replace HB := mS (below_step (mH HB.out) hb); clear hb hbox hg) | ((with_reducible refine gate_dst (N := 3) rfl ?_); refine mBx 3 #[.int .i64 a1_0, .int .i64 a1_1] 31 ?_; intro gb243 hg w5 hbox hb; have BK243 := mS (hbox); have GW243 := mG hg (mH1 HB.out GE242.out); have GE243 := mG hg (mH1 HB.out GE242.out); replace HB := mS (below_step (mH1 HB.out GE242.out) hb); have NB242_243 := mNl hg BK242.out; have NB243_242 := mNg hg BK242.out; replace BK242 := mB BK242 hb; clear hb hbox hg; have hnb6 := NB242_243.out; have hnc6 := NB243_242.out; obtain ⟨hcz7_0, hcz7_1, hfz7_0, hfz7_1⟩ := mZ2 BK242.out; obtain ⟨hcz8_0, hcz8_1, hfz8_0, hfz8_1⟩ := mZ2 BK243.out))
  go_ret
  exact ⟨mEw, (mH2 HB.out GE242.out GE243.out)⟩
 ·rw [if_neg c3] at H
  have c3b0 := decide_eq_false c3
  clear c3
  by_cases c9 : a0_0 = a1_0
  ·rw [if_pos c9] at H
   have c9b0 : (a0_0 == a1_0) = true := beq_iff_eq.mpr c9
   have c9b1 : (a0_0 != a1_0) = false := bne_eq_false_iff_eq.mpr c9
   clear c9
   obtain rfl := Option.some.inj H
   go_enter Try.func64, Try.ntmps64
   go_wp2_with (first | ((with_reducible refine gate_dst (N := 2) rfl ?_); refine mBx 2 #[.int .i64 a0_0, .int .i64 a0_1] 31 ?_; intro gb242 hg w10 hbox hb; have BK242 := mS (hbox); have GW242 := mG hg (mH HB.out); have GE242 := mG hg (mH HB.out); replace HB := mS (below_step (mH HB.out) hb); clear hb hbox hg) | ((with_reducible refine gate_dst (N := 3) rfl ?_); refine mBx 3 #[.int .i64 a1_0, .int .i64 a1_1] 31 ?_; intro gb243 hg w11 hbox hb; have BK243 := mS (hbox); have GW243 := mG hg (mH1 HB.out GE242.out); have GE243 := mG hg (mH1 HB.out GE242.out); replace HB := mS (below_step (mH1 HB.out GE242.out) hb); have NB242_243 := mNl hg BK242.out; have NB243_242 := mNg hg BK242.out; replace BK242 := mB BK242 hb; clear hb hbox hg; have hnb12 := NB242_243.out; have hnc12 := NB243_242.out; obtain ⟨hcz13_0, hcz13_1, hfz13_0, hfz13_1⟩ := mZ2 BK242.out; obtain ⟨hcz14_0, hcz14_1, hfz14_0, hfz14_1⟩ := mZ2 BK243.out))
   go_ret
   exact ⟨mEw, (mH2 HB.out GE242.out GE243.out)⟩
  ·rw [if_neg c9] at H
   have c9b0 : (a0_0 == a1_0) = false := beq_eq_false_iff_ne.mpr c9
   have c9b1 : (a0_0 != a1_0) = true := bne_iff_ne.mpr c9
   obtain rfl := Option.some.inj H
   go_enter Try.func64, Try.ntmps64
   go_wp2_with (first | ((with_reducible refine gate_dst (N := 2) rfl ?_); refine mBx 2 #[.int .i64 a0_0, .int .i64 a0_1] 31 ?_; intro gb242 hg w15 hbox hb; have BK242 := mS (hbox); have GW242 := mG hg (mH HB.out); have GE242 := mG hg (mH HB.out); replace HB := mS (below_step (mH HB.out) hb); clear hb hbox hg) | ((with_reducible refine gate_dst (N := 3) rfl ?_); refine mBx 3 #[.int .i64 a1_0, .int .i64 a1_1] 31 ?_; intro gb243 hg w16 hbox hb; have BK243 := mS (hbox); have GW243 := mG hg (mH1 HB.out GE242.out); have GE243 := mG hg (mH1 HB.out GE242.out); replace HB := mS (below_step (mH1 HB.out GE242.out) hb); have NB242_243 := mNl hg BK242.out; have NB243_242 := mNg hg BK242.out; replace BK242 := mB BK242 hb; clear hb hbox hg; have hnb17 := NB242_243.out; have hnc17 := NB243_242.out; obtain ⟨hcz18_0, hcz18_1, hfz18_0, hfz18_1⟩ := mZ2 BK242.out; obtain ⟨hcz19_0, hcz19_1, hfz19_0, hfz19_1⟩ := mZ2 BK243.out))
   go_ret
   exact ⟨mEw, (mH2 HB.out GE242.out GE243.out)⟩

/-! ### impl_in: function 98 -/
def impl_in.f (a0 : Int) (a1 : Int) (a2 : Int) : Option (Bool) := if a0 ≥ a1 then (some (decide (a0 ≤ a2))) else (some false)
set_option maxHeartbeats 8000000 in
set_option maxRecDepth 100000 in
theorem impl_in.calls (a0 : Int) (a1 : Int) (a2 : Int) (r : Bool) (w : World) (h : impl_in.f a0 a1 a2 = some r) :
  Calls Try.prog 98 #[.int .i64 a0, .int .i64 a1, .int .i64 a2] w fun e w' => e = .returned (.bool r) ∧ Drawn0 w w' := by
 have H : (if a0 ≥ a1 then (some (decide (a0 ≤ a2))) else (some false)) = some r := h
 clear h
 by_cases c4 : a0 ≥ a1
 ·rw [if_pos c4] at H
  have c4b0 : decide (a1 ≤ a0) = true := decide_eq_true c4
  clear c4
  obtain rfl := Option.some.inj H
  go_enter Try.func98, Try.ntmps98
  go_wp2
  go_ret
  exact ⟨mE, by repeat (first | exact Drawn0.refl _ | apply Drawn0.step)⟩
 ·rw [if_neg c4] at H
  have c4b0 : decide (a1 ≤ a0) = false := decide_eq_false c4
  clear c4
  obtain rfl := Option.some.inj H
  go_enter Try.func98, Try.ntmps98
  go_wp2
  go_ret
  exact ⟨mE, by repeat (first | exact Drawn0.refl _ | apply Drawn0.step)⟩

/-! ### impl_DotOk: function 113 -/
def impl_DotOk.f (a0_0 : Int) (a0_1 : Int) : Option (Bool) := (impl_in.f a0_0 1 7).bind fun t245 => (if t245 = true then ((impl_in.f a0_1 1 999).bind fun t246 => (some t246)) else (some false))
set_option maxHeartbeats 8000000 in
set_option maxRecDepth 100000 in
theorem impl_DotOk.calls (a0_0 : Int) (a0_1 : Int) (r : Bool) (w : World) (h : impl_DotOk.f a0_0 a0_1 = some r) :
  Calls Try.prog 113 #[.agg #[.int .i64 a0_0, .int .i64 a0_1]] w fun e w' => e = .returned (.bool r) ∧ Below w.heap.size w w' := by
 have hu31 := Try.underlying31
 have HB := mS (Below.refl w.heap.size w)
 have H : ((impl_in.f a0_0 1 7).bind fun t245 => (if t245 = true then ((impl_in.f a0_1 1 999).bind fun t246 => (some t246)) else (some false))) = some r := h
 clear h
 replace H := Option.bind_eq_some_iff.mp H
 obtain ⟨t245, A20, H⟩ := H
 replace H : (if t245 = true then ((impl_in.f a0_1 1 999).bind fun t246 => (some t246)) else (some false)) = some r := H
 have A2 := mS A20
 clear A20
 by_cases c3 : t245 = true
 ·subst c3
  have H1 := H
  rw [if_pos rfl] at H1
  clear H
  have H := H1
  clear H1
  replace H := Option.bind_eq_some_iff.mp H
  obtain ⟨t246, A40, H⟩ := H
  replace H : (some t246) = some r := H
  have A4 := mS A40
  clear A40
  obtain rfl := Option.some.inj H
  go_enter Try.func113, Try.ntmps113
  go_wp2_with (first | ((with_reducible refine gate_dst (N := 1) rfl ?_); refine mBx 1 #[.int .i64 a0_0, .int .i64 a0_1] 31 ?_; intro gb244 hg w5 hbox hb; have BK244 := mS (hbox); have GW244 := mG hg (mH HB.out); have GE244 := mG hg (mH HB.out); replace HB := mS (below_step (mH HB.out) hb); clear hb hbox hg; obtain ⟨hcz6_0, hcz6_1, hfz6_0, hfz6_1⟩ := mZ2 BK244.out) | ((with_reducible refine gate_callee (f := 98) rfl ?_); refine mGo 5 Try.func98 #[.int .i64 a0_0, .int .i64 1, .int .i64 7] ?_; (with_reducible refine (impl_in.calls a0_0 1 7 true _ A2.out).mono ?_); rintro e w' ⟨rfl, ⟨nd, rfl⟩⟩; refine ⟨_, rfl, ?_⟩) | (go_at_call 98; (with_reducible refine (impl_in.calls a0_1 1 999 t246 _ A4.out).mono ?_); rintro e w' ⟨rfl, ⟨nd, rfl⟩⟩))
  go_ret
  exact ⟨mEw, (mH1 HB.out GE244.out)⟩
 ·replace c3 := Bool.eq_false_iff.mpr c3
  subst c3
  have H1 := H
  rw [if_neg (show ¬ (false = true) by decide)] at H1
  clear H
  have H := H1
  clear H1
  obtain rfl := Option.some.inj H
  go_enter Try.func113, Try.ntmps113
  go_wp2_with (first | ((with_reducible refine gate_dst (N := 1) rfl ?_); refine mBx 1 #[.int .i64 a0_0, .int .i64 a0_1] 31 ?_; intro gb244 hg w7 hbox hb; have BK244 := mS (hbox); have GW244 := mG hg (mH HB.out); have GE244 := mG hg (mH HB.out); replace HB := mS (below_step (mH HB.out) hb); clear hb hbox hg; obtain ⟨hcz8_0, hcz8_1, hfz8_0, hfz8_1⟩ := mZ2 BK244.out) | ((with_reducible refine gate_callee (f := 98) rfl ?_); refine mGo 5 Try.func98 #[.int .i64 a0_0, .int .i64 1, .int .i64 7] ?_; (with_reducible refine (impl_in.calls a0_0 1 7 false _ A2.out).mono ?_); rintro e w' ⟨rfl, ⟨nd, rfl⟩⟩; refine ⟨_, rfl, ?_⟩))
  go_ret
  exact ⟨mEw, (mH1 HB.out GE244.out)⟩

end Go.Proofs.Ytgbejjeephipeaa.MFnExactGroup
