-- Written by mp.py, this session's own printer (wip/mp.py).
import Derived.Test.YtgbejjeephipeaaVMShort
import Derived.Test.YtgbejjeephipeaaMFnExactGroupx0
import Derived.Test.YtgbejjeephipeaaMFnExactGroupx8
import Derived.Test.YtgbejjeephipeaaMFnExactGroupx10
import Derived.Test.YtgbejjeephipeaaMFnExactGroupx11
import Derived.Test.YtgbejjeephipeaaMFnExactGroupx12
namespace Go.Proofs.Ytgbejjeephipeaa.MFnExactGroup
open Go.RowKit Go.Proofs.YtgbejjeephipeaaW.PrintWords Go.Proofs.YtgbejjeephipeaaW.PrintLast Go.Proofs.YtgbejjeephipeaaW.PrintMore Go.Proofs.Ytgbejjeephipeaa.MWords
attribute [local go_sem] max2_int min2_int max_two min_two max_three min_three max_four min_four   -- for this text's walks alone
set_option linter.unusedVariables false
set_option linter.unusedSimpArgs false

/-! ### impl_Group: function 36 -/
mutual
def impl_Group.j0 : Nat → List (S31) → Bool → List (S33) → Int → Int → Option ((List (S31)))
 | 0, _, _, _, _, _ => none
 | k + 1, x5, x24, x312000, x313000, x313001 => if x24 = true then (some ([] : List (S31))) else (impl_Group.l0 k (([(⟨x313000, x313001⟩ : S31)] : List (S31))) x5 (x5.length : Int) 0 x312000 x313000 x313001)
def impl_Group.l0 : Nat → List (S31) → List (S31) → Int → Int → List (S33) → Int → Int → Option ((List (S31)))
 | 0, _, _, _, _, _, _, _ => none
 | k + 1, x7, x27, x28, x29, x312000, x313000, x313001 => if x29 < x28 then (if 0 ≤ x29 then (if x29 < (x27.length : Int) then ((impl_reached.f k x312000 ((rd_T31 x27 x29).f0) ((rd_T31 x27 x29).f1)).bind fun bt323 => ((impl_hasDot.f k bt323.1 x313000 x313001).bind fun t327 => (if t327 = true then ((impl_withDot.f k x7 ((rd_T31 x27 x29).f0) ((rd_T31 x27 x29).f1)).bind fun t328 => (impl_Group.l0 k t328 x27 x28 (wrap64 (x29 + 1)) x312000 x313000 x313001)) else (impl_Group.l0 k x7 x27 x28 (wrap64 (x29 + 1)) x312000 x313000 x313001)))) else (none)) else (none)) else (some x7)
end
def impl_Group.f (k : Nat) (l0_0 : List (S33)) (a1_0 : Int) (a1_1 : Int) : Option ((List (S31))) := (impl_reached.f k l0_0 a1_0 a1_1).bind fun bt313 => (if bt313.2 = true then ((impl_GraphOk.f k l0_0).bind fun t317 => (impl_Group.j0 k bt313.1 (!t317) l0_0 a1_0 a1_1)) else (impl_Group.j0 k bt313.1 true l0_0 a1_0 a1_1))
theorem impl_Group.mono_l : ∀ k, (∀ y0 y1 y2 y3 y4, LeO (impl_Group.j0 k y0 y1 y2 y3 y4) (impl_Group.j0 (k + 1) y0 y1 y2 y3 y4)) ∧ (∀ y0 y1 y2 y3 y4 y5 y6, LeO (impl_Group.l0 k y0 y1 y2 y3 y4 y5 y6) (impl_Group.l0 (k + 1) y0 y1 y2 y3 y4 y5 y6))
 | 0 => ⟨fun _ _ _ _ _ r h => by simp [impl_Group.j0] at h, fun _ _ _ _ _ _ _ r h => by simp [impl_Group.l0] at h⟩
 | k + 1 => by
  obtain ⟨ih0, ih1⟩ := impl_Group.mono_l k
  refine ⟨?_, ?_⟩
  ·intro y0 y1 y2 y3 y4
   unfold impl_Group.j0
   repeat' first
   | (with_reducible exact ih0 _ _ _ _ _)
   | (with_reducible exact ih1 _ _ _ _ _ _ _)
   | (with_reducible exact impl_GraphOk.mono _ _)
   | (with_reducible exact impl_hasDot.mono _ _ _ _)
   | (with_reducible exact impl_reached.mono _ _ _ _)
   | (with_reducible exact impl_withDot.mono _ _ _ _)
   | (with_reducible exact LeO.refl _)
   | (with_reducible exact LeO.none _)
   | (with_reducible refine LeO.ite ?_ ?_)
   | (with_reducible refine LeO.bind ?_ (fun _ => ?_))
   | exact ih0 _ _ _ _ _
   | exact ih1 _ _ _ _ _ _ _
   | exact impl_GraphOk.mono _ _
   | exact impl_hasDot.mono _ _ _ _
   | exact impl_reached.mono _ _ _ _
   | exact impl_withDot.mono _ _ _ _
   | exact LeO.none _
   | refine LeO.ite ?_ ?_
   | refine LeO.bind ?_ (fun _ => ?_)
  ·intro y0 y1 y2 y3 y4 y5 y6
   unfold impl_Group.l0
   repeat' first
   | (with_reducible exact ih0 _ _ _ _ _)
   | (with_reducible exact ih1 _ _ _ _ _ _ _)
   | (with_reducible exact impl_GraphOk.mono _ _)
   | (with_reducible exact impl_hasDot.mono _ _ _ _)
   | (with_reducible exact impl_reached.mono _ _ _ _)
   | (with_reducible exact impl_withDot.mono _ _ _ _)
   | (with_reducible exact LeO.refl _)
   | (with_reducible exact LeO.none _)
   | (with_reducible refine LeO.ite ?_ ?_)
   | (with_reducible refine LeO.bind ?_ (fun _ => ?_))
   | exact ih0 _ _ _ _ _
   | exact ih1 _ _ _ _ _ _ _
   | exact impl_GraphOk.mono _ _
   | exact impl_hasDot.mono _ _ _ _
   | exact impl_reached.mono _ _ _ _
   | exact impl_withDot.mono _ _ _ _
   | exact LeO.none _
   | refine LeO.ite ?_ ?_
   | refine LeO.bind ?_ (fun _ => ?_)
theorem impl_Group.mono : ∀ a0 a1 a2 k, LeO (impl_Group.f k a0 a1 a2) (impl_Group.f (k + 1) a0 a1 a2) := by
 intro a0 a1 a2 k
 obtain ⟨ih0, ih1⟩ := impl_Group.mono_l k
 unfold impl_Group.f
 repeat' first
   | (with_reducible exact ih0 _ _ _ _ _)
   | (with_reducible exact ih1 _ _ _ _ _ _ _)
   | (with_reducible exact impl_GraphOk.mono _ _)
   | (with_reducible exact impl_hasDot.mono _ _ _ _)
   | (with_reducible exact impl_reached.mono _ _ _ _)
   | (with_reducible exact impl_withDot.mono _ _ _ _)
   | (with_reducible exact LeO.refl _)
   | (with_reducible exact LeO.none _)
   | (with_reducible refine LeO.ite ?_ ?_)
   | (with_reducible refine LeO.bind ?_ (fun _ => ?_))
   | exact ih0 _ _ _ _ _
   | exact ih1 _ _ _ _ _ _ _
   | exact impl_GraphOk.mono _ _
   | exact impl_hasDot.mono _ _ _ _
   | exact impl_reached.mono _ _ _ _
   | exact impl_withDot.mono _ _ _ _
   | exact LeO.none _
   | refine LeO.ite ?_ ?_
   | refine LeO.bind ?_ (fun _ => ?_)
set_option maxHeartbeats 8000000 in
set_option maxRecDepth 100000 in
theorem impl_Group.calls (k : Nat) (A0_0 : Option Addr) (c0_0 : Nat) (l0_0 : List (S33)) (a1_0 : Int) (a1_1 : Int) (r : List (S31)) (w : World) (hr0_0 : Kd.C k33 w A0_0 l0_0.length l0_0) (hc0_0 : l0_0.length ≤ c0_0) (h : impl_Group.f k l0_0 a1_0 a1_1 = some r) :
  Calls Try.prog 36 #[.agg #[.slice A0_0 l0_0.length c0_0], .agg #[.int .i64 a1_0, .int .i64 a1_1]] w fun e w' => ∃ v0_ : Value, e = .returned (v0_) ∧ Kd.R k31 31 w' w.heap.size (fun _ => True) v0_ r ∧ Below w.heap.size w w' := by
 have hu26 := Try.underlying26
 have hu31 := Try.underlying31
 have HR0_0 := mS hr0_0
 have HC0_0 := mS hc0_0
 clear hr0_0 hc0_0
 have HB := mS (Below.refl w.heap.size w)
 have H : ((impl_reached.f k l0_0 a1_0 a1_1).bind fun bt313 => (if bt313.2 = true then ((impl_GraphOk.f k l0_0).bind fun t317 => (impl_Group.j0 k bt313.1 (!t317) l0_0 a1_0 a1_1)) else (impl_Group.j0 k bt313.1 true l0_0 a1_0 a1_1))) = some r := h
 clear h
 replace H := Option.bind_eq_some_iff.mp H
 obtain ⟨⟨t313, t316⟩, A30, H⟩ := H
 replace H : (if t316 = true then ((impl_GraphOk.f k l0_0).bind fun t317 => (impl_Group.j0 k t313 (!t317) l0_0 a1_0 a1_1)) else (impl_Group.j0 k t313 true l0_0 a1_0 a1_1)) = some r := H
 have A3 := mS A30
 clear A30
 have HC4 := mS H
 clear H
 go_enter Try.func36, Try.ntmps36
 go_upto_region 2 with (first | ((with_reducible refine gate_dst (N := 2) rfl ?_); refine mBx 2 #[.slice A0_0 l0_0.length c0_0] 26 ?_; intro gb311 hg w5 hbox hb; have BK311 := mS (hbox); have GW311 := mG hg (mH HB.out); have GE311 := mG hg (mH HB.out); replace HB := mS (below_step (mH HB.out) hb); clear hb hbox hg) | ((with_reducible refine gate_dst (N := 3) rfl ?_); refine mBx 3 #[.int .i64 a1_0, .int .i64 a1_1] 31 ?_; intro gb312 hg w6 hbox hb; have BK312 := mS (hbox); have GW312 := mG hg (mH1 HB.out GE311.out); have GE312 := mG hg (mH1 HB.out GE311.out); replace HB := mS (below_step (mH1 HB.out GE311.out) hb); have NB311_312 := mNl hg BK311.out; have NB312_311 := mNg hg BK311.out; replace BK311 := mB BK311 hb; clear hb hbox hg; have hnb7 := NB311_312.out; have hnc7 := NB312_311.out; have hcz8_0 := mZ BK311.out 0; have hfz8_0 := blk_frozen BK311.out 0; obtain ⟨hcz9_0, hcz9_1, hfz9_0, hfz9_1⟩ := mZ2 BK312.out) | ((with_reducible refine gate_callee (f := 82) rfl ?_); refine mGo 15 Try.func82 #[.agg #[.slice A0_0 l0_0.length c0_0], .agg #[.int .i64 a1_0, .int .i64 a1_1]] ?_; (with_reducible refine (impl_reached.calls k _ _ l0_0 a1_0 a1_1 t313 t316 _ ?side1 ?side2 A3.out).mono ?_); (case side1 => exact mC (Kd.C_below HR0_0.out HB.out)); (case side2 => exact HC0_0.out); rintro e w10 ⟨v314, rfl, ho0, hb⟩; refine ⟨_, rfl, ?_⟩; have HO315 := mS (Kd.R_lower (Kd.R_newB ho0 (g := gb312) (o := .cells #[.int .i64 a1_0, .int .i64 a1_1] 31 (0, 0)) (mK BK312.out)) (below_size (mH2 HB.out GE311.out GE312.out))); replace BK311 := mB BK311 hb; replace BK312 := mB BK312 hb; replace HB := mS (below_step (mH2 HB.out GE311.out GE312.out) hb); (try clear hb); (try clear ho0)))
 (try simp only [Act.put, zA, zB, zC])
 go_cut [24] (fun v24 wc => ∃ (kq : Nat) (x24_3 : Bool), v24 = .bool x24_3 ∧ Aside0 (impl_Group.j0 kq t313 x24_3 l0_0 a1_0 a1_1 = some r) ∧ Aside0 (kq ≤ k) ∧ Aside0 (Kd.R k31 31 wc w.heap.size (fun k_ => k_ ≠ gb312) v314 t313) ∧ Aside0 (wc.heap[gb311]? = some (.cells #[(.slice A0_0 l0_0.length c0_0)] 26 (0, 0))) ∧ Aside0 (wc.heap[gb312]? = some (.cells #[.int .i64 a1_0, .int .i64 a1_1] 31 (0, 0))) ∧ Aside0 (Below w.heap.size w wc))
 case first =>
  have H := HC4.out
  clear HC4
  by_cases c11 : t316 = true
  ·subst c11
   have H1 := H
   rw [if_pos rfl] at H1
   clear H
   have H := H1
   clear H1
   replace H := Option.bind_eq_some_iff.mp H
   obtain ⟨t317, A120, H⟩ := H
   replace H : (impl_Group.j0 k t313 (!t317) l0_0 a1_0 a1_1) = some r := H
   have A12 := mS A120
   clear A120
   have H' := mS H
   clear H
   have hnb13 := NB311_312.out
   have hnc13 := NB312_311.out
   have hcz14_0 := mZ BK311.out 0
   have hfz14_0 := blk_frozen BK311.out 0
   go_wp2_with (first | (go_at_call 67; (with_reducible refine (impl_GraphOk.calls k _ _ l0_0 t317 _ ?side1 ?side2 A12.out).mono ?_); (case side1 => exact mC (Kd.C_below HR0_0.out HB.out)); (case side2 => exact HC0_0.out); rintro e w15 ⟨rfl, hb⟩; replace HO315 := mS (Kd.R_below (mR HO315.out) hb); replace BK311 := mB BK311 hb; replace BK312 := mB BK312 hb; replace HB := mS (below_step (mH2 HB.out GE311.out GE312.out) hb); (try clear hb); (try clear hb2); (try clear hk); (try clear hi)))
   go_meet
   case rel => exact ⟨_, (!t317), mE, H', ⟨by first | omega | exact Nat.le_refl _⟩, ⟨by refine mR ?_; exact Kd.R_mono HO315.out (fun _ hk => hk.2)⟩, ⟨mK BK311.out⟩, ⟨mK BK312.out⟩, ⟨(mH2 HB.out GE311.out GE312.out)⟩⟩
  ·replace c11 := Bool.eq_false_iff.mpr c11
   subst c11
   have H1 := H
   rw [if_neg (show ¬ (false = true) by decide)] at H1
   clear H
   have H := H1
   clear H1
   have H' := mS H
   clear H
   go_wp2
   go_meet
   case rel => exact ⟨_, (true), mE, H', ⟨by first | omega | exact Nat.le_refl _⟩, ⟨by refine mR ?_; exact Kd.R_mono HO315.out (fun _ hk => hk.2)⟩, ⟨mK BK311.out⟩, ⟨mK BK312.out⟩, ⟨(mH2 HB.out GE311.out GE312.out)⟩⟩
 case rest =>
  clear HC4
  try clear c1
  try clear p2
  try clear c3
  try clear c7
  try clear c8
  try clear c11
  try clear c13
  try clear hcz14_0
  try clear hcz8_0
  try clear hcz9_0
  try clear hcz9_1
  try clear hfz14_0
  try clear hfz8_0
  try clear hfz9_0
  try clear hfz9_1
  obtain ⟨kq, x24_3, rfl, HA, HJ3, HO_5, BK311, BK312, HB⟩ := hcut
  cases kq with
  | zero => exact absurd HA.out (by simp [impl_Group.j0])
  | succ kj3 =>
   have H := HA.out
   clear HA
   simp only [impl_Group.j0] at H
   by_cases c16 : x24_3 = true
   ·subst c16
    have H1 := H
    rw [if_pos rfl] at H1
    clear H
    have H := H1
    clear H1
    obtain rfl := Option.some.inj H
    go_wp2
    go_ret
    exact ⟨_, mEw, by first | exact Kd.R_nil _ _ _ _ _ | exact Kd.N_nil _ _ _ _ _ | exact Kd.V_nil _ _ _ _ _ | exact Kd.Q_nil _ _ _ _ _ | exact Kd.S_nil _ _ _ _ _, (mH2 HB.out GE311.out GE312.out)⟩
   ·replace c16 := Bool.eq_false_iff.mpr c16
    subst c16
    have H1 := H
    rw [if_neg (show ¬ (false = true) by decide)] at H1
    clear H
    have H := H1
    clear H1
    obtain ⟨y318, hy318⟩ : ∃ y_ : List (S31), y_ = (([(⟨a1_0, a1_1⟩ : S31)] : List (S31))) := ⟨_, rfl⟩
    replace H : (impl_Group.l0 kj3 y318 t313 (t313.length : Int) 0 l0_0 a1_0 a1_1) = some r := by first | (rw [hy318]; with_reducible exact H) | (have H2_ := (Option.bind_some _ _).symm.trans H; rw [hy318]; with_reducible exact H2_) | (have H2_ := (Option.bind_some _ _).symm.trans H; with_reducible exact H2_) | with_reducible exact H | (rw [hy318]; exact H) | exact H
    have Ny318 := mS hy318
    clear hy318
    have H' := mS H
    clear H
    have hnb17 := NB312_311.out
    have hnc17 := NB311_312.out
    obtain ⟨hcz18_0, hcz18_1, hfz18_0, hfz18_1⟩ := mZ2 BK312.out
    go_wp2_with (first | ((with_reducible refine gate_dst (N := 26) rfl ?_); refine Kd.R_lit k31 _ 31 ?hg (N := 26) ?hd (xs := ([(⟨a1_0, a1_1⟩ : S31)] : List (S31))) (inner := [.int .i64 a1_0, .int .i64 a1_1]) (ok := fun _ => True) (okp := fun _ => True) ?hr ?hp (fun _ hk => hk) trivial (Below.refl _ _) (Nat.le_refl _) (by simp) ?_; (case hd => rfl); (case hg => rfl); (case hr => first | (go_simp; done) | (go_simp; rfl)); (case hp => exact (Reps.c2 (show Kd.M k31 _ _ _ (⟨a1_0, a1_1⟩ : S31) [.int .i64 a1_0, .int .i64 a1_1] from (k31_mkM _ _ _ (⟨a1_0, a1_1⟩ : S31) )) (Reps.none _ _))); intro v319 w19 ho20 hb hg_ hnew_; clear hg_ hnew_; (first | rw [← Ny318.out] at ho20 | (simp only [Int.reduceToNat] at ho20; rw [← Ny318.out] at ho20)); have HO320 := mS (Kd.R_lower (Kd.R_newB (Kd.R_new' ho20 (Kd.R_lt (mR HO_5.out))) (g := gb312) (o := .cells #[.int .i64 a1_0, .int .i64 a1_1] 31 (0, 0)) (mK BK312.out)) (below_size (mH2 HB.out GE311.out GE312.out))); replace HO_5 := mS (Kd.R_elder' (mR HO_5.out) (Kd.R_base ho20) hb); replace BK311 := mB BK311 hb; replace BK312 := mB BK312 hb; replace HB := mS (below_step (mH2 HB.out GE311.out GE312.out) hb); clear hb ho20; obtain ⟨Ao21, co21, eo21⟩ := Kd.R_slice HO_5.out; subst eo21))
    go_loopg [7, 29] kj3 (fun kq v7 v29 w' => ∃ (x7_2 : List (S31)) (x29_2 : Int), v29 = .int .i64 x29_2 ∧ Aside0 (impl_Group.l0 kq x7_2 t313 (t313.length : Int) x29_2 l0_0 a1_0 a1_1 = some r) ∧ Aside0 (kq ≤ kj3) ∧ Aside0 (Kd.R k31 31 w' w.heap.size (fun k_ => some k_ ≠ ((.slice Ao21 t313.length co21) : Value).ownBlock ∧ k_ ≠ gb312) v7 x7_2) ∧ Aside0 (Kd.R k31 31 w' w.heap.size (fun k_ => some k_ ≠ (v7 : Value).ownBlock ∧ k_ ≠ gb312) (.slice Ao21 t313.length co21) t313) ∧ Aside0 (w'.heap[gb311]? = some (.cells #[(.slice A0_0 l0_0.length c0_0)] 26 (0, 0))) ∧ Aside0 (w'.heap[gb312]? = some (.cells #[.int .i64 a1_0, .int .i64 a1_1] 31 (0, 0))) ∧ Aside0 (Below w.heap.size w w'))
    case atStart => exact ⟨(y318), (0), mE, H', ⟨Nat.le_refl _⟩, ⟨by refine mR ?_; exact Kd.R_mono HO320.out (fun _ hk => ⟨hk.1.2, hk.2⟩)⟩, ⟨by refine mR ?_; exact Kd.R_mono HO_5.out (fun _ hk => ⟨hk.2, hk.1⟩)⟩, ⟨mK BK311.out⟩, ⟨mK BK312.out⟩, ⟨(mH2 HB.out GE311.out GE312.out)⟩⟩
    case round =>
     clear H'
     try clear c1
     try clear c2
     try clear p2
     try clear c3
     try clear c7
     try clear c8
     try clear c11
     try clear c13
     try clear c16
     try clear c17
     try clear hcz14_0
     try clear hcz18_0
     try clear hcz18_1
     try clear hcz8_0
     try clear hcz9_0
     try clear hcz9_1
     try clear hfz14_0
     try clear hfz18_0
     try clear hfz18_1
     try clear hfz8_0
     try clear hfz9_0
     try clear hfz9_1
     try clear p2
     obtain ⟨x7_2, x29_2, rfl, HA, HK2, HO_7, HO_27, BK311, BK312, HB⟩ := hrel
     cases gk with
     | zero => exact absurd HA.out (by simp [impl_Group.l0])
     | succ k2 =>
      have H := HA.out
      clear HA
      simp only [impl_Group.l0] at H
      by_cases c22 : x29_2 < (t313.length : Int)
      ·rw [if_pos c22] at H
       have c22b0 := decide_eq_true c22
       clear c22
       by_cases c23 : 0 ≤ x29_2
       ·rw [if_pos c23] at H
        have c23b0 := decide_eq_true c23
        clear c23
        by_cases c24 : x29_2 < (t313.length : Int)
        ·rw [if_pos c24] at H
         have c24b0 := decide_eq_true c24
         clear c24
         replace H := Option.bind_eq_some_iff.mp H
         obtain ⟨⟨t323, t326⟩, A250, H⟩ := H
         replace H : ((impl_hasDot.f k2 t323 a1_0 a1_1).bind fun t327 => (if t327 = true then ((impl_withDot.f k2 x7_2 ((rd_T31 t313 x29_2).f0) ((rd_T31 t313 x29_2).f1)).bind fun t328 => (impl_Group.l0 k2 t328 t313 (t313.length : Int) (wrap64 (x29_2 + 1)) l0_0 a1_0 a1_1)) else (impl_Group.l0 k2 x7_2 t313 (t313.length : Int) (wrap64 (x29_2 + 1)) l0_0 a1_0 a1_1))) = some r := H
         have A25 := mS A250
         clear A250
         replace H := Option.bind_eq_some_iff.mp H
         obtain ⟨t327, A260, H⟩ := H
         replace H : (if t327 = true then ((impl_withDot.f k2 x7_2 ((rd_T31 t313 x29_2).f0) ((rd_T31 t313 x29_2).f1)).bind fun t328 => (impl_Group.l0 k2 t328 t313 (t313.length : Int) (wrap64 (x29_2 + 1)) l0_0 a1_0 a1_1)) else (impl_Group.l0 k2 x7_2 t313 (t313.length : Int) (wrap64 (x29_2 + 1)) l0_0 a1_0 a1_1)) = some r := H
         have A26 := mS A260
         clear A260
         by_cases c27 : t327 = true
         ·subst c27
          have H1 := H
          rw [if_pos rfl] at H1
          clear H
          have H := H1
          clear H1
          replace H := Option.bind_eq_some_iff.mp H
          obtain ⟨t328, A280, H⟩ := H
          replace H : (impl_Group.l0 k2 t328 t313 (t313.length : Int) (wrap64 (x29_2 + 1)) l0_0 a1_0 a1_1) = some r := H
          have A28 := mS A280
          clear A280
          have H' := mS H
          clear H
          have p321 : 0 ≤ (x29_2 : Int) := mD
          have q321 : x29_2 < (t313.length : Int) := mD
          obtain ⟨ad321, e321, hx321_0, hx321_1⟩ := at_T31 (Kd.R_reads' HO_27.out).2.2 x29_2 p321 q321
          cases e321
          replace p321 := eq_true p321
          replace q321 := eq_true q321
          go_wp2_with (first | ((with_reducible refine gate_dst (N := 9) rfl ?_); refine mBx 9 #[.int .i64 0, .int .i64 0] 31 ?_; intro gb322 hg w29 hbox hb; replace HO_7 := mS (Kd.R_below (Kd.R_elderB (mR HO_7.out) gb322 (Nat.le_of_eq hg.symm)) hb); replace HO_27 := mS (Kd.R_below (Kd.R_elderB (mR HO_27.out) gb322 (Nat.le_of_eq hg.symm)) hb); have BK322 := mS (hbox); have GW322 := mG hg (mH2 HB.out GE311.out GE312.out); have GE322 := mG hg (mH2 HB.out GE311.out GE312.out); replace HB := mS (below_step (mH2 HB.out GE311.out GE312.out) hb); have NB311_322 := mNl hg BK311.out; have NB322_311 := mNg hg BK311.out; replace BK311 := mB BK311 hb; have NB312_322 := mNl hg BK312.out; have NB322_312 := mNg hg BK312.out; replace BK312 := mB BK312 hb; clear hb hbox hg; have hnb30 := NB322_311.out; have hnc30 := NB311_322.out; have hnb31 := NB322_312.out; have hnc31 := NB312_322.out; obtain ⟨hcz32_0, hcz32_1, hfz32_0, hfz32_1⟩ := mZ2 BK322.out; have hnb33 := NB311_312.out; have hnc33 := NB312_311.out; have hcz34_0 := mZ BK311.out 0; have hfz34_0 := blk_frozen BK311.out 0) | ((with_reducible refine gate_callee (f := 82) rfl ?_); refine mGo 36 Try.func82 #[.agg #[.slice A0_0 l0_0.length c0_0], .agg #[.int .i64 ((rd_T31 t313 x29_2).f0), .int .i64 ((rd_T31 t313 x29_2).f1)]] ?_; (with_reducible refine (impl_reached.calls k2 _ _ l0_0 ((rd_T31 t313 x29_2).f0) ((rd_T31 t313 x29_2).f1) t323 t326 _ ?side1 ?side2 A25.out).mono ?_); (case side1 => exact Kd.C_below HR0_0.out (mH3 HB.out GE311.out GE312.out GE322.out)); (case side2 => exact HC0_0.out); rintro e w35 ⟨v324, rfl, ho0, hb⟩; refine ⟨_, rfl, ?_⟩; have HO325 := mS (Kd.R_lower (Kd.R_newB (Kd.R_newB (Kd.R_new' (Kd.R_new' ho0 (Kd.R_lt (by refine mR ?_; exact (Kd.R_mono (mRf2 (Kd.R_mono HO_7.out (fun k_ hk => (⟨hk, hk.2⟩ : _ ∧ k_ ≠ gb322)))) (fun _ h_ => h_.1))))) (Kd.R_lt (by refine mR ?_; exact (Kd.R_mono (mRf2 (Kd.R_mono HO_27.out (fun k_ hk => (⟨hk, hk.2⟩ : _ ∧ k_ ≠ gb322)))) (fun _ h_ => h_.1))))) (g := gb312) (o := .cells #[.int .i64 a1_0, .int .i64 a1_1] 31 (0, 0)) (mKf NB312_322.out BK312.out)) (g := gb322) (o := .cells #[.int .i64 ((rd_T31 t313 x29_2).f0), .int .i64 ((rd_T31 t313 x29_2).f1)] 31 (0, 0)) (by refine mK ?_; refine blk_put (cs := #[.int .i64 ((rd_T31 t313 x29_2).f0), .int .i64 0]) ?_ 1 _ rfl; refine mK ?_; refine blk_put (cs := #[.int .i64 0, .int .i64 0]) ?_ 0 _ rfl; refine mK ?_; exact BK322.out)) (below_size (mH3 HB.out GE311.out GE312.out GE322.out))); replace HO_7 := mS (Kd.R_elder' (by refine mR ?_; exact (Kd.R_mono (mRf2 (Kd.R_mono HO_7.out (fun k_ hk => (⟨hk, hk.2⟩ : _ ∧ k_ ≠ gb322)))) (fun _ h_ => h_.1))) (Kd.R_base ho0) hb); replace HO_27 := mS (Kd.R_elder' (by refine mR ?_; exact (Kd.R_mono (mRf2 (Kd.R_mono HO_27.out (fun k_ hk => (⟨hk, hk.2⟩ : _ ∧ k_ ≠ gb322)))) (fun _ h_ => h_.1))) (Kd.R_base ho0) hb); replace BK311 := mS (blk_below (g := gb311) (o := .cells #[.slice A0_0 l0_0.length c0_0] 26 (0, 0)) (mKf NB311_322.out BK311.out) hb); replace BK312 := mS (blk_below (g := gb312) (o := .cells #[.int .i64 a1_0, .int .i64 a1_1] 31 (0, 0)) (mKf NB312_322.out BK312.out) hb); replace BK322 := mS (blk_below (g := gb322) (o := .cells #[.int .i64 ((rd_T31 t313 x29_2).f0), .int .i64 ((rd_T31 t313 x29_2).f1)] 31 (0, 0)) (by refine mK ?_; refine blk_put (cs := #[.int .i64 ((rd_T31 t313 x29_2).f0), .int .i64 0]) ?_ 1 _ rfl; refine mK ?_; refine blk_put (cs := #[.int .i64 0, .int .i64 0]) ?_ 0 _ rfl; refine mK ?_; exact BK322.out) hb); replace HB := mS (below_step (mH3 HB.out GE311.out GE312.out GE322.out) hb); (try clear hb); (try clear ho0); obtain ⟨hcz36_0, hcz36_1, hfz36_0, hfz36_1⟩ := mZ2 BK312.out; obtain ⟨Ao37, co37, eo37⟩ := Kd.R_slice HO325.out; subst eo37) | ((with_reducible refine gate_callee (f := 61) rfl ?_); refine mGo 41 Try.func61 #[.slice Ao37 t323.length co37, .agg #[.int .i64 a1_0, .int .i64 a1_1]] ?_; (with_reducible refine (impl_hasDot.calls k2 _ _ t323 a1_0 a1_1 true _ ?side1 ?side2 A26.out).mono ?_); (case side1 => exact mC (Kd.R_reads' HO325.out).2.2); (case side2 => exact (Kd.R_reads' HO325.out).2.1); rintro e w38 ⟨rfl, hb⟩; refine ⟨_, rfl, ?_⟩; replace HO_7 := mS (Kd.R_below (mR HO_7.out) hb); replace HO_27 := mS (Kd.R_below (mR HO_27.out) hb); replace HO325 := mS (Kd.R_below (mR HO325.out) hb); replace BK311 := mB BK311 hb; replace BK312 := mB BK312 hb; replace BK322 := mB BK322 hb; replace HB := mS (below_step (mH3 HB.out GE311.out GE312.out GE322.out) hb); (try clear hb); obtain ⟨hcz39_0, hcz39_1, hfz39_0, hfz39_1⟩ := mZ2 BK322.out; obtain ⟨Ao40, co40, eo40⟩ := Kd.R_slice HO_7.out; subst eo40) | ((with_reducible refine gate_callee (f := 83) rfl ?_); refine mGo 44 Try.func83 #[.slice Ao40 x7_2.length co40, .agg #[.int .i64 ((rd_T31 t313 x29_2).f0), .int .i64 ((rd_T31 t313 x29_2).f1)]] ?_; (with_reducible refine (impl_withDot.calls k2 (fun k_ => some k_ = (.slice Ao40 x7_2.length co40 : Value).ownBlock) (.slice Ao40 x7_2.length co40) x7_2 ((rd_T31 t313 x29_2).f0) ((rd_T31 t313 x29_2).f1) t328 w _ ?side1 ?side2 A28.out).mono ?_); (case side1 => exact mH3 HB.out GE311.out GE312.out GE322.out); (case side2 => exact Kd.R_tight rfl HO_7.out); rintro e w41 ⟨v329, rfl, ho0, hb, hkp⟩; refine ⟨_, rfl, ?_⟩; replace BK311 := mS (blk_kept (mK BK311.out) hkp (fun hs_ => (fun e_ => (Kd.R_ne HO_7.out BK311.out (by decide)) e_) hs_)); have HO330 := mS (Kd.R_mono (ok' := fun k_ => some k_ ≠ (.slice (some ad321) t313.length co21 : Value).ownBlock ∧ some k_ ≠ (.slice Ao37 t323.length co37 : Value).ownBlock ∧ k_ ≠ gb312 ∧ k_ ≠ gb322) ho0 (fun k_ hk_ => ⟨Or.elim hk_ (fun hs_ => fun e_ => (((HO_27.out).1 k_ e_.symm).1.1.1) hs_) (fun hn_ => (Kd.fresh' (Kd.R_lt (mR HO_27.out)) k_ hn_)), Or.elim hk_ (fun hs_ => fun e_ => (((HO325.out).1 k_ e_.symm).1.1.1.2) hs_) (fun hn_ => (Kd.fresh' (Kd.R_lt (mR HO325.out)) k_ hn_)), Or.elim hk_ (fun hs_ => fun e_ => (Kd.R_away HO_7.out (fun _ hk => hk.1.1.2)) (by rw [← e_]; exact hs_)) (fun hn_ => (Kd.freshB (g := gb312) (o := .cells #[.int .i64 a1_0, .int .i64 a1_1] 31 (0, 0)) (mK BK312.out) k_ hn_)), Or.elim hk_ (fun hs_ => fun e_ => (Kd.R_away HO_7.out (fun _ hk => hk.1.2)) (by rw [← e_]; exact hs_)) (fun hn_ => (Kd.freshB (g := gb322) (o := .cells #[.int .i64 ((rd_T31 t313 x29_2).f0), .int .i64 ((rd_T31 t313 x29_2).f1)] 31 (0, 0)) (mK BK322.out) k_ hn_))⟩)); replace HO_27 := mS (Kd.R_mono (ok' := fun k_ => some k_ ≠ (.slice Ao37 t323.length co37 : Value).ownBlock ∧ k_ ≠ gb312 ∧ k_ ≠ gb322 ∧ some k_ ≠ (v329 : Value).ownBlock) (Kd.R_keptB (HO_27.out) hkp (fun k_ hk_ hs_ => (hk_.1.1.1) hs_)) (fun k_ hk_ => ⟨hk_.1.2, hk_.1.1.1.2, hk_.1.1.2, fun e_ => Or.elim (ho0.1 k_ e_.symm) (fun hs_ => hk_.2.1 hs_) (fun hn_ => Nat.not_le.2 hk_.2.2 hn_)⟩)); replace BK312 := mS (blk_kept (mK BK312.out) hkp (fun hs_ => (fun e_ => (Kd.R_away HO_7.out (fun _ hk => hk.1.1.2)) e_) hs_)); replace BK322 := mS (blk_kept (mK BK322.out) hkp (fun hs_ => (fun e_ => (Kd.R_away HO_7.out (fun _ hk => hk.1.2)) e_) hs_)); replace HO325 := mS (Kd.R_mono (ok' := fun k_ => some k_ ≠ (.slice (some ad321) t313.length co21 : Value).ownBlock ∧ k_ ≠ gb312 ∧ k_ ≠ gb322 ∧ some k_ ≠ (v329 : Value).ownBlock) (Kd.R_keptB (HO325.out) hkp (fun k_ hk_ hs_ => (hk_.1.1.1.2) hs_)) (fun k_ hk_ => ⟨hk_.1.1.1.2, hk_.1.1.2, hk_.1.2, fun e_ => Or.elim (ho0.1 k_ e_.symm) (fun hs_ => hk_.2.1 hs_) (fun hn_ => Nat.not_le.2 hk_.2.2 hn_)⟩)); replace HB := mS (hb); clear HO_7; (try clear hb); (try clear hkp); (try clear ho0)))
          go_roundg k2
          case measure => have := HJ3.out; have := HK2.out; omega
          case rel => exact ⟨(t328), (wrap64 (x29_2 + 1)), mE, H', ⟨by have := HJ3.out; have := HK2.out; omega⟩, ⟨by refine mR ?_; exact Kd.R_mono HO330.out (fun _ hk => ⟨hk.1, hk.2.2.1⟩)⟩, ⟨by refine mR ?_; exact Kd.R_mono HO_27.out (fun _ hk => ⟨hk.2.2.2, hk.2.1⟩)⟩, ⟨mK BK311.out⟩, ⟨mK BK312.out⟩, ⟨(mH3 HB.out GE311.out GE312.out GE322.out)⟩⟩
         ·replace c27 := Bool.eq_false_iff.mpr c27
          subst c27
          have H1 := H
          rw [if_neg (show ¬ (false = true) by decide)] at H1
          clear H
          have H := H1
          clear H1
          have H' := mS H
          clear H
          have p321 : 0 ≤ (x29_2 : Int) := mD
          have q321 : x29_2 < (t313.length : Int) := mD
          obtain ⟨ad321, e321, hx321_0, hx321_1⟩ := at_T31 (Kd.R_reads' HO_27.out).2.2 x29_2 p321 q321
          cases e321
          replace p321 := eq_true p321
          replace q321 := eq_true q321
          go_wp2_with (first | ((with_reducible refine gate_dst (N := 9) rfl ?_); refine mBx 9 #[.int .i64 0, .int .i64 0] 31 ?_; intro gb322 hg w42 hbox hb; replace HO_7 := mS (Kd.R_below (Kd.R_elderB (mR HO_7.out) gb322 (Nat.le_of_eq hg.symm)) hb); replace HO_27 := mS (Kd.R_below (Kd.R_elderB (mR HO_27.out) gb322 (Nat.le_of_eq hg.symm)) hb); have BK322 := mS (hbox); have GW322 := mG hg (mH2 HB.out GE311.out GE312.out); have GE322 := mG hg (mH2 HB.out GE311.out GE312.out); replace HB := mS (below_step (mH2 HB.out GE311.out GE312.out) hb); have NB311_322 := mNl hg BK311.out; have NB322_311 := mNg hg BK311.out; replace BK311 := mB BK311 hb; have NB312_322 := mNl hg BK312.out; have NB322_312 := mNg hg BK312.out; replace BK312 := mB BK312 hb; clear hb hbox hg; have hnb43 := NB322_311.out; have hnc43 := NB311_322.out; have hnb44 := NB322_312.out; have hnc44 := NB312_322.out; obtain ⟨hcz45_0, hcz45_1, hfz45_0, hfz45_1⟩ := mZ2 BK322.out; have hnb46 := NB311_312.out; have hnc46 := NB312_311.out; have hcz47_0 := mZ BK311.out 0; have hfz47_0 := blk_frozen BK311.out 0) | ((with_reducible refine gate_callee (f := 82) rfl ?_); refine mGo 36 Try.func82 #[.agg #[.slice A0_0 l0_0.length c0_0], .agg #[.int .i64 ((rd_T31 t313 x29_2).f0), .int .i64 ((rd_T31 t313 x29_2).f1)]] ?_; (with_reducible refine (impl_reached.calls k2 _ _ l0_0 ((rd_T31 t313 x29_2).f0) ((rd_T31 t313 x29_2).f1) t323 t326 _ ?side1 ?side2 A25.out).mono ?_); (case side1 => exact Kd.C_below HR0_0.out (mH3 HB.out GE311.out GE312.out GE322.out)); (case side2 => exact HC0_0.out); rintro e w48 ⟨v324, rfl, ho0, hb⟩; refine ⟨_, rfl, ?_⟩; have HO325 := mS (Kd.R_lower (Kd.R_newB (Kd.R_newB (Kd.R_new' (Kd.R_new' ho0 (Kd.R_lt (by refine mR ?_; exact (Kd.R_mono (mRf2 (Kd.R_mono HO_7.out (fun k_ hk => (⟨hk, hk.2⟩ : _ ∧ k_ ≠ gb322)))) (fun _ h_ => h_.1))))) (Kd.R_lt (by refine mR ?_; exact (Kd.R_mono (mRf2 (Kd.R_mono HO_27.out (fun k_ hk => (⟨hk, hk.2⟩ : _ ∧ k_ ≠ gb322)))) (fun _ h_ => h_.1))))) (g := gb312) (o := .cells #[.int .i64 a1_0, .int .i64 a1_1] 31 (0, 0)) (mKf NB312_322.out BK312.out)) (g := gb322) (o := .cells #[.int .i64 ((rd_T31 t313 x29_2).f0), .int .i64 ((rd_T31 t313 x29_2).f1)] 31 (0, 0)) (by refine mK ?_; refine blk_put (cs := #[.int .i64 ((rd_T31 t313 x29_2).f0), .int .i64 0]) ?_ 1 _ rfl; refine mK ?_; refine blk_put (cs := #[.int .i64 0, .int .i64 0]) ?_ 0 _ rfl; refine mK ?_; exact BK322.out)) (below_size (mH3 HB.out GE311.out GE312.out GE322.out))); replace HO_7 := mS (Kd.R_elder' (by refine mR ?_; exact (Kd.R_mono (mRf2 (Kd.R_mono HO_7.out (fun k_ hk => (⟨hk, hk.2⟩ : _ ∧ k_ ≠ gb322)))) (fun _ h_ => h_.1))) (Kd.R_base ho0) hb); replace HO_27 := mS (Kd.R_elder' (by refine mR ?_; exact (Kd.R_mono (mRf2 (Kd.R_mono HO_27.out (fun k_ hk => (⟨hk, hk.2⟩ : _ ∧ k_ ≠ gb322)))) (fun _ h_ => h_.1))) (Kd.R_base ho0) hb); replace BK311 := mS (blk_below (g := gb311) (o := .cells #[.slice A0_0 l0_0.length c0_0] 26 (0, 0)) (mKf NB311_322.out BK311.out) hb); replace BK312 := mS (blk_below (g := gb312) (o := .cells #[.int .i64 a1_0, .int .i64 a1_1] 31 (0, 0)) (mKf NB312_322.out BK312.out) hb); replace BK322 := mS (blk_below (g := gb322) (o := .cells #[.int .i64 ((rd_T31 t313 x29_2).f0), .int .i64 ((rd_T31 t313 x29_2).f1)] 31 (0, 0)) (by refine mK ?_; refine blk_put (cs := #[.int .i64 ((rd_T31 t313 x29_2).f0), .int .i64 0]) ?_ 1 _ rfl; refine mK ?_; refine blk_put (cs := #[.int .i64 0, .int .i64 0]) ?_ 0 _ rfl; refine mK ?_; exact BK322.out) hb); replace HB := mS (below_step (mH3 HB.out GE311.out GE312.out GE322.out) hb); (try clear hb); (try clear ho0); obtain ⟨hcz49_0, hcz49_1, hfz49_0, hfz49_1⟩ := mZ2 BK312.out; obtain ⟨Ao50, co50, eo50⟩ := Kd.R_slice HO325.out; subst eo50) | ((with_reducible refine gate_callee (f := 61) rfl ?_); refine mGo 41 Try.func61 #[.slice Ao50 t323.length co50, .agg #[.int .i64 a1_0, .int .i64 a1_1]] ?_; (with_reducible refine (impl_hasDot.calls k2 _ _ t323 a1_0 a1_1 false _ ?side1 ?side2 A26.out).mono ?_); (case side1 => exact mC (Kd.R_reads' HO325.out).2.2); (case side2 => exact (Kd.R_reads' HO325.out).2.1); rintro e w51 ⟨rfl, hb⟩; refine ⟨_, rfl, ?_⟩; replace HO_7 := mS (Kd.R_below (mR HO_7.out) hb); replace HO_27 := mS (Kd.R_below (mR HO_27.out) hb); replace HO325 := mS (Kd.R_below (mR HO325.out) hb); replace BK311 := mB BK311 hb; replace BK312 := mB BK312 hb; replace BK322 := mB BK322 hb; replace HB := mS (below_step (mH3 HB.out GE311.out GE312.out GE322.out) hb); (try clear hb)))
          go_roundg k2
          case measure => have := HJ3.out; have := HK2.out; omega
          case rel => exact ⟨(x7_2), (wrap64 (x29_2 + 1)), mE, H', ⟨by have := HJ3.out; have := HK2.out; omega⟩, ⟨by refine mR ?_; exact Kd.R_mono HO_7.out (fun _ hk => ⟨hk.1.1.1, hk.1.1.2⟩)⟩, ⟨by refine mR ?_; exact Kd.R_mono HO_27.out (fun _ hk => ⟨hk.1.1.1, hk.1.1.2⟩)⟩, ⟨mK BK311.out⟩, ⟨mK BK312.out⟩, ⟨(mH3 HB.out GE311.out GE312.out GE322.out)⟩⟩
        ·rw [if_neg c24] at H
         exact absurd H (by simp)
       ·rw [if_neg c23] at H
        exact absurd H (by simp)
      ·rw [if_neg c22] at H
       have c22b0 := decide_eq_false c22
       clear c22
       obtain rfl := Option.some.inj H
       go_wp2
       go_ret
       exact ⟨_, mEw, by refine mR ?_; exact Kd.R_mono HO_7.out (fun _ hk => trivial), (mH2 HB.out GE311.out GE312.out)⟩

end Go.Proofs.Ytgbejjeephipeaa.MFnExactGroup
