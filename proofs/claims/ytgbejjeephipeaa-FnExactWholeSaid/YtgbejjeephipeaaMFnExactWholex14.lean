-- Written by mp.py, this session's own printer (wip/mp.py).
import Derived.Test.YtgbejjeephipeaaVMShort
import Derived.Test.YtgbejjeephipeaaMFnExactWholex0
import Derived.Test.YtgbejjeephipeaaMFnExactWholex2
import Derived.Test.YtgbejjeephipeaaMFnExactWholex3
import Derived.Test.YtgbejjeephipeaaMFnExactWholex4
import Derived.Test.YtgbejjeephipeaaMFnExactWholex9
import Derived.Test.YtgbejjeephipeaaMFnExactWholex11
import Derived.Test.YtgbejjeephipeaaMFnExactWholex12
import Derived.Test.YtgbejjeephipeaaMFnExactWholex13
namespace Go.Proofs.Ytgbejjeephipeaa.MFnExactWhole
open Go.RowKit Go.Proofs.YtgbejjeephipeaaW.PrintWords Go.Proofs.YtgbejjeephipeaaW.PrintLast Go.Proofs.YtgbejjeephipeaaW.PrintMore Go.Proofs.Ytgbejjeephipeaa.MWords
attribute [local go_sem] max2_int min2_int max_two min_two max_three min_three max_four min_four   -- for this text's walks alone
set_option linter.unusedVariables false
set_option linter.unusedSimpArgs false

/-! ### impl_Whole: function 30 -/
def impl_Whole.l0 : Nat → List (S31) → List (S33) → Int → Int → List (S33) → Option ((List (S31)))
 | 0, _, _, _, _, _ => none
 | k + 1, x3, x13, x14, x15, x304000 => if x15 < x14 then (if 0 ≤ x15 then (if x15 < (x13.length : Int) then ((impl_reached.f k x304000 ((rd_T33 x13 x15).f0.f0) ((rd_T33 x13 x15).f0.f1)).bind fun bt307 => (if bt307.2 = true then ((impl_withDot.f k x3 ((rd_T33 x13 x15).f0.f0) ((rd_T33 x13 x15).f0.f1)).bind fun t311 => (impl_Whole.l0 k t311 x13 x14 (wrap64 (x15 + 1)) x304000)) else (impl_Whole.l0 k x3 x13 x14 (wrap64 (x15 + 1)) x304000))) else (none)) else (none)) else (some x3)
def impl_Whole.f (k : Nat) (l0_0 : List (S33)) : Option ((List (S31))) := (impl_GraphOk.f k l0_0).bind fun t304 => (if t304 = true then (impl_Whole.l0 k ([] : List (S31)) l0_0 (l0_0.length : Int) 0 l0_0) else (some ([] : List (S31))))
theorem impl_Whole.mono_l : ∀ k, (∀ y0 y1 y2 y3 y4, LeO (impl_Whole.l0 k y0 y1 y2 y3 y4) (impl_Whole.l0 (k + 1) y0 y1 y2 y3 y4))
 | 0 => fun _ _ _ _ _ r h => by simp [impl_Whole.l0] at h
 | k + 1 => by
  have ih0 := impl_Whole.mono_l k
  ·intro y0 y1 y2 y3 y4
   unfold impl_Whole.l0
   repeat' first
   | (with_reducible exact ih0 _ _ _ _ _)
   | (with_reducible exact impl_GraphOk.mono _ _)
   | (with_reducible exact impl_reached.mono _ _ _ _)
   | (with_reducible exact impl_withDot.mono _ _ _ _)
   | (with_reducible exact LeO.refl _)
   | (with_reducible exact LeO.none _)
   | (with_reducible refine LeO.ite ?_ ?_)
   | (with_reducible refine LeO.bind ?_ (fun _ => ?_))
   | exact ih0 _ _ _ _ _
   | exact impl_GraphOk.mono _ _
   | exact impl_reached.mono _ _ _ _
   | exact impl_withDot.mono _ _ _ _
   | exact LeO.none _
   | refine LeO.ite ?_ ?_
   | refine LeO.bind ?_ (fun _ => ?_)
theorem impl_Whole.mono : ∀ a0 k, LeO (impl_Whole.f k a0) (impl_Whole.f (k + 1) a0) := by
 intro a0 k
 have ih0 := impl_Whole.mono_l k
 unfold impl_Whole.f
 repeat' first
   | (with_reducible exact ih0 _ _ _ _ _)
   | (with_reducible exact impl_GraphOk.mono _ _)
   | (with_reducible exact impl_reached.mono _ _ _ _)
   | (with_reducible exact impl_withDot.mono _ _ _ _)
   | (with_reducible exact LeO.refl _)
   | (with_reducible exact LeO.none _)
   | (with_reducible refine LeO.ite ?_ ?_)
   | (with_reducible refine LeO.bind ?_ (fun _ => ?_))
   | exact ih0 _ _ _ _ _
   | exact impl_GraphOk.mono _ _
   | exact impl_reached.mono _ _ _ _
   | exact impl_withDot.mono _ _ _ _
   | exact LeO.none _
   | refine LeO.ite ?_ ?_
   | refine LeO.bind ?_ (fun _ => ?_)
set_option maxHeartbeats 8000000 in
set_option maxRecDepth 100000 in
theorem impl_Whole.calls (k : Nat) (A0_0 : Option Addr) (c0_0 : Nat) (l0_0 : List (S33)) (r : List (S31)) (w : World) (hr0_0 : Kd.C k33 w A0_0 l0_0.length l0_0) (hc0_0 : l0_0.length ≤ c0_0) (h : impl_Whole.f k l0_0 = some r) :
  Calls Try.prog 30 #[.agg #[.slice A0_0 l0_0.length c0_0]] w fun e w' => ∃ v0_ : Value, e = .returned (v0_) ∧ Kd.R k31 31 w' w.heap.size (fun _ => True) v0_ r ∧ Below w.heap.size w w' := by
 have hu26 := Try.underlying26
 have hu33 := Try.underlying33
 have hu31 := Try.underlying31
 have HR0_0 := mS hr0_0
 have HC0_0 := mS hc0_0
 clear hr0_0 hc0_0
 have HB := mS (Below.refl w.heap.size w)
 have H : ((impl_GraphOk.f k l0_0).bind fun t304 => (if t304 = true then (impl_Whole.l0 k ([] : List (S31)) l0_0 (l0_0.length : Int) 0 l0_0) else (some ([] : List (S31))))) = some r := h
 clear h
 replace H := Option.bind_eq_some_iff.mp H
 obtain ⟨t304, A20, H⟩ := H
 replace H : (if t304 = true then (impl_Whole.l0 k ([] : List (S31)) l0_0 (l0_0.length : Int) 0 l0_0) else (some ([] : List (S31)))) = some r := H
 have A2 := mS A20
 clear A20
 by_cases c3 : t304 = true
 ·subst c3
  have H1 := H
  rw [if_pos rfl] at H1
  clear H
  have H := H1
  clear H1
  have H' := mS H
  clear H
  go_enter Try.func30, Try.ntmps30
  go_wp2_with (first | ((with_reducible refine gate_dst (N := 1) rfl ?_); refine mBx 1 #[.slice A0_0 l0_0.length c0_0] 26 ?_; intro gb303 hg w4 hbox hb; have BK303 := mS (hbox); have GW303 := mG hg (mH HB.out); have GE303 := mG hg (mH HB.out); replace HB := mS (below_step (mH HB.out) hb); clear hb hbox hg; have hcz5_0 := mZ BK303.out 0; have hfz5_0 := blk_frozen BK303.out 0) | ((with_reducible refine gate_callee (f := 67) rfl ?_); refine mGo 9 Try.func67 #[.agg #[.slice A0_0 l0_0.length c0_0]] ?_; (with_reducible refine (impl_GraphOk.calls k _ _ l0_0 true _ ?side1 ?side2 A2.out).mono ?_); (case side1 => exact mC (Kd.C_below HR0_0.out HB.out)); (case side2 => exact HC0_0.out); rintro e w6 ⟨rfl, hb⟩; refine ⟨_, rfl, ?_⟩; replace BK303 := mB BK303 hb; replace HB := mS (below_step (mH1 HB.out GE303.out) hb); (try clear hb); have hcz7_0 := mZ BK303.out 0; have hfz7_0 := blk_frozen BK303.out 0))
  go_loopg [3, 15] k (fun kq v3 v15 w' => ∃ (x3_1 : List (S31)) (x15_1 : Int), v15 = .int .i64 x15_1 ∧ Aside0 (impl_Whole.l0 kq x3_1 l0_0 (l0_0.length : Int) x15_1 l0_0 = some r) ∧ Aside0 (kq ≤ k) ∧ Aside0 (Kd.R k31 31 w' w.heap.size (fun _ => True) v3 x3_1) ∧ Aside0 (w'.heap[gb303]? = some (.cells #[(.slice A0_0 l0_0.length c0_0)] 26 (0, 0))) ∧ Aside0 (Below w.heap.size w w'))
  case atStart => exact ⟨(([] : List (S31))), (0), mE, H', ⟨Nat.le_refl _⟩, ⟨by first | exact Kd.R_nil _ _ _ _ _ | exact Kd.N_nil _ _ _ _ _ | exact Kd.V_nil _ _ _ _ _ | exact Kd.Q_nil _ _ _ _ _ | exact Kd.S_nil _ _ _ _ _⟩, ⟨mK BK303.out⟩, ⟨(mH1 HB.out GE303.out)⟩⟩
  case round =>
   clear H'
   try clear p2
   try clear c3
   try clear c6
   try clear hcz5_0
   try clear hcz7_0
   try clear hfz5_0
   try clear hfz7_0
   obtain ⟨x3_1, x15_1, rfl, HA, HK1, HO_3, BK303, HB⟩ := hrel
   cases gk with
   | zero => exact absurd HA.out (by simp [impl_Whole.l0])
   | succ k1 =>
    have H := HA.out
    clear HA
    simp only [impl_Whole.l0] at H
    by_cases c8 : x15_1 < (l0_0.length : Int)
    ·rw [if_pos c8] at H
     have c8b0 := decide_eq_true c8
     clear c8
     by_cases c9 : 0 ≤ x15_1
     ·rw [if_pos c9] at H
      have c9b0 := decide_eq_true c9
      clear c9
      by_cases c10 : x15_1 < (l0_0.length : Int)
      ·rw [if_pos c10] at H
       have c10b0 := decide_eq_true c10
       clear c10
       replace H := Option.bind_eq_some_iff.mp H
       obtain ⟨⟨t307, t310⟩, A110, H⟩ := H
       replace H : (if t310 = true then ((impl_withDot.f k1 x3_1 ((rd_T33 l0_0 x15_1).f0.f0) ((rd_T33 l0_0 x15_1).f0.f1)).bind fun t311 => (impl_Whole.l0 k1 t311 l0_0 (l0_0.length : Int) (wrap64 (x15_1 + 1)) l0_0)) else (impl_Whole.l0 k1 x3_1 l0_0 (l0_0.length : Int) (wrap64 (x15_1 + 1)) l0_0)) = some r := H
       have A11 := mS A110
       clear A110
       by_cases c12 : t310 = true
       ·subst c12
        have H1 := H
        rw [if_pos rfl] at H1
        clear H
        have H := H1
        clear H1
        replace H := Option.bind_eq_some_iff.mp H
        obtain ⟨t311, A130, H⟩ := H
        replace H : (impl_Whole.l0 k1 t311 l0_0 (l0_0.length : Int) (wrap64 (x15_1 + 1)) l0_0) = some r := H
        have A13 := mS A130
        clear A130
        have H' := mS H
        clear H
        have p305 : 0 ≤ (x15_1 : Int) := mD
        have q305 : x15_1 < (l0_0.length : Int) := mD
        obtain ⟨ad305, A305_2, c305_2, e305, hx305_0, hx305_1, hx305_2, hl305_2, hi305_2⟩ := at_T33 HR0_0.out x15_1 p305 q305
        cases e305
        replace hx305_0 := mX HB.out hx305_0
        replace hx305_1 := mX HB.out hx305_1
        replace hx305_2 := mX HB.out hx305_2
        have HR305_2 := mS hi305_2
        have HC305_2 := mS hl305_2
        clear hi305_2 hl305_2
        replace p305 := eq_true p305
        replace q305 := eq_true q305
        go_wp2_with (first | ((with_reducible refine gate_dst (N := 5) rfl ?_); refine mBx 5 #[.int .i64 0, .int .i64 0, .slice none 0 0] 33 ?_; intro gb306 hg w14 hbox hb; replace HO_3 := mS (Kd.R_below (mR HO_3.out) hb); have BK306 := mS (hbox); have GW306 := mG hg (mH1 HB.out GE303.out); have GE306 := mG hg (mH1 HB.out GE303.out); replace HB := mS (below_step (mH1 HB.out GE303.out) hb); have NB303_306 := mNl hg BK303.out; have NB306_303 := mNg hg BK303.out; replace BK303 := mB BK303 hb; clear hb hbox hg; have hnb15 := NB306_303.out; have hnc15 := NB303_306.out; obtain ⟨hcz16_0, hcz16_1, hcz16_2, hfz16_0, hfz16_1, hfz16_2⟩ := mZ3 BK306.out; have hcz17_0 := mZ BK303.out 0; have hfz17_0 := blk_frozen BK303.out 0) | ((with_reducible refine gate_callee (f := 82) rfl ?_); refine mGo 23 Try.func82 #[.agg #[.slice (some ad305) l0_0.length c0_0], .agg #[.int .i64 ((rd_T33 l0_0 x15_1).f0.f0), .int .i64 ((rd_T33 l0_0 x15_1).f0.f1)]] ?_; (with_reducible refine (impl_reached.calls k1 _ _ l0_0 ((rd_T33 l0_0 x15_1).f0.f0) ((rd_T33 l0_0 x15_1).f0.f1) t307 true _ ?side1 ?side2 A11.out).mono ?_); (case side1 => exact Kd.C_below HR0_0.out (mH2 HB.out GE303.out GE306.out)); (case side2 => exact HC0_0.out); rintro e w18 ⟨v308, rfl, ho0, hb⟩; refine ⟨_, rfl, ?_⟩; have HO309 := mS (Kd.R_lower (Kd.R_new' ho0 (Kd.R_lt (by refine mR ?_; exact (Kd.R_mono (mRf3 (Kd.R_types HO_3.out BK306.out (by decide))) (fun _ h_ => h_.1))))) (below_size (mH2 HB.out GE303.out GE306.out))); replace HO_3 := mS (Kd.R_elder' (by refine mR ?_; exact (Kd.R_mono (mRf3 (Kd.R_types HO_3.out BK306.out (by decide))) (fun _ h_ => h_.1))) (Kd.R_base ho0) hb); replace BK303 := mS (blk_below (g := gb303) (o := .cells #[.slice (some ad305) l0_0.length c0_0] 26 (0, 0)) (mKf NB303_306.out BK303.out) hb); replace BK306 := mS (blk_below (g := gb306) (o := .cells #[.int .i64 ((rd_T33 l0_0 x15_1).f0.f0), .int .i64 ((rd_T33 l0_0 x15_1).f0.f1), .slice A305_2 ((rd_T33 l0_0 x15_1).f1).length c305_2] 33 (0, 0)) (by refine mK ?_; refine blk_put (cs := #[.int .i64 ((rd_T33 l0_0 x15_1).f0.f0), .int .i64 ((rd_T33 l0_0 x15_1).f0.f1), .slice none 0 0]) ?_ 2 _ rfl; refine mK ?_; refine blk_put (cs := #[.int .i64 ((rd_T33 l0_0 x15_1).f0.f0), .int .i64 0, .slice none 0 0]) ?_ 1 _ rfl; refine mK ?_; refine blk_put (cs := #[.int .i64 0, .int .i64 0, .slice none 0 0]) ?_ 0 _ rfl; refine mK ?_; exact BK306.out) hb); replace HB := mS (below_step (mH2 HB.out GE303.out GE306.out) hb); (try clear hb); (try clear ho0); obtain ⟨hcz19_0, hcz19_1, hcz19_2, hfz19_0, hfz19_1, hfz19_2⟩ := mZ3 BK306.out; obtain ⟨Ao20, co20, eo20⟩ := Kd.R_slice HO_3.out; subst eo20) | ((with_reducible refine gate_callee (f := 83) rfl ?_); refine mGo 30 Try.func83 #[.slice Ao20 x3_1.length co20, .agg #[.int .i64 ((rd_T33 l0_0 x15_1).f0.f0), .int .i64 ((rd_T33 l0_0 x15_1).f0.f1)]] ?_; (with_reducible refine (impl_withDot.calls k1 (fun k_ => some k_ = (.slice Ao20 x3_1.length co20 : Value).ownBlock) (.slice Ao20 x3_1.length co20) x3_1 ((rd_T33 l0_0 x15_1).f0.f0) ((rd_T33 l0_0 x15_1).f0.f1) t311 w _ ?side1 ?side2 A13.out).mono ?_); (case side1 => exact mH2 HB.out GE303.out GE306.out); (case side2 => exact Kd.R_tight rfl HO_3.out); rintro e w21 ⟨v312, rfl, ho0, hb, hkp⟩; refine ⟨_, rfl, ?_⟩; replace BK303 := mS (blk_kept (mK BK303.out) hkp (fun hs_ => (fun e_ => (Kd.R_ne HO_3.out BK303.out (by decide)) e_) hs_)); replace BK306 := mS (blk_kept (mK BK306.out) hkp (fun hs_ => (fun e_ => (Kd.R_ne HO_3.out BK306.out (by decide)) e_) hs_)); have HO313 := mS (Kd.R_mono (ok' := fun k_ => some k_ ≠ (v308 : Value).ownBlock) ho0 (fun k_ hk_ => Or.elim hk_ (fun hs_ => fun e_ => (((HO309.out).1 k_ e_.symm).2) hs_) (fun hn_ => (Kd.fresh' (Kd.R_lt (mR HO309.out)) k_ hn_)))); replace HO309 := mS (Kd.R_mono (ok' := fun k_ => some k_ ≠ (v312 : Value).ownBlock) (Kd.R_keptB (HO309.out) hkp (fun k_ hk_ hs_ => (hk_.2) hs_)) (fun k_ hk_ => fun e_ => Or.elim (ho0.1 k_ e_.symm) (fun hs_ => hk_.2.1 hs_) (fun hn_ => Nat.not_le.2 hk_.2.2 hn_))); replace HB := mS (hb); clear HO_3; (try clear hb); (try clear hkp); (try clear ho0)))
        go_roundg k1
        case measure => have := HK1.out; omega
        case rel => exact ⟨(t311), (wrap64 (x15_1 + 1)), mE, H', ⟨by have := HK1.out; omega⟩, ⟨by refine mR ?_; exact Kd.R_mono HO313.out (fun _ hk => trivial)⟩, ⟨mK BK303.out⟩, ⟨(mH2 HB.out GE303.out GE306.out)⟩⟩
       ·replace c12 := Bool.eq_false_iff.mpr c12
        subst c12
        have H1 := H
        rw [if_neg (show ¬ (false = true) by decide)] at H1
        clear H
        have H := H1
        clear H1
        have H' := mS H
        clear H
        have p305 : 0 ≤ (x15_1 : Int) := mD
        have q305 : x15_1 < (l0_0.length : Int) := mD
        obtain ⟨ad305, A305_2, c305_2, e305, hx305_0, hx305_1, hx305_2, hl305_2, hi305_2⟩ := at_T33 HR0_0.out x15_1 p305 q305
        cases e305
        replace hx305_0 := mX HB.out hx305_0
        replace hx305_1 := mX HB.out hx305_1
        replace hx305_2 := mX HB.out hx305_2
        have HR305_2 := mS hi305_2
        have HC305_2 := mS hl305_2
        clear hi305_2 hl305_2
        replace p305 := eq_true p305
        replace q305 := eq_true q305
        go_wp2_with (first | ((with_reducible refine gate_dst (N := 5) rfl ?_); refine mBx 5 #[.int .i64 0, .int .i64 0, .slice none 0 0] 33 ?_; intro gb306 hg w22 hbox hb; replace HO_3 := mS (Kd.R_below (mR HO_3.out) hb); have BK306 := mS (hbox); have GW306 := mG hg (mH1 HB.out GE303.out); have GE306 := mG hg (mH1 HB.out GE303.out); replace HB := mS (below_step (mH1 HB.out GE303.out) hb); have NB303_306 := mNl hg BK303.out; have NB306_303 := mNg hg BK303.out; replace BK303 := mB BK303 hb; clear hb hbox hg; have hnb23 := NB306_303.out; have hnc23 := NB303_306.out; obtain ⟨hcz24_0, hcz24_1, hcz24_2, hfz24_0, hfz24_1, hfz24_2⟩ := mZ3 BK306.out; have hcz25_0 := mZ BK303.out 0; have hfz25_0 := blk_frozen BK303.out 0) | ((with_reducible refine gate_callee (f := 82) rfl ?_); refine mGo 23 Try.func82 #[.agg #[.slice (some ad305) l0_0.length c0_0], .agg #[.int .i64 ((rd_T33 l0_0 x15_1).f0.f0), .int .i64 ((rd_T33 l0_0 x15_1).f0.f1)]] ?_; (with_reducible refine (impl_reached.calls k1 _ _ l0_0 ((rd_T33 l0_0 x15_1).f0.f0) ((rd_T33 l0_0 x15_1).f0.f1) t307 false _ ?side1 ?side2 A11.out).mono ?_); (case side1 => exact Kd.C_below HR0_0.out (mH2 HB.out GE303.out GE306.out)); (case side2 => exact HC0_0.out); rintro e w26 ⟨v308, rfl, ho0, hb⟩; refine ⟨_, rfl, ?_⟩; have HO309 := mS (Kd.R_lower (Kd.R_new' ho0 (Kd.R_lt (by refine mR ?_; exact (Kd.R_mono (mRf3 (Kd.R_types HO_3.out BK306.out (by decide))) (fun _ h_ => h_.1))))) (below_size (mH2 HB.out GE303.out GE306.out))); replace HO_3 := mS (Kd.R_elder' (by refine mR ?_; exact (Kd.R_mono (mRf3 (Kd.R_types HO_3.out BK306.out (by decide))) (fun _ h_ => h_.1))) (Kd.R_base ho0) hb); replace BK303 := mS (blk_below (g := gb303) (o := .cells #[.slice (some ad305) l0_0.length c0_0] 26 (0, 0)) (mKf NB303_306.out BK303.out) hb); replace BK306 := mS (blk_below (g := gb306) (o := .cells #[.int .i64 ((rd_T33 l0_0 x15_1).f0.f0), .int .i64 ((rd_T33 l0_0 x15_1).f0.f1), .slice A305_2 ((rd_T33 l0_0 x15_1).f1).length c305_2] 33 (0, 0)) (by refine mK ?_; refine blk_put (cs := #[.int .i64 ((rd_T33 l0_0 x15_1).f0.f0), .int .i64 ((rd_T33 l0_0 x15_1).f0.f1), .slice none 0 0]) ?_ 2 _ rfl; refine mK ?_; refine blk_put (cs := #[.int .i64 ((rd_T33 l0_0 x15_1).f0.f0), .int .i64 0, .slice none 0 0]) ?_ 1 _ rfl; refine mK ?_; refine blk_put (cs := #[.int .i64 0, .int .i64 0, .slice none 0 0]) ?_ 0 _ rfl; refine mK ?_; exact BK306.out) hb); replace HB := mS (below_step (mH2 HB.out GE303.out GE306.out) hb); (try clear hb); (try clear ho0)))
        go_roundg k1
        case measure => have := HK1.out; omega
        case rel => exact ⟨(x3_1), (wrap64 (x15_1 + 1)), mE, H', ⟨by have := HK1.out; omega⟩, ⟨by refine mR ?_; exact Kd.R_mono HO_3.out (fun _ hk => trivial)⟩, ⟨mK BK303.out⟩, ⟨(mH2 HB.out GE303.out GE306.out)⟩⟩
      ·rw [if_neg c10] at H
       exact absurd H (by simp)
     ·rw [if_neg c9] at H
      exact absurd H (by simp)
    ·rw [if_neg c8] at H
     have c8b0 := decide_eq_false c8
     clear c8
     obtain rfl := Option.some.inj H
     go_wp2
     go_ret
     exact ⟨_, mEw, mR HO_3.out, (mH1 HB.out GE303.out)⟩
 ·replace c3 := Bool.eq_false_iff.mpr c3
  subst c3
  have H1 := H
  rw [if_neg (show ¬ (false = true) by decide)] at H1
  clear H
  have H := H1
  clear H1
  obtain rfl := Option.some.inj H
  go_enter Try.func30, Try.ntmps30
  go_wp2_with (first | ((with_reducible refine gate_dst (N := 1) rfl ?_); refine mBx 1 #[.slice A0_0 l0_0.length c0_0] 26 ?_; intro gb303 hg w27 hbox hb; have BK303 := mS (hbox); have GW303 := mG hg (mH HB.out); have GE303 := mG hg (mH HB.out); replace HB := mS (below_step (mH HB.out) hb); clear hb hbox hg; have hcz28_0 := mZ BK303.out 0; have hfz28_0 := blk_frozen BK303.out 0) | ((with_reducible refine gate_callee (f := 67) rfl ?_); refine mGo 9 Try.func67 #[.agg #[.slice A0_0 l0_0.length c0_0]] ?_; (with_reducible refine (impl_GraphOk.calls k _ _ l0_0 false _ ?side1 ?side2 A2.out).mono ?_); (case side1 => exact mC (Kd.C_below HR0_0.out HB.out)); (case side2 => exact HC0_0.out); rintro e w29 ⟨rfl, hb⟩; refine ⟨_, rfl, ?_⟩; replace BK303 := mB BK303 hb; replace HB := mS (below_step (mH1 HB.out GE303.out) hb); (try clear hb)))
  go_ret
  exact ⟨_, mEw, by first | exact Kd.R_nil _ _ _ _ _ | exact Kd.N_nil _ _ _ _ _ | exact Kd.V_nil _ _ _ _ _ | exact Kd.Q_nil _ _ _ _ _ | exact Kd.S_nil _ _ _ _ _, (mH1 HB.out GE303.out)⟩

/-! ### laws_heldDotS: function 33 -/
def laws_heldDotS.l0 : Nat → List (S31) → Int → Int → Option (Int)
 | 0, _, _, _ => none
 | k + 1, x0, x1, x5 => if x5 < (x0.length : Int) then (if 0 ≤ x5 then (if ((rd_T31 x0 x5).f0) = x1 then (if ((rd_T31 x0 x5).f1) = (wrap64 (x1 + 1)) then (laws_heldDotS.l0 k x0 (wrap64 ((wrap64 (x1 + 1)) + 1)) (wrap64 (x5 + 1))) else (some (-1))) else (some (-1))) else (none)) else (some x1)
def laws_heldDotS.f (k : Nat) (l0 : List (S31)) (a1 : Int) : Option (Int) := laws_heldDotS.l0 k l0 a1 0
theorem laws_heldDotS.mono_l : ∀ k, (∀ y0 y1 y2, LeO (laws_heldDotS.l0 k y0 y1 y2) (laws_heldDotS.l0 (k + 1) y0 y1 y2))
 | 0 => fun _ _ _ r h => by simp [laws_heldDotS.l0] at h
 | k + 1 => by
  have ih0 := laws_heldDotS.mono_l k
  ·intro y0 y1 y2
   unfold laws_heldDotS.l0
   repeat' first
   | (with_reducible exact ih0 _ _ _)
   | (with_reducible exact LeO.refl _)
   | (with_reducible exact LeO.none _)
   | (with_reducible refine LeO.ite ?_ ?_)
   | (with_reducible refine LeO.bind ?_ (fun _ => ?_))
   | exact ih0 _ _ _
   | exact LeO.none _
   | refine LeO.ite ?_ ?_
   | refine LeO.bind ?_ (fun _ => ?_)
theorem laws_heldDotS.mono : ∀ a0 a1 k, LeO (laws_heldDotS.f k a0 a1) (laws_heldDotS.f (k + 1) a0 a1) := by
 intro a0 a1 k
 have ih0 := laws_heldDotS.mono_l k
 unfold laws_heldDotS.f
 repeat' first
   | (with_reducible exact ih0 _ _ _)
   | (with_reducible exact LeO.refl _)
   | (with_reducible exact LeO.none _)
   | (with_reducible refine LeO.ite ?_ ?_)
   | (with_reducible refine LeO.bind ?_ (fun _ => ?_))
   | exact ih0 _ _ _
   | exact LeO.none _
   | refine LeO.ite ?_ ?_
   | refine LeO.bind ?_ (fun _ => ?_)
set_option maxHeartbeats 8000000 in
set_option maxRecDepth 100000 in
theorem laws_heldDotS.calls (k : Nat) (A0 : Option Addr) (c0 : Nat) (l0 : List (S31)) (a1 : Int) (r : Int) (w : World) (hr0 : Kd.C k31 w A0 l0.length l0) (hc0 : l0.length ≤ c0) (h : laws_heldDotS.f k l0 a1 = some r) :
  Calls Try.prog 33 #[.slice A0 l0.length c0, .int .i64 a1] w fun e w' => e = .returned (.int .i64 r) ∧ Drawn0 w w' := by
 have HR0 := mS hr0
 have HC0 := mS hc0
 clear hr0 hc0
 have H : (laws_heldDotS.l0 k l0 a1 0) = some r := h
 clear h
 have H' := mS H
 clear H
 go_enter Try.func33, Try.ntmps33
 go_wp2
 go_loopg [1, 5] k (fun kq v1 v5 w' => ∃ (x1_1 : Int) (x5_1 : Int), v1 = .int .i64 x1_1 ∧ v5 = .int .i64 x5_1 ∧ Aside0 (laws_heldDotS.l0 kq l0 x1_1 x5_1 = some r) ∧ Aside0 (kq ≤ k) ∧ Drawn0 w w')
 case atStart => exact ⟨(a1), (0), mE, mE, H', ⟨Nat.le_refl _⟩, by repeat (first | exact Drawn0.refl _ | apply Drawn0.step)⟩
 case round =>
  clear H'
  try clear p2
  obtain ⟨x1_1, x5_1, rfl, rfl, HA, HK1, ⟨m1, rfl⟩⟩ := hrel
  cases gk with
  | zero => exact absurd HA.out (by simp [laws_heldDotS.l0])
  | succ k1 =>
   have H := HA.out
   clear HA
   simp only [laws_heldDotS.l0] at H
   by_cases c3 : x5_1 < (l0.length : Int)
   ·rw [if_pos c3] at H
    have c3b0 := decide_eq_true c3
    clear c3
    by_cases c4 : 0 ≤ x5_1
    ·rw [if_pos c4] at H
     have c4b0 := decide_eq_true c4
     clear c4
     by_cases c5 : ((rd_T31 l0 x5_1).f0) = x1_1
     ·rw [if_pos c5] at H
      have c5b0 : (((rd_T31 l0 x5_1).f0) == x1_1) = true := beq_iff_eq.mpr c5
      have c5b1 : (((rd_T31 l0 x5_1).f0) != x1_1) = false := bne_eq_false_iff_eq.mpr c5
      clear c5
      by_cases c6 : ((rd_T31 l0 x5_1).f1) = (wrap64 (x1_1 + 1))
      ·rw [if_pos c6] at H
       have c6b0 : (((rd_T31 l0 x5_1).f1) == (wrap64 (x1_1 + 1))) = true := beq_iff_eq.mpr c6
       have c6b1 : (((rd_T31 l0 x5_1).f1) != (wrap64 (x1_1 + 1))) = false := bne_eq_false_iff_eq.mpr c6
       clear c6
       have H' := mS H
       clear H
       have p314 : 0 ≤ (x5_1 : Int) := mD
       have q314 : x5_1 < (l0.length : Int) := mD
       obtain ⟨ad314, e314, hx314_0, hx314_1⟩ := at_T31 HR0.out x5_1 p314 q314
       cases e314
       replace p314 := eq_true p314
       replace q314 := eq_true q314
       have p315 : 0 ≤ (x5_1 : Int) := mD
       have q315 : x5_1 < (l0.length : Int) := mD
       obtain ⟨ad315, e315, hx315_0, hx315_1⟩ := at_T31 HR0.out x5_1 p315 q315
       obtain rfl : ad314 = ad315 := (by injection e315)
       replace p315 := eq_true p315
       replace q315 := eq_true q315
       go_wp2
       go_roundg k1
       case measure => have := HK1.out; omega
       case rel => exact ⟨(wrap64 ((wrap64 (x1_1 + 1)) + 1)), (wrap64 (x5_1 + 1)), mE, mE, H', ⟨by have := HK1.out; omega⟩, by repeat (first | exact Drawn0.refl _ | apply Drawn0.step)⟩
      ·rw [if_neg c6] at H
       have c6b0 : (((rd_T31 l0 x5_1).f1) == (wrap64 (x1_1 + 1))) = false := beq_eq_false_iff_ne.mpr c6
       have c6b1 : (((rd_T31 l0 x5_1).f1) != (wrap64 (x1_1 + 1))) = true := bne_iff_ne.mpr c6
       obtain rfl := Option.some.inj H
       have p314 : 0 ≤ (x5_1 : Int) := mD
       have q314 : x5_1 < (l0.length : Int) := mD
       obtain ⟨ad314, e314, hx314_0, hx314_1⟩ := at_T31 HR0.out x5_1 p314 q314
       cases e314
       replace p314 := eq_true p314
       replace q314 := eq_true q314
       have p315 : 0 ≤ (x5_1 : Int) := mD
       have q315 : x5_1 < (l0.length : Int) := mD
       obtain ⟨ad315, e315, hx315_0, hx315_1⟩ := at_T31 HR0.out x5_1 p315 q315
       obtain rfl : ad314 = ad315 := (by injection e315)
       replace p315 := eq_true p315
       replace q315 := eq_true q315
       go_wp2
       go_ret
       exact ⟨mE, by repeat (first | exact Drawn0.refl _ | apply Drawn0.step)⟩
     ·rw [if_neg c5] at H
      have c5b0 : (((rd_T31 l0 x5_1).f0) == x1_1) = false := beq_eq_false_iff_ne.mpr c5
      have c5b1 : (((rd_T31 l0 x5_1).f0) != x1_1) = true := bne_iff_ne.mpr c5
      obtain rfl := Option.some.inj H
      have p314 : 0 ≤ (x5_1 : Int) := mD
      have q314 : x5_1 < (l0.length : Int) := mD
      obtain ⟨ad314, e314, hx314_0, hx314_1⟩ := at_T31 HR0.out x5_1 p314 q314
      cases e314
      replace p314 := eq_true p314
      replace q314 := eq_true q314
      go_wp2
      go_ret
      exact ⟨mE, by repeat (first | exact Drawn0.refl _ | apply Drawn0.step)⟩
    ·rw [if_neg c4] at H
     exact absurd H (by simp)
   ·rw [if_neg c3] at H
    have c3b0 := decide_eq_false c3
    clear c3
    obtain rfl := Option.some.inj H
    go_wp2
    go_ret
    exact ⟨mE, by repeat (first | exact Drawn0.refl _ | apply Drawn0.step)⟩

/-! ### laws_FnExactWhole: function 5 -/
def laws_FnExactWhole.j0 : Nat → List (S31) → List (S31) → Bool → List (S44) → Option (Bool)
 | 0, _, _, _, _ => none
 | k + 1, x4, x6, x42, x317000 => if x42 = true then (some false) else ((laws_markDotS.f k x6 1).bind fun bt339 => ((laws_heldDotS.f k bt339.2 1).bind fun t341 => (if t341 < 0 then (some false) else (if t341 = bt339.1 then ((laws_toGraph.f k x317000).bind fun t342 => ((impl_Whole.f k t342).bind fun t345 => ((laws_eqDotS.f k t345 x4).bind fun t348 => (if t348 = true then ((laws_heldDotS.f k bt339.2 1).bind fun t349 => (if t349 < 0 then (some false) else (if t349 = bt339.1 then (some true) else (some false)))) else (some false))))) else (some false)))))
def laws_FnExactWhole.f (k : Nat) (l0_0 : List (S44)) : Option (Bool) := (laws_szGraph.f k l0_0 1048576).bind fun t317 => (if t317 < 0 then (some true) else ((laws_toGraph.f k l0_0).bind fun t318 => ((spec_Whole.f k t318).bind fun t321 => ((laws_toGraph.f k l0_0).bind fun t324 => ((impl_Whole.f k t324).bind fun t328 => ((laws_eqDotS.f k t328 t321).bind fun t331 => (if t331 = true then ((laws_toGraph.f k l0_0).bind fun t332 => ((laws_eqGraph.f k t324 t332).bind fun t335 => (if t335 = true then ((laws_markGraph.f k t324 1).bind fun bt336 => (if bt336.1 < 0 then (laws_FnExactWhole.j0 k t321 t328 true l0_0) else ((laws_eqDotS.f k t328 t321).bind fun t338 => (laws_FnExactWhole.j0 k t321 t328 (!t338) l0_0)))) else (some false)))) else (some false))))))))
theorem laws_FnExactWhole.mono_l : ∀ k, (∀ y0 y1 y2 y3, LeO (laws_FnExactWhole.j0 k y0 y1 y2 y3) (laws_FnExactWhole.j0 (k + 1) y0 y1 y2 y3))
 | 0 => fun _ _ _ _ r h => by simp [laws_FnExactWhole.j0] at h
 | k + 1 => by
  have ih0 := laws_FnExactWhole.mono_l k
  ·intro y0 y1 y2 y3
   unfold laws_FnExactWhole.j0
   repeat' first
   | (with_reducible exact ih0 _ _ _ _)
   | (with_reducible exact impl_Whole.mono _ _)
   | (with_reducible exact laws_eqDotS.mono _ _ _)
   | (with_reducible exact laws_eqGraph.mono _ _ _)
   | (with_reducible exact laws_heldDotS.mono _ _ _)
   | (with_reducible exact laws_markDotS.mono _ _ _)
   | (with_reducible exact laws_markGraph.mono _ _ _)
   | (with_reducible exact laws_szGraph.mono _ _ _)
   | (with_reducible exact laws_toGraph.mono _ _)
   | (with_reducible exact spec_Whole.mono _ _)
   | (with_reducible exact LeO.refl _)
   | (with_reducible exact LeO.none _)
   | (with_reducible refine LeO.ite ?_ ?_)
   | (with_reducible refine LeO.bind ?_ (fun _ => ?_))
   | exact ih0 _ _ _ _
   | exact impl_Whole.mono _ _
   | exact laws_eqDotS.mono _ _ _
   | exact laws_eqGraph.mono _ _ _
   | exact laws_heldDotS.mono _ _ _
   | exact laws_markDotS.mono _ _ _
   | exact laws_markGraph.mono _ _ _
   | exact laws_szGraph.mono _ _ _
   | exact laws_toGraph.mono _ _
   | exact spec_Whole.mono _ _
   | exact LeO.none _
   | refine LeO.ite ?_ ?_
   | refine LeO.bind ?_ (fun _ => ?_)
theorem laws_FnExactWhole.mono : ∀ a0 k, LeO (laws_FnExactWhole.f k a0) (laws_FnExactWhole.f (k + 1) a0) := by
 intro a0 k
 have ih0 := laws_FnExactWhole.mono_l k
 unfold laws_FnExactWhole.f
 repeat' first
   | (with_reducible exact ih0 _ _ _ _)
   | (with_reducible exact impl_Whole.mono _ _)
   | (with_reducible exact laws_eqDotS.mono _ _ _)
   | (with_reducible exact laws_eqGraph.mono _ _ _)
   | (with_reducible exact laws_heldDotS.mono _ _ _)
   | (with_reducible exact laws_markDotS.mono _ _ _)
   | (with_reducible exact laws_markGraph.mono _ _ _)
   | (with_reducible exact laws_szGraph.mono _ _ _)
   | (with_reducible exact laws_toGraph.mono _ _)
   | (with_reducible exact spec_Whole.mono _ _)
   | (with_reducible exact LeO.refl _)
   | (with_reducible exact LeO.none _)
   | (with_reducible refine LeO.ite ?_ ?_)
   | (with_reducible refine LeO.bind ?_ (fun _ => ?_))
   | exact ih0 _ _ _ _
   | exact impl_Whole.mono _ _
   | exact laws_eqDotS.mono _ _ _
   | exact laws_eqGraph.mono _ _ _
   | exact laws_heldDotS.mono _ _ _
   | exact laws_markDotS.mono _ _ _
   | exact laws_markGraph.mono _ _ _
   | exact laws_szGraph.mono _ _ _
   | exact laws_toGraph.mono _ _
   | exact spec_Whole.mono _ _
   | exact LeO.none _
   | refine LeO.ite ?_ ?_
   | refine LeO.bind ?_ (fun _ => ?_)
set_option maxHeartbeats 8000000 in
set_option maxRecDepth 100000 in
theorem laws_FnExactWhole.calls (k : Nat) (A0_0 : Option Addr) (c0_0 : Nat) (l0_0 : List (S44)) (r : Bool) (w : World) (hr0_0 : Kd.C k44 w A0_0 l0_0.length l0_0) (hc0_0 : l0_0.length ≤ c0_0) (ht_ : r = true) (h : laws_FnExactWhole.f k l0_0 = some r) :
  Calls Try.prog 5 #[.agg #[.slice A0_0 l0_0.length c0_0]] w fun e w' => e = .returned (.bool r) ∧ Below w.heap.size w w' := by
 have hu40 := Try.underlying40
 have hu26 := Try.underlying26
 have HR0_0 := mS hr0_0
 have HC0_0 := mS hc0_0
 clear hr0_0 hc0_0
 have HB := mS (Below.refl w.heap.size w)
 have H : ((laws_szGraph.f k l0_0 1048576).bind fun t317 => (if t317 < 0 then (some true) else ((laws_toGraph.f k l0_0).bind fun t318 => ((spec_Whole.f k t318).bind fun t321 => ((laws_toGraph.f k l0_0).bind fun t324 => ((impl_Whole.f k t324).bind fun t328 => ((laws_eqDotS.f k t328 t321).bind fun t331 => (if t331 = true then ((laws_toGraph.f k l0_0).bind fun t332 => ((laws_eqGraph.f k t324 t332).bind fun t335 => (if t335 = true then ((laws_markGraph.f k t324 1).bind fun bt336 => (if bt336.1 < 0 then (laws_FnExactWhole.j0 k t321 t328 true l0_0) else ((laws_eqDotS.f k t328 t321).bind fun t338 => (laws_FnExactWhole.j0 k t321 t328 (!t338) l0_0)))) else (some false)))) else (some false))))))))) = some r := h
 clear h
 replace H := Option.bind_eq_some_iff.mp H
 obtain ⟨t317, A20, H⟩ := H
 replace H : (if t317 < 0 then (some true) else ((laws_toGraph.f k l0_0).bind fun t318 => ((spec_Whole.f k t318).bind fun t321 => ((laws_toGraph.f k l0_0).bind fun t324 => ((impl_Whole.f k t324).bind fun t328 => ((laws_eqDotS.f k t328 t321).bind fun t331 => (if t331 = true then ((laws_toGraph.f k l0_0).bind fun t332 => ((laws_eqGraph.f k t324 t332).bind fun t335 => (if t335 = true then ((laws_markGraph.f k t324 1).bind fun bt336 => (if bt336.1 < 0 then (laws_FnExactWhole.j0 k t321 t328 true l0_0) else ((laws_eqDotS.f k t328 t321).bind fun t338 => (laws_FnExactWhole.j0 k t321 t328 (!t338) l0_0)))) else (some false)))) else (some false)))))))) = some r := H
 have A2 := mS A20
 clear A20
 by_cases c3 : t317 < 0
 ·rw [if_pos c3] at H
  have c3b0 := decide_eq_true c3
  clear c3
  obtain rfl := Option.some.inj H
  go_enter Try.func5, Try.ntmps5
  go_wp2_with (first | ((with_reducible refine gate_dst (N := 1) rfl ?_); refine mBx 1 #[.slice A0_0 l0_0.length c0_0] 40 ?_; intro gb316 hg w4 hbox hb; have BK316 := mS (hbox); have GW316 := mG hg (mH HB.out); have GE316 := mG hg (mH HB.out); replace HB := mS (below_step (mH HB.out) hb); clear hb hbox hg; have hcz5_0 := mZ BK316.out 0; have hfz5_0 := blk_frozen BK316.out 0) | ((with_reducible refine gate_callee (f := 19) rfl ?_); refine mGo 13 Try.func19 #[.agg #[.slice A0_0 l0_0.length c0_0], .int .i64 1048576] ?_; (with_reducible refine (laws_szGraph.calls k _ _ l0_0 1048576 t317 _ ?side1 ?side2 A2.out).mono ?_); (case side1 => exact mC (Kd.C_below HR0_0.out HB.out)); (case side2 => exact HC0_0.out); rintro e w6 ⟨rfl, hb⟩; refine ⟨_, rfl, ?_⟩; replace BK316 := mB BK316 hb; replace HB := mS (below_step (mH1 HB.out GE316.out) hb); (try clear hb)))
  go_ret
  exact ⟨mEw, (mH1 HB.out GE316.out)⟩
 ·rw [if_neg c3] at H
  have c3b0 := decide_eq_false c3
  clear c3
  replace H := Option.bind_eq_some_iff.mp H
  obtain ⟨t318, A70, H⟩ := H
  replace H : ((spec_Whole.f k t318).bind fun t321 => ((laws_toGraph.f k l0_0).bind fun t324 => ((impl_Whole.f k t324).bind fun t328 => ((laws_eqDotS.f k t328 t321).bind fun t331 => (if t331 = true then ((laws_toGraph.f k l0_0).bind fun t332 => ((laws_eqGraph.f k t324 t332).bind fun t335 => (if t335 = true then ((laws_markGraph.f k t324 1).bind fun bt336 => (if bt336.1 < 0 then (laws_FnExactWhole.j0 k t321 t328 true l0_0) else ((laws_eqDotS.f k t328 t321).bind fun t338 => (laws_FnExactWhole.j0 k t321 t328 (!t338) l0_0)))) else (some false)))) else (some false)))))) = some r := H
  have A7 := mS A70
  clear A70
  replace H := Option.bind_eq_some_iff.mp H
  obtain ⟨t321, A80, H⟩ := H
  replace H : ((laws_toGraph.f k l0_0).bind fun t324 => ((impl_Whole.f k t324).bind fun t328 => ((laws_eqDotS.f k t328 t321).bind fun t331 => (if t331 = true then ((laws_toGraph.f k l0_0).bind fun t332 => ((laws_eqGraph.f k t324 t332).bind fun t335 => (if t335 = true then ((laws_markGraph.f k t324 1).bind fun bt336 => (if bt336.1 < 0 then (laws_FnExactWhole.j0 k t321 t328 true l0_0) else ((laws_eqDotS.f k t328 t321).bind fun t338 => (laws_FnExactWhole.j0 k t321 t328 (!t338) l0_0)))) else (some false)))) else (some false))))) = some r := H
  have A8 := mS A80
  clear A80
  replace H := Option.bind_eq_some_iff.mp H
  obtain ⟨t324, A90, H⟩ := H
  replace H : ((impl_Whole.f k t324).bind fun t328 => ((laws_eqDotS.f k t328 t321).bind fun t331 => (if t331 = true then ((laws_toGraph.f k l0_0).bind fun t332 => ((laws_eqGraph.f k t324 t332).bind fun t335 => (if t335 = true then ((laws_markGraph.f k t324 1).bind fun bt336 => (if bt336.1 < 0 then (laws_FnExactWhole.j0 k t321 t328 true l0_0) else ((laws_eqDotS.f k t328 t321).bind fun t338 => (laws_FnExactWhole.j0 k t321 t328 (!t338) l0_0)))) else (some false)))) else (some false)))) = some r := H
  have A9 := mS A90
  clear A90
  replace H := Option.bind_eq_some_iff.mp H
  obtain ⟨t328, A100, H⟩ := H
  replace H : ((laws_eqDotS.f k t328 t321).bind fun t331 => (if t331 = true then ((laws_toGraph.f k l0_0).bind fun t332 => ((laws_eqGraph.f k t324 t332).bind fun t335 => (if t335 = true then ((laws_markGraph.f k t324 1).bind fun bt336 => (if bt336.1 < 0 then (laws_FnExactWhole.j0 k t321 t328 true l0_0) else ((laws_eqDotS.f k t328 t321).bind fun t338 => (laws_FnExactWhole.j0 k t321 t328 (!t338) l0_0)))) else (some false)))) else (some false))) = some r := H
  have A10 := mS A100
  clear A100
  replace H := Option.bind_eq_some_iff.mp H
  obtain ⟨t331, A110, H⟩ := H
  replace H : (if t331 = true then ((laws_toGraph.f k l0_0).bind fun t332 => ((laws_eqGraph.f k t324 t332).bind fun t335 => (if t335 = true then ((laws_markGraph.f k t324 1).bind fun bt336 => (if bt336.1 < 0 then (laws_FnExactWhole.j0 k t321 t328 true l0_0) else ((laws_eqDotS.f k t328 t321).bind fun t338 => (laws_FnExactWhole.j0 k t321 t328 (!t338) l0_0)))) else (some false)))) else (some false)) = some r := H
  have A11 := mS A110
  clear A110
  by_cases c12 : t331 = true
  ·subst c12
   have H1 := H
   rw [if_pos rfl] at H1
   clear H
   have H := H1
   clear H1
   replace H := Option.bind_eq_some_iff.mp H
   obtain ⟨t332, A130, H⟩ := H
   replace H : ((laws_eqGraph.f k t324 t332).bind fun t335 => (if t335 = true then ((laws_markGraph.f k t324 1).bind fun bt336 => (if bt336.1 < 0 then (laws_FnExactWhole.j0 k t321 t328 true l0_0) else ((laws_eqDotS.f k t328 t321).bind fun t338 => (laws_FnExactWhole.j0 k t321 t328 (!t338) l0_0)))) else (some false))) = some r := H
   have A13 := mS A130
   clear A130
   replace H := Option.bind_eq_some_iff.mp H
   obtain ⟨t335, A140, H⟩ := H
   replace H : (if t335 = true then ((laws_markGraph.f k t324 1).bind fun bt336 => (if bt336.1 < 0 then (laws_FnExactWhole.j0 k t321 t328 true l0_0) else ((laws_eqDotS.f k t328 t321).bind fun t338 => (laws_FnExactWhole.j0 k t321 t328 (!t338) l0_0)))) else (some false)) = some r := H
   have A14 := mS A140
   clear A140
   by_cases c15 : t335 = true
   ·subst c15
    have H1 := H
    rw [if_pos rfl] at H1
    clear H
    have H := H1
    clear H1
    replace H := Option.bind_eq_some_iff.mp H
    obtain ⟨⟨t336, t337⟩, A160, H⟩ := H
    replace H : (if t336 < 0 then (laws_FnExactWhole.j0 k t321 t328 true l0_0) else ((laws_eqDotS.f k t328 t321).bind fun t338 => (laws_FnExactWhole.j0 k t321 t328 (!t338) l0_0))) = some r := H
    have A16 := mS A160
    clear A160
    have HC17 := mS H
    clear H
    go_enter Try.func5, Try.ntmps5
    try go_wp2_with (first | ((with_reducible refine gate_dst (N := 1) rfl ?_); refine mBx 1 #[.slice A0_0 l0_0.length c0_0] 40 ?_; intro gb316 hg w18 hbox hb; have BK316 := mS (hbox); have GW316 := mG hg (mH HB.out); have GE316 := mG hg (mH HB.out); replace HB := mS (below_step (mH HB.out) hb); clear hb hbox hg; have hcz19_0 := mZ BK316.out 0; have hfz19_0 := blk_frozen BK316.out 0) | ((with_reducible refine gate_callee (f := 19) rfl ?_); refine mGo 13 Try.func19 #[.agg #[.slice A0_0 l0_0.length c0_0], .int .i64 1048576] ?_; (with_reducible refine (laws_szGraph.calls k _ _ l0_0 1048576 t317 _ ?side1 ?side2 A2.out).mono ?_); (case side1 => exact mC (Kd.C_below HR0_0.out HB.out)); (case side2 => exact HC0_0.out); rintro e w20 ⟨rfl, hb⟩; refine ⟨_, rfl, ?_⟩; replace BK316 := mB BK316 hb; replace HB := mS (below_step (mH1 HB.out GE316.out) hb); (try clear hb); have hcz21_0 := mZ BK316.out 0; have hfz21_0 := blk_frozen BK316.out 0) | ((with_reducible refine gate_callee (f := 22) rfl ?_); refine mGo 17 Try.func22 #[.agg #[.slice A0_0 l0_0.length c0_0]] ?_; (with_reducible refine (laws_toGraph.calls k _ _ l0_0 t318 _ ?side1 ?side2 A7.out).mono ?_); (case side1 => exact mC (Kd.C_below HR0_0.out HB.out)); (case side2 => exact HC0_0.out); rintro e w22 ⟨v319, rfl, ho0, hb⟩; refine ⟨_, rfl, ?_⟩; obtain ⟨z23, hz23⟩ := MWords.mp_size hb; have HO320 := mS (Kd.S_lower (MWords.mp_geS ho0 hz23) (below_size (mH1 HB.out GE316.out))); replace BK316 := mB BK316 hb; replace HB := mS (below_step (mH1 HB.out GE316.out) hb); (try clear hb); (try clear ho0); obtain ⟨Ao24, co24, eo24⟩ := Kd.S_slice HO320.out; subst eo24) | ((with_reducible refine gate_callee (f := 29) rfl ?_); refine mGo 18 Try.func29 #[.agg #[.slice Ao24 t318.length co24]] ?_; (with_reducible refine (spec_Whole.calls k _ _ t318 t321 _ ?side1 ?side2 A8.out).mono ?_); (case side1 => exact mC (Kd.S_reads' HO320.out).2.2); (case side2 => exact (Kd.S_reads' HO320.out).2.1); rintro e w25 ⟨v322, rfl, ho0, hb⟩; refine ⟨_, rfl, ?_⟩; replace HO320 := mS (Kd.S_elder' (mSd HO320.out) (Kd.R_base ho0) hb); have HO323 := mS (Kd.R_lower ho0 (below_size (mH1 HB.out GE316.out))); replace BK316 := mB BK316 hb; replace HB := mS (below_step (mH1 HB.out GE316.out) hb); (try clear hb); (try clear ho0); have hcz26_0 := mZ BK316.out 0; have hfz26_0 := blk_frozen BK316.out 0) | ((with_reducible refine gate_callee (f := 22) rfl ?_); refine mGo 20 Try.func22 #[.agg #[.slice A0_0 l0_0.length c0_0]] ?_; (with_reducible refine (laws_toGraph.calls k _ _ l0_0 t324 _ ?side1 ?side2 A9.out).mono ?_); (case side1 => exact mC (Kd.C_below HR0_0.out HB.out)); (case side2 => exact HC0_0.out); rintro e w27 ⟨v325, rfl, ho0, hb⟩; refine ⟨_, rfl, ?_⟩; obtain ⟨z28, hz28⟩ := MWords.mp_size hb; have HO326 := mS (Kd.S_lower (Kd.S_new' (Kd.S_new' (MWords.mp_geS ho0 hz28) (Kd.S_lt (mSd HO320.out))) (Kd.R_lt (mR HO323.out))) (below_size (mH1 HB.out GE316.out))); replace HO320 := mS (MWords.mp_ltS (Kd.S_told (Kd.S_old (mSd HO320.out) hb) (Kd.S_base ho0)) hz28); replace HO323 := mS (Kd.R_below (mR HO323.out) hb); replace BK316 := mB BK316 hb; replace HB := mS (below_step (mH1 HB.out GE316.out) hb); (try clear hb); (try clear ho0)) | ((with_reducible refine gate_dst (N := 5) rfl ?_); refine mBx 5 #[.slice none 0 0] 26 ?_; intro gb327 hg w29 hbox hb; replace HO320 := mS (Kd.S_below (mSd HO320.out) hb); replace HO323 := mS (Kd.R_below (mR HO323.out) hb); replace HO326 := mS (Kd.S_below (mSd HO326.out) hb); have BK327 := mS (hbox); have GW327 := mG hg (mH1 HB.out GE316.out); have GE327 := mG hg (mH1 HB.out GE316.out); replace HB := mS (below_step (mH1 HB.out GE316.out) hb); have NB316_327 := mNl hg BK316.out; have NB327_316 := mNg hg BK316.out; replace BK316 := mB BK316 hb; clear hb hbox hg; obtain ⟨Ao30, co30, eo30⟩ := Kd.S_slice HO326.out; subst eo30; have hnb31 := NB327_316.out; have hnc31 := NB316_327.out; have hcz32_0 := mZ BK327.out 0; have hfz32_0 := blk_frozen BK327.out 0) | ((with_reducible refine gate_callee (f := 30) rfl ?_); refine mGo 22 Try.func30 #[.agg #[.slice Ao30 t324.length co30]] ?_; (with_reducible refine (impl_Whole.calls k _ _ t324 t328 _ ?side1 ?side2 A10.out).mono ?_); (case side1 => refine (Kd.S_reads' (e := 33) (base := w.heap.size) (ok := fun k_ => (((True ∧ z28 ≤ k_) ∧ some k_ ≠ (.slice Ao24 t318.length co24 : Value).ownBlock) ∧ some k_ ≠ (v322 : Value).ownBlock)) (n := t324.length) (c := co30) ?_).2.2; exact (by refine mSd ?_; exact (Kd.S_mono (Kd.S_far (p := ⟨gb327, 0, none⟩) (Kd.S_types HO326.out BK327.out (by decide)) (fun _ hk => hk.2) (.slice Ao30 t324.length co30)) (fun _ h_ => h_.1)))); (case side2 => exact (Kd.S_reads' HO326.out).2.1); rintro e w33 ⟨v329, rfl, ho0, hb⟩; refine ⟨_, rfl, ?_⟩; replace HO320 := mS (Kd.S_elder' (by refine mSd ?_; exact (Kd.S_mono (Kd.S_far (p := ⟨gb327, 0, none⟩) (Kd.S_types HO320.out BK327.out (by decide)) (fun _ hk => hk.2) (.slice Ao30 t324.length co30)) (fun _ h_ => h_.1))) (Kd.R_base ho0) hb); replace HO326 := mS (Kd.S_elder' (by refine mSd ?_; exact (Kd.S_mono (Kd.S_far (p := ⟨gb327, 0, none⟩) (Kd.S_types HO326.out BK327.out (by decide)) (fun _ hk => hk.2) (.slice Ao30 t324.length co30)) (fun _ h_ => h_.1))) (Kd.R_base ho0) hb); have HO330 := mS (Kd.R_lower (Kd.R_new' ho0 (Kd.R_lt (by refine mR ?_; exact (Kd.R_mono (Kd.R_far (p := ⟨gb327, 0, none⟩) (Kd.R_types HO323.out BK327.out (by decide)) (fun _ hk => hk.2) (.slice Ao30 t324.length co30)) (fun _ h_ => h_.1))))) (below_size (mH2 HB.out GE316.out GE327.out))); replace HO323 := mS (Kd.R_elder' (by refine mR ?_; exact (Kd.R_mono (Kd.R_far (p := ⟨gb327, 0, none⟩) (Kd.R_types HO323.out BK327.out (by decide)) (fun _ hk => hk.2) (.slice Ao30 t324.length co30)) (fun _ h_ => h_.1))) (Kd.R_base ho0) hb); replace BK316 := mS (blk_below (g := gb316) (o := .cells #[.slice A0_0 l0_0.length c0_0] 40 (0, 0)) (mKf NB316_327.out BK316.out) hb); replace BK327 := mS (blk_below (g := gb327) (o := .cells #[.slice Ao30 t324.length co30] 26 (0, 0)) (by refine mK ?_; refine blk_put (cs := #[.slice none 0 0]) ?_ 0 _ rfl; refine mK ?_; exact BK327.out) hb); replace HB := mS (below_step (mH2 HB.out GE316.out GE327.out) hb); (try clear hb); (try clear ho0); obtain ⟨Ao34, co34, eo34⟩ := Kd.R_slice HO330.out; subst eo34; obtain ⟨Ao35, co35, eo35⟩ := Kd.R_slice HO323.out; subst eo35) | ((with_reducible refine gate_callee (f := 31) rfl ?_); refine mGo 25 Try.func31 #[.slice Ao34 t328.length co34, .slice Ao35 t321.length co35] ?_; (with_reducible refine (laws_eqDotS.calls k _ _ t328 _ _ t321 true _ ?side1 ?side2 ?side3 ?side4 A11.out).mono ?_); (case side1 => exact mC (Kd.R_reads' HO330.out).2.2); (case side2 => exact (Kd.R_reads' HO330.out).2.1); (case side3 => exact mC (Kd.R_reads' HO323.out).2.2); (case side4 => exact (Kd.R_reads' HO323.out).2.1); rintro e w36 ⟨rfl, hb⟩; refine ⟨_, rfl, ?_⟩; replace HO320 := mS (Kd.S_below (mSd HO320.out) hb); replace HO323 := mS (Kd.R_below (mR HO323.out) hb); replace HO326 := mS (Kd.S_below (mSd HO326.out) hb); replace HO330 := mS (Kd.R_below (mR HO330.out) hb); replace BK316 := mB BK316 hb; replace BK327 := mB BK327 hb; replace HB := mS (below_step (mH2 HB.out GE316.out GE327.out) hb); (try clear hb)))
    replace HO320 := mS (Kd.S_drew HO320.out)
    replace HO323 := mS (Kd.R_drew HO323.out)
    replace HO326 := mS (Kd.S_drew HO326.out)
    replace HO330 := mS (Kd.R_drew HO330.out)
    replace BK316 := mS (blk_drew BK316.out)
    replace BK327 := mS (blk_drew BK327.out)
    replace HB := mS (below_drew1 HB.out)
    refine start_ (n := 5) (S := fun w' => w'.cell? ⟨gb327, 0, none⟩ = some (.slice Ao30 t324.length co30) ∧ w'.cell? ⟨gb316, 0, none⟩ = some (.slice A0_0 l0_0.length c0_0)) (ds := []) (mb 0 5) (by kernel_rfl) rfl rfl ⟨mZ BK327.out 0, mZ BK316.out 0⟩ (fun hHeld => ?_)
    generalize w36.drew = w37 at HO320 HO323 HO326 HO330 BK316 BK327 HB hHeld ⊢
    refine take_ (i := 0) (N := some 27) (v := ?_) (a' := ?_) (mb 1 4) rfl rfl (by kernel_rfl) (fun _ _ _ h => h) (Or.inl ⟨by rfl, ?_⟩) hHeld ?_ ?_
    rotate_left
    ·rintro w' ⟨s0, s1⟩
     go_simp
     with_reducible rfl
    rotate_left
    ·simp only [Act.put, zA, zB, zC, i64_w, i32_w]
     rfl
    refine take_ (i := 1) (N := some 28) (v := ?_) (a' := ?_) (mb 2 3) rfl rfl (by kernel_rfl) (fun _ _ _ h => h) (Or.inl ⟨by rfl, ?_⟩) hHeld ?_ ?_
    rotate_left
    ·rintro w' ⟨s0, s1⟩
     go_simp
     with_reducible rfl
    rotate_left
    ·simp only [Act.put, zA, zB, zC, i64_w, i32_w]
     rfl
    refine one_ (i := 2) (N := some 29) (mb 3 2) rfl rfl (by kernel_rfl) (by decide) (fun K hK => ?_)
    refine goes_ Try.func22 (by kernel_rfl) rfl #[.agg #[.slice A0_0 l0_0.length c0_0]] (by rfl) rfl rfl mA ?_
    with_reducible refine (laws_toGraph.calls k _ _ l0_0 t332 _ ?side1 ?side2 A13.out).mono ?_
    (case side1 => exact mC (Kd.C_below HR0_0.out HB.out))
    (case side2 => exact HC0_0.out)
    rintro e w38 ⟨v333, rfl, ho0, hb⟩
    refine ⟨_, rfl, ?_⟩
    obtain ⟨z39, hz39⟩ := MWords.mp_size hb
    have HO334 := mS (Kd.S_lower (Kd.S_new' (Kd.S_new' (Kd.S_new' (Kd.S_new' (MWords.mp_geS ho0 hz39) (Kd.S_lt (mSd HO320.out))) (Kd.R_lt (mR HO323.out))) (Kd.S_lt (mSd HO326.out))) (Kd.R_lt (mR HO330.out))) (below_size (mH2 HB.out GE316.out GE327.out)))
    replace HO320 := mS (MWords.mp_ltS (Kd.S_told (Kd.S_old (mSd HO320.out) hb) (Kd.S_base ho0)) hz39)
    replace HO323 := mS (Kd.R_below (mR HO323.out) hb)
    replace HO326 := mS (MWords.mp_ltS (Kd.S_told (Kd.S_old (mSd HO326.out) hb) (Kd.S_base ho0)) hz39)
    replace HO330 := mS (Kd.R_below (mR HO330.out) hb)
    replace BK316 := mB BK316 hb
    replace BK327 := mB BK327 hb
    replace HB := mS (below_step (mH2 HB.out GE316.out GE327.out) hb)
    (try clear hb)
    (try clear hb2)
    (try clear hk)
    (try clear hi)
    (try clear ho0)
    obtain ⟨Ao40, co40, eo40⟩ := Kd.S_slice HO334.out
    (first | subst eo40 | (injection eo40 with f1_ f2_ f3_; have f4_ := f1_.symm; have f5_ := f3_.symm; clear f1_ f2_ f3_; subst f4_; subst f5_))
    refine hK.out _ _ ⟨mZ BK327.out 0, mZ BK316.out 0⟩ (fun hHeld => ?_)
    clear hK K
    refine mno 29 ?_
    refine one_ (i := 3) (N := some 30) (mb 4 1) rfl rfl (by kernel_rfl) (by decide) (fun K hK => ?_)
    refine goes_ Try.func24 (by kernel_rfl) rfl #[.agg #[.slice Ao30 t324.length co30], .agg #[.slice Ao40 t332.length co40]] (by rfl) rfl rfl mA ?_
    with_reducible refine (laws_eqGraph.calls k _ _ t324 _ _ t332 true _ ?side1 ?side2 ?side3 ?side4 A14.out).mono ?_
    (case side1 => exact mC (Kd.S_reads' HO326.out).2.2)
    (case side2 => exact (Kd.S_reads' HO326.out).2.1)
    (case side3 => exact mC (Kd.S_reads' HO334.out).2.2)
    (case side4 => exact (Kd.S_reads' HO334.out).2.1)
    rintro e w41 ⟨rfl, hb⟩
    refine ⟨_, rfl, ?_⟩
    replace HO320 := mS (Kd.S_below (mSd HO320.out) hb)
    replace HO323 := mS (Kd.R_below (mR HO323.out) hb)
    replace HO326 := mS (Kd.S_below (mSd HO326.out) hb)
    replace HO330 := mS (Kd.R_below (mR HO330.out) hb)
    replace HO334 := mS (Kd.S_below (mSd HO334.out) hb)
    replace BK316 := mB BK316 hb
    replace BK327 := mB BK327 hb
    replace HB := mS (below_step (mH2 HB.out GE316.out GE327.out) hb)
    (try clear hb)
    (try clear hb2)
    (try clear hk)
    (try clear hi)
    refine hK.out _ _ ⟨mZ BK327.out 0, mZ BK316.out 0⟩ (fun hHeld => ?_)
    clear hK K
    refine mno 30 ?_
    refine pure_ (i := 4) (N := some 31) (v := ?_) (a' := ?_) (mb 5 0) rfl rfl (by kernel_rfl) (fun _ _ _ h => h) (Or.inl ⟨by rfl, ?_⟩) ?_ ?_
    rotate_left
    ·intro w'
     go_simp
     with_reducible rfl
    rotate_left
    ·simp only [Act.put, zA, zB, zC, i64_w, i32_w]
     rfl
    refine done_ (by kernel_rfl) ?_
    have hcz42_0 := mZ BK327.out 0
    have hfz42_0 := blk_frozen BK327.out 0
    go_upto_region 14 with (first | ((with_reducible refine gate_callee (f := 26) rfl ?_); refine mGo 34 Try.func26 #[.agg #[.slice Ao30 t324.length co30], .int .i64 1] ?_; (with_reducible refine (laws_markGraph.calls k (fun k_ => ((((((((True ∧ z28 ≤ k_) ∧ some k_ ≠ (.slice Ao24 t318.length co24 : Value).ownBlock) ∧ some k_ ≠ (.slice Ao35 t321.length co35 : Value).ownBlock) ∧ some k_ ≠ (.slice Ao34 t328.length co34 : Value).ownBlock) ∧ some k_ ≠ (.slice Ao40 t332.length co40 : Value).ownBlock) ∧ k_ < z39) ∧ k_ ≠ gb316) ∧ k_ ≠ gb327) ∧ w.heap.size ≤ k_) (.slice Ao30 t324.length co30) t324 1 t336 t337 w _ ?side1 ?side2 A16.out).mono ?_); (case side1 => exact mH2 HB.out GE316.out GE327.out); (case side2 => exact Kd.S_mono (Kd.S_bound (Kd.S_types (Kd.S_types HO326.out BK316.out (by decide)) BK327.out (by decide))) (fun k_ h_ => (⟨h_.1, h_.2.1⟩ : _ ∧ _))); rintro e w43 ⟨rfl, hy0, hb, hkp⟩; refine ⟨_, rfl, ?_⟩; replace BK316 := mS (blk_kept (mK BK316.out) hkp (fun hs_ => (fun e_ => (e_.1.1.2) rfl) hs_)); replace HO320 := mS (Kd.S_mono (ok' := fun k_ => some k_ ≠ (.slice Ao35 t321.length co35 : Value).ownBlock ∧ some k_ ≠ (.slice Ao30 t324.length co30 : Value).ownBlock ∧ some k_ ≠ (.slice Ao34 t328.length co34 : Value).ownBlock ∧ some k_ ≠ (.slice Ao40 t332.length co40 : Value).ownBlock ∧ z23 ≤ k_ ∧ k_ < z28 ∧ k_ < z39) (Kd.S_keptB (HO320.out) hkp (fun k_ hk_ hs_ => (fun e_ => Nat.lt_irrefl _ (Nat.lt_of_lt_of_le (hk_.1.1.1.2) (e_.1.1.1.1.1.1.1.1.2))) hs_)) (fun k_ hk_ => ⟨hk_.1.1.1.1.1.1.2, hk_.1.1.1.1.1.2, hk_.1.1.1.2, hk_.1.1.2, hk_.1.1.1.1.1.1.1.2, hk_.1.1.1.1.2, hk_.1.2⟩)); replace HO323 := mS (Kd.R_mono (ok' := fun k_ => some k_ ≠ (.slice Ao34 t328.length co34 : Value).ownBlock) (Kd.R_keptB ((Kd.R_tight2 rfl HO323.out)) hkp (fun k_ hk_ hs_ => (fun e_ => (e_.1.1.1.1.1.1.2) (hk_.1)) hs_)) (fun k_ hk_ => hk_.1.2.2)); replace HO326 := mS (Kd.S_mono (ok' := fun k_ => ((((((True ∧ z28 ≤ k_) ∧ some k_ ≠ (.slice Ao24 t318.length co24 : Value).ownBlock) ∧ some k_ ≠ (.slice Ao35 t321.length co35 : Value).ownBlock) ∧ some k_ ≠ (.slice Ao34 t328.length co34 : Value).ownBlock) ∧ some k_ ≠ (.slice Ao40 t332.length co40 : Value).ownBlock) ∧ k_ < z39)) hy0 (fun k_ h_ => ⟨⟨⟨⟨⟨⟨trivial, h_.1.1.1.1.1.1.1.1.2⟩, h_.1.1.1.1.1.1.1.2⟩, h_.1.1.1.1.1.1.2⟩, h_.1.1.1.1.1.2⟩, h_.1.1.1.1.2⟩, h_.1.1.1.2⟩)); replace BK327 := mS (blk_kept (mK BK327.out) hkp (fun hs_ => (fun e_ => (e_.1.2) rfl) hs_)); replace HO330 := mS (Kd.R_mono (ok' := fun k_ => some k_ ≠ (.slice Ao35 t321.length co35 : Value).ownBlock) (Kd.R_keptB ((Kd.R_tight2 rfl HO330.out)) hkp (fun k_ hk_ hs_ => (fun e_ => (e_.1.1.1.1.1.2) (hk_.1)) hs_)) (fun k_ hk_ => hk_.1.2.2)); replace HO334 := mS (Kd.S_mono (ok' := fun k_ => some k_ ≠ (.slice Ao24 t318.length co24 : Value).ownBlock ∧ some k_ ≠ (.slice Ao35 t321.length co35 : Value).ownBlock ∧ some k_ ≠ (.slice Ao30 t324.length co30 : Value).ownBlock ∧ some k_ ≠ (.slice Ao34 t328.length co34 : Value).ownBlock ∧ z39 ≤ k_) (Kd.S_keptB (HO334.out) hkp (fun k_ hk_ hs_ => (fun e_ => Nat.lt_irrefl _ (Nat.lt_of_lt_of_le (e_.1.1.1.2) (hk_.1.1.1.1.2))) hs_)) (fun k_ hk_ => ⟨hk_.1.1.1.1.2, hk_.1.1.1.2, hk_.1.1.2, hk_.1.2, hk_.1.1.1.1.1.2⟩)); replace HB := mS (hb); (try clear hb); (try clear hkp); (try clear hy0)))
    (try simp only [Act.put, zA, zB, zC])
    go_cut [42] (fun v42 wc => ∃ (kq : Nat) (x42_16 : Bool), v42 = .bool x42_16 ∧ Aside0 (laws_FnExactWhole.j0 kq t321 t328 x42_16 l0_0 = some r) ∧ Aside0 (kq ≤ k) ∧ Aside0 (Kd.R k31 31 wc w.heap.size (fun k_ => some k_ ≠ ((.slice Ao34 t328.length co34) : Value).ownBlock) (.slice Ao35 t321.length co35) t321) ∧ Aside0 (Kd.R k31 31 wc w.heap.size (fun k_ => some k_ ≠ ((.slice Ao35 t321.length co35) : Value).ownBlock) (.slice Ao34 t328.length co34) t328) ∧ Aside0 (Kd.S k33 33 wc w.heap.size (fun k_ => some k_ ≠ ((.slice Ao35 t321.length co35) : Value).ownBlock ∧ some k_ ≠ ((.slice Ao34 t328.length co34) : Value).ownBlock ∧ z28 ≤ k_ ∧ k_ < z39) (.slice Ao30 t324.length co30) t337) ∧ Aside0 (wc.heap[gb316]? = some (.cells #[(.slice A0_0 l0_0.length c0_0)] 40 (0, 0))) ∧ Aside0 (wc.heap[gb327]? = some (.cells #[(.slice Ao30 t324.length co30)] 26 (0, 0))) ∧ Aside0 (Below w.heap.size w wc))
    case first =>
     have H := HC17.out
     clear HC17
     by_cases c44 : t336 < 0
     ·rw [if_pos c44] at H
      have c44b0 := decide_eq_true c44
      clear c44
      (first | rw [c44b0] | (simp only [i64_w, i32_w]; rw [c44b0]) | skip)
      have H' := mS H
      clear H
      go_wp2
      go_meet
      case rel => exact ⟨_, (true), mE, H', ⟨by first | omega | exact Nat.le_refl _⟩, ⟨mR HO323.out⟩, ⟨mR HO330.out⟩, ⟨by refine mSd ?_; exact Kd.S_mono HO326.out (fun _ hk => ⟨hk.1.1.1.2, ⟨hk.1.1.2, ⟨hk.1.1.1.1.1.2, hk.2⟩⟩⟩)⟩, ⟨mK BK316.out⟩, ⟨mK BK327.out⟩, ⟨(mH2 HB.out GE316.out GE327.out)⟩⟩
     ·rw [if_neg c44] at H
      have c44b0 := decide_eq_false c44
      clear c44
      (first | rw [c44b0] | (simp only [i64_w, i32_w]; rw [c44b0]) | skip)
      replace H := Option.bind_eq_some_iff.mp H
      obtain ⟨t338, A450, H⟩ := H
      replace H : (laws_FnExactWhole.j0 k t321 t328 (!t338) l0_0) = some r := H
      have A45 := mS A450
      clear A450
      have H' := mS H
      clear H
      go_wp2_with (first | (go_at_call 31; (with_reducible refine (laws_eqDotS.calls k _ _ t328 _ _ t321 t338 _ ?side1 ?side2 ?side3 ?side4 A45.out).mono ?_); (case side1 => exact mC (Kd.R_reads' HO330.out).2.2); (case side2 => exact (Kd.R_reads' HO330.out).2.1); (case side3 => exact mC (Kd.R_reads' HO323.out).2.2); (case side4 => exact (Kd.R_reads' HO323.out).2.1); rintro e w46 ⟨rfl, hb⟩; replace HO320 := mS (Kd.S_below (mSd HO320.out) hb); replace HO323 := mS (Kd.R_below (mR HO323.out) hb); replace HO326 := mS (Kd.S_below (mSd HO326.out) hb); replace HO330 := mS (Kd.R_below (mR HO330.out) hb); replace HO334 := mS (Kd.S_below (mSd HO334.out) hb); replace BK316 := mB BK316 hb; replace BK327 := mB BK327 hb; replace HB := mS (below_step (mH2 HB.out GE316.out GE327.out) hb); (try clear hb); (try clear hb2); (try clear hk); (try clear hi)))
      go_meet
      case rel => exact ⟨_, (!t338), mE, H', ⟨by first | omega | exact Nat.le_refl _⟩, ⟨mR HO323.out⟩, ⟨mR HO330.out⟩, ⟨by refine mSd ?_; exact Kd.S_mono HO326.out (fun _ hk => ⟨hk.1.1.1.2, ⟨hk.1.1.2, ⟨hk.1.1.1.1.1.2, hk.2⟩⟩⟩)⟩, ⟨mK BK316.out⟩, ⟨mK BK327.out⟩, ⟨(mH2 HB.out GE316.out GE327.out)⟩⟩
    case rest =>
     clear HC17
     try clear c1
     try clear c2
     try clear p2
     try clear c3
     try clear c3b0
     try clear c4
     try clear c5
     try clear c12
     try clear c15
     try clear c19
     try clear c22
     try clear c24
     try clear c26
     try clear c29
     try clear c30
     try clear c31
     try clear c44
     try clear c44b0
     try clear hcz19_0
     try clear hcz21_0
     try clear hcz26_0
     try clear hcz32_0
     try clear hcz42_0
     try clear hcz5_0
     try clear hfz19_0
     try clear hfz21_0
     try clear hfz26_0
     try clear hfz32_0
     try clear hfz42_0
     try clear hfz5_0
     obtain ⟨kq, x42_16, rfl, HA, HJ16, HO_4, HO_6, HO_328000, BK316, BK327, HB⟩ := hcut
     have hl328000_16 := (Kd.S_reads' HO_328000.out).1
     rw [hl328000_16] at HO_328000
     (try simp only [hl328000_16])
     (try simp only [hl328000_16] at BK316)
     (try simp only [hl328000_16] at BK327)
     (try simp only [hl328000_16] at HO_4)
     (try simp only [hl328000_16] at HO_6)
     cases kq with
     | zero => exact absurd HA.out (by simp [laws_FnExactWhole.j0])
     | succ kj16 =>
      have H := HA.out
      clear HA
      simp only [laws_FnExactWhole.j0] at H
      by_cases c47 : x42_16 = true
      ·subst c47
       have H1 := H
       rw [if_pos rfl] at H1
       clear H
       have H := H1
       clear H1
       exact absurd ((Option.some.inj H).trans ht_) (by decide)
      ·replace c47 := Bool.eq_false_iff.mpr c47
       subst c47
       have H1 := H
       rw [if_neg (show ¬ (false = true) by decide)] at H1
       clear H
       have H := H1
       clear H1
       replace H := Option.bind_eq_some_iff.mp H
       obtain ⟨⟨t339, t340⟩, A480, H⟩ := H
       replace H : ((laws_heldDotS.f kj16 t340 1).bind fun t341 => (if t341 < 0 then (some false) else (if t341 = t339 then ((laws_toGraph.f kj16 l0_0).bind fun t342 => ((impl_Whole.f kj16 t342).bind fun t345 => ((laws_eqDotS.f kj16 t345 t321).bind fun t348 => (if t348 = true then ((laws_heldDotS.f kj16 t340 1).bind fun t349 => (if t349 < 0 then (some false) else (if t349 = t339 then (some true) else (some false)))) else (some false))))) else (some false)))) = some r := H
       have A48 := mS A480
       clear A480
       replace H := Option.bind_eq_some_iff.mp H
       obtain ⟨t341, A490, H⟩ := H
       replace H : (if t341 < 0 then (some false) else (if t341 = t339 then ((laws_toGraph.f kj16 l0_0).bind fun t342 => ((impl_Whole.f kj16 t342).bind fun t345 => ((laws_eqDotS.f kj16 t345 t321).bind fun t348 => (if t348 = true then ((laws_heldDotS.f kj16 t340 1).bind fun t349 => (if t349 < 0 then (some false) else (if t349 = t339 then (some true) else (some false)))) else (some false))))) else (some false))) = some r := H
       have A49 := mS A490
       clear A490
       by_cases c50 : t341 < 0
       ·rw [if_pos c50] at H
        have c50b0 := decide_eq_true c50
        clear c50
        exact absurd ((Option.some.inj H).trans ht_) (by decide)
       ·rw [if_neg c50] at H
        have c50b0 := decide_eq_false c50
        clear c50
        by_cases c51 : t341 = t339
        ·rw [if_pos c51] at H
         have c51b0 : (t341 == t339) = true := beq_iff_eq.mpr c51
         have c51b1 : (t341 != t339) = false := bne_eq_false_iff_eq.mpr c51
         clear c51
         replace H := Option.bind_eq_some_iff.mp H
         obtain ⟨t342, A520, H⟩ := H
         replace H : ((impl_Whole.f kj16 t342).bind fun t345 => ((laws_eqDotS.f kj16 t345 t321).bind fun t348 => (if t348 = true then ((laws_heldDotS.f kj16 t340 1).bind fun t349 => (if t349 < 0 then (some false) else (if t349 = t339 then (some true) else (some false)))) else (some false)))) = some r := H
         have A52 := mS A520
         clear A520
         replace H := Option.bind_eq_some_iff.mp H
         obtain ⟨t345, A530, H⟩ := H
         replace H : ((laws_eqDotS.f kj16 t345 t321).bind fun t348 => (if t348 = true then ((laws_heldDotS.f kj16 t340 1).bind fun t349 => (if t349 < 0 then (some false) else (if t349 = t339 then (some true) else (some false)))) else (some false))) = some r := H
         have A53 := mS A530
         clear A530
         replace H := Option.bind_eq_some_iff.mp H
         obtain ⟨t348, A540, H⟩ := H
         replace H : (if t348 = true then ((laws_heldDotS.f kj16 t340 1).bind fun t349 => (if t349 < 0 then (some false) else (if t349 = t339 then (some true) else (some false)))) else (some false)) = some r := H
         have A54 := mS A540
         clear A540
         by_cases c55 : t348 = true
         ·subst c55
          have H1 := H
          rw [if_pos rfl] at H1
          clear H
          have H := H1
          clear H1
          replace H := Option.bind_eq_some_iff.mp H
          obtain ⟨t349, A560, H⟩ := H
          replace H : (if t349 < 0 then (some false) else (if t349 = t339 then (some true) else (some false))) = some r := H
          have A56 := mS A560
          clear A560
          by_cases c57 : t349 < 0
          ·rw [if_pos c57] at H
           have c57b0 := decide_eq_true c57
           clear c57
           exact absurd ((Option.some.inj H).trans ht_) (by decide)
          ·rw [if_neg c57] at H
           have c57b0 := decide_eq_false c57
           clear c57
           by_cases c58 : t349 = t339
           ·rw [if_pos c58] at H
            have c58b0 : (t349 == t339) = true := beq_iff_eq.mpr c58
            have c58b1 : (t349 != t339) = false := bne_eq_false_iff_eq.mpr c58
            clear c58
            obtain rfl := Option.some.inj H
            go_wp2_with (first | ((with_reducible refine gate_callee (f := 32) rfl ?_); refine mGo 45 Try.func32 #[.slice Ao34 t328.length co34, .int .i64 1] ?_; (with_reducible refine (laws_markDotS.calls kj16 (fun k_ => some k_ = (.slice Ao34 t328.length co34 : Value).ownBlock) (.slice Ao34 t328.length co34) t328 1 t339 t340 w _ ?side1 ?side2 A48.out).mono ?_); (case side1 => exact mH2 HB.out GE316.out GE327.out); (case side2 => exact Kd.R_tight rfl HO_6.out); rintro e w59 ⟨rfl, hy0, hb, hkp⟩; refine ⟨_, rfl, ?_⟩; replace HO_4 := mS (Kd.R_mono (ok' := fun k_ => some k_ ≠ (.slice Ao34 t328.length co34 : Value).ownBlock) (Kd.R_keptB (HO_4.out) hkp (fun k_ hk_ hs_ => (hk_) hs_)) (fun k_ hk_ => hk_.1)); replace HO_328000 := mS (Kd.S_mono (ok' := fun k_ => some k_ ≠ (.slice Ao35 t321.length co35 : Value).ownBlock ∧ some k_ ≠ (.slice Ao34 t328.length co34 : Value).ownBlock ∧ z28 ≤ k_ ∧ k_ < z39) (Kd.S_keptB (HO_328000.out) hkp (fun k_ hk_ hs_ => (hk_.2.1) hs_)) (fun k_ hk_ => ⟨hk_.1.1, hk_.1.2.1, hk_.1.2.2.1, hk_.1.2.2.2⟩)); replace BK316 := mS (blk_kept (mK BK316.out) hkp (fun hs_ => (fun e_ => (Kd.R_ne HO_6.out BK316.out (by decide)) e_) hs_)); replace BK327 := mS (blk_kept (mK BK327.out) hkp (fun hs_ => (fun e_ => (Kd.R_ne HO_6.out BK327.out (by decide)) e_) hs_)); replace HO_6 := mS (Kd.R_reok rfl hy0 (fun k_ e_ => HO_6.out.1 k_ e_)); replace HB := mS (hb); (try clear hb); (try clear hkp); (try clear hy0)) | ((with_reducible refine gate_callee (f := 33) rfl ?_); refine goesL_ (some 48) rfl rfl Try.func33 (by kernel_rfl) rfl #[.slice Ao34 t340.length co34, .int .i64 1] rfl (by (try simp only [List.map_toArray, List.map_cons, List.map_nil]); first | done | (rw [show t340.length = t328.length from (Kd.R_reads' HO_6.out).1.symm] <;> rfl) | rfl | (simp only [List.length_drop, List.length_take]; rfl)) ?_; (with_reducible refine (laws_heldDotS.calls kj16 _ _ t340 1 t341 _ ?side1 ?side2 A49.out).mono ?_); (case side1 => exact mC (Kd.R_reads' HO_6.out).2.2); (case side2 => rw [show t340.length = t328.length from (Kd.R_reads' HO_6.out).1.symm]; exact (Kd.R_reads' HO_6.out).2.1); rintro e w' ⟨rfl, ⟨nd, rfl⟩⟩; refine ⟨_, rfl, ?_⟩; have hnb60 := NB316_327.out; have hnc60 := NB327_316.out; have hcz61_0 := mZ BK316.out 0; have hfz61_0 := blk_frozen BK316.out 0) | ((with_reducible refine gate_callee (f := 22) rfl ?_); refine mGo 55 Try.func22 #[.agg #[.slice A0_0 l0_0.length c0_0]] ?_; (with_reducible refine (laws_toGraph.calls kj16 _ _ l0_0 t342 _ ?side1 ?side2 A52.out).mono ?_); (case side1 => exact mC (Kd.C_below HR0_0.out (mH2 HB.out GE316.out GE327.out))); (case side2 => exact HC0_0.out); rintro e w62 ⟨v343, rfl, ho0, hb⟩; refine ⟨_, rfl, ?_⟩; obtain ⟨z63, hz63⟩ := MWords.mp_size hb; have HO344 := mS (Kd.S_lower (Kd.S_new' (Kd.S_new' (Kd.S_new' (MWords.mp_geS ho0 hz63) (Kd.R_lt (mR HO_4.out))) (Kd.R_lt (mR HO_6.out))) (Kd.S_lt (mSd HO_328000.out))) (below_size (mH2 HB.out GE316.out GE327.out))); replace HO_4 := mS (Kd.R_below (mR HO_4.out) hb); replace HO_6 := mS (Kd.R_below (mR HO_6.out) hb); replace HO_328000 := mS (MWords.mp_ltS (Kd.S_told (Kd.S_old (mSd HO_328000.out) hb) (Kd.S_base ho0)) hz63); replace BK316 := mB BK316 hb; replace BK327 := mB BK327 hb; replace HB := mS (below_step (mH2 HB.out GE316.out GE327.out) hb); (try clear hb); (try clear ho0); obtain ⟨Ao64, co64, eo64⟩ := Kd.S_slice HO344.out; subst eo64) | ((with_reducible refine gate_callee (f := 30) rfl ?_); refine mGo 56 Try.func30 #[.agg #[.slice Ao64 t342.length co64]] ?_; (with_reducible refine (impl_Whole.calls kj16 _ _ t342 t345 _ ?side1 ?side2 A53.out).mono ?_); (case side1 => exact mC (Kd.S_reads' HO344.out).2.2); (case side2 => exact (Kd.S_reads' HO344.out).2.1); rintro e w65 ⟨v346, rfl, ho0, hb⟩; refine ⟨_, rfl, ?_⟩; replace HO_328000 := mS (Kd.S_elder' (mSd HO_328000.out) (Kd.R_base ho0) hb); replace HO344 := mS (Kd.S_elder' (mSd HO344.out) (Kd.R_base ho0) hb); have HO347 := mS (Kd.R_lower (Kd.R_new' (Kd.R_new' ho0 (Kd.R_lt (mR HO_4.out))) (Kd.R_lt (mR HO_6.out))) (below_size (mH2 HB.out GE316.out GE327.out))); replace HO_4 := mS (Kd.R_elder' (mR HO_4.out) (Kd.R_base ho0) hb); replace HO_6 := mS (Kd.R_elder' (mR HO_6.out) (Kd.R_base ho0) hb); replace BK316 := mB BK316 hb; replace BK327 := mB BK327 hb; replace HB := mS (below_step (mH2 HB.out GE316.out GE327.out) hb); (try clear hb); (try clear ho0); obtain ⟨Ao66, co66, eo66⟩ := Kd.R_slice HO347.out; subst eo66) | ((with_reducible refine gate_callee (f := 31) rfl ?_); refine mGo 59 Try.func31 #[.slice Ao66 t345.length co66, .slice Ao35 t321.length co35] ?_; (with_reducible refine (laws_eqDotS.calls kj16 _ _ t345 _ _ t321 true _ ?side1 ?side2 ?side3 ?side4 A54.out).mono ?_); (case side1 => exact mC (Kd.R_reads' HO347.out).2.2); (case side2 => exact (Kd.R_reads' HO347.out).2.1); (case side3 => exact mC (Kd.R_reads' HO_4.out).2.2); (case side4 => exact (Kd.R_reads' HO_4.out).2.1); rintro e w67 ⟨rfl, hb⟩; refine ⟨_, rfl, ?_⟩; replace HO_4 := mS (Kd.R_below (mR HO_4.out) hb); replace HO_6 := mS (Kd.R_below (mR HO_6.out) hb); replace HO_328000 := mS (Kd.S_below (mSd HO_328000.out) hb); replace HO344 := mS (Kd.S_below (mSd HO344.out) hb); replace HO347 := mS (Kd.R_below (mR HO347.out) hb); replace BK316 := mB BK316 hb; replace BK327 := mB BK327 hb; replace HB := mS (below_step (mH2 HB.out GE316.out GE327.out) hb); (try clear hb)) | ((with_reducible refine gate_callee (f := 33) rfl ?_); refine goesL_ (some 63) rfl rfl Try.func33 (by kernel_rfl) rfl #[.slice Ao34 t340.length co34, .int .i64 1] rfl (by (try simp only [List.map_toArray, List.map_cons, List.map_nil]); first | done | (rw [show t340.length = t328.length from (Kd.R_reads' HO_6.out).1.symm] <;> rfl) | rfl | (simp only [List.length_drop, List.length_take]; rfl)) ?_; (with_reducible refine (laws_heldDotS.calls kj16 _ _ t340 1 t349 _ ?side1 ?side2 A56.out).mono ?_); (case side1 => exact mC (Kd.R_reads' HO_6.out).2.2); (case side2 => rw [show t340.length = t328.length from (Kd.R_reads' HO_6.out).1.symm]; exact (Kd.R_reads' HO_6.out).2.1); rintro e w' ⟨rfl, ⟨nd, rfl⟩⟩; refine ⟨_, rfl, ?_⟩))
            go_ret
            exact ⟨mEw, (mH2 HB.out GE316.out GE327.out)⟩
           ·rw [if_neg c58] at H
            have c58b0 : (t349 == t339) = false := beq_eq_false_iff_ne.mpr c58
            have c58b1 : (t349 != t339) = true := bne_iff_ne.mpr c58
            exact absurd ((Option.some.inj H).trans ht_) (by decide)
         ·replace c55 := Bool.eq_false_iff.mpr c55
          subst c55
          have H1 := H
          rw [if_neg (show ¬ (false = true) by decide)] at H1
          clear H
          have H := H1
          clear H1
          exact absurd ((Option.some.inj H).trans ht_) (by decide)
        ·rw [if_neg c51] at H
         have c51b0 : (t341 == t339) = false := beq_eq_false_iff_ne.mpr c51
         have c51b1 : (t341 != t339) = true := bne_iff_ne.mpr c51
         exact absurd ((Option.some.inj H).trans ht_) (by decide)
   ·replace c15 := Bool.eq_false_iff.mpr c15
    subst c15
    have H1 := H
    rw [if_neg (show ¬ (false = true) by decide)] at H1
    clear H
    have H := H1
    clear H1
    exact absurd ((Option.some.inj H).trans ht_) (by decide)
  ·replace c12 := Bool.eq_false_iff.mpr c12
   subst c12
   have H1 := H
   rw [if_neg (show ¬ (false = true) by decide)] at H1
   clear H
   have H := H1
   clear H1
   exact absurd ((Option.some.inj H).trans ht_) (by decide)

end Go.Proofs.Ytgbejjeephipeaa.MFnExactWhole
