-- Written by mp.py, this session's own printer (wip/mp.py).
import Derived.Test.YtgbejjeephipeaaVMShort
import Derived.Test.YtgbejjeephipeaaMFnStablex0
import Derived.Test.YtgbejjeephipeaaMFnStablex10
import Derived.Test.YtgbejjeephipeaaMFnStablex11
import Derived.Test.YtgbejjeephipeaaMFnStablex12
namespace Go.Proofs.Ytgbejjeephipeaa.MFnStable
open Go.RowKit Go.Proofs.YtgbejjeephipeaaW.PrintWords Go.Proofs.YtgbejjeephipeaaW.PrintLast Go.Proofs.YtgbejjeephipeaaW.PrintMore Go.Proofs.Ytgbejjeephipeaa.MWords
attribute [local go_sem] max2_int min2_int max_two min_two max_three min_three max_four min_four   -- for this text's walks alone
set_option linter.unusedVariables false
set_option linter.unusedSimpArgs false

/-! ### impl_Whole: function 30 -/
def impl_Whole.l0 : Nat → List (S31) → List (S33) → Int → Int → List (S33) → Option ((List (S31)))
 | 0, _, _, _, _, _ => none
 | k + 1, x3, x13, x14, x15, x309000 => if x15 < x14 then (if 0 ≤ x15 then (if x15 < (x13.length : Int) then ((impl_reached.f k x309000 ((rd_T33 x13 x15).f0.f0) ((rd_T33 x13 x15).f0.f1)).bind fun bt312 => (if bt312.2 = true then ((impl_withDot.f k x3 ((rd_T33 x13 x15).f0.f0) ((rd_T33 x13 x15).f0.f1)).bind fun t316 => (impl_Whole.l0 k t316 x13 x14 (wrap64 (x15 + 1)) x309000)) else (impl_Whole.l0 k x3 x13 x14 (wrap64 (x15 + 1)) x309000))) else (none)) else (none)) else (some x3)
def impl_Whole.f (k : Nat) (l0_0 : List (S33)) : Option ((List (S31))) := (impl_GraphOk.f k l0_0).bind fun t309 => (if t309 = true then (impl_Whole.l0 k ([] : List (S31)) l0_0 (l0_0.length : Int) 0 l0_0) else (some ([] : List (S31))))
theorem impl_Whole.mono_l : ∀ k, (∀ y0 y1 y2 y3 y4, LeO (impl_Whole.l0 k y0 y1 y2 y3 y4) (impl_Whole.l0 (k + 1) y0 y1 y2 y3 y4))
 | 0 => fun _ _ _ _ _ r h => by simp [impl_Whole.l0] at h
 | k + 1 => by
  have ih0 := impl_Whole.mono_l k
  ·intro y0 y1 y2 y3 y4
   unfold impl_Whole.l0
   repeat' first
   | (with_reducible exact ih0 _ _ _ _ _)
   | (with_reducible exact impl_GraphOk.mono _ _)
   | (with_reducible exact impl_reached.mono _ _ _ _)
   | (with_reducible exact impl_withDot.mono _ _ _ _)
   | (with_reducible exact LeO.refl _)
   | (with_reducible exact LeO.none _)
   | (with_reducible refine LeO.ite ?_ ?_)
   | (with_reducible refine LeO.bind ?_ (fun _ => ?_))
   | exact ih0 _ _ _ _ _
   | exact impl_GraphOk.mono _ _
   | exact impl_reached.mono _ _ _ _
   | exact impl_withDot.mono _ _ _ _
   | exact LeO.none _
   | refine LeO.ite ?_ ?_
   | refine LeO.bind ?_ (fun _ => ?_)
theorem impl_Whole.mono : ∀ a0 k, LeO (impl_Whole.f k a0) (impl_Whole.f (k + 1) a0) := by
 intro a0 k
 have ih0 := impl_Whole.mono_l k
 unfold impl_Whole.f
 repeat' first
   | (with_reducible exact ih0 _ _ _ _ _)
   | (with_reducible exact impl_GraphOk.mono _ _)
   | (with_reducible exact impl_reached.mono _ _ _ _)
   | (with_reducible exact impl_withDot.mono _ _ _ _)
   | (with_reducible exact LeO.refl _)
   | (with_reducible exact LeO.none _)
   | (with_reducible refine LeO.ite ?_ ?_)
   | (with_reducible refine LeO.bind ?_ (fun _ => ?_))
   | exact ih0 _ _ _ _ _
   | exact impl_GraphOk.mono _ _
   | exact impl_reached.mono _ _ _ _
   | exact impl_withDot.mono _ _ _ _
   | exact LeO.none _
   | refine LeO.ite ?_ ?_
   | refine LeO.bind ?_ (fun _ => ?_)
set_option maxHeartbeats 8000000 in
set_option maxRecDepth 100000 in
theorem impl_Whole.calls (k : Nat) (A0_0 : Option Addr) (c0_0 : Nat) (l0_0 : List (S33)) (r : List (S31)) (w : World) (hr0_0 : Kd.C k33 w A0_0 l0_0.length l0_0) (hc0_0 : l0_0.length ≤ c0_0) (h : impl_Whole.f k l0_0 = some r) :
  Calls Try.prog 30 #[.agg #[.slice A0_0 l0_0.length c0_0]] w fun e w' => ∃ v0_ : Value, e = .returned (v0_) ∧ Kd.R k31 31 w' w.heap.size (fun _ => True) v0_ r ∧ Below w.heap.size w w' := by
 have hu26 := Try.underlying26
 have hfd26 : ∀ (v : Value) (w : World), (Instr.field 26 (.agg #[v]) 0).run Try.prog w = .ok v w := fun _ _ => by first | kernel_rfl | rfl
 have hu33 := Try.underlying33
 have hu31 := Try.underlying31
 have HR0_0 := mS hr0_0
 have HC0_0 := mS hc0_0
 clear hr0_0 hc0_0
 have HB := mS (Below.refl w.heap.size w)
 have H : ((impl_GraphOk.f k l0_0).bind fun t309 => (if t309 = true then (impl_Whole.l0 k ([] : List (S31)) l0_0 (l0_0.length : Int) 0 l0_0) else (some ([] : List (S31))))) = some r := h
 clear h
 replace H := Option.bind_eq_some_iff.mp H
 obtain ⟨t309, A20, H⟩ := H
 replace H : (if t309 = true then (impl_Whole.l0 k ([] : List (S31)) l0_0 (l0_0.length : Int) 0 l0_0) else (some ([] : List (S31)))) = some r := H
 have A2 := mS A20
 clear A20
 by_cases c3 : t309 = true
 ·subst c3
  have H1 := H
  rw [if_pos rfl] at H1
  clear H
  have H := H1
  clear H1
  have H' := mS H
  clear H
  go_enter Try.func30, Try.ntmps30
  go_wp2_with (first | ((with_reducible refine gate_dst (N := 1) rfl ?_); refine mBx 1 #[.slice A0_0 l0_0.length c0_0] 26 ?_; intro gb308 hg w4 hbox hb; have BK308 := mS (hbox); have GW308 := mG hg (mH HB.out); have GE308 := mG hg (mH HB.out); replace HB := mS (below_step (mH HB.out) hb); clear hb hbox hg; have hcz5_0 := mZ BK308.out 0; have hfz5_0 := blk_frozen BK308.out 0) | ((with_reducible refine gate_callee (f := 67) rfl ?_); refine mGo 9 Try.func67 #[.agg #[.slice A0_0 l0_0.length c0_0]] ?_; (with_reducible refine (impl_GraphOk.calls k _ _ l0_0 true _ ?side1 ?side2 A2.out).mono ?_); (case side1 => exact mC (Kd.C_below HR0_0.out HB.out)); (case side2 => exact HC0_0.out); rintro e w6 ⟨rfl, hb⟩; refine ⟨_, rfl, ?_⟩; replace BK308 := mB BK308 hb; replace HB := mS (below_step (mH1 HB.out GE308.out) hb); (try clear hb); have hcz7_0 := mZ BK308.out 0; have hfz7_0 := blk_frozen BK308.out 0))
  go_loopg [3, 15] k (fun kq v3 v15 w' => ∃ (x3_1 : List (S31)) (x15_1 : Int), v15 = .int .i64 x15_1 ∧ Aside0 (impl_Whole.l0 kq x3_1 l0_0 (l0_0.length : Int) x15_1 l0_0 = some r) ∧ Aside0 (kq ≤ k) ∧ Aside0 (Kd.R k31 31 w' w.heap.size (fun _ => True) v3 x3_1) ∧ Aside0 (w'.heap[gb308]? = some (.cells #[(.slice A0_0 l0_0.length c0_0)] 26 (0, 0))) ∧ Aside0 (Below w.heap.size w w'))
  case atStart => exact ⟨(([] : List (S31))), (0), mE, H', ⟨Nat.le_refl _⟩, ⟨by first | exact Kd.R_nil _ _ _ _ _ | exact Kd.N_nil _ _ _ _ _ | exact Kd.V_nil _ _ _ _ _ | exact Kd.Q_nil _ _ _ _ _ | exact Kd.S_nil _ _ _ _ _⟩, ⟨mK BK308.out⟩, ⟨(mH1 HB.out GE308.out)⟩⟩
  case round =>
   clear H'
   try clear p2
   try clear c3
   try clear c6
   try clear hcz5_0
   try clear hcz7_0
   try clear hfz5_0
   try clear hfz7_0
   obtain ⟨x3_1, x15_1, rfl, HA, HK1, HO_3, BK308, HB⟩ := hrel
   cases gk with
   | zero => exact absurd HA.out (by simp [impl_Whole.l0])
   | succ k1 =>
    have H := HA.out
    clear HA
    simp only [impl_Whole.l0] at H
    by_cases c8 : x15_1 < (l0_0.length : Int)
    ·rw [if_pos c8] at H
     have c8b0 := decide_eq_true c8
     clear c8
     by_cases c9 : 0 ≤ x15_1
     ·rw [if_pos c9] at H
      have c9b0 := decide_eq_true c9
      clear c9
      by_cases c10 : x15_1 < (l0_0.length : Int)
      ·rw [if_pos c10] at H
       have c10b0 := decide_eq_true c10
       clear c10
       replace H := Option.bind_eq_some_iff.mp H
       obtain ⟨⟨t312, t315⟩, A110, H⟩ := H
       replace H : (if t315 = true then ((impl_withDot.f k1 x3_1 ((rd_T33 l0_0 x15_1).f0.f0) ((rd_T33 l0_0 x15_1).f0.f1)).bind fun t316 => (impl_Whole.l0 k1 t316 l0_0 (l0_0.length : Int) (wrap64 (x15_1 + 1)) l0_0)) else (impl_Whole.l0 k1 x3_1 l0_0 (l0_0.length : Int) (wrap64 (x15_1 + 1)) l0_0)) = some r := H
       have A11 := mS A110
       clear A110
       by_cases c12 : t315 = true
       ·subst c12
        have H1 := H
        rw [if_pos rfl] at H1
        clear H
        have H := H1
        clear H1
        replace H := Option.bind_eq_some_iff.mp H
        obtain ⟨t316, A130, H⟩ := H
        replace H : (impl_Whole.l0 k1 t316 l0_0 (l0_0.length : Int) (wrap64 (x15_1 + 1)) l0_0) = some r := H
        have A13 := mS A130
        clear A130
        have H' := mS H
        clear H
        have p310 : 0 ≤ (x15_1 : Int) := mD
        have q310 : x15_1 < (l0_0.length : Int) := mD
        obtain ⟨ad310, A310_2, c310_2, e310, hx310_0, hx310_1, hx310_2, hl310_2, hi310_2⟩ := at_T33 HR0_0.out x15_1 p310 q310
        cases e310
        replace hx310_0 := mX HB.out hx310_0
        replace hx310_1 := mX HB.out hx310_1
        replace hx310_2 := mX HB.out hx310_2
        have HR310_2 := mS hi310_2
        have HC310_2 := mS hl310_2
        clear hi310_2 hl310_2
        replace p310 := eq_true p310
        replace q310 := eq_true q310
        go_wp2_with (first | ((with_reducible refine gate_dst (N := 5) rfl ?_); refine mBx 5 #[.int .i64 0, .int .i64 0, .slice none 0 0] 33 ?_; intro gb311 hg w14 hbox hb; replace HO_3 := mS (Kd.R_below (mR HO_3.out) hb); have BK311 := mS (hbox); have GW311 := mG hg (mH1 HB.out GE308.out); have GE311 := mG hg (mH1 HB.out GE308.out); replace HB := mS (below_step (mH1 HB.out GE308.out) hb); have NB308_311 := mNl hg BK308.out; have NB311_308 := mNg hg BK308.out; replace BK308 := mB BK308 hb; clear hb hbox hg; have hnb15 := NB311_308.out; have hnc15 := NB308_311.out; obtain ⟨hcz16_0, hcz16_1, hcz16_2, hfz16_0, hfz16_1, hfz16_2⟩ := mZ3 BK311.out; have hcz17_0 := mZ BK308.out 0; have hfz17_0 := blk_frozen BK308.out 0) | ((with_reducible refine gate_callee (f := 82) rfl ?_); refine mGo 23 Try.func82 #[.agg #[.slice (some ad310) l0_0.length c0_0], .agg #[.int .i64 ((rd_T33 l0_0 x15_1).f0.f0), .int .i64 ((rd_T33 l0_0 x15_1).f0.f1)]] ?_; (with_reducible refine (impl_reached.calls k1 _ _ l0_0 ((rd_T33 l0_0 x15_1).f0.f0) ((rd_T33 l0_0 x15_1).f0.f1) t312 true _ ?side1 ?side2 A11.out).mono ?_); (case side1 => exact Kd.C_below HR0_0.out (mH2 HB.out GE308.out GE311.out)); (case side2 => exact HC0_0.out); rintro e w18 ⟨v313, rfl, ho0, hb⟩; refine ⟨_, rfl, ?_⟩; have HO314 := mS (Kd.R_lower (Kd.R_new' ho0 (Kd.R_lt (by refine mR ?_; exact (Kd.R_mono (mRf3 (Kd.R_types HO_3.out BK311.out (by decide))) (fun _ h_ => h_.1))))) (below_size (mH2 HB.out GE308.out GE311.out))); replace HO_3 := mS (Kd.R_elder' (by refine mR ?_; exact (Kd.R_mono (mRf3 (Kd.R_types HO_3.out BK311.out (by decide))) (fun _ h_ => h_.1))) (Kd.R_base ho0) hb); replace BK308 := mS (blk_below (g := gb308) (o := .cells #[.slice (some ad310) l0_0.length c0_0] 26 (0, 0)) (mKf NB308_311.out BK308.out) hb); replace BK311 := mS (blk_below (g := gb311) (o := .cells #[.int .i64 ((rd_T33 l0_0 x15_1).f0.f0), .int .i64 ((rd_T33 l0_0 x15_1).f0.f1), .slice A310_2 ((rd_T33 l0_0 x15_1).f1).length c310_2] 33 (0, 0)) (by refine mK ?_; refine blk_put (cs := #[.int .i64 ((rd_T33 l0_0 x15_1).f0.f0), .int .i64 ((rd_T33 l0_0 x15_1).f0.f1), .slice none 0 0]) ?_ 2 _ rfl; refine mK ?_; refine blk_put (cs := #[.int .i64 ((rd_T33 l0_0 x15_1).f0.f0), .int .i64 0, .slice none 0 0]) ?_ 1 _ rfl; refine mK ?_; refine blk_put (cs := #[.int .i64 0, .int .i64 0, .slice none 0 0]) ?_ 0 _ rfl; refine mK ?_; exact BK311.out) hb); replace HB := mS (below_step (mH2 HB.out GE308.out GE311.out) hb); (try clear hb); (try clear ho0); obtain ⟨hcz19_0, hcz19_1, hcz19_2, hfz19_0, hfz19_1, hfz19_2⟩ := mZ3 BK311.out; obtain ⟨Ao20, co20, eo20⟩ := Kd.R_slice HO_3.out; subst eo20) | ((with_reducible refine gate_callee (f := 83) rfl ?_); refine mGo 30 Try.func83 #[.slice Ao20 x3_1.length co20, .agg #[.int .i64 ((rd_T33 l0_0 x15_1).f0.f0), .int .i64 ((rd_T33 l0_0 x15_1).f0.f1)]] ?_; (with_reducible refine (impl_withDot.calls k1 (fun k_ => some k_ = (.slice Ao20 x3_1.length co20 : Value).ownBlock) (.slice Ao20 x3_1.length co20) x3_1 ((rd_T33 l0_0 x15_1).f0.f0) ((rd_T33 l0_0 x15_1).f0.f1) t316 w _ ?side1 ?side2 A13.out).mono ?_); (case side1 => exact mH2 HB.out GE308.out GE311.out); (case side2 => exact Kd.R_tight rfl HO_3.out); rintro e w21 ⟨v317, rfl, ho0, hb, hkp⟩; refine ⟨_, rfl, ?_⟩; replace BK308 := mS (blk_kept (mK BK308.out) hkp (fun hs_ => (fun e_ => (Kd.R_ne HO_3.out BK308.out (by decide)) e_) hs_)); replace BK311 := mS (blk_kept (mK BK311.out) hkp (fun hs_ => (fun e_ => (Kd.R_ne HO_3.out BK311.out (by decide)) e_) hs_)); have HO318 := mS (Kd.R_mono (ok' := fun k_ => some k_ ≠ (v313 : Value).ownBlock) ho0 (fun k_ hk_ => Or.elim hk_ (fun hs_ => fun e_ => (((HO314.out).1 k_ e_.symm).2) hs_) (fun hn_ => (Kd.fresh' (Kd.R_lt (mR HO314.out)) k_ hn_)))); replace HO314 := mS (Kd.R_mono (ok' := fun k_ => some k_ ≠ (v317 : Value).ownBlock) (Kd.R_keptB (HO314.out) hkp (fun k_ hk_ hs_ => (hk_.2) hs_)) (fun k_ hk_ => fun e_ => Or.elim (ho0.1 k_ e_.symm) (fun hs_ => hk_.2.1 hs_) (fun hn_ => Nat.not_le.2 hk_.2.2 hn_))); replace HB := mS (hb); clear HO_3; (try clear hb); (try clear hkp); (try clear ho0)))
        go_roundg k1
        case measure => have := HK1.out; omega
        case rel => exact ⟨(t316), (wrap64 (x15_1 + 1)), mE, H', ⟨by have := HK1.out; omega⟩, ⟨by refine mR ?_; exact Kd.R_mono HO318.out (fun _ hk => trivial)⟩, ⟨mK BK308.out⟩, ⟨(mH2 HB.out GE308.out GE311.out)⟩⟩
       ·replace c12 := Bool.eq_false_iff.mpr c12
        subst c12
        have H1 := H
        rw [if_neg (show ¬ (false = true) by decide)] at H1
        clear H
        have H := H1
        clear H1
        have H' := mS H
        clear H
        have p310 : 0 ≤ (x15_1 : Int) := mD
        have q310 : x15_1 < (l0_0.length : Int) := mD
        obtain ⟨ad310, A310_2, c310_2, e310, hx310_0, hx310_1, hx310_2, hl310_2, hi310_2⟩ := at_T33 HR0_0.out x15_1 p310 q310
        cases e310
        replace hx310_0 := mX HB.out hx310_0
        replace hx310_1 := mX HB.out hx310_1
        replace hx310_2 := mX HB.out hx310_2
        have HR310_2 := mS hi310_2
        have HC310_2 := mS hl310_2
        clear hi310_2 hl310_2
        replace p310 := eq_true p310
        replace q310 := eq_true q310
        go_wp2_with (first | ((with_reducible refine gate_dst (N := 5) rfl ?_); refine mBx 5 #[.int .i64 0, .int .i64 0, .slice none 0 0] 33 ?_; intro gb311 hg w22 hbox hb; replace HO_3 := mS (Kd.R_below (mR HO_3.out) hb); have BK311 := mS (hbox); have GW311 := mG hg (mH1 HB.out GE308.out); have GE311 := mG hg (mH1 HB.out GE308.out); replace HB := mS (below_step (mH1 HB.out GE308.out) hb); have NB308_311 := mNl hg BK308.out; have NB311_308 := mNg hg BK308.out; replace BK308 := mB BK308 hb; clear hb hbox hg; have hnb23 := NB311_308.out; have hnc23 := NB308_311.out; obtain ⟨hcz24_0, hcz24_1, hcz24_2, hfz24_0, hfz24_1, hfz24_2⟩ := mZ3 BK311.out; have hcz25_0 := mZ BK308.out 0; have hfz25_0 := blk_frozen BK308.out 0) | ((with_reducible refine gate_callee (f := 82) rfl ?_); refine mGo 23 Try.func82 #[.agg #[.slice (some ad310) l0_0.length c0_0], .agg #[.int .i64 ((rd_T33 l0_0 x15_1).f0.f0), .int .i64 ((rd_T33 l0_0 x15_1).f0.f1)]] ?_; (with_reducible refine (impl_reached.calls k1 _ _ l0_0 ((rd_T33 l0_0 x15_1).f0.f0) ((rd_T33 l0_0 x15_1).f0.f1) t312 false _ ?side1 ?side2 A11.out).mono ?_); (case side1 => exact Kd.C_below HR0_0.out (mH2 HB.out GE308.out GE311.out)); (case side2 => exact HC0_0.out); rintro e w26 ⟨v313, rfl, ho0, hb⟩; refine ⟨_, rfl, ?_⟩; have HO314 := mS (Kd.R_lower (Kd.R_new' ho0 (Kd.R_lt (by refine mR ?_; exact (Kd.R_mono (mRf3 (Kd.R_types HO_3.out BK311.out (by decide))) (fun _ h_ => h_.1))))) (below_size (mH2 HB.out GE308.out GE311.out))); replace HO_3 := mS (Kd.R_elder' (by refine mR ?_; exact (Kd.R_mono (mRf3 (Kd.R_types HO_3.out BK311.out (by decide))) (fun _ h_ => h_.1))) (Kd.R_base ho0) hb); replace BK308 := mS (blk_below (g := gb308) (o := .cells #[.slice (some ad310) l0_0.length c0_0] 26 (0, 0)) (mKf NB308_311.out BK308.out) hb); replace BK311 := mS (blk_below (g := gb311) (o := .cells #[.int .i64 ((rd_T33 l0_0 x15_1).f0.f0), .int .i64 ((rd_T33 l0_0 x15_1).f0.f1), .slice A310_2 ((rd_T33 l0_0 x15_1).f1).length c310_2] 33 (0, 0)) (by refine mK ?_; refine blk_put (cs := #[.int .i64 ((rd_T33 l0_0 x15_1).f0.f0), .int .i64 ((rd_T33 l0_0 x15_1).f0.f1), .slice none 0 0]) ?_ 2 _ rfl; refine mK ?_; refine blk_put (cs := #[.int .i64 ((rd_T33 l0_0 x15_1).f0.f0), .int .i64 0, .slice none 0 0]) ?_ 1 _ rfl; refine mK ?_; refine blk_put (cs := #[.int .i64 0, .int .i64 0, .slice none 0 0]) ?_ 0 _ rfl; refine mK ?_; exact BK311.out) hb); replace HB := mS (below_step (mH2 HB.out GE308.out GE311.out) hb); (try clear hb); (try clear ho0)))
        go_roundg k1
        case measure => have := HK1.out; omega
        case rel => exact ⟨(x3_1), (wrap64 (x15_1 + 1)), mE, H', ⟨by have := HK1.out; omega⟩, ⟨by refine mR ?_; exact Kd.R_mono HO_3.out (fun _ hk => trivial)⟩, ⟨mK BK308.out⟩, ⟨(mH2 HB.out GE308.out GE311.out)⟩⟩
      ·rw [if_neg c10] at H
       exact absurd H (by simp)
     ·rw [if_neg c9] at H
      exact absurd H (by simp)
    ·rw [if_neg c8] at H
     have c8b0 := decide_eq_false c8
     clear c8
     obtain rfl := Option.some.inj H
     go_wp2
     go_ret
     exact ⟨_, mEw, mR HO_3.out, (mH1 HB.out GE308.out)⟩
 ·replace c3 := Bool.eq_false_iff.mpr c3
  subst c3
  have H1 := H
  rw [if_neg (show ¬ (false = true) by decide)] at H1
  clear H
  have H := H1
  clear H1
  obtain rfl := Option.some.inj H
  go_enter Try.func30, Try.ntmps30
  go_wp2_with (first | ((with_reducible refine gate_dst (N := 1) rfl ?_); refine mBx 1 #[.slice A0_0 l0_0.length c0_0] 26 ?_; intro gb308 hg w27 hbox hb; have BK308 := mS (hbox); have GW308 := mG hg (mH HB.out); have GE308 := mG hg (mH HB.out); replace HB := mS (below_step (mH HB.out) hb); clear hb hbox hg; have hcz28_0 := mZ BK308.out 0; have hfz28_0 := blk_frozen BK308.out 0) | ((with_reducible refine gate_callee (f := 67) rfl ?_); refine mGo 9 Try.func67 #[.agg #[.slice A0_0 l0_0.length c0_0]] ?_; (with_reducible refine (impl_GraphOk.calls k _ _ l0_0 false _ ?side1 ?side2 A2.out).mono ?_); (case side1 => exact mC (Kd.C_below HR0_0.out HB.out)); (case side2 => exact HC0_0.out); rintro e w29 ⟨rfl, hb⟩; refine ⟨_, rfl, ?_⟩; replace BK308 := mB BK308 hb; replace HB := mS (below_step (mH1 HB.out GE308.out) hb); (try clear hb)))
  go_ret
  exact ⟨_, mEw, by first | exact Kd.R_nil _ _ _ _ _ | exact Kd.N_nil _ _ _ _ _ | exact Kd.V_nil _ _ _ _ _ | exact Kd.Q_nil _ _ _ _ _ | exact Kd.S_nil _ _ _ _ _, (mH1 HB.out GE308.out)⟩

/-! ### impl_Group: function 36 -/
mutual
def impl_Group.j0 : Nat → List (S31) → Bool → List (S33) → Int → Int → Option ((List (S31)))
 | 0, _, _, _, _, _ => none
 | k + 1, x5, x24, x320000, x321000, x321001 => if x24 = true then (some ([] : List (S31))) else (impl_Group.l0 k (([(⟨x321000, x321001⟩ : S31)] : List (S31))) x5 (x5.length : Int) 0 x320000 x321000 x321001)
def impl_Group.l0 : Nat → List (S31) → List (S31) → Int → Int → List (S33) → Int → Int → Option ((List (S31)))
 | 0, _, _, _, _, _, _, _ => none
 | k + 1, x7, x27, x28, x29, x320000, x321000, x321001 => if x29 < x28 then (if 0 ≤ x29 then (if x29 < (x27.length : Int) then ((impl_reached.f k x320000 ((rd_T31 x27 x29).f0) ((rd_T31 x27 x29).f1)).bind fun bt331 => ((impl_hasDot.f k bt331.1 x321000 x321001).bind fun t335 => (if t335 = true then ((impl_withDot.f k x7 ((rd_T31 x27 x29).f0) ((rd_T31 x27 x29).f1)).bind fun t336 => (impl_Group.l0 k t336 x27 x28 (wrap64 (x29 + 1)) x320000 x321000 x321001)) else (impl_Group.l0 k x7 x27 x28 (wrap64 (x29 + 1)) x320000 x321000 x321001)))) else (none)) else (none)) else (some x7)
end
def impl_Group.f (k : Nat) (l0_0 : List (S33)) (a1_0 : Int) (a1_1 : Int) : Option ((List (S31))) := (impl_reached.f k l0_0 a1_0 a1_1).bind fun bt321 => (if bt321.2 = true then ((impl_GraphOk.f k l0_0).bind fun t325 => (impl_Group.j0 k bt321.1 (!t325) l0_0 a1_0 a1_1)) else (impl_Group.j0 k bt321.1 true l0_0 a1_0 a1_1))
theorem impl_Group.mono_l : ∀ k, (∀ y0 y1 y2 y3 y4, LeO (impl_Group.j0 k y0 y1 y2 y3 y4) (impl_Group.j0 (k + 1) y0 y1 y2 y3 y4)) ∧ (∀ y0 y1 y2 y3 y4 y5 y6, LeO (impl_Group.l0 k y0 y1 y2 y3 y4 y5 y6) (impl_Group.l0 (k + 1) y0 y1 y2 y3 y4 y5 y6))
 | 0 => ⟨fun _ _ _ _ _ r h => by simp [impl_Group.j0] at h, fun _ _ _ _ _ _ _ r h => by simp [impl_Group.l0] at h⟩
 | k + 1 => by
  obtain ⟨ih0, ih1⟩ := impl_Group.mono_l k
  refine ⟨?_, ?_⟩
  ·intro y0 y1 y2 y3 y4
   unfold impl_Group.j0
   repeat' first
   | (with_reducible exact ih0 _ _ _ _ _)
   | (with_reducible exact ih1 _ _ _ _ _ _ _)
   | (with_reducible exact impl_GraphOk.mono _ _)
   | (with_reducible exact impl_hasDot.mono _ _ _ _)
   | (with_reducible exact impl_reached.mono _ _ _ _)
   | (with_reducible exact impl_withDot.mono _ _ _ _)
   | (with_reducible exact LeO.refl _)
   | (with_reducible exact LeO.none _)
   | (with_reducible refine LeO.ite ?_ ?_)
   | (with_reducible refine LeO.bind ?_ (fun _ => ?_))
   | exact ih0 _ _ _ _ _
   | exact ih1 _ _ _ _ _ _ _
   | exact impl_GraphOk.mono _ _
   | exact impl_hasDot.mono _ _ _ _
   | exact impl_reached.mono _ _ _ _
   | exact impl_withDot.mono _ _ _ _
   | exact LeO.none _
   | refine LeO.ite ?_ ?_
   | refine LeO.bind ?_ (fun _ => ?_)
  ·intro y0 y1 y2 y3 y4 y5 y6
   unfold impl_Group.l0
   repeat' first
   | (with_reducible exact ih0 _ _ _ _ _)
   | (with_reducible exact ih1 _ _ _ _ _ _ _)
   | (with_reducible exact impl_GraphOk.mono _ _)
   | (with_reducible exact impl_hasDot.mono _ _ _ _)
   | (with_reducible exact impl_reached.mono _ _ _ _)
   | (with_reducible exact impl_withDot.mono _ _ _ _)
   | (with_reducible exact LeO.refl _)
   | (with_reducible exact LeO.none _)
   | (with_reducible refine LeO.ite ?_ ?_)
   | (with_reducible refine LeO.bind ?_ (fun _ => ?_))
   | exact ih0 _ _ _ _ _
   | exact ih1 _ _ _ _ _ _ _
   | exact impl_GraphOk.mono _ _
   | exact impl_hasDot.mono _ _ _ _
   | exact impl_reached.mono _ _ _ _
   | exact impl_withDot.mono _ _ _ _
   | exact LeO.none _
   | refine LeO.ite ?_ ?_
   | refine LeO.bind ?_ (fun _ => ?_)
theorem impl_Group.mono : ∀ a0 a1 a2 k, LeO (impl_Group.f k a0 a1 a2) (impl_Group.f (k + 1) a0 a1 a2) := by
 intro a0 a1 a2 k
 obtain ⟨ih0, ih1⟩ := impl_Group.mono_l k
 unfold impl_Group.f
 repeat' first
   | (with_reducible exact ih0 _ _ _ _ _)
   | (with_reducible exact ih1 _ _ _ _ _ _ _)
   | (with_reducible exact impl_GraphOk.mono _ _)
   | (with_reducible exact impl_hasDot.mono _ _ _ _)
   | (with_reducible exact impl_reached.mono _ _ _ _)
   | (with_reducible exact impl_withDot.mono _ _ _ _)
   | (with_reducible exact LeO.refl _)
   | (with_reducible exact LeO.none _)
   | (with_reducible refine LeO.ite ?_ ?_)
   | (with_reducible refine LeO.bind ?_ (fun _ => ?_))
   | exact ih0 _ _ _ _ _
   | exact ih1 _ _ _ _ _ _ _
   | exact impl_GraphOk.mono _ _
   | exact impl_hasDot.mono _ _ _ _
   | exact impl_reached.mono _ _ _ _
   | exact impl_withDot.mono _ _ _ _
   | exact LeO.none _
   | refine LeO.ite ?_ ?_
   | refine LeO.bind ?_ (fun _ => ?_)
set_option maxHeartbeats 8000000 in
set_option maxRecDepth 100000 in
theorem impl_Group.calls (k : Nat) (A0_0 : Option Addr) (c0_0 : Nat) (l0_0 : List (S33)) (a1_0 : Int) (a1_1 : Int) (r : List (S31)) (w : World) (hr0_0 : Kd.C k33 w A0_0 l0_0.length l0_0) (hc0_0 : l0_0.length ≤ c0_0) (h : impl_Group.f k l0_0 a1_0 a1_1 = some r) :
  Calls Try.prog 36 #[.agg #[.slice A0_0 l0_0.length c0_0], .agg #[.int .i64 a1_0, .int .i64 a1_1]] w fun e w' => ∃ v0_ : Value, e = .returned (v0_) ∧ Kd.R k31 31 w' w.heap.size (fun _ => True) v0_ r ∧ Below w.heap.size w w' := by
 have hu26 := Try.underlying26
 have hfd26 : ∀ (v : Value) (w : World), (Instr.field 26 (.agg #[v]) 0).run Try.prog w = .ok v w := fun _ _ => by first | kernel_rfl | rfl
 have hu31 := Try.underlying31
 have HR0_0 := mS hr0_0
 have HC0_0 := mS hc0_0
 clear hr0_0 hc0_0
 have HB := mS (Below.refl w.heap.size w)
 have H : ((impl_reached.f k l0_0 a1_0 a1_1).bind fun bt321 => (if bt321.2 = true then ((impl_GraphOk.f k l0_0).bind fun t325 => (impl_Group.j0 k bt321.1 (!t325) l0_0 a1_0 a1_1)) else (impl_Group.j0 k bt321.1 true l0_0 a1_0 a1_1))) = some r := h
 clear h
 replace H := Option.bind_eq_some_iff.mp H
 obtain ⟨⟨t321, t324⟩, A30, H⟩ := H
 replace H : (if t324 = true then ((impl_GraphOk.f k l0_0).bind fun t325 => (impl_Group.j0 k t321 (!t325) l0_0 a1_0 a1_1)) else (impl_Group.j0 k t321 true l0_0 a1_0 a1_1)) = some r := H
 have A3 := mS A30
 clear A30
 have HC4 := mS H
 clear H
 go_enter Try.func36, Try.ntmps36
 go_upto_region 2 with (first | ((with_reducible refine gate_dst (N := 2) rfl ?_); refine mBx 2 #[.slice A0_0 l0_0.length c0_0] 26 ?_; intro gb319 hg w5 hbox hb; have BK319 := mS (hbox); have GW319 := mG hg (mH HB.out); have GE319 := mG hg (mH HB.out); replace HB := mS (below_step (mH HB.out) hb); clear hb hbox hg) | ((with_reducible refine gate_dst (N := 3) rfl ?_); refine mBx 3 #[.int .i64 a1_0, .int .i64 a1_1] 31 ?_; intro gb320 hg w6 hbox hb; have BK320 := mS (hbox); have GW320 := mG hg (mH1 HB.out GE319.out); have GE320 := mG hg (mH1 HB.out GE319.out); replace HB := mS (below_step (mH1 HB.out GE319.out) hb); have NB319_320 := mNl hg BK319.out; have NB320_319 := mNg hg BK319.out; replace BK319 := mB BK319 hb; clear hb hbox hg; have hnb7 := NB319_320.out; have hnc7 := NB320_319.out; have hcz8_0 := mZ BK319.out 0; have hfz8_0 := blk_frozen BK319.out 0; obtain ⟨hcz9_0, hcz9_1, hfz9_0, hfz9_1⟩ := mZ2 BK320.out) | ((with_reducible refine gate_callee (f := 82) rfl ?_); refine mGo 15 Try.func82 #[.agg #[.slice A0_0 l0_0.length c0_0], .agg #[.int .i64 a1_0, .int .i64 a1_1]] ?_; (with_reducible refine (impl_reached.calls k _ _ l0_0 a1_0 a1_1 t321 t324 _ ?side1 ?side2 A3.out).mono ?_); (case side1 => exact mC (Kd.C_below HR0_0.out HB.out)); (case side2 => exact HC0_0.out); rintro e w10 ⟨v322, rfl, ho0, hb⟩; refine ⟨_, rfl, ?_⟩; have HO323 := mS (Kd.R_lower (Kd.R_newB ho0 (g := gb320) (o := .cells #[.int .i64 a1_0, .int .i64 a1_1] 31 (0, 0)) (mK BK320.out)) (below_size (mH2 HB.out GE319.out GE320.out))); replace BK319 := mB BK319 hb; replace BK320 := mB BK320 hb; replace HB := mS (below_step (mH2 HB.out GE319.out GE320.out) hb); (try clear hb); (try clear ho0)))
 (try simp only [Act.put, zA, zB, zC])
 go_cut [24] (fun v24 wc => ∃ (kq : Nat) (x24_3 : Bool), v24 = .bool x24_3 ∧ Aside0 (impl_Group.j0 kq t321 x24_3 l0_0 a1_0 a1_1 = some r) ∧ Aside0 (kq ≤ k) ∧ Aside0 (Kd.R k31 31 wc w.heap.size (fun k_ => k_ ≠ gb320) v322 t321) ∧ Aside0 (wc.heap[gb319]? = some (.cells #[(.slice A0_0 l0_0.length c0_0)] 26 (0, 0))) ∧ Aside0 (wc.heap[gb320]? = some (.cells #[.int .i64 a1_0, .int .i64 a1_1] 31 (0, 0))) ∧ Aside0 (Below w.heap.size w wc))
 case first =>
  have H := HC4.out
  clear HC4
  by_cases c11 : t324 = true
  ·subst c11
   have H1 := H
   rw [if_pos rfl] at H1
   clear H
   have H := H1
   clear H1
   replace H := Option.bind_eq_some_iff.mp H
   obtain ⟨t325, A120, H⟩ := H
   replace H : (impl_Group.j0 k t321 (!t325) l0_0 a1_0 a1_1) = some r := H
   have A12 := mS A120
   clear A120
   have H' := mS H
   clear H
   have hnb13 := NB319_320.out
   have hnc13 := NB320_319.out
   have hcz14_0 := mZ BK319.out 0
   have hfz14_0 := blk_frozen BK319.out 0
   go_wp2_with (first | (go_at_call 67; (with_reducible refine (impl_GraphOk.calls k _ _ l0_0 t325 _ ?side1 ?side2 A12.out).mono ?_); (case side1 => exact mC (Kd.C_below HR0_0.out HB.out)); (case side2 => exact HC0_0.out); rintro e w15 ⟨rfl, hb⟩; replace HO323 := mS (Kd.R_below (mR HO323.out) hb); replace BK319 := mB BK319 hb; replace BK320 := mB BK320 hb; replace HB := mS (below_step (mH2 HB.out GE319.out GE320.out) hb); (try clear hb); (try clear hb2); (try clear hk); (try clear hi)))
   go_meet
   case rel => exact ⟨_, (!t325), mE, H', ⟨by first | omega | exact Nat.le_refl _⟩, ⟨by refine mR ?_; exact Kd.R_mono HO323.out (fun _ hk => hk.2)⟩, ⟨mK BK319.out⟩, ⟨mK BK320.out⟩, ⟨(mH2 HB.out GE319.out GE320.out)⟩⟩
  ·replace c11 := Bool.eq_false_iff.mpr c11
   subst c11
   have H1 := H
   rw [if_neg (show ¬ (false = true) by decide)] at H1
   clear H
   have H := H1
   clear H1
   have H' := mS H
   clear H
   go_wp2
   go_meet
   case rel => exact ⟨_, (true), mE, H', ⟨by first | omega | exact Nat.le_refl _⟩, ⟨by refine mR ?_; exact Kd.R_mono HO323.out (fun _ hk => hk.2)⟩, ⟨mK BK319.out⟩, ⟨mK BK320.out⟩, ⟨(mH2 HB.out GE319.out GE320.out)⟩⟩
 case rest =>
  clear HC4
  try clear c1
  try clear p2
  try clear c3
  try clear c7
  try clear c8
  try clear c11
  try clear c13
  try clear hcz14_0
  try clear hcz8_0
  try clear hcz9_0
  try clear hcz9_1
  try clear hfz14_0
  try clear hfz8_0
  try clear hfz9_0
  try clear hfz9_1
  obtain ⟨kq, x24_3, rfl, HA, HJ3, HO_5, BK319, BK320, HB⟩ := hcut
  cases kq with
  | zero => exact absurd HA.out (by simp [impl_Group.j0])
  | succ kj3 =>
   have H := HA.out
   clear HA
   simp only [impl_Group.j0] at H
   by_cases c16 : x24_3 = true
   ·subst c16
    have H1 := H
    rw [if_pos rfl] at H1
    clear H
    have H := H1
    clear H1
    obtain rfl := Option.some.inj H
    go_wp2
    go_ret
    exact ⟨_, mEw, by first | exact Kd.R_nil _ _ _ _ _ | exact Kd.N_nil _ _ _ _ _ | exact Kd.V_nil _ _ _ _ _ | exact Kd.Q_nil _ _ _ _ _ | exact Kd.S_nil _ _ _ _ _, (mH2 HB.out GE319.out GE320.out)⟩
   ·replace c16 := Bool.eq_false_iff.mpr c16
    subst c16
    have H1 := H
    rw [if_neg (show ¬ (false = true) by decide)] at H1
    clear H
    have H := H1
    clear H1
    obtain ⟨y326, hy326⟩ : ∃ y_ : List (S31), y_ = (([(⟨a1_0, a1_1⟩ : S31)] : List (S31))) := ⟨_, rfl⟩
    replace H : (impl_Group.l0 kj3 y326 t321 (t321.length : Int) 0 l0_0 a1_0 a1_1) = some r := by first | (rw [hy326]; with_reducible exact H) | (have H2_ := (Option.bind_some _ _).symm.trans H; rw [hy326]; with_reducible exact H2_) | (have H2_ := (Option.bind_some _ _).symm.trans H; with_reducible exact H2_) | with_reducible exact H | (rw [hy326]; exact H) | exact H
    have Ny326 := mS hy326
    clear hy326
    have H' := mS H
    clear H
    have hnb17 := NB320_319.out
    have hnc17 := NB319_320.out
    obtain ⟨hcz18_0, hcz18_1, hfz18_0, hfz18_1⟩ := mZ2 BK320.out
    go_wp2_with (first | ((with_reducible refine gate_dst (N := 26) rfl ?_); refine Kd.R_lit k31 _ 31 ?hg (N := 26) ?hd (xs := ([(⟨a1_0, a1_1⟩ : S31)] : List (S31))) (inner := [.int .i64 a1_0, .int .i64 a1_1]) (ok := fun _ => True) (okp := fun _ => True) ?hr ?hp (fun _ hk => hk) trivial (Below.refl _ _) (Nat.le_refl _) (by simp) ?_; (case hd => rfl); (case hg => rfl); (case hr => first | (go_simp; done) | (go_simp; rfl)); (case hp => exact (Reps.c2 (show Kd.M k31 _ _ _ (⟨a1_0, a1_1⟩ : S31) [.int .i64 a1_0, .int .i64 a1_1] from (k31_mkM _ _ _ (⟨a1_0, a1_1⟩ : S31) )) (Reps.none _ _))); intro v327 w19 ho20 hb hg_ hnew_; clear hg_ hnew_; (first | rw [← Ny326.out] at ho20 | (simp only [Int.reduceToNat] at ho20; rw [← Ny326.out] at ho20)); have HO328 := mS (Kd.R_lower (Kd.R_newB (Kd.R_new' ho20 (Kd.R_lt (mR HO_5.out))) (g := gb320) (o := .cells #[.int .i64 a1_0, .int .i64 a1_1] 31 (0, 0)) (mK BK320.out)) (below_size (mH2 HB.out GE319.out GE320.out))); replace HO_5 := mS (Kd.R_elder' (mR HO_5.out) (Kd.R_base ho20) hb); replace BK319 := mB BK319 hb; replace BK320 := mB BK320 hb; replace HB := mS (below_step (mH2 HB.out GE319.out GE320.out) hb); clear hb ho20; obtain ⟨Ao21, co21, eo21⟩ := Kd.R_slice HO_5.out; subst eo21))
    go_loopg [7, 29] kj3 (fun kq v7 v29 w' => ∃ (x7_2 : List (S31)) (x29_2 : Int), v29 = .int .i64 x29_2 ∧ Aside0 (impl_Group.l0 kq x7_2 t321 (t321.length : Int) x29_2 l0_0 a1_0 a1_1 = some r) ∧ Aside0 (kq ≤ kj3) ∧ Aside0 (Kd.R k31 31 w' w.heap.size (fun k_ => some k_ ≠ ((.slice Ao21 t321.length co21) : Value).ownBlock ∧ k_ ≠ gb320) v7 x7_2) ∧ Aside0 (Kd.R k31 31 w' w.heap.size (fun k_ => some k_ ≠ (v7 : Value).ownBlock ∧ k_ ≠ gb320) (.slice Ao21 t321.length co21) t321) ∧ Aside0 (w'.heap[gb319]? = some (.cells #[(.slice A0_0 l0_0.length c0_0)] 26 (0, 0))) ∧ Aside0 (w'.heap[gb320]? = some (.cells #[.int .i64 a1_0, .int .i64 a1_1] 31 (0, 0))) ∧ Aside0 (Below w.heap.size w w'))
    case atStart => exact ⟨(y326), (0), mE, H', ⟨Nat.le_refl _⟩, ⟨by refine mR ?_; exact Kd.R_mono HO328.out (fun _ hk => ⟨hk.1.2, hk.2⟩)⟩, ⟨by refine mR ?_; exact Kd.R_mono HO_5.out (fun _ hk => ⟨hk.2, hk.1⟩)⟩, ⟨mK BK319.out⟩, ⟨mK BK320.out⟩, ⟨(mH2 HB.out GE319.out GE320.out)⟩⟩
    case round =>
     clear H'
     try clear c1
     try clear c2
     try clear p2
     try clear c3
     try clear c7
     try clear c8
     try clear c11
     try clear c13
     try clear c16
     try clear c17
     try clear hcz14_0
     try clear hcz18_0
     try clear hcz18_1
     try clear hcz8_0
     try clear hcz9_0
     try clear hcz9_1
     try clear hfz14_0
     try clear hfz18_0
     try clear hfz18_1
     try clear hfz8_0
     try clear hfz9_0
     try clear hfz9_1
     try clear p2
     obtain ⟨x7_2, x29_2, rfl, HA, HK2, HO_7, HO_27, BK319, BK320, HB⟩ := hrel
     cases gk with
     | zero => exact absurd HA.out (by simp [impl_Group.l0])
     | succ k2 =>
      have H := HA.out
      clear HA
      simp only [impl_Group.l0] at H
      by_cases c22 : x29_2 < (t321.length : Int)
      ·rw [if_pos c22] at H
       have c22b0 := decide_eq_true c22
       clear c22
       by_cases c23 : 0 ≤ x29_2
       ·rw [if_pos c23] at H
        have c23b0 := decide_eq_true c23
        clear c23
        by_cases c24 : x29_2 < (t321.length : Int)
        ·rw [if_pos c24] at H
         have c24b0 := decide_eq_true c24
         clear c24
         replace H := Option.bind_eq_some_iff.mp H
         obtain ⟨⟨t331, t334⟩, A250, H⟩ := H
         replace H : ((impl_hasDot.f k2 t331 a1_0 a1_1).bind fun t335 => (if t335 = true then ((impl_withDot.f k2 x7_2 ((rd_T31 t321 x29_2).f0) ((rd_T31 t321 x29_2).f1)).bind fun t336 => (impl_Group.l0 k2 t336 t321 (t321.length : Int) (wrap64 (x29_2 + 1)) l0_0 a1_0 a1_1)) else (impl_Group.l0 k2 x7_2 t321 (t321.length : Int) (wrap64 (x29_2 + 1)) l0_0 a1_0 a1_1))) = some r := H
         have A25 := mS A250
         clear A250
         replace H := Option.bind_eq_some_iff.mp H
         obtain ⟨t335, A260, H⟩ := H
         replace H : (if t335 = true then ((impl_withDot.f k2 x7_2 ((rd_T31 t321 x29_2).f0) ((rd_T31 t321 x29_2).f1)).bind fun t336 => (impl_Group.l0 k2 t336 t321 (t321.length : Int) (wrap64 (x29_2 + 1)) l0_0 a1_0 a1_1)) else (impl_Group.l0 k2 x7_2 t321 (t321.length : Int) (wrap64 (x29_2 + 1)) l0_0 a1_0 a1_1)) = some r := H
         have A26 := mS A260
         clear A260
         by_cases c27 : t335 = true
         ·subst c27
          have H1 := H
          rw [if_pos rfl] at H1
          clear H
          have H := H1
          clear H1
          replace H := Option.bind_eq_some_iff.mp H
          obtain ⟨t336, A280, H⟩ := H
          replace H : (impl_Group.l0 k2 t336 t321 (t321.length : Int) (wrap64 (x29_2 + 1)) l0_0 a1_0 a1_1) = some r := H
          have A28 := mS A280
          clear A280
          have H' := mS H
          clear H
          have p329 : 0 ≤ (x29_2 : Int) := mD
          have q329 : x29_2 < (t321.length : Int) := mD
          obtain ⟨ad329, e329, hx329_0, hx329_1⟩ := at_T31 (Kd.R_reads' HO_27.out).2.2 x29_2 p329 q329
          cases e329
          replace p329 := eq_true p329
          replace q329 := eq_true q329
          go_wp2_with (first | ((with_reducible refine gate_dst (N := 9) rfl ?_); refine mBx 9 #[.int .i64 0, .int .i64 0] 31 ?_; intro gb330 hg w29 hbox hb; replace HO_7 := mS (Kd.R_below (Kd.R_elderB (mR HO_7.out) gb330 (Nat.le_of_eq hg.symm)) hb); replace HO_27 := mS (Kd.R_below (Kd.R_elderB (mR HO_27.out) gb330 (Nat.le_of_eq hg.symm)) hb); have BK330 := mS (hbox); have GW330 := mG hg (mH2 HB.out GE319.out GE320.out); have GE330 := mG hg (mH2 HB.out GE319.out GE320.out); replace HB := mS (below_step (mH2 HB.out GE319.out GE320.out) hb); have NB319_330 := mNl hg BK319.out; have NB330_319 := mNg hg BK319.out; replace BK319 := mB BK319 hb; have NB320_330 := mNl hg BK320.out; have NB330_320 := mNg hg BK320.out; replace BK320 := mB BK320 hb; clear hb hbox hg; have hnb30 := NB330_319.out; have hnc30 := NB319_330.out; have hnb31 := NB330_320.out; have hnc31 := NB320_330.out; obtain ⟨hcz32_0, hcz32_1, hfz32_0, hfz32_1⟩ := mZ2 BK330.out; have hnb33 := NB319_320.out; have hnc33 := NB320_319.out; have hcz34_0 := mZ BK319.out 0; have hfz34_0 := blk_frozen BK319.out 0) | ((with_reducible refine gate_callee (f := 82) rfl ?_); refine mGo 36 Try.func82 #[.agg #[.slice A0_0 l0_0.length c0_0], .agg #[.int .i64 ((rd_T31 t321 x29_2).f0), .int .i64 ((rd_T31 t321 x29_2).f1)]] ?_; (with_reducible refine (impl_reached.calls k2 _ _ l0_0 ((rd_T31 t321 x29_2).f0) ((rd_T31 t321 x29_2).f1) t331 t334 _ ?side1 ?side2 A25.out).mono ?_); (case side1 => exact Kd.C_below HR0_0.out (mH3 HB.out GE319.out GE320.out GE330.out)); (case side2 => exact HC0_0.out); rintro e w35 ⟨v332, rfl, ho0, hb⟩; refine ⟨_, rfl, ?_⟩; have HO333 := mS (Kd.R_lower (Kd.R_newB (Kd.R_newB (Kd.R_new' (Kd.R_new' ho0 (Kd.R_lt (by refine mR ?_; exact (Kd.R_mono (mRf2 (Kd.R_mono HO_7.out (fun k_ hk => (⟨hk, hk.2⟩ : _ ∧ k_ ≠ gb330)))) (fun _ h_ => h_.1))))) (Kd.R_lt (by refine mR ?_; exact (Kd.R_mono (mRf2 (Kd.R_mono HO_27.out (fun k_ hk => (⟨hk, hk.2⟩ : _ ∧ k_ ≠ gb330)))) (fun _ h_ => h_.1))))) (g := gb320) (o := .cells #[.int .i64 a1_0, .int .i64 a1_1] 31 (0, 0)) (mKf NB320_330.out BK320.out)) (g := gb330) (o := .cells #[.int .i64 ((rd_T31 t321 x29_2).f0), .int .i64 ((rd_T31 t321 x29_2).f1)] 31 (0, 0)) (by refine mK ?_; refine blk_put (cs := #[.int .i64 ((rd_T31 t321 x29_2).f0), .int .i64 0]) ?_ 1 _ rfl; refine mK ?_; refine blk_put (cs := #[.int .i64 0, .int .i64 0]) ?_ 0 _ rfl; refine mK ?_; exact BK330.out)) (below_size (mH3 HB.out GE319.out GE320.out GE330.out))); replace HO_7 := mS (Kd.R_elder' (by refine mR ?_; exact (Kd.R_mono (mRf2 (Kd.R_mono HO_7.out (fun k_ hk => (⟨hk, hk.2⟩ : _ ∧ k_ ≠ gb330)))) (fun _ h_ => h_.1))) (Kd.R_base ho0) hb); replace HO_27 := mS (Kd.R_elder' (by refine mR ?_; exact (Kd.R_mono (mRf2 (Kd.R_mono HO_27.out (fun k_ hk => (⟨hk, hk.2⟩ : _ ∧ k_ ≠ gb330)))) (fun _ h_ => h_.1))) (Kd.R_base ho0) hb); replace BK319 := mS (blk_below (g := gb319) (o := .cells #[.slice A0_0 l0_0.length c0_0] 26 (0, 0)) (mKf NB319_330.out BK319.out) hb); replace BK320 := mS (blk_below (g := gb320) (o := .cells #[.int .i64 a1_0, .int .i64 a1_1] 31 (0, 0)) (mKf NB320_330.out BK320.out) hb); replace BK330 := mS (blk_below (g := gb330) (o := .cells #[.int .i64 ((rd_T31 t321 x29_2).f0), .int .i64 ((rd_T31 t321 x29_2).f1)] 31 (0, 0)) (by refine mK ?_; refine blk_put (cs := #[.int .i64 ((rd_T31 t321 x29_2).f0), .int .i64 0]) ?_ 1 _ rfl; refine mK ?_; refine blk_put (cs := #[.int .i64 0, .int .i64 0]) ?_ 0 _ rfl; refine mK ?_; exact BK330.out) hb); replace HB := mS (below_step (mH3 HB.out GE319.out GE320.out GE330.out) hb); (try clear hb); (try clear ho0); obtain ⟨hcz36_0, hcz36_1, hfz36_0, hfz36_1⟩ := mZ2 BK320.out; obtain ⟨Ao37, co37, eo37⟩ := Kd.R_slice HO333.out; subst eo37) | ((with_reducible refine gate_callee (f := 61) rfl ?_); refine mGo 41 Try.func61 #[.slice Ao37 t331.length co37, .agg #[.int .i64 a1_0, .int .i64 a1_1]] ?_; (with_reducible refine (impl_hasDot.calls k2 _ _ t331 a1_0 a1_1 true _ ?side1 ?side2 A26.out).mono ?_); (case side1 => exact mC (Kd.R_reads' HO333.out).2.2); (case side2 => exact (Kd.R_reads' HO333.out).2.1); rintro e w38 ⟨rfl, hb⟩; refine ⟨_, rfl, ?_⟩; replace HO_7 := mS (Kd.R_below (mR HO_7.out) hb); replace HO_27 := mS (Kd.R_below (mR HO_27.out) hb); replace HO333 := mS (Kd.R_below (mR HO333.out) hb); replace BK319 := mB BK319 hb; replace BK320 := mB BK320 hb; replace BK330 := mB BK330 hb; replace HB := mS (below_step (mH3 HB.out GE319.out GE320.out GE330.out) hb); (try clear hb); obtain ⟨hcz39_0, hcz39_1, hfz39_0, hfz39_1⟩ := mZ2 BK330.out; obtain ⟨Ao40, co40, eo40⟩ := Kd.R_slice HO_7.out; subst eo40) | ((with_reducible refine gate_callee (f := 83) rfl ?_); refine mGo 44 Try.func83 #[.slice Ao40 x7_2.length co40, .agg #[.int .i64 ((rd_T31 t321 x29_2).f0), .int .i64 ((rd_T31 t321 x29_2).f1)]] ?_; (with_reducible refine (impl_withDot.calls k2 (fun k_ => some k_ = (.slice Ao40 x7_2.length co40 : Value).ownBlock) (.slice Ao40 x7_2.length co40) x7_2 ((rd_T31 t321 x29_2).f0) ((rd_T31 t321 x29_2).f1) t336 w _ ?side1 ?side2 A28.out).mono ?_); (case side1 => exact mH3 HB.out GE319.out GE320.out GE330.out); (case side2 => exact Kd.R_tight rfl HO_7.out); rintro e w41 ⟨v337, rfl, ho0, hb, hkp⟩; refine ⟨_, rfl, ?_⟩; replace BK319 := mS (blk_kept (mK BK319.out) hkp (fun hs_ => (fun e_ => (Kd.R_ne HO_7.out BK319.out (by decide)) e_) hs_)); have HO338 := mS (Kd.R_mono (ok' := fun k_ => some k_ ≠ (.slice (some ad329) t321.length co21 : Value).ownBlock ∧ some k_ ≠ (.slice Ao37 t331.length co37 : Value).ownBlock ∧ k_ ≠ gb320 ∧ k_ ≠ gb330) ho0 (fun k_ hk_ => ⟨Or.elim hk_ (fun hs_ => fun e_ => (((HO_27.out).1 k_ e_.symm).1.1.1) hs_) (fun hn_ => (Kd.fresh' (Kd.R_lt (mR HO_27.out)) k_ hn_)), Or.elim hk_ (fun hs_ => fun e_ => (((HO333.out).1 k_ e_.symm).1.1.1.2) hs_) (fun hn_ => (Kd.fresh' (Kd.R_lt (mR HO333.out)) k_ hn_)), Or.elim hk_ (fun hs_ => fun e_ => (Kd.R_away HO_7.out (fun _ hk => hk.1.1.2)) (by rw [← e_]; exact hs_)) (fun hn_ => (Kd.freshB (g := gb320) (o := .cells #[.int .i64 a1_0, .int .i64 a1_1] 31 (0, 0)) (mK BK320.out) k_ hn_)), Or.elim hk_ (fun hs_ => fun e_ => (Kd.R_away HO_7.out (fun _ hk => hk.1.2)) (by rw [← e_]; exact hs_)) (fun hn_ => (Kd.freshB (g := gb330) (o := .cells #[.int .i64 ((rd_T31 t321 x29_2).f0), .int .i64 ((rd_T31 t321 x29_2).f1)] 31 (0, 0)) (mK BK330.out) k_ hn_))⟩)); replace HO_27 := mS (Kd.R_mono (ok' := fun k_ => some k_ ≠ (.slice Ao37 t331.length co37 : Value).ownBlock ∧ k_ ≠ gb320 ∧ k_ ≠ gb330 ∧ some k_ ≠ (v337 : Value).ownBlock) (Kd.R_keptB (HO_27.out) hkp (fun k_ hk_ hs_ => (hk_.1.1.1) hs_)) (fun k_ hk_ => ⟨hk_.1.2, hk_.1.1.1.2, hk_.1.1.2, fun e_ => Or.elim (ho0.1 k_ e_.symm) (fun hs_ => hk_.2.1 hs_) (fun hn_ => Nat.not_le.2 hk_.2.2 hn_)⟩)); replace BK320 := mS (blk_kept (mK BK320.out) hkp (fun hs_ => (fun e_ => (Kd.R_away HO_7.out (fun _ hk => hk.1.1.2)) e_) hs_)); replace BK330 := mS (blk_kept (mK BK330.out) hkp (fun hs_ => (fun e_ => (Kd.R_away HO_7.out (fun _ hk => hk.1.2)) e_) hs_)); replace HO333 := mS (Kd.R_mono (ok' := fun k_ => some k_ ≠ (.slice (some ad329) t321.length co21 : Value).ownBlock ∧ k_ ≠ gb320 ∧ k_ ≠ gb330 ∧ some k_ ≠ (v337 : Value).ownBlock) (Kd.R_keptB (HO333.out) hkp (fun k_ hk_ hs_ => (hk_.1.1.1.2) hs_)) (fun k_ hk_ => ⟨hk_.1.1.1.2, hk_.1.1.2, hk_.1.2, fun e_ => Or.elim (ho0.1 k_ e_.symm) (fun hs_ => hk_.2.1 hs_) (fun hn_ => Nat.not_le.2 hk_.2.2 hn_)⟩)); replace HB := mS (hb); clear HO_7; (try clear hb); (try clear hkp); (try clear ho0)))
          go_roundg k2
          case measure => have := HJ3.out; have := HK2.out; omega
          case rel => exact ⟨(t336), (wrap64 (x29_2 + 1)), mE, H', ⟨by have := HJ3.out; have := HK2.out; omega⟩, ⟨by refine mR ?_; exact Kd.R_mono HO338.out (fun _ hk => ⟨hk.1, hk.2.2.1⟩)⟩, ⟨by refine mR ?_; exact Kd.R_mono HO_27.out (fun _ hk => ⟨hk.2.2.2, hk.2.1⟩)⟩, ⟨mK BK319.out⟩, ⟨mK BK320.out⟩, ⟨(mH3 HB.out GE319.out GE320.out GE330.out)⟩⟩
         ·replace c27 := Bool.eq_false_iff.mpr c27
          subst c27
          have H1 := H
          rw [if_neg (show ¬ (false = true) by decide)] at H1
          clear H
          have H := H1
          clear H1
          have H' := mS H
          clear H
          have p329 : 0 ≤ (x29_2 : Int) := mD
          have q329 : x29_2 < (t321.length : Int) := mD
          obtain ⟨ad329, e329, hx329_0, hx329_1⟩ := at_T31 (Kd.R_reads' HO_27.out).2.2 x29_2 p329 q329
          cases e329
          replace p329 := eq_true p329
          replace q329 := eq_true q329
          go_wp2_with (first | ((with_reducible refine gate_dst (N := 9) rfl ?_); refine mBx 9 #[.int .i64 0, .int .i64 0] 31 ?_; intro gb330 hg w42 hbox hb; replace HO_7 := mS (Kd.R_below (Kd.R_elderB (mR HO_7.out) gb330 (Nat.le_of_eq hg.symm)) hb); replace HO_27 := mS (Kd.R_below (Kd.R_elderB (mR HO_27.out) gb330 (Nat.le_of_eq hg.symm)) hb); have BK330 := mS (hbox); have GW330 := mG hg (mH2 HB.out GE319.out GE320.out); have GE330 := mG hg (mH2 HB.out GE319.out GE320.out); replace HB := mS (below_step (mH2 HB.out GE319.out GE320.out) hb); have NB319_330 := mNl hg BK319.out; have NB330_319 := mNg hg BK319.out; replace BK319 := mB BK319 hb; have NB320_330 := mNl hg BK320.out; have NB330_320 := mNg hg BK320.out; replace BK320 := mB BK320 hb; clear hb hbox hg; have hnb43 := NB330_319.out; have hnc43 := NB319_330.out; have hnb44 := NB330_320.out; have hnc44 := NB320_330.out; obtain ⟨hcz45_0, hcz45_1, hfz45_0, hfz45_1⟩ := mZ2 BK330.out; have hnb46 := NB319_320.out; have hnc46 := NB320_319.out; have hcz47_0 := mZ BK319.out 0; have hfz47_0 := blk_frozen BK319.out 0) | ((with_reducible refine gate_callee (f := 82) rfl ?_); refine mGo 36 Try.func82 #[.agg #[.slice A0_0 l0_0.length c0_0], .agg #[.int .i64 ((rd_T31 t321 x29_2).f0), .int .i64 ((rd_T31 t321 x29_2).f1)]] ?_; (with_reducible refine (impl_reached.calls k2 _ _ l0_0 ((rd_T31 t321 x29_2).f0) ((rd_T31 t321 x29_2).f1) t331 t334 _ ?side1 ?side2 A25.out).mono ?_); (case side1 => exact Kd.C_below HR0_0.out (mH3 HB.out GE319.out GE320.out GE330.out)); (case side2 => exact HC0_0.out); rintro e w48 ⟨v332, rfl, ho0, hb⟩; refine ⟨_, rfl, ?_⟩; have HO333 := mS (Kd.R_lower (Kd.R_newB (Kd.R_newB (Kd.R_new' (Kd.R_new' ho0 (Kd.R_lt (by refine mR ?_; exact (Kd.R_mono (mRf2 (Kd.R_mono HO_7.out (fun k_ hk => (⟨hk, hk.2⟩ : _ ∧ k_ ≠ gb330)))) (fun _ h_ => h_.1))))) (Kd.R_lt (by refine mR ?_; exact (Kd.R_mono (mRf2 (Kd.R_mono HO_27.out (fun k_ hk => (⟨hk, hk.2⟩ : _ ∧ k_ ≠ gb330)))) (fun _ h_ => h_.1))))) (g := gb320) (o := .cells #[.int .i64 a1_0, .int .i64 a1_1] 31 (0, 0)) (mKf NB320_330.out BK320.out)) (g := gb330) (o := .cells #[.int .i64 ((rd_T31 t321 x29_2).f0), .int .i64 ((rd_T31 t321 x29_2).f1)] 31 (0, 0)) (by refine mK ?_; refine blk_put (cs := #[.int .i64 ((rd_T31 t321 x29_2).f0), .int .i64 0]) ?_ 1 _ rfl; refine mK ?_; refine blk_put (cs := #[.int .i64 0, .int .i64 0]) ?_ 0 _ rfl; refine mK ?_; exact BK330.out)) (below_size (mH3 HB.out GE319.out GE320.out GE330.out))); replace HO_7 := mS (Kd.R_elder' (by refine mR ?_; exact (Kd.R_mono (mRf2 (Kd.R_mono HO_7.out (fun k_ hk => (⟨hk, hk.2⟩ : _ ∧ k_ ≠ gb330)))) (fun _ h_ => h_.1))) (Kd.R_base ho0) hb); replace HO_27 := mS (Kd.R_elder' (by refine mR ?_; exact (Kd.R_mono (mRf2 (Kd.R_mono HO_27.out (fun k_ hk => (⟨hk, hk.2⟩ : _ ∧ k_ ≠ gb330)))) (fun _ h_ => h_.1))) (Kd.R_base ho0) hb); replace BK319 := mS (blk_below (g := gb319) (o := .cells #[.slice A0_0 l0_0.length c0_0] 26 (0, 0)) (mKf NB319_330.out BK319.out) hb); replace BK320 := mS (blk_below (g := gb320) (o := .cells #[.int .i64 a1_0, .int .i64 a1_1] 31 (0, 0)) (mKf NB320_330.out BK320.out) hb); replace BK330 := mS (blk_below (g := gb330) (o := .cells #[.int .i64 ((rd_T31 t321 x29_2).f0), .int .i64 ((rd_T31 t321 x29_2).f1)] 31 (0, 0)) (by refine mK ?_; refine blk_put (cs := #[.int .i64 ((rd_T31 t321 x29_2).f0), .int .i64 0]) ?_ 1 _ rfl; refine mK ?_; refine blk_put (cs := #[.int .i64 0, .int .i64 0]) ?_ 0 _ rfl; refine mK ?_; exact BK330.out) hb); replace HB := mS (below_step (mH3 HB.out GE319.out GE320.out GE330.out) hb); (try clear hb); (try clear ho0); obtain ⟨hcz49_0, hcz49_1, hfz49_0, hfz49_1⟩ := mZ2 BK320.out; obtain ⟨Ao50, co50, eo50⟩ := Kd.R_slice HO333.out; subst eo50) | ((with_reducible refine gate_callee (f := 61) rfl ?_); refine mGo 41 Try.func61 #[.slice Ao50 t331.length co50, .agg #[.int .i64 a1_0, .int .i64 a1_1]] ?_; (with_reducible refine (impl_hasDot.calls k2 _ _ t331 a1_0 a1_1 false _ ?side1 ?side2 A26.out).mono ?_); (case side1 => exact mC (Kd.R_reads' HO333.out).2.2); (case side2 => exact (Kd.R_reads' HO333.out).2.1); rintro e w51 ⟨rfl, hb⟩; refine ⟨_, rfl, ?_⟩; replace HO_7 := mS (Kd.R_below (mR HO_7.out) hb); replace HO_27 := mS (Kd.R_below (mR HO_27.out) hb); replace HO333 := mS (Kd.R_below (mR HO333.out) hb); replace BK319 := mB BK319 hb; replace BK320 := mB BK320 hb; replace BK330 := mB BK330 hb; replace HB := mS (below_step (mH3 HB.out GE319.out GE320.out GE330.out) hb); (try clear hb)))
          go_roundg k2
          case measure => have := HJ3.out; have := HK2.out; omega
          case rel => exact ⟨(x7_2), (wrap64 (x29_2 + 1)), mE, H', ⟨by have := HJ3.out; have := HK2.out; omega⟩, ⟨by refine mR ?_; exact Kd.R_mono HO_7.out (fun _ hk => ⟨hk.1.1.1, hk.1.1.2⟩)⟩, ⟨by refine mR ?_; exact Kd.R_mono HO_27.out (fun _ hk => ⟨hk.1.1.1, hk.1.1.2⟩)⟩, ⟨mK BK319.out⟩, ⟨mK BK320.out⟩, ⟨(mH3 HB.out GE319.out GE320.out GE330.out)⟩⟩
        ·rw [if_neg c24] at H
         exact absurd H (by simp)
       ·rw [if_neg c23] at H
        exact absurd H (by simp)
      ·rw [if_neg c22] at H
       have c22b0 := decide_eq_false c22
       clear c22
       obtain rfl := Option.some.inj H
       go_wp2
       go_ret
       exact ⟨_, mEw, by refine mR ?_; exact Kd.R_mono HO_7.out (fun _ hk => trivial), (mH2 HB.out GE319.out GE320.out)⟩

end Go.Proofs.Ytgbejjeephipeaa.MFnStable
