-- Written by mp.py, this session's own printer (wip/mp.py).
import Derived.Test.YtbepbgfkajnlbaaVMShort
import Derived.Test.YtbepbgfkajnlbaaMFnExactMergex0
import Derived.Test.YtbepbgfkajnlbaaMFnExactMergex1
import Derived.Test.YtbepbgfkajnlbaaMFnExactMergex4
import Derived.Test.YtbepbgfkajnlbaaMFnExactMergex7
import Derived.Test.YtbepbgfkajnlbaaMFnExactMergex8
import Derived.Test.YtbepbgfkajnlbaaMFnExactMergex9
namespace Go.Proofs.Ytbepbgfkajnlbaa.MFnExactMerge
open Go.RowKit Go.Proofs.YtbepbgfkajnlbaaW.PrintWords Go.Proofs.YtbepbgfkajnlbaaW.PrintLast Go.Proofs.YtbepbgfkajnlbaaW.PrintMore Go.Proofs.Ytbepbgfkajnlbaa.MWords
attribute [local go_sem] max2_int min2_int max_two min_two max_three min_three max_four min_four   -- for this text's walks alone
set_option linter.unusedVariables false
set_option linter.unusedSimpArgs false

/-! ### laws_FnExactMerge: function 10 -/
def laws_FnExactMerge.j0 : Nat → List (List (S84)) → Bool → List (S33) → List (S33) → Bool → Option (Bool)
 | 0, _, _, _, _, _ => none
 | k + 1, x0, x1, x6, x8, x46 => if x46 = true then (some false) else ((laws_markPairS.f k x8 1).bind fun bt250 => ((laws_heldPairS.f k bt250.2 1).bind fun t252 => (if t252 < 0 then (some false) else (if t252 = bt250.1 then ((laws_toPairSS.f k x0).bind fun t253 => ((impl_Merge.f k t253 x1).bind fun t256 => ((laws_eqPairS.f k t256 x6).bind fun t259 => (if t259 = true then ((laws_heldPairS.f k bt250.2 1).bind fun t260 => (if t260 < 0 then (some false) else (if t260 = bt250.1 then (some true) else (some false)))) else (some false))))) else (some false)))))
def laws_FnExactMerge.f (k : Nat) (l0 : List (List (S84))) (a1 : Bool) : Option (Bool) := (laws_szPairSS.f k l0 1048576).bind fun t229 => (if t229 < 0 then (some true) else ((laws_toPairSS.f k l0).bind fun t230 => ((spec_Merge.f k t230 a1).bind fun t233 => ((laws_toPairSS.f k l0).bind fun t236 => ((impl_Merge.f k t236 a1).bind fun t239 => ((laws_eqPairS.f k t239 t233).bind fun t242 => (if t242 = true then ((laws_toPairSS.f k l0).bind fun t243 => ((laws_eqPairSS.f k t236 t243).bind fun t246 => (if t246 = true then ((laws_markPairSS.f k t236 1).bind fun bt247 => (if bt247.1 < 0 then (laws_FnExactMerge.j0 k l0 a1 t233 t239 true) else ((laws_eqPairS.f k t239 t233).bind fun t249 => (laws_FnExactMerge.j0 k l0 a1 t233 t239 (!t249))))) else (some false)))) else (some false))))))))
theorem laws_FnExactMerge.mono_l : ∀ k, (∀ y0 y1 y2 y3 y4, LeO (laws_FnExactMerge.j0 k y0 y1 y2 y3 y4) (laws_FnExactMerge.j0 (k + 1) y0 y1 y2 y3 y4))
 | 0 => fun _ _ _ _ _ r h => by simp [laws_FnExactMerge.j0] at h
 | k + 1 => by
  have ih0 := laws_FnExactMerge.mono_l k
  ·intro y0 y1 y2 y3 y4
   unfold laws_FnExactMerge.j0
   repeat' first
   | (with_reducible exact ih0 _ _ _ _ _)
   | (with_reducible exact impl_Merge.mono _ _ _)
   | (with_reducible exact laws_eqPairS.mono _ _ _)
   | (with_reducible exact laws_eqPairSS.mono _ _ _)
   | (with_reducible exact laws_heldPairS.mono _ _ _)
   | (with_reducible exact laws_markPairS.mono _ _ _)
   | (with_reducible exact laws_markPairSS.mono _ _ _)
   | (with_reducible exact laws_szPairSS.mono _ _ _)
   | (with_reducible exact laws_toPairSS.mono _ _)
   | (with_reducible exact spec_Merge.mono _ _ _)
   | (with_reducible exact LeO.refl _)
   | (with_reducible exact LeO.none _)
   | (with_reducible refine LeO.ite ?_ ?_)
   | (with_reducible refine LeO.bind ?_ (fun _ => ?_))
   | exact ih0 _ _ _ _ _
   | exact impl_Merge.mono _ _ _
   | exact laws_eqPairS.mono _ _ _
   | exact laws_eqPairSS.mono _ _ _
   | exact laws_heldPairS.mono _ _ _
   | exact laws_markPairS.mono _ _ _
   | exact laws_markPairSS.mono _ _ _
   | exact laws_szPairSS.mono _ _ _
   | exact laws_toPairSS.mono _ _
   | exact spec_Merge.mono _ _ _
   | exact LeO.none _
   | refine LeO.ite ?_ ?_
   | refine LeO.bind ?_ (fun _ => ?_)
theorem laws_FnExactMerge.mono : ∀ a0 a1 k, LeO (laws_FnExactMerge.f k a0 a1) (laws_FnExactMerge.f (k + 1) a0 a1) := by
 intro a0 a1 k
 have ih0 := laws_FnExactMerge.mono_l k
 unfold laws_FnExactMerge.f
 repeat' first
   | (with_reducible exact ih0 _ _ _ _ _)
   | (with_reducible exact impl_Merge.mono _ _ _)
   | (with_reducible exact laws_eqPairS.mono _ _ _)
   | (with_reducible exact laws_eqPairSS.mono _ _ _)
   | (with_reducible exact laws_heldPairS.mono _ _ _)
   | (with_reducible exact laws_markPairS.mono _ _ _)
   | (with_reducible exact laws_markPairSS.mono _ _ _)
   | (with_reducible exact laws_szPairSS.mono _ _ _)
   | (with_reducible exact laws_toPairSS.mono _ _)
   | (with_reducible exact spec_Merge.mono _ _ _)
   | (with_reducible exact LeO.refl _)
   | (with_reducible exact LeO.none _)
   | (with_reducible refine LeO.ite ?_ ?_)
   | (with_reducible refine LeO.bind ?_ (fun _ => ?_))
   | exact ih0 _ _ _ _ _
   | exact impl_Merge.mono _ _ _
   | exact laws_eqPairS.mono _ _ _
   | exact laws_eqPairSS.mono _ _ _
   | exact laws_heldPairS.mono _ _ _
   | exact laws_markPairS.mono _ _ _
   | exact laws_markPairSS.mono _ _ _
   | exact laws_szPairSS.mono _ _ _
   | exact laws_toPairSS.mono _ _
   | exact spec_Merge.mono _ _ _
   | exact LeO.none _
   | refine LeO.ite ?_ ?_
   | refine LeO.bind ?_ (fun _ => ?_)
set_option maxHeartbeats 8000000 in
set_option maxRecDepth 100000 in
theorem laws_FnExactMerge.calls (k : Nat) (A0 : Option Addr) (c0 : Nat) (l0 : List (List (S84))) (a1 : Bool) (r : Bool) (w : World) (hr0 : Kd.C (Kd.slice 84 k84) w A0 l0.length l0) (hc0 : l0.length ≤ c0) (ht_ : r = true) (h : laws_FnExactMerge.f k l0 a1 = some r) :
  Calls Try.prog 10 #[.slice A0 l0.length c0, .bool a1] w fun e w' => e = .returned (.bool r) ∧ Below w.heap.size w w' := by
 have HR0 := mS hr0
 have HC0 := mS hc0
 clear hr0 hc0
 have HB := mS (Below.refl w.heap.size w)
 have H : ((laws_szPairSS.f k l0 1048576).bind fun t229 => (if t229 < 0 then (some true) else ((laws_toPairSS.f k l0).bind fun t230 => ((spec_Merge.f k t230 a1).bind fun t233 => ((laws_toPairSS.f k l0).bind fun t236 => ((impl_Merge.f k t236 a1).bind fun t239 => ((laws_eqPairS.f k t239 t233).bind fun t242 => (if t242 = true then ((laws_toPairSS.f k l0).bind fun t243 => ((laws_eqPairSS.f k t236 t243).bind fun t246 => (if t246 = true then ((laws_markPairSS.f k t236 1).bind fun bt247 => (if bt247.1 < 0 then (laws_FnExactMerge.j0 k l0 a1 t233 t239 true) else ((laws_eqPairS.f k t239 t233).bind fun t249 => (laws_FnExactMerge.j0 k l0 a1 t233 t239 (!t249))))) else (some false)))) else (some false))))))))) = some r := h
 clear h
 replace H := Option.bind_eq_some_iff.mp H
 obtain ⟨t229, A30, H⟩ := H
 replace H : (if t229 < 0 then (some true) else ((laws_toPairSS.f k l0).bind fun t230 => ((spec_Merge.f k t230 a1).bind fun t233 => ((laws_toPairSS.f k l0).bind fun t236 => ((impl_Merge.f k t236 a1).bind fun t239 => ((laws_eqPairS.f k t239 t233).bind fun t242 => (if t242 = true then ((laws_toPairSS.f k l0).bind fun t243 => ((laws_eqPairSS.f k t236 t243).bind fun t246 => (if t246 = true then ((laws_markPairSS.f k t236 1).bind fun bt247 => (if bt247.1 < 0 then (laws_FnExactMerge.j0 k l0 a1 t233 t239 true) else ((laws_eqPairS.f k t239 t233).bind fun t249 => (laws_FnExactMerge.j0 k l0 a1 t233 t239 (!t249))))) else (some false)))) else (some false)))))))) = some r := H
 have A3 := mS A30
 clear A30
 by_cases c4 : t229 < 0
 ·rw [if_pos c4] at H
  have c4b0 : decide (t229 < 0) = true := decide_eq_true c4
  clear c4
  obtain rfl := Option.some.inj H
  go_enter Try.func10, Try.ntmps10
  go_wp2_with (first | ((with_reducible refine gate_callee (f := 54) rfl ?_); refine goesL_ (some 15) rfl rfl Try.func54 (by kernel_rfl) rfl #[.slice A0 l0.length c0, .int .i64 1048576] rfl mA ?_; (with_reducible refine (laws_szPairSS.calls k _ _ l0 1048576 t229 _ ?side1 ?side2 A3.out).mono ?_); (case side1 => repeat (first | exact HR0.out | (with_reducible refine Kd.C_alloc ?_ _) | (with_reducible refine Kd.C_drewN ?_ _) | (with_reducible refine Kd.C_drew ?_))); (case side2 => exact HC0.out); rintro e w5 ⟨rfl, hb⟩; refine ⟨_, rfl, ?_⟩; replace HB := mS (below_step (mH HB.out) hb); (try clear hb); (try clear hb2); (try clear hk); (try clear hi)))
  go_ret
  exact ⟨by first | rfl | (simp [errW_none, errW_some] <;> rfl) | (simp [*, errW_none, errW_some] <;> rfl), (mH HB.out)⟩
 ·rw [if_neg c4] at H
  have c4b0 : decide (t229 < 0) = false := decide_eq_false c4
  clear c4
  replace H := Option.bind_eq_some_iff.mp H
  obtain ⟨t230, A60, H⟩ := H
  replace H : ((spec_Merge.f k t230 a1).bind fun t233 => ((laws_toPairSS.f k l0).bind fun t236 => ((impl_Merge.f k t236 a1).bind fun t239 => ((laws_eqPairS.f k t239 t233).bind fun t242 => (if t242 = true then ((laws_toPairSS.f k l0).bind fun t243 => ((laws_eqPairSS.f k t236 t243).bind fun t246 => (if t246 = true then ((laws_markPairSS.f k t236 1).bind fun bt247 => (if bt247.1 < 0 then (laws_FnExactMerge.j0 k l0 a1 t233 t239 true) else ((laws_eqPairS.f k t239 t233).bind fun t249 => (laws_FnExactMerge.j0 k l0 a1 t233 t239 (!t249))))) else (some false)))) else (some false)))))) = some r := H
  have A6 := mS A60
  clear A60
  replace H := Option.bind_eq_some_iff.mp H
  obtain ⟨t233, A70, H⟩ := H
  replace H : ((laws_toPairSS.f k l0).bind fun t236 => ((impl_Merge.f k t236 a1).bind fun t239 => ((laws_eqPairS.f k t239 t233).bind fun t242 => (if t242 = true then ((laws_toPairSS.f k l0).bind fun t243 => ((laws_eqPairSS.f k t236 t243).bind fun t246 => (if t246 = true then ((laws_markPairSS.f k t236 1).bind fun bt247 => (if bt247.1 < 0 then (laws_FnExactMerge.j0 k l0 a1 t233 t239 true) else ((laws_eqPairS.f k t239 t233).bind fun t249 => (laws_FnExactMerge.j0 k l0 a1 t233 t239 (!t249))))) else (some false)))) else (some false))))) = some r := H
  have A7 := mS A70
  clear A70
  replace H := Option.bind_eq_some_iff.mp H
  obtain ⟨t236, A80, H⟩ := H
  replace H : ((impl_Merge.f k t236 a1).bind fun t239 => ((laws_eqPairS.f k t239 t233).bind fun t242 => (if t242 = true then ((laws_toPairSS.f k l0).bind fun t243 => ((laws_eqPairSS.f k t236 t243).bind fun t246 => (if t246 = true then ((laws_markPairSS.f k t236 1).bind fun bt247 => (if bt247.1 < 0 then (laws_FnExactMerge.j0 k l0 a1 t233 t239 true) else ((laws_eqPairS.f k t239 t233).bind fun t249 => (laws_FnExactMerge.j0 k l0 a1 t233 t239 (!t249))))) else (some false)))) else (some false)))) = some r := H
  have A8 := mS A80
  clear A80
  replace H := Option.bind_eq_some_iff.mp H
  obtain ⟨t239, A90, H⟩ := H
  replace H : ((laws_eqPairS.f k t239 t233).bind fun t242 => (if t242 = true then ((laws_toPairSS.f k l0).bind fun t243 => ((laws_eqPairSS.f k t236 t243).bind fun t246 => (if t246 = true then ((laws_markPairSS.f k t236 1).bind fun bt247 => (if bt247.1 < 0 then (laws_FnExactMerge.j0 k l0 a1 t233 t239 true) else ((laws_eqPairS.f k t239 t233).bind fun t249 => (laws_FnExactMerge.j0 k l0 a1 t233 t239 (!t249))))) else (some false)))) else (some false))) = some r := H
  have A9 := mS A90
  clear A90
  replace H := Option.bind_eq_some_iff.mp H
  obtain ⟨t242, A100, H⟩ := H
  replace H : (if t242 = true then ((laws_toPairSS.f k l0).bind fun t243 => ((laws_eqPairSS.f k t236 t243).bind fun t246 => (if t246 = true then ((laws_markPairSS.f k t236 1).bind fun bt247 => (if bt247.1 < 0 then (laws_FnExactMerge.j0 k l0 a1 t233 t239 true) else ((laws_eqPairS.f k t239 t233).bind fun t249 => (laws_FnExactMerge.j0 k l0 a1 t233 t239 (!t249))))) else (some false)))) else (some false)) = some r := H
  have A10 := mS A100
  clear A100
  by_cases c11 : t242 = true
  ·subst c11
   have H1 : ((laws_toPairSS.f k l0).bind fun t243 => ((laws_eqPairSS.f k t236 t243).bind fun t246 => (if t246 = true then ((laws_markPairSS.f k t236 1).bind fun bt247 => (if bt247.1 < 0 then (laws_FnExactMerge.j0 k l0 a1 t233 t239 true) else ((laws_eqPairS.f k t239 t233).bind fun t249 => (laws_FnExactMerge.j0 k l0 a1 t233 t239 (!t249))))) else (some false)))) = some r := by rw [if_pos rfl] at H; exact H
   clear H
   have H := H1
   clear H1
   replace H := Option.bind_eq_some_iff.mp H
   obtain ⟨t243, A120, H⟩ := H
   replace H : ((laws_eqPairSS.f k t236 t243).bind fun t246 => (if t246 = true then ((laws_markPairSS.f k t236 1).bind fun bt247 => (if bt247.1 < 0 then (laws_FnExactMerge.j0 k l0 a1 t233 t239 true) else ((laws_eqPairS.f k t239 t233).bind fun t249 => (laws_FnExactMerge.j0 k l0 a1 t233 t239 (!t249))))) else (some false))) = some r := H
   have A12 := mS A120
   clear A120
   replace H := Option.bind_eq_some_iff.mp H
   obtain ⟨t246, A130, H⟩ := H
   replace H : (if t246 = true then ((laws_markPairSS.f k t236 1).bind fun bt247 => (if bt247.1 < 0 then (laws_FnExactMerge.j0 k l0 a1 t233 t239 true) else ((laws_eqPairS.f k t239 t233).bind fun t249 => (laws_FnExactMerge.j0 k l0 a1 t233 t239 (!t249))))) else (some false)) = some r := H
   have A13 := mS A130
   clear A130
   by_cases c14 : t246 = true
   ·subst c14
    have H1 : ((laws_markPairSS.f k t236 1).bind fun bt247 => (if bt247.1 < 0 then (laws_FnExactMerge.j0 k l0 a1 t233 t239 true) else ((laws_eqPairS.f k t239 t233).bind fun t249 => (laws_FnExactMerge.j0 k l0 a1 t233 t239 (!t249))))) = some r := by rw [if_pos rfl] at H; exact H
    clear H
    have H := H1
    clear H1
    replace H := Option.bind_eq_some_iff.mp H
    obtain ⟨⟨t247, t248⟩, A150, H⟩ := H
    replace H : (if t247 < 0 then (laws_FnExactMerge.j0 k l0 a1 t233 t239 true) else ((laws_eqPairS.f k t239 t233).bind fun t249 => (laws_FnExactMerge.j0 k l0 a1 t233 t239 (!t249)))) = some r := H
    have A15 := mS A150
    clear A150
    have HC16 := mS H
    clear H
    go_enter Try.func10, Try.ntmps10
    go_upto_region 14 with (first | ((with_reducible refine gate_callee (f := 54) rfl ?_); refine goesL_ (some 15) rfl rfl Try.func54 (by kernel_rfl) rfl #[.slice A0 l0.length c0, .int .i64 1048576] rfl mA ?_; (with_reducible refine (laws_szPairSS.calls k _ _ l0 1048576 t229 _ ?side1 ?side2 A3.out).mono ?_); (case side1 => repeat (first | exact HR0.out | (with_reducible refine Kd.C_alloc ?_ _) | (with_reducible refine Kd.C_drewN ?_ _) | (with_reducible refine Kd.C_drew ?_))); (case side2 => exact HC0.out); rintro e w17 ⟨rfl, hb⟩; refine ⟨_, rfl, ?_⟩; replace HB := mS (below_step (mH HB.out) hb); (try clear hb); (try clear hb2); (try clear hk); (try clear hi)) | ((with_reducible refine gate_callee (f := 56) rfl ?_); refine goesL_ (some 19) rfl rfl Try.func56 (by kernel_rfl) rfl #[.slice A0 l0.length c0] rfl mA ?_; (with_reducible refine (laws_toPairSS.calls k _ _ l0 t230 _ ?side1 ?side2 A6.out).mono ?_); (case side1 => repeat (first | exact (Kd.C_below HR0.out HB.out) | (with_reducible refine Kd.C_alloc ?_ _) | (with_reducible refine Kd.C_drewN ?_ _) | (with_reducible refine Kd.C_drew ?_))); (case side2 => exact HC0.out); rintro e w18 ⟨v231, rfl, ho0, hb⟩; refine ⟨_, rfl, ?_⟩; obtain ⟨z19, hz19⟩ := MWords.mp_size hb; have HO232 := mS (Kd.S_lower (MWords.mp_geS ho0 hz19) (below_size (mH HB.out))); replace HB := mS (below_step (mH HB.out) hb); (try clear hb); (try clear hb2); (try clear hk); (try clear hi); (try clear ho0); obtain ⟨Ao20, co20, eo20⟩ := Kd.S_slice HO232.out; subst eo20) | ((with_reducible refine gate_callee (f := 55) rfl ?_); refine goesL_ (some 21) rfl rfl Try.func55 (by kernel_rfl) rfl #[.slice Ao20 t230.length co20, .bool a1] rfl mA ?_; (with_reducible refine (spec_Merge.calls k _ _ t230 a1 t233 _ ?side1 ?side2 A7.out).mono ?_); (case side1 => repeat (first | exact (Kd.S_reads' HO232.out).2.2 | (with_reducible refine Kd.C_alloc ?_ _) | (with_reducible refine Kd.C_drewN ?_ _) | (with_reducible refine Kd.C_drew ?_))); (case side2 => exact (Kd.S_reads' HO232.out).2.1); rintro e w21 ⟨v234, rfl, ho0, hb⟩; refine ⟨_, rfl, ?_⟩; replace HO232 := mS (Kd.S_elder' (by (with_reducible repeat (first | apply Kd.S_alloc | apply Kd.S_drewN | apply Kd.S_drew)); exact HO232.out) (Kd.R_base ho0) hb); have HO235 := mS (Kd.R_lower ho0 (below_size (mH HB.out))); replace HB := mS (below_step (mH HB.out) hb); (try clear hb); (try clear hb2); (try clear hk); (try clear hi); (try clear ho0)) | ((with_reducible refine gate_callee (f := 56) rfl ?_); refine goesL_ (some 23) rfl rfl Try.func56 (by kernel_rfl) rfl #[.slice A0 l0.length c0] rfl mA ?_; (with_reducible refine (laws_toPairSS.calls k _ _ l0 t236 _ ?side1 ?side2 A8.out).mono ?_); (case side1 => repeat (first | exact (Kd.C_below HR0.out HB.out) | (with_reducible refine Kd.C_alloc ?_ _) | (with_reducible refine Kd.C_drewN ?_ _) | (with_reducible refine Kd.C_drew ?_))); (case side2 => exact HC0.out); rintro e w22 ⟨v237, rfl, ho0, hb⟩; refine ⟨_, rfl, ?_⟩; obtain ⟨z23, hz23⟩ := MWords.mp_size hb; have HO238 := mS (Kd.S_lower (Kd.S_new' (Kd.S_new' (MWords.mp_geS ho0 hz23) (Kd.S_lt (by (with_reducible repeat (first | apply Kd.S_alloc | apply Kd.S_drewN | apply Kd.S_drew)); exact HO232.out))) (Kd.R_lt (mR HO235.out))) (below_size (mH HB.out))); replace HO232 := mS (MWords.mp_ltS (Kd.S_told (Kd.S_old (by (with_reducible repeat (first | apply Kd.S_alloc | apply Kd.S_drewN | apply Kd.S_drew)); exact HO232.out) hb) (Kd.S_base ho0)) hz23); replace HO235 := mS (Kd.R_below (mR HO235.out) hb); replace HB := mS (below_step (mH HB.out) hb); (try clear hb); (try clear hb2); (try clear hk); (try clear hi); (try clear ho0); obtain ⟨Ao24, co24, eo24⟩ := Kd.S_slice HO238.out; subst eo24) | ((with_reducible refine gate_callee (f := 57) rfl ?_); refine goesL_ (some 26) rfl rfl Try.func57 (by kernel_rfl) rfl #[.slice Ao24 t236.length co24, .bool a1] rfl mA ?_; (with_reducible refine (impl_Merge.calls k _ _ t236 a1 t239 _ ?side1 ?side2 A9.out).mono ?_); (case side1 => repeat (first | exact (Kd.S_reads' HO238.out).2.2 | (with_reducible refine Kd.C_alloc ?_ _) | (with_reducible refine Kd.C_drewN ?_ _) | (with_reducible refine Kd.C_drew ?_))); (case side2 => exact (Kd.S_reads' HO238.out).2.1); rintro e w25 ⟨v240, rfl, ho0, hb⟩; refine ⟨_, rfl, ?_⟩; replace HO232 := mS (Kd.S_elder' (by (with_reducible repeat (first | apply Kd.S_alloc | apply Kd.S_drewN | apply Kd.S_drew)); exact HO232.out) (Kd.R_base ho0) hb); replace HO238 := mS (Kd.S_elder' (by (with_reducible repeat (first | apply Kd.S_alloc | apply Kd.S_drewN | apply Kd.S_drew)); exact HO238.out) (Kd.R_base ho0) hb); have HO241 := mS (Kd.R_lower (Kd.R_new' ho0 (Kd.R_lt (mR HO235.out))) (below_size (mH HB.out))); replace HO235 := mS (Kd.R_elder' (mR HO235.out) (Kd.R_base ho0) hb); replace HB := mS (below_step (mH HB.out) hb); (try clear hb); (try clear hb2); (try clear hk); (try clear hi); (try clear ho0); obtain ⟨Ao26, co26, eo26⟩ := Kd.R_slice HO241.out; subst eo26; obtain ⟨Ao27, co27, eo27⟩ := Kd.R_slice HO235.out; subst eo27) | ((with_reducible refine gate_callee (f := 58) rfl ?_); refine goesL_ (some 29) rfl rfl Try.func58 (by kernel_rfl) rfl #[.slice Ao26 t239.length co26, .slice Ao27 t233.length co27] rfl mA ?_; (with_reducible refine (laws_eqPairS.calls k _ _ t239 _ _ t233 true _ ?side1 ?side2 ?side3 ?side4 A10.out).mono ?_); (case side1 => repeat (first | exact (Kd.R_reads' HO241.out).2.2 | (with_reducible refine Kd.C_alloc ?_ _) | (with_reducible refine Kd.C_drewN ?_ _) | (with_reducible refine Kd.C_drew ?_))); (case side2 => exact (Kd.R_reads' HO241.out).2.1); (case side3 => repeat (first | exact (Kd.R_reads' HO235.out).2.2 | (with_reducible refine Kd.C_alloc ?_ _) | (with_reducible refine Kd.C_drewN ?_ _) | (with_reducible refine Kd.C_drew ?_))); (case side4 => exact (Kd.R_reads' HO235.out).2.1); rintro e w28 ⟨rfl, hb⟩; refine ⟨_, rfl, ?_⟩; replace HO232 := mS (Kd.S_below (by (with_reducible repeat (first | apply Kd.S_alloc | apply Kd.S_drewN | apply Kd.S_drew)); exact HO232.out) hb); replace HO235 := mS (Kd.R_below (mR HO235.out) hb); replace HO238 := mS (Kd.S_below (by (with_reducible repeat (first | apply Kd.S_alloc | apply Kd.S_drewN | apply Kd.S_drew)); exact HO238.out) hb); replace HO241 := mS (Kd.R_below (mR HO241.out) hb); replace HB := mS (below_step (mH HB.out) hb); (try clear hb); (try clear hb2); (try clear hk); (try clear hi)) | ((with_reducible refine gate_callee (f := 56) rfl ?_); refine goesL_ (some 33) rfl rfl Try.func56 (by kernel_rfl) rfl #[.slice A0 l0.length c0] rfl mA ?_; (with_reducible refine (laws_toPairSS.calls k _ _ l0 t243 _ ?side1 ?side2 A12.out).mono ?_); (case side1 => repeat (first | exact (Kd.C_below HR0.out HB.out) | (with_reducible refine Kd.C_alloc ?_ _) | (with_reducible refine Kd.C_drewN ?_ _) | (with_reducible refine Kd.C_drew ?_))); (case side2 => exact HC0.out); rintro e w29 ⟨v244, rfl, ho0, hb⟩; refine ⟨_, rfl, ?_⟩; obtain ⟨z30, hz30⟩ := MWords.mp_size hb; have HO245 := mS (Kd.S_lower (Kd.S_new' (Kd.S_new' (Kd.S_new' (Kd.S_new' (MWords.mp_geS ho0 hz30) (Kd.S_lt (by (with_reducible repeat (first | apply Kd.S_alloc | apply Kd.S_drewN | apply Kd.S_drew)); exact HO232.out))) (Kd.R_lt (mR HO235.out))) (Kd.S_lt (by (with_reducible repeat (first | apply Kd.S_alloc | apply Kd.S_drewN | apply Kd.S_drew)); exact HO238.out))) (Kd.R_lt (mR HO241.out))) (below_size (mH HB.out))); replace HO232 := mS (MWords.mp_ltS (Kd.S_told (Kd.S_old (by (with_reducible repeat (first | apply Kd.S_alloc | apply Kd.S_drewN | apply Kd.S_drew)); exact HO232.out) hb) (Kd.S_base ho0)) hz30); replace HO235 := mS (Kd.R_below (mR HO235.out) hb); replace HO238 := mS (MWords.mp_ltS (Kd.S_told (Kd.S_old (by (with_reducible repeat (first | apply Kd.S_alloc | apply Kd.S_drewN | apply Kd.S_drew)); exact HO238.out) hb) (Kd.S_base ho0)) hz30); replace HO241 := mS (Kd.R_below (mR HO241.out) hb); replace HB := mS (below_step (mH HB.out) hb); (try clear hb); (try clear hb2); (try clear hk); (try clear hi); (try clear ho0); obtain ⟨Ao31, co31, eo31⟩ := Kd.S_slice HO245.out; subst eo31) | ((with_reducible refine gate_callee (f := 59) rfl ?_); refine goesL_ (some 34) rfl rfl Try.func59 (by kernel_rfl) rfl #[.slice Ao24 t236.length co24, .slice Ao31 t243.length co31] rfl mA ?_; (with_reducible refine (laws_eqPairSS.calls k _ _ t236 _ _ t243 true _ ?side1 ?side2 ?side3 ?side4 A13.out).mono ?_); (case side1 => repeat (first | exact (Kd.S_reads' HO238.out).2.2 | (with_reducible refine Kd.C_alloc ?_ _) | (with_reducible refine Kd.C_drewN ?_ _) | (with_reducible refine Kd.C_drew ?_))); (case side2 => exact (Kd.S_reads' HO238.out).2.1); (case side3 => repeat (first | exact (Kd.S_reads' HO245.out).2.2 | (with_reducible refine Kd.C_alloc ?_ _) | (with_reducible refine Kd.C_drewN ?_ _) | (with_reducible refine Kd.C_drew ?_))); (case side4 => exact (Kd.S_reads' HO245.out).2.1); rintro e w32 ⟨rfl, hb⟩; refine ⟨_, rfl, ?_⟩; replace HO232 := mS (Kd.S_below (by (with_reducible repeat (first | apply Kd.S_alloc | apply Kd.S_drewN | apply Kd.S_drew)); exact HO232.out) hb); replace HO235 := mS (Kd.R_below (mR HO235.out) hb); replace HO238 := mS (Kd.S_below (by (with_reducible repeat (first | apply Kd.S_alloc | apply Kd.S_drewN | apply Kd.S_drew)); exact HO238.out) hb); replace HO241 := mS (Kd.R_below (mR HO241.out) hb); replace HO245 := mS (Kd.S_below (by (with_reducible repeat (first | apply Kd.S_alloc | apply Kd.S_drewN | apply Kd.S_drew)); exact HO245.out) hb); replace HB := mS (below_step (mH HB.out) hb); (try clear hb); (try clear hb2); (try clear hk); (try clear hi)) | ((with_reducible refine gate_callee (f := 60) rfl ?_); refine goesL_ (some 38) rfl rfl Try.func60 (by kernel_rfl) rfl #[.slice Ao24 t236.length co24, .int .i64 1] rfl mA ?_; (with_reducible refine (laws_markPairSS.calls k (fun k_ => ((((((True ∧ z23 ≤ k_) ∧ some k_ ≠ (.slice Ao20 t230.length co20 : Value).ownBlock) ∧ some k_ ≠ (.slice Ao27 t233.length co27 : Value).ownBlock) ∧ some k_ ≠ (.slice Ao26 t239.length co26 : Value).ownBlock) ∧ some k_ ≠ (.slice Ao31 t243.length co31 : Value).ownBlock) ∧ k_ < z30) ∧ w.heap.size ≤ k_) (.slice Ao24 t236.length co24) t236 1 t247 t248 w _ ?side1 ?side2 A15.out).mono ?_); (case side1 => repeat (first | (with_reducible first | exact HB.out | apply below_alloc | apply pw_below_drewN | apply below_drew1) | exact HB.out)); (case side2 => exact Kd.S_mono (Kd.S_bound HO238.out) (fun k_ h_ => (⟨h_.1, h_.2.1⟩ : _ ∧ _))); rintro e w33 ⟨rfl, hy0, hb, hkp⟩; refine ⟨_, rfl, ?_⟩; replace HO232 := mS (Kd.S_mono (ok' := fun k_ => some k_ ≠ (.slice Ao27 t233.length co27 : Value).ownBlock ∧ some k_ ≠ (.slice Ao24 t236.length co24 : Value).ownBlock ∧ some k_ ≠ (.slice Ao26 t239.length co26 : Value).ownBlock ∧ some k_ ≠ (.slice Ao31 t243.length co31 : Value).ownBlock ∧ z19 ≤ k_ ∧ k_ < z23 ∧ k_ < z30) (Kd.S_keptB (HO232.out) hkp (fun k_ hk_ hs_ => (fun e_ => Nat.lt_irrefl _ (Nat.lt_of_lt_of_le (hk_.1.1.1.2) (e_.1.1.1.1.1.1.2))) hs_)) (fun k_ hk_ => ⟨hk_.1.1.1.1.1.1.2, hk_.1.1.1.1.1.2, hk_.1.1.1.2, hk_.1.1.2, hk_.1.1.1.1.1.1.1.2, hk_.1.1.1.1.2, hk_.1.2⟩)); replace HO235 := mS (Kd.R_mono (ok' := fun k_ => some k_ ≠ (.slice Ao26 t239.length co26 : Value).ownBlock) (Kd.R_keptB ((Kd.R_tight2 rfl HO235.out)) hkp (fun k_ hk_ hs_ => (fun e_ => (e_.1.1.1.1.2) (hk_.1)) hs_)) (fun k_ hk_ => hk_.1.2.2)); replace HO238 := mS (Kd.S_mono (ok' := fun k_ => ((((((True ∧ z23 ≤ k_) ∧ some k_ ≠ (.slice Ao20 t230.length co20 : Value).ownBlock) ∧ some k_ ≠ (.slice Ao27 t233.length co27 : Value).ownBlock) ∧ some k_ ≠ (.slice Ao26 t239.length co26 : Value).ownBlock) ∧ some k_ ≠ (.slice Ao31 t243.length co31 : Value).ownBlock) ∧ k_ < z30)) hy0 (fun k_ h_ => ⟨⟨⟨⟨⟨⟨trivial, h_.1.1.1.1.1.1.2⟩, h_.1.1.1.1.1.2⟩, h_.1.1.1.1.2⟩, h_.1.1.1.2⟩, h_.1.1.2⟩, h_.1.2⟩)); replace HO241 := mS (Kd.R_mono (ok' := fun k_ => some k_ ≠ (.slice Ao27 t233.length co27 : Value).ownBlock) (Kd.R_keptB ((Kd.R_tight2 rfl HO241.out)) hkp (fun k_ hk_ hs_ => (fun e_ => (e_.1.1.1.2) (hk_.1)) hs_)) (fun k_ hk_ => hk_.1.2.2)); replace HO245 := mS (Kd.S_mono (ok' := fun k_ => some k_ ≠ (.slice Ao20 t230.length co20 : Value).ownBlock ∧ some k_ ≠ (.slice Ao27 t233.length co27 : Value).ownBlock ∧ some k_ ≠ (.slice Ao24 t236.length co24 : Value).ownBlock ∧ some k_ ≠ (.slice Ao26 t239.length co26 : Value).ownBlock ∧ z30 ≤ k_) (Kd.S_keptB (HO245.out) hkp (fun k_ hk_ hs_ => (fun e_ => Nat.lt_irrefl _ (Nat.lt_of_lt_of_le (e_.1.2) (hk_.1.1.1.1.2))) hs_)) (fun k_ hk_ => ⟨hk_.1.1.1.1.2, hk_.1.1.1.2, hk_.1.1.2, hk_.1.2, hk_.1.1.1.1.1.2⟩)); replace HB := mS (hb); (try clear hb); (try clear hkp); (try clear hy0)))
    (try simp only [Act.put, zA, zB, zC])
    go_cut [46] (fun v46 wc => ∃ (kq : Nat) (x46_15 : Bool), v46 = .bool x46_15 ∧ Aside0 (laws_FnExactMerge.j0 kq l0 a1 t233 t239 x46_15 = some r) ∧ Aside0 (kq ≤ k) ∧ Aside0 (Kd.R k33 33 wc w.heap.size (fun k_ => some k_ ≠ ((.slice Ao26 t239.length co26) : Value).ownBlock) (.slice Ao27 t233.length co27) t233) ∧ Aside0 (Kd.R k33 33 wc w.heap.size (fun k_ => some k_ ≠ ((.slice Ao27 t233.length co27) : Value).ownBlock) (.slice Ao26 t239.length co26) t239) ∧ Aside0 (Below w.heap.size w wc))
    case first =>
     have H := HC16.out
     clear HC16
     by_cases c34 : t247 < 0
     ·rw [if_pos c34] at H
      have c34b0 : decide (t247 < 0) = true := decide_eq_true c34
      clear c34
      (first | rw [c34b0] | (simp only [i64_w, i32_w]; rw [c34b0]) | skip)
      have H' := mS H
      clear H
      go_wp2
      go_meet
      case rel => exact ⟨_, (true), (by first | rfl | (simp; done) | (simp [*]; done)), H', ⟨by first | omega | exact Nat.le_refl _⟩, ⟨by (with_reducible repeat (first | apply Kd.R_alloc | apply Kd.R_drewN | apply Kd.R_drew)); exact HO235.out⟩, ⟨by (with_reducible repeat (first | apply Kd.R_alloc | apply Kd.R_drewN | apply Kd.R_drew)); exact HO241.out⟩, ⟨(mH HB.out)⟩⟩
     ·rw [if_neg c34] at H
      have c34b0 : decide (t247 < 0) = false := decide_eq_false c34
      clear c34
      (first | rw [c34b0] | (simp only [i64_w, i32_w]; rw [c34b0]) | skip)
      replace H := Option.bind_eq_some_iff.mp H
      obtain ⟨t249, A350, H⟩ := H
      replace H : (laws_FnExactMerge.j0 k l0 a1 t233 t239 (!t249)) = some r := H
      have A35 := mS A350
      clear A350
      have H' := mS H
      clear H
      go_wp2_with (first | (go_at_call 58; (with_reducible refine (laws_eqPairS.calls k _ _ t239 _ _ t233 t249 _ ?side1 ?side2 ?side3 ?side4 A35.out).mono ?_); (case side1 => repeat (first | exact (Kd.R_reads' HO241.out).2.2 | (with_reducible refine Kd.C_alloc ?_ _) | (with_reducible refine Kd.C_drewN ?_ _) | (with_reducible refine Kd.C_drew ?_))); (case side2 => exact (Kd.R_reads' HO241.out).2.1); (case side3 => repeat (first | exact (Kd.R_reads' HO235.out).2.2 | (with_reducible refine Kd.C_alloc ?_ _) | (with_reducible refine Kd.C_drewN ?_ _) | (with_reducible refine Kd.C_drew ?_))); (case side4 => exact (Kd.R_reads' HO235.out).2.1); rintro e w36 ⟨rfl, hb⟩; replace HO232 := mS (Kd.S_below (by (with_reducible repeat (first | apply Kd.S_alloc | apply Kd.S_drewN | apply Kd.S_drew)); exact HO232.out) hb); replace HO235 := mS (Kd.R_below (mR HO235.out) hb); replace HO238 := mS (Kd.S_below (by (with_reducible repeat (first | apply Kd.S_alloc | apply Kd.S_drewN | apply Kd.S_drew)); exact HO238.out) hb); replace HO241 := mS (Kd.R_below (mR HO241.out) hb); replace HO245 := mS (Kd.S_below (by (with_reducible repeat (first | apply Kd.S_alloc | apply Kd.S_drewN | apply Kd.S_drew)); exact HO245.out) hb); replace HB := mS (below_step (mH HB.out) hb); (try clear hb); (try clear hb2); (try clear hk); (try clear hi)))
      go_meet
      case rel => exact ⟨_, (!t249), (by first | rfl | (simp; done) | (simp [*]; done)), H', ⟨by first | omega | exact Nat.le_refl _⟩, ⟨by (with_reducible repeat (first | apply Kd.R_alloc | apply Kd.R_drewN | apply Kd.R_drew)); exact HO235.out⟩, ⟨by (with_reducible repeat (first | apply Kd.R_alloc | apply Kd.R_drewN | apply Kd.R_drew)); exact HO241.out⟩, ⟨(mH HB.out)⟩⟩
    case rest =>
     clear HC16
     try clear c1
     try clear p2
     try clear c3
     try clear c4
     try clear c4b0
     try clear c5
     try clear c6
     try clear c10
     try clear c11
     try clear c14
     try clear c34
     try clear c34b0
     obtain ⟨kq, x46_15, rfl, HA, HJ15, HO_6, HO_8, HB⟩ := hcut
     cases kq with
     | zero => exact absurd HA.out (by simp [laws_FnExactMerge.j0])
     | succ kj15 =>
      have H := HA.out
      clear HA
      simp only [laws_FnExactMerge.j0] at H
      by_cases c37 : x46_15 = true
      ·subst c37
       have H1 : (some false) = some r := by rw [if_pos rfl] at H; exact H
       clear H
       have H := H1
       clear H1
       exact absurd ((Option.some.inj H).trans ht_) (by decide)
      ·replace c37 := Bool.eq_false_iff.mpr c37
       subst c37
       have H1 : ((laws_markPairS.f kj15 t239 1).bind fun bt250 => ((laws_heldPairS.f kj15 bt250.2 1).bind fun t252 => (if t252 < 0 then (some false) else (if t252 = bt250.1 then ((laws_toPairSS.f kj15 l0).bind fun t253 => ((impl_Merge.f kj15 t253 a1).bind fun t256 => ((laws_eqPairS.f kj15 t256 t233).bind fun t259 => (if t259 = true then ((laws_heldPairS.f kj15 bt250.2 1).bind fun t260 => (if t260 < 0 then (some false) else (if t260 = bt250.1 then (some true) else (some false)))) else (some false))))) else (some false))))) = some r := by rw [if_neg (show ¬ (false = true) by decide)] at H; exact H
       clear H
       have H := H1
       clear H1
       replace H := Option.bind_eq_some_iff.mp H
       obtain ⟨⟨t250, t251⟩, A380, H⟩ := H
       replace H : ((laws_heldPairS.f kj15 t251 1).bind fun t252 => (if t252 < 0 then (some false) else (if t252 = t250 then ((laws_toPairSS.f kj15 l0).bind fun t253 => ((impl_Merge.f kj15 t253 a1).bind fun t256 => ((laws_eqPairS.f kj15 t256 t233).bind fun t259 => (if t259 = true then ((laws_heldPairS.f kj15 t251 1).bind fun t260 => (if t260 < 0 then (some false) else (if t260 = t250 then (some true) else (some false)))) else (some false))))) else (some false)))) = some r := H
       have A38 := mS A380
       clear A380
       replace H := Option.bind_eq_some_iff.mp H
       obtain ⟨t252, A390, H⟩ := H
       replace H : (if t252 < 0 then (some false) else (if t252 = t250 then ((laws_toPairSS.f kj15 l0).bind fun t253 => ((impl_Merge.f kj15 t253 a1).bind fun t256 => ((laws_eqPairS.f kj15 t256 t233).bind fun t259 => (if t259 = true then ((laws_heldPairS.f kj15 t251 1).bind fun t260 => (if t260 < 0 then (some false) else (if t260 = t250 then (some true) else (some false)))) else (some false))))) else (some false))) = some r := H
       have A39 := mS A390
       clear A390
       by_cases c40 : t252 < 0
       ·rw [if_pos c40] at H
        have c40b0 : decide (t252 < 0) = true := decide_eq_true c40
        clear c40
        exact absurd ((Option.some.inj H).trans ht_) (by decide)
       ·rw [if_neg c40] at H
        have c40b0 : decide (t252 < 0) = false := decide_eq_false c40
        clear c40
        by_cases c41 : t252 = t250
        ·rw [if_pos c41] at H
         have c41b0 : (t252 == t250) = true := beq_iff_eq.mpr c41
         have c41b1 : (t252 != t250) = false := bne_eq_false_iff_eq.mpr c41
         clear c41
         replace H := Option.bind_eq_some_iff.mp H
         obtain ⟨t253, A420, H⟩ := H
         replace H : ((impl_Merge.f kj15 t253 a1).bind fun t256 => ((laws_eqPairS.f kj15 t256 t233).bind fun t259 => (if t259 = true then ((laws_heldPairS.f kj15 t251 1).bind fun t260 => (if t260 < 0 then (some false) else (if t260 = t250 then (some true) else (some false)))) else (some false)))) = some r := H
         have A42 := mS A420
         clear A420
         replace H := Option.bind_eq_some_iff.mp H
         obtain ⟨t256, A430, H⟩ := H
         replace H : ((laws_eqPairS.f kj15 t256 t233).bind fun t259 => (if t259 = true then ((laws_heldPairS.f kj15 t251 1).bind fun t260 => (if t260 < 0 then (some false) else (if t260 = t250 then (some true) else (some false)))) else (some false))) = some r := H
         have A43 := mS A430
         clear A430
         replace H := Option.bind_eq_some_iff.mp H
         obtain ⟨t259, A440, H⟩ := H
         replace H : (if t259 = true then ((laws_heldPairS.f kj15 t251 1).bind fun t260 => (if t260 < 0 then (some false) else (if t260 = t250 then (some true) else (some false)))) else (some false)) = some r := H
         have A44 := mS A440
         clear A440
         by_cases c45 : t259 = true
         ·subst c45
          have H1 : ((laws_heldPairS.f kj15 t251 1).bind fun t260 => (if t260 < 0 then (some false) else (if t260 = t250 then (some true) else (some false)))) = some r := by rw [if_pos rfl] at H; exact H
          clear H
          have H := H1
          clear H1
          replace H := Option.bind_eq_some_iff.mp H
          obtain ⟨t260, A460, H⟩ := H
          replace H : (if t260 < 0 then (some false) else (if t260 = t250 then (some true) else (some false))) = some r := H
          have A46 := mS A460
          clear A460
          by_cases c47 : t260 < 0
          ·rw [if_pos c47] at H
           have c47b0 : decide (t260 < 0) = true := decide_eq_true c47
           clear c47
           exact absurd ((Option.some.inj H).trans ht_) (by decide)
          ·rw [if_neg c47] at H
           have c47b0 : decide (t260 < 0) = false := decide_eq_false c47
           clear c47
           by_cases c48 : t260 = t250
           ·rw [if_pos c48] at H
            have c48b0 : (t260 == t250) = true := beq_iff_eq.mpr c48
            have c48b1 : (t260 != t250) = false := bne_eq_false_iff_eq.mpr c48
            clear c48
            obtain rfl := Option.some.inj H
            go_wp2_with (first | ((with_reducible refine gate_callee (f := 61) rfl ?_); refine goesL_ (some 49) rfl rfl Try.func61 (by kernel_rfl) rfl #[.slice Ao26 t239.length co26, .int .i64 1] rfl mA ?_; (with_reducible refine (laws_markPairS.calls kj15 (fun k_ => some k_ = (.slice Ao26 t239.length co26 : Value).ownBlock) (.slice Ao26 t239.length co26) t239 1 t250 t251 w _ ?side1 ?side2 A38.out).mono ?_); (case side1 => repeat (first | (with_reducible first | exact HB.out | apply below_alloc | apply pw_below_drewN | apply below_drew1) | exact HB.out)); (case side2 => exact Kd.R_tight rfl HO_8.out); rintro e w49 ⟨rfl, hy0, hb, hkp⟩; refine ⟨_, rfl, ?_⟩; replace HO_6 := mS (Kd.R_mono (ok' := fun k_ => some k_ ≠ (.slice Ao26 t239.length co26 : Value).ownBlock) (Kd.R_keptB (HO_6.out) hkp (fun k_ hk_ hs_ => (hk_) hs_)) (fun k_ hk_ => hk_.1)); replace HO_8 := mS (Kd.R_reok rfl hy0 (fun k_ e_ => HO_8.out.1 k_ e_)); replace HB := mS (hb); (try clear hb); (try clear hkp); (try clear hy0)) | ((with_reducible refine gate_callee (f := 62) rfl ?_); refine goesL_ (some 52) rfl rfl Try.func62 (by kernel_rfl) rfl #[.slice Ao26 t251.length co26, .int .i64 1] rfl (by (try simp only [List.map_toArray, List.map_cons, List.map_nil]); first | done | (rw [show t251.length = t239.length from (Kd.R_reads' HO_8.out).1.symm] <;> rfl) | rfl | (simp only [List.length_drop, List.length_take]; rfl)) ?_; (with_reducible refine (laws_heldPairS.calls kj15 _ _ t251 1 t252 _ ?side1 ?side2 A39.out).mono ?_); (case side1 => repeat (first | exact (Kd.R_reads' HO_8.out).2.2 | (with_reducible refine Kd.C_alloc ?_ _) | (with_reducible refine Kd.C_drewN ?_ _) | (with_reducible refine Kd.C_drew ?_))); (case side2 => rw [show t251.length = t239.length from (Kd.R_reads' HO_8.out).1.symm]; exact (Kd.R_reads' HO_8.out).2.1); rintro e w50 ⟨rfl, hb⟩; refine ⟨_, rfl, ?_⟩; replace HO_6 := mS (Kd.R_below (mR HO_6.out) hb); replace HO_8 := mS (Kd.R_below (mR HO_8.out) hb); replace HB := mS (below_step (mH HB.out) hb); (try clear hb); (try clear hb2); (try clear hk); (try clear hi)) | ((with_reducible refine gate_callee (f := 56) rfl ?_); refine goesL_ (some 59) rfl rfl Try.func56 (by kernel_rfl) rfl #[.slice A0 l0.length c0] rfl mA ?_; (with_reducible refine (laws_toPairSS.calls kj15 _ _ l0 t253 _ ?side1 ?side2 A42.out).mono ?_); (case side1 => repeat (first | exact (Kd.C_below HR0.out HB.out) | (with_reducible refine Kd.C_alloc ?_ _) | (with_reducible refine Kd.C_drewN ?_ _) | (with_reducible refine Kd.C_drew ?_))); (case side2 => exact HC0.out); rintro e w51 ⟨v254, rfl, ho0, hb⟩; refine ⟨_, rfl, ?_⟩; obtain ⟨z52, hz52⟩ := MWords.mp_size hb; have HO255 := mS (Kd.S_lower (Kd.S_new' (Kd.S_new' (MWords.mp_geS ho0 hz52) (Kd.R_lt (mR HO_6.out))) (Kd.R_lt (mR HO_8.out))) (below_size (mH HB.out))); replace HO_6 := mS (Kd.R_below (mR HO_6.out) hb); replace HO_8 := mS (Kd.R_below (mR HO_8.out) hb); replace HB := mS (below_step (mH HB.out) hb); (try clear hb); (try clear hb2); (try clear hk); (try clear hi); (try clear ho0); obtain ⟨Ao53, co53, eo53⟩ := Kd.S_slice HO255.out; subst eo53) | ((with_reducible refine gate_callee (f := 57) rfl ?_); refine goesL_ (some 61) rfl rfl Try.func57 (by kernel_rfl) rfl #[.slice Ao53 t253.length co53, .bool a1] rfl mA ?_; (with_reducible refine (impl_Merge.calls kj15 _ _ t253 a1 t256 _ ?side1 ?side2 A43.out).mono ?_); (case side1 => repeat (first | exact (Kd.S_reads' HO255.out).2.2 | (with_reducible refine Kd.C_alloc ?_ _) | (with_reducible refine Kd.C_drewN ?_ _) | (with_reducible refine Kd.C_drew ?_))); (case side2 => exact (Kd.S_reads' HO255.out).2.1); rintro e w54 ⟨v257, rfl, ho0, hb⟩; refine ⟨_, rfl, ?_⟩; replace HO255 := mS (Kd.S_elder' (by (with_reducible repeat (first | apply Kd.S_alloc | apply Kd.S_drewN | apply Kd.S_drew)); exact HO255.out) (Kd.R_base ho0) hb); have HO258 := mS (Kd.R_lower (Kd.R_new' (Kd.R_new' ho0 (Kd.R_lt (mR HO_6.out))) (Kd.R_lt (mR HO_8.out))) (below_size (mH HB.out))); replace HO_6 := mS (Kd.R_elder' (mR HO_6.out) (Kd.R_base ho0) hb); replace HO_8 := mS (Kd.R_elder' (mR HO_8.out) (Kd.R_base ho0) hb); replace HB := mS (below_step (mH HB.out) hb); (try clear hb); (try clear hb2); (try clear hk); (try clear hi); (try clear ho0); obtain ⟨Ao55, co55, eo55⟩ := Kd.R_slice HO258.out; subst eo55) | ((with_reducible refine gate_callee (f := 58) rfl ?_); refine goesL_ (some 64) rfl rfl Try.func58 (by kernel_rfl) rfl #[.slice Ao55 t256.length co55, .slice Ao27 t233.length co27] rfl mA ?_; (with_reducible refine (laws_eqPairS.calls kj15 _ _ t256 _ _ t233 true _ ?side1 ?side2 ?side3 ?side4 A44.out).mono ?_); (case side1 => repeat (first | exact (Kd.R_reads' HO258.out).2.2 | (with_reducible refine Kd.C_alloc ?_ _) | (with_reducible refine Kd.C_drewN ?_ _) | (with_reducible refine Kd.C_drew ?_))); (case side2 => exact (Kd.R_reads' HO258.out).2.1); (case side3 => repeat (first | exact (Kd.R_reads' HO_6.out).2.2 | (with_reducible refine Kd.C_alloc ?_ _) | (with_reducible refine Kd.C_drewN ?_ _) | (with_reducible refine Kd.C_drew ?_))); (case side4 => exact (Kd.R_reads' HO_6.out).2.1); rintro e w56 ⟨rfl, hb⟩; refine ⟨_, rfl, ?_⟩; replace HO_6 := mS (Kd.R_below (mR HO_6.out) hb); replace HO_8 := mS (Kd.R_below (mR HO_8.out) hb); replace HO255 := mS (Kd.S_below (by (with_reducible repeat (first | apply Kd.S_alloc | apply Kd.S_drewN | apply Kd.S_drew)); exact HO255.out) hb); replace HO258 := mS (Kd.R_below (mR HO258.out) hb); replace HB := mS (below_step (mH HB.out) hb); (try clear hb); (try clear hb2); (try clear hk); (try clear hi)) | ((with_reducible refine gate_callee (f := 62) rfl ?_); refine goesL_ (some 68) rfl rfl Try.func62 (by kernel_rfl) rfl #[.slice Ao26 t251.length co26, .int .i64 1] rfl (by (try simp only [List.map_toArray, List.map_cons, List.map_nil]); first | done | (rw [show t251.length = t239.length from (Kd.R_reads' HO_8.out).1.symm] <;> rfl) | rfl | (simp only [List.length_drop, List.length_take]; rfl)) ?_; (with_reducible refine (laws_heldPairS.calls kj15 _ _ t251 1 t260 _ ?side1 ?side2 A46.out).mono ?_); (case side1 => repeat (first | exact (Kd.R_reads' HO_8.out).2.2 | (with_reducible refine Kd.C_alloc ?_ _) | (with_reducible refine Kd.C_drewN ?_ _) | (with_reducible refine Kd.C_drew ?_))); (case side2 => rw [show t251.length = t239.length from (Kd.R_reads' HO_8.out).1.symm]; exact (Kd.R_reads' HO_8.out).2.1); rintro e w57 ⟨rfl, hb⟩; refine ⟨_, rfl, ?_⟩; replace HO_6 := mS (Kd.R_below (mR HO_6.out) hb); replace HO_8 := mS (Kd.R_below (mR HO_8.out) hb); replace HO255 := mS (Kd.S_below (by (with_reducible repeat (first | apply Kd.S_alloc | apply Kd.S_drewN | apply Kd.S_drew)); exact HO255.out) hb); replace HO258 := mS (Kd.R_below (mR HO258.out) hb); replace HB := mS (below_step (mH HB.out) hb); (try clear hb); (try clear hb2); (try clear hk); (try clear hi)))
            go_ret
            exact ⟨by first | rfl | (simp [errW_none, errW_some] <;> rfl) | (simp [*, errW_none, errW_some] <;> rfl), (mH HB.out)⟩
           ·rw [if_neg c48] at H
            have c48b0 : (t260 == t250) = false := beq_eq_false_iff_ne.mpr c48
            have c48b1 : (t260 != t250) = true := bne_iff_ne.mpr c48
            exact absurd ((Option.some.inj H).trans ht_) (by decide)
         ·replace c45 := Bool.eq_false_iff.mpr c45
          subst c45
          have H1 : (some false) = some r := by rw [if_neg (show ¬ (false = true) by decide)] at H; exact H
          clear H
          have H := H1
          clear H1
          exact absurd ((Option.some.inj H).trans ht_) (by decide)
        ·rw [if_neg c41] at H
         have c41b0 : (t252 == t250) = false := beq_eq_false_iff_ne.mpr c41
         have c41b1 : (t252 != t250) = true := bne_iff_ne.mpr c41
         exact absurd ((Option.some.inj H).trans ht_) (by decide)
   ·replace c14 := Bool.eq_false_iff.mpr c14
    subst c14
    have H1 : (some false) = some r := by rw [if_neg (show ¬ (false = true) by decide)] at H; exact H
    clear H
    have H := H1
    clear H1
    exact absurd ((Option.some.inj H).trans ht_) (by decide)
  ·replace c11 := Bool.eq_false_iff.mpr c11
   subst c11
   have H1 : (some false) = some r := by rw [if_neg (show ¬ (false = true) by decide)] at H; exact H
   clear H
   have H := H1
   clear H1
   exact absurd ((Option.some.inj H).trans ht_) (by decide)

end Go.Proofs.Ytbepbgfkajnlbaa.MFnExactMerge
