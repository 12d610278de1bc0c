-- Written by mp.py, this session's own printer (wip/mp.py).
import Derived.Test.YtgbejjeephipeaaVMShort
import Derived.Test.YtgbejjeephipeaaMFnExactOrderOfx0
import Derived.Test.YtgbejjeephipeaaMFnExactOrderOfx8
import Derived.Test.YtgbejjeephipeaaMFnExactOrderOfx9
import Derived.Test.YtgbejjeephipeaaMFnExactOrderOfx10
import Derived.Test.YtgbejjeephipeaaMFnExactOrderOfx11
import Derived.Test.YtgbejjeephipeaaMFnExactOrderOfx17
namespace Go.Proofs.Ytgbejjeephipeaa.MFnExactOrderOf
open Go.RowKit Go.Proofs.YtgbejjeephipeaaW.PrintWords Go.Proofs.YtgbejjeephipeaaW.PrintLast Go.Proofs.YtgbejjeephipeaaW.PrintMore Go.Proofs.Ytgbejjeephipeaa.MWords
attribute [local go_sem] max2_int min2_int max_two min_two max_three min_three max_four min_four   -- for this text's walks alone
set_option linter.unusedVariables false
set_option linter.unusedSimpArgs false

/-! ### laws_FnExactOrderOf: function 7 -/
def laws_FnExactOrderOf.j0 : Nat → List (S31) → List (S31) → Bool → List (S44) → Option (Bool)
 | 0, _, _, _, _ => none
 | k + 1, x4, x6, x42, x383000 => if x42 = true then (some false) else ((laws_markDotS.f k x6 1).bind fun bt405 => ((laws_heldDotS.f k bt405.2 1).bind fun t407 => (if t407 < 0 then (some false) else (if t407 = bt405.1 then ((laws_toGraph.f k x383000).bind fun t408 => ((impl_OrderOf.f k t408).bind fun t411 => ((laws_eqDotS.f k t411 x4).bind fun t414 => (if t414 = true then ((laws_heldDotS.f k bt405.2 1).bind fun t415 => (if t415 < 0 then (some false) else (if t415 = bt405.1 then (some true) else (some false)))) else (some false))))) else (some false)))))
def laws_FnExactOrderOf.f (k : Nat) (l0_0 : List (S44)) : Option (Bool) := (laws_szGraph.f k l0_0 1048576).bind fun t383 => (if t383 < 0 then (some true) else ((laws_toGraph.f k l0_0).bind fun t384 => ((spec_OrderOf.f k t384).bind fun t387 => ((laws_toGraph.f k l0_0).bind fun t390 => ((impl_OrderOf.f k t390).bind fun t394 => ((laws_eqDotS.f k t394 t387).bind fun t397 => (if t397 = true then ((laws_toGraph.f k l0_0).bind fun t398 => ((laws_eqGraph.f k t390 t398).bind fun t401 => (if t401 = true then ((laws_markGraph.f k t390 1).bind fun bt402 => (if bt402.1 < 0 then (laws_FnExactOrderOf.j0 k t387 t394 true l0_0) else ((laws_eqDotS.f k t394 t387).bind fun t404 => (laws_FnExactOrderOf.j0 k t387 t394 (!t404) l0_0)))) else (some false)))) else (some false))))))))
theorem laws_FnExactOrderOf.mono_l : ∀ k, (∀ y0 y1 y2 y3, LeO (laws_FnExactOrderOf.j0 k y0 y1 y2 y3) (laws_FnExactOrderOf.j0 (k + 1) y0 y1 y2 y3))
 | 0 => fun _ _ _ _ r h => by simp [laws_FnExactOrderOf.j0] at h
 | k + 1 => by
  have ih0 := laws_FnExactOrderOf.mono_l k
  ·intro y0 y1 y2 y3
   unfold laws_FnExactOrderOf.j0
   repeat' first
   | (with_reducible exact ih0 _ _ _ _)
   | (with_reducible exact impl_OrderOf.mono _ _)
   | (with_reducible exact laws_eqDotS.mono _ _ _)
   | (with_reducible exact laws_eqGraph.mono _ _ _)
   | (with_reducible exact laws_heldDotS.mono _ _ _)
   | (with_reducible exact laws_markDotS.mono _ _ _)
   | (with_reducible exact laws_markGraph.mono _ _ _)
   | (with_reducible exact laws_szGraph.mono _ _ _)
   | (with_reducible exact laws_toGraph.mono _ _)
   | (with_reducible exact spec_OrderOf.mono _ _)
   | (with_reducible exact LeO.refl _)
   | (with_reducible exact LeO.none _)
   | (with_reducible refine LeO.ite ?_ ?_)
   | (with_reducible refine LeO.bind ?_ (fun _ => ?_))
   | exact ih0 _ _ _ _
   | exact impl_OrderOf.mono _ _
   | exact laws_eqDotS.mono _ _ _
   | exact laws_eqGraph.mono _ _ _
   | exact laws_heldDotS.mono _ _ _
   | exact laws_markDotS.mono _ _ _
   | exact laws_markGraph.mono _ _ _
   | exact laws_szGraph.mono _ _ _
   | exact laws_toGraph.mono _ _
   | exact spec_OrderOf.mono _ _
   | exact LeO.none _
   | refine LeO.ite ?_ ?_
   | refine LeO.bind ?_ (fun _ => ?_)
theorem laws_FnExactOrderOf.mono : ∀ a0 k, LeO (laws_FnExactOrderOf.f k a0) (laws_FnExactOrderOf.f (k + 1) a0) := by
 intro a0 k
 have ih0 := laws_FnExactOrderOf.mono_l k
 unfold laws_FnExactOrderOf.f
 repeat' first
   | (with_reducible exact ih0 _ _ _ _)
   | (with_reducible exact impl_OrderOf.mono _ _)
   | (with_reducible exact laws_eqDotS.mono _ _ _)
   | (with_reducible exact laws_eqGraph.mono _ _ _)
   | (with_reducible exact laws_heldDotS.mono _ _ _)
   | (with_reducible exact laws_markDotS.mono _ _ _)
   | (with_reducible exact laws_markGraph.mono _ _ _)
   | (with_reducible exact laws_szGraph.mono _ _ _)
   | (with_reducible exact laws_toGraph.mono _ _)
   | (with_reducible exact spec_OrderOf.mono _ _)
   | (with_reducible exact LeO.refl _)
   | (with_reducible exact LeO.none _)
   | (with_reducible refine LeO.ite ?_ ?_)
   | (with_reducible refine LeO.bind ?_ (fun _ => ?_))
   | exact ih0 _ _ _ _
   | exact impl_OrderOf.mono _ _
   | exact laws_eqDotS.mono _ _ _
   | exact laws_eqGraph.mono _ _ _
   | exact laws_heldDotS.mono _ _ _
   | exact laws_markDotS.mono _ _ _
   | exact laws_markGraph.mono _ _ _
   | exact laws_szGraph.mono _ _ _
   | exact laws_toGraph.mono _ _
   | exact spec_OrderOf.mono _ _
   | exact LeO.none _
   | refine LeO.ite ?_ ?_
   | refine LeO.bind ?_ (fun _ => ?_)
set_option maxHeartbeats 8000000 in
set_option maxRecDepth 100000 in
theorem laws_FnExactOrderOf.calls (k : Nat) (A0_0 : Option Addr) (c0_0 : Nat) (l0_0 : List (S44)) (r : Bool) (w : World) (hr0_0 : Kd.C k44 w A0_0 l0_0.length l0_0) (hc0_0 : l0_0.length ≤ c0_0) (ht_ : r = true) (h : laws_FnExactOrderOf.f k l0_0 = some r) :
  Calls Try.prog 7 #[.agg #[.slice A0_0 l0_0.length c0_0]] w fun e w' => e = .returned (.bool r) ∧ Below w.heap.size w w' := by
 have hu40 := Try.underlying40
 have hu26 := Try.underlying26
 have HR0_0 := mS hr0_0
 have HC0_0 := mS hc0_0
 clear hr0_0 hc0_0
 have HB := mS (Below.refl w.heap.size w)
 have H : ((laws_szGraph.f k l0_0 1048576).bind fun t383 => (if t383 < 0 then (some true) else ((laws_toGraph.f k l0_0).bind fun t384 => ((spec_OrderOf.f k t384).bind fun t387 => ((laws_toGraph.f k l0_0).bind fun t390 => ((impl_OrderOf.f k t390).bind fun t394 => ((laws_eqDotS.f k t394 t387).bind fun t397 => (if t397 = true then ((laws_toGraph.f k l0_0).bind fun t398 => ((laws_eqGraph.f k t390 t398).bind fun t401 => (if t401 = true then ((laws_markGraph.f k t390 1).bind fun bt402 => (if bt402.1 < 0 then (laws_FnExactOrderOf.j0 k t387 t394 true l0_0) else ((laws_eqDotS.f k t394 t387).bind fun t404 => (laws_FnExactOrderOf.j0 k t387 t394 (!t404) l0_0)))) else (some false)))) else (some false))))))))) = some r := h
 clear h
 replace H := Option.bind_eq_some_iff.mp H
 obtain ⟨t383, A20, H⟩ := H
 replace H : (if t383 < 0 then (some true) else ((laws_toGraph.f k l0_0).bind fun t384 => ((spec_OrderOf.f k t384).bind fun t387 => ((laws_toGraph.f k l0_0).bind fun t390 => ((impl_OrderOf.f k t390).bind fun t394 => ((laws_eqDotS.f k t394 t387).bind fun t397 => (if t397 = true then ((laws_toGraph.f k l0_0).bind fun t398 => ((laws_eqGraph.f k t390 t398).bind fun t401 => (if t401 = true then ((laws_markGraph.f k t390 1).bind fun bt402 => (if bt402.1 < 0 then (laws_FnExactOrderOf.j0 k t387 t394 true l0_0) else ((laws_eqDotS.f k t394 t387).bind fun t404 => (laws_FnExactOrderOf.j0 k t387 t394 (!t404) l0_0)))) else (some false)))) else (some false)))))))) = some r := H
 have A2 := mS A20
 clear A20
 by_cases c3 : t383 < 0
 ·rw [if_pos c3] at H
  have c3b0 := decide_eq_true c3
  clear c3
  obtain rfl := Option.some.inj H
  go_enter Try.func7, Try.ntmps7
  go_wp2_with (first | ((with_reducible refine gate_dst (N := 1) rfl ?_); refine mBx 1 #[.slice A0_0 l0_0.length c0_0] 40 ?_; intro gb382 hg w4 hbox hb; have BK382 := mS (hbox); have GW382 := mG hg (mH HB.out); have GE382 := mG hg (mH HB.out); replace HB := mS (below_step (mH HB.out) hb); clear hb hbox hg; have hcz5_0 := mZ BK382.out 0; have hfz5_0 := blk_frozen BK382.out 0) | ((with_reducible refine gate_callee (f := 19) rfl ?_); refine mGo 13 Try.func19 #[.agg #[.slice A0_0 l0_0.length c0_0], .int .i64 1048576] ?_; (with_reducible refine (laws_szGraph.calls k _ _ l0_0 1048576 t383 _ ?side1 ?side2 A2.out).mono ?_); (case side1 => exact mC (Kd.C_below HR0_0.out HB.out)); (case side2 => exact HC0_0.out); rintro e w6 ⟨rfl, hb⟩; refine ⟨_, rfl, ?_⟩; replace BK382 := mB BK382 hb; replace HB := mS (below_step (mH1 HB.out GE382.out) hb); (try clear hb)))
  go_ret
  exact ⟨mEw, (mH1 HB.out GE382.out)⟩
 ·rw [if_neg c3] at H
  have c3b0 := decide_eq_false c3
  clear c3
  replace H := Option.bind_eq_some_iff.mp H
  obtain ⟨t384, A70, H⟩ := H
  replace H : ((spec_OrderOf.f k t384).bind fun t387 => ((laws_toGraph.f k l0_0).bind fun t390 => ((impl_OrderOf.f k t390).bind fun t394 => ((laws_eqDotS.f k t394 t387).bind fun t397 => (if t397 = true then ((laws_toGraph.f k l0_0).bind fun t398 => ((laws_eqGraph.f k t390 t398).bind fun t401 => (if t401 = true then ((laws_markGraph.f k t390 1).bind fun bt402 => (if bt402.1 < 0 then (laws_FnExactOrderOf.j0 k t387 t394 true l0_0) else ((laws_eqDotS.f k t394 t387).bind fun t404 => (laws_FnExactOrderOf.j0 k t387 t394 (!t404) l0_0)))) else (some false)))) else (some false)))))) = some r := H
  have A7 := mS A70
  clear A70
  replace H := Option.bind_eq_some_iff.mp H
  obtain ⟨t387, A80, H⟩ := H
  replace H : ((laws_toGraph.f k l0_0).bind fun t390 => ((impl_OrderOf.f k t390).bind fun t394 => ((laws_eqDotS.f k t394 t387).bind fun t397 => (if t397 = true then ((laws_toGraph.f k l0_0).bind fun t398 => ((laws_eqGraph.f k t390 t398).bind fun t401 => (if t401 = true then ((laws_markGraph.f k t390 1).bind fun bt402 => (if bt402.1 < 0 then (laws_FnExactOrderOf.j0 k t387 t394 true l0_0) else ((laws_eqDotS.f k t394 t387).bind fun t404 => (laws_FnExactOrderOf.j0 k t387 t394 (!t404) l0_0)))) else (some false)))) else (some false))))) = some r := H
  have A8 := mS A80
  clear A80
  replace H := Option.bind_eq_some_iff.mp H
  obtain ⟨t390, A90, H⟩ := H
  replace H : ((impl_OrderOf.f k t390).bind fun t394 => ((laws_eqDotS.f k t394 t387).bind fun t397 => (if t397 = true then ((laws_toGraph.f k l0_0).bind fun t398 => ((laws_eqGraph.f k t390 t398).bind fun t401 => (if t401 = true then ((laws_markGraph.f k t390 1).bind fun bt402 => (if bt402.1 < 0 then (laws_FnExactOrderOf.j0 k t387 t394 true l0_0) else ((laws_eqDotS.f k t394 t387).bind fun t404 => (laws_FnExactOrderOf.j0 k t387 t394 (!t404) l0_0)))) else (some false)))) else (some false)))) = some r := H
  have A9 := mS A90
  clear A90
  replace H := Option.bind_eq_some_iff.mp H
  obtain ⟨t394, A100, H⟩ := H
  replace H : ((laws_eqDotS.f k t394 t387).bind fun t397 => (if t397 = true then ((laws_toGraph.f k l0_0).bind fun t398 => ((laws_eqGraph.f k t390 t398).bind fun t401 => (if t401 = true then ((laws_markGraph.f k t390 1).bind fun bt402 => (if bt402.1 < 0 then (laws_FnExactOrderOf.j0 k t387 t394 true l0_0) else ((laws_eqDotS.f k t394 t387).bind fun t404 => (laws_FnExactOrderOf.j0 k t387 t394 (!t404) l0_0)))) else (some false)))) else (some false))) = some r := H
  have A10 := mS A100
  clear A100
  replace H := Option.bind_eq_some_iff.mp H
  obtain ⟨t397, A110, H⟩ := H
  replace H : (if t397 = true then ((laws_toGraph.f k l0_0).bind fun t398 => ((laws_eqGraph.f k t390 t398).bind fun t401 => (if t401 = true then ((laws_markGraph.f k t390 1).bind fun bt402 => (if bt402.1 < 0 then (laws_FnExactOrderOf.j0 k t387 t394 true l0_0) else ((laws_eqDotS.f k t394 t387).bind fun t404 => (laws_FnExactOrderOf.j0 k t387 t394 (!t404) l0_0)))) else (some false)))) else (some false)) = some r := H
  have A11 := mS A110
  clear A110
  by_cases c12 : t397 = true
  ·subst c12
   have H1 := H
   rw [if_pos rfl] at H1
   clear H
   have H := H1
   clear H1
   replace H := Option.bind_eq_some_iff.mp H
   obtain ⟨t398, A130, H⟩ := H
   replace H : ((laws_eqGraph.f k t390 t398).bind fun t401 => (if t401 = true then ((laws_markGraph.f k t390 1).bind fun bt402 => (if bt402.1 < 0 then (laws_FnExactOrderOf.j0 k t387 t394 true l0_0) else ((laws_eqDotS.f k t394 t387).bind fun t404 => (laws_FnExactOrderOf.j0 k t387 t394 (!t404) l0_0)))) else (some false))) = some r := H
   have A13 := mS A130
   clear A130
   replace H := Option.bind_eq_some_iff.mp H
   obtain ⟨t401, A140, H⟩ := H
   replace H : (if t401 = true then ((laws_markGraph.f k t390 1).bind fun bt402 => (if bt402.1 < 0 then (laws_FnExactOrderOf.j0 k t387 t394 true l0_0) else ((laws_eqDotS.f k t394 t387).bind fun t404 => (laws_FnExactOrderOf.j0 k t387 t394 (!t404) l0_0)))) else (some false)) = some r := H
   have A14 := mS A140
   clear A140
   by_cases c15 : t401 = true
   ·subst c15
    have H1 := H
    rw [if_pos rfl] at H1
    clear H
    have H := H1
    clear H1
    replace H := Option.bind_eq_some_iff.mp H
    obtain ⟨⟨t402, t403⟩, A160, H⟩ := H
    replace H : (if t402 < 0 then (laws_FnExactOrderOf.j0 k t387 t394 true l0_0) else ((laws_eqDotS.f k t394 t387).bind fun t404 => (laws_FnExactOrderOf.j0 k t387 t394 (!t404) l0_0))) = some r := H
    have A16 := mS A160
    clear A160
    have HC17 := mS H
    clear H
    go_enter Try.func7, Try.ntmps7
    try go_wp2_with (first | ((with_reducible refine gate_dst (N := 1) rfl ?_); refine mBx 1 #[.slice A0_0 l0_0.length c0_0] 40 ?_; intro gb382 hg w18 hbox hb; have BK382 := mS (hbox); have GW382 := mG hg (mH HB.out); have GE382 := mG hg (mH HB.out); replace HB := mS (below_step (mH HB.out) hb); clear hb hbox hg; have hcz19_0 := mZ BK382.out 0; have hfz19_0 := blk_frozen BK382.out 0) | ((with_reducible refine gate_callee (f := 19) rfl ?_); refine mGo 13 Try.func19 #[.agg #[.slice A0_0 l0_0.length c0_0], .int .i64 1048576] ?_; (with_reducible refine (laws_szGraph.calls k _ _ l0_0 1048576 t383 _ ?side1 ?side2 A2.out).mono ?_); (case side1 => exact mC (Kd.C_below HR0_0.out HB.out)); (case side2 => exact HC0_0.out); rintro e w20 ⟨rfl, hb⟩; refine ⟨_, rfl, ?_⟩; replace BK382 := mB BK382 hb; replace HB := mS (below_step (mH1 HB.out GE382.out) hb); (try clear hb); have hcz21_0 := mZ BK382.out 0; have hfz21_0 := blk_frozen BK382.out 0) | ((with_reducible refine gate_callee (f := 22) rfl ?_); refine mGo 17 Try.func22 #[.agg #[.slice A0_0 l0_0.length c0_0]] ?_; (with_reducible refine (laws_toGraph.calls k _ _ l0_0 t384 _ ?side1 ?side2 A7.out).mono ?_); (case side1 => exact mC (Kd.C_below HR0_0.out HB.out)); (case side2 => exact HC0_0.out); rintro e w22 ⟨v385, rfl, ho0, hb⟩; refine ⟨_, rfl, ?_⟩; obtain ⟨z23, hz23⟩ := MWords.mp_size hb; have HO386 := mS (Kd.S_lower (MWords.mp_geS ho0 hz23) (below_size (mH1 HB.out GE382.out))); replace BK382 := mB BK382 hb; replace HB := mS (below_step (mH1 HB.out GE382.out) hb); (try clear hb); (try clear ho0); obtain ⟨Ao24, co24, eo24⟩ := Kd.S_slice HO386.out; subst eo24) | ((with_reducible refine gate_callee (f := 37) rfl ?_); refine mGo 18 Try.func37 #[.agg #[.slice Ao24 t384.length co24]] ?_; (with_reducible refine (spec_OrderOf.calls k _ _ t384 t387 _ ?side1 ?side2 A8.out).mono ?_); (case side1 => exact mC (Kd.S_reads' HO386.out).2.2); (case side2 => exact (Kd.S_reads' HO386.out).2.1); rintro e w25 ⟨v388, rfl, ho0, hb⟩; refine ⟨_, rfl, ?_⟩; replace HO386 := mS (Kd.S_elder' (mSd HO386.out) (Kd.R_base ho0) hb); have HO389 := mS (Kd.R_lower ho0 (below_size (mH1 HB.out GE382.out))); replace BK382 := mB BK382 hb; replace HB := mS (below_step (mH1 HB.out GE382.out) hb); (try clear hb); (try clear ho0); have hcz26_0 := mZ BK382.out 0; have hfz26_0 := blk_frozen BK382.out 0) | ((with_reducible refine gate_callee (f := 22) rfl ?_); refine mGo 20 Try.func22 #[.agg #[.slice A0_0 l0_0.length c0_0]] ?_; (with_reducible refine (laws_toGraph.calls k _ _ l0_0 t390 _ ?side1 ?side2 A9.out).mono ?_); (case side1 => exact mC (Kd.C_below HR0_0.out HB.out)); (case side2 => exact HC0_0.out); rintro e w27 ⟨v391, rfl, ho0, hb⟩; refine ⟨_, rfl, ?_⟩; obtain ⟨z28, hz28⟩ := MWords.mp_size hb; have HO392 := mS (Kd.S_lower (Kd.S_new' (Kd.S_new' (MWords.mp_geS ho0 hz28) (Kd.S_lt (mSd HO386.out))) (Kd.R_lt (mR HO389.out))) (below_size (mH1 HB.out GE382.out))); replace HO386 := mS (MWords.mp_ltS (Kd.S_told (Kd.S_old (mSd HO386.out) hb) (Kd.S_base ho0)) hz28); replace HO389 := mS (Kd.R_below (mR HO389.out) hb); replace BK382 := mB BK382 hb; replace HB := mS (below_step (mH1 HB.out GE382.out) hb); (try clear hb); (try clear ho0)) | ((with_reducible refine gate_dst (N := 5) rfl ?_); refine mBx 5 #[.slice none 0 0] 26 ?_; intro gb393 hg w29 hbox hb; replace HO386 := mS (Kd.S_below (mSd HO386.out) hb); replace HO389 := mS (Kd.R_below (mR HO389.out) hb); replace HO392 := mS (Kd.S_below (mSd HO392.out) hb); have BK393 := mS (hbox); have GW393 := mG hg (mH1 HB.out GE382.out); have GE393 := mG hg (mH1 HB.out GE382.out); replace HB := mS (below_step (mH1 HB.out GE382.out) hb); have NB382_393 := mNl hg BK382.out; have NB393_382 := mNg hg BK382.out; replace BK382 := mB BK382 hb; clear hb hbox hg; obtain ⟨Ao30, co30, eo30⟩ := Kd.S_slice HO392.out; subst eo30; have hnb31 := NB393_382.out; have hnc31 := NB382_393.out; have hcz32_0 := mZ BK393.out 0; have hfz32_0 := blk_frozen BK393.out 0) | ((with_reducible refine gate_callee (f := 15) rfl ?_); refine mGo 22 Try.func15 #[.agg #[.slice Ao30 t390.length co30]] ?_; (with_reducible refine (impl_OrderOf.calls k _ _ t390 t394 _ ?side1 ?side2 A10.out).mono ?_); (case side1 => refine (Kd.S_reads' (e := 33) (base := w.heap.size) (ok := fun k_ => (((True ∧ z28 ≤ k_) ∧ some k_ ≠ (.slice Ao24 t384.length co24 : Value).ownBlock) ∧ some k_ ≠ (v388 : Value).ownBlock)) (n := t390.length) (c := co30) ?_).2.2; exact (by refine mSd ?_; exact (Kd.S_mono (Kd.S_far (p := ⟨gb393, 0, none⟩) (Kd.S_types HO392.out BK393.out (by decide)) (fun _ hk => hk.2) (.slice Ao30 t390.length co30)) (fun _ h_ => h_.1)))); (case side2 => exact (Kd.S_reads' HO392.out).2.1); rintro e w33 ⟨v395, rfl, ho0, hb⟩; refine ⟨_, rfl, ?_⟩; replace HO386 := mS (Kd.S_elder' (by refine mSd ?_; exact (Kd.S_mono (Kd.S_far (p := ⟨gb393, 0, none⟩) (Kd.S_types HO386.out BK393.out (by decide)) (fun _ hk => hk.2) (.slice Ao30 t390.length co30)) (fun _ h_ => h_.1))) (Kd.R_base ho0) hb); replace HO392 := mS (Kd.S_elder' (by refine mSd ?_; exact (Kd.S_mono (Kd.S_far (p := ⟨gb393, 0, none⟩) (Kd.S_types HO392.out BK393.out (by decide)) (fun _ hk => hk.2) (.slice Ao30 t390.length co30)) (fun _ h_ => h_.1))) (Kd.R_base ho0) hb); have HO396 := mS (Kd.R_lower (Kd.R_new' ho0 (Kd.R_lt (by refine mR ?_; exact (Kd.R_mono (Kd.R_far (p := ⟨gb393, 0, none⟩) (Kd.R_types HO389.out BK393.out (by decide)) (fun _ hk => hk.2) (.slice Ao30 t390.length co30)) (fun _ h_ => h_.1))))) (below_size (mH2 HB.out GE382.out GE393.out))); replace HO389 := mS (Kd.R_elder' (by refine mR ?_; exact (Kd.R_mono (Kd.R_far (p := ⟨gb393, 0, none⟩) (Kd.R_types HO389.out BK393.out (by decide)) (fun _ hk => hk.2) (.slice Ao30 t390.length co30)) (fun _ h_ => h_.1))) (Kd.R_base ho0) hb); replace BK382 := mS (blk_below (g := gb382) (o := .cells #[.slice A0_0 l0_0.length c0_0] 40 (0, 0)) (mKf NB382_393.out BK382.out) hb); replace BK393 := mS (blk_below (g := gb393) (o := .cells #[.slice Ao30 t390.length co30] 26 (0, 0)) (by refine mK ?_; refine blk_put (cs := #[.slice none 0 0]) ?_ 0 _ rfl; refine mK ?_; exact BK393.out) hb); replace HB := mS (below_step (mH2 HB.out GE382.out GE393.out) hb); (try clear hb); (try clear ho0); obtain ⟨Ao34, co34, eo34⟩ := Kd.R_slice HO396.out; subst eo34; obtain ⟨Ao35, co35, eo35⟩ := Kd.R_slice HO389.out; subst eo35) | ((with_reducible refine gate_callee (f := 31) rfl ?_); refine mGo 25 Try.func31 #[.slice Ao34 t394.length co34, .slice Ao35 t387.length co35] ?_; (with_reducible refine (laws_eqDotS.calls k _ _ t394 _ _ t387 true _ ?side1 ?side2 ?side3 ?side4 A11.out).mono ?_); (case side1 => exact mC (Kd.R_reads' HO396.out).2.2); (case side2 => exact (Kd.R_reads' HO396.out).2.1); (case side3 => exact mC (Kd.R_reads' HO389.out).2.2); (case side4 => exact (Kd.R_reads' HO389.out).2.1); rintro e w36 ⟨rfl, hb⟩; refine ⟨_, rfl, ?_⟩; replace HO386 := mS (Kd.S_below (mSd HO386.out) hb); replace HO389 := mS (Kd.R_below (mR HO389.out) hb); replace HO392 := mS (Kd.S_below (mSd HO392.out) hb); replace HO396 := mS (Kd.R_below (mR HO396.out) hb); replace BK382 := mB BK382 hb; replace BK393 := mB BK393 hb; replace HB := mS (below_step (mH2 HB.out GE382.out GE393.out) hb); (try clear hb)))
    replace HO386 := mS (Kd.S_drew HO386.out)
    replace HO389 := mS (Kd.R_drew HO389.out)
    replace HO392 := mS (Kd.S_drew HO392.out)
    replace HO396 := mS (Kd.R_drew HO396.out)
    replace BK382 := mS (blk_drew BK382.out)
    replace BK393 := mS (blk_drew BK393.out)
    replace HB := mS (below_drew1 HB.out)
    refine start_ (n := 5) (S := fun w' => w'.cell? ⟨gb393, 0, none⟩ = some (.slice Ao30 t390.length co30) ∧ w'.cell? ⟨gb382, 0, none⟩ = some (.slice A0_0 l0_0.length c0_0)) (ds := []) (mb 0 5) (by kernel_rfl) rfl rfl ⟨mZ BK393.out 0, mZ BK382.out 0⟩ (fun hHeld => ?_)
    generalize w36.drew = w37 at HO386 HO389 HO392 HO396 BK382 BK393 HB hHeld ⊢
    refine take_ (i := 0) (N := some 27) (v := ?_) (a' := ?_) (mb 1 4) rfl rfl (by kernel_rfl) (fun _ _ _ h => h) (Or.inl ⟨by rfl, ?_⟩) hHeld ?_ ?_
    rotate_left
    ·rintro w' ⟨s0, s1⟩
     go_simp
     with_reducible rfl
    rotate_left
    ·simp only [Act.put, zA, zB, zC, i64_w, i32_w]
     rfl
    refine take_ (i := 1) (N := some 28) (v := ?_) (a' := ?_) (mb 2 3) rfl rfl (by kernel_rfl) (fun _ _ _ h => h) (Or.inl ⟨by rfl, ?_⟩) hHeld ?_ ?_
    rotate_left
    ·rintro w' ⟨s0, s1⟩
     go_simp
     with_reducible rfl
    rotate_left
    ·simp only [Act.put, zA, zB, zC, i64_w, i32_w]
     rfl
    refine one_ (i := 2) (N := some 29) (mb 3 2) rfl rfl (by kernel_rfl) (by decide) (fun K hK => ?_)
    refine goes_ Try.func22 (by kernel_rfl) rfl #[.agg #[.slice A0_0 l0_0.length c0_0]] (by rfl) rfl rfl mA ?_
    with_reducible refine (laws_toGraph.calls k _ _ l0_0 t398 _ ?side1 ?side2 A13.out).mono ?_
    (case side1 => exact mC (Kd.C_below HR0_0.out HB.out))
    (case side2 => exact HC0_0.out)
    rintro e w38 ⟨v399, rfl, ho0, hb⟩
    refine ⟨_, rfl, ?_⟩
    obtain ⟨z39, hz39⟩ := MWords.mp_size hb
    have HO400 := mS (Kd.S_lower (Kd.S_new' (Kd.S_new' (Kd.S_new' (Kd.S_new' (MWords.mp_geS ho0 hz39) (Kd.S_lt (mSd HO386.out))) (Kd.R_lt (mR HO389.out))) (Kd.S_lt (mSd HO392.out))) (Kd.R_lt (mR HO396.out))) (below_size (mH2 HB.out GE382.out GE393.out)))
    replace HO386 := mS (MWords.mp_ltS (Kd.S_told (Kd.S_old (mSd HO386.out) hb) (Kd.S_base ho0)) hz39)
    replace HO389 := mS (Kd.R_below (mR HO389.out) hb)
    replace HO392 := mS (MWords.mp_ltS (Kd.S_told (Kd.S_old (mSd HO392.out) hb) (Kd.S_base ho0)) hz39)
    replace HO396 := mS (Kd.R_below (mR HO396.out) hb)
    replace BK382 := mB BK382 hb
    replace BK393 := mB BK393 hb
    replace HB := mS (below_step (mH2 HB.out GE382.out GE393.out) hb)
    (try clear hb)
    (try clear hb2)
    (try clear hk)
    (try clear hi)
    (try clear ho0)
    obtain ⟨Ao40, co40, eo40⟩ := Kd.S_slice HO400.out
    (first | subst eo40 | (injection eo40 with f1_ f2_ f3_; have f4_ := f1_.symm; have f5_ := f3_.symm; clear f1_ f2_ f3_; subst f4_; subst f5_))
    refine hK.out _ _ ⟨mZ BK393.out 0, mZ BK382.out 0⟩ (fun hHeld => ?_)
    clear hK K
    refine mno 29 ?_
    refine one_ (i := 3) (N := some 30) (mb 4 1) rfl rfl (by kernel_rfl) (by decide) (fun K hK => ?_)
    refine goes_ Try.func24 (by kernel_rfl) rfl #[.agg #[.slice Ao30 t390.length co30], .agg #[.slice Ao40 t398.length co40]] (by rfl) rfl rfl mA ?_
    with_reducible refine (laws_eqGraph.calls k _ _ t390 _ _ t398 true _ ?side1 ?side2 ?side3 ?side4 A14.out).mono ?_
    (case side1 => exact mC (Kd.S_reads' HO392.out).2.2)
    (case side2 => exact (Kd.S_reads' HO392.out).2.1)
    (case side3 => exact mC (Kd.S_reads' HO400.out).2.2)
    (case side4 => exact (Kd.S_reads' HO400.out).2.1)
    rintro e w41 ⟨rfl, hb⟩
    refine ⟨_, rfl, ?_⟩
    replace HO386 := mS (Kd.S_below (mSd HO386.out) hb)
    replace HO389 := mS (Kd.R_below (mR HO389.out) hb)
    replace HO392 := mS (Kd.S_below (mSd HO392.out) hb)
    replace HO396 := mS (Kd.R_below (mR HO396.out) hb)
    replace HO400 := mS (Kd.S_below (mSd HO400.out) hb)
    replace BK382 := mB BK382 hb
    replace BK393 := mB BK393 hb
    replace HB := mS (below_step (mH2 HB.out GE382.out GE393.out) hb)
    (try clear hb)
    (try clear hb2)
    (try clear hk)
    (try clear hi)
    refine hK.out _ _ ⟨mZ BK393.out 0, mZ BK382.out 0⟩ (fun hHeld => ?_)
    clear hK K
    refine mno 30 ?_
    refine pure_ (i := 4) (N := some 31) (v := ?_) (a' := ?_) (mb 5 0) rfl rfl (by kernel_rfl) (fun _ _ _ h => h) (Or.inl ⟨by rfl, ?_⟩) ?_ ?_
    rotate_left
    ·intro w'
     go_simp
     with_reducible rfl
    rotate_left
    ·simp only [Act.put, zA, zB, zC, i64_w, i32_w]
     rfl
    refine done_ (by kernel_rfl) ?_
    have hcz42_0 := mZ BK393.out 0
    have hfz42_0 := blk_frozen BK393.out 0
    go_upto_region 14 with (first | ((with_reducible refine gate_callee (f := 26) rfl ?_); refine mGo 34 Try.func26 #[.agg #[.slice Ao30 t390.length co30], .int .i64 1] ?_; (with_reducible refine (laws_markGraph.calls k (fun k_ => ((((((((True ∧ z28 ≤ k_) ∧ some k_ ≠ (.slice Ao24 t384.length co24 : Value).ownBlock) ∧ some k_ ≠ (.slice Ao35 t387.length co35 : Value).ownBlock) ∧ some k_ ≠ (.slice Ao34 t394.length co34 : Value).ownBlock) ∧ some k_ ≠ (.slice Ao40 t398.length co40 : Value).ownBlock) ∧ k_ < z39) ∧ k_ ≠ gb382) ∧ k_ ≠ gb393) ∧ w.heap.size ≤ k_) (.slice Ao30 t390.length co30) t390 1 t402 t403 w _ ?side1 ?side2 A16.out).mono ?_); (case side1 => exact mH2 HB.out GE382.out GE393.out); (case side2 => exact Kd.S_mono (Kd.S_bound (Kd.S_types (Kd.S_types HO392.out BK382.out (by decide)) BK393.out (by decide))) (fun k_ h_ => (⟨h_.1, h_.2.1⟩ : _ ∧ _))); rintro e w43 ⟨rfl, hy0, hb, hkp⟩; refine ⟨_, rfl, ?_⟩; replace BK382 := mS (blk_kept (mK BK382.out) hkp (fun hs_ => (fun e_ => (e_.1.1.2) rfl) hs_)); replace HO386 := mS (Kd.S_mono (ok' := fun k_ => some k_ ≠ (.slice Ao35 t387.length co35 : Value).ownBlock ∧ some k_ ≠ (.slice Ao30 t390.length co30 : Value).ownBlock ∧ some k_ ≠ (.slice Ao34 t394.length co34 : Value).ownBlock ∧ some k_ ≠ (.slice Ao40 t398.length co40 : Value).ownBlock ∧ z23 ≤ k_ ∧ k_ < z28 ∧ k_ < z39) (Kd.S_keptB (HO386.out) hkp (fun k_ hk_ hs_ => (fun e_ => Nat.lt_irrefl _ (Nat.lt_of_lt_of_le (hk_.1.1.1.2) (e_.1.1.1.1.1.1.1.1.2))) hs_)) (fun k_ hk_ => ⟨hk_.1.1.1.1.1.1.2, hk_.1.1.1.1.1.2, hk_.1.1.1.2, hk_.1.1.2, hk_.1.1.1.1.1.1.1.2, hk_.1.1.1.1.2, hk_.1.2⟩)); replace HO389 := mS (Kd.R_mono (ok' := fun k_ => some k_ ≠ (.slice Ao34 t394.length co34 : Value).ownBlock) (Kd.R_keptB ((Kd.R_tight2 rfl HO389.out)) hkp (fun k_ hk_ hs_ => (fun e_ => (e_.1.1.1.1.1.1.2) (hk_.1)) hs_)) (fun k_ hk_ => hk_.1.2.2)); replace HO392 := mS (Kd.S_mono (ok' := fun k_ => ((((((True ∧ z28 ≤ k_) ∧ some k_ ≠ (.slice Ao24 t384.length co24 : Value).ownBlock) ∧ some k_ ≠ (.slice Ao35 t387.length co35 : Value).ownBlock) ∧ some k_ ≠ (.slice Ao34 t394.length co34 : Value).ownBlock) ∧ some k_ ≠ (.slice Ao40 t398.length co40 : Value).ownBlock) ∧ k_ < z39)) hy0 (fun k_ h_ => ⟨⟨⟨⟨⟨⟨trivial, h_.1.1.1.1.1.1.1.1.2⟩, h_.1.1.1.1.1.1.1.2⟩, h_.1.1.1.1.1.1.2⟩, h_.1.1.1.1.1.2⟩, h_.1.1.1.1.2⟩, h_.1.1.1.2⟩)); replace BK393 := mS (blk_kept (mK BK393.out) hkp (fun hs_ => (fun e_ => (e_.1.2) rfl) hs_)); replace HO396 := mS (Kd.R_mono (ok' := fun k_ => some k_ ≠ (.slice Ao35 t387.length co35 : Value).ownBlock) (Kd.R_keptB ((Kd.R_tight2 rfl HO396.out)) hkp (fun k_ hk_ hs_ => (fun e_ => (e_.1.1.1.1.1.2) (hk_.1)) hs_)) (fun k_ hk_ => hk_.1.2.2)); replace HO400 := mS (Kd.S_mono (ok' := fun k_ => some k_ ≠ (.slice Ao24 t384.length co24 : Value).ownBlock ∧ some k_ ≠ (.slice Ao35 t387.length co35 : Value).ownBlock ∧ some k_ ≠ (.slice Ao30 t390.length co30 : Value).ownBlock ∧ some k_ ≠ (.slice Ao34 t394.length co34 : Value).ownBlock ∧ z39 ≤ k_) (Kd.S_keptB (HO400.out) hkp (fun k_ hk_ hs_ => (fun e_ => Nat.lt_irrefl _ (Nat.lt_of_lt_of_le (e_.1.1.1.2) (hk_.1.1.1.1.2))) hs_)) (fun k_ hk_ => ⟨hk_.1.1.1.1.2, hk_.1.1.1.2, hk_.1.1.2, hk_.1.2, hk_.1.1.1.1.1.2⟩)); replace HB := mS (hb); (try clear hb); (try clear hkp); (try clear hy0)))
    (try simp only [Act.put, zA, zB, zC])
    go_cut [42] (fun v42 wc => ∃ (kq : Nat) (x42_16 : Bool), v42 = .bool x42_16 ∧ Aside0 (laws_FnExactOrderOf.j0 kq t387 t394 x42_16 l0_0 = some r) ∧ Aside0 (kq ≤ k) ∧ Aside0 (Kd.R k31 31 wc w.heap.size (fun k_ => some k_ ≠ ((.slice Ao34 t394.length co34) : Value).ownBlock) (.slice Ao35 t387.length co35) t387) ∧ Aside0 (Kd.R k31 31 wc w.heap.size (fun k_ => some k_ ≠ ((.slice Ao35 t387.length co35) : Value).ownBlock) (.slice Ao34 t394.length co34) t394) ∧ Aside0 (Kd.S k33 33 wc w.heap.size (fun k_ => some k_ ≠ ((.slice Ao35 t387.length co35) : Value).ownBlock ∧ some k_ ≠ ((.slice Ao34 t394.length co34) : Value).ownBlock ∧ z28 ≤ k_ ∧ k_ < z39) (.slice Ao30 t390.length co30) t403) ∧ Aside0 (wc.heap[gb382]? = some (.cells #[(.slice A0_0 l0_0.length c0_0)] 40 (0, 0))) ∧ Aside0 (wc.heap[gb393]? = some (.cells #[(.slice Ao30 t390.length co30)] 26 (0, 0))) ∧ Aside0 (Below w.heap.size w wc))
    case first =>
     have H := HC17.out
     clear HC17
     by_cases c44 : t402 < 0
     ·rw [if_pos c44] at H
      have c44b0 := decide_eq_true c44
      clear c44
      (first | rw [c44b0] | (simp only [i64_w, i32_w]; rw [c44b0]) | skip)
      have H' := mS H
      clear H
      go_wp2
      go_meet
      case rel => exact ⟨_, (true), mE, H', ⟨by first | omega | exact Nat.le_refl _⟩, ⟨mR HO389.out⟩, ⟨mR HO396.out⟩, ⟨by refine mSd ?_; exact Kd.S_mono HO392.out (fun _ hk => ⟨hk.1.1.1.2, ⟨hk.1.1.2, ⟨hk.1.1.1.1.1.2, hk.2⟩⟩⟩)⟩, ⟨mK BK382.out⟩, ⟨mK BK393.out⟩, ⟨(mH2 HB.out GE382.out GE393.out)⟩⟩
     ·rw [if_neg c44] at H
      have c44b0 := decide_eq_false c44
      clear c44
      (first | rw [c44b0] | (simp only [i64_w, i32_w]; rw [c44b0]) | skip)
      replace H := Option.bind_eq_some_iff.mp H
      obtain ⟨t404, A450, H⟩ := H
      replace H : (laws_FnExactOrderOf.j0 k t387 t394 (!t404) l0_0) = some r := H
      have A45 := mS A450
      clear A450
      have H' := mS H
      clear H
      go_wp2_with (first | (go_at_call 31; (with_reducible refine (laws_eqDotS.calls k _ _ t394 _ _ t387 t404 _ ?side1 ?side2 ?side3 ?side4 A45.out).mono ?_); (case side1 => exact mC (Kd.R_reads' HO396.out).2.2); (case side2 => exact (Kd.R_reads' HO396.out).2.1); (case side3 => exact mC (Kd.R_reads' HO389.out).2.2); (case side4 => exact (Kd.R_reads' HO389.out).2.1); rintro e w46 ⟨rfl, hb⟩; replace HO386 := mS (Kd.S_below (mSd HO386.out) hb); replace HO389 := mS (Kd.R_below (mR HO389.out) hb); replace HO392 := mS (Kd.S_below (mSd HO392.out) hb); replace HO396 := mS (Kd.R_below (mR HO396.out) hb); replace HO400 := mS (Kd.S_below (mSd HO400.out) hb); replace BK382 := mB BK382 hb; replace BK393 := mB BK393 hb; replace HB := mS (below_step (mH2 HB.out GE382.out GE393.out) hb); (try clear hb); (try clear hb2); (try clear hk); (try clear hi)))
      go_meet
      case rel => exact ⟨_, (!t404), mE, H', ⟨by first | omega | exact Nat.le_refl _⟩, ⟨mR HO389.out⟩, ⟨mR HO396.out⟩, ⟨by refine mSd ?_; exact Kd.S_mono HO392.out (fun _ hk => ⟨hk.1.1.1.2, ⟨hk.1.1.2, ⟨hk.1.1.1.1.1.2, hk.2⟩⟩⟩)⟩, ⟨mK BK382.out⟩, ⟨mK BK393.out⟩, ⟨(mH2 HB.out GE382.out GE393.out)⟩⟩
    case rest =>
     clear HC17
     try clear c1
     try clear c2
     try clear p2
     try clear c3
     try clear c3b0
     try clear c4
     try clear c7
     try clear c12
     try clear c15
     try clear c19
     try clear c22
     try clear c24
     try clear c26
     try clear c31
     try clear c37
     try clear c44
     try clear c44b0
     try clear hcz19_0
     try clear hcz21_0
     try clear hcz26_0
     try clear hcz32_0
     try clear hcz42_0
     try clear hcz5_0
     try clear hfz19_0
     try clear hfz21_0
     try clear hfz26_0
     try clear hfz32_0
     try clear hfz42_0
     try clear hfz5_0
     obtain ⟨kq, x42_16, rfl, HA, HJ16, HO_4, HO_6, HO_394000, BK382, BK393, HB⟩ := hcut
     have hl394000_16 := (Kd.S_reads' HO_394000.out).1
     rw [hl394000_16] at HO_394000
     (try simp only [hl394000_16])
     (try simp only [hl394000_16] at BK382)
     (try simp only [hl394000_16] at BK393)
     (try simp only [hl394000_16] at HO_4)
     (try simp only [hl394000_16] at HO_6)
     cases kq with
     | zero => exact absurd HA.out (by simp [laws_FnExactOrderOf.j0])
     | succ kj16 =>
      have H := HA.out
      clear HA
      simp only [laws_FnExactOrderOf.j0] at H
      by_cases c47 : x42_16 = true
      ·subst c47
       have H1 := H
       rw [if_pos rfl] at H1
       clear H
       have H := H1
       clear H1
       exact absurd ((Option.some.inj H).trans ht_) (by decide)
      ·replace c47 := Bool.eq_false_iff.mpr c47
       subst c47
       have H1 := H
       rw [if_neg (show ¬ (false = true) by decide)] at H1
       clear H
       have H := H1
       clear H1
       replace H := Option.bind_eq_some_iff.mp H
       obtain ⟨⟨t405, t406⟩, A480, H⟩ := H
       replace H : ((laws_heldDotS.f kj16 t406 1).bind fun t407 => (if t407 < 0 then (some false) else (if t407 = t405 then ((laws_toGraph.f kj16 l0_0).bind fun t408 => ((impl_OrderOf.f kj16 t408).bind fun t411 => ((laws_eqDotS.f kj16 t411 t387).bind fun t414 => (if t414 = true then ((laws_heldDotS.f kj16 t406 1).bind fun t415 => (if t415 < 0 then (some false) else (if t415 = t405 then (some true) else (some false)))) else (some false))))) else (some false)))) = some r := H
       have A48 := mS A480
       clear A480
       replace H := Option.bind_eq_some_iff.mp H
       obtain ⟨t407, A490, H⟩ := H
       replace H : (if t407 < 0 then (some false) else (if t407 = t405 then ((laws_toGraph.f kj16 l0_0).bind fun t408 => ((impl_OrderOf.f kj16 t408).bind fun t411 => ((laws_eqDotS.f kj16 t411 t387).bind fun t414 => (if t414 = true then ((laws_heldDotS.f kj16 t406 1).bind fun t415 => (if t415 < 0 then (some false) else (if t415 = t405 then (some true) else (some false)))) else (some false))))) else (some false))) = some r := H
       have A49 := mS A490
       clear A490
       by_cases c50 : t407 < 0
       ·rw [if_pos c50] at H
        have c50b0 := decide_eq_true c50
        clear c50
        exact absurd ((Option.some.inj H).trans ht_) (by decide)
       ·rw [if_neg c50] at H
        have c50b0 := decide_eq_false c50
        clear c50
        by_cases c51 : t407 = t405
        ·rw [if_pos c51] at H
         have c51b0 : (t407 == t405) = true := beq_iff_eq.mpr c51
         have c51b1 : (t407 != t405) = false := bne_eq_false_iff_eq.mpr c51
         clear c51
         replace H := Option.bind_eq_some_iff.mp H
         obtain ⟨t408, A520, H⟩ := H
         replace H : ((impl_OrderOf.f kj16 t408).bind fun t411 => ((laws_eqDotS.f kj16 t411 t387).bind fun t414 => (if t414 = true then ((laws_heldDotS.f kj16 t406 1).bind fun t415 => (if t415 < 0 then (some false) else (if t415 = t405 then (some true) else (some false)))) else (some false)))) = some r := H
         have A52 := mS A520
         clear A520
         replace H := Option.bind_eq_some_iff.mp H
         obtain ⟨t411, A530, H⟩ := H
         replace H : ((laws_eqDotS.f kj16 t411 t387).bind fun t414 => (if t414 = true then ((laws_heldDotS.f kj16 t406 1).bind fun t415 => (if t415 < 0 then (some false) else (if t415 = t405 then (some true) else (some false)))) else (some false))) = some r := H
         have A53 := mS A530
         clear A530
         replace H := Option.bind_eq_some_iff.mp H
         obtain ⟨t414, A540, H⟩ := H
         replace H : (if t414 = true then ((laws_heldDotS.f kj16 t406 1).bind fun t415 => (if t415 < 0 then (some false) else (if t415 = t405 then (some true) else (some false)))) else (some false)) = some r := H
         have A54 := mS A540
         clear A540
         by_cases c55 : t414 = true
         ·subst c55
          have H1 := H
          rw [if_pos rfl] at H1
          clear H
          have H := H1
          clear H1
          replace H := Option.bind_eq_some_iff.mp H
          obtain ⟨t415, A560, H⟩ := H
          replace H : (if t415 < 0 then (some false) else (if t415 = t405 then (some true) else (some false))) = some r := H
          have A56 := mS A560
          clear A560
          by_cases c57 : t415 < 0
          ·rw [if_pos c57] at H
           have c57b0 := decide_eq_true c57
           clear c57
           exact absurd ((Option.some.inj H).trans ht_) (by decide)
          ·rw [if_neg c57] at H
           have c57b0 := decide_eq_false c57
           clear c57
           by_cases c58 : t415 = t405
           ·rw [if_pos c58] at H
            have c58b0 : (t415 == t405) = true := beq_iff_eq.mpr c58
            have c58b1 : (t415 != t405) = false := bne_eq_false_iff_eq.mpr c58
            clear c58
            obtain rfl := Option.some.inj H
            go_wp2_with (first | ((with_reducible refine gate_callee (f := 32) rfl ?_); refine mGo 45 Try.func32 #[.slice Ao34 t394.length co34, .int .i64 1] ?_; (with_reducible refine (laws_markDotS.calls kj16 (fun k_ => some k_ = (.slice Ao34 t394.length co34 : Value).ownBlock) (.slice Ao34 t394.length co34) t394 1 t405 t406 w _ ?side1 ?side2 A48.out).mono ?_); (case side1 => exact mH2 HB.out GE382.out GE393.out); (case side2 => exact Kd.R_tight rfl HO_6.out); rintro e w59 ⟨rfl, hy0, hb, hkp⟩; refine ⟨_, rfl, ?_⟩; replace HO_4 := mS (Kd.R_mono (ok' := fun k_ => some k_ ≠ (.slice Ao34 t394.length co34 : Value).ownBlock) (Kd.R_keptB (HO_4.out) hkp (fun k_ hk_ hs_ => (hk_) hs_)) (fun k_ hk_ => hk_.1)); replace HO_394000 := mS (Kd.S_mono (ok' := fun k_ => some k_ ≠ (.slice Ao35 t387.length co35 : Value).ownBlock ∧ some k_ ≠ (.slice Ao34 t394.length co34 : Value).ownBlock ∧ z28 ≤ k_ ∧ k_ < z39) (Kd.S_keptB (HO_394000.out) hkp (fun k_ hk_ hs_ => (hk_.2.1) hs_)) (fun k_ hk_ => ⟨hk_.1.1, hk_.1.2.1, hk_.1.2.2.1, hk_.1.2.2.2⟩)); replace BK382 := mS (blk_kept (mK BK382.out) hkp (fun hs_ => (fun e_ => (Kd.R_ne HO_6.out BK382.out (by decide)) e_) hs_)); replace BK393 := mS (blk_kept (mK BK393.out) hkp (fun hs_ => (fun e_ => (Kd.R_ne HO_6.out BK393.out (by decide)) e_) hs_)); replace HO_6 := mS (Kd.R_reok rfl hy0 (fun k_ e_ => HO_6.out.1 k_ e_)); replace HB := mS (hb); (try clear hb); (try clear hkp); (try clear hy0)) | ((with_reducible refine gate_callee (f := 33) rfl ?_); refine goesL_ (some 48) rfl rfl Try.func33 (by kernel_rfl) rfl #[.slice Ao34 t406.length co34, .int .i64 1] rfl (by (try simp only [List.map_toArray, List.map_cons, List.map_nil]); first | done | (rw [show t406.length = t394.length from (Kd.R_reads' HO_6.out).1.symm] <;> rfl) | rfl | (simp only [List.length_drop, List.length_take]; rfl)) ?_; (with_reducible refine (laws_heldDotS.calls kj16 _ _ t406 1 t407 _ ?side1 ?side2 A49.out).mono ?_); (case side1 => exact mC (Kd.R_reads' HO_6.out).2.2); (case side2 => rw [show t406.length = t394.length from (Kd.R_reads' HO_6.out).1.symm]; exact (Kd.R_reads' HO_6.out).2.1); rintro e w' ⟨rfl, ⟨nd, rfl⟩⟩; refine ⟨_, rfl, ?_⟩; have hnb60 := NB382_393.out; have hnc60 := NB393_382.out; have hcz61_0 := mZ BK382.out 0; have hfz61_0 := blk_frozen BK382.out 0) | ((with_reducible refine gate_callee (f := 22) rfl ?_); refine mGo 55 Try.func22 #[.agg #[.slice A0_0 l0_0.length c0_0]] ?_; (with_reducible refine (laws_toGraph.calls kj16 _ _ l0_0 t408 _ ?side1 ?side2 A52.out).mono ?_); (case side1 => exact mC (Kd.C_below HR0_0.out (mH2 HB.out GE382.out GE393.out))); (case side2 => exact HC0_0.out); rintro e w62 ⟨v409, rfl, ho0, hb⟩; refine ⟨_, rfl, ?_⟩; obtain ⟨z63, hz63⟩ := MWords.mp_size hb; have HO410 := mS (Kd.S_lower (Kd.S_new' (Kd.S_new' (Kd.S_new' (MWords.mp_geS ho0 hz63) (Kd.R_lt (mR HO_4.out))) (Kd.R_lt (mR HO_6.out))) (Kd.S_lt (mSd HO_394000.out))) (below_size (mH2 HB.out GE382.out GE393.out))); replace HO_4 := mS (Kd.R_below (mR HO_4.out) hb); replace HO_6 := mS (Kd.R_below (mR HO_6.out) hb); replace HO_394000 := mS (MWords.mp_ltS (Kd.S_told (Kd.S_old (mSd HO_394000.out) hb) (Kd.S_base ho0)) hz63); replace BK382 := mB BK382 hb; replace BK393 := mB BK393 hb; replace HB := mS (below_step (mH2 HB.out GE382.out GE393.out) hb); (try clear hb); (try clear ho0); obtain ⟨Ao64, co64, eo64⟩ := Kd.S_slice HO410.out; subst eo64) | ((with_reducible refine gate_callee (f := 15) rfl ?_); refine mGo 56 Try.func15 #[.agg #[.slice Ao64 t408.length co64]] ?_; (with_reducible refine (impl_OrderOf.calls kj16 _ _ t408 t411 _ ?side1 ?side2 A53.out).mono ?_); (case side1 => exact mC (Kd.S_reads' HO410.out).2.2); (case side2 => exact (Kd.S_reads' HO410.out).2.1); rintro e w65 ⟨v412, rfl, ho0, hb⟩; refine ⟨_, rfl, ?_⟩; replace HO_394000 := mS (Kd.S_elder' (mSd HO_394000.out) (Kd.R_base ho0) hb); replace HO410 := mS (Kd.S_elder' (mSd HO410.out) (Kd.R_base ho0) hb); have HO413 := mS (Kd.R_lower (Kd.R_new' (Kd.R_new' ho0 (Kd.R_lt (mR HO_4.out))) (Kd.R_lt (mR HO_6.out))) (below_size (mH2 HB.out GE382.out GE393.out))); replace HO_4 := mS (Kd.R_elder' (mR HO_4.out) (Kd.R_base ho0) hb); replace HO_6 := mS (Kd.R_elder' (mR HO_6.out) (Kd.R_base ho0) hb); replace BK382 := mB BK382 hb; replace BK393 := mB BK393 hb; replace HB := mS (below_step (mH2 HB.out GE382.out GE393.out) hb); (try clear hb); (try clear ho0); obtain ⟨Ao66, co66, eo66⟩ := Kd.R_slice HO413.out; subst eo66) | ((with_reducible refine gate_callee (f := 31) rfl ?_); refine mGo 59 Try.func31 #[.slice Ao66 t411.length co66, .slice Ao35 t387.length co35] ?_; (with_reducible refine (laws_eqDotS.calls kj16 _ _ t411 _ _ t387 true _ ?side1 ?side2 ?side3 ?side4 A54.out).mono ?_); (case side1 => exact mC (Kd.R_reads' HO413.out).2.2); (case side2 => exact (Kd.R_reads' HO413.out).2.1); (case side3 => exact mC (Kd.R_reads' HO_4.out).2.2); (case side4 => exact (Kd.R_reads' HO_4.out).2.1); rintro e w67 ⟨rfl, hb⟩; refine ⟨_, rfl, ?_⟩; replace HO_4 := mS (Kd.R_below (mR HO_4.out) hb); replace HO_6 := mS (Kd.R_below (mR HO_6.out) hb); replace HO_394000 := mS (Kd.S_below (mSd HO_394000.out) hb); replace HO410 := mS (Kd.S_below (mSd HO410.out) hb); replace HO413 := mS (Kd.R_below (mR HO413.out) hb); replace BK382 := mB BK382 hb; replace BK393 := mB BK393 hb; replace HB := mS (below_step (mH2 HB.out GE382.out GE393.out) hb); (try clear hb)) | ((with_reducible refine gate_callee (f := 33) rfl ?_); refine goesL_ (some 63) rfl rfl Try.func33 (by kernel_rfl) rfl #[.slice Ao34 t406.length co34, .int .i64 1] rfl (by (try simp only [List.map_toArray, List.map_cons, List.map_nil]); first | done | (rw [show t406.length = t394.length from (Kd.R_reads' HO_6.out).1.symm] <;> rfl) | rfl | (simp only [List.length_drop, List.length_take]; rfl)) ?_; (with_reducible refine (laws_heldDotS.calls kj16 _ _ t406 1 t415 _ ?side1 ?side2 A56.out).mono ?_); (case side1 => exact mC (Kd.R_reads' HO_6.out).2.2); (case side2 => rw [show t406.length = t394.length from (Kd.R_reads' HO_6.out).1.symm]; exact (Kd.R_reads' HO_6.out).2.1); rintro e w' ⟨rfl, ⟨nd, rfl⟩⟩; refine ⟨_, rfl, ?_⟩))
            go_ret
            exact ⟨mEw, (mH2 HB.out GE382.out GE393.out)⟩
           ·rw [if_neg c58] at H
            have c58b0 : (t415 == t405) = false := beq_eq_false_iff_ne.mpr c58
            have c58b1 : (t415 != t405) = true := bne_iff_ne.mpr c58
            exact absurd ((Option.some.inj H).trans ht_) (by decide)
         ·replace c55 := Bool.eq_false_iff.mpr c55
          subst c55
          have H1 := H
          rw [if_neg (show ¬ (false = true) by decide)] at H1
          clear H
          have H := H1
          clear H1
          exact absurd ((Option.some.inj H).trans ht_) (by decide)
        ·rw [if_neg c51] at H
         have c51b0 : (t407 == t405) = false := beq_eq_false_iff_ne.mpr c51
         have c51b1 : (t407 != t405) = true := bne_iff_ne.mpr c51
         exact absurd ((Option.some.inj H).trans ht_) (by decide)
   ·replace c15 := Bool.eq_false_iff.mpr c15
    subst c15
    have H1 := H
    rw [if_neg (show ¬ (false = true) by decide)] at H1
    clear H
    have H := H1
    clear H1
    exact absurd ((Option.some.inj H).trans ht_) (by decide)
  ·replace c12 := Bool.eq_false_iff.mpr c12
   subst c12
   have H1 := H
   rw [if_neg (show ¬ (false = true) by decide)] at H1
   clear H
   have H := H1
   clear H1
   exact absurd ((Option.some.inj H).trans ht_) (by decide)

end Go.Proofs.Ytgbejjeephipeaa.MFnExactOrderOf
