-- Written by mp.py, this session's own printer (wip/mp.py).
import Derived.Test.YtgbejjeephipeaaVMShort
import Derived.Test.YtgbejjeephipeaaMFnExactGroupx0
import Derived.Test.YtgbejjeephipeaaMFnExactGroupx2
import Derived.Test.YtgbejjeephipeaaMFnExactGroupx3
import Derived.Test.YtgbejjeephipeaaMFnExactGroupx4
import Derived.Test.YtgbejjeephipeaaMFnExactGroupx8
import Derived.Test.YtgbejjeephipeaaMFnExactGroupx13
namespace Go.Proofs.Ytgbejjeephipeaa.MFnExactGroup
open Go.RowKit Go.Proofs.YtgbejjeephipeaaW.PrintWords Go.Proofs.YtgbejjeephipeaaW.PrintLast Go.Proofs.YtgbejjeephipeaaW.PrintMore Go.Proofs.Ytgbejjeephipeaa.MWords
attribute [local go_sem] max2_int min2_int max_two min_two max_three min_three max_four min_four   -- for this text's walks alone
set_option linter.unusedVariables false
set_option linter.unusedSimpArgs false

/-! ### laws_FnExactGroup: function 6 -/
def laws_FnExactGroup.j0 : Nat → List (S31) → List (S31) → Bool → List (S44) → Int → Int → Option (Bool)
 | 0, _, _, _, _, _, _ => none
 | k + 1, x6, x8, x48, x332000, x333000, x333001 => if x48 = true then (some false) else ((laws_markDotS.f k x8 1).bind fun bt359 => ((laws_heldDotS.f k bt359.2 1).bind fun t361 => (if t361 < 0 then (some false) else (if t361 = bt359.1 then ((laws_toGraph.f k x332000).bind fun t362 => ((laws_toDot.f x333000 x333001).bind fun bt365 => ((impl_Group.f k t362 bt365.1 bt365.2).bind fun t367 => ((laws_eqDotS.f k t367 x6).bind fun t370 => (if t370 = true then ((laws_heldDotS.f k bt359.2 1).bind fun t371 => (if t371 < 0 then (some false) else (if t371 = bt359.1 then (some true) else (some false)))) else (some false)))))) else (some false)))))
def laws_FnExactGroup.f (k : Nat) (l0_0 : List (S44)) (a1_0 : Int) (a1_1 : Int) : Option (Bool) := (laws_szGraph.f k l0_0 1048576).bind fun t333 => (if t333 < 0 then (some true) else ((laws_toGraph.f k l0_0).bind fun t334 => ((laws_toDot.f a1_0 a1_1).bind fun bt337 => ((spec_Group.f k t334 bt337.1 bt337.2).bind fun t339 => ((laws_toGraph.f k l0_0).bind fun t342 => ((laws_toDot.f a1_0 a1_1).bind fun bt346 => ((impl_Group.f k t342 bt346.1 bt346.2).bind fun t348 => ((laws_eqDotS.f k t348 t339).bind fun t351 => (if t351 = true then ((laws_toGraph.f k l0_0).bind fun t352 => ((laws_eqGraph.f k t342 t352).bind fun t355 => (if t355 = true then ((laws_markGraph.f k t342 1).bind fun bt356 => (if bt356.1 < 0 then (laws_FnExactGroup.j0 k t339 t348 true l0_0 a1_0 a1_1) else ((laws_eqDotS.f k t348 t339).bind fun t358 => (laws_FnExactGroup.j0 k t339 t348 (!t358) l0_0 a1_0 a1_1)))) else (some false)))) else (some false))))))))))
theorem laws_FnExactGroup.mono_l : ∀ k, (∀ y0 y1 y2 y3 y4 y5, LeO (laws_FnExactGroup.j0 k y0 y1 y2 y3 y4 y5) (laws_FnExactGroup.j0 (k + 1) y0 y1 y2 y3 y4 y5))
 | 0 => fun _ _ _ _ _ _ r h => by simp [laws_FnExactGroup.j0] at h
 | k + 1 => by
  have ih0 := laws_FnExactGroup.mono_l k
  ·intro y0 y1 y2 y3 y4 y5
   unfold laws_FnExactGroup.j0
   repeat' first
   | (with_reducible exact ih0 _ _ _ _ _ _)
   | (with_reducible exact impl_Group.mono _ _ _ _)
   | (with_reducible exact laws_eqDotS.mono _ _ _)
   | (with_reducible exact laws_eqGraph.mono _ _ _)
   | (with_reducible exact laws_heldDotS.mono _ _ _)
   | (with_reducible exact laws_markDotS.mono _ _ _)
   | (with_reducible exact laws_markGraph.mono _ _ _)
   | (with_reducible exact laws_szGraph.mono _ _ _)
   | (with_reducible exact laws_toGraph.mono _ _)
   | (with_reducible exact spec_Group.mono _ _ _ _)
   | (with_reducible exact LeO.refl _)
   | (with_reducible exact LeO.none _)
   | (with_reducible refine LeO.ite ?_ ?_)
   | (with_reducible refine LeO.bind ?_ (fun _ => ?_))
   | exact ih0 _ _ _ _ _ _
   | exact impl_Group.mono _ _ _ _
   | exact laws_eqDotS.mono _ _ _
   | exact laws_eqGraph.mono _ _ _
   | exact laws_heldDotS.mono _ _ _
   | exact laws_markDotS.mono _ _ _
   | exact laws_markGraph.mono _ _ _
   | exact laws_szGraph.mono _ _ _
   | exact laws_toGraph.mono _ _
   | exact spec_Group.mono _ _ _ _
   | exact LeO.none _
   | refine LeO.ite ?_ ?_
   | refine LeO.bind ?_ (fun _ => ?_)
theorem laws_FnExactGroup.mono : ∀ a0 a1 a2 k, LeO (laws_FnExactGroup.f k a0 a1 a2) (laws_FnExactGroup.f (k + 1) a0 a1 a2) := by
 intro a0 a1 a2 k
 have ih0 := laws_FnExactGroup.mono_l k
 unfold laws_FnExactGroup.f
 repeat' first
   | (with_reducible exact ih0 _ _ _ _ _ _)
   | (with_reducible exact impl_Group.mono _ _ _ _)
   | (with_reducible exact laws_eqDotS.mono _ _ _)
   | (with_reducible exact laws_eqGraph.mono _ _ _)
   | (with_reducible exact laws_heldDotS.mono _ _ _)
   | (with_reducible exact laws_markDotS.mono _ _ _)
   | (with_reducible exact laws_markGraph.mono _ _ _)
   | (with_reducible exact laws_szGraph.mono _ _ _)
   | (with_reducible exact laws_toGraph.mono _ _)
   | (with_reducible exact spec_Group.mono _ _ _ _)
   | (with_reducible exact LeO.refl _)
   | (with_reducible exact LeO.none _)
   | (with_reducible refine LeO.ite ?_ ?_)
   | (with_reducible refine LeO.bind ?_ (fun _ => ?_))
   | exact ih0 _ _ _ _ _ _
   | exact impl_Group.mono _ _ _ _
   | exact laws_eqDotS.mono _ _ _
   | exact laws_eqGraph.mono _ _ _
   | exact laws_heldDotS.mono _ _ _
   | exact laws_markDotS.mono _ _ _
   | exact laws_markGraph.mono _ _ _
   | exact laws_szGraph.mono _ _ _
   | exact laws_toGraph.mono _ _
   | exact spec_Group.mono _ _ _ _
   | exact LeO.none _
   | refine LeO.ite ?_ ?_
   | refine LeO.bind ?_ (fun _ => ?_)
set_option maxHeartbeats 8000000 in
set_option maxRecDepth 100000 in
theorem laws_FnExactGroup.calls (k : Nat) (A0_0 : Option Addr) (c0_0 : Nat) (l0_0 : List (S44)) (a1_0 : Int) (a1_1 : Int) (r : Bool) (w : World) (hr0_0 : Kd.C k44 w A0_0 l0_0.length l0_0) (hc0_0 : l0_0.length ≤ c0_0) (ht_ : r = true) (h : laws_FnExactGroup.f k l0_0 a1_0 a1_1 = some r) :
  Calls Try.prog 6 #[.agg #[.slice A0_0 l0_0.length c0_0], .agg #[.int .i64 a1_0, .int .i64 a1_1]] w fun e w' => e = .returned (.bool r) ∧ Below w.heap.size w w' := by
 have hu40 := Try.underlying40
 have hu41 := Try.underlying41
 have hu26 := Try.underlying26
 have HR0_0 := mS hr0_0
 have HC0_0 := mS hc0_0
 clear hr0_0 hc0_0
 have HB := mS (Below.refl w.heap.size w)
 have H : ((laws_szGraph.f k l0_0 1048576).bind fun t333 => (if t333 < 0 then (some true) else ((laws_toGraph.f k l0_0).bind fun t334 => ((laws_toDot.f a1_0 a1_1).bind fun bt337 => ((spec_Group.f k t334 bt337.1 bt337.2).bind fun t339 => ((laws_toGraph.f k l0_0).bind fun t342 => ((laws_toDot.f a1_0 a1_1).bind fun bt346 => ((impl_Group.f k t342 bt346.1 bt346.2).bind fun t348 => ((laws_eqDotS.f k t348 t339).bind fun t351 => (if t351 = true then ((laws_toGraph.f k l0_0).bind fun t352 => ((laws_eqGraph.f k t342 t352).bind fun t355 => (if t355 = true then ((laws_markGraph.f k t342 1).bind fun bt356 => (if bt356.1 < 0 then (laws_FnExactGroup.j0 k t339 t348 true l0_0 a1_0 a1_1) else ((laws_eqDotS.f k t348 t339).bind fun t358 => (laws_FnExactGroup.j0 k t339 t348 (!t358) l0_0 a1_0 a1_1)))) else (some false)))) else (some false))))))))))) = some r := h
 clear h
 replace H := Option.bind_eq_some_iff.mp H
 obtain ⟨t333, A30, H⟩ := H
 replace H : (if t333 < 0 then (some true) else ((laws_toGraph.f k l0_0).bind fun t334 => ((laws_toDot.f a1_0 a1_1).bind fun bt337 => ((spec_Group.f k t334 bt337.1 bt337.2).bind fun t339 => ((laws_toGraph.f k l0_0).bind fun t342 => ((laws_toDot.f a1_0 a1_1).bind fun bt346 => ((impl_Group.f k t342 bt346.1 bt346.2).bind fun t348 => ((laws_eqDotS.f k t348 t339).bind fun t351 => (if t351 = true then ((laws_toGraph.f k l0_0).bind fun t352 => ((laws_eqGraph.f k t342 t352).bind fun t355 => (if t355 = true then ((laws_markGraph.f k t342 1).bind fun bt356 => (if bt356.1 < 0 then (laws_FnExactGroup.j0 k t339 t348 true l0_0 a1_0 a1_1) else ((laws_eqDotS.f k t348 t339).bind fun t358 => (laws_FnExactGroup.j0 k t339 t348 (!t358) l0_0 a1_0 a1_1)))) else (some false)))) else (some false)))))))))) = some r := H
 have A3 := mS A30
 clear A30
 by_cases c4 : t333 < 0
 ·rw [if_pos c4] at H
  have c4b0 := decide_eq_true c4
  clear c4
  obtain rfl := Option.some.inj H
  go_enter Try.func6, Try.ntmps6
  go_wp2_with (first | ((with_reducible refine gate_dst (N := 2) rfl ?_); refine mBx 2 #[.slice A0_0 l0_0.length c0_0] 40 ?_; intro gb331 hg w5 hbox hb; have BK331 := mS (hbox); have GW331 := mG hg (mH HB.out); have GE331 := mG hg (mH HB.out); replace HB := mS (below_step (mH HB.out) hb); clear hb hbox hg) | ((with_reducible refine gate_dst (N := 3) rfl ?_); refine mBx 3 #[.int .i64 a1_0, .int .i64 a1_1] 41 ?_; intro gb332 hg w6 hbox hb; have BK332 := mS (hbox); have GW332 := mG hg (mH1 HB.out GE331.out); have GE332 := mG hg (mH1 HB.out GE331.out); replace HB := mS (below_step (mH1 HB.out GE331.out) hb); have NB331_332 := mNl hg BK331.out; have NB332_331 := mNg hg BK331.out; replace BK331 := mB BK331 hb; clear hb hbox hg; have hnb7 := NB331_332.out; have hnc7 := NB332_331.out; have hcz8_0 := mZ BK331.out 0; have hfz8_0 := blk_frozen BK331.out 0) | ((with_reducible refine gate_callee (f := 19) rfl ?_); refine mGo 15 Try.func19 #[.agg #[.slice A0_0 l0_0.length c0_0], .int .i64 1048576] ?_; (with_reducible refine (laws_szGraph.calls k _ _ l0_0 1048576 t333 _ ?side1 ?side2 A3.out).mono ?_); (case side1 => exact mC (Kd.C_below HR0_0.out HB.out)); (case side2 => exact HC0_0.out); rintro e w9 ⟨rfl, hb⟩; refine ⟨_, rfl, ?_⟩; replace BK331 := mB BK331 hb; replace BK332 := mB BK332 hb; replace HB := mS (below_step (mH2 HB.out GE331.out GE332.out) hb); (try clear hb)))
  go_ret
  exact ⟨mEw, (mH2 HB.out GE331.out GE332.out)⟩
 ·rw [if_neg c4] at H
  have c4b0 := decide_eq_false c4
  clear c4
  replace H := Option.bind_eq_some_iff.mp H
  obtain ⟨t334, A100, H⟩ := H
  replace H : ((laws_toDot.f a1_0 a1_1).bind fun bt337 => ((spec_Group.f k t334 bt337.1 bt337.2).bind fun t339 => ((laws_toGraph.f k l0_0).bind fun t342 => ((laws_toDot.f a1_0 a1_1).bind fun bt346 => ((impl_Group.f k t342 bt346.1 bt346.2).bind fun t348 => ((laws_eqDotS.f k t348 t339).bind fun t351 => (if t351 = true then ((laws_toGraph.f k l0_0).bind fun t352 => ((laws_eqGraph.f k t342 t352).bind fun t355 => (if t355 = true then ((laws_markGraph.f k t342 1).bind fun bt356 => (if bt356.1 < 0 then (laws_FnExactGroup.j0 k t339 t348 true l0_0 a1_0 a1_1) else ((laws_eqDotS.f k t348 t339).bind fun t358 => (laws_FnExactGroup.j0 k t339 t348 (!t358) l0_0 a1_0 a1_1)))) else (some false)))) else (some false)))))))) = some r := H
  have A10 := mS A100
  clear A100
  replace H := Option.bind_eq_some_iff.mp H
  obtain ⟨⟨t337, t338⟩, A110, H⟩ := H
  replace H : ((spec_Group.f k t334 t337 t338).bind fun t339 => ((laws_toGraph.f k l0_0).bind fun t342 => ((laws_toDot.f a1_0 a1_1).bind fun bt346 => ((impl_Group.f k t342 bt346.1 bt346.2).bind fun t348 => ((laws_eqDotS.f k t348 t339).bind fun t351 => (if t351 = true then ((laws_toGraph.f k l0_0).bind fun t352 => ((laws_eqGraph.f k t342 t352).bind fun t355 => (if t355 = true then ((laws_markGraph.f k t342 1).bind fun bt356 => (if bt356.1 < 0 then (laws_FnExactGroup.j0 k t339 t348 true l0_0 a1_0 a1_1) else ((laws_eqDotS.f k t348 t339).bind fun t358 => (laws_FnExactGroup.j0 k t339 t348 (!t358) l0_0 a1_0 a1_1)))) else (some false)))) else (some false))))))) = some r := H
  have A11 := mS A110
  clear A110
  replace H := Option.bind_eq_some_iff.mp H
  obtain ⟨t339, A120, H⟩ := H
  replace H : ((laws_toGraph.f k l0_0).bind fun t342 => ((laws_toDot.f a1_0 a1_1).bind fun bt346 => ((impl_Group.f k t342 bt346.1 bt346.2).bind fun t348 => ((laws_eqDotS.f k t348 t339).bind fun t351 => (if t351 = true then ((laws_toGraph.f k l0_0).bind fun t352 => ((laws_eqGraph.f k t342 t352).bind fun t355 => (if t355 = true then ((laws_markGraph.f k t342 1).bind fun bt356 => (if bt356.1 < 0 then (laws_FnExactGroup.j0 k t339 t348 true l0_0 a1_0 a1_1) else ((laws_eqDotS.f k t348 t339).bind fun t358 => (laws_FnExactGroup.j0 k t339 t348 (!t358) l0_0 a1_0 a1_1)))) else (some false)))) else (some false)))))) = some r := H
  have A12 := mS A120
  clear A120
  replace H := Option.bind_eq_some_iff.mp H
  obtain ⟨t342, A130, H⟩ := H
  replace H : ((laws_toDot.f a1_0 a1_1).bind fun bt346 => ((impl_Group.f k t342 bt346.1 bt346.2).bind fun t348 => ((laws_eqDotS.f k t348 t339).bind fun t351 => (if t351 = true then ((laws_toGraph.f k l0_0).bind fun t352 => ((laws_eqGraph.f k t342 t352).bind fun t355 => (if t355 = true then ((laws_markGraph.f k t342 1).bind fun bt356 => (if bt356.1 < 0 then (laws_FnExactGroup.j0 k t339 t348 true l0_0 a1_0 a1_1) else ((laws_eqDotS.f k t348 t339).bind fun t358 => (laws_FnExactGroup.j0 k t339 t348 (!t358) l0_0 a1_0 a1_1)))) else (some false)))) else (some false))))) = some r := H
  have A13 := mS A130
  clear A130
  replace H := Option.bind_eq_some_iff.mp H
  obtain ⟨⟨t346, t347⟩, A140, H⟩ := H
  replace H : ((impl_Group.f k t342 t346 t347).bind fun t348 => ((laws_eqDotS.f k t348 t339).bind fun t351 => (if t351 = true then ((laws_toGraph.f k l0_0).bind fun t352 => ((laws_eqGraph.f k t342 t352).bind fun t355 => (if t355 = true then ((laws_markGraph.f k t342 1).bind fun bt356 => (if bt356.1 < 0 then (laws_FnExactGroup.j0 k t339 t348 true l0_0 a1_0 a1_1) else ((laws_eqDotS.f k t348 t339).bind fun t358 => (laws_FnExactGroup.j0 k t339 t348 (!t358) l0_0 a1_0 a1_1)))) else (some false)))) else (some false)))) = some r := H
  have A14 := mS A140
  clear A140
  replace H := Option.bind_eq_some_iff.mp H
  obtain ⟨t348, A150, H⟩ := H
  replace H : ((laws_eqDotS.f k t348 t339).bind fun t351 => (if t351 = true then ((laws_toGraph.f k l0_0).bind fun t352 => ((laws_eqGraph.f k t342 t352).bind fun t355 => (if t355 = true then ((laws_markGraph.f k t342 1).bind fun bt356 => (if bt356.1 < 0 then (laws_FnExactGroup.j0 k t339 t348 true l0_0 a1_0 a1_1) else ((laws_eqDotS.f k t348 t339).bind fun t358 => (laws_FnExactGroup.j0 k t339 t348 (!t358) l0_0 a1_0 a1_1)))) else (some false)))) else (some false))) = some r := H
  have A15 := mS A150
  clear A150
  replace H := Option.bind_eq_some_iff.mp H
  obtain ⟨t351, A160, H⟩ := H
  replace H : (if t351 = true then ((laws_toGraph.f k l0_0).bind fun t352 => ((laws_eqGraph.f k t342 t352).bind fun t355 => (if t355 = true then ((laws_markGraph.f k t342 1).bind fun bt356 => (if bt356.1 < 0 then (laws_FnExactGroup.j0 k t339 t348 true l0_0 a1_0 a1_1) else ((laws_eqDotS.f k t348 t339).bind fun t358 => (laws_FnExactGroup.j0 k t339 t348 (!t358) l0_0 a1_0 a1_1)))) else (some false)))) else (some false)) = some r := H
  have A16 := mS A160
  clear A160
  by_cases c17 : t351 = true
  ·subst c17
   have H1 := H
   rw [if_pos rfl] at H1
   clear H
   have H := H1
   clear H1
   replace H := Option.bind_eq_some_iff.mp H
   obtain ⟨t352, A180, H⟩ := H
   replace H : ((laws_eqGraph.f k t342 t352).bind fun t355 => (if t355 = true then ((laws_markGraph.f k t342 1).bind fun bt356 => (if bt356.1 < 0 then (laws_FnExactGroup.j0 k t339 t348 true l0_0 a1_0 a1_1) else ((laws_eqDotS.f k t348 t339).bind fun t358 => (laws_FnExactGroup.j0 k t339 t348 (!t358) l0_0 a1_0 a1_1)))) else (some false))) = some r := H
   have A18 := mS A180
   clear A180
   replace H := Option.bind_eq_some_iff.mp H
   obtain ⟨t355, A190, H⟩ := H
   replace H : (if t355 = true then ((laws_markGraph.f k t342 1).bind fun bt356 => (if bt356.1 < 0 then (laws_FnExactGroup.j0 k t339 t348 true l0_0 a1_0 a1_1) else ((laws_eqDotS.f k t348 t339).bind fun t358 => (laws_FnExactGroup.j0 k t339 t348 (!t358) l0_0 a1_0 a1_1)))) else (some false)) = some r := H
   have A19 := mS A190
   clear A190
   by_cases c20 : t355 = true
   ·subst c20
    have H1 := H
    rw [if_pos rfl] at H1
    clear H
    have H := H1
    clear H1
    replace H := Option.bind_eq_some_iff.mp H
    obtain ⟨⟨t356, t357⟩, A210, H⟩ := H
    replace H : (if t356 < 0 then (laws_FnExactGroup.j0 k t339 t348 true l0_0 a1_0 a1_1) else ((laws_eqDotS.f k t348 t339).bind fun t358 => (laws_FnExactGroup.j0 k t339 t348 (!t358) l0_0 a1_0 a1_1))) = some r := H
    have A21 := mS A210
    clear A210
    have HC22 := mS H
    clear H
    go_enter Try.func6, Try.ntmps6
    try go_wp2_with (first | ((with_reducible refine gate_dst (N := 2) rfl ?_); refine mBx 2 #[.slice A0_0 l0_0.length c0_0] 40 ?_; intro gb331 hg w23 hbox hb; have BK331 := mS (hbox); have GW331 := mG hg (mH HB.out); have GE331 := mG hg (mH HB.out); replace HB := mS (below_step (mH HB.out) hb); clear hb hbox hg) | ((with_reducible refine gate_dst (N := 3) rfl ?_); refine mBx 3 #[.int .i64 a1_0, .int .i64 a1_1] 41 ?_; intro gb332 hg w24 hbox hb; have BK332 := mS (hbox); have GW332 := mG hg (mH1 HB.out GE331.out); have GE332 := mG hg (mH1 HB.out GE331.out); replace HB := mS (below_step (mH1 HB.out GE331.out) hb); have NB331_332 := mNl hg BK331.out; have NB332_331 := mNg hg BK331.out; replace BK331 := mB BK331 hb; clear hb hbox hg; have hnb25 := NB331_332.out; have hnc25 := NB332_331.out; have hcz26_0 := mZ BK331.out 0; have hfz26_0 := blk_frozen BK331.out 0) | ((with_reducible refine gate_callee (f := 19) rfl ?_); refine mGo 15 Try.func19 #[.agg #[.slice A0_0 l0_0.length c0_0], .int .i64 1048576] ?_; (with_reducible refine (laws_szGraph.calls k _ _ l0_0 1048576 t333 _ ?side1 ?side2 A3.out).mono ?_); (case side1 => exact mC (Kd.C_below HR0_0.out HB.out)); (case side2 => exact HC0_0.out); rintro e w27 ⟨rfl, hb⟩; refine ⟨_, rfl, ?_⟩; replace BK331 := mB BK331 hb; replace BK332 := mB BK332 hb; replace HB := mS (below_step (mH2 HB.out GE331.out GE332.out) hb); (try clear hb)))
    replace BK331 := mS (blk_drew BK331.out)
    replace BK332 := mS (blk_drew BK332.out)
    replace HB := mS (below_drew1 HB.out)
    refine start_ (n := 6) (S := fun w' => w'.cell? ⟨gb331, 0, none⟩ = some (.slice A0_0 l0_0.length c0_0) ∧ w'.cell? ⟨gb332, 0, none⟩ = some (.int .i64 a1_0) ∧ w'.cell? ⟨gb332, 1, none⟩ = some (.int .i64 a1_1)) (ds := []) (mb 0 6) (by kernel_rfl) rfl rfl ⟨mZ BK331.out 0, mc2 BK332.out⟩ (fun hHeld => ?_)
    generalize w27.drew = w28 at BK331 BK332 HB hHeld ⊢
    refine take_ (i := 0) (N := some 18) (v := ?_) (a' := ?_) (mb 1 5) rfl rfl (by kernel_rfl) (fun _ _ _ h => h) (Or.inl ⟨by rfl, ?_⟩) hHeld ?_ ?_
    rotate_left
    ·rintro w' ⟨s0, s1, s2⟩
     go_simp
     with_reducible rfl
    rotate_left
    ·simp only [Act.put, zA, zB, zC, i64_w, i32_w]
     rfl
    refine take_ (i := 2) (N := some 20) (v := ?_) (a' := ?_) (mr [1,1,1,3]) rfl rfl (by kernel_rfl) (fun _ _ _ h => h) (Or.inl ⟨by rfl, ?_⟩) hHeld ?_ ?_
    rotate_left
    ·rintro w' ⟨s0, s1, s2⟩
     go_simp
     with_reducible rfl
    rotate_left
    ·simp only [Act.put, zA, zB, zC, i64_w, i32_w]
     rfl
    refine one_ (i := 1) (N := some 19) (mb 3 3) rfl rfl (by kernel_rfl) (by decide) (fun K hK => ?_)
    refine goes_ Try.func22 (by kernel_rfl) rfl #[.agg #[.slice A0_0 l0_0.length c0_0]] (by rfl) rfl rfl mA ?_
    with_reducible refine (laws_toGraph.calls k _ _ l0_0 t334 _ ?side1 ?side2 A10.out).mono ?_
    (case side1 => exact mC (Kd.C_below HR0_0.out HB.out))
    (case side2 => exact HC0_0.out)
    rintro e w29 ⟨v335, rfl, ho0, hb⟩
    refine ⟨_, rfl, ?_⟩
    obtain ⟨z30, hz30⟩ := MWords.mp_size hb
    have HO336 := mS (Kd.S_lower (MWords.mp_geS ho0 hz30) (below_size (mH2 HB.out GE331.out GE332.out)))
    replace BK331 := mB BK331 hb
    replace BK332 := mB BK332 hb
    replace HB := mS (below_step (mH2 HB.out GE331.out GE332.out) hb)
    (try clear hb)
    (try clear hb2)
    (try clear hk)
    (try clear hi)
    (try clear ho0)
    refine hK.out _ _ ⟨mZ BK331.out 0, mc2 BK332.out⟩ (fun hHeld => ?_)
    clear hK K
    refine mno 19 ?_
    refine one_ (i := 3) (N := some 21) (mb 4 2) rfl rfl (by kernel_rfl) (by decide) (fun K hK => ?_)
    refine goes_ Try.func35 (by kernel_rfl) rfl #[.agg #[.int .i64 a1_0, .int .i64 a1_1]] (by rfl) rfl rfl mA ?_
    with_reducible refine (laws_toDot.calls a1_0 a1_1 t337 t338 _ A11.out).mono ?_
    rintro e w31 ⟨rfl, hb⟩
    refine ⟨_, rfl, ?_⟩
    replace HO336 := mS (Kd.S_below (mSd HO336.out) hb)
    replace BK331 := mB BK331 hb
    replace BK332 := mB BK332 hb
    replace HB := mS (below_step (mH2 HB.out GE331.out GE332.out) hb)
    (try clear hb)
    (try clear hb2)
    (try clear hk)
    (try clear hi)
    obtain ⟨Ao32, co32, eo32⟩ := Kd.S_slice HO336.out
    (first | subst eo32 | (injection eo32 with f1_ f2_ f3_; have f4_ := f1_.symm; have f5_ := f3_.symm; clear f1_ f2_ f3_; subst f4_; subst f5_))
    refine hK.out _ _ ⟨mZ BK331.out 0, mc2 BK332.out⟩ (fun hHeld => ?_)
    clear hK K
    refine mno 21 ?_
    refine one_ (i := 4) (N := some 22) (mb 5 1) rfl rfl (by kernel_rfl) (by decide) (fun K hK => ?_)
    refine goes_ Try.func34 (by kernel_rfl) rfl #[.agg #[.slice Ao32 t334.length co32], .agg #[.int .i64 t337, .int .i64 t338]] (by rfl) rfl rfl mA ?_
    with_reducible refine (spec_Group.calls k _ _ t334 t337 t338 t339 _ ?side1 ?side2 A12.out).mono ?_
    (case side1 => exact mC (Kd.S_reads' HO336.out).2.2)
    (case side2 => exact (Kd.S_reads' HO336.out).2.1)
    rintro e w33 ⟨v340, rfl, ho0, hb⟩
    refine ⟨_, rfl, ?_⟩
    replace HO336 := mS (Kd.S_elder' (mSd HO336.out) (Kd.R_base ho0) hb)
    have HO341 := mS (Kd.R_lower ho0 (below_size (mH2 HB.out GE331.out GE332.out)))
    replace BK331 := mB BK331 hb
    replace BK332 := mB BK332 hb
    replace HB := mS (below_step (mH2 HB.out GE331.out GE332.out) hb)
    (try clear hb)
    (try clear hb2)
    (try clear hk)
    (try clear hi)
    (try clear ho0)
    refine hK.out _ _ ⟨mZ BK331.out 0, mc2 BK332.out⟩ (fun hHeld => ?_)
    clear hK K
    refine mno 22 ?_
    refine pure_ (i := 5) (N := some 6) (v := ?_) (a' := ?_) (mb 6 0) rfl rfl (by kernel_rfl) (fun _ _ _ h => h) (Or.inl ⟨by rfl, ?_⟩) ?_ ?_
    rotate_left
    ·intro w'
     go_simp
     with_reducible rfl
    rotate_left
    ·simp only [Act.put, zA, zB, zC, i64_w, i32_w]
     rfl
    refine done_ (by kernel_rfl) ?_
    have hcz34_0 := mZ BK331.out 0
    have hfz34_0 := blk_frozen BK331.out 0
    try go_wp2_with (first | ((with_reducible refine gate_callee (f := 22) rfl ?_); refine mGo 24 Try.func22 #[.agg #[.slice A0_0 l0_0.length c0_0]] ?_; (with_reducible refine (laws_toGraph.calls k _ _ l0_0 t342 _ ?side1 ?side2 A13.out).mono ?_); (case side1 => exact mC (Kd.C_below HR0_0.out HB.out)); (case side2 => exact HC0_0.out); rintro e w35 ⟨v343, rfl, ho0, hb⟩; refine ⟨_, rfl, ?_⟩; obtain ⟨z36, hz36⟩ := MWords.mp_size hb; have HO344 := mS (Kd.S_lower (Kd.S_new' (Kd.S_new' (MWords.mp_geS ho0 hz36) (Kd.S_lt (mSd HO336.out))) (Kd.R_lt (mR HO341.out))) (below_size (mH2 HB.out GE331.out GE332.out))); replace HO336 := mS (MWords.mp_ltS (Kd.S_told (Kd.S_old (mSd HO336.out) hb) (Kd.S_base ho0)) hz36); replace HO341 := mS (Kd.R_below (mR HO341.out) hb); replace BK331 := mB BK331 hb; replace BK332 := mB BK332 hb; replace HB := mS (below_step (mH2 HB.out GE331.out GE332.out) hb); (try clear hb); (try clear ho0)) | ((with_reducible refine gate_dst (N := 7) rfl ?_); refine mBx 7 #[.slice none 0 0] 26 ?_; intro gb345 hg w37 hbox hb; replace HO336 := mS (Kd.S_below (mSd HO336.out) hb); replace HO341 := mS (Kd.R_below (mR HO341.out) hb); replace HO344 := mS (Kd.S_below (mSd HO344.out) hb); have BK345 := mS (hbox); have GW345 := mG hg (mH2 HB.out GE331.out GE332.out); have GE345 := mG hg (mH2 HB.out GE331.out GE332.out); replace HB := mS (below_step (mH2 HB.out GE331.out GE332.out) hb); have NB331_345 := mNl hg BK331.out; have NB345_331 := mNg hg BK331.out; replace BK331 := mB BK331 hb; have NB332_345 := mNl hg BK332.out; have NB345_332 := mNg hg BK332.out; replace BK332 := mB BK332 hb; clear hb hbox hg; obtain ⟨Ao38, co38, eo38⟩ := Kd.S_slice HO344.out; subst eo38; have hnb39 := NB345_331.out; have hnc39 := NB331_345.out; have hnb40 := NB345_332.out; have hnc40 := NB332_345.out; have hcz41_0 := mZ BK345.out 0; have hfz41_0 := blk_frozen BK345.out 0))
    generalize hW_ : (w37.setCell ⟨gb345, 0, none⟩ (.slice Ao38 t342.length co38)) = w42
    replace HO336 : Aside0 (Kd.S k33 33 w42 w.heap.size (fun k_ => some k_ ≠ (v340 : Value).ownBlock ∧ some k_ ≠ (.slice Ao38 t342.length co38 : Value).ownBlock ∧ z30 ≤ k_ ∧ k_ < z36) (.slice Ao32 t334.length co32) t334) := by rw [← hW_]; exact ⟨by refine mSd ?_; exact Kd.S_mono (Kd.S_far (p := ⟨gb345, 0, none⟩) (Kd.S_types HO336.out BK345.out (by decide)) (fun _ hk => hk.2) (.slice Ao38 t342.length co38)) (fun _ hk => ⟨hk.1.1.1.2, ⟨hk.1.1.2, ⟨hk.1.1.1.1.2, hk.1.2⟩⟩⟩)⟩
    replace HO341 : Aside0 (Kd.R k31 31 w42 w.heap.size (fun _ => True) v340 t339) := by rw [← hW_]; exact ⟨by refine mR ?_; exact Kd.R_mono (Kd.R_far (p := ⟨gb345, 0, none⟩) (Kd.R_types HO341.out BK345.out (by decide)) (fun _ hk => hk.2) (.slice Ao38 t342.length co38)) (fun _ hk => trivial)⟩
    replace HO344 : Aside0 (Kd.S k33 33 w42 w.heap.size (fun k_ => some k_ ≠ (.slice Ao32 t334.length co32 : Value).ownBlock ∧ some k_ ≠ (v340 : Value).ownBlock ∧ z36 ≤ k_) (.slice Ao38 t342.length co38) t342) := by rw [← hW_]; exact ⟨by refine mSd ?_; exact Kd.S_mono (Kd.S_far (p := ⟨gb345, 0, none⟩) (Kd.S_types HO344.out BK345.out (by decide)) (fun _ hk => hk.2) (.slice Ao38 t342.length co38)) (fun _ hk => ⟨hk.1.1.2, ⟨hk.1.2, hk.1.1.1.2⟩⟩)⟩
    replace BK331 : Aside0 (w42.heap[gb331]? = some (.cells #[.slice A0_0 l0_0.length c0_0] 40 (0, 0))) := by rw [← hW_]; exact ⟨mKf NB331_345.out BK331.out⟩
    replace BK332 : Aside0 (w42.heap[gb332]? = some (.cells #[.int .i64 a1_0, .int .i64 a1_1] 41 (0, 0))) := by rw [← hW_]; exact ⟨mKf NB332_345.out BK332.out⟩
    replace BK345 : Aside0 (w42.heap[gb345]? = some (.cells #[.slice Ao38 t342.length co38] 26 (0, 0))) := by rw [← hW_]; exact ⟨by refine mK ?_; refine blk_put (cs := #[.slice none 0 0]) ?_ 0 _ rfl; refine mK ?_; exact BK345.out⟩
    replace HB : Aside0 (Below w.heap.size w w42) := by rw [← hW_]; exact ⟨(mH3 HB.out GE331.out GE332.out GE345.out)⟩
    clear hW_
    replace HO336 := mS (Kd.S_drew HO336.out)
    replace HO341 := mS (Kd.R_drew HO341.out)
    replace HO344 := mS (Kd.S_drew HO344.out)
    replace BK331 := mS (blk_drew BK331.out)
    replace BK332 := mS (blk_drew BK332.out)
    replace BK345 := mS (blk_drew BK345.out)
    replace HB := mS (below_drew1 HB.out)
    refine start_ (n := 5) (S := fun w' => w'.cell? ⟨gb345, 0, none⟩ = some (.slice Ao38 t342.length co38) ∧ w'.cell? ⟨gb332, 0, none⟩ = some (.int .i64 a1_0) ∧ w'.cell? ⟨gb332, 1, none⟩ = some (.int .i64 a1_1)) (ds := []) (mb 0 5) (by kernel_rfl) rfl rfl ⟨mZ BK345.out 0, mc2 BK332.out⟩ (fun hHeld => ?_)
    generalize w42.drew = w43 at HO336 HO341 HO344 BK331 BK332 BK345 HB hHeld ⊢
    refine take_ (i := 0) (N := some 25) (v := ?_) (a' := ?_) (mb 1 4) rfl rfl (by kernel_rfl) (fun _ _ _ h => h) (Or.inl ⟨by rfl, ?_⟩) hHeld ?_ ?_
    rotate_left
    ·rintro w' ⟨s0, s1, s2⟩
     go_simp
     with_reducible rfl
    rotate_left
    ·simp only [Act.put, zA, zB, zC, i64_w, i32_w]
     rfl
    refine take_ (i := 1) (N := some 26) (v := ?_) (a' := ?_) (mb 2 3) rfl rfl (by kernel_rfl) (fun _ _ _ h => h) (Or.inl ⟨by rfl, ?_⟩) hHeld ?_ ?_
    rotate_left
    ·rintro w' ⟨s0, s1, s2⟩
     go_simp
     with_reducible rfl
    rotate_left
    ·simp only [Act.put, zA, zB, zC, i64_w, i32_w]
     rfl
    refine one_ (i := 2) (N := some 27) (mb 3 2) rfl rfl (by kernel_rfl) (by decide) (fun K hK => ?_)
    refine goes_ Try.func35 (by kernel_rfl) rfl #[.agg #[.int .i64 a1_0, .int .i64 a1_1]] (by rfl) rfl rfl mA ?_
    with_reducible refine (laws_toDot.calls a1_0 a1_1 t346 t347 _ A14.out).mono ?_
    rintro e w44 ⟨rfl, hb⟩
    refine ⟨_, rfl, ?_⟩
    replace HO336 := mS (Kd.S_below (mSd HO336.out) hb)
    replace HO341 := mS (Kd.R_below (mR HO341.out) hb)
    replace HO344 := mS (Kd.S_below (mSd HO344.out) hb)
    replace BK331 := mB BK331 hb
    replace BK332 := mB BK332 hb
    replace BK345 := mB BK345 hb
    replace HB := mS (below_step (mH3 HB.out GE331.out GE332.out GE345.out) hb)
    (try clear hb)
    (try clear hb2)
    (try clear hk)
    (try clear hi)
    refine hK.out _ _ ⟨mZ BK345.out 0, mc2 BK332.out⟩ (fun hHeld => ?_)
    clear hK K
    refine mno 27 ?_
    refine one_ (i := 3) (N := some 28) (mb 4 1) rfl rfl (by kernel_rfl) (by decide) (fun K hK => ?_)
    refine goes_ Try.func36 (by kernel_rfl) rfl #[.agg #[.slice Ao38 t342.length co38], .agg #[.int .i64 t346, .int .i64 t347]] (by rfl) rfl rfl mA ?_
    with_reducible refine (impl_Group.calls k _ _ t342 t346 t347 t348 _ ?side1 ?side2 A15.out).mono ?_
    (case side1 => exact mC (Kd.S_reads' HO344.out).2.2)
    (case side2 => exact (Kd.S_reads' HO344.out).2.1)
    rintro e w45 ⟨v349, rfl, ho0, hb⟩
    refine ⟨_, rfl, ?_⟩
    replace HO336 := mS (Kd.S_elder' (mSd HO336.out) (Kd.R_base ho0) hb)
    replace HO344 := mS (Kd.S_elder' (mSd HO344.out) (Kd.R_base ho0) hb)
    have HO350 := mS (Kd.R_lower (Kd.R_new' ho0 (Kd.R_lt (mR HO341.out))) (below_size (mH3 HB.out GE331.out GE332.out GE345.out)))
    replace HO341 := mS (Kd.R_elder' (mR HO341.out) (Kd.R_base ho0) hb)
    replace BK331 := mB BK331 hb
    replace BK332 := mB BK332 hb
    replace BK345 := mB BK345 hb
    replace HB := mS (below_step (mH3 HB.out GE331.out GE332.out GE345.out) hb)
    (try clear hb)
    (try clear hb2)
    (try clear hk)
    (try clear hi)
    (try clear ho0)
    refine hK.out _ _ ⟨mZ BK345.out 0, mc2 BK332.out⟩ (fun hHeld => ?_)
    clear hK K
    refine mno 28 ?_
    refine pure_ (i := 4) (N := some 8) (v := ?_) (a' := ?_) (mb 5 0) rfl rfl (by kernel_rfl) (fun _ _ _ h => h) (Or.inl ⟨by rfl, ?_⟩) ?_ ?_
    rotate_left
    ·intro w'
     go_simp
     with_reducible rfl
    rotate_left
    ·simp only [Act.put, zA, zB, zC, i64_w, i32_w]
     rfl
    refine done_ (by kernel_rfl) ?_
    obtain ⟨Ao46, co46, eo46⟩ := Kd.R_slice HO350.out
    subst eo46
    obtain ⟨Ao47, co47, eo47⟩ := Kd.R_slice HO341.out
    subst eo47
    try go_wp2_with (first | ((with_reducible refine gate_callee (f := 31) rfl ?_); refine mGo 31 Try.func31 #[.slice Ao46 t348.length co46, .slice Ao47 t339.length co47] ?_; (with_reducible refine (laws_eqDotS.calls k _ _ t348 _ _ t339 true _ ?side1 ?side2 ?side3 ?side4 A16.out).mono ?_); (case side1 => exact mC (Kd.R_reads' HO350.out).2.2); (case side2 => exact (Kd.R_reads' HO350.out).2.1); (case side3 => exact mC (Kd.R_reads' HO341.out).2.2); (case side4 => exact (Kd.R_reads' HO341.out).2.1); rintro e w48 ⟨rfl, hb⟩; refine ⟨_, rfl, ?_⟩; replace HO336 := mS (Kd.S_below (mSd HO336.out) hb); replace HO341 := mS (Kd.R_below (mR HO341.out) hb); replace HO344 := mS (Kd.S_below (mSd HO344.out) hb); replace HO350 := mS (Kd.R_below (mR HO350.out) hb); replace BK331 := mB BK331 hb; replace BK332 := mB BK332 hb; replace BK345 := mB BK345 hb; replace HB := mS (below_step (mH3 HB.out GE331.out GE332.out GE345.out) hb); (try clear hb)))
    replace HO336 := mS (Kd.S_drew HO336.out)
    replace HO341 := mS (Kd.R_drew HO341.out)
    replace HO344 := mS (Kd.S_drew HO344.out)
    replace HO350 := mS (Kd.R_drew HO350.out)
    replace BK331 := mS (blk_drew BK331.out)
    replace BK332 := mS (blk_drew BK332.out)
    replace BK345 := mS (blk_drew BK345.out)
    replace HB := mS (below_drew1 HB.out)
    refine start_ (n := 5) (S := fun w' => w'.cell? ⟨gb345, 0, none⟩ = some (.slice Ao38 t342.length co38) ∧ w'.cell? ⟨gb331, 0, none⟩ = some (.slice A0_0 l0_0.length c0_0)) (ds := []) (mb 0 5) (by kernel_rfl) rfl rfl ⟨mZ BK345.out 0, mZ BK331.out 0⟩ (fun hHeld => ?_)
    generalize w48.drew = w49 at HO336 HO341 HO344 HO350 BK331 BK332 BK345 HB hHeld ⊢
    refine take_ (i := 0) (N := some 33) (v := ?_) (a' := ?_) (mb 1 4) rfl rfl (by kernel_rfl) (fun _ _ _ h => h) (Or.inl ⟨by rfl, ?_⟩) hHeld ?_ ?_
    rotate_left
    ·rintro w' ⟨s0, s1⟩
     go_simp
     with_reducible rfl
    rotate_left
    ·simp only [Act.put, zA, zB, zC, i64_w, i32_w]
     rfl
    refine take_ (i := 1) (N := some 34) (v := ?_) (a' := ?_) (mb 2 3) rfl rfl (by kernel_rfl) (fun _ _ _ h => h) (Or.inl ⟨by rfl, ?_⟩) hHeld ?_ ?_
    rotate_left
    ·rintro w' ⟨s0, s1⟩
     go_simp
     with_reducible rfl
    rotate_left
    ·simp only [Act.put, zA, zB, zC, i64_w, i32_w]
     rfl
    refine one_ (i := 2) (N := some 35) (mb 3 2) rfl rfl (by kernel_rfl) (by decide) (fun K hK => ?_)
    refine goes_ Try.func22 (by kernel_rfl) rfl #[.agg #[.slice A0_0 l0_0.length c0_0]] (by rfl) rfl rfl mA ?_
    with_reducible refine (laws_toGraph.calls k _ _ l0_0 t352 _ ?side1 ?side2 A18.out).mono ?_
    (case side1 => exact mC (Kd.C_below HR0_0.out HB.out))
    (case side2 => exact HC0_0.out)
    rintro e w50 ⟨v353, rfl, ho0, hb⟩
    refine ⟨_, rfl, ?_⟩
    obtain ⟨z51, hz51⟩ := MWords.mp_size hb
    have HO354 := mS (Kd.S_lower (Kd.S_new' (Kd.S_new' (Kd.S_new' (Kd.S_new' (MWords.mp_geS ho0 hz51) (Kd.S_lt (mSd HO336.out))) (Kd.R_lt (mR HO341.out))) (Kd.S_lt (mSd HO344.out))) (Kd.R_lt (mR HO350.out))) (below_size (mH3 HB.out GE331.out GE332.out GE345.out)))
    replace HO336 := mS (MWords.mp_ltS (Kd.S_told (Kd.S_old (mSd HO336.out) hb) (Kd.S_base ho0)) hz51)
    replace HO341 := mS (Kd.R_below (mR HO341.out) hb)
    replace HO344 := mS (MWords.mp_ltS (Kd.S_told (Kd.S_old (mSd HO344.out) hb) (Kd.S_base ho0)) hz51)
    replace HO350 := mS (Kd.R_below (mR HO350.out) hb)
    replace BK331 := mB BK331 hb
    replace BK332 := mB BK332 hb
    replace BK345 := mB BK345 hb
    replace HB := mS (below_step (mH3 HB.out GE331.out GE332.out GE345.out) hb)
    (try clear hb)
    (try clear hb2)
    (try clear hk)
    (try clear hi)
    (try clear ho0)
    obtain ⟨Ao52, co52, eo52⟩ := Kd.S_slice HO354.out
    (first | subst eo52 | (injection eo52 with f1_ f2_ f3_; have f4_ := f1_.symm; have f5_ := f3_.symm; clear f1_ f2_ f3_; subst f4_; subst f5_))
    refine hK.out _ _ ⟨mZ BK345.out 0, mZ BK331.out 0⟩ (fun hHeld => ?_)
    clear hK K
    refine mno 35 ?_
    refine one_ (i := 3) (N := some 36) (mb 4 1) rfl rfl (by kernel_rfl) (by decide) (fun K hK => ?_)
    refine goes_ Try.func24 (by kernel_rfl) rfl #[.agg #[.slice Ao38 t342.length co38], .agg #[.slice Ao52 t352.length co52]] (by rfl) rfl rfl mA ?_
    with_reducible refine (laws_eqGraph.calls k _ _ t342 _ _ t352 true _ ?side1 ?side2 ?side3 ?side4 A19.out).mono ?_
    (case side1 => exact mC (Kd.S_reads' HO344.out).2.2)
    (case side2 => exact (Kd.S_reads' HO344.out).2.1)
    (case side3 => exact mC (Kd.S_reads' HO354.out).2.2)
    (case side4 => exact (Kd.S_reads' HO354.out).2.1)
    rintro e w53 ⟨rfl, hb⟩
    refine ⟨_, rfl, ?_⟩
    replace HO336 := mS (Kd.S_below (mSd HO336.out) hb)
    replace HO341 := mS (Kd.R_below (mR HO341.out) hb)
    replace HO344 := mS (Kd.S_below (mSd HO344.out) hb)
    replace HO350 := mS (Kd.R_below (mR HO350.out) hb)
    replace HO354 := mS (Kd.S_below (mSd HO354.out) hb)
    replace BK331 := mB BK331 hb
    replace BK332 := mB BK332 hb
    replace BK345 := mB BK345 hb
    replace HB := mS (below_step (mH3 HB.out GE331.out GE332.out GE345.out) hb)
    (try clear hb)
    (try clear hb2)
    (try clear hk)
    (try clear hi)
    refine hK.out _ _ ⟨mZ BK345.out 0, mZ BK331.out 0⟩ (fun hHeld => ?_)
    clear hK K
    refine mno 36 ?_
    refine pure_ (i := 4) (N := some 37) (v := ?_) (a' := ?_) (mb 5 0) rfl rfl (by kernel_rfl) (fun _ _ _ h => h) (Or.inl ⟨by rfl, ?_⟩) ?_ ?_
    rotate_left
    ·intro w'
     go_simp
     with_reducible rfl
    rotate_left
    ·simp only [Act.put, zA, zB, zC, i64_w, i32_w]
     rfl
    refine done_ (by kernel_rfl) ?_
    have hcz54_0 := mZ BK345.out 0
    have hfz54_0 := blk_frozen BK345.out 0
    go_upto_region 14 with (first | ((with_reducible refine gate_callee (f := 26) rfl ?_); refine mGo 40 Try.func26 #[.agg #[.slice Ao38 t342.length co38], .int .i64 1] ?_; (with_reducible refine (laws_markGraph.calls k (fun k_ => (((((((some k_ ≠ (.slice Ao32 t334.length co32 : Value).ownBlock ∧ (some k_ ≠ (.slice Ao47 t339.length co47 : Value).ownBlock ∧ z36 ≤ k_)) ∧ some k_ ≠ (.slice Ao46 t348.length co46 : Value).ownBlock) ∧ some k_ ≠ (.slice Ao52 t352.length co52 : Value).ownBlock) ∧ k_ < z51) ∧ k_ ≠ gb331) ∧ k_ ≠ gb332) ∧ k_ ≠ gb345) ∧ w.heap.size ≤ k_) (.slice Ao38 t342.length co38) t342 1 t356 t357 w _ ?side1 ?side2 A21.out).mono ?_); (case side1 => exact mH3 HB.out GE331.out GE332.out GE345.out); (case side2 => exact Kd.S_mono (Kd.S_bound (Kd.S_types (Kd.S_types (Kd.S_types HO344.out BK331.out (by decide)) BK332.out (by decide)) BK345.out (by decide))) (fun k_ h_ => (⟨h_.1, h_.2.1⟩ : _ ∧ _))); rintro e w55 ⟨rfl, hy0, hb, hkp⟩; refine ⟨_, rfl, ?_⟩; replace BK331 := mS (blk_kept (mK BK331.out) hkp (fun hs_ => (fun e_ => (e_.1.1.1.2) rfl) hs_)); replace BK332 := mS (blk_kept (mK BK332.out) hkp (fun hs_ => (fun e_ => (e_.1.1.2) rfl) hs_)); replace HO336 := mS (Kd.S_mono (ok' := fun k_ => some k_ ≠ (.slice Ao47 t339.length co47 : Value).ownBlock ∧ some k_ ≠ (.slice Ao38 t342.length co38 : Value).ownBlock ∧ some k_ ≠ (.slice Ao46 t348.length co46 : Value).ownBlock ∧ some k_ ≠ (.slice Ao52 t352.length co52 : Value).ownBlock ∧ z30 ≤ k_ ∧ k_ < z36 ∧ k_ < z51) (Kd.S_keptB (HO336.out) hkp (fun k_ hk_ hs_ => (fun e_ => Nat.lt_irrefl _ (Nat.lt_of_lt_of_le (hk_.1.1.1.2.2.2) (e_.1.1.1.1.1.1.1.2.2))) hs_)) (fun k_ hk_ => ⟨hk_.1.1.1.1.1, hk_.1.1.1.1.2.1, hk_.1.1.1.2, hk_.1.1.2, hk_.1.1.1.1.2.2.1, hk_.1.1.1.1.2.2.2, hk_.1.2⟩)); replace HO341 := mS (Kd.R_mono (ok' := fun k_ => some k_ ≠ (.slice Ao46 t348.length co46 : Value).ownBlock) (Kd.R_keptB ((Kd.R_tight2 rfl HO341.out)) hkp (fun k_ hk_ hs_ => (fun e_ => (e_.1.1.1.1.1.1.1.2.1) (hk_.1)) hs_)) (fun k_ hk_ => hk_.1.2.2)); replace HO344 := mS (Kd.S_mono (ok' := fun k_ => ((((some k_ ≠ (.slice Ao32 t334.length co32 : Value).ownBlock ∧ (some k_ ≠ (.slice Ao47 t339.length co47 : Value).ownBlock ∧ z36 ≤ k_)) ∧ some k_ ≠ (.slice Ao46 t348.length co46 : Value).ownBlock) ∧ some k_ ≠ (.slice Ao52 t352.length co52 : Value).ownBlock) ∧ k_ < z51)) hy0 (fun k_ h_ => ⟨⟨⟨⟨h_.1.1.1.1.1.1.1.1, ⟨h_.1.1.1.1.1.1.1.2.1, h_.1.1.1.1.1.1.1.2.2⟩⟩, h_.1.1.1.1.1.1.2⟩, h_.1.1.1.1.1.2⟩, h_.1.1.1.1.2⟩)); replace BK345 := mS (blk_kept (mK BK345.out) hkp (fun hs_ => (fun e_ => (e_.1.2) rfl) hs_)); replace HO350 := mS (Kd.R_mono (ok' := fun k_ => some k_ ≠ (.slice Ao47 t339.length co47 : Value).ownBlock) (Kd.R_keptB ((Kd.R_tight2 rfl HO350.out)) hkp (fun k_ hk_ hs_ => (fun e_ => (e_.1.1.1.1.1.1.2) (hk_.1)) hs_)) (fun k_ hk_ => hk_.1.2.2)); replace HO354 := mS (Kd.S_mono (ok' := fun k_ => some k_ ≠ (.slice Ao32 t334.length co32 : Value).ownBlock ∧ some k_ ≠ (.slice Ao47 t339.length co47 : Value).ownBlock ∧ some k_ ≠ (.slice Ao38 t342.length co38 : Value).ownBlock ∧ some k_ ≠ (.slice Ao46 t348.length co46 : Value).ownBlock ∧ z51 ≤ k_) (Kd.S_keptB (HO354.out) hkp (fun k_ hk_ hs_ => (fun e_ => Nat.lt_irrefl _ (Nat.lt_of_lt_of_le (e_.1.1.1.1.2) (hk_.1.1.1.1.2))) hs_)) (fun k_ hk_ => ⟨hk_.1.1.1.1.2, hk_.1.1.1.2, hk_.1.1.2, hk_.1.2, hk_.1.1.1.1.1.2⟩)); replace HB := mS (hb); (try clear hb); (try clear hkp); (try clear hy0)))
    (try simp only [Act.put, zA, zB, zC])
    go_cut [48] (fun v48 wc => ∃ (kq : Nat) (x48_21 : Bool), v48 = .bool x48_21 ∧ Aside0 (laws_FnExactGroup.j0 kq t339 t348 x48_21 l0_0 a1_0 a1_1 = some r) ∧ Aside0 (kq ≤ k) ∧ Aside0 (Kd.R k31 31 wc w.heap.size (fun k_ => some k_ ≠ ((.slice Ao46 t348.length co46) : Value).ownBlock) (.slice Ao47 t339.length co47) t339) ∧ Aside0 (Kd.R k31 31 wc w.heap.size (fun k_ => some k_ ≠ ((.slice Ao47 t339.length co47) : Value).ownBlock) (.slice Ao46 t348.length co46) t348) ∧ Aside0 (Kd.S k33 33 wc w.heap.size (fun k_ => some k_ ≠ ((.slice Ao47 t339.length co47) : Value).ownBlock ∧ some k_ ≠ ((.slice Ao46 t348.length co46) : Value).ownBlock ∧ z36 ≤ k_ ∧ k_ < z51) (.slice Ao38 t342.length co38) t357) ∧ Aside0 (wc.heap[gb331]? = some (.cells #[(.slice A0_0 l0_0.length c0_0)] 40 (0, 0))) ∧ Aside0 (wc.heap[gb332]? = some (.cells #[.int .i64 a1_0, .int .i64 a1_1] 41 (0, 0))) ∧ Aside0 (wc.heap[gb345]? = some (.cells #[(.slice Ao38 t342.length co38)] 26 (0, 0))) ∧ Aside0 (Below w.heap.size w wc))
    case first =>
     have H := HC22.out
     clear HC22
     by_cases c56 : t356 < 0
     ·rw [if_pos c56] at H
      have c56b0 := decide_eq_true c56
      clear c56
      (first | rw [c56b0] | (simp only [i64_w, i32_w]; rw [c56b0]) | skip)
      have H' := mS H
      clear H
      go_wp2
      go_meet
      case rel => exact ⟨_, (true), mE, H', ⟨by first | omega | exact Nat.le_refl _⟩, ⟨mR HO341.out⟩, ⟨mR HO350.out⟩, ⟨by refine mSd ?_; exact Kd.S_mono HO344.out (fun _ hk => ⟨hk.1.1.1.2.1, ⟨hk.1.1.2, ⟨hk.1.1.1.2.2, hk.2⟩⟩⟩)⟩, ⟨mK BK331.out⟩, ⟨mK BK332.out⟩, ⟨mK BK345.out⟩, ⟨(mH3 HB.out GE331.out GE332.out GE345.out)⟩⟩
     ·rw [if_neg c56] at H
      have c56b0 := decide_eq_false c56
      clear c56
      (first | rw [c56b0] | (simp only [i64_w, i32_w]; rw [c56b0]) | skip)
      replace H := Option.bind_eq_some_iff.mp H
      obtain ⟨t358, A570, H⟩ := H
      replace H : (laws_FnExactGroup.j0 k t339 t348 (!t358) l0_0 a1_0 a1_1) = some r := H
      have A57 := mS A570
      clear A570
      have H' := mS H
      clear H
      go_wp2_with (first | (go_at_call 31; (with_reducible refine (laws_eqDotS.calls k _ _ t348 _ _ t339 t358 _ ?side1 ?side2 ?side3 ?side4 A57.out).mono ?_); (case side1 => exact mC (Kd.R_reads' HO350.out).2.2); (case side2 => exact (Kd.R_reads' HO350.out).2.1); (case side3 => exact mC (Kd.R_reads' HO341.out).2.2); (case side4 => exact (Kd.R_reads' HO341.out).2.1); rintro e w58 ⟨rfl, hb⟩; replace HO336 := mS (Kd.S_below (mSd HO336.out) hb); replace HO341 := mS (Kd.R_below (mR HO341.out) hb); replace HO344 := mS (Kd.S_below (mSd HO344.out) hb); replace HO350 := mS (Kd.R_below (mR HO350.out) hb); replace HO354 := mS (Kd.S_below (mSd HO354.out) hb); replace BK331 := mB BK331 hb; replace BK332 := mB BK332 hb; replace BK345 := mB BK345 hb; replace HB := mS (below_step (mH3 HB.out GE331.out GE332.out GE345.out) hb); (try clear hb); (try clear hb2); (try clear hk); (try clear hi)))
      go_meet
      case rel => exact ⟨_, (!t358), mE, H', ⟨by first | omega | exact Nat.le_refl _⟩, ⟨mR HO341.out⟩, ⟨mR HO350.out⟩, ⟨by refine mSd ?_; exact Kd.S_mono HO344.out (fun _ hk => ⟨hk.1.1.1.2.1, ⟨hk.1.1.2, ⟨hk.1.1.1.2.2, hk.2⟩⟩⟩)⟩, ⟨mK BK331.out⟩, ⟨mK BK332.out⟩, ⟨mK BK345.out⟩, ⟨(mH3 HB.out GE331.out GE332.out GE345.out)⟩⟩
    case rest =>
     clear HC22
     try clear c1
     try clear c2
     try clear p2
     try clear c3
     try clear c4
     try clear c4b0
     try clear c5
     try clear c6
     try clear c7
     try clear c17
     try clear c19
     try clear c20
     try clear c22
     try clear c24
     try clear c25
     try clear c26
     try clear c31
     try clear c34
     try clear c35
     try clear c36
     try clear c39
     try clear c40
     try clear c56
     try clear c56b0
     try clear hcz26_0
     try clear hcz34_0
     try clear hcz41_0
     try clear hcz54_0
     try clear hcz8_0
     try clear hfz26_0
     try clear hfz34_0
     try clear hfz41_0
     try clear hfz54_0
     try clear hfz8_0
     obtain ⟨kq, x48_21, rfl, HA, HJ21, HO_6, HO_8, HO_346000, BK331, BK332, BK345, HB⟩ := hcut
     have hl346000_21 := (Kd.S_reads' HO_346000.out).1
     rw [hl346000_21] at HO_346000
     (try simp only [hl346000_21])
     (try simp only [hl346000_21] at BK331)
     (try simp only [hl346000_21] at BK332)
     (try simp only [hl346000_21] at BK345)
     (try simp only [hl346000_21] at HO_6)
     (try simp only [hl346000_21] at HO_8)
     cases kq with
     | zero => exact absurd HA.out (by simp [laws_FnExactGroup.j0])
     | succ kj21 =>
      have H := HA.out
      clear HA
      simp only [laws_FnExactGroup.j0] at H
      by_cases c59 : x48_21 = true
      ·subst c59
       have H1 := H
       rw [if_pos rfl] at H1
       clear H
       have H := H1
       clear H1
       exact absurd ((Option.some.inj H).trans ht_) (by decide)
      ·replace c59 := Bool.eq_false_iff.mpr c59
       subst c59
       have H1 := H
       rw [if_neg (show ¬ (false = true) by decide)] at H1
       clear H
       have H := H1
       clear H1
       replace H := Option.bind_eq_some_iff.mp H
       obtain ⟨⟨t359, t360⟩, A600, H⟩ := H
       replace H : ((laws_heldDotS.f kj21 t360 1).bind fun t361 => (if t361 < 0 then (some false) else (if t361 = t359 then ((laws_toGraph.f kj21 l0_0).bind fun t362 => ((laws_toDot.f a1_0 a1_1).bind fun bt365 => ((impl_Group.f kj21 t362 bt365.1 bt365.2).bind fun t367 => ((laws_eqDotS.f kj21 t367 t339).bind fun t370 => (if t370 = true then ((laws_heldDotS.f kj21 t360 1).bind fun t371 => (if t371 < 0 then (some false) else (if t371 = t359 then (some true) else (some false)))) else (some false)))))) else (some false)))) = some r := H
       have A60 := mS A600
       clear A600
       replace H := Option.bind_eq_some_iff.mp H
       obtain ⟨t361, A610, H⟩ := H
       replace H : (if t361 < 0 then (some false) else (if t361 = t359 then ((laws_toGraph.f kj21 l0_0).bind fun t362 => ((laws_toDot.f a1_0 a1_1).bind fun bt365 => ((impl_Group.f kj21 t362 bt365.1 bt365.2).bind fun t367 => ((laws_eqDotS.f kj21 t367 t339).bind fun t370 => (if t370 = true then ((laws_heldDotS.f kj21 t360 1).bind fun t371 => (if t371 < 0 then (some false) else (if t371 = t359 then (some true) else (some false)))) else (some false)))))) else (some false))) = some r := H
       have A61 := mS A610
       clear A610
       by_cases c62 : t361 < 0
       ·rw [if_pos c62] at H
        have c62b0 := decide_eq_true c62
        clear c62
        exact absurd ((Option.some.inj H).trans ht_) (by decide)
       ·rw [if_neg c62] at H
        have c62b0 := decide_eq_false c62
        clear c62
        by_cases c63 : t361 = t359
        ·rw [if_pos c63] at H
         have c63b0 : (t361 == t359) = true := beq_iff_eq.mpr c63
         have c63b1 : (t361 != t359) = false := bne_eq_false_iff_eq.mpr c63
         clear c63
         replace H := Option.bind_eq_some_iff.mp H
         obtain ⟨t362, A640, H⟩ := H
         replace H : ((laws_toDot.f a1_0 a1_1).bind fun bt365 => ((impl_Group.f kj21 t362 bt365.1 bt365.2).bind fun t367 => ((laws_eqDotS.f kj21 t367 t339).bind fun t370 => (if t370 = true then ((laws_heldDotS.f kj21 t360 1).bind fun t371 => (if t371 < 0 then (some false) else (if t371 = t359 then (some true) else (some false)))) else (some false))))) = some r := H
         have A64 := mS A640
         clear A640
         replace H := Option.bind_eq_some_iff.mp H
         obtain ⟨⟨t365, t366⟩, A650, H⟩ := H
         replace H : ((impl_Group.f kj21 t362 t365 t366).bind fun t367 => ((laws_eqDotS.f kj21 t367 t339).bind fun t370 => (if t370 = true then ((laws_heldDotS.f kj21 t360 1).bind fun t371 => (if t371 < 0 then (some false) else (if t371 = t359 then (some true) else (some false)))) else (some false)))) = some r := H
         have A65 := mS A650
         clear A650
         replace H := Option.bind_eq_some_iff.mp H
         obtain ⟨t367, A660, H⟩ := H
         replace H : ((laws_eqDotS.f kj21 t367 t339).bind fun t370 => (if t370 = true then ((laws_heldDotS.f kj21 t360 1).bind fun t371 => (if t371 < 0 then (some false) else (if t371 = t359 then (some true) else (some false)))) else (some false))) = some r := H
         have A66 := mS A660
         clear A660
         replace H := Option.bind_eq_some_iff.mp H
         obtain ⟨t370, A670, H⟩ := H
         replace H : (if t370 = true then ((laws_heldDotS.f kj21 t360 1).bind fun t371 => (if t371 < 0 then (some false) else (if t371 = t359 then (some true) else (some false)))) else (some false)) = some r := H
         have A67 := mS A670
         clear A670
         by_cases c68 : t370 = true
         ·subst c68
          have H1 := H
          rw [if_pos rfl] at H1
          clear H
          have H := H1
          clear H1
          replace H := Option.bind_eq_some_iff.mp H
          obtain ⟨t371, A690, H⟩ := H
          replace H : (if t371 < 0 then (some false) else (if t371 = t359 then (some true) else (some false))) = some r := H
          have A69 := mS A690
          clear A690
          by_cases c70 : t371 < 0
          ·rw [if_pos c70] at H
           have c70b0 := decide_eq_true c70
           clear c70
           exact absurd ((Option.some.inj H).trans ht_) (by decide)
          ·rw [if_neg c70] at H
           have c70b0 := decide_eq_false c70
           clear c70
           by_cases c71 : t371 = t359
           ·rw [if_pos c71] at H
            have c71b0 : (t371 == t359) = true := beq_iff_eq.mpr c71
            have c71b1 : (t371 != t359) = false := bne_eq_false_iff_eq.mpr c71
            clear c71
            obtain rfl := Option.some.inj H
            try go_wp2_with (first | ((with_reducible refine gate_callee (f := 32) rfl ?_); refine mGo 51 Try.func32 #[.slice Ao46 t348.length co46, .int .i64 1] ?_; (with_reducible refine (laws_markDotS.calls kj21 (fun k_ => some k_ = (.slice Ao46 t348.length co46 : Value).ownBlock) (.slice Ao46 t348.length co46) t348 1 t359 t360 w _ ?side1 ?side2 A60.out).mono ?_); (case side1 => exact mH3 HB.out GE331.out GE332.out GE345.out); (case side2 => exact Kd.R_tight rfl HO_8.out); rintro e w72 ⟨rfl, hy0, hb, hkp⟩; refine ⟨_, rfl, ?_⟩; replace HO_6 := mS (Kd.R_mono (ok' := fun k_ => some k_ ≠ (.slice Ao46 t348.length co46 : Value).ownBlock) (Kd.R_keptB (HO_6.out) hkp (fun k_ hk_ hs_ => (hk_) hs_)) (fun k_ hk_ => hk_.1)); replace HO_346000 := mS (Kd.S_mono (ok' := fun k_ => some k_ ≠ (.slice Ao47 t339.length co47 : Value).ownBlock ∧ some k_ ≠ (.slice Ao46 t348.length co46 : Value).ownBlock ∧ z36 ≤ k_ ∧ k_ < z51) (Kd.S_keptB (HO_346000.out) hkp (fun k_ hk_ hs_ => (hk_.2.1) hs_)) (fun k_ hk_ => ⟨hk_.1.1, hk_.1.2.1, hk_.1.2.2.1, hk_.1.2.2.2⟩)); replace BK331 := mS (blk_kept (mK BK331.out) hkp (fun hs_ => (fun e_ => (Kd.R_ne HO_8.out BK331.out (by decide)) e_) hs_)); replace BK332 := mS (blk_kept (mK BK332.out) hkp (fun hs_ => (fun e_ => (Kd.R_ne HO_8.out BK332.out (by decide)) e_) hs_)); replace BK345 := mS (blk_kept (mK BK345.out) hkp (fun hs_ => (fun e_ => (Kd.R_ne HO_8.out BK345.out (by decide)) e_) hs_)); replace HO_8 := mS (Kd.R_reok rfl hy0 (fun k_ e_ => HO_8.out.1 k_ e_)); replace HB := mS (hb); (try clear hb); (try clear hkp); (try clear hy0)) | ((with_reducible refine gate_callee (f := 33) rfl ?_); refine goesL_ (some 54) rfl rfl Try.func33 (by kernel_rfl) rfl #[.slice Ao46 t360.length co46, .int .i64 1] rfl (by (try simp only [List.map_toArray, List.map_cons, List.map_nil]); first | done | (rw [show t360.length = t348.length from (Kd.R_reads' HO_8.out).1.symm] <;> rfl) | rfl | (simp only [List.length_drop, List.length_take]; rfl)) ?_; (with_reducible refine (laws_heldDotS.calls kj21 _ _ t360 1 t361 _ ?side1 ?side2 A61.out).mono ?_); (case side1 => exact mC (Kd.R_reads' HO_8.out).2.2); (case side2 => rw [show t360.length = t348.length from (Kd.R_reads' HO_8.out).1.symm]; exact (Kd.R_reads' HO_8.out).2.1); rintro e w' ⟨rfl, ⟨nd, rfl⟩⟩; refine ⟨_, rfl, ?_⟩))
            (try (rw [drewN_self w72]; generalize hq_ : World.drewN w72 _ = w72; have n0_ : Aside0 (Kd.S k33 33 w72 w.heap.size (fun k_ => (some k_ ≠ (.slice Ao47 t339.length co47 : Value).ownBlock ∧ (some k_ ≠ (.slice Ao46 t348.length co46 : Value).ownBlock ∧ (z36 ≤ k_ ∧ k_ < z51)))) (.slice Ao38 t357.length co38) t357) := ⟨by rw [← hq_]; exact (mSd HO_346000.out)⟩; have n1_ : Aside0 (Kd.R k31 31 w72 w.heap.size (fun k_ => some k_ ≠ (.slice Ao46 t348.length co46 : Value).ownBlock) (.slice Ao47 t339.length co47) t339) := ⟨by rw [← hq_]; exact (mR HO_6.out)⟩; have n2_ : Aside0 (Kd.R k31 31 w72 w.heap.size (fun k_ => some k_ ≠ (.slice Ao47 t339.length co47 : Value).ownBlock) (.slice Ao46 t348.length co46) t360) := ⟨by rw [← hq_]; exact (mR HO_8.out)⟩; have n3_ : Aside0 (w72.heap[gb331]? = some (.cells #[.slice A0_0 l0_0.length c0_0] 40 (0, 0))) := ⟨by rw [← hq_]; exact (mK BK331.out)⟩; have n4_ : Aside0 (w72.heap[gb332]? = some (.cells #[.int .i64 a1_0, .int .i64 a1_1] 41 (0, 0))) := ⟨by rw [← hq_]; exact (mK BK332.out)⟩; have n5_ : Aside0 (w72.heap[gb345]? = some (.cells #[.slice Ao38 t357.length co38] 26 (0, 0))) := ⟨by rw [← hq_]; exact (mK BK345.out)⟩; have n6_ : Aside0 (Below w.heap.size w w72) := ⟨by rw [← hq_]; exact (mH3 HB.out GE331.out GE332.out GE345.out)⟩; clear HO_346000 HO_6 HO_8 BK331 BK332 BK345 HB hq_; have HO_346000 := n0_; have HO_6 := n1_; have HO_8 := n2_; have BK331 := n3_; have BK332 := n4_; have BK345 := n5_; have HB := n6_; clear n0_ n1_ n2_ n3_ n4_ n5_ n6_))
            replace HO_6 := mS (Kd.R_drew HO_6.out)
            replace HO_8 := mS (Kd.R_drew HO_8.out)
            replace HO_346000 := mS (Kd.S_drew HO_346000.out)
            replace BK331 := mS (blk_drew BK331.out)
            replace BK332 := mS (blk_drew BK332.out)
            replace BK345 := mS (blk_drew BK345.out)
            replace HB := mS (below_drew1 HB.out)
            refine start_ (n := 6) (S := fun w' => w'.cell? ⟨gb331, 0, none⟩ = some (.slice A0_0 l0_0.length c0_0) ∧ w'.cell? ⟨gb332, 0, none⟩ = some (.int .i64 a1_0) ∧ w'.cell? ⟨gb332, 1, none⟩ = some (.int .i64 a1_1)) (ds := []) (mb 0 6) (by kernel_rfl) rfl rfl ⟨mZ BK331.out 0, mc2 BK332.out⟩ (fun hHeld => ?_)
            generalize w72.drew = w73 at HO_6 HO_8 HO_346000 BK331 BK332 BK345 HB hHeld ⊢
            refine take_ (i := 0) (N := some 60) (v := ?_) (a' := ?_) (mb 1 5) rfl rfl (by kernel_rfl) (fun _ _ _ h => h) (Or.inl ⟨by rfl, ?_⟩) hHeld ?_ ?_
            rotate_left
            ·rintro w' ⟨s0, s1, s2⟩
             go_simp
             with_reducible rfl
            rotate_left
            ·simp only [Act.put, zA, zB, zC, i64_w, i32_w]
             rfl
            refine take_ (i := 2) (N := some 62) (v := ?_) (a' := ?_) (mr [1,1,1,3]) rfl rfl (by kernel_rfl) (fun _ _ _ h => h) (Or.inl ⟨by rfl, ?_⟩) hHeld ?_ ?_
            rotate_left
            ·rintro w' ⟨s0, s1, s2⟩
             go_simp
             with_reducible rfl
            rotate_left
            ·simp only [Act.put, zA, zB, zC, i64_w, i32_w]
             rfl
            refine one_ (i := 1) (N := some 61) (mb 3 3) rfl rfl (by kernel_rfl) (by decide) (fun K hK => ?_)
            refine goes_ Try.func22 (by kernel_rfl) rfl #[.agg #[.slice A0_0 l0_0.length c0_0]] (by rfl) rfl rfl mA ?_
            with_reducible refine (laws_toGraph.calls kj21 _ _ l0_0 t362 _ ?side1 ?side2 A64.out).mono ?_
            (case side1 => exact mC (Kd.C_below HR0_0.out HB.out))
            (case side2 => exact HC0_0.out)
            rintro e w74 ⟨v363, rfl, ho0, hb⟩
            refine ⟨_, rfl, ?_⟩
            obtain ⟨z75, hz75⟩ := MWords.mp_size hb
            have HO364 := mS (Kd.S_lower (Kd.S_new' (Kd.S_new' (Kd.S_new' (MWords.mp_geS ho0 hz75) (Kd.R_lt (mR HO_6.out))) (Kd.R_lt (mR HO_8.out))) (Kd.S_lt (mSd HO_346000.out))) (below_size (mH3 HB.out GE331.out GE332.out GE345.out)))
            replace HO_6 := mS (Kd.R_below (mR HO_6.out) hb)
            replace HO_8 := mS (Kd.R_below (mR HO_8.out) hb)
            replace HO_346000 := mS (MWords.mp_ltS (Kd.S_told (Kd.S_old (mSd HO_346000.out) hb) (Kd.S_base ho0)) hz75)
            replace BK331 := mB BK331 hb
            replace BK332 := mB BK332 hb
            replace BK345 := mB BK345 hb
            replace HB := mS (below_step (mH3 HB.out GE331.out GE332.out GE345.out) hb)
            (try clear hb)
            (try clear hb2)
            (try clear hk)
            (try clear hi)
            (try clear ho0)
            refine hK.out _ _ ⟨mZ BK331.out 0, mc2 BK332.out⟩ (fun hHeld => ?_)
            clear hK K
            refine mno 61 ?_
            refine one_ (i := 3) (N := some 63) (mb 4 2) rfl rfl (by kernel_rfl) (by decide) (fun K hK => ?_)
            refine goes_ Try.func35 (by kernel_rfl) rfl #[.agg #[.int .i64 a1_0, .int .i64 a1_1]] (by rfl) rfl rfl mA ?_
            with_reducible refine (laws_toDot.calls a1_0 a1_1 t365 t366 _ A65.out).mono ?_
            rintro e w76 ⟨rfl, hb⟩
            refine ⟨_, rfl, ?_⟩
            replace HO_6 := mS (Kd.R_below (mR HO_6.out) hb)
            replace HO_8 := mS (Kd.R_below (mR HO_8.out) hb)
            replace HO_346000 := mS (Kd.S_below (mSd HO_346000.out) hb)
            replace HO364 := mS (Kd.S_below (mSd HO364.out) hb)
            replace BK331 := mB BK331 hb
            replace BK332 := mB BK332 hb
            replace BK345 := mB BK345 hb
            replace HB := mS (below_step (mH3 HB.out GE331.out GE332.out GE345.out) hb)
            (try clear hb)
            (try clear hb2)
            (try clear hk)
            (try clear hi)
            obtain ⟨Ao77, co77, eo77⟩ := Kd.S_slice HO364.out
            (first | subst eo77 | (injection eo77 with f1_ f2_ f3_; have f4_ := f1_.symm; have f5_ := f3_.symm; clear f1_ f2_ f3_; subst f4_; subst f5_))
            refine hK.out _ _ ⟨mZ BK331.out 0, mc2 BK332.out⟩ (fun hHeld => ?_)
            clear hK K
            refine mno 63 ?_
            refine one_ (i := 4) (N := some 64) (mb 5 1) rfl rfl (by kernel_rfl) (by decide) (fun K hK => ?_)
            refine goes_ Try.func36 (by kernel_rfl) rfl #[.agg #[.slice Ao77 t362.length co77], .agg #[.int .i64 t365, .int .i64 t366]] (by rfl) rfl rfl mA ?_
            with_reducible refine (impl_Group.calls kj21 _ _ t362 t365 t366 t367 _ ?side1 ?side2 A66.out).mono ?_
            (case side1 => exact mC (Kd.S_reads' HO364.out).2.2)
            (case side2 => exact (Kd.S_reads' HO364.out).2.1)
            rintro e w78 ⟨v368, rfl, ho0, hb⟩
            refine ⟨_, rfl, ?_⟩
            replace HO_346000 := mS (Kd.S_elder' (mSd HO_346000.out) (Kd.R_base ho0) hb)
            replace HO364 := mS (Kd.S_elder' (mSd HO364.out) (Kd.R_base ho0) hb)
            have HO369 := mS (Kd.R_lower (Kd.R_new' (Kd.R_new' ho0 (Kd.R_lt (mR HO_6.out))) (Kd.R_lt (mR HO_8.out))) (below_size (mH3 HB.out GE331.out GE332.out GE345.out)))
            replace HO_6 := mS (Kd.R_elder' (mR HO_6.out) (Kd.R_base ho0) hb)
            replace HO_8 := mS (Kd.R_elder' (mR HO_8.out) (Kd.R_base ho0) hb)
            replace BK331 := mB BK331 hb
            replace BK332 := mB BK332 hb
            replace BK345 := mB BK345 hb
            replace HB := mS (below_step (mH3 HB.out GE331.out GE332.out GE345.out) hb)
            (try clear hb)
            (try clear hb2)
            (try clear hk)
            (try clear hi)
            (try clear ho0)
            refine hK.out _ _ ⟨mZ BK331.out 0, mc2 BK332.out⟩ (fun hHeld => ?_)
            clear hK K
            refine mno 64 ?_
            refine pure_ (i := 5) (N := some 12) (v := ?_) (a' := ?_) (mb 6 0) rfl rfl (by kernel_rfl) (fun _ _ _ h => h) (Or.inl ⟨by rfl, ?_⟩) ?_ ?_
            rotate_left
            ·intro w'
             go_simp
             with_reducible rfl
            rotate_left
            ·simp only [Act.put, zA, zB, zC, i64_w, i32_w]
             rfl
            refine done_ (by kernel_rfl) ?_
            obtain ⟨Ao79, co79, eo79⟩ := Kd.R_slice HO369.out
            subst eo79
            try go_wp2_with (first | ((with_reducible refine gate_callee (f := 31) rfl ?_); refine mGo 67 Try.func31 #[.slice Ao79 t367.length co79, .slice Ao47 t339.length co47] ?_; (with_reducible refine (laws_eqDotS.calls kj21 _ _ t367 _ _ t339 true _ ?side1 ?side2 ?side3 ?side4 A67.out).mono ?_); (case side1 => exact mC (Kd.R_reads' HO369.out).2.2); (case side2 => exact (Kd.R_reads' HO369.out).2.1); (case side3 => exact mC (Kd.R_reads' HO_6.out).2.2); (case side4 => exact (Kd.R_reads' HO_6.out).2.1); rintro e w80 ⟨rfl, hb⟩; refine ⟨_, rfl, ?_⟩; replace HO_6 := mS (Kd.R_below (mR HO_6.out) hb); replace HO_8 := mS (Kd.R_below (mR HO_8.out) hb); replace HO_346000 := mS (Kd.S_below (mSd HO_346000.out) hb); replace HO364 := mS (Kd.S_below (mSd HO364.out) hb); replace HO369 := mS (Kd.R_below (mR HO369.out) hb); replace BK331 := mB BK331 hb; replace BK332 := mB BK332 hb; replace BK345 := mB BK345 hb; replace HB := mS (below_step (mH3 HB.out GE331.out GE332.out GE345.out) hb); (try clear hb)) | ((with_reducible refine gate_callee (f := 33) rfl ?_); refine goesL_ (some 71) rfl rfl Try.func33 (by kernel_rfl) rfl #[.slice Ao46 t360.length co46, .int .i64 1] rfl (by (try simp only [List.map_toArray, List.map_cons, List.map_nil]); first | done | (rw [show t360.length = t348.length from (Kd.R_reads' HO_8.out).1.symm] <;> rfl) | rfl | (simp only [List.length_drop, List.length_take]; rfl)) ?_; (with_reducible refine (laws_heldDotS.calls kj21 _ _ t360 1 t371 _ ?side1 ?side2 A69.out).mono ?_); (case side1 => exact mC (Kd.R_reads' HO_8.out).2.2); (case side2 => rw [show t360.length = t348.length from (Kd.R_reads' HO_8.out).1.symm]; exact (Kd.R_reads' HO_8.out).2.1); rintro e w' ⟨rfl, ⟨nd, rfl⟩⟩; refine ⟨_, rfl, ?_⟩))
            go_ret
            exact ⟨mEw, (mH3 HB.out GE331.out GE332.out GE345.out)⟩
           ·rw [if_neg c71] at H
            have c71b0 : (t371 == t359) = false := beq_eq_false_iff_ne.mpr c71
            have c71b1 : (t371 != t359) = true := bne_iff_ne.mpr c71
            exact absurd ((Option.some.inj H).trans ht_) (by decide)
         ·replace c68 := Bool.eq_false_iff.mpr c68
          subst c68
          have H1 := H
          rw [if_neg (show ¬ (false = true) by decide)] at H1
          clear H
          have H := H1
          clear H1
          exact absurd ((Option.some.inj H).trans ht_) (by decide)
        ·rw [if_neg c63] at H
         have c63b0 : (t361 == t359) = false := beq_eq_false_iff_ne.mpr c63
         have c63b1 : (t361 != t359) = true := bne_iff_ne.mpr c63
         exact absurd ((Option.some.inj H).trans ht_) (by decide)
   ·replace c20 := Bool.eq_false_iff.mpr c20
    subst c20
    have H1 := H
    rw [if_neg (show ¬ (false = true) by decide)] at H1
    clear H
    have H := H1
    clear H1
    exact absurd ((Option.some.inj H).trans ht_) (by decide)
  ·replace c17 := Bool.eq_false_iff.mpr c17
   subst c17
   have H1 := H
   rw [if_neg (show ¬ (false = true) by decide)] at H1
   clear H
   have H := H1
   clear H1
   exact absurd ((Option.some.inj H).trans ht_) (by decide)

end Go.Proofs.Ytgbejjeephipeaa.MFnExactGroup
