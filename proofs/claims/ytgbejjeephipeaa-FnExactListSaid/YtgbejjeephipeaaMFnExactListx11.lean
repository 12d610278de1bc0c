-- Written by mp.py, this session's own printer (wip/mp.py).
import Derived.Test.YtgbejjeephipeaaVMShort
import Derived.Test.YtgbejjeephipeaaMFnExactListx0
import Derived.Test.YtgbejjeephipeaaMFnExactListx2
import Derived.Test.YtgbejjeephipeaaMFnExactListx3
import Derived.Test.YtgbejjeephipeaaMFnExactListx4
import Derived.Test.YtgbejjeephipeaaMFnExactListx7
import Derived.Test.YtgbejjeephipeaaMFnExactListx10
namespace Go.Proofs.Ytgbejjeephipeaa.MFnExactList
open Go.RowKit Go.Proofs.YtgbejjeephipeaaW.PrintWords Go.Proofs.YtgbejjeephipeaaW.PrintLast Go.Proofs.YtgbejjeephipeaaW.PrintMore Go.Proofs.Ytgbejjeephipeaa.MWords
attribute [local go_sem] max2_int min2_int max_two min_two max_three min_three max_four min_four   -- for this text's walks alone
set_option linter.unusedVariables false
set_option linter.unusedSimpArgs false

/-! ### laws_FnExactList: function 10 -/
def laws_FnExactList.j0 : Nat → List ByteArray → List ByteArray → Bool → List (S144) → List (S146) → List (S146) → Int → Option (Bool)
 | 0, _, _, _, _, _, _, _ => none
 | k + 1, x4, x6, x42, x267000, x267001, x267002, x267003 => if x42 = true then (some false) else ((laws_markStringS.f k x6 1).bind fun bt312 => ((laws_heldStringS.f k bt312.2 1).bind fun t314 => (if t314 < 0 then (some false) else (if t314 = bt312.1 then ((laws_toDisk.f k x267000 x267001 x267002 x267003).bind fun bt315 => ((impl_List.f k bt315.1 bt315.2.1 bt315.2.2.1 bt315.2.2.2).bind fun t325 => ((laws_eqStringS.f k t325 x4).bind fun t328 => (if t328 = true then ((laws_heldStringS.f k bt312.2 1).bind fun t329 => (if t329 < 0 then (some false) else (if t329 = bt312.1 then (some true) else (some false)))) else (some false))))) else (some false)))))
def laws_FnExactList.f (k : Nat) (l0_0 : List (S144)) (l0_1 : List (S146)) (l0_2 : List (S146)) (a0_3 : Int) : Option (Bool) := (laws_szDisk.f k l0_0 l0_1 l0_2 a0_3 1048576).bind fun t267 => (if t267 < 0 then (some true) else ((laws_toDisk.f k l0_0 l0_1 l0_2 a0_3).bind fun bt268 => ((spec_List.f k bt268.1 bt268.2.1 bt268.2.2.1 bt268.2.2.2).bind fun t278 => ((laws_toDisk.f k l0_0 l0_1 l0_2 a0_3).bind fun bt281 => ((impl_List.f k bt281.1 bt281.2.1 bt281.2.2.1 bt281.2.2.2).bind fun t292 => ((laws_eqStringS.f k t292 t278).bind fun t295 => (if t295 = true then ((laws_toDisk.f k l0_0 l0_1 l0_2 a0_3).bind fun bt296 => ((laws_eqDisk.f k bt281.1 bt281.2.1 bt281.2.2.1 bt281.2.2.2 bt296.1 bt296.2.1 bt296.2.2.1 bt296.2.2.2).bind fun t306 => (if t306 = true then ((laws_markDisk.f k bt281.1 bt281.2.1 bt281.2.2.1 bt281.2.2.2 1).bind fun bt307 => (if bt307.1 < 0 then (laws_FnExactList.j0 k t278 t292 true l0_0 l0_1 l0_2 a0_3) else ((laws_eqStringS.f k t292 t278).bind fun t311 => (laws_FnExactList.j0 k t278 t292 (!t311) l0_0 l0_1 l0_2 a0_3)))) else (some false)))) else (some false))))))))
theorem laws_FnExactList.mono_l : ∀ k, (∀ y0 y1 y2 y3 y4 y5 y6, LeO (laws_FnExactList.j0 k y0 y1 y2 y3 y4 y5 y6) (laws_FnExactList.j0 (k + 1) y0 y1 y2 y3 y4 y5 y6))
 | 0 => fun _ _ _ _ _ _ _ r h => by simp [laws_FnExactList.j0] at h
 | k + 1 => by
  have ih0 := laws_FnExactList.mono_l k
  ·intro y0 y1 y2 y3 y4 y5 y6
   unfold laws_FnExactList.j0
   repeat' first
   | (with_reducible exact ih0 _ _ _ _ _ _ _)
   | (with_reducible exact impl_List.mono _ _ _ _ _)
   | (with_reducible exact laws_eqDisk.mono _ _ _ _ _ _ _ _ _)
   | (with_reducible exact laws_eqStringS.mono _ _ _)
   | (with_reducible exact laws_heldStringS.mono _ _ _)
   | (with_reducible exact laws_markDisk.mono _ _ _ _ _ _)
   | (with_reducible exact laws_markStringS.mono _ _ _)
   | (with_reducible exact laws_szDisk.mono _ _ _ _ _ _)
   | (with_reducible exact laws_toDisk.mono _ _ _ _ _)
   | (with_reducible exact spec_List.mono _ _ _ _ _)
   | (with_reducible exact LeO.refl _)
   | (with_reducible exact LeO.none _)
   | (with_reducible refine LeO.ite ?_ ?_)
   | (with_reducible refine LeO.bind ?_ (fun _ => ?_))
   | exact ih0 _ _ _ _ _ _ _
   | exact impl_List.mono _ _ _ _ _
   | exact laws_eqDisk.mono _ _ _ _ _ _ _ _ _
   | exact laws_eqStringS.mono _ _ _
   | exact laws_heldStringS.mono _ _ _
   | exact laws_markDisk.mono _ _ _ _ _ _
   | exact laws_markStringS.mono _ _ _
   | exact laws_szDisk.mono _ _ _ _ _ _
   | exact laws_toDisk.mono _ _ _ _ _
   | exact spec_List.mono _ _ _ _ _
   | exact LeO.none _
   | refine LeO.ite ?_ ?_
   | refine LeO.bind ?_ (fun _ => ?_)
theorem laws_FnExactList.mono : ∀ a0 a1 a2 a3 k, LeO (laws_FnExactList.f k a0 a1 a2 a3) (laws_FnExactList.f (k + 1) a0 a1 a2 a3) := by
 intro a0 a1 a2 a3 k
 have ih0 := laws_FnExactList.mono_l k
 unfold laws_FnExactList.f
 repeat' first
   | (with_reducible exact ih0 _ _ _ _ _ _ _)
   | (with_reducible exact impl_List.mono _ _ _ _ _)
   | (with_reducible exact laws_eqDisk.mono _ _ _ _ _ _ _ _ _)
   | (with_reducible exact laws_eqStringS.mono _ _ _)
   | (with_reducible exact laws_heldStringS.mono _ _ _)
   | (with_reducible exact laws_markDisk.mono _ _ _ _ _ _)
   | (with_reducible exact laws_markStringS.mono _ _ _)
   | (with_reducible exact laws_szDisk.mono _ _ _ _ _ _)
   | (with_reducible exact laws_toDisk.mono _ _ _ _ _)
   | (with_reducible exact spec_List.mono _ _ _ _ _)
   | (with_reducible exact LeO.refl _)
   | (with_reducible exact LeO.none _)
   | (with_reducible refine LeO.ite ?_ ?_)
   | (with_reducible refine LeO.bind ?_ (fun _ => ?_))
   | exact ih0 _ _ _ _ _ _ _
   | exact impl_List.mono _ _ _ _ _
   | exact laws_eqDisk.mono _ _ _ _ _ _ _ _ _
   | exact laws_eqStringS.mono _ _ _
   | exact laws_heldStringS.mono _ _ _
   | exact laws_markDisk.mono _ _ _ _ _ _
   | exact laws_markStringS.mono _ _ _
   | exact laws_szDisk.mono _ _ _ _ _ _
   | exact laws_toDisk.mono _ _ _ _ _
   | exact spec_List.mono _ _ _ _ _
   | exact LeO.none _
   | refine LeO.ite ?_ ?_
   | refine LeO.bind ?_ (fun _ => ?_)
set_option maxHeartbeats 8000000 in
set_option maxRecDepth 100000 in
theorem laws_FnExactList.calls (k : Nat) (A0_0 : Option Addr) (c0_0 : Nat) (l0_0 : List (S144)) (A0_1 : Option Addr) (c0_1 : Nat) (l0_1 : List (S146)) (A0_2 : Option Addr) (c0_2 : Nat) (l0_2 : List (S146)) (a0_3 : Int) (r : Bool) (w : World) (hr0_0 : Kd.C k144 w A0_0 l0_0.length l0_0) (hc0_0 : l0_0.length ≤ c0_0) (hr0_1 : Kd.C k146 w A0_1 l0_1.length l0_1) (hc0_1 : l0_1.length ≤ c0_1) (hr0_2 : Kd.C k146 w A0_2 l0_2.length l0_2) (hc0_2 : l0_2.length ≤ c0_2) (ht_ : r = true) (h : laws_FnExactList.f k l0_0 l0_1 l0_2 a0_3 = some r) :
  Calls Try.prog 10 #[.agg #[.slice A0_0 l0_0.length c0_0, .slice A0_1 l0_1.length c0_1, .slice A0_2 l0_2.length c0_2, .int .i64 a0_3]] w fun e w' => e = .returned (.bool r) ∧ Below w.heap.size w w' := by
 have hu71 := Try.underlying71
 have hu63 := Try.underlying63
 have HR0_0 := mS hr0_0
 have HC0_0 := mS hc0_0
 clear hr0_0 hc0_0
 have HR0_1 := mS hr0_1
 have HC0_1 := mS hc0_1
 clear hr0_1 hc0_1
 have HR0_2 := mS hr0_2
 have HC0_2 := mS hc0_2
 clear hr0_2 hc0_2
 have HB := mS (Below.refl w.heap.size w)
 have H : ((laws_szDisk.f k l0_0 l0_1 l0_2 a0_3 1048576).bind fun t267 => (if t267 < 0 then (some true) else ((laws_toDisk.f k l0_0 l0_1 l0_2 a0_3).bind fun bt268 => ((spec_List.f k bt268.1 bt268.2.1 bt268.2.2.1 bt268.2.2.2).bind fun t278 => ((laws_toDisk.f k l0_0 l0_1 l0_2 a0_3).bind fun bt281 => ((impl_List.f k bt281.1 bt281.2.1 bt281.2.2.1 bt281.2.2.2).bind fun t292 => ((laws_eqStringS.f k t292 t278).bind fun t295 => (if t295 = true then ((laws_toDisk.f k l0_0 l0_1 l0_2 a0_3).bind fun bt296 => ((laws_eqDisk.f k bt281.1 bt281.2.1 bt281.2.2.1 bt281.2.2.2 bt296.1 bt296.2.1 bt296.2.2.1 bt296.2.2.2).bind fun t306 => (if t306 = true then ((laws_markDisk.f k bt281.1 bt281.2.1 bt281.2.2.1 bt281.2.2.2 1).bind fun bt307 => (if bt307.1 < 0 then (laws_FnExactList.j0 k t278 t292 true l0_0 l0_1 l0_2 a0_3) else ((laws_eqStringS.f k t292 t278).bind fun t311 => (laws_FnExactList.j0 k t278 t292 (!t311) l0_0 l0_1 l0_2 a0_3)))) else (some false)))) else (some false))))))))) = some r := h
 clear h
 replace H := Option.bind_eq_some_iff.mp H
 obtain ⟨t267, A20, H⟩ := H
 replace H : (if t267 < 0 then (some true) else ((laws_toDisk.f k l0_0 l0_1 l0_2 a0_3).bind fun bt268 => ((spec_List.f k bt268.1 bt268.2.1 bt268.2.2.1 bt268.2.2.2).bind fun t278 => ((laws_toDisk.f k l0_0 l0_1 l0_2 a0_3).bind fun bt281 => ((impl_List.f k bt281.1 bt281.2.1 bt281.2.2.1 bt281.2.2.2).bind fun t292 => ((laws_eqStringS.f k t292 t278).bind fun t295 => (if t295 = true then ((laws_toDisk.f k l0_0 l0_1 l0_2 a0_3).bind fun bt296 => ((laws_eqDisk.f k bt281.1 bt281.2.1 bt281.2.2.1 bt281.2.2.2 bt296.1 bt296.2.1 bt296.2.2.1 bt296.2.2.2).bind fun t306 => (if t306 = true then ((laws_markDisk.f k bt281.1 bt281.2.1 bt281.2.2.1 bt281.2.2.2 1).bind fun bt307 => (if bt307.1 < 0 then (laws_FnExactList.j0 k t278 t292 true l0_0 l0_1 l0_2 a0_3) else ((laws_eqStringS.f k t292 t278).bind fun t311 => (laws_FnExactList.j0 k t278 t292 (!t311) l0_0 l0_1 l0_2 a0_3)))) else (some false)))) else (some false)))))))) = some r := H
 have A2 := mS A20
 clear A20
 by_cases c3 : t267 < 0
 ·rw [if_pos c3] at H
  have c3b0 : decide (t267 < 0) = true := decide_eq_true c3
  clear c3
  obtain rfl := Option.some.inj H
  go_enter Try.func10, Try.ntmps10
  go_wp2_with (first | ((with_reducible refine gate_dst (N := 1) rfl ?_); refine box_event ?hg (N := 1) ?hd (cs := #[.slice A0_0 l0_0.length c0_0, .slice A0_1 l0_1.length c0_1, .slice A0_2 l0_2.length c0_2, .int .i64 a0_3]) (t := 71) ?hr ?_; (case hd => rfl); (case hg => rfl); (case hr => first | (go_simp; done) | (go_simp; rfl)); intro gb266 hg w4 hbox hb; have BK266 := mS (hbox); have GW266 := mG hg (mH HB.out); have GE266 := mG hg (mH HB.out); replace HB := mS (below_step (mH HB.out) hb); clear hb hbox hg; have hcz5_0 := mZ BK266.out 0; have hcz5_1 := mZ BK266.out 1; have hcz5_2 := mZ BK266.out 2; have hcz5_3 := mZ BK266.out 3; have hfz5_0 := blk_frozen BK266.out 0; have hfz5_1 := blk_frozen BK266.out 1; have hfz5_2 := blk_frozen BK266.out 2; have hfz5_3 := blk_frozen BK266.out 3) | ((with_reducible refine gate_callee (f := 43) rfl ?_); refine goesL_ (some 13) rfl rfl Try.func43 (by kernel_rfl) rfl #[.agg #[.slice A0_0 l0_0.length c0_0, .slice A0_1 l0_1.length c0_1, .slice A0_2 l0_2.length c0_2, .int .i64 a0_3], .int .i64 1048576] rfl mA ?_; (with_reducible refine (laws_szDisk.calls k _ _ l0_0 _ _ l0_1 _ _ l0_2 a0_3 1048576 t267 _ ?side1 ?side2 ?side3 ?side4 ?side5 ?side6 A2.out).mono ?_); (case side1 => repeat (first | exact (Kd.C_below HR0_0.out HB.out) | (with_reducible refine Kd.C_alloc ?_ _) | (with_reducible refine Kd.C_drewN ?_ _) | (with_reducible refine Kd.C_drew ?_))); (case side2 => exact HC0_0.out); (case side3 => repeat (first | exact (Kd.C_below HR0_1.out HB.out) | (with_reducible refine Kd.C_alloc ?_ _) | (with_reducible refine Kd.C_drewN ?_ _) | (with_reducible refine Kd.C_drew ?_))); (case side4 => exact HC0_1.out); (case side5 => repeat (first | exact (Kd.C_below HR0_2.out HB.out) | (with_reducible refine Kd.C_alloc ?_ _) | (with_reducible refine Kd.C_drewN ?_ _) | (with_reducible refine Kd.C_drew ?_))); (case side6 => exact HC0_2.out); rintro e w6 ⟨rfl, hb⟩; refine ⟨_, rfl, ?_⟩; replace BK266 := mB BK266 hb; replace HB := mS (below_step (mH1 HB.out GE266.out) hb); (try clear hb); (try clear hb2); (try clear hk); (try clear hi)))
  go_ret
  exact ⟨by first | rfl | (simp [errW_none, errW_some] <;> rfl) | (simp [*, errW_none, errW_some] <;> rfl), (mH1 HB.out GE266.out)⟩
 ·rw [if_neg c3] at H
  have c3b0 : decide (t267 < 0) = false := decide_eq_false c3
  clear c3
  replace H := Option.bind_eq_some_iff.mp H
  obtain ⟨⟨t268, t271, t274, t277⟩, A70, H⟩ := H
  replace H : ((spec_List.f k t268 t271 t274 t277).bind fun t278 => ((laws_toDisk.f k l0_0 l0_1 l0_2 a0_3).bind fun bt281 => ((impl_List.f k bt281.1 bt281.2.1 bt281.2.2.1 bt281.2.2.2).bind fun t292 => ((laws_eqStringS.f k t292 t278).bind fun t295 => (if t295 = true then ((laws_toDisk.f k l0_0 l0_1 l0_2 a0_3).bind fun bt296 => ((laws_eqDisk.f k bt281.1 bt281.2.1 bt281.2.2.1 bt281.2.2.2 bt296.1 bt296.2.1 bt296.2.2.1 bt296.2.2.2).bind fun t306 => (if t306 = true then ((laws_markDisk.f k bt281.1 bt281.2.1 bt281.2.2.1 bt281.2.2.2 1).bind fun bt307 => (if bt307.1 < 0 then (laws_FnExactList.j0 k t278 t292 true l0_0 l0_1 l0_2 a0_3) else ((laws_eqStringS.f k t292 t278).bind fun t311 => (laws_FnExactList.j0 k t278 t292 (!t311) l0_0 l0_1 l0_2 a0_3)))) else (some false)))) else (some false)))))) = some r := H
  have A7 := mS A70
  clear A70
  replace H := Option.bind_eq_some_iff.mp H
  obtain ⟨t278, A80, H⟩ := H
  replace H : ((laws_toDisk.f k l0_0 l0_1 l0_2 a0_3).bind fun bt281 => ((impl_List.f k bt281.1 bt281.2.1 bt281.2.2.1 bt281.2.2.2).bind fun t292 => ((laws_eqStringS.f k t292 t278).bind fun t295 => (if t295 = true then ((laws_toDisk.f k l0_0 l0_1 l0_2 a0_3).bind fun bt296 => ((laws_eqDisk.f k bt281.1 bt281.2.1 bt281.2.2.1 bt281.2.2.2 bt296.1 bt296.2.1 bt296.2.2.1 bt296.2.2.2).bind fun t306 => (if t306 = true then ((laws_markDisk.f k bt281.1 bt281.2.1 bt281.2.2.1 bt281.2.2.2 1).bind fun bt307 => (if bt307.1 < 0 then (laws_FnExactList.j0 k t278 t292 true l0_0 l0_1 l0_2 a0_3) else ((laws_eqStringS.f k t292 t278).bind fun t311 => (laws_FnExactList.j0 k t278 t292 (!t311) l0_0 l0_1 l0_2 a0_3)))) else (some false)))) else (some false))))) = some r := H
  have A8 := mS A80
  clear A80
  replace H := Option.bind_eq_some_iff.mp H
  obtain ⟨⟨t281, t284, t287, t290⟩, A90, H⟩ := H
  replace H : ((impl_List.f k t281 t284 t287 t290).bind fun t292 => ((laws_eqStringS.f k t292 t278).bind fun t295 => (if t295 = true then ((laws_toDisk.f k l0_0 l0_1 l0_2 a0_3).bind fun bt296 => ((laws_eqDisk.f k t281 t284 t287 t290 bt296.1 bt296.2.1 bt296.2.2.1 bt296.2.2.2).bind fun t306 => (if t306 = true then ((laws_markDisk.f k t281 t284 t287 t290 1).bind fun bt307 => (if bt307.1 < 0 then (laws_FnExactList.j0 k t278 t292 true l0_0 l0_1 l0_2 a0_3) else ((laws_eqStringS.f k t292 t278).bind fun t311 => (laws_FnExactList.j0 k t278 t292 (!t311) l0_0 l0_1 l0_2 a0_3)))) else (some false)))) else (some false)))) = some r := H
  have A9 := mS A90
  clear A90
  replace H := Option.bind_eq_some_iff.mp H
  obtain ⟨t292, A100, H⟩ := H
  replace H : ((laws_eqStringS.f k t292 t278).bind fun t295 => (if t295 = true then ((laws_toDisk.f k l0_0 l0_1 l0_2 a0_3).bind fun bt296 => ((laws_eqDisk.f k t281 t284 t287 t290 bt296.1 bt296.2.1 bt296.2.2.1 bt296.2.2.2).bind fun t306 => (if t306 = true then ((laws_markDisk.f k t281 t284 t287 t290 1).bind fun bt307 => (if bt307.1 < 0 then (laws_FnExactList.j0 k t278 t292 true l0_0 l0_1 l0_2 a0_3) else ((laws_eqStringS.f k t292 t278).bind fun t311 => (laws_FnExactList.j0 k t278 t292 (!t311) l0_0 l0_1 l0_2 a0_3)))) else (some false)))) else (some false))) = some r := H
  have A10 := mS A100
  clear A100
  replace H := Option.bind_eq_some_iff.mp H
  obtain ⟨t295, A110, H⟩ := H
  replace H : (if t295 = true then ((laws_toDisk.f k l0_0 l0_1 l0_2 a0_3).bind fun bt296 => ((laws_eqDisk.f k t281 t284 t287 t290 bt296.1 bt296.2.1 bt296.2.2.1 bt296.2.2.2).bind fun t306 => (if t306 = true then ((laws_markDisk.f k t281 t284 t287 t290 1).bind fun bt307 => (if bt307.1 < 0 then (laws_FnExactList.j0 k t278 t292 true l0_0 l0_1 l0_2 a0_3) else ((laws_eqStringS.f k t292 t278).bind fun t311 => (laws_FnExactList.j0 k t278 t292 (!t311) l0_0 l0_1 l0_2 a0_3)))) else (some false)))) else (some false)) = some r := H
  have A11 := mS A110
  clear A110
  by_cases c12 : t295 = true
  ·subst c12
   have H1 : ((laws_toDisk.f k l0_0 l0_1 l0_2 a0_3).bind fun bt296 => ((laws_eqDisk.f k t281 t284 t287 t290 bt296.1 bt296.2.1 bt296.2.2.1 bt296.2.2.2).bind fun t306 => (if t306 = true then ((laws_markDisk.f k t281 t284 t287 t290 1).bind fun bt307 => (if bt307.1 < 0 then (laws_FnExactList.j0 k t278 t292 true l0_0 l0_1 l0_2 a0_3) else ((laws_eqStringS.f k t292 t278).bind fun t311 => (laws_FnExactList.j0 k t278 t292 (!t311) l0_0 l0_1 l0_2 a0_3)))) else (some false)))) = some r := by rw [if_pos rfl] at H; exact H
   clear H
   have H := H1
   clear H1
   replace H := Option.bind_eq_some_iff.mp H
   obtain ⟨⟨t296, t299, t302, t305⟩, A130, H⟩ := H
   replace H : ((laws_eqDisk.f k t281 t284 t287 t290 t296 t299 t302 t305).bind fun t306 => (if t306 = true then ((laws_markDisk.f k t281 t284 t287 t290 1).bind fun bt307 => (if bt307.1 < 0 then (laws_FnExactList.j0 k t278 t292 true l0_0 l0_1 l0_2 a0_3) else ((laws_eqStringS.f k t292 t278).bind fun t311 => (laws_FnExactList.j0 k t278 t292 (!t311) l0_0 l0_1 l0_2 a0_3)))) else (some false))) = some r := H
   have A13 := mS A130
   clear A130
   replace H := Option.bind_eq_some_iff.mp H
   obtain ⟨t306, A140, H⟩ := H
   replace H : (if t306 = true then ((laws_markDisk.f k t281 t284 t287 t290 1).bind fun bt307 => (if bt307.1 < 0 then (laws_FnExactList.j0 k t278 t292 true l0_0 l0_1 l0_2 a0_3) else ((laws_eqStringS.f k t292 t278).bind fun t311 => (laws_FnExactList.j0 k t278 t292 (!t311) l0_0 l0_1 l0_2 a0_3)))) else (some false)) = some r := H
   have A14 := mS A140
   clear A140
   by_cases c15 : t306 = true
   ·subst c15
    have H1 : ((laws_markDisk.f k t281 t284 t287 t290 1).bind fun bt307 => (if bt307.1 < 0 then (laws_FnExactList.j0 k t278 t292 true l0_0 l0_1 l0_2 a0_3) else ((laws_eqStringS.f k t292 t278).bind fun t311 => (laws_FnExactList.j0 k t278 t292 (!t311) l0_0 l0_1 l0_2 a0_3)))) = some r := by rw [if_pos rfl] at H; exact H
    clear H
    have H := H1
    clear H1
    replace H := Option.bind_eq_some_iff.mp H
    obtain ⟨⟨t307, t308, t309, t310⟩, A160, H⟩ := H
    replace H : (if t307 < 0 then (laws_FnExactList.j0 k t278 t292 true l0_0 l0_1 l0_2 a0_3) else ((laws_eqStringS.f k t292 t278).bind fun t311 => (laws_FnExactList.j0 k t278 t292 (!t311) l0_0 l0_1 l0_2 a0_3))) = some r := H
    have A16 := mS A160
    clear A160
    have HC17 := mS H
    clear H
    go_enter Try.func10, Try.ntmps10
    try go_wp2_with (first | ((with_reducible refine gate_dst (N := 1) rfl ?_); refine box_event ?hg (N := 1) ?hd (cs := #[.slice A0_0 l0_0.length c0_0, .slice A0_1 l0_1.length c0_1, .slice A0_2 l0_2.length c0_2, .int .i64 a0_3]) (t := 71) ?hr ?_; (case hd => rfl); (case hg => rfl); (case hr => first | (go_simp; done) | (go_simp; rfl)); intro gb266 hg w18 hbox hb; have BK266 := mS (hbox); have GW266 := mG hg (mH HB.out); have GE266 := mG hg (mH HB.out); replace HB := mS (below_step (mH HB.out) hb); clear hb hbox hg; have hcz19_0 := mZ BK266.out 0; have hcz19_1 := mZ BK266.out 1; have hcz19_2 := mZ BK266.out 2; have hcz19_3 := mZ BK266.out 3; have hfz19_0 := blk_frozen BK266.out 0; have hfz19_1 := blk_frozen BK266.out 1; have hfz19_2 := blk_frozen BK266.out 2; have hfz19_3 := blk_frozen BK266.out 3) | ((with_reducible refine gate_callee (f := 43) rfl ?_); refine goesL_ (some 13) rfl rfl Try.func43 (by kernel_rfl) rfl #[.agg #[.slice A0_0 l0_0.length c0_0, .slice A0_1 l0_1.length c0_1, .slice A0_2 l0_2.length c0_2, .int .i64 a0_3], .int .i64 1048576] rfl mA ?_; (with_reducible refine (laws_szDisk.calls k _ _ l0_0 _ _ l0_1 _ _ l0_2 a0_3 1048576 t267 _ ?side1 ?side2 ?side3 ?side4 ?side5 ?side6 A2.out).mono ?_); (case side1 => repeat (first | exact (Kd.C_below HR0_0.out HB.out) | (with_reducible refine Kd.C_alloc ?_ _) | (with_reducible refine Kd.C_drewN ?_ _) | (with_reducible refine Kd.C_drew ?_))); (case side2 => exact HC0_0.out); (case side3 => repeat (first | exact (Kd.C_below HR0_1.out HB.out) | (with_reducible refine Kd.C_alloc ?_ _) | (with_reducible refine Kd.C_drewN ?_ _) | (with_reducible refine Kd.C_drew ?_))); (case side4 => exact HC0_1.out); (case side5 => repeat (first | exact (Kd.C_below HR0_2.out HB.out) | (with_reducible refine Kd.C_alloc ?_ _) | (with_reducible refine Kd.C_drewN ?_ _) | (with_reducible refine Kd.C_drew ?_))); (case side6 => exact HC0_2.out); rintro e w20 ⟨rfl, hb⟩; refine ⟨_, rfl, ?_⟩; replace BK266 := mB BK266 hb; replace HB := mS (below_step (mH1 HB.out GE266.out) hb); (try clear hb); (try clear hb2); (try clear hk); (try clear hi); have hcz21_0 := mZ BK266.out 0; have hcz21_1 := mZ BK266.out 1; have hcz21_2 := mZ BK266.out 2; have hcz21_3 := mZ BK266.out 3; have hfz21_0 := blk_frozen BK266.out 0; have hfz21_1 := blk_frozen BK266.out 1; have hfz21_2 := blk_frozen BK266.out 2; have hfz21_3 := blk_frozen BK266.out 3) | ((with_reducible refine gate_callee (f := 45) rfl ?_); refine goesL_ (some 17) rfl rfl Try.func45 (by kernel_rfl) rfl #[.agg #[.slice A0_0 l0_0.length c0_0, .slice A0_1 l0_1.length c0_1, .slice A0_2 l0_2.length c0_2, .int .i64 a0_3]] rfl mA ?_; (with_reducible refine (laws_toDisk.calls k _ _ l0_0 _ _ l0_1 _ _ l0_2 a0_3 t268 t271 t274 t277 _ ?side1 ?side2 ?side3 ?side4 ?side5 ?side6 A7.out).mono ?_); (case side1 => repeat (first | exact (Kd.C_below HR0_0.out HB.out) | (with_reducible refine Kd.C_alloc ?_ _) | (with_reducible refine Kd.C_drewN ?_ _) | (with_reducible refine Kd.C_drew ?_))); (case side2 => exact HC0_0.out); (case side3 => repeat (first | exact (Kd.C_below HR0_1.out HB.out) | (with_reducible refine Kd.C_alloc ?_ _) | (with_reducible refine Kd.C_drewN ?_ _) | (with_reducible refine Kd.C_drew ?_))); (case side4 => exact HC0_1.out); (case side5 => repeat (first | exact (Kd.C_below HR0_2.out HB.out) | (with_reducible refine Kd.C_alloc ?_ _) | (with_reducible refine Kd.C_drewN ?_ _) | (with_reducible refine Kd.C_drew ?_))); (case side6 => exact HC0_2.out); rintro e w22 ⟨v269, v272, v275, rfl, ho0, ho1, ho2, hb⟩; refine ⟨_, rfl, ?_⟩; obtain ⟨z23, hz23⟩ := MWords.mp_size hb; have HO270 := mS (Kd.S_lower (MWords.mp_geS ho0 hz23) (below_size (mH1 HB.out GE266.out))); have HO273 := mS (Kd.R_lower ho1 (below_size (mH1 HB.out GE266.out))); have HO276 := mS (Kd.R_lower ho2 (below_size (mH1 HB.out GE266.out))); replace BK266 := mB BK266 hb; replace HB := mS (below_step (mH1 HB.out GE266.out) hb); (try clear hb); (try clear hb2); (try clear hk); (try clear hi); (try clear ho0); (try clear ho1); (try clear ho2); obtain ⟨Ao24, co24, eo24⟩ := Kd.S_slice HO270.out; subst eo24; obtain ⟨Ao25, co25, eo25⟩ := Kd.R_slice HO273.out; subst eo25; obtain ⟨Ao26, co26, eo26⟩ := Kd.R_slice HO276.out; subst eo26) | ((with_reducible refine gate_callee (f := 47) rfl ?_); refine goesL_ (some 18) rfl rfl Try.func47 (by kernel_rfl) rfl #[.agg #[.slice Ao24 t268.length co24, .slice Ao25 t271.length co25, .slice Ao26 t274.length co26, .int .i64 t277]] rfl mA ?_; (with_reducible refine (spec_List.calls k _ _ t268 _ _ t271 _ _ t274 t277 t278 _ ?side1 ?side2 ?side3 ?side4 ?side5 ?side6 A8.out).mono ?_); (case side1 => repeat (first | exact (Kd.S_reads' HO270.out).2.2 | (with_reducible refine Kd.C_alloc ?_ _) | (with_reducible refine Kd.C_drewN ?_ _) | (with_reducible refine Kd.C_drew ?_))); (case side2 => exact (Kd.S_reads' HO270.out).2.1); (case side3 => repeat (first | exact (Kd.R_reads' HO273.out).2.2 | (with_reducible refine Kd.C_alloc ?_ _) | (with_reducible refine Kd.C_drewN ?_ _) | (with_reducible refine Kd.C_drew ?_))); (case side4 => exact (Kd.R_reads' HO273.out).2.1); (case side5 => repeat (first | exact (Kd.R_reads' HO276.out).2.2 | (with_reducible refine Kd.C_alloc ?_ _) | (with_reducible refine Kd.C_drewN ?_ _) | (with_reducible refine Kd.C_drew ?_))); (case side6 => exact (Kd.R_reads' HO276.out).2.1); rintro e w27 ⟨v279, rfl, ho0, hb⟩; refine ⟨_, rfl, ?_⟩; replace HO270 := mS (Kd.S_below (by (with_reducible repeat (first | apply Kd.S_alloc | apply Kd.S_drewN | apply Kd.S_drew)); exact HO270.out) hb); replace HO273 := mS (Kd.R_below (mR HO273.out) hb); replace HO276 := mS (Kd.R_below (mR HO276.out) hb); have HO280 := mS (Kd.R_lower ho0 (below_size (mH1 HB.out GE266.out))); replace BK266 := mB BK266 hb; replace HB := mS (below_step (mH1 HB.out GE266.out) hb); (try clear hb); (try clear hb2); (try clear hk); (try clear hi); (try clear ho0); have hcz28_0 := mZ BK266.out 0; have hcz28_1 := mZ BK266.out 1; have hcz28_2 := mZ BK266.out 2; have hcz28_3 := mZ BK266.out 3; have hfz28_0 := blk_frozen BK266.out 0; have hfz28_1 := blk_frozen BK266.out 1; have hfz28_2 := blk_frozen BK266.out 2; have hfz28_3 := blk_frozen BK266.out 3) | ((with_reducible refine gate_callee (f := 45) rfl ?_); refine goesL_ (some 20) rfl rfl Try.func45 (by kernel_rfl) rfl #[.agg #[.slice A0_0 l0_0.length c0_0, .slice A0_1 l0_1.length c0_1, .slice A0_2 l0_2.length c0_2, .int .i64 a0_3]] rfl mA ?_; (with_reducible refine (laws_toDisk.calls k _ _ l0_0 _ _ l0_1 _ _ l0_2 a0_3 t281 t284 t287 t290 _ ?side1 ?side2 ?side3 ?side4 ?side5 ?side6 A9.out).mono ?_); (case side1 => repeat (first | exact (Kd.C_below HR0_0.out HB.out) | (with_reducible refine Kd.C_alloc ?_ _) | (with_reducible refine Kd.C_drewN ?_ _) | (with_reducible refine Kd.C_drew ?_))); (case side2 => exact HC0_0.out); (case side3 => repeat (first | exact (Kd.C_below HR0_1.out HB.out) | (with_reducible refine Kd.C_alloc ?_ _) | (with_reducible refine Kd.C_drewN ?_ _) | (with_reducible refine Kd.C_drew ?_))); (case side4 => exact HC0_1.out); (case side5 => repeat (first | exact (Kd.C_below HR0_2.out HB.out) | (with_reducible refine Kd.C_alloc ?_ _) | (with_reducible refine Kd.C_drewN ?_ _) | (with_reducible refine Kd.C_drew ?_))); (case side6 => exact HC0_2.out); rintro e w29 ⟨v282, v285, v288, rfl, ho0, ho1, ho2, hb⟩; refine ⟨_, rfl, ?_⟩; obtain ⟨z30, hz30⟩ := MWords.mp_size hb; replace HO280 := mS (Kd.R_below (mR HO280.out) hb); have HO283 := mS (Kd.S_lower (Kd.S_new' (MWords.mp_geS ho0 hz30) (Kd.S_lt (by (with_reducible repeat (first | apply Kd.S_alloc | apply Kd.S_drewN | apply Kd.S_drew)); exact HO270.out))) (below_size (mH1 HB.out GE266.out))); replace HO270 := mS (MWords.mp_ltS (Kd.S_told (Kd.S_old (by (with_reducible repeat (first | apply Kd.S_alloc | apply Kd.S_drewN | apply Kd.S_drew)); exact HO270.out) hb) (Kd.S_base ho0)) hz30); have HO286 := mS (Kd.R_lower (Kd.R_new' (Kd.R_new' ho1 (Kd.R_lt (mR HO273.out))) (Kd.R_lt (mR HO276.out))) (below_size (mH1 HB.out GE266.out))); have HO289 := mS (Kd.R_lower (Kd.R_new' (Kd.R_new' ho2 (Kd.R_lt (mR HO273.out))) (Kd.R_lt (mR HO276.out))) (below_size (mH1 HB.out GE266.out))); replace HO273 := mS (Kd.R_mono (Kd.R_told (Kd.R_told (Kd.R_old (mR HO273.out) hb) (Kd.R_base ho1)) (Kd.R_base ho2)) (fun _ h_ => h_.1)); replace HO276 := mS (Kd.R_mono (Kd.R_told (Kd.R_told (Kd.R_old (mR HO276.out) hb) (Kd.R_base ho1)) (Kd.R_base ho2)) (fun _ h_ => h_.1)); replace BK266 := mB BK266 hb; replace HB := mS (below_step (mH1 HB.out GE266.out) hb); (try clear hb); (try clear hb2); (try clear hk); (try clear hi); (try clear ho0); (try clear ho1); (try clear ho2)) | ((with_reducible refine gate_dst (N := 5) rfl ?_); refine box_event ?hg (N := 5) ?hd (cs := #[.slice none 0 0, .slice none 0 0, .slice none 0 0, .int .i64 0]) (t := 63) ?hr ?_; (case hd => rfl); (case hg => rfl); (case hr => first | (go_simp; done) | (go_simp; rfl)); intro gb291 hg w31 hbox hb; replace HO270 := mS (Kd.S_below (by (with_reducible repeat (first | apply Kd.S_alloc | apply Kd.S_drewN | apply Kd.S_drew)); exact HO270.out) hb); replace HO273 := mS (Kd.R_below (mR HO273.out) hb); replace HO276 := mS (Kd.R_below (mR HO276.out) hb); replace HO280 := mS (Kd.R_below (mR HO280.out) hb); replace HO283 := mS (Kd.S_below (by (with_reducible repeat (first | apply Kd.S_alloc | apply Kd.S_drewN | apply Kd.S_drew)); exact HO283.out) hb); replace HO286 := mS (Kd.R_below (mR HO286.out) hb); replace HO289 := mS (Kd.R_below (mR HO289.out) hb); have BK291 := mS (hbox); have GW291 := mG hg (mH1 HB.out GE266.out); have GE291 := mG hg (mH1 HB.out GE266.out); replace HB := mS (below_step (mH1 HB.out GE266.out) hb); have NB266_291 := mNl hg BK266.out; have NB291_266 := mNg hg BK266.out; replace BK266 := mB BK266 hb; clear hb hbox hg; obtain ⟨Ao32, co32, eo32⟩ := Kd.S_slice HO283.out; subst eo32; have hnb33 := NB291_266.out; have hnc33 := NB266_291.out; have hcz34_0 := mZ BK291.out 0; have hcz34_1 := mZ BK291.out 1; have hcz34_2 := mZ BK291.out 2; have hcz34_3 := mZ BK291.out 3; have hfz34_0 := blk_frozen BK291.out 0; have hfz34_1 := blk_frozen BK291.out 1; have hfz34_2 := blk_frozen BK291.out 2; have hfz34_3 := blk_frozen BK291.out 3; obtain ⟨Ao35, co35, eo35⟩ := Kd.R_slice HO286.out; subst eo35; obtain ⟨Ao36, co36, eo36⟩ := Kd.R_slice HO289.out; subst eo36) | ((with_reducible refine gate_callee (f := 48) rfl ?_); refine goesL_ (some 22) rfl rfl Try.func48 (by kernel_rfl) rfl #[.agg #[.slice Ao32 t281.length co32, .slice Ao35 t284.length co35, .slice Ao36 t287.length co36, .int .i64 t290]] rfl mA ?_; (with_reducible refine (impl_List.calls k _ _ t281 _ _ t284 _ _ t287 t290 t292 _ ?side1 ?side2 ?side3 ?side4 ?side5 ?side6 A10.out).mono ?_); (case side1 => refine (Kd.S_reads' (e := 120) (base := w.heap.size) (ok := fun k_ => ((True ∧ z30 ≤ k_) ∧ some k_ ≠ (.slice Ao24 t268.length co24 : Value).ownBlock)) (n := t281.length) (c := co32) ?_).2.2; exact (by (with_reducible repeat (first | apply Kd.S_alloc | apply Kd.S_drewN | apply Kd.S_drew)); exact (Kd.S_mono (Kd.S_far (p := ⟨gb291, 3, none⟩) (Kd.S_far (p := ⟨gb291, 2, none⟩) (Kd.S_far (p := ⟨gb291, 1, none⟩) (Kd.S_far (p := ⟨gb291, 0, none⟩) (Kd.S_types HO283.out BK291.out (by decide)) (fun _ hk => hk.2) (.slice Ao32 t281.length co32)) (fun _ hk => hk.2) (.slice Ao35 t284.length co35)) (fun _ hk => hk.2) (.slice Ao36 t287.length co36)) (fun _ hk => hk.2) (.int .i64 t290)) (fun _ h_ => h_.1)))); (case side2 => exact (Kd.S_reads' HO283.out).2.1); (case side3 => refine (Kd.R_reads' (e := 126) (base := w.heap.size) (ok := fun k_ => ((some k_ ≠ (.slice Ao36 t287.length co36 : Value).ownBlock ∧ some k_ ≠ (.slice Ao25 t271.length co25 : Value).ownBlock) ∧ some k_ ≠ (.slice Ao26 t274.length co26 : Value).ownBlock)) (n := t284.length) (c := co35) ?_).2.2; exact (by (with_reducible repeat (first | apply Kd.R_alloc | apply Kd.R_drewN | apply Kd.R_drew)); exact (Kd.R_mono (Kd.R_far (p := ⟨gb291, 3, none⟩) (Kd.R_far (p := ⟨gb291, 2, none⟩) (Kd.R_far (p := ⟨gb291, 1, none⟩) (Kd.R_far (p := ⟨gb291, 0, none⟩) (Kd.R_types HO286.out BK291.out (by decide)) (fun _ hk => hk.2) (.slice Ao32 t281.length co32)) (fun _ hk => hk.2) (.slice Ao35 t284.length co35)) (fun _ hk => hk.2) (.slice Ao36 t287.length co36)) (fun _ hk => hk.2) (.int .i64 t290)) (fun _ h_ => h_.1)))); (case side4 => exact (Kd.R_reads' HO286.out).2.1); (case side5 => refine (Kd.R_reads' (e := 126) (base := w.heap.size) (ok := fun k_ => ((some k_ ≠ (.slice Ao35 t284.length co35 : Value).ownBlock ∧ some k_ ≠ (.slice Ao25 t271.length co25 : Value).ownBlock) ∧ some k_ ≠ (.slice Ao26 t274.length co26 : Value).ownBlock)) (n := t287.length) (c := co36) ?_).2.2; exact (by (with_reducible repeat (first | apply Kd.R_alloc | apply Kd.R_drewN | apply Kd.R_drew)); exact (Kd.R_mono (Kd.R_far (p := ⟨gb291, 3, none⟩) (Kd.R_far (p := ⟨gb291, 2, none⟩) (Kd.R_far (p := ⟨gb291, 1, none⟩) (Kd.R_far (p := ⟨gb291, 0, none⟩) (Kd.R_types HO289.out BK291.out (by decide)) (fun _ hk => hk.2) (.slice Ao32 t281.length co32)) (fun _ hk => hk.2) (.slice Ao35 t284.length co35)) (fun _ hk => hk.2) (.slice Ao36 t287.length co36)) (fun _ hk => hk.2) (.int .i64 t290)) (fun _ h_ => h_.1)))); (case side6 => exact (Kd.R_reads' HO289.out).2.1); rintro e w37 ⟨v293, rfl, ho0, hb⟩; refine ⟨_, rfl, ?_⟩; replace HO270 := mS (Kd.S_below (by (with_reducible repeat (first | apply Kd.S_alloc | apply Kd.S_drewN | apply Kd.S_drew)); exact (Kd.S_mono (Kd.S_far (p := ⟨gb291, 3, none⟩) (Kd.S_far (p := ⟨gb291, 2, none⟩) (Kd.S_far (p := ⟨gb291, 1, none⟩) (Kd.S_far (p := ⟨gb291, 0, none⟩) (Kd.S_types HO270.out BK291.out (by decide)) (fun _ hk => hk.2) (.slice Ao32 t281.length co32)) (fun _ hk => hk.2) (.slice Ao35 t284.length co35)) (fun _ hk => hk.2) (.slice Ao36 t287.length co36)) (fun _ hk => hk.2) (.int .i64 t290)) (fun _ h_ => h_.1))) hb); replace HO273 := mS (Kd.R_below (by (with_reducible repeat (first | apply Kd.R_alloc | apply Kd.R_drewN | apply Kd.R_drew)); exact (Kd.R_mono (Kd.R_far (p := ⟨gb291, 3, none⟩) (Kd.R_far (p := ⟨gb291, 2, none⟩) (Kd.R_far (p := ⟨gb291, 1, none⟩) (Kd.R_far (p := ⟨gb291, 0, none⟩) (Kd.R_types HO273.out BK291.out (by decide)) (fun _ hk => hk.2) (.slice Ao32 t281.length co32)) (fun _ hk => hk.2) (.slice Ao35 t284.length co35)) (fun _ hk => hk.2) (.slice Ao36 t287.length co36)) (fun _ hk => hk.2) (.int .i64 t290)) (fun _ h_ => h_.1))) hb); replace HO276 := mS (Kd.R_below (by (with_reducible repeat (first | apply Kd.R_alloc | apply Kd.R_drewN | apply Kd.R_drew)); exact (Kd.R_mono (Kd.R_far (p := ⟨gb291, 3, none⟩) (Kd.R_far (p := ⟨gb291, 2, none⟩) (Kd.R_far (p := ⟨gb291, 1, none⟩) (Kd.R_far (p := ⟨gb291, 0, none⟩) (Kd.R_types HO276.out BK291.out (by decide)) (fun _ hk => hk.2) (.slice Ao32 t281.length co32)) (fun _ hk => hk.2) (.slice Ao35 t284.length co35)) (fun _ hk => hk.2) (.slice Ao36 t287.length co36)) (fun _ hk => hk.2) (.int .i64 t290)) (fun _ h_ => h_.1))) hb); replace HO283 := mS (Kd.S_below (by (with_reducible repeat (first | apply Kd.S_alloc | apply Kd.S_drewN | apply Kd.S_drew)); exact (Kd.S_mono (Kd.S_far (p := ⟨gb291, 3, none⟩) (Kd.S_far (p := ⟨gb291, 2, none⟩) (Kd.S_far (p := ⟨gb291, 1, none⟩) (Kd.S_far (p := ⟨gb291, 0, none⟩) (Kd.S_types HO283.out BK291.out (by decide)) (fun _ hk => hk.2) (.slice Ao32 t281.length co32)) (fun _ hk => hk.2) (.slice Ao35 t284.length co35)) (fun _ hk => hk.2) (.slice Ao36 t287.length co36)) (fun _ hk => hk.2) (.int .i64 t290)) (fun _ h_ => h_.1))) hb); replace HO286 := mS (Kd.R_below (by (with_reducible repeat (first | apply Kd.R_alloc | apply Kd.R_drewN | apply Kd.R_drew)); exact (Kd.R_mono (Kd.R_far (p := ⟨gb291, 3, none⟩) (Kd.R_far (p := ⟨gb291, 2, none⟩) (Kd.R_far (p := ⟨gb291, 1, none⟩) (Kd.R_far (p := ⟨gb291, 0, none⟩) (Kd.R_types HO286.out BK291.out (by decide)) (fun _ hk => hk.2) (.slice Ao32 t281.length co32)) (fun _ hk => hk.2) (.slice Ao35 t284.length co35)) (fun _ hk => hk.2) (.slice Ao36 t287.length co36)) (fun _ hk => hk.2) (.int .i64 t290)) (fun _ h_ => h_.1))) hb); replace HO289 := mS (Kd.R_below (by (with_reducible repeat (first | apply Kd.R_alloc | apply Kd.R_drewN | apply Kd.R_drew)); exact (Kd.R_mono (Kd.R_far (p := ⟨gb291, 3, none⟩) (Kd.R_far (p := ⟨gb291, 2, none⟩) (Kd.R_far (p := ⟨gb291, 1, none⟩) (Kd.R_far (p := ⟨gb291, 0, none⟩) (Kd.R_types HO289.out BK291.out (by decide)) (fun _ hk => hk.2) (.slice Ao32 t281.length co32)) (fun _ hk => hk.2) (.slice Ao35 t284.length co35)) (fun _ hk => hk.2) (.slice Ao36 t287.length co36)) (fun _ hk => hk.2) (.int .i64 t290)) (fun _ h_ => h_.1))) hb); have HO294 := mS (Kd.R_lower (Kd.R_new' ho0 (Kd.R_lt (by (with_reducible repeat (first | apply Kd.R_alloc | apply Kd.R_drewN | apply Kd.R_drew)); exact (Kd.R_mono (Kd.R_far (p := ⟨gb291, 3, none⟩) (Kd.R_far (p := ⟨gb291, 2, none⟩) (Kd.R_far (p := ⟨gb291, 1, none⟩) (Kd.R_far (p := ⟨gb291, 0, none⟩) (Kd.R_types HO280.out BK291.out (by decide)) (fun _ hk => hk.2) (.slice Ao32 t281.length co32)) (fun _ hk => hk.2) (.slice Ao35 t284.length co35)) (fun _ hk => hk.2) (.slice Ao36 t287.length co36)) (fun _ hk => hk.2) (.int .i64 t290)) (fun _ h_ => h_.1))))) (below_size (mH2 HB.out GE266.out GE291.out))); replace HO280 := mS (Kd.R_elder' (by (with_reducible repeat (first | apply Kd.R_alloc | apply Kd.R_drewN | apply Kd.R_drew)); exact (Kd.R_mono (Kd.R_far (p := ⟨gb291, 3, none⟩) (Kd.R_far (p := ⟨gb291, 2, none⟩) (Kd.R_far (p := ⟨gb291, 1, none⟩) (Kd.R_far (p := ⟨gb291, 0, none⟩) (Kd.R_types HO280.out BK291.out (by decide)) (fun _ hk => hk.2) (.slice Ao32 t281.length co32)) (fun _ hk => hk.2) (.slice Ao35 t284.length co35)) (fun _ hk => hk.2) (.slice Ao36 t287.length co36)) (fun _ hk => hk.2) (.int .i64 t290)) (fun _ h_ => h_.1))) (Kd.R_base ho0) hb); replace BK266 := mS (blk_below (g := gb266) (o := .cells #[.slice A0_0 l0_0.length c0_0, .slice A0_1 l0_1.length c0_1, .slice A0_2 l0_2.length c0_2, .int .i64 a0_3] 71 (0, 0)) (by (with_reducible repeat (first | refine blk_drewN ?_ _ | refine blk_drew ?_ | refine blk_alloc ?_ _)); refine blk_far ?_ NB266_291.out _; (with_reducible repeat (first | refine blk_drewN ?_ _ | refine blk_drew ?_ | refine blk_alloc ?_ _)); refine blk_far ?_ NB266_291.out _; (with_reducible repeat (first | refine blk_drewN ?_ _ | refine blk_drew ?_ | refine blk_alloc ?_ _)); refine blk_far ?_ NB266_291.out _; (with_reducible repeat (first | refine blk_drewN ?_ _ | refine blk_drew ?_ | refine blk_alloc ?_ _)); refine blk_far ?_ NB266_291.out _; (with_reducible repeat (first | refine blk_drewN ?_ _ | refine blk_drew ?_ | refine blk_alloc ?_ _)); exact BK266.out) hb); replace BK291 := mS (blk_below (g := gb291) (o := .cells #[.slice Ao32 t281.length co32, .slice Ao35 t284.length co35, .slice Ao36 t287.length co36, .int .i64 t290] 63 (0, 0)) (by (with_reducible repeat (first | refine blk_drewN ?_ _ | refine blk_drew ?_ | refine blk_alloc ?_ _)); refine blk_put (cs := #[.slice Ao32 t281.length co32, .slice Ao35 t284.length co35, .slice Ao36 t287.length co36, .int .i64 0]) ?_ 3 _ rfl; (with_reducible repeat (first | refine blk_drewN ?_ _ | refine blk_drew ?_ | refine blk_alloc ?_ _)); refine blk_put (cs := #[.slice Ao32 t281.length co32, .slice Ao35 t284.length co35, .slice none 0 0, .int .i64 0]) ?_ 2 _ rfl; (with_reducible repeat (first | refine blk_drewN ?_ _ | refine blk_drew ?_ | refine blk_alloc ?_ _)); refine blk_put (cs := #[.slice Ao32 t281.length co32, .slice none 0 0, .slice none 0 0, .int .i64 0]) ?_ 1 _ rfl; (with_reducible repeat (first | refine blk_drewN ?_ _ | refine blk_drew ?_ | refine blk_alloc ?_ _)); refine blk_put (cs := #[.slice none 0 0, .slice none 0 0, .slice none 0 0, .int .i64 0]) ?_ 0 _ rfl; (with_reducible repeat (first | refine blk_drewN ?_ _ | refine blk_drew ?_ | refine blk_alloc ?_ _)); exact BK291.out) hb); replace HB := mS (below_step (mH2 HB.out GE266.out GE291.out) hb); (try clear hb); (try clear hb2); (try clear hk); (try clear hi); (try clear ho0); obtain ⟨Ao38, co38, eo38⟩ := Kd.R_slice HO294.out; subst eo38; obtain ⟨Ao39, co39, eo39⟩ := Kd.R_slice HO280.out; subst eo39) | ((with_reducible refine gate_callee (f := 49) rfl ?_); refine goesL_ (some 25) rfl rfl Try.func49 (by kernel_rfl) rfl #[.slice Ao38 t292.length co38, .slice Ao39 t278.length co39] rfl mA ?_; (with_reducible refine (laws_eqStringS.calls k _ _ t292 _ _ t278 true _ ?side1 ?side2 ?side3 ?side4 A11.out).mono ?_); (case side1 => repeat (first | exact (Kd.R_reads' HO294.out).2.2 | (with_reducible refine Kd.C_alloc ?_ _) | (with_reducible refine Kd.C_drewN ?_ _) | (with_reducible refine Kd.C_drew ?_))); (case side2 => exact (Kd.R_reads' HO294.out).2.1); (case side3 => repeat (first | exact (Kd.R_reads' HO280.out).2.2 | (with_reducible refine Kd.C_alloc ?_ _) | (with_reducible refine Kd.C_drewN ?_ _) | (with_reducible refine Kd.C_drew ?_))); (case side4 => exact (Kd.R_reads' HO280.out).2.1); rintro e w' ⟨rfl, ⟨nd, rfl⟩⟩; refine ⟨_, rfl, ?_⟩))
    (try (rw [drewN_self w37]; generalize hq_ : World.drewN w37 _ = w37; have n0_ : Aside0 (Kd.S k120 120 w37 w.heap.size (fun k_ => (((True ∧ z23 ≤ k_) ∧ some k_ ≠ (.slice Ao32 t281.length co32 : Value).ownBlock) ∧ k_ < z30)) (.slice Ao24 t268.length co24) t268) := ⟨by rw [← hq_]; exact (by (with_reducible repeat (first | apply Kd.S_alloc | apply Kd.S_drewN | apply Kd.S_drew)); exact HO270.out)⟩; have n1_ : Aside0 (Kd.R k126 126 w37 w.heap.size (fun k_ => ((some k_ ≠ (.slice Ao26 t274.length co26 : Value).ownBlock ∧ some k_ ≠ (.slice Ao35 t284.length co35 : Value).ownBlock) ∧ some k_ ≠ (.slice Ao36 t287.length co36 : Value).ownBlock)) (.slice Ao25 t271.length co25) t271) := ⟨by rw [← hq_]; exact (mR HO273.out)⟩; have n2_ : Aside0 (Kd.R k126 126 w37 w.heap.size (fun k_ => ((some k_ ≠ (.slice Ao25 t271.length co25 : Value).ownBlock ∧ some k_ ≠ (.slice Ao35 t284.length co35 : Value).ownBlock) ∧ some k_ ≠ (.slice Ao36 t287.length co36 : Value).ownBlock)) (.slice Ao26 t274.length co26) t274) := ⟨by rw [← hq_]; exact (mR HO276.out)⟩; have n3_ : Aside0 (Kd.R Kd.string 9 w37 w.heap.size (fun k_ => (True ∧ some k_ ≠ (.slice Ao38 t292.length co38 : Value).ownBlock)) (.slice Ao39 t278.length co39) t278) := ⟨by rw [← hq_]; exact (mR HO280.out)⟩; have n4_ : Aside0 (Kd.S k120 120 w37 w.heap.size (fun k_ => ((True ∧ z30 ≤ k_) ∧ some k_ ≠ (.slice Ao24 t268.length co24 : Value).ownBlock)) (.slice Ao32 t281.length co32) t281) := ⟨by rw [← hq_]; exact (by (with_reducible repeat (first | apply Kd.S_alloc | apply Kd.S_drewN | apply Kd.S_drew)); exact HO283.out)⟩; have n5_ : Aside0 (Kd.R k126 126 w37 w.heap.size (fun k_ => ((some k_ ≠ (.slice Ao36 t287.length co36 : Value).ownBlock ∧ some k_ ≠ (.slice Ao25 t271.length co25 : Value).ownBlock) ∧ some k_ ≠ (.slice Ao26 t274.length co26 : Value).ownBlock)) (.slice Ao35 t284.length co35) t284) := ⟨by rw [← hq_]; exact (mR HO286.out)⟩; have n6_ : Aside0 (Kd.R k126 126 w37 w.heap.size (fun k_ => ((some k_ ≠ (.slice Ao35 t284.length co35 : Value).ownBlock ∧ some k_ ≠ (.slice Ao25 t271.length co25 : Value).ownBlock) ∧ some k_ ≠ (.slice Ao26 t274.length co26 : Value).ownBlock)) (.slice Ao36 t287.length co36) t287) := ⟨by rw [← hq_]; exact (mR HO289.out)⟩; have n7_ : Aside0 (Kd.R Kd.string 9 w37 w.heap.size (fun k_ => (True ∧ some k_ ≠ (.slice Ao39 t278.length co39 : Value).ownBlock)) (.slice Ao38 t292.length co38) t292) := ⟨by rw [← hq_]; exact (mR HO294.out)⟩; have n8_ : Aside0 (w37.heap[gb266]? = some (.cells #[.slice A0_0 l0_0.length c0_0, .slice A0_1 l0_1.length c0_1, .slice A0_2 l0_2.length c0_2, .int .i64 a0_3] 71 (0, 0))) := ⟨by rw [← hq_]; exact (mK BK266.out)⟩; have n9_ : Aside0 (w37.heap[gb291]? = some (.cells #[.slice Ao32 t281.length co32, .slice Ao35 t284.length co35, .slice Ao36 t287.length co36, .int .i64 t290] 63 (0, 0))) := ⟨by rw [← hq_]; exact (mK BK291.out)⟩; have n10_ : Aside0 (Below w.heap.size w w37) := ⟨by rw [← hq_]; exact (mH2 HB.out GE266.out GE291.out)⟩; clear HO270 HO273 HO276 HO280 HO283 HO286 HO289 HO294 BK266 BK291 HB hq_; have HO270 := n0_; have HO273 := n1_; have HO276 := n2_; have HO280 := n3_; have HO283 := n4_; have HO286 := n5_; have HO289 := n6_; have HO294 := n7_; have BK266 := n8_; have BK291 := n9_; have HB := n10_; clear n0_ n1_ n2_ n3_ n4_ n5_ n6_ n7_ n8_ n9_ n10_))
    have n0_ := mS (Kd.S_drew HO270.out)
    have n1_ := mS (Kd.R_drew HO273.out)
    have n2_ := mS (Kd.R_drew HO276.out)
    have n3_ := mS (Kd.R_drew HO280.out)
    have n4_ := mS (Kd.S_drew HO283.out)
    have n5_ := mS (Kd.R_drew HO286.out)
    have n6_ := mS (Kd.R_drew HO289.out)
    have n7_ := mS (Kd.R_drew HO294.out)
    have n8_ := mS (blk_drew BK266.out)
    have n9_ := mS (blk_drew BK291.out)
    have n10_ := mS (below_drew1 HB.out)
    clear HO270
    clear HO273
    clear HO276
    clear HO280
    clear HO283
    clear HO286
    clear HO289
    clear HO294
    clear BK266
    clear BK291
    clear HB
    have HO270 := n0_
    have HO273 := n1_
    have HO276 := n2_
    have HO280 := n3_
    have HO283 := n4_
    have HO286 := n5_
    have HO289 := n6_
    have HO294 := n7_
    have BK266 := n8_
    have BK291 := n9_
    have HB := n10_
    clear n0_ n1_ n2_ n3_ n4_ n5_ n6_ n7_ n8_ n9_ n10_
    refine start_ (n := 5) (S := fun w' => w'.cell? ⟨gb291, 0, none⟩ = some (.slice Ao32 t281.length co32) ∧ w'.cell? ⟨gb291, 1, none⟩ = some (.slice Ao35 t284.length co35) ∧ w'.cell? ⟨gb291, 2, none⟩ = some (.slice Ao36 t287.length co36) ∧ w'.cell? ⟨gb291, 3, none⟩ = some (.int .i64 t290) ∧ w'.cell? ⟨gb266, 0, none⟩ = some (.slice A0_0 l0_0.length c0_0) ∧ w'.cell? ⟨gb266, 1, none⟩ = some (.slice A0_1 l0_1.length c0_1) ∧ w'.cell? ⟨gb266, 2, none⟩ = some (.slice A0_2 l0_2.length c0_2) ∧ w'.cell? ⟨gb266, 3, none⟩ = some (.int .i64 a0_3)) (ds := []) (mb 0 5) (by kernel_rfl) rfl rfl ⟨mZ BK291.out 0, mZ BK291.out 1, mZ BK291.out 2, mZ BK291.out 3, mZ BK266.out 0, mZ BK266.out 1, mZ BK266.out 2, mZ BK266.out 3⟩ (fun hHeld => ?_)
    generalize w37.drew = w40 at HO270 HO273 HO276 HO280 HO283 HO286 HO289 HO294 BK266 BK291 HB hHeld ⊢
    refine take_ (i := 0) (N := some 27) (v := ?_) (a' := ?_) (mb 1 4) rfl rfl (by kernel_rfl) (fun _ _ _ h => h) (Or.inl ⟨by rfl, ?_⟩) hHeld ?_ ?_
    rotate_left
    ·rintro w' ⟨s0, s1, s2, s3, s4, s5, s6, s7⟩
     go_simp
     with_reducible rfl
    rotate_left
    ·simp only [Act.put, zA, zB, zC, i64_w, i32_w]
     rfl
    refine take_ (i := 1) (N := some 28) (v := ?_) (a' := ?_) (mb 2 3) rfl rfl (by kernel_rfl) (fun _ _ _ h => h) (Or.inl ⟨by rfl, ?_⟩) hHeld ?_ ?_
    rotate_left
    ·rintro w' ⟨s0, s1, s2, s3, s4, s5, s6, s7⟩
     go_simp
     with_reducible rfl
    rotate_left
    ·simp only [Act.put, zA, zB, zC, i64_w, i32_w]
     rfl
    refine one_ (i := 2) (N := some 29) (mb 3 2) rfl rfl (by kernel_rfl) (by decide) (fun K hK => ?_)
    refine goes_ Try.func45 (by kernel_rfl) rfl #[.agg #[.slice A0_0 l0_0.length c0_0, .slice A0_1 l0_1.length c0_1, .slice A0_2 l0_2.length c0_2, .int .i64 a0_3]] (by rfl) rfl rfl mA ?_
    with_reducible refine (laws_toDisk.calls k _ _ l0_0 _ _ l0_1 _ _ l0_2 a0_3 t296 t299 t302 t305 _ ?side1 ?side2 ?side3 ?side4 ?side5 ?side6 A13.out).mono ?_
    (case side1 => repeat (first | exact (Kd.C_below HR0_0.out HB.out) | (with_reducible refine Kd.C_alloc ?_ _) | (with_reducible refine Kd.C_drewN ?_ _) | (with_reducible refine Kd.C_drew ?_)))
    (case side2 => exact HC0_0.out)
    (case side3 => repeat (first | exact (Kd.C_below HR0_1.out HB.out) | (with_reducible refine Kd.C_alloc ?_ _) | (with_reducible refine Kd.C_drewN ?_ _) | (with_reducible refine Kd.C_drew ?_)))
    (case side4 => exact HC0_1.out)
    (case side5 => repeat (first | exact (Kd.C_below HR0_2.out HB.out) | (with_reducible refine Kd.C_alloc ?_ _) | (with_reducible refine Kd.C_drewN ?_ _) | (with_reducible refine Kd.C_drew ?_)))
    (case side6 => exact HC0_2.out)
    rintro e w41 ⟨v297, v300, v303, rfl, ho0, ho1, ho2, hb⟩
    refine ⟨_, rfl, ?_⟩
    obtain ⟨z42, hz42⟩ := MWords.mp_size hb
    have n0_ := mS (MWords.mp_ltS (Kd.S_told (Kd.S_old (by (with_reducible repeat (first | apply Kd.S_alloc | apply Kd.S_drewN | apply Kd.S_drew)); exact HO270.out) hb) (Kd.S_base ho0)) hz42)
    have n1_ := mS (Kd.R_mono (Kd.R_told (Kd.R_told (Kd.R_old (mR HO273.out) hb) (Kd.R_base ho1)) (Kd.R_base ho2)) (fun _ h_ => h_.1))
    have n2_ := mS (Kd.R_mono (Kd.R_told (Kd.R_told (Kd.R_old (mR HO276.out) hb) (Kd.R_base ho1)) (Kd.R_base ho2)) (fun _ h_ => h_.1))
    have n3_ := mS (Kd.R_below (mR HO280.out) hb)
    have n4_ := mS (MWords.mp_ltS (Kd.S_told (Kd.S_old (by (with_reducible repeat (first | apply Kd.S_alloc | apply Kd.S_drewN | apply Kd.S_drew)); exact HO283.out) hb) (Kd.S_base ho0)) hz42)
    have n5_ := mS (Kd.R_mono (Kd.R_told (Kd.R_told (Kd.R_old (mR HO286.out) hb) (Kd.R_base ho1)) (Kd.R_base ho2)) (fun _ h_ => h_.1))
    have n6_ := mS (Kd.R_mono (Kd.R_told (Kd.R_told (Kd.R_old (mR HO289.out) hb) (Kd.R_base ho1)) (Kd.R_base ho2)) (fun _ h_ => h_.1))
    have n7_ := mS (Kd.R_below (mR HO294.out) hb)
    have n8_ := mS (Kd.S_lower (Kd.S_new' (Kd.S_new' (MWords.mp_geS ho0 hz42) (Kd.S_lt (by (with_reducible repeat (first | apply Kd.S_alloc | apply Kd.S_drewN | apply Kd.S_drew)); exact HO270.out))) (Kd.S_lt (by (with_reducible repeat (first | apply Kd.S_alloc | apply Kd.S_drewN | apply Kd.S_drew)); exact HO283.out))) (below_size (mH2 HB.out GE266.out GE291.out)))
    have n9_ := mS (Kd.R_lower (Kd.R_new' (Kd.R_new' (Kd.R_new' (Kd.R_new' ho1 (Kd.R_lt (mR HO273.out))) (Kd.R_lt (mR HO276.out))) (Kd.R_lt (mR HO286.out))) (Kd.R_lt (mR HO289.out))) (below_size (mH2 HB.out GE266.out GE291.out)))
    have n10_ := mS (Kd.R_lower (Kd.R_new' (Kd.R_new' (Kd.R_new' (Kd.R_new' ho2 (Kd.R_lt (mR HO273.out))) (Kd.R_lt (mR HO276.out))) (Kd.R_lt (mR HO286.out))) (Kd.R_lt (mR HO289.out))) (below_size (mH2 HB.out GE266.out GE291.out)))
    have n11_ := mB BK266 hb
    have n12_ := mB BK291 hb
    have n13_ := mS (below_step (mH2 HB.out GE266.out GE291.out) hb)
    clear HO270
    clear HO273
    clear HO276
    clear HO280
    clear HO283
    clear HO286
    clear HO289
    clear HO294
    clear BK266
    clear BK291
    clear HB
    have HO270 := n0_
    have HO273 := n1_
    have HO276 := n2_
    have HO280 := n3_
    have HO283 := n4_
    have HO286 := n5_
    have HO289 := n6_
    have HO294 := n7_
    have HO298 := n8_
    have HO301 := n9_
    have HO304 := n10_
    have BK266 := n11_
    have BK291 := n12_
    have HB := n13_
    clear n0_ n1_ n2_ n3_ n4_ n5_ n6_ n7_ n8_ n9_ n10_ n11_ n12_ n13_
    (try clear hb)
    (try clear hb2)
    (try clear hk)
    (try clear hi)
    (try clear ho0)
    (try clear ho1)
    (try clear ho2)
    obtain ⟨Ao43, co43, eo43⟩ := Kd.S_slice HO298.out
    (first | subst eo43 | (injection eo43 with f1_ f2_ f3_; have f4_ := f1_.symm; have f5_ := f3_.symm; clear f1_ f2_ f3_; subst f4_; subst f5_))
    obtain ⟨Ao44, co44, eo44⟩ := Kd.R_slice HO301.out
    (first | subst eo44 | (injection eo44 with f1_ f2_ f3_; have f4_ := f1_.symm; have f5_ := f3_.symm; clear f1_ f2_ f3_; subst f4_; subst f5_))
    obtain ⟨Ao45, co45, eo45⟩ := Kd.R_slice HO304.out
    (first | subst eo45 | (injection eo45 with f1_ f2_ f3_; have f4_ := f1_.symm; have f5_ := f3_.symm; clear f1_ f2_ f3_; subst f4_; subst f5_))
    refine hK.out _ _ ⟨mZ BK291.out 0, mZ BK291.out 1, mZ BK291.out 2, mZ BK291.out 3, mZ BK266.out 0, mZ BK266.out 1, mZ BK266.out 2, mZ BK266.out 3⟩ (fun hHeld => ?_)
    clear hK K
    refine norm_ (a' := ?_) ?_ ?_
    rotate_left
    ·show Act.put _ (some 29) _ = _
     simp only [Act.put, zA, zB, zC, i64_w, i32_w]
     rfl
    refine one_ (i := 3) (N := some 30) (mb 4 1) rfl rfl (by kernel_rfl) (by decide) (fun K hK => ?_)
    refine goes_ Try.func40 (by kernel_rfl) rfl #[.agg #[.slice Ao32 t281.length co32, .slice Ao35 t284.length co35, .slice Ao36 t287.length co36, .int .i64 t290], .agg #[.slice Ao43 t296.length co43, .slice Ao44 t299.length co44, .slice Ao45 t302.length co45, .int .i64 t305]] (by rfl) rfl rfl mA ?_
    with_reducible refine (laws_eqDisk.calls k _ _ t281 _ _ t284 _ _ t287 t290 _ _ t296 _ _ t299 _ _ t302 t305 true _ ?side1 ?side2 ?side3 ?side4 ?side5 ?side6 ?side7 ?side8 ?side9 ?side10 ?side11 ?side12 A14.out).mono ?_
    (case side1 => repeat (first | exact (Kd.S_reads' HO283.out).2.2 | (with_reducible refine Kd.C_alloc ?_ _) | (with_reducible refine Kd.C_drewN ?_ _) | (with_reducible refine Kd.C_drew ?_)))
    (case side2 => exact (Kd.S_reads' HO283.out).2.1)
    (case side3 => repeat (first | exact (Kd.R_reads' HO286.out).2.2 | (with_reducible refine Kd.C_alloc ?_ _) | (with_reducible refine Kd.C_drewN ?_ _) | (with_reducible refine Kd.C_drew ?_)))
    (case side4 => exact (Kd.R_reads' HO286.out).2.1)
    (case side5 => repeat (first | exact (Kd.R_reads' HO289.out).2.2 | (with_reducible refine Kd.C_alloc ?_ _) | (with_reducible refine Kd.C_drewN ?_ _) | (with_reducible refine Kd.C_drew ?_)))
    (case side6 => exact (Kd.R_reads' HO289.out).2.1)
    (case side7 => repeat (first | exact (Kd.S_reads' HO298.out).2.2 | (with_reducible refine Kd.C_alloc ?_ _) | (with_reducible refine Kd.C_drewN ?_ _) | (with_reducible refine Kd.C_drew ?_)))
    (case side8 => exact (Kd.S_reads' HO298.out).2.1)
    (case side9 => repeat (first | exact (Kd.R_reads' HO301.out).2.2 | (with_reducible refine Kd.C_alloc ?_ _) | (with_reducible refine Kd.C_drewN ?_ _) | (with_reducible refine Kd.C_drew ?_)))
    (case side10 => exact (Kd.R_reads' HO301.out).2.1)
    (case side11 => repeat (first | exact (Kd.R_reads' HO304.out).2.2 | (with_reducible refine Kd.C_alloc ?_ _) | (with_reducible refine Kd.C_drewN ?_ _) | (with_reducible refine Kd.C_drew ?_)))
    (case side12 => exact (Kd.R_reads' HO304.out).2.1)
    rintro e w46 ⟨rfl, hb⟩
    refine ⟨_, rfl, ?_⟩
    have n0_ := mS (Kd.S_below (by (with_reducible repeat (first | apply Kd.S_alloc | apply Kd.S_drewN | apply Kd.S_drew)); exact HO270.out) hb)
    have n1_ := mS (Kd.R_below (mR HO273.out) hb)
    have n2_ := mS (Kd.R_below (mR HO276.out) hb)
    have n3_ := mS (Kd.R_below (mR HO280.out) hb)
    have n4_ := mS (Kd.S_below (by (with_reducible repeat (first | apply Kd.S_alloc | apply Kd.S_drewN | apply Kd.S_drew)); exact HO283.out) hb)
    have n5_ := mS (Kd.R_below (mR HO286.out) hb)
    have n6_ := mS (Kd.R_below (mR HO289.out) hb)
    have n7_ := mS (Kd.R_below (mR HO294.out) hb)
    have n8_ := mS (Kd.S_below (by (with_reducible repeat (first | apply Kd.S_alloc | apply Kd.S_drewN | apply Kd.S_drew)); exact HO298.out) hb)
    have n9_ := mS (Kd.R_below (mR HO301.out) hb)
    have n10_ := mS (Kd.R_below (mR HO304.out) hb)
    have n11_ := mB BK266 hb
    have n12_ := mB BK291 hb
    have n13_ := mS (below_step (mH2 HB.out GE266.out GE291.out) hb)
    clear HO270
    clear HO273
    clear HO276
    clear HO280
    clear HO283
    clear HO286
    clear HO289
    clear HO294
    clear HO298
    clear HO301
    clear HO304
    clear BK266
    clear BK291
    clear HB
    have HO270 := n0_
    have HO273 := n1_
    have HO276 := n2_
    have HO280 := n3_
    have HO283 := n4_
    have HO286 := n5_
    have HO289 := n6_
    have HO294 := n7_
    have HO298 := n8_
    have HO301 := n9_
    have HO304 := n10_
    have BK266 := n11_
    have BK291 := n12_
    have HB := n13_
    clear n0_ n1_ n2_ n3_ n4_ n5_ n6_ n7_ n8_ n9_ n10_ n11_ n12_ n13_
    (try clear hb)
    (try clear hb2)
    (try clear hk)
    (try clear hi)
    refine hK.out _ _ ⟨mZ BK291.out 0, mZ BK291.out 1, mZ BK291.out 2, mZ BK291.out 3, mZ BK266.out 0, mZ BK266.out 1, mZ BK266.out 2, mZ BK266.out 3⟩ (fun hHeld => ?_)
    clear hK K
    refine norm_ (a' := ?_) ?_ ?_
    rotate_left
    ·show Act.put _ (some 30) _ = _
     simp only [Act.put, zA, zB, zC, i64_w, i32_w]
     rfl
    refine pure_ (i := 4) (N := some 31) (v := ?_) (a' := ?_) (mb 5 0) rfl rfl (by kernel_rfl) (fun _ _ _ h => h) (Or.inl ⟨by rfl, ?_⟩) ?_ ?_
    rotate_left
    ·intro w'
     go_simp
     with_reducible rfl
    rotate_left
    ·simp only [Act.put, zA, zB, zC, i64_w, i32_w]
     rfl
    refine done_ (by kernel_rfl) ?_
    have hcz47_0 := mZ BK291.out 0
    have hcz47_1 := mZ BK291.out 1
    have hcz47_2 := mZ BK291.out 2
    have hcz47_3 := mZ BK291.out 3
    have hfz47_0 := blk_frozen BK291.out 0
    have hfz47_1 := blk_frozen BK291.out 1
    have hfz47_2 := blk_frozen BK291.out 2
    have hfz47_3 := blk_frozen BK291.out 3
    go_upto_region 14 with (first | ((with_reducible refine gate_callee (f := 41) rfl ?_); refine goesL_ (some 34) rfl rfl Try.func41 (by kernel_rfl) rfl #[.agg #[.slice Ao32 t281.length co32, .slice Ao35 t284.length co35, .slice Ao36 t287.length co36, .int .i64 t290], .int .i64 1] rfl mA ?_; (with_reducible refine (laws_markDisk.calls k (fun k_ => ((((((((((((((True ∧ z30 ≤ k_) ∧ some k_ ≠ (.slice Ao24 t268.length co24 : Value).ownBlock) ∧ some k_ ≠ (.slice Ao43 t296.length co43 : Value).ownBlock) ∧ k_ < z42) ∧ some k_ ≠ (.slice Ao25 t271.length co25 : Value).ownBlock) ∧ some k_ ≠ (.slice Ao26 t274.length co26 : Value).ownBlock) ∧ some k_ ≠ (.slice Ao39 t278.length co39 : Value).ownBlock) ∧ some k_ ≠ (.slice Ao35 t284.length co35 : Value).ownBlock) ∧ some k_ ≠ (.slice Ao36 t287.length co36 : Value).ownBlock) ∧ some k_ ≠ (.slice Ao38 t292.length co38 : Value).ownBlock) ∧ some k_ ≠ (.slice Ao44 t299.length co44 : Value).ownBlock) ∧ some k_ ≠ (.slice Ao45 t302.length co45 : Value).ownBlock) ∧ k_ ≠ gb266) ∧ k_ ≠ gb291) ∧ w.heap.size ≤ k_) (.slice Ao32 t281.length co32) t281 (fun k_ => some k_ = (.slice Ao35 t284.length co35 : Value).ownBlock) (.slice Ao35 t284.length co35) t284 (fun k_ => some k_ = (.slice Ao36 t287.length co36 : Value).ownBlock) (.slice Ao36 t287.length co36) t287 t290 1 t307 t308 t309 t310 w _ ?side1 ?side2 ?side3 ?side4 ?side5 ?side6 A16.out).mono ?_); (case side1 => repeat (first | (with_reducible first | exact HB.out | apply below_alloc | apply pw_below_drewN | apply below_drew1 | refine below_set ?_ GE266.out | refine below_set ?_ GE291.out) | exact HB.out)); (case side2 => exact Kd.S_mono (Kd.S_bound (Kd.S_types (Kd.S_types (Kd.S_apart' (Kd.S_apart' (Kd.S_apart' (Kd.S_apart' (Kd.S_apart' (Kd.S_apart' (Kd.S_apart' (Kd.S_apart' HO283.out (Kd.R_typed HO273.out) (by decide)) (Kd.R_typed HO276.out) (by decide)) (Kd.R_typed HO280.out) (by decide)) (Kd.R_typed HO286.out) (by decide)) (Kd.R_typed HO289.out) (by decide)) (Kd.R_typed HO294.out) (by decide)) (Kd.R_typed HO301.out) (by decide)) (Kd.R_typed HO304.out) (by decide)) BK266.out (by decide)) BK291.out (by decide))) (fun k_ h_ => (⟨h_.1, h_.2.1⟩ : _ ∧ _))); (case side3 => exact Kd.R_tight rfl HO286.out); (case side4 => exact fun k_ e_ => (HO286.out.1 k_ e_.symm).1.1.1.1); (case side5 => exact Kd.R_tight rfl HO289.out); (case side6 => exact fun k_ e_ => (HO289.out.1 k_ e_.symm).1.1.1.1); rintro e w48 ⟨rfl, hy0, hy1, hy2, hb, hkp⟩; refine ⟨_, rfl, ?_⟩; replace BK266 := mS (blk_kept (mK BK266.out) hkp (fun hs_ => Or.elim hs_ (fun e_ => (fun e_ => (e_.1.1.2) rfl) e_) (fun e_ => Or.elim e_ (fun e_ => (fun e_ => (Kd.R_ne HO286.out BK266.out (by decide)) e_) e_) (fun e_ => (fun e_ => (Kd.R_ne HO289.out BK266.out (by decide)) e_) e_)))); replace HO270 := mS (Kd.S_mono (ok' := fun k_ => some k_ ≠ (.slice Ao32 t281.length co32 : Value).ownBlock ∧ some k_ ≠ (.slice Ao43 t296.length co43 : Value).ownBlock ∧ z23 ≤ k_ ∧ k_ < z30 ∧ k_ < z42) (Kd.S_keptB ((Kd.S_apart' (Kd.S_apart' HO270.out (Kd.R_typed HO286.out) (by decide)) (Kd.R_typed HO289.out) (by decide))) hkp (fun k_ hk_ hs_ => Or.elim hs_ (fun e_ => (fun e_ => Nat.lt_irrefl _ (Nat.lt_of_lt_of_le (hk_.1.1.1.1.2) (e_.1.1.1.1.1.1.1.1.1.1.1.1.1.1.2))) e_) (fun e_ => Or.elim e_ (fun e_ => (hk_.1.2) e_) (fun e_ => (hk_.2) e_)))) (fun k_ hk_ => ⟨hk_.1.1.1.1.1.1.2, hk_.1.1.1.1.2, hk_.1.1.1.1.1.1.1.2, hk_.1.1.1.1.1.2, hk_.1.1.1.2⟩)); replace HO273 := mS (Kd.R_mono (ok' := fun k_ => some k_ ≠ (.slice Ao26 t274.length co26 : Value).ownBlock ∧ some k_ ≠ (.slice Ao35 t284.length co35 : Value).ownBlock ∧ some k_ ≠ (.slice Ao36 t287.length co36 : Value).ownBlock ∧ some k_ ≠ (.slice Ao44 t299.length co44 : Value).ownBlock ∧ some k_ ≠ (.slice Ao45 t302.length co45 : Value).ownBlock) (Kd.R_keptB ((Kd.R_tight2 rfl HO273.out)) hkp (fun k_ hk_ hs_ => Or.elim hs_ (fun e_ => (fun e_ => (e_.1.1.1.1.1.1.1.1.1.1.2) (hk_.1)) e_) (fun e_ => Or.elim e_ (fun e_ => (hk_.2.1.1.1.2) e_) (fun e_ => (hk_.2.1.1.2) e_)))) (fun k_ hk_ => ⟨hk_.1.2.1.1.1.1, hk_.1.2.1.1.1.2, hk_.1.2.1.1.2, hk_.1.2.1.2, hk_.1.2.2⟩)); replace HO276 := mS (Kd.R_mono (ok' := fun k_ => some k_ ≠ (.slice Ao25 t271.length co25 : Value).ownBlock ∧ some k_ ≠ (.slice Ao35 t284.length co35 : Value).ownBlock ∧ some k_ ≠ (.slice Ao36 t287.length co36 : Value).ownBlock ∧ some k_ ≠ (.slice Ao44 t299.length co44 : Value).ownBlock ∧ some k_ ≠ (.slice Ao45 t302.length co45 : Value).ownBlock) (Kd.R_keptB ((Kd.R_tight2 rfl HO276.out)) hkp (fun k_ hk_ hs_ => Or.elim hs_ (fun e_ => (fun e_ => (e_.1.1.1.1.1.1.1.1.1.2) (hk_.1)) e_) (fun e_ => Or.elim e_ (fun e_ => (hk_.2.1.1.1.2) e_) (fun e_ => (hk_.2.1.1.2) e_)))) (fun k_ hk_ => ⟨hk_.1.2.1.1.1.1, hk_.1.2.1.1.1.2, hk_.1.2.1.1.2, hk_.1.2.1.2, hk_.1.2.2⟩)); replace HO280 := mS (Kd.R_mono (ok' := fun k_ => some k_ ≠ (.slice Ao38 t292.length co38 : Value).ownBlock) (Kd.R_keptB ((Kd.R_apart' (Kd.R_apart' (Kd.R_tight2 rfl HO280.out) (Kd.R_typed HO286.out) (by decide)) (Kd.R_typed HO289.out) (by decide))) hkp (fun k_ hk_ hs_ => Or.elim hs_ (fun e_ => (fun e_ => (e_.1.1.1.1.1.1.1.1.2) (hk_.1.1.1)) e_) (fun e_ => Or.elim e_ (fun e_ => (hk_.1.2) e_) (fun e_ => (hk_.2) e_)))) (fun k_ hk_ => hk_.1.1.1.2.2)); replace HO283 := mS (Kd.S_mono (ok' := fun k_ => ((((True ∧ z30 ≤ k_) ∧ some k_ ≠ (.slice Ao24 t268.length co24 : Value).ownBlock) ∧ some k_ ≠ (.slice Ao43 t296.length co43 : Value).ownBlock) ∧ k_ < z42)) hy0 (fun k_ h_ => ⟨⟨⟨⟨trivial, h_.1.1.1.1.1.1.1.1.1.1.1.1.1.1.2⟩, h_.1.1.1.1.1.1.1.1.1.1.1.1.1.2⟩, h_.1.1.1.1.1.1.1.1.1.1.1.1.2⟩, h_.1.1.1.1.1.1.1.1.1.1.1.2⟩)); replace BK291 := mS (blk_kept (mK BK291.out) hkp (fun hs_ => Or.elim hs_ (fun e_ => (fun e_ => (e_.1.2) rfl) e_) (fun e_ => Or.elim e_ (fun e_ => (fun e_ => (Kd.R_ne HO286.out BK291.out (by decide)) e_) e_) (fun e_ => (fun e_ => (Kd.R_ne HO289.out BK291.out (by decide)) e_) e_)))); replace HO294 := mS (Kd.R_mono (ok' := fun k_ => some k_ ≠ (.slice Ao39 t278.length co39 : Value).ownBlock) (Kd.R_keptB ((Kd.R_apart' (Kd.R_apart' (Kd.R_tight2 rfl HO294.out) (Kd.R_typed HO286.out) (by decide)) (Kd.R_typed HO289.out) (by decide))) hkp (fun k_ hk_ hs_ => Or.elim hs_ (fun e_ => (fun e_ => (e_.1.1.1.1.1.2) (hk_.1.1.1)) e_) (fun e_ => Or.elim e_ (fun e_ => (hk_.1.2) e_) (fun e_ => (hk_.2) e_)))) (fun k_ hk_ => hk_.1.1.1.2.2)); replace HO298 := mS (Kd.S_mono (ok' := fun k_ => some k_ ≠ (.slice Ao24 t268.length co24 : Value).ownBlock ∧ some k_ ≠ (.slice Ao32 t281.length co32 : Value).ownBlock ∧ z42 ≤ k_) (Kd.S_keptB ((Kd.S_apart' (Kd.S_apart' HO298.out (Kd.R_typed HO286.out) (by decide)) (Kd.R_typed HO289.out) (by decide))) hkp (fun k_ hk_ hs_ => Or.elim hs_ (fun e_ => (fun e_ => Nat.lt_irrefl _ (Nat.lt_of_lt_of_le (e_.1.1.1.1.1.1.1.1.1.1.1.2) (hk_.1.1.1.1.2))) e_) (fun e_ => Or.elim e_ (fun e_ => (hk_.1.2) e_) (fun e_ => (hk_.2) e_)))) (fun k_ hk_ => ⟨hk_.1.1.1.1.2, hk_.1.1.1.2, hk_.1.1.1.1.1.2⟩)); replace HO286 := mS (Kd.R_reok rfl hy1 (fun k_ e_ => HO286.out.1 k_ e_)); replace HO289 := mS (Kd.R_reok rfl hy2 (fun k_ e_ => HO289.out.1 k_ e_)); replace HO301 := mS (Kd.R_mono (ok' := fun k_ => some k_ ≠ (.slice Ao25 t271.length co25 : Value).ownBlock ∧ some k_ ≠ (.slice Ao26 t274.length co26 : Value).ownBlock ∧ some k_ ≠ (.slice Ao35 t284.length co35 : Value).ownBlock ∧ some k_ ≠ (.slice Ao36 t287.length co36 : Value).ownBlock ∧ some k_ ≠ (.slice Ao45 t302.length co45 : Value).ownBlock) (Kd.R_keptB ((Kd.R_tight2 rfl HO301.out)) hkp (fun k_ hk_ hs_ => Or.elim hs_ (fun e_ => (fun e_ => (e_.1.1.1.1.2) (hk_.1)) e_) (fun e_ => Or.elim e_ (fun e_ => (hk_.2.1.2) e_) (fun e_ => (hk_.2.2) e_)))) (fun k_ hk_ => ⟨hk_.1.2.1.1.1.2, hk_.1.2.1.1.2, hk_.1.2.1.2, hk_.1.2.2, hk_.1.2.1.1.1.1⟩)); replace HO304 := mS (Kd.R_mono (ok' := fun k_ => some k_ ≠ (.slice Ao25 t271.length co25 : Value).ownBlock ∧ some k_ ≠ (.slice Ao26 t274.length co26 : Value).ownBlock ∧ some k_ ≠ (.slice Ao35 t284.length co35 : Value).ownBlock ∧ some k_ ≠ (.slice Ao36 t287.length co36 : Value).ownBlock ∧ some k_ ≠ (.slice Ao44 t299.length co44 : Value).ownBlock) (Kd.R_keptB ((Kd.R_tight2 rfl HO304.out)) hkp (fun k_ hk_ hs_ => Or.elim hs_ (fun e_ => (fun e_ => (e_.1.1.1.2) (hk_.1)) e_) (fun e_ => Or.elim e_ (fun e_ => (hk_.2.1.2) e_) (fun e_ => (hk_.2.2) e_)))) (fun k_ hk_ => ⟨hk_.1.2.1.1.1.2, hk_.1.2.1.1.2, hk_.1.2.1.2, hk_.1.2.2, hk_.1.2.1.1.1.1⟩)); replace HB := mS (hb); (try clear hb); (try clear hkp); (try clear hy0); (try clear hy1); (try clear hy2)))
    (try simp only [Act.put, zA, zB, zC])
    go_cut [42] (fun v42 wc => ∃ (kq : Nat) (x42_16 : Bool), v42 = .bool x42_16 ∧ Aside0 (laws_FnExactList.j0 kq t278 t292 x42_16 l0_0 l0_1 l0_2 a0_3 = some r) ∧ Aside0 (kq ≤ k) ∧ Aside0 (Kd.R Kd.string 9 wc w.heap.size (fun k_ => some k_ ≠ ((.slice Ao38 t292.length co38) : Value).ownBlock) (.slice Ao39 t278.length co39) t278) ∧ Aside0 (Kd.R Kd.string 9 wc w.heap.size (fun k_ => some k_ ≠ ((.slice Ao39 t278.length co39) : Value).ownBlock) (.slice Ao38 t292.length co38) t292) ∧ Aside0 (Kd.S k120 120 wc w.heap.size (fun _ => True) (.slice Ao32 t281.length co32) t308) ∧ Aside0 (Kd.R k126 126 wc w.heap.size (fun k_ => some k_ ≠ ((.slice Ao36 t287.length co36) : Value).ownBlock) (.slice Ao35 t284.length co35) t309) ∧ Aside0 (Kd.R k126 126 wc w.heap.size (fun k_ => some k_ ≠ ((.slice Ao35 t284.length co35) : Value).ownBlock) (.slice Ao36 t287.length co36) t310) ∧ Aside0 (wc.heap[gb266]? = some (.cells #[(.slice A0_0 l0_0.length c0_0), (.slice A0_1 l0_1.length c0_1), (.slice A0_2 l0_2.length c0_2), .int .i64 a0_3] 71 (0, 0))) ∧ Aside0 (wc.heap[gb291]? = some (.cells #[(.slice Ao32 t281.length co32), (.slice Ao35 t284.length co35), (.slice Ao36 t287.length co36), .int .i64 t290] 63 (0, 0))) ∧ Aside0 (Below w.heap.size w wc))
    case first =>
     have H := HC17.out
     clear HC17
     by_cases c49 : t307 < 0
     ·rw [if_pos c49] at H
      have c49b0 : decide (t307 < 0) = true := decide_eq_true c49
      clear c49
      (first | rw [c49b0] | (simp only [i64_w, i32_w]; rw [c49b0]) | skip)
      have H' := mS H
      clear H
      go_wp2
      go_meet
      case rel => exact ⟨_, (true), (by first | rfl | (simp; done) | (simp [*]; done)), H', ⟨by first | omega | exact Nat.le_refl _⟩, ⟨by (with_reducible repeat (first | apply Kd.R_alloc | apply Kd.R_drewN | apply Kd.R_drew)); exact HO280.out⟩, ⟨by (with_reducible repeat (first | apply Kd.R_alloc | apply Kd.R_drewN | apply Kd.R_drew)); exact HO294.out⟩, ⟨by (with_reducible repeat (first | apply Kd.S_alloc | apply Kd.S_drewN | apply Kd.S_drew)); exact Kd.S_mono HO283.out (fun _ hk => trivial)⟩, ⟨by (with_reducible repeat (first | apply Kd.R_alloc | apply Kd.R_drewN | apply Kd.R_drew)); exact Kd.R_mono HO286.out (fun _ hk => hk.1.1.1.1)⟩, ⟨by (with_reducible repeat (first | apply Kd.R_alloc | apply Kd.R_drewN | apply Kd.R_drew)); exact Kd.R_mono HO289.out (fun _ hk => hk.1.1.1.1)⟩, ⟨by (with_reducible repeat (first | refine blk_drewN ?_ _ | refine blk_drew ?_ | refine blk_alloc ?_ _)); exact BK266.out⟩, ⟨by (with_reducible repeat (first | refine blk_drewN ?_ _ | refine blk_drew ?_ | refine blk_alloc ?_ _)); exact BK291.out⟩, ⟨(mH2 HB.out GE266.out GE291.out)⟩⟩
     ·rw [if_neg c49] at H
      have c49b0 : decide (t307 < 0) = false := decide_eq_false c49
      clear c49
      (first | rw [c49b0] | (simp only [i64_w, i32_w]; rw [c49b0]) | skip)
      replace H := Option.bind_eq_some_iff.mp H
      obtain ⟨t311, A500, H⟩ := H
      replace H : (laws_FnExactList.j0 k t278 t292 (!t311) l0_0 l0_1 l0_2 a0_3) = some r := H
      have A50 := mS A500
      clear A500
      have H' := mS H
      clear H
      go_wp2_with (first | (go_at_call 49; (with_reducible refine (laws_eqStringS.calls k _ _ t292 _ _ t278 t311 _ ?side1 ?side2 ?side3 ?side4 A50.out).mono ?_); (case side1 => repeat (first | exact (Kd.R_reads' HO294.out).2.2 | (with_reducible refine Kd.C_alloc ?_ _) | (with_reducible refine Kd.C_drewN ?_ _) | (with_reducible refine Kd.C_drew ?_))); (case side2 => exact (Kd.R_reads' HO294.out).2.1); (case side3 => repeat (first | exact (Kd.R_reads' HO280.out).2.2 | (with_reducible refine Kd.C_alloc ?_ _) | (with_reducible refine Kd.C_drewN ?_ _) | (with_reducible refine Kd.C_drew ?_))); (case side4 => exact (Kd.R_reads' HO280.out).2.1); rintro e w' ⟨rfl, ⟨nd, rfl⟩⟩))
      go_meet
      case rel => exact ⟨_, (!t311), (by first | rfl | (simp; done) | (simp [*]; done)), H', ⟨by first | omega | exact Nat.le_refl _⟩, ⟨by (with_reducible repeat (first | apply Kd.R_alloc | apply Kd.R_drewN | apply Kd.R_drew)); exact HO280.out⟩, ⟨by (with_reducible repeat (first | apply Kd.R_alloc | apply Kd.R_drewN | apply Kd.R_drew)); exact HO294.out⟩, ⟨by (with_reducible repeat (first | apply Kd.S_alloc | apply Kd.S_drewN | apply Kd.S_drew)); exact Kd.S_mono HO283.out (fun _ hk => trivial)⟩, ⟨by (with_reducible repeat (first | apply Kd.R_alloc | apply Kd.R_drewN | apply Kd.R_drew)); exact Kd.R_mono HO286.out (fun _ hk => hk.1.1.1.1)⟩, ⟨by (with_reducible repeat (first | apply Kd.R_alloc | apply Kd.R_drewN | apply Kd.R_drew)); exact Kd.R_mono HO289.out (fun _ hk => hk.1.1.1.1)⟩, ⟨by (with_reducible repeat (first | refine blk_drewN ?_ _ | refine blk_drew ?_ | refine blk_alloc ?_ _)); exact BK266.out⟩, ⟨by (with_reducible repeat (first | refine blk_drewN ?_ _ | refine blk_drew ?_ | refine blk_alloc ?_ _)); exact BK291.out⟩, ⟨(mH2 HB.out GE266.out GE291.out)⟩⟩
    case rest =>
     clear HC17
     try clear c1
     try clear p2
     try clear c3
     try clear c3b0
     try clear c4
     try clear c10
     try clear c12
     try clear c15
     try clear c33
     try clear c40
     try clear c41
     try clear c43
     try clear c45
     try clear c47
     try clear c48
     try clear c49
     try clear c49b0
     try clear hcz19_0
     try clear hcz19_1
     try clear hcz19_2
     try clear hcz19_3
     try clear hcz21_0
     try clear hcz21_1
     try clear hcz21_2
     try clear hcz21_3
     try clear hcz28_0
     try clear hcz28_1
     try clear hcz28_2
     try clear hcz28_3
     try clear hcz34_0
     try clear hcz34_1
     try clear hcz34_2
     try clear hcz34_3
     try clear hcz47_0
     try clear hcz47_1
     try clear hcz47_2
     try clear hcz47_3
     try clear hcz5_0
     try clear hcz5_1
     try clear hcz5_2
     try clear hcz5_3
     try clear hfz19_0
     try clear hfz19_1
     try clear hfz19_2
     try clear hfz19_3
     try clear hfz21_0
     try clear hfz21_1
     try clear hfz21_2
     try clear hfz21_3
     try clear hfz28_0
     try clear hfz28_1
     try clear hfz28_2
     try clear hfz28_3
     try clear hfz34_0
     try clear hfz34_1
     try clear hfz34_2
     try clear hfz34_3
     try clear hfz47_0
     try clear hfz47_1
     try clear hfz47_2
     try clear hfz47_3
     try clear hfz5_0
     try clear hfz5_1
     try clear hfz5_2
     try clear hfz5_3
     obtain ⟨kq, x42_16, rfl, HA, HJ16, HO_4, HO_6, HO_292000, HO_292001, HO_292002, BK266, BK291, HB⟩ := hcut
     have hl292000_16 := (Kd.S_reads' HO_292000.out).1
     rw [hl292000_16] at HO_292000
     (try simp only [hl292000_16])
     (try simp only [hl292000_16] at BK266)
     (try simp only [hl292000_16] at BK291)
     (try simp only [hl292000_16] at HO_4)
     (try simp only [hl292000_16] at HO_6)
     (try simp only [hl292000_16] at HO_292001)
     (try simp only [hl292000_16] at HO_292002)
     have hl292001_16 := (Kd.R_reads' HO_292001.out).1
     rw [hl292001_16] at HO_292001
     (try simp only [hl292001_16])
     (try simp only [hl292001_16] at BK266)
     (try simp only [hl292001_16] at BK291)
     (try simp only [hl292001_16] at HO_4)
     (try simp only [hl292001_16] at HO_6)
     (try simp only [hl292001_16] at HO_292000)
     (try simp only [hl292001_16] at HO_292002)
     have hl292002_16 := (Kd.R_reads' HO_292002.out).1
     rw [hl292002_16] at HO_292002
     (try simp only [hl292002_16])
     (try simp only [hl292002_16] at BK266)
     (try simp only [hl292002_16] at BK291)
     (try simp only [hl292002_16] at HO_4)
     (try simp only [hl292002_16] at HO_6)
     (try simp only [hl292002_16] at HO_292000)
     (try simp only [hl292002_16] at HO_292001)
     cases kq with
     | zero => exact absurd HA.out (by simp [laws_FnExactList.j0])
     | succ kj16 =>
      have H := HA.out
      clear HA
      simp only [laws_FnExactList.j0] at H
      by_cases c51 : x42_16 = true
      ·subst c51
       have H1 : (some false) = some r := by rw [if_pos rfl] at H; exact H
       clear H
       have H := H1
       clear H1
       exact absurd ((Option.some.inj H).trans ht_) (by decide)
      ·replace c51 := Bool.eq_false_iff.mpr c51
       subst c51
       have H1 : ((laws_markStringS.f kj16 t292 1).bind fun bt312 => ((laws_heldStringS.f kj16 bt312.2 1).bind fun t314 => (if t314 < 0 then (some false) else (if t314 = bt312.1 then ((laws_toDisk.f kj16 l0_0 l0_1 l0_2 a0_3).bind fun bt315 => ((impl_List.f kj16 bt315.1 bt315.2.1 bt315.2.2.1 bt315.2.2.2).bind fun t325 => ((laws_eqStringS.f kj16 t325 t278).bind fun t328 => (if t328 = true then ((laws_heldStringS.f kj16 bt312.2 1).bind fun t329 => (if t329 < 0 then (some false) else (if t329 = bt312.1 then (some true) else (some false)))) else (some false))))) else (some false))))) = some r := by rw [if_neg (show ¬ (false = true) by decide)] at H; exact H
       clear H
       have H := H1
       clear H1
       replace H := Option.bind_eq_some_iff.mp H
       obtain ⟨⟨t312, t313⟩, A520, H⟩ := H
       replace H : ((laws_heldStringS.f kj16 t313 1).bind fun t314 => (if t314 < 0 then (some false) else (if t314 = t312 then ((laws_toDisk.f kj16 l0_0 l0_1 l0_2 a0_3).bind fun bt315 => ((impl_List.f kj16 bt315.1 bt315.2.1 bt315.2.2.1 bt315.2.2.2).bind fun t325 => ((laws_eqStringS.f kj16 t325 t278).bind fun t328 => (if t328 = true then ((laws_heldStringS.f kj16 t313 1).bind fun t329 => (if t329 < 0 then (some false) else (if t329 = t312 then (some true) else (some false)))) else (some false))))) else (some false)))) = some r := H
       have A52 := mS A520
       clear A520
       replace H := Option.bind_eq_some_iff.mp H
       obtain ⟨t314, A530, H⟩ := H
       replace H : (if t314 < 0 then (some false) else (if t314 = t312 then ((laws_toDisk.f kj16 l0_0 l0_1 l0_2 a0_3).bind fun bt315 => ((impl_List.f kj16 bt315.1 bt315.2.1 bt315.2.2.1 bt315.2.2.2).bind fun t325 => ((laws_eqStringS.f kj16 t325 t278).bind fun t328 => (if t328 = true then ((laws_heldStringS.f kj16 t313 1).bind fun t329 => (if t329 < 0 then (some false) else (if t329 = t312 then (some true) else (some false)))) else (some false))))) else (some false))) = some r := H
       have A53 := mS A530
       clear A530
       by_cases c54 : t314 < 0
       ·rw [if_pos c54] at H
        have c54b0 : decide (t314 < 0) = true := decide_eq_true c54
        clear c54
        exact absurd ((Option.some.inj H).trans ht_) (by decide)
       ·rw [if_neg c54] at H
        have c54b0 : decide (t314 < 0) = false := decide_eq_false c54
        clear c54
        by_cases c55 : t314 = t312
        ·rw [if_pos c55] at H
         have c55b0 : (t314 == t312) = true := beq_iff_eq.mpr c55
         have c55b1 : (t314 != t312) = false := bne_eq_false_iff_eq.mpr c55
         clear c55
         replace H := Option.bind_eq_some_iff.mp H
         obtain ⟨⟨t315, t318, t321, t324⟩, A560, H⟩ := H
         replace H : ((impl_List.f kj16 t315 t318 t321 t324).bind fun t325 => ((laws_eqStringS.f kj16 t325 t278).bind fun t328 => (if t328 = true then ((laws_heldStringS.f kj16 t313 1).bind fun t329 => (if t329 < 0 then (some false) else (if t329 = t312 then (some true) else (some false)))) else (some false)))) = some r := H
         have A56 := mS A560
         clear A560
         replace H := Option.bind_eq_some_iff.mp H
         obtain ⟨t325, A570, H⟩ := H
         replace H : ((laws_eqStringS.f kj16 t325 t278).bind fun t328 => (if t328 = true then ((laws_heldStringS.f kj16 t313 1).bind fun t329 => (if t329 < 0 then (some false) else (if t329 = t312 then (some true) else (some false)))) else (some false))) = some r := H
         have A57 := mS A570
         clear A570
         replace H := Option.bind_eq_some_iff.mp H
         obtain ⟨t328, A580, H⟩ := H
         replace H : (if t328 = true then ((laws_heldStringS.f kj16 t313 1).bind fun t329 => (if t329 < 0 then (some false) else (if t329 = t312 then (some true) else (some false)))) else (some false)) = some r := H
         have A58 := mS A580
         clear A580
         by_cases c59 : t328 = true
         ·subst c59
          have H1 : ((laws_heldStringS.f kj16 t313 1).bind fun t329 => (if t329 < 0 then (some false) else (if t329 = t312 then (some true) else (some false)))) = some r := by rw [if_pos rfl] at H; exact H
          clear H
          have H := H1
          clear H1
          replace H := Option.bind_eq_some_iff.mp H
          obtain ⟨t329, A600, H⟩ := H
          replace H : (if t329 < 0 then (some false) else (if t329 = t312 then (some true) else (some false))) = some r := H
          have A60 := mS A600
          clear A600
          by_cases c61 : t329 < 0
          ·rw [if_pos c61] at H
           have c61b0 : decide (t329 < 0) = true := decide_eq_true c61
           clear c61
           exact absurd ((Option.some.inj H).trans ht_) (by decide)
          ·rw [if_neg c61] at H
           have c61b0 : decide (t329 < 0) = false := decide_eq_false c61
           clear c61
           by_cases c62 : t329 = t312
           ·rw [if_pos c62] at H
            have c62b0 : (t329 == t312) = true := beq_iff_eq.mpr c62
            have c62b1 : (t329 != t312) = false := bne_eq_false_iff_eq.mpr c62
            clear c62
            obtain rfl := Option.some.inj H
            go_wp2_with (first | ((with_reducible refine gate_callee (f := 50) rfl ?_); refine goesL_ (some 45) rfl rfl Try.func50 (by kernel_rfl) rfl #[.slice Ao38 t292.length co38, .int .i64 1] rfl mA ?_; (with_reducible refine (laws_markStringS.calls kj16 (fun k_ => some k_ = (.slice Ao38 t292.length co38 : Value).ownBlock) (.slice Ao38 t292.length co38) t292 1 t312 t313 w _ ?side1 ?side2 A52.out).mono ?_); (case side1 => repeat (first | (with_reducible first | exact HB.out | apply below_alloc | apply pw_below_drewN | apply below_drew1 | refine below_set ?_ GE266.out | refine below_set ?_ GE291.out) | exact HB.out)); (case side2 => exact Kd.R_tight rfl HO_6.out); rintro e w63 ⟨rfl, hy0, hb, hkp⟩; refine ⟨_, rfl, ?_⟩; replace HO_4 := mS (Kd.R_mono (ok' := fun k_ => some k_ ≠ (.slice Ao38 t292.length co38 : Value).ownBlock) (Kd.R_keptB (HO_4.out) hkp (fun k_ hk_ hs_ => (hk_) hs_)) (fun k_ hk_ => hk_.1)); replace HO_292000 := mS (Kd.S_mono (ok' := fun k_ => True) (Kd.S_keptB ((Kd.S_apart' HO_292000.out (Kd.R_typed HO_6.out) (by decide))) hkp (fun k_ hk_ hs_ => (hk_.2) hs_)) (fun k_ hk_ => trivial)); replace HO_292001 := mS (Kd.R_mono (ok' := fun k_ => some k_ ≠ (.slice Ao36 t310.length co36 : Value).ownBlock) (Kd.R_keptB ((Kd.R_apart' HO_292001.out (Kd.R_typed HO_6.out) (by decide))) hkp (fun k_ hk_ hs_ => (hk_.2) hs_)) (fun k_ hk_ => hk_.1.1)); replace HO_292002 := mS (Kd.R_mono (ok' := fun k_ => some k_ ≠ (.slice Ao35 t309.length co35 : Value).ownBlock) (Kd.R_keptB ((Kd.R_apart' HO_292002.out (Kd.R_typed HO_6.out) (by decide))) hkp (fun k_ hk_ hs_ => (hk_.2) hs_)) (fun k_ hk_ => hk_.1.1)); replace BK266 := mS (blk_kept (mK BK266.out) hkp (fun hs_ => (fun e_ => (Kd.R_ne HO_6.out BK266.out (by decide)) e_) hs_)); replace BK291 := mS (blk_kept (mK BK291.out) hkp (fun hs_ => (fun e_ => (Kd.R_ne HO_6.out BK291.out (by decide)) e_) hs_)); replace HO_6 := mS (Kd.R_reok rfl hy0 (fun k_ e_ => HO_6.out.1 k_ e_)); replace HB := mS (hb); (try clear hb); (try clear hkp); (try clear hy0)) | ((with_reducible refine gate_callee (f := 51) rfl ?_); refine goesL_ (some 48) rfl rfl Try.func51 (by kernel_rfl) rfl #[.slice Ao38 t313.length co38, .int .i64 1] rfl (by (try simp only [List.map_toArray, List.map_cons, List.map_nil]); first | done | (rw [show t313.length = t292.length from (Kd.R_reads' HO_6.out).1.symm] <;> rfl) | rfl | (simp only [List.length_drop, List.length_take]; rfl)) ?_; (with_reducible refine (laws_heldStringS.calls kj16 _ _ t313 1 t314 _ ?side1 ?side2 A53.out).mono ?_); (case side1 => repeat (first | exact (Kd.R_reads' HO_6.out).2.2 | (with_reducible refine Kd.C_alloc ?_ _) | (with_reducible refine Kd.C_drewN ?_ _) | (with_reducible refine Kd.C_drew ?_))); (case side2 => rw [show t313.length = t292.length from (Kd.R_reads' HO_6.out).1.symm]; exact (Kd.R_reads' HO_6.out).2.1); rintro e w64 ⟨rfl, hb⟩; refine ⟨_, rfl, ?_⟩; replace HO_4 := mS (Kd.R_below (mR HO_4.out) hb); replace HO_6 := mS (Kd.R_below (mR HO_6.out) hb); replace HO_292000 := mS (Kd.S_below (by (with_reducible repeat (first | apply Kd.S_alloc | apply Kd.S_drewN | apply Kd.S_drew)); exact HO_292000.out) hb); replace HO_292001 := mS (Kd.R_below (mR HO_292001.out) hb); replace HO_292002 := mS (Kd.R_below (mR HO_292002.out) hb); replace BK266 := mB BK266 hb; replace BK291 := mB BK291 hb; replace HB := mS (below_step (mH2 HB.out GE266.out GE291.out) hb); (try clear hb); (try clear hb2); (try clear hk); (try clear hi); have hnb65 := NB266_291.out; have hnc65 := NB291_266.out; have hcz66_0 := mZ BK266.out 0; have hcz66_1 := mZ BK266.out 1; have hcz66_2 := mZ BK266.out 2; have hcz66_3 := mZ BK266.out 3; have hfz66_0 := blk_frozen BK266.out 0; have hfz66_1 := blk_frozen BK266.out 1; have hfz66_2 := blk_frozen BK266.out 2; have hfz66_3 := blk_frozen BK266.out 3) | ((with_reducible refine gate_callee (f := 45) rfl ?_); refine goesL_ (some 55) rfl rfl Try.func45 (by kernel_rfl) rfl #[.agg #[.slice A0_0 l0_0.length c0_0, .slice A0_1 l0_1.length c0_1, .slice A0_2 l0_2.length c0_2, .int .i64 a0_3]] rfl mA ?_; (with_reducible refine (laws_toDisk.calls kj16 _ _ l0_0 _ _ l0_1 _ _ l0_2 a0_3 t315 t318 t321 t324 _ ?side1 ?side2 ?side3 ?side4 ?side5 ?side6 A56.out).mono ?_); (case side1 => repeat (first | exact (Kd.C_below HR0_0.out HB.out) | (with_reducible refine Kd.C_alloc ?_ _) | (with_reducible refine Kd.C_drewN ?_ _) | (with_reducible refine Kd.C_drew ?_))); (case side2 => exact HC0_0.out); (case side3 => repeat (first | exact (Kd.C_below HR0_1.out HB.out) | (with_reducible refine Kd.C_alloc ?_ _) | (with_reducible refine Kd.C_drewN ?_ _) | (with_reducible refine Kd.C_drew ?_))); (case side4 => exact HC0_1.out); (case side5 => repeat (first | exact (Kd.C_below HR0_2.out HB.out) | (with_reducible refine Kd.C_alloc ?_ _) | (with_reducible refine Kd.C_drewN ?_ _) | (with_reducible refine Kd.C_drew ?_))); (case side6 => exact HC0_2.out); rintro e w67 ⟨v316, v319, v322, rfl, ho0, ho1, ho2, hb⟩; refine ⟨_, rfl, ?_⟩; obtain ⟨z68, hz68⟩ := MWords.mp_size hb; replace HO_4 := mS (Kd.R_below (mR HO_4.out) hb); replace HO_6 := mS (Kd.R_below (mR HO_6.out) hb); have HO317 := mS (Kd.S_lower (Kd.S_new' (MWords.mp_geS ho0 hz68) (Kd.S_lt (by (with_reducible repeat (first | apply Kd.S_alloc | apply Kd.S_drewN | apply Kd.S_drew)); exact HO_292000.out))) (below_size (mH2 HB.out GE266.out GE291.out))); replace HO_292000 := mS (MWords.mp_ltS (Kd.S_told (Kd.S_old (by (with_reducible repeat (first | apply Kd.S_alloc | apply Kd.S_drewN | apply Kd.S_drew)); exact HO_292000.out) hb) (Kd.S_base ho0)) hz68); have HO320 := mS (Kd.R_lower (Kd.R_new' (Kd.R_new' ho1 (Kd.R_lt (mR HO_292001.out))) (Kd.R_lt (mR HO_292002.out))) (below_size (mH2 HB.out GE266.out GE291.out))); have HO323 := mS (Kd.R_lower (Kd.R_new' (Kd.R_new' ho2 (Kd.R_lt (mR HO_292001.out))) (Kd.R_lt (mR HO_292002.out))) (below_size (mH2 HB.out GE266.out GE291.out))); replace HO_292001 := mS (Kd.R_mono (Kd.R_told (Kd.R_told (Kd.R_old (mR HO_292001.out) hb) (Kd.R_base ho1)) (Kd.R_base ho2)) (fun _ h_ => h_.1)); replace HO_292002 := mS (Kd.R_mono (Kd.R_told (Kd.R_told (Kd.R_old (mR HO_292002.out) hb) (Kd.R_base ho1)) (Kd.R_base ho2)) (fun _ h_ => h_.1)); replace BK266 := mB BK266 hb; replace BK291 := mB BK291 hb; replace HB := mS (below_step (mH2 HB.out GE266.out GE291.out) hb); (try clear hb); (try clear hb2); (try clear hk); (try clear hi); (try clear ho0); (try clear ho1); (try clear ho2); obtain ⟨Ao69, co69, eo69⟩ := Kd.S_slice HO317.out; subst eo69; obtain ⟨Ao70, co70, eo70⟩ := Kd.R_slice HO320.out; subst eo70; obtain ⟨Ao71, co71, eo71⟩ := Kd.R_slice HO323.out; subst eo71) | ((with_reducible refine gate_callee (f := 48) rfl ?_); refine goesL_ (some 56) rfl rfl Try.func48 (by kernel_rfl) rfl #[.agg #[.slice Ao69 t315.length co69, .slice Ao70 t318.length co70, .slice Ao71 t321.length co71, .int .i64 t324]] rfl mA ?_; (with_reducible refine (impl_List.calls kj16 _ _ t315 _ _ t318 _ _ t321 t324 t325 _ ?side1 ?side2 ?side3 ?side4 ?side5 ?side6 A57.out).mono ?_); (case side1 => repeat (first | exact (Kd.S_reads' HO317.out).2.2 | (with_reducible refine Kd.C_alloc ?_ _) | (with_reducible refine Kd.C_drewN ?_ _) | (with_reducible refine Kd.C_drew ?_))); (case side2 => exact (Kd.S_reads' HO317.out).2.1); (case side3 => repeat (first | exact (Kd.R_reads' HO320.out).2.2 | (with_reducible refine Kd.C_alloc ?_ _) | (with_reducible refine Kd.C_drewN ?_ _) | (with_reducible refine Kd.C_drew ?_))); (case side4 => exact (Kd.R_reads' HO320.out).2.1); (case side5 => repeat (first | exact (Kd.R_reads' HO323.out).2.2 | (with_reducible refine Kd.C_alloc ?_ _) | (with_reducible refine Kd.C_drewN ?_ _) | (with_reducible refine Kd.C_drew ?_))); (case side6 => exact (Kd.R_reads' HO323.out).2.1); rintro e w72 ⟨v326, rfl, ho0, hb⟩; refine ⟨_, rfl, ?_⟩; replace HO_292000 := mS (Kd.S_below (by (with_reducible repeat (first | apply Kd.S_alloc | apply Kd.S_drewN | apply Kd.S_drew)); exact HO_292000.out) hb); replace HO_292001 := mS (Kd.R_below (mR HO_292001.out) hb); replace HO_292002 := mS (Kd.R_below (mR HO_292002.out) hb); replace HO317 := mS (Kd.S_below (by (with_reducible repeat (first | apply Kd.S_alloc | apply Kd.S_drewN | apply Kd.S_drew)); exact HO317.out) hb); replace HO320 := mS (Kd.R_below (mR HO320.out) hb); replace HO323 := mS (Kd.R_below (mR HO323.out) hb); have HO327 := mS (Kd.R_lower (Kd.R_new' (Kd.R_new' ho0 (Kd.R_lt (mR HO_4.out))) (Kd.R_lt (mR HO_6.out))) (below_size (mH2 HB.out GE266.out GE291.out))); replace HO_4 := mS (Kd.R_elder' (mR HO_4.out) (Kd.R_base ho0) hb); replace HO_6 := mS (Kd.R_elder' (mR HO_6.out) (Kd.R_base ho0) hb); replace BK266 := mB BK266 hb; replace BK291 := mB BK291 hb; replace HB := mS (below_step (mH2 HB.out GE266.out GE291.out) hb); (try clear hb); (try clear hb2); (try clear hk); (try clear hi); (try clear ho0); obtain ⟨Ao73, co73, eo73⟩ := Kd.R_slice HO327.out; subst eo73) | ((with_reducible refine gate_callee (f := 49) rfl ?_); refine goesL_ (some 59) rfl rfl Try.func49 (by kernel_rfl) rfl #[.slice Ao73 t325.length co73, .slice Ao39 t278.length co39] rfl mA ?_; (with_reducible refine (laws_eqStringS.calls kj16 _ _ t325 _ _ t278 true _ ?side1 ?side2 ?side3 ?side4 A58.out).mono ?_); (case side1 => repeat (first | exact (Kd.R_reads' HO327.out).2.2 | (with_reducible refine Kd.C_alloc ?_ _) | (with_reducible refine Kd.C_drewN ?_ _) | (with_reducible refine Kd.C_drew ?_))); (case side2 => exact (Kd.R_reads' HO327.out).2.1); (case side3 => repeat (first | exact (Kd.R_reads' HO_4.out).2.2 | (with_reducible refine Kd.C_alloc ?_ _) | (with_reducible refine Kd.C_drewN ?_ _) | (with_reducible refine Kd.C_drew ?_))); (case side4 => exact (Kd.R_reads' HO_4.out).2.1); rintro e w' ⟨rfl, ⟨nd, rfl⟩⟩; refine ⟨_, rfl, ?_⟩) | ((with_reducible refine gate_callee (f := 51) rfl ?_); refine goesL_ (some 63) rfl rfl Try.func51 (by kernel_rfl) rfl #[.slice Ao38 t313.length co38, .int .i64 1] rfl (by (try simp only [List.map_toArray, List.map_cons, List.map_nil]); first | done | (rw [show t313.length = t292.length from (Kd.R_reads' HO_6.out).1.symm] <;> rfl) | rfl | (simp only [List.length_drop, List.length_take]; rfl)) ?_; (with_reducible refine (laws_heldStringS.calls kj16 _ _ t313 1 t329 _ ?side1 ?side2 A60.out).mono ?_); (case side1 => repeat (first | exact (Kd.R_reads' HO_6.out).2.2 | (with_reducible refine Kd.C_alloc ?_ _) | (with_reducible refine Kd.C_drewN ?_ _) | (with_reducible refine Kd.C_drew ?_))); (case side2 => rw [show t313.length = t292.length from (Kd.R_reads' HO_6.out).1.symm]; exact (Kd.R_reads' HO_6.out).2.1); rintro e w74 ⟨rfl, hb⟩; refine ⟨_, rfl, ?_⟩; replace HO_4 := mS (Kd.R_below (mR HO_4.out) hb); replace HO_6 := mS (Kd.R_below (mR HO_6.out) hb); replace HO_292000 := mS (Kd.S_below (by (with_reducible repeat (first | apply Kd.S_alloc | apply Kd.S_drewN | apply Kd.S_drew)); exact HO_292000.out) hb); replace HO_292001 := mS (Kd.R_below (mR HO_292001.out) hb); replace HO_292002 := mS (Kd.R_below (mR HO_292002.out) hb); replace HO317 := mS (Kd.S_below (by (with_reducible repeat (first | apply Kd.S_alloc | apply Kd.S_drewN | apply Kd.S_drew)); exact HO317.out) hb); replace HO320 := mS (Kd.R_below (mR HO320.out) hb); replace HO323 := mS (Kd.R_below (mR HO323.out) hb); replace HO327 := mS (Kd.R_below (mR HO327.out) hb); replace BK266 := mB BK266 hb; replace BK291 := mB BK291 hb; replace HB := mS (below_step (mH2 HB.out GE266.out GE291.out) hb); (try clear hb); (try clear hb2); (try clear hk); (try clear hi)))
            go_ret
            exact ⟨by first | rfl | (simp [errW_none, errW_some] <;> rfl) | (simp [*, errW_none, errW_some] <;> rfl), (mH2 HB.out GE266.out GE291.out)⟩
           ·rw [if_neg c62] at H
            have c62b0 : (t329 == t312) = false := beq_eq_false_iff_ne.mpr c62
            have c62b1 : (t329 != t312) = true := bne_iff_ne.mpr c62
            exact absurd ((Option.some.inj H).trans ht_) (by decide)
         ·replace c59 := Bool.eq_false_iff.mpr c59
          subst c59
          have H1 : (some false) = some r := by rw [if_neg (show ¬ (false = true) by decide)] at H; exact H
          clear H
          have H := H1
          clear H1
          exact absurd ((Option.some.inj H).trans ht_) (by decide)
        ·rw [if_neg c55] at H
         have c55b0 : (t314 == t312) = false := beq_eq_false_iff_ne.mpr c55
         have c55b1 : (t314 != t312) = true := bne_iff_ne.mpr c55
         exact absurd ((Option.some.inj H).trans ht_) (by decide)
   ·replace c15 := Bool.eq_false_iff.mpr c15
    subst c15
    have H1 : (some false) = some r := by rw [if_neg (show ¬ (false = true) by decide)] at H; exact H
    clear H
    have H := H1
    clear H1
    exact absurd ((Option.some.inj H).trans ht_) (by decide)
  ·replace c12 := Bool.eq_false_iff.mpr c12
   subst c12
   have H1 : (some false) = some r := by rw [if_neg (show ¬ (false = true) by decide)] at H; exact H
   clear H
   have H := H1
   clear H1
   exact absurd ((Option.some.inj H).trans ht_) (by decide)

end Go.Proofs.Ytgbejjeephipeaa.MFnExactList
