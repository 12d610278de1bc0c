-- Written by mp.py, this session's own printer (wip/mp.py).
import Derived.Test.YtgbejjeephipeaaVMShort
import Derived.Test.YtgbejjeephipeaaMFnExactDiskOkx0
import Derived.Test.YtgbejjeephipeaaMFnExactDiskOkx2
import Derived.Test.YtgbejjeephipeaaMFnExactDiskOkx3
import Derived.Test.YtgbejjeephipeaaMFnExactDiskOkx5
import Derived.Test.YtgbejjeephipeaaMFnExactDiskOkx6
import Derived.Test.YtgbejjeephipeaaMFnExactDiskOkx9
namespace Go.Proofs.Ytgbejjeephipeaa.MFnExactDiskOk
open Go.RowKit Go.Proofs.YtgbejjeephipeaaW.PrintWords Go.Proofs.YtgbejjeephipeaaW.PrintLast Go.Proofs.YtgbejjeephipeaaW.PrintMore Go.Proofs.Ytgbejjeephipeaa.MWords
attribute [local go_sem] max2_int min2_int max_two min_two max_three min_three max_four min_four   -- for this text's walks alone
set_option linter.unusedVariables false
set_option linter.unusedSimpArgs false

/-! ### laws_FnExactDiskOk: function 9 -/
def laws_FnExactDiskOk.f (k : Nat) (l0_0 : List (S144)) (l0_1 : List (S146)) (l0_2 : List (S146)) (a0_3 : Int) : Option (Bool) := (laws_szDisk.f k l0_0 l0_1 l0_2 a0_3 1048576).bind fun t238 => (if t238 < 0 then (some true) else ((laws_toDisk.f k l0_0 l0_1 l0_2 a0_3).bind fun bt239 => ((spec_DiskOk.f k bt239.1 bt239.2.1 bt239.2.2.1 bt239.2.2.2).bind fun t249 => ((laws_toDisk.f k l0_0 l0_1 l0_2 a0_3).bind fun bt250 => ((impl_DiskOk.f k bt250.1 bt250.2.1 bt250.2.2.1 bt250.2.2.2).bind fun t261 => (if (t261 != t249) = true then (some false) else ((laws_toDisk.f k l0_0 l0_1 l0_2 a0_3).bind fun bt262 => ((laws_eqDisk.f k bt250.1 bt250.2.1 bt250.2.2.1 bt250.2.2.2 bt262.1 bt262.2.1 bt262.2.2.1 bt262.2.2.2).bind fun t272 => (if t272 = true then (some true) else (some false))))))))))
theorem laws_FnExactDiskOk.mono : ∀ a0 a1 a2 a3 k, LeO (laws_FnExactDiskOk.f k a0 a1 a2 a3) (laws_FnExactDiskOk.f (k + 1) a0 a1 a2 a3) := by
 intro a0 a1 a2 a3 k
 unfold laws_FnExactDiskOk.f
 repeat' first
   | (with_reducible exact impl_DiskOk.mono _ _ _ _ _)
   | (with_reducible exact laws_eqDisk.mono _ _ _ _ _ _ _ _ _)
   | (with_reducible exact laws_szDisk.mono _ _ _ _ _ _)
   | (with_reducible exact laws_toDisk.mono _ _ _ _ _)
   | (with_reducible exact spec_DiskOk.mono _ _ _ _ _)
   | (with_reducible exact LeO.refl _)
   | (with_reducible exact LeO.none _)
   | (with_reducible refine LeO.ite ?_ ?_)
   | (with_reducible refine LeO.bind ?_ (fun _ => ?_))
   | exact impl_DiskOk.mono _ _ _ _ _
   | exact laws_eqDisk.mono _ _ _ _ _ _ _ _ _
   | exact laws_szDisk.mono _ _ _ _ _ _
   | exact laws_toDisk.mono _ _ _ _ _
   | exact spec_DiskOk.mono _ _ _ _ _
   | exact LeO.none _
   | refine LeO.ite ?_ ?_
   | refine LeO.bind ?_ (fun _ => ?_)
set_option maxHeartbeats 8000000 in
set_option maxRecDepth 100000 in
theorem laws_FnExactDiskOk.calls (k : Nat) (A0_0 : Option Addr) (c0_0 : Nat) (l0_0 : List (S144)) (A0_1 : Option Addr) (c0_1 : Nat) (l0_1 : List (S146)) (A0_2 : Option Addr) (c0_2 : Nat) (l0_2 : List (S146)) (a0_3 : Int) (r : Bool) (w : World) (hr0_0 : Kd.C k144 w A0_0 l0_0.length l0_0) (hc0_0 : l0_0.length ≤ c0_0) (hr0_1 : Kd.C k146 w A0_1 l0_1.length l0_1) (hc0_1 : l0_1.length ≤ c0_1) (hr0_2 : Kd.C k146 w A0_2 l0_2.length l0_2) (hc0_2 : l0_2.length ≤ c0_2) (ht_ : r = true) (h : laws_FnExactDiskOk.f k l0_0 l0_1 l0_2 a0_3 = some r) :
  Calls Try.prog 9 #[.agg #[.slice A0_0 l0_0.length c0_0, .slice A0_1 l0_1.length c0_1, .slice A0_2 l0_2.length c0_2, .int .i64 a0_3]] w fun e w' => e = .returned (.bool r) ∧ Below w.heap.size w w' := by
 have hu71 := Try.underlying71
 have hu63 := Try.underlying63
 have HR0_0 := mS hr0_0
 have HC0_0 := mS hc0_0
 clear hr0_0 hc0_0
 have HR0_1 := mS hr0_1
 have HC0_1 := mS hc0_1
 clear hr0_1 hc0_1
 have HR0_2 := mS hr0_2
 have HC0_2 := mS hc0_2
 clear hr0_2 hc0_2
 have HB := mS (Below.refl w.heap.size w)
 have H : ((laws_szDisk.f k l0_0 l0_1 l0_2 a0_3 1048576).bind fun t238 => (if t238 < 0 then (some true) else ((laws_toDisk.f k l0_0 l0_1 l0_2 a0_3).bind fun bt239 => ((spec_DiskOk.f k bt239.1 bt239.2.1 bt239.2.2.1 bt239.2.2.2).bind fun t249 => ((laws_toDisk.f k l0_0 l0_1 l0_2 a0_3).bind fun bt250 => ((impl_DiskOk.f k bt250.1 bt250.2.1 bt250.2.2.1 bt250.2.2.2).bind fun t261 => (if (t261 != t249) = true then (some false) else ((laws_toDisk.f k l0_0 l0_1 l0_2 a0_3).bind fun bt262 => ((laws_eqDisk.f k bt250.1 bt250.2.1 bt250.2.2.1 bt250.2.2.2 bt262.1 bt262.2.1 bt262.2.2.1 bt262.2.2.2).bind fun t272 => (if t272 = true then (some true) else (some false))))))))))) = some r := h
 clear h
 replace H := Option.bind_eq_some_iff.mp H
 obtain ⟨t238, A20, H⟩ := H
 replace H : (if t238 < 0 then (some true) else ((laws_toDisk.f k l0_0 l0_1 l0_2 a0_3).bind fun bt239 => ((spec_DiskOk.f k bt239.1 bt239.2.1 bt239.2.2.1 bt239.2.2.2).bind fun t249 => ((laws_toDisk.f k l0_0 l0_1 l0_2 a0_3).bind fun bt250 => ((impl_DiskOk.f k bt250.1 bt250.2.1 bt250.2.2.1 bt250.2.2.2).bind fun t261 => (if (t261 != t249) = true then (some false) else ((laws_toDisk.f k l0_0 l0_1 l0_2 a0_3).bind fun bt262 => ((laws_eqDisk.f k bt250.1 bt250.2.1 bt250.2.2.1 bt250.2.2.2 bt262.1 bt262.2.1 bt262.2.2.1 bt262.2.2.2).bind fun t272 => (if t272 = true then (some true) else (some false)))))))))) = some r := H
 have A2 := mS A20
 clear A20
 by_cases c3 : t238 < 0
 ·rw [if_pos c3] at H
  have c3b0 : decide (t238 < 0) = true := decide_eq_true c3
  clear c3
  obtain rfl := Option.some.inj H
  go_enter Try.func9, Try.ntmps9
  go_wp2_with (first | ((with_reducible refine gate_dst (N := 1) rfl ?_); refine box_event ?hg (N := 1) ?hd (cs := #[.slice A0_0 l0_0.length c0_0, .slice A0_1 l0_1.length c0_1, .slice A0_2 l0_2.length c0_2, .int .i64 a0_3]) (t := 71) ?hr ?_; (case hd => rfl); (case hg => rfl); (case hr => first | (go_simp; done) | (go_simp; rfl)); intro gb237 hg w4 hbox hb; have BK237 := mS (hbox); have GW237 := mG hg (mH HB.out); have GE237 := mG hg (mH HB.out); replace HB := mS (below_step (mH HB.out) hb); clear hb hbox hg; have hcz5_0 := mZ BK237.out 0; have hcz5_1 := mZ BK237.out 1; have hcz5_2 := mZ BK237.out 2; have hcz5_3 := mZ BK237.out 3; have hfz5_0 := blk_frozen BK237.out 0; have hfz5_1 := blk_frozen BK237.out 1; have hfz5_2 := blk_frozen BK237.out 2; have hfz5_3 := blk_frozen BK237.out 3) | ((with_reducible refine gate_callee (f := 43) rfl ?_); refine goesL_ (some 9) rfl rfl Try.func43 (by kernel_rfl) rfl #[.agg #[.slice A0_0 l0_0.length c0_0, .slice A0_1 l0_1.length c0_1, .slice A0_2 l0_2.length c0_2, .int .i64 a0_3], .int .i64 1048576] rfl mA ?_; (with_reducible refine (laws_szDisk.calls k _ _ l0_0 _ _ l0_1 _ _ l0_2 a0_3 1048576 t238 _ ?side1 ?side2 ?side3 ?side4 ?side5 ?side6 A2.out).mono ?_); (case side1 => repeat (first | exact (Kd.C_below HR0_0.out HB.out) | (with_reducible refine Kd.C_alloc ?_ _) | (with_reducible refine Kd.C_drewN ?_ _) | (with_reducible refine Kd.C_drew ?_))); (case side2 => exact HC0_0.out); (case side3 => repeat (first | exact (Kd.C_below HR0_1.out HB.out) | (with_reducible refine Kd.C_alloc ?_ _) | (with_reducible refine Kd.C_drewN ?_ _) | (with_reducible refine Kd.C_drew ?_))); (case side4 => exact HC0_1.out); (case side5 => repeat (first | exact (Kd.C_below HR0_2.out HB.out) | (with_reducible refine Kd.C_alloc ?_ _) | (with_reducible refine Kd.C_drewN ?_ _) | (with_reducible refine Kd.C_drew ?_))); (case side6 => exact HC0_2.out); rintro e w6 ⟨rfl, hb⟩; refine ⟨_, rfl, ?_⟩; replace BK237 := mB BK237 hb; replace HB := mS (below_step (mH1 HB.out GE237.out) hb); (try clear hb); (try clear hb2); (try clear hk); (try clear hi)))
  go_ret
  exact ⟨by first | rfl | (simp [errW_none, errW_some] <;> rfl) | (simp [*, errW_none, errW_some] <;> rfl), (mH1 HB.out GE237.out)⟩
 ·rw [if_neg c3] at H
  have c3b0 : decide (t238 < 0) = false := decide_eq_false c3
  clear c3
  replace H := Option.bind_eq_some_iff.mp H
  obtain ⟨⟨t239, t242, t245, t248⟩, A70, H⟩ := H
  replace H : ((spec_DiskOk.f k t239 t242 t245 t248).bind fun t249 => ((laws_toDisk.f k l0_0 l0_1 l0_2 a0_3).bind fun bt250 => ((impl_DiskOk.f k bt250.1 bt250.2.1 bt250.2.2.1 bt250.2.2.2).bind fun t261 => (if (t261 != t249) = true then (some false) else ((laws_toDisk.f k l0_0 l0_1 l0_2 a0_3).bind fun bt262 => ((laws_eqDisk.f k bt250.1 bt250.2.1 bt250.2.2.1 bt250.2.2.2 bt262.1 bt262.2.1 bt262.2.2.1 bt262.2.2.2).bind fun t272 => (if t272 = true then (some true) else (some false)))))))) = some r := H
  have A7 := mS A70
  clear A70
  replace H := Option.bind_eq_some_iff.mp H
  obtain ⟨t249, A80, H⟩ := H
  replace H : ((laws_toDisk.f k l0_0 l0_1 l0_2 a0_3).bind fun bt250 => ((impl_DiskOk.f k bt250.1 bt250.2.1 bt250.2.2.1 bt250.2.2.2).bind fun t261 => (if (t261 != t249) = true then (some false) else ((laws_toDisk.f k l0_0 l0_1 l0_2 a0_3).bind fun bt262 => ((laws_eqDisk.f k bt250.1 bt250.2.1 bt250.2.2.1 bt250.2.2.2 bt262.1 bt262.2.1 bt262.2.2.1 bt262.2.2.2).bind fun t272 => (if t272 = true then (some true) else (some false))))))) = some r := H
  have A8 := mS A80
  clear A80
  replace H := Option.bind_eq_some_iff.mp H
  obtain ⟨⟨t250, t253, t256, t259⟩, A90, H⟩ := H
  replace H : ((impl_DiskOk.f k t250 t253 t256 t259).bind fun t261 => (if (t261 != t249) = true then (some false) else ((laws_toDisk.f k l0_0 l0_1 l0_2 a0_3).bind fun bt262 => ((laws_eqDisk.f k t250 t253 t256 t259 bt262.1 bt262.2.1 bt262.2.2.1 bt262.2.2.2).bind fun t272 => (if t272 = true then (some true) else (some false)))))) = some r := H
  have A9 := mS A90
  clear A90
  replace H := Option.bind_eq_some_iff.mp H
  obtain ⟨t261, A100, H⟩ := H
  replace H : (if (t261 != t249) = true then (some false) else ((laws_toDisk.f k l0_0 l0_1 l0_2 a0_3).bind fun bt262 => ((laws_eqDisk.f k t250 t253 t256 t259 bt262.1 bt262.2.1 bt262.2.2.1 bt262.2.2.2).bind fun t272 => (if t272 = true then (some true) else (some false))))) = some r := H
  have A10 := mS A100
  clear A100
  by_cases c11 : (t261 != t249) = true
  ·rw [if_pos c11] at H
   have c11b0 : (t261 != t249) = true := c11
   (try (have c11b1 : decide (t261 = t249) = false := by simpa using c11))
   (try (have c11b2 : (t261 == t249) = false := by simpa using c11))
   (try (have c11b3 : ¬ (t261 = t249) := by simpa using c11))
   clear c11
   exact absurd ((Option.some.inj H).trans ht_) (by decide)
  ·rw [if_neg c11] at H
   have c11b0 : (t261 != t249) = false := by simpa using c11
   (try (have c11b1 : decide (t261 = t249) = true := by simpa using c11))
   (try (have c11b2 : (t261 == t249) = true := by simpa using c11))
   clear c11
   replace H := Option.bind_eq_some_iff.mp H
   obtain ⟨⟨t262, t265, t268, t271⟩, A120, H⟩ := H
   replace H : ((laws_eqDisk.f k t250 t253 t256 t259 t262 t265 t268 t271).bind fun t272 => (if t272 = true then (some true) else (some false))) = some r := H
   have A12 := mS A120
   clear A120
   replace H := Option.bind_eq_some_iff.mp H
   obtain ⟨t272, A130, H⟩ := H
   replace H : (if t272 = true then (some true) else (some false)) = some r := H
   have A13 := mS A130
   clear A130
   by_cases c14 : t272 = true
   ·subst c14
    have H1 : (some true) = some r := by rw [if_pos rfl] at H; exact H
    clear H
    have H := H1
    clear H1
    obtain rfl := Option.some.inj H
    go_enter Try.func9, Try.ntmps9
    try go_wp2_with (first | ((with_reducible refine gate_dst (N := 1) rfl ?_); refine box_event ?hg (N := 1) ?hd (cs := #[.slice A0_0 l0_0.length c0_0, .slice A0_1 l0_1.length c0_1, .slice A0_2 l0_2.length c0_2, .int .i64 a0_3]) (t := 71) ?hr ?_; (case hd => rfl); (case hg => rfl); (case hr => first | (go_simp; done) | (go_simp; rfl)); intro gb237 hg w15 hbox hb; have BK237 := mS (hbox); have GW237 := mG hg (mH HB.out); have GE237 := mG hg (mH HB.out); replace HB := mS (below_step (mH HB.out) hb); clear hb hbox hg; have hcz16_0 := mZ BK237.out 0; have hcz16_1 := mZ BK237.out 1; have hcz16_2 := mZ BK237.out 2; have hcz16_3 := mZ BK237.out 3; have hfz16_0 := blk_frozen BK237.out 0; have hfz16_1 := blk_frozen BK237.out 1; have hfz16_2 := blk_frozen BK237.out 2; have hfz16_3 := blk_frozen BK237.out 3) | ((with_reducible refine gate_callee (f := 43) rfl ?_); refine goesL_ (some 9) rfl rfl Try.func43 (by kernel_rfl) rfl #[.agg #[.slice A0_0 l0_0.length c0_0, .slice A0_1 l0_1.length c0_1, .slice A0_2 l0_2.length c0_2, .int .i64 a0_3], .int .i64 1048576] rfl mA ?_; (with_reducible refine (laws_szDisk.calls k _ _ l0_0 _ _ l0_1 _ _ l0_2 a0_3 1048576 t238 _ ?side1 ?side2 ?side3 ?side4 ?side5 ?side6 A2.out).mono ?_); (case side1 => repeat (first | exact (Kd.C_below HR0_0.out HB.out) | (with_reducible refine Kd.C_alloc ?_ _) | (with_reducible refine Kd.C_drewN ?_ _) | (with_reducible refine Kd.C_drew ?_))); (case side2 => exact HC0_0.out); (case side3 => repeat (first | exact (Kd.C_below HR0_1.out HB.out) | (with_reducible refine Kd.C_alloc ?_ _) | (with_reducible refine Kd.C_drewN ?_ _) | (with_reducible refine Kd.C_drew ?_))); (case side4 => exact HC0_1.out); (case side5 => repeat (first | exact (Kd.C_below HR0_2.out HB.out) | (with_reducible refine Kd.C_alloc ?_ _) | (with_reducible refine Kd.C_drewN ?_ _) | (with_reducible refine Kd.C_drew ?_))); (case side6 => exact HC0_2.out); rintro e w17 ⟨rfl, hb⟩; refine ⟨_, rfl, ?_⟩; replace BK237 := mB BK237 hb; replace HB := mS (below_step (mH1 HB.out GE237.out) hb); (try clear hb); (try clear hb2); (try clear hk); (try clear hi); have hcz18_0 := mZ BK237.out 0; have hcz18_1 := mZ BK237.out 1; have hcz18_2 := mZ BK237.out 2; have hcz18_3 := mZ BK237.out 3; have hfz18_0 := blk_frozen BK237.out 0; have hfz18_1 := blk_frozen BK237.out 1; have hfz18_2 := blk_frozen BK237.out 2; have hfz18_3 := blk_frozen BK237.out 3) | ((with_reducible refine gate_callee (f := 45) rfl ?_); refine goesL_ (some 13) rfl rfl Try.func45 (by kernel_rfl) rfl #[.agg #[.slice A0_0 l0_0.length c0_0, .slice A0_1 l0_1.length c0_1, .slice A0_2 l0_2.length c0_2, .int .i64 a0_3]] rfl mA ?_; (with_reducible refine (laws_toDisk.calls k _ _ l0_0 _ _ l0_1 _ _ l0_2 a0_3 t239 t242 t245 t248 _ ?side1 ?side2 ?side3 ?side4 ?side5 ?side6 A7.out).mono ?_); (case side1 => repeat (first | exact (Kd.C_below HR0_0.out HB.out) | (with_reducible refine Kd.C_alloc ?_ _) | (with_reducible refine Kd.C_drewN ?_ _) | (with_reducible refine Kd.C_drew ?_))); (case side2 => exact HC0_0.out); (case side3 => repeat (first | exact (Kd.C_below HR0_1.out HB.out) | (with_reducible refine Kd.C_alloc ?_ _) | (with_reducible refine Kd.C_drewN ?_ _) | (with_reducible refine Kd.C_drew ?_))); (case side4 => exact HC0_1.out); (case side5 => repeat (first | exact (Kd.C_below HR0_2.out HB.out) | (with_reducible refine Kd.C_alloc ?_ _) | (with_reducible refine Kd.C_drewN ?_ _) | (with_reducible refine Kd.C_drew ?_))); (case side6 => exact HC0_2.out); rintro e w19 ⟨v240, v243, v246, rfl, ho0, ho1, ho2, hb⟩; refine ⟨_, rfl, ?_⟩; have HO241 := mS (Kd.S_lower ho0 (below_size (mH1 HB.out GE237.out))); have HO244 := mS (Kd.R_lower ho1 (below_size (mH1 HB.out GE237.out))); have HO247 := mS (Kd.R_lower ho2 (below_size (mH1 HB.out GE237.out))); replace BK237 := mB BK237 hb; replace HB := mS (below_step (mH1 HB.out GE237.out) hb); (try clear hb); (try clear hb2); (try clear hk); (try clear hi); (try clear ho0); (try clear ho1); (try clear ho2); obtain ⟨Ao20, co20, eo20⟩ := Kd.S_slice HO241.out; subst eo20; obtain ⟨Ao21, co21, eo21⟩ := Kd.R_slice HO244.out; subst eo21; obtain ⟨Ao22, co22, eo22⟩ := Kd.R_slice HO247.out; subst eo22) | ((with_reducible refine gate_callee (f := 44) rfl ?_); refine goesL_ (some 14) rfl rfl Try.func44 (by kernel_rfl) rfl #[.agg #[.slice Ao20 t239.length co20, .slice Ao21 t242.length co21, .slice Ao22 t245.length co22, .int .i64 t248]] rfl mA ?_; (with_reducible refine (spec_DiskOk.calls k _ _ t239 _ _ t242 _ _ t245 t248 t249 _ ?side1 ?side2 ?side3 ?side4 ?side5 ?side6 A8.out).mono ?_); (case side1 => repeat (first | exact (Kd.S_reads' HO241.out).2.2 | (with_reducible refine Kd.C_alloc ?_ _) | (with_reducible refine Kd.C_drewN ?_ _) | (with_reducible refine Kd.C_drew ?_))); (case side2 => exact (Kd.S_reads' HO241.out).2.1); (case side3 => repeat (first | exact (Kd.R_reads' HO244.out).2.2 | (with_reducible refine Kd.C_alloc ?_ _) | (with_reducible refine Kd.C_drewN ?_ _) | (with_reducible refine Kd.C_drew ?_))); (case side4 => exact (Kd.R_reads' HO244.out).2.1); (case side5 => repeat (first | exact (Kd.R_reads' HO247.out).2.2 | (with_reducible refine Kd.C_alloc ?_ _) | (with_reducible refine Kd.C_drewN ?_ _) | (with_reducible refine Kd.C_drew ?_))); (case side6 => exact (Kd.R_reads' HO247.out).2.1); rintro e w23 ⟨rfl, hb⟩; refine ⟨_, rfl, ?_⟩; replace HO241 := mS (Kd.S_below (by (with_reducible repeat (first | apply Kd.S_alloc | apply Kd.S_drewN | apply Kd.S_drew)); exact HO241.out) hb); replace HO244 := mS (Kd.R_below (mR HO244.out) hb); replace HO247 := mS (Kd.R_below (mR HO247.out) hb); replace BK237 := mB BK237 hb; replace HB := mS (below_step (mH1 HB.out GE237.out) hb); (try clear hb); (try clear hb2); (try clear hk); (try clear hi); have hcz24_0 := mZ BK237.out 0; have hcz24_1 := mZ BK237.out 1; have hcz24_2 := mZ BK237.out 2; have hcz24_3 := mZ BK237.out 3; have hfz24_0 := blk_frozen BK237.out 0; have hfz24_1 := blk_frozen BK237.out 1; have hfz24_2 := blk_frozen BK237.out 2; have hfz24_3 := blk_frozen BK237.out 3) | ((with_reducible refine gate_callee (f := 45) rfl ?_); refine goesL_ (some 16) rfl rfl Try.func45 (by kernel_rfl) rfl #[.agg #[.slice A0_0 l0_0.length c0_0, .slice A0_1 l0_1.length c0_1, .slice A0_2 l0_2.length c0_2, .int .i64 a0_3]] rfl mA ?_; (with_reducible refine (laws_toDisk.calls k _ _ l0_0 _ _ l0_1 _ _ l0_2 a0_3 t250 t253 t256 t259 _ ?side1 ?side2 ?side3 ?side4 ?side5 ?side6 A9.out).mono ?_); (case side1 => repeat (first | exact (Kd.C_below HR0_0.out HB.out) | (with_reducible refine Kd.C_alloc ?_ _) | (with_reducible refine Kd.C_drewN ?_ _) | (with_reducible refine Kd.C_drew ?_))); (case side2 => exact HC0_0.out); (case side3 => repeat (first | exact (Kd.C_below HR0_1.out HB.out) | (with_reducible refine Kd.C_alloc ?_ _) | (with_reducible refine Kd.C_drewN ?_ _) | (with_reducible refine Kd.C_drew ?_))); (case side4 => exact HC0_1.out); (case side5 => repeat (first | exact (Kd.C_below HR0_2.out HB.out) | (with_reducible refine Kd.C_alloc ?_ _) | (with_reducible refine Kd.C_drewN ?_ _) | (with_reducible refine Kd.C_drew ?_))); (case side6 => exact HC0_2.out); rintro e w25 ⟨v251, v254, v257, rfl, ho0, ho1, ho2, hb⟩; refine ⟨_, rfl, ?_⟩; have HO252 := mS (Kd.S_lower (Kd.S_new' ho0 (Kd.S_lt (by (with_reducible repeat (first | apply Kd.S_alloc | apply Kd.S_drewN | apply Kd.S_drew)); exact HO241.out))) (below_size (mH1 HB.out GE237.out))); replace HO241 := mS (Kd.S_elder' (by (with_reducible repeat (first | apply Kd.S_alloc | apply Kd.S_drewN | apply Kd.S_drew)); exact HO241.out) (Kd.S_base ho0) hb); have HO255 := mS (Kd.R_lower (Kd.R_new' (Kd.R_new' ho1 (Kd.R_lt (mR HO244.out))) (Kd.R_lt (mR HO247.out))) (below_size (mH1 HB.out GE237.out))); have HO258 := mS (Kd.R_lower (Kd.R_new' (Kd.R_new' ho2 (Kd.R_lt (mR HO244.out))) (Kd.R_lt (mR HO247.out))) (below_size (mH1 HB.out GE237.out))); replace HO244 := mS (Kd.R_mono (Kd.R_told (Kd.R_told (Kd.R_old (mR HO244.out) hb) (Kd.R_base ho1)) (Kd.R_base ho2)) (fun _ h_ => h_.1)); replace HO247 := mS (Kd.R_mono (Kd.R_told (Kd.R_told (Kd.R_old (mR HO247.out) hb) (Kd.R_base ho1)) (Kd.R_base ho2)) (fun _ h_ => h_.1)); replace BK237 := mB BK237 hb; replace HB := mS (below_step (mH1 HB.out GE237.out) hb); (try clear hb); (try clear hb2); (try clear hk); (try clear hi); (try clear ho0); (try clear ho1); (try clear ho2)) | ((with_reducible refine gate_dst (N := 5) rfl ?_); refine box_event ?hg (N := 5) ?hd (cs := #[.slice none 0 0, .slice none 0 0, .slice none 0 0, .int .i64 0]) (t := 63) ?hr ?_; (case hd => rfl); (case hg => rfl); (case hr => first | (go_simp; done) | (go_simp; rfl)); intro gb260 hg w26 hbox hb; replace HO241 := mS (Kd.S_below (by (with_reducible repeat (first | apply Kd.S_alloc | apply Kd.S_drewN | apply Kd.S_drew)); exact HO241.out) hb); replace HO244 := mS (Kd.R_below (mR HO244.out) hb); replace HO247 := mS (Kd.R_below (mR HO247.out) hb); replace HO252 := mS (Kd.S_below (by (with_reducible repeat (first | apply Kd.S_alloc | apply Kd.S_drewN | apply Kd.S_drew)); exact HO252.out) hb); replace HO255 := mS (Kd.R_below (mR HO255.out) hb); replace HO258 := mS (Kd.R_below (mR HO258.out) hb); have BK260 := mS (hbox); have GW260 := mG hg (mH1 HB.out GE237.out); have GE260 := mG hg (mH1 HB.out GE237.out); replace HB := mS (below_step (mH1 HB.out GE237.out) hb); have NB237_260 := mNl hg BK237.out; have NB260_237 := mNg hg BK237.out; replace BK237 := mB BK237 hb; clear hb hbox hg; obtain ⟨Ao27, co27, eo27⟩ := Kd.S_slice HO252.out; subst eo27; have hnb28 := NB260_237.out; have hnc28 := NB237_260.out; have hcz29_0 := mZ BK260.out 0; have hcz29_1 := mZ BK260.out 1; have hcz29_2 := mZ BK260.out 2; have hcz29_3 := mZ BK260.out 3; have hfz29_0 := blk_frozen BK260.out 0; have hfz29_1 := blk_frozen BK260.out 1; have hfz29_2 := blk_frozen BK260.out 2; have hfz29_3 := blk_frozen BK260.out 3; obtain ⟨Ao30, co30, eo30⟩ := Kd.R_slice HO255.out; subst eo30; obtain ⟨Ao31, co31, eo31⟩ := Kd.R_slice HO258.out; subst eo31) | ((with_reducible refine gate_callee (f := 46) rfl ?_); refine goesL_ (some 18) rfl rfl Try.func46 (by kernel_rfl) rfl #[.agg #[.slice Ao27 t250.length co27, .slice Ao30 t253.length co30, .slice Ao31 t256.length co31, .int .i64 t259]] rfl mA ?_; (with_reducible refine (impl_DiskOk.calls k _ _ t250 _ _ t253 _ _ t256 t259 t261 _ ?side1 ?side2 ?side3 ?side4 ?side5 ?side6 A10.out).mono ?_); (case side1 => refine (Kd.S_reads' (e := 120) (base := w.heap.size) (ok := fun k_ => (True ∧ some k_ ≠ (.slice Ao20 t239.length co20 : Value).ownBlock)) (n := t250.length) (c := co27) ?_).2.2; exact (by (with_reducible repeat (first | apply Kd.S_alloc | apply Kd.S_drewN | apply Kd.S_drew)); exact (Kd.S_mono (Kd.S_far (p := ⟨gb260, 3, none⟩) (Kd.S_far (p := ⟨gb260, 2, none⟩) (Kd.S_far (p := ⟨gb260, 1, none⟩) (Kd.S_far (p := ⟨gb260, 0, none⟩) (Kd.S_types HO252.out BK260.out (by decide)) (fun _ hk => hk.2) (.slice Ao27 t250.length co27)) (fun _ hk => hk.2) (.slice Ao30 t253.length co30)) (fun _ hk => hk.2) (.slice Ao31 t256.length co31)) (fun _ hk => hk.2) (.int .i64 t259)) (fun _ h_ => h_.1)))); (case side2 => exact (Kd.S_reads' HO252.out).2.1); (case side3 => refine (Kd.R_reads' (e := 126) (base := w.heap.size) (ok := fun k_ => ((some k_ ≠ (.slice Ao31 t256.length co31 : Value).ownBlock ∧ some k_ ≠ (.slice Ao21 t242.length co21 : Value).ownBlock) ∧ some k_ ≠ (.slice Ao22 t245.length co22 : Value).ownBlock)) (n := t253.length) (c := co30) ?_).2.2; exact (by (with_reducible repeat (first | apply Kd.R_alloc | apply Kd.R_drewN | apply Kd.R_drew)); exact (Kd.R_mono (Kd.R_far (p := ⟨gb260, 3, none⟩) (Kd.R_far (p := ⟨gb260, 2, none⟩) (Kd.R_far (p := ⟨gb260, 1, none⟩) (Kd.R_far (p := ⟨gb260, 0, none⟩) (Kd.R_types HO255.out BK260.out (by decide)) (fun _ hk => hk.2) (.slice Ao27 t250.length co27)) (fun _ hk => hk.2) (.slice Ao30 t253.length co30)) (fun _ hk => hk.2) (.slice Ao31 t256.length co31)) (fun _ hk => hk.2) (.int .i64 t259)) (fun _ h_ => h_.1)))); (case side4 => exact (Kd.R_reads' HO255.out).2.1); (case side5 => refine (Kd.R_reads' (e := 126) (base := w.heap.size) (ok := fun k_ => ((some k_ ≠ (.slice Ao30 t253.length co30 : Value).ownBlock ∧ some k_ ≠ (.slice Ao21 t242.length co21 : Value).ownBlock) ∧ some k_ ≠ (.slice Ao22 t245.length co22 : Value).ownBlock)) (n := t256.length) (c := co31) ?_).2.2; exact (by (with_reducible repeat (first | apply Kd.R_alloc | apply Kd.R_drewN | apply Kd.R_drew)); exact (Kd.R_mono (Kd.R_far (p := ⟨gb260, 3, none⟩) (Kd.R_far (p := ⟨gb260, 2, none⟩) (Kd.R_far (p := ⟨gb260, 1, none⟩) (Kd.R_far (p := ⟨gb260, 0, none⟩) (Kd.R_types HO258.out BK260.out (by decide)) (fun _ hk => hk.2) (.slice Ao27 t250.length co27)) (fun _ hk => hk.2) (.slice Ao30 t253.length co30)) (fun _ hk => hk.2) (.slice Ao31 t256.length co31)) (fun _ hk => hk.2) (.int .i64 t259)) (fun _ h_ => h_.1)))); (case side6 => exact (Kd.R_reads' HO258.out).2.1); rintro e w32 ⟨rfl, hb⟩; refine ⟨_, rfl, ?_⟩; replace HO241 := mS (Kd.S_below (by (with_reducible repeat (first | apply Kd.S_alloc | apply Kd.S_drewN | apply Kd.S_drew)); exact (Kd.S_mono (Kd.S_far (p := ⟨gb260, 3, none⟩) (Kd.S_far (p := ⟨gb260, 2, none⟩) (Kd.S_far (p := ⟨gb260, 1, none⟩) (Kd.S_far (p := ⟨gb260, 0, none⟩) (Kd.S_types HO241.out BK260.out (by decide)) (fun _ hk => hk.2) (.slice Ao27 t250.length co27)) (fun _ hk => hk.2) (.slice Ao30 t253.length co30)) (fun _ hk => hk.2) (.slice Ao31 t256.length co31)) (fun _ hk => hk.2) (.int .i64 t259)) (fun _ h_ => h_.1))) hb); replace HO244 := mS (Kd.R_below (by (with_reducible repeat (first | apply Kd.R_alloc | apply Kd.R_drewN | apply Kd.R_drew)); exact (Kd.R_mono (Kd.R_far (p := ⟨gb260, 3, none⟩) (Kd.R_far (p := ⟨gb260, 2, none⟩) (Kd.R_far (p := ⟨gb260, 1, none⟩) (Kd.R_far (p := ⟨gb260, 0, none⟩) (Kd.R_types HO244.out BK260.out (by decide)) (fun _ hk => hk.2) (.slice Ao27 t250.length co27)) (fun _ hk => hk.2) (.slice Ao30 t253.length co30)) (fun _ hk => hk.2) (.slice Ao31 t256.length co31)) (fun _ hk => hk.2) (.int .i64 t259)) (fun _ h_ => h_.1))) hb); replace HO247 := mS (Kd.R_below (by (with_reducible repeat (first | apply Kd.R_alloc | apply Kd.R_drewN | apply Kd.R_drew)); exact (Kd.R_mono (Kd.R_far (p := ⟨gb260, 3, none⟩) (Kd.R_far (p := ⟨gb260, 2, none⟩) (Kd.R_far (p := ⟨gb260, 1, none⟩) (Kd.R_far (p := ⟨gb260, 0, none⟩) (Kd.R_types HO247.out BK260.out (by decide)) (fun _ hk => hk.2) (.slice Ao27 t250.length co27)) (fun _ hk => hk.2) (.slice Ao30 t253.length co30)) (fun _ hk => hk.2) (.slice Ao31 t256.length co31)) (fun _ hk => hk.2) (.int .i64 t259)) (fun _ h_ => h_.1))) hb); replace HO252 := mS (Kd.S_below (by (with_reducible repeat (first | apply Kd.S_alloc | apply Kd.S_drewN | apply Kd.S_drew)); exact (Kd.S_mono (Kd.S_far (p := ⟨gb260, 3, none⟩) (Kd.S_far (p := ⟨gb260, 2, none⟩) (Kd.S_far (p := ⟨gb260, 1, none⟩) (Kd.S_far (p := ⟨gb260, 0, none⟩) (Kd.S_types HO252.out BK260.out (by decide)) (fun _ hk => hk.2) (.slice Ao27 t250.length co27)) (fun _ hk => hk.2) (.slice Ao30 t253.length co30)) (fun _ hk => hk.2) (.slice Ao31 t256.length co31)) (fun _ hk => hk.2) (.int .i64 t259)) (fun _ h_ => h_.1))) hb); replace HO255 := mS (Kd.R_below (by (with_reducible repeat (first | apply Kd.R_alloc | apply Kd.R_drewN | apply Kd.R_drew)); exact (Kd.R_mono (Kd.R_far (p := ⟨gb260, 3, none⟩) (Kd.R_far (p := ⟨gb260, 2, none⟩) (Kd.R_far (p := ⟨gb260, 1, none⟩) (Kd.R_far (p := ⟨gb260, 0, none⟩) (Kd.R_types HO255.out BK260.out (by decide)) (fun _ hk => hk.2) (.slice Ao27 t250.length co27)) (fun _ hk => hk.2) (.slice Ao30 t253.length co30)) (fun _ hk => hk.2) (.slice Ao31 t256.length co31)) (fun _ hk => hk.2) (.int .i64 t259)) (fun _ h_ => h_.1))) hb); replace HO258 := mS (Kd.R_below (by (with_reducible repeat (first | apply Kd.R_alloc | apply Kd.R_drewN | apply Kd.R_drew)); exact (Kd.R_mono (Kd.R_far (p := ⟨gb260, 3, none⟩) (Kd.R_far (p := ⟨gb260, 2, none⟩) (Kd.R_far (p := ⟨gb260, 1, none⟩) (Kd.R_far (p := ⟨gb260, 0, none⟩) (Kd.R_types HO258.out BK260.out (by decide)) (fun _ hk => hk.2) (.slice Ao27 t250.length co27)) (fun _ hk => hk.2) (.slice Ao30 t253.length co30)) (fun _ hk => hk.2) (.slice Ao31 t256.length co31)) (fun _ hk => hk.2) (.int .i64 t259)) (fun _ h_ => h_.1))) hb); replace BK237 := mS (blk_below (g := gb237) (o := .cells #[.slice A0_0 l0_0.length c0_0, .slice A0_1 l0_1.length c0_1, .slice A0_2 l0_2.length c0_2, .int .i64 a0_3] 71 (0, 0)) (by (with_reducible repeat (first | refine blk_drewN ?_ _ | refine blk_drew ?_ | refine blk_alloc ?_ _)); refine blk_far ?_ NB237_260.out _; (with_reducible repeat (first | refine blk_drewN ?_ _ | refine blk_drew ?_ | refine blk_alloc ?_ _)); refine blk_far ?_ NB237_260.out _; (with_reducible repeat (first | refine blk_drewN ?_ _ | refine blk_drew ?_ | refine blk_alloc ?_ _)); refine blk_far ?_ NB237_260.out _; (with_reducible repeat (first | refine blk_drewN ?_ _ | refine blk_drew ?_ | refine blk_alloc ?_ _)); refine blk_far ?_ NB237_260.out _; (with_reducible repeat (first | refine blk_drewN ?_ _ | refine blk_drew ?_ | refine blk_alloc ?_ _)); exact BK237.out) hb); replace BK260 := mS (blk_below (g := gb260) (o := .cells #[.slice Ao27 t250.length co27, .slice Ao30 t253.length co30, .slice Ao31 t256.length co31, .int .i64 t259] 63 (0, 0)) (by (with_reducible repeat (first | refine blk_drewN ?_ _ | refine blk_drew ?_ | refine blk_alloc ?_ _)); refine blk_put (cs := #[.slice Ao27 t250.length co27, .slice Ao30 t253.length co30, .slice Ao31 t256.length co31, .int .i64 0]) ?_ 3 _ rfl; (with_reducible repeat (first | refine blk_drewN ?_ _ | refine blk_drew ?_ | refine blk_alloc ?_ _)); refine blk_put (cs := #[.slice Ao27 t250.length co27, .slice Ao30 t253.length co30, .slice none 0 0, .int .i64 0]) ?_ 2 _ rfl; (with_reducible repeat (first | refine blk_drewN ?_ _ | refine blk_drew ?_ | refine blk_alloc ?_ _)); refine blk_put (cs := #[.slice Ao27 t250.length co27, .slice none 0 0, .slice none 0 0, .int .i64 0]) ?_ 1 _ rfl; (with_reducible repeat (first | refine blk_drewN ?_ _ | refine blk_drew ?_ | refine blk_alloc ?_ _)); refine blk_put (cs := #[.slice none 0 0, .slice none 0 0, .slice none 0 0, .int .i64 0]) ?_ 0 _ rfl; (with_reducible repeat (first | refine blk_drewN ?_ _ | refine blk_drew ?_ | refine blk_alloc ?_ _)); exact BK260.out) hb); replace HB := mS (below_step (mH2 HB.out GE237.out GE260.out) hb); (try clear hb); (try clear hb2); (try clear hk); (try clear hi)))
    have n0_ := mS (Kd.S_drew HO241.out)
    have n1_ := mS (Kd.R_drew HO244.out)
    have n2_ := mS (Kd.R_drew HO247.out)
    have n3_ := mS (Kd.S_drew HO252.out)
    have n4_ := mS (Kd.R_drew HO255.out)
    have n5_ := mS (Kd.R_drew HO258.out)
    have n6_ := mS (blk_drew BK237.out)
    have n7_ := mS (blk_drew BK260.out)
    have n8_ := mS (below_drew1 HB.out)
    clear HO241
    clear HO244
    clear HO247
    clear HO252
    clear HO255
    clear HO258
    clear BK237
    clear BK260
    clear HB
    have HO241 := n0_
    have HO244 := n1_
    have HO247 := n2_
    have HO252 := n3_
    have HO255 := n4_
    have HO258 := n5_
    have BK237 := n6_
    have BK260 := n7_
    have HB := n8_
    clear n0_ n1_ n2_ n3_ n4_ n5_ n6_ n7_ n8_
    refine start_ (n := 5) (S := fun w' => w'.cell? ⟨gb260, 0, none⟩ = some (.slice Ao27 t250.length co27) ∧ w'.cell? ⟨gb260, 1, none⟩ = some (.slice Ao30 t253.length co30) ∧ w'.cell? ⟨gb260, 2, none⟩ = some (.slice Ao31 t256.length co31) ∧ w'.cell? ⟨gb260, 3, none⟩ = some (.int .i64 t259) ∧ w'.cell? ⟨gb237, 0, none⟩ = some (.slice A0_0 l0_0.length c0_0) ∧ w'.cell? ⟨gb237, 1, none⟩ = some (.slice A0_1 l0_1.length c0_1) ∧ w'.cell? ⟨gb237, 2, none⟩ = some (.slice A0_2 l0_2.length c0_2) ∧ w'.cell? ⟨gb237, 3, none⟩ = some (.int .i64 a0_3)) (ds := []) (mb 0 5) (by kernel_rfl) rfl rfl ⟨mZ BK260.out 0, mZ BK260.out 1, mZ BK260.out 2, mZ BK260.out 3, mZ BK237.out 0, mZ BK237.out 1, mZ BK237.out 2, mZ BK237.out 3⟩ (fun hHeld => ?_)
    generalize w32.drew = w33 at HO241 HO244 HO247 HO252 HO255 HO258 BK237 BK260 HB hHeld ⊢
    refine take_ (i := 0) (N := some 22) (v := ?_) (a' := ?_) (mb 1 4) rfl rfl (by kernel_rfl) (fun _ _ _ h => h) (Or.inl ⟨by rfl, ?_⟩) hHeld ?_ ?_
    rotate_left
    ·rintro w' ⟨s0, s1, s2, s3, s4, s5, s6, s7⟩
     go_simp
     with_reducible rfl
    rotate_left
    ·simp only [Act.put, zA, zB, zC, i64_w, i32_w]
     rfl
    refine take_ (i := 1) (N := some 23) (v := ?_) (a' := ?_) (mb 2 3) rfl rfl (by kernel_rfl) (fun _ _ _ h => h) (Or.inl ⟨by rfl, ?_⟩) hHeld ?_ ?_
    rotate_left
    ·rintro w' ⟨s0, s1, s2, s3, s4, s5, s6, s7⟩
     go_simp
     with_reducible rfl
    rotate_left
    ·simp only [Act.put, zA, zB, zC, i64_w, i32_w]
     rfl
    refine one_ (i := 2) (N := some 24) (mb 3 2) rfl rfl (by kernel_rfl) (by decide) (fun K hK => ?_)
    refine goes_ Try.func45 (by kernel_rfl) rfl #[.agg #[.slice A0_0 l0_0.length c0_0, .slice A0_1 l0_1.length c0_1, .slice A0_2 l0_2.length c0_2, .int .i64 a0_3]] (by rfl) rfl rfl mA ?_
    with_reducible refine (laws_toDisk.calls k _ _ l0_0 _ _ l0_1 _ _ l0_2 a0_3 t262 t265 t268 t271 _ ?side1 ?side2 ?side3 ?side4 ?side5 ?side6 A12.out).mono ?_
    (case side1 => repeat (first | exact (Kd.C_below HR0_0.out HB.out) | (with_reducible refine Kd.C_alloc ?_ _) | (with_reducible refine Kd.C_drewN ?_ _) | (with_reducible refine Kd.C_drew ?_)))
    (case side2 => exact HC0_0.out)
    (case side3 => repeat (first | exact (Kd.C_below HR0_1.out HB.out) | (with_reducible refine Kd.C_alloc ?_ _) | (with_reducible refine Kd.C_drewN ?_ _) | (with_reducible refine Kd.C_drew ?_)))
    (case side4 => exact HC0_1.out)
    (case side5 => repeat (first | exact (Kd.C_below HR0_2.out HB.out) | (with_reducible refine Kd.C_alloc ?_ _) | (with_reducible refine Kd.C_drewN ?_ _) | (with_reducible refine Kd.C_drew ?_)))
    (case side6 => exact HC0_2.out)
    rintro e w34 ⟨v263, v266, v269, rfl, ho0, ho1, ho2, hb⟩
    refine ⟨_, rfl, ?_⟩
    have n0_ := mS (Kd.S_elder' (by (with_reducible repeat (first | apply Kd.S_alloc | apply Kd.S_drewN | apply Kd.S_drew)); exact HO241.out) (Kd.S_base ho0) hb)
    have n1_ := mS (Kd.R_mono (Kd.R_told (Kd.R_told (Kd.R_old (mR HO244.out) hb) (Kd.R_base ho1)) (Kd.R_base ho2)) (fun _ h_ => h_.1))
    have n2_ := mS (Kd.R_mono (Kd.R_told (Kd.R_told (Kd.R_old (mR HO247.out) hb) (Kd.R_base ho1)) (Kd.R_base ho2)) (fun _ h_ => h_.1))
    have n3_ := mS (Kd.S_elder' (by (with_reducible repeat (first | apply Kd.S_alloc | apply Kd.S_drewN | apply Kd.S_drew)); exact HO252.out) (Kd.S_base ho0) hb)
    have n4_ := mS (Kd.R_mono (Kd.R_told (Kd.R_told (Kd.R_old (mR HO255.out) hb) (Kd.R_base ho1)) (Kd.R_base ho2)) (fun _ h_ => h_.1))
    have n5_ := mS (Kd.R_mono (Kd.R_told (Kd.R_told (Kd.R_old (mR HO258.out) hb) (Kd.R_base ho1)) (Kd.R_base ho2)) (fun _ h_ => h_.1))
    have n6_ := mS (Kd.S_lower (Kd.S_new' (Kd.S_new' ho0 (Kd.S_lt (by (with_reducible repeat (first | apply Kd.S_alloc | apply Kd.S_drewN | apply Kd.S_drew)); exact HO241.out))) (Kd.S_lt (by (with_reducible repeat (first | apply Kd.S_alloc | apply Kd.S_drewN | apply Kd.S_drew)); exact HO252.out))) (below_size (mH2 HB.out GE237.out GE260.out)))
    have n7_ := mS (Kd.R_lower (Kd.R_new' (Kd.R_new' (Kd.R_new' (Kd.R_new' ho1 (Kd.R_lt (mR HO244.out))) (Kd.R_lt (mR HO247.out))) (Kd.R_lt (mR HO255.out))) (Kd.R_lt (mR HO258.out))) (below_size (mH2 HB.out GE237.out GE260.out)))
    have n8_ := mS (Kd.R_lower (Kd.R_new' (Kd.R_new' (Kd.R_new' (Kd.R_new' ho2 (Kd.R_lt (mR HO244.out))) (Kd.R_lt (mR HO247.out))) (Kd.R_lt (mR HO255.out))) (Kd.R_lt (mR HO258.out))) (below_size (mH2 HB.out GE237.out GE260.out)))
    have n9_ := mB BK237 hb
    have n10_ := mB BK260 hb
    have n11_ := mS (below_step (mH2 HB.out GE237.out GE260.out) hb)
    clear HO241
    clear HO244
    clear HO247
    clear HO252
    clear HO255
    clear HO258
    clear BK237
    clear BK260
    clear HB
    have HO241 := n0_
    have HO244 := n1_
    have HO247 := n2_
    have HO252 := n3_
    have HO255 := n4_
    have HO258 := n5_
    have HO264 := n6_
    have HO267 := n7_
    have HO270 := n8_
    have BK237 := n9_
    have BK260 := n10_
    have HB := n11_
    clear n0_ n1_ n2_ n3_ n4_ n5_ n6_ n7_ n8_ n9_ n10_ n11_
    (try clear hb)
    (try clear hb2)
    (try clear hk)
    (try clear hi)
    (try clear ho0)
    (try clear ho1)
    (try clear ho2)
    obtain ⟨Ao35, co35, eo35⟩ := Kd.S_slice HO264.out
    (first | subst eo35 | (injection eo35 with f1_ f2_ f3_; have f4_ := f1_.symm; have f5_ := f3_.symm; clear f1_ f2_ f3_; subst f4_; subst f5_))
    obtain ⟨Ao36, co36, eo36⟩ := Kd.R_slice HO267.out
    (first | subst eo36 | (injection eo36 with f1_ f2_ f3_; have f4_ := f1_.symm; have f5_ := f3_.symm; clear f1_ f2_ f3_; subst f4_; subst f5_))
    obtain ⟨Ao37, co37, eo37⟩ := Kd.R_slice HO270.out
    (first | subst eo37 | (injection eo37 with f1_ f2_ f3_; have f4_ := f1_.symm; have f5_ := f3_.symm; clear f1_ f2_ f3_; subst f4_; subst f5_))
    refine hK.out _ _ ⟨mZ BK260.out 0, mZ BK260.out 1, mZ BK260.out 2, mZ BK260.out 3, mZ BK237.out 0, mZ BK237.out 1, mZ BK237.out 2, mZ BK237.out 3⟩ (fun hHeld => ?_)
    clear hK K
    refine norm_ (a' := ?_) ?_ ?_
    rotate_left
    ·show Act.put _ (some 24) _ = _
     simp only [Act.put, zA, zB, zC, i64_w, i32_w]
     rfl
    refine one_ (i := 3) (N := some 25) (mb 4 1) rfl rfl (by kernel_rfl) (by decide) (fun K hK => ?_)
    refine goes_ Try.func40 (by kernel_rfl) rfl #[.agg #[.slice Ao27 t250.length co27, .slice Ao30 t253.length co30, .slice Ao31 t256.length co31, .int .i64 t259], .agg #[.slice Ao35 t262.length co35, .slice Ao36 t265.length co36, .slice Ao37 t268.length co37, .int .i64 t271]] (by rfl) rfl rfl mA ?_
    with_reducible refine (laws_eqDisk.calls k _ _ t250 _ _ t253 _ _ t256 t259 _ _ t262 _ _ t265 _ _ t268 t271 true _ ?side1 ?side2 ?side3 ?side4 ?side5 ?side6 ?side7 ?side8 ?side9 ?side10 ?side11 ?side12 A13.out).mono ?_
    (case side1 => repeat (first | exact (Kd.S_reads' HO252.out).2.2 | (with_reducible refine Kd.C_alloc ?_ _) | (with_reducible refine Kd.C_drewN ?_ _) | (with_reducible refine Kd.C_drew ?_)))
    (case side2 => exact (Kd.S_reads' HO252.out).2.1)
    (case side3 => repeat (first | exact (Kd.R_reads' HO255.out).2.2 | (with_reducible refine Kd.C_alloc ?_ _) | (with_reducible refine Kd.C_drewN ?_ _) | (with_reducible refine Kd.C_drew ?_)))
    (case side4 => exact (Kd.R_reads' HO255.out).2.1)
    (case side5 => repeat (first | exact (Kd.R_reads' HO258.out).2.2 | (with_reducible refine Kd.C_alloc ?_ _) | (with_reducible refine Kd.C_drewN ?_ _) | (with_reducible refine Kd.C_drew ?_)))
    (case side6 => exact (Kd.R_reads' HO258.out).2.1)
    (case side7 => repeat (first | exact (Kd.S_reads' HO264.out).2.2 | (with_reducible refine Kd.C_alloc ?_ _) | (with_reducible refine Kd.C_drewN ?_ _) | (with_reducible refine Kd.C_drew ?_)))
    (case side8 => exact (Kd.S_reads' HO264.out).2.1)
    (case side9 => repeat (first | exact (Kd.R_reads' HO267.out).2.2 | (with_reducible refine Kd.C_alloc ?_ _) | (with_reducible refine Kd.C_drewN ?_ _) | (with_reducible refine Kd.C_drew ?_)))
    (case side10 => exact (Kd.R_reads' HO267.out).2.1)
    (case side11 => repeat (first | exact (Kd.R_reads' HO270.out).2.2 | (with_reducible refine Kd.C_alloc ?_ _) | (with_reducible refine Kd.C_drewN ?_ _) | (with_reducible refine Kd.C_drew ?_)))
    (case side12 => exact (Kd.R_reads' HO270.out).2.1)
    rintro e w38 ⟨rfl, hb⟩
    refine ⟨_, rfl, ?_⟩
    have n0_ := mS (Kd.S_below (by (with_reducible repeat (first | apply Kd.S_alloc | apply Kd.S_drewN | apply Kd.S_drew)); exact HO241.out) hb)
    have n1_ := mS (Kd.R_below (mR HO244.out) hb)
    have n2_ := mS (Kd.R_below (mR HO247.out) hb)
    have n3_ := mS (Kd.S_below (by (with_reducible repeat (first | apply Kd.S_alloc | apply Kd.S_drewN | apply Kd.S_drew)); exact HO252.out) hb)
    have n4_ := mS (Kd.R_below (mR HO255.out) hb)
    have n5_ := mS (Kd.R_below (mR HO258.out) hb)
    have n6_ := mS (Kd.S_below (by (with_reducible repeat (first | apply Kd.S_alloc | apply Kd.S_drewN | apply Kd.S_drew)); exact HO264.out) hb)
    have n7_ := mS (Kd.R_below (mR HO267.out) hb)
    have n8_ := mS (Kd.R_below (mR HO270.out) hb)
    have n9_ := mB BK237 hb
    have n10_ := mB BK260 hb
    have n11_ := mS (below_step (mH2 HB.out GE237.out GE260.out) hb)
    clear HO241
    clear HO244
    clear HO247
    clear HO252
    clear HO255
    clear HO258
    clear HO264
    clear HO267
    clear HO270
    clear BK237
    clear BK260
    clear HB
    have HO241 := n0_
    have HO244 := n1_
    have HO247 := n2_
    have HO252 := n3_
    have HO255 := n4_
    have HO258 := n5_
    have HO264 := n6_
    have HO267 := n7_
    have HO270 := n8_
    have BK237 := n9_
    have BK260 := n10_
    have HB := n11_
    clear n0_ n1_ n2_ n3_ n4_ n5_ n6_ n7_ n8_ n9_ n10_ n11_
    (try clear hb)
    (try clear hb2)
    (try clear hk)
    (try clear hi)
    refine hK.out _ _ ⟨mZ BK260.out 0, mZ BK260.out 1, mZ BK260.out 2, mZ BK260.out 3, mZ BK237.out 0, mZ BK237.out 1, mZ BK237.out 2, mZ BK237.out 3⟩ (fun hHeld => ?_)
    clear hK K
    refine norm_ (a' := ?_) ?_ ?_
    rotate_left
    ·show Act.put _ (some 25) _ = _
     simp only [Act.put, zA, zB, zC, i64_w, i32_w]
     rfl
    refine pure_ (i := 4) (N := some 26) (v := ?_) (a' := ?_) (mb 5 0) rfl rfl (by kernel_rfl) (fun _ _ _ h => h) (Or.inl ⟨by rfl, ?_⟩) ?_ ?_
    rotate_left
    ·intro w'
     go_simp
     with_reducible rfl
    rotate_left
    ·simp only [Act.put, zA, zB, zC, i64_w, i32_w]
     rfl
    refine done_ (by kernel_rfl) ?_
    try go_wp2
    go_ret
    exact ⟨by first | rfl | (simp [errW_none, errW_some] <;> rfl) | (simp [*, errW_none, errW_some] <;> rfl), (mH2 HB.out GE237.out GE260.out)⟩
   ·replace c14 := Bool.eq_false_iff.mpr c14
    subst c14
    have H1 : (some false) = some r := by rw [if_neg (show ¬ (false = true) by decide)] at H; exact H
    clear H
    have H := H1
    clear H1
    exact absurd ((Option.some.inj H).trans ht_) (by decide)

end Go.Proofs.Ytgbejjeephipeaa.MFnExactDiskOk
