-- Written by mp.py, this session's own printer (wip/mp.py).
import Derived.Test.YtecjamgajlpfdaaVMShort
import Derived.Test.YtecjamgajlpfdaaMFnExactUnframex0
import Derived.Test.YtecjamgajlpfdaaMFnExactUnframex1
import Derived.Test.YtecjamgajlpfdaaMFnExactUnframex2
import Derived.Test.YtecjamgajlpfdaaMFnExactUnframex3
namespace Go.Proofs.Ytecjamgajlpfdaa.MFnExactUnframe
open Go.RowKit Go.Proofs.YtecjamgajlpfdaaW.PrintWords Go.Proofs.YtecjamgajlpfdaaW.PrintLast Go.Proofs.YtecjamgajlpfdaaW.PrintMore Go.Proofs.Ytecjamgajlpfdaa.MWords
attribute [local go_sem] max2_int min2_int max_two min_two max_three min_three max_four min_four   -- for this text's walks alone
set_option linter.unusedVariables false
set_option linter.unusedSimpArgs false

/-! ### laws_FnExactUnframe: function 3 -/
mutual
def laws_FnExactUnframe.j0 : Nat → List Int → Int → List Int → Int → Bool → List Int → List Int → Int → Bool → Bool → Option (Bool)
 | 0, _, _, _, _, _, _, _, _, _, _ => none
 | k + 1, x0, x1, x5, x6, x7, x8, x9, x10, x11, x51 => if x51 = true then (some false) else ((laws_toByteS.f k x0).bind fun t177 => ((laws_eqByteS.f k x8 t177).bind fun t180 => (if t180 = true then ((laws_markByteS.f k x8 1).bind fun bt181 => (if bt181.1 < 0 then (laws_FnExactUnframe.j1 k x0 x1 x5 x6 x7 x9 true) else ((laws_eqByteS.f k x9 x5).bind fun t183 => (if t183 = true then (if x10 = x6 then (laws_FnExactUnframe.j1 k x0 x1 x5 x6 x7 x9 (x11 != x7)) else (laws_FnExactUnframe.j1 k x0 x1 x5 x6 x7 x9 true)) else (laws_FnExactUnframe.j1 k x0 x1 x5 x6 x7 x9 true))))) else (some false))))
def laws_FnExactUnframe.j1 : Nat → List Int → Int → List Int → Int → Bool → List Int → Bool → Option (Bool)
 | 0, _, _, _, _, _, _, _ => none
 | k + 1, x0, x1, x5, x6, x7, x9, x77 => if x77 = true then (some false) else ((laws_markByteS.f k x9 1).bind fun bt184 => ((laws_heldByteS.f k bt184.2 1).bind fun t186 => (if t186 < 0 then (some false) else (if t186 = bt184.1 then ((laws_toByteS.f k x0).bind fun t187 => ((impl_Unframe.f k t187 x1).bind fun bt190 => ((laws_eqByteS.f k bt190.1 x5).bind fun t195 => (if t195 = true then (if bt190.2.1 = x6 then (laws_FnExactUnframe.j2 k bt184.2 bt184.1 (bt190.2.2 != x7)) else (laws_FnExactUnframe.j2 k bt184.2 bt184.1 true)) else (laws_FnExactUnframe.j2 k bt184.2 bt184.1 true))))) else (some false)))))
def laws_FnExactUnframe.j2 : Nat → List Int → Int → Bool → Option (Bool)
 | 0, _, _, _ => none
 | k + 1, x9, x13, x110 => if x110 = true then (some false) else ((laws_heldByteS.f k x9 1).bind fun t196 => (if t196 < 0 then (some false) else (if t196 = x13 then (some true) else (some false))))
end
def laws_FnExactUnframe.f (k : Nat) (l0 : List Int) (a1 : Int) : Option (Bool) := if (l0.length : Int) > 1048576 then (some true) else ((laws_toByteS.f k l0).bind fun t160 => ((spec_Unframe.f k t160 a1).bind fun bt163 => ((laws_toByteS.f k l0).bind fun t168 => ((impl_Unframe.f k t168 a1).bind fun bt171 => ((laws_eqByteS.f k bt171.1 bt163.1).bind fun t176 => (if t176 = true then (if bt171.2.1 = bt163.2.1 then (laws_FnExactUnframe.j0 k l0 a1 bt163.1 bt163.2.1 bt163.2.2 t168 bt171.1 bt171.2.1 bt171.2.2 (bt171.2.2 != bt163.2.2)) else (laws_FnExactUnframe.j0 k l0 a1 bt163.1 bt163.2.1 bt163.2.2 t168 bt171.1 bt171.2.1 bt171.2.2 true)) else (laws_FnExactUnframe.j0 k l0 a1 bt163.1 bt163.2.1 bt163.2.2 t168 bt171.1 bt171.2.1 bt171.2.2 true)))))))
theorem laws_FnExactUnframe.mono_l : ∀ k, (∀ y0 y1 y2 y3 y4 y5 y6 y7 y8 y9, LeO (laws_FnExactUnframe.j0 k y0 y1 y2 y3 y4 y5 y6 y7 y8 y9) (laws_FnExactUnframe.j0 (k + 1) y0 y1 y2 y3 y4 y5 y6 y7 y8 y9)) ∧ (∀ y0 y1 y2 y3 y4 y5 y6, LeO (laws_FnExactUnframe.j1 k y0 y1 y2 y3 y4 y5 y6) (laws_FnExactUnframe.j1 (k + 1) y0 y1 y2 y3 y4 y5 y6)) ∧ (∀ y0 y1 y2, LeO (laws_FnExactUnframe.j2 k y0 y1 y2) (laws_FnExactUnframe.j2 (k + 1) y0 y1 y2))
 | 0 => ⟨fun _ _ _ _ _ _ _ _ _ _ r h => by simp [laws_FnExactUnframe.j0] at h, fun _ _ _ _ _ _ _ r h => by simp [laws_FnExactUnframe.j1] at h, fun _ _ _ r h => by simp [laws_FnExactUnframe.j2] at h⟩
 | k + 1 => by
  obtain ⟨ih0, ih1, ih2⟩ := laws_FnExactUnframe.mono_l k
  refine ⟨?_, ?_, ?_⟩
  ·intro y0 y1 y2 y3 y4 y5 y6 y7 y8 y9
   unfold laws_FnExactUnframe.j0
   repeat' first
   | (with_reducible exact ih0 _ _ _ _ _ _ _ _ _ _)
   | (with_reducible exact ih1 _ _ _ _ _ _ _)
   | (with_reducible exact ih2 _ _ _)
   | (with_reducible exact impl_Unframe.mono _ _ _)
   | (with_reducible exact laws_eqByteS.mono _ _ _)
   | (with_reducible exact laws_heldByteS.mono _ _ _)
   | (with_reducible exact laws_markByteS.mono _ _ _)
   | (with_reducible exact laws_toByteS.mono _ _)
   | (with_reducible exact spec_Unframe.mono _ _ _)
   | (with_reducible exact LeO.refl _)
   | (with_reducible exact LeO.none _)
   | (with_reducible refine LeO.ite ?_ ?_)
   | (with_reducible refine LeO.bind ?_ (fun _ => ?_))
   | exact ih0 _ _ _ _ _ _ _ _ _ _
   | exact ih1 _ _ _ _ _ _ _
   | exact ih2 _ _ _
   | exact impl_Unframe.mono _ _ _
   | exact laws_eqByteS.mono _ _ _
   | exact laws_heldByteS.mono _ _ _
   | exact laws_markByteS.mono _ _ _
   | exact laws_toByteS.mono _ _
   | exact spec_Unframe.mono _ _ _
   | exact LeO.none _
   | refine LeO.ite ?_ ?_
   | refine LeO.bind ?_ (fun _ => ?_)
  ·intro y0 y1 y2 y3 y4 y5 y6
   unfold laws_FnExactUnframe.j1
   repeat' first
   | (with_reducible exact ih0 _ _ _ _ _ _ _ _ _ _)
   | (with_reducible exact ih1 _ _ _ _ _ _ _)
   | (with_reducible exact ih2 _ _ _)
   | (with_reducible exact impl_Unframe.mono _ _ _)
   | (with_reducible exact laws_eqByteS.mono _ _ _)
   | (with_reducible exact laws_heldByteS.mono _ _ _)
   | (with_reducible exact laws_markByteS.mono _ _ _)
   | (with_reducible exact laws_toByteS.mono _ _)
   | (with_reducible exact spec_Unframe.mono _ _ _)
   | (with_reducible exact LeO.refl _)
   | (with_reducible exact LeO.none _)
   | (with_reducible refine LeO.ite ?_ ?_)
   | (with_reducible refine LeO.bind ?_ (fun _ => ?_))
   | exact ih0 _ _ _ _ _ _ _ _ _ _
   | exact ih1 _ _ _ _ _ _ _
   | exact ih2 _ _ _
   | exact impl_Unframe.mono _ _ _
   | exact laws_eqByteS.mono _ _ _
   | exact laws_heldByteS.mono _ _ _
   | exact laws_markByteS.mono _ _ _
   | exact laws_toByteS.mono _ _
   | exact spec_Unframe.mono _ _ _
   | exact LeO.none _
   | refine LeO.ite ?_ ?_
   | refine LeO.bind ?_ (fun _ => ?_)
  ·intro y0 y1 y2
   unfold laws_FnExactUnframe.j2
   repeat' first
   | (with_reducible exact ih0 _ _ _ _ _ _ _ _ _ _)
   | (with_reducible exact ih1 _ _ _ _ _ _ _)
   | (with_reducible exact ih2 _ _ _)
   | (with_reducible exact impl_Unframe.mono _ _ _)
   | (with_reducible exact laws_eqByteS.mono _ _ _)
   | (with_reducible exact laws_heldByteS.mono _ _ _)
   | (with_reducible exact laws_markByteS.mono _ _ _)
   | (with_reducible exact laws_toByteS.mono _ _)
   | (with_reducible exact spec_Unframe.mono _ _ _)
   | (with_reducible exact LeO.refl _)
   | (with_reducible exact LeO.none _)
   | (with_reducible refine LeO.ite ?_ ?_)
   | (with_reducible refine LeO.bind ?_ (fun _ => ?_))
   | exact ih0 _ _ _ _ _ _ _ _ _ _
   | exact ih1 _ _ _ _ _ _ _
   | exact ih2 _ _ _
   | exact impl_Unframe.mono _ _ _
   | exact laws_eqByteS.mono _ _ _
   | exact laws_heldByteS.mono _ _ _
   | exact laws_markByteS.mono _ _ _
   | exact laws_toByteS.mono _ _
   | exact spec_Unframe.mono _ _ _
   | exact LeO.none _
   | refine LeO.ite ?_ ?_
   | refine LeO.bind ?_ (fun _ => ?_)
theorem laws_FnExactUnframe.mono : ∀ a0 a1 k, LeO (laws_FnExactUnframe.f k a0 a1) (laws_FnExactUnframe.f (k + 1) a0 a1) := by
 intro a0 a1 k
 obtain ⟨ih0, ih1, ih2⟩ := laws_FnExactUnframe.mono_l k
 unfold laws_FnExactUnframe.f
 repeat' first
   | (with_reducible exact ih0 _ _ _ _ _ _ _ _ _ _)
   | (with_reducible exact ih1 _ _ _ _ _ _ _)
   | (with_reducible exact ih2 _ _ _)
   | (with_reducible exact impl_Unframe.mono _ _ _)
   | (with_reducible exact laws_eqByteS.mono _ _ _)
   | (with_reducible exact laws_heldByteS.mono _ _ _)
   | (with_reducible exact laws_markByteS.mono _ _ _)
   | (with_reducible exact laws_toByteS.mono _ _)
   | (with_reducible exact spec_Unframe.mono _ _ _)
   | (with_reducible exact LeO.refl _)
   | (with_reducible exact LeO.none _)
   | (with_reducible refine LeO.ite ?_ ?_)
   | (with_reducible refine LeO.bind ?_ (fun _ => ?_))
   | exact ih0 _ _ _ _ _ _ _ _ _ _
   | exact ih1 _ _ _ _ _ _ _
   | exact ih2 _ _ _
   | exact impl_Unframe.mono _ _ _
   | exact laws_eqByteS.mono _ _ _
   | exact laws_heldByteS.mono _ _ _
   | exact laws_markByteS.mono _ _ _
   | exact laws_toByteS.mono _ _
   | exact spec_Unframe.mono _ _ _
   | exact LeO.none _
   | refine LeO.ite ?_ ?_
   | refine LeO.bind ?_ (fun _ => ?_)
set_option maxHeartbeats 8000000 in
set_option maxRecDepth 100000 in
theorem laws_FnExactUnframe.calls (k : Nat) (A0 : Option Addr) (c0 : Nat) (l0 : List Int) (a1 : Int) (r : Bool) (w : World) (hr0 : Kd.C (Kd.int .u8) w A0 l0.length l0) (hc0 : l0.length ≤ c0) (ht_ : r = true) (h : laws_FnExactUnframe.f k l0 a1 = some r) :
  Calls Try.prog 3 #[.slice A0 l0.length c0, .int .i64 a1] w fun e w' => e = .returned (.bool r) ∧ Below w.heap.size w w' := by
 have HR0 := mS hr0
 have HC0 := mS hc0
 clear hr0 hc0
 have HB := mS (Below.refl w.heap.size w)
 have H : (if (l0.length : Int) > 1048576 then (some true) else ((laws_toByteS.f k l0).bind fun t160 => ((spec_Unframe.f k t160 a1).bind fun bt163 => ((laws_toByteS.f k l0).bind fun t168 => ((impl_Unframe.f k t168 a1).bind fun bt171 => ((laws_eqByteS.f k bt171.1 bt163.1).bind fun t176 => (if t176 = true then (if bt171.2.1 = bt163.2.1 then (laws_FnExactUnframe.j0 k l0 a1 bt163.1 bt163.2.1 bt163.2.2 t168 bt171.1 bt171.2.1 bt171.2.2 (bt171.2.2 != bt163.2.2)) else (laws_FnExactUnframe.j0 k l0 a1 bt163.1 bt163.2.1 bt163.2.2 t168 bt171.1 bt171.2.1 bt171.2.2 true)) else (laws_FnExactUnframe.j0 k l0 a1 bt163.1 bt163.2.1 bt163.2.2 t168 bt171.1 bt171.2.1 bt171.2.2 true)))))))) = some r := h
 clear h
 by_cases c3 : (l0.length : Int) > 1048576
 ·rw [if_pos c3] at H
  have c3b0 : decide (1048576 < (l0.length : Int)) = true := decide_eq_true c3
  have c3b1 : decide (1048576 < l0.length) = true := decide_eq_true (by omega)
  clear c3
  obtain rfl := Option.some.inj H
  go_enter Try.func3, Try.ntmps3
  go_wp2
  go_ret
  exact ⟨mEw, (mH HB.out)⟩
 ·rw [if_neg c3] at H
  have c3b0 : decide (1048576 < (l0.length : Int)) = false := decide_eq_false c3
  have c3b1 : decide (1048576 < l0.length) = false := decide_eq_false (by omega)
  clear c3
  replace H := Option.bind_eq_some_iff.mp H
  obtain ⟨t160, A40, H⟩ := H
  replace H : ((spec_Unframe.f k t160 a1).bind fun bt163 => ((laws_toByteS.f k l0).bind fun t168 => ((impl_Unframe.f k t168 a1).bind fun bt171 => ((laws_eqByteS.f k bt171.1 bt163.1).bind fun t176 => (if t176 = true then (if bt171.2.1 = bt163.2.1 then (laws_FnExactUnframe.j0 k l0 a1 bt163.1 bt163.2.1 bt163.2.2 t168 bt171.1 bt171.2.1 bt171.2.2 (bt171.2.2 != bt163.2.2)) else (laws_FnExactUnframe.j0 k l0 a1 bt163.1 bt163.2.1 bt163.2.2 t168 bt171.1 bt171.2.1 bt171.2.2 true)) else (laws_FnExactUnframe.j0 k l0 a1 bt163.1 bt163.2.1 bt163.2.2 t168 bt171.1 bt171.2.1 bt171.2.2 true)))))) = some r := H
  have A4 := mS A40
  clear A40
  replace H := Option.bind_eq_some_iff.mp H
  obtain ⟨⟨t163, t164, t165⟩, A50, H⟩ := H
  replace H : ((laws_toByteS.f k l0).bind fun t168 => ((impl_Unframe.f k t168 a1).bind fun bt171 => ((laws_eqByteS.f k bt171.1 t163).bind fun t176 => (if t176 = true then (if bt171.2.1 = t164 then (laws_FnExactUnframe.j0 k l0 a1 t163 t164 t165 t168 bt171.1 bt171.2.1 bt171.2.2 (bt171.2.2 != t165)) else (laws_FnExactUnframe.j0 k l0 a1 t163 t164 t165 t168 bt171.1 bt171.2.1 bt171.2.2 true)) else (laws_FnExactUnframe.j0 k l0 a1 t163 t164 t165 t168 bt171.1 bt171.2.1 bt171.2.2 true))))) = some r := H
  have A5 := mS A50
  clear A50
  replace H := Option.bind_eq_some_iff.mp H
  obtain ⟨t168, A60, H⟩ := H
  replace H : ((impl_Unframe.f k t168 a1).bind fun bt171 => ((laws_eqByteS.f k bt171.1 t163).bind fun t176 => (if t176 = true then (if bt171.2.1 = t164 then (laws_FnExactUnframe.j0 k l0 a1 t163 t164 t165 t168 bt171.1 bt171.2.1 bt171.2.2 (bt171.2.2 != t165)) else (laws_FnExactUnframe.j0 k l0 a1 t163 t164 t165 t168 bt171.1 bt171.2.1 bt171.2.2 true)) else (laws_FnExactUnframe.j0 k l0 a1 t163 t164 t165 t168 bt171.1 bt171.2.1 bt171.2.2 true)))) = some r := H
  have A6 := mS A60
  clear A60
  replace H := Option.bind_eq_some_iff.mp H
  obtain ⟨⟨t171, t172, t173⟩, A70, H⟩ := H
  replace H : ((laws_eqByteS.f k t171 t163).bind fun t176 => (if t176 = true then (if t172 = t164 then (laws_FnExactUnframe.j0 k l0 a1 t163 t164 t165 t168 t171 t172 t173 (t173 != t165)) else (laws_FnExactUnframe.j0 k l0 a1 t163 t164 t165 t168 t171 t172 t173 true)) else (laws_FnExactUnframe.j0 k l0 a1 t163 t164 t165 t168 t171 t172 t173 true))) = some r := H
  have A7 := mS A70
  clear A70
  have HC8 := mS H
  clear H
  go_enter Try.func3, Try.ntmps3
  go_upto_region 6 with (first | ((with_reducible refine gate_callee (f := 8) rfl ?_); refine mGo 23 Try.func8 #[.slice A0 l0.length c0] ?_; (with_reducible refine (laws_toByteS.calls k _ _ l0 t160 _ ?side1 ?side2 A4.out).mono ?_); (case side1 => exact mC HR0.out); (case side2 => exact HC0.out); rintro e w9 ⟨v161, rfl, ho0, hb⟩; refine ⟨_, rfl, ?_⟩; replace ho0 := Mz.of ho0; have HO162 := mS (Mz.Z_lower ho0 (below_size (mH HB.out))); replace HB := mS (below_step (mH HB.out) hb); (try clear hb); (try clear ho0); obtain ⟨Ao10, co10, eo10⟩ := Mz.Z_slice HO162.out; subst eo10) | ((with_reducible refine gate_callee (f := 7) rfl ?_); refine mGo 25 Try.func7 #[.slice Ao10 t160.length co10, .int .i64 a1] ?_; (with_reducible refine (spec_Unframe.calls k _ _ t160 a1 t163 t164 t165 _ ?side1 ?side2 A5.out).mono ?_); (case side1 => exact mC (Mz.Z_reads' HO162.out).2.2); (case side2 => exact (Mz.Z_reads' HO162.out).2.1); rintro e w11 ⟨v166, rfl, ho0, hb⟩; refine ⟨_, rfl, ?_⟩; replace ho0 := Mz.of ho0; have HO167 := mS (Mz.Z_lower (Mz.Z_new' ho0 (Mz.Z_lt (by (with_reducible repeat (first | apply Mz.Z_alloc | apply Mz.Z_drewN | apply Mz.Z_drew)); exact HO162.out))) (below_size (mH HB.out))); replace HO162 := mS (Mz.Z_elder' (by (with_reducible repeat (first | apply Mz.Z_alloc | apply Mz.Z_drewN | apply Mz.Z_drew)); exact HO162.out) (Mz.Z_base ho0) hb); replace HB := mS (below_step (mH HB.out) hb); (try clear hb); (try clear ho0)) | ((with_reducible refine gate_callee (f := 8) rfl ?_); refine mGo 30 Try.func8 #[.slice A0 l0.length c0] ?_; (with_reducible refine (laws_toByteS.calls k _ _ l0 t168 _ ?side1 ?side2 A6.out).mono ?_); (case side1 => exact mC (Kd.C_below HR0.out HB.out)); (case side2 => exact HC0.out); rintro e w12 ⟨v169, rfl, ho0, hb⟩; refine ⟨_, rfl, ?_⟩; replace ho0 := Mz.of ho0; have HO170 := mS (Mz.Z_lower (Mz.Z_new' (Mz.Z_new' ho0 (Mz.Z_lt (by (with_reducible repeat (first | apply Mz.Z_alloc | apply Mz.Z_drewN | apply Mz.Z_drew)); exact HO162.out))) (Mz.Z_lt (by (with_reducible repeat (first | apply Mz.Z_alloc | apply Mz.Z_drewN | apply Mz.Z_drew)); exact HO167.out))) (below_size (mH HB.out))); replace HO162 := mS (Mz.Z_elder' (by (with_reducible repeat (first | apply Mz.Z_alloc | apply Mz.Z_drewN | apply Mz.Z_drew)); exact HO162.out) (Mz.Z_base ho0) hb); replace HO167 := mS (Mz.Z_elder' (by (with_reducible repeat (first | apply Mz.Z_alloc | apply Mz.Z_drewN | apply Mz.Z_drew)); exact HO167.out) (Mz.Z_base ho0) hb); replace HB := mS (below_step (mH HB.out) hb); (try clear hb); (try clear ho0); obtain ⟨Ao13, co13, eo13⟩ := Mz.Z_slice HO170.out; subst eo13) | ((with_reducible refine gate_callee (f := 9) rfl ?_); refine mGo 34 Try.func9 #[.slice Ao13 t168.length co13, .int .i64 a1] ?_; (with_reducible refine (impl_Unframe.calls k _ _ t168 a1 t171 t172 t173 _ ?side1 ?side2 A7.out).mono ?_); (case side1 => exact mC (Mz.Z_reads' HO170.out).2.2); (case side2 => exact (Mz.Z_reads' HO170.out).2.1); rintro e w14 ⟨v174, rfl, ho0, hb⟩; refine ⟨_, rfl, ?_⟩; have HO175 := mS (Mz.Z_lower (Mz.Z_new' (Mz.Z_new' (Mz.Z_new' ho0 (Mz.Z_lt (by (with_reducible repeat (first | apply Mz.Z_alloc | apply Mz.Z_drewN | apply Mz.Z_drew)); exact HO162.out))) (Mz.Z_lt (by (with_reducible repeat (first | apply Mz.Z_alloc | apply Mz.Z_drewN | apply Mz.Z_drew)); exact HO167.out))) (Mz.Z_lt (by (with_reducible repeat (first | apply Mz.Z_alloc | apply Mz.Z_drewN | apply Mz.Z_drew)); exact HO170.out))) (below_size (mH HB.out))); replace HO162 := mS (Mz.Z_elder' (by (with_reducible repeat (first | apply Mz.Z_alloc | apply Mz.Z_drewN | apply Mz.Z_drew)); exact HO162.out) (Mz.Z_base ho0) hb); replace HO167 := mS (Mz.Z_elder' (by (with_reducible repeat (first | apply Mz.Z_alloc | apply Mz.Z_drewN | apply Mz.Z_drew)); exact HO167.out) (Mz.Z_base ho0) hb); replace HO170 := mS (Mz.Z_elder' (by (with_reducible repeat (first | apply Mz.Z_alloc | apply Mz.Z_drewN | apply Mz.Z_drew)); exact HO170.out) (Mz.Z_base ho0) hb); replace HB := mS (below_step (mH HB.out) hb); (try clear hb); (try clear ho0)))
  (try simp only [Act.put, zA, zB, zC])
  go_cut [51] (fun v51 wc => ∃ (kq : Nat) (x51_7 : Bool), v51 = .bool x51_7 ∧ Aside0 (laws_FnExactUnframe.j0 kq l0 a1 t163 t164 t165 t168 t171 t172 t173 x51_7 = some r) ∧ Aside0 (kq ≤ k) ∧ Aside0 (Mz.Z 5 wc w.heap.size (fun k_ => some k_ ≠ ((.slice Ao13 t168.length co13) : Value).ownBlock ∧ some k_ ≠ (v174 : Value).ownBlock) v166 t163) ∧ Aside0 (Mz.Z 5 wc w.heap.size (fun k_ => some k_ ≠ (v166 : Value).ownBlock ∧ some k_ ≠ (v174 : Value).ownBlock) (.slice Ao13 t168.length co13) t168) ∧ Aside0 (Mz.Z 5 wc w.heap.size (fun k_ => some k_ ≠ (v166 : Value).ownBlock ∧ some k_ ≠ ((.slice Ao13 t168.length co13) : Value).ownBlock) v174 t171) ∧ Aside0 (Below w.heap.size w wc))
  case first =>
   have H := HC8.out
   clear HC8
   replace H := Option.bind_eq_some_iff.mp H
   obtain ⟨t176, A150, H⟩ := H
   replace H : (if t176 = true then (if t172 = t164 then (laws_FnExactUnframe.j0 k l0 a1 t163 t164 t165 t168 t171 t172 t173 (t173 != t165)) else (laws_FnExactUnframe.j0 k l0 a1 t163 t164 t165 t168 t171 t172 t173 true)) else (laws_FnExactUnframe.j0 k l0 a1 t163 t164 t165 t168 t171 t172 t173 true)) = some r := H
   have A15 := mS A150
   clear A150
   by_cases c16 : t176 = true
   ·subst c16
    have H1 := H
    rw [if_pos rfl] at H1
    clear H
    have H := H1
    clear H1
    by_cases c17 : t172 = t164
    ·rw [if_pos c17] at H
     have c17b0 : (t172 == t164) = true := beq_iff_eq.mpr c17
     have c17b1 : (t172 != t164) = false := bne_eq_false_iff_eq.mpr c17
     clear c17
     (first | rw [c17b0] | (simp only [i64_w, i32_w]; rw [c17b0]) | skip)
     have H' := mS H
     clear H
     obtain ⟨Ao18, co18, eo18⟩ := Mz.Z_slice HO175.out
     subst eo18
     obtain ⟨Ao19, co19, eo19⟩ := Mz.Z_slice HO167.out
     subst eo19
     go_wp2_with (first | ((with_reducible refine gate_callee (f := 10) rfl ?_); refine mGo 40 Try.func10 #[.slice Ao18 t171.length co18, .slice Ao19 t163.length co19] ?_; (with_reducible refine (laws_eqByteS.calls k _ _ t171 _ _ t163 true _ ?side1 ?side2 ?side3 ?side4 A15.out).mono ?_); (case side1 => exact mC (Mz.Z_reads' HO175.out).2.2); (case side2 => exact (Mz.Z_reads' HO175.out).2.1); (case side3 => exact mC (Mz.Z_reads' HO167.out).2.2); (case side4 => exact (Mz.Z_reads' HO167.out).2.1); rintro e w' ⟨rfl, ⟨nd, rfl⟩⟩; refine ⟨_, rfl, ?_⟩))
     go_meet
     case rel => exact ⟨_, ((t173 != t165)), mE, H', ⟨by first | omega | exact Nat.le_refl _⟩, ⟨by (with_reducible repeat (first | apply Mz.Z_alloc | apply Mz.Z_drewN | apply Mz.Z_drew)); exact Mz.Z_mono HO167.out (fun _ hk => ⟨hk.1.2, hk.2⟩)⟩, ⟨by (with_reducible repeat (first | apply Mz.Z_alloc | apply Mz.Z_drewN | apply Mz.Z_drew)); exact Mz.Z_mono HO170.out (fun _ hk => ⟨hk.1.2, hk.2⟩)⟩, ⟨by (with_reducible repeat (first | apply Mz.Z_alloc | apply Mz.Z_drewN | apply Mz.Z_drew)); exact Mz.Z_mono HO175.out (fun _ hk => ⟨hk.1.2, hk.2⟩)⟩, ⟨(mH HB.out)⟩⟩
    ·rw [if_neg c17] at H
     have c17b0 : (t172 == t164) = false := beq_eq_false_iff_ne.mpr c17
     have c17b1 : (t172 != t164) = true := bne_iff_ne.mpr c17
     (first | rw [c17b0] | (simp only [i64_w, i32_w]; rw [c17b0]) | skip)
     have H' := mS H
     clear H
     obtain ⟨Ao20, co20, eo20⟩ := Mz.Z_slice HO175.out
     subst eo20
     obtain ⟨Ao21, co21, eo21⟩ := Mz.Z_slice HO167.out
     subst eo21
     go_wp2_with (first | ((with_reducible refine gate_callee (f := 10) rfl ?_); refine mGo 40 Try.func10 #[.slice Ao20 t171.length co20, .slice Ao21 t163.length co21] ?_; (with_reducible refine (laws_eqByteS.calls k _ _ t171 _ _ t163 true _ ?side1 ?side2 ?side3 ?side4 A15.out).mono ?_); (case side1 => exact mC (Mz.Z_reads' HO175.out).2.2); (case side2 => exact (Mz.Z_reads' HO175.out).2.1); (case side3 => exact mC (Mz.Z_reads' HO167.out).2.2); (case side4 => exact (Mz.Z_reads' HO167.out).2.1); rintro e w' ⟨rfl, ⟨nd, rfl⟩⟩; refine ⟨_, rfl, ?_⟩))
     go_meet
     case rel => exact ⟨_, (true), mE, H', ⟨by first | omega | exact Nat.le_refl _⟩, ⟨by (with_reducible repeat (first | apply Mz.Z_alloc | apply Mz.Z_drewN | apply Mz.Z_drew)); exact Mz.Z_mono HO167.out (fun _ hk => ⟨hk.1.2, hk.2⟩)⟩, ⟨by (with_reducible repeat (first | apply Mz.Z_alloc | apply Mz.Z_drewN | apply Mz.Z_drew)); exact Mz.Z_mono HO170.out (fun _ hk => ⟨hk.1.2, hk.2⟩)⟩, ⟨by (with_reducible repeat (first | apply Mz.Z_alloc | apply Mz.Z_drewN | apply Mz.Z_drew)); exact Mz.Z_mono HO175.out (fun _ hk => ⟨hk.1.2, hk.2⟩)⟩, ⟨(mH HB.out)⟩⟩
   ·replace c16 := Bool.eq_false_iff.mpr c16
    subst c16
    have H1 := H
    rw [if_neg (show ¬ (false = true) by decide)] at H1
    clear H
    have H := H1
    clear H1
    have H' := mS H
    clear H
    obtain ⟨Ao22, co22, eo22⟩ := Mz.Z_slice HO175.out
    subst eo22
    obtain ⟨Ao23, co23, eo23⟩ := Mz.Z_slice HO167.out
    subst eo23
    go_wp2_with (first | ((with_reducible refine gate_callee (f := 10) rfl ?_); refine mGo 40 Try.func10 #[.slice Ao22 t171.length co22, .slice Ao23 t163.length co23] ?_; (with_reducible refine (laws_eqByteS.calls k _ _ t171 _ _ t163 false _ ?side1 ?side2 ?side3 ?side4 A15.out).mono ?_); (case side1 => exact mC (Mz.Z_reads' HO175.out).2.2); (case side2 => exact (Mz.Z_reads' HO175.out).2.1); (case side3 => exact mC (Mz.Z_reads' HO167.out).2.2); (case side4 => exact (Mz.Z_reads' HO167.out).2.1); rintro e w' ⟨rfl, ⟨nd, rfl⟩⟩; refine ⟨_, rfl, ?_⟩))
    go_meet
    case rel => exact ⟨_, (true), mE, H', ⟨by first | omega | exact Nat.le_refl _⟩, ⟨by (with_reducible repeat (first | apply Mz.Z_alloc | apply Mz.Z_drewN | apply Mz.Z_drew)); exact Mz.Z_mono HO167.out (fun _ hk => ⟨hk.1.2, hk.2⟩)⟩, ⟨by (with_reducible repeat (first | apply Mz.Z_alloc | apply Mz.Z_drewN | apply Mz.Z_drew)); exact Mz.Z_mono HO170.out (fun _ hk => ⟨hk.1.2, hk.2⟩)⟩, ⟨by (with_reducible repeat (first | apply Mz.Z_alloc | apply Mz.Z_drewN | apply Mz.Z_drew)); exact Mz.Z_mono HO175.out (fun _ hk => ⟨hk.1.2, hk.2⟩)⟩, ⟨(mH HB.out)⟩⟩
  case rest =>
   clear HC8
   try clear c1
   try clear p2
   try clear c3
   try clear c3b0
   try clear c3b1
   try clear c7
   try clear c8
   try clear c9
   try clear c10
   try clear c16
   try clear c17
   try clear c17b0
   try clear c17b1
   obtain ⟨kq, x51_7, rfl, HA, HJ7, HO_5, HO_8, HO_9, HB⟩ := hcut
   cases kq with
   | zero => exact absurd HA.out (by simp [laws_FnExactUnframe.j0])
   | succ kj7 =>
    have H := HA.out
    clear HA
    simp only [laws_FnExactUnframe.j0] at H
    by_cases c24 : x51_7 = true
    ·subst c24
     have H1 := H
     rw [if_pos rfl] at H1
     clear H
     have H := H1
     clear H1
     exact absurd ((Option.some.inj H).trans ht_) (by decide)
    ·replace c24 := Bool.eq_false_iff.mpr c24
     subst c24
     have H1 := H
     rw [if_neg (show ¬ (false = true) by decide)] at H1
     clear H
     have H := H1
     clear H1
     replace H := Option.bind_eq_some_iff.mp H
     obtain ⟨t177, A250, H⟩ := H
     replace H : ((laws_eqByteS.f kj7 t168 t177).bind fun t180 => (if t180 = true then ((laws_markByteS.f kj7 t168 1).bind fun bt181 => (if bt181.1 < 0 then (laws_FnExactUnframe.j1 kj7 l0 a1 t163 t164 t165 t171 true) else ((laws_eqByteS.f kj7 t171 t163).bind fun t183 => (if t183 = true then (if t172 = t164 then (laws_FnExactUnframe.j1 kj7 l0 a1 t163 t164 t165 t171 (t173 != t165)) else (laws_FnExactUnframe.j1 kj7 l0 a1 t163 t164 t165 t171 true)) else (laws_FnExactUnframe.j1 kj7 l0 a1 t163 t164 t165 t171 true))))) else (some false))) = some r := H
     have A25 := mS A250
     clear A250
     replace H := Option.bind_eq_some_iff.mp H
     obtain ⟨t180, A260, H⟩ := H
     replace H : (if t180 = true then ((laws_markByteS.f kj7 t168 1).bind fun bt181 => (if bt181.1 < 0 then (laws_FnExactUnframe.j1 kj7 l0 a1 t163 t164 t165 t171 true) else ((laws_eqByteS.f kj7 t171 t163).bind fun t183 => (if t183 = true then (if t172 = t164 then (laws_FnExactUnframe.j1 kj7 l0 a1 t163 t164 t165 t171 (t173 != t165)) else (laws_FnExactUnframe.j1 kj7 l0 a1 t163 t164 t165 t171 true)) else (laws_FnExactUnframe.j1 kj7 l0 a1 t163 t164 t165 t171 true))))) else (some false)) = some r := H
     have A26 := mS A260
     clear A260
     by_cases c27 : t180 = true
     ·subst c27
      have H1 := H
      rw [if_pos rfl] at H1
      clear H
      have H := H1
      clear H1
      replace H := Option.bind_eq_some_iff.mp H
      obtain ⟨⟨t181, t182⟩, A280, H⟩ := H
      replace H : (if t181 < 0 then (laws_FnExactUnframe.j1 kj7 l0 a1 t163 t164 t165 t171 true) else ((laws_eqByteS.f kj7 t171 t163).bind fun t183 => (if t183 = true then (if t172 = t164 then (laws_FnExactUnframe.j1 kj7 l0 a1 t163 t164 t165 t171 (t173 != t165)) else (laws_FnExactUnframe.j1 kj7 l0 a1 t163 t164 t165 t171 true)) else (laws_FnExactUnframe.j1 kj7 l0 a1 t163 t164 t165 t171 true)))) = some r := H
      have A28 := mS A280
      clear A280
      have HC29 := mS H
      clear H
      go_upto_region 12 with (first | ((with_reducible refine gate_callee (f := 8) rfl ?_); refine mGo 54 Try.func8 #[.slice A0 l0.length c0] ?_; (with_reducible refine (laws_toByteS.calls kj7 _ _ l0 t177 _ ?side1 ?side2 A25.out).mono ?_); (case side1 => exact mC (Kd.C_below HR0.out HB.out)); (case side2 => exact HC0.out); rintro e w30 ⟨v178, rfl, ho0, hb⟩; refine ⟨_, rfl, ?_⟩; replace ho0 := Mz.of ho0; have HO179 := mS (Mz.Z_lower (Mz.Z_new' (Mz.Z_new' (Mz.Z_new' ho0 (Mz.Z_lt (by (with_reducible repeat (first | apply Mz.Z_alloc | apply Mz.Z_drewN | apply Mz.Z_drew)); exact HO_5.out))) (Mz.Z_lt (by (with_reducible repeat (first | apply Mz.Z_alloc | apply Mz.Z_drewN | apply Mz.Z_drew)); exact HO_8.out))) (Mz.Z_lt (by (with_reducible repeat (first | apply Mz.Z_alloc | apply Mz.Z_drewN | apply Mz.Z_drew)); exact HO_9.out))) (below_size (mH HB.out))); replace HO_5 := mS (Mz.Z_elder' (by (with_reducible repeat (first | apply Mz.Z_alloc | apply Mz.Z_drewN | apply Mz.Z_drew)); exact HO_5.out) (Mz.Z_base ho0) hb); replace HO_8 := mS (Mz.Z_elder' (by (with_reducible repeat (first | apply Mz.Z_alloc | apply Mz.Z_drewN | apply Mz.Z_drew)); exact HO_8.out) (Mz.Z_base ho0) hb); replace HO_9 := mS (Mz.Z_elder' (by (with_reducible repeat (first | apply Mz.Z_alloc | apply Mz.Z_drewN | apply Mz.Z_drew)); exact HO_9.out) (Mz.Z_base ho0) hb); replace HB := mS (below_step (mH HB.out) hb); (try clear hb); (try clear ho0); obtain ⟨Ao31, co31, eo31⟩ := Mz.Z_slice HO179.out; subst eo31) | ((with_reducible refine gate_callee (f := 10) rfl ?_); refine mGo 55 Try.func10 #[.slice Ao13 t168.length co13, .slice Ao31 t177.length co31] ?_; (with_reducible refine (laws_eqByteS.calls kj7 _ _ t168 _ _ t177 true _ ?side1 ?side2 ?side3 ?side4 A26.out).mono ?_); (case side1 => exact mC (Mz.Z_reads' HO_8.out).2.2); (case side2 => exact (Mz.Z_reads' HO_8.out).2.1); (case side3 => exact mC (Mz.Z_reads' HO179.out).2.2); (case side4 => exact (Mz.Z_reads' HO179.out).2.1); rintro e w' ⟨rfl, ⟨nd, rfl⟩⟩; refine ⟨_, rfl, ?_⟩) | ((with_reducible refine gate_callee (f := 11) rfl ?_); refine mGo 59 Try.func11 #[.slice Ao13 t168.length co13, .int .i64 1] ?_; (with_reducible refine (laws_markByteS.calls kj7 (fun k_ => some k_ = (.slice Ao13 t168.length co13 : Value).ownBlock) (.slice Ao13 t168.length co13) t168 1 t181 t182 w _ ?side1 ?side2 A28.out).mono ?_); (case side1 => exact mH HB.out); (case side2 => exact Mz.Z_tight rfl HO_8.out); rintro e w32 ⟨rfl, hy0, hb, hkp⟩; refine ⟨_, rfl, ?_⟩; replace HO_5 := mS (Mz.Z_mono (ok' := fun k_ => some k_ ≠ (.slice Ao13 t168.length co13 : Value).ownBlock ∧ some k_ ≠ (v174 : Value).ownBlock ∧ some k_ ≠ (.slice Ao31 t177.length co31 : Value).ownBlock) (Mz.Z_keptB (HO_5.out) hkp (fun k_ hk_ hs_ => (hk_.1.1) hs_)) (fun k_ hk_ => ⟨hk_.1.1.1, hk_.1.1.2, hk_.1.2⟩)); replace HO_8 := mS (Mz.Z_reok rfl hy0 (fun k_ e_ => HO_8.out.1 k_ e_)); replace HO_9 := mS (Mz.Z_mono (ok' := fun k_ => some k_ ≠ (v166 : Value).ownBlock ∧ some k_ ≠ (.slice Ao13 t168.length co13 : Value).ownBlock ∧ some k_ ≠ (.slice Ao31 t177.length co31 : Value).ownBlock) (Mz.Z_keptB (HO_9.out) hkp (fun k_ hk_ hs_ => (hk_.1.2) hs_)) (fun k_ hk_ => ⟨hk_.1.1.1, hk_.1.1.2, hk_.1.2⟩)); replace HO179 := mS (Mz.Z_mono (ok' := fun k_ => some k_ ≠ (v166 : Value).ownBlock ∧ some k_ ≠ (.slice Ao13 t168.length co13 : Value).ownBlock ∧ some k_ ≠ (v174 : Value).ownBlock) (Mz.Z_keptB (HO179.out) hkp (fun k_ hk_ hs_ => (hk_.1.2) hs_)) (fun k_ hk_ => ⟨hk_.1.1.1.2, hk_.1.1.2, hk_.1.2⟩)); replace HB := mS (hb); (try clear hb); (try clear hkp); (try clear hy0)))
      (try simp only [Act.put, zA, zB, zC])
      go_cut [77] (fun v77 wc => ∃ (kq : Nat) (x77_28 : Bool), v77 = .bool x77_28 ∧ Aside0 (laws_FnExactUnframe.j1 kq l0 a1 t163 t164 t165 t171 x77_28 = some r) ∧ Aside0 (kq ≤ kj7) ∧ Aside0 (Mz.Z 5 wc w.heap.size (fun k_ => some k_ ≠ (v174 : Value).ownBlock) v166 t163) ∧ Aside0 (Mz.Z 5 wc w.heap.size (fun k_ => some k_ ≠ (v166 : Value).ownBlock) v174 t171) ∧ Aside0 (Below w.heap.size w wc))
      case first =>
       have H := HC29.out
       clear HC29
       by_cases c33 : t181 < 0
       ·rw [if_pos c33] at H
        have c33b0 := decide_eq_true c33
        clear c33
        (first | rw [c33b0] | (simp only [i64_w, i32_w]; rw [c33b0]) | skip)
        have H' := mS H
        clear H
        go_wp2
        go_meet
        case rel => exact ⟨_, (true), mE, H', ⟨by have := HJ7.out; first | omega | exact Nat.le_refl _⟩, ⟨by (with_reducible repeat (first | apply Mz.Z_alloc | apply Mz.Z_drewN | apply Mz.Z_drew)); exact Mz.Z_mono HO_5.out (fun _ hk => hk.2.1)⟩, ⟨by (with_reducible repeat (first | apply Mz.Z_alloc | apply Mz.Z_drewN | apply Mz.Z_drew)); exact Mz.Z_mono HO_9.out (fun _ hk => hk.1)⟩, ⟨(mH HB.out)⟩⟩
       ·rw [if_neg c33] at H
        have c33b0 := decide_eq_false c33
        clear c33
        (first | rw [c33b0] | (simp only [i64_w, i32_w]; rw [c33b0]) | skip)
        replace H := Option.bind_eq_some_iff.mp H
        obtain ⟨t183, A340, H⟩ := H
        replace H : (if t183 = true then (if t172 = t164 then (laws_FnExactUnframe.j1 kj7 l0 a1 t163 t164 t165 t171 (t173 != t165)) else (laws_FnExactUnframe.j1 kj7 l0 a1 t163 t164 t165 t171 true)) else (laws_FnExactUnframe.j1 kj7 l0 a1 t163 t164 t165 t171 true)) = some r := H
        have A34 := mS A340
        clear A340
        by_cases c35 : t183 = true
        ·subst c35
         have H1 := H
         rw [if_pos rfl] at H1
         clear H
         have H := H1
         clear H1
         by_cases c36 : t172 = t164
         ·rw [if_pos c36] at H
          have c36b0 : (t172 == t164) = true := beq_iff_eq.mpr c36
          have c36b1 : (t172 != t164) = false := bne_eq_false_iff_eq.mpr c36
          clear c36
          have H' := mS H
          clear H
          obtain ⟨Ao37, co37, eo37⟩ := Mz.Z_slice HO_9.out
          subst eo37
          obtain ⟨Ao38, co38, eo38⟩ := Mz.Z_slice HO_5.out
          subst eo38
          go_wp2_with (first | (go_at_call 10; (with_reducible refine (laws_eqByteS.calls kj7 _ _ t171 _ _ t163 true _ ?side1 ?side2 ?side3 ?side4 A34.out).mono ?_); (case side1 => exact mC (Mz.Z_reads' HO_9.out).2.2); (case side2 => exact (Mz.Z_reads' HO_9.out).2.1); (case side3 => exact mC (Mz.Z_reads' HO_5.out).2.2); (case side4 => exact (Mz.Z_reads' HO_5.out).2.1); rintro e w' ⟨rfl, ⟨nd, rfl⟩⟩))
          go_meet
          case rel => exact ⟨_, ((t173 != t165)), mE, H', ⟨by have := HJ7.out; first | omega | exact Nat.le_refl _⟩, ⟨by (with_reducible repeat (first | apply Mz.Z_alloc | apply Mz.Z_drewN | apply Mz.Z_drew)); exact Mz.Z_mono HO_5.out (fun _ hk => hk.2.1)⟩, ⟨by (with_reducible repeat (first | apply Mz.Z_alloc | apply Mz.Z_drewN | apply Mz.Z_drew)); exact Mz.Z_mono HO_9.out (fun _ hk => hk.1)⟩, ⟨(mH HB.out)⟩⟩
         ·rw [if_neg c36] at H
          have c36b0 : (t172 == t164) = false := beq_eq_false_iff_ne.mpr c36
          have c36b1 : (t172 != t164) = true := bne_iff_ne.mpr c36
          have H' := mS H
          clear H
          obtain ⟨Ao39, co39, eo39⟩ := Mz.Z_slice HO_9.out
          subst eo39
          obtain ⟨Ao40, co40, eo40⟩ := Mz.Z_slice HO_5.out
          subst eo40
          go_wp2_with (first | (go_at_call 10; (with_reducible refine (laws_eqByteS.calls kj7 _ _ t171 _ _ t163 true _ ?side1 ?side2 ?side3 ?side4 A34.out).mono ?_); (case side1 => exact mC (Mz.Z_reads' HO_9.out).2.2); (case side2 => exact (Mz.Z_reads' HO_9.out).2.1); (case side3 => exact mC (Mz.Z_reads' HO_5.out).2.2); (case side4 => exact (Mz.Z_reads' HO_5.out).2.1); rintro e w' ⟨rfl, ⟨nd, rfl⟩⟩))
          go_meet
          case rel => exact ⟨_, (true), mE, H', ⟨by have := HJ7.out; first | omega | exact Nat.le_refl _⟩, ⟨by (with_reducible repeat (first | apply Mz.Z_alloc | apply Mz.Z_drewN | apply Mz.Z_drew)); exact Mz.Z_mono HO_5.out (fun _ hk => hk.2.1)⟩, ⟨by (with_reducible repeat (first | apply Mz.Z_alloc | apply Mz.Z_drewN | apply Mz.Z_drew)); exact Mz.Z_mono HO_9.out (fun _ hk => hk.1)⟩, ⟨(mH HB.out)⟩⟩
        ·replace c35 := Bool.eq_false_iff.mpr c35
         subst c35
         have H1 := H
         rw [if_neg (show ¬ (false = true) by decide)] at H1
         clear H
         have H := H1
         clear H1
         have H' := mS H
         clear H
         obtain ⟨Ao41, co41, eo41⟩ := Mz.Z_slice HO_9.out
         subst eo41
         obtain ⟨Ao42, co42, eo42⟩ := Mz.Z_slice HO_5.out
         subst eo42
         go_wp2_with (first | (go_at_call 10; (with_reducible refine (laws_eqByteS.calls kj7 _ _ t171 _ _ t163 false _ ?side1 ?side2 ?side3 ?side4 A34.out).mono ?_); (case side1 => exact mC (Mz.Z_reads' HO_9.out).2.2); (case side2 => exact (Mz.Z_reads' HO_9.out).2.1); (case side3 => exact mC (Mz.Z_reads' HO_5.out).2.2); (case side4 => exact (Mz.Z_reads' HO_5.out).2.1); rintro e w' ⟨rfl, ⟨nd, rfl⟩⟩))
         go_meet
         case rel => exact ⟨_, (true), mE, H', ⟨by have := HJ7.out; first | omega | exact Nat.le_refl _⟩, ⟨by (with_reducible repeat (first | apply Mz.Z_alloc | apply Mz.Z_drewN | apply Mz.Z_drew)); exact Mz.Z_mono HO_5.out (fun _ hk => hk.2.1)⟩, ⟨by (with_reducible repeat (first | apply Mz.Z_alloc | apply Mz.Z_drewN | apply Mz.Z_drew)); exact Mz.Z_mono HO_9.out (fun _ hk => hk.1)⟩, ⟨(mH HB.out)⟩⟩
      case rest =>
       clear HC29
       try clear c1
       try clear c2
       try clear p2
       try clear c3
       try clear c3b0
       try clear c3b1
       try clear c7
       try clear c8
       try clear c9
       try clear c10
       try clear c11
       try clear c16
       try clear c17
       try clear c17b0
       try clear c17b1
       try clear c24
       try clear c27
       try clear c33
       try clear c33b0
       try clear c35
       try clear c36
       try clear c36b0
       try clear c36b1
       try clear p2
       obtain ⟨kq, x77_28, rfl, HA, HJ28, HO_5, HO_9, HB⟩ := hcut
       cases kq with
       | zero => exact absurd HA.out (by simp [laws_FnExactUnframe.j1])
       | succ kj28 =>
        have H := HA.out
        clear HA
        simp only [laws_FnExactUnframe.j1] at H
        by_cases c43 : x77_28 = true
        ·subst c43
         have H1 := H
         rw [if_pos rfl] at H1
         clear H
         have H := H1
         clear H1
         exact absurd ((Option.some.inj H).trans ht_) (by decide)
        ·replace c43 := Bool.eq_false_iff.mpr c43
         subst c43
         have H1 := H
         rw [if_neg (show ¬ (false = true) by decide)] at H1
         clear H
         have H := H1
         clear H1
         replace H := Option.bind_eq_some_iff.mp H
         obtain ⟨⟨t184, t185⟩, A440, H⟩ := H
         replace H : ((laws_heldByteS.f kj28 t185 1).bind fun t186 => (if t186 < 0 then (some false) else (if t186 = t184 then ((laws_toByteS.f kj28 l0).bind fun t187 => ((impl_Unframe.f kj28 t187 a1).bind fun bt190 => ((laws_eqByteS.f kj28 bt190.1 t163).bind fun t195 => (if t195 = true then (if bt190.2.1 = t164 then (laws_FnExactUnframe.j2 kj28 t185 t184 (bt190.2.2 != t165)) else (laws_FnExactUnframe.j2 kj28 t185 t184 true)) else (laws_FnExactUnframe.j2 kj28 t185 t184 true))))) else (some false)))) = some r := H
         have A44 := mS A440
         clear A440
         replace H := Option.bind_eq_some_iff.mp H
         obtain ⟨t186, A450, H⟩ := H
         replace H : (if t186 < 0 then (some false) else (if t186 = t184 then ((laws_toByteS.f kj28 l0).bind fun t187 => ((impl_Unframe.f kj28 t187 a1).bind fun bt190 => ((laws_eqByteS.f kj28 bt190.1 t163).bind fun t195 => (if t195 = true then (if bt190.2.1 = t164 then (laws_FnExactUnframe.j2 kj28 t185 t184 (bt190.2.2 != t165)) else (laws_FnExactUnframe.j2 kj28 t185 t184 true)) else (laws_FnExactUnframe.j2 kj28 t185 t184 true))))) else (some false))) = some r := H
         have A45 := mS A450
         clear A450
         by_cases c46 : t186 < 0
         ·rw [if_pos c46] at H
          have c46b0 := decide_eq_true c46
          clear c46
          exact absurd ((Option.some.inj H).trans ht_) (by decide)
         ·rw [if_neg c46] at H
          have c46b0 := decide_eq_false c46
          clear c46
          by_cases c47 : t186 = t184
          ·rw [if_pos c47] at H
           have c47b0 : (t186 == t184) = true := beq_iff_eq.mpr c47
           have c47b1 : (t186 != t184) = false := bne_eq_false_iff_eq.mpr c47
           clear c47
           replace H := Option.bind_eq_some_iff.mp H
           obtain ⟨t187, A480, H⟩ := H
           replace H : ((impl_Unframe.f kj28 t187 a1).bind fun bt190 => ((laws_eqByteS.f kj28 bt190.1 t163).bind fun t195 => (if t195 = true then (if bt190.2.1 = t164 then (laws_FnExactUnframe.j2 kj28 t185 t184 (bt190.2.2 != t165)) else (laws_FnExactUnframe.j2 kj28 t185 t184 true)) else (laws_FnExactUnframe.j2 kj28 t185 t184 true)))) = some r := H
           have A48 := mS A480
           clear A480
           replace H := Option.bind_eq_some_iff.mp H
           obtain ⟨⟨t190, t191, t192⟩, A490, H⟩ := H
           replace H : ((laws_eqByteS.f kj28 t190 t163).bind fun t195 => (if t195 = true then (if t191 = t164 then (laws_FnExactUnframe.j2 kj28 t185 t184 (t192 != t165)) else (laws_FnExactUnframe.j2 kj28 t185 t184 true)) else (laws_FnExactUnframe.j2 kj28 t185 t184 true))) = some r := H
           have A49 := mS A490
           clear A490
           have HC50 := mS H
           clear H
           obtain ⟨Ao51, co51, eo51⟩ := Mz.Z_slice HO_9.out
           subst eo51
           go_upto_region 23 with (first | ((with_reducible refine gate_callee (f := 11) rfl ?_); refine mGo 80 Try.func11 #[.slice Ao51 t171.length co51, .int .i64 1] ?_; (with_reducible refine (laws_markByteS.calls kj28 (fun k_ => some k_ = (.slice Ao51 t171.length co51 : Value).ownBlock) (.slice Ao51 t171.length co51) t171 1 t184 t185 w _ ?side1 ?side2 A44.out).mono ?_); (case side1 => exact mH HB.out); (case side2 => exact Mz.Z_tight rfl HO_9.out); rintro e w52 ⟨rfl, hy0, hb, hkp⟩; refine ⟨_, rfl, ?_⟩; replace HO_5 := mS (Mz.Z_mono (ok' := fun k_ => some k_ ≠ (.slice Ao51 t171.length co51 : Value).ownBlock) (Mz.Z_keptB (HO_5.out) hkp (fun k_ hk_ hs_ => (hk_) hs_)) (fun k_ hk_ => hk_.1)); replace HO_9 := mS (Mz.Z_reok rfl hy0 (fun k_ e_ => HO_9.out.1 k_ e_)); replace HB := mS (hb); (try clear hb); (try clear hkp); (try clear hy0)) | ((with_reducible refine gate_callee (f := 12) rfl ?_); refine goesL_ (some 83) rfl rfl Try.func12 (by kernel_rfl) rfl #[.slice Ao51 t185.length co51, .int .i64 1] rfl (by (try simp only [List.map_toArray, List.map_cons, List.map_nil]); first | done | (rw [show t185.length = t171.length from (Mz.Z_reads' HO_9.out).1.symm] <;> rfl) | rfl | (simp only [List.length_drop, List.length_take]; rfl)) ?_; (with_reducible refine (laws_heldByteS.calls kj28 _ _ t185 1 t186 _ ?side1 ?side2 A45.out).mono ?_); (case side1 => exact mC (Mz.Z_reads' HO_9.out).2.2); (case side2 => rw [show t185.length = t171.length from (Mz.Z_reads' HO_9.out).1.symm]; exact (Mz.Z_reads' HO_9.out).2.1); rintro e w' ⟨rfl, ⟨nd, rfl⟩⟩; refine ⟨_, rfl, ?_⟩) | ((with_reducible refine gate_callee (f := 8) rfl ?_); refine mGo 91 Try.func8 #[.slice A0 l0.length c0] ?_; (with_reducible refine (laws_toByteS.calls kj28 _ _ l0 t187 _ ?side1 ?side2 A48.out).mono ?_); (case side1 => exact mC (Kd.C_below HR0.out (mH HB.out))); (case side2 => exact HC0.out); rintro e w53 ⟨v188, rfl, ho0, hb⟩; refine ⟨_, rfl, ?_⟩; replace ho0 := Mz.of ho0; have HO189 := mS (Mz.Z_lower (Mz.Z_new' (Mz.Z_new' ho0 (Mz.Z_lt (by (with_reducible repeat (first | apply Mz.Z_alloc | apply Mz.Z_drewN | apply Mz.Z_drew)); exact HO_5.out))) (Mz.Z_lt (by (with_reducible repeat (first | apply Mz.Z_alloc | apply Mz.Z_drewN | apply Mz.Z_drew)); exact HO_9.out))) (below_size (mH HB.out))); replace HO_5 := mS (Mz.Z_elder' (by (with_reducible repeat (first | apply Mz.Z_alloc | apply Mz.Z_drewN | apply Mz.Z_drew)); exact HO_5.out) (Mz.Z_base ho0) hb); replace HO_9 := mS (Mz.Z_elder' (by (with_reducible repeat (first | apply Mz.Z_alloc | apply Mz.Z_drewN | apply Mz.Z_drew)); exact HO_9.out) (Mz.Z_base ho0) hb); replace HB := mS (below_step (mH HB.out) hb); (try clear hb); (try clear ho0); obtain ⟨Ao54, co54, eo54⟩ := Mz.Z_slice HO189.out; subst eo54) | ((with_reducible refine gate_callee (f := 9) rfl ?_); refine mGo 93 Try.func9 #[.slice Ao54 t187.length co54, .int .i64 a1] ?_; (with_reducible refine (impl_Unframe.calls kj28 _ _ t187 a1 t190 t191 t192 _ ?side1 ?side2 A49.out).mono ?_); (case side1 => exact mC (Mz.Z_reads' HO189.out).2.2); (case side2 => exact (Mz.Z_reads' HO189.out).2.1); rintro e w55 ⟨v193, rfl, ho0, hb⟩; refine ⟨_, rfl, ?_⟩; have HO194 := mS (Mz.Z_lower (Mz.Z_new' (Mz.Z_new' (Mz.Z_new' ho0 (Mz.Z_lt (by (with_reducible repeat (first | apply Mz.Z_alloc | apply Mz.Z_drewN | apply Mz.Z_drew)); exact HO_5.out))) (Mz.Z_lt (by (with_reducible repeat (first | apply Mz.Z_alloc | apply Mz.Z_drewN | apply Mz.Z_drew)); exact HO_9.out))) (Mz.Z_lt (by (with_reducible repeat (first | apply Mz.Z_alloc | apply Mz.Z_drewN | apply Mz.Z_drew)); exact HO189.out))) (below_size (mH HB.out))); replace HO_5 := mS (Mz.Z_elder' (by (with_reducible repeat (first | apply Mz.Z_alloc | apply Mz.Z_drewN | apply Mz.Z_drew)); exact HO_5.out) (Mz.Z_base ho0) hb); replace HO_9 := mS (Mz.Z_elder' (by (with_reducible repeat (first | apply Mz.Z_alloc | apply Mz.Z_drewN | apply Mz.Z_drew)); exact HO_9.out) (Mz.Z_base ho0) hb); replace HO189 := mS (Mz.Z_elder' (by (with_reducible repeat (first | apply Mz.Z_alloc | apply Mz.Z_drewN | apply Mz.Z_drew)); exact HO189.out) (Mz.Z_base ho0) hb); replace HB := mS (below_step (mH HB.out) hb); (try clear hb); (try clear ho0)))
           (try simp only [Act.put, zA, zB, zC])
           go_cut [110] (fun v110 wc => ∃ (kq : Nat) (x110_49 : Bool), v110 = .bool x110_49 ∧ Aside0 (laws_FnExactUnframe.j2 kq t185 t184 x110_49 = some r) ∧ Aside0 (kq ≤ kj28) ∧ Aside0 (Mz.Z 5 wc w.heap.size (fun _ => True) (.slice Ao51 t171.length co51) t185) ∧ Aside0 (Below w.heap.size w wc))
           case first =>
            have H := HC50.out
            clear HC50
            replace H := Option.bind_eq_some_iff.mp H
            obtain ⟨t195, A560, H⟩ := H
            replace H : (if t195 = true then (if t191 = t164 then (laws_FnExactUnframe.j2 kj28 t185 t184 (t192 != t165)) else (laws_FnExactUnframe.j2 kj28 t185 t184 true)) else (laws_FnExactUnframe.j2 kj28 t185 t184 true)) = some r := H
            have A56 := mS A560
            clear A560
            by_cases c57 : t195 = true
            ·subst c57
             have H1 := H
             rw [if_pos rfl] at H1
             clear H
             have H := H1
             clear H1
             by_cases c58 : t191 = t164
             ·rw [if_pos c58] at H
              have c58b0 : (t191 == t164) = true := beq_iff_eq.mpr c58
              have c58b1 : (t191 != t164) = false := bne_eq_false_iff_eq.mpr c58
              clear c58
              (first | rw [c58b0] | (simp only [i64_w, i32_w]; rw [c58b0]) | skip)
              have H' := mS H
              clear H
              obtain ⟨Ao59, co59, eo59⟩ := Mz.Z_slice HO194.out
              subst eo59
              obtain ⟨Ao60, co60, eo60⟩ := Mz.Z_slice HO_5.out
              subst eo60
              go_wp2_with (first | ((with_reducible refine gate_callee (f := 10) rfl ?_); refine mGo 99 Try.func10 #[.slice Ao59 t190.length co59, .slice Ao60 t163.length co60] ?_; (with_reducible refine (laws_eqByteS.calls kj28 _ _ t190 _ _ t163 true _ ?side1 ?side2 ?side3 ?side4 A56.out).mono ?_); (case side1 => exact mC (Mz.Z_reads' HO194.out).2.2); (case side2 => exact (Mz.Z_reads' HO194.out).2.1); (case side3 => exact mC (Mz.Z_reads' HO_5.out).2.2); (case side4 => exact (Mz.Z_reads' HO_5.out).2.1); rintro e w' ⟨rfl, ⟨nd, rfl⟩⟩; refine ⟨_, rfl, ?_⟩))
              go_meet
              case rel => exact ⟨_, ((t192 != t165)), mE, H', ⟨by have := HJ7.out; have := HJ28.out; first | omega | exact Nat.le_refl _⟩, ⟨by (with_reducible repeat (first | apply Mz.Z_alloc | apply Mz.Z_drewN | apply Mz.Z_drew)); exact Mz.Z_mono HO_9.out (fun _ hk => trivial)⟩, ⟨(mH HB.out)⟩⟩
             ·rw [if_neg c58] at H
              have c58b0 : (t191 == t164) = false := beq_eq_false_iff_ne.mpr c58
              have c58b1 : (t191 != t164) = true := bne_iff_ne.mpr c58
              (first | rw [c58b0] | (simp only [i64_w, i32_w]; rw [c58b0]) | skip)
              have H' := mS H
              clear H
              obtain ⟨Ao61, co61, eo61⟩ := Mz.Z_slice HO194.out
              subst eo61
              obtain ⟨Ao62, co62, eo62⟩ := Mz.Z_slice HO_5.out
              subst eo62
              go_wp2_with (first | ((with_reducible refine gate_callee (f := 10) rfl ?_); refine mGo 99 Try.func10 #[.slice Ao61 t190.length co61, .slice Ao62 t163.length co62] ?_; (with_reducible refine (laws_eqByteS.calls kj28 _ _ t190 _ _ t163 true _ ?side1 ?side2 ?side3 ?side4 A56.out).mono ?_); (case side1 => exact mC (Mz.Z_reads' HO194.out).2.2); (case side2 => exact (Mz.Z_reads' HO194.out).2.1); (case side3 => exact mC (Mz.Z_reads' HO_5.out).2.2); (case side4 => exact (Mz.Z_reads' HO_5.out).2.1); rintro e w' ⟨rfl, ⟨nd, rfl⟩⟩; refine ⟨_, rfl, ?_⟩))
              go_meet
              case rel => exact ⟨_, (true), mE, H', ⟨by have := HJ7.out; have := HJ28.out; first | omega | exact Nat.le_refl _⟩, ⟨by (with_reducible repeat (first | apply Mz.Z_alloc | apply Mz.Z_drewN | apply Mz.Z_drew)); exact Mz.Z_mono HO_9.out (fun _ hk => trivial)⟩, ⟨(mH HB.out)⟩⟩
            ·replace c57 := Bool.eq_false_iff.mpr c57
             subst c57
             have H1 := H
             rw [if_neg (show ¬ (false = true) by decide)] at H1
             clear H
             have H := H1
             clear H1
             have H' := mS H
             clear H
             obtain ⟨Ao63, co63, eo63⟩ := Mz.Z_slice HO194.out
             subst eo63
             obtain ⟨Ao64, co64, eo64⟩ := Mz.Z_slice HO_5.out
             subst eo64
             go_wp2_with (first | ((with_reducible refine gate_callee (f := 10) rfl ?_); refine mGo 99 Try.func10 #[.slice Ao63 t190.length co63, .slice Ao64 t163.length co64] ?_; (with_reducible refine (laws_eqByteS.calls kj28 _ _ t190 _ _ t163 false _ ?side1 ?side2 ?side3 ?side4 A56.out).mono ?_); (case side1 => exact mC (Mz.Z_reads' HO194.out).2.2); (case side2 => exact (Mz.Z_reads' HO194.out).2.1); (case side3 => exact mC (Mz.Z_reads' HO_5.out).2.2); (case side4 => exact (Mz.Z_reads' HO_5.out).2.1); rintro e w' ⟨rfl, ⟨nd, rfl⟩⟩; refine ⟨_, rfl, ?_⟩))
             go_meet
             case rel => exact ⟨_, (true), mE, H', ⟨by have := HJ7.out; have := HJ28.out; first | omega | exact Nat.le_refl _⟩, ⟨by (with_reducible repeat (first | apply Mz.Z_alloc | apply Mz.Z_drewN | apply Mz.Z_drew)); exact Mz.Z_mono HO_9.out (fun _ hk => trivial)⟩, ⟨(mH HB.out)⟩⟩
           case rest =>
            clear HC50
            try clear c1
            try clear c2
            try clear p2
            try clear c3
            try clear c3b0
            try clear c3b1
            try clear c4
            try clear c5
            try clear c7
            try clear c8
            try clear c9
            try clear c10
            try clear c11
            try clear c12
            try clear c16
            try clear c17
            try clear c17b0
            try clear c17b1
            try clear c24
            try clear c27
            try clear c33
            try clear c33b0
            try clear c35
            try clear c36
            try clear c36b0
            try clear c36b1
            try clear c43
            try clear c46
            try clear c46b0
            try clear c47
            try clear c47b0
            try clear c47b1
            try clear c57
            try clear c58
            try clear c58b0
            try clear c58b1
            try clear p2
            obtain ⟨kq, x110_49, rfl, HA, HJ49, HO_9, HB⟩ := hcut
            have hl9_49 := (Mz.Z_reads' HO_9.out).1
            rw [hl9_49] at HO_9
            (try simp only [hl9_49])
            cases kq with
            | zero => exact absurd HA.out (by simp [laws_FnExactUnframe.j2])
            | succ kj49 =>
             have H := HA.out
             clear HA
             simp only [laws_FnExactUnframe.j2] at H
             by_cases c65 : x110_49 = true
             ·subst c65
              have H1 := H
              rw [if_pos rfl] at H1
              clear H
              have H := H1
              clear H1
              exact absurd ((Option.some.inj H).trans ht_) (by decide)
             ·replace c65 := Bool.eq_false_iff.mpr c65
              subst c65
              have H1 := H
              rw [if_neg (show ¬ (false = true) by decide)] at H1
              clear H
              have H := H1
              clear H1
              replace H := Option.bind_eq_some_iff.mp H
              obtain ⟨t196, A660, H⟩ := H
              replace H : (if t196 < 0 then (some false) else (if t196 = t184 then (some true) else (some false))) = some r := H
              have A66 := mS A660
              clear A660
              by_cases c67 : t196 < 0
              ·rw [if_pos c67] at H
               have c67b0 := decide_eq_true c67
               clear c67
               exact absurd ((Option.some.inj H).trans ht_) (by decide)
              ·rw [if_neg c67] at H
               have c67b0 := decide_eq_false c67
               clear c67
               by_cases c68 : t196 = t184
               ·rw [if_pos c68] at H
                have c68b0 : (t196 == t184) = true := beq_iff_eq.mpr c68
                have c68b1 : (t196 != t184) = false := bne_eq_false_iff_eq.mpr c68
                clear c68
                obtain rfl := Option.some.inj H
                go_wp2_with (first | ((with_reducible refine gate_callee (f := 12) rfl ?_); refine mGo 113 Try.func12 #[.slice Ao51 t185.length co51, .int .i64 1] ?_; (with_reducible refine (laws_heldByteS.calls kj49 _ _ t185 1 t196 _ ?side1 ?side2 A66.out).mono ?_); (case side1 => exact mC (Mz.Z_reads' HO_9.out).2.2); (case side2 => exact (Mz.Z_reads' HO_9.out).2.1); rintro e w' ⟨rfl, ⟨nd, rfl⟩⟩; refine ⟨_, rfl, ?_⟩))
                go_ret
                exact ⟨mEw, (mH HB.out)⟩
               ·rw [if_neg c68] at H
                have c68b0 : (t196 == t184) = false := beq_eq_false_iff_ne.mpr c68
                have c68b1 : (t196 != t184) = true := bne_iff_ne.mpr c68
                exact absurd ((Option.some.inj H).trans ht_) (by decide)
          ·rw [if_neg c47] at H
           have c47b0 : (t186 == t184) = false := beq_eq_false_iff_ne.mpr c47
           have c47b1 : (t186 != t184) = true := bne_iff_ne.mpr c47
           exact absurd ((Option.some.inj H).trans ht_) (by decide)
     ·replace c27 := Bool.eq_false_iff.mpr c27
      subst c27
      have H1 := H
      rw [if_neg (show ¬ (false = true) by decide)] at H1
      clear H
      have H := H1
      clear H1
      exact absurd ((Option.some.inj H).trans ht_) (by decide)

end Go.Proofs.Ytecjamgajlpfdaa.MFnExactUnframe
