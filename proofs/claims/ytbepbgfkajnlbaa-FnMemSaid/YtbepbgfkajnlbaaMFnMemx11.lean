-- Written by mp.py, this session's own printer (wip/mp.py).
import Derived.Test.YtbepbgfkajnlbaaVMShort
import Derived.Test.YtbepbgfkajnlbaaMFnMemx0
import Derived.Test.YtbepbgfkajnlbaaMFnMemx1
import Derived.Test.YtbepbgfkajnlbaaMFnMemx2
import Derived.Test.YtbepbgfkajnlbaaMFnMemx3
import Derived.Test.YtbepbgfkajnlbaaMFnMemx6
import Derived.Test.YtbepbgfkajnlbaaMFnMemx8
import Derived.Test.YtbepbgfkajnlbaaMFnMemx9
import Derived.Test.YtbepbgfkajnlbaaMFnMemx10
namespace Go.Proofs.Ytbepbgfkajnlbaa.MFnMem
open Go.RowKit Go.Proofs.YtbepbgfkajnlbaaW.PrintWords Go.Proofs.YtbepbgfkajnlbaaW.PrintLast Go.Proofs.YtbepbgfkajnlbaaW.PrintMore Go.Proofs.Ytbepbgfkajnlbaa.MWords
attribute [local go_sem] max2_int min2_int max_two min_two max_three min_three max_four min_four   -- for this text's walks alone
set_option linter.unusedVariables false
set_option linter.unusedSimpArgs false

attribute [local go_sem high] eqA33
/-! ### laws_FnMem: function 4 -/
mutual
def laws_FnMem.j0 : Nat → Bool → Bool → Bool → List (S35) → ByteArray → ByteArray → Bool → List (S35) → Option (Bool)
 | 0, _, _, _, _, _, _, _, _ => none
 | k + 1, x7, x9, x45, x341000, x342000, x342001, x342002, x347000 => if x45 = true then (if (x7 == x9) = true then (some ((x347000.length : Int) == (x341000.length : Int))) else (some false)) else ((impl_MemGet.f k x347000 x342000).bind fun bt352 => ((impl_MemGet.f k x341000 x342000).bind fun bt357 => (laws_FnMem.l0 k bt352.2.2.2 bt357.2.2.2 0 x341000 x342000 x342001 x342002 x347000 bt352.1 bt352.2.1 bt352.2.2.1)))
def laws_FnMem.l0 : Nat → Bool → Bool → Int → List (S35) → ByteArray → ByteArray → Bool → List (S35) → ByteArray → ByteArray → Bool → Option (Bool)
 | 0, _, _, _, _, _, _, _, _, _, _, _ => none
 | k + 1, x11, x13, x14, x341000, x342000, x342001, x342002, x347000, x357000, x357001, x357002 => if x14 < (x341000.length : Int) then (if 0 ≤ x14 then ((impl_MemGet.f k x347000 ((rd_T35 x341000 x14).f0.f0)).bind fun bt363 => (if bt363.2.2.2 = true then (if ((rd_T35 x341000 x14).f0.f0).toList = x342000.toList then (laws_FnMem.j2 k x11 x13 x14 false x341000 x342000 x342001 x342002 x347000 x357000 x357001 x357002) else (laws_FnMem.j2 k x11 x13 x14 (!(bt363.1.toList == (((rd_T35 x341000 x14).f0.f0).toList)) || (!(bt363.2.1.toList == (((rd_T35 x341000 x14).f0.f1).toList)) || (!(bt363.2.2.1 == ((rd_T35 x341000 x14).f0.f2))))) x341000 x342000 x342001 x342002 x347000 x357000 x357001 x357002)) else (laws_FnMem.j2 k x11 x13 x14 true x341000 x342000 x342001 x342002 x347000 x357000 x357001 x357002))) else (none)) else (if x11 = true then (if (x357000.toList == x342000.toList && (x357001.toList == x342001.toList && (x357002 == x342002))) = true then ((impl_MemOk.f k x347000).bind fun t370 => (if t370 = true then ((impl_PairOk.f x342000 x342001 x342002).bind fun t371 => (if t371 = true then (some (((x347000.length : Int) == (x341000.length : Int)) == x13)) else (some false))) else (some false))) else (some false)) else (some false))
def laws_FnMem.j2 : Nat → Bool → Bool → Int → Bool → List (S35) → ByteArray → ByteArray → Bool → List (S35) → ByteArray → ByteArray → Bool → Option (Bool)
 | 0, _, _, _, _, _, _, _, _, _, _, _, _ => none
 | k + 1, x11, x13, x14, x114, x341000, x342000, x342001, x342002, x347000, x357000, x357001, x357002 => if x114 = true then (some false) else (laws_FnMem.l0 k x11 x13 (wrap64 (x14 + 1)) x341000 x342000 x342001 x342002 x347000 x357000 x357001 x357002)
end
def laws_FnMem.f (k : Nat) (l0 : List Int) : Option (Bool) := (laws_big.f l0).bind fun t332 => (if t332 = true then (some true) else ((spec_DrawMemPut.f k l0).bind fun bt333 => ((impl_MemPut.f k bt333.1 bt333.2.1 bt333.2.2.1 bt333.2.2.2.1 bt333.2.2.2.2).bind fun bt342 => ((spec_MemPut.f k bt333.1 bt333.2.1 bt333.2.2.1 bt333.2.2.2.1 bt333.2.2.2.2).bind fun bt347 => (if (bt342.2 != bt347.2) = true then (laws_FnMem.j0 k bt342.2 bt347.2 true bt333.1 bt333.2.1 bt333.2.2.1 bt333.2.2.2.1 bt342.1) else (laws_FnMem.j0 k bt342.2 bt347.2 (!bt342.2) bt333.1 bt333.2.1 bt333.2.2.1 bt333.2.2.2.1 bt342.1))))))
theorem laws_FnMem.mono_l : ∀ k, (∀ y0 y1 y2 y3 y4 y5 y6 y7, LeO (laws_FnMem.j0 k y0 y1 y2 y3 y4 y5 y6 y7) (laws_FnMem.j0 (k + 1) y0 y1 y2 y3 y4 y5 y6 y7)) ∧ (∀ y0 y1 y2 y3 y4 y5 y6 y7 y8 y9 y10, LeO (laws_FnMem.l0 k y0 y1 y2 y3 y4 y5 y6 y7 y8 y9 y10) (laws_FnMem.l0 (k + 1) y0 y1 y2 y3 y4 y5 y6 y7 y8 y9 y10)) ∧ (∀ y0 y1 y2 y3 y4 y5 y6 y7 y8 y9 y10 y11, LeO (laws_FnMem.j2 k y0 y1 y2 y3 y4 y5 y6 y7 y8 y9 y10 y11) (laws_FnMem.j2 (k + 1) y0 y1 y2 y3 y4 y5 y6 y7 y8 y9 y10 y11))
 | 0 => ⟨fun _ _ _ _ _ _ _ _ r h => by simp [laws_FnMem.j0] at h, fun _ _ _ _ _ _ _ _ _ _ _ r h => by simp [laws_FnMem.l0] at h, fun _ _ _ _ _ _ _ _ _ _ _ _ r h => by simp [laws_FnMem.j2] at h⟩
 | k + 1 => by
  obtain ⟨ih0, ih1, ih2⟩ := laws_FnMem.mono_l k
  refine ⟨?_, ?_, ?_⟩
  ·intro y0 y1 y2 y3 y4 y5 y6 y7
   unfold laws_FnMem.j0
   repeat' first
   | (with_reducible exact ih0 _ _ _ _ _ _ _ _)
   | (with_reducible exact ih1 _ _ _ _ _ _ _ _ _ _ _)
   | (with_reducible exact ih2 _ _ _ _ _ _ _ _ _ _ _ _)
   | (with_reducible exact impl_MemGet.mono _ _ _)
   | (with_reducible exact impl_MemOk.mono _ _)
   | (with_reducible exact impl_MemPut.mono _ _ _ _ _ _)
   | (with_reducible exact spec_DrawMemPut.mono _ _)
   | (with_reducible exact spec_MemPut.mono _ _ _ _ _ _)
   | (with_reducible exact LeO.refl _)
   | (with_reducible exact LeO.none _)
   | (with_reducible refine LeO.ite ?_ ?_)
   | (with_reducible refine LeO.bind ?_ (fun _ => ?_))
   | exact ih0 _ _ _ _ _ _ _ _
   | exact ih1 _ _ _ _ _ _ _ _ _ _ _
   | exact ih2 _ _ _ _ _ _ _ _ _ _ _ _
   | exact impl_MemGet.mono _ _ _
   | exact impl_MemOk.mono _ _
   | exact impl_MemPut.mono _ _ _ _ _ _
   | exact spec_DrawMemPut.mono _ _
   | exact spec_MemPut.mono _ _ _ _ _ _
   | exact LeO.none _
   | refine LeO.ite ?_ ?_
   | refine LeO.bind ?_ (fun _ => ?_)
  ·intro y0 y1 y2 y3 y4 y5 y6 y7 y8 y9 y10
   unfold laws_FnMem.l0
   repeat' first
   | (with_reducible exact ih0 _ _ _ _ _ _ _ _)
   | (with_reducible exact ih1 _ _ _ _ _ _ _ _ _ _ _)
   | (with_reducible exact ih2 _ _ _ _ _ _ _ _ _ _ _ _)
   | (with_reducible exact impl_MemGet.mono _ _ _)
   | (with_reducible exact impl_MemOk.mono _ _)
   | (with_reducible exact impl_MemPut.mono _ _ _ _ _ _)
   | (with_reducible exact spec_DrawMemPut.mono _ _)
   | (with_reducible exact spec_MemPut.mono _ _ _ _ _ _)
   | (with_reducible exact LeO.refl _)
   | (with_reducible exact LeO.none _)
   | (with_reducible refine LeO.ite ?_ ?_)
   | (with_reducible refine LeO.bind ?_ (fun _ => ?_))
   | exact ih0 _ _ _ _ _ _ _ _
   | exact ih1 _ _ _ _ _ _ _ _ _ _ _
   | exact ih2 _ _ _ _ _ _ _ _ _ _ _ _
   | exact impl_MemGet.mono _ _ _
   | exact impl_MemOk.mono _ _
   | exact impl_MemPut.mono _ _ _ _ _ _
   | exact spec_DrawMemPut.mono _ _
   | exact spec_MemPut.mono _ _ _ _ _ _
   | exact LeO.none _
   | refine LeO.ite ?_ ?_
   | refine LeO.bind ?_ (fun _ => ?_)
  ·intro y0 y1 y2 y3 y4 y5 y6 y7 y8 y9 y10 y11
   unfold laws_FnMem.j2
   repeat' first
   | (with_reducible exact ih0 _ _ _ _ _ _ _ _)
   | (with_reducible exact ih1 _ _ _ _ _ _ _ _ _ _ _)
   | (with_reducible exact ih2 _ _ _ _ _ _ _ _ _ _ _ _)
   | (with_reducible exact impl_MemGet.mono _ _ _)
   | (with_reducible exact impl_MemOk.mono _ _)
   | (with_reducible exact impl_MemPut.mono _ _ _ _ _ _)
   | (with_reducible exact spec_DrawMemPut.mono _ _)
   | (with_reducible exact spec_MemPut.mono _ _ _ _ _ _)
   | (with_reducible exact LeO.refl _)
   | (with_reducible exact LeO.none _)
   | (with_reducible refine LeO.ite ?_ ?_)
   | (with_reducible refine LeO.bind ?_ (fun _ => ?_))
   | exact ih0 _ _ _ _ _ _ _ _
   | exact ih1 _ _ _ _ _ _ _ _ _ _ _
   | exact ih2 _ _ _ _ _ _ _ _ _ _ _ _
   | exact impl_MemGet.mono _ _ _
   | exact impl_MemOk.mono _ _
   | exact impl_MemPut.mono _ _ _ _ _ _
   | exact spec_DrawMemPut.mono _ _
   | exact spec_MemPut.mono _ _ _ _ _ _
   | exact LeO.none _
   | refine LeO.ite ?_ ?_
   | refine LeO.bind ?_ (fun _ => ?_)
theorem laws_FnMem.mono : ∀ a0 k, LeO (laws_FnMem.f k a0) (laws_FnMem.f (k + 1) a0) := by
 intro a0 k
 obtain ⟨ih0, ih1, ih2⟩ := laws_FnMem.mono_l k
 unfold laws_FnMem.f
 repeat' first
   | (with_reducible exact ih0 _ _ _ _ _ _ _ _)
   | (with_reducible exact ih1 _ _ _ _ _ _ _ _ _ _ _)
   | (with_reducible exact ih2 _ _ _ _ _ _ _ _ _ _ _ _)
   | (with_reducible exact impl_MemGet.mono _ _ _)
   | (with_reducible exact impl_MemOk.mono _ _)
   | (with_reducible exact impl_MemPut.mono _ _ _ _ _ _)
   | (with_reducible exact spec_DrawMemPut.mono _ _)
   | (with_reducible exact spec_MemPut.mono _ _ _ _ _ _)
   | (with_reducible exact LeO.refl _)
   | (with_reducible exact LeO.none _)
   | (with_reducible refine LeO.ite ?_ ?_)
   | (with_reducible refine LeO.bind ?_ (fun _ => ?_))
   | exact ih0 _ _ _ _ _ _ _ _
   | exact ih1 _ _ _ _ _ _ _ _ _ _ _
   | exact ih2 _ _ _ _ _ _ _ _ _ _ _ _
   | exact impl_MemGet.mono _ _ _
   | exact impl_MemOk.mono _ _
   | exact impl_MemPut.mono _ _ _ _ _ _
   | exact spec_DrawMemPut.mono _ _
   | exact spec_MemPut.mono _ _ _ _ _ _
   | exact LeO.none _
   | refine LeO.ite ?_ ?_
   | refine LeO.bind ?_ (fun _ => ?_)
def laws_FnMem.T13 : Bool × List (List Nat × List Nat) := (true, [([], []), ([], []), ([1], [1]), ([], []), ([2, 3], [2, 3]), ([4], [4]), ([5], [5]), ([6], [6]), ([0, 7], [0, 7]), ([8], [8]), ([9], [9]), ([9], [9]), ([], []), ([12, 10, 8, 0, 1, 2, 3, 4, 5, 6, 7, 8, 9, 10, 12], [10, 12]), ([11, 13, 0, 1, 2, 3, 4, 5, 6, 7, 8, 9, 10, 11, 12, 13], [11])])
def laws_FnMem.B13 : List Nat := [0, 0, 2, 0, 14, 30, 62, 126, 255, 511, 1023, 1023, 0, 6143, 16383]
theorem laws_FnMem.tab13 : rtab .any (opsOf Try.f4 13) = laws_FnMem.T13 := by kernel_rfl
theorem laws_FnMem.bits13 : waitsOk laws_FnMem.T13.2 laws_FnMem.B13 = true := by kernel_rfl
def laws_FnMem.T14 : Bool × List (List Nat × List Nat) := (true, [([], []), ([0], [0]), ([1], [1]), ([2], [2]), ([3, 2], [2, 3]), ([2], [2]), ([4, 5, 2], [2, 4, 5]), ([6, 2], [2, 6]), ([7, 2], [2, 7]), ([8, 2], [2, 8]), ([2], [2]), ([10, 2], [2, 10]), ([9, 11, 2], [2, 9, 11]), ([12, 2, 2], [2, 12]), ([13], [13]), ([13], [13]), ([15, 13], [13, 15]), ([13], [13]), ([16, 17, 13], [13, 16, 17]), ([18, 13], [13, 18]), ([19, 13], [13, 19]), ([14, 20, 13], [13, 14, 20]), ([13, 21, 2], [2, 13, 21]), ([2, 22], [2, 22])])
def laws_FnMem.B14 : List Nat := [0, 1, 3, 7, 15, 7, 63, 127, 255, 511, 7, 1031, 4095, 8191, 16383, 16383, 49151, 16383, 245759, 507903, 1032191, 2097151, 4194303, 8388607]
theorem laws_FnMem.tab14 : rtab .any (opsOf Try.f4 14) = laws_FnMem.T14 := by kernel_rfl
theorem laws_FnMem.bits14 : waitsOk laws_FnMem.T14.2 laws_FnMem.B14 = true := by kernel_rfl
set_option maxHeartbeats 8000000 in
set_option maxRecDepth 100000 in
theorem laws_FnMem.calls (k : Nat) (A0 : Option Addr) (c0 : Nat) (l0 : List Int) (r : Bool) (w : World) (hr0 : Kd.C (Kd.int .u8) w A0 l0.length l0) (hc0 : l0.length ≤ c0) (h : laws_FnMem.f k l0 = some r) :
  Calls Try.prog 4 #[.slice A0 l0.length c0] w fun e w' => e = .returned (.bool r) ∧ Below w.heap.size w w' := by
 have hu26 := Try.underlying26
 have hu33 := Try.underlying33
 have HR0 := mS hr0
 have HC0 := mS hc0
 clear hr0 hc0
 have HB := mS (Below.refl w.heap.size w)
 have H : ((laws_big.f l0).bind fun t332 => (if t332 = true then (some true) else ((spec_DrawMemPut.f k l0).bind fun bt333 => ((impl_MemPut.f k bt333.1 bt333.2.1 bt333.2.2.1 bt333.2.2.2.1 bt333.2.2.2.2).bind fun bt342 => ((spec_MemPut.f k bt333.1 bt333.2.1 bt333.2.2.1 bt333.2.2.2.1 bt333.2.2.2.2).bind fun bt347 => (if (bt342.2 != bt347.2) = true then (laws_FnMem.j0 k bt342.2 bt347.2 true bt333.1 bt333.2.1 bt333.2.2.1 bt333.2.2.2.1 bt342.1) else (laws_FnMem.j0 k bt342.2 bt347.2 (!bt342.2) bt333.1 bt333.2.1 bt333.2.2.1 bt333.2.2.2.1 bt342.1))))))) = some r := h
 clear h
 replace H := Option.bind_eq_some_iff.mp H
 obtain ⟨t332, A20, H⟩ := H
 replace H : (if t332 = true then (some true) else ((spec_DrawMemPut.f k l0).bind fun bt333 => ((impl_MemPut.f k bt333.1 bt333.2.1 bt333.2.2.1 bt333.2.2.2.1 bt333.2.2.2.2).bind fun bt342 => ((spec_MemPut.f k bt333.1 bt333.2.1 bt333.2.2.1 bt333.2.2.2.1 bt333.2.2.2.2).bind fun bt347 => (if (bt342.2 != bt347.2) = true then (laws_FnMem.j0 k bt342.2 bt347.2 true bt333.1 bt333.2.1 bt333.2.2.1 bt333.2.2.2.1 bt342.1) else (laws_FnMem.j0 k bt342.2 bt347.2 (!bt342.2) bt333.1 bt333.2.1 bt333.2.2.1 bt333.2.2.2.1 bt342.1)))))) = some r := H
 have A2 := mS A20
 clear A20
 by_cases c3 : t332 = true
 ·subst c3
  have H1 : (some true) = some r := by rw [if_pos rfl] at H; exact H
  clear H
  have H := H1
  clear H1
  obtain rfl := Option.some.inj H
  go_enter Try.func4, Try.ntmps4
  go_wp2_with (first | ((with_reducible refine gate_callee (f := 14) rfl ?_); refine goesL_ (some 18) rfl rfl Try.func14 (by kernel_rfl) rfl #[.slice A0 l0.length c0] rfl mA ?_; (with_reducible refine (laws_big.calls _ _ l0 true _ ?side1 ?side2 A2.out).mono ?_); (case side1 => repeat (first | exact HR0.out | (with_reducible refine Kd.C_alloc ?_ _) | (with_reducible refine Kd.C_drewN ?_ _) | (with_reducible refine Kd.C_drew ?_))); (case side2 => exact HC0.out); rintro e w' ⟨rfl, ⟨nd, rfl⟩⟩; refine ⟨_, rfl, ?_⟩))
  go_ret
  exact ⟨by first | rfl | (simp [errW_none, errW_some] <;> rfl) | (simp [*, errW_none, errW_some] <;> rfl), (mH HB.out)⟩
 ·replace c3 := Bool.eq_false_iff.mpr c3
  subst c3
  have H1 : ((spec_DrawMemPut.f k l0).bind fun bt333 => ((impl_MemPut.f k bt333.1 bt333.2.1 bt333.2.2.1 bt333.2.2.2.1 bt333.2.2.2.2).bind fun bt342 => ((spec_MemPut.f k bt333.1 bt333.2.1 bt333.2.2.1 bt333.2.2.2.1 bt333.2.2.2.2).bind fun bt347 => (if (bt342.2 != bt347.2) = true then (laws_FnMem.j0 k bt342.2 bt347.2 true bt333.1 bt333.2.1 bt333.2.2.1 bt333.2.2.2.1 bt342.1) else (laws_FnMem.j0 k bt342.2 bt347.2 (!bt342.2) bt333.1 bt333.2.1 bt333.2.2.1 bt333.2.2.2.1 bt342.1))))) = some r := by rw [if_neg (show ¬ (false = true) by decide)] at H; exact H
  clear H
  have H := H1
  clear H1
  replace H := Option.bind_eq_some_iff.mp H
  obtain ⟨⟨t333, t336, t337, t338, t339⟩, A40, H⟩ := H
  replace H : ((impl_MemPut.f k t333 t336 t337 t338 t339).bind fun bt342 => ((spec_MemPut.f k t333 t336 t337 t338 t339).bind fun bt347 => (if (bt342.2 != bt347.2) = true then (laws_FnMem.j0 k bt342.2 bt347.2 true t333 t336 t337 t338 bt342.1) else (laws_FnMem.j0 k bt342.2 bt347.2 (!bt342.2) t333 t336 t337 t338 bt342.1)))) = some r := H
  have A4 := mS A40
  clear A40
  replace H := Option.bind_eq_some_iff.mp H
  obtain ⟨⟨t342, t345⟩, A50, H⟩ := H
  replace H : ((spec_MemPut.f k t333 t336 t337 t338 t339).bind fun bt347 => (if (t345 != bt347.2) = true then (laws_FnMem.j0 k t345 bt347.2 true t333 t336 t337 t338 t342) else (laws_FnMem.j0 k t345 bt347.2 (!t345) t333 t336 t337 t338 t342))) = some r := H
  have A5 := mS A50
  clear A50
  replace H := Option.bind_eq_some_iff.mp H
  obtain ⟨⟨t347, t350⟩, A60, H⟩ := H
  replace H : (if (t345 != t350) = true then (laws_FnMem.j0 k t345 t350 true t333 t336 t337 t338 t342) else (laws_FnMem.j0 k t345 t350 (!t345) t333 t336 t337 t338 t342)) = some r := H
  have A6 := mS A60
  clear A60
  have HC7 := mS H
  clear H
  go_enter Try.func4, Try.ntmps4
  go_upto_region 6 with (first | ((with_reducible refine gate_callee (f := 14) rfl ?_); refine goesL_ (some 18) rfl rfl Try.func14 (by kernel_rfl) rfl #[.slice A0 l0.length c0] rfl mA ?_; (with_reducible refine (laws_big.calls _ _ l0 false _ ?side1 ?side2 A2.out).mono ?_); (case side1 => repeat (first | exact HR0.out | (with_reducible refine Kd.C_alloc ?_ _) | (with_reducible refine Kd.C_drewN ?_ _) | (with_reducible refine Kd.C_drew ?_))); (case side2 => exact HC0.out); rintro e w' ⟨rfl, ⟨nd, rfl⟩⟩; refine ⟨_, rfl, ?_⟩) | ((with_reducible refine gate_callee (f := 19) rfl ?_); refine goesL_ (some 21) rfl rfl Try.func19 (by kernel_rfl) rfl #[.slice A0 l0.length c0] rfl mA ?_; (with_reducible refine (spec_DrawMemPut.calls k _ _ l0 t333 t336 t337 t338 t339 _ ?side1 ?side2 A4.out).mono ?_); (case side1 => repeat (first | exact HR0.out | (with_reducible refine Kd.C_alloc ?_ _) | (with_reducible refine Kd.C_drewN ?_ _) | (with_reducible refine Kd.C_drew ?_))); (case side2 => exact HC0.out); rintro e w8 ⟨v334, rfl, ho0, hb⟩; refine ⟨_, rfl, ?_⟩; have HO335 := mS (Kd.R_lower ho0 (below_size (mH HB.out))); replace HB := mS (below_step (mH HB.out) hb); (try clear hb); (try clear hb2); (try clear hk); (try clear hi); (try clear ho0)) | ((with_reducible refine gate_dst (N := 3) rfl ?_); (try (refine gate_guard (by rfl) ?_; dsimp only)); refine box_event ?hg (N := 3) ?hd (cs := #[.slice none 0 0]) (t := 26) ?hr ?_; (case hd => rfl); (case hg => rfl); (case hr => first | (go_simp; done) | (go_simp; rfl)); intro gb340 hg w9 hbox hb; replace HO335 := mS (Kd.R_below (mR HO335.out) hb); have BK340 := mS (hbox); have GW340 := mG hg (mH HB.out); have GE340 := mG hg (mH HB.out); replace HB := mS (below_step (mH HB.out) hb); clear hb hbox hg) | ((with_reducible refine gate_dst (N := 4) rfl ?_); (try (refine gate_guard (by rfl) ?_; dsimp only)); refine box_event ?hg (N := 4) ?hd (cs := #[.string (⟨#[]⟩ : ByteArray), .string (⟨#[]⟩ : ByteArray), .bool false]) (t := 33) ?hr ?_; (case hd => rfl); (case hg => rfl); (case hr => first | (go_simp; done) | (go_simp; rfl)); intro gb341 hg w10 hbox hb; replace HO335 := mS (Kd.R_below (mR HO335.out) hb); have BK341 := mS (hbox); have GW341 := mG hg (mH1 HB.out GE340.out); have GE341 := mG hg (mH1 HB.out GE340.out); replace HB := mS (below_step (mH1 HB.out GE340.out) hb); have NB340_341 := mNl hg BK340.out; have NB341_340 := mNg hg BK340.out; replace BK340 := mB BK340 hb; clear hb hbox hg; obtain ⟨Ao11, co11, eo11⟩ := Kd.R_slice HO335.out; subst eo11; have hnb12 := NB340_341.out; have hnc12 := NB341_340.out; have hcz13_0 := mZ BK340.out 0; have hfz13_0 := blk_frozen BK340.out 0; have hcz14_0 := mZ BK341.out 0; have hcz14_1 := mZ BK341.out 1; have hcz14_2 := mZ BK341.out 2; have hfz14_0 := blk_frozen BK341.out 0; have hfz14_1 := blk_frozen BK341.out 1; have hfz14_2 := blk_frozen BK341.out 2) | ((with_reducible refine gate_callee (f := 20) rfl ?_); refine goesL_ (some 29) rfl rfl Try.func20 (by kernel_rfl) rfl #[.agg #[.slice Ao11 t333.length co11], .agg #[.string t336, .string t337, .bool t338], .int .i64 t339] rfl mA ?_; (with_reducible refine (impl_MemPut.calls k _ _ t333 t336 t337 t338 t339 t342 t345 _ ?side1 ?side2 A5.out).mono ?_); (case side1 => refine (Kd.R_reads' (e := 35) (base := w.heap.size) (ok := fun k_ => True) (n := t333.length) (c := co11) ?_).2.2; exact (by (with_reducible repeat (first | apply Kd.R_alloc | apply Kd.R_drewN | apply Kd.R_drew)); exact (Kd.R_mono (Kd.R_mono (Kd.R_far (p := ⟨gb341, 2, none⟩) (Kd.R_far (p := ⟨gb341, 1, none⟩) (Kd.R_far (p := ⟨gb341, 0, none⟩) (Kd.R_far (p := ⟨gb340, 0, none⟩) (Kd.R_types (Kd.R_types HO335.out BK340.out (by decide)) BK341.out (by decide)) (fun _ hk => hk.1.2) (.slice Ao11 t333.length co11)) (fun _ hk => hk.2) (.string t336)) (fun _ hk => hk.2) (.string t337)) (fun _ hk => hk.2) (.bool t338)) (fun _ h_ => h_.1)) (fun _ h_ => h_.1)))); (case side2 => exact (Kd.R_reads' HO335.out).2.1); rintro e w15 ⟨v343, rfl, ho0, hb⟩; refine ⟨_, rfl, ?_⟩; have HO344 := mS (Kd.R_lower (Kd.R_new' ho0 (Kd.R_lt (by (with_reducible repeat (first | apply Kd.R_alloc | apply Kd.R_drewN | apply Kd.R_drew)); exact (Kd.R_mono (Kd.R_mono (Kd.R_far (p := ⟨gb341, 2, none⟩) (Kd.R_far (p := ⟨gb341, 1, none⟩) (Kd.R_far (p := ⟨gb341, 0, none⟩) (Kd.R_far (p := ⟨gb340, 0, none⟩) (Kd.R_types (Kd.R_types HO335.out BK340.out (by decide)) BK341.out (by decide)) (fun _ hk => hk.1.2) (.slice Ao11 t333.length co11)) (fun _ hk => hk.2) (.string t336)) (fun _ hk => hk.2) (.string t337)) (fun _ hk => hk.2) (.bool t338)) (fun _ h_ => h_.1)) (fun _ h_ => h_.1))))) (below_size (mH2 HB.out GE340.out GE341.out))); replace HO335 := mS (Kd.R_elder' (by (with_reducible repeat (first | apply Kd.R_alloc | apply Kd.R_drewN | apply Kd.R_drew)); exact (Kd.R_mono (Kd.R_mono (Kd.R_far (p := ⟨gb341, 2, none⟩) (Kd.R_far (p := ⟨gb341, 1, none⟩) (Kd.R_far (p := ⟨gb341, 0, none⟩) (Kd.R_far (p := ⟨gb340, 0, none⟩) (Kd.R_types (Kd.R_types HO335.out BK340.out (by decide)) BK341.out (by decide)) (fun _ hk => hk.1.2) (.slice Ao11 t333.length co11)) (fun _ hk => hk.2) (.string t336)) (fun _ hk => hk.2) (.string t337)) (fun _ hk => hk.2) (.bool t338)) (fun _ h_ => h_.1)) (fun _ h_ => h_.1))) (Kd.R_base ho0) hb); replace BK340 := mS (blk_below (g := gb340) (o := .cells #[.slice Ao11 t333.length co11] 26 (0, 0)) (by (with_reducible repeat (first | refine blk_drewN ?_ _ | refine blk_drew ?_ | refine blk_alloc ?_ _)); refine blk_far ?_ NB340_341.out _; (with_reducible repeat (first | refine blk_drewN ?_ _ | refine blk_drew ?_ | refine blk_alloc ?_ _)); refine blk_far ?_ NB340_341.out _; (with_reducible repeat (first | refine blk_drewN ?_ _ | refine blk_drew ?_ | refine blk_alloc ?_ _)); refine blk_far ?_ NB340_341.out _; (with_reducible repeat (first | refine blk_drewN ?_ _ | refine blk_drew ?_ | refine blk_alloc ?_ _)); refine blk_put (cs := #[.slice none 0 0]) ?_ 0 _ rfl; (with_reducible repeat (first | refine blk_drewN ?_ _ | refine blk_drew ?_ | refine blk_alloc ?_ _)); exact BK340.out) hb); replace BK341 := mS (blk_below (g := gb341) (o := .cells #[.string t336, .string t337, .bool t338] 33 (0, 0)) (by (with_reducible repeat (first | refine blk_drewN ?_ _ | refine blk_drew ?_ | refine blk_alloc ?_ _)); refine blk_put (cs := #[.string t336, .string t337, .bool false]) ?_ 2 _ rfl; (with_reducible repeat (first | refine blk_drewN ?_ _ | refine blk_drew ?_ | refine blk_alloc ?_ _)); refine blk_put (cs := #[.string t336, .string (⟨#[]⟩ : ByteArray), .bool false]) ?_ 1 _ rfl; (with_reducible repeat (first | refine blk_drewN ?_ _ | refine blk_drew ?_ | refine blk_alloc ?_ _)); refine blk_put (cs := #[.string (⟨#[]⟩ : ByteArray), .string (⟨#[]⟩ : ByteArray), .bool false]) ?_ 0 _ rfl; (with_reducible repeat (first | refine blk_drewN ?_ _ | refine blk_drew ?_ | refine blk_alloc ?_ _)); refine blk_far ?_ NB341_340.out _; (with_reducible repeat (first | refine blk_drewN ?_ _ | refine blk_drew ?_ | refine blk_alloc ?_ _)); exact BK341.out) hb); replace HB := mS (below_step (mH2 HB.out GE340.out GE341.out) hb); (try clear hb); (try clear hb2); (try clear hk); (try clear hi); (try clear ho0)) | ((with_reducible refine gate_dst (N := 6) rfl ?_); (try (refine gate_guard (by rfl) ?_; dsimp only)); refine box_event ?hg (N := 6) ?hd (cs := #[.slice none 0 0]) (t := 26) ?hr ?_; (case hd => rfl); (case hg => rfl); (case hr => first | (go_simp; done) | (go_simp; rfl)); intro gb346 hg w16 hbox hb; replace HO335 := mS (Kd.R_below (mR HO335.out) hb); replace HO344 := mS (Kd.R_below (mR HO344.out) hb); have BK346 := mS (hbox); have GW346 := mG hg (mH2 HB.out GE340.out GE341.out); have GE346 := mG hg (mH2 HB.out GE340.out GE341.out); replace HB := mS (below_step (mH2 HB.out GE340.out GE341.out) hb); have NB340_346 := mNl hg BK340.out; have NB346_340 := mNg hg BK340.out; replace BK340 := mB BK340 hb; have NB341_346 := mNl hg BK341.out; have NB346_341 := mNg hg BK341.out; replace BK341 := mB BK341 hb; clear hb hbox hg; obtain ⟨Ao17, co17, eo17⟩ := Kd.R_slice HO344.out; subst eo17; have hnb18 := NB346_340.out; have hnc18 := NB340_346.out; have hnb19 := NB346_341.out; have hnc19 := NB341_346.out; have hcz20_0 := mZ BK346.out 0; have hfz20_0 := blk_frozen BK346.out 0; have hcz21_0 := mZ BK340.out 0; have hfz21_0 := blk_frozen BK340.out 0; have hcz22_0 := mZ BK341.out 0; have hcz22_1 := mZ BK341.out 1; have hcz22_2 := mZ BK341.out 2; have hfz22_0 := blk_frozen BK341.out 0; have hfz22_1 := blk_frozen BK341.out 1; have hfz22_2 := blk_frozen BK341.out 2) | ((with_reducible refine gate_callee (f := 21) rfl ?_); refine goesL_ (some 36) rfl rfl Try.func21 (by kernel_rfl) rfl #[.agg #[.slice Ao11 t333.length co11], .agg #[.string t336, .string t337, .bool t338], .int .i64 t339] rfl mA ?_; (with_reducible refine (spec_MemPut.calls k _ _ t333 t336 t337 t338 t339 t347 t350 _ ?side1 ?side2 A6.out).mono ?_); (case side1 => refine (Kd.R_reads' (e := 35) (base := w.heap.size) (ok := fun k_ => (True ∧ some k_ ≠ (.slice Ao17 t342.length co17 : Value).ownBlock)) (n := t333.length) (c := co11) ?_).2.2; exact (by (with_reducible repeat (first | apply Kd.R_alloc | apply Kd.R_drewN | apply Kd.R_drew)); exact (Kd.R_mono (Kd.R_far (p := ⟨gb346, 0, none⟩) (Kd.R_types HO335.out BK346.out (by decide)) (fun _ hk => hk.2) (.slice Ao17 t342.length co17)) (fun _ h_ => h_.1)))); (case side2 => exact (Kd.R_reads' HO335.out).2.1); rintro e w23 ⟨v348, rfl, ho0, hb⟩; refine ⟨_, rfl, ?_⟩; have HO349 := mS (Kd.R_lower (Kd.R_new' (Kd.R_new' ho0 (Kd.R_lt (by (with_reducible repeat (first | apply Kd.R_alloc | apply Kd.R_drewN | apply Kd.R_drew)); exact (Kd.R_mono (Kd.R_far (p := ⟨gb346, 0, none⟩) (Kd.R_types HO335.out BK346.out (by decide)) (fun _ hk => hk.2) (.slice Ao17 t342.length co17)) (fun _ h_ => h_.1))))) (Kd.R_lt (by (with_reducible repeat (first | apply Kd.R_alloc | apply Kd.R_drewN | apply Kd.R_drew)); exact (Kd.R_mono (Kd.R_far (p := ⟨gb346, 0, none⟩) (Kd.R_types HO344.out BK346.out (by decide)) (fun _ hk => hk.2) (.slice Ao17 t342.length co17)) (fun _ h_ => h_.1))))) (below_size (mH3 HB.out GE340.out GE341.out GE346.out))); replace HO335 := mS (Kd.R_elder' (by (with_reducible repeat (first | apply Kd.R_alloc | apply Kd.R_drewN | apply Kd.R_drew)); exact (Kd.R_mono (Kd.R_far (p := ⟨gb346, 0, none⟩) (Kd.R_types HO335.out BK346.out (by decide)) (fun _ hk => hk.2) (.slice Ao17 t342.length co17)) (fun _ h_ => h_.1))) (Kd.R_base ho0) hb); replace HO344 := mS (Kd.R_elder' (by (with_reducible repeat (first | apply Kd.R_alloc | apply Kd.R_drewN | apply Kd.R_drew)); exact (Kd.R_mono (Kd.R_far (p := ⟨gb346, 0, none⟩) (Kd.R_types HO344.out BK346.out (by decide)) (fun _ hk => hk.2) (.slice Ao17 t342.length co17)) (fun _ h_ => h_.1))) (Kd.R_base ho0) hb); replace BK340 := mS (blk_below (g := gb340) (o := .cells #[.slice Ao11 t333.length co11] 26 (0, 0)) (by (with_reducible repeat (first | refine blk_drewN ?_ _ | refine blk_drew ?_ | refine blk_alloc ?_ _)); refine blk_far ?_ NB340_346.out _; (with_reducible repeat (first | refine blk_drewN ?_ _ | refine blk_drew ?_ | refine blk_alloc ?_ _)); exact BK340.out) hb); replace BK341 := mS (blk_below (g := gb341) (o := .cells #[.string t336, .string t337, .bool t338] 33 (0, 0)) (by (with_reducible repeat (first | refine blk_drewN ?_ _ | refine blk_drew ?_ | refine blk_alloc ?_ _)); refine blk_far ?_ NB341_346.out _; (with_reducible repeat (first | refine blk_drewN ?_ _ | refine blk_drew ?_ | refine blk_alloc ?_ _)); exact BK341.out) hb); replace BK346 := mS (blk_below (g := gb346) (o := .cells #[.slice Ao17 t342.length co17] 26 (0, 0)) (by (with_reducible repeat (first | refine blk_drewN ?_ _ | refine blk_drew ?_ | refine blk_alloc ?_ _)); refine blk_put (cs := #[.slice none 0 0]) ?_ 0 _ rfl; (with_reducible repeat (first | refine blk_drewN ?_ _ | refine blk_drew ?_ | refine blk_alloc ?_ _)); exact BK346.out) hb); replace HB := mS (below_step (mH3 HB.out GE340.out GE341.out GE346.out) hb); (try clear hb); (try clear hb2); (try clear hk); (try clear hi); (try clear ho0)) | ((with_reducible refine gate_dst (N := 8) rfl ?_); (try (refine gate_guard (by rfl) ?_; dsimp only)); refine box_event ?hg (N := 8) ?hd (cs := #[.slice none 0 0]) (t := 26) ?hr ?_; (case hd => rfl); (case hg => rfl); (case hr => first | (go_simp; done) | (go_simp; rfl)); intro gb351 hg w24 hbox hb; replace HO335 := mS (Kd.R_below (mR HO335.out) hb); replace HO344 := mS (Kd.R_below (mR HO344.out) hb); replace HO349 := mS (Kd.R_below (mR HO349.out) hb); have BK351 := mS (hbox); have GW351 := mG hg (mH3 HB.out GE340.out GE341.out GE346.out); have GE351 := mG hg (mH3 HB.out GE340.out GE341.out GE346.out); replace HB := mS (below_step (mH3 HB.out GE340.out GE341.out GE346.out) hb); have NB340_351 := mNl hg BK340.out; have NB351_340 := mNg hg BK340.out; replace BK340 := mB BK340 hb; have NB341_351 := mNl hg BK341.out; have NB351_341 := mNg hg BK341.out; replace BK341 := mB BK341 hb; have NB346_351 := mNl hg BK346.out; have NB351_346 := mNg hg BK346.out; replace BK346 := mB BK346 hb; clear hb hbox hg; obtain ⟨Ao25, co25, eo25⟩ := Kd.R_slice HO349.out; subst eo25; have hnb26 := NB351_340.out; have hnc26 := NB340_351.out; have hnb27 := NB351_341.out; have hnc27 := NB341_351.out; have hnb28 := NB351_346.out; have hnc28 := NB346_351.out; have hcz29_0 := mZ BK351.out 0; have hfz29_0 := blk_frozen BK351.out 0))
  (try simp only [Act.put, zA, zB, zC])
  go_cut [45] (fun v45 wc => ∃ (kq : Nat) (x45_6 : Bool), v45 = .bool x45_6 ∧ Aside0 (laws_FnMem.j0 kq t345 t350 x45_6 t333 t336 t337 t338 t342 = some r) ∧ Aside0 (kq ≤ k) ∧ Aside0 (Kd.R k35 35 wc w.heap.size (fun k_ => some k_ ≠ ((.slice Ao17 t342.length co17) : Value).ownBlock ∧ some k_ ≠ ((.slice Ao25 t347.length co25) : Value).ownBlock) (.slice Ao11 t333.length co11) t333) ∧ Aside0 (Kd.R k35 35 wc w.heap.size (fun k_ => some k_ ≠ ((.slice Ao11 t333.length co11) : Value).ownBlock ∧ some k_ ≠ ((.slice Ao25 t347.length co25) : Value).ownBlock) (.slice Ao17 t342.length co17) t342) ∧ Aside0 (Kd.R k35 35 wc w.heap.size (fun k_ => some k_ ≠ ((.slice Ao11 t333.length co11) : Value).ownBlock ∧ some k_ ≠ ((.slice Ao17 t342.length co17) : Value).ownBlock) (.slice Ao25 t347.length co25) t347) ∧ Aside0 (wc.heap[gb340]? = some (.cells #[(.slice Ao11 t333.length co11)] 26 (0, 0))) ∧ Aside0 (wc.heap[gb341]? = some (.cells #[.string t336, .string t337, .bool t338] 33 (0, 0))) ∧ Aside0 (wc.heap[gb346]? = some (.cells #[(.slice Ao17 t342.length co17)] 26 (0, 0))) ∧ Aside0 (wc.heap[gb351]? = some (.cells #[(.slice Ao25 t347.length co25)] 26 (0, 0))) ∧ Aside0 (Below w.heap.size w wc))
  case first =>
   have H := HC7.out
   clear HC7
   by_cases c30 : (t345 != t350) = true
   ·rw [if_pos c30] at H
    have c30b0 : (t345 != t350) = true := c30
    (try (have c30b1 : decide (t345 = t350) = false := by simpa using c30))
    (try (have c30b2 : (t345 == t350) = false := by simpa using c30))
    (try (have c30b3 : ¬ (t345 = t350) := by simpa using c30))
    clear c30
    (first | rw [c30b0] | (simp only [i64_w, i32_w]; rw [c30b0]) | skip)
    have H' := mS H
    clear H
    go_wp2
    go_meet
    case rel => exact ⟨_, (true), (by first | rfl | (simp; done) | (simp [*]; done)), H', ⟨by first | omega | exact Nat.le_refl _⟩, ⟨by (with_reducible repeat (first | apply Kd.R_alloc | apply Kd.R_drewN | apply Kd.R_drew)); exact Kd.R_mono (Kd.R_far (p := ⟨gb351, 0, none⟩) (Kd.R_types HO335.out BK351.out (by decide)) (fun _ hk => hk.2) (.slice Ao25 t347.length co25)) (fun _ hk => ⟨hk.1.1.2, hk.1.2⟩)⟩, ⟨by (with_reducible repeat (first | apply Kd.R_alloc | apply Kd.R_drewN | apply Kd.R_drew)); exact Kd.R_mono (Kd.R_far (p := ⟨gb351, 0, none⟩) (Kd.R_types HO344.out BK351.out (by decide)) (fun _ hk => hk.2) (.slice Ao25 t347.length co25)) (fun _ hk => ⟨hk.1.1.2, hk.1.2⟩)⟩, ⟨by (with_reducible repeat (first | apply Kd.R_alloc | apply Kd.R_drewN | apply Kd.R_drew)); exact Kd.R_mono (Kd.R_far (p := ⟨gb351, 0, none⟩) (Kd.R_types HO349.out BK351.out (by decide)) (fun _ hk => hk.2) (.slice Ao25 t347.length co25)) (fun _ hk => ⟨hk.1.1.2, hk.1.2⟩)⟩, ⟨by (with_reducible repeat (first | refine blk_drewN ?_ _ | refine blk_drew ?_ | refine blk_alloc ?_ _)); refine blk_far ?_ NB340_351.out _; (with_reducible repeat (first | refine blk_drewN ?_ _ | refine blk_drew ?_ | refine blk_alloc ?_ _)); exact BK340.out⟩, ⟨by (with_reducible repeat (first | refine blk_drewN ?_ _ | refine blk_drew ?_ | refine blk_alloc ?_ _)); refine blk_far ?_ NB341_351.out _; (with_reducible repeat (first | refine blk_drewN ?_ _ | refine blk_drew ?_ | refine blk_alloc ?_ _)); exact BK341.out⟩, ⟨by (with_reducible repeat (first | refine blk_drewN ?_ _ | refine blk_drew ?_ | refine blk_alloc ?_ _)); refine blk_far ?_ NB346_351.out _; (with_reducible repeat (first | refine blk_drewN ?_ _ | refine blk_drew ?_ | refine blk_alloc ?_ _)); exact BK346.out⟩, ⟨by (with_reducible repeat (first | refine blk_drewN ?_ _ | refine blk_drew ?_ | refine blk_alloc ?_ _)); refine blk_put (cs := #[.slice none 0 0]) ?_ 0 _ rfl; (with_reducible repeat (first | refine blk_drewN ?_ _ | refine blk_drew ?_ | refine blk_alloc ?_ _)); exact BK351.out⟩, ⟨(mH4 HB.out GE340.out GE341.out GE346.out GE351.out)⟩⟩
   ·rw [if_neg c30] at H
    have c30b0 : (t345 != t350) = false := by simpa using c30
    (try (have c30b1 : decide (t345 = t350) = true := by simpa using c30))
    (try (have c30b2 : (t345 == t350) = true := by simpa using c30))
    clear c30
    (first | rw [c30b0] | (simp only [i64_w, i32_w]; rw [c30b0]) | skip)
    have H' := mS H
    clear H
    go_wp2
    go_meet
    case rel => exact ⟨_, (!t345), (by first | rfl | (simp; done) | (simp [*]; done)), H', ⟨by first | omega | exact Nat.le_refl _⟩, ⟨by (with_reducible repeat (first | apply Kd.R_alloc | apply Kd.R_drewN | apply Kd.R_drew)); exact Kd.R_mono (Kd.R_far (p := ⟨gb351, 0, none⟩) (Kd.R_types HO335.out BK351.out (by decide)) (fun _ hk => hk.2) (.slice Ao25 t347.length co25)) (fun _ hk => ⟨hk.1.1.2, hk.1.2⟩)⟩, ⟨by (with_reducible repeat (first | apply Kd.R_alloc | apply Kd.R_drewN | apply Kd.R_drew)); exact Kd.R_mono (Kd.R_far (p := ⟨gb351, 0, none⟩) (Kd.R_types HO344.out BK351.out (by decide)) (fun _ hk => hk.2) (.slice Ao25 t347.length co25)) (fun _ hk => ⟨hk.1.1.2, hk.1.2⟩)⟩, ⟨by (with_reducible repeat (first | apply Kd.R_alloc | apply Kd.R_drewN | apply Kd.R_drew)); exact Kd.R_mono (Kd.R_far (p := ⟨gb351, 0, none⟩) (Kd.R_types HO349.out BK351.out (by decide)) (fun _ hk => hk.2) (.slice Ao25 t347.length co25)) (fun _ hk => ⟨hk.1.1.2, hk.1.2⟩)⟩, ⟨by (with_reducible repeat (first | refine blk_drewN ?_ _ | refine blk_drew ?_ | refine blk_alloc ?_ _)); refine blk_far ?_ NB340_351.out _; (with_reducible repeat (first | refine blk_drewN ?_ _ | refine blk_drew ?_ | refine blk_alloc ?_ _)); exact BK340.out⟩, ⟨by (with_reducible repeat (first | refine blk_drewN ?_ _ | refine blk_drew ?_ | refine blk_alloc ?_ _)); refine blk_far ?_ NB341_351.out _; (with_reducible repeat (first | refine blk_drewN ?_ _ | refine blk_drew ?_ | refine blk_alloc ?_ _)); exact BK341.out⟩, ⟨by (with_reducible repeat (first | refine blk_drewN ?_ _ | refine blk_drew ?_ | refine blk_alloc ?_ _)); refine blk_far ?_ NB346_351.out _; (with_reducible repeat (first | refine blk_drewN ?_ _ | refine blk_drew ?_ | refine blk_alloc ?_ _)); exact BK346.out⟩, ⟨by (with_reducible repeat (first | refine blk_drewN ?_ _ | refine blk_drew ?_ | refine blk_alloc ?_ _)); refine blk_put (cs := #[.slice none 0 0]) ?_ 0 _ rfl; (with_reducible repeat (first | refine blk_drewN ?_ _ | refine blk_drew ?_ | refine blk_alloc ?_ _)); exact BK351.out⟩, ⟨(mH4 HB.out GE340.out GE341.out GE346.out GE351.out)⟩⟩
  case rest =>
   clear HC7
   try clear c1
   try clear c2
   try clear p2
   try clear c3
   try clear c4
   try clear c12
   try clear c14
   try clear c18
   try clear c19
   try clear c20
   try clear c21
   try clear c26
   try clear c27
   try clear c28
   try clear c30
   try clear c30b0
   try clear c30b1
   try clear c30b2
   try clear hcz13_0
   try clear hcz14_0
   try clear hcz14_1
   try clear hcz14_2
   try clear hcz20_0
   try clear hcz21_0
   try clear hcz22_0
   try clear hcz22_1
   try clear hcz22_2
   try clear hcz29_0
   try clear hfz13_0
   try clear hfz14_0
   try clear hfz14_1
   try clear hfz14_2
   try clear hfz20_0
   try clear hfz21_0
   try clear hfz22_0
   try clear hfz22_1
   try clear hfz22_2
   try clear hfz29_0
   obtain ⟨kq, x45_6, rfl, HA, HJ6, HO_341000, HO_347000, HO_352000, BK340, BK341, BK346, BK351, HB⟩ := hcut
   cases kq with
   | zero => exact absurd HA.out (by simp [laws_FnMem.j0])
   | succ kj6 =>
    have H := HA.out
    clear HA
    simp only [laws_FnMem.j0] at H
    by_cases c31 : x45_6 = true
    ·subst c31
     have H1 : (if (t345 == t350) = true then (some ((t342.length : Int) == (t333.length : Int))) else (some false)) = some r := by rw [if_pos rfl] at H; exact H
     clear H
     have H := H1
     clear H1
     by_cases c32 : (t345 == t350) = true
     ·rw [if_pos c32] at H
      have c32b0 : (t345 == t350) = true := c32
      (try (have c32b1 : decide (t345 = t350) = true := by simpa using c32))
      (try (have c32b2 : (t345 == t350) = true := by simpa using c32))
      clear c32
      obtain rfl := Option.some.inj H
      have hnb33 := NB346_340.out
      have hnc33 := NB340_346.out
      have hnb34 := NB346_341.out
      have hnc34 := NB341_346.out
      have hnb35 := NB346_351.out
      have hnc35 := NB351_346.out
      have hcz36_0 := mZ BK346.out 0
      have hfz36_0 := blk_frozen BK346.out 0
      have hnb37 := NB340_341.out
      have hnc37 := NB341_340.out
      have hnb38 := NB340_351.out
      have hnc38 := NB351_340.out
      have hcz39_0 := mZ BK340.out 0
      have hfz39_0 := blk_frozen BK340.out 0
      go_wp2
      go_ret
      exact ⟨by first | rfl | (simp [errW_none, errW_some] <;> rfl) | (simp [*, errW_none, errW_some] <;> rfl), (mH4 HB.out GE340.out GE341.out GE346.out GE351.out)⟩
     ·rw [if_neg c32] at H
      have c32b0 : (t345 == t350) = false := by simpa using c32
      (try (have c32b1 : decide (t345 = t350) = false := by simpa using c32))
      (try (have c32b2 : (t345 == t350) = false := by simpa using c32))
      (try (have c32b3 : ¬ (t345 = t350) := by simpa using c32))
      clear c32
      obtain rfl := Option.some.inj H
      go_wp2
      go_ret
      exact ⟨by first | rfl | (simp [errW_none, errW_some] <;> rfl) | (simp [*, errW_none, errW_some] <;> rfl), (mH4 HB.out GE340.out GE341.out GE346.out GE351.out)⟩
    ·replace c31 := Bool.eq_false_iff.mpr c31
     subst c31
     have H1 : ((impl_MemGet.f kj6 t342 t336).bind fun bt352 => ((impl_MemGet.f kj6 t333 t336).bind fun bt357 => (laws_FnMem.l0 kj6 bt352.2.2.2 bt357.2.2.2 0 t333 t336 t337 t338 t342 bt352.1 bt352.2.1 bt352.2.2.1))) = some r := by rw [if_neg (show ¬ (false = true) by decide)] at H; exact H
     clear H
     have H := H1
     clear H1
     replace H := Option.bind_eq_some_iff.mp H
     obtain ⟨⟨t352, t353, t354, t355⟩, A400, H⟩ := H
     replace H : ((impl_MemGet.f kj6 t333 t336).bind fun bt357 => (laws_FnMem.l0 kj6 t355 bt357.2.2.2 0 t333 t336 t337 t338 t342 t352 t353 t354)) = some r := H
     have A40 := mS A400
     clear A400
     replace H := Option.bind_eq_some_iff.mp H
     obtain ⟨⟨t357, t358, t359, t360⟩, A410, H⟩ := H
     replace H : (laws_FnMem.l0 kj6 t355 t360 0 t333 t336 t337 t338 t342 t352 t353 t354) = some r := H
     have A41 := mS A410
     clear A410
     have H' := mS H
     clear H
     have hnb42 := NB346_340.out
     have hnc42 := NB340_346.out
     have hnb43 := NB346_341.out
     have hnc43 := NB341_346.out
     have hnb44 := NB346_351.out
     have hnc44 := NB351_346.out
     have hcz45_0 := mZ BK346.out 0
     have hfz45_0 := blk_frozen BK346.out 0
     have hnb46 := NB341_340.out
     have hnc46 := NB340_341.out
     have hnb47 := NB341_351.out
     have hnc47 := NB351_341.out
     have hcz48_0 := mZ BK341.out 0
     have hcz48_1 := mZ BK341.out 1
     have hcz48_2 := mZ BK341.out 2
     have hfz48_0 := blk_frozen BK341.out 0
     have hfz48_1 := blk_frozen BK341.out 1
     have hfz48_2 := blk_frozen BK341.out 2
     go_wp2_with (first | ((with_reducible refine gate_callee (f := 22) rfl ?_); refine goesL_ (some 62) rfl rfl Try.func22 (by kernel_rfl) rfl #[.agg #[.slice Ao17 t342.length co17], .string t336] rfl mA ?_; (with_reducible refine (impl_MemGet.calls kj6 _ _ t342 t336 t352 t353 t354 t355 _ ?side1 ?side2 A40.out).mono ?_); (case side1 => repeat (first | exact (Kd.R_reads' HO_347000.out).2.2 | (with_reducible refine Kd.C_alloc ?_ _) | (with_reducible refine Kd.C_drewN ?_ _) | (with_reducible refine Kd.C_drew ?_))); (case side2 => exact (Kd.R_reads' HO_347000.out).2.1); rintro e w49 ⟨rfl, hb⟩; refine ⟨_, rfl, ?_⟩; replace HO_341000 := mS (Kd.R_below (mR HO_341000.out) hb); replace HO_347000 := mS (Kd.R_below (mR HO_347000.out) hb); replace HO_352000 := mS (Kd.R_below (mR HO_352000.out) hb); replace BK340 := mB BK340 hb; replace BK341 := mB BK341 hb; replace BK346 := mB BK346 hb; replace BK351 := mB BK351 hb; replace HB := mS (below_step (mH4 HB.out GE340.out GE341.out GE346.out GE351.out) hb); (try clear hb); (try clear hb2); (try clear hk); (try clear hi)) | ((with_reducible refine gate_dst (N := 10) rfl ?_); (try (refine gate_guard (by rfl) ?_; dsimp only)); refine box_event ?hg (N := 10) ?hd (cs := #[.string (⟨#[]⟩ : ByteArray), .string (⟨#[]⟩ : ByteArray), .bool false]) (t := 33) ?hr ?_; (case hd => rfl); (case hg => rfl); (case hr => first | (go_simp; done) | (go_simp; rfl)); intro gb356 hg w50 hbox hb; replace HO_341000 := mS (Kd.R_below (mR HO_341000.out) hb); replace HO_347000 := mS (Kd.R_below (mR HO_347000.out) hb); replace HO_352000 := mS (Kd.R_below (mR HO_352000.out) hb); have BK356 := mS (hbox); have GW356 := mG hg (mH4 HB.out GE340.out GE341.out GE346.out GE351.out); have GE356 := mG hg (mH4 HB.out GE340.out GE341.out GE346.out GE351.out); replace HB := mS (below_step (mH4 HB.out GE340.out GE341.out GE346.out GE351.out) hb); have NB340_356 := mNl hg BK340.out; have NB356_340 := mNg hg BK340.out; replace BK340 := mB BK340 hb; have NB341_356 := mNl hg BK341.out; have NB356_341 := mNg hg BK341.out; replace BK341 := mB BK341 hb; have NB346_356 := mNl hg BK346.out; have NB356_346 := mNg hg BK346.out; replace BK346 := mB BK346 hb; have NB351_356 := mNl hg BK351.out; have NB356_351 := mNg hg BK351.out; replace BK351 := mB BK351 hb; clear hb hbox hg; have hnb51 := NB356_340.out; have hnc51 := NB340_356.out; have hnb52 := NB356_341.out; have hnc52 := NB341_356.out; have hnb53 := NB356_346.out; have hnc53 := NB346_356.out; have hnb54 := NB356_351.out; have hnc54 := NB351_356.out; have hcz55_0 := mZ BK356.out 0; have hcz55_1 := mZ BK356.out 1; have hcz55_2 := mZ BK356.out 2; have hfz55_0 := blk_frozen BK356.out 0; have hfz55_1 := blk_frozen BK356.out 1; have hfz55_2 := blk_frozen BK356.out 2; have hnb56 := NB340_351.out; have hnc56 := NB351_340.out; have hcz57_0 := mZ BK340.out 0; have hfz57_0 := blk_frozen BK340.out 0; have hcz58_0 := mZ BK341.out 0; have hcz58_1 := mZ BK341.out 1; have hcz58_2 := mZ BK341.out 2; have hfz58_0 := blk_frozen BK341.out 0; have hfz58_1 := blk_frozen BK341.out 1; have hfz58_2 := blk_frozen BK341.out 2) | ((with_reducible refine gate_callee (f := 22) rfl ?_); refine goesL_ (some 69) rfl rfl Try.func22 (by kernel_rfl) rfl #[.agg #[.slice Ao11 t333.length co11], .string t336] rfl mA ?_; (with_reducible refine (impl_MemGet.calls kj6 _ _ t333 t336 t357 t358 t359 t360 _ ?side1 ?side2 A41.out).mono ?_); (case side1 => refine (Kd.R_reads' (e := 35) (base := w.heap.size) (ok := fun k_ => (some k_ ≠ (.slice Ao17 t342.length co17 : Value).ownBlock ∧ some k_ ≠ (.slice Ao25 t347.length co25 : Value).ownBlock)) (n := t333.length) (c := co11) ?_).2.2; exact (by (with_reducible repeat (first | apply Kd.R_alloc | apply Kd.R_drewN | apply Kd.R_drew)); exact (Kd.R_mono (Kd.R_far (p := ⟨gb356, 2, none⟩) (Kd.R_far (p := ⟨gb356, 1, none⟩) (Kd.R_far (p := ⟨gb356, 0, none⟩) (Kd.R_types HO_341000.out BK356.out (by decide)) (fun _ hk => hk.2) (.string t352)) (fun _ hk => hk.2) (.string t353)) (fun _ hk => hk.2) (.bool t354)) (fun _ h_ => h_.1)))); (case side2 => exact (Kd.R_reads' HO_341000.out).2.1); rintro e w59 ⟨rfl, hb⟩; refine ⟨_, rfl, ?_⟩; replace HO_341000 := mS (Kd.R_below (by (with_reducible repeat (first | apply Kd.R_alloc | apply Kd.R_drewN | apply Kd.R_drew)); exact (Kd.R_mono (Kd.R_far (p := ⟨gb356, 2, none⟩) (Kd.R_far (p := ⟨gb356, 1, none⟩) (Kd.R_far (p := ⟨gb356, 0, none⟩) (Kd.R_types HO_341000.out BK356.out (by decide)) (fun _ hk => hk.2) (.string t352)) (fun _ hk => hk.2) (.string t353)) (fun _ hk => hk.2) (.bool t354)) (fun _ h_ => h_.1))) hb); replace HO_347000 := mS (Kd.R_below (by (with_reducible repeat (first | apply Kd.R_alloc | apply Kd.R_drewN | apply Kd.R_drew)); exact (Kd.R_mono (Kd.R_far (p := ⟨gb356, 2, none⟩) (Kd.R_far (p := ⟨gb356, 1, none⟩) (Kd.R_far (p := ⟨gb356, 0, none⟩) (Kd.R_types HO_347000.out BK356.out (by decide)) (fun _ hk => hk.2) (.string t352)) (fun _ hk => hk.2) (.string t353)) (fun _ hk => hk.2) (.bool t354)) (fun _ h_ => h_.1))) hb); replace HO_352000 := mS (Kd.R_below (by (with_reducible repeat (first | apply Kd.R_alloc | apply Kd.R_drewN | apply Kd.R_drew)); exact (Kd.R_mono (Kd.R_far (p := ⟨gb356, 2, none⟩) (Kd.R_far (p := ⟨gb356, 1, none⟩) (Kd.R_far (p := ⟨gb356, 0, none⟩) (Kd.R_types HO_352000.out BK356.out (by decide)) (fun _ hk => hk.2) (.string t352)) (fun _ hk => hk.2) (.string t353)) (fun _ hk => hk.2) (.bool t354)) (fun _ h_ => h_.1))) hb); replace BK340 := mS (blk_below (g := gb340) (o := .cells #[.slice Ao11 t333.length co11] 26 (0, 0)) (by (with_reducible repeat (first | refine blk_drewN ?_ _ | refine blk_drew ?_ | refine blk_alloc ?_ _)); refine blk_far ?_ NB340_356.out _; (with_reducible repeat (first | refine blk_drewN ?_ _ | refine blk_drew ?_ | refine blk_alloc ?_ _)); refine blk_far ?_ NB340_356.out _; (with_reducible repeat (first | refine blk_drewN ?_ _ | refine blk_drew ?_ | refine blk_alloc ?_ _)); refine blk_far ?_ NB340_356.out _; (with_reducible repeat (first | refine blk_drewN ?_ _ | refine blk_drew ?_ | refine blk_alloc ?_ _)); exact BK340.out) hb); replace BK341 := mS (blk_below (g := gb341) (o := .cells #[.string t336, .string t337, .bool t338] 33 (0, 0)) (by (with_reducible repeat (first | refine blk_drewN ?_ _ | refine blk_drew ?_ | refine blk_alloc ?_ _)); refine blk_far ?_ NB341_356.out _; (with_reducible repeat (first | refine blk_drewN ?_ _ | refine blk_drew ?_ | refine blk_alloc ?_ _)); refine blk_far ?_ NB341_356.out _; (with_reducible repeat (first | refine blk_drewN ?_ _ | refine blk_drew ?_ | refine blk_alloc ?_ _)); refine blk_far ?_ NB341_356.out _; (with_reducible repeat (first | refine blk_drewN ?_ _ | refine blk_drew ?_ | refine blk_alloc ?_ _)); exact BK341.out) hb); replace BK346 := mS (blk_below (g := gb346) (o := .cells #[.slice Ao17 t342.length co17] 26 (0, 0)) (by (with_reducible repeat (first | refine blk_drewN ?_ _ | refine blk_drew ?_ | refine blk_alloc ?_ _)); refine blk_far ?_ NB346_356.out _; (with_reducible repeat (first | refine blk_drewN ?_ _ | refine blk_drew ?_ | refine blk_alloc ?_ _)); refine blk_far ?_ NB346_356.out _; (with_reducible repeat (first | refine blk_drewN ?_ _ | refine blk_drew ?_ | refine blk_alloc ?_ _)); refine blk_far ?_ NB346_356.out _; (with_reducible repeat (first | refine blk_drewN ?_ _ | refine blk_drew ?_ | refine blk_alloc ?_ _)); exact BK346.out) hb); replace BK351 := mS (blk_below (g := gb351) (o := .cells #[.slice Ao25 t347.length co25] 26 (0, 0)) (by (with_reducible repeat (first | refine blk_drewN ?_ _ | refine blk_drew ?_ | refine blk_alloc ?_ _)); refine blk_far ?_ NB351_356.out _; (with_reducible repeat (first | refine blk_drewN ?_ _ | refine blk_drew ?_ | refine blk_alloc ?_ _)); refine blk_far ?_ NB351_356.out _; (with_reducible repeat (first | refine blk_drewN ?_ _ | refine blk_drew ?_ | refine blk_alloc ?_ _)); refine blk_far ?_ NB351_356.out _; (with_reducible repeat (first | refine blk_drewN ?_ _ | refine blk_drew ?_ | refine blk_alloc ?_ _)); exact BK351.out) hb); replace BK356 := mS (blk_below (g := gb356) (o := .cells #[.string t352, .string t353, .bool t354] 33 (0, 0)) (by (with_reducible repeat (first | refine blk_drewN ?_ _ | refine blk_drew ?_ | refine blk_alloc ?_ _)); refine blk_put (cs := #[.string t352, .string t353, .bool false]) ?_ 2 _ rfl; (with_reducible repeat (first | refine blk_drewN ?_ _ | refine blk_drew ?_ | refine blk_alloc ?_ _)); refine blk_put (cs := #[.string t352, .string (⟨#[]⟩ : ByteArray), .bool false]) ?_ 1 _ rfl; (with_reducible repeat (first | refine blk_drewN ?_ _ | refine blk_drew ?_ | refine blk_alloc ?_ _)); refine blk_put (cs := #[.string (⟨#[]⟩ : ByteArray), .string (⟨#[]⟩ : ByteArray), .bool false]) ?_ 0 _ rfl; (with_reducible repeat (first | refine blk_drewN ?_ _ | refine blk_drew ?_ | refine blk_alloc ?_ _)); exact BK356.out) hb); replace HB := mS (below_step (mH5 HB.out GE340.out GE341.out GE346.out GE351.out GE356.out) hb); (try clear hb); (try clear hb2); (try clear hk); (try clear hi)) | ((with_reducible refine gate_dst (N := 12) rfl ?_); (try (refine gate_guard (by rfl) ?_; dsimp only)); refine box_event ?hg (N := 12) ?hd (cs := #[.string (⟨#[]⟩ : ByteArray), .string (⟨#[]⟩ : ByteArray), .bool false]) (t := 33) ?hr ?_; (case hd => rfl); (case hg => rfl); (case hr => first | (go_simp; done) | (go_simp; rfl)); intro gb361 hg w60 hbox hb; replace HO_341000 := mS (Kd.R_below (mR HO_341000.out) hb); replace HO_347000 := mS (Kd.R_below (mR HO_347000.out) hb); replace HO_352000 := mS (Kd.R_below (mR HO_352000.out) hb); have BK361 := mS (hbox); have GW361 := mG hg (mH5 HB.out GE340.out GE341.out GE346.out GE351.out GE356.out); have GE361 := mG hg (mH5 HB.out GE340.out GE341.out GE346.out GE351.out GE356.out); replace HB := mS (below_step (mH5 HB.out GE340.out GE341.out GE346.out GE351.out GE356.out) hb); have NB340_361 := mNl hg BK340.out; have NB361_340 := mNg hg BK340.out; replace BK340 := mB BK340 hb; have NB341_361 := mNl hg BK341.out; have NB361_341 := mNg hg BK341.out; replace BK341 := mB BK341 hb; have NB346_361 := mNl hg BK346.out; have NB361_346 := mNg hg BK346.out; replace BK346 := mB BK346 hb; have NB351_361 := mNl hg BK351.out; have NB361_351 := mNg hg BK351.out; replace BK351 := mB BK351 hb; have NB356_361 := mNl hg BK356.out; have NB361_356 := mNg hg BK356.out; replace BK356 := mB BK356 hb; clear hb hbox hg; have hnb61 := NB361_340.out; have hnc61 := NB340_361.out; have hnb62 := NB361_341.out; have hnc62 := NB341_361.out; have hnb63 := NB361_346.out; have hnc63 := NB346_361.out; have hnb64 := NB361_351.out; have hnc64 := NB351_361.out; have hnb65 := NB361_356.out; have hnc65 := NB356_361.out; have hcz66_0 := mZ BK361.out 0; have hcz66_1 := mZ BK361.out 1; have hcz66_2 := mZ BK361.out 2; have hfz66_0 := blk_frozen BK361.out 0; have hfz66_1 := blk_frozen BK361.out 1; have hfz66_2 := blk_frozen BK361.out 2))
     go_loopg [14] kj6 (fun kq v14 w' => ∃ (x14_2 : Int), v14 = .int .i64 x14_2 ∧ Aside0 (laws_FnMem.l0 kq t355 t360 x14_2 t333 t336 t337 t338 t342 t352 t353 t354 = some r) ∧ Aside0 (kq ≤ kj6) ∧ Aside0 (Kd.R k35 35 w' w.heap.size (fun k_ => some k_ ≠ ((.slice Ao17 t342.length co17) : Value).ownBlock ∧ some k_ ≠ ((.slice Ao25 t347.length co25) : Value).ownBlock) (.slice Ao11 t333.length co11) t333) ∧ Aside0 (Kd.R k35 35 w' w.heap.size (fun k_ => some k_ ≠ ((.slice Ao11 t333.length co11) : Value).ownBlock ∧ some k_ ≠ ((.slice Ao25 t347.length co25) : Value).ownBlock) (.slice Ao17 t342.length co17) t342) ∧ Aside0 (Kd.R k35 35 w' w.heap.size (fun k_ => some k_ ≠ ((.slice Ao11 t333.length co11) : Value).ownBlock ∧ some k_ ≠ ((.slice Ao17 t342.length co17) : Value).ownBlock) (.slice Ao25 t347.length co25) t347) ∧ Aside0 (w'.heap[gb340]? = some (.cells #[(.slice Ao11 t333.length co11)] 26 (0, 0))) ∧ Aside0 (w'.heap[gb341]? = some (.cells #[.string t336, .string t337, .bool t338] 33 (0, 0))) ∧ Aside0 (w'.heap[gb346]? = some (.cells #[(.slice Ao17 t342.length co17)] 26 (0, 0))) ∧ Aside0 (w'.heap[gb351]? = some (.cells #[(.slice Ao25 t347.length co25)] 26 (0, 0))) ∧ Aside0 (w'.heap[gb356]? = some (.cells #[.string t352, .string t353, .bool t354] 33 (0, 0))) ∧ Aside0 (w'.heap[gb361]? = some (.cells #[.string t357, .string t358, .bool t359] 33 (0, 0))) ∧ Aside0 (Below w.heap.size w w'))
     case atStart => exact ⟨(0), (by first | rfl | (simp; done) | (simp [*]; done)), H', ⟨Nat.le_refl _⟩, ⟨by (with_reducible repeat (first | apply Kd.R_alloc | apply Kd.R_drewN | apply Kd.R_drew)); exact Kd.R_mono (Kd.R_far (p := ⟨gb361, 2, none⟩) (Kd.R_far (p := ⟨gb361, 1, none⟩) (Kd.R_far (p := ⟨gb361, 0, none⟩) (Kd.R_types HO_341000.out BK361.out (by decide)) (fun _ hk => hk.2) (.string t357)) (fun _ hk => hk.2) (.string t358)) (fun _ hk => hk.2) (.bool t359)) (fun _ hk => ⟨hk.1.1, hk.1.2⟩)⟩, ⟨by (with_reducible repeat (first | apply Kd.R_alloc | apply Kd.R_drewN | apply Kd.R_drew)); exact Kd.R_mono (Kd.R_far (p := ⟨gb361, 2, none⟩) (Kd.R_far (p := ⟨gb361, 1, none⟩) (Kd.R_far (p := ⟨gb361, 0, none⟩) (Kd.R_types HO_347000.out BK361.out (by decide)) (fun _ hk => hk.2) (.string t357)) (fun _ hk => hk.2) (.string t358)) (fun _ hk => hk.2) (.bool t359)) (fun _ hk => ⟨hk.1.1, hk.1.2⟩)⟩, ⟨by (with_reducible repeat (first | apply Kd.R_alloc | apply Kd.R_drewN | apply Kd.R_drew)); exact Kd.R_mono (Kd.R_far (p := ⟨gb361, 2, none⟩) (Kd.R_far (p := ⟨gb361, 1, none⟩) (Kd.R_far (p := ⟨gb361, 0, none⟩) (Kd.R_types HO_352000.out BK361.out (by decide)) (fun _ hk => hk.2) (.string t357)) (fun _ hk => hk.2) (.string t358)) (fun _ hk => hk.2) (.bool t359)) (fun _ hk => ⟨hk.1.1, hk.1.2⟩)⟩, ⟨by (with_reducible repeat (first | refine blk_drewN ?_ _ | refine blk_drew ?_ | refine blk_alloc ?_ _)); refine blk_far ?_ NB340_361.out _; (with_reducible repeat (first | refine blk_drewN ?_ _ | refine blk_drew ?_ | refine blk_alloc ?_ _)); refine blk_far ?_ NB340_361.out _; (with_reducible repeat (first | refine blk_drewN ?_ _ | refine blk_drew ?_ | refine blk_alloc ?_ _)); refine blk_far ?_ NB340_361.out _; (with_reducible repeat (first | refine blk_drewN ?_ _ | refine blk_drew ?_ | refine blk_alloc ?_ _)); exact BK340.out⟩, ⟨by (with_reducible repeat (first | refine blk_drewN ?_ _ | refine blk_drew ?_ | refine blk_alloc ?_ _)); refine blk_far ?_ NB341_361.out _; (with_reducible repeat (first | refine blk_drewN ?_ _ | refine blk_drew ?_ | refine blk_alloc ?_ _)); refine blk_far ?_ NB341_361.out _; (with_reducible repeat (first | refine blk_drewN ?_ _ | refine blk_drew ?_ | refine blk_alloc ?_ _)); refine blk_far ?_ NB341_361.out _; (with_reducible repeat (first | refine blk_drewN ?_ _ | refine blk_drew ?_ | refine blk_alloc ?_ _)); exact BK341.out⟩, ⟨by (with_reducible repeat (first | refine blk_drewN ?_ _ | refine blk_drew ?_ | refine blk_alloc ?_ _)); refine blk_far ?_ NB346_361.out _; (with_reducible repeat (first | refine blk_drewN ?_ _ | refine blk_drew ?_ | refine blk_alloc ?_ _)); refine blk_far ?_ NB346_361.out _; (with_reducible repeat (first | refine blk_drewN ?_ _ | refine blk_drew ?_ | refine blk_alloc ?_ _)); refine blk_far ?_ NB346_361.out _; (with_reducible repeat (first | refine blk_drewN ?_ _ | refine blk_drew ?_ | refine blk_alloc ?_ _)); exact BK346.out⟩, ⟨by (with_reducible repeat (first | refine blk_drewN ?_ _ | refine blk_drew ?_ | refine blk_alloc ?_ _)); refine blk_far ?_ NB351_361.out _; (with_reducible repeat (first | refine blk_drewN ?_ _ | refine blk_drew ?_ | refine blk_alloc ?_ _)); refine blk_far ?_ NB351_361.out _; (with_reducible repeat (first | refine blk_drewN ?_ _ | refine blk_drew ?_ | refine blk_alloc ?_ _)); refine blk_far ?_ NB351_361.out _; (with_reducible repeat (first | refine blk_drewN ?_ _ | refine blk_drew ?_ | refine blk_alloc ?_ _)); exact BK351.out⟩, ⟨by (with_reducible repeat (first | refine blk_drewN ?_ _ | refine blk_drew ?_ | refine blk_alloc ?_ _)); refine blk_far ?_ NB356_361.out _; (with_reducible repeat (first | refine blk_drewN ?_ _ | refine blk_drew ?_ | refine blk_alloc ?_ _)); refine blk_far ?_ NB356_361.out _; (with_reducible repeat (first | refine blk_drewN ?_ _ | refine blk_drew ?_ | refine blk_alloc ?_ _)); refine blk_far ?_ NB356_361.out _; (with_reducible repeat (first | refine blk_drewN ?_ _ | refine blk_drew ?_ | refine blk_alloc ?_ _)); exact BK356.out⟩, ⟨by (with_reducible repeat (first | refine blk_drewN ?_ _ | refine blk_drew ?_ | refine blk_alloc ?_ _)); refine blk_put (cs := #[.string t357, .string t358, .bool false]) ?_ 2 _ rfl; (with_reducible repeat (first | refine blk_drewN ?_ _ | refine blk_drew ?_ | refine blk_alloc ?_ _)); refine blk_put (cs := #[.string t357, .string (⟨#[]⟩ : ByteArray), .bool false]) ?_ 1 _ rfl; (with_reducible repeat (first | refine blk_drewN ?_ _ | refine blk_drew ?_ | refine blk_alloc ?_ _)); refine blk_put (cs := #[.string (⟨#[]⟩ : ByteArray), .string (⟨#[]⟩ : ByteArray), .bool false]) ?_ 0 _ rfl; (with_reducible repeat (first | refine blk_drewN ?_ _ | refine blk_drew ?_ | refine blk_alloc ?_ _)); exact BK361.out⟩, ⟨(mH6 HB.out GE340.out GE341.out GE346.out GE351.out GE356.out GE361.out)⟩⟩
     case round =>
      clear H'
      try clear c1
      try clear c2
      try clear p2
      try clear c3
      try clear c4
      try clear c5
      try clear c6
      try clear c12
      try clear c14
      try clear c18
      try clear c19
      try clear c20
      try clear c21
      try clear c22
      try clear c26
      try clear c27
      try clear c28
      try clear c30
      try clear c30b0
      try clear c30b1
      try clear c30b2
      try clear c31
      try clear c32
      try clear c32b0
      try clear c32b1
      try clear c32b2
      try clear c33
      try clear c34
      try clear c35
      try clear c37
      try clear c38
      try clear c42
      try clear c43
      try clear c44
      try clear c46
      try clear c47
      try clear c51
      try clear c52
      try clear c53
      try clear c54
      try clear c56
      try clear c61
      try clear c62
      try clear c63
      try clear c64
      try clear c65
      try clear hcz13_0
      try clear hcz14_0
      try clear hcz14_1
      try clear hcz14_2
      try clear hcz20_0
      try clear hcz21_0
      try clear hcz22_0
      try clear hcz22_1
      try clear hcz22_2
      try clear hcz29_0
      try clear hcz36_0
      try clear hcz39_0
      try clear hcz45_0
      try clear hcz48_0
      try clear hcz48_1
      try clear hcz48_2
      try clear hcz55_0
      try clear hcz55_1
      try clear hcz55_2
      try clear hcz57_0
      try clear hcz58_0
      try clear hcz58_1
      try clear hcz58_2
      try clear hcz66_0
      try clear hcz66_1
      try clear hcz66_2
      try clear hfz13_0
      try clear hfz14_0
      try clear hfz14_1
      try clear hfz14_2
      try clear hfz20_0
      try clear hfz21_0
      try clear hfz22_0
      try clear hfz22_1
      try clear hfz22_2
      try clear hfz29_0
      try clear hfz36_0
      try clear hfz39_0
      try clear hfz45_0
      try clear hfz48_0
      try clear hfz48_1
      try clear hfz48_2
      try clear hfz55_0
      try clear hfz55_1
      try clear hfz55_2
      try clear hfz57_0
      try clear hfz58_0
      try clear hfz58_1
      try clear hfz58_2
      try clear hfz66_0
      try clear hfz66_1
      try clear hfz66_2
      try clear p2
      obtain ⟨x14_2, rfl, HA, HK2, HO_341000, HO_347000, HO_352000, BK340, BK341, BK346, BK351, BK356, BK361, HB⟩ := hrel
      cases gk with
      | zero => exact absurd HA.out (by simp [laws_FnMem.l0])
      | succ k2 =>
       have H := HA.out
       clear HA
       simp only [laws_FnMem.l0] at H
       by_cases c67 : x14_2 < (t333.length : Int)
       ·rw [if_pos c67] at H
        have c67b0 : decide (x14_2 < (t333.length : Int)) = true := decide_eq_true c67
        clear c67
        by_cases c68 : 0 ≤ x14_2
        ·rw [if_pos c68] at H
         have c68b0 : decide (0 ≤ x14_2) = true := decide_eq_true c68
         clear c68
         replace H := Option.bind_eq_some_iff.mp H
         obtain ⟨⟨t363, t364, t365, t366⟩, A690, H⟩ := H
         replace H : (if t366 = true then (if ((rd_T35 t333 x14_2).f0.f0).toList = t336.toList then (laws_FnMem.j2 k2 t355 t360 x14_2 false t333 t336 t337 t338 t342 t352 t353 t354) else (laws_FnMem.j2 k2 t355 t360 x14_2 (!(t363.toList == (((rd_T35 t333 x14_2).f0.f0).toList)) || (!(t364.toList == (((rd_T35 t333 x14_2).f0.f1).toList)) || (!(t365 == ((rd_T35 t333 x14_2).f0.f2))))) t333 t336 t337 t338 t342 t352 t353 t354)) else (laws_FnMem.j2 k2 t355 t360 x14_2 true t333 t336 t337 t338 t342 t352 t353 t354)) = some r := H
         have A69 := mS A690
         clear A690
         have HC70 := mS H
         clear H
         have hnb71 := NB340_341.out
         have hnc71 := NB341_340.out
         have hnb72 := NB340_346.out
         have hnc72 := NB346_340.out
         have hnb73 := NB340_351.out
         have hnc73 := NB351_340.out
         have hnb74 := NB340_356.out
         have hnc74 := NB356_340.out
         have hnb75 := NB340_361.out
         have hnc75 := NB361_340.out
         have hcz76_0 := mZ BK340.out 0
         have hfz76_0 := blk_frozen BK340.out 0
         try go_wp2
         have n0_ := mS (Kd.R_drew HO_341000.out)
         have n1_ := mS (Kd.R_drew HO_347000.out)
         have n2_ := mS (Kd.R_drew HO_352000.out)
         have n3_ := mS (blk_drew BK340.out)
         have n4_ := mS (blk_drew BK341.out)
         have n5_ := mS (blk_drew BK346.out)
         have n6_ := mS (blk_drew BK351.out)
         have n7_ := mS (blk_drew BK356.out)
         have n8_ := mS (blk_drew BK361.out)
         have n9_ := mS (below_drew1 HB.out)
         clear HO_341000
         clear HO_347000
         clear HO_352000
         clear BK340
         clear BK341
         clear BK346
         clear BK351
         clear BK356
         clear BK361
         clear HB
         have HO_341000 := n0_
         have HO_347000 := n1_
         have HO_352000 := n2_
         have BK340 := n3_
         have BK341 := n4_
         have BK346 := n5_
         have BK351 := n6_
         have BK356 := n7_
         have BK361 := n8_
         have HB := n9_
         clear n0_ n1_ n2_ n3_ n4_ n5_ n6_ n7_ n8_ n9_
         have p362 : 0 ≤ (x14_2 : Int) := of_decide_eq_true (by first | (with_reducible assumption) | assumption)
         have q362 : x14_2 < (t333.length : Int) := of_decide_eq_true (by first | (with_reducible assumption) | assumption)
         obtain ⟨ad362, e362, hx362_0, hx362_1, hx362_2, hx362_3⟩ := at_T35 (Kd.R_reads' HO_341000.out).2.2 x14_2 p362 q362
         cases e362
         replace p362 := eq_true p362
         replace q362 := eq_true q362
         refine start_ (n := 15) (S := fun w' => w'.cell? ⟨gb346, 0, none⟩ = some (.slice Ao17 t342.length co17) ∧ w'.cell? ⟨gb340, 0, none⟩ = some (.slice (some ad362) t333.length co11) ∧ w'.cell? (ad362.add ((x14_2).toNat * 4)) = some (.string ((rd_T35 t333 x14_2).f0.f0)) ∧ w'.cell? ⟨(ad362.add ((x14_2).toNat * 4)).block, (ad362.add ((x14_2).toNat * 4)).off + 1, none⟩ = some (.string ((rd_T35 t333 x14_2).f0.f1)) ∧ w'.cell? ⟨(ad362.add ((x14_2).toNat * 4)).block, (ad362.add ((x14_2).toNat * 4)).off + 2, none⟩ = some (.bool ((rd_T35 t333 x14_2).f0.f2)) ∧ w'.cell? ⟨(ad362.add ((x14_2).toNat * 4)).block, (ad362.add ((x14_2).toNat * 4)).off + 3, none⟩ = some (.int .i64 ((rd_T35 t333 x14_2).f1))) (ds := []) (mb 0 15) (by kernel_rfl) rfl rfl ⟨mZ BK346.out 0, mZ BK340.out 0, hx362_0, hx362_1, hx362_2, hx362_3⟩ (fun hHeld => ?_); refine with_tabW laws_FnMem.tab13 laws_FnMem.bits13 (fun HT_ HW_ => ?_)
         generalize wr.drew = w77 at HO_341000 HO_347000 HO_352000 BK340 BK341 BK346 BK351 BK356 BK361 HB hx362_0 hx362_1 hx362_2 hx362_3 hHeld ⊢
         refine pure_ (i := 1) (N := some 81) (v := ?_) (a' := ?_) #[false, true, false, false, false, false, false, false, false, false, false, false, false, false, false] rfl rfl (any_of HT_.out (by kernel_rfl)) (fun _ _ _ h => h) (Or.inl ⟨by rfl, ?_⟩) ?_ ?_
         rotate_left
         ·intro w'
          go_simp
          with_reducible rfl
         rotate_left
         ·simp only [Act.put, zA, zB, zC, i64_w, i32_w]
          rfl
         refine pure_ (i := 3) (N := some 83) (v := ?_) (a' := ?_) #[false, true, false, true, false, false, false, false, false, false, false, false, false, false, false] rfl rfl (any_of HT_.out (by kernel_rfl)) (fun _ _ _ h => h) (Or.inl ⟨by rfl, ?_⟩) ?_ ?_
         rotate_left
         ·intro w'
          go_simp
          with_reducible rfl
         rotate_left
         ·simp only [Act.put, zA, zB, zC, i64_w, i32_w]
          rfl
         refine take_ (i := 0) (N := some 80) (v := ?_) (a' := ?_) #[true, true, false, true, false, false, false, false, false, false, false, false, false, false, false] rfl rfl (take_ofW HT_.out HW_.out (by kernel_rfl)) (fun _ _ _ h => h) (Or.inl ⟨by rfl, ?_⟩) hHeld ?_ ?_
         rotate_left
         ·rintro w' ⟨s0, s1, s2, s3, s4, s5⟩
          go_simp
          with_reducible rfl
         rotate_left
         ·simp only [Act.put, zA, zB, zC, i64_w, i32_w]
          rfl
         refine take_ (i := 2) (N := some 82) (v := ?_) (a' := ?_) (mb 4 11) rfl rfl (take_ofW HT_.out HW_.out (by kernel_rfl)) (fun _ _ _ h => h) (Or.inl ⟨by rfl, ?_⟩) hHeld ?_ ?_
         rotate_left
         ·rintro w' ⟨s0, s1, s2, s3, s4, s5⟩
          go_simp
          with_reducible rfl
         rotate_left
         ·simp only [Act.put, zA, zB, zC, i64_w, i32_w]
          rfl
         refine pure_ (i := 4) (N := some 84) (v := ?_) (a' := ?_) (mb 5 10) rfl rfl (any_of HT_.out (by kernel_rfl)) (fun _ _ _ h => h) (Or.inl ⟨by rfl, ?_⟩) ?_ ?_
         rotate_left
         ·intro w'
          go_simp
          with_reducible rfl
         rotate_left
         ·simp only [Act.put, zA, zB, zC, i64_w, i32_w]
          rfl
         refine pure_ (i := 5) (N := some 85) (v := ?_) (a' := ?_) (mb 6 9) rfl rfl (any_of HT_.out (by kernel_rfl)) (fun _ _ _ h => h) (Or.inl ⟨by rfl, ?_⟩) ?_ ?_
         rotate_left
         ·intro w'
          go_simp
          with_reducible rfl
         rotate_left
         ·simp only [Act.put, zA, zB, zC, i64_w, i32_w]
          rfl
         refine pure_ (i := 6) (N := some 86) (v := ?_) (a' := ?_) (mb 7 8) rfl rfl (any_of HT_.out (by kernel_rfl)) (fun _ _ _ h => h) (Or.inl ⟨by rfl, ?_⟩) ?_ ?_
         rotate_left
         ·intro w'
          go_simp
          with_reducible rfl
         rotate_left
         ·simp only [Act.put, zA, zB, zC, i64_w, i32_w]
          rfl
         refine take_ (i := 7) (N := some 87) (v := ?_) (a' := ?_) (mb 8 7) rfl rfl (take_ofW HT_.out HW_.out (by kernel_rfl)) (fun _ _ _ h => h) (Or.inl ⟨by rfl, ?_⟩) hHeld ?_ ?_
         rotate_left
         ·rintro w' ⟨s0, s1, s2, s3, s4, s5⟩
          go_simp
          with_reducible rfl
         rotate_left
         ·simp only [Act.put, zA, zB, zC, i64_w, i32_w]
          rfl
         refine join_ (σ := Nat) 2 (mb 13 2) (fun s_ => [(88, .tuple #[.agg #[.string t363, .string t364, .bool t365], .bool t366]), (15, .pointer (some ⟨s_, 0, none⟩)), (79, .tuple #[.agg #[.string t363, .string t364, .bool t365], .bool t366]), (89, .agg #[.string t363, .string t364, .bool t365]), (90, .bool t366)]) (fun s_ w' => (w'.cell? ⟨gb346, 0, none⟩ = some (.slice Ao17 t342.length co17) ∧ w'.cell? ⟨gb340, 0, none⟩ = some (.slice (some ad362) t333.length co11) ∧ w'.cell? (ad362.add ((x14_2).toNat * 4)) = some (.string ((rd_T35 t333 x14_2).f0.f0)) ∧ w'.cell? ⟨(ad362.add ((x14_2).toNat * 4)).block, (ad362.add ((x14_2).toNat * 4)).off + 1, none⟩ = some (.string ((rd_T35 t333 x14_2).f0.f1)) ∧ w'.cell? ⟨(ad362.add ((x14_2).toNat * 4)).block, (ad362.add ((x14_2).toNat * 4)).off + 2, none⟩ = some (.bool ((rd_T35 t333 x14_2).f0.f2)) ∧ w'.cell? ⟨(ad362.add ((x14_2).toNat * 4)).block, (ad362.add ((x14_2).toNat * 4)).off + 3, none⟩ = some (.int .i64 ((rd_T35 t333 x14_2).f1))) ∧ (Kd.R k35 35 w' w.heap.size (fun k_ => some k_ ≠ (.slice Ao17 t342.length co17 : Value).ownBlock ∧ some k_ ≠ (.slice Ao25 t347.length co25 : Value).ownBlock) (.slice (some ad362) t333.length co11) t333) ∧ (Kd.R k35 35 w' w.heap.size (fun k_ => some k_ ≠ (.slice (some ad362) t333.length co11 : Value).ownBlock ∧ some k_ ≠ (.slice Ao25 t347.length co25 : Value).ownBlock) (.slice Ao17 t342.length co17) t342) ∧ (Kd.R k35 35 w' w.heap.size (fun k_ => some k_ ≠ (.slice (some ad362) t333.length co11 : Value).ownBlock ∧ some k_ ≠ (.slice Ao17 t342.length co17 : Value).ownBlock) (.slice Ao25 t347.length co25) t347) ∧ (w'.heap[gb340]? = some (.cells #[.slice (some ad362) t333.length co11] 26 (0, 0))) ∧ (w'.heap[gb341]? = some (.cells #[.string t336, .string t337, .bool t338] 33 (0, 0))) ∧ (w'.heap[gb346]? = some (.cells #[.slice Ao17 t342.length co17] 26 (0, 0))) ∧ (w'.heap[gb351]? = some (.cells #[.slice Ao25 t347.length co25] 26 (0, 0))) ∧ (w'.heap[gb356]? = some (.cells #[.string t352, .string t353, .bool t354] 33 (0, 0))) ∧ (w'.heap[gb361]? = some (.cells #[.string t357, .string t358, .bool t359] 33 (0, 0))) ∧ (w'.heap[s_]? = some (.cells #[.string (⟨#[]⟩ : ByteArray), .string (⟨#[]⟩ : ByteArray), .bool false] 33 (0, 0))) ∧ (w.heap.size ≤ s_) ∧ (w.heap.size ≤ s_) ∧ (gb340 ≠ s_) ∧ (s_ ≠ gb340) ∧ (gb341 ≠ s_) ∧ (s_ ≠ gb341) ∧ (gb346 ≠ s_) ∧ (s_ ≠ gb346) ∧ (gb351 ≠ s_) ∧ (s_ ≠ gb351) ∧ (gb356 ≠ s_) ∧ (s_ ≠ gb356) ∧ (gb361 ≠ s_) ∧ (s_ ≠ gb361) ∧ (Below w.heap.size w w')) ?_ ?_
         rotate_left
         ·intro hCont
          refine two_ (i := 8) (j := 12) (Ni := some 88) (Nj := some 15) (mb 9 6) #[true, true, true, true, true, true, true, true, false, false, false, false, true, false, false] rfl rfl rfl rfl (two_of HT_.out (by kernel_rfl)) (by decide) (by decide) (fun K hK => ?_) (fun K hK => ?_)
          ·skip
           refine goes_ Try.func22 (by kernel_rfl) rfl #[.agg #[.slice Ao17 t342.length co17], .string ((rd_T35 t333 x14_2).f0.f0)] (by rfl) rfl rfl mA ?_
           with_reducible refine (impl_MemGet.calls k2 _ _ t342 ((rd_T35 t333 x14_2).f0.f0) t363 t364 t365 t366 _ ?side1 ?side2 A69.out).mono ?_
           (case side1 => repeat (first | exact (Kd.R_reads' HO_347000.out).2.2 | (with_reducible refine Kd.C_alloc ?_ _) | (with_reducible refine Kd.C_drewN ?_ _) | (with_reducible refine Kd.C_drew ?_)))
           (case side2 => exact (Kd.R_reads' HO_347000.out).2.1)
           rintro e w78 ⟨rfl, hb⟩
           have HS2_ := (hb.cell (World.block_lt_of_cell? _ _ (hHeld.2.2.1))).trans (hHeld.2.2.1)
           have HS3_ := (hb.cell (World.block_lt_of_cell? _ _ (hHeld.2.2.2.1))).trans (hHeld.2.2.2.1)
           have HS4_ := (hb.cell (World.block_lt_of_cell? _ _ (hHeld.2.2.2.2.1))).trans (hHeld.2.2.2.2.1)
           have HS5_ := (hb.cell (World.block_lt_of_cell? _ _ (hHeld.2.2.2.2.2))).trans (hHeld.2.2.2.2.2)
           refine ⟨_, rfl, ?_⟩
           have n0_ := mS (Kd.R_below (mR HO_341000.out) hb)
           have n1_ := mS (Kd.R_below (mR HO_347000.out) hb)
           have n2_ := mS (Kd.R_below (mR HO_352000.out) hb)
           have n3_ := mB BK340 hb
           have n4_ := mB BK341 hb
           have n5_ := mB BK346 hb
           have n6_ := mB BK351 hb
           have n7_ := mB BK356 hb
           have n8_ := mB BK361 hb
           have n9_ := mS (below_step (mH6 HB.out GE340.out GE341.out GE346.out GE351.out GE356.out GE361.out) hb)
           clear HO_341000
           clear HO_347000
           clear HO_352000
           clear BK340
           clear BK341
           clear BK346
           clear BK351
           clear BK356
           clear BK361
           clear HB
           have HO_341000 := n0_
           have HO_347000 := n1_
           have HO_352000 := n2_
           have BK340 := n3_
           have BK341 := n4_
           have BK346 := n5_
           have BK351 := n6_
           have BK356 := n7_
           have BK361 := n8_
           have HB := n9_
           clear n0_ n1_ n2_ n3_ n4_ n5_ n6_ n7_ n8_ n9_
           (try clear hb)
           (try clear hb2)
           (try clear hk)
           (try clear hi)
           refine hK.out _ _ ⟨mZ BK346.out 0, mZ BK340.out 0, HS2_, HS3_, HS4_, HS5_⟩ (fun hHeld => ?_)
           clear hK K
           refine norm_ (a' := ?_) ?_ ?_
           rotate_left
           ·show Act.put _ (some 88) _ = _
            simp only [Act.put, zA, zB, zC, i64_w, i32_w]
            rfl
           refine pure_ (i := 9) (N := some 79) (v := ?_) (a' := ?_) (mb 10 5) rfl rfl (any_of HT_.out (by kernel_rfl)) (fun _ _ _ h => h) (Or.inl ⟨by rfl, ?_⟩) ?_ ?_
           rotate_left
           ·intro w'
            go_simp
            with_reducible rfl
           rotate_left
           ·simp only [Act.put, zA, zB, zC, i64_w, i32_w]
            rfl
           refine pure_ (i := 10) (N := some 89) (v := ?_) (a' := ?_) (mb 11 4) rfl rfl (any_of HT_.out (by kernel_rfl)) (fun _ _ _ h => h) (Or.inl ⟨by rfl, ?_⟩) ?_ ?_
           rotate_left
           ·intro w'
            go_simp
            with_reducible rfl
           rotate_left
           ·simp only [Act.put, zA, zB, zC, i64_w, i32_w]
            rfl
           refine pure_ (i := 11) (N := some 90) (v := ?_) (a' := ?_) (mb 12 3) rfl rfl (any_of HT_.out (by kernel_rfl)) (fun _ _ _ h => h) (Or.inl ⟨by rfl, ?_⟩) ?_ ?_
           rotate_left
           ·intro w'
            go_simp
            with_reducible rfl
           rotate_left
           ·simp only [Act.put, zA, zB, zC, i64_w, i32_w]
            rfl
           refine one_ (i := 12) (N := some 15) (mb 13 2) rfl rfl (one_of HT_.out (by kernel_rfl)) (by decide) (fun K hK => ?_)
           refine box_step ?hg (N := 15) ?hd (cs := #[.string (⟨#[]⟩ : ByteArray), .string (⟨#[]⟩ : ByteArray), .bool false]) (t := 33) ?hr ?_; (case hd => rfl); (case hg => rfl); (case hr => first | (go_simp; done) | (go_simp; rfl))
           intro gb367 hg w79 hbox hb
           have HS2_ := (hb.cell (World.block_lt_of_cell? _ _ (hHeld.2.2.1))).trans (hHeld.2.2.1)
           have HS3_ := (hb.cell (World.block_lt_of_cell? _ _ (hHeld.2.2.2.1))).trans (hHeld.2.2.2.1)
           have HS4_ := (hb.cell (World.block_lt_of_cell? _ _ (hHeld.2.2.2.2.1))).trans (hHeld.2.2.2.2.1)
           have HS5_ := (hb.cell (World.block_lt_of_cell? _ _ (hHeld.2.2.2.2.2))).trans (hHeld.2.2.2.2.2)
           have n0_ := mS (Kd.R_below (mR HO_341000.out) hb)
           have n1_ := mS (Kd.R_below (mR HO_347000.out) hb)
           have n2_ := mS (Kd.R_below (mR HO_352000.out) hb)
           have n3_ := mB BK340 hb
           have n4_ := mB BK341 hb
           have n5_ := mB BK346 hb
           have n6_ := mB BK351 hb
           have n7_ := mB BK356 hb
           have n8_ := mB BK361 hb
           have n9_ := mS (below_step (mH6 HB.out GE340.out GE341.out GE346.out GE351.out GE356.out GE361.out) hb)
           have n10_ := mS (hbox)
           have n11_ := mG hg (mH6 HB.out GE340.out GE341.out GE346.out GE351.out GE356.out GE361.out)
           have n12_ := mG hg (mH6 HB.out GE340.out GE341.out GE346.out GE351.out GE356.out GE361.out)
           have n13_ := mNl hg BK340.out
           have n14_ := mNg hg BK340.out
           have n15_ := mNl hg BK341.out
           have n16_ := mNg hg BK341.out
           have n17_ := mNl hg BK346.out
           have n18_ := mNg hg BK346.out
           have n19_ := mNl hg BK351.out
           have n20_ := mNg hg BK351.out
           have n21_ := mNl hg BK356.out
           have n22_ := mNg hg BK356.out
           have n23_ := mNl hg BK361.out
           have n24_ := mNg hg BK361.out
           clear HO_341000
           clear HO_347000
           clear HO_352000
           clear BK340
           clear BK341
           clear BK346
           clear BK351
           clear BK356
           clear BK361
           clear HB
           have HO_341000 := n0_
           have HO_347000 := n1_
           have HO_352000 := n2_
           have BK340 := n3_
           have BK341 := n4_
           have BK346 := n5_
           have BK351 := n6_
           have BK356 := n7_
           have BK361 := n8_
           have HB := n9_
           have BK367 := n10_
           have GW367 := n11_
           have GE367 := n12_
           have NB340_367 := n13_
           have NB367_340 := n14_
           have NB341_367 := n15_
           have NB367_341 := n16_
           have NB346_367 := n17_
           have NB367_346 := n18_
           have NB351_367 := n19_
           have NB367_351 := n20_
           have NB356_367 := n21_
           have NB367_356 := n22_
           have NB361_367 := n23_
           have NB367_361 := n24_
           clear n0_ n1_ n2_ n3_ n4_ n5_ n6_ n7_ n8_ n9_ n10_ n11_ n12_ n13_ n14_ n15_ n16_ n17_ n18_ n19_ n20_ n21_ n22_ n23_ n24_
           clear hb hbox hg
           refine hK.out _ _ ⟨mZ BK346.out 0, mZ BK340.out 0, HS2_, HS3_, HS4_, HS5_⟩ (fun hHeld => ?_)
           clear hK K
           refine norm_ (a' := ?_) ?_ ?_
           rotate_left
           ·show Act.put _ (some 15) _ = _
            simp only [Act.put, zA, zB, zC, i64_w, i32_w]
            rfl
           exact norm_ mU (hCont (gb367) _ ⟨hHeld, (mR HO_341000.out), (mR HO_347000.out), (mR HO_352000.out), (mK BK340.out), (mK BK341.out), (mK BK346.out), (mK BK351.out), (mK BK356.out), (mK BK361.out), (mK BK367.out), GW367.out, GE367.out, NB340_367.out, NB367_340.out, NB341_367.out, NB367_341.out, NB346_367.out, NB367_346.out, NB351_367.out, NB367_351.out, NB356_367.out, NB367_356.out, NB361_367.out, NB367_361.out, (mH7 HB.out GE340.out GE341.out GE346.out GE351.out GE356.out GE361.out GE367.out)⟩)
          ·skip
           refine box_step ?hg (N := 15) ?hd (cs := #[.string (⟨#[]⟩ : ByteArray), .string (⟨#[]⟩ : ByteArray), .bool false]) (t := 33) ?hr ?_; (case hd => rfl); (case hg => rfl); (case hr => first | (go_simp; done) | (go_simp; rfl))
           intro gb367 hg w78 hbox hb
           have HS2_ := (hb.cell (World.block_lt_of_cell? _ _ (hHeld.2.2.1))).trans (hHeld.2.2.1)
           have HS3_ := (hb.cell (World.block_lt_of_cell? _ _ (hHeld.2.2.2.1))).trans (hHeld.2.2.2.1)
           have HS4_ := (hb.cell (World.block_lt_of_cell? _ _ (hHeld.2.2.2.2.1))).trans (hHeld.2.2.2.2.1)
           have HS5_ := (hb.cell (World.block_lt_of_cell? _ _ (hHeld.2.2.2.2.2))).trans (hHeld.2.2.2.2.2)
           have n0_ := mS (Kd.R_below (mR HO_341000.out) hb)
           have n1_ := mS (Kd.R_below (mR HO_347000.out) hb)
           have n2_ := mS (Kd.R_below (mR HO_352000.out) hb)
           have n3_ := mB BK340 hb
           have n4_ := mB BK341 hb
           have n5_ := mB BK346 hb
           have n6_ := mB BK351 hb
           have n7_ := mB BK356 hb
           have n8_ := mB BK361 hb
           have n9_ := mS (below_step (mH6 HB.out GE340.out GE341.out GE346.out GE351.out GE356.out GE361.out) hb)
           have n10_ := mS (hbox)
           have n11_ := mG hg (mH6 HB.out GE340.out GE341.out GE346.out GE351.out GE356.out GE361.out)
           have n12_ := mG hg (mH6 HB.out GE340.out GE341.out GE346.out GE351.out GE356.out GE361.out)
           have n13_ := mNl hg BK340.out
           have n14_ := mNg hg BK340.out
           have n15_ := mNl hg BK341.out
           have n16_ := mNg hg BK341.out
           have n17_ := mNl hg BK346.out
           have n18_ := mNg hg BK346.out
           have n19_ := mNl hg BK351.out
           have n20_ := mNg hg BK351.out
           have n21_ := mNl hg BK356.out
           have n22_ := mNg hg BK356.out
           have n23_ := mNl hg BK361.out
           have n24_ := mNg hg BK361.out
           clear HO_341000
           clear HO_347000
           clear HO_352000
           clear BK340
           clear BK341
           clear BK346
           clear BK351
           clear BK356
           clear BK361
           clear HB
           have HO_341000 := n0_
           have HO_347000 := n1_
           have HO_352000 := n2_
           have BK340 := n3_
           have BK341 := n4_
           have BK346 := n5_
           have BK351 := n6_
           have BK356 := n7_
           have BK361 := n8_
           have HB := n9_
           have BK367 := n10_
           have GW367 := n11_
           have GE367 := n12_
           have NB340_367 := n13_
           have NB367_340 := n14_
           have NB341_367 := n15_
           have NB367_341 := n16_
           have NB346_367 := n17_
           have NB367_346 := n18_
           have NB351_367 := n19_
           have NB367_351 := n20_
           have NB356_367 := n21_
           have NB367_356 := n22_
           have NB361_367 := n23_
           have NB367_361 := n24_
           clear n0_ n1_ n2_ n3_ n4_ n5_ n6_ n7_ n8_ n9_ n10_ n11_ n12_ n13_ n14_ n15_ n16_ n17_ n18_ n19_ n20_ n21_ n22_ n23_ n24_
           clear hb hbox hg
           refine hK.out _ _ ⟨mZ BK346.out 0, mZ BK340.out 0, HS2_, HS3_, HS4_, HS5_⟩ (fun hHeld => ?_)
           clear hK K
           refine norm_ (a' := ?_) ?_ ?_
           rotate_left
           ·show Act.put _ (some 15) _ = _
            simp only [Act.put, zA, zB, zC, i64_w, i32_w]
            rfl
           refine one_ (i := 8) (N := some 88) #[true, true, true, true, true, true, true, true, true, false, false, false, true, false, false] rfl rfl (one_of HT_.out (by kernel_rfl)) (by decide) (fun K hK => ?_)
           refine goes_ Try.func22 (by kernel_rfl) rfl #[.agg #[.slice Ao17 t342.length co17], .string ((rd_T35 t333 x14_2).f0.f0)] (by rfl) rfl rfl mA ?_
           with_reducible refine (impl_MemGet.calls k2 _ _ t342 ((rd_T35 t333 x14_2).f0.f0) t363 t364 t365 t366 _ ?side1 ?side2 A69.out).mono ?_
           (case side1 => repeat (first | exact (Kd.R_reads' HO_347000.out).2.2 | (with_reducible refine Kd.C_alloc ?_ _) | (with_reducible refine Kd.C_drewN ?_ _) | (with_reducible refine Kd.C_drew ?_)))
           (case side2 => exact (Kd.R_reads' HO_347000.out).2.1)
           rintro e w79 ⟨rfl, hb⟩
           have HS2_ := (hb.cell (World.block_lt_of_cell? _ _ (hHeld.2.2.1))).trans (hHeld.2.2.1)
           have HS3_ := (hb.cell (World.block_lt_of_cell? _ _ (hHeld.2.2.2.1))).trans (hHeld.2.2.2.1)
           have HS4_ := (hb.cell (World.block_lt_of_cell? _ _ (hHeld.2.2.2.2.1))).trans (hHeld.2.2.2.2.1)
           have HS5_ := (hb.cell (World.block_lt_of_cell? _ _ (hHeld.2.2.2.2.2))).trans (hHeld.2.2.2.2.2)
           refine ⟨_, rfl, ?_⟩
           have n0_ := mS (Kd.R_below (mR HO_341000.out) hb)
           have n1_ := mS (Kd.R_below (mR HO_347000.out) hb)
           have n2_ := mS (Kd.R_below (mR HO_352000.out) hb)
           have n3_ := mB BK340 hb
           have n4_ := mB BK341 hb
           have n5_ := mB BK346 hb
           have n6_ := mB BK351 hb
           have n7_ := mB BK356 hb
           have n8_ := mB BK361 hb
           have n9_ := mB BK367 hb
           have n10_ := mS (below_step (mH7 HB.out GE340.out GE341.out GE346.out GE351.out GE356.out GE361.out GE367.out) hb)
           clear HO_341000
           clear HO_347000
           clear HO_352000
           clear BK340
           clear BK341
           clear BK346
           clear BK351
           clear BK356
           clear BK361
           clear BK367
           clear HB
           have HO_341000 := n0_
           have HO_347000 := n1_
           have HO_352000 := n2_
           have BK340 := n3_
           have BK341 := n4_
           have BK346 := n5_
           have BK351 := n6_
           have BK356 := n7_
           have BK361 := n8_
           have BK367 := n9_
           have HB := n10_
           clear n0_ n1_ n2_ n3_ n4_ n5_ n6_ n7_ n8_ n9_ n10_
           (try clear hb)
           (try clear hb2)
           (try clear hk)
           (try clear hi)
           refine hK.out _ _ ⟨mZ BK346.out 0, mZ BK340.out 0, HS2_, HS3_, HS4_, HS5_⟩ (fun hHeld => ?_)
           clear hK K
           refine norm_ (a' := ?_) ?_ ?_
           rotate_left
           ·show Act.put _ (some 88) _ = _
            simp only [Act.put, zA, zB, zC, i64_w, i32_w]
            rfl
           refine pure_ (i := 9) (N := some 79) (v := ?_) (a' := ?_) #[true, true, true, true, true, true, true, true, true, true, false, false, true, false, false] rfl rfl (any_of HT_.out (by kernel_rfl)) (fun _ _ _ h => h) (Or.inl ⟨by rfl, ?_⟩) ?_ ?_
           rotate_left
           ·intro w'
            go_simp
            with_reducible rfl
           rotate_left
           ·simp only [Act.put, zA, zB, zC, i64_w, i32_w]
            rfl
           refine pure_ (i := 10) (N := some 89) (v := ?_) (a' := ?_) #[true, true, true, true, true, true, true, true, true, true, true, false, true, false, false] rfl rfl (any_of HT_.out (by kernel_rfl)) (fun _ _ _ h => h) (Or.inl ⟨by rfl, ?_⟩) ?_ ?_
           rotate_left
           ·intro w'
            go_simp
            with_reducible rfl
           rotate_left
           ·simp only [Act.put, zA, zB, zC, i64_w, i32_w]
            rfl
           refine pure_ (i := 11) (N := some 90) (v := ?_) (a' := ?_) (mb 13 2) rfl rfl (any_of HT_.out (by kernel_rfl)) (fun _ _ _ h => h) (Or.inl ⟨by rfl, ?_⟩) ?_ ?_
           rotate_left
           ·intro w'
            go_simp
            with_reducible rfl
           rotate_left
           ·simp only [Act.put, zA, zB, zC, i64_w, i32_w]
            rfl
           exact norm_ mU (hCont (gb367) _ ⟨hHeld, (mR HO_341000.out), (mR HO_347000.out), (mR HO_352000.out), (mK BK340.out), (mK BK341.out), (mK BK346.out), (mK BK351.out), (mK BK356.out), (mK BK361.out), (mK BK367.out), GW367.out, GE367.out, NB340_367.out, NB367_340.out, NB341_367.out, NB367_341.out, NB346_367.out, NB367_346.out, NB351_367.out, NB367_351.out, NB356_367.out, NB367_356.out, NB361_367.out, NB367_361.out, (mH7 HB.out GE340.out GE341.out GE346.out GE351.out GE356.out GE361.out GE367.out)⟩)
         rintro gb367 w80 ⟨hS_, h0_, h1_, h2_, h3_, h4_, h5_, h6_, h7_, h8_, h9_, h10_, h11_, h12_, h13_, h14_, h15_, h16_, h17_, h18_, h19_, h20_, h21_, h22_, h23_, h24_⟩
         have n0_ : Aside0 (Kd.R k35 35 w80 w.heap.size (fun k_ => some k_ ≠ (.slice Ao17 t342.length co17 : Value).ownBlock ∧ some k_ ≠ (.slice Ao25 t347.length co25 : Value).ownBlock) (.slice (some ad362) t333.length co11) t333) := ⟨h0_⟩
         have n1_ : Aside0 (Kd.R k35 35 w80 w.heap.size (fun k_ => some k_ ≠ (.slice (some ad362) t333.length co11 : Value).ownBlock ∧ some k_ ≠ (.slice Ao25 t347.length co25 : Value).ownBlock) (.slice Ao17 t342.length co17) t342) := ⟨h1_⟩
         have n2_ : Aside0 (Kd.R k35 35 w80 w.heap.size (fun k_ => some k_ ≠ (.slice (some ad362) t333.length co11 : Value).ownBlock ∧ some k_ ≠ (.slice Ao17 t342.length co17 : Value).ownBlock) (.slice Ao25 t347.length co25) t347) := ⟨h2_⟩
         have n3_ : Aside0 (w80.heap[gb340]? = some (.cells #[.slice (some ad362) t333.length co11] 26 (0, 0))) := ⟨h3_⟩
         have n4_ : Aside0 (w80.heap[gb341]? = some (.cells #[.string t336, .string t337, .bool t338] 33 (0, 0))) := ⟨h4_⟩
         have n5_ : Aside0 (w80.heap[gb346]? = some (.cells #[.slice Ao17 t342.length co17] 26 (0, 0))) := ⟨h5_⟩
         have n6_ : Aside0 (w80.heap[gb351]? = some (.cells #[.slice Ao25 t347.length co25] 26 (0, 0))) := ⟨h6_⟩
         have n7_ : Aside0 (w80.heap[gb356]? = some (.cells #[.string t352, .string t353, .bool t354] 33 (0, 0))) := ⟨h7_⟩
         have n8_ : Aside0 (w80.heap[gb361]? = some (.cells #[.string t357, .string t358, .bool t359] 33 (0, 0))) := ⟨h8_⟩
         have n9_ : Aside0 (w80.heap[gb367]? = some (.cells #[.string (⟨#[]⟩ : ByteArray), .string (⟨#[]⟩ : ByteArray), .bool false] 33 (0, 0))) := ⟨h9_⟩
         have n10_ : Aside0 (w.heap.size ≤ gb367) := ⟨h10_⟩
         have n11_ : Aside0 (w.heap.size ≤ gb367) := ⟨h11_⟩
         have n12_ : Aside0 (gb340 ≠ gb367) := ⟨h12_⟩
         have n13_ : Aside0 (gb367 ≠ gb340) := ⟨h13_⟩
         have n14_ : Aside0 (gb341 ≠ gb367) := ⟨h14_⟩
         have n15_ : Aside0 (gb367 ≠ gb341) := ⟨h15_⟩
         have n16_ : Aside0 (gb346 ≠ gb367) := ⟨h16_⟩
         have n17_ : Aside0 (gb367 ≠ gb346) := ⟨h17_⟩
         have n18_ : Aside0 (gb351 ≠ gb367) := ⟨h18_⟩
         have n19_ : Aside0 (gb367 ≠ gb351) := ⟨h19_⟩
         have n20_ : Aside0 (gb356 ≠ gb367) := ⟨h20_⟩
         have n21_ : Aside0 (gb367 ≠ gb356) := ⟨h21_⟩
         have n22_ : Aside0 (gb361 ≠ gb367) := ⟨h22_⟩
         have n23_ : Aside0 (gb367 ≠ gb361) := ⟨h23_⟩
         have n24_ : Aside0 (Below w.heap.size w w80) := ⟨h24_⟩
         clear HO_341000
         clear HO_347000
         clear HO_352000
         clear BK340
         clear BK341
         clear BK346
         clear BK351
         clear BK356
         clear BK361
         clear HB
         clear h0_ h1_ h2_ h3_ h4_ h5_ h6_ h7_ h8_ h9_ h10_ h11_ h12_ h13_ h14_ h15_ h16_ h17_ h18_ h19_ h20_ h21_ h22_ h23_ h24_
         have HO_341000 := n0_
         have HO_347000 := n1_
         have HO_352000 := n2_
         have BK340 := n3_
         have BK341 := n4_
         have BK346 := n5_
         have BK351 := n6_
         have BK356 := n7_
         have BK361 := n8_
         have BK367 := n9_
         have GW367 := n10_
         have GE367 := n11_
         have NB340_367 := n12_
         have NB367_340 := n13_
         have NB341_367 := n14_
         have NB367_341 := n15_
         have NB346_367 := n16_
         have NB367_346 := n17_
         have NB351_367 := n18_
         have NB367_351 := n19_
         have NB356_367 := n20_
         have NB367_356 := n21_
         have NB361_367 := n22_
         have NB367_361 := n23_
         have HB := n24_
         clear n0_ n1_ n2_ n3_ n4_ n5_ n6_ n7_ n8_ n9_ n10_ n11_ n12_ n13_ n14_ n15_ n16_ n17_ n18_ n19_ n20_ n21_ n22_ n23_ n24_
         have hHeld : w80.cell? ⟨gb346, 0, none⟩ = some (.slice Ao17 t342.length co17) ∧ w80.cell? ⟨gb340, 0, none⟩ = some (.slice (some ad362) t333.length co11) ∧ w80.cell? (ad362.add ((x14_2).toNat * 4)) = some (.string ((rd_T35 t333 x14_2).f0.f0)) ∧ w80.cell? ⟨(ad362.add ((x14_2).toNat * 4)).block, (ad362.add ((x14_2).toNat * 4)).off + 1, none⟩ = some (.string ((rd_T35 t333 x14_2).f0.f1)) ∧ w80.cell? ⟨(ad362.add ((x14_2).toNat * 4)).block, (ad362.add ((x14_2).toNat * 4)).off + 2, none⟩ = some (.bool ((rd_T35 t333 x14_2).f0.f2)) ∧ w80.cell? ⟨(ad362.add ((x14_2).toNat * 4)).block, (ad362.add ((x14_2).toNat * 4)).off + 3, none⟩ = some (.int .i64 ((rd_T35 t333 x14_2).f1)) := hS_
         refine norm_ (a' := ?_) ?_ ?_
         rotate_left
         ·simp only [putAll, Act.put, zA, zB, zC]
          rfl
         refine one_ (i := 13) (N := none) (mb 14 1) rfl rfl (one_of HT_.out (by kernel_rfl)) (by decide) (fun K hK => ?_)
         have hs81 : w80.cell? ⟨gb367, 0, none⟩ = some (.string (⟨#[]⟩ : ByteArray)) := mZ BK367.out 0
         have hfs81 := blk_frozen BK367.out 0
         have hns81_0 := NB340_367.out
         have hns81_1 := NB341_367.out
         have hns81_2 := NB346_367.out
         have hns81_3 := NB351_367.out
         have hns81_4 := NB356_367.out
         have hns81_5 := NB361_367.out
         have hms81_0 := NB367_340.out
         have hms81_1 := NB367_341.out
         have hms81_2 := NB367_346.out
         have hms81_3 := NB367_351.out
         have hms81_4 := NB367_356.out
         have hms81_5 := NB367_361.out
         have hs82 : w80.cell? ⟨gb367, 1, none⟩ = some (.string (⟨#[]⟩ : ByteArray)) := mZ BK367.out 1
         have hfs82 := blk_frozen BK367.out 1
         have hns82_0 := NB340_367.out
         have hns82_1 := NB341_367.out
         have hns82_2 := NB346_367.out
         have hns82_3 := NB351_367.out
         have hns82_4 := NB356_367.out
         have hns82_5 := NB361_367.out
         have hms82_0 := NB367_340.out
         have hms82_1 := NB367_341.out
         have hms82_2 := NB367_346.out
         have hms82_3 := NB367_351.out
         have hms82_4 := NB367_356.out
         have hms82_5 := NB367_361.out
         have hs83 : w80.cell? ⟨gb367, 2, none⟩ = some (.bool false) := mZ BK367.out 2
         have hfs83 := blk_frozen BK367.out 2
         have hns83_0 := NB340_367.out
         have hns83_1 := NB341_367.out
         have hns83_2 := NB346_367.out
         have hns83_3 := NB351_367.out
         have hns83_4 := NB356_367.out
         have hns83_5 := NB361_367.out
         have hms83_0 := NB367_340.out
         have hms83_1 := NB367_341.out
         have hms83_2 := NB367_346.out
         have hms83_3 := NB367_351.out
         have hms83_4 := NB367_356.out
         have hms83_5 := NB367_361.out
         refine skip_ (w1 := ?_) (by rfl) rfl ?_ ?_
         rotate_left
         ·go_simp
          rfl
         refine hK.out _ _ ⟨((cell_far (p := ⟨gb367, _, none⟩) NB346_367.out _).trans (((cell_far (p := ⟨gb367, _, none⟩) NB346_367.out _).trans (((cell_far (p := ⟨gb367, _, none⟩) NB346_367.out _).trans (hHeld.1)))))), ((cell_far (p := ⟨gb367, _, none⟩) NB340_367.out _).trans (((cell_far (p := ⟨gb367, _, none⟩) NB340_367.out _).trans (((cell_far (p := ⟨gb367, _, none⟩) NB340_367.out _).trans (hHeld.2.1)))))), ((cell_far (p := ⟨gb367, _, none⟩) (by first | exact Kd.own_blk (Kd.R_ne HO_341000.out BK367.out (by decide)) | (rw [add_block]; exact Kd.own_blk (Kd.R_ne HO_341000.out BK367.out (by decide))) | (show (Addr.add _ _).block ≠ _; rw [add_block]; exact Kd.own_blk (Kd.R_ne HO_341000.out BK367.out (by decide))) | (dsimp only; exact Kd.own_blk (Kd.R_ne HO_341000.out BK367.out (by decide)))) _).trans (((cell_far (p := ⟨gb367, _, none⟩) (by first | exact Kd.own_blk (Kd.R_ne HO_341000.out BK367.out (by decide)) | (rw [add_block]; exact Kd.own_blk (Kd.R_ne HO_341000.out BK367.out (by decide))) | (show (Addr.add _ _).block ≠ _; rw [add_block]; exact Kd.own_blk (Kd.R_ne HO_341000.out BK367.out (by decide))) | (dsimp only; exact Kd.own_blk (Kd.R_ne HO_341000.out BK367.out (by decide)))) _).trans (((cell_far (p := ⟨gb367, _, none⟩) (by first | exact Kd.own_blk (Kd.R_ne HO_341000.out BK367.out (by decide)) | (rw [add_block]; exact Kd.own_blk (Kd.R_ne HO_341000.out BK367.out (by decide))) | (show (Addr.add _ _).block ≠ _; rw [add_block]; exact Kd.own_blk (Kd.R_ne HO_341000.out BK367.out (by decide))) | (dsimp only; exact Kd.own_blk (Kd.R_ne HO_341000.out BK367.out (by decide)))) _).trans (hHeld.2.2.1)))))), ((cell_far (p := ⟨gb367, _, none⟩) (by first | exact Kd.own_blk (Kd.R_ne HO_341000.out BK367.out (by decide)) | (rw [add_block]; exact Kd.own_blk (Kd.R_ne HO_341000.out BK367.out (by decide))) | (show (Addr.add _ _).block ≠ _; rw [add_block]; exact Kd.own_blk (Kd.R_ne HO_341000.out BK367.out (by decide))) | (dsimp only; exact Kd.own_blk (Kd.R_ne HO_341000.out BK367.out (by decide)))) _).trans (((cell_far (p := ⟨gb367, _, none⟩) (by first | exact Kd.own_blk (Kd.R_ne HO_341000.out BK367.out (by decide)) | (rw [add_block]; exact Kd.own_blk (Kd.R_ne HO_341000.out BK367.out (by decide))) | (show (Addr.add _ _).block ≠ _; rw [add_block]; exact Kd.own_blk (Kd.R_ne HO_341000.out BK367.out (by decide))) | (dsimp only; exact Kd.own_blk (Kd.R_ne HO_341000.out BK367.out (by decide)))) _).trans (((cell_far (p := ⟨gb367, _, none⟩) (by first | exact Kd.own_blk (Kd.R_ne HO_341000.out BK367.out (by decide)) | (rw [add_block]; exact Kd.own_blk (Kd.R_ne HO_341000.out BK367.out (by decide))) | (show (Addr.add _ _).block ≠ _; rw [add_block]; exact Kd.own_blk (Kd.R_ne HO_341000.out BK367.out (by decide))) | (dsimp only; exact Kd.own_blk (Kd.R_ne HO_341000.out BK367.out (by decide)))) _).trans (hHeld.2.2.2.1)))))), ((cell_far (p := ⟨gb367, _, none⟩) (by first | exact Kd.own_blk (Kd.R_ne HO_341000.out BK367.out (by decide)) | (rw [add_block]; exact Kd.own_blk (Kd.R_ne HO_341000.out BK367.out (by decide))) | (show (Addr.add _ _).block ≠ _; rw [add_block]; exact Kd.own_blk (Kd.R_ne HO_341000.out BK367.out (by decide))) | (dsimp only; exact Kd.own_blk (Kd.R_ne HO_341000.out BK367.out (by decide)))) _).trans (((cell_far (p := ⟨gb367, _, none⟩) (by first | exact Kd.own_blk (Kd.R_ne HO_341000.out BK367.out (by decide)) | (rw [add_block]; exact Kd.own_blk (Kd.R_ne HO_341000.out BK367.out (by decide))) | (show (Addr.add _ _).block ≠ _; rw [add_block]; exact Kd.own_blk (Kd.R_ne HO_341000.out BK367.out (by decide))) | (dsimp only; exact Kd.own_blk (Kd.R_ne HO_341000.out BK367.out (by decide)))) _).trans (((cell_far (p := ⟨gb367, _, none⟩) (by first | exact Kd.own_blk (Kd.R_ne HO_341000.out BK367.out (by decide)) | (rw [add_block]; exact Kd.own_blk (Kd.R_ne HO_341000.out BK367.out (by decide))) | (show (Addr.add _ _).block ≠ _; rw [add_block]; exact Kd.own_blk (Kd.R_ne HO_341000.out BK367.out (by decide))) | (dsimp only; exact Kd.own_blk (Kd.R_ne HO_341000.out BK367.out (by decide)))) _).trans (hHeld.2.2.2.2.1)))))), ((cell_far (p := ⟨gb367, _, none⟩) (by first | exact Kd.own_blk (Kd.R_ne HO_341000.out BK367.out (by decide)) | (rw [add_block]; exact Kd.own_blk (Kd.R_ne HO_341000.out BK367.out (by decide))) | (show (Addr.add _ _).block ≠ _; rw [add_block]; exact Kd.own_blk (Kd.R_ne HO_341000.out BK367.out (by decide))) | (dsimp only; exact Kd.own_blk (Kd.R_ne HO_341000.out BK367.out (by decide)))) _).trans (((cell_far (p := ⟨gb367, _, none⟩) (by first | exact Kd.own_blk (Kd.R_ne HO_341000.out BK367.out (by decide)) | (rw [add_block]; exact Kd.own_blk (Kd.R_ne HO_341000.out BK367.out (by decide))) | (show (Addr.add _ _).block ≠ _; rw [add_block]; exact Kd.own_blk (Kd.R_ne HO_341000.out BK367.out (by decide))) | (dsimp only; exact Kd.own_blk (Kd.R_ne HO_341000.out BK367.out (by decide)))) _).trans (((cell_far (p := ⟨gb367, _, none⟩) (by first | exact Kd.own_blk (Kd.R_ne HO_341000.out BK367.out (by decide)) | (rw [add_block]; exact Kd.own_blk (Kd.R_ne HO_341000.out BK367.out (by decide))) | (show (Addr.add _ _).block ≠ _; rw [add_block]; exact Kd.own_blk (Kd.R_ne HO_341000.out BK367.out (by decide))) | (dsimp only; exact Kd.own_blk (Kd.R_ne HO_341000.out BK367.out (by decide)))) _).trans (hHeld.2.2.2.2.2))))))⟩ (fun hHeld => ?_)
         clear hK K
         refine pure_ (i := 14) (N := some 16) (v := ?_) (a' := ?_) (mb 15 0) rfl rfl (any_of HT_.out (by kernel_rfl)) (fun _ _ _ h => h) (Or.inl ⟨by rfl, ?_⟩) ?_ ?_
         rotate_left
         ·intro w'
          go_simp
          with_reducible rfl
         rotate_left
         ·simp only [Act.put, zA, zB, zC, i64_w, i32_w]
          rfl
         refine done_ (done_of HT_.out (by kernel_rfl)) ?_
         go_upto_region 14 with (fail)
         go_cut [114] (fun v114 wc => ∃ (kq : Nat) (x114_69 : Bool), v114 = .bool x114_69 ∧ Aside0 (laws_FnMem.j2 kq t355 t360 x14_2 x114_69 t333 t336 t337 t338 t342 t352 t353 t354 = some r) ∧ Aside0 (kq ≤ k2) ∧ Aside0 (Kd.R k35 35 wc w.heap.size (fun k_ => some k_ ≠ ((.slice Ao17 t342.length co17) : Value).ownBlock ∧ some k_ ≠ ((.slice Ao25 t347.length co25) : Value).ownBlock) (.slice (some ad362) t333.length co11) t333) ∧ Aside0 (Kd.R k35 35 wc w.heap.size (fun k_ => some k_ ≠ ((.slice (some ad362) t333.length co11) : Value).ownBlock ∧ some k_ ≠ ((.slice Ao25 t347.length co25) : Value).ownBlock) (.slice Ao17 t342.length co17) t342) ∧ Aside0 (Kd.R k35 35 wc w.heap.size (fun k_ => some k_ ≠ ((.slice (some ad362) t333.length co11) : Value).ownBlock ∧ some k_ ≠ ((.slice Ao17 t342.length co17) : Value).ownBlock) (.slice Ao25 t347.length co25) t347) ∧ Aside0 (wc.heap[gb340]? = some (.cells #[(.slice (some ad362) t333.length co11)] 26 (0, 0))) ∧ Aside0 (wc.heap[gb341]? = some (.cells #[.string t336, .string t337, .bool t338] 33 (0, 0))) ∧ Aside0 (wc.heap[gb346]? = some (.cells #[(.slice Ao17 t342.length co17)] 26 (0, 0))) ∧ Aside0 (wc.heap[gb351]? = some (.cells #[(.slice Ao25 t347.length co25)] 26 (0, 0))) ∧ Aside0 (wc.heap[gb356]? = some (.cells #[.string t352, .string t353, .bool t354] 33 (0, 0))) ∧ Aside0 (wc.heap[gb361]? = some (.cells #[.string t357, .string t358, .bool t359] 33 (0, 0))) ∧ Aside0 (wc.heap[gb367]? = some (.cells #[.string t363, .string t364, .bool t365] 33 (0, 0))) ∧ Aside0 (Below w.heap.size w wc))
         case first =>
          have H := HC70.out
          clear HC70
          by_cases c84 : t366 = true
          ·subst c84
           have H1 : (if ((rd_T35 t333 x14_2).f0.f0).toList = t336.toList then (laws_FnMem.j2 k2 t355 t360 x14_2 false t333 t336 t337 t338 t342 t352 t353 t354) else (laws_FnMem.j2 k2 t355 t360 x14_2 (!(t363.toList == (((rd_T35 t333 x14_2).f0.f0).toList)) || (!(t364.toList == (((rd_T35 t333 x14_2).f0.f1).toList)) || (!(t365 == ((rd_T35 t333 x14_2).f0.f2))))) t333 t336 t337 t338 t342 t352 t353 t354)) = some r := by rw [if_pos rfl] at H; exact H
           clear H
           have H := H1
           clear H1
           by_cases c85 : ((rd_T35 t333 x14_2).f0.f0).toList = t336.toList
           ·rw [if_pos c85] at H
            have c85b0 : (((rd_T35 t333 x14_2).f0.f0).toList == t336.toList) = true := beq_iff_eq.mpr c85
            have c85b1 : (((rd_T35 t333 x14_2).f0.f0).toList != t336.toList) = false := bne_eq_false_iff_eq.mpr c85
            clear c85
            (first | rw [c85b0] | (simp only [i64_w, i32_w]; rw [c85b0]) | skip)
            have H' := mS H
            clear H
            try go_wp2
            have n0_ : Aside0 (Kd.R k35 35 (((w80.setCell ⟨gb367, 0, none⟩ (.string t363)).setCell ⟨gb367, 1, none⟩ (.string t364)).setCell ⟨gb367, 2, none⟩ (.bool t365)) w.heap.size (fun k_ => some k_ ≠ (.slice Ao17 t342.length co17 : Value).ownBlock ∧ some k_ ≠ (.slice Ao25 t347.length co25 : Value).ownBlock) (.slice (some ad362) t333.length co11) t333) := ⟨by (with_reducible repeat (first | apply Kd.R_alloc | apply Kd.R_drewN | apply Kd.R_drew)); exact Kd.R_mono (Kd.R_far (p := ⟨gb367, 2, none⟩) (Kd.R_far (p := ⟨gb367, 1, none⟩) (Kd.R_far (p := ⟨gb367, 0, none⟩) (Kd.R_types HO_341000.out BK367.out (by decide)) (fun _ hk => hk.2) (.string t363)) (fun _ hk => hk.2) (.string t364)) (fun _ hk => hk.2) (.bool t365)) (fun _ hk => ⟨hk.1.1, hk.1.2⟩)⟩
            have n1_ : Aside0 (Kd.R k35 35 (((w80.setCell ⟨gb367, 0, none⟩ (.string t363)).setCell ⟨gb367, 1, none⟩ (.string t364)).setCell ⟨gb367, 2, none⟩ (.bool t365)) w.heap.size (fun k_ => some k_ ≠ (.slice (some ad362) t333.length co11 : Value).ownBlock ∧ some k_ ≠ (.slice Ao25 t347.length co25 : Value).ownBlock) (.slice Ao17 t342.length co17) t342) := ⟨by (with_reducible repeat (first | apply Kd.R_alloc | apply Kd.R_drewN | apply Kd.R_drew)); exact Kd.R_mono (Kd.R_far (p := ⟨gb367, 2, none⟩) (Kd.R_far (p := ⟨gb367, 1, none⟩) (Kd.R_far (p := ⟨gb367, 0, none⟩) (Kd.R_types HO_347000.out BK367.out (by decide)) (fun _ hk => hk.2) (.string t363)) (fun _ hk => hk.2) (.string t364)) (fun _ hk => hk.2) (.bool t365)) (fun _ hk => ⟨hk.1.1, hk.1.2⟩)⟩
            have n2_ : Aside0 (Kd.R k35 35 (((w80.setCell ⟨gb367, 0, none⟩ (.string t363)).setCell ⟨gb367, 1, none⟩ (.string t364)).setCell ⟨gb367, 2, none⟩ (.bool t365)) w.heap.size (fun k_ => some k_ ≠ (.slice (some ad362) t333.length co11 : Value).ownBlock ∧ some k_ ≠ (.slice Ao17 t342.length co17 : Value).ownBlock) (.slice Ao25 t347.length co25) t347) := ⟨by (with_reducible repeat (first | apply Kd.R_alloc | apply Kd.R_drewN | apply Kd.R_drew)); exact Kd.R_mono (Kd.R_far (p := ⟨gb367, 2, none⟩) (Kd.R_far (p := ⟨gb367, 1, none⟩) (Kd.R_far (p := ⟨gb367, 0, none⟩) (Kd.R_types HO_352000.out BK367.out (by decide)) (fun _ hk => hk.2) (.string t363)) (fun _ hk => hk.2) (.string t364)) (fun _ hk => hk.2) (.bool t365)) (fun _ hk => ⟨hk.1.1, hk.1.2⟩)⟩
            have n3_ : Aside0 ((((w80.setCell ⟨gb367, 0, none⟩ (.string t363)).setCell ⟨gb367, 1, none⟩ (.string t364)).setCell ⟨gb367, 2, none⟩ (.bool t365)).heap[gb340]? = some (.cells #[.slice (some ad362) t333.length co11] 26 (0, 0))) := ⟨by (with_reducible repeat (first | refine blk_drewN ?_ _ | refine blk_drew ?_ | refine blk_alloc ?_ _)); refine blk_far ?_ NB340_367.out _; (with_reducible repeat (first | refine blk_drewN ?_ _ | refine blk_drew ?_ | refine blk_alloc ?_ _)); refine blk_far ?_ NB340_367.out _; (with_reducible repeat (first | refine blk_drewN ?_ _ | refine blk_drew ?_ | refine blk_alloc ?_ _)); refine blk_far ?_ NB340_367.out _; (with_reducible repeat (first | refine blk_drewN ?_ _ | refine blk_drew ?_ | refine blk_alloc ?_ _)); exact BK340.out⟩
            have n4_ : Aside0 ((((w80.setCell ⟨gb367, 0, none⟩ (.string t363)).setCell ⟨gb367, 1, none⟩ (.string t364)).setCell ⟨gb367, 2, none⟩ (.bool t365)).heap[gb341]? = some (.cells #[.string t336, .string t337, .bool t338] 33 (0, 0))) := ⟨by (with_reducible repeat (first | refine blk_drewN ?_ _ | refine blk_drew ?_ | refine blk_alloc ?_ _)); refine blk_far ?_ NB341_367.out _; (with_reducible repeat (first | refine blk_drewN ?_ _ | refine blk_drew ?_ | refine blk_alloc ?_ _)); refine blk_far ?_ NB341_367.out _; (with_reducible repeat (first | refine blk_drewN ?_ _ | refine blk_drew ?_ | refine blk_alloc ?_ _)); refine blk_far ?_ NB341_367.out _; (with_reducible repeat (first | refine blk_drewN ?_ _ | refine blk_drew ?_ | refine blk_alloc ?_ _)); exact BK341.out⟩
            have n5_ : Aside0 ((((w80.setCell ⟨gb367, 0, none⟩ (.string t363)).setCell ⟨gb367, 1, none⟩ (.string t364)).setCell ⟨gb367, 2, none⟩ (.bool t365)).heap[gb346]? = some (.cells #[.slice Ao17 t342.length co17] 26 (0, 0))) := ⟨by (with_reducible repeat (first | refine blk_drewN ?_ _ | refine blk_drew ?_ | refine blk_alloc ?_ _)); refine blk_far ?_ NB346_367.out _; (with_reducible repeat (first | refine blk_drewN ?_ _ | refine blk_drew ?_ | refine blk_alloc ?_ _)); refine blk_far ?_ NB346_367.out _; (with_reducible repeat (first | refine blk_drewN ?_ _ | refine blk_drew ?_ | refine blk_alloc ?_ _)); refine blk_far ?_ NB346_367.out _; (with_reducible repeat (first | refine blk_drewN ?_ _ | refine blk_drew ?_ | refine blk_alloc ?_ _)); exact BK346.out⟩
            have n6_ : Aside0 ((((w80.setCell ⟨gb367, 0, none⟩ (.string t363)).setCell ⟨gb367, 1, none⟩ (.string t364)).setCell ⟨gb367, 2, none⟩ (.bool t365)).heap[gb351]? = some (.cells #[.slice Ao25 t347.length co25] 26 (0, 0))) := ⟨by (with_reducible repeat (first | refine blk_drewN ?_ _ | refine blk_drew ?_ | refine blk_alloc ?_ _)); refine blk_far ?_ NB351_367.out _; (with_reducible repeat (first | refine blk_drewN ?_ _ | refine blk_drew ?_ | refine blk_alloc ?_ _)); refine blk_far ?_ NB351_367.out _; (with_reducible repeat (first | refine blk_drewN ?_ _ | refine blk_drew ?_ | refine blk_alloc ?_ _)); refine blk_far ?_ NB351_367.out _; (with_reducible repeat (first | refine blk_drewN ?_ _ | refine blk_drew ?_ | refine blk_alloc ?_ _)); exact BK351.out⟩
            have n7_ : Aside0 ((((w80.setCell ⟨gb367, 0, none⟩ (.string t363)).setCell ⟨gb367, 1, none⟩ (.string t364)).setCell ⟨gb367, 2, none⟩ (.bool t365)).heap[gb356]? = some (.cells #[.string t352, .string t353, .bool t354] 33 (0, 0))) := ⟨by (with_reducible repeat (first | refine blk_drewN ?_ _ | refine blk_drew ?_ | refine blk_alloc ?_ _)); refine blk_far ?_ NB356_367.out _; (with_reducible repeat (first | refine blk_drewN ?_ _ | refine blk_drew ?_ | refine blk_alloc ?_ _)); refine blk_far ?_ NB356_367.out _; (with_reducible repeat (first | refine blk_drewN ?_ _ | refine blk_drew ?_ | refine blk_alloc ?_ _)); refine blk_far ?_ NB356_367.out _; (with_reducible repeat (first | refine blk_drewN ?_ _ | refine blk_drew ?_ | refine blk_alloc ?_ _)); exact BK356.out⟩
            have n8_ : Aside0 ((((w80.setCell ⟨gb367, 0, none⟩ (.string t363)).setCell ⟨gb367, 1, none⟩ (.string t364)).setCell ⟨gb367, 2, none⟩ (.bool t365)).heap[gb361]? = some (.cells #[.string t357, .string t358, .bool t359] 33 (0, 0))) := ⟨by (with_reducible repeat (first | refine blk_drewN ?_ _ | refine blk_drew ?_ | refine blk_alloc ?_ _)); refine blk_far ?_ NB361_367.out _; (with_reducible repeat (first | refine blk_drewN ?_ _ | refine blk_drew ?_ | refine blk_alloc ?_ _)); refine blk_far ?_ NB361_367.out _; (with_reducible repeat (first | refine blk_drewN ?_ _ | refine blk_drew ?_ | refine blk_alloc ?_ _)); refine blk_far ?_ NB361_367.out _; (with_reducible repeat (first | refine blk_drewN ?_ _ | refine blk_drew ?_ | refine blk_alloc ?_ _)); exact BK361.out⟩
            have n9_ : Aside0 ((((w80.setCell ⟨gb367, 0, none⟩ (.string t363)).setCell ⟨gb367, 1, none⟩ (.string t364)).setCell ⟨gb367, 2, none⟩ (.bool t365)).heap[gb367]? = some (.cells #[.string t363, .string t364, .bool t365] 33 (0, 0))) := ⟨by (with_reducible repeat (first | refine blk_drewN ?_ _ | refine blk_drew ?_ | refine blk_alloc ?_ _)); refine blk_put (cs := #[.string t363, .string t364, .bool false]) ?_ 2 _ rfl; (with_reducible repeat (first | refine blk_drewN ?_ _ | refine blk_drew ?_ | refine blk_alloc ?_ _)); refine blk_put (cs := #[.string t363, .string (⟨#[]⟩ : ByteArray), .bool false]) ?_ 1 _ rfl; (with_reducible repeat (first | refine blk_drewN ?_ _ | refine blk_drew ?_ | refine blk_alloc ?_ _)); refine blk_put (cs := #[.string (⟨#[]⟩ : ByteArray), .string (⟨#[]⟩ : ByteArray), .bool false]) ?_ 0 _ rfl; (with_reducible repeat (first | refine blk_drewN ?_ _ | refine blk_drew ?_ | refine blk_alloc ?_ _)); exact BK367.out⟩
            have n10_ : Aside0 (Below w.heap.size w (((w80.setCell ⟨gb367, 0, none⟩ (.string t363)).setCell ⟨gb367, 1, none⟩ (.string t364)).setCell ⟨gb367, 2, none⟩ (.bool t365))) := ⟨(mH7 HB.out GE340.out GE341.out GE346.out GE351.out GE356.out GE361.out GE367.out)⟩
            (try clear HO_341000)
            (try clear HO_347000)
            (try clear HO_352000)
            (try clear BK340)
            (try clear BK341)
            (try clear BK346)
            (try clear BK351)
            (try clear BK356)
            (try clear BK361)
            (try clear BK367)
            (try clear HB)
            generalize (((w80.setCell ⟨gb367, 0, none⟩ (.string t363)).setCell ⟨gb367, 1, none⟩ (.string t364)).setCell ⟨gb367, 2, none⟩ (.bool t365)) = w86 at n0_ n1_ n2_ n3_ n4_ n5_ n6_ n7_ n8_ n9_ n10_ ⊢
            have HO_341000 := n0_
            have HO_347000 := n1_
            have HO_352000 := n2_
            have BK340 := n3_
            have BK341 := n4_
            have BK346 := n5_
            have BK351 := n6_
            have BK356 := n7_
            have BK361 := n8_
            have BK367 := n9_
            have HB := n10_
            clear n0_ n1_ n2_ n3_ n4_ n5_ n6_ n7_ n8_ n9_ n10_
            have n0_ := mS (Kd.R_drew HO_341000.out)
            have n1_ := mS (Kd.R_drew HO_347000.out)
            have n2_ := mS (Kd.R_drew HO_352000.out)
            have n3_ := mS (blk_drew BK340.out)
            have n4_ := mS (blk_drew BK341.out)
            have n5_ := mS (blk_drew BK346.out)
            have n6_ := mS (blk_drew BK351.out)
            have n7_ := mS (blk_drew BK356.out)
            have n8_ := mS (blk_drew BK361.out)
            have n9_ := mS (blk_drew BK367.out)
            have n10_ := mS (below_drew1 HB.out)
            clear HO_341000
            clear HO_347000
            clear HO_352000
            clear BK340
            clear BK341
            clear BK346
            clear BK351
            clear BK356
            clear BK361
            clear BK367
            clear HB
            have HO_341000 := n0_
            have HO_347000 := n1_
            have HO_352000 := n2_
            have BK340 := n3_
            have BK341 := n4_
            have BK346 := n5_
            have BK351 := n6_
            have BK356 := n7_
            have BK361 := n8_
            have BK367 := n9_
            have HB := n10_
            clear n0_ n1_ n2_ n3_ n4_ n5_ n6_ n7_ n8_ n9_ n10_
            have p368 : 0 ≤ (x14_2 : Int) := of_decide_eq_true (by first | (with_reducible assumption) | assumption)
            have q368 : x14_2 < (t333.length : Int) := of_decide_eq_true (by first | (with_reducible assumption) | assumption)
            obtain ⟨ad368, e368, hx368_0, hx368_1, hx368_2, hx368_3⟩ := at_T35 (Kd.R_reads' HO_341000.out).2.2 x14_2 p368 q368
            obtain rfl : ad362 = ad368 := (by injection e368)
            replace p368 := eq_true p368
            replace q368 := eq_true q368
            refine start_ (n := 24) (S := fun w' => w'.cell? ⟨gb340, 0, none⟩ = some (.slice (some ad362) t333.length co11) ∧ w'.cell? ⟨gb341, 0, none⟩ = some (.string t336) ∧ w'.cell? ⟨gb341, 1, none⟩ = some (.string t337) ∧ w'.cell? ⟨gb341, 2, none⟩ = some (.bool t338) ∧ w'.cell? (ad362.add ((x14_2).toNat * 4)) = some (.string ((rd_T35 t333 x14_2).f0.f0)) ∧ w'.cell? ⟨(ad362.add ((x14_2).toNat * 4)).block, (ad362.add ((x14_2).toNat * 4)).off + 1, none⟩ = some (.string ((rd_T35 t333 x14_2).f0.f1)) ∧ w'.cell? ⟨(ad362.add ((x14_2).toNat * 4)).block, (ad362.add ((x14_2).toNat * 4)).off + 2, none⟩ = some (.bool ((rd_T35 t333 x14_2).f0.f2)) ∧ w'.cell? ⟨(ad362.add ((x14_2).toNat * 4)).block, (ad362.add ((x14_2).toNat * 4)).off + 3, none⟩ = some (.int .i64 ((rd_T35 t333 x14_2).f1))) (ds := []) (mb 0 24) (by kernel_rfl) rfl rfl ⟨mZ BK340.out 0, mZ BK341.out 0, mZ BK341.out 1, mZ BK341.out 2, hx368_0, hx368_1, hx368_2, hx368_3⟩ (fun hHeld => ?_); refine with_tabW laws_FnMem.tab14 laws_FnMem.bits14 (fun HT_ HW_ => ?_)
            generalize w86.drew = w87 at HO_341000 HO_347000 HO_352000 BK340 BK341 BK346 BK351 BK356 BK361 BK367 HB hx368_0 hx368_1 hx368_2 hx368_3 hHeld ⊢
            refine pure_ (i := 0) (N := some 91) (v := ?_) (a' := ?_) (mb 1 23) rfl rfl (any_of HT_.out (by kernel_rfl)) (fun _ _ _ h => h) (Or.inl ⟨by rfl, ?_⟩) ?_ ?_
            rotate_left
            ·intro w'
             go_simp
             with_reducible rfl
            rotate_left
            ·simp only [Act.put, zA, zB, zC, i64_w, i32_w]
             rfl
            refine pure_ (i := 1) (N := some 92) (v := ?_) (a' := ?_) (mb 2 22) rfl rfl (any_of HT_.out (by kernel_rfl)) (fun _ _ _ h => h) (Or.inl ⟨by rfl, ?_⟩) ?_ ?_
            rotate_left
            ·intro w'
             go_simp
             with_reducible rfl
            rotate_left
            ·simp only [Act.put, zA, zB, zC, i64_w, i32_w]
             rfl
            refine pure_ (i := 2) (N := some 93) (v := ?_) (a' := ?_) (mb 3 21) rfl rfl (any_of HT_.out (by kernel_rfl)) (fun _ _ _ h => h) (Or.inl ⟨by rfl, ?_⟩) ?_ ?_
            rotate_left
            ·intro w'
             go_simp
             with_reducible rfl
            rotate_left
            ·simp only [Act.put, zA, zB, zC, i64_w, i32_w]
             rfl
            refine pure_ (i := 3) (N := some 94) (v := ?_) (a' := ?_) (mb 4 20) rfl rfl (any_of HT_.out (by kernel_rfl)) (fun _ _ _ h => h) (Or.inl ⟨by rfl, ?_⟩) ?_ ?_
            rotate_left
            ·intro w'
             go_simp
             with_reducible rfl
            rotate_left
            ·simp only [Act.put, zA, zB, zC, i64_w, i32_w]
             rfl
            refine pure_ (i := 5) (N := some 96) (v := ?_) (a' := ?_) #[true, true, true, true, false, true, false, false, false, false, false, false, false, false, false, false, false, false, false, false, false, false, false, false] rfl rfl (any_of HT_.out (by kernel_rfl)) (fun _ _ _ h => h) (Or.inl ⟨by rfl, ?_⟩) ?_ ?_
            rotate_left
            ·intro w'
             go_simp
             with_reducible rfl
            rotate_left
            ·simp only [Act.put, zA, zB, zC, i64_w, i32_w]
             rfl
            refine pure_ (i := 10) (N := some 101) (v := ?_) (a' := ?_) #[true, true, true, true, false, true, false, false, false, false, true, false, false, false, false, false, false, false, false, false, false, false, false, false] rfl rfl (any_of HT_.out (by kernel_rfl)) (fun _ _ _ h => h) (Or.inl ⟨by rfl, ?_⟩) ?_ ?_
            rotate_left
            ·intro w'
             go_simp
             with_reducible rfl
            rotate_left
            ·simp only [Act.put, zA, zB, zC, i64_w, i32_w]
             rfl
            refine take_ (i := 4) (N := some 95) (v := ?_) (a' := ?_) #[true, true, true, true, true, true, false, false, false, false, true, false, false, false, false, false, false, false, false, false, false, false, false, false] rfl rfl (take_ofW HT_.out HW_.out (by kernel_rfl)) (fun _ _ _ h => h) (Or.inl ⟨by rfl, ?_⟩) hHeld ?_ ?_
            rotate_left
            ·rintro w' ⟨s0, s1, s2, s3, s4, s5, s6, s7⟩
             go_simp
             with_reducible rfl
            rotate_left
            ·simp only [Act.put, zA, zB, zC, i64_w, i32_w]
             rfl
            refine pure_ (i := 6) (N := some 97) (v := ?_) (a' := ?_) #[true, true, true, true, true, true, true, false, false, false, true, false, false, false, false, false, false, false, false, false, false, false, false, false] rfl rfl (any_of HT_.out (by kernel_rfl)) (fun _ _ _ h => h) (Or.inl ⟨by rfl, ?_⟩) ?_ ?_
            rotate_left
            ·intro w'
             go_simp
             with_reducible rfl
            rotate_left
            ·simp only [Act.put, zA, zB, zC, i64_w, i32_w]
             rfl
            refine pure_ (i := 7) (N := some 98) (v := ?_) (a' := ?_) #[true, true, true, true, true, true, true, true, false, false, true, false, false, false, false, false, false, false, false, false, false, false, false, false] rfl rfl (any_of HT_.out (by kernel_rfl)) (fun _ _ _ h => h) (Or.inl ⟨by rfl, ?_⟩) ?_ ?_
            rotate_left
            ·intro w'
             go_simp
             with_reducible rfl
            rotate_left
            ·simp only [Act.put, zA, zB, zC, i64_w, i32_w]
             rfl
            refine pure_ (i := 8) (N := some 99) (v := ?_) (a' := ?_) #[true, true, true, true, true, true, true, true, true, false, true, false, false, false, false, false, false, false, false, false, false, false, false, false] rfl rfl (any_of HT_.out (by kernel_rfl)) (fun _ _ _ h => h) (Or.inl ⟨by rfl, ?_⟩) ?_ ?_
            rotate_left
            ·intro w'
             go_simp
             with_reducible rfl
            rotate_left
            ·simp only [Act.put, zA, zB, zC, i64_w, i32_w]
             rfl
            refine take_ (i := 9) (N := some 100) (v := ?_) (a' := ?_) (mb 11 13) rfl rfl (take_ofW HT_.out HW_.out (by kernel_rfl)) (fun _ _ _ h => h) (Or.inl ⟨by rfl, ?_⟩) hHeld ?_ ?_
            rotate_left
            ·rintro w' ⟨s0, s1, s2, s3, s4, s5, s6, s7⟩
             go_simp
             with_reducible rfl
            rotate_left
            ·simp only [Act.put, zA, zB, zC, i64_w, i32_w]
             rfl
            refine take_ (i := 11) (N := some 102) (v := ?_) (a' := ?_) (mb 12 12) rfl rfl (take_ofW HT_.out HW_.out (by kernel_rfl)) (fun _ _ _ h => h) (Or.inl ⟨by rfl, ?_⟩) hHeld ?_ ?_
            rotate_left
            ·rintro w' ⟨s0, s1, s2, s3, s4, s5, s6, s7⟩
             go_simp
             with_reducible rfl
            rotate_left
            ·simp only [Act.put, zA, zB, zC, i64_w, i32_w]
             rfl
            refine pure_ (i := 12) (N := some 103) (v := ?_) (a' := ?_) (mb 13 11) rfl rfl (any_of HT_.out (by kernel_rfl)) (fun _ _ _ h => h) (Or.inl ⟨by rfl, ?_⟩) ?_ ?_
            rotate_left
            ·intro w'
             go_simp
             with_reducible rfl
            rotate_left
            ·simp only [Act.put, zA, zB, zC, i64_w, i32_w]
             rfl
            refine pure_ (i := 13) (N := some 104) (v := ?_) (a' := ?_) (mb 14 10) rfl rfl (any_of HT_.out (by kernel_rfl)) (fun _ _ _ h => h) (Or.inl ⟨by rfl, ?_⟩) ?_ ?_
            rotate_left
            ·intro w'
             go_simp
             with_reducible rfl
            rotate_left
            ·simp only [Act.put, zA, zB, zC, i64_w, i32_w]
             rfl
            refine pure_ (i := 14) (N := some 105) (v := undef) (a' := ?_) (mb 15 9) rfl rfl (any_of HT_.out (by kernel_rfl)) (fun _ _ _ h => h) (Or.inr ⟨by rfl, rfl⟩) ?_ ?_
            rotate_left
            ·simp only [Act.put, zA, zB, zC, i64_w, i32_w]
             rfl
            refine pure_ (i := 15) (N := some 106) (v := undef) (a' := ?_) (mb 16 8) rfl rfl (any_of HT_.out (by kernel_rfl)) (fun _ _ _ h => h) (Or.inr ⟨by rfl, rfl⟩) ?_ ?_
            rotate_left
            ·simp only [Act.put, zA, zB, zC, i64_w, i32_w]
             rfl
            refine pure_ (i := 16) (N := some 107) (v := undef) (a' := ?_) (mb 17 7) rfl rfl (any_of HT_.out (by kernel_rfl)) (fun _ _ _ h => h) (Or.inr ⟨by rfl, rfl⟩) ?_ ?_
            rotate_left
            ·simp only [Act.put, zA, zB, zC, i64_w, i32_w]
             rfl
            refine pure_ (i := 17) (N := some 108) (v := undef) (a' := ?_) (mb 18 6) rfl rfl (any_of HT_.out (by kernel_rfl)) (fun _ _ _ h => h) (Or.inr ⟨by rfl, rfl⟩) ?_ ?_
            rotate_left
            ·simp only [Act.put, zA, zB, zC, i64_w, i32_w]
             rfl
            refine pure_ (i := 18) (N := some 109) (v := undef) (a' := ?_) (mb 19 5) rfl rfl (any_of HT_.out (by kernel_rfl)) (fun _ _ _ h => h) (Or.inr ⟨by rfl, rfl⟩) ?_ ?_
            rotate_left
            ·simp only [Act.put, zA, zB, zC, i64_w, i32_w]
             rfl
            refine pure_ (i := 19) (N := some 110) (v := undef) (a' := ?_) (mb 20 4) rfl rfl (any_of HT_.out (by kernel_rfl)) (fun _ _ _ h => h) (Or.inr ⟨by rfl, rfl⟩) ?_ ?_
            rotate_left
            ·simp only [Act.put, zA, zB, zC, i64_w, i32_w]
             rfl
            refine pure_ (i := 20) (N := some 111) (v := undef) (a' := ?_) (mb 21 3) rfl rfl (any_of HT_.out (by kernel_rfl)) (fun _ _ _ h => h) (Or.inr ⟨by rfl, rfl⟩) ?_ ?_
            rotate_left
            ·simp only [Act.put, zA, zB, zC, i64_w, i32_w]
             rfl
            refine pure_ (i := 21) (N := some 112) (v := undef) (a' := ?_) (mb 22 2) rfl rfl (any_of HT_.out (by kernel_rfl)) (fun _ _ _ h => h) (Or.inr ⟨by rfl, rfl⟩) ?_ ?_
            rotate_left
            ·simp only [Act.put, zA, zB, zC, i64_w, i32_w]
             rfl
            refine pure_ (i := 22) (N := some 113) (v := ?_) (a' := ?_) (mb 23 1) rfl rfl (any_of HT_.out (by kernel_rfl)) (fun _ _ _ h => h) (Or.inl ⟨by rfl, ?_⟩) ?_ ?_
            rotate_left
            ·intro w'
             go_simp
             with_reducible rfl
            rotate_left
            ·simp only [Act.put, zA, zB, zC, i64_w, i32_w]
             rfl
            refine pure_ (i := 23) (N := some 114) (v := ?_) (a' := ?_) (mb 24 0) rfl rfl (any_of HT_.out (by kernel_rfl)) (fun _ _ _ h => h) (Or.inl ⟨by rfl, ?_⟩) ?_ ?_
            rotate_left
            ·intro w'
             go_simp
             with_reducible rfl
            rotate_left
            ·simp only [Act.put, zA, zB, zC, i64_w, i32_w]
             rfl
            refine done_ (done_of HT_.out (by kernel_rfl)) ?_
            try go_wp2
            go_meet
            case rel => exact ⟨_, (false), (by first | rfl | (simp; done) | (simp [*]; done)), H', ⟨by have := HJ6.out; have := HK2.out; first | omega | exact Nat.le_refl _⟩, ⟨by (with_reducible repeat (first | apply Kd.R_alloc | apply Kd.R_drewN | apply Kd.R_drew)); exact HO_341000.out⟩, ⟨by (with_reducible repeat (first | apply Kd.R_alloc | apply Kd.R_drewN | apply Kd.R_drew)); exact HO_347000.out⟩, ⟨by (with_reducible repeat (first | apply Kd.R_alloc | apply Kd.R_drewN | apply Kd.R_drew)); exact HO_352000.out⟩, ⟨by (with_reducible repeat (first | refine blk_drewN ?_ _ | refine blk_drew ?_ | refine blk_alloc ?_ _)); exact BK340.out⟩, ⟨by (with_reducible repeat (first | refine blk_drewN ?_ _ | refine blk_drew ?_ | refine blk_alloc ?_ _)); exact BK341.out⟩, ⟨by (with_reducible repeat (first | refine blk_drewN ?_ _ | refine blk_drew ?_ | refine blk_alloc ?_ _)); exact BK346.out⟩, ⟨by (with_reducible repeat (first | refine blk_drewN ?_ _ | refine blk_drew ?_ | refine blk_alloc ?_ _)); exact BK351.out⟩, ⟨by (with_reducible repeat (first | refine blk_drewN ?_ _ | refine blk_drew ?_ | refine blk_alloc ?_ _)); exact BK356.out⟩, ⟨by (with_reducible repeat (first | refine blk_drewN ?_ _ | refine blk_drew ?_ | refine blk_alloc ?_ _)); exact BK361.out⟩, ⟨by (with_reducible repeat (first | refine blk_drewN ?_ _ | refine blk_drew ?_ | refine blk_alloc ?_ _)); exact BK367.out⟩, ⟨(mH7 HB.out GE340.out GE341.out GE346.out GE351.out GE356.out GE361.out GE367.out)⟩⟩
           ·rw [if_neg c85] at H
            have c85b0 : (((rd_T35 t333 x14_2).f0.f0).toList == t336.toList) = false := beq_eq_false_iff_ne.mpr c85
            have c85b1 : (((rd_T35 t333 x14_2).f0.f0).toList != t336.toList) = true := bne_iff_ne.mpr c85
            (first | rw [c85b0] | (simp only [i64_w, i32_w]; rw [c85b0]) | skip)
            have H' := mS H
            clear H
            try go_wp2
            have n0_ : Aside0 (Kd.R k35 35 (((w80.setCell ⟨gb367, 0, none⟩ (.string t363)).setCell ⟨gb367, 1, none⟩ (.string t364)).setCell ⟨gb367, 2, none⟩ (.bool t365)) w.heap.size (fun k_ => some k_ ≠ (.slice Ao17 t342.length co17 : Value).ownBlock ∧ some k_ ≠ (.slice Ao25 t347.length co25 : Value).ownBlock) (.slice (some ad362) t333.length co11) t333) := ⟨by (with_reducible repeat (first | apply Kd.R_alloc | apply Kd.R_drewN | apply Kd.R_drew)); exact Kd.R_mono (Kd.R_far (p := ⟨gb367, 2, none⟩) (Kd.R_far (p := ⟨gb367, 1, none⟩) (Kd.R_far (p := ⟨gb367, 0, none⟩) (Kd.R_types HO_341000.out BK367.out (by decide)) (fun _ hk => hk.2) (.string t363)) (fun _ hk => hk.2) (.string t364)) (fun _ hk => hk.2) (.bool t365)) (fun _ hk => ⟨hk.1.1, hk.1.2⟩)⟩
            have n1_ : Aside0 (Kd.R k35 35 (((w80.setCell ⟨gb367, 0, none⟩ (.string t363)).setCell ⟨gb367, 1, none⟩ (.string t364)).setCell ⟨gb367, 2, none⟩ (.bool t365)) w.heap.size (fun k_ => some k_ ≠ (.slice (some ad362) t333.length co11 : Value).ownBlock ∧ some k_ ≠ (.slice Ao25 t347.length co25 : Value).ownBlock) (.slice Ao17 t342.length co17) t342) := ⟨by (with_reducible repeat (first | apply Kd.R_alloc | apply Kd.R_drewN | apply Kd.R_drew)); exact Kd.R_mono (Kd.R_far (p := ⟨gb367, 2, none⟩) (Kd.R_far (p := ⟨gb367, 1, none⟩) (Kd.R_far (p := ⟨gb367, 0, none⟩) (Kd.R_types HO_347000.out BK367.out (by decide)) (fun _ hk => hk.2) (.string t363)) (fun _ hk => hk.2) (.string t364)) (fun _ hk => hk.2) (.bool t365)) (fun _ hk => ⟨hk.1.1, hk.1.2⟩)⟩
            have n2_ : Aside0 (Kd.R k35 35 (((w80.setCell ⟨gb367, 0, none⟩ (.string t363)).setCell ⟨gb367, 1, none⟩ (.string t364)).setCell ⟨gb367, 2, none⟩ (.bool t365)) w.heap.size (fun k_ => some k_ ≠ (.slice (some ad362) t333.length co11 : Value).ownBlock ∧ some k_ ≠ (.slice Ao17 t342.length co17 : Value).ownBlock) (.slice Ao25 t347.length co25) t347) := ⟨by (with_reducible repeat (first | apply Kd.R_alloc | apply Kd.R_drewN | apply Kd.R_drew)); exact Kd.R_mono (Kd.R_far (p := ⟨gb367, 2, none⟩) (Kd.R_far (p := ⟨gb367, 1, none⟩) (Kd.R_far (p := ⟨gb367, 0, none⟩) (Kd.R_types HO_352000.out BK367.out (by decide)) (fun _ hk => hk.2) (.string t363)) (fun _ hk => hk.2) (.string t364)) (fun _ hk => hk.2) (.bool t365)) (fun _ hk => ⟨hk.1.1, hk.1.2⟩)⟩
            have n3_ : Aside0 ((((w80.setCell ⟨gb367, 0, none⟩ (.string t363)).setCell ⟨gb367, 1, none⟩ (.string t364)).setCell ⟨gb367, 2, none⟩ (.bool t365)).heap[gb340]? = some (.cells #[.slice (some ad362) t333.length co11] 26 (0, 0))) := ⟨by (with_reducible repeat (first | refine blk_drewN ?_ _ | refine blk_drew ?_ | refine blk_alloc ?_ _)); refine blk_far ?_ NB340_367.out _; (with_reducible repeat (first | refine blk_drewN ?_ _ | refine blk_drew ?_ | refine blk_alloc ?_ _)); refine blk_far ?_ NB340_367.out _; (with_reducible repeat (first | refine blk_drewN ?_ _ | refine blk_drew ?_ | refine blk_alloc ?_ _)); refine blk_far ?_ NB340_367.out _; (with_reducible repeat (first | refine blk_drewN ?_ _ | refine blk_drew ?_ | refine blk_alloc ?_ _)); exact BK340.out⟩
            have n4_ : Aside0 ((((w80.setCell ⟨gb367, 0, none⟩ (.string t363)).setCell ⟨gb367, 1, none⟩ (.string t364)).setCell ⟨gb367, 2, none⟩ (.bool t365)).heap[gb341]? = some (.cells #[.string t336, .string t337, .bool t338] 33 (0, 0))) := ⟨by (with_reducible repeat (first | refine blk_drewN ?_ _ | refine blk_drew ?_ | refine blk_alloc ?_ _)); refine blk_far ?_ NB341_367.out _; (with_reducible repeat (first | refine blk_drewN ?_ _ | refine blk_drew ?_ | refine blk_alloc ?_ _)); refine blk_far ?_ NB341_367.out _; (with_reducible repeat (first | refine blk_drewN ?_ _ | refine blk_drew ?_ | refine blk_alloc ?_ _)); refine blk_far ?_ NB341_367.out _; (with_reducible repeat (first | refine blk_drewN ?_ _ | refine blk_drew ?_ | refine blk_alloc ?_ _)); exact BK341.out⟩
            have n5_ : Aside0 ((((w80.setCell ⟨gb367, 0, none⟩ (.string t363)).setCell ⟨gb367, 1, none⟩ (.string t364)).setCell ⟨gb367, 2, none⟩ (.bool t365)).heap[gb346]? = some (.cells #[.slice Ao17 t342.length co17] 26 (0, 0))) := ⟨by (with_reducible repeat (first | refine blk_drewN ?_ _ | refine blk_drew ?_ | refine blk_alloc ?_ _)); refine blk_far ?_ NB346_367.out _; (with_reducible repeat (first | refine blk_drewN ?_ _ | refine blk_drew ?_ | refine blk_alloc ?_ _)); refine blk_far ?_ NB346_367.out _; (with_reducible repeat (first | refine blk_drewN ?_ _ | refine blk_drew ?_ | refine blk_alloc ?_ _)); refine blk_far ?_ NB346_367.out _; (with_reducible repeat (first | refine blk_drewN ?_ _ | refine blk_drew ?_ | refine blk_alloc ?_ _)); exact BK346.out⟩
            have n6_ : Aside0 ((((w80.setCell ⟨gb367, 0, none⟩ (.string t363)).setCell ⟨gb367, 1, none⟩ (.string t364)).setCell ⟨gb367, 2, none⟩ (.bool t365)).heap[gb351]? = some (.cells #[.slice Ao25 t347.length co25] 26 (0, 0))) := ⟨by (with_reducible repeat (first | refine blk_drewN ?_ _ | refine blk_drew ?_ | refine blk_alloc ?_ _)); refine blk_far ?_ NB351_367.out _; (with_reducible repeat (first | refine blk_drewN ?_ _ | refine blk_drew ?_ | refine blk_alloc ?_ _)); refine blk_far ?_ NB351_367.out _; (with_reducible repeat (first | refine blk_drewN ?_ _ | refine blk_drew ?_ | refine blk_alloc ?_ _)); refine blk_far ?_ NB351_367.out _; (with_reducible repeat (first | refine blk_drewN ?_ _ | refine blk_drew ?_ | refine blk_alloc ?_ _)); exact BK351.out⟩
            have n7_ : Aside0 ((((w80.setCell ⟨gb367, 0, none⟩ (.string t363)).setCell ⟨gb367, 1, none⟩ (.string t364)).setCell ⟨gb367, 2, none⟩ (.bool t365)).heap[gb356]? = some (.cells #[.string t352, .string t353, .bool t354] 33 (0, 0))) := ⟨by (with_reducible repeat (first | refine blk_drewN ?_ _ | refine blk_drew ?_ | refine blk_alloc ?_ _)); refine blk_far ?_ NB356_367.out _; (with_reducible repeat (first | refine blk_drewN ?_ _ | refine blk_drew ?_ | refine blk_alloc ?_ _)); refine blk_far ?_ NB356_367.out _; (with_reducible repeat (first | refine blk_drewN ?_ _ | refine blk_drew ?_ | refine blk_alloc ?_ _)); refine blk_far ?_ NB356_367.out _; (with_reducible repeat (first | refine blk_drewN ?_ _ | refine blk_drew ?_ | refine blk_alloc ?_ _)); exact BK356.out⟩
            have n8_ : Aside0 ((((w80.setCell ⟨gb367, 0, none⟩ (.string t363)).setCell ⟨gb367, 1, none⟩ (.string t364)).setCell ⟨gb367, 2, none⟩ (.bool t365)).heap[gb361]? = some (.cells #[.string t357, .string t358, .bool t359] 33 (0, 0))) := ⟨by (with_reducible repeat (first | refine blk_drewN ?_ _ | refine blk_drew ?_ | refine blk_alloc ?_ _)); refine blk_far ?_ NB361_367.out _; (with_reducible repeat (first | refine blk_drewN ?_ _ | refine blk_drew ?_ | refine blk_alloc ?_ _)); refine blk_far ?_ NB361_367.out _; (with_reducible repeat (first | refine blk_drewN ?_ _ | refine blk_drew ?_ | refine blk_alloc ?_ _)); refine blk_far ?_ NB361_367.out _; (with_reducible repeat (first | refine blk_drewN ?_ _ | refine blk_drew ?_ | refine blk_alloc ?_ _)); exact BK361.out⟩
            have n9_ : Aside0 ((((w80.setCell ⟨gb367, 0, none⟩ (.string t363)).setCell ⟨gb367, 1, none⟩ (.string t364)).setCell ⟨gb367, 2, none⟩ (.bool t365)).heap[gb367]? = some (.cells #[.string t363, .string t364, .bool t365] 33 (0, 0))) := ⟨by (with_reducible repeat (first | refine blk_drewN ?_ _ | refine blk_drew ?_ | refine blk_alloc ?_ _)); refine blk_put (cs := #[.string t363, .string t364, .bool false]) ?_ 2 _ rfl; (with_reducible repeat (first | refine blk_drewN ?_ _ | refine blk_drew ?_ | refine blk_alloc ?_ _)); refine blk_put (cs := #[.string t363, .string (⟨#[]⟩ : ByteArray), .bool false]) ?_ 1 _ rfl; (with_reducible repeat (first | refine blk_drewN ?_ _ | refine blk_drew ?_ | refine blk_alloc ?_ _)); refine blk_put (cs := #[.string (⟨#[]⟩ : ByteArray), .string (⟨#[]⟩ : ByteArray), .bool false]) ?_ 0 _ rfl; (with_reducible repeat (first | refine blk_drewN ?_ _ | refine blk_drew ?_ | refine blk_alloc ?_ _)); exact BK367.out⟩
            have n10_ : Aside0 (Below w.heap.size w (((w80.setCell ⟨gb367, 0, none⟩ (.string t363)).setCell ⟨gb367, 1, none⟩ (.string t364)).setCell ⟨gb367, 2, none⟩ (.bool t365))) := ⟨(mH7 HB.out GE340.out GE341.out GE346.out GE351.out GE356.out GE361.out GE367.out)⟩
            (try clear HO_341000)
            (try clear HO_347000)
            (try clear HO_352000)
            (try clear BK340)
            (try clear BK341)
            (try clear BK346)
            (try clear BK351)
            (try clear BK356)
            (try clear BK361)
            (try clear BK367)
            (try clear HB)
            generalize (((w80.setCell ⟨gb367, 0, none⟩ (.string t363)).setCell ⟨gb367, 1, none⟩ (.string t364)).setCell ⟨gb367, 2, none⟩ (.bool t365)) = w88 at n0_ n1_ n2_ n3_ n4_ n5_ n6_ n7_ n8_ n9_ n10_ ⊢
            have HO_341000 := n0_
            have HO_347000 := n1_
            have HO_352000 := n2_
            have BK340 := n3_
            have BK341 := n4_
            have BK346 := n5_
            have BK351 := n6_
            have BK356 := n7_
            have BK361 := n8_
            have BK367 := n9_
            have HB := n10_
            clear n0_ n1_ n2_ n3_ n4_ n5_ n6_ n7_ n8_ n9_ n10_
            have n0_ := mS (Kd.R_drew HO_341000.out)
            have n1_ := mS (Kd.R_drew HO_347000.out)
            have n2_ := mS (Kd.R_drew HO_352000.out)
            have n3_ := mS (blk_drew BK340.out)
            have n4_ := mS (blk_drew BK341.out)
            have n5_ := mS (blk_drew BK346.out)
            have n6_ := mS (blk_drew BK351.out)
            have n7_ := mS (blk_drew BK356.out)
            have n8_ := mS (blk_drew BK361.out)
            have n9_ := mS (blk_drew BK367.out)
            have n10_ := mS (below_drew1 HB.out)
            clear HO_341000
            clear HO_347000
            clear HO_352000
            clear BK340
            clear BK341
            clear BK346
            clear BK351
            clear BK356
            clear BK361
            clear BK367
            clear HB
            have HO_341000 := n0_
            have HO_347000 := n1_
            have HO_352000 := n2_
            have BK340 := n3_
            have BK341 := n4_
            have BK346 := n5_
            have BK351 := n6_
            have BK356 := n7_
            have BK361 := n8_
            have BK367 := n9_
            have HB := n10_
            clear n0_ n1_ n2_ n3_ n4_ n5_ n6_ n7_ n8_ n9_ n10_
            have p368 : 0 ≤ (x14_2 : Int) := of_decide_eq_true (by first | (with_reducible assumption) | assumption)
            have q368 : x14_2 < (t333.length : Int) := of_decide_eq_true (by first | (with_reducible assumption) | assumption)
            obtain ⟨ad368, e368, hx368_0, hx368_1, hx368_2, hx368_3⟩ := at_T35 (Kd.R_reads' HO_341000.out).2.2 x14_2 p368 q368
            obtain rfl : ad362 = ad368 := (by injection e368)
            replace p368 := eq_true p368
            replace q368 := eq_true q368
            have p369 : 0 ≤ (x14_2 : Int) := of_decide_eq_true (by first | (with_reducible assumption) | assumption)
            have q369 : x14_2 < (t333.length : Int) := of_decide_eq_true (by first | (with_reducible assumption) | assumption)
            obtain ⟨ad369, e369, hx369_0, hx369_1, hx369_2, hx369_3⟩ := at_T35 (Kd.R_reads' HO_341000.out).2.2 x14_2 p369 q369
            obtain rfl : ad362 = ad369 := (by injection e369)
            replace p369 := eq_true p369
            replace q369 := eq_true q369
            refine start_ (n := 24) (S := fun w' => w'.cell? ⟨gb340, 0, none⟩ = some (.slice (some ad362) t333.length co11) ∧ w'.cell? ⟨gb341, 0, none⟩ = some (.string t336) ∧ w'.cell? ⟨gb341, 1, none⟩ = some (.string t337) ∧ w'.cell? ⟨gb341, 2, none⟩ = some (.bool t338) ∧ w'.cell? ⟨gb367, 0, none⟩ = some (.string t363) ∧ w'.cell? ⟨gb367, 1, none⟩ = some (.string t364) ∧ w'.cell? ⟨gb367, 2, none⟩ = some (.bool t365) ∧ w'.cell? (ad362.add ((x14_2).toNat * 4)) = some (.string ((rd_T35 t333 x14_2).f0.f0)) ∧ w'.cell? ⟨(ad362.add ((x14_2).toNat * 4)).block, (ad362.add ((x14_2).toNat * 4)).off + 1, none⟩ = some (.string ((rd_T35 t333 x14_2).f0.f1)) ∧ w'.cell? ⟨(ad362.add ((x14_2).toNat * 4)).block, (ad362.add ((x14_2).toNat * 4)).off + 2, none⟩ = some (.bool ((rd_T35 t333 x14_2).f0.f2)) ∧ w'.cell? ⟨(ad362.add ((x14_2).toNat * 4)).block, (ad362.add ((x14_2).toNat * 4)).off + 3, none⟩ = some (.int .i64 ((rd_T35 t333 x14_2).f1)) ∧ w'.cell? (ad362.add ((x14_2).toNat * 4)) = some (.string ((rd_T35 t333 x14_2).f0.f0)) ∧ w'.cell? ⟨(ad362.add ((x14_2).toNat * 4)).block, (ad362.add ((x14_2).toNat * 4)).off + 1, none⟩ = some (.string ((rd_T35 t333 x14_2).f0.f1)) ∧ w'.cell? ⟨(ad362.add ((x14_2).toNat * 4)).block, (ad362.add ((x14_2).toNat * 4)).off + 2, none⟩ = some (.bool ((rd_T35 t333 x14_2).f0.f2)) ∧ w'.cell? ⟨(ad362.add ((x14_2).toNat * 4)).block, (ad362.add ((x14_2).toNat * 4)).off + 3, none⟩ = some (.int .i64 ((rd_T35 t333 x14_2).f1))) (ds := []) (mb 0 24) (by kernel_rfl) rfl rfl ⟨mZ BK340.out 0, mZ BK341.out 0, mZ BK341.out 1, mZ BK341.out 2, mZ BK367.out 0, mZ BK367.out 1, mZ BK367.out 2, hx368_0, hx368_1, hx368_2, hx368_3, hx369_0, hx369_1, hx369_2, hx369_3⟩ (fun hHeld => ?_); refine with_tabW laws_FnMem.tab14 laws_FnMem.bits14 (fun HT_ HW_ => ?_)
            generalize w88.drew = w89 at HO_341000 HO_347000 HO_352000 BK340 BK341 BK346 BK351 BK356 BK361 BK367 HB hx368_0 hx368_1 hx368_2 hx368_3 hx369_0 hx369_1 hx369_2 hx369_3 hHeld ⊢
            refine pure_ (i := 0) (N := some 91) (v := ?_) (a' := ?_) (mb 1 23) rfl rfl (any_of HT_.out (by kernel_rfl)) (fun _ _ _ h => h) (Or.inl ⟨by rfl, ?_⟩) ?_ ?_
            rotate_left
            ·intro w'
             go_simp
             with_reducible rfl
            rotate_left
            ·simp only [Act.put, zA, zB, zC, i64_w, i32_w]
             rfl
            refine pure_ (i := 1) (N := some 92) (v := ?_) (a' := ?_) (mb 2 22) rfl rfl (any_of HT_.out (by kernel_rfl)) (fun _ _ _ h => h) (Or.inl ⟨by rfl, ?_⟩) ?_ ?_
            rotate_left
            ·intro w'
             go_simp
             with_reducible rfl
            rotate_left
            ·simp only [Act.put, zA, zB, zC, i64_w, i32_w]
             rfl
            refine pure_ (i := 2) (N := some 93) (v := ?_) (a' := ?_) (mb 3 21) rfl rfl (any_of HT_.out (by kernel_rfl)) (fun _ _ _ h => h) (Or.inl ⟨by rfl, ?_⟩) ?_ ?_
            rotate_left
            ·intro w'
             go_simp
             with_reducible rfl
            rotate_left
            ·simp only [Act.put, zA, zB, zC, i64_w, i32_w]
             rfl
            refine pure_ (i := 3) (N := some 94) (v := ?_) (a' := ?_) (mb 4 20) rfl rfl (any_of HT_.out (by kernel_rfl)) (fun _ _ _ h => h) (Or.inl ⟨by rfl, ?_⟩) ?_ ?_
            rotate_left
            ·intro w'
             go_simp
             with_reducible rfl
            rotate_left
            ·simp only [Act.put, zA, zB, zC, i64_w, i32_w]
             rfl
            refine pure_ (i := 5) (N := some 96) (v := ?_) (a' := ?_) #[true, true, true, true, false, true, false, false, false, false, false, false, false, false, false, false, false, false, false, false, false, false, false, false] rfl rfl (any_of HT_.out (by kernel_rfl)) (fun _ _ _ h => h) (Or.inl ⟨by rfl, ?_⟩) ?_ ?_
            rotate_left
            ·intro w'
             go_simp
             with_reducible rfl
            rotate_left
            ·simp only [Act.put, zA, zB, zC, i64_w, i32_w]
             rfl
            refine pure_ (i := 10) (N := some 101) (v := ?_) (a' := ?_) #[true, true, true, true, false, true, false, false, false, false, true, false, false, false, false, false, false, false, false, false, false, false, false, false] rfl rfl (any_of HT_.out (by kernel_rfl)) (fun _ _ _ h => h) (Or.inl ⟨by rfl, ?_⟩) ?_ ?_
            rotate_left
            ·intro w'
             go_simp
             with_reducible rfl
            rotate_left
            ·simp only [Act.put, zA, zB, zC, i64_w, i32_w]
             rfl
            refine take_ (i := 4) (N := some 95) (v := ?_) (a' := ?_) #[true, true, true, true, true, true, false, false, false, false, true, false, false, false, false, false, false, false, false, false, false, false, false, false] rfl rfl (take_ofW HT_.out HW_.out (by kernel_rfl)) (fun _ _ _ h => h) (Or.inl ⟨by rfl, ?_⟩) hHeld ?_ ?_
            rotate_left
            ·rintro w' ⟨s0, s1, s2, s3, s4, s5, s6, s7, s8, s9, s10, s11, s12, s13, s14⟩
             go_simp
             with_reducible rfl
            rotate_left
            ·simp only [Act.put, zA, zB, zC, i64_w, i32_w]
             rfl
            refine pure_ (i := 6) (N := some 97) (v := ?_) (a' := ?_) #[true, true, true, true, true, true, true, false, false, false, true, false, false, false, false, false, false, false, false, false, false, false, false, false] rfl rfl (any_of HT_.out (by kernel_rfl)) (fun _ _ _ h => h) (Or.inl ⟨by rfl, ?_⟩) ?_ ?_
            rotate_left
            ·intro w'
             go_simp
             with_reducible rfl
            rotate_left
            ·simp only [Act.put, zA, zB, zC, i64_w, i32_w]
             rfl
            refine pure_ (i := 7) (N := some 98) (v := ?_) (a' := ?_) #[true, true, true, true, true, true, true, true, false, false, true, false, false, false, false, false, false, false, false, false, false, false, false, false] rfl rfl (any_of HT_.out (by kernel_rfl)) (fun _ _ _ h => h) (Or.inl ⟨by rfl, ?_⟩) ?_ ?_
            rotate_left
            ·intro w'
             go_simp
             with_reducible rfl
            rotate_left
            ·simp only [Act.put, zA, zB, zC, i64_w, i32_w]
             rfl
            refine pure_ (i := 8) (N := some 99) (v := ?_) (a' := ?_) #[true, true, true, true, true, true, true, true, true, false, true, false, false, false, false, false, false, false, false, false, false, false, false, false] rfl rfl (any_of HT_.out (by kernel_rfl)) (fun _ _ _ h => h) (Or.inl ⟨by rfl, ?_⟩) ?_ ?_
            rotate_left
            ·intro w'
             go_simp
             with_reducible rfl
            rotate_left
            ·simp only [Act.put, zA, zB, zC, i64_w, i32_w]
             rfl
            refine take_ (i := 9) (N := some 100) (v := ?_) (a' := ?_) (mb 11 13) rfl rfl (take_ofW HT_.out HW_.out (by kernel_rfl)) (fun _ _ _ h => h) (Or.inl ⟨by rfl, ?_⟩) hHeld ?_ ?_
            rotate_left
            ·rintro w' ⟨s0, s1, s2, s3, s4, s5, s6, s7, s8, s9, s10, s11, s12, s13, s14⟩
             go_simp
             with_reducible rfl
            rotate_left
            ·simp only [Act.put, zA, zB, zC, i64_w, i32_w]
             rfl
            refine take_ (i := 11) (N := some 102) (v := ?_) (a' := ?_) (mb 12 12) rfl rfl (take_ofW HT_.out HW_.out (by kernel_rfl)) (fun _ _ _ h => h) (Or.inl ⟨by rfl, ?_⟩) hHeld ?_ ?_
            rotate_left
            ·rintro w' ⟨s0, s1, s2, s3, s4, s5, s6, s7, s8, s9, s10, s11, s12, s13, s14⟩
             go_simp
             with_reducible rfl
            rotate_left
            ·simp only [Act.put, zA, zB, zC, i64_w, i32_w]
             rfl
            refine pure_ (i := 12) (N := some 103) (v := ?_) (a' := ?_) (mb 13 11) rfl rfl (any_of HT_.out (by kernel_rfl)) (fun _ _ _ h => h) (Or.inl ⟨by rfl, ?_⟩) ?_ ?_
            rotate_left
            ·intro w'
             go_simp
             with_reducible rfl
            rotate_left
            ·simp only [Act.put, zA, zB, zC, i64_w, i32_w]
             rfl
            refine pure_ (i := 13) (N := some 104) (v := ?_) (a' := ?_) (mb 14 10) rfl rfl (any_of HT_.out (by kernel_rfl)) (fun _ _ _ h => h) (Or.inl ⟨by rfl, ?_⟩) ?_ ?_
            rotate_left
            ·intro w'
             go_simp
             with_reducible rfl
            rotate_left
            ·simp only [Act.put, zA, zB, zC, i64_w, i32_w]
             rfl
            refine pure_ (i := 15) (N := some 106) (v := ?_) (a' := ?_) #[true, true, true, true, true, true, true, true, true, true, true, true, true, true, false, true, false, false, false, false, false, false, false, false] rfl rfl (any_of HT_.out (by kernel_rfl)) (fun _ _ _ h => h) (Or.inl ⟨by rfl, ?_⟩) ?_ ?_
            rotate_left
            ·intro w'
             go_simp
             with_reducible rfl
            rotate_left
            ·simp only [Act.put, zA, zB, zC, i64_w, i32_w]
             rfl
            refine pure_ (i := 17) (N := some 108) (v := ?_) (a' := ?_) #[true, true, true, true, true, true, true, true, true, true, true, true, true, true, false, true, false, true, false, false, false, false, false, false] rfl rfl (any_of HT_.out (by kernel_rfl)) (fun _ _ _ h => h) (Or.inl ⟨by rfl, ?_⟩) ?_ ?_
            rotate_left
            ·intro w'
             go_simp
             with_reducible rfl
            rotate_left
            ·simp only [Act.put, zA, zB, zC, i64_w, i32_w]
             rfl
            refine take_ (i := 14) (N := some 105) (v := ?_) (a' := ?_) #[true, true, true, true, true, true, true, true, true, true, true, true, true, true, true, true, false, true, false, false, false, false, false, false] rfl rfl (take_ofW HT_.out HW_.out (by kernel_rfl)) (fun _ _ _ h => h) (Or.inl ⟨by rfl, ?_⟩) hHeld ?_ ?_
            rotate_left
            ·rintro w' ⟨s0, s1, s2, s3, s4, s5, s6, s7, s8, s9, s10, s11, s12, s13, s14⟩
             go_simp
             with_reducible rfl
            rotate_left
            ·simp only [Act.put, zA, zB, zC, i64_w, i32_w]
             rfl
            refine take_ (i := 16) (N := some 107) (v := ?_) (a' := ?_) (mb 18 6) rfl rfl (take_ofW HT_.out HW_.out (by kernel_rfl)) (fun _ _ _ h => h) (Or.inl ⟨by rfl, ?_⟩) hHeld ?_ ?_
            rotate_left
            ·rintro w' ⟨s0, s1, s2, s3, s4, s5, s6, s7, s8, s9, s10, s11, s12, s13, s14⟩
             go_simp
             with_reducible rfl
            rotate_left
            ·simp only [Act.put, zA, zB, zC, i64_w, i32_w]
             rfl
            refine pure_ (i := 18) (N := some 109) (v := ?_) (a' := ?_) (mb 19 5) rfl rfl (any_of HT_.out (by kernel_rfl)) (fun _ _ _ h => h) (Or.inl ⟨by rfl, ?_⟩) ?_ ?_
            rotate_left
            ·intro w'
             go_simp
             with_reducible rfl
            rotate_left
            ·simp only [Act.put, zA, zB, zC, i64_w, i32_w]
             rfl
            refine pure_ (i := 19) (N := some 110) (v := ?_) (a' := ?_) (mb 20 4) rfl rfl (any_of HT_.out (by kernel_rfl)) (fun _ _ _ h => h) (Or.inl ⟨by rfl, ?_⟩) ?_ ?_
            rotate_left
            ·intro w'
             go_simp
             with_reducible rfl
            rotate_left
            ·simp only [Act.put, zA, zB, zC, i64_w, i32_w]
             rfl
            refine take_ (i := 20) (N := some 111) (v := ?_) (a' := ?_) (mb 21 3) rfl rfl (take_ofW HT_.out HW_.out (by kernel_rfl)) (fun _ _ _ h => h) (Or.inl ⟨by rfl, ?_⟩) hHeld ?_ ?_
            rotate_left
            ·rintro w' ⟨s0, s1, s2, s3, s4, s5, s6, s7, s8, s9, s10, s11, s12, s13, s14⟩
             go_simp
             with_reducible rfl
            rotate_left
            ·simp only [Act.put, zA, zB, zC, i64_w, i32_w]
             rfl
            refine pure_ (i := 21) (N := some 112) (v := ?_) (a' := ?_) (mb 22 2) rfl rfl (any_of HT_.out (by kernel_rfl)) (fun _ _ _ h => h) (Or.inl ⟨by rfl, ?_⟩) ?_ ?_
            rotate_left
            ·intro w'
             go_simp
             with_reducible rfl
            rotate_left
            ·simp only [Act.put, zA, zB, zC, i64_w, i32_w]
             rfl
            refine pure_ (i := 22) (N := some 113) (v := ?_) (a' := ?_) (mb 23 1) rfl rfl (any_of HT_.out (by kernel_rfl)) (fun _ _ _ h => h) (Or.inl ⟨by rfl, ?_⟩) ?_ ?_
            rotate_left
            ·intro w'
             go_simp
             with_reducible rfl
            rotate_left
            ·simp only [Act.put, zA, zB, zC, i64_w, i32_w]
             rfl
            refine pure_ (i := 23) (N := some 114) (v := ?_) (a' := ?_) (mb 24 0) rfl rfl (any_of HT_.out (by kernel_rfl)) (fun _ _ _ h => h) (Or.inl ⟨by rfl, ?_⟩) ?_ ?_
            rotate_left
            ·intro w'
             go_simp
             with_reducible rfl
            rotate_left
            ·simp only [Act.put, zA, zB, zC, i64_w, i32_w]
             rfl
            refine done_ (done_of HT_.out (by kernel_rfl)) ?_
            try go_wp2
            go_meet
            case rel => exact ⟨_, ((!(t363.toList == (((rd_T35 t333 x14_2).f0.f0).toList)) || (!(t364.toList == (((rd_T35 t333 x14_2).f0.f1).toList)) || (!(t365 == ((rd_T35 t333 x14_2).f0.f2)))))), (by first | rfl | (simp; done) | (simp [*]; done)), H', ⟨by have := HJ6.out; have := HK2.out; first | omega | exact Nat.le_refl _⟩, ⟨by (with_reducible repeat (first | apply Kd.R_alloc | apply Kd.R_drewN | apply Kd.R_drew)); exact HO_341000.out⟩, ⟨by (with_reducible repeat (first | apply Kd.R_alloc | apply Kd.R_drewN | apply Kd.R_drew)); exact HO_347000.out⟩, ⟨by (with_reducible repeat (first | apply Kd.R_alloc | apply Kd.R_drewN | apply Kd.R_drew)); exact HO_352000.out⟩, ⟨by (with_reducible repeat (first | refine blk_drewN ?_ _ | refine blk_drew ?_ | refine blk_alloc ?_ _)); exact BK340.out⟩, ⟨by (with_reducible repeat (first | refine blk_drewN ?_ _ | refine blk_drew ?_ | refine blk_alloc ?_ _)); exact BK341.out⟩, ⟨by (with_reducible repeat (first | refine blk_drewN ?_ _ | refine blk_drew ?_ | refine blk_alloc ?_ _)); exact BK346.out⟩, ⟨by (with_reducible repeat (first | refine blk_drewN ?_ _ | refine blk_drew ?_ | refine blk_alloc ?_ _)); exact BK351.out⟩, ⟨by (with_reducible repeat (first | refine blk_drewN ?_ _ | refine blk_drew ?_ | refine blk_alloc ?_ _)); exact BK356.out⟩, ⟨by (with_reducible repeat (first | refine blk_drewN ?_ _ | refine blk_drew ?_ | refine blk_alloc ?_ _)); exact BK361.out⟩, ⟨by (with_reducible repeat (first | refine blk_drewN ?_ _ | refine blk_drew ?_ | refine blk_alloc ?_ _)); exact BK367.out⟩, ⟨(mH7 HB.out GE340.out GE341.out GE346.out GE351.out GE356.out GE361.out GE367.out)⟩⟩
          ·replace c84 := Bool.eq_false_iff.mpr c84
           subst c84
           have H1 : (laws_FnMem.j2 k2 t355 t360 x14_2 true t333 t336 t337 t338 t342 t352 t353 t354) = some r := by rw [if_neg (show ¬ (false = true) by decide)] at H; exact H
           clear H
           have H := H1
           clear H1
           have H' := mS H
           clear H
           try go_wp2
           have n0_ : Aside0 (Kd.R k35 35 (((w80.setCell ⟨gb367, 0, none⟩ (.string t363)).setCell ⟨gb367, 1, none⟩ (.string t364)).setCell ⟨gb367, 2, none⟩ (.bool t365)) w.heap.size (fun k_ => some k_ ≠ (.slice Ao17 t342.length co17 : Value).ownBlock ∧ some k_ ≠ (.slice Ao25 t347.length co25 : Value).ownBlock) (.slice (some ad362) t333.length co11) t333) := ⟨by (with_reducible repeat (first | apply Kd.R_alloc | apply Kd.R_drewN | apply Kd.R_drew)); exact Kd.R_mono (Kd.R_far (p := ⟨gb367, 2, none⟩) (Kd.R_far (p := ⟨gb367, 1, none⟩) (Kd.R_far (p := ⟨gb367, 0, none⟩) (Kd.R_types HO_341000.out BK367.out (by decide)) (fun _ hk => hk.2) (.string t363)) (fun _ hk => hk.2) (.string t364)) (fun _ hk => hk.2) (.bool t365)) (fun _ hk => ⟨hk.1.1, hk.1.2⟩)⟩
           have n1_ : Aside0 (Kd.R k35 35 (((w80.setCell ⟨gb367, 0, none⟩ (.string t363)).setCell ⟨gb367, 1, none⟩ (.string t364)).setCell ⟨gb367, 2, none⟩ (.bool t365)) w.heap.size (fun k_ => some k_ ≠ (.slice (some ad362) t333.length co11 : Value).ownBlock ∧ some k_ ≠ (.slice Ao25 t347.length co25 : Value).ownBlock) (.slice Ao17 t342.length co17) t342) := ⟨by (with_reducible repeat (first | apply Kd.R_alloc | apply Kd.R_drewN | apply Kd.R_drew)); exact Kd.R_mono (Kd.R_far (p := ⟨gb367, 2, none⟩) (Kd.R_far (p := ⟨gb367, 1, none⟩) (Kd.R_far (p := ⟨gb367, 0, none⟩) (Kd.R_types HO_347000.out BK367.out (by decide)) (fun _ hk => hk.2) (.string t363)) (fun _ hk => hk.2) (.string t364)) (fun _ hk => hk.2) (.bool t365)) (fun _ hk => ⟨hk.1.1, hk.1.2⟩)⟩
           have n2_ : Aside0 (Kd.R k35 35 (((w80.setCell ⟨gb367, 0, none⟩ (.string t363)).setCell ⟨gb367, 1, none⟩ (.string t364)).setCell ⟨gb367, 2, none⟩ (.bool t365)) w.heap.size (fun k_ => some k_ ≠ (.slice (some ad362) t333.length co11 : Value).ownBlock ∧ some k_ ≠ (.slice Ao17 t342.length co17 : Value).ownBlock) (.slice Ao25 t347.length co25) t347) := ⟨by (with_reducible repeat (first | apply Kd.R_alloc | apply Kd.R_drewN | apply Kd.R_drew)); exact Kd.R_mono (Kd.R_far (p := ⟨gb367, 2, none⟩) (Kd.R_far (p := ⟨gb367, 1, none⟩) (Kd.R_far (p := ⟨gb367, 0, none⟩) (Kd.R_types HO_352000.out BK367.out (by decide)) (fun _ hk => hk.2) (.string t363)) (fun _ hk => hk.2) (.string t364)) (fun _ hk => hk.2) (.bool t365)) (fun _ hk => ⟨hk.1.1, hk.1.2⟩)⟩
           have n3_ : Aside0 ((((w80.setCell ⟨gb367, 0, none⟩ (.string t363)).setCell ⟨gb367, 1, none⟩ (.string t364)).setCell ⟨gb367, 2, none⟩ (.bool t365)).heap[gb340]? = some (.cells #[.slice (some ad362) t333.length co11] 26 (0, 0))) := ⟨by (with_reducible repeat (first | refine blk_drewN ?_ _ | refine blk_drew ?_ | refine blk_alloc ?_ _)); refine blk_far ?_ NB340_367.out _; (with_reducible repeat (first | refine blk_drewN ?_ _ | refine blk_drew ?_ | refine blk_alloc ?_ _)); refine blk_far ?_ NB340_367.out _; (with_reducible repeat (first | refine blk_drewN ?_ _ | refine blk_drew ?_ | refine blk_alloc ?_ _)); refine blk_far ?_ NB340_367.out _; (with_reducible repeat (first | refine blk_drewN ?_ _ | refine blk_drew ?_ | refine blk_alloc ?_ _)); exact BK340.out⟩
           have n4_ : Aside0 ((((w80.setCell ⟨gb367, 0, none⟩ (.string t363)).setCell ⟨gb367, 1, none⟩ (.string t364)).setCell ⟨gb367, 2, none⟩ (.bool t365)).heap[gb341]? = some (.cells #[.string t336, .string t337, .bool t338] 33 (0, 0))) := ⟨by (with_reducible repeat (first | refine blk_drewN ?_ _ | refine blk_drew ?_ | refine blk_alloc ?_ _)); refine blk_far ?_ NB341_367.out _; (with_reducible repeat (first | refine blk_drewN ?_ _ | refine blk_drew ?_ | refine blk_alloc ?_ _)); refine blk_far ?_ NB341_367.out _; (with_reducible repeat (first | refine blk_drewN ?_ _ | refine blk_drew ?_ | refine blk_alloc ?_ _)); refine blk_far ?_ NB341_367.out _; (with_reducible repeat (first | refine blk_drewN ?_ _ | refine blk_drew ?_ | refine blk_alloc ?_ _)); exact BK341.out⟩
           have n5_ : Aside0 ((((w80.setCell ⟨gb367, 0, none⟩ (.string t363)).setCell ⟨gb367, 1, none⟩ (.string t364)).setCell ⟨gb367, 2, none⟩ (.bool t365)).heap[gb346]? = some (.cells #[.slice Ao17 t342.length co17] 26 (0, 0))) := ⟨by (with_reducible repeat (first | refine blk_drewN ?_ _ | refine blk_drew ?_ | refine blk_alloc ?_ _)); refine blk_far ?_ NB346_367.out _; (with_reducible repeat (first | refine blk_drewN ?_ _ | refine blk_drew ?_ | refine blk_alloc ?_ _)); refine blk_far ?_ NB346_367.out _; (with_reducible repeat (first | refine blk_drewN ?_ _ | refine blk_drew ?_ | refine blk_alloc ?_ _)); refine blk_far ?_ NB346_367.out _; (with_reducible repeat (first | refine blk_drewN ?_ _ | refine blk_drew ?_ | refine blk_alloc ?_ _)); exact BK346.out⟩
           have n6_ : Aside0 ((((w80.setCell ⟨gb367, 0, none⟩ (.string t363)).setCell ⟨gb367, 1, none⟩ (.string t364)).setCell ⟨gb367, 2, none⟩ (.bool t365)).heap[gb351]? = some (.cells #[.slice Ao25 t347.length co25] 26 (0, 0))) := ⟨by (with_reducible repeat (first | refine blk_drewN ?_ _ | refine blk_drew ?_ | refine blk_alloc ?_ _)); refine blk_far ?_ NB351_367.out _; (with_reducible repeat (first | refine blk_drewN ?_ _ | refine blk_drew ?_ | refine blk_alloc ?_ _)); refine blk_far ?_ NB351_367.out _; (with_reducible repeat (first | refine blk_drewN ?_ _ | refine blk_drew ?_ | refine blk_alloc ?_ _)); refine blk_far ?_ NB351_367.out _; (with_reducible repeat (first | refine blk_drewN ?_ _ | refine blk_drew ?_ | refine blk_alloc ?_ _)); exact BK351.out⟩
           have n7_ : Aside0 ((((w80.setCell ⟨gb367, 0, none⟩ (.string t363)).setCell ⟨gb367, 1, none⟩ (.string t364)).setCell ⟨gb367, 2, none⟩ (.bool t365)).heap[gb356]? = some (.cells #[.string t352, .string t353, .bool t354] 33 (0, 0))) := ⟨by (with_reducible repeat (first | refine blk_drewN ?_ _ | refine blk_drew ?_ | refine blk_alloc ?_ _)); refine blk_far ?_ NB356_367.out _; (with_reducible repeat (first | refine blk_drewN ?_ _ | refine blk_drew ?_ | refine blk_alloc ?_ _)); refine blk_far ?_ NB356_367.out _; (with_reducible repeat (first | refine blk_drewN ?_ _ | refine blk_drew ?_ | refine blk_alloc ?_ _)); refine blk_far ?_ NB356_367.out _; (with_reducible repeat (first | refine blk_drewN ?_ _ | refine blk_drew ?_ | refine blk_alloc ?_ _)); exact BK356.out⟩
           have n8_ : Aside0 ((((w80.setCell ⟨gb367, 0, none⟩ (.string t363)).setCell ⟨gb367, 1, none⟩ (.string t364)).setCell ⟨gb367, 2, none⟩ (.bool t365)).heap[gb361]? = some (.cells #[.string t357, .string t358, .bool t359] 33 (0, 0))) := ⟨by (with_reducible repeat (first | refine blk_drewN ?_ _ | refine blk_drew ?_ | refine blk_alloc ?_ _)); refine blk_far ?_ NB361_367.out _; (with_reducible repeat (first | refine blk_drewN ?_ _ | refine blk_drew ?_ | refine blk_alloc ?_ _)); refine blk_far ?_ NB361_367.out _; (with_reducible repeat (first | refine blk_drewN ?_ _ | refine blk_drew ?_ | refine blk_alloc ?_ _)); refine blk_far ?_ NB361_367.out _; (with_reducible repeat (first | refine blk_drewN ?_ _ | refine blk_drew ?_ | refine blk_alloc ?_ _)); exact BK361.out⟩
           have n9_ : Aside0 ((((w80.setCell ⟨gb367, 0, none⟩ (.string t363)).setCell ⟨gb367, 1, none⟩ (.string t364)).setCell ⟨gb367, 2, none⟩ (.bool t365)).heap[gb367]? = some (.cells #[.string t363, .string t364, .bool t365] 33 (0, 0))) := ⟨by (with_reducible repeat (first | refine blk_drewN ?_ _ | refine blk_drew ?_ | refine blk_alloc ?_ _)); refine blk_put (cs := #[.string t363, .string t364, .bool false]) ?_ 2 _ rfl; (with_reducible repeat (first | refine blk_drewN ?_ _ | refine blk_drew ?_ | refine blk_alloc ?_ _)); refine blk_put (cs := #[.string t363, .string (⟨#[]⟩ : ByteArray), .bool false]) ?_ 1 _ rfl; (with_reducible repeat (first | refine blk_drewN ?_ _ | refine blk_drew ?_ | refine blk_alloc ?_ _)); refine blk_put (cs := #[.string (⟨#[]⟩ : ByteArray), .string (⟨#[]⟩ : ByteArray), .bool false]) ?_ 0 _ rfl; (with_reducible repeat (first | refine blk_drewN ?_ _ | refine blk_drew ?_ | refine blk_alloc ?_ _)); exact BK367.out⟩
           have n10_ : Aside0 (Below w.heap.size w (((w80.setCell ⟨gb367, 0, none⟩ (.string t363)).setCell ⟨gb367, 1, none⟩ (.string t364)).setCell ⟨gb367, 2, none⟩ (.bool t365))) := ⟨(mH7 HB.out GE340.out GE341.out GE346.out GE351.out GE356.out GE361.out GE367.out)⟩
           (try clear HO_341000)
           (try clear HO_347000)
           (try clear HO_352000)
           (try clear BK340)
           (try clear BK341)
           (try clear BK346)
           (try clear BK351)
           (try clear BK356)
           (try clear BK361)
           (try clear BK367)
           (try clear HB)
           generalize (((w80.setCell ⟨gb367, 0, none⟩ (.string t363)).setCell ⟨gb367, 1, none⟩ (.string t364)).setCell ⟨gb367, 2, none⟩ (.bool t365)) = w90 at n0_ n1_ n2_ n3_ n4_ n5_ n6_ n7_ n8_ n9_ n10_ ⊢
           have HO_341000 := n0_
           have HO_347000 := n1_
           have HO_352000 := n2_
           have BK340 := n3_
           have BK341 := n4_
           have BK346 := n5_
           have BK351 := n6_
           have BK356 := n7_
           have BK361 := n8_
           have BK367 := n9_
           have HB := n10_
           clear n0_ n1_ n2_ n3_ n4_ n5_ n6_ n7_ n8_ n9_ n10_
           have n0_ := mS (Kd.R_drew HO_341000.out)
           have n1_ := mS (Kd.R_drew HO_347000.out)
           have n2_ := mS (Kd.R_drew HO_352000.out)
           have n3_ := mS (blk_drew BK340.out)
           have n4_ := mS (blk_drew BK341.out)
           have n5_ := mS (blk_drew BK346.out)
           have n6_ := mS (blk_drew BK351.out)
           have n7_ := mS (blk_drew BK356.out)
           have n8_ := mS (blk_drew BK361.out)
           have n9_ := mS (blk_drew BK367.out)
           have n10_ := mS (below_drew1 HB.out)
           clear HO_341000
           clear HO_347000
           clear HO_352000
           clear BK340
           clear BK341
           clear BK346
           clear BK351
           clear BK356
           clear BK361
           clear BK367
           clear HB
           have HO_341000 := n0_
           have HO_347000 := n1_
           have HO_352000 := n2_
           have BK340 := n3_
           have BK341 := n4_
           have BK346 := n5_
           have BK351 := n6_
           have BK356 := n7_
           have BK361 := n8_
           have BK367 := n9_
           have HB := n10_
           clear n0_ n1_ n2_ n3_ n4_ n5_ n6_ n7_ n8_ n9_ n10_
           refine start_ (n := 24) (S := fun w' => True) (ds := []) (mb 0 24) (by kernel_rfl) rfl rfl trivial (fun hHeld => ?_); refine with_tabW laws_FnMem.tab14 laws_FnMem.bits14 (fun HT_ HW_ => ?_)
           generalize w90.drew = w91 at HO_341000 HO_347000 HO_352000 BK340 BK341 BK346 BK351 BK356 BK361 BK367 HB hHeld ⊢
           refine pure_ (i := 0) (N := some 91) (v := ?_) (a' := ?_) (mb 1 23) rfl rfl (any_of HT_.out (by kernel_rfl)) (fun _ _ _ h => h) (Or.inl ⟨by rfl, ?_⟩) ?_ ?_
           rotate_left
           ·intro w'
            go_simp
            with_reducible rfl
           rotate_left
           ·simp only [Act.put, zA, zB, zC, i64_w, i32_w]
            rfl
           refine pure_ (i := 1) (N := some 92) (v := ?_) (a' := ?_) (mb 2 22) rfl rfl (any_of HT_.out (by kernel_rfl)) (fun _ _ _ h => h) (Or.inl ⟨by rfl, ?_⟩) ?_ ?_
           rotate_left
           ·intro w'
            go_simp
            with_reducible rfl
           rotate_left
           ·simp only [Act.put, zA, zB, zC, i64_w, i32_w]
            rfl
           refine pure_ (i := 2) (N := some 93) (v := ?_) (a' := ?_) (mb 3 21) rfl rfl (any_of HT_.out (by kernel_rfl)) (fun _ _ _ h => h) (Or.inl ⟨by rfl, ?_⟩) ?_ ?_
           rotate_left
           ·intro w'
            go_simp
            with_reducible rfl
           rotate_left
           ·simp only [Act.put, zA, zB, zC, i64_w, i32_w]
            rfl
           refine pure_ (i := 3) (N := some 94) (v := undef) (a' := ?_) (mb 4 20) rfl rfl (any_of HT_.out (by kernel_rfl)) (fun _ _ _ h => h) (Or.inr ⟨by rfl, rfl⟩) ?_ ?_
           rotate_left
           ·simp only [Act.put, zA, zB, zC, i64_w, i32_w]
            rfl
           refine pure_ (i := 4) (N := some 95) (v := undef) (a' := ?_) (mb 5 19) rfl rfl (any_of HT_.out (by kernel_rfl)) (fun _ _ _ h => h) (Or.inr ⟨by rfl, rfl⟩) ?_ ?_
           rotate_left
           ·simp only [Act.put, zA, zB, zC, i64_w, i32_w]
            rfl
           refine pure_ (i := 5) (N := some 96) (v := undef) (a' := ?_) (mb 6 18) rfl rfl (any_of HT_.out (by kernel_rfl)) (fun _ _ _ h => h) (Or.inr ⟨by rfl, rfl⟩) ?_ ?_
           rotate_left
           ·simp only [Act.put, zA, zB, zC, i64_w, i32_w]
            rfl
           refine pure_ (i := 6) (N := some 97) (v := undef) (a' := ?_) (mb 7 17) rfl rfl (any_of HT_.out (by kernel_rfl)) (fun _ _ _ h => h) (Or.inr ⟨by rfl, rfl⟩) ?_ ?_
           rotate_left
           ·simp only [Act.put, zA, zB, zC, i64_w, i32_w]
            rfl
           refine pure_ (i := 7) (N := some 98) (v := undef) (a' := ?_) (mb 8 16) rfl rfl (any_of HT_.out (by kernel_rfl)) (fun _ _ _ h => h) (Or.inr ⟨by rfl, rfl⟩) ?_ ?_
           rotate_left
           ·simp only [Act.put, zA, zB, zC, i64_w, i32_w]
            rfl
           refine pure_ (i := 8) (N := some 99) (v := undef) (a' := ?_) (mb 9 15) rfl rfl (any_of HT_.out (by kernel_rfl)) (fun _ _ _ h => h) (Or.inr ⟨by rfl, rfl⟩) ?_ ?_
           rotate_left
           ·simp only [Act.put, zA, zB, zC, i64_w, i32_w]
            rfl
           refine pure_ (i := 9) (N := some 100) (v := undef) (a' := ?_) (mb 10 14) rfl rfl (any_of HT_.out (by kernel_rfl)) (fun _ _ _ h => h) (Or.inr ⟨by rfl, rfl⟩) ?_ ?_
           rotate_left
           ·simp only [Act.put, zA, zB, zC, i64_w, i32_w]
            rfl
           refine pure_ (i := 10) (N := some 101) (v := undef) (a' := ?_) (mb 11 13) rfl rfl (any_of HT_.out (by kernel_rfl)) (fun _ _ _ h => h) (Or.inr ⟨by rfl, rfl⟩) ?_ ?_
           rotate_left
           ·simp only [Act.put, zA, zB, zC, i64_w, i32_w]
            rfl
           refine pure_ (i := 11) (N := some 102) (v := undef) (a' := ?_) (mb 12 12) rfl rfl (any_of HT_.out (by kernel_rfl)) (fun _ _ _ h => h) (Or.inr ⟨by rfl, rfl⟩) ?_ ?_
           rotate_left
           ·simp only [Act.put, zA, zB, zC, i64_w, i32_w]
            rfl
           refine pure_ (i := 12) (N := some 103) (v := undef) (a' := ?_) (mb 13 11) rfl rfl (any_of HT_.out (by kernel_rfl)) (fun _ _ _ h => h) (Or.inr ⟨by rfl, rfl⟩) ?_ ?_
           rotate_left
           ·simp only [Act.put, zA, zB, zC, i64_w, i32_w]
            rfl
           refine pure_ (i := 13) (N := some 104) (v := undef) (a' := ?_) (mb 14 10) rfl rfl (any_of HT_.out (by kernel_rfl)) (fun _ _ _ h => h) (Or.inr ⟨by rfl, rfl⟩) ?_ ?_
           rotate_left
           ·simp only [Act.put, zA, zB, zC, i64_w, i32_w]
            rfl
           refine pure_ (i := 14) (N := some 105) (v := undef) (a' := ?_) (mb 15 9) rfl rfl (any_of HT_.out (by kernel_rfl)) (fun _ _ _ h => h) (Or.inr ⟨by rfl, rfl⟩) ?_ ?_
           rotate_left
           ·simp only [Act.put, zA, zB, zC, i64_w, i32_w]
            rfl
           refine pure_ (i := 15) (N := some 106) (v := undef) (a' := ?_) (mb 16 8) rfl rfl (any_of HT_.out (by kernel_rfl)) (fun _ _ _ h => h) (Or.inr ⟨by rfl, rfl⟩) ?_ ?_
           rotate_left
           ·simp only [Act.put, zA, zB, zC, i64_w, i32_w]
            rfl
           refine pure_ (i := 16) (N := some 107) (v := undef) (a' := ?_) (mb 17 7) rfl rfl (any_of HT_.out (by kernel_rfl)) (fun _ _ _ h => h) (Or.inr ⟨by rfl, rfl⟩) ?_ ?_
           rotate_left
           ·simp only [Act.put, zA, zB, zC, i64_w, i32_w]
            rfl
           refine pure_ (i := 17) (N := some 108) (v := undef) (a' := ?_) (mb 18 6) rfl rfl (any_of HT_.out (by kernel_rfl)) (fun _ _ _ h => h) (Or.inr ⟨by rfl, rfl⟩) ?_ ?_
           rotate_left
           ·simp only [Act.put, zA, zB, zC, i64_w, i32_w]
            rfl
           refine pure_ (i := 18) (N := some 109) (v := undef) (a' := ?_) (mb 19 5) rfl rfl (any_of HT_.out (by kernel_rfl)) (fun _ _ _ h => h) (Or.inr ⟨by rfl, rfl⟩) ?_ ?_
           rotate_left
           ·simp only [Act.put, zA, zB, zC, i64_w, i32_w]
            rfl
           refine pure_ (i := 19) (N := some 110) (v := undef) (a' := ?_) (mb 20 4) rfl rfl (any_of HT_.out (by kernel_rfl)) (fun _ _ _ h => h) (Or.inr ⟨by rfl, rfl⟩) ?_ ?_
           rotate_left
           ·simp only [Act.put, zA, zB, zC, i64_w, i32_w]
            rfl
           refine pure_ (i := 20) (N := some 111) (v := undef) (a' := ?_) (mb 21 3) rfl rfl (any_of HT_.out (by kernel_rfl)) (fun _ _ _ h => h) (Or.inr ⟨by rfl, rfl⟩) ?_ ?_
           rotate_left
           ·simp only [Act.put, zA, zB, zC, i64_w, i32_w]
            rfl
           refine pure_ (i := 21) (N := some 112) (v := undef) (a' := ?_) (mb 22 2) rfl rfl (any_of HT_.out (by kernel_rfl)) (fun _ _ _ h => h) (Or.inr ⟨by rfl, rfl⟩) ?_ ?_
           rotate_left
           ·simp only [Act.put, zA, zB, zC, i64_w, i32_w]
            rfl
           refine pure_ (i := 22) (N := some 113) (v := undef) (a' := ?_) (mb 23 1) rfl rfl (any_of HT_.out (by kernel_rfl)) (fun _ _ _ h => h) (Or.inr ⟨by rfl, rfl⟩) ?_ ?_
           rotate_left
           ·simp only [Act.put, zA, zB, zC, i64_w, i32_w]
            rfl
           refine pure_ (i := 23) (N := some 114) (v := ?_) (a' := ?_) (mb 24 0) rfl rfl (any_of HT_.out (by kernel_rfl)) (fun _ _ _ h => h) (Or.inl ⟨by rfl, ?_⟩) ?_ ?_
           rotate_left
           ·intro w'
            go_simp
            with_reducible rfl
           rotate_left
           ·simp only [Act.put, zA, zB, zC, i64_w, i32_w]
            rfl
           refine done_ (done_of HT_.out (by kernel_rfl)) ?_
           try go_wp2
           go_meet
           case rel => exact ⟨_, (true), (by first | rfl | (simp; done) | (simp [*]; done)), H', ⟨by have := HJ6.out; have := HK2.out; first | omega | exact Nat.le_refl _⟩, ⟨by (with_reducible repeat (first | apply Kd.R_alloc | apply Kd.R_drewN | apply Kd.R_drew)); exact HO_341000.out⟩, ⟨by (with_reducible repeat (first | apply Kd.R_alloc | apply Kd.R_drewN | apply Kd.R_drew)); exact HO_347000.out⟩, ⟨by (with_reducible repeat (first | apply Kd.R_alloc | apply Kd.R_drewN | apply Kd.R_drew)); exact HO_352000.out⟩, ⟨by (with_reducible repeat (first | refine blk_drewN ?_ _ | refine blk_drew ?_ | refine blk_alloc ?_ _)); exact BK340.out⟩, ⟨by (with_reducible repeat (first | refine blk_drewN ?_ _ | refine blk_drew ?_ | refine blk_alloc ?_ _)); exact BK341.out⟩, ⟨by (with_reducible repeat (first | refine blk_drewN ?_ _ | refine blk_drew ?_ | refine blk_alloc ?_ _)); exact BK346.out⟩, ⟨by (with_reducible repeat (first | refine blk_drewN ?_ _ | refine blk_drew ?_ | refine blk_alloc ?_ _)); exact BK351.out⟩, ⟨by (with_reducible repeat (first | refine blk_drewN ?_ _ | refine blk_drew ?_ | refine blk_alloc ?_ _)); exact BK356.out⟩, ⟨by (with_reducible repeat (first | refine blk_drewN ?_ _ | refine blk_drew ?_ | refine blk_alloc ?_ _)); exact BK361.out⟩, ⟨by (with_reducible repeat (first | refine blk_drewN ?_ _ | refine blk_drew ?_ | refine blk_alloc ?_ _)); exact BK367.out⟩, ⟨(mH7 HB.out GE340.out GE341.out GE346.out GE351.out GE356.out GE361.out GE367.out)⟩⟩
         case rest =>
          clear HC70
          try clear p2
          try clear p3
          try clear q3
          try clear hx3
          try clear c8
          try clear p36
          try clear q36
          try clear hx36
          try clear c84
          try clear c85
          try clear c85b0
          try clear c85b1
          try clear hx368_0
          try clear hx368_1
          try clear hx368_2
          try clear hx368_3
          try clear hx369_0
          try clear hx369_1
          try clear hx369_2
          try clear hx369_3
          try clear p368
          try clear p369
          try clear q368
          try clear q369
          obtain ⟨kq, x114_69, rfl, HA, HJ69, HO_341000, HO_347000, HO_352000, BK340, BK341, BK346, BK351, BK356, BK361, BK367, HB⟩ := hcut
          cases kq with
          | zero => exact absurd HA.out (by simp [laws_FnMem.j2])
          | succ kj69 =>
           have H := HA.out
           clear HA
           simp only [laws_FnMem.j2] at H
           by_cases c92 : x114_69 = true
           ·subst c92
            have H1 : (some false) = some r := by rw [if_pos rfl] at H; exact H
            clear H
            have H := H1
            clear H1
            obtain rfl := Option.some.inj H
            go_wp2
            go_ret
            exact ⟨by first | rfl | (simp [errW_none, errW_some] <;> rfl) | (simp [*, errW_none, errW_some] <;> rfl), (mH7 HB.out GE340.out GE341.out GE346.out GE351.out GE356.out GE361.out GE367.out)⟩
           ·replace c92 := Bool.eq_false_iff.mpr c92
            subst c92
            have H1 : (laws_FnMem.l0 kj69 t355 t360 (wrap64 (x14_2 + 1)) t333 t336 t337 t338 t342 t352 t353 t354) = some r := by rw [if_neg (show ¬ (false = true) by decide)] at H; exact H
            clear H
            have H := H1
            clear H1
            have H' := mS H
            clear H
            go_wp2
            go_roundg kj69
            case measure => have := HJ6.out; have := HK2.out; have := HJ69.out; omega
            case rel => exact ⟨(wrap64 (x14_2 + 1)), (by first | rfl | (simp; done) | (simp [*]; done)), H', ⟨by have := HJ6.out; have := HK2.out; have := HJ69.out; omega⟩, ⟨by (with_reducible repeat (first | apply Kd.R_alloc | apply Kd.R_drewN | apply Kd.R_drew)); exact HO_341000.out⟩, ⟨by (with_reducible repeat (first | apply Kd.R_alloc | apply Kd.R_drewN | apply Kd.R_drew)); exact HO_347000.out⟩, ⟨by (with_reducible repeat (first | apply Kd.R_alloc | apply Kd.R_drewN | apply Kd.R_drew)); exact HO_352000.out⟩, ⟨by (with_reducible repeat (first | refine blk_drewN ?_ _ | refine blk_drew ?_ | refine blk_alloc ?_ _)); exact BK340.out⟩, ⟨by (with_reducible repeat (first | refine blk_drewN ?_ _ | refine blk_drew ?_ | refine blk_alloc ?_ _)); exact BK341.out⟩, ⟨by (with_reducible repeat (first | refine blk_drewN ?_ _ | refine blk_drew ?_ | refine blk_alloc ?_ _)); exact BK346.out⟩, ⟨by (with_reducible repeat (first | refine blk_drewN ?_ _ | refine blk_drew ?_ | refine blk_alloc ?_ _)); exact BK351.out⟩, ⟨by (with_reducible repeat (first | refine blk_drewN ?_ _ | refine blk_drew ?_ | refine blk_alloc ?_ _)); exact BK356.out⟩, ⟨by (with_reducible repeat (first | refine blk_drewN ?_ _ | refine blk_drew ?_ | refine blk_alloc ?_ _)); exact BK361.out⟩, ⟨(mH7 HB.out GE340.out GE341.out GE346.out GE351.out GE356.out GE361.out GE367.out)⟩⟩
        ·rw [if_neg c68] at H
         exact absurd H (by simp)
       ·rw [if_neg c67] at H
        have c67b0 : decide (x14_2 < (t333.length : Int)) = false := decide_eq_false c67
        clear c67
        by_cases c93 : t355 = true
        ·subst c93
         have H1 : (if (t352.toList == t336.toList && (t353.toList == t337.toList && (t354 == t338))) = true then ((impl_MemOk.f k2 t342).bind fun t370 => (if t370 = true then ((impl_PairOk.f t336 t337 t338).bind fun t371 => (if t371 = true then (some (((t342.length : Int) == (t333.length : Int)) == t360)) else (some false))) else (some false))) else (some false)) = some r := by rw [if_pos rfl] at H; exact H
         clear H
         have H := H1
         clear H1
         by_cases c94 : (t352.toList == t336.toList && (t353.toList == t337.toList && (t354 == t338))) = true
         ·rw [if_pos c94] at H
          have c94b0 : (t352.toList == t336.toList && (t353.toList == t337.toList && (t354 == t338))) = true := c94
          (try (have c94b1 : decide (t352.toList = t336.toList && (t353.toList == t337.toList && (t354 == t338))) = true := by simpa using c94))
          (try (have c94b2 : (t352.toList == t336.toList && (t353.toList == t337.toList && (t354 == t338))) = true := by simpa using c94))
          clear c94
          replace H := Option.bind_eq_some_iff.mp H
          obtain ⟨t370, A950, H⟩ := H
          replace H : (if t370 = true then ((impl_PairOk.f t336 t337 t338).bind fun t371 => (if t371 = true then (some (((t342.length : Int) == (t333.length : Int)) == t360)) else (some false))) else (some false)) = some r := H
          have A95 := mS A950
          clear A950
          by_cases c96 : t370 = true
          ·subst c96
           have H1 : ((impl_PairOk.f t336 t337 t338).bind fun t371 => (if t371 = true then (some (((t342.length : Int) == (t333.length : Int)) == t360)) else (some false))) = some r := by rw [if_pos rfl] at H; exact H
           clear H
           have H := H1
           clear H1
           replace H := Option.bind_eq_some_iff.mp H
           obtain ⟨t371, A970, H⟩ := H
           replace H : (if t371 = true then (some (((t342.length : Int) == (t333.length : Int)) == t360)) else (some false)) = some r := H
           have A97 := mS A970
           clear A970
           by_cases c98 : t371 = true
           ·subst c98
            have H1 : (some (((t342.length : Int) == (t333.length : Int)) == t360)) = some r := by rw [if_pos rfl] at H; exact H
            clear H
            have H := H1
            clear H1
            obtain rfl := Option.some.inj H
            have hnb99 := NB340_341.out
            have hnc99 := NB341_340.out
            have hnb100 := NB340_346.out
            have hnc100 := NB346_340.out
            have hnb101 := NB340_351.out
            have hnc101 := NB351_340.out
            have hnb102 := NB340_356.out
            have hnc102 := NB356_340.out
            have hnb103 := NB340_361.out
            have hnc103 := NB361_340.out
            have hcz104_0 := mZ BK340.out 0
            have hfz104_0 := blk_frozen BK340.out 0
            have hnb105 := NB356_341.out
            have hnc105 := NB341_356.out
            have hnb106 := NB356_346.out
            have hnc106 := NB346_356.out
            have hnb107 := NB356_351.out
            have hnc107 := NB351_356.out
            have hnb108 := NB356_361.out
            have hnc108 := NB361_356.out
            have hcz109_0 := mZ BK356.out 0
            have hcz109_1 := mZ BK356.out 1
            have hcz109_2 := mZ BK356.out 2
            have hfz109_0 := blk_frozen BK356.out 0
            have hfz109_1 := blk_frozen BK356.out 1
            have hfz109_2 := blk_frozen BK356.out 2
            have hnb110 := NB341_346.out
            have hnc110 := NB346_341.out
            have hnb111 := NB341_351.out
            have hnc111 := NB351_341.out
            have hnb112 := NB341_361.out
            have hnc112 := NB361_341.out
            have hcz113_0 := mZ BK341.out 0
            have hcz113_1 := mZ BK341.out 1
            have hcz113_2 := mZ BK341.out 2
            have hfz113_0 := blk_frozen BK341.out 0
            have hfz113_1 := blk_frozen BK341.out 1
            have hfz113_2 := blk_frozen BK341.out 2
            have hnb114 := NB346_351.out
            have hnc114 := NB351_346.out
            have hnb115 := NB346_361.out
            have hnc115 := NB361_346.out
            have hcz116_0 := mZ BK346.out 0
            have hfz116_0 := blk_frozen BK346.out 0
            go_wp2_with (first | (go_at_call 18; (with_reducible refine (impl_MemOk.calls k2 _ _ t342 true _ ?side1 ?side2 A95.out).mono ?_); (case side1 => repeat (first | exact (Kd.R_reads' HO_347000.out).2.2 | (with_reducible refine Kd.C_alloc ?_ _) | (with_reducible refine Kd.C_drewN ?_ _) | (with_reducible refine Kd.C_drew ?_))); (case side2 => exact (Kd.R_reads' HO_347000.out).2.1); rintro e w117 ⟨rfl, hb⟩; replace HO_341000 := mS (Kd.R_below (mR HO_341000.out) hb); replace HO_347000 := mS (Kd.R_below (mR HO_347000.out) hb); replace HO_352000 := mS (Kd.R_below (mR HO_352000.out) hb); replace BK340 := mB BK340 hb; replace BK341 := mB BK341 hb; replace BK346 := mB BK346 hb; replace BK351 := mB BK351 hb; replace BK356 := mB BK356 hb; replace BK361 := mB BK361 hb; replace HB := mS (below_step (mH6 HB.out GE340.out GE341.out GE346.out GE351.out GE356.out GE361.out) hb); (try clear hb); (try clear hb2); (try clear hk); (try clear hi); have hcz118_0 := mZ BK341.out 0; have hcz118_1 := mZ BK341.out 1; have hcz118_2 := mZ BK341.out 2; have hfz118_0 := blk_frozen BK341.out 0; have hfz118_1 := blk_frozen BK341.out 1; have hfz118_2 := blk_frozen BK341.out 2) | (go_at_call 23; (with_reducible refine (impl_PairOk.calls t336 t337 t338 true _ A97.out).mono ?_); rintro e w119 ⟨rfl, hb⟩; replace HO_341000 := mS (Kd.R_below (mR HO_341000.out) hb); replace HO_347000 := mS (Kd.R_below (mR HO_347000.out) hb); replace HO_352000 := mS (Kd.R_below (mR HO_352000.out) hb); replace BK340 := mB BK340 hb; replace BK341 := mB BK341 hb; replace BK346 := mB BK346 hb; replace BK351 := mB BK351 hb; replace BK356 := mB BK356 hb; replace BK361 := mB BK361 hb; replace HB := mS (below_step (mH6 HB.out GE340.out GE341.out GE346.out GE351.out GE356.out GE361.out) hb); (try clear hb); (try clear hb2); (try clear hk); (try clear hi); have hcz120_0 := mZ BK346.out 0; have hfz120_0 := blk_frozen BK346.out 0; have hcz121_0 := mZ BK340.out 0; have hfz121_0 := blk_frozen BK340.out 0))
            go_ret
            exact ⟨by first | rfl | (simp [errW_none, errW_some] <;> rfl) | (simp [*, errW_none, errW_some] <;> rfl), (mH6 HB.out GE340.out GE341.out GE346.out GE351.out GE356.out GE361.out)⟩
           ·replace c98 := Bool.eq_false_iff.mpr c98
            subst c98
            have H1 : (some false) = some r := by rw [if_neg (show ¬ (false = true) by decide)] at H; exact H
            clear H
            have H := H1
            clear H1
            obtain rfl := Option.some.inj H
            have hnb122 := NB340_341.out
            have hnc122 := NB341_340.out
            have hnb123 := NB340_346.out
            have hnc123 := NB346_340.out
            have hnb124 := NB340_351.out
            have hnc124 := NB351_340.out
            have hnb125 := NB340_356.out
            have hnc125 := NB356_340.out
            have hnb126 := NB340_361.out
            have hnc126 := NB361_340.out
            have hcz127_0 := mZ BK340.out 0
            have hfz127_0 := blk_frozen BK340.out 0
            have hnb128 := NB356_341.out
            have hnc128 := NB341_356.out
            have hnb129 := NB356_346.out
            have hnc129 := NB346_356.out
            have hnb130 := NB356_351.out
            have hnc130 := NB351_356.out
            have hnb131 := NB356_361.out
            have hnc131 := NB361_356.out
            have hcz132_0 := mZ BK356.out 0
            have hcz132_1 := mZ BK356.out 1
            have hcz132_2 := mZ BK356.out 2
            have hfz132_0 := blk_frozen BK356.out 0
            have hfz132_1 := blk_frozen BK356.out 1
            have hfz132_2 := blk_frozen BK356.out 2
            have hnb133 := NB341_346.out
            have hnc133 := NB346_341.out
            have hnb134 := NB341_351.out
            have hnc134 := NB351_341.out
            have hnb135 := NB341_361.out
            have hnc135 := NB361_341.out
            have hcz136_0 := mZ BK341.out 0
            have hcz136_1 := mZ BK341.out 1
            have hcz136_2 := mZ BK341.out 2
            have hfz136_0 := blk_frozen BK341.out 0
            have hfz136_1 := blk_frozen BK341.out 1
            have hfz136_2 := blk_frozen BK341.out 2
            have hnb137 := NB346_351.out
            have hnc137 := NB351_346.out
            have hnb138 := NB346_361.out
            have hnc138 := NB361_346.out
            have hcz139_0 := mZ BK346.out 0
            have hfz139_0 := blk_frozen BK346.out 0
            go_wp2_with (first | (go_at_call 18; (with_reducible refine (impl_MemOk.calls k2 _ _ t342 true _ ?side1 ?side2 A95.out).mono ?_); (case side1 => repeat (first | exact (Kd.R_reads' HO_347000.out).2.2 | (with_reducible refine Kd.C_alloc ?_ _) | (with_reducible refine Kd.C_drewN ?_ _) | (with_reducible refine Kd.C_drew ?_))); (case side2 => exact (Kd.R_reads' HO_347000.out).2.1); rintro e w140 ⟨rfl, hb⟩; replace HO_341000 := mS (Kd.R_below (mR HO_341000.out) hb); replace HO_347000 := mS (Kd.R_below (mR HO_347000.out) hb); replace HO_352000 := mS (Kd.R_below (mR HO_352000.out) hb); replace BK340 := mB BK340 hb; replace BK341 := mB BK341 hb; replace BK346 := mB BK346 hb; replace BK351 := mB BK351 hb; replace BK356 := mB BK356 hb; replace BK361 := mB BK361 hb; replace HB := mS (below_step (mH6 HB.out GE340.out GE341.out GE346.out GE351.out GE356.out GE361.out) hb); (try clear hb); (try clear hb2); (try clear hk); (try clear hi); have hcz141_0 := mZ BK341.out 0; have hcz141_1 := mZ BK341.out 1; have hcz141_2 := mZ BK341.out 2; have hfz141_0 := blk_frozen BK341.out 0; have hfz141_1 := blk_frozen BK341.out 1; have hfz141_2 := blk_frozen BK341.out 2) | (go_at_call 23; (with_reducible refine (impl_PairOk.calls t336 t337 t338 false _ A97.out).mono ?_); rintro e w142 ⟨rfl, hb⟩; replace HO_341000 := mS (Kd.R_below (mR HO_341000.out) hb); replace HO_347000 := mS (Kd.R_below (mR HO_347000.out) hb); replace HO_352000 := mS (Kd.R_below (mR HO_352000.out) hb); replace BK340 := mB BK340 hb; replace BK341 := mB BK341 hb; replace BK346 := mB BK346 hb; replace BK351 := mB BK351 hb; replace BK356 := mB BK356 hb; replace BK361 := mB BK361 hb; replace HB := mS (below_step (mH6 HB.out GE340.out GE341.out GE346.out GE351.out GE356.out GE361.out) hb); (try clear hb); (try clear hb2); (try clear hk); (try clear hi)))
            go_ret
            exact ⟨by first | rfl | (simp [errW_none, errW_some] <;> rfl) | (simp [*, errW_none, errW_some] <;> rfl), (mH6 HB.out GE340.out GE341.out GE346.out GE351.out GE356.out GE361.out)⟩
          ·replace c96 := Bool.eq_false_iff.mpr c96
           subst c96
           have H1 : (some false) = some r := by rw [if_neg (show ¬ (false = true) by decide)] at H; exact H
           clear H
           have H := H1
           clear H1
           obtain rfl := Option.some.inj H
           have hnb143 := NB340_341.out
           have hnc143 := NB341_340.out
           have hnb144 := NB340_346.out
           have hnc144 := NB346_340.out
           have hnb145 := NB340_351.out
           have hnc145 := NB351_340.out
           have hnb146 := NB340_356.out
           have hnc146 := NB356_340.out
           have hnb147 := NB340_361.out
           have hnc147 := NB361_340.out
           have hcz148_0 := mZ BK340.out 0
           have hfz148_0 := blk_frozen BK340.out 0
           have hnb149 := NB356_341.out
           have hnc149 := NB341_356.out
           have hnb150 := NB356_346.out
           have hnc150 := NB346_356.out
           have hnb151 := NB356_351.out
           have hnc151 := NB351_356.out
           have hnb152 := NB356_361.out
           have hnc152 := NB361_356.out
           have hcz153_0 := mZ BK356.out 0
           have hcz153_1 := mZ BK356.out 1
           have hcz153_2 := mZ BK356.out 2
           have hfz153_0 := blk_frozen BK356.out 0
           have hfz153_1 := blk_frozen BK356.out 1
           have hfz153_2 := blk_frozen BK356.out 2
           have hnb154 := NB341_346.out
           have hnc154 := NB346_341.out
           have hnb155 := NB341_351.out
           have hnc155 := NB351_341.out
           have hnb156 := NB341_361.out
           have hnc156 := NB361_341.out
           have hcz157_0 := mZ BK341.out 0
           have hcz157_1 := mZ BK341.out 1
           have hcz157_2 := mZ BK341.out 2
           have hfz157_0 := blk_frozen BK341.out 0
           have hfz157_1 := blk_frozen BK341.out 1
           have hfz157_2 := blk_frozen BK341.out 2
           have hnb158 := NB346_351.out
           have hnc158 := NB351_346.out
           have hnb159 := NB346_361.out
           have hnc159 := NB361_346.out
           have hcz160_0 := mZ BK346.out 0
           have hfz160_0 := blk_frozen BK346.out 0
           go_wp2_with (first | (go_at_call 18; (with_reducible refine (impl_MemOk.calls k2 _ _ t342 false _ ?side1 ?side2 A95.out).mono ?_); (case side1 => repeat (first | exact (Kd.R_reads' HO_347000.out).2.2 | (with_reducible refine Kd.C_alloc ?_ _) | (with_reducible refine Kd.C_drewN ?_ _) | (with_reducible refine Kd.C_drew ?_))); (case side2 => exact (Kd.R_reads' HO_347000.out).2.1); rintro e w161 ⟨rfl, hb⟩; replace HO_341000 := mS (Kd.R_below (mR HO_341000.out) hb); replace HO_347000 := mS (Kd.R_below (mR HO_347000.out) hb); replace HO_352000 := mS (Kd.R_below (mR HO_352000.out) hb); replace BK340 := mB BK340 hb; replace BK341 := mB BK341 hb; replace BK346 := mB BK346 hb; replace BK351 := mB BK351 hb; replace BK356 := mB BK356 hb; replace BK361 := mB BK361 hb; replace HB := mS (below_step (mH6 HB.out GE340.out GE341.out GE346.out GE351.out GE356.out GE361.out) hb); (try clear hb); (try clear hb2); (try clear hk); (try clear hi)))
           go_ret
           exact ⟨by first | rfl | (simp [errW_none, errW_some] <;> rfl) | (simp [*, errW_none, errW_some] <;> rfl), (mH6 HB.out GE340.out GE341.out GE346.out GE351.out GE356.out GE361.out)⟩
         ·rw [if_neg c94] at H
          have c94b0 : (t352.toList == t336.toList && (t353.toList == t337.toList && (t354 == t338))) = false := by simpa using c94
          (try (have c94b1 : decide (t352.toList = t336.toList && (t353.toList == t337.toList && (t354 == t338))) = false := by simpa using c94))
          (try (have c94b2 : (t352.toList == t336.toList && (t353.toList == t337.toList && (t354 == t338))) = false := by simpa using c94))
          (try (have c94b3 : ¬ (t352.toList = t336.toList && (t353.toList == t337.toList && (t354 == t338))) := by simpa using c94))
          clear c94
          obtain rfl := Option.some.inj H
          have hnb162 := NB340_341.out
          have hnc162 := NB341_340.out
          have hnb163 := NB340_346.out
          have hnc163 := NB346_340.out
          have hnb164 := NB340_351.out
          have hnc164 := NB351_340.out
          have hnb165 := NB340_356.out
          have hnc165 := NB356_340.out
          have hnb166 := NB340_361.out
          have hnc166 := NB361_340.out
          have hcz167_0 := mZ BK340.out 0
          have hfz167_0 := blk_frozen BK340.out 0
          have hnb168 := NB356_341.out
          have hnc168 := NB341_356.out
          have hnb169 := NB356_346.out
          have hnc169 := NB346_356.out
          have hnb170 := NB356_351.out
          have hnc170 := NB351_356.out
          have hnb171 := NB356_361.out
          have hnc171 := NB361_356.out
          have hcz172_0 := mZ BK356.out 0
          have hcz172_1 := mZ BK356.out 1
          have hcz172_2 := mZ BK356.out 2
          have hfz172_0 := blk_frozen BK356.out 0
          have hfz172_1 := blk_frozen BK356.out 1
          have hfz172_2 := blk_frozen BK356.out 2
          have hnb173 := NB341_346.out
          have hnc173 := NB346_341.out
          have hnb174 := NB341_351.out
          have hnc174 := NB351_341.out
          have hnb175 := NB341_361.out
          have hnc175 := NB361_341.out
          have hcz176_0 := mZ BK341.out 0
          have hcz176_1 := mZ BK341.out 1
          have hcz176_2 := mZ BK341.out 2
          have hfz176_0 := blk_frozen BK341.out 0
          have hfz176_1 := blk_frozen BK341.out 1
          have hfz176_2 := blk_frozen BK341.out 2
          go_wp2
          go_ret
          exact ⟨by first | rfl | (simp [errW_none, errW_some] <;> rfl) | (simp [*, errW_none, errW_some] <;> rfl), (mH6 HB.out GE340.out GE341.out GE346.out GE351.out GE356.out GE361.out)⟩
        ·replace c93 := Bool.eq_false_iff.mpr c93
         subst c93
         have H1 : (some false) = some r := by rw [if_neg (show ¬ (false = true) by decide)] at H; exact H
         clear H
         have H := H1
         clear H1
         obtain rfl := Option.some.inj H
         have hnb177 := NB340_341.out
         have hnc177 := NB341_340.out
         have hnb178 := NB340_346.out
         have hnc178 := NB346_340.out
         have hnb179 := NB340_351.out
         have hnc179 := NB351_340.out
         have hnb180 := NB340_356.out
         have hnc180 := NB356_340.out
         have hnb181 := NB340_361.out
         have hnc181 := NB361_340.out
         have hcz182_0 := mZ BK340.out 0
         have hfz182_0 := blk_frozen BK340.out 0
         go_wp2
         go_ret
         exact ⟨by first | rfl | (simp [errW_none, errW_some] <;> rfl) | (simp [*, errW_none, errW_some] <;> rfl), (mH6 HB.out GE340.out GE341.out GE346.out GE351.out GE356.out GE361.out)⟩

end Go.Proofs.Ytbepbgfkajnlbaa.MFnMem
