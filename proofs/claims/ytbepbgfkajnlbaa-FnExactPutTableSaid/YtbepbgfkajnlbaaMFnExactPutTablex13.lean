-- Written by mp.py, this session's own printer (wip/mp.py).
import Derived.Test.YtbepbgfkajnlbaaVMShort
import Derived.Test.YtbepbgfkajnlbaaMFnExactPutTablex0
import Derived.Test.YtbepbgfkajnlbaaMFnExactPutTablex1
import Derived.Test.YtbepbgfkajnlbaaMFnExactPutTablex2
import Derived.Test.YtbepbgfkajnlbaaMFnExactPutTablex6
import Derived.Test.YtbepbgfkajnlbaaMFnExactPutTablex7
import Derived.Test.YtbepbgfkajnlbaaMFnExactPutTablex12
namespace Go.Proofs.Ytbepbgfkajnlbaa.MFnExactPutTable
open Go.RowKit Go.Proofs.YtbepbgfkajnlbaaW.PrintWords Go.Proofs.YtbepbgfkajnlbaaW.PrintLast Go.Proofs.YtbepbgfkajnlbaaW.PrintMore Go.Proofs.Ytbepbgfkajnlbaa.MWords
attribute [local go_sem] max2_int min2_int max_two min_two max_three min_three max_four min_four   -- for this text's walks alone
set_option linter.unusedVariables false
set_option linter.unusedSimpArgs false

/-! ### laws_FnExactPutTable: function 12 -/
def laws_FnExactPutTable.j0 : Nat → List (S84) → List Int → List Int → Bool → Option (Bool)
 | 0, _, _, _, _ => none
 | k + 1, x0, x4, x6, x42 => if x42 = true then (some false) else ((laws_markByteS.f k x6 1).bind fun bt422 => ((laws_heldByteS.f k bt422.2 1).bind fun t424 => (if t424 < 0 then (some false) else (if t424 = bt422.1 then ((laws_toPairS.f k x0).bind fun t425 => ((impl_PutTable.f k t425).bind fun t428 => ((laws_eqByteS.f k t428 x4).bind fun t431 => (if t431 = true then ((laws_heldByteS.f k bt422.2 1).bind fun t432 => (if t432 < 0 then (some false) else (if t432 = bt422.1 then (some true) else (some false)))) else (some false))))) else (some false)))))
def laws_FnExactPutTable.f (k : Nat) (l0 : List (S84)) : Option (Bool) := (laws_szPairS.f k l0 1048576).bind fun t401 => (if t401 < 0 then (some true) else ((laws_toPairS.f k l0).bind fun t402 => ((spec_PutTable.f k t402).bind fun t405 => ((laws_toPairS.f k l0).bind fun t408 => ((impl_PutTable.f k t408).bind fun t411 => ((laws_eqByteS.f k t411 t405).bind fun t414 => (if t414 = true then ((laws_toPairS.f k l0).bind fun t415 => ((laws_eqPairS.f k t408 t415).bind fun t418 => (if t418 = true then ((laws_markPairS.f k t408 1).bind fun bt419 => (if bt419.1 < 0 then (laws_FnExactPutTable.j0 k l0 t405 t411 true) else ((laws_eqByteS.f k t411 t405).bind fun t421 => (laws_FnExactPutTable.j0 k l0 t405 t411 (!t421))))) else (some false)))) else (some false))))))))
theorem laws_FnExactPutTable.mono_l : ∀ k, (∀ y0 y1 y2 y3, LeO (laws_FnExactPutTable.j0 k y0 y1 y2 y3) (laws_FnExactPutTable.j0 (k + 1) y0 y1 y2 y3))
 | 0 => fun _ _ _ _ r h => by simp [laws_FnExactPutTable.j0] at h
 | k + 1 => by
  have ih0 := laws_FnExactPutTable.mono_l k
  ·intro y0 y1 y2 y3
   unfold laws_FnExactPutTable.j0
   repeat' first
   | (with_reducible exact ih0 _ _ _ _)
   | (with_reducible exact impl_PutTable.mono _ _)
   | (with_reducible exact laws_eqByteS.mono _ _ _)
   | (with_reducible exact laws_eqPairS.mono _ _ _)
   | (with_reducible exact laws_heldByteS.mono _ _ _)
   | (with_reducible exact laws_markByteS.mono _ _ _)
   | (with_reducible exact laws_markPairS.mono _ _ _)
   | (with_reducible exact laws_szPairS.mono _ _ _)
   | (with_reducible exact laws_toPairS.mono _ _)
   | (with_reducible exact spec_PutTable.mono _ _)
   | (with_reducible exact LeO.refl _)
   | (with_reducible exact LeO.none _)
   | (with_reducible refine LeO.ite ?_ ?_)
   | (with_reducible refine LeO.bind ?_ (fun _ => ?_))
   | exact ih0 _ _ _ _
   | exact impl_PutTable.mono _ _
   | exact laws_eqByteS.mono _ _ _
   | exact laws_eqPairS.mono _ _ _
   | exact laws_heldByteS.mono _ _ _
   | exact laws_markByteS.mono _ _ _
   | exact laws_markPairS.mono _ _ _
   | exact laws_szPairS.mono _ _ _
   | exact laws_toPairS.mono _ _
   | exact spec_PutTable.mono _ _
   | exact LeO.none _
   | refine LeO.ite ?_ ?_
   | refine LeO.bind ?_ (fun _ => ?_)
theorem laws_FnExactPutTable.mono : ∀ a0 k, LeO (laws_FnExactPutTable.f k a0) (laws_FnExactPutTable.f (k + 1) a0) := by
 intro a0 k
 have ih0 := laws_FnExactPutTable.mono_l k
 unfold laws_FnExactPutTable.f
 repeat' first
   | (with_reducible exact ih0 _ _ _ _)
   | (with_reducible exact impl_PutTable.mono _ _)
   | (with_reducible exact laws_eqByteS.mono _ _ _)
   | (with_reducible exact laws_eqPairS.mono _ _ _)
   | (with_reducible exact laws_heldByteS.mono _ _ _)
   | (with_reducible exact laws_markByteS.mono _ _ _)
   | (with_reducible exact laws_markPairS.mono _ _ _)
   | (with_reducible exact laws_szPairS.mono _ _ _)
   | (with_reducible exact laws_toPairS.mono _ _)
   | (with_reducible exact spec_PutTable.mono _ _)
   | (with_reducible exact LeO.refl _)
   | (with_reducible exact LeO.none _)
   | (with_reducible refine LeO.ite ?_ ?_)
   | (with_reducible refine LeO.bind ?_ (fun _ => ?_))
   | exact ih0 _ _ _ _
   | exact impl_PutTable.mono _ _
   | exact laws_eqByteS.mono _ _ _
   | exact laws_eqPairS.mono _ _ _
   | exact laws_heldByteS.mono _ _ _
   | exact laws_markByteS.mono _ _ _
   | exact laws_markPairS.mono _ _ _
   | exact laws_szPairS.mono _ _ _
   | exact laws_toPairS.mono _ _
   | exact spec_PutTable.mono _ _
   | exact LeO.none _
   | refine LeO.ite ?_ ?_
   | refine LeO.bind ?_ (fun _ => ?_)
set_option maxHeartbeats 8000000 in
set_option maxRecDepth 100000 in
theorem laws_FnExactPutTable.calls (k : Nat) (A0 : Option Addr) (c0 : Nat) (l0 : List (S84)) (r : Bool) (w : World) (hr0 : Kd.C k84 w A0 l0.length l0) (hc0 : l0.length ≤ c0) (h : laws_FnExactPutTable.f k l0 = some r) :
  Calls Try.prog 12 #[.slice A0 l0.length c0] w fun e w' => e = .returned (.bool r) ∧ Below w.heap.size w w' := by
 have HR0 := mS hr0
 have HC0 := mS hc0
 clear hr0 hc0
 have HB := mS (Below.refl w.heap.size w)
 have H : ((laws_szPairS.f k l0 1048576).bind fun t401 => (if t401 < 0 then (some true) else ((laws_toPairS.f k l0).bind fun t402 => ((spec_PutTable.f k t402).bind fun t405 => ((laws_toPairS.f k l0).bind fun t408 => ((impl_PutTable.f k t408).bind fun t411 => ((laws_eqByteS.f k t411 t405).bind fun t414 => (if t414 = true then ((laws_toPairS.f k l0).bind fun t415 => ((laws_eqPairS.f k t408 t415).bind fun t418 => (if t418 = true then ((laws_markPairS.f k t408 1).bind fun bt419 => (if bt419.1 < 0 then (laws_FnExactPutTable.j0 k l0 t405 t411 true) else ((laws_eqByteS.f k t411 t405).bind fun t421 => (laws_FnExactPutTable.j0 k l0 t405 t411 (!t421))))) else (some false)))) else (some false))))))))) = some r := h
 clear h
 replace H := Option.bind_eq_some_iff.mp H
 obtain ⟨t401, A20, H⟩ := H
 replace H : (if t401 < 0 then (some true) else ((laws_toPairS.f k l0).bind fun t402 => ((spec_PutTable.f k t402).bind fun t405 => ((laws_toPairS.f k l0).bind fun t408 => ((impl_PutTable.f k t408).bind fun t411 => ((laws_eqByteS.f k t411 t405).bind fun t414 => (if t414 = true then ((laws_toPairS.f k l0).bind fun t415 => ((laws_eqPairS.f k t408 t415).bind fun t418 => (if t418 = true then ((laws_markPairS.f k t408 1).bind fun bt419 => (if bt419.1 < 0 then (laws_FnExactPutTable.j0 k l0 t405 t411 true) else ((laws_eqByteS.f k t411 t405).bind fun t421 => (laws_FnExactPutTable.j0 k l0 t405 t411 (!t421))))) else (some false)))) else (some false)))))))) = some r := H
 have A2 := mS A20
 clear A20
 by_cases c3 : t401 < 0
 ·rw [if_pos c3] at H
  have c3b0 : decide (t401 < 0) = true := decide_eq_true c3
  clear c3
  obtain rfl := Option.some.inj H
  go_enter Try.func12, Try.ntmps12
  go_wp2_with (first | ((with_reducible refine gate_callee (f := 66) rfl ?_); refine goesL_ (some 13) rfl rfl Try.func66 (by kernel_rfl) rfl #[.slice A0 l0.length c0, .int .i64 1048576] rfl mA ?_; (with_reducible refine (laws_szPairS.calls k _ _ l0 1048576 t401 _ ?side1 ?side2 A2.out).mono ?_); (case side1 => repeat (first | exact HR0.out | (with_reducible refine Kd.C_alloc ?_ _) | (with_reducible refine Kd.C_drewN ?_ _) | (with_reducible refine Kd.C_drew ?_))); (case side2 => exact HC0.out); rintro e w4 ⟨rfl, hb⟩; refine ⟨_, rfl, ?_⟩; replace HB := mS (below_step (mH HB.out) hb); (try clear hb); (try clear hb2); (try clear hk); (try clear hi)))
  go_ret
  exact ⟨by first | rfl | (simp [errW_none, errW_some] <;> rfl) | (simp [*, errW_none, errW_some] <;> rfl), (mH HB.out)⟩
 ·rw [if_neg c3] at H
  have c3b0 : decide (t401 < 0) = false := decide_eq_false c3
  clear c3
  replace H := Option.bind_eq_some_iff.mp H
  obtain ⟨t402, A50, H⟩ := H
  replace H : ((spec_PutTable.f k t402).bind fun t405 => ((laws_toPairS.f k l0).bind fun t408 => ((impl_PutTable.f k t408).bind fun t411 => ((laws_eqByteS.f k t411 t405).bind fun t414 => (if t414 = true then ((laws_toPairS.f k l0).bind fun t415 => ((laws_eqPairS.f k t408 t415).bind fun t418 => (if t418 = true then ((laws_markPairS.f k t408 1).bind fun bt419 => (if bt419.1 < 0 then (laws_FnExactPutTable.j0 k l0 t405 t411 true) else ((laws_eqByteS.f k t411 t405).bind fun t421 => (laws_FnExactPutTable.j0 k l0 t405 t411 (!t421))))) else (some false)))) else (some false)))))) = some r := H
  have A5 := mS A50
  clear A50
  replace H := Option.bind_eq_some_iff.mp H
  obtain ⟨t405, A60, H⟩ := H
  replace H : ((laws_toPairS.f k l0).bind fun t408 => ((impl_PutTable.f k t408).bind fun t411 => ((laws_eqByteS.f k t411 t405).bind fun t414 => (if t414 = true then ((laws_toPairS.f k l0).bind fun t415 => ((laws_eqPairS.f k t408 t415).bind fun t418 => (if t418 = true then ((laws_markPairS.f k t408 1).bind fun bt419 => (if bt419.1 < 0 then (laws_FnExactPutTable.j0 k l0 t405 t411 true) else ((laws_eqByteS.f k t411 t405).bind fun t421 => (laws_FnExactPutTable.j0 k l0 t405 t411 (!t421))))) else (some false)))) else (some false))))) = some r := H
  have A6 := mS A60
  clear A60
  replace H := Option.bind_eq_some_iff.mp H
  obtain ⟨t408, A70, H⟩ := H
  replace H : ((impl_PutTable.f k t408).bind fun t411 => ((laws_eqByteS.f k t411 t405).bind fun t414 => (if t414 = true then ((laws_toPairS.f k l0).bind fun t415 => ((laws_eqPairS.f k t408 t415).bind fun t418 => (if t418 = true then ((laws_markPairS.f k t408 1).bind fun bt419 => (if bt419.1 < 0 then (laws_FnExactPutTable.j0 k l0 t405 t411 true) else ((laws_eqByteS.f k t411 t405).bind fun t421 => (laws_FnExactPutTable.j0 k l0 t405 t411 (!t421))))) else (some false)))) else (some false)))) = some r := H
  have A7 := mS A70
  clear A70
  replace H := Option.bind_eq_some_iff.mp H
  obtain ⟨t411, A80, H⟩ := H
  replace H : ((laws_eqByteS.f k t411 t405).bind fun t414 => (if t414 = true then ((laws_toPairS.f k l0).bind fun t415 => ((laws_eqPairS.f k t408 t415).bind fun t418 => (if t418 = true then ((laws_markPairS.f k t408 1).bind fun bt419 => (if bt419.1 < 0 then (laws_FnExactPutTable.j0 k l0 t405 t411 true) else ((laws_eqByteS.f k t411 t405).bind fun t421 => (laws_FnExactPutTable.j0 k l0 t405 t411 (!t421))))) else (some false)))) else (some false))) = some r := H
  have A8 := mS A80
  clear A80
  replace H := Option.bind_eq_some_iff.mp H
  obtain ⟨t414, A90, H⟩ := H
  replace H : (if t414 = true then ((laws_toPairS.f k l0).bind fun t415 => ((laws_eqPairS.f k t408 t415).bind fun t418 => (if t418 = true then ((laws_markPairS.f k t408 1).bind fun bt419 => (if bt419.1 < 0 then (laws_FnExactPutTable.j0 k l0 t405 t411 true) else ((laws_eqByteS.f k t411 t405).bind fun t421 => (laws_FnExactPutTable.j0 k l0 t405 t411 (!t421))))) else (some false)))) else (some false)) = some r := H
  have A9 := mS A90
  clear A90
  by_cases c10 : t414 = true
  ·subst c10
   have H1 : ((laws_toPairS.f k l0).bind fun t415 => ((laws_eqPairS.f k t408 t415).bind fun t418 => (if t418 = true then ((laws_markPairS.f k t408 1).bind fun bt419 => (if bt419.1 < 0 then (laws_FnExactPutTable.j0 k l0 t405 t411 true) else ((laws_eqByteS.f k t411 t405).bind fun t421 => (laws_FnExactPutTable.j0 k l0 t405 t411 (!t421))))) else (some false)))) = some r := by rw [if_pos rfl] at H; exact H
   clear H
   have H := H1
   clear H1
   replace H := Option.bind_eq_some_iff.mp H
   obtain ⟨t415, A110, H⟩ := H
   replace H : ((laws_eqPairS.f k t408 t415).bind fun t418 => (if t418 = true then ((laws_markPairS.f k t408 1).bind fun bt419 => (if bt419.1 < 0 then (laws_FnExactPutTable.j0 k l0 t405 t411 true) else ((laws_eqByteS.f k t411 t405).bind fun t421 => (laws_FnExactPutTable.j0 k l0 t405 t411 (!t421))))) else (some false))) = some r := H
   have A11 := mS A110
   clear A110
   replace H := Option.bind_eq_some_iff.mp H
   obtain ⟨t418, A120, H⟩ := H
   replace H : (if t418 = true then ((laws_markPairS.f k t408 1).bind fun bt419 => (if bt419.1 < 0 then (laws_FnExactPutTable.j0 k l0 t405 t411 true) else ((laws_eqByteS.f k t411 t405).bind fun t421 => (laws_FnExactPutTable.j0 k l0 t405 t411 (!t421))))) else (some false)) = some r := H
   have A12 := mS A120
   clear A120
   by_cases c13 : t418 = true
   ·subst c13
    have H1 : ((laws_markPairS.f k t408 1).bind fun bt419 => (if bt419.1 < 0 then (laws_FnExactPutTable.j0 k l0 t405 t411 true) else ((laws_eqByteS.f k t411 t405).bind fun t421 => (laws_FnExactPutTable.j0 k l0 t405 t411 (!t421))))) = some r := by rw [if_pos rfl] at H; exact H
    clear H
    have H := H1
    clear H1
    replace H := Option.bind_eq_some_iff.mp H
    obtain ⟨⟨t419, t420⟩, A140, H⟩ := H
    replace H : (if t419 < 0 then (laws_FnExactPutTable.j0 k l0 t405 t411 true) else ((laws_eqByteS.f k t411 t405).bind fun t421 => (laws_FnExactPutTable.j0 k l0 t405 t411 (!t421)))) = some r := H
    have A14 := mS A140
    clear A140
    have HC15 := mS H
    clear H
    go_enter Try.func12, Try.ntmps12
    go_upto_region 14 with (first | ((with_reducible refine gate_callee (f := 66) rfl ?_); refine goesL_ (some 13) rfl rfl Try.func66 (by kernel_rfl) rfl #[.slice A0 l0.length c0, .int .i64 1048576] rfl mA ?_; (with_reducible refine (laws_szPairS.calls k _ _ l0 1048576 t401 _ ?side1 ?side2 A2.out).mono ?_); (case side1 => repeat (first | exact HR0.out | (with_reducible refine Kd.C_alloc ?_ _) | (with_reducible refine Kd.C_drewN ?_ _) | (with_reducible refine Kd.C_drew ?_))); (case side2 => exact HC0.out); rintro e w16 ⟨rfl, hb⟩; refine ⟨_, rfl, ?_⟩; replace HB := mS (below_step (mH HB.out) hb); (try clear hb); (try clear hb2); (try clear hk); (try clear hi)) | ((with_reducible refine gate_callee (f := 68) rfl ?_); refine goesL_ (some 17) rfl rfl Try.func68 (by kernel_rfl) rfl #[.slice A0 l0.length c0] rfl mA ?_; (with_reducible refine (laws_toPairS.calls k _ _ l0 t402 _ ?side1 ?side2 A5.out).mono ?_); (case side1 => repeat (first | exact (Kd.C_below HR0.out HB.out) | (with_reducible refine Kd.C_alloc ?_ _) | (with_reducible refine Kd.C_drewN ?_ _) | (with_reducible refine Kd.C_drew ?_))); (case side2 => exact HC0.out); rintro e w17 ⟨v403, rfl, ho0, hb⟩; refine ⟨_, rfl, ?_⟩; have HO404 := mS (Kd.R_lower ho0 (below_size (mH HB.out))); replace HB := mS (below_step (mH HB.out) hb); (try clear hb); (try clear hb2); (try clear hk); (try clear hi); (try clear ho0); obtain ⟨Ao18, co18, eo18⟩ := Kd.R_slice HO404.out; subst eo18) | ((with_reducible refine gate_callee (f := 67) rfl ?_); refine goesL_ (some 18) rfl rfl Try.func67 (by kernel_rfl) rfl #[.slice Ao18 t402.length co18] rfl mA ?_; (with_reducible refine (spec_PutTable.calls k _ _ t402 t405 _ ?side1 ?side2 A6.out).mono ?_); (case side1 => repeat (first | exact (Kd.R_reads' HO404.out).2.2 | (with_reducible refine Kd.C_alloc ?_ _) | (with_reducible refine Kd.C_drewN ?_ _) | (with_reducible refine Kd.C_drew ?_))); (case side2 => exact (Kd.R_reads' HO404.out).2.1); rintro e w19 ⟨v406, rfl, ho0, hb⟩; refine ⟨_, rfl, ?_⟩; replace HO404 := mS (Kd.R_below (mR HO404.out) hb); have HO407 := mS (Kd.R_lower ho0 (below_size (mH HB.out))); replace HB := mS (below_step (mH HB.out) hb); (try clear hb); (try clear hb2); (try clear hk); (try clear hi); (try clear ho0)) | ((with_reducible refine gate_callee (f := 68) rfl ?_); refine goesL_ (some 20) rfl rfl Try.func68 (by kernel_rfl) rfl #[.slice A0 l0.length c0] rfl mA ?_; (with_reducible refine (laws_toPairS.calls k _ _ l0 t408 _ ?side1 ?side2 A7.out).mono ?_); (case side1 => repeat (first | exact (Kd.C_below HR0.out HB.out) | (with_reducible refine Kd.C_alloc ?_ _) | (with_reducible refine Kd.C_drewN ?_ _) | (with_reducible refine Kd.C_drew ?_))); (case side2 => exact HC0.out); rintro e w20 ⟨v409, rfl, ho0, hb⟩; refine ⟨_, rfl, ?_⟩; replace HO407 := mS (Kd.R_below (mR HO407.out) hb); have HO410 := mS (Kd.R_lower (Kd.R_new' ho0 (Kd.R_lt (mR HO404.out))) (below_size (mH HB.out))); replace HO404 := mS (Kd.R_elder' (mR HO404.out) (Kd.R_base ho0) hb); replace HB := mS (below_step (mH HB.out) hb); (try clear hb); (try clear hb2); (try clear hk); (try clear hi); (try clear ho0); obtain ⟨Ao21, co21, eo21⟩ := Kd.R_slice HO410.out; subst eo21) | ((with_reducible refine gate_callee (f := 69) rfl ?_); refine goesL_ (some 22) rfl rfl Try.func69 (by kernel_rfl) rfl #[.slice Ao21 t408.length co21] rfl mA ?_; (with_reducible refine (impl_PutTable.calls k _ _ t408 t411 _ ?side1 ?side2 A8.out).mono ?_); (case side1 => repeat (first | exact (Kd.R_reads' HO410.out).2.2 | (with_reducible refine Kd.C_alloc ?_ _) | (with_reducible refine Kd.C_drewN ?_ _) | (with_reducible refine Kd.C_drew ?_))); (case side2 => exact (Kd.R_reads' HO410.out).2.1); rintro e w22 ⟨v412, rfl, ho0, hb⟩; refine ⟨_, rfl, ?_⟩; replace HO404 := mS (Kd.R_below (mR HO404.out) hb); replace HO410 := mS (Kd.R_below (mR HO410.out) hb); have HO413 := mS (Kd.R_lower (Kd.R_new' ho0 (Kd.R_lt (mR HO407.out))) (below_size (mH HB.out))); replace HO407 := mS (Kd.R_elder' (mR HO407.out) (Kd.R_base ho0) hb); replace HB := mS (below_step (mH HB.out) hb); (try clear hb); (try clear hb2); (try clear hk); (try clear hi); (try clear ho0); obtain ⟨Ao23, co23, eo23⟩ := Kd.R_slice HO413.out; subst eo23; obtain ⟨Ao24, co24, eo24⟩ := Kd.R_slice HO407.out; subst eo24) | ((with_reducible refine gate_callee (f := 42) rfl ?_); refine goesL_ (some 25) rfl rfl Try.func42 (by kernel_rfl) rfl #[.slice Ao23 t411.length co23, .slice Ao24 t405.length co24] rfl mA ?_; (with_reducible refine (laws_eqByteS.calls k _ _ t411 _ _ t405 true _ ?side1 ?side2 ?side3 ?side4 A9.out).mono ?_); (case side1 => repeat (first | exact (Kd.R_reads' HO413.out).2.2 | (with_reducible refine Kd.C_alloc ?_ _) | (with_reducible refine Kd.C_drewN ?_ _) | (with_reducible refine Kd.C_drew ?_))); (case side2 => exact (Kd.R_reads' HO413.out).2.1); (case side3 => repeat (first | exact (Kd.R_reads' HO407.out).2.2 | (with_reducible refine Kd.C_alloc ?_ _) | (with_reducible refine Kd.C_drewN ?_ _) | (with_reducible refine Kd.C_drew ?_))); (case side4 => exact (Kd.R_reads' HO407.out).2.1); rintro e w' ⟨rfl, ⟨nd, rfl⟩⟩; refine ⟨_, rfl, ?_⟩) | ((with_reducible refine gate_callee (f := 68) rfl ?_); refine goesL_ (some 29) rfl rfl Try.func68 (by kernel_rfl) rfl #[.slice A0 l0.length c0] rfl mA ?_; (with_reducible refine (laws_toPairS.calls k _ _ l0 t415 _ ?side1 ?side2 A11.out).mono ?_); (case side1 => repeat (first | exact (Kd.C_below HR0.out (mH HB.out)) | (with_reducible refine Kd.C_alloc ?_ _) | (with_reducible refine Kd.C_drewN ?_ _) | (with_reducible refine Kd.C_drew ?_))); (case side2 => exact HC0.out); rintro e w25 ⟨v416, rfl, ho0, hb⟩; refine ⟨_, rfl, ?_⟩; replace HO407 := mS (Kd.R_below (mR HO407.out) hb); replace HO413 := mS (Kd.R_below (mR HO413.out) hb); have HO417 := mS (Kd.R_lower (Kd.R_new' (Kd.R_new' ho0 (Kd.R_lt (mR HO404.out))) (Kd.R_lt (mR HO410.out))) (below_size (mH HB.out))); replace HO404 := mS (Kd.R_elder' (mR HO404.out) (Kd.R_base ho0) hb); replace HO410 := mS (Kd.R_elder' (mR HO410.out) (Kd.R_base ho0) hb); replace HB := mS (below_step (mH HB.out) hb); (try clear hb); (try clear hb2); (try clear hk); (try clear hi); (try clear ho0); obtain ⟨Ao26, co26, eo26⟩ := Kd.R_slice HO417.out; subst eo26) | ((with_reducible refine gate_callee (f := 58) rfl ?_); refine goesL_ (some 30) rfl rfl Try.func58 (by kernel_rfl) rfl #[.slice Ao21 t408.length co21, .slice Ao26 t415.length co26] rfl mA ?_; (with_reducible refine (laws_eqPairS.calls k _ _ t408 _ _ t415 true _ ?side1 ?side2 ?side3 ?side4 A12.out).mono ?_); (case side1 => repeat (first | exact (Kd.R_reads' HO410.out).2.2 | (with_reducible refine Kd.C_alloc ?_ _) | (with_reducible refine Kd.C_drewN ?_ _) | (with_reducible refine Kd.C_drew ?_))); (case side2 => exact (Kd.R_reads' HO410.out).2.1); (case side3 => repeat (first | exact (Kd.R_reads' HO417.out).2.2 | (with_reducible refine Kd.C_alloc ?_ _) | (with_reducible refine Kd.C_drewN ?_ _) | (with_reducible refine Kd.C_drew ?_))); (case side4 => exact (Kd.R_reads' HO417.out).2.1); rintro e w27 ⟨rfl, hb⟩; refine ⟨_, rfl, ?_⟩; replace HO404 := mS (Kd.R_below (mR HO404.out) hb); replace HO407 := mS (Kd.R_below (mR HO407.out) hb); replace HO410 := mS (Kd.R_below (mR HO410.out) hb); replace HO413 := mS (Kd.R_below (mR HO413.out) hb); replace HO417 := mS (Kd.R_below (mR HO417.out) hb); replace HB := mS (below_step (mH HB.out) hb); (try clear hb); (try clear hb2); (try clear hk); (try clear hi)) | ((with_reducible refine gate_callee (f := 61) rfl ?_); refine goesL_ (some 34) rfl rfl Try.func61 (by kernel_rfl) rfl #[.slice Ao21 t408.length co21, .int .i64 1] rfl mA ?_; (with_reducible refine (laws_markPairS.calls k (fun k_ => some k_ = (.slice Ao21 t408.length co21 : Value).ownBlock) (.slice Ao21 t408.length co21) t408 1 t419 t420 w _ ?side1 ?side2 A14.out).mono ?_); (case side1 => repeat (first | (with_reducible first | exact HB.out | apply below_alloc | apply pw_below_drewN | apply below_drew1) | exact HB.out)); (case side2 => exact Kd.R_tight rfl HO410.out); rintro e w28 ⟨rfl, hy0, hb, hkp⟩; refine ⟨_, rfl, ?_⟩; replace HO404 := mS (Kd.R_mono (ok' := fun k_ => some k_ ≠ (.slice Ao21 t408.length co21 : Value).ownBlock ∧ some k_ ≠ (.slice Ao26 t415.length co26 : Value).ownBlock) (Kd.R_keptB (HO404.out) hkp (fun k_ hk_ hs_ => (hk_.1.2) hs_)) (fun k_ hk_ => ⟨hk_.1.1.2, hk_.1.2⟩)); replace HO407 := mS (Kd.R_mono (ok' := fun k_ => some k_ ≠ (.slice Ao23 t411.length co23 : Value).ownBlock) (Kd.R_keptB ((Kd.R_apart' HO407.out (Kd.R_typed HO410.out) (by decide))) hkp (fun k_ hk_ hs_ => (hk_.2) hs_)) (fun k_ hk_ => hk_.1.1.2)); replace HO413 := mS (Kd.R_mono (ok' := fun k_ => some k_ ≠ (.slice Ao24 t405.length co24 : Value).ownBlock) (Kd.R_keptB ((Kd.R_apart' HO413.out (Kd.R_typed HO410.out) (by decide))) hkp (fun k_ hk_ hs_ => (hk_.2) hs_)) (fun k_ hk_ => hk_.1.1.2)); replace HO410 := mS (Kd.R_reok rfl hy0 (fun k_ e_ => HO410.out.1 k_ e_)); replace HO417 := mS (Kd.R_mono (ok' := fun k_ => some k_ ≠ (.slice Ao18 t402.length co18 : Value).ownBlock ∧ some k_ ≠ (.slice Ao21 t408.length co21 : Value).ownBlock) (Kd.R_keptB (HO417.out) hkp (fun k_ hk_ hs_ => (hk_.2) hs_)) (fun k_ hk_ => ⟨hk_.1.1.2, hk_.1.2⟩)); replace HB := mS (hb); (try clear hb); (try clear hkp); (try clear hy0)))
    (try simp only [Act.put, List.setIfInBounds_toArray, List.set_cons_zero, List.set_cons_succ])
    go_cut [42] (fun v42 wc => ∃ (kq : Nat) (x42_14 : Bool), v42 = .bool x42_14 ∧ Aside0 (laws_FnExactPutTable.j0 kq l0 t405 t411 x42_14 = some r) ∧ Aside0 (kq ≤ k) ∧ Aside0 (Kd.R (Kd.int .u8) 5 wc w.heap.size (fun k_ => some k_ ≠ ((.slice Ao23 t411.length co23) : Value).ownBlock) (.slice Ao24 t405.length co24) t405) ∧ Aside0 (Kd.R (Kd.int .u8) 5 wc w.heap.size (fun k_ => some k_ ≠ ((.slice Ao24 t405.length co24) : Value).ownBlock) (.slice Ao23 t411.length co23) t411) ∧ Aside0 (Below w.heap.size w wc))
    case first =>
     have H := HC15.out
     clear HC15
     by_cases c29 : t419 < 0
     ·rw [if_pos c29] at H
      have c29b0 : decide (t419 < 0) = true := decide_eq_true c29
      clear c29
      (first | rw [c29b0] | (simp only [i64_w, i32_w]; rw [c29b0]) | skip)
      have H' := mS H
      clear H
      go_wp2
      go_meet
      case rel => exact ⟨_, (true), (by first | rfl | (simp; done) | (simp [*]; done)), H', ⟨by first | omega | exact Nat.le_refl _⟩, ⟨by (with_reducible repeat (first | apply Kd.R_alloc | apply Kd.R_drewN | apply Kd.R_drew)); exact HO407.out⟩, ⟨by (with_reducible repeat (first | apply Kd.R_alloc | apply Kd.R_drewN | apply Kd.R_drew)); exact HO413.out⟩, ⟨(mH HB.out)⟩⟩
     ·rw [if_neg c29] at H
      have c29b0 : decide (t419 < 0) = false := decide_eq_false c29
      clear c29
      (first | rw [c29b0] | (simp only [i64_w, i32_w]; rw [c29b0]) | skip)
      replace H := Option.bind_eq_some_iff.mp H
      obtain ⟨t421, A300, H⟩ := H
      replace H : (laws_FnExactPutTable.j0 k l0 t405 t411 (!t421)) = some r := H
      have A30 := mS A300
      clear A300
      have H' := mS H
      clear H
      go_wp2_with (first | (go_at_call 42; (with_reducible refine (laws_eqByteS.calls k _ _ t411 _ _ t405 t421 _ ?side1 ?side2 ?side3 ?side4 A30.out).mono ?_); (case side1 => repeat (first | exact (Kd.R_reads' HO413.out).2.2 | (with_reducible refine Kd.C_alloc ?_ _) | (with_reducible refine Kd.C_drewN ?_ _) | (with_reducible refine Kd.C_drew ?_))); (case side2 => exact (Kd.R_reads' HO413.out).2.1); (case side3 => repeat (first | exact (Kd.R_reads' HO407.out).2.2 | (with_reducible refine Kd.C_alloc ?_ _) | (with_reducible refine Kd.C_drewN ?_ _) | (with_reducible refine Kd.C_drew ?_))); (case side4 => exact (Kd.R_reads' HO407.out).2.1); rintro e w' ⟨rfl, ⟨nd, rfl⟩⟩))
      go_meet
      case rel => exact ⟨_, (!t421), (by first | rfl | (simp; done) | (simp [*]; done)), H', ⟨by first | omega | exact Nat.le_refl _⟩, ⟨by (with_reducible repeat (first | apply Kd.R_alloc | apply Kd.R_drewN | apply Kd.R_drew)); exact HO407.out⟩, ⟨by (with_reducible repeat (first | apply Kd.R_alloc | apply Kd.R_drewN | apply Kd.R_drew)); exact HO413.out⟩, ⟨(mH HB.out)⟩⟩
    case rest =>
     clear HC15
     try clear c1
     try clear c2
     try clear p2
     try clear c3
     try clear c3b0
     try clear c4
     try clear c5
     try clear c6
     try clear c10
     try clear c12
     try clear c13
     try clear c29
     try clear c29b0
     obtain ⟨kq, x42_14, rfl, HA, HJ14, HO_4, HO_6, HB⟩ := hcut
     cases kq with
     | zero => exact absurd HA.out (by simp [laws_FnExactPutTable.j0])
     | succ kj14 =>
      have H := HA.out
      clear HA
      simp only [laws_FnExactPutTable.j0] at H
      by_cases c31 : x42_14 = true
      ·subst c31
       have H1 : (some false) = some r := by rw [if_pos rfl] at H; exact H
       clear H
       have H := H1
       clear H1
       obtain rfl := Option.some.inj H
       go_wp2
       go_ret
       exact ⟨by first | rfl | (simp [errW_none, errW_some] <;> rfl) | (simp [*, errW_none, errW_some] <;> rfl), (mH HB.out)⟩
      ·replace c31 := Bool.eq_false_iff.mpr c31
       subst c31
       have H1 : ((laws_markByteS.f kj14 t411 1).bind fun bt422 => ((laws_heldByteS.f kj14 bt422.2 1).bind fun t424 => (if t424 < 0 then (some false) else (if t424 = bt422.1 then ((laws_toPairS.f kj14 l0).bind fun t425 => ((impl_PutTable.f kj14 t425).bind fun t428 => ((laws_eqByteS.f kj14 t428 t405).bind fun t431 => (if t431 = true then ((laws_heldByteS.f kj14 bt422.2 1).bind fun t432 => (if t432 < 0 then (some false) else (if t432 = bt422.1 then (some true) else (some false)))) else (some false))))) else (some false))))) = some r := by rw [if_neg (show ¬ (false = true) by decide)] at H; exact H
       clear H
       have H := H1
       clear H1
       replace H := Option.bind_eq_some_iff.mp H
       obtain ⟨⟨t422, t423⟩, A320, H⟩ := H
       replace H : ((laws_heldByteS.f kj14 t423 1).bind fun t424 => (if t424 < 0 then (some false) else (if t424 = t422 then ((laws_toPairS.f kj14 l0).bind fun t425 => ((impl_PutTable.f kj14 t425).bind fun t428 => ((laws_eqByteS.f kj14 t428 t405).bind fun t431 => (if t431 = true then ((laws_heldByteS.f kj14 t423 1).bind fun t432 => (if t432 < 0 then (some false) else (if t432 = t422 then (some true) else (some false)))) else (some false))))) else (some false)))) = some r := H
       have A32 := mS A320
       clear A320
       replace H := Option.bind_eq_some_iff.mp H
       obtain ⟨t424, A330, H⟩ := H
       replace H : (if t424 < 0 then (some false) else (if t424 = t422 then ((laws_toPairS.f kj14 l0).bind fun t425 => ((impl_PutTable.f kj14 t425).bind fun t428 => ((laws_eqByteS.f kj14 t428 t405).bind fun t431 => (if t431 = true then ((laws_heldByteS.f kj14 t423 1).bind fun t432 => (if t432 < 0 then (some false) else (if t432 = t422 then (some true) else (some false)))) else (some false))))) else (some false))) = some r := H
       have A33 := mS A330
       clear A330
       by_cases c34 : t424 < 0
       ·rw [if_pos c34] at H
        have c34b0 : decide (t424 < 0) = true := decide_eq_true c34
        clear c34
        obtain rfl := Option.some.inj H
        go_wp2_with (first | ((with_reducible refine gate_callee (f := 43) rfl ?_); refine goesL_ (some 45) rfl rfl Try.func43 (by kernel_rfl) rfl #[.slice Ao23 t411.length co23, .int .i64 1] rfl mA ?_; (with_reducible refine (laws_markByteS.calls kj14 (fun k_ => some k_ = (.slice Ao23 t411.length co23 : Value).ownBlock) (.slice Ao23 t411.length co23) t411 1 t422 t423 w _ ?side1 ?side2 A32.out).mono ?_); (case side1 => repeat (first | (with_reducible first | exact HB.out | apply below_alloc | apply pw_below_drewN | apply below_drew1) | exact HB.out)); (case side2 => exact Kd.R_tight rfl HO_6.out); rintro e w35 ⟨rfl, hy0, hb, hkp⟩; refine ⟨_, rfl, ?_⟩; replace HO_4 := mS (Kd.R_mono (ok' := fun k_ => some k_ ≠ (.slice Ao23 t411.length co23 : Value).ownBlock) (Kd.R_keptB (HO_4.out) hkp (fun k_ hk_ hs_ => (hk_) hs_)) (fun k_ hk_ => hk_.1)); replace HO_6 := mS (Kd.R_reok rfl hy0 (fun k_ e_ => HO_6.out.1 k_ e_)); replace HB := mS (hb); (try clear hb); (try clear hkp); (try clear hy0)) | ((with_reducible refine gate_callee (f := 70) rfl ?_); refine goesL_ (some 48) rfl rfl Try.func70 (by kernel_rfl) rfl #[.slice Ao23 t423.length co23, .int .i64 1] rfl (by (try simp only [List.map_toArray, List.map_cons, List.map_nil]); first | done | (rw [show t423.length = t411.length from (Kd.R_reads' HO_6.out).1.symm] <;> rfl) | rfl | (simp only [List.length_drop, List.length_take]; rfl)) ?_; (with_reducible refine (laws_heldByteS.calls kj14 _ _ t423 1 t424 _ ?side1 ?side2 A33.out).mono ?_); (case side1 => repeat (first | exact (Kd.R_reads' HO_6.out).2.2 | (with_reducible refine Kd.C_alloc ?_ _) | (with_reducible refine Kd.C_drewN ?_ _) | (with_reducible refine Kd.C_drew ?_))); (case side2 => rw [show t423.length = t411.length from (Kd.R_reads' HO_6.out).1.symm]; exact (Kd.R_reads' HO_6.out).2.1); rintro e w' ⟨rfl, ⟨nd, rfl⟩⟩; refine ⟨_, rfl, ?_⟩))
        go_ret
        exact ⟨by first | rfl | (simp [errW_none, errW_some] <;> rfl) | (simp [*, errW_none, errW_some] <;> rfl), (mH HB.out)⟩
       ·rw [if_neg c34] at H
        have c34b0 : decide (t424 < 0) = false := decide_eq_false c34
        clear c34
        by_cases c36 : t424 = t422
        ·rw [if_pos c36] at H
         have c36b0 : (t424 == t422) = true := beq_iff_eq.mpr c36
         have c36b1 : (t424 != t422) = false := bne_eq_false_iff_eq.mpr c36
         clear c36
         replace H := Option.bind_eq_some_iff.mp H
         obtain ⟨t425, A370, H⟩ := H
         replace H : ((impl_PutTable.f kj14 t425).bind fun t428 => ((laws_eqByteS.f kj14 t428 t405).bind fun t431 => (if t431 = true then ((laws_heldByteS.f kj14 t423 1).bind fun t432 => (if t432 < 0 then (some false) else (if t432 = t422 then (some true) else (some false)))) else (some false)))) = some r := H
         have A37 := mS A370
         clear A370
         replace H := Option.bind_eq_some_iff.mp H
         obtain ⟨t428, A380, H⟩ := H
         replace H : ((laws_eqByteS.f kj14 t428 t405).bind fun t431 => (if t431 = true then ((laws_heldByteS.f kj14 t423 1).bind fun t432 => (if t432 < 0 then (some false) else (if t432 = t422 then (some true) else (some false)))) else (some false))) = some r := H
         have A38 := mS A380
         clear A380
         replace H := Option.bind_eq_some_iff.mp H
         obtain ⟨t431, A390, H⟩ := H
         replace H : (if t431 = true then ((laws_heldByteS.f kj14 t423 1).bind fun t432 => (if t432 < 0 then (some false) else (if t432 = t422 then (some true) else (some false)))) else (some false)) = some r := H
         have A39 := mS A390
         clear A390
         by_cases c40 : t431 = true
         ·subst c40
          have H1 : ((laws_heldByteS.f kj14 t423 1).bind fun t432 => (if t432 < 0 then (some false) else (if t432 = t422 then (some true) else (some false)))) = some r := by rw [if_pos rfl] at H; exact H
          clear H
          have H := H1
          clear H1
          replace H := Option.bind_eq_some_iff.mp H
          obtain ⟨t432, A410, H⟩ := H
          replace H : (if t432 < 0 then (some false) else (if t432 = t422 then (some true) else (some false))) = some r := H
          have A41 := mS A410
          clear A410
          by_cases c42 : t432 < 0
          ·rw [if_pos c42] at H
           have c42b0 : decide (t432 < 0) = true := decide_eq_true c42
           clear c42
           obtain rfl := Option.some.inj H
           go_wp2_with (first | ((with_reducible refine gate_callee (f := 43) rfl ?_); refine goesL_ (some 45) rfl rfl Try.func43 (by kernel_rfl) rfl #[.slice Ao23 t411.length co23, .int .i64 1] rfl mA ?_; (with_reducible refine (laws_markByteS.calls kj14 (fun k_ => some k_ = (.slice Ao23 t411.length co23 : Value).ownBlock) (.slice Ao23 t411.length co23) t411 1 t422 t423 w _ ?side1 ?side2 A32.out).mono ?_); (case side1 => repeat (first | (with_reducible first | exact HB.out | apply below_alloc | apply pw_below_drewN | apply below_drew1) | exact HB.out)); (case side2 => exact Kd.R_tight rfl HO_6.out); rintro e w43 ⟨rfl, hy0, hb, hkp⟩; refine ⟨_, rfl, ?_⟩; replace HO_4 := mS (Kd.R_mono (ok' := fun k_ => some k_ ≠ (.slice Ao23 t411.length co23 : Value).ownBlock) (Kd.R_keptB (HO_4.out) hkp (fun k_ hk_ hs_ => (hk_) hs_)) (fun k_ hk_ => hk_.1)); replace HO_6 := mS (Kd.R_reok rfl hy0 (fun k_ e_ => HO_6.out.1 k_ e_)); replace HB := mS (hb); (try clear hb); (try clear hkp); (try clear hy0)) | ((with_reducible refine gate_callee (f := 70) rfl ?_); refine goesL_ (some 48) rfl rfl Try.func70 (by kernel_rfl) rfl #[.slice Ao23 t423.length co23, .int .i64 1] rfl (by (try simp only [List.map_toArray, List.map_cons, List.map_nil]); first | done | (rw [show t423.length = t411.length from (Kd.R_reads' HO_6.out).1.symm] <;> rfl) | rfl | (simp only [List.length_drop, List.length_take]; rfl)) ?_; (with_reducible refine (laws_heldByteS.calls kj14 _ _ t423 1 t424 _ ?side1 ?side2 A33.out).mono ?_); (case side1 => repeat (first | exact (Kd.R_reads' HO_6.out).2.2 | (with_reducible refine Kd.C_alloc ?_ _) | (with_reducible refine Kd.C_drewN ?_ _) | (with_reducible refine Kd.C_drew ?_))); (case side2 => rw [show t423.length = t411.length from (Kd.R_reads' HO_6.out).1.symm]; exact (Kd.R_reads' HO_6.out).2.1); rintro e w' ⟨rfl, ⟨nd, rfl⟩⟩; refine ⟨_, rfl, ?_⟩) | ((with_reducible refine gate_callee (f := 68) rfl ?_); refine goesL_ (some 55) rfl rfl Try.func68 (by kernel_rfl) rfl #[.slice A0 l0.length c0] rfl mA ?_; (with_reducible refine (laws_toPairS.calls kj14 _ _ l0 t425 _ ?side1 ?side2 A37.out).mono ?_); (case side1 => repeat (first | exact (Kd.C_below HR0.out (mH HB.out)) | (with_reducible refine Kd.C_alloc ?_ _) | (with_reducible refine Kd.C_drewN ?_ _) | (with_reducible refine Kd.C_drew ?_))); (case side2 => exact HC0.out); rintro e w44 ⟨v426, rfl, ho0, hb⟩; refine ⟨_, rfl, ?_⟩; replace HO_4 := mS (Kd.R_below (mR HO_4.out) hb); replace HO_6 := mS (Kd.R_below (mR HO_6.out) hb); have HO427 := mS (Kd.R_lower ho0 (below_size (mH HB.out))); replace HB := mS (below_step (mH HB.out) hb); (try clear hb); (try clear hb2); (try clear hk); (try clear hi); (try clear ho0); obtain ⟨Ao45, co45, eo45⟩ := Kd.R_slice HO427.out; subst eo45) | ((with_reducible refine gate_callee (f := 69) rfl ?_); refine goesL_ (some 56) rfl rfl Try.func69 (by kernel_rfl) rfl #[.slice Ao45 t425.length co45] rfl mA ?_; (with_reducible refine (impl_PutTable.calls kj14 _ _ t425 t428 _ ?side1 ?side2 A38.out).mono ?_); (case side1 => repeat (first | exact (Kd.R_reads' HO427.out).2.2 | (with_reducible refine Kd.C_alloc ?_ _) | (with_reducible refine Kd.C_drewN ?_ _) | (with_reducible refine Kd.C_drew ?_))); (case side2 => exact (Kd.R_reads' HO427.out).2.1); rintro e w46 ⟨v429, rfl, ho0, hb⟩; refine ⟨_, rfl, ?_⟩; replace HO427 := mS (Kd.R_below (mR HO427.out) hb); have HO430 := mS (Kd.R_lower (Kd.R_new' (Kd.R_new' ho0 (Kd.R_lt (mR HO_4.out))) (Kd.R_lt (mR HO_6.out))) (below_size (mH HB.out))); replace HO_4 := mS (Kd.R_elder' (mR HO_4.out) (Kd.R_base ho0) hb); replace HO_6 := mS (Kd.R_elder' (mR HO_6.out) (Kd.R_base ho0) hb); replace HB := mS (below_step (mH HB.out) hb); (try clear hb); (try clear hb2); (try clear hk); (try clear hi); (try clear ho0); obtain ⟨Ao47, co47, eo47⟩ := Kd.R_slice HO430.out; subst eo47) | ((with_reducible refine gate_callee (f := 42) rfl ?_); refine goesL_ (some 59) rfl rfl Try.func42 (by kernel_rfl) rfl #[.slice Ao47 t428.length co47, .slice Ao24 t405.length co24] rfl mA ?_; (with_reducible refine (laws_eqByteS.calls kj14 _ _ t428 _ _ t405 true _ ?side1 ?side2 ?side3 ?side4 A39.out).mono ?_); (case side1 => repeat (first | exact (Kd.R_reads' HO430.out).2.2 | (with_reducible refine Kd.C_alloc ?_ _) | (with_reducible refine Kd.C_drewN ?_ _) | (with_reducible refine Kd.C_drew ?_))); (case side2 => exact (Kd.R_reads' HO430.out).2.1); (case side3 => repeat (first | exact (Kd.R_reads' HO_4.out).2.2 | (with_reducible refine Kd.C_alloc ?_ _) | (with_reducible refine Kd.C_drewN ?_ _) | (with_reducible refine Kd.C_drew ?_))); (case side4 => exact (Kd.R_reads' HO_4.out).2.1); rintro e w' ⟨rfl, ⟨nd, rfl⟩⟩; refine ⟨_, rfl, ?_⟩) | ((with_reducible refine gate_callee (f := 70) rfl ?_); refine goesL_ (some 63) rfl rfl Try.func70 (by kernel_rfl) rfl #[.slice Ao23 t423.length co23, .int .i64 1] rfl (by (try simp only [List.map_toArray, List.map_cons, List.map_nil]); first | done | (rw [show t423.length = t411.length from (Kd.R_reads' HO_6.out).1.symm] <;> rfl) | rfl | (simp only [List.length_drop, List.length_take]; rfl)) ?_; (with_reducible refine (laws_heldByteS.calls kj14 _ _ t423 1 t432 _ ?side1 ?side2 A41.out).mono ?_); (case side1 => repeat (first | exact (Kd.R_reads' HO_6.out).2.2 | (with_reducible refine Kd.C_alloc ?_ _) | (with_reducible refine Kd.C_drewN ?_ _) | (with_reducible refine Kd.C_drew ?_))); (case side2 => rw [show t423.length = t411.length from (Kd.R_reads' HO_6.out).1.symm]; exact (Kd.R_reads' HO_6.out).2.1); rintro e w' ⟨rfl, ⟨nd, rfl⟩⟩; refine ⟨_, rfl, ?_⟩))
           go_ret
           exact ⟨by first | rfl | (simp [errW_none, errW_some] <;> rfl) | (simp [*, errW_none, errW_some] <;> rfl), (mH HB.out)⟩
          ·rw [if_neg c42] at H
           have c42b0 : decide (t432 < 0) = false := decide_eq_false c42
           clear c42
           by_cases c48 : t432 = t422
           ·rw [if_pos c48] at H
            have c48b0 : (t432 == t422) = true := beq_iff_eq.mpr c48
            have c48b1 : (t432 != t422) = false := bne_eq_false_iff_eq.mpr c48
            clear c48
            obtain rfl := Option.some.inj H
            go_wp2_with (first | ((with_reducible refine gate_callee (f := 43) rfl ?_); refine goesL_ (some 45) rfl rfl Try.func43 (by kernel_rfl) rfl #[.slice Ao23 t411.length co23, .int .i64 1] rfl mA ?_; (with_reducible refine (laws_markByteS.calls kj14 (fun k_ => some k_ = (.slice Ao23 t411.length co23 : Value).ownBlock) (.slice Ao23 t411.length co23) t411 1 t422 t423 w _ ?side1 ?side2 A32.out).mono ?_); (case side1 => repeat (first | (with_reducible first | exact HB.out | apply below_alloc | apply pw_below_drewN | apply below_drew1) | exact HB.out)); (case side2 => exact Kd.R_tight rfl HO_6.out); rintro e w49 ⟨rfl, hy0, hb, hkp⟩; refine ⟨_, rfl, ?_⟩; replace HO_4 := mS (Kd.R_mono (ok' := fun k_ => some k_ ≠ (.slice Ao23 t411.length co23 : Value).ownBlock) (Kd.R_keptB (HO_4.out) hkp (fun k_ hk_ hs_ => (hk_) hs_)) (fun k_ hk_ => hk_.1)); replace HO_6 := mS (Kd.R_reok rfl hy0 (fun k_ e_ => HO_6.out.1 k_ e_)); replace HB := mS (hb); (try clear hb); (try clear hkp); (try clear hy0)) | ((with_reducible refine gate_callee (f := 70) rfl ?_); refine goesL_ (some 48) rfl rfl Try.func70 (by kernel_rfl) rfl #[.slice Ao23 t423.length co23, .int .i64 1] rfl (by (try simp only [List.map_toArray, List.map_cons, List.map_nil]); first | done | (rw [show t423.length = t411.length from (Kd.R_reads' HO_6.out).1.symm] <;> rfl) | rfl | (simp only [List.length_drop, List.length_take]; rfl)) ?_; (with_reducible refine (laws_heldByteS.calls kj14 _ _ t423 1 t424 _ ?side1 ?side2 A33.out).mono ?_); (case side1 => repeat (first | exact (Kd.R_reads' HO_6.out).2.2 | (with_reducible refine Kd.C_alloc ?_ _) | (with_reducible refine Kd.C_drewN ?_ _) | (with_reducible refine Kd.C_drew ?_))); (case side2 => rw [show t423.length = t411.length from (Kd.R_reads' HO_6.out).1.symm]; exact (Kd.R_reads' HO_6.out).2.1); rintro e w' ⟨rfl, ⟨nd, rfl⟩⟩; refine ⟨_, rfl, ?_⟩) | ((with_reducible refine gate_callee (f := 68) rfl ?_); refine goesL_ (some 55) rfl rfl Try.func68 (by kernel_rfl) rfl #[.slice A0 l0.length c0] rfl mA ?_; (with_reducible refine (laws_toPairS.calls kj14 _ _ l0 t425 _ ?side1 ?side2 A37.out).mono ?_); (case side1 => repeat (first | exact (Kd.C_below HR0.out (mH HB.out)) | (with_reducible refine Kd.C_alloc ?_ _) | (with_reducible refine Kd.C_drewN ?_ _) | (with_reducible refine Kd.C_drew ?_))); (case side2 => exact HC0.out); rintro e w50 ⟨v426, rfl, ho0, hb⟩; refine ⟨_, rfl, ?_⟩; replace HO_4 := mS (Kd.R_below (mR HO_4.out) hb); replace HO_6 := mS (Kd.R_below (mR HO_6.out) hb); have HO427 := mS (Kd.R_lower ho0 (below_size (mH HB.out))); replace HB := mS (below_step (mH HB.out) hb); (try clear hb); (try clear hb2); (try clear hk); (try clear hi); (try clear ho0); obtain ⟨Ao51, co51, eo51⟩ := Kd.R_slice HO427.out; subst eo51) | ((with_reducible refine gate_callee (f := 69) rfl ?_); refine goesL_ (some 56) rfl rfl Try.func69 (by kernel_rfl) rfl #[.slice Ao51 t425.length co51] rfl mA ?_; (with_reducible refine (impl_PutTable.calls kj14 _ _ t425 t428 _ ?side1 ?side2 A38.out).mono ?_); (case side1 => repeat (first | exact (Kd.R_reads' HO427.out).2.2 | (with_reducible refine Kd.C_alloc ?_ _) | (with_reducible refine Kd.C_drewN ?_ _) | (with_reducible refine Kd.C_drew ?_))); (case side2 => exact (Kd.R_reads' HO427.out).2.1); rintro e w52 ⟨v429, rfl, ho0, hb⟩; refine ⟨_, rfl, ?_⟩; replace HO427 := mS (Kd.R_below (mR HO427.out) hb); have HO430 := mS (Kd.R_lower (Kd.R_new' (Kd.R_new' ho0 (Kd.R_lt (mR HO_4.out))) (Kd.R_lt (mR HO_6.out))) (below_size (mH HB.out))); replace HO_4 := mS (Kd.R_elder' (mR HO_4.out) (Kd.R_base ho0) hb); replace HO_6 := mS (Kd.R_elder' (mR HO_6.out) (Kd.R_base ho0) hb); replace HB := mS (below_step (mH HB.out) hb); (try clear hb); (try clear hb2); (try clear hk); (try clear hi); (try clear ho0); obtain ⟨Ao53, co53, eo53⟩ := Kd.R_slice HO430.out; subst eo53) | ((with_reducible refine gate_callee (f := 42) rfl ?_); refine goesL_ (some 59) rfl rfl Try.func42 (by kernel_rfl) rfl #[.slice Ao53 t428.length co53, .slice Ao24 t405.length co24] rfl mA ?_; (with_reducible refine (laws_eqByteS.calls kj14 _ _ t428 _ _ t405 true _ ?side1 ?side2 ?side3 ?side4 A39.out).mono ?_); (case side1 => repeat (first | exact (Kd.R_reads' HO430.out).2.2 | (with_reducible refine Kd.C_alloc ?_ _) | (with_reducible refine Kd.C_drewN ?_ _) | (with_reducible refine Kd.C_drew ?_))); (case side2 => exact (Kd.R_reads' HO430.out).2.1); (case side3 => repeat (first | exact (Kd.R_reads' HO_4.out).2.2 | (with_reducible refine Kd.C_alloc ?_ _) | (with_reducible refine Kd.C_drewN ?_ _) | (with_reducible refine Kd.C_drew ?_))); (case side4 => exact (Kd.R_reads' HO_4.out).2.1); rintro e w' ⟨rfl, ⟨nd, rfl⟩⟩; refine ⟨_, rfl, ?_⟩) | ((with_reducible refine gate_callee (f := 70) rfl ?_); refine goesL_ (some 63) rfl rfl Try.func70 (by kernel_rfl) rfl #[.slice Ao23 t423.length co23, .int .i64 1] rfl (by (try simp only [List.map_toArray, List.map_cons, List.map_nil]); first | done | (rw [show t423.length = t411.length from (Kd.R_reads' HO_6.out).1.symm] <;> rfl) | rfl | (simp only [List.length_drop, List.length_take]; rfl)) ?_; (with_reducible refine (laws_heldByteS.calls kj14 _ _ t423 1 t432 _ ?side1 ?side2 A41.out).mono ?_); (case side1 => repeat (first | exact (Kd.R_reads' HO_6.out).2.2 | (with_reducible refine Kd.C_alloc ?_ _) | (with_reducible refine Kd.C_drewN ?_ _) | (with_reducible refine Kd.C_drew ?_))); (case side2 => rw [show t423.length = t411.length from (Kd.R_reads' HO_6.out).1.symm]; exact (Kd.R_reads' HO_6.out).2.1); rintro e w' ⟨rfl, ⟨nd, rfl⟩⟩; refine ⟨_, rfl, ?_⟩))
            go_ret
            exact ⟨by first | rfl | (simp [errW_none, errW_some] <;> rfl) | (simp [*, errW_none, errW_some] <;> rfl), (mH HB.out)⟩
           ·rw [if_neg c48] at H
            have c48b0 : (t432 == t422) = false := beq_eq_false_iff_ne.mpr c48
            have c48b1 : (t432 != t422) = true := bne_iff_ne.mpr c48
            obtain rfl := Option.some.inj H
            go_wp2_with (first | ((with_reducible refine gate_callee (f := 43) rfl ?_); refine goesL_ (some 45) rfl rfl Try.func43 (by kernel_rfl) rfl #[.slice Ao23 t411.length co23, .int .i64 1] rfl mA ?_; (with_reducible refine (laws_markByteS.calls kj14 (fun k_ => some k_ = (.slice Ao23 t411.length co23 : Value).ownBlock) (.slice Ao23 t411.length co23) t411 1 t422 t423 w _ ?side1 ?side2 A32.out).mono ?_); (case side1 => repeat (first | (with_reducible first | exact HB.out | apply below_alloc | apply pw_below_drewN | apply below_drew1) | exact HB.out)); (case side2 => exact Kd.R_tight rfl HO_6.out); rintro e w54 ⟨rfl, hy0, hb, hkp⟩; refine ⟨_, rfl, ?_⟩; replace HO_4 := mS (Kd.R_mono (ok' := fun k_ => some k_ ≠ (.slice Ao23 t411.length co23 : Value).ownBlock) (Kd.R_keptB (HO_4.out) hkp (fun k_ hk_ hs_ => (hk_) hs_)) (fun k_ hk_ => hk_.1)); replace HO_6 := mS (Kd.R_reok rfl hy0 (fun k_ e_ => HO_6.out.1 k_ e_)); replace HB := mS (hb); (try clear hb); (try clear hkp); (try clear hy0)) | ((with_reducible refine gate_callee (f := 70) rfl ?_); refine goesL_ (some 48) rfl rfl Try.func70 (by kernel_rfl) rfl #[.slice Ao23 t423.length co23, .int .i64 1] rfl (by (try simp only [List.map_toArray, List.map_cons, List.map_nil]); first | done | (rw [show t423.length = t411.length from (Kd.R_reads' HO_6.out).1.symm] <;> rfl) | rfl | (simp only [List.length_drop, List.length_take]; rfl)) ?_; (with_reducible refine (laws_heldByteS.calls kj14 _ _ t423 1 t424 _ ?side1 ?side2 A33.out).mono ?_); (case side1 => repeat (first | exact (Kd.R_reads' HO_6.out).2.2 | (with_reducible refine Kd.C_alloc ?_ _) | (with_reducible refine Kd.C_drewN ?_ _) | (with_reducible refine Kd.C_drew ?_))); (case side2 => rw [show t423.length = t411.length from (Kd.R_reads' HO_6.out).1.symm]; exact (Kd.R_reads' HO_6.out).2.1); rintro e w' ⟨rfl, ⟨nd, rfl⟩⟩; refine ⟨_, rfl, ?_⟩) | ((with_reducible refine gate_callee (f := 68) rfl ?_); refine goesL_ (some 55) rfl rfl Try.func68 (by kernel_rfl) rfl #[.slice A0 l0.length c0] rfl mA ?_; (with_reducible refine (laws_toPairS.calls kj14 _ _ l0 t425 _ ?side1 ?side2 A37.out).mono ?_); (case side1 => repeat (first | exact (Kd.C_below HR0.out (mH HB.out)) | (with_reducible refine Kd.C_alloc ?_ _) | (with_reducible refine Kd.C_drewN ?_ _) | (with_reducible refine Kd.C_drew ?_))); (case side2 => exact HC0.out); rintro e w55 ⟨v426, rfl, ho0, hb⟩; refine ⟨_, rfl, ?_⟩; replace HO_4 := mS (Kd.R_below (mR HO_4.out) hb); replace HO_6 := mS (Kd.R_below (mR HO_6.out) hb); have HO427 := mS (Kd.R_lower ho0 (below_size (mH HB.out))); replace HB := mS (below_step (mH HB.out) hb); (try clear hb); (try clear hb2); (try clear hk); (try clear hi); (try clear ho0); obtain ⟨Ao56, co56, eo56⟩ := Kd.R_slice HO427.out; subst eo56) | ((with_reducible refine gate_callee (f := 69) rfl ?_); refine goesL_ (some 56) rfl rfl Try.func69 (by kernel_rfl) rfl #[.slice Ao56 t425.length co56] rfl mA ?_; (with_reducible refine (impl_PutTable.calls kj14 _ _ t425 t428 _ ?side1 ?side2 A38.out).mono ?_); (case side1 => repeat (first | exact (Kd.R_reads' HO427.out).2.2 | (with_reducible refine Kd.C_alloc ?_ _) | (with_reducible refine Kd.C_drewN ?_ _) | (with_reducible refine Kd.C_drew ?_))); (case side2 => exact (Kd.R_reads' HO427.out).2.1); rintro e w57 ⟨v429, rfl, ho0, hb⟩; refine ⟨_, rfl, ?_⟩; replace HO427 := mS (Kd.R_below (mR HO427.out) hb); have HO430 := mS (Kd.R_lower (Kd.R_new' (Kd.R_new' ho0 (Kd.R_lt (mR HO_4.out))) (Kd.R_lt (mR HO_6.out))) (below_size (mH HB.out))); replace HO_4 := mS (Kd.R_elder' (mR HO_4.out) (Kd.R_base ho0) hb); replace HO_6 := mS (Kd.R_elder' (mR HO_6.out) (Kd.R_base ho0) hb); replace HB := mS (below_step (mH HB.out) hb); (try clear hb); (try clear hb2); (try clear hk); (try clear hi); (try clear ho0); obtain ⟨Ao58, co58, eo58⟩ := Kd.R_slice HO430.out; subst eo58) | ((with_reducible refine gate_callee (f := 42) rfl ?_); refine goesL_ (some 59) rfl rfl Try.func42 (by kernel_rfl) rfl #[.slice Ao58 t428.length co58, .slice Ao24 t405.length co24] rfl mA ?_; (with_reducible refine (laws_eqByteS.calls kj14 _ _ t428 _ _ t405 true _ ?side1 ?side2 ?side3 ?side4 A39.out).mono ?_); (case side1 => repeat (first | exact (Kd.R_reads' HO430.out).2.2 | (with_reducible refine Kd.C_alloc ?_ _) | (with_reducible refine Kd.C_drewN ?_ _) | (with_reducible refine Kd.C_drew ?_))); (case side2 => exact (Kd.R_reads' HO430.out).2.1); (case side3 => repeat (first | exact (Kd.R_reads' HO_4.out).2.2 | (with_reducible refine Kd.C_alloc ?_ _) | (with_reducible refine Kd.C_drewN ?_ _) | (with_reducible refine Kd.C_drew ?_))); (case side4 => exact (Kd.R_reads' HO_4.out).2.1); rintro e w' ⟨rfl, ⟨nd, rfl⟩⟩; refine ⟨_, rfl, ?_⟩) | ((with_reducible refine gate_callee (f := 70) rfl ?_); refine goesL_ (some 63) rfl rfl Try.func70 (by kernel_rfl) rfl #[.slice Ao23 t423.length co23, .int .i64 1] rfl (by (try simp only [List.map_toArray, List.map_cons, List.map_nil]); first | done | (rw [show t423.length = t411.length from (Kd.R_reads' HO_6.out).1.symm] <;> rfl) | rfl | (simp only [List.length_drop, List.length_take]; rfl)) ?_; (with_reducible refine (laws_heldByteS.calls kj14 _ _ t423 1 t432 _ ?side1 ?side2 A41.out).mono ?_); (case side1 => repeat (first | exact (Kd.R_reads' HO_6.out).2.2 | (with_reducible refine Kd.C_alloc ?_ _) | (with_reducible refine Kd.C_drewN ?_ _) | (with_reducible refine Kd.C_drew ?_))); (case side2 => rw [show t423.length = t411.length from (Kd.R_reads' HO_6.out).1.symm]; exact (Kd.R_reads' HO_6.out).2.1); rintro e w' ⟨rfl, ⟨nd, rfl⟩⟩; refine ⟨_, rfl, ?_⟩))
            go_ret
            exact ⟨by first | rfl | (simp [errW_none, errW_some] <;> rfl) | (simp [*, errW_none, errW_some] <;> rfl), (mH HB.out)⟩
         ·replace c40 := Bool.eq_false_iff.mpr c40
          subst c40
          have H1 : (some false) = some r := by rw [if_neg (show ¬ (false = true) by decide)] at H; exact H
          clear H
          have H := H1
          clear H1
          obtain rfl := Option.some.inj H
          go_wp2_with (first | ((with_reducible refine gate_callee (f := 43) rfl ?_); refine goesL_ (some 45) rfl rfl Try.func43 (by kernel_rfl) rfl #[.slice Ao23 t411.length co23, .int .i64 1] rfl mA ?_; (with_reducible refine (laws_markByteS.calls kj14 (fun k_ => some k_ = (.slice Ao23 t411.length co23 : Value).ownBlock) (.slice Ao23 t411.length co23) t411 1 t422 t423 w _ ?side1 ?side2 A32.out).mono ?_); (case side1 => repeat (first | (with_reducible first | exact HB.out | apply below_alloc | apply pw_below_drewN | apply below_drew1) | exact HB.out)); (case side2 => exact Kd.R_tight rfl HO_6.out); rintro e w59 ⟨rfl, hy0, hb, hkp⟩; refine ⟨_, rfl, ?_⟩; replace HO_4 := mS (Kd.R_mono (ok' := fun k_ => some k_ ≠ (.slice Ao23 t411.length co23 : Value).ownBlock) (Kd.R_keptB (HO_4.out) hkp (fun k_ hk_ hs_ => (hk_) hs_)) (fun k_ hk_ => hk_.1)); replace HO_6 := mS (Kd.R_reok rfl hy0 (fun k_ e_ => HO_6.out.1 k_ e_)); replace HB := mS (hb); (try clear hb); (try clear hkp); (try clear hy0)) | ((with_reducible refine gate_callee (f := 70) rfl ?_); refine goesL_ (some 48) rfl rfl Try.func70 (by kernel_rfl) rfl #[.slice Ao23 t423.length co23, .int .i64 1] rfl (by (try simp only [List.map_toArray, List.map_cons, List.map_nil]); first | done | (rw [show t423.length = t411.length from (Kd.R_reads' HO_6.out).1.symm] <;> rfl) | rfl | (simp only [List.length_drop, List.length_take]; rfl)) ?_; (with_reducible refine (laws_heldByteS.calls kj14 _ _ t423 1 t424 _ ?side1 ?side2 A33.out).mono ?_); (case side1 => repeat (first | exact (Kd.R_reads' HO_6.out).2.2 | (with_reducible refine Kd.C_alloc ?_ _) | (with_reducible refine Kd.C_drewN ?_ _) | (with_reducible refine Kd.C_drew ?_))); (case side2 => rw [show t423.length = t411.length from (Kd.R_reads' HO_6.out).1.symm]; exact (Kd.R_reads' HO_6.out).2.1); rintro e w' ⟨rfl, ⟨nd, rfl⟩⟩; refine ⟨_, rfl, ?_⟩) | ((with_reducible refine gate_callee (f := 68) rfl ?_); refine goesL_ (some 55) rfl rfl Try.func68 (by kernel_rfl) rfl #[.slice A0 l0.length c0] rfl mA ?_; (with_reducible refine (laws_toPairS.calls kj14 _ _ l0 t425 _ ?side1 ?side2 A37.out).mono ?_); (case side1 => repeat (first | exact (Kd.C_below HR0.out (mH HB.out)) | (with_reducible refine Kd.C_alloc ?_ _) | (with_reducible refine Kd.C_drewN ?_ _) | (with_reducible refine Kd.C_drew ?_))); (case side2 => exact HC0.out); rintro e w60 ⟨v426, rfl, ho0, hb⟩; refine ⟨_, rfl, ?_⟩; replace HO_4 := mS (Kd.R_below (mR HO_4.out) hb); replace HO_6 := mS (Kd.R_below (mR HO_6.out) hb); have HO427 := mS (Kd.R_lower ho0 (below_size (mH HB.out))); replace HB := mS (below_step (mH HB.out) hb); (try clear hb); (try clear hb2); (try clear hk); (try clear hi); (try clear ho0); obtain ⟨Ao61, co61, eo61⟩ := Kd.R_slice HO427.out; subst eo61) | ((with_reducible refine gate_callee (f := 69) rfl ?_); refine goesL_ (some 56) rfl rfl Try.func69 (by kernel_rfl) rfl #[.slice Ao61 t425.length co61] rfl mA ?_; (with_reducible refine (impl_PutTable.calls kj14 _ _ t425 t428 _ ?side1 ?side2 A38.out).mono ?_); (case side1 => repeat (first | exact (Kd.R_reads' HO427.out).2.2 | (with_reducible refine Kd.C_alloc ?_ _) | (with_reducible refine Kd.C_drewN ?_ _) | (with_reducible refine Kd.C_drew ?_))); (case side2 => exact (Kd.R_reads' HO427.out).2.1); rintro e w62 ⟨v429, rfl, ho0, hb⟩; refine ⟨_, rfl, ?_⟩; replace HO427 := mS (Kd.R_below (mR HO427.out) hb); have HO430 := mS (Kd.R_lower (Kd.R_new' (Kd.R_new' ho0 (Kd.R_lt (mR HO_4.out))) (Kd.R_lt (mR HO_6.out))) (below_size (mH HB.out))); replace HO_4 := mS (Kd.R_elder' (mR HO_4.out) (Kd.R_base ho0) hb); replace HO_6 := mS (Kd.R_elder' (mR HO_6.out) (Kd.R_base ho0) hb); replace HB := mS (below_step (mH HB.out) hb); (try clear hb); (try clear hb2); (try clear hk); (try clear hi); (try clear ho0); obtain ⟨Ao63, co63, eo63⟩ := Kd.R_slice HO430.out; subst eo63) | ((with_reducible refine gate_callee (f := 42) rfl ?_); refine goesL_ (some 59) rfl rfl Try.func42 (by kernel_rfl) rfl #[.slice Ao63 t428.length co63, .slice Ao24 t405.length co24] rfl mA ?_; (with_reducible refine (laws_eqByteS.calls kj14 _ _ t428 _ _ t405 false _ ?side1 ?side2 ?side3 ?side4 A39.out).mono ?_); (case side1 => repeat (first | exact (Kd.R_reads' HO430.out).2.2 | (with_reducible refine Kd.C_alloc ?_ _) | (with_reducible refine Kd.C_drewN ?_ _) | (with_reducible refine Kd.C_drew ?_))); (case side2 => exact (Kd.R_reads' HO430.out).2.1); (case side3 => repeat (first | exact (Kd.R_reads' HO_4.out).2.2 | (with_reducible refine Kd.C_alloc ?_ _) | (with_reducible refine Kd.C_drewN ?_ _) | (with_reducible refine Kd.C_drew ?_))); (case side4 => exact (Kd.R_reads' HO_4.out).2.1); rintro e w' ⟨rfl, ⟨nd, rfl⟩⟩; refine ⟨_, rfl, ?_⟩))
          go_ret
          exact ⟨by first | rfl | (simp [errW_none, errW_some] <;> rfl) | (simp [*, errW_none, errW_some] <;> rfl), (mH HB.out)⟩
        ·rw [if_neg c36] at H
         have c36b0 : (t424 == t422) = false := beq_eq_false_iff_ne.mpr c36
         have c36b1 : (t424 != t422) = true := bne_iff_ne.mpr c36
         obtain rfl := Option.some.inj H
         go_wp2_with (first | ((with_reducible refine gate_callee (f := 43) rfl ?_); refine goesL_ (some 45) rfl rfl Try.func43 (by kernel_rfl) rfl #[.slice Ao23 t411.length co23, .int .i64 1] rfl mA ?_; (with_reducible refine (laws_markByteS.calls kj14 (fun k_ => some k_ = (.slice Ao23 t411.length co23 : Value).ownBlock) (.slice Ao23 t411.length co23) t411 1 t422 t423 w _ ?side1 ?side2 A32.out).mono ?_); (case side1 => repeat (first | (with_reducible first | exact HB.out | apply below_alloc | apply pw_below_drewN | apply below_drew1) | exact HB.out)); (case side2 => exact Kd.R_tight rfl HO_6.out); rintro e w64 ⟨rfl, hy0, hb, hkp⟩; refine ⟨_, rfl, ?_⟩; replace HO_4 := mS (Kd.R_mono (ok' := fun k_ => some k_ ≠ (.slice Ao23 t411.length co23 : Value).ownBlock) (Kd.R_keptB (HO_4.out) hkp (fun k_ hk_ hs_ => (hk_) hs_)) (fun k_ hk_ => hk_.1)); replace HO_6 := mS (Kd.R_reok rfl hy0 (fun k_ e_ => HO_6.out.1 k_ e_)); replace HB := mS (hb); (try clear hb); (try clear hkp); (try clear hy0)) | ((with_reducible refine gate_callee (f := 70) rfl ?_); refine goesL_ (some 48) rfl rfl Try.func70 (by kernel_rfl) rfl #[.slice Ao23 t423.length co23, .int .i64 1] rfl (by (try simp only [List.map_toArray, List.map_cons, List.map_nil]); first | done | (rw [show t423.length = t411.length from (Kd.R_reads' HO_6.out).1.symm] <;> rfl) | rfl | (simp only [List.length_drop, List.length_take]; rfl)) ?_; (with_reducible refine (laws_heldByteS.calls kj14 _ _ t423 1 t424 _ ?side1 ?side2 A33.out).mono ?_); (case side1 => repeat (first | exact (Kd.R_reads' HO_6.out).2.2 | (with_reducible refine Kd.C_alloc ?_ _) | (with_reducible refine Kd.C_drewN ?_ _) | (with_reducible refine Kd.C_drew ?_))); (case side2 => rw [show t423.length = t411.length from (Kd.R_reads' HO_6.out).1.symm]; exact (Kd.R_reads' HO_6.out).2.1); rintro e w' ⟨rfl, ⟨nd, rfl⟩⟩; refine ⟨_, rfl, ?_⟩))
         go_ret
         exact ⟨by first | rfl | (simp [errW_none, errW_some] <;> rfl) | (simp [*, errW_none, errW_some] <;> rfl), (mH HB.out)⟩
   ·replace c13 := Bool.eq_false_iff.mpr c13
    subst c13
    have H1 : (some false) = some r := by rw [if_neg (show ¬ (false = true) by decide)] at H; exact H
    clear H
    have H := H1
    clear H1
    obtain rfl := Option.some.inj H
    go_enter Try.func12, Try.ntmps12
    go_wp2_with (first | ((with_reducible refine gate_callee (f := 66) rfl ?_); refine goesL_ (some 13) rfl rfl Try.func66 (by kernel_rfl) rfl #[.slice A0 l0.length c0, .int .i64 1048576] rfl mA ?_; (with_reducible refine (laws_szPairS.calls k _ _ l0 1048576 t401 _ ?side1 ?side2 A2.out).mono ?_); (case side1 => repeat (first | exact HR0.out | (with_reducible refine Kd.C_alloc ?_ _) | (with_reducible refine Kd.C_drewN ?_ _) | (with_reducible refine Kd.C_drew ?_))); (case side2 => exact HC0.out); rintro e w65 ⟨rfl, hb⟩; refine ⟨_, rfl, ?_⟩; replace HB := mS (below_step (mH HB.out) hb); (try clear hb); (try clear hb2); (try clear hk); (try clear hi)) | ((with_reducible refine gate_callee (f := 68) rfl ?_); refine goesL_ (some 17) rfl rfl Try.func68 (by kernel_rfl) rfl #[.slice A0 l0.length c0] rfl mA ?_; (with_reducible refine (laws_toPairS.calls k _ _ l0 t402 _ ?side1 ?side2 A5.out).mono ?_); (case side1 => repeat (first | exact (Kd.C_below HR0.out HB.out) | (with_reducible refine Kd.C_alloc ?_ _) | (with_reducible refine Kd.C_drewN ?_ _) | (with_reducible refine Kd.C_drew ?_))); (case side2 => exact HC0.out); rintro e w66 ⟨v403, rfl, ho0, hb⟩; refine ⟨_, rfl, ?_⟩; have HO404 := mS (Kd.R_lower ho0 (below_size (mH HB.out))); replace HB := mS (below_step (mH HB.out) hb); (try clear hb); (try clear hb2); (try clear hk); (try clear hi); (try clear ho0); obtain ⟨Ao67, co67, eo67⟩ := Kd.R_slice HO404.out; subst eo67) | ((with_reducible refine gate_callee (f := 67) rfl ?_); refine goesL_ (some 18) rfl rfl Try.func67 (by kernel_rfl) rfl #[.slice Ao67 t402.length co67] rfl mA ?_; (with_reducible refine (spec_PutTable.calls k _ _ t402 t405 _ ?side1 ?side2 A6.out).mono ?_); (case side1 => repeat (first | exact (Kd.R_reads' HO404.out).2.2 | (with_reducible refine Kd.C_alloc ?_ _) | (with_reducible refine Kd.C_drewN ?_ _) | (with_reducible refine Kd.C_drew ?_))); (case side2 => exact (Kd.R_reads' HO404.out).2.1); rintro e w68 ⟨v406, rfl, ho0, hb⟩; refine ⟨_, rfl, ?_⟩; replace HO404 := mS (Kd.R_below (mR HO404.out) hb); have HO407 := mS (Kd.R_lower ho0 (below_size (mH HB.out))); replace HB := mS (below_step (mH HB.out) hb); (try clear hb); (try clear hb2); (try clear hk); (try clear hi); (try clear ho0)) | ((with_reducible refine gate_callee (f := 68) rfl ?_); refine goesL_ (some 20) rfl rfl Try.func68 (by kernel_rfl) rfl #[.slice A0 l0.length c0] rfl mA ?_; (with_reducible refine (laws_toPairS.calls k _ _ l0 t408 _ ?side1 ?side2 A7.out).mono ?_); (case side1 => repeat (first | exact (Kd.C_below HR0.out HB.out) | (with_reducible refine Kd.C_alloc ?_ _) | (with_reducible refine Kd.C_drewN ?_ _) | (with_reducible refine Kd.C_drew ?_))); (case side2 => exact HC0.out); rintro e w69 ⟨v409, rfl, ho0, hb⟩; refine ⟨_, rfl, ?_⟩; replace HO407 := mS (Kd.R_below (mR HO407.out) hb); have HO410 := mS (Kd.R_lower (Kd.R_new' ho0 (Kd.R_lt (mR HO404.out))) (below_size (mH HB.out))); replace HO404 := mS (Kd.R_elder' (mR HO404.out) (Kd.R_base ho0) hb); replace HB := mS (below_step (mH HB.out) hb); (try clear hb); (try clear hb2); (try clear hk); (try clear hi); (try clear ho0); obtain ⟨Ao70, co70, eo70⟩ := Kd.R_slice HO410.out; subst eo70) | ((with_reducible refine gate_callee (f := 69) rfl ?_); refine goesL_ (some 22) rfl rfl Try.func69 (by kernel_rfl) rfl #[.slice Ao70 t408.length co70] rfl mA ?_; (with_reducible refine (impl_PutTable.calls k _ _ t408 t411 _ ?side1 ?side2 A8.out).mono ?_); (case side1 => repeat (first | exact (Kd.R_reads' HO410.out).2.2 | (with_reducible refine Kd.C_alloc ?_ _) | (with_reducible refine Kd.C_drewN ?_ _) | (with_reducible refine Kd.C_drew ?_))); (case side2 => exact (Kd.R_reads' HO410.out).2.1); rintro e w71 ⟨v412, rfl, ho0, hb⟩; refine ⟨_, rfl, ?_⟩; replace HO404 := mS (Kd.R_below (mR HO404.out) hb); replace HO410 := mS (Kd.R_below (mR HO410.out) hb); have HO413 := mS (Kd.R_lower (Kd.R_new' ho0 (Kd.R_lt (mR HO407.out))) (below_size (mH HB.out))); replace HO407 := mS (Kd.R_elder' (mR HO407.out) (Kd.R_base ho0) hb); replace HB := mS (below_step (mH HB.out) hb); (try clear hb); (try clear hb2); (try clear hk); (try clear hi); (try clear ho0); obtain ⟨Ao72, co72, eo72⟩ := Kd.R_slice HO413.out; subst eo72; obtain ⟨Ao73, co73, eo73⟩ := Kd.R_slice HO407.out; subst eo73) | ((with_reducible refine gate_callee (f := 42) rfl ?_); refine goesL_ (some 25) rfl rfl Try.func42 (by kernel_rfl) rfl #[.slice Ao72 t411.length co72, .slice Ao73 t405.length co73] rfl mA ?_; (with_reducible refine (laws_eqByteS.calls k _ _ t411 _ _ t405 true _ ?side1 ?side2 ?side3 ?side4 A9.out).mono ?_); (case side1 => repeat (first | exact (Kd.R_reads' HO413.out).2.2 | (with_reducible refine Kd.C_alloc ?_ _) | (with_reducible refine Kd.C_drewN ?_ _) | (with_reducible refine Kd.C_drew ?_))); (case side2 => exact (Kd.R_reads' HO413.out).2.1); (case side3 => repeat (first | exact (Kd.R_reads' HO407.out).2.2 | (with_reducible refine Kd.C_alloc ?_ _) | (with_reducible refine Kd.C_drewN ?_ _) | (with_reducible refine Kd.C_drew ?_))); (case side4 => exact (Kd.R_reads' HO407.out).2.1); rintro e w' ⟨rfl, ⟨nd, rfl⟩⟩; refine ⟨_, rfl, ?_⟩) | ((with_reducible refine gate_callee (f := 68) rfl ?_); refine goesL_ (some 29) rfl rfl Try.func68 (by kernel_rfl) rfl #[.slice A0 l0.length c0] rfl mA ?_; (with_reducible refine (laws_toPairS.calls k _ _ l0 t415 _ ?side1 ?side2 A11.out).mono ?_); (case side1 => repeat (first | exact (Kd.C_below HR0.out (mH HB.out)) | (with_reducible refine Kd.C_alloc ?_ _) | (with_reducible refine Kd.C_drewN ?_ _) | (with_reducible refine Kd.C_drew ?_))); (case side2 => exact HC0.out); rintro e w74 ⟨v416, rfl, ho0, hb⟩; refine ⟨_, rfl, ?_⟩; replace HO407 := mS (Kd.R_below (mR HO407.out) hb); replace HO413 := mS (Kd.R_below (mR HO413.out) hb); have HO417 := mS (Kd.R_lower (Kd.R_new' (Kd.R_new' ho0 (Kd.R_lt (mR HO404.out))) (Kd.R_lt (mR HO410.out))) (below_size (mH HB.out))); replace HO404 := mS (Kd.R_elder' (mR HO404.out) (Kd.R_base ho0) hb); replace HO410 := mS (Kd.R_elder' (mR HO410.out) (Kd.R_base ho0) hb); replace HB := mS (below_step (mH HB.out) hb); (try clear hb); (try clear hb2); (try clear hk); (try clear hi); (try clear ho0); obtain ⟨Ao75, co75, eo75⟩ := Kd.R_slice HO417.out; subst eo75) | ((with_reducible refine gate_callee (f := 58) rfl ?_); refine goesL_ (some 30) rfl rfl Try.func58 (by kernel_rfl) rfl #[.slice Ao70 t408.length co70, .slice Ao75 t415.length co75] rfl mA ?_; (with_reducible refine (laws_eqPairS.calls k _ _ t408 _ _ t415 false _ ?side1 ?side2 ?side3 ?side4 A12.out).mono ?_); (case side1 => repeat (first | exact (Kd.R_reads' HO410.out).2.2 | (with_reducible refine Kd.C_alloc ?_ _) | (with_reducible refine Kd.C_drewN ?_ _) | (with_reducible refine Kd.C_drew ?_))); (case side2 => exact (Kd.R_reads' HO410.out).2.1); (case side3 => repeat (first | exact (Kd.R_reads' HO417.out).2.2 | (with_reducible refine Kd.C_alloc ?_ _) | (with_reducible refine Kd.C_drewN ?_ _) | (with_reducible refine Kd.C_drew ?_))); (case side4 => exact (Kd.R_reads' HO417.out).2.1); rintro e w76 ⟨rfl, hb⟩; refine ⟨_, rfl, ?_⟩; replace HO404 := mS (Kd.R_below (mR HO404.out) hb); replace HO407 := mS (Kd.R_below (mR HO407.out) hb); replace HO410 := mS (Kd.R_below (mR HO410.out) hb); replace HO413 := mS (Kd.R_below (mR HO413.out) hb); replace HO417 := mS (Kd.R_below (mR HO417.out) hb); replace HB := mS (below_step (mH HB.out) hb); (try clear hb); (try clear hb2); (try clear hk); (try clear hi)))
    go_ret
    exact ⟨by first | rfl | (simp [errW_none, errW_some] <;> rfl) | (simp [*, errW_none, errW_some] <;> rfl), (mH HB.out)⟩
  ·replace c10 := Bool.eq_false_iff.mpr c10
   subst c10
   have H1 : (some false) = some r := by rw [if_neg (show ¬ (false = true) by decide)] at H; exact H
   clear H
   have H := H1
   clear H1
   obtain rfl := Option.some.inj H
   go_enter Try.func12, Try.ntmps12
   go_wp2_with (first | ((with_reducible refine gate_callee (f := 66) rfl ?_); refine goesL_ (some 13) rfl rfl Try.func66 (by kernel_rfl) rfl #[.slice A0 l0.length c0, .int .i64 1048576] rfl mA ?_; (with_reducible refine (laws_szPairS.calls k _ _ l0 1048576 t401 _ ?side1 ?side2 A2.out).mono ?_); (case side1 => repeat (first | exact HR0.out | (with_reducible refine Kd.C_alloc ?_ _) | (with_reducible refine Kd.C_drewN ?_ _) | (with_reducible refine Kd.C_drew ?_))); (case side2 => exact HC0.out); rintro e w77 ⟨rfl, hb⟩; refine ⟨_, rfl, ?_⟩; replace HB := mS (below_step (mH HB.out) hb); (try clear hb); (try clear hb2); (try clear hk); (try clear hi)) | ((with_reducible refine gate_callee (f := 68) rfl ?_); refine goesL_ (some 17) rfl rfl Try.func68 (by kernel_rfl) rfl #[.slice A0 l0.length c0] rfl mA ?_; (with_reducible refine (laws_toPairS.calls k _ _ l0 t402 _ ?side1 ?side2 A5.out).mono ?_); (case side1 => repeat (first | exact (Kd.C_below HR0.out HB.out) | (with_reducible refine Kd.C_alloc ?_ _) | (with_reducible refine Kd.C_drewN ?_ _) | (with_reducible refine Kd.C_drew ?_))); (case side2 => exact HC0.out); rintro e w78 ⟨v403, rfl, ho0, hb⟩; refine ⟨_, rfl, ?_⟩; have HO404 := mS (Kd.R_lower ho0 (below_size (mH HB.out))); replace HB := mS (below_step (mH HB.out) hb); (try clear hb); (try clear hb2); (try clear hk); (try clear hi); (try clear ho0); obtain ⟨Ao79, co79, eo79⟩ := Kd.R_slice HO404.out; subst eo79) | ((with_reducible refine gate_callee (f := 67) rfl ?_); refine goesL_ (some 18) rfl rfl Try.func67 (by kernel_rfl) rfl #[.slice Ao79 t402.length co79] rfl mA ?_; (with_reducible refine (spec_PutTable.calls k _ _ t402 t405 _ ?side1 ?side2 A6.out).mono ?_); (case side1 => repeat (first | exact (Kd.R_reads' HO404.out).2.2 | (with_reducible refine Kd.C_alloc ?_ _) | (with_reducible refine Kd.C_drewN ?_ _) | (with_reducible refine Kd.C_drew ?_))); (case side2 => exact (Kd.R_reads' HO404.out).2.1); rintro e w80 ⟨v406, rfl, ho0, hb⟩; refine ⟨_, rfl, ?_⟩; replace HO404 := mS (Kd.R_below (mR HO404.out) hb); have HO407 := mS (Kd.R_lower ho0 (below_size (mH HB.out))); replace HB := mS (below_step (mH HB.out) hb); (try clear hb); (try clear hb2); (try clear hk); (try clear hi); (try clear ho0)) | ((with_reducible refine gate_callee (f := 68) rfl ?_); refine goesL_ (some 20) rfl rfl Try.func68 (by kernel_rfl) rfl #[.slice A0 l0.length c0] rfl mA ?_; (with_reducible refine (laws_toPairS.calls k _ _ l0 t408 _ ?side1 ?side2 A7.out).mono ?_); (case side1 => repeat (first | exact (Kd.C_below HR0.out HB.out) | (with_reducible refine Kd.C_alloc ?_ _) | (with_reducible refine Kd.C_drewN ?_ _) | (with_reducible refine Kd.C_drew ?_))); (case side2 => exact HC0.out); rintro e w81 ⟨v409, rfl, ho0, hb⟩; refine ⟨_, rfl, ?_⟩; replace HO407 := mS (Kd.R_below (mR HO407.out) hb); have HO410 := mS (Kd.R_lower (Kd.R_new' ho0 (Kd.R_lt (mR HO404.out))) (below_size (mH HB.out))); replace HO404 := mS (Kd.R_elder' (mR HO404.out) (Kd.R_base ho0) hb); replace HB := mS (below_step (mH HB.out) hb); (try clear hb); (try clear hb2); (try clear hk); (try clear hi); (try clear ho0); obtain ⟨Ao82, co82, eo82⟩ := Kd.R_slice HO410.out; subst eo82) | ((with_reducible refine gate_callee (f := 69) rfl ?_); refine goesL_ (some 22) rfl rfl Try.func69 (by kernel_rfl) rfl #[.slice Ao82 t408.length co82] rfl mA ?_; (with_reducible refine (impl_PutTable.calls k _ _ t408 t411 _ ?side1 ?side2 A8.out).mono ?_); (case side1 => repeat (first | exact (Kd.R_reads' HO410.out).2.2 | (with_reducible refine Kd.C_alloc ?_ _) | (with_reducible refine Kd.C_drewN ?_ _) | (with_reducible refine Kd.C_drew ?_))); (case side2 => exact (Kd.R_reads' HO410.out).2.1); rintro e w83 ⟨v412, rfl, ho0, hb⟩; refine ⟨_, rfl, ?_⟩; replace HO404 := mS (Kd.R_below (mR HO404.out) hb); replace HO410 := mS (Kd.R_below (mR HO410.out) hb); have HO413 := mS (Kd.R_lower (Kd.R_new' ho0 (Kd.R_lt (mR HO407.out))) (below_size (mH HB.out))); replace HO407 := mS (Kd.R_elder' (mR HO407.out) (Kd.R_base ho0) hb); replace HB := mS (below_step (mH HB.out) hb); (try clear hb); (try clear hb2); (try clear hk); (try clear hi); (try clear ho0); obtain ⟨Ao84, co84, eo84⟩ := Kd.R_slice HO413.out; subst eo84; obtain ⟨Ao85, co85, eo85⟩ := Kd.R_slice HO407.out; subst eo85) | ((with_reducible refine gate_callee (f := 42) rfl ?_); refine goesL_ (some 25) rfl rfl Try.func42 (by kernel_rfl) rfl #[.slice Ao84 t411.length co84, .slice Ao85 t405.length co85] rfl mA ?_; (with_reducible refine (laws_eqByteS.calls k _ _ t411 _ _ t405 false _ ?side1 ?side2 ?side3 ?side4 A9.out).mono ?_); (case side1 => repeat (first | exact (Kd.R_reads' HO413.out).2.2 | (with_reducible refine Kd.C_alloc ?_ _) | (with_reducible refine Kd.C_drewN ?_ _) | (with_reducible refine Kd.C_drew ?_))); (case side2 => exact (Kd.R_reads' HO413.out).2.1); (case side3 => repeat (first | exact (Kd.R_reads' HO407.out).2.2 | (with_reducible refine Kd.C_alloc ?_ _) | (with_reducible refine Kd.C_drewN ?_ _) | (with_reducible refine Kd.C_drew ?_))); (case side4 => exact (Kd.R_reads' HO407.out).2.1); rintro e w' ⟨rfl, ⟨nd, rfl⟩⟩; refine ⟨_, rfl, ?_⟩))
   go_ret
   exact ⟨by first | rfl | (simp [errW_none, errW_some] <;> rfl) | (simp [*, errW_none, errW_some] <;> rfl), (mH HB.out)⟩

end Go.Proofs.Ytbepbgfkajnlbaa.MFnExactPutTable
