-- Written by mp.py, this session's own printer (wip/mp.py).
import Derived.Test.YtgncojbnejdplaaVMShort
import Derived.Test.YtgncojbnejdplaaMFnNumsx0
import Derived.Test.YtgncojbnejdplaaMFnNumsx1
import Derived.Test.YtgncojbnejdplaaMFnNumsx2
namespace Go.Proofs.Ytgncojbnejdplaa.MFnNums
open Go.RowKit Go.Proofs.YtgncojbnejdplaaW.PrintWords Go.Proofs.YtgncojbnejdplaaW.PrintLast Go.Proofs.YtgncojbnejdplaaW.PrintMore Go.Proofs.Ytgncojbnejdplaa.MWords
attribute [local go_sem] max2_int min2_int max_two min_two max_three min_three max_four min_four   -- for this text's walks alone
set_option linter.unusedVariables false
set_option linter.unusedSimpArgs false

/-! ### laws_FnNums: function 5 -/
mutual
def laws_FnNums.j0 : Nat → List Int → List Int → Int → List Int → Int → Int → Bool → Int → Option (Bool)
 | 0, _, _, _, _, _, _, _, _ => none
 | k + 1, x0, x3, x4, x5, x6, x7, x8, x9 => if x4 < 0 then (laws_FnNums.j1 k x0 x3 x5 x6 x7 x8 0) else (laws_FnNums.j1 k x0 x3 x5 x6 x7 x8 x9)
def laws_FnNums.j1 : Nat → List Int → List Int → List Int → Int → Int → Bool → Int → Option (Bool)
 | 0, _, _, _, _, _, _, _ => none
 | k + 1, x0, x3, x5, x6, x7, x8, x9 => if x8 = true then (if x6 = x9 then (laws_FnNums.j2 k x0 x3 x5 (x7 != (x5.length : Int))) else (laws_FnNums.j2 k x0 x3 x5 true)) else (laws_FnNums.j2 k x0 x3 x5 true)
def laws_FnNums.j2 : Nat → List Int → List Int → List Int → Bool → Option (Bool)
 | 0, _, _, _, _ => none
 | k + 1, x0, x3, x5, x54 => if x54 = true then (some false) else (if 0 ≤ (wrap64 ((x5.length : Int) - 1)) then (if (wrap64 ((x5.length : Int) - 1)) ≤ (x5.length : Int) then ((impl_GetNum.f k (x5.take ((wrap64 ((x5.length : Int) - 1)) : Int).toNat) (x3.length : Int)).bind fun bt220 => ((spec_DrawPutText.f k x0).bind fun bt223 => ((impl_PutText.f k bt223.1 bt223.2).bind fun t227 => ((impl_GetText.f k t227 (bt223.1.length : Int)).bind fun bt230 => (if bt220.2.2 = true then (some false) else (if bt230.2.2 = true then (if bt230.1.toList = bt223.2.toList then (some (bt230.2.1 == (t227.length : Int))) else (some false)) else (some false))))))) else (none)) else (none))
end
def laws_FnNums.f (k : Nat) (l0 : List Int) : Option (Bool) := (laws_big.f l0).bind fun t205 => (if t205 = true then (some true) else ((spec_DrawPutNum.f k l0).bind fun bt206 => ((impl_PutNum.f k bt206.1 bt206.2).bind fun t210 => ((impl_GetNum.f k t210 (bt206.1.length : Int)).bind fun bt213 => (if bt206.2 > 1000000000 then (laws_FnNums.j0 k l0 bt206.1 bt206.2 t210 bt213.1 bt213.2.1 bt213.2.2 1000000000) else (laws_FnNums.j0 k l0 bt206.1 bt206.2 t210 bt213.1 bt213.2.1 bt213.2.2 bt206.2))))))
theorem laws_FnNums.mono_l : ∀ k, (∀ y0 y1 y2 y3 y4 y5 y6 y7, LeO (laws_FnNums.j0 k y0 y1 y2 y3 y4 y5 y6 y7) (laws_FnNums.j0 (k + 1) y0 y1 y2 y3 y4 y5 y6 y7)) ∧ (∀ y0 y1 y2 y3 y4 y5 y6, LeO (laws_FnNums.j1 k y0 y1 y2 y3 y4 y5 y6) (laws_FnNums.j1 (k + 1) y0 y1 y2 y3 y4 y5 y6)) ∧ (∀ y0 y1 y2 y3, LeO (laws_FnNums.j2 k y0 y1 y2 y3) (laws_FnNums.j2 (k + 1) y0 y1 y2 y3))
 | 0 => ⟨fun _ _ _ _ _ _ _ _ r h => by simp [laws_FnNums.j0] at h, fun _ _ _ _ _ _ _ r h => by simp [laws_FnNums.j1] at h, fun _ _ _ _ r h => by simp [laws_FnNums.j2] at h⟩
 | k + 1 => by
  obtain ⟨ih0, ih1, ih2⟩ := laws_FnNums.mono_l k
  refine ⟨?_, ?_, ?_⟩
  ·intro y0 y1 y2 y3 y4 y5 y6 y7
   unfold laws_FnNums.j0
   repeat' first
   | (with_reducible exact ih0 _ _ _ _ _ _ _ _)
   | (with_reducible exact ih1 _ _ _ _ _ _ _)
   | (with_reducible exact ih2 _ _ _ _)
   | (with_reducible exact impl_GetNum.mono _ _ _)
   | (with_reducible exact impl_GetText.mono _ _ _)
   | (with_reducible exact impl_PutNum.mono _ _ _)
   | (with_reducible exact impl_PutText.mono _ _ _)
   | (with_reducible exact spec_DrawPutNum.mono _ _)
   | (with_reducible exact spec_DrawPutText.mono _ _)
   | (with_reducible exact LeO.refl _)
   | (with_reducible exact LeO.none _)
   | (with_reducible refine LeO.ite ?_ ?_)
   | (with_reducible refine LeO.bind ?_ (fun _ => ?_))
   | exact ih0 _ _ _ _ _ _ _ _
   | exact ih1 _ _ _ _ _ _ _
   | exact ih2 _ _ _ _
   | exact impl_GetNum.mono _ _ _
   | exact impl_GetText.mono _ _ _
   | exact impl_PutNum.mono _ _ _
   | exact impl_PutText.mono _ _ _
   | exact spec_DrawPutNum.mono _ _
   | exact spec_DrawPutText.mono _ _
   | exact LeO.none _
   | refine LeO.ite ?_ ?_
   | refine LeO.bind ?_ (fun _ => ?_)
  ·intro y0 y1 y2 y3 y4 y5 y6
   unfold laws_FnNums.j1
   repeat' first
   | (with_reducible exact ih0 _ _ _ _ _ _ _ _)
   | (with_reducible exact ih1 _ _ _ _ _ _ _)
   | (with_reducible exact ih2 _ _ _ _)
   | (with_reducible exact impl_GetNum.mono _ _ _)
   | (with_reducible exact impl_GetText.mono _ _ _)
   | (with_reducible exact impl_PutNum.mono _ _ _)
   | (with_reducible exact impl_PutText.mono _ _ _)
   | (with_reducible exact spec_DrawPutNum.mono _ _)
   | (with_reducible exact spec_DrawPutText.mono _ _)
   | (with_reducible exact LeO.refl _)
   | (with_reducible exact LeO.none _)
   | (with_reducible refine LeO.ite ?_ ?_)
   | (with_reducible refine LeO.bind ?_ (fun _ => ?_))
   | exact ih0 _ _ _ _ _ _ _ _
   | exact ih1 _ _ _ _ _ _ _
   | exact ih2 _ _ _ _
   | exact impl_GetNum.mono _ _ _
   | exact impl_GetText.mono _ _ _
   | exact impl_PutNum.mono _ _ _
   | exact impl_PutText.mono _ _ _
   | exact spec_DrawPutNum.mono _ _
   | exact spec_DrawPutText.mono _ _
   | exact LeO.none _
   | refine LeO.ite ?_ ?_
   | refine LeO.bind ?_ (fun _ => ?_)
  ·intro y0 y1 y2 y3
   unfold laws_FnNums.j2
   repeat' first
   | (with_reducible exact ih0 _ _ _ _ _ _ _ _)
   | (with_reducible exact ih1 _ _ _ _ _ _ _)
   | (with_reducible exact ih2 _ _ _ _)
   | (with_reducible exact impl_GetNum.mono _ _ _)
   | (with_reducible exact impl_GetText.mono _ _ _)
   | (with_reducible exact impl_PutNum.mono _ _ _)
   | (with_reducible exact impl_PutText.mono _ _ _)
   | (with_reducible exact spec_DrawPutNum.mono _ _)
   | (with_reducible exact spec_DrawPutText.mono _ _)
   | (with_reducible exact LeO.refl _)
   | (with_reducible exact LeO.none _)
   | (with_reducible refine LeO.ite ?_ ?_)
   | (with_reducible refine LeO.bind ?_ (fun _ => ?_))
   | exact ih0 _ _ _ _ _ _ _ _
   | exact ih1 _ _ _ _ _ _ _
   | exact ih2 _ _ _ _
   | exact impl_GetNum.mono _ _ _
   | exact impl_GetText.mono _ _ _
   | exact impl_PutNum.mono _ _ _
   | exact impl_PutText.mono _ _ _
   | exact spec_DrawPutNum.mono _ _
   | exact spec_DrawPutText.mono _ _
   | exact LeO.none _
   | refine LeO.ite ?_ ?_
   | refine LeO.bind ?_ (fun _ => ?_)
theorem laws_FnNums.mono : ∀ a0 k, LeO (laws_FnNums.f k a0) (laws_FnNums.f (k + 1) a0) := by
 intro a0 k
 obtain ⟨ih0, ih1, ih2⟩ := laws_FnNums.mono_l k
 unfold laws_FnNums.f
 repeat' first
   | (with_reducible exact ih0 _ _ _ _ _ _ _ _)
   | (with_reducible exact ih1 _ _ _ _ _ _ _)
   | (with_reducible exact ih2 _ _ _ _)
   | (with_reducible exact impl_GetNum.mono _ _ _)
   | (with_reducible exact impl_GetText.mono _ _ _)
   | (with_reducible exact impl_PutNum.mono _ _ _)
   | (with_reducible exact impl_PutText.mono _ _ _)
   | (with_reducible exact spec_DrawPutNum.mono _ _)
   | (with_reducible exact spec_DrawPutText.mono _ _)
   | (with_reducible exact LeO.refl _)
   | (with_reducible exact LeO.none _)
   | (with_reducible refine LeO.ite ?_ ?_)
   | (with_reducible refine LeO.bind ?_ (fun _ => ?_))
   | exact ih0 _ _ _ _ _ _ _ _
   | exact ih1 _ _ _ _ _ _ _
   | exact ih2 _ _ _ _
   | exact impl_GetNum.mono _ _ _
   | exact impl_GetText.mono _ _ _
   | exact impl_PutNum.mono _ _ _
   | exact impl_PutText.mono _ _ _
   | exact spec_DrawPutNum.mono _ _
   | exact spec_DrawPutText.mono _ _
   | exact LeO.none _
   | refine LeO.ite ?_ ?_
   | refine LeO.bind ?_ (fun _ => ?_)
set_option maxHeartbeats 8000000 in
set_option maxRecDepth 100000 in
theorem laws_FnNums.calls (k : Nat) (A0 : Option Addr) (c0 : Nat) (l0 : List Int) (r : Bool) (w : World) (hr0 : Kd.C (Kd.int .u8) w A0 l0.length l0) (hc0 : l0.length ≤ c0) (h : laws_FnNums.f k l0 = some r) :
  Calls Try.prog 5 #[.slice A0 l0.length c0] w fun e w' => e = .returned (.bool r) ∧ Below w.heap.size w w' := by
 have HR0 := mS hr0
 have HC0 := mS hc0
 clear hr0 hc0
 have HB := mS (Below.refl w.heap.size w)
 have H : ((laws_big.f l0).bind fun t205 => (if t205 = true then (some true) else ((spec_DrawPutNum.f k l0).bind fun bt206 => ((impl_PutNum.f k bt206.1 bt206.2).bind fun t210 => ((impl_GetNum.f k t210 (bt206.1.length : Int)).bind fun bt213 => (if bt206.2 > 1000000000 then (laws_FnNums.j0 k l0 bt206.1 bt206.2 t210 bt213.1 bt213.2.1 bt213.2.2 1000000000) else (laws_FnNums.j0 k l0 bt206.1 bt206.2 t210 bt213.1 bt213.2.1 bt213.2.2 bt206.2))))))) = some r := h
 clear h
 replace H := Option.bind_eq_some_iff.mp H
 obtain ⟨t205, A20, H⟩ := H
 replace H : (if t205 = true then (some true) else ((spec_DrawPutNum.f k l0).bind fun bt206 => ((impl_PutNum.f k bt206.1 bt206.2).bind fun t210 => ((impl_GetNum.f k t210 (bt206.1.length : Int)).bind fun bt213 => (if bt206.2 > 1000000000 then (laws_FnNums.j0 k l0 bt206.1 bt206.2 t210 bt213.1 bt213.2.1 bt213.2.2 1000000000) else (laws_FnNums.j0 k l0 bt206.1 bt206.2 t210 bt213.1 bt213.2.1 bt213.2.2 bt206.2)))))) = some r := H
 have A2 := mS A20
 clear A20
 by_cases c3 : t205 = true
 ·subst c3
  have H1 : (some true) = some r := by rw [if_pos rfl] at H; exact H
  clear H
  have H := H1
  clear H1
  obtain rfl := Option.some.inj H
  go_enter Try.func5, Try.ntmps5
  go_wp2_with (first | ((with_reducible refine gate_callee (f := 23) rfl ?_); refine goesL_ (some 20) rfl rfl Try.func23 (by kernel_rfl) rfl #[.slice A0 l0.length c0] rfl mA ?_; (with_reducible refine (laws_big.calls _ _ l0 true _ ?side1 ?side2 A2.out).mono ?_); (case side1 => repeat (first | exact HR0.out | (with_reducible refine Kd.C_alloc ?_ _) | (with_reducible refine Kd.C_drewN ?_ _) | (with_reducible refine Kd.C_drew ?_))); (case side2 => exact HC0.out); rintro e w' ⟨rfl, ⟨nd, rfl⟩⟩; refine ⟨_, rfl, ?_⟩))
  go_ret
  exact ⟨by first | rfl | (simp [errW_none, errW_some] <;> rfl) | (simp [*, errW_none, errW_some] <;> rfl), (mH HB.out)⟩
 ·replace c3 := Bool.eq_false_iff.mpr c3
  subst c3
  have H1 : ((spec_DrawPutNum.f k l0).bind fun bt206 => ((impl_PutNum.f k bt206.1 bt206.2).bind fun t210 => ((impl_GetNum.f k t210 (bt206.1.length : Int)).bind fun bt213 => (if bt206.2 > 1000000000 then (laws_FnNums.j0 k l0 bt206.1 bt206.2 t210 bt213.1 bt213.2.1 bt213.2.2 1000000000) else (laws_FnNums.j0 k l0 bt206.1 bt206.2 t210 bt213.1 bt213.2.1 bt213.2.2 bt206.2))))) = some r := by rw [if_neg (show ¬ (false = true) by decide)] at H; exact H
  clear H
  have H := H1
  clear H1
  replace H := Option.bind_eq_some_iff.mp H
  obtain ⟨⟨t206, t207⟩, A40, H⟩ := H
  replace H : ((impl_PutNum.f k t206 t207).bind fun t210 => ((impl_GetNum.f k t210 (t206.length : Int)).bind fun bt213 => (if t207 > 1000000000 then (laws_FnNums.j0 k l0 t206 t207 t210 bt213.1 bt213.2.1 bt213.2.2 1000000000) else (laws_FnNums.j0 k l0 t206 t207 t210 bt213.1 bt213.2.1 bt213.2.2 t207)))) = some r := H
  have A4 := mS A40
  clear A40
  replace H := Option.bind_eq_some_iff.mp H
  obtain ⟨t210, A50, H⟩ := H
  replace H : ((impl_GetNum.f k t210 (t206.length : Int)).bind fun bt213 => (if t207 > 1000000000 then (laws_FnNums.j0 k l0 t206 t207 t210 bt213.1 bt213.2.1 bt213.2.2 1000000000) else (laws_FnNums.j0 k l0 t206 t207 t210 bt213.1 bt213.2.1 bt213.2.2 t207))) = some r := H
  have A5 := mS A50
  clear A50
  replace H := Option.bind_eq_some_iff.mp H
  obtain ⟨⟨t213, t214, t215⟩, A60, H⟩ := H
  replace H : (if t207 > 1000000000 then (laws_FnNums.j0 k l0 t206 t207 t210 t213 t214 t215 1000000000) else (laws_FnNums.j0 k l0 t206 t207 t210 t213 t214 t215 t207)) = some r := H
  have A6 := mS A60
  clear A60
  have HC7 := mS H
  clear H
  go_enter Try.func5, Try.ntmps5
  go_upto_if 39 with (first | ((with_reducible refine gate_callee (f := 23) rfl ?_); refine goesL_ (some 20) rfl rfl Try.func23 (by kernel_rfl) rfl #[.slice A0 l0.length c0] rfl mA ?_; (with_reducible refine (laws_big.calls _ _ l0 false _ ?side1 ?side2 A2.out).mono ?_); (case side1 => repeat (first | exact HR0.out | (with_reducible refine Kd.C_alloc ?_ _) | (with_reducible refine Kd.C_drewN ?_ _) | (with_reducible refine Kd.C_drew ?_))); (case side2 => exact HC0.out); rintro e w' ⟨rfl, ⟨nd, rfl⟩⟩; refine ⟨_, rfl, ?_⟩) | ((with_reducible refine gate_callee (f := 24) rfl ?_); refine goesL_ (some 23) rfl rfl Try.func24 (by kernel_rfl) rfl #[.slice A0 l0.length c0] rfl mA ?_; (with_reducible refine (spec_DrawPutNum.calls k _ _ l0 t206 t207 _ ?side1 ?side2 A4.out).mono ?_); (case side1 => repeat (first | exact HR0.out | (with_reducible refine Kd.C_alloc ?_ _) | (with_reducible refine Kd.C_drewN ?_ _) | (with_reducible refine Kd.C_drew ?_))); (case side2 => exact HC0.out); rintro e w8 ⟨v208, rfl, ho0, hb⟩; refine ⟨_, rfl, ?_⟩; have HO209 := mS (Kd.R_lower ho0 (below_size (mH HB.out))); replace HB := mS (below_step (mH HB.out) hb); (try clear hb); (try clear hb2); (try clear hk); (try clear hi); (try clear ho0); obtain ⟨Ao9, co9, eo9⟩ := Kd.R_slice HO209.out; subst eo9) | ((with_reducible refine gate_callee (f := 25) rfl ?_); refine goesL_ (some 28) rfl rfl Try.func25 (by kernel_rfl) rfl #[.slice Ao9 t206.length co9, .int .i64 t207] rfl mA ?_; (with_reducible refine (impl_PutNum.calls k _ _ t206 t207 t210 _ ?side1 ?side2 A5.out).mono ?_); (case side1 => repeat (first | exact (Kd.R_reads' HO209.out).2.2 | (with_reducible refine Kd.C_alloc ?_ _) | (with_reducible refine Kd.C_drewN ?_ _) | (with_reducible refine Kd.C_drew ?_))); (case side2 => exact (Kd.R_reads' HO209.out).2.1); rintro e w10 ⟨v211, rfl, ho0, hb⟩; refine ⟨_, rfl, ?_⟩; have HO212 := mS (Kd.R_lower (Kd.R_new' ho0 (Kd.R_lt (mR HO209.out))) (below_size (mH HB.out))); replace HO209 := mS (Kd.R_elder' (mR HO209.out) (Kd.R_base ho0) hb); replace HB := mS (below_step (mH HB.out) hb); (try clear hb); (try clear hb2); (try clear hk); (try clear hi); (try clear ho0); obtain ⟨Ao11, co11, eo11⟩ := Kd.R_slice HO212.out; subst eo11) | ((with_reducible refine gate_callee (f := 26) rfl ?_); refine goesL_ (some 33) rfl rfl Try.func26 (by kernel_rfl) rfl #[.slice Ao11 t210.length co11, .int .i64 (t206.length : Int)] rfl mA ?_; (with_reducible refine (impl_GetNum.calls k _ _ t210 (t206.length : Int) t213 t214 t215 _ ?side1 ?side2 A6.out).mono ?_); (case side1 => repeat (first | exact (Kd.R_reads' HO212.out).2.2 | (with_reducible refine Kd.C_alloc ?_ _) | (with_reducible refine Kd.C_drewN ?_ _) | (with_reducible refine Kd.C_drew ?_))); (case side2 => exact (Kd.R_reads' HO212.out).2.1); rintro e w' ⟨rfl, ⟨nd, rfl⟩⟩; refine ⟨_, rfl, ?_⟩))
  (try simp only [Act.put, zA, zB, zC])
  go_cut [9] (fun v9 wc => ∃ (kq : Nat) (x9_6 : Int), v9 = .int .i64 x9_6 ∧ Aside0 (laws_FnNums.j0 kq l0 t206 t207 t210 t213 t214 t215 x9_6 = some r) ∧ Aside0 (kq ≤ k) ∧ Aside0 (Kd.R (Kd.int .u8) 5 wc w.heap.size (fun k_ => some k_ ≠ ((.slice Ao11 t210.length co11) : Value).ownBlock) (.slice Ao9 t206.length co9) t206) ∧ Aside0 (Kd.R (Kd.int .u8) 5 wc w.heap.size (fun k_ => some k_ ≠ ((.slice Ao9 t206.length co9) : Value).ownBlock) (.slice Ao11 t210.length co11) t210) ∧ Aside0 (Below w.heap.size w wc))
  case first =>
   have H := HC7.out
   clear HC7
   by_cases c12 : t207 > 1000000000
   ·rw [if_pos c12] at H
    have c12b0 : decide (1000000000 < t207) = true := decide_eq_true c12
    clear c12
    (first | rw [c12b0] | (simp only [i64_w, i32_w]; rw [c12b0]) | skip)
    have H' := mS H
    clear H
    go_wp2
    go_meet
    case rel => exact ⟨_, (1000000000), (by first | rfl | (simp; done) | (simp [*]; done)), H', ⟨by first | omega | exact Nat.le_refl _⟩, ⟨by (with_reducible repeat (first | apply Kd.R_alloc | apply Kd.R_drewN | apply Kd.R_drew)); exact Kd.R_mono HO209.out (fun _ hk => hk.2)⟩, ⟨by (with_reducible repeat (first | apply Kd.R_alloc | apply Kd.R_drewN | apply Kd.R_drew)); exact Kd.R_mono HO212.out (fun _ hk => hk.2)⟩, ⟨(mH HB.out)⟩⟩
   ·rw [if_neg c12] at H
    have c12b0 : decide (1000000000 < t207) = false := decide_eq_false c12
    clear c12
    (first | rw [c12b0] | (simp only [i64_w, i32_w]; rw [c12b0]) | skip)
    have H' := mS H
    clear H
    go_wp2
    go_meet
    case rel => exact ⟨_, (t207), (by first | rfl | (simp; done) | (simp [*]; done)), H', ⟨by first | omega | exact Nat.le_refl _⟩, ⟨by (with_reducible repeat (first | apply Kd.R_alloc | apply Kd.R_drewN | apply Kd.R_drew)); exact Kd.R_mono HO209.out (fun _ hk => hk.2)⟩, ⟨by (with_reducible repeat (first | apply Kd.R_alloc | apply Kd.R_drewN | apply Kd.R_drew)); exact Kd.R_mono HO212.out (fun _ hk => hk.2)⟩, ⟨(mH HB.out)⟩⟩
  case rest =>
   clear HC7
   try clear c1
   try clear c2
   try clear p2
   try clear c3
   try clear c5
   try clear c12
   try clear c12b0
   obtain ⟨kq, x9_6, rfl, HA, HJ6, HO_3, HO_5, HB⟩ := hcut
   cases kq with
   | zero => exact absurd HA.out (by simp [laws_FnNums.j0])
   | succ kj6 =>
    have H := HA.out
    clear HA
    simp only [laws_FnNums.j0] at H
    have HC13 := mS H
    clear H
    go_upto_if 41 with (fail)
    go_cut [9] (fun v9 wc => ∃ (kq : Nat) (x9_12 : Int), v9 = .int .i64 x9_12 ∧ Aside0 (laws_FnNums.j1 kq l0 t206 t210 t213 t214 t215 x9_12 = some r) ∧ Aside0 (kq ≤ kj6) ∧ Aside0 (Kd.R (Kd.int .u8) 5 wc w.heap.size (fun k_ => some k_ ≠ ((.slice Ao11 t210.length co11) : Value).ownBlock) (.slice Ao9 t206.length co9) t206) ∧ Aside0 (Kd.R (Kd.int .u8) 5 wc w.heap.size (fun k_ => some k_ ≠ ((.slice Ao9 t206.length co9) : Value).ownBlock) (.slice Ao11 t210.length co11) t210) ∧ Aside0 (Below w.heap.size w wc))
    case first =>
     have H := HC13.out
     clear HC13
     by_cases c14 : t207 < 0
     ·rw [if_pos c14] at H
      have c14b0 : decide (t207 < 0) = true := decide_eq_true c14
      clear c14
      (first | rw [c14b0] | (simp only [i64_w, i32_w]; rw [c14b0]) | skip)
      have H' := mS H
      clear H
      go_wp2
      go_meet
      case rel => exact ⟨_, (0), (by first | rfl | (simp; done) | (simp [*]; done)), H', ⟨by have := HJ6.out; first | omega | exact Nat.le_refl _⟩, ⟨by (with_reducible repeat (first | apply Kd.R_alloc | apply Kd.R_drewN | apply Kd.R_drew)); exact HO_3.out⟩, ⟨by (with_reducible repeat (first | apply Kd.R_alloc | apply Kd.R_drewN | apply Kd.R_drew)); exact HO_5.out⟩, ⟨(mH HB.out)⟩⟩
     ·rw [if_neg c14] at H
      have c14b0 : decide (t207 < 0) = false := decide_eq_false c14
      clear c14
      (first | rw [c14b0] | (simp only [i64_w, i32_w]; rw [c14b0]) | skip)
      have H' := mS H
      clear H
      go_wp2
      go_meet
      case rel => exact ⟨_, (x9_6), (by first | rfl | (simp; done) | (simp [*]; done)), H', ⟨by have := HJ6.out; first | omega | exact Nat.le_refl _⟩, ⟨by (with_reducible repeat (first | apply Kd.R_alloc | apply Kd.R_drewN | apply Kd.R_drew)); exact HO_3.out⟩, ⟨by (with_reducible repeat (first | apply Kd.R_alloc | apply Kd.R_drewN | apply Kd.R_drew)); exact HO_5.out⟩, ⟨(mH HB.out)⟩⟩
    case rest =>
     clear HC13
     try clear c1
     try clear c2
     try clear p2
     try clear c3
     try clear c5
     try clear c12
     try clear c12b0
     try clear c14
     try clear c14b0
     try clear p2
     obtain ⟨kq, x9_12, rfl, HA, HJ12, HO_3, HO_5, HB⟩ := hcut
     cases kq with
     | zero => exact absurd HA.out (by simp [laws_FnNums.j1])
     | succ kj12 =>
      have H := HA.out
      clear HA
      simp only [laws_FnNums.j1] at H
      have HC15 := mS H
      clear H
      go_upto_region 11 with (fail)
      go_cut [54] (fun v54 wc => ∃ (kq : Nat) (x54_14 : Bool), v54 = .bool x54_14 ∧ Aside0 (laws_FnNums.j2 kq l0 t206 t210 x54_14 = some r) ∧ Aside0 (kq ≤ kj12) ∧ Aside0 (Kd.R (Kd.int .u8) 5 wc w.heap.size (fun k_ => some k_ ≠ ((.slice Ao11 t210.length co11) : Value).ownBlock) (.slice Ao9 t206.length co9) t206) ∧ Aside0 (Kd.R (Kd.int .u8) 5 wc w.heap.size (fun k_ => some k_ ≠ ((.slice Ao9 t206.length co9) : Value).ownBlock) (.slice Ao11 t210.length co11) t210) ∧ Aside0 (Below w.heap.size w wc))
      case first =>
       have H := HC15.out
       clear HC15
       by_cases c16 : t215 = true
       ·subst c16
        have H1 : (if t213 = x9_12 then (laws_FnNums.j2 kj12 l0 t206 t210 (t214 != (t210.length : Int))) else (laws_FnNums.j2 kj12 l0 t206 t210 true)) = some r := by rw [if_pos rfl] at H; exact H
        clear H
        have H := H1
        clear H1
        by_cases c17 : t213 = x9_12
        ·rw [if_pos c17] at H
         have c17b0 : (t213 == x9_12) = true := beq_iff_eq.mpr c17
         have c17b1 : (t213 != x9_12) = false := bne_eq_false_iff_eq.mpr c17
         clear c17
         (first | rw [c17b0] | (simp only [i64_w, i32_w]; rw [c17b0]) | skip)
         have H' := mS H
         clear H
         go_wp2
         go_meet
         case rel => exact ⟨_, ((t214 != (t210.length : Int))), (by first | rfl | (simp; done) | (simp [*]; done)), H', ⟨by have := HJ6.out; have := HJ12.out; first | omega | exact Nat.le_refl _⟩, ⟨by (with_reducible repeat (first | apply Kd.R_alloc | apply Kd.R_drewN | apply Kd.R_drew)); exact HO_3.out⟩, ⟨by (with_reducible repeat (first | apply Kd.R_alloc | apply Kd.R_drewN | apply Kd.R_drew)); exact HO_5.out⟩, ⟨(mH HB.out)⟩⟩
        ·rw [if_neg c17] at H
         have c17b0 : (t213 == x9_12) = false := beq_eq_false_iff_ne.mpr c17
         have c17b1 : (t213 != x9_12) = true := bne_iff_ne.mpr c17
         (first | rw [c17b0] | (simp only [i64_w, i32_w]; rw [c17b0]) | skip)
         have H' := mS H
         clear H
         go_wp2
         go_meet
         case rel => exact ⟨_, (true), (by first | rfl | (simp; done) | (simp [*]; done)), H', ⟨by have := HJ6.out; have := HJ12.out; first | omega | exact Nat.le_refl _⟩, ⟨by (with_reducible repeat (first | apply Kd.R_alloc | apply Kd.R_drewN | apply Kd.R_drew)); exact HO_3.out⟩, ⟨by (with_reducible repeat (first | apply Kd.R_alloc | apply Kd.R_drewN | apply Kd.R_drew)); exact HO_5.out⟩, ⟨(mH HB.out)⟩⟩
       ·replace c16 := Bool.eq_false_iff.mpr c16
        subst c16
        have H1 : (laws_FnNums.j2 kj12 l0 t206 t210 true) = some r := by rw [if_neg (show ¬ (false = true) by decide)] at H; exact H
        clear H
        have H := H1
        clear H1
        have H' := mS H
        clear H
        go_wp2
        go_meet
        case rel => exact ⟨_, (true), (by first | rfl | (simp; done) | (simp [*]; done)), H', ⟨by have := HJ6.out; have := HJ12.out; first | omega | exact Nat.le_refl _⟩, ⟨by (with_reducible repeat (first | apply Kd.R_alloc | apply Kd.R_drewN | apply Kd.R_drew)); exact HO_3.out⟩, ⟨by (with_reducible repeat (first | apply Kd.R_alloc | apply Kd.R_drewN | apply Kd.R_drew)); exact HO_5.out⟩, ⟨(mH HB.out)⟩⟩
      case rest =>
       clear HC15
       try clear c1
       try clear c2
       try clear p2
       try clear c3
       try clear c5
       try clear c12
       try clear c12b0
       try clear c14
       try clear c14b0
       try clear c16
       try clear c17
       try clear c17b0
       try clear c17b1
       try clear p2
       obtain ⟨kq, x54_14, rfl, HA, HJ14, HO_3, HO_5, HB⟩ := hcut
       cases kq with
       | zero => exact absurd HA.out (by simp [laws_FnNums.j2])
       | succ kj14 =>
        have H := HA.out
        clear HA
        simp only [laws_FnNums.j2] at H
        by_cases c18 : x54_14 = true
        ·subst c18
         have H1 : (some false) = some r := by rw [if_pos rfl] at H; exact H
         clear H
         have H := H1
         clear H1
         obtain rfl := Option.some.inj H
         go_wp2
         go_ret
         exact ⟨by first | rfl | (simp [errW_none, errW_some] <;> rfl) | (simp [*, errW_none, errW_some] <;> rfl), (mH HB.out)⟩
        ·replace c18 := Bool.eq_false_iff.mpr c18
         subst c18
         have H1 : (if 0 ≤ (wrap64 ((t210.length : Int) - 1)) then (if (wrap64 ((t210.length : Int) - 1)) ≤ (t210.length : Int) then ((impl_GetNum.f kj14 (t210.take ((wrap64 ((t210.length : Int) - 1)) : Int).toNat) (t206.length : Int)).bind fun bt220 => ((spec_DrawPutText.f kj14 l0).bind fun bt223 => ((impl_PutText.f kj14 bt223.1 bt223.2).bind fun t227 => ((impl_GetText.f kj14 t227 (bt223.1.length : Int)).bind fun bt230 => (if bt220.2.2 = true then (some false) else (if bt230.2.2 = true then (if bt230.1.toList = bt223.2.toList then (some (bt230.2.1 == (t227.length : Int))) else (some false)) else (some false))))))) else (none)) else (none)) = some r := by rw [if_neg (show ¬ (false = true) by decide)] at H; exact H
         clear H
         have H := H1
         clear H1
         obtain ⟨ji19, hji19⟩ : ∃ j_ : Int, (wrap64 ((t210.length : Int) - 1)) = j_ := ⟨_, rfl⟩
         replace H : (if 0 ≤ (ji19) then (if (ji19) ≤ (t210.length : Int) then ((impl_GetNum.f kj14 (t210.take ((ji19) : Int).toNat) (t206.length : Int)).bind fun bt220 => ((spec_DrawPutText.f kj14 l0).bind fun bt223 => ((impl_PutText.f kj14 bt223.1 bt223.2).bind fun t227 => ((impl_GetText.f kj14 t227 (bt223.1.length : Int)).bind fun bt230 => (if bt220.2.2 = true then (some false) else (if bt230.2.2 = true then (if bt230.1.toList = bt223.2.toList then (some (bt230.2.1 == (t227.length : Int))) else (some false)) else (some false))))))) else (none)) else (none)) = some r := by first | (rw [hji19] at H; exact H) | (simp only [hji19] at H ⊢; exact H)
         have hji19w : (IntKind.i64.wrap ((t210.length : Int) - 1)) = ji19 := (i64_w _).trans hji19
         by_cases c20 : 0 ≤ (ji19)
         ·rw [if_pos c20] at H
          have c20b0 := eq_true c20
          have c20b1 : decide (0 ≤ (ji19)) = true := decide_eq_true c20
          clear c20
          by_cases c21 : (ji19) ≤ (t210.length : Int)
          ·rw [if_pos c21] at H
           have c21b0 := eq_true c21
           have c21b1 : decide ((ji19) ≤ (t210.length : Int)) = true := decide_eq_true c21
           clear c21
           obtain ⟨y216, hy216⟩ : ∃ y_ : List Int, y_ = (t210.take ((ji19) : Int).toNat) := ⟨_, rfl⟩
           replace H : ((impl_GetNum.f kj14 y216 (t206.length : Int)).bind fun bt220 => ((spec_DrawPutText.f kj14 l0).bind fun bt223 => ((impl_PutText.f kj14 bt223.1 bt223.2).bind fun t227 => ((impl_GetText.f kj14 t227 (bt223.1.length : Int)).bind fun bt230 => (if bt220.2.2 = true then (some false) else (if bt230.2.2 = true then (if bt230.1.toList = bt223.2.toList then (some (bt230.2.1 == (t227.length : Int))) else (some false)) else (some false))))))) = some r := by first | (rw [hy216]; with_reducible exact H) | (have H2_ := (Option.bind_some _ _).symm.trans H; rw [hy216]; with_reducible exact H2_) | (have H2_ := (Option.bind_some _ _).symm.trans H; with_reducible exact H2_) | with_reducible exact H | (rw [hy216]; exact H) | exact H
           have Ny216 := mS hy216
           clear hy216
           replace H := Option.bind_eq_some_iff.mp H
           obtain ⟨⟨t220, t221, t222⟩, A220, H⟩ := H
           replace H : ((spec_DrawPutText.f kj14 l0).bind fun bt223 => ((impl_PutText.f kj14 bt223.1 bt223.2).bind fun t227 => ((impl_GetText.f kj14 t227 (bt223.1.length : Int)).bind fun bt230 => (if t222 = true then (some false) else (if bt230.2.2 = true then (if bt230.1.toList = bt223.2.toList then (some (bt230.2.1 == (t227.length : Int))) else (some false)) else (some false)))))) = some r := H
           have A22 := mS A220
           clear A220
           replace H := Option.bind_eq_some_iff.mp H
           obtain ⟨⟨t223, t224⟩, A230, H⟩ := H
           replace H : ((impl_PutText.f kj14 t223 t224).bind fun t227 => ((impl_GetText.f kj14 t227 (t223.length : Int)).bind fun bt230 => (if t222 = true then (some false) else (if bt230.2.2 = true then (if bt230.1.toList = t224.toList then (some (bt230.2.1 == (t227.length : Int))) else (some false)) else (some false))))) = some r := H
           have A23 := mS A230
           clear A230
           replace H := Option.bind_eq_some_iff.mp H
           obtain ⟨t227, A240, H⟩ := H
           replace H : ((impl_GetText.f kj14 t227 (t223.length : Int)).bind fun bt230 => (if t222 = true then (some false) else (if bt230.2.2 = true then (if bt230.1.toList = t224.toList then (some (bt230.2.1 == (t227.length : Int))) else (some false)) else (some false)))) = some r := H
           have A24 := mS A240
           clear A240
           replace H := Option.bind_eq_some_iff.mp H
           obtain ⟨⟨t230, t231, t232⟩, A250, H⟩ := H
           replace H : (if t222 = true then (some false) else (if t232 = true then (if t230.toList = t224.toList then (some (t231 == (t227.length : Int))) else (some false)) else (some false))) = some r := H
           have A25 := mS A250
           clear A250
           by_cases c26 : t222 = true
           ·subst c26
            have H1 : (some false) = some r := by rw [if_pos rfl] at H; exact H
            clear H
            have H := H1
            clear H1
            obtain rfl := Option.some.inj H
            have q27 : ((ji19) : Int) ≤ ((t210.length : Int) : Int) := of_decide_eq_true (by first | (with_reducible assumption) | assumption)
            obtain ⟨i027, hi027, _, hsz27, _⟩ := info_parts info5
            have hroom27 : t210.length ≤ co11 := (Kd.R_reads' HO_5.out).2.1
            have hC27 : Kd.C (Kd.int .u8) _ Ao11 t210.length t210 := (Kd.R_reads' HO_5.out).2.2
            have hcut27 := cut_to (P := Try.prog) 22 5 .i64 Try.underlying22 hi027 Ao11 t210.length co11 (ji19) (of_decide_eq_true (by first | (with_reducible assumption) | assumption)) q27 hroom27
            have hr27 := Kd.C_take (m := ((ji19) : Int).toNat) hC27 (by omega)
            have hy27 : y216.length = ((ji19) : Int).toNat := (by rw [Ny216.out, List.length_take]; omega)
            rw [← Ny216.out] at hr27
            rw [← hy27] at hcut27
            have HR219 := mS hr27
            have HC219 := mS (show y216.length ≤ co11 from by omega)
            clear hr27 hC27 hroom27 hi027 hsz27
            have KY27 := mS hy27
            clear hy27
            have KL27 := mS (show ((ji19) : Int).toNat ≤ t210.length from by omega)
            replace q27 := eq_true q27
            go_wp2_with (first | ((with_reducible refine gate_callee (f := 26) rfl ?_); refine goesL_ (some 63) rfl rfl Try.func26 (by kernel_rfl) rfl #[.slice Ao11 y216.length co11, .int .i64 (t206.length : Int)] rfl mA ?_; (with_reducible refine (impl_GetNum.calls kj14 _ _ y216 (t206.length : Int) t220 t221 true _ ?side1 ?side2 A22.out).mono ?_); (case side1 => repeat (first | exact (mC HR219.out) | (with_reducible refine Kd.C_alloc ?_ _) | (with_reducible refine Kd.C_drewN ?_ _) | (with_reducible refine Kd.C_drew ?_))); (case side2 => exact HC219.out); rintro e w' ⟨rfl, ⟨nd, rfl⟩⟩; refine ⟨_, rfl, ?_⟩) | ((with_reducible refine gate_callee (f := 27) rfl ?_); refine goesL_ (some 69) rfl rfl Try.func27 (by kernel_rfl) rfl #[.slice A0 l0.length c0] rfl mA ?_; (with_reducible refine (spec_DrawPutText.calls kj14 _ _ l0 t223 t224 _ ?side1 ?side2 A23.out).mono ?_); (case side1 => repeat (first | exact (Kd.C_below HR0.out (mH HB.out)) | (with_reducible refine Kd.C_alloc ?_ _) | (with_reducible refine Kd.C_drewN ?_ _) | (with_reducible refine Kd.C_drew ?_))); (case side2 => exact HC0.out); rintro e w28 ⟨v225, rfl, ho0, hb⟩; refine ⟨_, rfl, ?_⟩; have HO226 := mS (Kd.R_lower (Kd.R_new' (Kd.R_new' ho0 (Kd.R_lt (mR HO_3.out))) (Kd.R_lt (mR HO_5.out))) (below_size (mH HB.out))); replace HO_3 := mS (Kd.R_elder' (mR HO_3.out) (Kd.R_base ho0) hb); replace HO_5 := mS (Kd.R_elder' (mR HO_5.out) (Kd.R_base ho0) hb); replace HR219 := mS (Kd.C_below (mC HR219.out) hb); replace HB := mS (below_step (mH HB.out) hb); (try clear hb); (try clear hb2); (try clear hk); (try clear hi); (try clear ho0); obtain ⟨Ao29, co29, eo29⟩ := Kd.R_slice HO226.out; subst eo29) | ((with_reducible refine gate_callee (f := 17) rfl ?_); refine goesL_ (some 74) rfl rfl Try.func17 (by kernel_rfl) rfl #[.slice Ao29 t223.length co29, .string t224] rfl mA ?_; (with_reducible refine (impl_PutText.calls kj14 _ _ t223 t224 t227 _ ?side1 ?side2 A24.out).mono ?_); (case side1 => repeat (first | exact (Kd.R_reads' HO226.out).2.2 | (with_reducible refine Kd.C_alloc ?_ _) | (with_reducible refine Kd.C_drewN ?_ _) | (with_reducible refine Kd.C_drew ?_))); (case side2 => exact (Kd.R_reads' HO226.out).2.1); rintro e w30 ⟨v228, rfl, ho0, hb⟩; refine ⟨_, rfl, ?_⟩; have HO229 := mS (Kd.R_lower (Kd.R_new' (Kd.R_new' (Kd.R_new' ho0 (Kd.R_lt (mR HO_3.out))) (Kd.R_lt (mR HO_5.out))) (Kd.R_lt (mR HO226.out))) (below_size (mH HB.out))); replace HO_3 := mS (Kd.R_elder' (mR HO_3.out) (Kd.R_base ho0) hb); replace HO_5 := mS (Kd.R_elder' (mR HO_5.out) (Kd.R_base ho0) hb); replace HO226 := mS (Kd.R_elder' (mR HO226.out) (Kd.R_base ho0) hb); replace HR219 := mS (Kd.C_below (mC HR219.out) hb); replace HB := mS (below_step (mH HB.out) hb); (try clear hb); (try clear hb2); (try clear hk); (try clear hi); (try clear ho0); obtain ⟨Ao31, co31, eo31⟩ := Kd.R_slice HO229.out; subst eo31) | ((with_reducible refine gate_callee (f := 28) rfl ?_); refine goesL_ (some 79) rfl rfl Try.func28 (by kernel_rfl) rfl #[.slice Ao31 t227.length co31, .int .i64 (t223.length : Int)] rfl mA ?_; (with_reducible refine (impl_GetText.calls kj14 _ _ t227 (t223.length : Int) t230 t231 t232 _ ?side1 ?side2 A25.out).mono ?_); (case side1 => repeat (first | exact (Kd.R_reads' HO229.out).2.2 | (with_reducible refine Kd.C_alloc ?_ _) | (with_reducible refine Kd.C_drewN ?_ _) | (with_reducible refine Kd.C_drew ?_))); (case side2 => exact (Kd.R_reads' HO229.out).2.1); rintro e w' ⟨rfl, ⟨nd, rfl⟩⟩; refine ⟨_, rfl, ?_⟩))
            go_ret
            exact ⟨by first | rfl | (simp [errW_none, errW_some] <;> rfl) | (simp only [← hji19]; first | rfl | (simp [errW_none, errW_some] <;> rfl)) | (simp [*, errW_none, errW_some] <;> rfl), (mH HB.out)⟩
           ·replace c26 := Bool.eq_false_iff.mpr c26
            subst c26
            have H1 : (if t232 = true then (if t230.toList = t224.toList then (some (t231 == (t227.length : Int))) else (some false)) else (some false)) = some r := by rw [if_neg (show ¬ (false = true) by decide)] at H; exact H
            clear H
            have H := H1
            clear H1
            by_cases c32 : t232 = true
            ·subst c32
             have H1 : (if t230.toList = t224.toList then (some (t231 == (t227.length : Int))) else (some false)) = some r := by rw [if_pos rfl] at H; exact H
             clear H
             have H := H1
             clear H1
             by_cases c33 : t230.toList = t224.toList
             ·rw [if_pos c33] at H
              have c33b0 : (t230.toList == t224.toList) = true := beq_iff_eq.mpr c33
              have c33b1 : (t230.toList != t224.toList) = false := bne_eq_false_iff_eq.mpr c33
              clear c33
              obtain rfl := Option.some.inj H
              have q34 : ((ji19) : Int) ≤ ((t210.length : Int) : Int) := of_decide_eq_true (by first | (with_reducible assumption) | assumption)
              obtain ⟨i034, hi034, _, hsz34, _⟩ := info_parts info5
              have hroom34 : t210.length ≤ co11 := (Kd.R_reads' HO_5.out).2.1
              have hC34 : Kd.C (Kd.int .u8) _ Ao11 t210.length t210 := (Kd.R_reads' HO_5.out).2.2
              have hcut34 := cut_to (P := Try.prog) 22 5 .i64 Try.underlying22 hi034 Ao11 t210.length co11 (ji19) (of_decide_eq_true (by first | (with_reducible assumption) | assumption)) q34 hroom34
              have hr34 := Kd.C_take (m := ((ji19) : Int).toNat) hC34 (by omega)
              have hy34 : y216.length = ((ji19) : Int).toNat := (by rw [Ny216.out, List.length_take]; omega)
              rw [← Ny216.out] at hr34
              rw [← hy34] at hcut34
              have HR219 := mS hr34
              have HC219 := mS (show y216.length ≤ co11 from by omega)
              clear hr34 hC34 hroom34 hi034 hsz34
              have KY34 := mS hy34
              clear hy34
              have KL34 := mS (show ((ji19) : Int).toNat ≤ t210.length from by omega)
              replace q34 := eq_true q34
              go_wp2_with (first | ((with_reducible refine gate_callee (f := 26) rfl ?_); refine goesL_ (some 63) rfl rfl Try.func26 (by kernel_rfl) rfl #[.slice Ao11 y216.length co11, .int .i64 (t206.length : Int)] rfl mA ?_; (with_reducible refine (impl_GetNum.calls kj14 _ _ y216 (t206.length : Int) t220 t221 false _ ?side1 ?side2 A22.out).mono ?_); (case side1 => repeat (first | exact (mC HR219.out) | (with_reducible refine Kd.C_alloc ?_ _) | (with_reducible refine Kd.C_drewN ?_ _) | (with_reducible refine Kd.C_drew ?_))); (case side2 => exact HC219.out); rintro e w' ⟨rfl, ⟨nd, rfl⟩⟩; refine ⟨_, rfl, ?_⟩) | ((with_reducible refine gate_callee (f := 27) rfl ?_); refine goesL_ (some 69) rfl rfl Try.func27 (by kernel_rfl) rfl #[.slice A0 l0.length c0] rfl mA ?_; (with_reducible refine (spec_DrawPutText.calls kj14 _ _ l0 t223 t224 _ ?side1 ?side2 A23.out).mono ?_); (case side1 => repeat (first | exact (Kd.C_below HR0.out (mH HB.out)) | (with_reducible refine Kd.C_alloc ?_ _) | (with_reducible refine Kd.C_drewN ?_ _) | (with_reducible refine Kd.C_drew ?_))); (case side2 => exact HC0.out); rintro e w35 ⟨v225, rfl, ho0, hb⟩; refine ⟨_, rfl, ?_⟩; have HO226 := mS (Kd.R_lower (Kd.R_new' (Kd.R_new' ho0 (Kd.R_lt (mR HO_3.out))) (Kd.R_lt (mR HO_5.out))) (below_size (mH HB.out))); replace HO_3 := mS (Kd.R_elder' (mR HO_3.out) (Kd.R_base ho0) hb); replace HO_5 := mS (Kd.R_elder' (mR HO_5.out) (Kd.R_base ho0) hb); replace HR219 := mS (Kd.C_below (mC HR219.out) hb); replace HB := mS (below_step (mH HB.out) hb); (try clear hb); (try clear hb2); (try clear hk); (try clear hi); (try clear ho0); obtain ⟨Ao36, co36, eo36⟩ := Kd.R_slice HO226.out; subst eo36) | ((with_reducible refine gate_callee (f := 17) rfl ?_); refine goesL_ (some 74) rfl rfl Try.func17 (by kernel_rfl) rfl #[.slice Ao36 t223.length co36, .string t224] rfl mA ?_; (with_reducible refine (impl_PutText.calls kj14 _ _ t223 t224 t227 _ ?side1 ?side2 A24.out).mono ?_); (case side1 => repeat (first | exact (Kd.R_reads' HO226.out).2.2 | (with_reducible refine Kd.C_alloc ?_ _) | (with_reducible refine Kd.C_drewN ?_ _) | (with_reducible refine Kd.C_drew ?_))); (case side2 => exact (Kd.R_reads' HO226.out).2.1); rintro e w37 ⟨v228, rfl, ho0, hb⟩; refine ⟨_, rfl, ?_⟩; have HO229 := mS (Kd.R_lower (Kd.R_new' (Kd.R_new' (Kd.R_new' ho0 (Kd.R_lt (mR HO_3.out))) (Kd.R_lt (mR HO_5.out))) (Kd.R_lt (mR HO226.out))) (below_size (mH HB.out))); replace HO_3 := mS (Kd.R_elder' (mR HO_3.out) (Kd.R_base ho0) hb); replace HO_5 := mS (Kd.R_elder' (mR HO_5.out) (Kd.R_base ho0) hb); replace HO226 := mS (Kd.R_elder' (mR HO226.out) (Kd.R_base ho0) hb); replace HR219 := mS (Kd.C_below (mC HR219.out) hb); replace HB := mS (below_step (mH HB.out) hb); (try clear hb); (try clear hb2); (try clear hk); (try clear hi); (try clear ho0); obtain ⟨Ao38, co38, eo38⟩ := Kd.R_slice HO229.out; subst eo38) | ((with_reducible refine gate_callee (f := 28) rfl ?_); refine goesL_ (some 79) rfl rfl Try.func28 (by kernel_rfl) rfl #[.slice Ao38 t227.length co38, .int .i64 (t223.length : Int)] rfl mA ?_; (with_reducible refine (impl_GetText.calls kj14 _ _ t227 (t223.length : Int) t230 t231 true _ ?side1 ?side2 A25.out).mono ?_); (case side1 => repeat (first | exact (Kd.R_reads' HO229.out).2.2 | (with_reducible refine Kd.C_alloc ?_ _) | (with_reducible refine Kd.C_drewN ?_ _) | (with_reducible refine Kd.C_drew ?_))); (case side2 => exact (Kd.R_reads' HO229.out).2.1); rintro e w' ⟨rfl, ⟨nd, rfl⟩⟩; refine ⟨_, rfl, ?_⟩))
              go_ret
              exact ⟨by first | rfl | (simp [errW_none, errW_some] <;> rfl) | (simp only [← hji19]; first | rfl | (simp [errW_none, errW_some] <;> rfl)) | (simp [*, errW_none, errW_some] <;> rfl), (mH HB.out)⟩
             ·rw [if_neg c33] at H
              have c33b0 : (t230.toList == t224.toList) = false := beq_eq_false_iff_ne.mpr c33
              have c33b1 : (t230.toList != t224.toList) = true := bne_iff_ne.mpr c33
              obtain rfl := Option.some.inj H
              have q39 : ((ji19) : Int) ≤ ((t210.length : Int) : Int) := of_decide_eq_true (by first | (with_reducible assumption) | assumption)
              obtain ⟨i039, hi039, _, hsz39, _⟩ := info_parts info5
              have hroom39 : t210.length ≤ co11 := (Kd.R_reads' HO_5.out).2.1
              have hC39 : Kd.C (Kd.int .u8) _ Ao11 t210.length t210 := (Kd.R_reads' HO_5.out).2.2
              have hcut39 := cut_to (P := Try.prog) 22 5 .i64 Try.underlying22 hi039 Ao11 t210.length co11 (ji19) (of_decide_eq_true (by first | (with_reducible assumption) | assumption)) q39 hroom39
              have hr39 := Kd.C_take (m := ((ji19) : Int).toNat) hC39 (by omega)
              have hy39 : y216.length = ((ji19) : Int).toNat := (by rw [Ny216.out, List.length_take]; omega)
              rw [← Ny216.out] at hr39
              rw [← hy39] at hcut39
              have HR219 := mS hr39
              have HC219 := mS (show y216.length ≤ co11 from by omega)
              clear hr39 hC39 hroom39 hi039 hsz39
              have KY39 := mS hy39
              clear hy39
              have KL39 := mS (show ((ji19) : Int).toNat ≤ t210.length from by omega)
              replace q39 := eq_true q39
              go_wp2_with (first | ((with_reducible refine gate_callee (f := 26) rfl ?_); refine goesL_ (some 63) rfl rfl Try.func26 (by kernel_rfl) rfl #[.slice Ao11 y216.length co11, .int .i64 (t206.length : Int)] rfl mA ?_; (with_reducible refine (impl_GetNum.calls kj14 _ _ y216 (t206.length : Int) t220 t221 false _ ?side1 ?side2 A22.out).mono ?_); (case side1 => repeat (first | exact (mC HR219.out) | (with_reducible refine Kd.C_alloc ?_ _) | (with_reducible refine Kd.C_drewN ?_ _) | (with_reducible refine Kd.C_drew ?_))); (case side2 => exact HC219.out); rintro e w' ⟨rfl, ⟨nd, rfl⟩⟩; refine ⟨_, rfl, ?_⟩) | ((with_reducible refine gate_callee (f := 27) rfl ?_); refine goesL_ (some 69) rfl rfl Try.func27 (by kernel_rfl) rfl #[.slice A0 l0.length c0] rfl mA ?_; (with_reducible refine (spec_DrawPutText.calls kj14 _ _ l0 t223 t224 _ ?side1 ?side2 A23.out).mono ?_); (case side1 => repeat (first | exact (Kd.C_below HR0.out (mH HB.out)) | (with_reducible refine Kd.C_alloc ?_ _) | (with_reducible refine Kd.C_drewN ?_ _) | (with_reducible refine Kd.C_drew ?_))); (case side2 => exact HC0.out); rintro e w40 ⟨v225, rfl, ho0, hb⟩; refine ⟨_, rfl, ?_⟩; have HO226 := mS (Kd.R_lower (Kd.R_new' (Kd.R_new' ho0 (Kd.R_lt (mR HO_3.out))) (Kd.R_lt (mR HO_5.out))) (below_size (mH HB.out))); replace HO_3 := mS (Kd.R_elder' (mR HO_3.out) (Kd.R_base ho0) hb); replace HO_5 := mS (Kd.R_elder' (mR HO_5.out) (Kd.R_base ho0) hb); replace HR219 := mS (Kd.C_below (mC HR219.out) hb); replace HB := mS (below_step (mH HB.out) hb); (try clear hb); (try clear hb2); (try clear hk); (try clear hi); (try clear ho0); obtain ⟨Ao41, co41, eo41⟩ := Kd.R_slice HO226.out; subst eo41) | ((with_reducible refine gate_callee (f := 17) rfl ?_); refine goesL_ (some 74) rfl rfl Try.func17 (by kernel_rfl) rfl #[.slice Ao41 t223.length co41, .string t224] rfl mA ?_; (with_reducible refine (impl_PutText.calls kj14 _ _ t223 t224 t227 _ ?side1 ?side2 A24.out).mono ?_); (case side1 => repeat (first | exact (Kd.R_reads' HO226.out).2.2 | (with_reducible refine Kd.C_alloc ?_ _) | (with_reducible refine Kd.C_drewN ?_ _) | (with_reducible refine Kd.C_drew ?_))); (case side2 => exact (Kd.R_reads' HO226.out).2.1); rintro e w42 ⟨v228, rfl, ho0, hb⟩; refine ⟨_, rfl, ?_⟩; have HO229 := mS (Kd.R_lower (Kd.R_new' (Kd.R_new' (Kd.R_new' ho0 (Kd.R_lt (mR HO_3.out))) (Kd.R_lt (mR HO_5.out))) (Kd.R_lt (mR HO226.out))) (below_size (mH HB.out))); replace HO_3 := mS (Kd.R_elder' (mR HO_3.out) (Kd.R_base ho0) hb); replace HO_5 := mS (Kd.R_elder' (mR HO_5.out) (Kd.R_base ho0) hb); replace HO226 := mS (Kd.R_elder' (mR HO226.out) (Kd.R_base ho0) hb); replace HR219 := mS (Kd.C_below (mC HR219.out) hb); replace HB := mS (below_step (mH HB.out) hb); (try clear hb); (try clear hb2); (try clear hk); (try clear hi); (try clear ho0); obtain ⟨Ao43, co43, eo43⟩ := Kd.R_slice HO229.out; subst eo43) | ((with_reducible refine gate_callee (f := 28) rfl ?_); refine goesL_ (some 79) rfl rfl Try.func28 (by kernel_rfl) rfl #[.slice Ao43 t227.length co43, .int .i64 (t223.length : Int)] rfl mA ?_; (with_reducible refine (impl_GetText.calls kj14 _ _ t227 (t223.length : Int) t230 t231 true _ ?side1 ?side2 A25.out).mono ?_); (case side1 => repeat (first | exact (Kd.R_reads' HO229.out).2.2 | (with_reducible refine Kd.C_alloc ?_ _) | (with_reducible refine Kd.C_drewN ?_ _) | (with_reducible refine Kd.C_drew ?_))); (case side2 => exact (Kd.R_reads' HO229.out).2.1); rintro e w' ⟨rfl, ⟨nd, rfl⟩⟩; refine ⟨_, rfl, ?_⟩))
              go_ret
              exact ⟨by first | rfl | (simp [errW_none, errW_some] <;> rfl) | (simp only [← hji19]; first | rfl | (simp [errW_none, errW_some] <;> rfl)) | (simp [*, errW_none, errW_some] <;> rfl), (mH HB.out)⟩
            ·replace c32 := Bool.eq_false_iff.mpr c32
             subst c32
             have H1 : (some false) = some r := by rw [if_neg (show ¬ (false = true) by decide)] at H; exact H
             clear H
             have H := H1
             clear H1
             obtain rfl := Option.some.inj H
             have q44 : ((ji19) : Int) ≤ ((t210.length : Int) : Int) := of_decide_eq_true (by first | (with_reducible assumption) | assumption)
             obtain ⟨i044, hi044, _, hsz44, _⟩ := info_parts info5
             have hroom44 : t210.length ≤ co11 := (Kd.R_reads' HO_5.out).2.1
             have hC44 : Kd.C (Kd.int .u8) _ Ao11 t210.length t210 := (Kd.R_reads' HO_5.out).2.2
             have hcut44 := cut_to (P := Try.prog) 22 5 .i64 Try.underlying22 hi044 Ao11 t210.length co11 (ji19) (of_decide_eq_true (by first | (with_reducible assumption) | assumption)) q44 hroom44
             have hr44 := Kd.C_take (m := ((ji19) : Int).toNat) hC44 (by omega)
             have hy44 : y216.length = ((ji19) : Int).toNat := (by rw [Ny216.out, List.length_take]; omega)
             rw [← Ny216.out] at hr44
             rw [← hy44] at hcut44
             have HR219 := mS hr44
             have HC219 := mS (show y216.length ≤ co11 from by omega)
             clear hr44 hC44 hroom44 hi044 hsz44
             have KY44 := mS hy44
             clear hy44
             have KL44 := mS (show ((ji19) : Int).toNat ≤ t210.length from by omega)
             replace q44 := eq_true q44
             go_wp2_with (first | ((with_reducible refine gate_callee (f := 26) rfl ?_); refine goesL_ (some 63) rfl rfl Try.func26 (by kernel_rfl) rfl #[.slice Ao11 y216.length co11, .int .i64 (t206.length : Int)] rfl mA ?_; (with_reducible refine (impl_GetNum.calls kj14 _ _ y216 (t206.length : Int) t220 t221 false _ ?side1 ?side2 A22.out).mono ?_); (case side1 => repeat (first | exact (mC HR219.out) | (with_reducible refine Kd.C_alloc ?_ _) | (with_reducible refine Kd.C_drewN ?_ _) | (with_reducible refine Kd.C_drew ?_))); (case side2 => exact HC219.out); rintro e w' ⟨rfl, ⟨nd, rfl⟩⟩; refine ⟨_, rfl, ?_⟩) | ((with_reducible refine gate_callee (f := 27) rfl ?_); refine goesL_ (some 69) rfl rfl Try.func27 (by kernel_rfl) rfl #[.slice A0 l0.length c0] rfl mA ?_; (with_reducible refine (spec_DrawPutText.calls kj14 _ _ l0 t223 t224 _ ?side1 ?side2 A23.out).mono ?_); (case side1 => repeat (first | exact (Kd.C_below HR0.out (mH HB.out)) | (with_reducible refine Kd.C_alloc ?_ _) | (with_reducible refine Kd.C_drewN ?_ _) | (with_reducible refine Kd.C_drew ?_))); (case side2 => exact HC0.out); rintro e w45 ⟨v225, rfl, ho0, hb⟩; refine ⟨_, rfl, ?_⟩; have HO226 := mS (Kd.R_lower (Kd.R_new' (Kd.R_new' ho0 (Kd.R_lt (mR HO_3.out))) (Kd.R_lt (mR HO_5.out))) (below_size (mH HB.out))); replace HO_3 := mS (Kd.R_elder' (mR HO_3.out) (Kd.R_base ho0) hb); replace HO_5 := mS (Kd.R_elder' (mR HO_5.out) (Kd.R_base ho0) hb); replace HR219 := mS (Kd.C_below (mC HR219.out) hb); replace HB := mS (below_step (mH HB.out) hb); (try clear hb); (try clear hb2); (try clear hk); (try clear hi); (try clear ho0); obtain ⟨Ao46, co46, eo46⟩ := Kd.R_slice HO226.out; subst eo46) | ((with_reducible refine gate_callee (f := 17) rfl ?_); refine goesL_ (some 74) rfl rfl Try.func17 (by kernel_rfl) rfl #[.slice Ao46 t223.length co46, .string t224] rfl mA ?_; (with_reducible refine (impl_PutText.calls kj14 _ _ t223 t224 t227 _ ?side1 ?side2 A24.out).mono ?_); (case side1 => repeat (first | exact (Kd.R_reads' HO226.out).2.2 | (with_reducible refine Kd.C_alloc ?_ _) | (with_reducible refine Kd.C_drewN ?_ _) | (with_reducible refine Kd.C_drew ?_))); (case side2 => exact (Kd.R_reads' HO226.out).2.1); rintro e w47 ⟨v228, rfl, ho0, hb⟩; refine ⟨_, rfl, ?_⟩; have HO229 := mS (Kd.R_lower (Kd.R_new' (Kd.R_new' (Kd.R_new' ho0 (Kd.R_lt (mR HO_3.out))) (Kd.R_lt (mR HO_5.out))) (Kd.R_lt (mR HO226.out))) (below_size (mH HB.out))); replace HO_3 := mS (Kd.R_elder' (mR HO_3.out) (Kd.R_base ho0) hb); replace HO_5 := mS (Kd.R_elder' (mR HO_5.out) (Kd.R_base ho0) hb); replace HO226 := mS (Kd.R_elder' (mR HO226.out) (Kd.R_base ho0) hb); replace HR219 := mS (Kd.C_below (mC HR219.out) hb); replace HB := mS (below_step (mH HB.out) hb); (try clear hb); (try clear hb2); (try clear hk); (try clear hi); (try clear ho0); obtain ⟨Ao48, co48, eo48⟩ := Kd.R_slice HO229.out; subst eo48) | ((with_reducible refine gate_callee (f := 28) rfl ?_); refine goesL_ (some 79) rfl rfl Try.func28 (by kernel_rfl) rfl #[.slice Ao48 t227.length co48, .int .i64 (t223.length : Int)] rfl mA ?_; (with_reducible refine (impl_GetText.calls kj14 _ _ t227 (t223.length : Int) t230 t231 false _ ?side1 ?side2 A25.out).mono ?_); (case side1 => repeat (first | exact (Kd.R_reads' HO229.out).2.2 | (with_reducible refine Kd.C_alloc ?_ _) | (with_reducible refine Kd.C_drewN ?_ _) | (with_reducible refine Kd.C_drew ?_))); (case side2 => exact (Kd.R_reads' HO229.out).2.1); rintro e w' ⟨rfl, ⟨nd, rfl⟩⟩; refine ⟨_, rfl, ?_⟩))
             go_ret
             exact ⟨by first | rfl | (simp [errW_none, errW_some] <;> rfl) | (simp only [← hji19]; first | rfl | (simp [errW_none, errW_some] <;> rfl)) | (simp [*, errW_none, errW_some] <;> rfl), (mH HB.out)⟩
          ·rw [if_neg c21] at H
           exact absurd H (by simp)
         ·rw [if_neg c20] at H
          exact absurd H (by simp)

end Go.Proofs.Ytgncojbnejdplaa.MFnNums
