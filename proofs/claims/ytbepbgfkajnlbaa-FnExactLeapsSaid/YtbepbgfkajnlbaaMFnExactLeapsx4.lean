-- Written by mp.py, this session's own printer (wip/mp.py).
import Derived.Test.YtbepbgfkajnlbaaVMShort
import Derived.Test.YtbepbgfkajnlbaaMFnExactLeapsx0
import Derived.Test.YtbepbgfkajnlbaaMFnExactLeapsx1
import Derived.Test.YtbepbgfkajnlbaaMFnExactLeapsx2
import Derived.Test.YtbepbgfkajnlbaaMFnExactLeapsx3
namespace Go.Proofs.Ytbepbgfkajnlbaa.MFnExactLeaps
open Go.RowKit Go.Proofs.YtbepbgfkajnlbaaW.PrintWords Go.Proofs.YtbepbgfkajnlbaaW.PrintLast Go.Proofs.YtbepbgfkajnlbaaW.PrintMore Go.Proofs.Ytbepbgfkajnlbaa.MWords
attribute [local go_sem] max2_int min2_int max_two min_two max_three min_three max_four min_four   -- for this text's walks alone
set_option linter.unusedVariables false
set_option linter.unusedSimpArgs false

/-! ### laws_FnExactLeaps: function 8 -/
def laws_FnExactLeaps.j0 : Nat → ByteArray → List Int → List Int → Bool → List (S191) → Option (Bool)
 | 0, _, _, _, _, _ => none
 | k + 1, x1, x6, x8, x49, x170000 => if x49 = true then (some false) else ((laws_markIntS.f k x8 1).bind fun bt192 => ((laws_heldIntS.f k bt192.2 1).bind fun t194 => (if t194 < 0 then (some false) else (if t194 = bt192.1 then ((laws_toMem.f k x170000).bind fun t195 => ((impl_Leaps.f k t195 x1).bind fun t198 => ((laws_eqIntS.f k t198 x6).bind fun t201 => (if t201 = true then ((laws_heldIntS.f k bt192.2 1).bind fun t202 => (if t202 < 0 then (some false) else (if t202 = bt192.1 then (some true) else (some false)))) else (some false))))) else (some false)))))
def laws_FnExactLeaps.f (k : Nat) (l0_0 : List (S191)) (a1 : ByteArray) : Option (Bool) := if (a1.size : Int) > 1048576 then (some true) else ((laws_szMem.f k l0_0 1048576).bind fun t170 => (if t170 < 0 then (some true) else ((laws_toMem.f k l0_0).bind fun t171 => ((spec_Leaps.f k t171 a1).bind fun t174 => ((laws_toMem.f k l0_0).bind fun t177 => ((impl_Leaps.f k t177 a1).bind fun t181 => ((laws_eqIntS.f k t181 t174).bind fun t184 => (if t184 = true then ((laws_toMem.f k l0_0).bind fun t185 => ((laws_eqMem.f k t177 t185).bind fun t188 => (if t188 = true then ((laws_markMem.f k t177 1).bind fun bt189 => (if bt189.1 < 0 then (laws_FnExactLeaps.j0 k a1 t174 t181 true l0_0) else ((laws_eqIntS.f k t181 t174).bind fun t191 => (laws_FnExactLeaps.j0 k a1 t174 t181 (!t191) l0_0)))) else (some false)))) else (some false)))))))))
theorem laws_FnExactLeaps.mono_l : ∀ k, (∀ y0 y1 y2 y3 y4, LeO (laws_FnExactLeaps.j0 k y0 y1 y2 y3 y4) (laws_FnExactLeaps.j0 (k + 1) y0 y1 y2 y3 y4))
 | 0 => fun _ _ _ _ _ r h => by simp [laws_FnExactLeaps.j0] at h
 | k + 1 => by
  have ih0 := laws_FnExactLeaps.mono_l k
  ·intro y0 y1 y2 y3 y4
   unfold laws_FnExactLeaps.j0
   repeat' first
   | (with_reducible exact ih0 _ _ _ _ _)
   | (with_reducible exact impl_Leaps.mono _ _ _)
   | (with_reducible exact laws_eqIntS.mono _ _ _)
   | (with_reducible exact laws_eqMem.mono _ _ _)
   | (with_reducible exact laws_heldIntS.mono _ _ _)
   | (with_reducible exact laws_markIntS.mono _ _ _)
   | (with_reducible exact laws_markMem.mono _ _ _)
   | (with_reducible exact laws_szMem.mono _ _ _)
   | (with_reducible exact laws_toMem.mono _ _)
   | (with_reducible exact spec_Leaps.mono _ _ _)
   | (with_reducible exact LeO.refl _)
   | (with_reducible exact LeO.none _)
   | (with_reducible refine LeO.ite ?_ ?_)
   | (with_reducible refine LeO.bind ?_ (fun _ => ?_))
   | exact ih0 _ _ _ _ _
   | exact impl_Leaps.mono _ _ _
   | exact laws_eqIntS.mono _ _ _
   | exact laws_eqMem.mono _ _ _
   | exact laws_heldIntS.mono _ _ _
   | exact laws_markIntS.mono _ _ _
   | exact laws_markMem.mono _ _ _
   | exact laws_szMem.mono _ _ _
   | exact laws_toMem.mono _ _
   | exact spec_Leaps.mono _ _ _
   | exact LeO.none _
   | refine LeO.ite ?_ ?_
   | refine LeO.bind ?_ (fun _ => ?_)
theorem laws_FnExactLeaps.mono : ∀ a0 a1 k, LeO (laws_FnExactLeaps.f k a0 a1) (laws_FnExactLeaps.f (k + 1) a0 a1) := by
 intro a0 a1 k
 have ih0 := laws_FnExactLeaps.mono_l k
 unfold laws_FnExactLeaps.f
 repeat' first
   | (with_reducible exact ih0 _ _ _ _ _)
   | (with_reducible exact impl_Leaps.mono _ _ _)
   | (with_reducible exact laws_eqIntS.mono _ _ _)
   | (with_reducible exact laws_eqMem.mono _ _ _)
   | (with_reducible exact laws_heldIntS.mono _ _ _)
   | (with_reducible exact laws_markIntS.mono _ _ _)
   | (with_reducible exact laws_markMem.mono _ _ _)
   | (with_reducible exact laws_szMem.mono _ _ _)
   | (with_reducible exact laws_toMem.mono _ _)
   | (with_reducible exact spec_Leaps.mono _ _ _)
   | (with_reducible exact LeO.refl _)
   | (with_reducible exact LeO.none _)
   | (with_reducible refine LeO.ite ?_ ?_)
   | (with_reducible refine LeO.bind ?_ (fun _ => ?_))
   | exact ih0 _ _ _ _ _
   | exact impl_Leaps.mono _ _ _
   | exact laws_eqIntS.mono _ _ _
   | exact laws_eqMem.mono _ _ _
   | exact laws_heldIntS.mono _ _ _
   | exact laws_markIntS.mono _ _ _
   | exact laws_markMem.mono _ _ _
   | exact laws_szMem.mono _ _ _
   | exact laws_toMem.mono _ _
   | exact spec_Leaps.mono _ _ _
   | exact LeO.none _
   | refine LeO.ite ?_ ?_
   | refine LeO.bind ?_ (fun _ => ?_)
set_option maxHeartbeats 8000000 in
set_option maxRecDepth 100000 in
theorem laws_FnExactLeaps.calls (k : Nat) (A0_0 : Option Addr) (c0_0 : Nat) (l0_0 : List (S191)) (a1 : ByteArray) (r : Bool) (w : World) (hr0_0 : Kd.C k191 w A0_0 l0_0.length l0_0) (hc0_0 : l0_0.length ≤ c0_0) (ht_ : r = true) (h : laws_FnExactLeaps.f k l0_0 a1 = some r) :
  Calls Try.prog 8 #[.agg #[.slice A0_0 l0_0.length c0_0], .string a1] w fun e w' => e = .returned (.bool r) ∧ Below w.heap.size w w' := by
 have hu78 := Try.underlying78
 have hu26 := Try.underlying26
 have HR0_0 := mS hr0_0
 have HC0_0 := mS hc0_0
 clear hr0_0 hc0_0
 have HB := mS (Below.refl w.heap.size w)
 have H : (if (a1.size : Int) > 1048576 then (some true) else ((laws_szMem.f k l0_0 1048576).bind fun t170 => (if t170 < 0 then (some true) else ((laws_toMem.f k l0_0).bind fun t171 => ((spec_Leaps.f k t171 a1).bind fun t174 => ((laws_toMem.f k l0_0).bind fun t177 => ((impl_Leaps.f k t177 a1).bind fun t181 => ((laws_eqIntS.f k t181 t174).bind fun t184 => (if t184 = true then ((laws_toMem.f k l0_0).bind fun t185 => ((laws_eqMem.f k t177 t185).bind fun t188 => (if t188 = true then ((laws_markMem.f k t177 1).bind fun bt189 => (if bt189.1 < 0 then (laws_FnExactLeaps.j0 k a1 t174 t181 true l0_0) else ((laws_eqIntS.f k t181 t174).bind fun t191 => (laws_FnExactLeaps.j0 k a1 t174 t181 (!t191) l0_0)))) else (some false)))) else (some false)))))))))) = some r := h
 clear h
 by_cases c3 : (a1.size : Int) > 1048576
 ·rw [if_pos c3] at H
  have c3b0 : decide (1048576 < (a1.size : Int)) = true := decide_eq_true c3
  have c3b1 : decide (1048576 < a1.size) = true := decide_eq_true (by omega)
  clear c3
  obtain rfl := Option.some.inj H
  go_enter Try.func8, Try.ntmps8
  go_wp2_with (first | ((with_reducible refine gate_dst (N := 2) rfl ?_); refine mBx 2 #[.slice A0_0 l0_0.length c0_0] 78 ?_; intro gb169 hg w4 hbox hb; have BK169 := mS (hbox); have GW169 := mG hg (mH HB.out); have GE169 := mG hg (mH HB.out); replace HB := mS (below_step (mH HB.out) hb); clear hb hbox hg))
  go_ret
  exact ⟨mEw, (mH1 HB.out GE169.out)⟩
 ·rw [if_neg c3] at H
  have c3b0 : decide (1048576 < (a1.size : Int)) = false := decide_eq_false c3
  have c3b1 : decide (1048576 < a1.size) = false := decide_eq_false (by omega)
  clear c3
  replace H := Option.bind_eq_some_iff.mp H
  obtain ⟨t170, A50, H⟩ := H
  replace H : (if t170 < 0 then (some true) else ((laws_toMem.f k l0_0).bind fun t171 => ((spec_Leaps.f k t171 a1).bind fun t174 => ((laws_toMem.f k l0_0).bind fun t177 => ((impl_Leaps.f k t177 a1).bind fun t181 => ((laws_eqIntS.f k t181 t174).bind fun t184 => (if t184 = true then ((laws_toMem.f k l0_0).bind fun t185 => ((laws_eqMem.f k t177 t185).bind fun t188 => (if t188 = true then ((laws_markMem.f k t177 1).bind fun bt189 => (if bt189.1 < 0 then (laws_FnExactLeaps.j0 k a1 t174 t181 true l0_0) else ((laws_eqIntS.f k t181 t174).bind fun t191 => (laws_FnExactLeaps.j0 k a1 t174 t181 (!t191) l0_0)))) else (some false)))) else (some false)))))))) = some r := H
  have A5 := mS A50
  clear A50
  by_cases c6 : t170 < 0
  ·rw [if_pos c6] at H
   have c6b0 := decide_eq_true c6
   clear c6
   obtain rfl := Option.some.inj H
   go_enter Try.func8, Try.ntmps8
   go_wp2_with (first | ((with_reducible refine gate_dst (N := 2) rfl ?_); refine mBx 2 #[.slice A0_0 l0_0.length c0_0] 78 ?_; intro gb169 hg w7 hbox hb; have BK169 := mS (hbox); have GW169 := mG hg (mH HB.out); have GE169 := mG hg (mH HB.out); replace HB := mS (below_step (mH HB.out) hb); clear hb hbox hg; have hcz8_0 := mZ BK169.out 0; have hfz8_0 := blk_frozen BK169.out 0) | ((with_reducible refine gate_callee (f := 46) rfl ?_); refine mGo 18 Try.func46 #[.agg #[.slice A0_0 l0_0.length c0_0], .int .i64 1048576] ?_; (with_reducible refine (laws_szMem.calls k _ _ l0_0 1048576 t170 _ ?side1 ?side2 A5.out).mono ?_); (case side1 => exact mC (Kd.C_below HR0_0.out HB.out)); (case side2 => exact HC0_0.out); rintro e w9 ⟨rfl, hb⟩; refine ⟨_, rfl, ?_⟩; replace BK169 := mB BK169 hb; replace HB := mS (below_step (mH1 HB.out GE169.out) hb); (try clear hb)))
   go_ret
   exact ⟨mEw, (mH1 HB.out GE169.out)⟩
  ·rw [if_neg c6] at H
   have c6b0 := decide_eq_false c6
   clear c6
   replace H := Option.bind_eq_some_iff.mp H
   obtain ⟨t171, A100, H⟩ := H
   replace H : ((spec_Leaps.f k t171 a1).bind fun t174 => ((laws_toMem.f k l0_0).bind fun t177 => ((impl_Leaps.f k t177 a1).bind fun t181 => ((laws_eqIntS.f k t181 t174).bind fun t184 => (if t184 = true then ((laws_toMem.f k l0_0).bind fun t185 => ((laws_eqMem.f k t177 t185).bind fun t188 => (if t188 = true then ((laws_markMem.f k t177 1).bind fun bt189 => (if bt189.1 < 0 then (laws_FnExactLeaps.j0 k a1 t174 t181 true l0_0) else ((laws_eqIntS.f k t181 t174).bind fun t191 => (laws_FnExactLeaps.j0 k a1 t174 t181 (!t191) l0_0)))) else (some false)))) else (some false)))))) = some r := H
   have A10 := mS A100
   clear A100
   replace H := Option.bind_eq_some_iff.mp H
   obtain ⟨t174, A110, H⟩ := H
   replace H : ((laws_toMem.f k l0_0).bind fun t177 => ((impl_Leaps.f k t177 a1).bind fun t181 => ((laws_eqIntS.f k t181 t174).bind fun t184 => (if t184 = true then ((laws_toMem.f k l0_0).bind fun t185 => ((laws_eqMem.f k t177 t185).bind fun t188 => (if t188 = true then ((laws_markMem.f k t177 1).bind fun bt189 => (if bt189.1 < 0 then (laws_FnExactLeaps.j0 k a1 t174 t181 true l0_0) else ((laws_eqIntS.f k t181 t174).bind fun t191 => (laws_FnExactLeaps.j0 k a1 t174 t181 (!t191) l0_0)))) else (some false)))) else (some false))))) = some r := H
   have A11 := mS A110
   clear A110
   replace H := Option.bind_eq_some_iff.mp H
   obtain ⟨t177, A120, H⟩ := H
   replace H : ((impl_Leaps.f k t177 a1).bind fun t181 => ((laws_eqIntS.f k t181 t174).bind fun t184 => (if t184 = true then ((laws_toMem.f k l0_0).bind fun t185 => ((laws_eqMem.f k t177 t185).bind fun t188 => (if t188 = true then ((laws_markMem.f k t177 1).bind fun bt189 => (if bt189.1 < 0 then (laws_FnExactLeaps.j0 k a1 t174 t181 true l0_0) else ((laws_eqIntS.f k t181 t174).bind fun t191 => (laws_FnExactLeaps.j0 k a1 t174 t181 (!t191) l0_0)))) else (some false)))) else (some false)))) = some r := H
   have A12 := mS A120
   clear A120
   replace H := Option.bind_eq_some_iff.mp H
   obtain ⟨t181, A130, H⟩ := H
   replace H : ((laws_eqIntS.f k t181 t174).bind fun t184 => (if t184 = true then ((laws_toMem.f k l0_0).bind fun t185 => ((laws_eqMem.f k t177 t185).bind fun t188 => (if t188 = true then ((laws_markMem.f k t177 1).bind fun bt189 => (if bt189.1 < 0 then (laws_FnExactLeaps.j0 k a1 t174 t181 true l0_0) else ((laws_eqIntS.f k t181 t174).bind fun t191 => (laws_FnExactLeaps.j0 k a1 t174 t181 (!t191) l0_0)))) else (some false)))) else (some false))) = some r := H
   have A13 := mS A130
   clear A130
   replace H := Option.bind_eq_some_iff.mp H
   obtain ⟨t184, A140, H⟩ := H
   replace H : (if t184 = true then ((laws_toMem.f k l0_0).bind fun t185 => ((laws_eqMem.f k t177 t185).bind fun t188 => (if t188 = true then ((laws_markMem.f k t177 1).bind fun bt189 => (if bt189.1 < 0 then (laws_FnExactLeaps.j0 k a1 t174 t181 true l0_0) else ((laws_eqIntS.f k t181 t174).bind fun t191 => (laws_FnExactLeaps.j0 k a1 t174 t181 (!t191) l0_0)))) else (some false)))) else (some false)) = some r := H
   have A14 := mS A140
   clear A140
   by_cases c15 : t184 = true
   ·subst c15
    have H1 := H
    rw [if_pos rfl] at H1
    clear H
    have H := H1
    clear H1
    replace H := Option.bind_eq_some_iff.mp H
    obtain ⟨t185, A160, H⟩ := H
    replace H : ((laws_eqMem.f k t177 t185).bind fun t188 => (if t188 = true then ((laws_markMem.f k t177 1).bind fun bt189 => (if bt189.1 < 0 then (laws_FnExactLeaps.j0 k a1 t174 t181 true l0_0) else ((laws_eqIntS.f k t181 t174).bind fun t191 => (laws_FnExactLeaps.j0 k a1 t174 t181 (!t191) l0_0)))) else (some false))) = some r := H
    have A16 := mS A160
    clear A160
    replace H := Option.bind_eq_some_iff.mp H
    obtain ⟨t188, A170, H⟩ := H
    replace H : (if t188 = true then ((laws_markMem.f k t177 1).bind fun bt189 => (if bt189.1 < 0 then (laws_FnExactLeaps.j0 k a1 t174 t181 true l0_0) else ((laws_eqIntS.f k t181 t174).bind fun t191 => (laws_FnExactLeaps.j0 k a1 t174 t181 (!t191) l0_0)))) else (some false)) = some r := H
    have A17 := mS A170
    clear A170
    by_cases c18 : t188 = true
    ·subst c18
     have H1 := H
     rw [if_pos rfl] at H1
     clear H
     have H := H1
     clear H1
     replace H := Option.bind_eq_some_iff.mp H
     obtain ⟨⟨t189, t190⟩, A190, H⟩ := H
     replace H : (if t189 < 0 then (laws_FnExactLeaps.j0 k a1 t174 t181 true l0_0) else ((laws_eqIntS.f k t181 t174).bind fun t191 => (laws_FnExactLeaps.j0 k a1 t174 t181 (!t191) l0_0))) = some r := H
     have A19 := mS A190
     clear A190
     have HC20 := mS H
     clear H
     go_enter Try.func8, Try.ntmps8
     try go_wp2_with (first | ((with_reducible refine gate_dst (N := 2) rfl ?_); refine mBx 2 #[.slice A0_0 l0_0.length c0_0] 78 ?_; intro gb169 hg w21 hbox hb; have BK169 := mS (hbox); have GW169 := mG hg (mH HB.out); have GE169 := mG hg (mH HB.out); replace HB := mS (below_step (mH HB.out) hb); clear hb hbox hg; have hcz22_0 := mZ BK169.out 0; have hfz22_0 := blk_frozen BK169.out 0) | ((with_reducible refine gate_callee (f := 46) rfl ?_); refine mGo 18 Try.func46 #[.agg #[.slice A0_0 l0_0.length c0_0], .int .i64 1048576] ?_; (with_reducible refine (laws_szMem.calls k _ _ l0_0 1048576 t170 _ ?side1 ?side2 A5.out).mono ?_); (case side1 => exact mC (Kd.C_below HR0_0.out HB.out)); (case side2 => exact HC0_0.out); rintro e w23 ⟨rfl, hb⟩; refine ⟨_, rfl, ?_⟩; replace BK169 := mB BK169 hb; replace HB := mS (below_step (mH1 HB.out GE169.out) hb); (try clear hb); have hcz24_0 := mZ BK169.out 0; have hfz24_0 := blk_frozen BK169.out 0) | ((with_reducible refine gate_callee (f := 48) rfl ?_); refine mGo 22 Try.func48 #[.agg #[.slice A0_0 l0_0.length c0_0]] ?_; (with_reducible refine (laws_toMem.calls k _ _ l0_0 t171 _ ?side1 ?side2 A10.out).mono ?_); (case side1 => exact mC (Kd.C_below HR0_0.out HB.out)); (case side2 => exact HC0_0.out); rintro e w25 ⟨v172, rfl, ho0, hb⟩; refine ⟨_, rfl, ?_⟩; have HO173 := mS (Kd.R_lower ho0 (below_size (mH1 HB.out GE169.out))); replace BK169 := mB BK169 hb; replace HB := mS (below_step (mH1 HB.out GE169.out) hb); (try clear hb); (try clear ho0); obtain ⟨Ao26, co26, eo26⟩ := Kd.R_slice HO173.out; subst eo26) | ((with_reducible refine gate_callee (f := 47) rfl ?_); refine mGo 24 Try.func47 #[.agg #[.slice Ao26 t171.length co26], .string a1] ?_; (with_reducible refine (spec_Leaps.calls k _ _ t171 a1 t174 _ ?side1 ?side2 A11.out).mono ?_); (case side1 => exact mC (Kd.R_reads' HO173.out).2.2); (case side2 => exact (Kd.R_reads' HO173.out).2.1); rintro e w27 ⟨v175, rfl, ho0, hb⟩; refine ⟨_, rfl, ?_⟩; replace HO173 := mS (Kd.R_below (mR HO173.out) hb); have HO176 := mS (Kd.R_lower ho0 (below_size (mH1 HB.out GE169.out))); replace BK169 := mB BK169 hb; replace HB := mS (below_step (mH1 HB.out GE169.out) hb); (try clear hb); (try clear ho0); have hcz28_0 := mZ BK169.out 0; have hfz28_0 := blk_frozen BK169.out 0) | ((with_reducible refine gate_callee (f := 48) rfl ?_); refine mGo 26 Try.func48 #[.agg #[.slice A0_0 l0_0.length c0_0]] ?_; (with_reducible refine (laws_toMem.calls k _ _ l0_0 t177 _ ?side1 ?side2 A12.out).mono ?_); (case side1 => exact mC (Kd.C_below HR0_0.out HB.out)); (case side2 => exact HC0_0.out); rintro e w29 ⟨v178, rfl, ho0, hb⟩; refine ⟨_, rfl, ?_⟩; replace HO176 := mS (Kd.R_below (mR HO176.out) hb); have HO179 := mS (Kd.R_lower (Kd.R_new' ho0 (Kd.R_lt (mR HO173.out))) (below_size (mH1 HB.out GE169.out))); replace HO173 := mS (Kd.R_elder' (mR HO173.out) (Kd.R_base ho0) hb); replace BK169 := mB BK169 hb; replace HB := mS (below_step (mH1 HB.out GE169.out) hb); (try clear hb); (try clear ho0)) | ((with_reducible refine gate_dst (N := 7) rfl ?_); refine mBx 7 #[.slice none 0 0] 26 ?_; intro gb180 hg w30 hbox hb; replace HO173 := mS (Kd.R_below (mR HO173.out) hb); replace HO176 := mS (Kd.R_below (mR HO176.out) hb); replace HO179 := mS (Kd.R_below (mR HO179.out) hb); have BK180 := mS (hbox); have GW180 := mG hg (mH1 HB.out GE169.out); have GE180 := mG hg (mH1 HB.out GE169.out); replace HB := mS (below_step (mH1 HB.out GE169.out) hb); have NB169_180 := mNl hg BK169.out; have NB180_169 := mNg hg BK169.out; replace BK169 := mB BK169 hb; clear hb hbox hg; obtain ⟨Ao31, co31, eo31⟩ := Kd.R_slice HO179.out; subst eo31; have hnb32 := NB180_169.out; have hnc32 := NB169_180.out; have hcz33_0 := mZ BK180.out 0; have hfz33_0 := blk_frozen BK180.out 0) | ((with_reducible refine gate_callee (f := 16) rfl ?_); refine mGo 29 Try.func16 #[.agg #[.slice Ao31 t177.length co31], .string a1] ?_; (with_reducible refine (impl_Leaps.calls k _ _ t177 a1 t181 _ ?side1 ?side2 A13.out).mono ?_); (case side1 => refine (Kd.R_reads' (e := 35) (base := w.heap.size) (ok := fun k_ => (True ∧ some k_ ≠ (.slice Ao26 t171.length co26 : Value).ownBlock)) (n := t177.length) (c := co31) ?_).2.2; exact (by refine mR ?_; exact (Kd.R_mono (Kd.R_far (p := ⟨gb180, 0, none⟩) (Kd.R_types HO179.out BK180.out (by decide)) (fun _ hk => hk.2) (.slice Ao31 t177.length co31)) (fun _ h_ => h_.1)))); (case side2 => exact (Kd.R_reads' HO179.out).2.1); rintro e w34 ⟨v182, rfl, ho0, hb⟩; refine ⟨_, rfl, ?_⟩; replace HO173 := mS (Kd.R_below (by refine mR ?_; exact (Kd.R_mono (Kd.R_far (p := ⟨gb180, 0, none⟩) (Kd.R_types HO173.out BK180.out (by decide)) (fun _ hk => hk.2) (.slice Ao31 t177.length co31)) (fun _ h_ => h_.1))) hb); replace HO179 := mS (Kd.R_below (by refine mR ?_; exact (Kd.R_mono (Kd.R_far (p := ⟨gb180, 0, none⟩) (Kd.R_types HO179.out BK180.out (by decide)) (fun _ hk => hk.2) (.slice Ao31 t177.length co31)) (fun _ h_ => h_.1))) hb); have HO183 := mS (Kd.R_lower (Kd.R_new' ho0 (Kd.R_lt (by refine mR ?_; exact (Kd.R_mono (Kd.R_far (p := ⟨gb180, 0, none⟩) (Kd.R_types HO176.out BK180.out (by decide)) (fun _ hk => hk.2) (.slice Ao31 t177.length co31)) (fun _ h_ => h_.1))))) (below_size (mH2 HB.out GE169.out GE180.out))); replace HO176 := mS (Kd.R_elder' (by refine mR ?_; exact (Kd.R_mono (Kd.R_far (p := ⟨gb180, 0, none⟩) (Kd.R_types HO176.out BK180.out (by decide)) (fun _ hk => hk.2) (.slice Ao31 t177.length co31)) (fun _ h_ => h_.1))) (Kd.R_base ho0) hb); replace BK169 := mS (blk_below (g := gb169) (o := .cells #[.slice A0_0 l0_0.length c0_0] 78 (0, 0)) (mKf NB169_180.out BK169.out) hb); replace BK180 := mS (blk_below (g := gb180) (o := .cells #[.slice Ao31 t177.length co31] 26 (0, 0)) (by refine mK ?_; refine blk_put (cs := #[.slice none 0 0]) ?_ 0 _ rfl; refine mK ?_; exact BK180.out) hb); replace HB := mS (below_step (mH2 HB.out GE169.out GE180.out) hb); (try clear hb); (try clear ho0); obtain ⟨Ao35, co35, eo35⟩ := Kd.R_slice HO183.out; subst eo35; obtain ⟨Ao36, co36, eo36⟩ := Kd.R_slice HO176.out; subst eo36) | ((with_reducible refine gate_callee (f := 33) rfl ?_); refine mGo 32 Try.func33 #[.slice Ao35 t181.length co35, .slice Ao36 t174.length co36] ?_; (with_reducible refine (laws_eqIntS.calls k _ _ t181 _ _ t174 true _ ?side1 ?side2 ?side3 ?side4 A14.out).mono ?_); (case side1 => exact mC (Kd.R_reads' HO183.out).2.2); (case side2 => exact (Kd.R_reads' HO183.out).2.1); (case side3 => exact mC (Kd.R_reads' HO176.out).2.2); (case side4 => exact (Kd.R_reads' HO176.out).2.1); rintro e w' ⟨rfl, ⟨nd, rfl⟩⟩; refine ⟨_, rfl, ?_⟩))
     (try (rw [drewN_self w34]; generalize hq_ : World.drewN w34 _ = w34; have n0_ : Aside0 (Kd.R k35 35 w34 w.heap.size (fun k_ => (True ∧ some k_ ≠ (.slice Ao31 t177.length co31 : Value).ownBlock)) (.slice Ao26 t171.length co26) t171) := ⟨by rw [← hq_]; exact (mR HO173.out)⟩; have n1_ : Aside0 (Kd.R (Kd.int .i64) 3 w34 w.heap.size (fun k_ => (True ∧ some k_ ≠ (.slice Ao35 t181.length co35 : Value).ownBlock)) (.slice Ao36 t174.length co36) t174) := ⟨by rw [← hq_]; exact (mR HO176.out)⟩; have n2_ : Aside0 (Kd.R k35 35 w34 w.heap.size (fun k_ => (True ∧ some k_ ≠ (.slice Ao26 t171.length co26 : Value).ownBlock)) (.slice Ao31 t177.length co31) t177) := ⟨by rw [← hq_]; exact (mR HO179.out)⟩; have n3_ : Aside0 (Kd.R (Kd.int .i64) 3 w34 w.heap.size (fun k_ => (True ∧ some k_ ≠ (.slice Ao36 t174.length co36 : Value).ownBlock)) (.slice Ao35 t181.length co35) t181) := ⟨by rw [← hq_]; exact (mR HO183.out)⟩; have n4_ : Aside0 (w34.heap[gb169]? = some (.cells #[.slice A0_0 l0_0.length c0_0] 78 (0, 0))) := ⟨by rw [← hq_]; exact (mK BK169.out)⟩; have n5_ : Aside0 (w34.heap[gb180]? = some (.cells #[.slice Ao31 t177.length co31] 26 (0, 0))) := ⟨by rw [← hq_]; exact (mK BK180.out)⟩; have n6_ : Aside0 (Below w.heap.size w w34) := ⟨by rw [← hq_]; exact (mH2 HB.out GE169.out GE180.out)⟩; clear HO173 HO176 HO179 HO183 BK169 BK180 HB hq_; have HO173 := n0_; have HO176 := n1_; have HO179 := n2_; have HO183 := n3_; have BK169 := n4_; have BK180 := n5_; have HB := n6_; clear n0_ n1_ n2_ n3_ n4_ n5_ n6_))
     replace HO173 := mS (Kd.R_drew HO173.out)
     replace HO176 := mS (Kd.R_drew HO176.out)
     replace HO179 := mS (Kd.R_drew HO179.out)
     replace HO183 := mS (Kd.R_drew HO183.out)
     replace BK169 := mS (blk_drew BK169.out)
     replace BK180 := mS (blk_drew BK180.out)
     replace HB := mS (below_drew1 HB.out)
     refine start_ (n := 5) (S := fun w' => w'.cell? ⟨gb180, 0, none⟩ = some (.slice Ao31 t177.length co31) ∧ w'.cell? ⟨gb169, 0, none⟩ = some (.slice A0_0 l0_0.length c0_0)) (ds := []) (mb 0 5) (by kernel_rfl) rfl rfl ⟨mZ BK180.out 0, mZ BK169.out 0⟩ (fun hHeld => ?_)
     generalize w34.drew = w37 at HO173 HO176 HO179 HO183 BK169 BK180 HB hHeld ⊢
     refine take_ (i := 0) (N := some 34) (v := ?_) (a' := ?_) (mb 1 4) rfl rfl (by kernel_rfl) (fun _ _ _ h => h) (Or.inl ⟨by rfl, ?_⟩) hHeld ?_ ?_
     rotate_left
     ·rintro w' ⟨s0, s1⟩
      go_simp
      with_reducible rfl
     rotate_left
     ·simp only [Act.put, zA, zB, zC, i64_w, i32_w]
      rfl
     refine take_ (i := 1) (N := some 35) (v := ?_) (a' := ?_) (mb 2 3) rfl rfl (by kernel_rfl) (fun _ _ _ h => h) (Or.inl ⟨by rfl, ?_⟩) hHeld ?_ ?_
     rotate_left
     ·rintro w' ⟨s0, s1⟩
      go_simp
      with_reducible rfl
     rotate_left
     ·simp only [Act.put, zA, zB, zC, i64_w, i32_w]
      rfl
     refine one_ (i := 2) (N := some 36) (mb 3 2) rfl rfl (by kernel_rfl) (by decide) (fun K hK => ?_)
     refine goes_ Try.func48 (by kernel_rfl) rfl #[.agg #[.slice A0_0 l0_0.length c0_0]] (by rfl) rfl rfl mA ?_
     with_reducible refine (laws_toMem.calls k _ _ l0_0 t185 _ ?side1 ?side2 A16.out).mono ?_
     (case side1 => exact mC (Kd.C_below HR0_0.out HB.out))
     (case side2 => exact HC0_0.out)
     rintro e w38 ⟨v186, rfl, ho0, hb⟩
     refine ⟨_, rfl, ?_⟩
     replace HO176 := mS (Kd.R_below (mR HO176.out) hb)
     replace HO183 := mS (Kd.R_below (mR HO183.out) hb)
     have HO187 := mS (Kd.R_lower (Kd.R_new' (Kd.R_new' ho0 (Kd.R_lt (mR HO173.out))) (Kd.R_lt (mR HO179.out))) (below_size (mH2 HB.out GE169.out GE180.out)))
     replace HO173 := mS (Kd.R_elder' (mR HO173.out) (Kd.R_base ho0) hb)
     replace HO179 := mS (Kd.R_elder' (mR HO179.out) (Kd.R_base ho0) hb)
     replace BK169 := mB BK169 hb
     replace BK180 := mB BK180 hb
     replace HB := mS (below_step (mH2 HB.out GE169.out GE180.out) hb)
     (try clear hb)
     (try clear hb2)
     (try clear hk)
     (try clear hi)
     (try clear ho0)
     obtain ⟨Ao39, co39, eo39⟩ := Kd.R_slice HO187.out
     (first | subst eo39 | (injection eo39 with f1_ f2_ f3_; have f4_ := f1_.symm; have f5_ := f3_.symm; clear f1_ f2_ f3_; subst f4_; subst f5_))
     refine hK.out _ _ ⟨mZ BK180.out 0, mZ BK169.out 0⟩ (fun hHeld => ?_)
     clear hK K
     refine mno 36 ?_
     refine one_ (i := 3) (N := some 37) (mb 4 1) rfl rfl (by kernel_rfl) (by decide) (fun K hK => ?_)
     refine goes_ Try.func49 (by kernel_rfl) rfl #[.agg #[.slice Ao31 t177.length co31], .agg #[.slice Ao39 t185.length co39]] (by rfl) rfl rfl mA ?_
     with_reducible refine (laws_eqMem.calls k _ _ t177 _ _ t185 true _ ?side1 ?side2 ?side3 ?side4 A17.out).mono ?_
     (case side1 => exact mC (Kd.R_reads' HO179.out).2.2)
     (case side2 => exact (Kd.R_reads' HO179.out).2.1)
     (case side3 => exact mC (Kd.R_reads' HO187.out).2.2)
     (case side4 => exact (Kd.R_reads' HO187.out).2.1)
     rintro e w40 ⟨rfl, hb⟩
     refine ⟨_, rfl, ?_⟩
     replace HO173 := mS (Kd.R_below (mR HO173.out) hb)
     replace HO176 := mS (Kd.R_below (mR HO176.out) hb)
     replace HO179 := mS (Kd.R_below (mR HO179.out) hb)
     replace HO183 := mS (Kd.R_below (mR HO183.out) hb)
     replace HO187 := mS (Kd.R_below (mR HO187.out) hb)
     replace BK169 := mB BK169 hb
     replace BK180 := mB BK180 hb
     replace HB := mS (below_step (mH2 HB.out GE169.out GE180.out) hb)
     (try clear hb)
     (try clear hb2)
     (try clear hk)
     (try clear hi)
     refine hK.out _ _ ⟨mZ BK180.out 0, mZ BK169.out 0⟩ (fun hHeld => ?_)
     clear hK K
     refine mno 37 ?_
     refine pure_ (i := 4) (N := some 38) (v := ?_) (a' := ?_) (mb 5 0) rfl rfl (by kernel_rfl) (fun _ _ _ h => h) (Or.inl ⟨by rfl, ?_⟩) ?_ ?_
     rotate_left
     ·intro w'
      go_simp
      with_reducible rfl
     rotate_left
     ·simp only [Act.put, zA, zB, zC, i64_w, i32_w]
      rfl
     refine done_ (by kernel_rfl) ?_
     have hcz41_0 := mZ BK180.out 0
     have hfz41_0 := blk_frozen BK180.out 0
     go_upto_region 16 with (first | ((with_reducible refine gate_callee (f := 50) rfl ?_); refine mGo 41 Try.func50 #[.agg #[.slice Ao31 t177.length co31], .int .i64 1] ?_; (with_reducible refine (laws_markMem.calls k (fun k_ => some k_ = (.slice Ao31 t177.length co31 : Value).ownBlock) (.slice Ao31 t177.length co31) t177 1 t189 t190 w _ ?side1 ?side2 A19.out).mono ?_); (case side1 => exact mH2 HB.out GE169.out GE180.out); (case side2 => exact Kd.R_tight rfl HO179.out); rintro e w42 ⟨rfl, hy0, hb, hkp⟩; refine ⟨_, rfl, ?_⟩; replace BK169 := mS (blk_kept (mK BK169.out) hkp (fun hs_ => (fun e_ => (Kd.R_ne HO179.out BK169.out (by decide)) e_) hs_)); replace HO173 := mS (Kd.R_mono (ok' := fun k_ => some k_ ≠ (.slice Ao31 t177.length co31 : Value).ownBlock ∧ some k_ ≠ (.slice Ao39 t185.length co39 : Value).ownBlock) (Kd.R_keptB (HO173.out) hkp (fun k_ hk_ hs_ => (hk_.1.2) hs_)) (fun k_ hk_ => ⟨hk_.1.1.2, hk_.1.2⟩)); replace HO176 := mS (Kd.R_mono (ok' := fun k_ => some k_ ≠ (.slice Ao35 t181.length co35 : Value).ownBlock) (Kd.R_keptB ((Kd.R_apart' HO176.out (Kd.R_typed HO179.out) (by decide))) hkp (fun k_ hk_ hs_ => (hk_.2) hs_)) (fun k_ hk_ => hk_.1.1.2)); replace BK180 := mS (blk_kept (mK BK180.out) hkp (fun hs_ => (fun e_ => (Kd.R_ne HO179.out BK180.out (by decide)) e_) hs_)); replace HO183 := mS (Kd.R_mono (ok' := fun k_ => some k_ ≠ (.slice Ao36 t174.length co36 : Value).ownBlock) (Kd.R_keptB ((Kd.R_apart' HO183.out (Kd.R_typed HO179.out) (by decide))) hkp (fun k_ hk_ hs_ => (hk_.2) hs_)) (fun k_ hk_ => hk_.1.1.2)); replace HO179 := mS (Kd.R_reok rfl hy0 (fun k_ e_ => HO179.out.1 k_ e_)); replace HO187 := mS (Kd.R_mono (ok' := fun k_ => some k_ ≠ (.slice Ao26 t171.length co26 : Value).ownBlock ∧ some k_ ≠ (.slice Ao31 t177.length co31 : Value).ownBlock) (Kd.R_keptB (HO187.out) hkp (fun k_ hk_ hs_ => (hk_.2) hs_)) (fun k_ hk_ => ⟨hk_.1.1.2, hk_.1.2⟩)); replace HB := mS (hb); (try clear hb); (try clear hkp); (try clear hy0)))
     (try simp only [Act.put, zA, zB, zC])
     go_cut [49] (fun v49 wc => ∃ (kq : Nat) (x49_19 : Bool), v49 = .bool x49_19 ∧ Aside0 (laws_FnExactLeaps.j0 kq a1 t174 t181 x49_19 l0_0 = some r) ∧ Aside0 (kq ≤ k) ∧ Aside0 (Kd.R (Kd.int .i64) 3 wc w.heap.size (fun k_ => some k_ ≠ ((.slice Ao35 t181.length co35) : Value).ownBlock) (.slice Ao36 t174.length co36) t174) ∧ Aside0 (Kd.R (Kd.int .i64) 3 wc w.heap.size (fun k_ => some k_ ≠ ((.slice Ao36 t174.length co36) : Value).ownBlock) (.slice Ao35 t181.length co35) t181) ∧ Aside0 (Kd.R k35 35 wc w.heap.size (fun _ => True) (.slice Ao31 t177.length co31) t190) ∧ Aside0 (wc.heap[gb169]? = some (.cells #[(.slice A0_0 l0_0.length c0_0)] 78 (0, 0))) ∧ Aside0 (wc.heap[gb180]? = some (.cells #[(.slice Ao31 t177.length co31)] 26 (0, 0))) ∧ Aside0 (Below w.heap.size w wc))
     case first =>
      have H := HC20.out
      clear HC20
      by_cases c43 : t189 < 0
      ·rw [if_pos c43] at H
       have c43b0 := decide_eq_true c43
       clear c43
       (first | rw [c43b0] | (simp only [i64_w, i32_w]; rw [c43b0]) | skip)
       have H' := mS H
       clear H
       go_wp2
       go_meet
       case rel => exact ⟨_, (true), mE, H', ⟨by first | omega | exact Nat.le_refl _⟩, ⟨mR HO176.out⟩, ⟨mR HO183.out⟩, ⟨by refine mR ?_; exact Kd.R_mono HO179.out (fun _ hk => trivial)⟩, ⟨mK BK169.out⟩, ⟨mK BK180.out⟩, ⟨(mH2 HB.out GE169.out GE180.out)⟩⟩
      ·rw [if_neg c43] at H
       have c43b0 := decide_eq_false c43
       clear c43
       (first | rw [c43b0] | (simp only [i64_w, i32_w]; rw [c43b0]) | skip)
       replace H := Option.bind_eq_some_iff.mp H
       obtain ⟨t191, A440, H⟩ := H
       replace H : (laws_FnExactLeaps.j0 k a1 t174 t181 (!t191) l0_0) = some r := H
       have A44 := mS A440
       clear A440
       have H' := mS H
       clear H
       go_wp2_with (first | (go_at_call 33; (with_reducible refine (laws_eqIntS.calls k _ _ t181 _ _ t174 t191 _ ?side1 ?side2 ?side3 ?side4 A44.out).mono ?_); (case side1 => exact mC (Kd.R_reads' HO183.out).2.2); (case side2 => exact (Kd.R_reads' HO183.out).2.1); (case side3 => exact mC (Kd.R_reads' HO176.out).2.2); (case side4 => exact (Kd.R_reads' HO176.out).2.1); rintro e w' ⟨rfl, ⟨nd, rfl⟩⟩))
       go_meet
       case rel => exact ⟨_, (!t191), mE, H', ⟨by first | omega | exact Nat.le_refl _⟩, ⟨mR HO176.out⟩, ⟨mR HO183.out⟩, ⟨by refine mR ?_; exact Kd.R_mono HO179.out (fun _ hk => trivial)⟩, ⟨mK BK169.out⟩, ⟨mK BK180.out⟩, ⟨(mH2 HB.out GE169.out GE180.out)⟩⟩
     case rest =>
      clear HC20
      try clear c1
      try clear p2
      try clear c3
      try clear c3b0
      try clear c3b1
      try clear c4
      try clear c5
      try clear c6
      try clear c6b0
      try clear c8
      try clear c15
      try clear c16
      try clear c18
      try clear c32
      try clear c33
      try clear c43
      try clear c43b0
      try clear hcz22_0
      try clear hcz24_0
      try clear hcz28_0
      try clear hcz33_0
      try clear hcz41_0
      try clear hcz8_0
      try clear hfz22_0
      try clear hfz24_0
      try clear hfz28_0
      try clear hfz33_0
      try clear hfz41_0
      try clear hfz8_0
      obtain ⟨kq, x49_19, rfl, HA, HJ19, HO_6, HO_8, HO_181000, BK169, BK180, HB⟩ := hcut
      have hl181000_19 := (Kd.R_reads' HO_181000.out).1
      rw [hl181000_19] at HO_181000
      (try simp only [hl181000_19])
      (try simp only [hl181000_19] at BK169)
      (try simp only [hl181000_19] at BK180)
      (try simp only [hl181000_19] at HO_6)
      (try simp only [hl181000_19] at HO_8)
      cases kq with
      | zero => exact absurd HA.out (by simp [laws_FnExactLeaps.j0])
      | succ kj19 =>
       have H := HA.out
       clear HA
       simp only [laws_FnExactLeaps.j0] at H
       by_cases c45 : x49_19 = true
       ·subst c45
        have H1 := H
        rw [if_pos rfl] at H1
        clear H
        have H := H1
        clear H1
        exact absurd ((Option.some.inj H).trans ht_) (by decide)
       ·replace c45 := Bool.eq_false_iff.mpr c45
        subst c45
        have H1 := H
        rw [if_neg (show ¬ (false = true) by decide)] at H1
        clear H
        have H := H1
        clear H1
        replace H := Option.bind_eq_some_iff.mp H
        obtain ⟨⟨t192, t193⟩, A460, H⟩ := H
        replace H : ((laws_heldIntS.f kj19 t193 1).bind fun t194 => (if t194 < 0 then (some false) else (if t194 = t192 then ((laws_toMem.f kj19 l0_0).bind fun t195 => ((impl_Leaps.f kj19 t195 a1).bind fun t198 => ((laws_eqIntS.f kj19 t198 t174).bind fun t201 => (if t201 = true then ((laws_heldIntS.f kj19 t193 1).bind fun t202 => (if t202 < 0 then (some false) else (if t202 = t192 then (some true) else (some false)))) else (some false))))) else (some false)))) = some r := H
        have A46 := mS A460
        clear A460
        replace H := Option.bind_eq_some_iff.mp H
        obtain ⟨t194, A470, H⟩ := H
        replace H : (if t194 < 0 then (some false) else (if t194 = t192 then ((laws_toMem.f kj19 l0_0).bind fun t195 => ((impl_Leaps.f kj19 t195 a1).bind fun t198 => ((laws_eqIntS.f kj19 t198 t174).bind fun t201 => (if t201 = true then ((laws_heldIntS.f kj19 t193 1).bind fun t202 => (if t202 < 0 then (some false) else (if t202 = t192 then (some true) else (some false)))) else (some false))))) else (some false))) = some r := H
        have A47 := mS A470
        clear A470
        by_cases c48 : t194 < 0
        ·rw [if_pos c48] at H
         have c48b0 := decide_eq_true c48
         clear c48
         exact absurd ((Option.some.inj H).trans ht_) (by decide)
        ·rw [if_neg c48] at H
         have c48b0 := decide_eq_false c48
         clear c48
         by_cases c49 : t194 = t192
         ·rw [if_pos c49] at H
          have c49b0 : (t194 == t192) = true := beq_iff_eq.mpr c49
          have c49b1 : (t194 != t192) = false := bne_eq_false_iff_eq.mpr c49
          clear c49
          replace H := Option.bind_eq_some_iff.mp H
          obtain ⟨t195, A500, H⟩ := H
          replace H : ((impl_Leaps.f kj19 t195 a1).bind fun t198 => ((laws_eqIntS.f kj19 t198 t174).bind fun t201 => (if t201 = true then ((laws_heldIntS.f kj19 t193 1).bind fun t202 => (if t202 < 0 then (some false) else (if t202 = t192 then (some true) else (some false)))) else (some false)))) = some r := H
          have A50 := mS A500
          clear A500
          replace H := Option.bind_eq_some_iff.mp H
          obtain ⟨t198, A510, H⟩ := H
          replace H : ((laws_eqIntS.f kj19 t198 t174).bind fun t201 => (if t201 = true then ((laws_heldIntS.f kj19 t193 1).bind fun t202 => (if t202 < 0 then (some false) else (if t202 = t192 then (some true) else (some false)))) else (some false))) = some r := H
          have A51 := mS A510
          clear A510
          replace H := Option.bind_eq_some_iff.mp H
          obtain ⟨t201, A520, H⟩ := H
          replace H : (if t201 = true then ((laws_heldIntS.f kj19 t193 1).bind fun t202 => (if t202 < 0 then (some false) else (if t202 = t192 then (some true) else (some false)))) else (some false)) = some r := H
          have A52 := mS A520
          clear A520
          by_cases c53 : t201 = true
          ·subst c53
           have H1 := H
           rw [if_pos rfl] at H1
           clear H
           have H := H1
           clear H1
           replace H := Option.bind_eq_some_iff.mp H
           obtain ⟨t202, A540, H⟩ := H
           replace H : (if t202 < 0 then (some false) else (if t202 = t192 then (some true) else (some false))) = some r := H
           have A54 := mS A540
           clear A540
           by_cases c55 : t202 < 0
           ·rw [if_pos c55] at H
            have c55b0 := decide_eq_true c55
            clear c55
            exact absurd ((Option.some.inj H).trans ht_) (by decide)
           ·rw [if_neg c55] at H
            have c55b0 := decide_eq_false c55
            clear c55
            by_cases c56 : t202 = t192
            ·rw [if_pos c56] at H
             have c56b0 : (t202 == t192) = true := beq_iff_eq.mpr c56
             have c56b1 : (t202 != t192) = false := bne_eq_false_iff_eq.mpr c56
             clear c56
             obtain rfl := Option.some.inj H
             go_wp2_with (first | ((with_reducible refine gate_callee (f := 36) rfl ?_); refine mGo 52 Try.func36 #[.slice Ao35 t181.length co35, .int .i64 1] ?_; (with_reducible refine (laws_markIntS.calls kj19 (fun k_ => some k_ = (.slice Ao35 t181.length co35 : Value).ownBlock) (.slice Ao35 t181.length co35) t181 1 t192 t193 w _ ?side1 ?side2 A46.out).mono ?_); (case side1 => exact mH2 HB.out GE169.out GE180.out); (case side2 => exact Kd.R_tight rfl HO_8.out); rintro e w57 ⟨rfl, hy0, hb, hkp⟩; refine ⟨_, rfl, ?_⟩; replace HO_6 := mS (Kd.R_mono (ok' := fun k_ => some k_ ≠ (.slice Ao35 t181.length co35 : Value).ownBlock) (Kd.R_keptB (HO_6.out) hkp (fun k_ hk_ hs_ => (hk_) hs_)) (fun k_ hk_ => hk_.1)); replace HO_181000 := mS (Kd.R_mono (ok' := fun k_ => True) (Kd.R_keptB ((Kd.R_apart' HO_181000.out (Kd.R_typed HO_8.out) (by decide))) hkp (fun k_ hk_ hs_ => (hk_.2) hs_)) (fun k_ hk_ => trivial)); replace BK169 := mS (blk_kept (mK BK169.out) hkp (fun hs_ => (fun e_ => (Kd.R_ne HO_8.out BK169.out (by decide)) e_) hs_)); replace BK180 := mS (blk_kept (mK BK180.out) hkp (fun hs_ => (fun e_ => (Kd.R_ne HO_8.out BK180.out (by decide)) e_) hs_)); replace HO_8 := mS (Kd.R_reok rfl hy0 (fun k_ e_ => HO_8.out.1 k_ e_)); replace HB := mS (hb); (try clear hb); (try clear hkp); (try clear hy0)) | ((with_reducible refine gate_callee (f := 37) rfl ?_); refine goesL_ (some 55) rfl rfl Try.func37 (by kernel_rfl) rfl #[.slice Ao35 t193.length co35, .int .i64 1] rfl (by (try simp only [List.map_toArray, List.map_cons, List.map_nil]); first | done | (rw [show t193.length = t181.length from (Kd.R_reads' HO_8.out).1.symm] <;> rfl) | rfl | (simp only [List.length_drop, List.length_take]; rfl)) ?_; (with_reducible refine (laws_heldIntS.calls kj19 _ _ t193 1 t194 _ ?side1 ?side2 A47.out).mono ?_); (case side1 => exact mC (Kd.R_reads' HO_8.out).2.2); (case side2 => rw [show t193.length = t181.length from (Kd.R_reads' HO_8.out).1.symm]; exact (Kd.R_reads' HO_8.out).2.1); rintro e w' ⟨rfl, ⟨nd, rfl⟩⟩; refine ⟨_, rfl, ?_⟩; have hnb58 := NB169_180.out; have hnc58 := NB180_169.out; have hcz59_0 := mZ BK169.out 0; have hfz59_0 := blk_frozen BK169.out 0) | ((with_reducible refine gate_callee (f := 48) rfl ?_); refine mGo 62 Try.func48 #[.agg #[.slice A0_0 l0_0.length c0_0]] ?_; (with_reducible refine (laws_toMem.calls kj19 _ _ l0_0 t195 _ ?side1 ?side2 A50.out).mono ?_); (case side1 => exact mC (Kd.C_below HR0_0.out (mH2 HB.out GE169.out GE180.out))); (case side2 => exact HC0_0.out); rintro e w60 ⟨v196, rfl, ho0, hb⟩; refine ⟨_, rfl, ?_⟩; replace HO_6 := mS (Kd.R_below (mR HO_6.out) hb); replace HO_8 := mS (Kd.R_below (mR HO_8.out) hb); have HO197 := mS (Kd.R_lower (Kd.R_new' ho0 (Kd.R_lt (mR HO_181000.out))) (below_size (mH2 HB.out GE169.out GE180.out))); replace HO_181000 := mS (Kd.R_elder' (mR HO_181000.out) (Kd.R_base ho0) hb); replace BK169 := mB BK169 hb; replace BK180 := mB BK180 hb; replace HB := mS (below_step (mH2 HB.out GE169.out GE180.out) hb); (try clear hb); (try clear ho0); obtain ⟨Ao61, co61, eo61⟩ := Kd.R_slice HO197.out; subst eo61) | ((with_reducible refine gate_callee (f := 16) rfl ?_); refine mGo 64 Try.func16 #[.agg #[.slice Ao61 t195.length co61], .string a1] ?_; (with_reducible refine (impl_Leaps.calls kj19 _ _ t195 a1 t198 _ ?side1 ?side2 A51.out).mono ?_); (case side1 => exact mC (Kd.R_reads' HO197.out).2.2); (case side2 => exact (Kd.R_reads' HO197.out).2.1); rintro e w62 ⟨v199, rfl, ho0, hb⟩; refine ⟨_, rfl, ?_⟩; replace HO_181000 := mS (Kd.R_below (mR HO_181000.out) hb); replace HO197 := mS (Kd.R_below (mR HO197.out) hb); have HO200 := mS (Kd.R_lower (Kd.R_new' (Kd.R_new' ho0 (Kd.R_lt (mR HO_6.out))) (Kd.R_lt (mR HO_8.out))) (below_size (mH2 HB.out GE169.out GE180.out))); replace HO_6 := mS (Kd.R_elder' (mR HO_6.out) (Kd.R_base ho0) hb); replace HO_8 := mS (Kd.R_elder' (mR HO_8.out) (Kd.R_base ho0) hb); replace BK169 := mB BK169 hb; replace BK180 := mB BK180 hb; replace HB := mS (below_step (mH2 HB.out GE169.out GE180.out) hb); (try clear hb); (try clear ho0); obtain ⟨Ao63, co63, eo63⟩ := Kd.R_slice HO200.out; subst eo63) | ((with_reducible refine gate_callee (f := 33) rfl ?_); refine mGo 67 Try.func33 #[.slice Ao63 t198.length co63, .slice Ao36 t174.length co36] ?_; (with_reducible refine (laws_eqIntS.calls kj19 _ _ t198 _ _ t174 true _ ?side1 ?side2 ?side3 ?side4 A52.out).mono ?_); (case side1 => exact mC (Kd.R_reads' HO200.out).2.2); (case side2 => exact (Kd.R_reads' HO200.out).2.1); (case side3 => exact mC (Kd.R_reads' HO_6.out).2.2); (case side4 => exact (Kd.R_reads' HO_6.out).2.1); rintro e w' ⟨rfl, ⟨nd, rfl⟩⟩; refine ⟨_, rfl, ?_⟩) | ((with_reducible refine gate_callee (f := 37) rfl ?_); refine goesL_ (some 71) rfl rfl Try.func37 (by kernel_rfl) rfl #[.slice Ao35 t193.length co35, .int .i64 1] rfl (by (try simp only [List.map_toArray, List.map_cons, List.map_nil]); first | done | (rw [show t193.length = t181.length from (Kd.R_reads' HO_8.out).1.symm] <;> rfl) | rfl | (simp only [List.length_drop, List.length_take]; rfl)) ?_; (with_reducible refine (laws_heldIntS.calls kj19 _ _ t193 1 t202 _ ?side1 ?side2 A54.out).mono ?_); (case side1 => exact mC (Kd.R_reads' HO_8.out).2.2); (case side2 => rw [show t193.length = t181.length from (Kd.R_reads' HO_8.out).1.symm]; exact (Kd.R_reads' HO_8.out).2.1); rintro e w' ⟨rfl, ⟨nd, rfl⟩⟩; refine ⟨_, rfl, ?_⟩))
             go_ret
             exact ⟨mEw, (mH2 HB.out GE169.out GE180.out)⟩
            ·rw [if_neg c56] at H
             have c56b0 : (t202 == t192) = false := beq_eq_false_iff_ne.mpr c56
             have c56b1 : (t202 != t192) = true := bne_iff_ne.mpr c56
             exact absurd ((Option.some.inj H).trans ht_) (by decide)
          ·replace c53 := Bool.eq_false_iff.mpr c53
           subst c53
           have H1 := H
           rw [if_neg (show ¬ (false = true) by decide)] at H1
           clear H
           have H := H1
           clear H1
           exact absurd ((Option.some.inj H).trans ht_) (by decide)
         ·rw [if_neg c49] at H
          have c49b0 : (t194 == t192) = false := beq_eq_false_iff_ne.mpr c49
          have c49b1 : (t194 != t192) = true := bne_iff_ne.mpr c49
          exact absurd ((Option.some.inj H).trans ht_) (by decide)
    ·replace c18 := Bool.eq_false_iff.mpr c18
     subst c18
     have H1 := H
     rw [if_neg (show ¬ (false = true) by decide)] at H1
     clear H
     have H := H1
     clear H1
     exact absurd ((Option.some.inj H).trans ht_) (by decide)
   ·replace c15 := Bool.eq_false_iff.mpr c15
    subst c15
    have H1 := H
    rw [if_neg (show ¬ (false = true) by decide)] at H1
    clear H
    have H := H1
    clear H1
    exact absurd ((Option.some.inj H).trans ht_) (by decide)

end Go.Proofs.Ytbepbgfkajnlbaa.MFnExactLeaps
