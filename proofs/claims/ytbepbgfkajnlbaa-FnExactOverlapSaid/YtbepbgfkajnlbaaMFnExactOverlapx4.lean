-- Written by mp.py, this session's own printer (wip/mp.py).
import Derived.Test.YtbepbgfkajnlbaaVMShort
import Derived.Test.YtbepbgfkajnlbaaMFnExactOverlapx0
import Derived.Test.YtbepbgfkajnlbaaMFnExactOverlapx1
import Derived.Test.YtbepbgfkajnlbaaMFnExactOverlapx2
import Derived.Test.YtbepbgfkajnlbaaMFnExactOverlapx3
namespace Go.Proofs.Ytbepbgfkajnlbaa.MFnExactOverlap
open Go.RowKit Go.Proofs.YtbepbgfkajnlbaaW.PrintWords Go.Proofs.YtbepbgfkajnlbaaW.PrintLast Go.Proofs.YtbepbgfkajnlbaaW.PrintMore Go.Proofs.Ytbepbgfkajnlbaa.MWords
attribute [local go_sem] max2_int min2_int max_two min_two max_three min_three max_four min_four   -- for this text's walks alone
set_option linter.unusedVariables false
set_option linter.unusedSimpArgs false

/-! ### laws_FnExactOverlap: function 6 -/
def laws_FnExactOverlap.j0 : Nat → Int → ByteArray → ByteArray → List Int → List Int → Bool → Int → Int → List (S179) → Option (Bool)
 | 0, _, _, _, _, _, _, _, _, _ => none
 | k + 1, x1, x2, x3, x10, x12, x60, x166000, x166001, x166002 => if x60 = true then (some false) else ((laws_markIntS.f k x12 1).bind fun bt194 => ((laws_heldIntS.f k bt194.2 1).bind fun t196 => (if t196 < 0 then (some false) else (if t196 = bt194.1 then ((laws_toManifest.f k x166000 x166001 x166002).bind fun bt197 => ((impl_Overlap.f k bt197.1 bt197.2.1 bt197.2.2 x1 x2 x3).bind fun t202 => ((laws_eqIntS.f k t202 x10).bind fun t205 => (if t205 = true then ((laws_heldIntS.f k bt194.2 1).bind fun t206 => (if t206 < 0 then (some false) else (if t206 = bt194.1 then (some true) else (some false)))) else (some false))))) else (some false)))))
def laws_FnExactOverlap.f (k : Nat) (a0_0 : Int) (a0_1 : Int) (l0_2 : List (S179)) (a1 : Int) (a2 : ByteArray) (a3 : ByteArray) : Option (Bool) := if (a2.size : Int) > 1048576 then (some true) else (if (a3.size : Int) > 1048576 then (some true) else ((laws_szManifest.f k a0_0 a0_1 l0_2 1048576).bind fun t166 => (if t166 < 0 then (some true) else ((laws_toManifest.f k a0_0 a0_1 l0_2).bind fun bt167 => ((spec_Overlap.f k bt167.1 bt167.2.1 bt167.2.2 a1 a2 a3).bind fun t172 => ((laws_toManifest.f k a0_0 a0_1 l0_2).bind fun bt175 => ((impl_Overlap.f k bt175.1 bt175.2.1 bt175.2.2 a1 a2 a3).bind fun t181 => ((laws_eqIntS.f k t181 t172).bind fun t184 => (if t184 = true then ((laws_toManifest.f k a0_0 a0_1 l0_2).bind fun bt185 => ((laws_eqManifest.f k bt175.1 bt175.2.1 bt175.2.2 bt185.1 bt185.2.1 bt185.2.2).bind fun t190 => (if t190 = true then ((laws_markManifest.f k bt175.1 bt175.2.1 bt175.2.2 1).bind fun bt191 => (if bt191.1 < 0 then (laws_FnExactOverlap.j0 k a1 a2 a3 t172 t181 true a0_0 a0_1 l0_2) else ((laws_eqIntS.f k t181 t172).bind fun t193 => (laws_FnExactOverlap.j0 k a1 a2 a3 t172 t181 (!t193) a0_0 a0_1 l0_2)))) else (some false)))) else (some false))))))))))
theorem laws_FnExactOverlap.mono_l : ∀ k, (∀ y0 y1 y2 y3 y4 y5 y6 y7 y8, LeO (laws_FnExactOverlap.j0 k y0 y1 y2 y3 y4 y5 y6 y7 y8) (laws_FnExactOverlap.j0 (k + 1) y0 y1 y2 y3 y4 y5 y6 y7 y8))
 | 0 => fun _ _ _ _ _ _ _ _ _ r h => by simp [laws_FnExactOverlap.j0] at h
 | k + 1 => by
  have ih0 := laws_FnExactOverlap.mono_l k
  ·intro y0 y1 y2 y3 y4 y5 y6 y7 y8
   unfold laws_FnExactOverlap.j0
   repeat' first
   | (with_reducible exact ih0 _ _ _ _ _ _ _ _ _)
   | (with_reducible exact impl_Overlap.mono _ _ _ _ _ _ _)
   | (with_reducible exact laws_eqIntS.mono _ _ _)
   | (with_reducible exact laws_eqManifest.mono _ _ _ _ _ _ _)
   | (with_reducible exact laws_heldIntS.mono _ _ _)
   | (with_reducible exact laws_markIntS.mono _ _ _)
   | (with_reducible exact laws_markManifest.mono _ _ _ _ _)
   | (with_reducible exact laws_szManifest.mono _ _ _ _ _)
   | (with_reducible exact laws_toManifest.mono _ _ _ _)
   | (with_reducible exact spec_Overlap.mono _ _ _ _ _ _ _)
   | (with_reducible exact LeO.refl _)
   | (with_reducible exact LeO.none _)
   | (with_reducible refine LeO.ite ?_ ?_)
   | (with_reducible refine LeO.bind ?_ (fun _ => ?_))
   | exact ih0 _ _ _ _ _ _ _ _ _
   | exact impl_Overlap.mono _ _ _ _ _ _ _
   | exact laws_eqIntS.mono _ _ _
   | exact laws_eqManifest.mono _ _ _ _ _ _ _
   | exact laws_heldIntS.mono _ _ _
   | exact laws_markIntS.mono _ _ _
   | exact laws_markManifest.mono _ _ _ _ _
   | exact laws_szManifest.mono _ _ _ _ _
   | exact laws_toManifest.mono _ _ _ _
   | exact spec_Overlap.mono _ _ _ _ _ _ _
   | exact LeO.none _
   | refine LeO.ite ?_ ?_
   | refine LeO.bind ?_ (fun _ => ?_)
theorem laws_FnExactOverlap.mono : ∀ a0 a1 a2 a3 a4 a5 k, LeO (laws_FnExactOverlap.f k a0 a1 a2 a3 a4 a5) (laws_FnExactOverlap.f (k + 1) a0 a1 a2 a3 a4 a5) := by
 intro a0 a1 a2 a3 a4 a5 k
 have ih0 := laws_FnExactOverlap.mono_l k
 unfold laws_FnExactOverlap.f
 repeat' first
   | (with_reducible exact ih0 _ _ _ _ _ _ _ _ _)
   | (with_reducible exact impl_Overlap.mono _ _ _ _ _ _ _)
   | (with_reducible exact laws_eqIntS.mono _ _ _)
   | (with_reducible exact laws_eqManifest.mono _ _ _ _ _ _ _)
   | (with_reducible exact laws_heldIntS.mono _ _ _)
   | (with_reducible exact laws_markIntS.mono _ _ _)
   | (with_reducible exact laws_markManifest.mono _ _ _ _ _)
   | (with_reducible exact laws_szManifest.mono _ _ _ _ _)
   | (with_reducible exact laws_toManifest.mono _ _ _ _)
   | (with_reducible exact spec_Overlap.mono _ _ _ _ _ _ _)
   | (with_reducible exact LeO.refl _)
   | (with_reducible exact LeO.none _)
   | (with_reducible refine LeO.ite ?_ ?_)
   | (with_reducible refine LeO.bind ?_ (fun _ => ?_))
   | exact ih0 _ _ _ _ _ _ _ _ _
   | exact impl_Overlap.mono _ _ _ _ _ _ _
   | exact laws_eqIntS.mono _ _ _
   | exact laws_eqManifest.mono _ _ _ _ _ _ _
   | exact laws_heldIntS.mono _ _ _
   | exact laws_markIntS.mono _ _ _
   | exact laws_markManifest.mono _ _ _ _ _
   | exact laws_szManifest.mono _ _ _ _ _
   | exact laws_toManifest.mono _ _ _ _
   | exact spec_Overlap.mono _ _ _ _ _ _ _
   | exact LeO.none _
   | refine LeO.ite ?_ ?_
   | refine LeO.bind ?_ (fun _ => ?_)
set_option maxHeartbeats 8000000 in
set_option maxRecDepth 100000 in
theorem laws_FnExactOverlap.calls (k : Nat) (a0_0 : Int) (a0_1 : Int) (A0_2 : Option Addr) (c0_2 : Nat) (l0_2 : List (S179)) (a1 : Int) (a2 : ByteArray) (a3 : ByteArray) (r : Bool) (w : World) (hr0_2 : Kd.C k179 w A0_2 l0_2.length l0_2) (hc0_2 : l0_2.length ≤ c0_2) (h : laws_FnExactOverlap.f k a0_0 a0_1 l0_2 a1 a2 a3 = some r) :
  Calls Try.prog 6 #[.agg #[.int .i64 a0_0, .int .i64 a0_1, .slice A0_2 l0_2.length c0_2], .int .i64 a1, .string a2, .string a3] w fun e w' => e = .returned (.bool r) ∧ Below w.heap.size w w' := by
 have hu56 := Try.underlying56
 have hu61 := Try.underlying61
 have HR0_2 := mS hr0_2
 have HC0_2 := mS hc0_2
 clear hr0_2 hc0_2
 have HB := mS (Below.refl w.heap.size w)
 have H : (if (a2.size : Int) > 1048576 then (some true) else (if (a3.size : Int) > 1048576 then (some true) else ((laws_szManifest.f k a0_0 a0_1 l0_2 1048576).bind fun t166 => (if t166 < 0 then (some true) else ((laws_toManifest.f k a0_0 a0_1 l0_2).bind fun bt167 => ((spec_Overlap.f k bt167.1 bt167.2.1 bt167.2.2 a1 a2 a3).bind fun t172 => ((laws_toManifest.f k a0_0 a0_1 l0_2).bind fun bt175 => ((impl_Overlap.f k bt175.1 bt175.2.1 bt175.2.2 a1 a2 a3).bind fun t181 => ((laws_eqIntS.f k t181 t172).bind fun t184 => (if t184 = true then ((laws_toManifest.f k a0_0 a0_1 l0_2).bind fun bt185 => ((laws_eqManifest.f k bt175.1 bt175.2.1 bt175.2.2 bt185.1 bt185.2.1 bt185.2.2).bind fun t190 => (if t190 = true then ((laws_markManifest.f k bt175.1 bt175.2.1 bt175.2.2 1).bind fun bt191 => (if bt191.1 < 0 then (laws_FnExactOverlap.j0 k a1 a2 a3 t172 t181 true a0_0 a0_1 l0_2) else ((laws_eqIntS.f k t181 t172).bind fun t193 => (laws_FnExactOverlap.j0 k a1 a2 a3 t172 t181 (!t193) a0_0 a0_1 l0_2)))) else (some false)))) else (some false))))))))))) = some r := h
 clear h
 by_cases c5 : (a2.size : Int) > 1048576
 ·rw [if_pos c5] at H
  have c5b0 : decide (1048576 < (a2.size : Int)) = true := decide_eq_true c5
  have c5b1 : decide (1048576 < a2.size) = true := decide_eq_true (by omega)
  clear c5
  obtain rfl := Option.some.inj H
  go_enter Try.func6, Try.ntmps6
  go_wp2_with (first | ((with_reducible refine gate_dst (N := 4) rfl ?_); refine box_event ?hg (N := 4) ?hd (cs := #[.int .i64 a0_0, .int .i64 a0_1, .slice A0_2 l0_2.length c0_2]) (t := 56) ?hr ?_; (case hd => rfl); (case hg => rfl); (case hr => first | (go_simp; done) | (go_simp; rfl)); intro gb165 hg w6 hbox hb; have BK165 := mS (hbox); have GW165 := mG hg (mH HB.out); have GE165 := mG hg (mH HB.out); replace HB := mS (below_step (mH HB.out) hb); clear hb hbox hg))
  go_ret
  exact ⟨by first | rfl | (simp [errW_none, errW_some] <;> rfl) | (simp [*, errW_none, errW_some] <;> rfl), (mH1 HB.out GE165.out)⟩
 ·rw [if_neg c5] at H
  have c5b0 : decide (1048576 < (a2.size : Int)) = false := decide_eq_false c5
  have c5b1 : decide (1048576 < a2.size) = false := decide_eq_false (by omega)
  clear c5
  by_cases c7 : (a3.size : Int) > 1048576
  ·rw [if_pos c7] at H
   have c7b0 : decide (1048576 < (a3.size : Int)) = true := decide_eq_true c7
   have c7b1 : decide (1048576 < a3.size) = true := decide_eq_true (by omega)
   clear c7
   obtain rfl := Option.some.inj H
   go_enter Try.func6, Try.ntmps6
   go_wp2_with (first | ((with_reducible refine gate_dst (N := 4) rfl ?_); refine box_event ?hg (N := 4) ?hd (cs := #[.int .i64 a0_0, .int .i64 a0_1, .slice A0_2 l0_2.length c0_2]) (t := 56) ?hr ?_; (case hd => rfl); (case hg => rfl); (case hr => first | (go_simp; done) | (go_simp; rfl)); intro gb165 hg w8 hbox hb; have BK165 := mS (hbox); have GW165 := mG hg (mH HB.out); have GE165 := mG hg (mH HB.out); replace HB := mS (below_step (mH HB.out) hb); clear hb hbox hg))
   go_ret
   exact ⟨by first | rfl | (simp [errW_none, errW_some] <;> rfl) | (simp [*, errW_none, errW_some] <;> rfl), (mH1 HB.out GE165.out)⟩
  ·rw [if_neg c7] at H
   have c7b0 : decide (1048576 < (a3.size : Int)) = false := decide_eq_false c7
   have c7b1 : decide (1048576 < a3.size) = false := decide_eq_false (by omega)
   clear c7
   replace H := Option.bind_eq_some_iff.mp H
   obtain ⟨t166, A90, H⟩ := H
   replace H : (if t166 < 0 then (some true) else ((laws_toManifest.f k a0_0 a0_1 l0_2).bind fun bt167 => ((spec_Overlap.f k bt167.1 bt167.2.1 bt167.2.2 a1 a2 a3).bind fun t172 => ((laws_toManifest.f k a0_0 a0_1 l0_2).bind fun bt175 => ((impl_Overlap.f k bt175.1 bt175.2.1 bt175.2.2 a1 a2 a3).bind fun t181 => ((laws_eqIntS.f k t181 t172).bind fun t184 => (if t184 = true then ((laws_toManifest.f k a0_0 a0_1 l0_2).bind fun bt185 => ((laws_eqManifest.f k bt175.1 bt175.2.1 bt175.2.2 bt185.1 bt185.2.1 bt185.2.2).bind fun t190 => (if t190 = true then ((laws_markManifest.f k bt175.1 bt175.2.1 bt175.2.2 1).bind fun bt191 => (if bt191.1 < 0 then (laws_FnExactOverlap.j0 k a1 a2 a3 t172 t181 true a0_0 a0_1 l0_2) else ((laws_eqIntS.f k t181 t172).bind fun t193 => (laws_FnExactOverlap.j0 k a1 a2 a3 t172 t181 (!t193) a0_0 a0_1 l0_2)))) else (some false)))) else (some false)))))))) = some r := H
   have A9 := mS A90
   clear A90
   by_cases c10 : t166 < 0
   ·rw [if_pos c10] at H
    have c10b0 : decide (t166 < 0) = true := decide_eq_true c10
    clear c10
    obtain rfl := Option.some.inj H
    go_enter Try.func6, Try.ntmps6
    go_wp2_with (first | ((with_reducible refine gate_dst (N := 4) rfl ?_); refine box_event ?hg (N := 4) ?hd (cs := #[.int .i64 a0_0, .int .i64 a0_1, .slice A0_2 l0_2.length c0_2]) (t := 56) ?hr ?_; (case hd => rfl); (case hg => rfl); (case hr => first | (go_simp; done) | (go_simp; rfl)); intro gb165 hg w11 hbox hb; have BK165 := mS (hbox); have GW165 := mG hg (mH HB.out); have GE165 := mG hg (mH HB.out); replace HB := mS (below_step (mH HB.out) hb); clear hb hbox hg; have hcz12_0 : w11.cell? ⟨gb165, 0, none⟩ = some (.int .i64 a0_0) := (blk_cell BK165.out 0).trans rfl; have hcz12_1 : w11.cell? ⟨gb165, 1, none⟩ = some (.int .i64 a0_1) := (blk_cell BK165.out 1).trans rfl; have hcz12_2 : w11.cell? ⟨gb165, 2, none⟩ = some (.slice A0_2 l0_2.length c0_2) := (blk_cell BK165.out 2).trans rfl; have hfz12_0 := blk_frozen BK165.out 0; have hfz12_1 := blk_frozen BK165.out 1; have hfz12_2 := blk_frozen BK165.out 2) | ((with_reducible refine gate_callee (f := 29) rfl ?_); refine goesL_ (some 25) rfl rfl Try.func29 (by kernel_rfl) rfl #[.agg #[.int .i64 a0_0, .int .i64 a0_1, .slice A0_2 l0_2.length c0_2], .int .i64 1048576] rfl mA ?_; (with_reducible refine (laws_szManifest.calls k a0_0 a0_1 _ _ l0_2 1048576 t166 _ ?side1 ?side2 A9.out).mono ?_); (case side1 => repeat (first | exact (Kd.C_below HR0_2.out HB.out) | (with_reducible refine Kd.C_alloc ?_ _) | (with_reducible refine Kd.C_drewN ?_ _) | (with_reducible refine Kd.C_drew ?_))); (case side2 => exact HC0_2.out); rintro e w13 ⟨rfl, hb⟩; refine ⟨_, rfl, ?_⟩; replace BK165 := mB BK165 hb; replace HB := mS (below_step (mH1 HB.out GE165.out) hb); (try clear hb); (try clear hb2); (try clear hk); (try clear hi)))
    go_ret
    exact ⟨by first | rfl | (simp [errW_none, errW_some] <;> rfl) | (simp [*, errW_none, errW_some] <;> rfl), (mH1 HB.out GE165.out)⟩
   ·rw [if_neg c10] at H
    have c10b0 : decide (t166 < 0) = false := decide_eq_false c10
    clear c10
    replace H := Option.bind_eq_some_iff.mp H
    obtain ⟨⟨t167, t168, t169⟩, A140, H⟩ := H
    replace H : ((spec_Overlap.f k t167 t168 t169 a1 a2 a3).bind fun t172 => ((laws_toManifest.f k a0_0 a0_1 l0_2).bind fun bt175 => ((impl_Overlap.f k bt175.1 bt175.2.1 bt175.2.2 a1 a2 a3).bind fun t181 => ((laws_eqIntS.f k t181 t172).bind fun t184 => (if t184 = true then ((laws_toManifest.f k a0_0 a0_1 l0_2).bind fun bt185 => ((laws_eqManifest.f k bt175.1 bt175.2.1 bt175.2.2 bt185.1 bt185.2.1 bt185.2.2).bind fun t190 => (if t190 = true then ((laws_markManifest.f k bt175.1 bt175.2.1 bt175.2.2 1).bind fun bt191 => (if bt191.1 < 0 then (laws_FnExactOverlap.j0 k a1 a2 a3 t172 t181 true a0_0 a0_1 l0_2) else ((laws_eqIntS.f k t181 t172).bind fun t193 => (laws_FnExactOverlap.j0 k a1 a2 a3 t172 t181 (!t193) a0_0 a0_1 l0_2)))) else (some false)))) else (some false)))))) = some r := H
    have A14 := mS A140
    clear A140
    replace H := Option.bind_eq_some_iff.mp H
    obtain ⟨t172, A150, H⟩ := H
    replace H : ((laws_toManifest.f k a0_0 a0_1 l0_2).bind fun bt175 => ((impl_Overlap.f k bt175.1 bt175.2.1 bt175.2.2 a1 a2 a3).bind fun t181 => ((laws_eqIntS.f k t181 t172).bind fun t184 => (if t184 = true then ((laws_toManifest.f k a0_0 a0_1 l0_2).bind fun bt185 => ((laws_eqManifest.f k bt175.1 bt175.2.1 bt175.2.2 bt185.1 bt185.2.1 bt185.2.2).bind fun t190 => (if t190 = true then ((laws_markManifest.f k bt175.1 bt175.2.1 bt175.2.2 1).bind fun bt191 => (if bt191.1 < 0 then (laws_FnExactOverlap.j0 k a1 a2 a3 t172 t181 true a0_0 a0_1 l0_2) else ((laws_eqIntS.f k t181 t172).bind fun t193 => (laws_FnExactOverlap.j0 k a1 a2 a3 t172 t181 (!t193) a0_0 a0_1 l0_2)))) else (some false)))) else (some false))))) = some r := H
    have A15 := mS A150
    clear A150
    replace H := Option.bind_eq_some_iff.mp H
    obtain ⟨⟨t175, t176, t177⟩, A160, H⟩ := H
    replace H : ((impl_Overlap.f k t175 t176 t177 a1 a2 a3).bind fun t181 => ((laws_eqIntS.f k t181 t172).bind fun t184 => (if t184 = true then ((laws_toManifest.f k a0_0 a0_1 l0_2).bind fun bt185 => ((laws_eqManifest.f k t175 t176 t177 bt185.1 bt185.2.1 bt185.2.2).bind fun t190 => (if t190 = true then ((laws_markManifest.f k t175 t176 t177 1).bind fun bt191 => (if bt191.1 < 0 then (laws_FnExactOverlap.j0 k a1 a2 a3 t172 t181 true a0_0 a0_1 l0_2) else ((laws_eqIntS.f k t181 t172).bind fun t193 => (laws_FnExactOverlap.j0 k a1 a2 a3 t172 t181 (!t193) a0_0 a0_1 l0_2)))) else (some false)))) else (some false)))) = some r := H
    have A16 := mS A160
    clear A160
    replace H := Option.bind_eq_some_iff.mp H
    obtain ⟨t181, A170, H⟩ := H
    replace H : ((laws_eqIntS.f k t181 t172).bind fun t184 => (if t184 = true then ((laws_toManifest.f k a0_0 a0_1 l0_2).bind fun bt185 => ((laws_eqManifest.f k t175 t176 t177 bt185.1 bt185.2.1 bt185.2.2).bind fun t190 => (if t190 = true then ((laws_markManifest.f k t175 t176 t177 1).bind fun bt191 => (if bt191.1 < 0 then (laws_FnExactOverlap.j0 k a1 a2 a3 t172 t181 true a0_0 a0_1 l0_2) else ((laws_eqIntS.f k t181 t172).bind fun t193 => (laws_FnExactOverlap.j0 k a1 a2 a3 t172 t181 (!t193) a0_0 a0_1 l0_2)))) else (some false)))) else (some false))) = some r := H
    have A17 := mS A170
    clear A170
    replace H := Option.bind_eq_some_iff.mp H
    obtain ⟨t184, A180, H⟩ := H
    replace H : (if t184 = true then ((laws_toManifest.f k a0_0 a0_1 l0_2).bind fun bt185 => ((laws_eqManifest.f k t175 t176 t177 bt185.1 bt185.2.1 bt185.2.2).bind fun t190 => (if t190 = true then ((laws_markManifest.f k t175 t176 t177 1).bind fun bt191 => (if bt191.1 < 0 then (laws_FnExactOverlap.j0 k a1 a2 a3 t172 t181 true a0_0 a0_1 l0_2) else ((laws_eqIntS.f k t181 t172).bind fun t193 => (laws_FnExactOverlap.j0 k a1 a2 a3 t172 t181 (!t193) a0_0 a0_1 l0_2)))) else (some false)))) else (some false)) = some r := H
    have A18 := mS A180
    clear A180
    by_cases c19 : t184 = true
    ·subst c19
     have H1 : ((laws_toManifest.f k a0_0 a0_1 l0_2).bind fun bt185 => ((laws_eqManifest.f k t175 t176 t177 bt185.1 bt185.2.1 bt185.2.2).bind fun t190 => (if t190 = true then ((laws_markManifest.f k t175 t176 t177 1).bind fun bt191 => (if bt191.1 < 0 then (laws_FnExactOverlap.j0 k a1 a2 a3 t172 t181 true a0_0 a0_1 l0_2) else ((laws_eqIntS.f k t181 t172).bind fun t193 => (laws_FnExactOverlap.j0 k a1 a2 a3 t172 t181 (!t193) a0_0 a0_1 l0_2)))) else (some false)))) = some r := by rw [if_pos rfl] at H; exact H
     clear H
     have H := H1
     clear H1
     replace H := Option.bind_eq_some_iff.mp H
     obtain ⟨⟨t185, t186, t187⟩, A200, H⟩ := H
     replace H : ((laws_eqManifest.f k t175 t176 t177 t185 t186 t187).bind fun t190 => (if t190 = true then ((laws_markManifest.f k t175 t176 t177 1).bind fun bt191 => (if bt191.1 < 0 then (laws_FnExactOverlap.j0 k a1 a2 a3 t172 t181 true a0_0 a0_1 l0_2) else ((laws_eqIntS.f k t181 t172).bind fun t193 => (laws_FnExactOverlap.j0 k a1 a2 a3 t172 t181 (!t193) a0_0 a0_1 l0_2)))) else (some false))) = some r := H
     have A20 := mS A200
     clear A200
     replace H := Option.bind_eq_some_iff.mp H
     obtain ⟨t190, A210, H⟩ := H
     replace H : (if t190 = true then ((laws_markManifest.f k t175 t176 t177 1).bind fun bt191 => (if bt191.1 < 0 then (laws_FnExactOverlap.j0 k a1 a2 a3 t172 t181 true a0_0 a0_1 l0_2) else ((laws_eqIntS.f k t181 t172).bind fun t193 => (laws_FnExactOverlap.j0 k a1 a2 a3 t172 t181 (!t193) a0_0 a0_1 l0_2)))) else (some false)) = some r := H
     have A21 := mS A210
     clear A210
     by_cases c22 : t190 = true
     ·subst c22
      have H1 : ((laws_markManifest.f k t175 t176 t177 1).bind fun bt191 => (if bt191.1 < 0 then (laws_FnExactOverlap.j0 k a1 a2 a3 t172 t181 true a0_0 a0_1 l0_2) else ((laws_eqIntS.f k t181 t172).bind fun t193 => (laws_FnExactOverlap.j0 k a1 a2 a3 t172 t181 (!t193) a0_0 a0_1 l0_2)))) = some r := by rw [if_pos rfl] at H; exact H
      clear H
      have H := H1
      clear H1
      replace H := Option.bind_eq_some_iff.mp H
      obtain ⟨⟨t191, t192⟩, A230, H⟩ := H
      replace H : (if t191 < 0 then (laws_FnExactOverlap.j0 k a1 a2 a3 t172 t181 true a0_0 a0_1 l0_2) else ((laws_eqIntS.f k t181 t172).bind fun t193 => (laws_FnExactOverlap.j0 k a1 a2 a3 t172 t181 (!t193) a0_0 a0_1 l0_2))) = some r := H
      have A23 := mS A230
      clear A230
      have HC24 := mS H
      clear H
      go_enter Try.func6, Try.ntmps6
      try go_wp2_with (first | ((with_reducible refine gate_dst (N := 4) rfl ?_); refine box_event ?hg (N := 4) ?hd (cs := #[.int .i64 a0_0, .int .i64 a0_1, .slice A0_2 l0_2.length c0_2]) (t := 56) ?hr ?_; (case hd => rfl); (case hg => rfl); (case hr => first | (go_simp; done) | (go_simp; rfl)); intro gb165 hg w25 hbox hb; have BK165 := mS (hbox); have GW165 := mG hg (mH HB.out); have GE165 := mG hg (mH HB.out); replace HB := mS (below_step (mH HB.out) hb); clear hb hbox hg; have hcz26_0 : w25.cell? ⟨gb165, 0, none⟩ = some (.int .i64 a0_0) := (blk_cell BK165.out 0).trans rfl; have hcz26_1 : w25.cell? ⟨gb165, 1, none⟩ = some (.int .i64 a0_1) := (blk_cell BK165.out 1).trans rfl; have hcz26_2 : w25.cell? ⟨gb165, 2, none⟩ = some (.slice A0_2 l0_2.length c0_2) := (blk_cell BK165.out 2).trans rfl; have hfz26_0 := blk_frozen BK165.out 0; have hfz26_1 := blk_frozen BK165.out 1; have hfz26_2 := blk_frozen BK165.out 2) | ((with_reducible refine gate_callee (f := 29) rfl ?_); refine goesL_ (some 25) rfl rfl Try.func29 (by kernel_rfl) rfl #[.agg #[.int .i64 a0_0, .int .i64 a0_1, .slice A0_2 l0_2.length c0_2], .int .i64 1048576] rfl mA ?_; (with_reducible refine (laws_szManifest.calls k a0_0 a0_1 _ _ l0_2 1048576 t166 _ ?side1 ?side2 A9.out).mono ?_); (case side1 => repeat (first | exact (Kd.C_below HR0_2.out HB.out) | (with_reducible refine Kd.C_alloc ?_ _) | (with_reducible refine Kd.C_drewN ?_ _) | (with_reducible refine Kd.C_drew ?_))); (case side2 => exact HC0_2.out); rintro e w27 ⟨rfl, hb⟩; refine ⟨_, rfl, ?_⟩; replace BK165 := mB BK165 hb; replace HB := mS (below_step (mH1 HB.out GE165.out) hb); (try clear hb); (try clear hb2); (try clear hk); (try clear hi); have hcz28_0 : w27.cell? ⟨gb165, 0, none⟩ = some (.int .i64 a0_0) := (blk_cell BK165.out 0).trans rfl; have hcz28_1 : w27.cell? ⟨gb165, 1, none⟩ = some (.int .i64 a0_1) := (blk_cell BK165.out 1).trans rfl; have hcz28_2 : w27.cell? ⟨gb165, 2, none⟩ = some (.slice A0_2 l0_2.length c0_2) := (blk_cell BK165.out 2).trans rfl; have hfz28_0 := blk_frozen BK165.out 0; have hfz28_1 := blk_frozen BK165.out 1; have hfz28_2 := blk_frozen BK165.out 2) | ((with_reducible refine gate_callee (f := 31) rfl ?_); refine goesL_ (some 29) rfl rfl Try.func31 (by kernel_rfl) rfl #[.agg #[.int .i64 a0_0, .int .i64 a0_1, .slice A0_2 l0_2.length c0_2]] rfl mA ?_; (with_reducible refine (laws_toManifest.calls k a0_0 a0_1 _ _ l0_2 t167 t168 t169 _ ?side1 ?side2 A14.out).mono ?_); (case side1 => repeat (first | exact (Kd.C_below HR0_2.out HB.out) | (with_reducible refine Kd.C_alloc ?_ _) | (with_reducible refine Kd.C_drewN ?_ _) | (with_reducible refine Kd.C_drew ?_))); (case side2 => exact HC0_2.out); rintro e w29 ⟨v170, rfl, ho0, hb⟩; refine ⟨_, rfl, ?_⟩; have HO171 := mS (Kd.R_lower ho0 (below_size (mH1 HB.out GE165.out))); replace BK165 := mB BK165 hb; replace HB := mS (below_step (mH1 HB.out GE165.out) hb); (try clear hb); (try clear hb2); (try clear hk); (try clear hi); (try clear ho0); obtain ⟨Ao30, co30, eo30⟩ := Kd.R_slice HO171.out; subst eo30) | ((with_reducible refine gate_callee (f := 30) rfl ?_); refine goesL_ (some 33) rfl rfl Try.func30 (by kernel_rfl) rfl #[.agg #[.int .i64 t167, .int .i64 t168, .slice Ao30 t169.length co30], .int .i64 a1, .string a2, .string a3] rfl mA ?_; (with_reducible refine (spec_Overlap.calls k t167 t168 _ _ t169 a1 a2 a3 t172 _ ?side1 ?side2 A15.out).mono ?_); (case side1 => repeat (first | exact (Kd.R_reads' HO171.out).2.2 | (with_reducible refine Kd.C_alloc ?_ _) | (with_reducible refine Kd.C_drewN ?_ _) | (with_reducible refine Kd.C_drew ?_))); (case side2 => exact (Kd.R_reads' HO171.out).2.1); rintro e w31 ⟨v173, rfl, ho0, hb⟩; refine ⟨_, rfl, ?_⟩; replace HO171 := mS (Kd.R_below (mR HO171.out) hb); have HO174 := mS (Kd.R_lower ho0 (below_size (mH1 HB.out GE165.out))); replace BK165 := mB BK165 hb; replace HB := mS (below_step (mH1 HB.out GE165.out) hb); (try clear hb); (try clear hb2); (try clear hk); (try clear hi); (try clear ho0); have hcz32_0 : w31.cell? ⟨gb165, 0, none⟩ = some (.int .i64 a0_0) := (blk_cell BK165.out 0).trans rfl; have hcz32_1 : w31.cell? ⟨gb165, 1, none⟩ = some (.int .i64 a0_1) := (blk_cell BK165.out 1).trans rfl; have hcz32_2 : w31.cell? ⟨gb165, 2, none⟩ = some (.slice A0_2 l0_2.length c0_2) := (blk_cell BK165.out 2).trans rfl; have hfz32_0 := blk_frozen BK165.out 0; have hfz32_1 := blk_frozen BK165.out 1; have hfz32_2 := blk_frozen BK165.out 2) | ((with_reducible refine gate_callee (f := 31) rfl ?_); refine goesL_ (some 35) rfl rfl Try.func31 (by kernel_rfl) rfl #[.agg #[.int .i64 a0_0, .int .i64 a0_1, .slice A0_2 l0_2.length c0_2]] rfl mA ?_; (with_reducible refine (laws_toManifest.calls k a0_0 a0_1 _ _ l0_2 t175 t176 t177 _ ?side1 ?side2 A16.out).mono ?_); (case side1 => repeat (first | exact (Kd.C_below HR0_2.out HB.out) | (with_reducible refine Kd.C_alloc ?_ _) | (with_reducible refine Kd.C_drewN ?_ _) | (with_reducible refine Kd.C_drew ?_))); (case side2 => exact HC0_2.out); rintro e w33 ⟨v178, rfl, ho0, hb⟩; refine ⟨_, rfl, ?_⟩; replace HO174 := mS (Kd.R_below (mR HO174.out) hb); have HO179 := mS (Kd.R_lower (Kd.R_new' ho0 (Kd.R_lt (mR HO171.out))) (below_size (mH1 HB.out GE165.out))); replace HO171 := mS (Kd.R_elder' (mR HO171.out) (Kd.R_base ho0) hb); replace BK165 := mB BK165 hb; replace HB := mS (below_step (mH1 HB.out GE165.out) hb); (try clear hb); (try clear hb2); (try clear hk); (try clear hi); (try clear ho0)) | ((with_reducible refine gate_dst (N := 11) rfl ?_); refine box_event ?hg (N := 11) ?hd (cs := #[.int .i64 0, .int .i64 0, .slice none 0 0]) (t := 61) ?hr ?_; (case hd => rfl); (case hg => rfl); (case hr => first | (go_simp; done) | (go_simp; rfl)); intro gb180 hg w34 hbox hb; replace HO171 := mS (Kd.R_below (mR HO171.out) hb); replace HO174 := mS (Kd.R_below (mR HO174.out) hb); replace HO179 := mS (Kd.R_below (mR HO179.out) hb); have BK180 := mS (hbox); have GW180 := mG hg (mH1 HB.out GE165.out); have GE180 := mG hg (mH1 HB.out GE165.out); replace HB := mS (below_step (mH1 HB.out GE165.out) hb); have NB165_180 := mNl hg BK165.out; have NB180_165 := mNg hg BK165.out; replace BK165 := mB BK165 hb; clear hb hbox hg; have hnb35 := NB180_165.out; have hnc35 := NB165_180.out; have hcz36_0 : w34.cell? ⟨gb180, 0, none⟩ = some (.int .i64 0) := (blk_cell BK180.out 0).trans rfl; have hcz36_1 : w34.cell? ⟨gb180, 1, none⟩ = some (.int .i64 0) := (blk_cell BK180.out 1).trans rfl; have hcz36_2 : w34.cell? ⟨gb180, 2, none⟩ = some (.slice none 0 0) := (blk_cell BK180.out 2).trans rfl; have hfz36_0 := blk_frozen BK180.out 0; have hfz36_1 := blk_frozen BK180.out 1; have hfz36_2 := blk_frozen BK180.out 2; obtain ⟨Ao37, co37, eo37⟩ := Kd.R_slice HO179.out; subst eo37) | ((with_reducible refine gate_callee (f := 32) rfl ?_); refine goesL_ (some 40) rfl rfl Try.func32 (by kernel_rfl) rfl #[.agg #[.int .i64 t175, .int .i64 t176, .slice Ao37 t177.length co37], .int .i64 a1, .string a2, .string a3] rfl mA ?_; (with_reducible refine (impl_Overlap.calls k t175 t176 _ _ t177 a1 a2 a3 t181 _ ?side1 ?side2 A17.out).mono ?_); (case side1 => refine (Kd.R_reads' (e := 134) (base := w.heap.size) (ok := fun k_ => (True ∧ some k_ ≠ (.slice Ao30 t169.length co30 : Value).ownBlock)) (n := t177.length) (c := co37) ?_).2.2; exact (by (with_reducible repeat (first | apply Kd.R_alloc | apply Kd.R_drewN | apply Kd.R_drew)); exact (Kd.R_mono (Kd.R_far (p := ⟨gb180, 2, none⟩) (Kd.R_far (p := ⟨gb180, 1, none⟩) (Kd.R_far (p := ⟨gb180, 0, none⟩) (Kd.R_types HO179.out BK180.out (by decide)) (fun _ hk => hk.2) (.int .i64 t175)) (fun _ hk => hk.2) (.int .i64 t176)) (fun _ hk => hk.2) (.slice Ao37 t177.length co37)) (fun _ h_ => h_.1)))); (case side2 => exact (Kd.R_reads' HO179.out).2.1); rintro e w38 ⟨v182, rfl, ho0, hb⟩; refine ⟨_, rfl, ?_⟩; replace HO171 := mS (Kd.R_below (by (with_reducible repeat (first | apply Kd.R_alloc | apply Kd.R_drewN | apply Kd.R_drew)); exact (Kd.R_mono (Kd.R_far (p := ⟨gb180, 2, none⟩) (Kd.R_far (p := ⟨gb180, 1, none⟩) (Kd.R_far (p := ⟨gb180, 0, none⟩) (Kd.R_types HO171.out BK180.out (by decide)) (fun _ hk => hk.2) (.int .i64 t175)) (fun _ hk => hk.2) (.int .i64 t176)) (fun _ hk => hk.2) (.slice Ao37 t177.length co37)) (fun _ h_ => h_.1))) hb); replace HO179 := mS (Kd.R_below (by (with_reducible repeat (first | apply Kd.R_alloc | apply Kd.R_drewN | apply Kd.R_drew)); exact (Kd.R_mono (Kd.R_far (p := ⟨gb180, 2, none⟩) (Kd.R_far (p := ⟨gb180, 1, none⟩) (Kd.R_far (p := ⟨gb180, 0, none⟩) (Kd.R_types HO179.out BK180.out (by decide)) (fun _ hk => hk.2) (.int .i64 t175)) (fun _ hk => hk.2) (.int .i64 t176)) (fun _ hk => hk.2) (.slice Ao37 t177.length co37)) (fun _ h_ => h_.1))) hb); have HO183 := mS (Kd.R_lower (Kd.R_new' ho0 (Kd.R_lt (by (with_reducible repeat (first | apply Kd.R_alloc | apply Kd.R_drewN | apply Kd.R_drew)); exact (Kd.R_mono (Kd.R_far (p := ⟨gb180, 2, none⟩) (Kd.R_far (p := ⟨gb180, 1, none⟩) (Kd.R_far (p := ⟨gb180, 0, none⟩) (Kd.R_types HO174.out BK180.out (by decide)) (fun _ hk => hk.2) (.int .i64 t175)) (fun _ hk => hk.2) (.int .i64 t176)) (fun _ hk => hk.2) (.slice Ao37 t177.length co37)) (fun _ h_ => h_.1))))) (below_size (mH2 HB.out GE165.out GE180.out))); replace HO174 := mS (Kd.R_elder' (by (with_reducible repeat (first | apply Kd.R_alloc | apply Kd.R_drewN | apply Kd.R_drew)); exact (Kd.R_mono (Kd.R_far (p := ⟨gb180, 2, none⟩) (Kd.R_far (p := ⟨gb180, 1, none⟩) (Kd.R_far (p := ⟨gb180, 0, none⟩) (Kd.R_types HO174.out BK180.out (by decide)) (fun _ hk => hk.2) (.int .i64 t175)) (fun _ hk => hk.2) (.int .i64 t176)) (fun _ hk => hk.2) (.slice Ao37 t177.length co37)) (fun _ h_ => h_.1))) (Kd.R_base ho0) hb); replace BK165 := mS (blk_below (g := gb165) (o := .cells #[.int .i64 a0_0, .int .i64 a0_1, .slice A0_2 l0_2.length c0_2] 56 (0, 0)) (by (with_reducible repeat (first | refine blk_drewN ?_ _ | refine blk_drew ?_ | refine blk_alloc ?_ _)); refine blk_far ?_ NB165_180.out _; (with_reducible repeat (first | refine blk_drewN ?_ _ | refine blk_drew ?_ | refine blk_alloc ?_ _)); refine blk_far ?_ NB165_180.out _; (with_reducible repeat (first | refine blk_drewN ?_ _ | refine blk_drew ?_ | refine blk_alloc ?_ _)); refine blk_far ?_ NB165_180.out _; (with_reducible repeat (first | refine blk_drewN ?_ _ | refine blk_drew ?_ | refine blk_alloc ?_ _)); exact BK165.out) hb); replace BK180 := mS (blk_below (g := gb180) (o := .cells #[.int .i64 t175, .int .i64 t176, .slice Ao37 t177.length co37] 61 (0, 0)) (by (with_reducible repeat (first | refine blk_drewN ?_ _ | refine blk_drew ?_ | refine blk_alloc ?_ _)); refine blk_put (cs := #[.int .i64 t175, .int .i64 t176, .slice none 0 0]) ?_ 2 _ rfl; (with_reducible repeat (first | refine blk_drewN ?_ _ | refine blk_drew ?_ | refine blk_alloc ?_ _)); refine blk_put (cs := #[.int .i64 t175, .int .i64 0, .slice none 0 0]) ?_ 1 _ rfl; (with_reducible repeat (first | refine blk_drewN ?_ _ | refine blk_drew ?_ | refine blk_alloc ?_ _)); refine blk_put (cs := #[.int .i64 0, .int .i64 0, .slice none 0 0]) ?_ 0 _ rfl; (with_reducible repeat (first | refine blk_drewN ?_ _ | refine blk_drew ?_ | refine blk_alloc ?_ _)); exact BK180.out) hb); replace HB := mS (below_step (mH2 HB.out GE165.out GE180.out) hb); (try clear hb); (try clear hb2); (try clear hk); (try clear hi); (try clear ho0); obtain ⟨Ao39, co39, eo39⟩ := Kd.R_slice HO183.out; subst eo39; obtain ⟨Ao40, co40, eo40⟩ := Kd.R_slice HO174.out; subst eo40) | ((with_reducible refine gate_callee (f := 33) rfl ?_); refine goesL_ (some 43) rfl rfl Try.func33 (by kernel_rfl) rfl #[.slice Ao39 t181.length co39, .slice Ao40 t172.length co40] rfl mA ?_; (with_reducible refine (laws_eqIntS.calls k _ _ t181 _ _ t172 true _ ?side1 ?side2 ?side3 ?side4 A18.out).mono ?_); (case side1 => repeat (first | exact (Kd.R_reads' HO183.out).2.2 | (with_reducible refine Kd.C_alloc ?_ _) | (with_reducible refine Kd.C_drewN ?_ _) | (with_reducible refine Kd.C_drew ?_))); (case side2 => exact (Kd.R_reads' HO183.out).2.1); (case side3 => repeat (first | exact (Kd.R_reads' HO174.out).2.2 | (with_reducible refine Kd.C_alloc ?_ _) | (with_reducible refine Kd.C_drewN ?_ _) | (with_reducible refine Kd.C_drew ?_))); (case side4 => exact (Kd.R_reads' HO174.out).2.1); rintro e w' ⟨rfl, ⟨nd, rfl⟩⟩; refine ⟨_, rfl, ?_⟩))
      (try (rw [drewN_self w38]; generalize hq_ : World.drewN w38 _ = w38; have n0_ : Aside0 (Kd.R k134 134 w38 w.heap.size (fun k_ => (True ∧ some k_ ≠ (.slice Ao37 t177.length co37 : Value).ownBlock)) (.slice Ao30 t169.length co30) t169) := ⟨by rw [← hq_]; exact (mR HO171.out)⟩; have n1_ : Aside0 (Kd.R (Kd.int .i64) 3 w38 w.heap.size (fun k_ => (True ∧ some k_ ≠ (.slice Ao39 t181.length co39 : Value).ownBlock)) (.slice Ao40 t172.length co40) t172) := ⟨by rw [← hq_]; exact (mR HO174.out)⟩; have n2_ : Aside0 (Kd.R k134 134 w38 w.heap.size (fun k_ => (True ∧ some k_ ≠ (.slice Ao30 t169.length co30 : Value).ownBlock)) (.slice Ao37 t177.length co37) t177) := ⟨by rw [← hq_]; exact (mR HO179.out)⟩; have n3_ : Aside0 (Kd.R (Kd.int .i64) 3 w38 w.heap.size (fun k_ => (True ∧ some k_ ≠ (.slice Ao40 t172.length co40 : Value).ownBlock)) (.slice Ao39 t181.length co39) t181) := ⟨by rw [← hq_]; exact (mR HO183.out)⟩; have n4_ : Aside0 (w38.heap[gb165]? = some (.cells #[.int .i64 a0_0, .int .i64 a0_1, .slice A0_2 l0_2.length c0_2] 56 (0, 0))) := ⟨by rw [← hq_]; exact (mK BK165.out)⟩; have n5_ : Aside0 (w38.heap[gb180]? = some (.cells #[.int .i64 t175, .int .i64 t176, .slice Ao37 t177.length co37] 61 (0, 0))) := ⟨by rw [← hq_]; exact (mK BK180.out)⟩; have n6_ : Aside0 (Below w.heap.size w w38) := ⟨by rw [← hq_]; exact (mH2 HB.out GE165.out GE180.out)⟩; clear HO171 HO174 HO179 HO183 BK165 BK180 HB hq_; have HO171 := n0_; have HO174 := n1_; have HO179 := n2_; have HO183 := n3_; have BK165 := n4_; have BK180 := n5_; have HB := n6_; clear n0_ n1_ n2_ n3_ n4_ n5_ n6_))
      have n0_ := mS (Kd.R_drew HO171.out)
      have n1_ := mS (Kd.R_drew HO174.out)
      have n2_ := mS (Kd.R_drew HO179.out)
      have n3_ := mS (Kd.R_drew HO183.out)
      have n4_ := mS (blk_drew BK165.out)
      have n5_ := mS (blk_drew BK180.out)
      have n6_ := mS (below_drew1 HB.out)
      clear HO171
      clear HO174
      clear HO179
      clear HO183
      clear BK165
      clear BK180
      clear HB
      have HO171 := n0_
      have HO174 := n1_
      have HO179 := n2_
      have HO183 := n3_
      have BK165 := n4_
      have BK180 := n5_
      have HB := n6_
      clear n0_ n1_ n2_ n3_ n4_ n5_ n6_
      refine start_ (n := 5) (S := fun w' => w'.cell? ⟨gb180, 0, none⟩ = some (.int .i64 t175) ∧ w'.cell? ⟨gb180, 1, none⟩ = some (.int .i64 t176) ∧ w'.cell? ⟨gb180, 2, none⟩ = some (.slice Ao37 t177.length co37) ∧ w'.cell? ⟨gb165, 0, none⟩ = some (.int .i64 a0_0) ∧ w'.cell? ⟨gb165, 1, none⟩ = some (.int .i64 a0_1) ∧ w'.cell? ⟨gb165, 2, none⟩ = some (.slice A0_2 l0_2.length c0_2)) (ds := []) #[false, false, false, false, false] (by kernel_rfl) rfl rfl ⟨(blk_cell BK180.out 0).trans rfl, (blk_cell BK180.out 1).trans rfl, (blk_cell BK180.out 2).trans rfl, (blk_cell BK165.out 0).trans rfl, (blk_cell BK165.out 1).trans rfl, (blk_cell BK165.out 2).trans rfl⟩ (fun hHeld => ?_)
      generalize w38.drew = w41 at HO171 HO174 HO179 HO183 BK165 BK180 HB hHeld ⊢
      refine take_ (i := 0) (N := some 45) (v := ?_) (a' := ?_) #[true, false, false, false, false] rfl rfl (by kernel_rfl) (fun _ _ _ h => h) (Or.inl ⟨by rfl, ?_⟩) hHeld ?_ ?_
      rotate_left
      ·rintro w' ⟨s0, s1, s2, s3, s4, s5⟩
       go_simp
       with_reducible rfl
      rotate_left
      ·simp only [Act.put, List.setIfInBounds_toArray, List.set_cons_zero, List.set_cons_succ, i64_w, i32_w]
       rfl
      refine take_ (i := 1) (N := some 46) (v := ?_) (a' := ?_) #[true, true, false, false, false] rfl rfl (by kernel_rfl) (fun _ _ _ h => h) (Or.inl ⟨by rfl, ?_⟩) hHeld ?_ ?_
      rotate_left
      ·rintro w' ⟨s0, s1, s2, s3, s4, s5⟩
       go_simp
       with_reducible rfl
      rotate_left
      ·simp only [Act.put, List.setIfInBounds_toArray, List.set_cons_zero, List.set_cons_succ, i64_w, i32_w]
       rfl
      refine one_ (i := 2) (N := some 47) #[true, true, true, false, false] rfl rfl (by kernel_rfl) (by decide) (fun K hK => ?_)
      refine goes_ Try.func31 (by kernel_rfl) rfl #[.agg #[.int .i64 a0_0, .int .i64 a0_1, .slice A0_2 l0_2.length c0_2]] (by rfl) rfl rfl mA ?_
      with_reducible refine (laws_toManifest.calls k a0_0 a0_1 _ _ l0_2 t185 t186 t187 _ ?side1 ?side2 A20.out).mono ?_
      (case side1 => repeat (first | exact (Kd.C_below HR0_2.out HB.out) | (with_reducible refine Kd.C_alloc ?_ _) | (with_reducible refine Kd.C_drewN ?_ _) | (with_reducible refine Kd.C_drew ?_)))
      (case side2 => exact HC0_2.out)
      rintro e w42 ⟨v188, rfl, ho0, hb⟩
      refine ⟨_, rfl, ?_⟩
      have n0_ := mS (Kd.R_elder' (mR HO171.out) (Kd.R_base ho0) hb)
      have n1_ := mS (Kd.R_below (mR HO174.out) hb)
      have n2_ := mS (Kd.R_elder' (mR HO179.out) (Kd.R_base ho0) hb)
      have n3_ := mS (Kd.R_below (mR HO183.out) hb)
      have n4_ := mS (Kd.R_lower (Kd.R_new' (Kd.R_new' ho0 (Kd.R_lt (mR HO171.out))) (Kd.R_lt (mR HO179.out))) (below_size (mH2 HB.out GE165.out GE180.out)))
      have n5_ := mB BK165 hb
      have n6_ := mB BK180 hb
      have n7_ := mS (below_step (mH2 HB.out GE165.out GE180.out) hb)
      clear HO171
      clear HO174
      clear HO179
      clear HO183
      clear BK165
      clear BK180
      clear HB
      have HO171 := n0_
      have HO174 := n1_
      have HO179 := n2_
      have HO183 := n3_
      have HO189 := n4_
      have BK165 := n5_
      have BK180 := n6_
      have HB := n7_
      clear n0_ n1_ n2_ n3_ n4_ n5_ n6_ n7_
      (try clear hb)
      (try clear hb2)
      (try clear hk)
      (try clear hi)
      (try clear ho0)
      obtain ⟨Ao43, co43, eo43⟩ := Kd.R_slice HO189.out
      (first | subst eo43 | (injection eo43 with f1_ f2_ f3_; have f4_ := f1_.symm; have f5_ := f3_.symm; clear f1_ f2_ f3_; subst f4_; subst f5_))
      refine hK.out _ _ ⟨(blk_cell BK180.out 0).trans rfl, (blk_cell BK180.out 1).trans rfl, (blk_cell BK180.out 2).trans rfl, (blk_cell BK165.out 0).trans rfl, (blk_cell BK165.out 1).trans rfl, (blk_cell BK165.out 2).trans rfl⟩ (fun hHeld => ?_)
      clear hK K
      refine norm_ (a' := ?_) ?_ ?_
      rotate_left
      ·show Act.put _ (some 47) _ = _
       simp only [Act.put, List.setIfInBounds_toArray, List.set_cons_zero, List.set_cons_succ, i64_w, i32_w]
       rfl
      refine one_ (i := 3) (N := some 48) #[true, true, true, true, false] rfl rfl (by kernel_rfl) (by decide) (fun K hK => ?_)
      refine goes_ Try.func34 (by kernel_rfl) rfl #[.agg #[.int .i64 t175, .int .i64 t176, .slice Ao37 t177.length co37], .agg #[.int .i64 t185, .int .i64 t186, .slice Ao43 t187.length co43]] (by rfl) rfl rfl mA ?_
      with_reducible refine (laws_eqManifest.calls k t175 t176 _ _ t177 t185 t186 _ _ t187 true _ ?side1 ?side2 ?side3 ?side4 A21.out).mono ?_
      (case side1 => repeat (first | exact (Kd.R_reads' HO179.out).2.2 | (with_reducible refine Kd.C_alloc ?_ _) | (with_reducible refine Kd.C_drewN ?_ _) | (with_reducible refine Kd.C_drew ?_)))
      (case side2 => exact (Kd.R_reads' HO179.out).2.1)
      (case side3 => repeat (first | exact (Kd.R_reads' HO189.out).2.2 | (with_reducible refine Kd.C_alloc ?_ _) | (with_reducible refine Kd.C_drewN ?_ _) | (with_reducible refine Kd.C_drew ?_)))
      (case side4 => exact (Kd.R_reads' HO189.out).2.1)
      rintro e w44 ⟨rfl, hb⟩
      refine ⟨_, rfl, ?_⟩
      have n0_ := mS (Kd.R_below (mR HO171.out) hb)
      have n1_ := mS (Kd.R_below (mR HO174.out) hb)
      have n2_ := mS (Kd.R_below (mR HO179.out) hb)
      have n3_ := mS (Kd.R_below (mR HO183.out) hb)
      have n4_ := mS (Kd.R_below (mR HO189.out) hb)
      have n5_ := mB BK165 hb
      have n6_ := mB BK180 hb
      have n7_ := mS (below_step (mH2 HB.out GE165.out GE180.out) hb)
      clear HO171
      clear HO174
      clear HO179
      clear HO183
      clear HO189
      clear BK165
      clear BK180
      clear HB
      have HO171 := n0_
      have HO174 := n1_
      have HO179 := n2_
      have HO183 := n3_
      have HO189 := n4_
      have BK165 := n5_
      have BK180 := n6_
      have HB := n7_
      clear n0_ n1_ n2_ n3_ n4_ n5_ n6_ n7_
      (try clear hb)
      (try clear hb2)
      (try clear hk)
      (try clear hi)
      refine hK.out _ _ ⟨(blk_cell BK180.out 0).trans rfl, (blk_cell BK180.out 1).trans rfl, (blk_cell BK180.out 2).trans rfl, (blk_cell BK165.out 0).trans rfl, (blk_cell BK165.out 1).trans rfl, (blk_cell BK165.out 2).trans rfl⟩ (fun hHeld => ?_)
      clear hK K
      refine norm_ (a' := ?_) ?_ ?_
      rotate_left
      ·show Act.put _ (some 48) _ = _
       simp only [Act.put, List.setIfInBounds_toArray, List.set_cons_zero, List.set_cons_succ, i64_w, i32_w]
       rfl
      refine pure_ (i := 4) (N := some 49) (v := ?_) (a' := ?_) #[true, true, true, true, true] rfl rfl (by kernel_rfl) (fun _ _ _ h => h) (Or.inl ⟨by rfl, ?_⟩) ?_ ?_
      rotate_left
      ·intro w'
       go_simp
       with_reducible rfl
      rotate_left
      ·simp only [Act.put, List.setIfInBounds_toArray, List.set_cons_zero, List.set_cons_succ, i64_w, i32_w]
       rfl
      refine done_ (by kernel_rfl) ?_
      have hcz45_0 : w44.cell? ⟨gb180, 0, none⟩ = some (.int .i64 t175) := (blk_cell BK180.out 0).trans rfl
      have hcz45_1 : w44.cell? ⟨gb180, 1, none⟩ = some (.int .i64 t176) := (blk_cell BK180.out 1).trans rfl
      have hcz45_2 : w44.cell? ⟨gb180, 2, none⟩ = some (.slice Ao37 t177.length co37) := (blk_cell BK180.out 2).trans rfl
      have hfz45_0 := blk_frozen BK180.out 0
      have hfz45_1 := blk_frozen BK180.out 1
      have hfz45_2 := blk_frozen BK180.out 2
      go_upto_region 18 with (first | ((with_reducible refine gate_callee (f := 35) rfl ?_); refine goesL_ (some 52) rfl rfl Try.func35 (by kernel_rfl) rfl #[.agg #[.int .i64 t175, .int .i64 t176, .slice Ao37 t177.length co37], .int .i64 1] rfl mA ?_; (with_reducible refine (laws_markManifest.calls k t175 t176 (fun k_ => some k_ = (.slice Ao37 t177.length co37 : Value).ownBlock) (.slice Ao37 t177.length co37) t177 1 t191 t192 w _ ?side1 ?side2 A23.out).mono ?_); (case side1 => repeat (first | (with_reducible first | exact HB.out | apply below_alloc | apply pw_below_drewN | apply below_drew1 | refine below_set ?_ GE165.out | refine below_set ?_ GE180.out) | exact HB.out)); (case side2 => exact Kd.R_tight rfl HO179.out); rintro e w46 ⟨rfl, hy0, hb, hkp⟩; refine ⟨_, rfl, ?_⟩; replace BK165 := mS (blk_kept (mK BK165.out) hkp (fun hs_ => (fun e_ => (Kd.R_ne HO179.out BK165.out (by decide)) e_) hs_)); replace HO171 := mS (Kd.R_mono (ok' := fun k_ => some k_ ≠ (.slice Ao37 t177.length co37 : Value).ownBlock ∧ some k_ ≠ (.slice Ao43 t187.length co43 : Value).ownBlock) (Kd.R_keptB (HO171.out) hkp (fun k_ hk_ hs_ => (hk_.1.2) hs_)) (fun k_ hk_ => ⟨hk_.1.1.2, hk_.1.2⟩)); replace HO174 := mS (Kd.R_mono (ok' := fun k_ => some k_ ≠ (.slice Ao39 t181.length co39 : Value).ownBlock) (Kd.R_keptB ((Kd.R_apart' HO174.out (Kd.R_typed HO179.out) (by decide))) hkp (fun k_ hk_ hs_ => (hk_.2) hs_)) (fun k_ hk_ => hk_.1.1.2)); replace BK180 := mS (blk_kept (mK BK180.out) hkp (fun hs_ => (fun e_ => (Kd.R_ne HO179.out BK180.out (by decide)) e_) hs_)); replace HO183 := mS (Kd.R_mono (ok' := fun k_ => some k_ ≠ (.slice Ao40 t172.length co40 : Value).ownBlock) (Kd.R_keptB ((Kd.R_apart' HO183.out (Kd.R_typed HO179.out) (by decide))) hkp (fun k_ hk_ hs_ => (hk_.2) hs_)) (fun k_ hk_ => hk_.1.1.2)); replace HO179 := mS (Kd.R_reok rfl hy0 (fun k_ e_ => HO179.out.1 k_ e_)); replace HO189 := mS (Kd.R_mono (ok' := fun k_ => some k_ ≠ (.slice Ao30 t169.length co30 : Value).ownBlock ∧ some k_ ≠ (.slice Ao37 t177.length co37 : Value).ownBlock) (Kd.R_keptB (HO189.out) hkp (fun k_ hk_ hs_ => (hk_.2) hs_)) (fun k_ hk_ => ⟨hk_.1.1.2, hk_.1.2⟩)); replace HB := mS (hb); (try clear hb); (try clear hkp); (try clear hy0)))
      (try simp only [Act.put, List.setIfInBounds_toArray, List.set_cons_zero, List.set_cons_succ])
      go_cut [60] (fun v60 wc => ∃ (kq : Nat) (x60_23 : Bool), v60 = .bool x60_23 ∧ Aside0 (laws_FnExactOverlap.j0 kq a1 a2 a3 t172 t181 x60_23 a0_0 a0_1 l0_2 = some r) ∧ Aside0 (kq ≤ k) ∧ Aside0 (Kd.R (Kd.int .i64) 3 wc w.heap.size (fun k_ => some k_ ≠ ((.slice Ao39 t181.length co39) : Value).ownBlock) (.slice Ao40 t172.length co40) t172) ∧ Aside0 (Kd.R (Kd.int .i64) 3 wc w.heap.size (fun k_ => some k_ ≠ ((.slice Ao40 t172.length co40) : Value).ownBlock) (.slice Ao39 t181.length co39) t181) ∧ Aside0 (Kd.R k134 134 wc w.heap.size (fun _ => True) (.slice Ao37 t177.length co37) t192) ∧ Aside0 (wc.heap[gb165]? = some (.cells #[.int .i64 a0_0, .int .i64 a0_1, (.slice A0_2 l0_2.length c0_2)] 56 (0, 0))) ∧ Aside0 (wc.heap[gb180]? = some (.cells #[.int .i64 t175, .int .i64 t176, (.slice Ao37 t177.length co37)] 61 (0, 0))) ∧ Aside0 (Below w.heap.size w wc))
      case first =>
       have H := HC24.out
       clear HC24
       by_cases c47 : t191 < 0
       ·rw [if_pos c47] at H
        have c47b0 : decide (t191 < 0) = true := decide_eq_true c47
        clear c47
        (first | rw [c47b0] | (simp only [i64_w, i32_w]; rw [c47b0]) | skip)
        have H' := mS H
        clear H
        go_wp2
        go_meet
        case rel => exact ⟨_, (true), (by first | rfl | (simp; done) | (simp [*]; done)), H', ⟨by first | omega | exact Nat.le_refl _⟩, ⟨by (with_reducible repeat (first | apply Kd.R_alloc | apply Kd.R_drewN | apply Kd.R_drew)); exact HO174.out⟩, ⟨by (with_reducible repeat (first | apply Kd.R_alloc | apply Kd.R_drewN | apply Kd.R_drew)); exact HO183.out⟩, ⟨by (with_reducible repeat (first | apply Kd.R_alloc | apply Kd.R_drewN | apply Kd.R_drew)); exact Kd.R_mono HO179.out (fun _ hk => trivial)⟩, ⟨by (with_reducible repeat (first | refine blk_drewN ?_ _ | refine blk_drew ?_ | refine blk_alloc ?_ _)); exact BK165.out⟩, ⟨by (with_reducible repeat (first | refine blk_drewN ?_ _ | refine blk_drew ?_ | refine blk_alloc ?_ _)); exact BK180.out⟩, ⟨(mH2 HB.out GE165.out GE180.out)⟩⟩
       ·rw [if_neg c47] at H
        have c47b0 : decide (t191 < 0) = false := decide_eq_false c47
        clear c47
        (first | rw [c47b0] | (simp only [i64_w, i32_w]; rw [c47b0]) | skip)
        replace H := Option.bind_eq_some_iff.mp H
        obtain ⟨t193, A480, H⟩ := H
        replace H : (laws_FnExactOverlap.j0 k a1 a2 a3 t172 t181 (!t193) a0_0 a0_1 l0_2) = some r := H
        have A48 := mS A480
        clear A480
        have H' := mS H
        clear H
        go_wp2_with (first | (go_at_call 33; (with_reducible refine (laws_eqIntS.calls k _ _ t181 _ _ t172 t193 _ ?side1 ?side2 ?side3 ?side4 A48.out).mono ?_); (case side1 => repeat (first | exact (Kd.R_reads' HO183.out).2.2 | (with_reducible refine Kd.C_alloc ?_ _) | (with_reducible refine Kd.C_drewN ?_ _) | (with_reducible refine Kd.C_drew ?_))); (case side2 => exact (Kd.R_reads' HO183.out).2.1); (case side3 => repeat (first | exact (Kd.R_reads' HO174.out).2.2 | (with_reducible refine Kd.C_alloc ?_ _) | (with_reducible refine Kd.C_drewN ?_ _) | (with_reducible refine Kd.C_drew ?_))); (case side4 => exact (Kd.R_reads' HO174.out).2.1); rintro e w' ⟨rfl, ⟨nd, rfl⟩⟩))
        go_meet
        case rel => exact ⟨_, (!t193), (by first | rfl | (simp; done) | (simp [*]; done)), H', ⟨by first | omega | exact Nat.le_refl _⟩, ⟨by (with_reducible repeat (first | apply Kd.R_alloc | apply Kd.R_drewN | apply Kd.R_drew)); exact HO174.out⟩, ⟨by (with_reducible repeat (first | apply Kd.R_alloc | apply Kd.R_drewN | apply Kd.R_drew)); exact HO183.out⟩, ⟨by (with_reducible repeat (first | apply Kd.R_alloc | apply Kd.R_drewN | apply Kd.R_drew)); exact Kd.R_mono HO179.out (fun _ hk => trivial)⟩, ⟨by (with_reducible repeat (first | refine blk_drewN ?_ _ | refine blk_drew ?_ | refine blk_alloc ?_ _)); exact BK165.out⟩, ⟨by (with_reducible repeat (first | refine blk_drewN ?_ _ | refine blk_drew ?_ | refine blk_alloc ?_ _)); exact BK180.out⟩, ⟨(mH2 HB.out GE165.out GE180.out)⟩⟩
      case rest =>
       clear HC24
       try clear c1
       try clear c2
       try clear p2
       try clear c3
       try clear c4
       try clear c5
       try clear c5b0
       try clear c5b1
       try clear c6
       try clear c7
       try clear c7b0
       try clear c7b1
       try clear c10
       try clear c10b0
       try clear c19
       try clear c22
       try clear c29
       try clear c30
       try clear c31
       try clear c32
       try clear c33
       try clear c34
       try clear c35
       try clear c47
       try clear c47b0
       try clear hcz12_0
       try clear hcz12_1
       try clear hcz12_2
       try clear hcz26_0
       try clear hcz26_1
       try clear hcz26_2
       try clear hcz28_0
       try clear hcz28_1
       try clear hcz28_2
       try clear hcz32_0
       try clear hcz32_1
       try clear hcz32_2
       try clear hcz36_0
       try clear hcz36_1
       try clear hcz36_2
       try clear hcz45_0
       try clear hcz45_1
       try clear hcz45_2
       try clear hfz12_0
       try clear hfz12_1
       try clear hfz12_2
       try clear hfz26_0
       try clear hfz26_1
       try clear hfz26_2
       try clear hfz28_0
       try clear hfz28_1
       try clear hfz28_2
       try clear hfz32_0
       try clear hfz32_1
       try clear hfz32_2
       try clear hfz36_0
       try clear hfz36_1
       try clear hfz36_2
       try clear hfz45_0
       try clear hfz45_1
       try clear hfz45_2
       obtain ⟨kq, x60_23, rfl, HA, HJ23, HO_10, HO_12, HO_181002, BK165, BK180, HB⟩ := hcut
       have hl181002_23 := (Kd.R_reads' HO_181002.out).1
       rw [hl181002_23] at HO_181002
       (try simp only [hl181002_23])
       (try simp only [hl181002_23] at BK165)
       (try simp only [hl181002_23] at BK180)
       (try simp only [hl181002_23] at HO_10)
       (try simp only [hl181002_23] at HO_12)
       cases kq with
       | zero => exact absurd HA.out (by simp [laws_FnExactOverlap.j0])
       | succ kj23 =>
        have H := HA.out
        clear HA
        simp only [laws_FnExactOverlap.j0] at H
        by_cases c49 : x60_23 = true
        ·subst c49
         have H1 : (some false) = some r := by rw [if_pos rfl] at H; exact H
         clear H
         have H := H1
         clear H1
         obtain rfl := Option.some.inj H
         go_wp2
         go_ret
         exact ⟨by first | rfl | (simp [errW_none, errW_some] <;> rfl) | (simp [*, errW_none, errW_some] <;> rfl), (mH2 HB.out GE165.out GE180.out)⟩
        ·replace c49 := Bool.eq_false_iff.mpr c49
         subst c49
         have H1 : ((laws_markIntS.f kj23 t181 1).bind fun bt194 => ((laws_heldIntS.f kj23 bt194.2 1).bind fun t196 => (if t196 < 0 then (some false) else (if t196 = bt194.1 then ((laws_toManifest.f kj23 a0_0 a0_1 l0_2).bind fun bt197 => ((impl_Overlap.f kj23 bt197.1 bt197.2.1 bt197.2.2 a1 a2 a3).bind fun t202 => ((laws_eqIntS.f kj23 t202 t172).bind fun t205 => (if t205 = true then ((laws_heldIntS.f kj23 bt194.2 1).bind fun t206 => (if t206 < 0 then (some false) else (if t206 = bt194.1 then (some true) else (some false)))) else (some false))))) else (some false))))) = some r := by rw [if_neg (show ¬ (false = true) by decide)] at H; exact H
         clear H
         have H := H1
         clear H1
         replace H := Option.bind_eq_some_iff.mp H
         obtain ⟨⟨t194, t195⟩, A500, H⟩ := H
         replace H : ((laws_heldIntS.f kj23 t195 1).bind fun t196 => (if t196 < 0 then (some false) else (if t196 = t194 then ((laws_toManifest.f kj23 a0_0 a0_1 l0_2).bind fun bt197 => ((impl_Overlap.f kj23 bt197.1 bt197.2.1 bt197.2.2 a1 a2 a3).bind fun t202 => ((laws_eqIntS.f kj23 t202 t172).bind fun t205 => (if t205 = true then ((laws_heldIntS.f kj23 t195 1).bind fun t206 => (if t206 < 0 then (some false) else (if t206 = t194 then (some true) else (some false)))) else (some false))))) else (some false)))) = some r := H
         have A50 := mS A500
         clear A500
         replace H := Option.bind_eq_some_iff.mp H
         obtain ⟨t196, A510, H⟩ := H
         replace H : (if t196 < 0 then (some false) else (if t196 = t194 then ((laws_toManifest.f kj23 a0_0 a0_1 l0_2).bind fun bt197 => ((impl_Overlap.f kj23 bt197.1 bt197.2.1 bt197.2.2 a1 a2 a3).bind fun t202 => ((laws_eqIntS.f kj23 t202 t172).bind fun t205 => (if t205 = true then ((laws_heldIntS.f kj23 t195 1).bind fun t206 => (if t206 < 0 then (some false) else (if t206 = t194 then (some true) else (some false)))) else (some false))))) else (some false))) = some r := H
         have A51 := mS A510
         clear A510
         by_cases c52 : t196 < 0
         ·rw [if_pos c52] at H
          have c52b0 : decide (t196 < 0) = true := decide_eq_true c52
          clear c52
          obtain rfl := Option.some.inj H
          go_wp2_with (first | ((with_reducible refine gate_callee (f := 36) rfl ?_); refine goesL_ (some 63) rfl rfl Try.func36 (by kernel_rfl) rfl #[.slice Ao39 t181.length co39, .int .i64 1] rfl mA ?_; (with_reducible refine (laws_markIntS.calls kj23 (fun k_ => some k_ = (.slice Ao39 t181.length co39 : Value).ownBlock) (.slice Ao39 t181.length co39) t181 1 t194 t195 w _ ?side1 ?side2 A50.out).mono ?_); (case side1 => repeat (first | (with_reducible first | exact HB.out | apply below_alloc | apply pw_below_drewN | apply below_drew1 | refine below_set ?_ GE165.out | refine below_set ?_ GE180.out) | exact HB.out)); (case side2 => exact Kd.R_tight rfl HO_12.out); rintro e w53 ⟨rfl, hy0, hb, hkp⟩; refine ⟨_, rfl, ?_⟩; replace HO_10 := mS (Kd.R_mono (ok' := fun k_ => some k_ ≠ (.slice Ao39 t181.length co39 : Value).ownBlock) (Kd.R_keptB (HO_10.out) hkp (fun k_ hk_ hs_ => (hk_) hs_)) (fun k_ hk_ => hk_.1)); replace HO_181002 := mS (Kd.R_mono (ok' := fun k_ => True) (Kd.R_keptB ((Kd.R_apart' HO_181002.out (Kd.R_typed HO_12.out) (by decide))) hkp (fun k_ hk_ hs_ => (hk_.2) hs_)) (fun k_ hk_ => trivial)); replace BK165 := mS (blk_kept (mK BK165.out) hkp (fun hs_ => (fun e_ => (Kd.R_ne HO_12.out BK165.out (by decide)) e_) hs_)); replace BK180 := mS (blk_kept (mK BK180.out) hkp (fun hs_ => (fun e_ => (Kd.R_ne HO_12.out BK180.out (by decide)) e_) hs_)); replace HO_12 := mS (Kd.R_reok rfl hy0 (fun k_ e_ => HO_12.out.1 k_ e_)); replace HB := mS (hb); (try clear hb); (try clear hkp); (try clear hy0)) | ((with_reducible refine gate_callee (f := 37) rfl ?_); refine goesL_ (some 66) rfl rfl Try.func37 (by kernel_rfl) rfl #[.slice Ao39 t195.length co39, .int .i64 1] rfl (by (try simp only [List.map_toArray, List.map_cons, List.map_nil]); first | done | (rw [show t195.length = t181.length from (Kd.R_reads' HO_12.out).1.symm] <;> rfl) | rfl | (simp only [List.length_drop, List.length_take]; rfl)) ?_; (with_reducible refine (laws_heldIntS.calls kj23 _ _ t195 1 t196 _ ?side1 ?side2 A51.out).mono ?_); (case side1 => repeat (first | exact (Kd.R_reads' HO_12.out).2.2 | (with_reducible refine Kd.C_alloc ?_ _) | (with_reducible refine Kd.C_drewN ?_ _) | (with_reducible refine Kd.C_drew ?_))); (case side2 => rw [show t195.length = t181.length from (Kd.R_reads' HO_12.out).1.symm]; exact (Kd.R_reads' HO_12.out).2.1); rintro e w' ⟨rfl, ⟨nd, rfl⟩⟩; refine ⟨_, rfl, ?_⟩))
          go_ret
          exact ⟨by first | rfl | (simp [errW_none, errW_some] <;> rfl) | (simp [*, errW_none, errW_some] <;> rfl), (mH2 HB.out GE165.out GE180.out)⟩
         ·rw [if_neg c52] at H
          have c52b0 : decide (t196 < 0) = false := decide_eq_false c52
          clear c52
          by_cases c54 : t196 = t194
          ·rw [if_pos c54] at H
           have c54b0 : (t196 == t194) = true := beq_iff_eq.mpr c54
           have c54b1 : (t196 != t194) = false := bne_eq_false_iff_eq.mpr c54
           clear c54
           replace H := Option.bind_eq_some_iff.mp H
           obtain ⟨⟨t197, t198, t199⟩, A550, H⟩ := H
           replace H : ((impl_Overlap.f kj23 t197 t198 t199 a1 a2 a3).bind fun t202 => ((laws_eqIntS.f kj23 t202 t172).bind fun t205 => (if t205 = true then ((laws_heldIntS.f kj23 t195 1).bind fun t206 => (if t206 < 0 then (some false) else (if t206 = t194 then (some true) else (some false)))) else (some false)))) = some r := H
           have A55 := mS A550
           clear A550
           replace H := Option.bind_eq_some_iff.mp H
           obtain ⟨t202, A560, H⟩ := H
           replace H : ((laws_eqIntS.f kj23 t202 t172).bind fun t205 => (if t205 = true then ((laws_heldIntS.f kj23 t195 1).bind fun t206 => (if t206 < 0 then (some false) else (if t206 = t194 then (some true) else (some false)))) else (some false))) = some r := H
           have A56 := mS A560
           clear A560
           replace H := Option.bind_eq_some_iff.mp H
           obtain ⟨t205, A570, H⟩ := H
           replace H : (if t205 = true then ((laws_heldIntS.f kj23 t195 1).bind fun t206 => (if t206 < 0 then (some false) else (if t206 = t194 then (some true) else (some false)))) else (some false)) = some r := H
           have A57 := mS A570
           clear A570
           by_cases c58 : t205 = true
           ·subst c58
            have H1 : ((laws_heldIntS.f kj23 t195 1).bind fun t206 => (if t206 < 0 then (some false) else (if t206 = t194 then (some true) else (some false)))) = some r := by rw [if_pos rfl] at H; exact H
            clear H
            have H := H1
            clear H1
            replace H := Option.bind_eq_some_iff.mp H
            obtain ⟨t206, A590, H⟩ := H
            replace H : (if t206 < 0 then (some false) else (if t206 = t194 then (some true) else (some false))) = some r := H
            have A59 := mS A590
            clear A590
            by_cases c60 : t206 < 0
            ·rw [if_pos c60] at H
             have c60b0 : decide (t206 < 0) = true := decide_eq_true c60
             clear c60
             obtain rfl := Option.some.inj H
             go_wp2_with (first | ((with_reducible refine gate_callee (f := 36) rfl ?_); refine goesL_ (some 63) rfl rfl Try.func36 (by kernel_rfl) rfl #[.slice Ao39 t181.length co39, .int .i64 1] rfl mA ?_; (with_reducible refine (laws_markIntS.calls kj23 (fun k_ => some k_ = (.slice Ao39 t181.length co39 : Value).ownBlock) (.slice Ao39 t181.length co39) t181 1 t194 t195 w _ ?side1 ?side2 A50.out).mono ?_); (case side1 => repeat (first | (with_reducible first | exact HB.out | apply below_alloc | apply pw_below_drewN | apply below_drew1 | refine below_set ?_ GE165.out | refine below_set ?_ GE180.out) | exact HB.out)); (case side2 => exact Kd.R_tight rfl HO_12.out); rintro e w61 ⟨rfl, hy0, hb, hkp⟩; refine ⟨_, rfl, ?_⟩; replace HO_10 := mS (Kd.R_mono (ok' := fun k_ => some k_ ≠ (.slice Ao39 t181.length co39 : Value).ownBlock) (Kd.R_keptB (HO_10.out) hkp (fun k_ hk_ hs_ => (hk_) hs_)) (fun k_ hk_ => hk_.1)); replace HO_181002 := mS (Kd.R_mono (ok' := fun k_ => True) (Kd.R_keptB ((Kd.R_apart' HO_181002.out (Kd.R_typed HO_12.out) (by decide))) hkp (fun k_ hk_ hs_ => (hk_.2) hs_)) (fun k_ hk_ => trivial)); replace BK165 := mS (blk_kept (mK BK165.out) hkp (fun hs_ => (fun e_ => (Kd.R_ne HO_12.out BK165.out (by decide)) e_) hs_)); replace BK180 := mS (blk_kept (mK BK180.out) hkp (fun hs_ => (fun e_ => (Kd.R_ne HO_12.out BK180.out (by decide)) e_) hs_)); replace HO_12 := mS (Kd.R_reok rfl hy0 (fun k_ e_ => HO_12.out.1 k_ e_)); replace HB := mS (hb); (try clear hb); (try clear hkp); (try clear hy0)) | ((with_reducible refine gate_callee (f := 37) rfl ?_); refine goesL_ (some 66) rfl rfl Try.func37 (by kernel_rfl) rfl #[.slice Ao39 t195.length co39, .int .i64 1] rfl (by (try simp only [List.map_toArray, List.map_cons, List.map_nil]); first | done | (rw [show t195.length = t181.length from (Kd.R_reads' HO_12.out).1.symm] <;> rfl) | rfl | (simp only [List.length_drop, List.length_take]; rfl)) ?_; (with_reducible refine (laws_heldIntS.calls kj23 _ _ t195 1 t196 _ ?side1 ?side2 A51.out).mono ?_); (case side1 => repeat (first | exact (Kd.R_reads' HO_12.out).2.2 | (with_reducible refine Kd.C_alloc ?_ _) | (with_reducible refine Kd.C_drewN ?_ _) | (with_reducible refine Kd.C_drew ?_))); (case side2 => rw [show t195.length = t181.length from (Kd.R_reads' HO_12.out).1.symm]; exact (Kd.R_reads' HO_12.out).2.1); rintro e w' ⟨rfl, ⟨nd, rfl⟩⟩; refine ⟨_, rfl, ?_⟩; have hnb62 := NB165_180.out; have hnc62 := NB180_165.out; have hcz63_0 : w61.cell? ⟨gb165, 0, none⟩ = some (.int .i64 a0_0) := (blk_cell BK165.out 0).trans rfl; have hcz63_1 : w61.cell? ⟨gb165, 1, none⟩ = some (.int .i64 a0_1) := (blk_cell BK165.out 1).trans rfl; have hcz63_2 : w61.cell? ⟨gb165, 2, none⟩ = some (.slice A0_2 l0_2.length c0_2) := (blk_cell BK165.out 2).trans rfl; have hfz63_0 := blk_frozen BK165.out 0; have hfz63_1 := blk_frozen BK165.out 1; have hfz63_2 := blk_frozen BK165.out 2) | ((with_reducible refine gate_callee (f := 31) rfl ?_); refine goesL_ (some 73) rfl rfl Try.func31 (by kernel_rfl) rfl #[.agg #[.int .i64 a0_0, .int .i64 a0_1, .slice A0_2 l0_2.length c0_2]] rfl mA ?_; (with_reducible refine (laws_toManifest.calls kj23 a0_0 a0_1 _ _ l0_2 t197 t198 t199 _ ?side1 ?side2 A55.out).mono ?_); (case side1 => repeat (first | exact (Kd.C_below HR0_2.out (mH2 HB.out GE165.out GE180.out)) | (with_reducible refine Kd.C_alloc ?_ _) | (with_reducible refine Kd.C_drewN ?_ _) | (with_reducible refine Kd.C_drew ?_))); (case side2 => exact HC0_2.out); rintro e w64 ⟨v200, rfl, ho0, hb⟩; refine ⟨_, rfl, ?_⟩; replace HO_10 := mS (Kd.R_below (mR HO_10.out) hb); replace HO_12 := mS (Kd.R_below (mR HO_12.out) hb); have HO201 := mS (Kd.R_lower (Kd.R_new' ho0 (Kd.R_lt (mR HO_181002.out))) (below_size (mH2 HB.out GE165.out GE180.out))); replace HO_181002 := mS (Kd.R_elder' (mR HO_181002.out) (Kd.R_base ho0) hb); replace BK165 := mB BK165 hb; replace BK180 := mB BK180 hb; replace HB := mS (below_step (mH2 HB.out GE165.out GE180.out) hb); (try clear hb); (try clear hb2); (try clear hk); (try clear hi); (try clear ho0); obtain ⟨Ao65, co65, eo65⟩ := Kd.R_slice HO201.out; subst eo65) | ((with_reducible refine gate_callee (f := 32) rfl ?_); refine goesL_ (some 77) rfl rfl Try.func32 (by kernel_rfl) rfl #[.agg #[.int .i64 t197, .int .i64 t198, .slice Ao65 t199.length co65], .int .i64 a1, .string a2, .string a3] rfl mA ?_; (with_reducible refine (impl_Overlap.calls kj23 t197 t198 _ _ t199 a1 a2 a3 t202 _ ?side1 ?side2 A56.out).mono ?_); (case side1 => repeat (first | exact (Kd.R_reads' HO201.out).2.2 | (with_reducible refine Kd.C_alloc ?_ _) | (with_reducible refine Kd.C_drewN ?_ _) | (with_reducible refine Kd.C_drew ?_))); (case side2 => exact (Kd.R_reads' HO201.out).2.1); rintro e w66 ⟨v203, rfl, ho0, hb⟩; refine ⟨_, rfl, ?_⟩; replace HO_181002 := mS (Kd.R_below (mR HO_181002.out) hb); replace HO201 := mS (Kd.R_below (mR HO201.out) hb); have HO204 := mS (Kd.R_lower (Kd.R_new' (Kd.R_new' ho0 (Kd.R_lt (mR HO_10.out))) (Kd.R_lt (mR HO_12.out))) (below_size (mH2 HB.out GE165.out GE180.out))); replace HO_10 := mS (Kd.R_elder' (mR HO_10.out) (Kd.R_base ho0) hb); replace HO_12 := mS (Kd.R_elder' (mR HO_12.out) (Kd.R_base ho0) hb); replace BK165 := mB BK165 hb; replace BK180 := mB BK180 hb; replace HB := mS (below_step (mH2 HB.out GE165.out GE180.out) hb); (try clear hb); (try clear hb2); (try clear hk); (try clear hi); (try clear ho0); obtain ⟨Ao67, co67, eo67⟩ := Kd.R_slice HO204.out; subst eo67) | ((with_reducible refine gate_callee (f := 33) rfl ?_); refine goesL_ (some 80) rfl rfl Try.func33 (by kernel_rfl) rfl #[.slice Ao67 t202.length co67, .slice Ao40 t172.length co40] rfl mA ?_; (with_reducible refine (laws_eqIntS.calls kj23 _ _ t202 _ _ t172 true _ ?side1 ?side2 ?side3 ?side4 A57.out).mono ?_); (case side1 => repeat (first | exact (Kd.R_reads' HO204.out).2.2 | (with_reducible refine Kd.C_alloc ?_ _) | (with_reducible refine Kd.C_drewN ?_ _) | (with_reducible refine Kd.C_drew ?_))); (case side2 => exact (Kd.R_reads' HO204.out).2.1); (case side3 => repeat (first | exact (Kd.R_reads' HO_10.out).2.2 | (with_reducible refine Kd.C_alloc ?_ _) | (with_reducible refine Kd.C_drewN ?_ _) | (with_reducible refine Kd.C_drew ?_))); (case side4 => exact (Kd.R_reads' HO_10.out).2.1); rintro e w' ⟨rfl, ⟨nd, rfl⟩⟩; refine ⟨_, rfl, ?_⟩) | ((with_reducible refine gate_callee (f := 37) rfl ?_); refine goesL_ (some 84) rfl rfl Try.func37 (by kernel_rfl) rfl #[.slice Ao39 t195.length co39, .int .i64 1] rfl (by (try simp only [List.map_toArray, List.map_cons, List.map_nil]); first | done | (rw [show t195.length = t181.length from (Kd.R_reads' HO_12.out).1.symm] <;> rfl) | rfl | (simp only [List.length_drop, List.length_take]; rfl)) ?_; (with_reducible refine (laws_heldIntS.calls kj23 _ _ t195 1 t206 _ ?side1 ?side2 A59.out).mono ?_); (case side1 => repeat (first | exact (Kd.R_reads' HO_12.out).2.2 | (with_reducible refine Kd.C_alloc ?_ _) | (with_reducible refine Kd.C_drewN ?_ _) | (with_reducible refine Kd.C_drew ?_))); (case side2 => rw [show t195.length = t181.length from (Kd.R_reads' HO_12.out).1.symm]; exact (Kd.R_reads' HO_12.out).2.1); rintro e w' ⟨rfl, ⟨nd, rfl⟩⟩; refine ⟨_, rfl, ?_⟩))
             go_ret
             exact ⟨by first | rfl | (simp [errW_none, errW_some] <;> rfl) | (simp [*, errW_none, errW_some] <;> rfl), (mH2 HB.out GE165.out GE180.out)⟩
            ·rw [if_neg c60] at H
             have c60b0 : decide (t206 < 0) = false := decide_eq_false c60
             clear c60
             by_cases c68 : t206 = t194
             ·rw [if_pos c68] at H
              have c68b0 : (t206 == t194) = true := beq_iff_eq.mpr c68
              have c68b1 : (t206 != t194) = false := bne_eq_false_iff_eq.mpr c68
              clear c68
              obtain rfl := Option.some.inj H
              go_wp2_with (first | ((with_reducible refine gate_callee (f := 36) rfl ?_); refine goesL_ (some 63) rfl rfl Try.func36 (by kernel_rfl) rfl #[.slice Ao39 t181.length co39, .int .i64 1] rfl mA ?_; (with_reducible refine (laws_markIntS.calls kj23 (fun k_ => some k_ = (.slice Ao39 t181.length co39 : Value).ownBlock) (.slice Ao39 t181.length co39) t181 1 t194 t195 w _ ?side1 ?side2 A50.out).mono ?_); (case side1 => repeat (first | (with_reducible first | exact HB.out | apply below_alloc | apply pw_below_drewN | apply below_drew1 | refine below_set ?_ GE165.out | refine below_set ?_ GE180.out) | exact HB.out)); (case side2 => exact Kd.R_tight rfl HO_12.out); rintro e w69 ⟨rfl, hy0, hb, hkp⟩; refine ⟨_, rfl, ?_⟩; replace HO_10 := mS (Kd.R_mono (ok' := fun k_ => some k_ ≠ (.slice Ao39 t181.length co39 : Value).ownBlock) (Kd.R_keptB (HO_10.out) hkp (fun k_ hk_ hs_ => (hk_) hs_)) (fun k_ hk_ => hk_.1)); replace HO_181002 := mS (Kd.R_mono (ok' := fun k_ => True) (Kd.R_keptB ((Kd.R_apart' HO_181002.out (Kd.R_typed HO_12.out) (by decide))) hkp (fun k_ hk_ hs_ => (hk_.2) hs_)) (fun k_ hk_ => trivial)); replace BK165 := mS (blk_kept (mK BK165.out) hkp (fun hs_ => (fun e_ => (Kd.R_ne HO_12.out BK165.out (by decide)) e_) hs_)); replace BK180 := mS (blk_kept (mK BK180.out) hkp (fun hs_ => (fun e_ => (Kd.R_ne HO_12.out BK180.out (by decide)) e_) hs_)); replace HO_12 := mS (Kd.R_reok rfl hy0 (fun k_ e_ => HO_12.out.1 k_ e_)); replace HB := mS (hb); (try clear hb); (try clear hkp); (try clear hy0)) | ((with_reducible refine gate_callee (f := 37) rfl ?_); refine goesL_ (some 66) rfl rfl Try.func37 (by kernel_rfl) rfl #[.slice Ao39 t195.length co39, .int .i64 1] rfl (by (try simp only [List.map_toArray, List.map_cons, List.map_nil]); first | done | (rw [show t195.length = t181.length from (Kd.R_reads' HO_12.out).1.symm] <;> rfl) | rfl | (simp only [List.length_drop, List.length_take]; rfl)) ?_; (with_reducible refine (laws_heldIntS.calls kj23 _ _ t195 1 t196 _ ?side1 ?side2 A51.out).mono ?_); (case side1 => repeat (first | exact (Kd.R_reads' HO_12.out).2.2 | (with_reducible refine Kd.C_alloc ?_ _) | (with_reducible refine Kd.C_drewN ?_ _) | (with_reducible refine Kd.C_drew ?_))); (case side2 => rw [show t195.length = t181.length from (Kd.R_reads' HO_12.out).1.symm]; exact (Kd.R_reads' HO_12.out).2.1); rintro e w' ⟨rfl, ⟨nd, rfl⟩⟩; refine ⟨_, rfl, ?_⟩; have hnb70 := NB165_180.out; have hnc70 := NB180_165.out; have hcz71_0 : w69.cell? ⟨gb165, 0, none⟩ = some (.int .i64 a0_0) := (blk_cell BK165.out 0).trans rfl; have hcz71_1 : w69.cell? ⟨gb165, 1, none⟩ = some (.int .i64 a0_1) := (blk_cell BK165.out 1).trans rfl; have hcz71_2 : w69.cell? ⟨gb165, 2, none⟩ = some (.slice A0_2 l0_2.length c0_2) := (blk_cell BK165.out 2).trans rfl; have hfz71_0 := blk_frozen BK165.out 0; have hfz71_1 := blk_frozen BK165.out 1; have hfz71_2 := blk_frozen BK165.out 2) | ((with_reducible refine gate_callee (f := 31) rfl ?_); refine goesL_ (some 73) rfl rfl Try.func31 (by kernel_rfl) rfl #[.agg #[.int .i64 a0_0, .int .i64 a0_1, .slice A0_2 l0_2.length c0_2]] rfl mA ?_; (with_reducible refine (laws_toManifest.calls kj23 a0_0 a0_1 _ _ l0_2 t197 t198 t199 _ ?side1 ?side2 A55.out).mono ?_); (case side1 => repeat (first | exact (Kd.C_below HR0_2.out (mH2 HB.out GE165.out GE180.out)) | (with_reducible refine Kd.C_alloc ?_ _) | (with_reducible refine Kd.C_drewN ?_ _) | (with_reducible refine Kd.C_drew ?_))); (case side2 => exact HC0_2.out); rintro e w72 ⟨v200, rfl, ho0, hb⟩; refine ⟨_, rfl, ?_⟩; replace HO_10 := mS (Kd.R_below (mR HO_10.out) hb); replace HO_12 := mS (Kd.R_below (mR HO_12.out) hb); have HO201 := mS (Kd.R_lower (Kd.R_new' ho0 (Kd.R_lt (mR HO_181002.out))) (below_size (mH2 HB.out GE165.out GE180.out))); replace HO_181002 := mS (Kd.R_elder' (mR HO_181002.out) (Kd.R_base ho0) hb); replace BK165 := mB BK165 hb; replace BK180 := mB BK180 hb; replace HB := mS (below_step (mH2 HB.out GE165.out GE180.out) hb); (try clear hb); (try clear hb2); (try clear hk); (try clear hi); (try clear ho0); obtain ⟨Ao73, co73, eo73⟩ := Kd.R_slice HO201.out; subst eo73) | ((with_reducible refine gate_callee (f := 32) rfl ?_); refine goesL_ (some 77) rfl rfl Try.func32 (by kernel_rfl) rfl #[.agg #[.int .i64 t197, .int .i64 t198, .slice Ao73 t199.length co73], .int .i64 a1, .string a2, .string a3] rfl mA ?_; (with_reducible refine (impl_Overlap.calls kj23 t197 t198 _ _ t199 a1 a2 a3 t202 _ ?side1 ?side2 A56.out).mono ?_); (case side1 => repeat (first | exact (Kd.R_reads' HO201.out).2.2 | (with_reducible refine Kd.C_alloc ?_ _) | (with_reducible refine Kd.C_drewN ?_ _) | (with_reducible refine Kd.C_drew ?_))); (case side2 => exact (Kd.R_reads' HO201.out).2.1); rintro e w74 ⟨v203, rfl, ho0, hb⟩; refine ⟨_, rfl, ?_⟩; replace HO_181002 := mS (Kd.R_below (mR HO_181002.out) hb); replace HO201 := mS (Kd.R_below (mR HO201.out) hb); have HO204 := mS (Kd.R_lower (Kd.R_new' (Kd.R_new' ho0 (Kd.R_lt (mR HO_10.out))) (Kd.R_lt (mR HO_12.out))) (below_size (mH2 HB.out GE165.out GE180.out))); replace HO_10 := mS (Kd.R_elder' (mR HO_10.out) (Kd.R_base ho0) hb); replace HO_12 := mS (Kd.R_elder' (mR HO_12.out) (Kd.R_base ho0) hb); replace BK165 := mB BK165 hb; replace BK180 := mB BK180 hb; replace HB := mS (below_step (mH2 HB.out GE165.out GE180.out) hb); (try clear hb); (try clear hb2); (try clear hk); (try clear hi); (try clear ho0); obtain ⟨Ao75, co75, eo75⟩ := Kd.R_slice HO204.out; subst eo75) | ((with_reducible refine gate_callee (f := 33) rfl ?_); refine goesL_ (some 80) rfl rfl Try.func33 (by kernel_rfl) rfl #[.slice Ao75 t202.length co75, .slice Ao40 t172.length co40] rfl mA ?_; (with_reducible refine (laws_eqIntS.calls kj23 _ _ t202 _ _ t172 true _ ?side1 ?side2 ?side3 ?side4 A57.out).mono ?_); (case side1 => repeat (first | exact (Kd.R_reads' HO204.out).2.2 | (with_reducible refine Kd.C_alloc ?_ _) | (with_reducible refine Kd.C_drewN ?_ _) | (with_reducible refine Kd.C_drew ?_))); (case side2 => exact (Kd.R_reads' HO204.out).2.1); (case side3 => repeat (first | exact (Kd.R_reads' HO_10.out).2.2 | (with_reducible refine Kd.C_alloc ?_ _) | (with_reducible refine Kd.C_drewN ?_ _) | (with_reducible refine Kd.C_drew ?_))); (case side4 => exact (Kd.R_reads' HO_10.out).2.1); rintro e w' ⟨rfl, ⟨nd, rfl⟩⟩; refine ⟨_, rfl, ?_⟩) | ((with_reducible refine gate_callee (f := 37) rfl ?_); refine goesL_ (some 84) rfl rfl Try.func37 (by kernel_rfl) rfl #[.slice Ao39 t195.length co39, .int .i64 1] rfl (by (try simp only [List.map_toArray, List.map_cons, List.map_nil]); first | done | (rw [show t195.length = t181.length from (Kd.R_reads' HO_12.out).1.symm] <;> rfl) | rfl | (simp only [List.length_drop, List.length_take]; rfl)) ?_; (with_reducible refine (laws_heldIntS.calls kj23 _ _ t195 1 t206 _ ?side1 ?side2 A59.out).mono ?_); (case side1 => repeat (first | exact (Kd.R_reads' HO_12.out).2.2 | (with_reducible refine Kd.C_alloc ?_ _) | (with_reducible refine Kd.C_drewN ?_ _) | (with_reducible refine Kd.C_drew ?_))); (case side2 => rw [show t195.length = t181.length from (Kd.R_reads' HO_12.out).1.symm]; exact (Kd.R_reads' HO_12.out).2.1); rintro e w' ⟨rfl, ⟨nd, rfl⟩⟩; refine ⟨_, rfl, ?_⟩))
              go_ret
              exact ⟨by first | rfl | (simp [errW_none, errW_some] <;> rfl) | (simp [*, errW_none, errW_some] <;> rfl), (mH2 HB.out GE165.out GE180.out)⟩
             ·rw [if_neg c68] at H
              have c68b0 : (t206 == t194) = false := beq_eq_false_iff_ne.mpr c68
              have c68b1 : (t206 != t194) = true := bne_iff_ne.mpr c68
              obtain rfl := Option.some.inj H
              go_wp2_with (first | ((with_reducible refine gate_callee (f := 36) rfl ?_); refine goesL_ (some 63) rfl rfl Try.func36 (by kernel_rfl) rfl #[.slice Ao39 t181.length co39, .int .i64 1] rfl mA ?_; (with_reducible refine (laws_markIntS.calls kj23 (fun k_ => some k_ = (.slice Ao39 t181.length co39 : Value).ownBlock) (.slice Ao39 t181.length co39) t181 1 t194 t195 w _ ?side1 ?side2 A50.out).mono ?_); (case side1 => repeat (first | (with_reducible first | exact HB.out | apply below_alloc | apply pw_below_drewN | apply below_drew1 | refine below_set ?_ GE165.out | refine below_set ?_ GE180.out) | exact HB.out)); (case side2 => exact Kd.R_tight rfl HO_12.out); rintro e w76 ⟨rfl, hy0, hb, hkp⟩; refine ⟨_, rfl, ?_⟩; replace HO_10 := mS (Kd.R_mono (ok' := fun k_ => some k_ ≠ (.slice Ao39 t181.length co39 : Value).ownBlock) (Kd.R_keptB (HO_10.out) hkp (fun k_ hk_ hs_ => (hk_) hs_)) (fun k_ hk_ => hk_.1)); replace HO_181002 := mS (Kd.R_mono (ok' := fun k_ => True) (Kd.R_keptB ((Kd.R_apart' HO_181002.out (Kd.R_typed HO_12.out) (by decide))) hkp (fun k_ hk_ hs_ => (hk_.2) hs_)) (fun k_ hk_ => trivial)); replace BK165 := mS (blk_kept (mK BK165.out) hkp (fun hs_ => (fun e_ => (Kd.R_ne HO_12.out BK165.out (by decide)) e_) hs_)); replace BK180 := mS (blk_kept (mK BK180.out) hkp (fun hs_ => (fun e_ => (Kd.R_ne HO_12.out BK180.out (by decide)) e_) hs_)); replace HO_12 := mS (Kd.R_reok rfl hy0 (fun k_ e_ => HO_12.out.1 k_ e_)); replace HB := mS (hb); (try clear hb); (try clear hkp); (try clear hy0)) | ((with_reducible refine gate_callee (f := 37) rfl ?_); refine goesL_ (some 66) rfl rfl Try.func37 (by kernel_rfl) rfl #[.slice Ao39 t195.length co39, .int .i64 1] rfl (by (try simp only [List.map_toArray, List.map_cons, List.map_nil]); first | done | (rw [show t195.length = t181.length from (Kd.R_reads' HO_12.out).1.symm] <;> rfl) | rfl | (simp only [List.length_drop, List.length_take]; rfl)) ?_; (with_reducible refine (laws_heldIntS.calls kj23 _ _ t195 1 t196 _ ?side1 ?side2 A51.out).mono ?_); (case side1 => repeat (first | exact (Kd.R_reads' HO_12.out).2.2 | (with_reducible refine Kd.C_alloc ?_ _) | (with_reducible refine Kd.C_drewN ?_ _) | (with_reducible refine Kd.C_drew ?_))); (case side2 => rw [show t195.length = t181.length from (Kd.R_reads' HO_12.out).1.symm]; exact (Kd.R_reads' HO_12.out).2.1); rintro e w' ⟨rfl, ⟨nd, rfl⟩⟩; refine ⟨_, rfl, ?_⟩; have hnb77 := NB165_180.out; have hnc77 := NB180_165.out; have hcz78_0 : w76.cell? ⟨gb165, 0, none⟩ = some (.int .i64 a0_0) := (blk_cell BK165.out 0).trans rfl; have hcz78_1 : w76.cell? ⟨gb165, 1, none⟩ = some (.int .i64 a0_1) := (blk_cell BK165.out 1).trans rfl; have hcz78_2 : w76.cell? ⟨gb165, 2, none⟩ = some (.slice A0_2 l0_2.length c0_2) := (blk_cell BK165.out 2).trans rfl; have hfz78_0 := blk_frozen BK165.out 0; have hfz78_1 := blk_frozen BK165.out 1; have hfz78_2 := blk_frozen BK165.out 2) | ((with_reducible refine gate_callee (f := 31) rfl ?_); refine goesL_ (some 73) rfl rfl Try.func31 (by kernel_rfl) rfl #[.agg #[.int .i64 a0_0, .int .i64 a0_1, .slice A0_2 l0_2.length c0_2]] rfl mA ?_; (with_reducible refine (laws_toManifest.calls kj23 a0_0 a0_1 _ _ l0_2 t197 t198 t199 _ ?side1 ?side2 A55.out).mono ?_); (case side1 => repeat (first | exact (Kd.C_below HR0_2.out (mH2 HB.out GE165.out GE180.out)) | (with_reducible refine Kd.C_alloc ?_ _) | (with_reducible refine Kd.C_drewN ?_ _) | (with_reducible refine Kd.C_drew ?_))); (case side2 => exact HC0_2.out); rintro e w79 ⟨v200, rfl, ho0, hb⟩; refine ⟨_, rfl, ?_⟩; replace HO_10 := mS (Kd.R_below (mR HO_10.out) hb); replace HO_12 := mS (Kd.R_below (mR HO_12.out) hb); have HO201 := mS (Kd.R_lower (Kd.R_new' ho0 (Kd.R_lt (mR HO_181002.out))) (below_size (mH2 HB.out GE165.out GE180.out))); replace HO_181002 := mS (Kd.R_elder' (mR HO_181002.out) (Kd.R_base ho0) hb); replace BK165 := mB BK165 hb; replace BK180 := mB BK180 hb; replace HB := mS (below_step (mH2 HB.out GE165.out GE180.out) hb); (try clear hb); (try clear hb2); (try clear hk); (try clear hi); (try clear ho0); obtain ⟨Ao80, co80, eo80⟩ := Kd.R_slice HO201.out; subst eo80) | ((with_reducible refine gate_callee (f := 32) rfl ?_); refine goesL_ (some 77) rfl rfl Try.func32 (by kernel_rfl) rfl #[.agg #[.int .i64 t197, .int .i64 t198, .slice Ao80 t199.length co80], .int .i64 a1, .string a2, .string a3] rfl mA ?_; (with_reducible refine (impl_Overlap.calls kj23 t197 t198 _ _ t199 a1 a2 a3 t202 _ ?side1 ?side2 A56.out).mono ?_); (case side1 => repeat (first | exact (Kd.R_reads' HO201.out).2.2 | (with_reducible refine Kd.C_alloc ?_ _) | (with_reducible refine Kd.C_drewN ?_ _) | (with_reducible refine Kd.C_drew ?_))); (case side2 => exact (Kd.R_reads' HO201.out).2.1); rintro e w81 ⟨v203, rfl, ho0, hb⟩; refine ⟨_, rfl, ?_⟩; replace HO_181002 := mS (Kd.R_below (mR HO_181002.out) hb); replace HO201 := mS (Kd.R_below (mR HO201.out) hb); have HO204 := mS (Kd.R_lower (Kd.R_new' (Kd.R_new' ho0 (Kd.R_lt (mR HO_10.out))) (Kd.R_lt (mR HO_12.out))) (below_size (mH2 HB.out GE165.out GE180.out))); replace HO_10 := mS (Kd.R_elder' (mR HO_10.out) (Kd.R_base ho0) hb); replace HO_12 := mS (Kd.R_elder' (mR HO_12.out) (Kd.R_base ho0) hb); replace BK165 := mB BK165 hb; replace BK180 := mB BK180 hb; replace HB := mS (below_step (mH2 HB.out GE165.out GE180.out) hb); (try clear hb); (try clear hb2); (try clear hk); (try clear hi); (try clear ho0); obtain ⟨Ao82, co82, eo82⟩ := Kd.R_slice HO204.out; subst eo82) | ((with_reducible refine gate_callee (f := 33) rfl ?_); refine goesL_ (some 80) rfl rfl Try.func33 (by kernel_rfl) rfl #[.slice Ao82 t202.length co82, .slice Ao40 t172.length co40] rfl mA ?_; (with_reducible refine (laws_eqIntS.calls kj23 _ _ t202 _ _ t172 true _ ?side1 ?side2 ?side3 ?side4 A57.out).mono ?_); (case side1 => repeat (first | exact (Kd.R_reads' HO204.out).2.2 | (with_reducible refine Kd.C_alloc ?_ _) | (with_reducible refine Kd.C_drewN ?_ _) | (with_reducible refine Kd.C_drew ?_))); (case side2 => exact (Kd.R_reads' HO204.out).2.1); (case side3 => repeat (first | exact (Kd.R_reads' HO_10.out).2.2 | (with_reducible refine Kd.C_alloc ?_ _) | (with_reducible refine Kd.C_drewN ?_ _) | (with_reducible refine Kd.C_drew ?_))); (case side4 => exact (Kd.R_reads' HO_10.out).2.1); rintro e w' ⟨rfl, ⟨nd, rfl⟩⟩; refine ⟨_, rfl, ?_⟩) | ((with_reducible refine gate_callee (f := 37) rfl ?_); refine goesL_ (some 84) rfl rfl Try.func37 (by kernel_rfl) rfl #[.slice Ao39 t195.length co39, .int .i64 1] rfl (by (try simp only [List.map_toArray, List.map_cons, List.map_nil]); first | done | (rw [show t195.length = t181.length from (Kd.R_reads' HO_12.out).1.symm] <;> rfl) | rfl | (simp only [List.length_drop, List.length_take]; rfl)) ?_; (with_reducible refine (laws_heldIntS.calls kj23 _ _ t195 1 t206 _ ?side1 ?side2 A59.out).mono ?_); (case side1 => repeat (first | exact (Kd.R_reads' HO_12.out).2.2 | (with_reducible refine Kd.C_alloc ?_ _) | (with_reducible refine Kd.C_drewN ?_ _) | (with_reducible refine Kd.C_drew ?_))); (case side2 => rw [show t195.length = t181.length from (Kd.R_reads' HO_12.out).1.symm]; exact (Kd.R_reads' HO_12.out).2.1); rintro e w' ⟨rfl, ⟨nd, rfl⟩⟩; refine ⟨_, rfl, ?_⟩))
              go_ret
              exact ⟨by first | rfl | (simp [errW_none, errW_some] <;> rfl) | (simp [*, errW_none, errW_some] <;> rfl), (mH2 HB.out GE165.out GE180.out)⟩
           ·replace c58 := Bool.eq_false_iff.mpr c58
            subst c58
            have H1 : (some false) = some r := by rw [if_neg (show ¬ (false = true) by decide)] at H; exact H
            clear H
            have H := H1
            clear H1
            obtain rfl := Option.some.inj H
            go_wp2_with (first | ((with_reducible refine gate_callee (f := 36) rfl ?_); refine goesL_ (some 63) rfl rfl Try.func36 (by kernel_rfl) rfl #[.slice Ao39 t181.length co39, .int .i64 1] rfl mA ?_; (with_reducible refine (laws_markIntS.calls kj23 (fun k_ => some k_ = (.slice Ao39 t181.length co39 : Value).ownBlock) (.slice Ao39 t181.length co39) t181 1 t194 t195 w _ ?side1 ?side2 A50.out).mono ?_); (case side1 => repeat (first | (with_reducible first | exact HB.out | apply below_alloc | apply pw_below_drewN | apply below_drew1 | refine below_set ?_ GE165.out | refine below_set ?_ GE180.out) | exact HB.out)); (case side2 => exact Kd.R_tight rfl HO_12.out); rintro e w83 ⟨rfl, hy0, hb, hkp⟩; refine ⟨_, rfl, ?_⟩; replace HO_10 := mS (Kd.R_mono (ok' := fun k_ => some k_ ≠ (.slice Ao39 t181.length co39 : Value).ownBlock) (Kd.R_keptB (HO_10.out) hkp (fun k_ hk_ hs_ => (hk_) hs_)) (fun k_ hk_ => hk_.1)); replace HO_181002 := mS (Kd.R_mono (ok' := fun k_ => True) (Kd.R_keptB ((Kd.R_apart' HO_181002.out (Kd.R_typed HO_12.out) (by decide))) hkp (fun k_ hk_ hs_ => (hk_.2) hs_)) (fun k_ hk_ => trivial)); replace BK165 := mS (blk_kept (mK BK165.out) hkp (fun hs_ => (fun e_ => (Kd.R_ne HO_12.out BK165.out (by decide)) e_) hs_)); replace BK180 := mS (blk_kept (mK BK180.out) hkp (fun hs_ => (fun e_ => (Kd.R_ne HO_12.out BK180.out (by decide)) e_) hs_)); replace HO_12 := mS (Kd.R_reok rfl hy0 (fun k_ e_ => HO_12.out.1 k_ e_)); replace HB := mS (hb); (try clear hb); (try clear hkp); (try clear hy0)) | ((with_reducible refine gate_callee (f := 37) rfl ?_); refine goesL_ (some 66) rfl rfl Try.func37 (by kernel_rfl) rfl #[.slice Ao39 t195.length co39, .int .i64 1] rfl (by (try simp only [List.map_toArray, List.map_cons, List.map_nil]); first | done | (rw [show t195.length = t181.length from (Kd.R_reads' HO_12.out).1.symm] <;> rfl) | rfl | (simp only [List.length_drop, List.length_take]; rfl)) ?_; (with_reducible refine (laws_heldIntS.calls kj23 _ _ t195 1 t196 _ ?side1 ?side2 A51.out).mono ?_); (case side1 => repeat (first | exact (Kd.R_reads' HO_12.out).2.2 | (with_reducible refine Kd.C_alloc ?_ _) | (with_reducible refine Kd.C_drewN ?_ _) | (with_reducible refine Kd.C_drew ?_))); (case side2 => rw [show t195.length = t181.length from (Kd.R_reads' HO_12.out).1.symm]; exact (Kd.R_reads' HO_12.out).2.1); rintro e w' ⟨rfl, ⟨nd, rfl⟩⟩; refine ⟨_, rfl, ?_⟩; have hnb84 := NB165_180.out; have hnc84 := NB180_165.out; have hcz85_0 : w83.cell? ⟨gb165, 0, none⟩ = some (.int .i64 a0_0) := (blk_cell BK165.out 0).trans rfl; have hcz85_1 : w83.cell? ⟨gb165, 1, none⟩ = some (.int .i64 a0_1) := (blk_cell BK165.out 1).trans rfl; have hcz85_2 : w83.cell? ⟨gb165, 2, none⟩ = some (.slice A0_2 l0_2.length c0_2) := (blk_cell BK165.out 2).trans rfl; have hfz85_0 := blk_frozen BK165.out 0; have hfz85_1 := blk_frozen BK165.out 1; have hfz85_2 := blk_frozen BK165.out 2) | ((with_reducible refine gate_callee (f := 31) rfl ?_); refine goesL_ (some 73) rfl rfl Try.func31 (by kernel_rfl) rfl #[.agg #[.int .i64 a0_0, .int .i64 a0_1, .slice A0_2 l0_2.length c0_2]] rfl mA ?_; (with_reducible refine (laws_toManifest.calls kj23 a0_0 a0_1 _ _ l0_2 t197 t198 t199 _ ?side1 ?side2 A55.out).mono ?_); (case side1 => repeat (first | exact (Kd.C_below HR0_2.out (mH2 HB.out GE165.out GE180.out)) | (with_reducible refine Kd.C_alloc ?_ _) | (with_reducible refine Kd.C_drewN ?_ _) | (with_reducible refine Kd.C_drew ?_))); (case side2 => exact HC0_2.out); rintro e w86 ⟨v200, rfl, ho0, hb⟩; refine ⟨_, rfl, ?_⟩; replace HO_10 := mS (Kd.R_below (mR HO_10.out) hb); replace HO_12 := mS (Kd.R_below (mR HO_12.out) hb); have HO201 := mS (Kd.R_lower (Kd.R_new' ho0 (Kd.R_lt (mR HO_181002.out))) (below_size (mH2 HB.out GE165.out GE180.out))); replace HO_181002 := mS (Kd.R_elder' (mR HO_181002.out) (Kd.R_base ho0) hb); replace BK165 := mB BK165 hb; replace BK180 := mB BK180 hb; replace HB := mS (below_step (mH2 HB.out GE165.out GE180.out) hb); (try clear hb); (try clear hb2); (try clear hk); (try clear hi); (try clear ho0); obtain ⟨Ao87, co87, eo87⟩ := Kd.R_slice HO201.out; subst eo87) | ((with_reducible refine gate_callee (f := 32) rfl ?_); refine goesL_ (some 77) rfl rfl Try.func32 (by kernel_rfl) rfl #[.agg #[.int .i64 t197, .int .i64 t198, .slice Ao87 t199.length co87], .int .i64 a1, .string a2, .string a3] rfl mA ?_; (with_reducible refine (impl_Overlap.calls kj23 t197 t198 _ _ t199 a1 a2 a3 t202 _ ?side1 ?side2 A56.out).mono ?_); (case side1 => repeat (first | exact (Kd.R_reads' HO201.out).2.2 | (with_reducible refine Kd.C_alloc ?_ _) | (with_reducible refine Kd.C_drewN ?_ _) | (with_reducible refine Kd.C_drew ?_))); (case side2 => exact (Kd.R_reads' HO201.out).2.1); rintro e w88 ⟨v203, rfl, ho0, hb⟩; refine ⟨_, rfl, ?_⟩; replace HO_181002 := mS (Kd.R_below (mR HO_181002.out) hb); replace HO201 := mS (Kd.R_below (mR HO201.out) hb); have HO204 := mS (Kd.R_lower (Kd.R_new' (Kd.R_new' ho0 (Kd.R_lt (mR HO_10.out))) (Kd.R_lt (mR HO_12.out))) (below_size (mH2 HB.out GE165.out GE180.out))); replace HO_10 := mS (Kd.R_elder' (mR HO_10.out) (Kd.R_base ho0) hb); replace HO_12 := mS (Kd.R_elder' (mR HO_12.out) (Kd.R_base ho0) hb); replace BK165 := mB BK165 hb; replace BK180 := mB BK180 hb; replace HB := mS (below_step (mH2 HB.out GE165.out GE180.out) hb); (try clear hb); (try clear hb2); (try clear hk); (try clear hi); (try clear ho0); obtain ⟨Ao89, co89, eo89⟩ := Kd.R_slice HO204.out; subst eo89) | ((with_reducible refine gate_callee (f := 33) rfl ?_); refine goesL_ (some 80) rfl rfl Try.func33 (by kernel_rfl) rfl #[.slice Ao89 t202.length co89, .slice Ao40 t172.length co40] rfl mA ?_; (with_reducible refine (laws_eqIntS.calls kj23 _ _ t202 _ _ t172 false _ ?side1 ?side2 ?side3 ?side4 A57.out).mono ?_); (case side1 => repeat (first | exact (Kd.R_reads' HO204.out).2.2 | (with_reducible refine Kd.C_alloc ?_ _) | (with_reducible refine Kd.C_drewN ?_ _) | (with_reducible refine Kd.C_drew ?_))); (case side2 => exact (Kd.R_reads' HO204.out).2.1); (case side3 => repeat (first | exact (Kd.R_reads' HO_10.out).2.2 | (with_reducible refine Kd.C_alloc ?_ _) | (with_reducible refine Kd.C_drewN ?_ _) | (with_reducible refine Kd.C_drew ?_))); (case side4 => exact (Kd.R_reads' HO_10.out).2.1); rintro e w' ⟨rfl, ⟨nd, rfl⟩⟩; refine ⟨_, rfl, ?_⟩))
            go_ret
            exact ⟨by first | rfl | (simp [errW_none, errW_some] <;> rfl) | (simp [*, errW_none, errW_some] <;> rfl), (mH2 HB.out GE165.out GE180.out)⟩
          ·rw [if_neg c54] at H
           have c54b0 : (t196 == t194) = false := beq_eq_false_iff_ne.mpr c54
           have c54b1 : (t196 != t194) = true := bne_iff_ne.mpr c54
           obtain rfl := Option.some.inj H
           go_wp2_with (first | ((with_reducible refine gate_callee (f := 36) rfl ?_); refine goesL_ (some 63) rfl rfl Try.func36 (by kernel_rfl) rfl #[.slice Ao39 t181.length co39, .int .i64 1] rfl mA ?_; (with_reducible refine (laws_markIntS.calls kj23 (fun k_ => some k_ = (.slice Ao39 t181.length co39 : Value).ownBlock) (.slice Ao39 t181.length co39) t181 1 t194 t195 w _ ?side1 ?side2 A50.out).mono ?_); (case side1 => repeat (first | (with_reducible first | exact HB.out | apply below_alloc | apply pw_below_drewN | apply below_drew1 | refine below_set ?_ GE165.out | refine below_set ?_ GE180.out) | exact HB.out)); (case side2 => exact Kd.R_tight rfl HO_12.out); rintro e w90 ⟨rfl, hy0, hb, hkp⟩; refine ⟨_, rfl, ?_⟩; replace HO_10 := mS (Kd.R_mono (ok' := fun k_ => some k_ ≠ (.slice Ao39 t181.length co39 : Value).ownBlock) (Kd.R_keptB (HO_10.out) hkp (fun k_ hk_ hs_ => (hk_) hs_)) (fun k_ hk_ => hk_.1)); replace HO_181002 := mS (Kd.R_mono (ok' := fun k_ => True) (Kd.R_keptB ((Kd.R_apart' HO_181002.out (Kd.R_typed HO_12.out) (by decide))) hkp (fun k_ hk_ hs_ => (hk_.2) hs_)) (fun k_ hk_ => trivial)); replace BK165 := mS (blk_kept (mK BK165.out) hkp (fun hs_ => (fun e_ => (Kd.R_ne HO_12.out BK165.out (by decide)) e_) hs_)); replace BK180 := mS (blk_kept (mK BK180.out) hkp (fun hs_ => (fun e_ => (Kd.R_ne HO_12.out BK180.out (by decide)) e_) hs_)); replace HO_12 := mS (Kd.R_reok rfl hy0 (fun k_ e_ => HO_12.out.1 k_ e_)); replace HB := mS (hb); (try clear hb); (try clear hkp); (try clear hy0)) | ((with_reducible refine gate_callee (f := 37) rfl ?_); refine goesL_ (some 66) rfl rfl Try.func37 (by kernel_rfl) rfl #[.slice Ao39 t195.length co39, .int .i64 1] rfl (by (try simp only [List.map_toArray, List.map_cons, List.map_nil]); first | done | (rw [show t195.length = t181.length from (Kd.R_reads' HO_12.out).1.symm] <;> rfl) | rfl | (simp only [List.length_drop, List.length_take]; rfl)) ?_; (with_reducible refine (laws_heldIntS.calls kj23 _ _ t195 1 t196 _ ?side1 ?side2 A51.out).mono ?_); (case side1 => repeat (first | exact (Kd.R_reads' HO_12.out).2.2 | (with_reducible refine Kd.C_alloc ?_ _) | (with_reducible refine Kd.C_drewN ?_ _) | (with_reducible refine Kd.C_drew ?_))); (case side2 => rw [show t195.length = t181.length from (Kd.R_reads' HO_12.out).1.symm]; exact (Kd.R_reads' HO_12.out).2.1); rintro e w' ⟨rfl, ⟨nd, rfl⟩⟩; refine ⟨_, rfl, ?_⟩))
           go_ret
           exact ⟨by first | rfl | (simp [errW_none, errW_some] <;> rfl) | (simp [*, errW_none, errW_some] <;> rfl), (mH2 HB.out GE165.out GE180.out)⟩
     ·replace c22 := Bool.eq_false_iff.mpr c22
      subst c22
      have H1 : (some false) = some r := by rw [if_neg (show ¬ (false = true) by decide)] at H; exact H
      clear H
      have H := H1
      clear H1
      obtain rfl := Option.some.inj H
      go_enter Try.func6, Try.ntmps6
      try go_wp2_with (first | ((with_reducible refine gate_dst (N := 4) rfl ?_); refine box_event ?hg (N := 4) ?hd (cs := #[.int .i64 a0_0, .int .i64 a0_1, .slice A0_2 l0_2.length c0_2]) (t := 56) ?hr ?_; (case hd => rfl); (case hg => rfl); (case hr => first | (go_simp; done) | (go_simp; rfl)); intro gb165 hg w91 hbox hb; have BK165 := mS (hbox); have GW165 := mG hg (mH HB.out); have GE165 := mG hg (mH HB.out); replace HB := mS (below_step (mH HB.out) hb); clear hb hbox hg; have hcz92_0 : w91.cell? ⟨gb165, 0, none⟩ = some (.int .i64 a0_0) := (blk_cell BK165.out 0).trans rfl; have hcz92_1 : w91.cell? ⟨gb165, 1, none⟩ = some (.int .i64 a0_1) := (blk_cell BK165.out 1).trans rfl; have hcz92_2 : w91.cell? ⟨gb165, 2, none⟩ = some (.slice A0_2 l0_2.length c0_2) := (blk_cell BK165.out 2).trans rfl; have hfz92_0 := blk_frozen BK165.out 0; have hfz92_1 := blk_frozen BK165.out 1; have hfz92_2 := blk_frozen BK165.out 2) | ((with_reducible refine gate_callee (f := 29) rfl ?_); refine goesL_ (some 25) rfl rfl Try.func29 (by kernel_rfl) rfl #[.agg #[.int .i64 a0_0, .int .i64 a0_1, .slice A0_2 l0_2.length c0_2], .int .i64 1048576] rfl mA ?_; (with_reducible refine (laws_szManifest.calls k a0_0 a0_1 _ _ l0_2 1048576 t166 _ ?side1 ?side2 A9.out).mono ?_); (case side1 => repeat (first | exact (Kd.C_below HR0_2.out HB.out) | (with_reducible refine Kd.C_alloc ?_ _) | (with_reducible refine Kd.C_drewN ?_ _) | (with_reducible refine Kd.C_drew ?_))); (case side2 => exact HC0_2.out); rintro e w93 ⟨rfl, hb⟩; refine ⟨_, rfl, ?_⟩; replace BK165 := mB BK165 hb; replace HB := mS (below_step (mH1 HB.out GE165.out) hb); (try clear hb); (try clear hb2); (try clear hk); (try clear hi); have hcz94_0 : w93.cell? ⟨gb165, 0, none⟩ = some (.int .i64 a0_0) := (blk_cell BK165.out 0).trans rfl; have hcz94_1 : w93.cell? ⟨gb165, 1, none⟩ = some (.int .i64 a0_1) := (blk_cell BK165.out 1).trans rfl; have hcz94_2 : w93.cell? ⟨gb165, 2, none⟩ = some (.slice A0_2 l0_2.length c0_2) := (blk_cell BK165.out 2).trans rfl; have hfz94_0 := blk_frozen BK165.out 0; have hfz94_1 := blk_frozen BK165.out 1; have hfz94_2 := blk_frozen BK165.out 2) | ((with_reducible refine gate_callee (f := 31) rfl ?_); refine goesL_ (some 29) rfl rfl Try.func31 (by kernel_rfl) rfl #[.agg #[.int .i64 a0_0, .int .i64 a0_1, .slice A0_2 l0_2.length c0_2]] rfl mA ?_; (with_reducible refine (laws_toManifest.calls k a0_0 a0_1 _ _ l0_2 t167 t168 t169 _ ?side1 ?side2 A14.out).mono ?_); (case side1 => repeat (first | exact (Kd.C_below HR0_2.out HB.out) | (with_reducible refine Kd.C_alloc ?_ _) | (with_reducible refine Kd.C_drewN ?_ _) | (with_reducible refine Kd.C_drew ?_))); (case side2 => exact HC0_2.out); rintro e w95 ⟨v170, rfl, ho0, hb⟩; refine ⟨_, rfl, ?_⟩; have HO171 := mS (Kd.R_lower ho0 (below_size (mH1 HB.out GE165.out))); replace BK165 := mB BK165 hb; replace HB := mS (below_step (mH1 HB.out GE165.out) hb); (try clear hb); (try clear hb2); (try clear hk); (try clear hi); (try clear ho0); obtain ⟨Ao96, co96, eo96⟩ := Kd.R_slice HO171.out; subst eo96) | ((with_reducible refine gate_callee (f := 30) rfl ?_); refine goesL_ (some 33) rfl rfl Try.func30 (by kernel_rfl) rfl #[.agg #[.int .i64 t167, .int .i64 t168, .slice Ao96 t169.length co96], .int .i64 a1, .string a2, .string a3] rfl mA ?_; (with_reducible refine (spec_Overlap.calls k t167 t168 _ _ t169 a1 a2 a3 t172 _ ?side1 ?side2 A15.out).mono ?_); (case side1 => repeat (first | exact (Kd.R_reads' HO171.out).2.2 | (with_reducible refine Kd.C_alloc ?_ _) | (with_reducible refine Kd.C_drewN ?_ _) | (with_reducible refine Kd.C_drew ?_))); (case side2 => exact (Kd.R_reads' HO171.out).2.1); rintro e w97 ⟨v173, rfl, ho0, hb⟩; refine ⟨_, rfl, ?_⟩; replace HO171 := mS (Kd.R_below (mR HO171.out) hb); have HO174 := mS (Kd.R_lower ho0 (below_size (mH1 HB.out GE165.out))); replace BK165 := mB BK165 hb; replace HB := mS (below_step (mH1 HB.out GE165.out) hb); (try clear hb); (try clear hb2); (try clear hk); (try clear hi); (try clear ho0); have hcz98_0 : w97.cell? ⟨gb165, 0, none⟩ = some (.int .i64 a0_0) := (blk_cell BK165.out 0).trans rfl; have hcz98_1 : w97.cell? ⟨gb165, 1, none⟩ = some (.int .i64 a0_1) := (blk_cell BK165.out 1).trans rfl; have hcz98_2 : w97.cell? ⟨gb165, 2, none⟩ = some (.slice A0_2 l0_2.length c0_2) := (blk_cell BK165.out 2).trans rfl; have hfz98_0 := blk_frozen BK165.out 0; have hfz98_1 := blk_frozen BK165.out 1; have hfz98_2 := blk_frozen BK165.out 2) | ((with_reducible refine gate_callee (f := 31) rfl ?_); refine goesL_ (some 35) rfl rfl Try.func31 (by kernel_rfl) rfl #[.agg #[.int .i64 a0_0, .int .i64 a0_1, .slice A0_2 l0_2.length c0_2]] rfl mA ?_; (with_reducible refine (laws_toManifest.calls k a0_0 a0_1 _ _ l0_2 t175 t176 t177 _ ?side1 ?side2 A16.out).mono ?_); (case side1 => repeat (first | exact (Kd.C_below HR0_2.out HB.out) | (with_reducible refine Kd.C_alloc ?_ _) | (with_reducible refine Kd.C_drewN ?_ _) | (with_reducible refine Kd.C_drew ?_))); (case side2 => exact HC0_2.out); rintro e w99 ⟨v178, rfl, ho0, hb⟩; refine ⟨_, rfl, ?_⟩; replace HO174 := mS (Kd.R_below (mR HO174.out) hb); have HO179 := mS (Kd.R_lower (Kd.R_new' ho0 (Kd.R_lt (mR HO171.out))) (below_size (mH1 HB.out GE165.out))); replace HO171 := mS (Kd.R_elder' (mR HO171.out) (Kd.R_base ho0) hb); replace BK165 := mB BK165 hb; replace HB := mS (below_step (mH1 HB.out GE165.out) hb); (try clear hb); (try clear hb2); (try clear hk); (try clear hi); (try clear ho0)) | ((with_reducible refine gate_dst (N := 11) rfl ?_); refine box_event ?hg (N := 11) ?hd (cs := #[.int .i64 0, .int .i64 0, .slice none 0 0]) (t := 61) ?hr ?_; (case hd => rfl); (case hg => rfl); (case hr => first | (go_simp; done) | (go_simp; rfl)); intro gb180 hg w100 hbox hb; replace HO171 := mS (Kd.R_below (mR HO171.out) hb); replace HO174 := mS (Kd.R_below (mR HO174.out) hb); replace HO179 := mS (Kd.R_below (mR HO179.out) hb); have BK180 := mS (hbox); have GW180 := mG hg (mH1 HB.out GE165.out); have GE180 := mG hg (mH1 HB.out GE165.out); replace HB := mS (below_step (mH1 HB.out GE165.out) hb); have NB165_180 := mNl hg BK165.out; have NB180_165 := mNg hg BK165.out; replace BK165 := mB BK165 hb; clear hb hbox hg; have hnb101 := NB180_165.out; have hnc101 := NB165_180.out; have hcz102_0 : w100.cell? ⟨gb180, 0, none⟩ = some (.int .i64 0) := (blk_cell BK180.out 0).trans rfl; have hcz102_1 : w100.cell? ⟨gb180, 1, none⟩ = some (.int .i64 0) := (blk_cell BK180.out 1).trans rfl; have hcz102_2 : w100.cell? ⟨gb180, 2, none⟩ = some (.slice none 0 0) := (blk_cell BK180.out 2).trans rfl; have hfz102_0 := blk_frozen BK180.out 0; have hfz102_1 := blk_frozen BK180.out 1; have hfz102_2 := blk_frozen BK180.out 2; obtain ⟨Ao103, co103, eo103⟩ := Kd.R_slice HO179.out; subst eo103) | ((with_reducible refine gate_callee (f := 32) rfl ?_); refine goesL_ (some 40) rfl rfl Try.func32 (by kernel_rfl) rfl #[.agg #[.int .i64 t175, .int .i64 t176, .slice Ao103 t177.length co103], .int .i64 a1, .string a2, .string a3] rfl mA ?_; (with_reducible refine (impl_Overlap.calls k t175 t176 _ _ t177 a1 a2 a3 t181 _ ?side1 ?side2 A17.out).mono ?_); (case side1 => refine (Kd.R_reads' (e := 134) (base := w.heap.size) (ok := fun k_ => (True ∧ some k_ ≠ (.slice Ao96 t169.length co96 : Value).ownBlock)) (n := t177.length) (c := co103) ?_).2.2; exact (by (with_reducible repeat (first | apply Kd.R_alloc | apply Kd.R_drewN | apply Kd.R_drew)); exact (Kd.R_mono (Kd.R_far (p := ⟨gb180, 2, none⟩) (Kd.R_far (p := ⟨gb180, 1, none⟩) (Kd.R_far (p := ⟨gb180, 0, none⟩) (Kd.R_types HO179.out BK180.out (by decide)) (fun _ hk => hk.2) (.int .i64 t175)) (fun _ hk => hk.2) (.int .i64 t176)) (fun _ hk => hk.2) (.slice Ao103 t177.length co103)) (fun _ h_ => h_.1)))); (case side2 => exact (Kd.R_reads' HO179.out).2.1); rintro e w104 ⟨v182, rfl, ho0, hb⟩; refine ⟨_, rfl, ?_⟩; replace HO171 := mS (Kd.R_below (by (with_reducible repeat (first | apply Kd.R_alloc | apply Kd.R_drewN | apply Kd.R_drew)); exact (Kd.R_mono (Kd.R_far (p := ⟨gb180, 2, none⟩) (Kd.R_far (p := ⟨gb180, 1, none⟩) (Kd.R_far (p := ⟨gb180, 0, none⟩) (Kd.R_types HO171.out BK180.out (by decide)) (fun _ hk => hk.2) (.int .i64 t175)) (fun _ hk => hk.2) (.int .i64 t176)) (fun _ hk => hk.2) (.slice Ao103 t177.length co103)) (fun _ h_ => h_.1))) hb); replace HO179 := mS (Kd.R_below (by (with_reducible repeat (first | apply Kd.R_alloc | apply Kd.R_drewN | apply Kd.R_drew)); exact (Kd.R_mono (Kd.R_far (p := ⟨gb180, 2, none⟩) (Kd.R_far (p := ⟨gb180, 1, none⟩) (Kd.R_far (p := ⟨gb180, 0, none⟩) (Kd.R_types HO179.out BK180.out (by decide)) (fun _ hk => hk.2) (.int .i64 t175)) (fun _ hk => hk.2) (.int .i64 t176)) (fun _ hk => hk.2) (.slice Ao103 t177.length co103)) (fun _ h_ => h_.1))) hb); have HO183 := mS (Kd.R_lower (Kd.R_new' ho0 (Kd.R_lt (by (with_reducible repeat (first | apply Kd.R_alloc | apply Kd.R_drewN | apply Kd.R_drew)); exact (Kd.R_mono (Kd.R_far (p := ⟨gb180, 2, none⟩) (Kd.R_far (p := ⟨gb180, 1, none⟩) (Kd.R_far (p := ⟨gb180, 0, none⟩) (Kd.R_types HO174.out BK180.out (by decide)) (fun _ hk => hk.2) (.int .i64 t175)) (fun _ hk => hk.2) (.int .i64 t176)) (fun _ hk => hk.2) (.slice Ao103 t177.length co103)) (fun _ h_ => h_.1))))) (below_size (mH2 HB.out GE165.out GE180.out))); replace HO174 := mS (Kd.R_elder' (by (with_reducible repeat (first | apply Kd.R_alloc | apply Kd.R_drewN | apply Kd.R_drew)); exact (Kd.R_mono (Kd.R_far (p := ⟨gb180, 2, none⟩) (Kd.R_far (p := ⟨gb180, 1, none⟩) (Kd.R_far (p := ⟨gb180, 0, none⟩) (Kd.R_types HO174.out BK180.out (by decide)) (fun _ hk => hk.2) (.int .i64 t175)) (fun _ hk => hk.2) (.int .i64 t176)) (fun _ hk => hk.2) (.slice Ao103 t177.length co103)) (fun _ h_ => h_.1))) (Kd.R_base ho0) hb); replace BK165 := mS (blk_below (g := gb165) (o := .cells #[.int .i64 a0_0, .int .i64 a0_1, .slice A0_2 l0_2.length c0_2] 56 (0, 0)) (by (with_reducible repeat (first | refine blk_drewN ?_ _ | refine blk_drew ?_ | refine blk_alloc ?_ _)); refine blk_far ?_ NB165_180.out _; (with_reducible repeat (first | refine blk_drewN ?_ _ | refine blk_drew ?_ | refine blk_alloc ?_ _)); refine blk_far ?_ NB165_180.out _; (with_reducible repeat (first | refine blk_drewN ?_ _ | refine blk_drew ?_ | refine blk_alloc ?_ _)); refine blk_far ?_ NB165_180.out _; (with_reducible repeat (first | refine blk_drewN ?_ _ | refine blk_drew ?_ | refine blk_alloc ?_ _)); exact BK165.out) hb); replace BK180 := mS (blk_below (g := gb180) (o := .cells #[.int .i64 t175, .int .i64 t176, .slice Ao103 t177.length co103] 61 (0, 0)) (by (with_reducible repeat (first | refine blk_drewN ?_ _ | refine blk_drew ?_ | refine blk_alloc ?_ _)); refine blk_put (cs := #[.int .i64 t175, .int .i64 t176, .slice none 0 0]) ?_ 2 _ rfl; (with_reducible repeat (first | refine blk_drewN ?_ _ | refine blk_drew ?_ | refine blk_alloc ?_ _)); refine blk_put (cs := #[.int .i64 t175, .int .i64 0, .slice none 0 0]) ?_ 1 _ rfl; (with_reducible repeat (first | refine blk_drewN ?_ _ | refine blk_drew ?_ | refine blk_alloc ?_ _)); refine blk_put (cs := #[.int .i64 0, .int .i64 0, .slice none 0 0]) ?_ 0 _ rfl; (with_reducible repeat (first | refine blk_drewN ?_ _ | refine blk_drew ?_ | refine blk_alloc ?_ _)); exact BK180.out) hb); replace HB := mS (below_step (mH2 HB.out GE165.out GE180.out) hb); (try clear hb); (try clear hb2); (try clear hk); (try clear hi); (try clear ho0); obtain ⟨Ao105, co105, eo105⟩ := Kd.R_slice HO183.out; subst eo105; obtain ⟨Ao106, co106, eo106⟩ := Kd.R_slice HO174.out; subst eo106) | ((with_reducible refine gate_callee (f := 33) rfl ?_); refine goesL_ (some 43) rfl rfl Try.func33 (by kernel_rfl) rfl #[.slice Ao105 t181.length co105, .slice Ao106 t172.length co106] rfl mA ?_; (with_reducible refine (laws_eqIntS.calls k _ _ t181 _ _ t172 true _ ?side1 ?side2 ?side3 ?side4 A18.out).mono ?_); (case side1 => repeat (first | exact (Kd.R_reads' HO183.out).2.2 | (with_reducible refine Kd.C_alloc ?_ _) | (with_reducible refine Kd.C_drewN ?_ _) | (with_reducible refine Kd.C_drew ?_))); (case side2 => exact (Kd.R_reads' HO183.out).2.1); (case side3 => repeat (first | exact (Kd.R_reads' HO174.out).2.2 | (with_reducible refine Kd.C_alloc ?_ _) | (with_reducible refine Kd.C_drewN ?_ _) | (with_reducible refine Kd.C_drew ?_))); (case side4 => exact (Kd.R_reads' HO174.out).2.1); rintro e w' ⟨rfl, ⟨nd, rfl⟩⟩; refine ⟨_, rfl, ?_⟩))
      (try (rw [drewN_self w104]; generalize hq_ : World.drewN w104 _ = w104; have n0_ : Aside0 (Kd.R k134 134 w104 w.heap.size (fun k_ => (True ∧ some k_ ≠ (.slice Ao103 t177.length co103 : Value).ownBlock)) (.slice Ao96 t169.length co96) t169) := ⟨by rw [← hq_]; exact (mR HO171.out)⟩; have n1_ : Aside0 (Kd.R (Kd.int .i64) 3 w104 w.heap.size (fun k_ => (True ∧ some k_ ≠ (.slice Ao105 t181.length co105 : Value).ownBlock)) (.slice Ao106 t172.length co106) t172) := ⟨by rw [← hq_]; exact (mR HO174.out)⟩; have n2_ : Aside0 (Kd.R k134 134 w104 w.heap.size (fun k_ => (True ∧ some k_ ≠ (.slice Ao96 t169.length co96 : Value).ownBlock)) (.slice Ao103 t177.length co103) t177) := ⟨by rw [← hq_]; exact (mR HO179.out)⟩; have n3_ : Aside0 (Kd.R (Kd.int .i64) 3 w104 w.heap.size (fun k_ => (True ∧ some k_ ≠ (.slice Ao106 t172.length co106 : Value).ownBlock)) (.slice Ao105 t181.length co105) t181) := ⟨by rw [← hq_]; exact (mR HO183.out)⟩; have n4_ : Aside0 (w104.heap[gb165]? = some (.cells #[.int .i64 a0_0, .int .i64 a0_1, .slice A0_2 l0_2.length c0_2] 56 (0, 0))) := ⟨by rw [← hq_]; exact (mK BK165.out)⟩; have n5_ : Aside0 (w104.heap[gb180]? = some (.cells #[.int .i64 t175, .int .i64 t176, .slice Ao103 t177.length co103] 61 (0, 0))) := ⟨by rw [← hq_]; exact (mK BK180.out)⟩; have n6_ : Aside0 (Below w.heap.size w w104) := ⟨by rw [← hq_]; exact (mH2 HB.out GE165.out GE180.out)⟩; clear HO171 HO174 HO179 HO183 BK165 BK180 HB hq_; have HO171 := n0_; have HO174 := n1_; have HO179 := n2_; have HO183 := n3_; have BK165 := n4_; have BK180 := n5_; have HB := n6_; clear n0_ n1_ n2_ n3_ n4_ n5_ n6_))
      have n0_ := mS (Kd.R_drew HO171.out)
      have n1_ := mS (Kd.R_drew HO174.out)
      have n2_ := mS (Kd.R_drew HO179.out)
      have n3_ := mS (Kd.R_drew HO183.out)
      have n4_ := mS (blk_drew BK165.out)
      have n5_ := mS (blk_drew BK180.out)
      have n6_ := mS (below_drew1 HB.out)
      clear HO171
      clear HO174
      clear HO179
      clear HO183
      clear BK165
      clear BK180
      clear HB
      have HO171 := n0_
      have HO174 := n1_
      have HO179 := n2_
      have HO183 := n3_
      have BK165 := n4_
      have BK180 := n5_
      have HB := n6_
      clear n0_ n1_ n2_ n3_ n4_ n5_ n6_
      refine start_ (n := 5) (S := fun w' => w'.cell? ⟨gb180, 0, none⟩ = some (.int .i64 t175) ∧ w'.cell? ⟨gb180, 1, none⟩ = some (.int .i64 t176) ∧ w'.cell? ⟨gb180, 2, none⟩ = some (.slice Ao103 t177.length co103) ∧ w'.cell? ⟨gb165, 0, none⟩ = some (.int .i64 a0_0) ∧ w'.cell? ⟨gb165, 1, none⟩ = some (.int .i64 a0_1) ∧ w'.cell? ⟨gb165, 2, none⟩ = some (.slice A0_2 l0_2.length c0_2)) (ds := []) #[false, false, false, false, false] (by kernel_rfl) rfl rfl ⟨(blk_cell BK180.out 0).trans rfl, (blk_cell BK180.out 1).trans rfl, (blk_cell BK180.out 2).trans rfl, (blk_cell BK165.out 0).trans rfl, (blk_cell BK165.out 1).trans rfl, (blk_cell BK165.out 2).trans rfl⟩ (fun hHeld => ?_)
      generalize w104.drew = w107 at HO171 HO174 HO179 HO183 BK165 BK180 HB hHeld ⊢
      refine take_ (i := 0) (N := some 45) (v := ?_) (a' := ?_) #[true, false, false, false, false] rfl rfl (by kernel_rfl) (fun _ _ _ h => h) (Or.inl ⟨by rfl, ?_⟩) hHeld ?_ ?_
      rotate_left
      ·rintro w' ⟨s0, s1, s2, s3, s4, s5⟩
       go_simp
       with_reducible rfl
      rotate_left
      ·simp only [Act.put, List.setIfInBounds_toArray, List.set_cons_zero, List.set_cons_succ, i64_w, i32_w]
       rfl
      refine take_ (i := 1) (N := some 46) (v := ?_) (a' := ?_) #[true, true, false, false, false] rfl rfl (by kernel_rfl) (fun _ _ _ h => h) (Or.inl ⟨by rfl, ?_⟩) hHeld ?_ ?_
      rotate_left
      ·rintro w' ⟨s0, s1, s2, s3, s4, s5⟩
       go_simp
       with_reducible rfl
      rotate_left
      ·simp only [Act.put, List.setIfInBounds_toArray, List.set_cons_zero, List.set_cons_succ, i64_w, i32_w]
       rfl
      refine one_ (i := 2) (N := some 47) #[true, true, true, false, false] rfl rfl (by kernel_rfl) (by decide) (fun K hK => ?_)
      refine goes_ Try.func31 (by kernel_rfl) rfl #[.agg #[.int .i64 a0_0, .int .i64 a0_1, .slice A0_2 l0_2.length c0_2]] (by rfl) rfl rfl mA ?_
      with_reducible refine (laws_toManifest.calls k a0_0 a0_1 _ _ l0_2 t185 t186 t187 _ ?side1 ?side2 A20.out).mono ?_
      (case side1 => repeat (first | exact (Kd.C_below HR0_2.out HB.out) | (with_reducible refine Kd.C_alloc ?_ _) | (with_reducible refine Kd.C_drewN ?_ _) | (with_reducible refine Kd.C_drew ?_)))
      (case side2 => exact HC0_2.out)
      rintro e w108 ⟨v188, rfl, ho0, hb⟩
      refine ⟨_, rfl, ?_⟩
      have n0_ := mS (Kd.R_elder' (mR HO171.out) (Kd.R_base ho0) hb)
      have n1_ := mS (Kd.R_below (mR HO174.out) hb)
      have n2_ := mS (Kd.R_elder' (mR HO179.out) (Kd.R_base ho0) hb)
      have n3_ := mS (Kd.R_below (mR HO183.out) hb)
      have n4_ := mS (Kd.R_lower (Kd.R_new' (Kd.R_new' ho0 (Kd.R_lt (mR HO171.out))) (Kd.R_lt (mR HO179.out))) (below_size (mH2 HB.out GE165.out GE180.out)))
      have n5_ := mB BK165 hb
      have n6_ := mB BK180 hb
      have n7_ := mS (below_step (mH2 HB.out GE165.out GE180.out) hb)
      clear HO171
      clear HO174
      clear HO179
      clear HO183
      clear BK165
      clear BK180
      clear HB
      have HO171 := n0_
      have HO174 := n1_
      have HO179 := n2_
      have HO183 := n3_
      have HO189 := n4_
      have BK165 := n5_
      have BK180 := n6_
      have HB := n7_
      clear n0_ n1_ n2_ n3_ n4_ n5_ n6_ n7_
      (try clear hb)
      (try clear hb2)
      (try clear hk)
      (try clear hi)
      (try clear ho0)
      obtain ⟨Ao109, co109, eo109⟩ := Kd.R_slice HO189.out
      (first | subst eo109 | (injection eo109 with f1_ f2_ f3_; have f4_ := f1_.symm; have f5_ := f3_.symm; clear f1_ f2_ f3_; subst f4_; subst f5_))
      refine hK.out _ _ ⟨(blk_cell BK180.out 0).trans rfl, (blk_cell BK180.out 1).trans rfl, (blk_cell BK180.out 2).trans rfl, (blk_cell BK165.out 0).trans rfl, (blk_cell BK165.out 1).trans rfl, (blk_cell BK165.out 2).trans rfl⟩ (fun hHeld => ?_)
      clear hK K
      refine norm_ (a' := ?_) ?_ ?_
      rotate_left
      ·show Act.put _ (some 47) _ = _
       simp only [Act.put, List.setIfInBounds_toArray, List.set_cons_zero, List.set_cons_succ, i64_w, i32_w]
       rfl
      refine one_ (i := 3) (N := some 48) #[true, true, true, true, false] rfl rfl (by kernel_rfl) (by decide) (fun K hK => ?_)
      refine goes_ Try.func34 (by kernel_rfl) rfl #[.agg #[.int .i64 t175, .int .i64 t176, .slice Ao103 t177.length co103], .agg #[.int .i64 t185, .int .i64 t186, .slice Ao109 t187.length co109]] (by rfl) rfl rfl mA ?_
      with_reducible refine (laws_eqManifest.calls k t175 t176 _ _ t177 t185 t186 _ _ t187 false _ ?side1 ?side2 ?side3 ?side4 A21.out).mono ?_
      (case side1 => repeat (first | exact (Kd.R_reads' HO179.out).2.2 | (with_reducible refine Kd.C_alloc ?_ _) | (with_reducible refine Kd.C_drewN ?_ _) | (with_reducible refine Kd.C_drew ?_)))
      (case side2 => exact (Kd.R_reads' HO179.out).2.1)
      (case side3 => repeat (first | exact (Kd.R_reads' HO189.out).2.2 | (with_reducible refine Kd.C_alloc ?_ _) | (with_reducible refine Kd.C_drewN ?_ _) | (with_reducible refine Kd.C_drew ?_)))
      (case side4 => exact (Kd.R_reads' HO189.out).2.1)
      rintro e w110 ⟨rfl, hb⟩
      refine ⟨_, rfl, ?_⟩
      have n0_ := mS (Kd.R_below (mR HO171.out) hb)
      have n1_ := mS (Kd.R_below (mR HO174.out) hb)
      have n2_ := mS (Kd.R_below (mR HO179.out) hb)
      have n3_ := mS (Kd.R_below (mR HO183.out) hb)
      have n4_ := mS (Kd.R_below (mR HO189.out) hb)
      have n5_ := mB BK165 hb
      have n6_ := mB BK180 hb
      have n7_ := mS (below_step (mH2 HB.out GE165.out GE180.out) hb)
      clear HO171
      clear HO174
      clear HO179
      clear HO183
      clear HO189
      clear BK165
      clear BK180
      clear HB
      have HO171 := n0_
      have HO174 := n1_
      have HO179 := n2_
      have HO183 := n3_
      have HO189 := n4_
      have BK165 := n5_
      have BK180 := n6_
      have HB := n7_
      clear n0_ n1_ n2_ n3_ n4_ n5_ n6_ n7_
      (try clear hb)
      (try clear hb2)
      (try clear hk)
      (try clear hi)
      refine hK.out _ _ ⟨(blk_cell BK180.out 0).trans rfl, (blk_cell BK180.out 1).trans rfl, (blk_cell BK180.out 2).trans rfl, (blk_cell BK165.out 0).trans rfl, (blk_cell BK165.out 1).trans rfl, (blk_cell BK165.out 2).trans rfl⟩ (fun hHeld => ?_)
      clear hK K
      refine norm_ (a' := ?_) ?_ ?_
      rotate_left
      ·show Act.put _ (some 48) _ = _
       simp only [Act.put, List.setIfInBounds_toArray, List.set_cons_zero, List.set_cons_succ, i64_w, i32_w]
       rfl
      refine pure_ (i := 4) (N := some 49) (v := ?_) (a' := ?_) #[true, true, true, true, true] rfl rfl (by kernel_rfl) (fun _ _ _ h => h) (Or.inl ⟨by rfl, ?_⟩) ?_ ?_
      rotate_left
      ·intro w'
       go_simp
       with_reducible rfl
      rotate_left
      ·simp only [Act.put, List.setIfInBounds_toArray, List.set_cons_zero, List.set_cons_succ, i64_w, i32_w]
       rfl
      refine done_ (by kernel_rfl) ?_
      try go_wp2
      go_ret
      exact ⟨by first | rfl | (simp [errW_none, errW_some] <;> rfl) | (simp [*, errW_none, errW_some] <;> rfl), (mH2 HB.out GE165.out GE180.out)⟩
    ·replace c19 := Bool.eq_false_iff.mpr c19
     subst c19
     have H1 : (some false) = some r := by rw [if_neg (show ¬ (false = true) by decide)] at H; exact H
     clear H
     have H := H1
     clear H1
     obtain rfl := Option.some.inj H
     go_enter Try.func6, Try.ntmps6
     go_wp2_with (first | ((with_reducible refine gate_dst (N := 4) rfl ?_); refine box_event ?hg (N := 4) ?hd (cs := #[.int .i64 a0_0, .int .i64 a0_1, .slice A0_2 l0_2.length c0_2]) (t := 56) ?hr ?_; (case hd => rfl); (case hg => rfl); (case hr => first | (go_simp; done) | (go_simp; rfl)); intro gb165 hg w111 hbox hb; have BK165 := mS (hbox); have GW165 := mG hg (mH HB.out); have GE165 := mG hg (mH HB.out); replace HB := mS (below_step (mH HB.out) hb); clear hb hbox hg; have hcz112_0 : w111.cell? ⟨gb165, 0, none⟩ = some (.int .i64 a0_0) := (blk_cell BK165.out 0).trans rfl; have hcz112_1 : w111.cell? ⟨gb165, 1, none⟩ = some (.int .i64 a0_1) := (blk_cell BK165.out 1).trans rfl; have hcz112_2 : w111.cell? ⟨gb165, 2, none⟩ = some (.slice A0_2 l0_2.length c0_2) := (blk_cell BK165.out 2).trans rfl; have hfz112_0 := blk_frozen BK165.out 0; have hfz112_1 := blk_frozen BK165.out 1; have hfz112_2 := blk_frozen BK165.out 2) | ((with_reducible refine gate_callee (f := 29) rfl ?_); refine goesL_ (some 25) rfl rfl Try.func29 (by kernel_rfl) rfl #[.agg #[.int .i64 a0_0, .int .i64 a0_1, .slice A0_2 l0_2.length c0_2], .int .i64 1048576] rfl mA ?_; (with_reducible refine (laws_szManifest.calls k a0_0 a0_1 _ _ l0_2 1048576 t166 _ ?side1 ?side2 A9.out).mono ?_); (case side1 => repeat (first | exact (Kd.C_below HR0_2.out HB.out) | (with_reducible refine Kd.C_alloc ?_ _) | (with_reducible refine Kd.C_drewN ?_ _) | (with_reducible refine Kd.C_drew ?_))); (case side2 => exact HC0_2.out); rintro e w113 ⟨rfl, hb⟩; refine ⟨_, rfl, ?_⟩; replace BK165 := mB BK165 hb; replace HB := mS (below_step (mH1 HB.out GE165.out) hb); (try clear hb); (try clear hb2); (try clear hk); (try clear hi); have hcz114_0 : w113.cell? ⟨gb165, 0, none⟩ = some (.int .i64 a0_0) := (blk_cell BK165.out 0).trans rfl; have hcz114_1 : w113.cell? ⟨gb165, 1, none⟩ = some (.int .i64 a0_1) := (blk_cell BK165.out 1).trans rfl; have hcz114_2 : w113.cell? ⟨gb165, 2, none⟩ = some (.slice A0_2 l0_2.length c0_2) := (blk_cell BK165.out 2).trans rfl; have hfz114_0 := blk_frozen BK165.out 0; have hfz114_1 := blk_frozen BK165.out 1; have hfz114_2 := blk_frozen BK165.out 2) | ((with_reducible refine gate_callee (f := 31) rfl ?_); refine goesL_ (some 29) rfl rfl Try.func31 (by kernel_rfl) rfl #[.agg #[.int .i64 a0_0, .int .i64 a0_1, .slice A0_2 l0_2.length c0_2]] rfl mA ?_; (with_reducible refine (laws_toManifest.calls k a0_0 a0_1 _ _ l0_2 t167 t168 t169 _ ?side1 ?side2 A14.out).mono ?_); (case side1 => repeat (first | exact (Kd.C_below HR0_2.out HB.out) | (with_reducible refine Kd.C_alloc ?_ _) | (with_reducible refine Kd.C_drewN ?_ _) | (with_reducible refine Kd.C_drew ?_))); (case side2 => exact HC0_2.out); rintro e w115 ⟨v170, rfl, ho0, hb⟩; refine ⟨_, rfl, ?_⟩; have HO171 := mS (Kd.R_lower ho0 (below_size (mH1 HB.out GE165.out))); replace BK165 := mB BK165 hb; replace HB := mS (below_step (mH1 HB.out GE165.out) hb); (try clear hb); (try clear hb2); (try clear hk); (try clear hi); (try clear ho0); obtain ⟨Ao116, co116, eo116⟩ := Kd.R_slice HO171.out; subst eo116) | ((with_reducible refine gate_callee (f := 30) rfl ?_); refine goesL_ (some 33) rfl rfl Try.func30 (by kernel_rfl) rfl #[.agg #[.int .i64 t167, .int .i64 t168, .slice Ao116 t169.length co116], .int .i64 a1, .string a2, .string a3] rfl mA ?_; (with_reducible refine (spec_Overlap.calls k t167 t168 _ _ t169 a1 a2 a3 t172 _ ?side1 ?side2 A15.out).mono ?_); (case side1 => repeat (first | exact (Kd.R_reads' HO171.out).2.2 | (with_reducible refine Kd.C_alloc ?_ _) | (with_reducible refine Kd.C_drewN ?_ _) | (with_reducible refine Kd.C_drew ?_))); (case side2 => exact (Kd.R_reads' HO171.out).2.1); rintro e w117 ⟨v173, rfl, ho0, hb⟩; refine ⟨_, rfl, ?_⟩; replace HO171 := mS (Kd.R_below (mR HO171.out) hb); have HO174 := mS (Kd.R_lower ho0 (below_size (mH1 HB.out GE165.out))); replace BK165 := mB BK165 hb; replace HB := mS (below_step (mH1 HB.out GE165.out) hb); (try clear hb); (try clear hb2); (try clear hk); (try clear hi); (try clear ho0); have hcz118_0 : w117.cell? ⟨gb165, 0, none⟩ = some (.int .i64 a0_0) := (blk_cell BK165.out 0).trans rfl; have hcz118_1 : w117.cell? ⟨gb165, 1, none⟩ = some (.int .i64 a0_1) := (blk_cell BK165.out 1).trans rfl; have hcz118_2 : w117.cell? ⟨gb165, 2, none⟩ = some (.slice A0_2 l0_2.length c0_2) := (blk_cell BK165.out 2).trans rfl; have hfz118_0 := blk_frozen BK165.out 0; have hfz118_1 := blk_frozen BK165.out 1; have hfz118_2 := blk_frozen BK165.out 2) | ((with_reducible refine gate_callee (f := 31) rfl ?_); refine goesL_ (some 35) rfl rfl Try.func31 (by kernel_rfl) rfl #[.agg #[.int .i64 a0_0, .int .i64 a0_1, .slice A0_2 l0_2.length c0_2]] rfl mA ?_; (with_reducible refine (laws_toManifest.calls k a0_0 a0_1 _ _ l0_2 t175 t176 t177 _ ?side1 ?side2 A16.out).mono ?_); (case side1 => repeat (first | exact (Kd.C_below HR0_2.out HB.out) | (with_reducible refine Kd.C_alloc ?_ _) | (with_reducible refine Kd.C_drewN ?_ _) | (with_reducible refine Kd.C_drew ?_))); (case side2 => exact HC0_2.out); rintro e w119 ⟨v178, rfl, ho0, hb⟩; refine ⟨_, rfl, ?_⟩; replace HO174 := mS (Kd.R_below (mR HO174.out) hb); have HO179 := mS (Kd.R_lower (Kd.R_new' ho0 (Kd.R_lt (mR HO171.out))) (below_size (mH1 HB.out GE165.out))); replace HO171 := mS (Kd.R_elder' (mR HO171.out) (Kd.R_base ho0) hb); replace BK165 := mB BK165 hb; replace HB := mS (below_step (mH1 HB.out GE165.out) hb); (try clear hb); (try clear hb2); (try clear hk); (try clear hi); (try clear ho0)) | ((with_reducible refine gate_dst (N := 11) rfl ?_); refine box_event ?hg (N := 11) ?hd (cs := #[.int .i64 0, .int .i64 0, .slice none 0 0]) (t := 61) ?hr ?_; (case hd => rfl); (case hg => rfl); (case hr => first | (go_simp; done) | (go_simp; rfl)); intro gb180 hg w120 hbox hb; replace HO171 := mS (Kd.R_below (mR HO171.out) hb); replace HO174 := mS (Kd.R_below (mR HO174.out) hb); replace HO179 := mS (Kd.R_below (mR HO179.out) hb); have BK180 := mS (hbox); have GW180 := mG hg (mH1 HB.out GE165.out); have GE180 := mG hg (mH1 HB.out GE165.out); replace HB := mS (below_step (mH1 HB.out GE165.out) hb); have NB165_180 := mNl hg BK165.out; have NB180_165 := mNg hg BK165.out; replace BK165 := mB BK165 hb; clear hb hbox hg; have hnb121 := NB180_165.out; have hnc121 := NB165_180.out; have hcz122_0 : w120.cell? ⟨gb180, 0, none⟩ = some (.int .i64 0) := (blk_cell BK180.out 0).trans rfl; have hcz122_1 : w120.cell? ⟨gb180, 1, none⟩ = some (.int .i64 0) := (blk_cell BK180.out 1).trans rfl; have hcz122_2 : w120.cell? ⟨gb180, 2, none⟩ = some (.slice none 0 0) := (blk_cell BK180.out 2).trans rfl; have hfz122_0 := blk_frozen BK180.out 0; have hfz122_1 := blk_frozen BK180.out 1; have hfz122_2 := blk_frozen BK180.out 2; obtain ⟨Ao123, co123, eo123⟩ := Kd.R_slice HO179.out; subst eo123) | ((with_reducible refine gate_callee (f := 32) rfl ?_); refine goesL_ (some 40) rfl rfl Try.func32 (by kernel_rfl) rfl #[.agg #[.int .i64 t175, .int .i64 t176, .slice Ao123 t177.length co123], .int .i64 a1, .string a2, .string a3] rfl mA ?_; (with_reducible refine (impl_Overlap.calls k t175 t176 _ _ t177 a1 a2 a3 t181 _ ?side1 ?side2 A17.out).mono ?_); (case side1 => refine (Kd.R_reads' (e := 134) (base := w.heap.size) (ok := fun k_ => (True ∧ some k_ ≠ (.slice Ao116 t169.length co116 : Value).ownBlock)) (n := t177.length) (c := co123) ?_).2.2; exact (by (with_reducible repeat (first | apply Kd.R_alloc | apply Kd.R_drewN | apply Kd.R_drew)); exact (Kd.R_mono (Kd.R_far (p := ⟨gb180, 2, none⟩) (Kd.R_far (p := ⟨gb180, 1, none⟩) (Kd.R_far (p := ⟨gb180, 0, none⟩) (Kd.R_types HO179.out BK180.out (by decide)) (fun _ hk => hk.2) (.int .i64 t175)) (fun _ hk => hk.2) (.int .i64 t176)) (fun _ hk => hk.2) (.slice Ao123 t177.length co123)) (fun _ h_ => h_.1)))); (case side2 => exact (Kd.R_reads' HO179.out).2.1); rintro e w124 ⟨v182, rfl, ho0, hb⟩; refine ⟨_, rfl, ?_⟩; replace HO171 := mS (Kd.R_below (by (with_reducible repeat (first | apply Kd.R_alloc | apply Kd.R_drewN | apply Kd.R_drew)); exact (Kd.R_mono (Kd.R_far (p := ⟨gb180, 2, none⟩) (Kd.R_far (p := ⟨gb180, 1, none⟩) (Kd.R_far (p := ⟨gb180, 0, none⟩) (Kd.R_types HO171.out BK180.out (by decide)) (fun _ hk => hk.2) (.int .i64 t175)) (fun _ hk => hk.2) (.int .i64 t176)) (fun _ hk => hk.2) (.slice Ao123 t177.length co123)) (fun _ h_ => h_.1))) hb); replace HO179 := mS (Kd.R_below (by (with_reducible repeat (first | apply Kd.R_alloc | apply Kd.R_drewN | apply Kd.R_drew)); exact (Kd.R_mono (Kd.R_far (p := ⟨gb180, 2, none⟩) (Kd.R_far (p := ⟨gb180, 1, none⟩) (Kd.R_far (p := ⟨gb180, 0, none⟩) (Kd.R_types HO179.out BK180.out (by decide)) (fun _ hk => hk.2) (.int .i64 t175)) (fun _ hk => hk.2) (.int .i64 t176)) (fun _ hk => hk.2) (.slice Ao123 t177.length co123)) (fun _ h_ => h_.1))) hb); have HO183 := mS (Kd.R_lower (Kd.R_new' ho0 (Kd.R_lt (by (with_reducible repeat (first | apply Kd.R_alloc | apply Kd.R_drewN | apply Kd.R_drew)); exact (Kd.R_mono (Kd.R_far (p := ⟨gb180, 2, none⟩) (Kd.R_far (p := ⟨gb180, 1, none⟩) (Kd.R_far (p := ⟨gb180, 0, none⟩) (Kd.R_types HO174.out BK180.out (by decide)) (fun _ hk => hk.2) (.int .i64 t175)) (fun _ hk => hk.2) (.int .i64 t176)) (fun _ hk => hk.2) (.slice Ao123 t177.length co123)) (fun _ h_ => h_.1))))) (below_size (mH2 HB.out GE165.out GE180.out))); replace HO174 := mS (Kd.R_elder' (by (with_reducible repeat (first | apply Kd.R_alloc | apply Kd.R_drewN | apply Kd.R_drew)); exact (Kd.R_mono (Kd.R_far (p := ⟨gb180, 2, none⟩) (Kd.R_far (p := ⟨gb180, 1, none⟩) (Kd.R_far (p := ⟨gb180, 0, none⟩) (Kd.R_types HO174.out BK180.out (by decide)) (fun _ hk => hk.2) (.int .i64 t175)) (fun _ hk => hk.2) (.int .i64 t176)) (fun _ hk => hk.2) (.slice Ao123 t177.length co123)) (fun _ h_ => h_.1))) (Kd.R_base ho0) hb); replace BK165 := mS (blk_below (g := gb165) (o := .cells #[.int .i64 a0_0, .int .i64 a0_1, .slice A0_2 l0_2.length c0_2] 56 (0, 0)) (by (with_reducible repeat (first | refine blk_drewN ?_ _ | refine blk_drew ?_ | refine blk_alloc ?_ _)); refine blk_far ?_ NB165_180.out _; (with_reducible repeat (first | refine blk_drewN ?_ _ | refine blk_drew ?_ | refine blk_alloc ?_ _)); refine blk_far ?_ NB165_180.out _; (with_reducible repeat (first | refine blk_drewN ?_ _ | refine blk_drew ?_ | refine blk_alloc ?_ _)); refine blk_far ?_ NB165_180.out _; (with_reducible repeat (first | refine blk_drewN ?_ _ | refine blk_drew ?_ | refine blk_alloc ?_ _)); exact BK165.out) hb); replace BK180 := mS (blk_below (g := gb180) (o := .cells #[.int .i64 t175, .int .i64 t176, .slice Ao123 t177.length co123] 61 (0, 0)) (by (with_reducible repeat (first | refine blk_drewN ?_ _ | refine blk_drew ?_ | refine blk_alloc ?_ _)); refine blk_put (cs := #[.int .i64 t175, .int .i64 t176, .slice none 0 0]) ?_ 2 _ rfl; (with_reducible repeat (first | refine blk_drewN ?_ _ | refine blk_drew ?_ | refine blk_alloc ?_ _)); refine blk_put (cs := #[.int .i64 t175, .int .i64 0, .slice none 0 0]) ?_ 1 _ rfl; (with_reducible repeat (first | refine blk_drewN ?_ _ | refine blk_drew ?_ | refine blk_alloc ?_ _)); refine blk_put (cs := #[.int .i64 0, .int .i64 0, .slice none 0 0]) ?_ 0 _ rfl; (with_reducible repeat (first | refine blk_drewN ?_ _ | refine blk_drew ?_ | refine blk_alloc ?_ _)); exact BK180.out) hb); replace HB := mS (below_step (mH2 HB.out GE165.out GE180.out) hb); (try clear hb); (try clear hb2); (try clear hk); (try clear hi); (try clear ho0); obtain ⟨Ao125, co125, eo125⟩ := Kd.R_slice HO183.out; subst eo125; obtain ⟨Ao126, co126, eo126⟩ := Kd.R_slice HO174.out; subst eo126) | ((with_reducible refine gate_callee (f := 33) rfl ?_); refine goesL_ (some 43) rfl rfl Try.func33 (by kernel_rfl) rfl #[.slice Ao125 t181.length co125, .slice Ao126 t172.length co126] rfl mA ?_; (with_reducible refine (laws_eqIntS.calls k _ _ t181 _ _ t172 false _ ?side1 ?side2 ?side3 ?side4 A18.out).mono ?_); (case side1 => repeat (first | exact (Kd.R_reads' HO183.out).2.2 | (with_reducible refine Kd.C_alloc ?_ _) | (with_reducible refine Kd.C_drewN ?_ _) | (with_reducible refine Kd.C_drew ?_))); (case side2 => exact (Kd.R_reads' HO183.out).2.1); (case side3 => repeat (first | exact (Kd.R_reads' HO174.out).2.2 | (with_reducible refine Kd.C_alloc ?_ _) | (with_reducible refine Kd.C_drewN ?_ _) | (with_reducible refine Kd.C_drew ?_))); (case side4 => exact (Kd.R_reads' HO174.out).2.1); rintro e w' ⟨rfl, ⟨nd, rfl⟩⟩; refine ⟨_, rfl, ?_⟩))
     go_ret
     exact ⟨by first | rfl | (simp [errW_none, errW_some] <;> rfl) | (simp [*, errW_none, errW_some] <;> rfl), (mH2 HB.out GE165.out GE180.out)⟩

end Go.Proofs.Ytbepbgfkajnlbaa.MFnExactOverlap
