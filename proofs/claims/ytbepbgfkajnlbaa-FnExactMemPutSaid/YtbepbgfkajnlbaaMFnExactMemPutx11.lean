-- Written by mp.py, this session's own printer (wip/mp.py).
import Derived.Test.YtbepbgfkajnlbaaVMShort
import Derived.Test.YtbepbgfkajnlbaaMFnExactMemPutx0
import Derived.Test.YtbepbgfkajnlbaaMFnExactMemPutx10
namespace Go.Proofs.Ytbepbgfkajnlbaa.MFnExactMemPut
open Go.RowKit Go.Proofs.YtbepbgfkajnlbaaW.PrintWords Go.Proofs.YtbepbgfkajnlbaaW.PrintLast Go.Proofs.YtbepbgfkajnlbaaW.PrintMore Go.Proofs.Ytbepbgfkajnlbaa.MWords
attribute [local go_sem] max2_int min2_int max_two min_two max_three min_three max_four min_four   -- for this text's walks alone
set_option linter.unusedVariables false
set_option linter.unusedSimpArgs false

/-! ### laws_heldMem: function 53 -/
def laws_heldMem.f (k : Nat) (l0_0 : List (S35)) (a1 : Int) : Option (Int) := (laws_heldNodeS.f k l0_0 a1).bind fun t253 => (if t253 < 0 then (some (-1)) else (some t253))
theorem laws_heldMem.mono : ∀ a0 a1 k, LeO (laws_heldMem.f k a0 a1) (laws_heldMem.f (k + 1) a0 a1) := by
 intro a0 a1 k
 unfold laws_heldMem.f
 repeat' first
   | (with_reducible exact laws_heldNodeS.mono _ _ _)
   | (with_reducible exact LeO.refl _)
   | (with_reducible exact LeO.none _)
   | (with_reducible refine LeO.ite ?_ ?_)
   | (with_reducible refine LeO.bind ?_ (fun _ => ?_))
   | exact laws_heldNodeS.mono _ _ _
   | exact LeO.none _
   | refine LeO.ite ?_ ?_
   | refine LeO.bind ?_ (fun _ => ?_)
set_option maxHeartbeats 8000000 in
set_option maxRecDepth 100000 in
theorem laws_heldMem.calls (k : Nat) (A0_0 : Option Addr) (c0_0 : Nat) (l0_0 : List (S35)) (a1 : Int) (r : Int) (w : World) (hr0_0 : Kd.C k35 w A0_0 l0_0.length l0_0) (hc0_0 : l0_0.length ≤ c0_0) (h : laws_heldMem.f k l0_0 a1 = some r) :
  Calls Try.prog 53 #[.agg #[.slice A0_0 l0_0.length c0_0], .int .i64 a1] w fun e w' => e = .returned (.int .i64 r) ∧ Below w.heap.size w w' := by
 have hu26 := Try.underlying26
 have HR0_0 := mS hr0_0
 have HC0_0 := mS hc0_0
 clear hr0_0 hc0_0
 have HB := mS (Below.refl w.heap.size w)
 have H : ((laws_heldNodeS.f k l0_0 a1).bind fun t253 => (if t253 < 0 then (some (-1)) else (some t253))) = some r := h
 clear h
 replace H := Option.bind_eq_some_iff.mp H
 obtain ⟨t253, A30, H⟩ := H
 replace H : (if t253 < 0 then (some (-1)) else (some t253)) = some r := H
 have A3 := mS A30
 clear A30
 by_cases c4 : t253 < 0
 ·rw [if_pos c4] at H
  have c4b0 : decide (t253 < 0) = true := decide_eq_true c4
  clear c4
  obtain rfl := Option.some.inj H
  go_enter Try.func53, Try.ntmps53
  go_wp2_with (first | ((with_reducible refine gate_dst (N := 2) rfl ?_); refine box_event ?hg (N := 2) ?hd (cs := #[.slice A0_0 l0_0.length c0_0]) (t := 26) ?hr ?_; (case hd => rfl); (case hg => rfl); (case hr => first | (go_simp; done) | (go_simp; rfl)); intro gb252 hg w5 hbox hb; have BK252 := mS (hbox); have GW252 := mG hg (mH HB.out); have GE252 := mG hg (mH HB.out); replace HB := mS (below_step (mH HB.out) hb); clear hb hbox hg; have hcz6_0 : w5.cell? ⟨gb252, 0, none⟩ = some (.slice A0_0 l0_0.length c0_0) := (blk_cell BK252.out 0).trans rfl; have hfz6_0 := blk_frozen BK252.out 0) | ((with_reducible refine gate_callee (f := 106) rfl ?_); refine goesL_ (some 8) rfl rfl Try.func106 (by kernel_rfl) rfl #[.slice A0_0 l0_0.length c0_0, .int .i64 a1] rfl mA ?_; (with_reducible refine (laws_heldNodeS.calls k _ _ l0_0 a1 t253 _ ?side1 ?side2 A3.out).mono ?_); (case side1 => repeat (first | exact (Kd.C_below HR0_0.out HB.out) | (with_reducible refine Kd.C_alloc ?_ _) | (with_reducible refine Kd.C_drewN ?_ _) | (with_reducible refine Kd.C_drew ?_))); (case side2 => exact HC0_0.out); rintro e w7 ⟨rfl, hb⟩; refine ⟨_, rfl, ?_⟩; replace BK252 := mB BK252 hb; replace HB := mS (below_step (mH1 HB.out GE252.out) hb); (try clear hb); (try clear hb2); (try clear hk); (try clear hi)))
  go_ret
  exact ⟨by first | rfl | (simp [errW_none, errW_some] <;> rfl) | (simp [*, errW_none, errW_some] <;> rfl), (mH1 HB.out GE252.out)⟩
 ·rw [if_neg c4] at H
  have c4b0 : decide (t253 < 0) = false := decide_eq_false c4
  clear c4
  obtain rfl := Option.some.inj H
  go_enter Try.func53, Try.ntmps53
  go_wp2_with (first | ((with_reducible refine gate_dst (N := 2) rfl ?_); refine box_event ?hg (N := 2) ?hd (cs := #[.slice A0_0 l0_0.length c0_0]) (t := 26) ?hr ?_; (case hd => rfl); (case hg => rfl); (case hr => first | (go_simp; done) | (go_simp; rfl)); intro gb252 hg w8 hbox hb; have BK252 := mS (hbox); have GW252 := mG hg (mH HB.out); have GE252 := mG hg (mH HB.out); replace HB := mS (below_step (mH HB.out) hb); clear hb hbox hg; have hcz9_0 : w8.cell? ⟨gb252, 0, none⟩ = some (.slice A0_0 l0_0.length c0_0) := (blk_cell BK252.out 0).trans rfl; have hfz9_0 := blk_frozen BK252.out 0) | ((with_reducible refine gate_callee (f := 106) rfl ?_); refine goesL_ (some 8) rfl rfl Try.func106 (by kernel_rfl) rfl #[.slice A0_0 l0_0.length c0_0, .int .i64 a1] rfl mA ?_; (with_reducible refine (laws_heldNodeS.calls k _ _ l0_0 a1 t253 _ ?side1 ?side2 A3.out).mono ?_); (case side1 => repeat (first | exact (Kd.C_below HR0_0.out HB.out) | (with_reducible refine Kd.C_alloc ?_ _) | (with_reducible refine Kd.C_drewN ?_ _) | (with_reducible refine Kd.C_drew ?_))); (case side2 => exact HC0_0.out); rintro e w10 ⟨rfl, hb⟩; refine ⟨_, rfl, ?_⟩; replace BK252 := mB BK252 hb; replace HB := mS (below_step (mH1 HB.out GE252.out) hb); (try clear hb); (try clear hb2); (try clear hk); (try clear hi)))
  go_ret
  exact ⟨by first | rfl | (simp [errW_none, errW_some] <;> rfl) | (simp [*, errW_none, errW_some] <;> rfl), (mH1 HB.out GE252.out)⟩

end Go.Proofs.Ytbepbgfkajnlbaa.MFnExactMemPut
