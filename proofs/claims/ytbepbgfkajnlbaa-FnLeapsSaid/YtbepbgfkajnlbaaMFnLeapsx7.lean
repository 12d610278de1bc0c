-- Written by mp.py, this session's own printer (wip/mp.py).
import Derived.Test.YtbepbgfkajnlbaaVMShort
import Derived.Test.YtbepbgfkajnlbaaMFnLeapsx0
import Derived.Test.YtbepbgfkajnlbaaMFnLeapsx1
import Derived.Test.YtbepbgfkajnlbaaMFnLeapsx2
import Derived.Test.YtbepbgfkajnlbaaMFnLeapsx4
import Derived.Test.YtbepbgfkajnlbaaMFnLeapsx5
import Derived.Test.YtbepbgfkajnlbaaMFnLeapsx6
namespace Go.Proofs.Ytbepbgfkajnlbaa.MFnLeaps
open Go.RowKit Go.Proofs.YtbepbgfkajnlbaaW.PrintWords Go.Proofs.YtbepbgfkajnlbaaW.PrintLast Go.Proofs.YtbepbgfkajnlbaaW.PrintMore Go.Proofs.Ytbepbgfkajnlbaa.MWords
attribute [local go_sem] max2_int min2_int max_two min_two max_three min_three max_four min_four   -- for this text's walks alone
set_option linter.unusedVariables false
set_option linter.unusedSimpArgs false

/-! ### laws_FnLeaps: function 3 -/
mutual
def laws_FnLeaps.l0 : Nat → ByteArray → List Int → Int → Int → List (S35) → Option (Bool)
 | 0, _, _, _, _, _ => none
 | k + 1, x4, x5, x6, x7, x276000 => if x7 < (x276000.length : Int) then (if 0 ≤ x7 then (if (Op.bytesLess (((rd_T35 x276000 x7).f0.f0).toList) x4.toList) = true then (laws_FnLeaps.l0 k x4 x5 (wrap64 (x6 + 1)) (wrap64 (x7 + 1)) x276000) else (laws_FnLeaps.l0 k x4 x5 x6 (wrap64 (x7 + 1)) x276000)) else (none)) else (laws_FnLeaps.l1 k x5 x6 0 x276000)
def laws_FnLeaps.l1 : Nat → List Int → Int → Int → List (S35) → Option (Bool)
 | 0, _, _, _, _ => none
 | k + 1, x5, x6, x8, x276000 => if x8 < (x5.length : Int) then (if 0 ≤ x8 then (if (rd x5 x8) < 0 then (laws_FnLeaps.j2 k x5 x6 x8 true x276000) else (if (rd x5 x8) ≥ x6 then (laws_FnLeaps.j2 k x5 x6 x8 true x276000) else (if x8 > 0 then (if 0 ≤ (wrap64 (x8 - 1)) then (if (wrap64 (x8 - 1)) < (x5.length : Int) then (laws_FnLeaps.j2 k x5 x6 x8 (decide ((rd x5 (wrap64 (x8 - 1))) ≥ (rd x5 x8))) x276000) else (none)) else (none)) else (laws_FnLeaps.j2 k x5 x6 x8 false x276000)))) else (none)) else (if ((x6 == 0) == ((x5.length : Int) == 0)) = true then (if x6 = 0 then ((impl_MemOk.f k x276000).bind fun t282 => (some t282)) else (if 0 ≤ (wrap64 ((x5.length : Int) - 1)) then (if (wrap64 ((x5.length : Int) - 1)) < (x5.length : Int) then (if (rd x5 (wrap64 ((x5.length : Int) - 1))) = (wrap64 (x6 - 1)) then ((impl_MemOk.f k x276000).bind fun t284 => (some t284)) else (some false)) else (none)) else (none))) else (some false))
def laws_FnLeaps.j2 : Nat → List Int → Int → Int → Bool → List (S35) → Option (Bool)
 | 0, _, _, _, _, _ => none
 | k + 1, x5, x6, x8, x77, x276000 => if x77 = true then (some false) else (laws_FnLeaps.l1 k x5 x6 (wrap64 (x8 + 1)) x276000)
end
def laws_FnLeaps.f (k : Nat) (l0 : List Int) : Option (Bool) := (laws_big.f l0).bind fun t270 => (if t270 = true then (some true) else ((spec_DrawLeaps.f k l0).bind fun bt271 => ((impl_Leaps.f k bt271.1 bt271.2).bind fun t276 => ((spec_MemOk.f k bt271.1).bind fun t279 => (if t279 = true then (laws_FnLeaps.l0 k bt271.2 t276 0 0 bt271.1) else ((impl_MemOk.f k bt271.1).bind fun t280 => (some (!t280))))))))
theorem laws_FnLeaps.mono_l : ∀ k, (∀ y0 y1 y2 y3 y4, LeO (laws_FnLeaps.l0 k y0 y1 y2 y3 y4) (laws_FnLeaps.l0 (k + 1) y0 y1 y2 y3 y4)) ∧ (∀ y0 y1 y2 y3, LeO (laws_FnLeaps.l1 k y0 y1 y2 y3) (laws_FnLeaps.l1 (k + 1) y0 y1 y2 y3)) ∧ (∀ y0 y1 y2 y3 y4, LeO (laws_FnLeaps.j2 k y0 y1 y2 y3 y4) (laws_FnLeaps.j2 (k + 1) y0 y1 y2 y3 y4))
 | 0 => ⟨fun _ _ _ _ _ r h => by simp [laws_FnLeaps.l0] at h, fun _ _ _ _ r h => by simp [laws_FnLeaps.l1] at h, fun _ _ _ _ _ r h => by simp [laws_FnLeaps.j2] at h⟩
 | k + 1 => by
  obtain ⟨ih0, ih1, ih2⟩ := laws_FnLeaps.mono_l k
  refine ⟨?_, ?_, ?_⟩
  ·intro y0 y1 y2 y3 y4
   unfold laws_FnLeaps.l0
   repeat' first
   | (with_reducible exact ih0 _ _ _ _ _)
   | (with_reducible exact ih1 _ _ _ _)
   | (with_reducible exact ih2 _ _ _ _ _)
   | (with_reducible exact impl_Leaps.mono _ _ _)
   | (with_reducible exact impl_MemOk.mono _ _)
   | (with_reducible exact spec_DrawLeaps.mono _ _)
   | (with_reducible exact spec_MemOk.mono _ _)
   | (with_reducible exact LeO.refl _)
   | (with_reducible exact LeO.none _)
   | (with_reducible refine LeO.ite ?_ ?_)
   | (with_reducible refine LeO.bind ?_ (fun _ => ?_))
   | exact ih0 _ _ _ _ _
   | exact ih1 _ _ _ _
   | exact ih2 _ _ _ _ _
   | exact impl_Leaps.mono _ _ _
   | exact impl_MemOk.mono _ _
   | exact spec_DrawLeaps.mono _ _
   | exact spec_MemOk.mono _ _
   | exact LeO.none _
   | refine LeO.ite ?_ ?_
   | refine LeO.bind ?_ (fun _ => ?_)
  ·intro y0 y1 y2 y3
   unfold laws_FnLeaps.l1
   repeat' first
   | (with_reducible exact ih0 _ _ _ _ _)
   | (with_reducible exact ih1 _ _ _ _)
   | (with_reducible exact ih2 _ _ _ _ _)
   | (with_reducible exact impl_Leaps.mono _ _ _)
   | (with_reducible exact impl_MemOk.mono _ _)
   | (with_reducible exact spec_DrawLeaps.mono _ _)
   | (with_reducible exact spec_MemOk.mono _ _)
   | (with_reducible exact LeO.refl _)
   | (with_reducible exact LeO.none _)
   | (with_reducible refine LeO.ite ?_ ?_)
   | (with_reducible refine LeO.bind ?_ (fun _ => ?_))
   | exact ih0 _ _ _ _ _
   | exact ih1 _ _ _ _
   | exact ih2 _ _ _ _ _
   | exact impl_Leaps.mono _ _ _
   | exact impl_MemOk.mono _ _
   | exact spec_DrawLeaps.mono _ _
   | exact spec_MemOk.mono _ _
   | exact LeO.none _
   | refine LeO.ite ?_ ?_
   | refine LeO.bind ?_ (fun _ => ?_)
  ·intro y0 y1 y2 y3 y4
   unfold laws_FnLeaps.j2
   repeat' first
   | (with_reducible exact ih0 _ _ _ _ _)
   | (with_reducible exact ih1 _ _ _ _)
   | (with_reducible exact ih2 _ _ _ _ _)
   | (with_reducible exact impl_Leaps.mono _ _ _)
   | (with_reducible exact impl_MemOk.mono _ _)
   | (with_reducible exact spec_DrawLeaps.mono _ _)
   | (with_reducible exact spec_MemOk.mono _ _)
   | (with_reducible exact LeO.refl _)
   | (with_reducible exact LeO.none _)
   | (with_reducible refine LeO.ite ?_ ?_)
   | (with_reducible refine LeO.bind ?_ (fun _ => ?_))
   | exact ih0 _ _ _ _ _
   | exact ih1 _ _ _ _
   | exact ih2 _ _ _ _ _
   | exact impl_Leaps.mono _ _ _
   | exact impl_MemOk.mono _ _
   | exact spec_DrawLeaps.mono _ _
   | exact spec_MemOk.mono _ _
   | exact LeO.none _
   | refine LeO.ite ?_ ?_
   | refine LeO.bind ?_ (fun _ => ?_)
theorem laws_FnLeaps.mono : ∀ a0 k, LeO (laws_FnLeaps.f k a0) (laws_FnLeaps.f (k + 1) a0) := by
 intro a0 k
 obtain ⟨ih0, ih1, ih2⟩ := laws_FnLeaps.mono_l k
 unfold laws_FnLeaps.f
 repeat' first
   | (with_reducible exact ih0 _ _ _ _ _)
   | (with_reducible exact ih1 _ _ _ _)
   | (with_reducible exact ih2 _ _ _ _ _)
   | (with_reducible exact impl_Leaps.mono _ _ _)
   | (with_reducible exact impl_MemOk.mono _ _)
   | (with_reducible exact spec_DrawLeaps.mono _ _)
   | (with_reducible exact spec_MemOk.mono _ _)
   | (with_reducible exact LeO.refl _)
   | (with_reducible exact LeO.none _)
   | (with_reducible refine LeO.ite ?_ ?_)
   | (with_reducible refine LeO.bind ?_ (fun _ => ?_))
   | exact ih0 _ _ _ _ _
   | exact ih1 _ _ _ _
   | exact ih2 _ _ _ _ _
   | exact impl_Leaps.mono _ _ _
   | exact impl_MemOk.mono _ _
   | exact spec_DrawLeaps.mono _ _
   | exact spec_MemOk.mono _ _
   | exact LeO.none _
   | refine LeO.ite ?_ ?_
   | refine LeO.bind ?_ (fun _ => ?_)
set_option maxHeartbeats 8000000 in
set_option maxRecDepth 100000 in
theorem laws_FnLeaps.calls (k : Nat) (A0 : Option Addr) (c0 : Nat) (l0 : List Int) (r : Bool) (w : World) (hr0 : Kd.C (Kd.int .u8) w A0 l0.length l0) (hc0 : l0.length ≤ c0) (ht_ : r = true) (h : laws_FnLeaps.f k l0 = some r) :
  Calls Try.prog 3 #[.slice A0 l0.length c0] w fun e w' => e = .returned (.bool r) ∧ Below w.heap.size w w' := by
 have hu26 := Try.underlying26
 have HR0 := mS hr0
 have HC0 := mS hc0
 clear hr0 hc0
 have HB := mS (Below.refl w.heap.size w)
 have H : ((laws_big.f l0).bind fun t270 => (if t270 = true then (some true) else ((spec_DrawLeaps.f k l0).bind fun bt271 => ((impl_Leaps.f k bt271.1 bt271.2).bind fun t276 => ((spec_MemOk.f k bt271.1).bind fun t279 => (if t279 = true then (laws_FnLeaps.l0 k bt271.2 t276 0 0 bt271.1) else ((impl_MemOk.f k bt271.1).bind fun t280 => (some (!t280))))))))) = some r := h
 clear h
 replace H := Option.bind_eq_some_iff.mp H
 obtain ⟨t270, A20, H⟩ := H
 replace H : (if t270 = true then (some true) else ((spec_DrawLeaps.f k l0).bind fun bt271 => ((impl_Leaps.f k bt271.1 bt271.2).bind fun t276 => ((spec_MemOk.f k bt271.1).bind fun t279 => (if t279 = true then (laws_FnLeaps.l0 k bt271.2 t276 0 0 bt271.1) else ((impl_MemOk.f k bt271.1).bind fun t280 => (some (!t280)))))))) = some r := H
 have A2 := mS A20
 clear A20
 by_cases c3 : t270 = true
 ·subst c3
  have H1 := H
  rw [if_pos rfl] at H1
  clear H
  have H := H1
  clear H1
  obtain rfl := Option.some.inj H
  go_enter Try.func3, Try.ntmps3
  go_wp2_with (first | (go_at_call 14; (with_reducible refine (laws_big.calls _ _ l0 true _ ?side1 ?side2 A2.out).mono ?_); (case side1 => exact mC HR0.out); (case side2 => exact HC0.out); rintro e w' ⟨rfl, ⟨nd, rfl⟩⟩; (try first | exact ⟨rfl, _, World.drewN_drewN _ _ _⟩ | exact ⟨rfl, _, Eq.trans (World.drewN_drewN _ _ _) (congrArg (World.drewN _) (Nat.add_assoc _ _ _))⟩)))
  repeat (go_quiet (first | (go_at_call 14; (with_reducible refine (laws_big.calls _ _ l0 true _ ?side1 ?side2 A2.out).mono ?_); (case side1 => exact mC HR0.out); (case side2 => exact HC0.out); rintro e w' ⟨rfl, ⟨nd, rfl⟩⟩; (try first | exact ⟨rfl, _, World.drewN_drewN _ _ _⟩ | exact ⟨rfl, _, Eq.trans (World.drewN_drewN _ _ _) (congrArg (World.drewN _) (Nat.add_assoc _ _ _))⟩))); try go_wp2_with (first | (go_at_call 14; (with_reducible refine (laws_big.calls _ _ l0 true _ ?side1 ?side2 A2.out).mono ?_); (case side1 => exact mC HR0.out); (case side2 => exact HC0.out); rintro e w' ⟨rfl, ⟨nd, rfl⟩⟩; (try first | exact ⟨rfl, _, World.drewN_drewN _ _ _⟩ | exact ⟨rfl, _, Eq.trans (World.drewN_drewN _ _ _) (congrArg (World.drewN _) (Nat.add_assoc _ _ _))⟩))))
  go_ret
  exact ⟨mEw, (mH HB.out)⟩
 ·replace c3 := Bool.eq_false_iff.mpr c3
  subst c3
  have H1 := H
  rw [if_neg (show ¬ (false = true) by decide)] at H1
  clear H
  have H := H1
  clear H1
  replace H := Option.bind_eq_some_iff.mp H
  obtain ⟨⟨t271, t274⟩, A40, H⟩ := H
  replace H : ((impl_Leaps.f k t271 t274).bind fun t276 => ((spec_MemOk.f k t271).bind fun t279 => (if t279 = true then (laws_FnLeaps.l0 k t274 t276 0 0 t271) else ((impl_MemOk.f k t271).bind fun t280 => (some (!t280)))))) = some r := H
  have A4 := mS A40
  clear A40
  replace H := Option.bind_eq_some_iff.mp H
  obtain ⟨t276, A50, H⟩ := H
  replace H : ((spec_MemOk.f k t271).bind fun t279 => (if t279 = true then (laws_FnLeaps.l0 k t274 t276 0 0 t271) else ((impl_MemOk.f k t271).bind fun t280 => (some (!t280))))) = some r := H
  have A5 := mS A50
  clear A50
  replace H := Option.bind_eq_some_iff.mp H
  obtain ⟨t279, A60, H⟩ := H
  replace H : (if t279 = true then (laws_FnLeaps.l0 k t274 t276 0 0 t271) else ((impl_MemOk.f k t271).bind fun t280 => (some (!t280)))) = some r := H
  have A6 := mS A60
  clear A60
  by_cases c7 : t279 = true
  ·subst c7
   have H1 := H
   rw [if_pos rfl] at H1
   clear H
   have H := H1
   clear H1
   have H' := mS H
   clear H
   go_enter Try.func3, Try.ntmps3
   go_wp2_with (first | (go_at_call 14; (with_reducible refine (laws_big.calls _ _ l0 false _ ?side1 ?side2 A2.out).mono ?_); (case side1 => exact mC HR0.out); (case side2 => exact HC0.out); rintro e w' ⟨rfl, ⟨nd, rfl⟩⟩; (try first | exact ⟨rfl, _, World.drewN_drewN _ _ _⟩ | exact ⟨rfl, _, Eq.trans (World.drewN_drewN _ _ _) (congrArg (World.drewN _) (Nat.add_assoc _ _ _))⟩)) | (go_at_call 15; (with_reducible refine (spec_DrawLeaps.calls k _ _ l0 t271 t274 _ ?side1 ?side2 A4.out).mono ?_); (case side1 => exact mC HR0.out); (case side2 => exact HC0.out); rintro e w8 ⟨v272, rfl, ho0, hb⟩; have HO273 := mS (Kd.R_lower ho0 (below_size (mH HB.out))); replace HB := mS (below_step (mH HB.out) hb); (try clear hb); (try clear hb2); (try clear hk); (try clear hi); (try clear ho0)) | ((with_reducible refine gate_dst (N := 3) rfl ?_); (try (refine gate_guard (by rfl) ?_; dsimp only)); refine mBx 3 #[.slice none 0 0] 26 ?_; intro gb275 hg w9 hbox hb; replace HO273 := mS (Kd.R_below (mR HO273.out) hb); have BK275 := mS (hbox); have GW275 := mG hg (mH HB.out); have GE275 := mG hg (mH HB.out); replace HB := mS (below_step (mH HB.out) hb); clear hb hbox hg; obtain ⟨Ao10, co10, eo10⟩ := Kd.R_slice HO273.out; subst eo10; have hcz11_0 := mZ BK275.out 0; have hfz11_0 := blk_frozen BK275.out 0) | (go_at_call 16; (with_reducible refine (impl_Leaps.calls k _ _ t271 t274 t276 _ ?side1 ?side2 A5.out).mono ?_); (case side1 => refine (Kd.R_reads' (e := 35) (base := w.heap.size) (ok := fun k_ => True) (n := t271.length) (c := co10) ?_).2.2; exact (by refine mR ?_; exact (Kd.R_mono (Kd.R_far (p := ⟨gb275, 0, none⟩) (Kd.R_types HO273.out BK275.out (by decide)) (fun _ hk => hk.2) (.slice Ao10 t271.length co10)) (fun _ h_ => h_.1)))); (case side2 => exact (Kd.R_reads' HO273.out).2.1); rintro e w12 ⟨v277, rfl, ho0, hb⟩; replace HO273 := mS (Kd.R_below (by refine mR ?_; exact (Kd.R_mono (Kd.R_far (p := ⟨gb275, 0, none⟩) (Kd.R_types HO273.out BK275.out (by decide)) (fun _ hk => hk.2) (.slice Ao10 t271.length co10)) (fun _ h_ => h_.1))) hb); have HO278 := mS (Kd.R_lower ho0 (below_size (mH1 HB.out GE275.out))); replace BK275 := mS (blk_below (g := gb275) (o := .cells #[.slice Ao10 t271.length co10] 26 (0, 0)) (by refine mK ?_; refine blk_put (cs := #[.slice none 0 0]) ?_ 0 _ rfl; refine mK ?_; exact BK275.out) hb); replace HB := mS (below_step (mH1 HB.out GE275.out) hb); (try clear hb); (try clear hb2); (try clear hk); (try clear hi); (try clear ho0); have hcz13_0 := mZ BK275.out 0; have hfz13_0 := blk_frozen BK275.out 0) | (go_at_call 17; (with_reducible refine (spec_MemOk.calls k _ _ t271 true _ ?side1 ?side2 A6.out).mono ?_); (case side1 => exact mC (Kd.R_reads' HO273.out).2.2); (case side2 => exact (Kd.R_reads' HO273.out).2.1); rintro e w14 ⟨rfl, hb⟩; replace HO273 := mS (Kd.R_below (mR HO273.out) hb); replace HO278 := mS (Kd.R_below (mR HO278.out) hb); replace BK275 := mB BK275 hb; replace HB := mS (below_step (mH1 HB.out GE275.out) hb); (try clear hb); (try clear hb2); (try clear hk); (try clear hi)))
   repeat (go_quiet (first | (go_at_call 14; (with_reducible refine (laws_big.calls _ _ l0 false _ ?side1 ?side2 A2.out).mono ?_); (case side1 => exact mC HR0.out); (case side2 => exact HC0.out); rintro e w' ⟨rfl, ⟨nd, rfl⟩⟩; (try first | exact ⟨rfl, _, World.drewN_drewN _ _ _⟩ | exact ⟨rfl, _, Eq.trans (World.drewN_drewN _ _ _) (congrArg (World.drewN _) (Nat.add_assoc _ _ _))⟩)) | (go_at_call 15; (with_reducible refine (spec_DrawLeaps.calls k _ _ l0 t271 t274 _ ?side1 ?side2 A4.out).mono ?_); (case side1 => exact mC HR0.out); (case side2 => exact HC0.out); rintro e w8 ⟨v272, rfl, ho0, hb⟩; have HO273 := mS (Kd.R_lower ho0 (below_size (mH HB.out))); replace HB := mS (below_step (mH HB.out) hb); (try clear hb); (try clear hb2); (try clear hk); (try clear hi); (try clear ho0)) | ((with_reducible refine gate_dst (N := 3) rfl ?_); (try (refine gate_guard (by rfl) ?_; dsimp only)); refine mBx 3 #[.slice none 0 0] 26 ?_; intro gb275 hg w9 hbox hb; replace HO273 := mS (Kd.R_below (mR HO273.out) hb); have BK275 := mS (hbox); have GW275 := mG hg (mH HB.out); have GE275 := mG hg (mH HB.out); replace HB := mS (below_step (mH HB.out) hb); clear hb hbox hg; obtain ⟨Ao10, co10, eo10⟩ := Kd.R_slice HO273.out; subst eo10; have hcz11_0 := mZ BK275.out 0; have hfz11_0 := blk_frozen BK275.out 0) | (go_at_call 16; (with_reducible refine (impl_Leaps.calls k _ _ t271 t274 t276 _ ?side1 ?side2 A5.out).mono ?_); (case side1 => refine (Kd.R_reads' (e := 35) (base := w.heap.size) (ok := fun k_ => True) (n := t271.length) (c := co10) ?_).2.2; exact (by refine mR ?_; exact (Kd.R_mono (Kd.R_far (p := ⟨gb275, 0, none⟩) (Kd.R_types HO273.out BK275.out (by decide)) (fun _ hk => hk.2) (.slice Ao10 t271.length co10)) (fun _ h_ => h_.1)))); (case side2 => exact (Kd.R_reads' HO273.out).2.1); rintro e w12 ⟨v277, rfl, ho0, hb⟩; replace HO273 := mS (Kd.R_below (by refine mR ?_; exact (Kd.R_mono (Kd.R_far (p := ⟨gb275, 0, none⟩) (Kd.R_types HO273.out BK275.out (by decide)) (fun _ hk => hk.2) (.slice Ao10 t271.length co10)) (fun _ h_ => h_.1))) hb); have HO278 := mS (Kd.R_lower ho0 (below_size (mH1 HB.out GE275.out))); replace BK275 := mS (blk_below (g := gb275) (o := .cells #[.slice Ao10 t271.length co10] 26 (0, 0)) (by refine mK ?_; refine blk_put (cs := #[.slice none 0 0]) ?_ 0 _ rfl; refine mK ?_; exact BK275.out) hb); replace HB := mS (below_step (mH1 HB.out GE275.out) hb); (try clear hb); (try clear hb2); (try clear hk); (try clear hi); (try clear ho0); have hcz13_0 := mZ BK275.out 0; have hfz13_0 := blk_frozen BK275.out 0) | (go_at_call 17; (with_reducible refine (spec_MemOk.calls k _ _ t271 true _ ?side1 ?side2 A6.out).mono ?_); (case side1 => exact mC (Kd.R_reads' HO273.out).2.2); (case side2 => exact (Kd.R_reads' HO273.out).2.1); rintro e w14 ⟨rfl, hb⟩; replace HO273 := mS (Kd.R_below (mR HO273.out) hb); replace HO278 := mS (Kd.R_below (mR HO278.out) hb); replace BK275 := mB BK275 hb; replace HB := mS (below_step (mH1 HB.out GE275.out) hb); (try clear hb); (try clear hb2); (try clear hk); (try clear hi))); try go_wp2_with (first | (go_at_call 14; (with_reducible refine (laws_big.calls _ _ l0 false _ ?side1 ?side2 A2.out).mono ?_); (case side1 => exact mC HR0.out); (case side2 => exact HC0.out); rintro e w' ⟨rfl, ⟨nd, rfl⟩⟩; (try first | exact ⟨rfl, _, World.drewN_drewN _ _ _⟩ | exact ⟨rfl, _, Eq.trans (World.drewN_drewN _ _ _) (congrArg (World.drewN _) (Nat.add_assoc _ _ _))⟩)) | (go_at_call 15; (with_reducible refine (spec_DrawLeaps.calls k _ _ l0 t271 t274 _ ?side1 ?side2 A4.out).mono ?_); (case side1 => exact mC HR0.out); (case side2 => exact HC0.out); rintro e w8 ⟨v272, rfl, ho0, hb⟩; have HO273 := mS (Kd.R_lower ho0 (below_size (mH HB.out))); replace HB := mS (below_step (mH HB.out) hb); (try clear hb); (try clear hb2); (try clear hk); (try clear hi); (try clear ho0)) | ((with_reducible refine gate_dst (N := 3) rfl ?_); (try (refine gate_guard (by rfl) ?_; dsimp only)); refine mBx 3 #[.slice none 0 0] 26 ?_; intro gb275 hg w9 hbox hb; replace HO273 := mS (Kd.R_below (mR HO273.out) hb); have BK275 := mS (hbox); have GW275 := mG hg (mH HB.out); have GE275 := mG hg (mH HB.out); replace HB := mS (below_step (mH HB.out) hb); clear hb hbox hg; obtain ⟨Ao10, co10, eo10⟩ := Kd.R_slice HO273.out; subst eo10; have hcz11_0 := mZ BK275.out 0; have hfz11_0 := blk_frozen BK275.out 0) | (go_at_call 16; (with_reducible refine (impl_Leaps.calls k _ _ t271 t274 t276 _ ?side1 ?side2 A5.out).mono ?_); (case side1 => refine (Kd.R_reads' (e := 35) (base := w.heap.size) (ok := fun k_ => True) (n := t271.length) (c := co10) ?_).2.2; exact (by refine mR ?_; exact (Kd.R_mono (Kd.R_far (p := ⟨gb275, 0, none⟩) (Kd.R_types HO273.out BK275.out (by decide)) (fun _ hk => hk.2) (.slice Ao10 t271.length co10)) (fun _ h_ => h_.1)))); (case side2 => exact (Kd.R_reads' HO273.out).2.1); rintro e w12 ⟨v277, rfl, ho0, hb⟩; replace HO273 := mS (Kd.R_below (by refine mR ?_; exact (Kd.R_mono (Kd.R_far (p := ⟨gb275, 0, none⟩) (Kd.R_types HO273.out BK275.out (by decide)) (fun _ hk => hk.2) (.slice Ao10 t271.length co10)) (fun _ h_ => h_.1))) hb); have HO278 := mS (Kd.R_lower ho0 (below_size (mH1 HB.out GE275.out))); replace BK275 := mS (blk_below (g := gb275) (o := .cells #[.slice Ao10 t271.length co10] 26 (0, 0)) (by refine mK ?_; refine blk_put (cs := #[.slice none 0 0]) ?_ 0 _ rfl; refine mK ?_; exact BK275.out) hb); replace HB := mS (below_step (mH1 HB.out GE275.out) hb); (try clear hb); (try clear hb2); (try clear hk); (try clear hi); (try clear ho0); have hcz13_0 := mZ BK275.out 0; have hfz13_0 := blk_frozen BK275.out 0) | (go_at_call 17; (with_reducible refine (spec_MemOk.calls k _ _ t271 true _ ?side1 ?side2 A6.out).mono ?_); (case side1 => exact mC (Kd.R_reads' HO273.out).2.2); (case side2 => exact (Kd.R_reads' HO273.out).2.1); rintro e w14 ⟨rfl, hb⟩; replace HO273 := mS (Kd.R_below (mR HO273.out) hb); replace HO278 := mS (Kd.R_below (mR HO278.out) hb); replace BK275 := mB BK275 hb; replace HB := mS (below_step (mH1 HB.out GE275.out) hb); (try clear hb); (try clear hb2); (try clear hk); (try clear hi))))
   go_loopg [6, 7] k (fun kq v6 v7 w' => ∃ (x6_1 : Int) (x7_1 : Int), v6 = .int .i64 x6_1 ∧ v7 = .int .i64 x7_1 ∧ Aside0 (laws_FnLeaps.l0 kq t274 t276 x6_1 x7_1 t271 = some r) ∧ Aside0 (kq ≤ k) ∧ Aside0 (Kd.R (Kd.int .i64) 3 w' w.heap.size (fun _ => True) v277 t276) ∧ Aside0 (Kd.R k35 35 w' w.heap.size (fun _ => True) (.slice Ao10 t271.length co10) t271) ∧ Aside0 (w'.heap[gb275]? = some (.cells #[(.slice Ao10 t271.length co10)] 26 (0, 0))) ∧ Aside0 (Below w.heap.size w w'))
   case atStart => exact ⟨(0), (0), mE, mE, H', ⟨Nat.le_refl _⟩, ⟨mR HO278.out⟩, ⟨mR HO273.out⟩, ⟨mK BK275.out⟩, ⟨(mH1 HB.out GE275.out)⟩⟩
   case round =>
    clear H'
    try clear p2
    try clear c3
    try clear c7
    try clear hcz11_0
    try clear hcz13_0
    try clear hfz11_0
    try clear hfz13_0
    obtain ⟨x6_1, x7_1, rfl, rfl, HA, HK1, HO_5, HO_276000, BK275, HB⟩ := hrel
    cases gk with
    | zero => exact absurd HA.out (by simp [laws_FnLeaps.l0])
    | succ k1 =>
     have H := HA.out
     clear HA
     simp only [laws_FnLeaps.l0] at H
     by_cases c15 : x7_1 < (t271.length : Int)
     ·rw [if_pos c15] at H
      have c15b0 := decide_eq_true c15
      clear c15
      by_cases c16 : 0 ≤ x7_1
      ·rw [if_pos c16] at H
       have c16b0 := decide_eq_true c16
       clear c16
       by_cases c17 : (Op.bytesLess (((rd_T35 t271 x7_1).f0.f0).toList) t274.toList) = true
       ·rw [if_pos c17] at H
        have c17b0 : (Op.bytesLess (((rd_T35 t271 x7_1).f0.f0).toList) t274.toList) = true := c17
        clear c17
        have H' := mS H
        clear H
        have hcz18_0 := mZ BK275.out 0
        have hfz18_0 := blk_frozen BK275.out 0
        have p281 : 0 ≤ (x7_1 : Int) := mD
        have q281 : x7_1 < (t271.length : Int) := mD
        obtain ⟨ad281, e281, hx281_0, hx281_1, hx281_2, hx281_3⟩ := at_T35 (Kd.R_reads' HO_276000.out).2.2 x7_1 p281 q281
        cases e281
        replace p281 := eq_true p281
        replace q281 := eq_true q281
        go_wp2
        repeat (go_quiet (fail); try go_wp2)
        go_roundg k1
        case measure => have := HK1.out; omega
        case rel => exact ⟨(wrap64 (x6_1 + 1)), (wrap64 (x7_1 + 1)), mE, mE, H', ⟨by have := HK1.out; omega⟩, ⟨mR HO_5.out⟩, ⟨mR HO_276000.out⟩, ⟨mK BK275.out⟩, ⟨(mH1 HB.out GE275.out)⟩⟩
       ·rw [if_neg c17] at H
        have c17b0 : (Op.bytesLess (((rd_T35 t271 x7_1).f0.f0).toList) t274.toList) = false := by simpa using c17
        clear c17
        have H' := mS H
        clear H
        have hcz19_0 := mZ BK275.out 0
        have hfz19_0 := blk_frozen BK275.out 0
        have p281 : 0 ≤ (x7_1 : Int) := mD
        have q281 : x7_1 < (t271.length : Int) := mD
        obtain ⟨ad281, e281, hx281_0, hx281_1, hx281_2, hx281_3⟩ := at_T35 (Kd.R_reads' HO_276000.out).2.2 x7_1 p281 q281
        cases e281
        replace p281 := eq_true p281
        replace q281 := eq_true q281
        go_wp2
        repeat (go_quiet (fail); try go_wp2)
        go_roundg k1
        case measure => have := HK1.out; omega
        case rel => exact ⟨(x6_1), (wrap64 (x7_1 + 1)), mE, mE, H', ⟨by have := HK1.out; omega⟩, ⟨mR HO_5.out⟩, ⟨mR HO_276000.out⟩, ⟨mK BK275.out⟩, ⟨(mH1 HB.out GE275.out)⟩⟩
      ·rw [if_neg c16] at H
       exact absurd H (by simp)
     ·rw [if_neg c15] at H
      have c15b0 := decide_eq_false c15
      clear c15
      have H' := mS H
      clear H
      have hcz20_0 := mZ BK275.out 0
      have hfz20_0 := blk_frozen BK275.out 0
      go_wp2
      repeat (go_quiet (fail); try go_wp2)
      go_loopg [8] k1 (fun kq v8 w' => ∃ (x8_2 : Int), v8 = .int .i64 x8_2 ∧ Aside0 (laws_FnLeaps.l1 kq t276 x6_1 x8_2 t271 = some r) ∧ Aside0 (kq ≤ k1) ∧ Aside0 (Kd.R (Kd.int .i64) 3 w' w.heap.size (fun _ => True) v277 t276) ∧ Aside0 (Kd.R k35 35 w' w.heap.size (fun _ => True) (.slice Ao10 t271.length co10) t271) ∧ Aside0 (w'.heap[gb275]? = some (.cells #[(.slice Ao10 t271.length co10)] 26 (0, 0))) ∧ Aside0 (Below w.heap.size w w'))
      case atStart => exact ⟨(0), mE, H', ⟨Nat.le_refl _⟩, ⟨mR HO_5.out⟩, ⟨mR HO_276000.out⟩, ⟨mK BK275.out⟩, ⟨(mH1 HB.out GE275.out)⟩⟩
      case round =>
       clear H'
       try clear c1
       try clear p2
       try clear q2
       try clear hx2
       try clear c3
       try clear p6
       try clear c7
       try clear c15
       try clear c15b0
       try clear c16
       try clear c16b0
       try clear c17
       try clear c17b0
       try clear hcz11_0
       try clear hcz13_0
       try clear hcz18_0
       try clear hcz19_0
       try clear hcz20_0
       try clear hfz11_0
       try clear hfz13_0
       try clear hfz18_0
       try clear hfz19_0
       try clear hfz20_0
       try clear hx281_0
       try clear hx281_1
       try clear hx281_2
       try clear hx281_3
       try clear p2
       try clear p281
       try clear q281
       obtain ⟨x8_2, rfl, HA, HK2, HO_5, HO_276000, BK275, HB⟩ := hrel
       cases gk with
       | zero => exact absurd HA.out (by simp [laws_FnLeaps.l1])
       | succ k2 =>
        have H := HA.out
        clear HA
        simp only [laws_FnLeaps.l1] at H
        by_cases c21 : x8_2 < (t276.length : Int)
        ·rw [if_pos c21] at H
         have c21b0 := decide_eq_true c21
         clear c21
         have HC22 := mS H
         clear H
         obtain ⟨Ao23, co23, eo23⟩ := Kd.R_slice HO_5.out
         subst eo23
         go_upto_region 16 with (fail)
         repeat (go_quiet (fail); go_upto_region 16 with (fail))
         go_cut [77] (fun v77 wc => ∃ (kq : Nat) (x77_21 : Bool), v77 = .bool x77_21 ∧ Aside0 (laws_FnLeaps.j2 kq t276 x6_1 x8_2 x77_21 t271 = some r) ∧ Aside0 (kq ≤ k2) ∧ Aside0 (Kd.R (Kd.int .i64) 3 wc w.heap.size (fun _ => True) (.slice Ao23 t276.length co23) t276) ∧ Aside0 (Kd.R k35 35 wc w.heap.size (fun _ => True) (.slice Ao10 t271.length co10) t271) ∧ Aside0 (wc.heap[gb275]? = some (.cells #[(.slice Ao10 t271.length co10)] 26 (0, 0))) ∧ Aside0 (Below w.heap.size w wc))
         case first =>
          have H := HC22.out
          clear HC22
          by_cases c24 : 0 ≤ x8_2
          ·rw [if_pos c24] at H
           have c24b0 := decide_eq_true c24
           clear c24
           (first | rw [c24b0] | (simp only [i64_w, i32_w]; rw [c24b0]) | skip)
           by_cases c25 : (rd t276 x8_2) < 0
           ·rw [if_pos c25] at H
            have c25b0 := decide_eq_true c25
            clear c25
            have H' := mS H
            clear H
            have p285 : 0 ≤ (x8_2 : Int) := mD
            have q285 : x8_2 < (t276.length : Int) := mD
            obtain ⟨ad285, e285, hx285_0⟩ := Kd.at_int (Kd.R_reads' HO_5.out).2.2 x8_2 p285 q285
            cases e285
            replace p285 := eq_true p285
            replace q285 := eq_true q285
            go_wp2
            repeat (go_quiet (fail); try go_wp2)
            go_meet
            case rel => exact ⟨_, (true), mE, H', ⟨by have := HK1.out; have := HK2.out; first | omega | exact Nat.le_refl _⟩, ⟨mR HO_5.out⟩, ⟨mR HO_276000.out⟩, ⟨mK BK275.out⟩, ⟨(mH1 HB.out GE275.out)⟩⟩
           ·rw [if_neg c25] at H
            have c25b0 := decide_eq_false c25
            clear c25
            by_cases c26 : (rd t276 x8_2) ≥ x6_1
            ·rw [if_pos c26] at H
             have c26b0 : decide (x6_1 ≤ (rd t276 x8_2)) = true := decide_eq_true c26
             clear c26
             have H' := mS H
             clear H
             have p285 : 0 ≤ (x8_2 : Int) := mD
             have q285 : x8_2 < (t276.length : Int) := mD
             obtain ⟨ad285, e285, hx285_0⟩ := Kd.at_int (Kd.R_reads' HO_5.out).2.2 x8_2 p285 q285
             cases e285
             replace p285 := eq_true p285
             replace q285 := eq_true q285
             have p286 : 0 ≤ (x8_2 : Int) := mD
             have q286 : x8_2 < (t276.length : Int) := mD
             obtain ⟨ad286, e286, hx286_0⟩ := Kd.at_int (Kd.R_reads' HO_5.out).2.2 x8_2 p286 q286
             obtain rfl : ad285 = ad286 := (by injection e286)
             replace p286 := eq_true p286
             replace q286 := eq_true q286
             go_wp2
             repeat (go_quiet (fail); try go_wp2)
             go_meet
             case rel => exact ⟨_, (true), mE, H', ⟨by have := HK1.out; have := HK2.out; first | omega | exact Nat.le_refl _⟩, ⟨mR HO_5.out⟩, ⟨mR HO_276000.out⟩, ⟨mK BK275.out⟩, ⟨(mH1 HB.out GE275.out)⟩⟩
            ·rw [if_neg c26] at H
             have c26b0 : decide (x6_1 ≤ (rd t276 x8_2)) = false := decide_eq_false c26
             clear c26
             by_cases c27 : x8_2 > 0
             ·rw [if_pos c27] at H
              have c27b0 : decide (0 < x8_2) = true := decide_eq_true c27
              clear c27
              obtain ⟨ji28, hji28⟩ : ∃ j_ : Int, (wrap64 (x8_2 - 1)) = j_ := ⟨_, rfl⟩
              replace H : (if 0 ≤ (ji28) then (if (ji28) < (t276.length : Int) then (laws_FnLeaps.j2 k2 t276 x6_1 x8_2 (decide ((rd t276 (ji28)) ≥ (rd t276 x8_2))) t271) else (none)) else (none)) = some r := by first | (rw [hji28] at H; exact H) | (simp only [hji28] at H ⊢; exact H)
              have hji28w : (IntKind.i64.wrap (x8_2 - 1)) = ji28 := (i64_w _).trans hji28
              by_cases c29 : 0 ≤ (ji28)
              ·rw [if_pos c29] at H
               have c29b0 := decide_eq_true c29
               clear c29
               by_cases c30 : (ji28) < (t276.length : Int)
               ·rw [if_pos c30] at H
                have c30b0 := decide_eq_true c30
                clear c30
                have H' := mS H
                clear H
                have p285 : 0 ≤ (x8_2 : Int) := mD
                have q285 : x8_2 < (t276.length : Int) := mD
                obtain ⟨ad285, e285, hx285_0⟩ := Kd.at_int (Kd.R_reads' HO_5.out).2.2 x8_2 p285 q285
                cases e285
                replace p285 := eq_true p285
                replace q285 := eq_true q285
                have p286 : 0 ≤ (x8_2 : Int) := mD
                have q286 : x8_2 < (t276.length : Int) := mD
                obtain ⟨ad286, e286, hx286_0⟩ := Kd.at_int (Kd.R_reads' HO_5.out).2.2 x8_2 p286 q286
                obtain rfl : ad285 = ad286 := (by injection e286)
                replace p286 := eq_true p286
                replace q286 := eq_true q286
                have p287 : 0 ≤ ((ji28) : Int) := mD
                have q287 : (ji28) < (t276.length : Int) := mD
                obtain ⟨ad287, e287, hx287_0⟩ := Kd.at_int (Kd.R_reads' HO_5.out).2.2 (ji28) p287 q287
                obtain rfl : ad285 = ad287 := (by injection e287)
                replace p287 := eq_true p287
                replace q287 := eq_true q287
                have p288 : 0 ≤ (x8_2 : Int) := mD
                have q288 : x8_2 < (t276.length : Int) := mD
                obtain ⟨ad288, e288, hx288_0⟩ := Kd.at_int (Kd.R_reads' HO_5.out).2.2 x8_2 p288 q288
                obtain rfl : ad285 = ad288 := (by injection e288)
                replace p288 := eq_true p288
                replace q288 := eq_true q288
                go_wp2
                repeat (go_quiet (fail); try go_wp2)
                go_meet
                case rel => exact ⟨_, (decide ((rd t276 (ji28)) ≥ (rd t276 x8_2))), (by first | rfl | (simp; done) | (simp only [← hji28] <;> (first | rfl | simp)) | (simp [*]; done)), H', ⟨by have := HK1.out; have := HK2.out; first | omega | exact Nat.le_refl _⟩, ⟨mR HO_5.out⟩, ⟨mR HO_276000.out⟩, ⟨mK BK275.out⟩, ⟨(mH1 HB.out GE275.out)⟩⟩
               ·rw [if_neg c30] at H
                exact absurd H (by simp)
              ·rw [if_neg c29] at H
               exact absurd H (by simp)
             ·rw [if_neg c27] at H
              have c27b0 : decide (0 < x8_2) = false := decide_eq_false c27
              clear c27
              have H' := mS H
              clear H
              have p285 : 0 ≤ (x8_2 : Int) := mD
              have q285 : x8_2 < (t276.length : Int) := mD
              obtain ⟨ad285, e285, hx285_0⟩ := Kd.at_int (Kd.R_reads' HO_5.out).2.2 x8_2 p285 q285
              cases e285
              replace p285 := eq_true p285
              replace q285 := eq_true q285
              have p286 : 0 ≤ (x8_2 : Int) := mD
              have q286 : x8_2 < (t276.length : Int) := mD
              obtain ⟨ad286, e286, hx286_0⟩ := Kd.at_int (Kd.R_reads' HO_5.out).2.2 x8_2 p286 q286
              obtain rfl : ad285 = ad286 := (by injection e286)
              replace p286 := eq_true p286
              replace q286 := eq_true q286
              go_wp2
              repeat (go_quiet (fail); try go_wp2)
              go_meet
              case rel => exact ⟨_, (false), mE, H', ⟨by have := HK1.out; have := HK2.out; first | omega | exact Nat.le_refl _⟩, ⟨mR HO_5.out⟩, ⟨mR HO_276000.out⟩, ⟨mK BK275.out⟩, ⟨(mH1 HB.out GE275.out)⟩⟩
          ·rw [if_neg c24] at H
           exact absurd H (by simp)
         case rest =>
          clear HC22
          try clear c1
          try clear c2
          try clear p2
          try clear q2
          try clear hx2
          try clear c3
          try clear p6
          try clear c7
          try clear c15
          try clear c15b0
          try clear c16
          try clear c16b0
          try clear c17
          try clear c17b0
          try clear c21
          try clear c21b0
          try clear c24
          try clear c24b0
          try clear c25
          try clear c25b0
          try clear c26
          try clear c26b0
          try clear c27
          try clear c27b0
          try clear p28
          try clear q28
          try clear hx28
          try clear c29
          try clear c29b0
          try clear c30
          try clear c30b0
          try clear hcz11_0
          try clear hcz13_0
          try clear hcz18_0
          try clear hcz19_0
          try clear hcz20_0
          try clear hfz11_0
          try clear hfz13_0
          try clear hfz18_0
          try clear hfz19_0
          try clear hfz20_0
          try clear hx281_0
          try clear hx281_1
          try clear hx281_2
          try clear hx281_3
          try clear hx285_0
          try clear hx286_0
          try clear hx287_0
          try clear hx288_0
          try clear p2
          try clear p281
          try clear p285
          try clear p286
          try clear p287
          try clear p288
          try clear p6
          try clear q2
          try clear q281
          try clear q285
          try clear q286
          try clear q287
          try clear q288
          obtain ⟨kq, x77_21, rfl, HA, HJ21, HO_5, HO_276000, BK275, HB⟩ := hcut
          cases kq with
          | zero => exact absurd HA.out (by simp [laws_FnLeaps.j2])
          | succ kj21 =>
           have H := HA.out
           clear HA
           simp only [laws_FnLeaps.j2] at H
           by_cases c31 : x77_21 = true
           ·subst c31
            have H1 := H
            rw [if_pos rfl] at H1
            clear H
            have H := H1
            clear H1
            exact absurd ((Option.some.inj H).trans ht_) (by decide)
           ·replace c31 := Bool.eq_false_iff.mpr c31
            subst c31
            have H1 := H
            rw [if_neg (show ¬ (false = true) by decide)] at H1
            clear H
            have H := H1
            clear H1
            have H' := mS H
            clear H
            go_wp2
            repeat (go_quiet (fail); try go_wp2)
            go_roundg kj21
            case measure => have := HK1.out; have := HK2.out; have := HJ21.out; omega
            case rel => exact ⟨(wrap64 (x8_2 + 1)), mE, H', ⟨by have := HK1.out; have := HK2.out; have := HJ21.out; omega⟩, ⟨mR HO_5.out⟩, ⟨mR HO_276000.out⟩, ⟨mK BK275.out⟩, ⟨(mH1 HB.out GE275.out)⟩⟩
        ·rw [if_neg c21] at H
         have c21b0 := decide_eq_false c21
         clear c21
         by_cases c32 : ((x6_1 == 0) == ((t276.length : Int) == 0)) = true
         ·rw [if_pos c32] at H
          have c32b0 : ((x6_1 == 0) == ((t276.length : Int) == 0)) = true := c32
          (try (have c32b1 : decide ((x6_1 == 0) = ((t276.length : Int) == 0)) = true := by simpa using c32))
          (try (have c32b2 : ((x6_1 == 0) == ((t276.length : Int) == 0)) = true := by simpa using c32))
          clear c32
          by_cases c33 : x6_1 = 0
          ·rw [if_pos c33] at H
           have c33b0 : (x6_1 == 0) = true := beq_iff_eq.mpr c33
           have c33b1 : (x6_1 != 0) = false := bne_eq_false_iff_eq.mpr c33
           have c99b0 : ((t276.length : Int) == 0) = true := by rw [c33b0] at c32b0; simpa using c32b0
           clear c33
           replace H := Option.bind_eq_some_iff.mp H
           obtain ⟨t282, A340, H⟩ := H
           replace H : (some t282) = some r := H
           have A34 := mS A340
           clear A340
           obtain rfl := Option.some.inj H
           obtain ⟨Ao35, co35, eo35⟩ := Kd.R_slice HO_5.out
           subst eo35
           have hcz36_0 := mZ BK275.out 0
           have hfz36_0 := blk_frozen BK275.out 0
           go_wp2_with (first | (go_at_call 18; (with_reducible refine (impl_MemOk.calls k2 _ _ t271 t282 _ ?side1 ?side2 A34.out).mono ?_); (case side1 => exact mC (Kd.R_reads' HO_276000.out).2.2); (case side2 => exact (Kd.R_reads' HO_276000.out).2.1); rintro e w37 ⟨rfl, hb⟩; replace HO_5 := mS (Kd.R_below (mR HO_5.out) hb); replace HO_276000 := mS (Kd.R_below (mR HO_276000.out) hb); replace BK275 := mB BK275 hb; replace HB := mS (below_step (mH1 HB.out GE275.out) hb); (try clear hb); (try clear hb2); (try clear hk); (try clear hi)))
           repeat (go_quiet (first | (go_at_call 18; (with_reducible refine (impl_MemOk.calls k2 _ _ t271 t282 _ ?side1 ?side2 A34.out).mono ?_); (case side1 => exact mC (Kd.R_reads' HO_276000.out).2.2); (case side2 => exact (Kd.R_reads' HO_276000.out).2.1); rintro e w37 ⟨rfl, hb⟩; replace HO_5 := mS (Kd.R_below (mR HO_5.out) hb); replace HO_276000 := mS (Kd.R_below (mR HO_276000.out) hb); replace BK275 := mB BK275 hb; replace HB := mS (below_step (mH1 HB.out GE275.out) hb); (try clear hb); (try clear hb2); (try clear hk); (try clear hi))); try go_wp2_with (first | (go_at_call 18; (with_reducible refine (impl_MemOk.calls k2 _ _ t271 t282 _ ?side1 ?side2 A34.out).mono ?_); (case side1 => exact mC (Kd.R_reads' HO_276000.out).2.2); (case side2 => exact (Kd.R_reads' HO_276000.out).2.1); rintro e w37 ⟨rfl, hb⟩; replace HO_5 := mS (Kd.R_below (mR HO_5.out) hb); replace HO_276000 := mS (Kd.R_below (mR HO_276000.out) hb); replace BK275 := mB BK275 hb; replace HB := mS (below_step (mH1 HB.out GE275.out) hb); (try clear hb); (try clear hb2); (try clear hk); (try clear hi))))
           go_ret
           exact ⟨mEw, (mH1 HB.out GE275.out)⟩
          ·rw [if_neg c33] at H
           have c33b0 : (x6_1 == 0) = false := beq_eq_false_iff_ne.mpr c33
           have c33b1 : (x6_1 != 0) = true := bne_iff_ne.mpr c33
           have c99b0 : ((t276.length : Int) == 0) = false := by rw [c33b0] at c32b0; simpa using c32b0
           obtain ⟨ji38, hji38⟩ : ∃ j_ : Int, (wrap64 ((t276.length : Int) - 1)) = j_ := ⟨_, rfl⟩
           replace H : (if 0 ≤ (ji38) then (if (ji38) < (t276.length : Int) then (if (rd t276 (ji38)) = (wrap64 (x6_1 - 1)) then ((impl_MemOk.f k2 t271).bind fun t284 => (some t284)) else (some false)) else (none)) else (none)) = some r := by first | (rw [hji38] at H; exact H) | (simp only [hji38] at H ⊢; exact H)
           have hji38w : (IntKind.i64.wrap ((t276.length : Int) - 1)) = ji38 := (i64_w _).trans hji38
           by_cases c39 : 0 ≤ (ji38)
           ·rw [if_pos c39] at H
            have c39b0 := decide_eq_true c39
            clear c39
            by_cases c40 : (ji38) < (t276.length : Int)
            ·rw [if_pos c40] at H
             have c40b0 := decide_eq_true c40
             clear c40
             by_cases c41 : (rd t276 (ji38)) = (wrap64 (x6_1 - 1))
             ·rw [if_pos c41] at H
              have c41b0 : ((rd t276 (ji38)) == (wrap64 (x6_1 - 1))) = true := beq_iff_eq.mpr c41
              have c41b1 : ((rd t276 (ji38)) != (wrap64 (x6_1 - 1))) = false := bne_eq_false_iff_eq.mpr c41
              clear c41
              replace H := Option.bind_eq_some_iff.mp H
              obtain ⟨t284, A420, H⟩ := H
              replace H : (some t284) = some r := H
              have A42 := mS A420
              clear A420
              obtain rfl := Option.some.inj H
              obtain ⟨Ao43, co43, eo43⟩ := Kd.R_slice HO_5.out
              subst eo43
              have p283 : 0 ≤ ((ji38) : Int) := mD
              have q283 : (ji38) < (t276.length : Int) := mD
              obtain ⟨ad283, e283, hx283_0⟩ := Kd.at_int (Kd.R_reads' HO_5.out).2.2 (ji38) p283 q283
              cases e283
              replace p283 := eq_true p283
              replace q283 := eq_true q283
              have hcz44_0 := mZ BK275.out 0
              have hfz44_0 := blk_frozen BK275.out 0
              go_wp2_with (first | (go_at_call 18; (with_reducible refine (impl_MemOk.calls k2 _ _ t271 t284 _ ?side1 ?side2 A42.out).mono ?_); (case side1 => exact mC (Kd.R_reads' HO_276000.out).2.2); (case side2 => exact (Kd.R_reads' HO_276000.out).2.1); rintro e w45 ⟨rfl, hb⟩; replace HO_5 := mS (Kd.R_below (mR HO_5.out) hb); replace HO_276000 := mS (Kd.R_below (mR HO_276000.out) hb); replace BK275 := mB BK275 hb; replace HB := mS (below_step (mH1 HB.out GE275.out) hb); (try clear hb); (try clear hb2); (try clear hk); (try clear hi)))
              repeat (go_quiet (first | (go_at_call 18; (with_reducible refine (impl_MemOk.calls k2 _ _ t271 t284 _ ?side1 ?side2 A42.out).mono ?_); (case side1 => exact mC (Kd.R_reads' HO_276000.out).2.2); (case side2 => exact (Kd.R_reads' HO_276000.out).2.1); rintro e w45 ⟨rfl, hb⟩; replace HO_5 := mS (Kd.R_below (mR HO_5.out) hb); replace HO_276000 := mS (Kd.R_below (mR HO_276000.out) hb); replace BK275 := mB BK275 hb; replace HB := mS (below_step (mH1 HB.out GE275.out) hb); (try clear hb); (try clear hb2); (try clear hk); (try clear hi))); try go_wp2_with (first | (go_at_call 18; (with_reducible refine (impl_MemOk.calls k2 _ _ t271 t284 _ ?side1 ?side2 A42.out).mono ?_); (case side1 => exact mC (Kd.R_reads' HO_276000.out).2.2); (case side2 => exact (Kd.R_reads' HO_276000.out).2.1); rintro e w45 ⟨rfl, hb⟩; replace HO_5 := mS (Kd.R_below (mR HO_5.out) hb); replace HO_276000 := mS (Kd.R_below (mR HO_276000.out) hb); replace BK275 := mB BK275 hb; replace HB := mS (below_step (mH1 HB.out GE275.out) hb); (try clear hb); (try clear hb2); (try clear hk); (try clear hi))))
              go_ret
              exact ⟨by first | rfl | (simp [errW_none, errW_some] <;> rfl) | (simp only [← hji38]; first | rfl | (simp [errW_none, errW_some] <;> rfl)) | (simp [*, errW_none, errW_some] <;> rfl), (mH1 HB.out GE275.out)⟩
             ·rw [if_neg c41] at H
              have c41b0 : ((rd t276 (ji38)) == (wrap64 (x6_1 - 1))) = false := beq_eq_false_iff_ne.mpr c41
              have c41b1 : ((rd t276 (ji38)) != (wrap64 (x6_1 - 1))) = true := bne_iff_ne.mpr c41
              exact absurd ((Option.some.inj H).trans ht_) (by decide)
            ·rw [if_neg c40] at H
             exact absurd H (by simp)
           ·rw [if_neg c39] at H
            exact absurd H (by simp)
         ·rw [if_neg c32] at H
          have c32b0 : ((x6_1 == 0) == ((t276.length : Int) == 0)) = false := by simpa using c32
          (try (have c32b1 : decide ((x6_1 == 0) = ((t276.length : Int) == 0)) = false := by simpa using c32))
          (try (have c32b2 : ((x6_1 == 0) == ((t276.length : Int) == 0)) = false := by simpa using c32))
          (try (have c32b3 : ¬ ((x6_1 == 0) = ((t276.length : Int) == 0)) := by simpa using c32))
          clear c32
          exact absurd ((Option.some.inj H).trans ht_) (by decide)
  ·replace c7 := Bool.eq_false_iff.mpr c7
   subst c7
   have H1 := H
   rw [if_neg (show ¬ (false = true) by decide)] at H1
   clear H
   have H := H1
   clear H1
   replace H := Option.bind_eq_some_iff.mp H
   obtain ⟨t280, A460, H⟩ := H
   replace H : (some (!t280)) = some r := H
   have A46 := mS A460
   clear A460
   obtain rfl := Option.some.inj H
   go_enter Try.func3, Try.ntmps3
   go_wp2_with (first | (go_at_call 14; (with_reducible refine (laws_big.calls _ _ l0 false _ ?side1 ?side2 A2.out).mono ?_); (case side1 => exact mC HR0.out); (case side2 => exact HC0.out); rintro e w' ⟨rfl, ⟨nd, rfl⟩⟩; (try first | exact ⟨rfl, _, World.drewN_drewN _ _ _⟩ | exact ⟨rfl, _, Eq.trans (World.drewN_drewN _ _ _) (congrArg (World.drewN _) (Nat.add_assoc _ _ _))⟩)) | (go_at_call 15; (with_reducible refine (spec_DrawLeaps.calls k _ _ l0 t271 t274 _ ?side1 ?side2 A4.out).mono ?_); (case side1 => exact mC HR0.out); (case side2 => exact HC0.out); rintro e w47 ⟨v272, rfl, ho0, hb⟩; have HO273 := mS (Kd.R_lower ho0 (below_size (mH HB.out))); replace HB := mS (below_step (mH HB.out) hb); (try clear hb); (try clear hb2); (try clear hk); (try clear hi); (try clear ho0)) | ((with_reducible refine gate_dst (N := 3) rfl ?_); (try (refine gate_guard (by rfl) ?_; dsimp only)); refine mBx 3 #[.slice none 0 0] 26 ?_; intro gb275 hg w48 hbox hb; replace HO273 := mS (Kd.R_below (mR HO273.out) hb); have BK275 := mS (hbox); have GW275 := mG hg (mH HB.out); have GE275 := mG hg (mH HB.out); replace HB := mS (below_step (mH HB.out) hb); clear hb hbox hg; obtain ⟨Ao49, co49, eo49⟩ := Kd.R_slice HO273.out; subst eo49; have hcz50_0 := mZ BK275.out 0; have hfz50_0 := blk_frozen BK275.out 0) | (go_at_call 16; (with_reducible refine (impl_Leaps.calls k _ _ t271 t274 t276 _ ?side1 ?side2 A5.out).mono ?_); (case side1 => refine (Kd.R_reads' (e := 35) (base := w.heap.size) (ok := fun k_ => True) (n := t271.length) (c := co49) ?_).2.2; exact (by refine mR ?_; exact (Kd.R_mono (Kd.R_far (p := ⟨gb275, 0, none⟩) (Kd.R_types HO273.out BK275.out (by decide)) (fun _ hk => hk.2) (.slice Ao49 t271.length co49)) (fun _ h_ => h_.1)))); (case side2 => exact (Kd.R_reads' HO273.out).2.1); rintro e w51 ⟨v277, rfl, ho0, hb⟩; replace HO273 := mS (Kd.R_below (by refine mR ?_; exact (Kd.R_mono (Kd.R_far (p := ⟨gb275, 0, none⟩) (Kd.R_types HO273.out BK275.out (by decide)) (fun _ hk => hk.2) (.slice Ao49 t271.length co49)) (fun _ h_ => h_.1))) hb); have HO278 := mS (Kd.R_lower ho0 (below_size (mH1 HB.out GE275.out))); replace BK275 := mS (blk_below (g := gb275) (o := .cells #[.slice Ao49 t271.length co49] 26 (0, 0)) (by refine mK ?_; refine blk_put (cs := #[.slice none 0 0]) ?_ 0 _ rfl; refine mK ?_; exact BK275.out) hb); replace HB := mS (below_step (mH1 HB.out GE275.out) hb); (try clear hb); (try clear hb2); (try clear hk); (try clear hi); (try clear ho0); have hcz52_0 := mZ BK275.out 0; have hfz52_0 := blk_frozen BK275.out 0) | (go_at_call 17; (with_reducible refine (spec_MemOk.calls k _ _ t271 false _ ?side1 ?side2 A6.out).mono ?_); (case side1 => exact mC (Kd.R_reads' HO273.out).2.2); (case side2 => exact (Kd.R_reads' HO273.out).2.1); rintro e w53 ⟨rfl, hb⟩; replace HO273 := mS (Kd.R_below (mR HO273.out) hb); replace HO278 := mS (Kd.R_below (mR HO278.out) hb); replace BK275 := mB BK275 hb; replace HB := mS (below_step (mH1 HB.out GE275.out) hb); (try clear hb); (try clear hb2); (try clear hk); (try clear hi); have hcz54_0 := mZ BK275.out 0; have hfz54_0 := blk_frozen BK275.out 0) | (go_at_call 18; (with_reducible refine (impl_MemOk.calls k _ _ t271 t280 _ ?side1 ?side2 A46.out).mono ?_); (case side1 => exact mC (Kd.R_reads' HO273.out).2.2); (case side2 => exact (Kd.R_reads' HO273.out).2.1); rintro e w55 ⟨rfl, hb⟩; replace HO273 := mS (Kd.R_below (mR HO273.out) hb); replace HO278 := mS (Kd.R_below (mR HO278.out) hb); replace BK275 := mB BK275 hb; replace HB := mS (below_step (mH1 HB.out GE275.out) hb); (try clear hb); (try clear hb2); (try clear hk); (try clear hi)))
   repeat (go_quiet (first | (go_at_call 14; (with_reducible refine (laws_big.calls _ _ l0 false _ ?side1 ?side2 A2.out).mono ?_); (case side1 => exact mC HR0.out); (case side2 => exact HC0.out); rintro e w' ⟨rfl, ⟨nd, rfl⟩⟩; (try first | exact ⟨rfl, _, World.drewN_drewN _ _ _⟩ | exact ⟨rfl, _, Eq.trans (World.drewN_drewN _ _ _) (congrArg (World.drewN _) (Nat.add_assoc _ _ _))⟩)) | (go_at_call 15; (with_reducible refine (spec_DrawLeaps.calls k _ _ l0 t271 t274 _ ?side1 ?side2 A4.out).mono ?_); (case side1 => exact mC HR0.out); (case side2 => exact HC0.out); rintro e w47 ⟨v272, rfl, ho0, hb⟩; have HO273 := mS (Kd.R_lower ho0 (below_size (mH HB.out))); replace HB := mS (below_step (mH HB.out) hb); (try clear hb); (try clear hb2); (try clear hk); (try clear hi); (try clear ho0)) | ((with_reducible refine gate_dst (N := 3) rfl ?_); (try (refine gate_guard (by rfl) ?_; dsimp only)); refine mBx 3 #[.slice none 0 0] 26 ?_; intro gb275 hg w48 hbox hb; replace HO273 := mS (Kd.R_below (mR HO273.out) hb); have BK275 := mS (hbox); have GW275 := mG hg (mH HB.out); have GE275 := mG hg (mH HB.out); replace HB := mS (below_step (mH HB.out) hb); clear hb hbox hg; obtain ⟨Ao49, co49, eo49⟩ := Kd.R_slice HO273.out; subst eo49; have hcz50_0 := mZ BK275.out 0; have hfz50_0 := blk_frozen BK275.out 0) | (go_at_call 16; (with_reducible refine (impl_Leaps.calls k _ _ t271 t274 t276 _ ?side1 ?side2 A5.out).mono ?_); (case side1 => refine (Kd.R_reads' (e := 35) (base := w.heap.size) (ok := fun k_ => True) (n := t271.length) (c := co49) ?_).2.2; exact (by refine mR ?_; exact (Kd.R_mono (Kd.R_far (p := ⟨gb275, 0, none⟩) (Kd.R_types HO273.out BK275.out (by decide)) (fun _ hk => hk.2) (.slice Ao49 t271.length co49)) (fun _ h_ => h_.1)))); (case side2 => exact (Kd.R_reads' HO273.out).2.1); rintro e w51 ⟨v277, rfl, ho0, hb⟩; replace HO273 := mS (Kd.R_below (by refine mR ?_; exact (Kd.R_mono (Kd.R_far (p := ⟨gb275, 0, none⟩) (Kd.R_types HO273.out BK275.out (by decide)) (fun _ hk => hk.2) (.slice Ao49 t271.length co49)) (fun _ h_ => h_.1))) hb); have HO278 := mS (Kd.R_lower ho0 (below_size (mH1 HB.out GE275.out))); replace BK275 := mS (blk_below (g := gb275) (o := .cells #[.slice Ao49 t271.length co49] 26 (0, 0)) (by refine mK ?_; refine blk_put (cs := #[.slice none 0 0]) ?_ 0 _ rfl; refine mK ?_; exact BK275.out) hb); replace HB := mS (below_step (mH1 HB.out GE275.out) hb); (try clear hb); (try clear hb2); (try clear hk); (try clear hi); (try clear ho0); have hcz52_0 := mZ BK275.out 0; have hfz52_0 := blk_frozen BK275.out 0) | (go_at_call 17; (with_reducible refine (spec_MemOk.calls k _ _ t271 false _ ?side1 ?side2 A6.out).mono ?_); (case side1 => exact mC (Kd.R_reads' HO273.out).2.2); (case side2 => exact (Kd.R_reads' HO273.out).2.1); rintro e w53 ⟨rfl, hb⟩; replace HO273 := mS (Kd.R_below (mR HO273.out) hb); replace HO278 := mS (Kd.R_below (mR HO278.out) hb); replace BK275 := mB BK275 hb; replace HB := mS (below_step (mH1 HB.out GE275.out) hb); (try clear hb); (try clear hb2); (try clear hk); (try clear hi); have hcz54_0 := mZ BK275.out 0; have hfz54_0 := blk_frozen BK275.out 0) | (go_at_call 18; (with_reducible refine (impl_MemOk.calls k _ _ t271 t280 _ ?side1 ?side2 A46.out).mono ?_); (case side1 => exact mC (Kd.R_reads' HO273.out).2.2); (case side2 => exact (Kd.R_reads' HO273.out).2.1); rintro e w55 ⟨rfl, hb⟩; replace HO273 := mS (Kd.R_below (mR HO273.out) hb); replace HO278 := mS (Kd.R_below (mR HO278.out) hb); replace BK275 := mB BK275 hb; replace HB := mS (below_step (mH1 HB.out GE275.out) hb); (try clear hb); (try clear hb2); (try clear hk); (try clear hi))); try go_wp2_with (first | (go_at_call 14; (with_reducible refine (laws_big.calls _ _ l0 false _ ?side1 ?side2 A2.out).mono ?_); (case side1 => exact mC HR0.out); (case side2 => exact HC0.out); rintro e w' ⟨rfl, ⟨nd, rfl⟩⟩; (try first | exact ⟨rfl, _, World.drewN_drewN _ _ _⟩ | exact ⟨rfl, _, Eq.trans (World.drewN_drewN _ _ _) (congrArg (World.drewN _) (Nat.add_assoc _ _ _))⟩)) | (go_at_call 15; (with_reducible refine (spec_DrawLeaps.calls k _ _ l0 t271 t274 _ ?side1 ?side2 A4.out).mono ?_); (case side1 => exact mC HR0.out); (case side2 => exact HC0.out); rintro e w47 ⟨v272, rfl, ho0, hb⟩; have HO273 := mS (Kd.R_lower ho0 (below_size (mH HB.out))); replace HB := mS (below_step (mH HB.out) hb); (try clear hb); (try clear hb2); (try clear hk); (try clear hi); (try clear ho0)) | ((with_reducible refine gate_dst (N := 3) rfl ?_); (try (refine gate_guard (by rfl) ?_; dsimp only)); refine mBx 3 #[.slice none 0 0] 26 ?_; intro gb275 hg w48 hbox hb; replace HO273 := mS (Kd.R_below (mR HO273.out) hb); have BK275 := mS (hbox); have GW275 := mG hg (mH HB.out); have GE275 := mG hg (mH HB.out); replace HB := mS (below_step (mH HB.out) hb); clear hb hbox hg; obtain ⟨Ao49, co49, eo49⟩ := Kd.R_slice HO273.out; subst eo49; have hcz50_0 := mZ BK275.out 0; have hfz50_0 := blk_frozen BK275.out 0) | (go_at_call 16; (with_reducible refine (impl_Leaps.calls k _ _ t271 t274 t276 _ ?side1 ?side2 A5.out).mono ?_); (case side1 => refine (Kd.R_reads' (e := 35) (base := w.heap.size) (ok := fun k_ => True) (n := t271.length) (c := co49) ?_).2.2; exact (by refine mR ?_; exact (Kd.R_mono (Kd.R_far (p := ⟨gb275, 0, none⟩) (Kd.R_types HO273.out BK275.out (by decide)) (fun _ hk => hk.2) (.slice Ao49 t271.length co49)) (fun _ h_ => h_.1)))); (case side2 => exact (Kd.R_reads' HO273.out).2.1); rintro e w51 ⟨v277, rfl, ho0, hb⟩; replace HO273 := mS (Kd.R_below (by refine mR ?_; exact (Kd.R_mono (Kd.R_far (p := ⟨gb275, 0, none⟩) (Kd.R_types HO273.out BK275.out (by decide)) (fun _ hk => hk.2) (.slice Ao49 t271.length co49)) (fun _ h_ => h_.1))) hb); have HO278 := mS (Kd.R_lower ho0 (below_size (mH1 HB.out GE275.out))); replace BK275 := mS (blk_below (g := gb275) (o := .cells #[.slice Ao49 t271.length co49] 26 (0, 0)) (by refine mK ?_; refine blk_put (cs := #[.slice none 0 0]) ?_ 0 _ rfl; refine mK ?_; exact BK275.out) hb); replace HB := mS (below_step (mH1 HB.out GE275.out) hb); (try clear hb); (try clear hb2); (try clear hk); (try clear hi); (try clear ho0); have hcz52_0 := mZ BK275.out 0; have hfz52_0 := blk_frozen BK275.out 0) | (go_at_call 17; (with_reducible refine (spec_MemOk.calls k _ _ t271 false _ ?side1 ?side2 A6.out).mono ?_); (case side1 => exact mC (Kd.R_reads' HO273.out).2.2); (case side2 => exact (Kd.R_reads' HO273.out).2.1); rintro e w53 ⟨rfl, hb⟩; replace HO273 := mS (Kd.R_below (mR HO273.out) hb); replace HO278 := mS (Kd.R_below (mR HO278.out) hb); replace BK275 := mB BK275 hb; replace HB := mS (below_step (mH1 HB.out GE275.out) hb); (try clear hb); (try clear hb2); (try clear hk); (try clear hi); have hcz54_0 := mZ BK275.out 0; have hfz54_0 := blk_frozen BK275.out 0) | (go_at_call 18; (with_reducible refine (impl_MemOk.calls k _ _ t271 t280 _ ?side1 ?side2 A46.out).mono ?_); (case side1 => exact mC (Kd.R_reads' HO273.out).2.2); (case side2 => exact (Kd.R_reads' HO273.out).2.1); rintro e w55 ⟨rfl, hb⟩; replace HO273 := mS (Kd.R_below (mR HO273.out) hb); replace HO278 := mS (Kd.R_below (mR HO278.out) hb); replace BK275 := mB BK275 hb; replace HB := mS (below_step (mH1 HB.out GE275.out) hb); (try clear hb); (try clear hb2); (try clear hk); (try clear hi))))
   go_ret
   exact ⟨mEw, (mH1 HB.out GE275.out)⟩

end Go.Proofs.Ytbepbgfkajnlbaa.MFnLeaps
