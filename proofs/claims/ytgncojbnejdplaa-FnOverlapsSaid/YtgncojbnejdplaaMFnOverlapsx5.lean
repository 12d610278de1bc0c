-- Written by mp.py, this session's own printer (wip/mp.py).
import Derived.Test.YtgncojbnejdplaaVMShort
import Derived.Test.YtgncojbnejdplaaMFnOverlapsx0
import Derived.Test.YtgncojbnejdplaaMFnOverlapsx1
import Derived.Test.YtgncojbnejdplaaMFnOverlapsx4
namespace Go.Proofs.Ytgncojbnejdplaa.MFnOverlaps
open Go.RowKit Go.Proofs.YtgncojbnejdplaaW.PrintWords Go.Proofs.YtgncojbnejdplaaW.PrintLast Go.Proofs.YtgncojbnejdplaaW.PrintMore Go.Proofs.Ytgncojbnejdplaa.MWords
attribute [local go_sem] max2_int min2_int max_two min_two max_three min_three max_four min_four   -- for this text's walks alone
set_option linter.unusedVariables false
set_option linter.unusedSimpArgs false

/-! ### laws_FnOverlaps: function 6 -/
mutual
def laws_FnOverlaps.l0 : Nat → Int → ByteArray → ByteArray → List Int → Int → Int → Int → Int → List (S46) → Option (Bool)
 | 0, _, _, _, _, _, _, _, _, _ => none
 | k + 1, x4, x5, x6, x7, x8, x9, x253000, x253001, x253002 => if x9 < (x253002.length : Int) then (if 0 ≤ x9 then (if ((rd_T46 x253002 x9).f1) = x4 then (if ((Op.bytesLess x6.toList (((rd_T46 x253002 x9).f2).toList)) = true) then (laws_FnOverlaps.j1 k x4 x5 x6 x7 x8 x9 false x253000 x253001 x253002 ((rd_T46 x253002 x9).f0) ((rd_T46 x253002 x9).f1) ((rd_T46 x253002 x9).f2) ((rd_T46 x253002 x9).f3)) else (laws_FnOverlaps.j1 k x4 x5 x6 x7 x8 x9 (!(Op.bytesLess (((rd_T46 x253002 x9).f3).toList) x5.toList)) x253000 x253001 x253002 ((rd_T46 x253002 x9).f0) ((rd_T46 x253002 x9).f1) ((rd_T46 x253002 x9).f2) ((rd_T46 x253002 x9).f3))) else (laws_FnOverlaps.j1 k x4 x5 x6 x7 x8 x9 false x253000 x253001 x253002 ((rd_T46 x253002 x9).f0) ((rd_T46 x253002 x9).f1) ((rd_T46 x253002 x9).f2) ((rd_T46 x253002 x9).f3))) else (none)) else (some (x8 == (x7.length : Int)))
def laws_FnOverlaps.j1 : Nat → Int → ByteArray → ByteArray → List Int → Int → Int → Bool → Int → Int → List (S46) → Int → Int → ByteArray → ByteArray → Option (Bool)
 | 0, _, _, _, _, _, _, _, _, _, _, _, _, _, _ => none
 | k + 1, x4, x5, x6, x7, x8, x9, x52, x253000, x253001, x253002, x258000, x258001, x258002, x258003 => if x52 = true then (if x8 ≥ (x7.length : Int) then (some false) else (if 0 ≤ x8 then (if x8 < (x7.length : Int) then (if (rd x7 x8) = x258000 then (laws_FnOverlaps.l0 k x4 x5 x6 x7 (wrap64 (x8 + 1)) (wrap64 (x9 + 1)) x253000 x253001 x253002) else (some false)) else (none)) else (none))) else (laws_FnOverlaps.l0 k x4 x5 x6 x7 x8 (wrap64 (x9 + 1)) x253000 x253001 x253002)
end
def laws_FnOverlaps.f (k : Nat) (l0 : List Int) : Option (Bool) := (laws_big.f l0).bind fun t243 => (if t243 = true then (some true) else ((spec_DrawOverlap.f k l0).bind fun bt244 => ((impl_Overlap.f k bt244.1 bt244.2.1 bt244.2.2.1 bt244.2.2.2.1 bt244.2.2.2.2.1 bt244.2.2.2.2.2).bind fun t253 => (laws_FnOverlaps.l0 k bt244.2.2.2.1 bt244.2.2.2.2.1 bt244.2.2.2.2.2 t253 0 0 bt244.1 bt244.2.1 bt244.2.2.1))))
theorem laws_FnOverlaps.mono_l : ∀ k, (∀ y0 y1 y2 y3 y4 y5 y6 y7 y8, LeO (laws_FnOverlaps.l0 k y0 y1 y2 y3 y4 y5 y6 y7 y8) (laws_FnOverlaps.l0 (k + 1) y0 y1 y2 y3 y4 y5 y6 y7 y8)) ∧ (∀ y0 y1 y2 y3 y4 y5 y6 y7 y8 y9 y10 y11 y12 y13, LeO (laws_FnOverlaps.j1 k y0 y1 y2 y3 y4 y5 y6 y7 y8 y9 y10 y11 y12 y13) (laws_FnOverlaps.j1 (k + 1) y0 y1 y2 y3 y4 y5 y6 y7 y8 y9 y10 y11 y12 y13))
 | 0 => ⟨fun _ _ _ _ _ _ _ _ _ r h => by simp [laws_FnOverlaps.l0] at h, fun _ _ _ _ _ _ _ _ _ _ _ _ _ _ r h => by simp [laws_FnOverlaps.j1] at h⟩
 | k + 1 => by
  obtain ⟨ih0, ih1⟩ := laws_FnOverlaps.mono_l k
  refine ⟨?_, ?_⟩
  ·intro y0 y1 y2 y3 y4 y5 y6 y7 y8
   unfold laws_FnOverlaps.l0
   repeat' first
   | (with_reducible exact ih0 _ _ _ _ _ _ _ _ _)
   | (with_reducible exact ih1 _ _ _ _ _ _ _ _ _ _ _ _ _ _)
   | (with_reducible exact impl_Overlap.mono _ _ _ _ _ _ _)
   | (with_reducible exact spec_DrawOverlap.mono _ _)
   | (with_reducible exact LeO.refl _)
   | (with_reducible exact LeO.none _)
   | (with_reducible refine LeO.ite ?_ ?_)
   | (with_reducible refine LeO.bind ?_ (fun _ => ?_))
   | exact ih0 _ _ _ _ _ _ _ _ _
   | exact ih1 _ _ _ _ _ _ _ _ _ _ _ _ _ _
   | exact impl_Overlap.mono _ _ _ _ _ _ _
   | exact spec_DrawOverlap.mono _ _
   | exact LeO.none _
   | refine LeO.ite ?_ ?_
   | refine LeO.bind ?_ (fun _ => ?_)
  ·intro y0 y1 y2 y3 y4 y5 y6 y7 y8 y9 y10 y11 y12 y13
   unfold laws_FnOverlaps.j1
   repeat' first
   | (with_reducible exact ih0 _ _ _ _ _ _ _ _ _)
   | (with_reducible exact ih1 _ _ _ _ _ _ _ _ _ _ _ _ _ _)
   | (with_reducible exact impl_Overlap.mono _ _ _ _ _ _ _)
   | (with_reducible exact spec_DrawOverlap.mono _ _)
   | (with_reducible exact LeO.refl _)
   | (with_reducible exact LeO.none _)
   | (with_reducible refine LeO.ite ?_ ?_)
   | (with_reducible refine LeO.bind ?_ (fun _ => ?_))
   | exact ih0 _ _ _ _ _ _ _ _ _
   | exact ih1 _ _ _ _ _ _ _ _ _ _ _ _ _ _
   | exact impl_Overlap.mono _ _ _ _ _ _ _
   | exact spec_DrawOverlap.mono _ _
   | exact LeO.none _
   | refine LeO.ite ?_ ?_
   | refine LeO.bind ?_ (fun _ => ?_)
theorem laws_FnOverlaps.mono : ∀ a0 k, LeO (laws_FnOverlaps.f k a0) (laws_FnOverlaps.f (k + 1) a0) := by
 intro a0 k
 obtain ⟨ih0, ih1⟩ := laws_FnOverlaps.mono_l k
 unfold laws_FnOverlaps.f
 repeat' first
   | (with_reducible exact ih0 _ _ _ _ _ _ _ _ _)
   | (with_reducible exact ih1 _ _ _ _ _ _ _ _ _ _ _ _ _ _)
   | (with_reducible exact impl_Overlap.mono _ _ _ _ _ _ _)
   | (with_reducible exact spec_DrawOverlap.mono _ _)
   | (with_reducible exact LeO.refl _)
   | (with_reducible exact LeO.none _)
   | (with_reducible refine LeO.ite ?_ ?_)
   | (with_reducible refine LeO.bind ?_ (fun _ => ?_))
   | exact ih0 _ _ _ _ _ _ _ _ _
   | exact ih1 _ _ _ _ _ _ _ _ _ _ _ _ _ _
   | exact impl_Overlap.mono _ _ _ _ _ _ _
   | exact spec_DrawOverlap.mono _ _
   | exact LeO.none _
   | refine LeO.ite ?_ ?_
   | refine LeO.bind ?_ (fun _ => ?_)
set_option maxHeartbeats 8000000 in
set_option maxRecDepth 100000 in
theorem laws_FnOverlaps.calls (k : Nat) (A0 : Option Addr) (c0 : Nat) (l0 : List Int) (r : Bool) (w : World) (hr0 : Kd.C (Kd.int .u8) w A0 l0.length l0) (hc0 : l0.length ≤ c0) (h : laws_FnOverlaps.f k l0 = some r) :
  Calls Try.prog 6 #[.slice A0 l0.length c0] w fun e w' => e = .returned (.bool r) ∧ Below w.heap.size w w' := by
 have hu40 := Try.underlying40
 have hu46 := Try.underlying46
 have HR0 := mS hr0
 have HC0 := mS hc0
 clear hr0 hc0
 have HB := mS (Below.refl w.heap.size w)
 have H : ((laws_big.f l0).bind fun t243 => (if t243 = true then (some true) else ((spec_DrawOverlap.f k l0).bind fun bt244 => ((impl_Overlap.f k bt244.1 bt244.2.1 bt244.2.2.1 bt244.2.2.2.1 bt244.2.2.2.2.1 bt244.2.2.2.2.2).bind fun t253 => (laws_FnOverlaps.l0 k bt244.2.2.2.1 bt244.2.2.2.2.1 bt244.2.2.2.2.2 t253 0 0 bt244.1 bt244.2.1 bt244.2.2.1))))) = some r := h
 clear h
 replace H := Option.bind_eq_some_iff.mp H
 obtain ⟨t243, A20, H⟩ := H
 replace H : (if t243 = true then (some true) else ((spec_DrawOverlap.f k l0).bind fun bt244 => ((impl_Overlap.f k bt244.1 bt244.2.1 bt244.2.2.1 bt244.2.2.2.1 bt244.2.2.2.2.1 bt244.2.2.2.2.2).bind fun t253 => (laws_FnOverlaps.l0 k bt244.2.2.2.1 bt244.2.2.2.2.1 bt244.2.2.2.2.2 t253 0 0 bt244.1 bt244.2.1 bt244.2.2.1)))) = some r := H
 have A2 := mS A20
 clear A20
 by_cases c3 : t243 = true
 ·subst c3
  have H1 : (some true) = some r := by rw [if_pos rfl] at H; exact H
  clear H
  have H := H1
  clear H1
  obtain rfl := Option.some.inj H
  go_enter Try.func6, Try.ntmps6
  go_wp2_with (first | (go_at_call 23; (with_reducible refine (laws_big.calls _ _ l0 true _ ?side1 ?side2 A2.out).mono ?_); (case side1 => repeat (first | exact HR0.out | (with_reducible refine Kd.C_alloc ?_ _) | (with_reducible refine Kd.C_drewN ?_ _) | (with_reducible refine Kd.C_drew ?_))); (case side2 => exact HC0.out); rintro e w' ⟨rfl, ⟨nd, rfl⟩⟩; (try first | exact ⟨rfl, _, World.drewN_drewN _ _ _⟩ | exact ⟨rfl, _, Eq.trans (World.drewN_drewN _ _ _) (congrArg (World.drewN _) (Nat.add_assoc _ _ _))⟩)))
  repeat (go_quiet (first | (go_at_call 23; (with_reducible refine (laws_big.calls _ _ l0 true _ ?side1 ?side2 A2.out).mono ?_); (case side1 => repeat (first | exact HR0.out | (with_reducible refine Kd.C_alloc ?_ _) | (with_reducible refine Kd.C_drewN ?_ _) | (with_reducible refine Kd.C_drew ?_))); (case side2 => exact HC0.out); rintro e w' ⟨rfl, ⟨nd, rfl⟩⟩; (try first | exact ⟨rfl, _, World.drewN_drewN _ _ _⟩ | exact ⟨rfl, _, Eq.trans (World.drewN_drewN _ _ _) (congrArg (World.drewN _) (Nat.add_assoc _ _ _))⟩))); try go_wp2_with (first | (go_at_call 23; (with_reducible refine (laws_big.calls _ _ l0 true _ ?side1 ?side2 A2.out).mono ?_); (case side1 => repeat (first | exact HR0.out | (with_reducible refine Kd.C_alloc ?_ _) | (with_reducible refine Kd.C_drewN ?_ _) | (with_reducible refine Kd.C_drew ?_))); (case side2 => exact HC0.out); rintro e w' ⟨rfl, ⟨nd, rfl⟩⟩; (try first | exact ⟨rfl, _, World.drewN_drewN _ _ _⟩ | exact ⟨rfl, _, Eq.trans (World.drewN_drewN _ _ _) (congrArg (World.drewN _) (Nat.add_assoc _ _ _))⟩))))
  go_ret
  exact ⟨by first | rfl | (simp [errW_none, errW_some] <;> rfl) | (simp [*, errW_none, errW_some] <;> rfl), (mH HB.out)⟩
 ·replace c3 := Bool.eq_false_iff.mpr c3
  subst c3
  have H1 : ((spec_DrawOverlap.f k l0).bind fun bt244 => ((impl_Overlap.f k bt244.1 bt244.2.1 bt244.2.2.1 bt244.2.2.2.1 bt244.2.2.2.2.1 bt244.2.2.2.2.2).bind fun t253 => (laws_FnOverlaps.l0 k bt244.2.2.2.1 bt244.2.2.2.2.1 bt244.2.2.2.2.2 t253 0 0 bt244.1 bt244.2.1 bt244.2.2.1))) = some r := by rw [if_neg (show ¬ (false = true) by decide)] at H; exact H
  clear H
  have H := H1
  clear H1
  replace H := Option.bind_eq_some_iff.mp H
  obtain ⟨⟨t244, t245, t246, t249, t250, t251⟩, A40, H⟩ := H
  replace H : ((impl_Overlap.f k t244 t245 t246 t249 t250 t251).bind fun t253 => (laws_FnOverlaps.l0 k t249 t250 t251 t253 0 0 t244 t245 t246)) = some r := H
  have A4 := mS A40
  clear A40
  replace H := Option.bind_eq_some_iff.mp H
  obtain ⟨t253, A50, H⟩ := H
  replace H : (laws_FnOverlaps.l0 k t249 t250 t251 t253 0 0 t244 t245 t246) = some r := H
  have A5 := mS A50
  clear A50
  have H' := mS H
  clear H
  go_enter Try.func6, Try.ntmps6
  go_wp2_with (first | (go_at_call 23; (with_reducible refine (laws_big.calls _ _ l0 false _ ?side1 ?side2 A2.out).mono ?_); (case side1 => repeat (first | exact HR0.out | (with_reducible refine Kd.C_alloc ?_ _) | (with_reducible refine Kd.C_drewN ?_ _) | (with_reducible refine Kd.C_drew ?_))); (case side2 => exact HC0.out); rintro e w' ⟨rfl, ⟨nd, rfl⟩⟩; (try first | exact ⟨rfl, _, World.drewN_drewN _ _ _⟩ | exact ⟨rfl, _, Eq.trans (World.drewN_drewN _ _ _) (congrArg (World.drewN _) (Nat.add_assoc _ _ _))⟩)) | (go_at_call 29; (with_reducible refine (spec_DrawOverlap.calls k _ _ l0 t244 t245 t246 t249 t250 t251 _ ?side1 ?side2 A4.out).mono ?_); (case side1 => repeat (first | exact HR0.out | (with_reducible refine Kd.C_alloc ?_ _) | (with_reducible refine Kd.C_drewN ?_ _) | (with_reducible refine Kd.C_drew ?_))); (case side2 => exact HC0.out); rintro e w6 ⟨v247, rfl, ho0, hb⟩; have HO248 := mS (Kd.R_lower ho0 (below_size (mH HB.out))); replace HB := mS (below_step (mH HB.out) hb); (try clear hb); (try clear hb2); (try clear hk); (try clear hi); (try clear ho0)) | ((with_reducible refine gate_dst (N := 3) rfl ?_); refine box_event ?hg (N := 3) ?hd (cs := #[.int .i64 0, .int .i64 0, .slice none 0 0]) (t := 40) ?hr ?_; (case hd => rfl); (case hg => rfl); (case hr => first | (go_simp; done) | (go_simp; rfl)); intro gb252 hg w7 hbox hb; replace HO248 := mS (Kd.R_below (mR HO248.out) hb); have BK252 := mS (hbox); have GW252 := mG hg (mH HB.out); have GE252 := mG hg (mH HB.out); replace HB := mS (below_step (mH HB.out) hb); clear hb hbox hg; have hcz8_0 := mZ BK252.out 0; have hcz8_1 := mZ BK252.out 1; have hcz8_2 := mZ BK252.out 2; have hfz8_0 := blk_frozen BK252.out 0; have hfz8_1 := blk_frozen BK252.out 1; have hfz8_2 := blk_frozen BK252.out 2; obtain ⟨Ao9, co9, eo9⟩ := Kd.R_slice HO248.out; subst eo9) | (go_at_call 30; (with_reducible refine (impl_Overlap.calls k t244 t245 _ _ t246 t249 t250 t251 t253 _ ?side1 ?side2 A5.out).mono ?_); (case side1 => refine (Kd.R_reads' (e := 46) (base := w.heap.size) (ok := fun k_ => True) (n := t246.length) (c := co9) ?_).2.2; exact (by (with_reducible repeat (first | apply Kd.R_alloc | apply Kd.R_drewN | apply Kd.R_drew)); exact (Kd.R_mono (Kd.R_far (p := ⟨gb252, 2, none⟩) (Kd.R_far (p := ⟨gb252, 1, none⟩) (Kd.R_far (p := ⟨gb252, 0, none⟩) (Kd.R_types HO248.out BK252.out (by decide)) (fun _ hk => hk.2) (.int .i64 t244)) (fun _ hk => hk.2) (.int .i64 t245)) (fun _ hk => hk.2) (.slice Ao9 t246.length co9)) (fun _ h_ => h_.1)))); (case side2 => exact (Kd.R_reads' HO248.out).2.1); rintro e w10 ⟨v254, rfl, ho0, hb⟩; replace HO248 := mS (Kd.R_below (by (with_reducible repeat (first | apply Kd.R_alloc | apply Kd.R_drewN | apply Kd.R_drew)); exact (Kd.R_mono (Kd.R_far (p := ⟨gb252, 2, none⟩) (Kd.R_far (p := ⟨gb252, 1, none⟩) (Kd.R_far (p := ⟨gb252, 0, none⟩) (Kd.R_types HO248.out BK252.out (by decide)) (fun _ hk => hk.2) (.int .i64 t244)) (fun _ hk => hk.2) (.int .i64 t245)) (fun _ hk => hk.2) (.slice Ao9 t246.length co9)) (fun _ h_ => h_.1))) hb); have HO255 := mS (Kd.R_lower ho0 (below_size (mH1 HB.out GE252.out))); replace BK252 := mS (blk_below (g := gb252) (o := .cells #[.int .i64 t244, .int .i64 t245, .slice Ao9 t246.length co9] 40 (0, 0)) (by (with_reducible repeat (first | refine blk_drewN ?_ _ | refine blk_drew ?_ | refine blk_alloc ?_ _)); refine blk_put (cs := #[.int .i64 t244, .int .i64 t245, .slice none 0 0]) ?_ 2 _ rfl; (with_reducible repeat (first | refine blk_drewN ?_ _ | refine blk_drew ?_ | refine blk_alloc ?_ _)); refine blk_put (cs := #[.int .i64 t244, .int .i64 0, .slice none 0 0]) ?_ 1 _ rfl; (with_reducible repeat (first | refine blk_drewN ?_ _ | refine blk_drew ?_ | refine blk_alloc ?_ _)); refine blk_put (cs := #[.int .i64 0, .int .i64 0, .slice none 0 0]) ?_ 0 _ rfl; (with_reducible repeat (first | refine blk_drewN ?_ _ | refine blk_drew ?_ | refine blk_alloc ?_ _)); exact BK252.out) hb); replace HB := mS (below_step (mH1 HB.out GE252.out) hb); (try clear hb); (try clear hb2); (try clear hk); (try clear hi); (try clear ho0)))
  repeat (go_quiet (first | (go_at_call 23; (with_reducible refine (laws_big.calls _ _ l0 false _ ?side1 ?side2 A2.out).mono ?_); (case side1 => repeat (first | exact HR0.out | (with_reducible refine Kd.C_alloc ?_ _) | (with_reducible refine Kd.C_drewN ?_ _) | (with_reducible refine Kd.C_drew ?_))); (case side2 => exact HC0.out); rintro e w' ⟨rfl, ⟨nd, rfl⟩⟩; (try first | exact ⟨rfl, _, World.drewN_drewN _ _ _⟩ | exact ⟨rfl, _, Eq.trans (World.drewN_drewN _ _ _) (congrArg (World.drewN _) (Nat.add_assoc _ _ _))⟩)) | (go_at_call 29; (with_reducible refine (spec_DrawOverlap.calls k _ _ l0 t244 t245 t246 t249 t250 t251 _ ?side1 ?side2 A4.out).mono ?_); (case side1 => repeat (first | exact HR0.out | (with_reducible refine Kd.C_alloc ?_ _) | (with_reducible refine Kd.C_drewN ?_ _) | (with_reducible refine Kd.C_drew ?_))); (case side2 => exact HC0.out); rintro e w6 ⟨v247, rfl, ho0, hb⟩; have HO248 := mS (Kd.R_lower ho0 (below_size (mH HB.out))); replace HB := mS (below_step (mH HB.out) hb); (try clear hb); (try clear hb2); (try clear hk); (try clear hi); (try clear ho0)) | ((with_reducible refine gate_dst (N := 3) rfl ?_); refine box_event ?hg (N := 3) ?hd (cs := #[.int .i64 0, .int .i64 0, .slice none 0 0]) (t := 40) ?hr ?_; (case hd => rfl); (case hg => rfl); (case hr => first | (go_simp; done) | (go_simp; rfl)); intro gb252 hg w7 hbox hb; replace HO248 := mS (Kd.R_below (mR HO248.out) hb); have BK252 := mS (hbox); have GW252 := mG hg (mH HB.out); have GE252 := mG hg (mH HB.out); replace HB := mS (below_step (mH HB.out) hb); clear hb hbox hg; have hcz8_0 := mZ BK252.out 0; have hcz8_1 := mZ BK252.out 1; have hcz8_2 := mZ BK252.out 2; have hfz8_0 := blk_frozen BK252.out 0; have hfz8_1 := blk_frozen BK252.out 1; have hfz8_2 := blk_frozen BK252.out 2; obtain ⟨Ao9, co9, eo9⟩ := Kd.R_slice HO248.out; subst eo9) | (go_at_call 30; (with_reducible refine (impl_Overlap.calls k t244 t245 _ _ t246 t249 t250 t251 t253 _ ?side1 ?side2 A5.out).mono ?_); (case side1 => refine (Kd.R_reads' (e := 46) (base := w.heap.size) (ok := fun k_ => True) (n := t246.length) (c := co9) ?_).2.2; exact (by (with_reducible repeat (first | apply Kd.R_alloc | apply Kd.R_drewN | apply Kd.R_drew)); exact (Kd.R_mono (Kd.R_far (p := ⟨gb252, 2, none⟩) (Kd.R_far (p := ⟨gb252, 1, none⟩) (Kd.R_far (p := ⟨gb252, 0, none⟩) (Kd.R_types HO248.out BK252.out (by decide)) (fun _ hk => hk.2) (.int .i64 t244)) (fun _ hk => hk.2) (.int .i64 t245)) (fun _ hk => hk.2) (.slice Ao9 t246.length co9)) (fun _ h_ => h_.1)))); (case side2 => exact (Kd.R_reads' HO248.out).2.1); rintro e w10 ⟨v254, rfl, ho0, hb⟩; replace HO248 := mS (Kd.R_below (by (with_reducible repeat (first | apply Kd.R_alloc | apply Kd.R_drewN | apply Kd.R_drew)); exact (Kd.R_mono (Kd.R_far (p := ⟨gb252, 2, none⟩) (Kd.R_far (p := ⟨gb252, 1, none⟩) (Kd.R_far (p := ⟨gb252, 0, none⟩) (Kd.R_types HO248.out BK252.out (by decide)) (fun _ hk => hk.2) (.int .i64 t244)) (fun _ hk => hk.2) (.int .i64 t245)) (fun _ hk => hk.2) (.slice Ao9 t246.length co9)) (fun _ h_ => h_.1))) hb); have HO255 := mS (Kd.R_lower ho0 (below_size (mH1 HB.out GE252.out))); replace BK252 := mS (blk_below (g := gb252) (o := .cells #[.int .i64 t244, .int .i64 t245, .slice Ao9 t246.length co9] 40 (0, 0)) (by (with_reducible repeat (first | refine blk_drewN ?_ _ | refine blk_drew ?_ | refine blk_alloc ?_ _)); refine blk_put (cs := #[.int .i64 t244, .int .i64 t245, .slice none 0 0]) ?_ 2 _ rfl; (with_reducible repeat (first | refine blk_drewN ?_ _ | refine blk_drew ?_ | refine blk_alloc ?_ _)); refine blk_put (cs := #[.int .i64 t244, .int .i64 0, .slice none 0 0]) ?_ 1 _ rfl; (with_reducible repeat (first | refine blk_drewN ?_ _ | refine blk_drew ?_ | refine blk_alloc ?_ _)); refine blk_put (cs := #[.int .i64 0, .int .i64 0, .slice none 0 0]) ?_ 0 _ rfl; (with_reducible repeat (first | refine blk_drewN ?_ _ | refine blk_drew ?_ | refine blk_alloc ?_ _)); exact BK252.out) hb); replace HB := mS (below_step (mH1 HB.out GE252.out) hb); (try clear hb); (try clear hb2); (try clear hk); (try clear hi); (try clear ho0))); try go_wp2_with (first | (go_at_call 23; (with_reducible refine (laws_big.calls _ _ l0 false _ ?side1 ?side2 A2.out).mono ?_); (case side1 => repeat (first | exact HR0.out | (with_reducible refine Kd.C_alloc ?_ _) | (with_reducible refine Kd.C_drewN ?_ _) | (with_reducible refine Kd.C_drew ?_))); (case side2 => exact HC0.out); rintro e w' ⟨rfl, ⟨nd, rfl⟩⟩; (try first | exact ⟨rfl, _, World.drewN_drewN _ _ _⟩ | exact ⟨rfl, _, Eq.trans (World.drewN_drewN _ _ _) (congrArg (World.drewN _) (Nat.add_assoc _ _ _))⟩)) | (go_at_call 29; (with_reducible refine (spec_DrawOverlap.calls k _ _ l0 t244 t245 t246 t249 t250 t251 _ ?side1 ?side2 A4.out).mono ?_); (case side1 => repeat (first | exact HR0.out | (with_reducible refine Kd.C_alloc ?_ _) | (with_reducible refine Kd.C_drewN ?_ _) | (with_reducible refine Kd.C_drew ?_))); (case side2 => exact HC0.out); rintro e w6 ⟨v247, rfl, ho0, hb⟩; have HO248 := mS (Kd.R_lower ho0 (below_size (mH HB.out))); replace HB := mS (below_step (mH HB.out) hb); (try clear hb); (try clear hb2); (try clear hk); (try clear hi); (try clear ho0)) | ((with_reducible refine gate_dst (N := 3) rfl ?_); refine box_event ?hg (N := 3) ?hd (cs := #[.int .i64 0, .int .i64 0, .slice none 0 0]) (t := 40) ?hr ?_; (case hd => rfl); (case hg => rfl); (case hr => first | (go_simp; done) | (go_simp; rfl)); intro gb252 hg w7 hbox hb; replace HO248 := mS (Kd.R_below (mR HO248.out) hb); have BK252 := mS (hbox); have GW252 := mG hg (mH HB.out); have GE252 := mG hg (mH HB.out); replace HB := mS (below_step (mH HB.out) hb); clear hb hbox hg; have hcz8_0 := mZ BK252.out 0; have hcz8_1 := mZ BK252.out 1; have hcz8_2 := mZ BK252.out 2; have hfz8_0 := blk_frozen BK252.out 0; have hfz8_1 := blk_frozen BK252.out 1; have hfz8_2 := blk_frozen BK252.out 2; obtain ⟨Ao9, co9, eo9⟩ := Kd.R_slice HO248.out; subst eo9) | (go_at_call 30; (with_reducible refine (impl_Overlap.calls k t244 t245 _ _ t246 t249 t250 t251 t253 _ ?side1 ?side2 A5.out).mono ?_); (case side1 => refine (Kd.R_reads' (e := 46) (base := w.heap.size) (ok := fun k_ => True) (n := t246.length) (c := co9) ?_).2.2; exact (by (with_reducible repeat (first | apply Kd.R_alloc | apply Kd.R_drewN | apply Kd.R_drew)); exact (Kd.R_mono (Kd.R_far (p := ⟨gb252, 2, none⟩) (Kd.R_far (p := ⟨gb252, 1, none⟩) (Kd.R_far (p := ⟨gb252, 0, none⟩) (Kd.R_types HO248.out BK252.out (by decide)) (fun _ hk => hk.2) (.int .i64 t244)) (fun _ hk => hk.2) (.int .i64 t245)) (fun _ hk => hk.2) (.slice Ao9 t246.length co9)) (fun _ h_ => h_.1)))); (case side2 => exact (Kd.R_reads' HO248.out).2.1); rintro e w10 ⟨v254, rfl, ho0, hb⟩; replace HO248 := mS (Kd.R_below (by (with_reducible repeat (first | apply Kd.R_alloc | apply Kd.R_drewN | apply Kd.R_drew)); exact (Kd.R_mono (Kd.R_far (p := ⟨gb252, 2, none⟩) (Kd.R_far (p := ⟨gb252, 1, none⟩) (Kd.R_far (p := ⟨gb252, 0, none⟩) (Kd.R_types HO248.out BK252.out (by decide)) (fun _ hk => hk.2) (.int .i64 t244)) (fun _ hk => hk.2) (.int .i64 t245)) (fun _ hk => hk.2) (.slice Ao9 t246.length co9)) (fun _ h_ => h_.1))) hb); have HO255 := mS (Kd.R_lower ho0 (below_size (mH1 HB.out GE252.out))); replace BK252 := mS (blk_below (g := gb252) (o := .cells #[.int .i64 t244, .int .i64 t245, .slice Ao9 t246.length co9] 40 (0, 0)) (by (with_reducible repeat (first | refine blk_drewN ?_ _ | refine blk_drew ?_ | refine blk_alloc ?_ _)); refine blk_put (cs := #[.int .i64 t244, .int .i64 t245, .slice none 0 0]) ?_ 2 _ rfl; (with_reducible repeat (first | refine blk_drewN ?_ _ | refine blk_drew ?_ | refine blk_alloc ?_ _)); refine blk_put (cs := #[.int .i64 t244, .int .i64 0, .slice none 0 0]) ?_ 1 _ rfl; (with_reducible repeat (first | refine blk_drewN ?_ _ | refine blk_drew ?_ | refine blk_alloc ?_ _)); refine blk_put (cs := #[.int .i64 0, .int .i64 0, .slice none 0 0]) ?_ 0 _ rfl; (with_reducible repeat (first | refine blk_drewN ?_ _ | refine blk_drew ?_ | refine blk_alloc ?_ _)); exact BK252.out) hb); replace HB := mS (below_step (mH1 HB.out GE252.out) hb); (try clear hb); (try clear hb2); (try clear hk); (try clear hi); (try clear ho0))))
  go_loopg [8, 9] k (fun kq v8 v9 w' => ∃ (x8_1 : Int) (x9_1 : Int), v8 = .int .i64 x8_1 ∧ v9 = .int .i64 x9_1 ∧ Aside0 (laws_FnOverlaps.l0 kq t249 t250 t251 t253 x8_1 x9_1 t244 t245 t246 = some r) ∧ Aside0 (kq ≤ k) ∧ Aside0 (Kd.R (Kd.int .i64) 3 w' w.heap.size (fun _ => True) v254 t253) ∧ Aside0 (Kd.R k46 46 w' w.heap.size (fun _ => True) (.slice Ao9 t246.length co9) t246) ∧ Aside0 (w'.heap[gb252]? = some (.cells #[.int .i64 t244, .int .i64 t245, (.slice Ao9 t246.length co9)] 40 (0, 0))) ∧ Aside0 (Below w.heap.size w w'))
  case atStart => exact ⟨(0), (0), (by first | rfl | (simp; done) | (simp [*]; done)), (by first | rfl | (simp; done) | (simp [*]; done)), H', ⟨Nat.le_refl _⟩, ⟨by (with_reducible repeat (first | apply Kd.R_alloc | apply Kd.R_drewN | apply Kd.R_drew)); exact HO255.out⟩, ⟨by (with_reducible repeat (first | apply Kd.R_alloc | apply Kd.R_drewN | apply Kd.R_drew)); exact HO248.out⟩, ⟨by (with_reducible repeat (first | refine blk_drewN ?_ _ | refine blk_drew ?_ | refine blk_alloc ?_ _)); exact BK252.out⟩, ⟨(mH1 HB.out GE252.out)⟩⟩
  case round =>
   clear H'
   try clear p2
   try clear c3
   try clear c6
   try clear hcz8_0
   try clear hcz8_1
   try clear hcz8_2
   try clear hfz8_0
   try clear hfz8_1
   try clear hfz8_2
   obtain ⟨x8_1, x9_1, rfl, rfl, HA, HK1, HO_7, HO_253002, BK252, HB⟩ := hrel
   cases gk with
   | zero => exact absurd HA.out (by simp [laws_FnOverlaps.l0])
   | succ k1 =>
    have H := HA.out
    clear HA
    simp only [laws_FnOverlaps.l0] at H
    by_cases c11 : x9_1 < (t246.length : Int)
    ·rw [if_pos c11] at H
     have c11b0 : decide (x9_1 < (t246.length : Int)) = true := decide_eq_true c11
     clear c11
     by_cases c12 : 0 ≤ x9_1
     ·rw [if_pos c12] at H
      have c12b0 : decide (0 ≤ x9_1) = true := decide_eq_true c12
      clear c12
      have HC13 := mS H
      clear H
      have hcz14_0 := mZ BK252.out 0
      have hcz14_1 := mZ BK252.out 1
      have hcz14_2 := mZ BK252.out 2
      have hfz14_0 := blk_frozen BK252.out 0
      have hfz14_1 := blk_frozen BK252.out 1
      have hfz14_2 := blk_frozen BK252.out 2
      have p256 : 0 ≤ (x9_1 : Int) := of_decide_eq_true (by first | (with_reducible assumption) | assumption)
      have q256 : x9_1 < (t246.length : Int) := of_decide_eq_true (by first | (with_reducible assumption) | assumption)
      obtain ⟨ad256, e256, hx256_0, hx256_1, hx256_2, hx256_3⟩ := at_T46 (Kd.R_reads' HO_253002.out).2.2 x9_1 p256 q256
      cases e256
      replace p256 := eq_true p256
      replace q256 := eq_true q256
      go_upto_region 10 with (first | ((with_reducible refine gate_dst (N := 10) rfl ?_); refine box_event ?hg (N := 10) ?hd (cs := #[.int .i64 0, .int .i64 0, .string (⟨#[]⟩ : ByteArray), .string (⟨#[]⟩ : ByteArray)]) (t := 46) ?hr ?_; (case hd => rfl); (case hg => rfl); (case hr => first | (go_simp; done) | (go_simp; rfl)); intro gb257 hg w15 hbox hb; replace HO_7 := mS (Kd.R_below (mR HO_7.out) hb); replace HO_253002 := mS (Kd.R_below (Kd.R_elderB (mR HO_253002.out) gb257 (Nat.le_of_eq hg.symm)) hb); have BK257 := mS (hbox); have GW257 := mG hg (mH1 HB.out GE252.out); have GE257 := mG hg (mH1 HB.out GE252.out); replace HB := mS (below_step (mH1 HB.out GE252.out) hb); have NB252_257 := mNl hg BK252.out; have NB257_252 := mNg hg BK252.out; replace BK252 := mB BK252 hb; clear hb hbox hg; have hnb16 := NB257_252.out; have hnc16 := NB252_257.out; have hcz17_0 := mZ BK257.out 0; have hcz17_1 := mZ BK257.out 1; have hcz17_2 := mZ BK257.out 2; have hcz17_3 := mZ BK257.out 3; have hfz17_0 := blk_frozen BK257.out 0; have hfz17_1 := blk_frozen BK257.out 1; have hfz17_2 := blk_frozen BK257.out 2; have hfz17_3 := blk_frozen BK257.out 3))
      repeat (go_quiet (first | ((with_reducible refine gate_dst (N := 10) rfl ?_); refine box_event ?hg (N := 10) ?hd (cs := #[.int .i64 0, .int .i64 0, .string (⟨#[]⟩ : ByteArray), .string (⟨#[]⟩ : ByteArray)]) (t := 46) ?hr ?_; (case hd => rfl); (case hg => rfl); (case hr => first | (go_simp; done) | (go_simp; rfl)); intro gb257 hg w15 hbox hb; replace HO_7 := mS (Kd.R_below (mR HO_7.out) hb); replace HO_253002 := mS (Kd.R_below (Kd.R_elderB (mR HO_253002.out) gb257 (Nat.le_of_eq hg.symm)) hb); have BK257 := mS (hbox); have GW257 := mG hg (mH1 HB.out GE252.out); have GE257 := mG hg (mH1 HB.out GE252.out); replace HB := mS (below_step (mH1 HB.out GE252.out) hb); have NB252_257 := mNl hg BK252.out; have NB257_252 := mNg hg BK252.out; replace BK252 := mB BK252 hb; clear hb hbox hg; have hnb16 := NB257_252.out; have hnc16 := NB252_257.out; have hcz17_0 := mZ BK257.out 0; have hcz17_1 := mZ BK257.out 1; have hcz17_2 := mZ BK257.out 2; have hcz17_3 := mZ BK257.out 3; have hfz17_0 := blk_frozen BK257.out 0; have hfz17_1 := blk_frozen BK257.out 1; have hfz17_2 := blk_frozen BK257.out 2; have hfz17_3 := blk_frozen BK257.out 3)); go_upto_region 10 with (first | ((with_reducible refine gate_dst (N := 10) rfl ?_); refine box_event ?hg (N := 10) ?hd (cs := #[.int .i64 0, .int .i64 0, .string (⟨#[]⟩ : ByteArray), .string (⟨#[]⟩ : ByteArray)]) (t := 46) ?hr ?_; (case hd => rfl); (case hg => rfl); (case hr => first | (go_simp; done) | (go_simp; rfl)); intro gb257 hg w15 hbox hb; replace HO_7 := mS (Kd.R_below (mR HO_7.out) hb); replace HO_253002 := mS (Kd.R_below (Kd.R_elderB (mR HO_253002.out) gb257 (Nat.le_of_eq hg.symm)) hb); have BK257 := mS (hbox); have GW257 := mG hg (mH1 HB.out GE252.out); have GE257 := mG hg (mH1 HB.out GE252.out); replace HB := mS (below_step (mH1 HB.out GE252.out) hb); have NB252_257 := mNl hg BK252.out; have NB257_252 := mNg hg BK252.out; replace BK252 := mB BK252 hb; clear hb hbox hg; have hnb16 := NB257_252.out; have hnc16 := NB252_257.out; have hcz17_0 := mZ BK257.out 0; have hcz17_1 := mZ BK257.out 1; have hcz17_2 := mZ BK257.out 2; have hcz17_3 := mZ BK257.out 3; have hfz17_0 := blk_frozen BK257.out 0; have hfz17_1 := blk_frozen BK257.out 1; have hfz17_2 := blk_frozen BK257.out 2; have hfz17_3 := blk_frozen BK257.out 3)))
      (try simp only [Act.put, zA, zB, zC])
      go_cut [52] (fun v52 wc => ∃ (kq : Nat) (x52_12 : Bool), v52 = .bool x52_12 ∧ Aside0 (laws_FnOverlaps.j1 kq t249 t250 t251 t253 x8_1 x9_1 x52_12 t244 t245 t246 ((rd_T46 t246 x9_1).f0) ((rd_T46 t246 x9_1).f1) ((rd_T46 t246 x9_1).f2) ((rd_T46 t246 x9_1).f3) = some r) ∧ Aside0 (kq ≤ k1) ∧ Aside0 (Kd.R (Kd.int .i64) 3 wc w.heap.size (fun _ => True) v254 t253) ∧ Aside0 (Kd.R k46 46 wc w.heap.size (fun k_ => k_ ≠ gb257) (.slice (some ad256) t246.length co9) t246) ∧ Aside0 (wc.heap[gb252]? = some (.cells #[.int .i64 t244, .int .i64 t245, (.slice (some ad256) t246.length co9)] 40 (0, 0))) ∧ Aside0 (wc.heap[gb257]? = some (.cells #[.int .i64 ((rd_T46 t246 x9_1).f0), .int .i64 ((rd_T46 t246 x9_1).f1), .string ((rd_T46 t246 x9_1).f2), .string ((rd_T46 t246 x9_1).f3)] 46 (0, 0))) ∧ Aside0 (Below w.heap.size w wc))
      case first =>
       have H := HC13.out
       clear HC13
       by_cases c18 : ((rd_T46 t246 x9_1).f1) = t249
       ·rw [if_pos c18] at H
        have c18b0 : (((rd_T46 t246 x9_1).f1) == t249) = true := beq_iff_eq.mpr c18
        have c18b1 : (((rd_T46 t246 x9_1).f1) != t249) = false := bne_eq_false_iff_eq.mpr c18
        clear c18
        (first | rw [c18b0] | (simp only [i64_w, i32_w]; rw [c18b0]) | skip)
        by_cases c19 : ((Op.bytesLess t251.toList (((rd_T46 t246 x9_1).f2).toList)) = true)
        ·rw [if_pos c19] at H
         have c19b0 : (Op.bytesLess t251.toList (((rd_T46 t246 x9_1).f2).toList)) = true := c19
         clear c19
         have H' := mS H
         clear H
         have hnb20 := NB257_252.out
         have hnc20 := NB252_257.out
         have hcz21_0 := mZ BK257.out 0
         have hcz21_1 := mZ BK257.out 1
         have hcz21_2 := mZ BK257.out 2
         have hcz21_3 := mZ BK257.out 3
         have hfz21_0 := blk_frozen BK257.out 0
         have hfz21_1 := blk_frozen BK257.out 1
         have hfz21_2 := blk_frozen BK257.out 2
         have hfz21_3 := blk_frozen BK257.out 3
         go_wp2
         repeat (go_quiet (fail); try go_wp2)
         go_meet
         case rel => exact ⟨_, (false), (by first | rfl | (simp; done) | (simp [*]; done)), H', ⟨by have := HK1.out; first | omega | exact Nat.le_refl _⟩, ⟨by (with_reducible repeat (first | apply Kd.R_alloc | apply Kd.R_drewN | apply Kd.R_drew)); exact Kd.R_mono (Kd.R_far (p := ⟨gb257, 3, none⟩) (Kd.R_far (p := ⟨gb257, 2, none⟩) (Kd.R_far (p := ⟨gb257, 1, none⟩) (Kd.R_far (p := ⟨gb257, 0, none⟩) (Kd.R_types HO_7.out BK257.out (by decide)) (fun _ hk => hk.2) (.int .i64 ((rd_T46 t246 x9_1).f0))) (fun _ hk => hk.2) (.int .i64 ((rd_T46 t246 x9_1).f1))) (fun _ hk => hk.2) (.string ((rd_T46 t246 x9_1).f2))) (fun _ hk => hk.2) (.string ((rd_T46 t246 x9_1).f3))) (fun _ hk => trivial)⟩, ⟨by (with_reducible repeat (first | apply Kd.R_alloc | apply Kd.R_drewN | apply Kd.R_drew)); exact Kd.R_mono (Kd.R_far (p := ⟨gb257, 3, none⟩) (Kd.R_far (p := ⟨gb257, 2, none⟩) (Kd.R_far (p := ⟨gb257, 1, none⟩) (Kd.R_far (p := ⟨gb257, 0, none⟩) (Kd.R_mono HO_253002.out (fun k_ hk => (⟨hk, hk.2⟩ : _ ∧ k_ ≠ gb257))) (fun _ hk => hk.2) (.int .i64 ((rd_T46 t246 x9_1).f0))) (fun _ hk => hk.2) (.int .i64 ((rd_T46 t246 x9_1).f1))) (fun _ hk => hk.2) (.string ((rd_T46 t246 x9_1).f2))) (fun _ hk => hk.2) (.string ((rd_T46 t246 x9_1).f3))) (fun _ hk => hk.1.2)⟩, ⟨by (with_reducible repeat (first | refine blk_drewN ?_ _ | refine blk_drew ?_ | refine blk_alloc ?_ _)); refine blk_far ?_ NB252_257.out _; (with_reducible repeat (first | refine blk_drewN ?_ _ | refine blk_drew ?_ | refine blk_alloc ?_ _)); refine blk_far ?_ NB252_257.out _; (with_reducible repeat (first | refine blk_drewN ?_ _ | refine blk_drew ?_ | refine blk_alloc ?_ _)); refine blk_far ?_ NB252_257.out _; (with_reducible repeat (first | refine blk_drewN ?_ _ | refine blk_drew ?_ | refine blk_alloc ?_ _)); refine blk_far ?_ NB252_257.out _; (with_reducible repeat (first | refine blk_drewN ?_ _ | refine blk_drew ?_ | refine blk_alloc ?_ _)); exact BK252.out⟩, ⟨by (with_reducible repeat (first | refine blk_drewN ?_ _ | refine blk_drew ?_ | refine blk_alloc ?_ _)); refine blk_put (cs := #[.int .i64 ((rd_T46 t246 x9_1).f0), .int .i64 ((rd_T46 t246 x9_1).f1), .string ((rd_T46 t246 x9_1).f2), .string (⟨#[]⟩ : ByteArray)]) ?_ 3 _ rfl; (with_reducible repeat (first | refine blk_drewN ?_ _ | refine blk_drew ?_ | refine blk_alloc ?_ _)); refine blk_put (cs := #[.int .i64 ((rd_T46 t246 x9_1).f0), .int .i64 ((rd_T46 t246 x9_1).f1), .string (⟨#[]⟩ : ByteArray), .string (⟨#[]⟩ : ByteArray)]) ?_ 2 _ rfl; (with_reducible repeat (first | refine blk_drewN ?_ _ | refine blk_drew ?_ | refine blk_alloc ?_ _)); refine blk_put (cs := #[.int .i64 ((rd_T46 t246 x9_1).f0), .int .i64 0, .string (⟨#[]⟩ : ByteArray), .string (⟨#[]⟩ : ByteArray)]) ?_ 1 _ rfl; (with_reducible repeat (first | refine blk_drewN ?_ _ | refine blk_drew ?_ | refine blk_alloc ?_ _)); refine blk_put (cs := #[.int .i64 0, .int .i64 0, .string (⟨#[]⟩ : ByteArray), .string (⟨#[]⟩ : ByteArray)]) ?_ 0 _ rfl; (with_reducible repeat (first | refine blk_drewN ?_ _ | refine blk_drew ?_ | refine blk_alloc ?_ _)); exact BK257.out⟩, ⟨(mH2 HB.out GE252.out GE257.out)⟩⟩
        ·rw [if_neg c19] at H
         have c19b0 : (Op.bytesLess t251.toList (((rd_T46 t246 x9_1).f2).toList)) = false := by simpa using c19
         clear c19
         have H' := mS H
         clear H
         have hnb22 := NB257_252.out
         have hnc22 := NB252_257.out
         have hcz23_0 := mZ BK257.out 0
         have hcz23_1 := mZ BK257.out 1
         have hcz23_2 := mZ BK257.out 2
         have hcz23_3 := mZ BK257.out 3
         have hfz23_0 := blk_frozen BK257.out 0
         have hfz23_1 := blk_frozen BK257.out 1
         have hfz23_2 := blk_frozen BK257.out 2
         have hfz23_3 := blk_frozen BK257.out 3
         go_wp2
         repeat (go_quiet (fail); try go_wp2)
         go_meet
         case rel => exact ⟨_, (!(Op.bytesLess (((rd_T46 t246 x9_1).f3).toList) t250.toList)), (by first | rfl | (simp; done) | (simp [*]; done)), H', ⟨by have := HK1.out; first | omega | exact Nat.le_refl _⟩, ⟨by (with_reducible repeat (first | apply Kd.R_alloc | apply Kd.R_drewN | apply Kd.R_drew)); exact Kd.R_mono (Kd.R_far (p := ⟨gb257, 3, none⟩) (Kd.R_far (p := ⟨gb257, 2, none⟩) (Kd.R_far (p := ⟨gb257, 1, none⟩) (Kd.R_far (p := ⟨gb257, 0, none⟩) (Kd.R_types HO_7.out BK257.out (by decide)) (fun _ hk => hk.2) (.int .i64 ((rd_T46 t246 x9_1).f0))) (fun _ hk => hk.2) (.int .i64 ((rd_T46 t246 x9_1).f1))) (fun _ hk => hk.2) (.string ((rd_T46 t246 x9_1).f2))) (fun _ hk => hk.2) (.string ((rd_T46 t246 x9_1).f3))) (fun _ hk => trivial)⟩, ⟨by (with_reducible repeat (first | apply Kd.R_alloc | apply Kd.R_drewN | apply Kd.R_drew)); exact Kd.R_mono (Kd.R_far (p := ⟨gb257, 3, none⟩) (Kd.R_far (p := ⟨gb257, 2, none⟩) (Kd.R_far (p := ⟨gb257, 1, none⟩) (Kd.R_far (p := ⟨gb257, 0, none⟩) (Kd.R_mono HO_253002.out (fun k_ hk => (⟨hk, hk.2⟩ : _ ∧ k_ ≠ gb257))) (fun _ hk => hk.2) (.int .i64 ((rd_T46 t246 x9_1).f0))) (fun _ hk => hk.2) (.int .i64 ((rd_T46 t246 x9_1).f1))) (fun _ hk => hk.2) (.string ((rd_T46 t246 x9_1).f2))) (fun _ hk => hk.2) (.string ((rd_T46 t246 x9_1).f3))) (fun _ hk => hk.1.2)⟩, ⟨by (with_reducible repeat (first | refine blk_drewN ?_ _ | refine blk_drew ?_ | refine blk_alloc ?_ _)); refine blk_far ?_ NB252_257.out _; (with_reducible repeat (first | refine blk_drewN ?_ _ | refine blk_drew ?_ | refine blk_alloc ?_ _)); refine blk_far ?_ NB252_257.out _; (with_reducible repeat (first | refine blk_drewN ?_ _ | refine blk_drew ?_ | refine blk_alloc ?_ _)); refine blk_far ?_ NB252_257.out _; (with_reducible repeat (first | refine blk_drewN ?_ _ | refine blk_drew ?_ | refine blk_alloc ?_ _)); refine blk_far ?_ NB252_257.out _; (with_reducible repeat (first | refine blk_drewN ?_ _ | refine blk_drew ?_ | refine blk_alloc ?_ _)); exact BK252.out⟩, ⟨by (with_reducible repeat (first | refine blk_drewN ?_ _ | refine blk_drew ?_ | refine blk_alloc ?_ _)); refine blk_put (cs := #[.int .i64 ((rd_T46 t246 x9_1).f0), .int .i64 ((rd_T46 t246 x9_1).f1), .string ((rd_T46 t246 x9_1).f2), .string (⟨#[]⟩ : ByteArray)]) ?_ 3 _ rfl; (with_reducible repeat (first | refine blk_drewN ?_ _ | refine blk_drew ?_ | refine blk_alloc ?_ _)); refine blk_put (cs := #[.int .i64 ((rd_T46 t246 x9_1).f0), .int .i64 ((rd_T46 t246 x9_1).f1), .string (⟨#[]⟩ : ByteArray), .string (⟨#[]⟩ : ByteArray)]) ?_ 2 _ rfl; (with_reducible repeat (first | refine blk_drewN ?_ _ | refine blk_drew ?_ | refine blk_alloc ?_ _)); refine blk_put (cs := #[.int .i64 ((rd_T46 t246 x9_1).f0), .int .i64 0, .string (⟨#[]⟩ : ByteArray), .string (⟨#[]⟩ : ByteArray)]) ?_ 1 _ rfl; (with_reducible repeat (first | refine blk_drewN ?_ _ | refine blk_drew ?_ | refine blk_alloc ?_ _)); refine blk_put (cs := #[.int .i64 0, .int .i64 0, .string (⟨#[]⟩ : ByteArray), .string (⟨#[]⟩ : ByteArray)]) ?_ 0 _ rfl; (with_reducible repeat (first | refine blk_drewN ?_ _ | refine blk_drew ?_ | refine blk_alloc ?_ _)); exact BK257.out⟩, ⟨(mH2 HB.out GE252.out GE257.out)⟩⟩
       ·rw [if_neg c18] at H
        have c18b0 : (((rd_T46 t246 x9_1).f1) == t249) = false := beq_eq_false_iff_ne.mpr c18
        have c18b1 : (((rd_T46 t246 x9_1).f1) != t249) = true := bne_iff_ne.mpr c18
        (first | rw [c18b0] | (simp only [i64_w, i32_w]; rw [c18b0]) | skip)
        have H' := mS H
        clear H
        have hnb24 := NB257_252.out
        have hnc24 := NB252_257.out
        have hcz25_0 := mZ BK257.out 0
        have hcz25_1 := mZ BK257.out 1
        have hcz25_2 := mZ BK257.out 2
        have hcz25_3 := mZ BK257.out 3
        have hfz25_0 := blk_frozen BK257.out 0
        have hfz25_1 := blk_frozen BK257.out 1
        have hfz25_2 := blk_frozen BK257.out 2
        have hfz25_3 := blk_frozen BK257.out 3
        go_wp2
        repeat (go_quiet (fail); try go_wp2)
        go_meet
        case rel => exact ⟨_, (false), (by first | rfl | (simp; done) | (simp [*]; done)), H', ⟨by have := HK1.out; first | omega | exact Nat.le_refl _⟩, ⟨by (with_reducible repeat (first | apply Kd.R_alloc | apply Kd.R_drewN | apply Kd.R_drew)); exact Kd.R_mono (Kd.R_far (p := ⟨gb257, 3, none⟩) (Kd.R_far (p := ⟨gb257, 2, none⟩) (Kd.R_far (p := ⟨gb257, 1, none⟩) (Kd.R_far (p := ⟨gb257, 0, none⟩) (Kd.R_types HO_7.out BK257.out (by decide)) (fun _ hk => hk.2) (.int .i64 ((rd_T46 t246 x9_1).f0))) (fun _ hk => hk.2) (.int .i64 ((rd_T46 t246 x9_1).f1))) (fun _ hk => hk.2) (.string ((rd_T46 t246 x9_1).f2))) (fun _ hk => hk.2) (.string ((rd_T46 t246 x9_1).f3))) (fun _ hk => trivial)⟩, ⟨by (with_reducible repeat (first | apply Kd.R_alloc | apply Kd.R_drewN | apply Kd.R_drew)); exact Kd.R_mono (Kd.R_far (p := ⟨gb257, 3, none⟩) (Kd.R_far (p := ⟨gb257, 2, none⟩) (Kd.R_far (p := ⟨gb257, 1, none⟩) (Kd.R_far (p := ⟨gb257, 0, none⟩) (Kd.R_mono HO_253002.out (fun k_ hk => (⟨hk, hk.2⟩ : _ ∧ k_ ≠ gb257))) (fun _ hk => hk.2) (.int .i64 ((rd_T46 t246 x9_1).f0))) (fun _ hk => hk.2) (.int .i64 ((rd_T46 t246 x9_1).f1))) (fun _ hk => hk.2) (.string ((rd_T46 t246 x9_1).f2))) (fun _ hk => hk.2) (.string ((rd_T46 t246 x9_1).f3))) (fun _ hk => hk.1.2)⟩, ⟨by (with_reducible repeat (first | refine blk_drewN ?_ _ | refine blk_drew ?_ | refine blk_alloc ?_ _)); refine blk_far ?_ NB252_257.out _; (with_reducible repeat (first | refine blk_drewN ?_ _ | refine blk_drew ?_ | refine blk_alloc ?_ _)); refine blk_far ?_ NB252_257.out _; (with_reducible repeat (first | refine blk_drewN ?_ _ | refine blk_drew ?_ | refine blk_alloc ?_ _)); refine blk_far ?_ NB252_257.out _; (with_reducible repeat (first | refine blk_drewN ?_ _ | refine blk_drew ?_ | refine blk_alloc ?_ _)); refine blk_far ?_ NB252_257.out _; (with_reducible repeat (first | refine blk_drewN ?_ _ | refine blk_drew ?_ | refine blk_alloc ?_ _)); exact BK252.out⟩, ⟨by (with_reducible repeat (first | refine blk_drewN ?_ _ | refine blk_drew ?_ | refine blk_alloc ?_ _)); refine blk_put (cs := #[.int .i64 ((rd_T46 t246 x9_1).f0), .int .i64 ((rd_T46 t246 x9_1).f1), .string ((rd_T46 t246 x9_1).f2), .string (⟨#[]⟩ : ByteArray)]) ?_ 3 _ rfl; (with_reducible repeat (first | refine blk_drewN ?_ _ | refine blk_drew ?_ | refine blk_alloc ?_ _)); refine blk_put (cs := #[.int .i64 ((rd_T46 t246 x9_1).f0), .int .i64 ((rd_T46 t246 x9_1).f1), .string (⟨#[]⟩ : ByteArray), .string (⟨#[]⟩ : ByteArray)]) ?_ 2 _ rfl; (with_reducible repeat (first | refine blk_drewN ?_ _ | refine blk_drew ?_ | refine blk_alloc ?_ _)); refine blk_put (cs := #[.int .i64 ((rd_T46 t246 x9_1).f0), .int .i64 0, .string (⟨#[]⟩ : ByteArray), .string (⟨#[]⟩ : ByteArray)]) ?_ 1 _ rfl; (with_reducible repeat (first | refine blk_drewN ?_ _ | refine blk_drew ?_ | refine blk_alloc ?_ _)); refine blk_put (cs := #[.int .i64 0, .int .i64 0, .string (⟨#[]⟩ : ByteArray), .string (⟨#[]⟩ : ByteArray)]) ?_ 0 _ rfl; (with_reducible repeat (first | refine blk_drewN ?_ _ | refine blk_drew ?_ | refine blk_alloc ?_ _)); exact BK257.out⟩, ⟨(mH2 HB.out GE252.out GE257.out)⟩⟩
      case rest =>
       clear HC13
       try clear c1
       try clear c2
       try clear p2
       try clear q2
       try clear hx2
       try clear c3
       try clear c6
       try clear c11
       try clear c11b0
       try clear c12
       try clear c12b0
       try clear c16
       try clear c18
       try clear c18b0
       try clear c18b1
       try clear c19
       try clear c19b0
       try clear c20
       try clear c22
       try clear c24
       try clear p25
       try clear q25
       try clear hx25
       try clear hcz14_0
       try clear hcz14_1
       try clear hcz14_2
       try clear hcz17_0
       try clear hcz17_1
       try clear hcz17_2
       try clear hcz17_3
       try clear hcz21_0
       try clear hcz21_1
       try clear hcz21_2
       try clear hcz21_3
       try clear hcz23_0
       try clear hcz23_1
       try clear hcz23_2
       try clear hcz23_3
       try clear hcz25_0
       try clear hcz25_1
       try clear hcz25_2
       try clear hcz25_3
       try clear hcz8_0
       try clear hcz8_1
       try clear hcz8_2
       try clear hfz14_0
       try clear hfz14_1
       try clear hfz14_2
       try clear hfz17_0
       try clear hfz17_1
       try clear hfz17_2
       try clear hfz17_3
       try clear hfz21_0
       try clear hfz21_1
       try clear hfz21_2
       try clear hfz21_3
       try clear hfz23_0
       try clear hfz23_1
       try clear hfz23_2
       try clear hfz23_3
       try clear hfz25_0
       try clear hfz25_1
       try clear hfz25_2
       try clear hfz25_3
       try clear hfz8_0
       try clear hfz8_1
       try clear hfz8_2
       try clear hx256_0
       try clear hx256_1
       try clear hx256_2
       try clear hx256_3
       try clear p2
       try clear p256
       try clear q256
       obtain ⟨kq, x52_12, rfl, HA, HJ12, HO_7, HO_253002, BK252, BK257, HB⟩ := hcut
       cases kq with
       | zero => exact absurd HA.out (by simp [laws_FnOverlaps.j1])
       | succ kj12 =>
        have H := HA.out
        clear HA
        simp only [laws_FnOverlaps.j1] at H
        by_cases c26 : x52_12 = true
        ·subst c26
         have H1 : (if x8_1 ≥ (t253.length : Int) then (some false) else (if 0 ≤ x8_1 then (if x8_1 < (t253.length : Int) then (if (rd t253 x8_1) = ((rd_T46 t246 x9_1).f0) then (laws_FnOverlaps.l0 kj12 t249 t250 t251 t253 (wrap64 (x8_1 + 1)) (wrap64 (x9_1 + 1)) t244 t245 t246) else (some false)) else (none)) else (none))) = some r := by rw [if_pos rfl] at H; exact H
         clear H
         have H := H1
         clear H1
         by_cases c27 : x8_1 ≥ (t253.length : Int)
         ·rw [if_pos c27] at H
          have c27b0 : decide ((t253.length : Int) ≤ x8_1) = true := decide_eq_true c27
          clear c27
          obtain rfl := Option.some.inj H
          obtain ⟨Ao28, co28, eo28⟩ := Kd.R_slice HO_7.out
          subst eo28
          go_wp2
          repeat (go_quiet (fail); try go_wp2)
          go_ret
          exact ⟨by first | rfl | (simp [errW_none, errW_some] <;> rfl) | (simp [*, errW_none, errW_some] <;> rfl), (mH2 HB.out GE252.out GE257.out)⟩
         ·rw [if_neg c27] at H
          have c27b0 : decide ((t253.length : Int) ≤ x8_1) = false := decide_eq_false c27
          clear c27
          by_cases c29 : 0 ≤ x8_1
          ·rw [if_pos c29] at H
           have c29b0 : decide (0 ≤ x8_1) = true := decide_eq_true c29
           clear c29
           by_cases c30 : x8_1 < (t253.length : Int)
           ·rw [if_pos c30] at H
            have c30b0 : decide (x8_1 < (t253.length : Int)) = true := decide_eq_true c30
            clear c30
            by_cases c31 : (rd t253 x8_1) = ((rd_T46 t246 x9_1).f0)
            ·rw [if_pos c31] at H
             have c31b0 : ((rd t253 x8_1) == ((rd_T46 t246 x9_1).f0)) = true := beq_iff_eq.mpr c31
             have c31b1 : ((rd t253 x8_1) != ((rd_T46 t246 x9_1).f0)) = false := bne_eq_false_iff_eq.mpr c31
             clear c31
             have H' := mS H
             clear H
             obtain ⟨Ao32, co32, eo32⟩ := Kd.R_slice HO_7.out
             subst eo32
             have p258 : 0 ≤ (x8_1 : Int) := of_decide_eq_true (by first | (with_reducible assumption) | assumption)
             have q258 : x8_1 < (t253.length : Int) := of_decide_eq_true (by first | (with_reducible assumption) | assumption)
             obtain ⟨ad258, e258, hx258_0⟩ := Kd.at_int (Kd.R_reads' HO_7.out).2.2 x8_1 p258 q258
             cases e258
             replace p258 := eq_true p258
             replace q258 := eq_true q258
             have hnb33 := NB257_252.out
             have hnc33 := NB252_257.out
             have hcz34_0 := mZ BK257.out 0
             have hcz34_1 := mZ BK257.out 1
             have hcz34_2 := mZ BK257.out 2
             have hcz34_3 := mZ BK257.out 3
             have hfz34_0 := blk_frozen BK257.out 0
             have hfz34_1 := blk_frozen BK257.out 1
             have hfz34_2 := blk_frozen BK257.out 2
             have hfz34_3 := blk_frozen BK257.out 3
             go_wp2
             repeat (go_quiet (fail); try go_wp2)
             go_roundg kj12
             case measure => have := HK1.out; have := HJ12.out; omega
             case rel => exact ⟨(wrap64 (x8_1 + 1)), (wrap64 (x9_1 + 1)), (by first | rfl | (simp; done) | (simp [*]; done)), (by first | rfl | (simp; done) | (simp [*]; done)), H', ⟨by have := HK1.out; have := HJ12.out; omega⟩, ⟨by (with_reducible repeat (first | apply Kd.R_alloc | apply Kd.R_drewN | apply Kd.R_drew)); exact HO_7.out⟩, ⟨by (with_reducible repeat (first | apply Kd.R_alloc | apply Kd.R_drewN | apply Kd.R_drew)); exact Kd.R_mono HO_253002.out (fun _ hk => trivial)⟩, ⟨by (with_reducible repeat (first | refine blk_drewN ?_ _ | refine blk_drew ?_ | refine blk_alloc ?_ _)); exact BK252.out⟩, ⟨(mH2 HB.out GE252.out GE257.out)⟩⟩
            ·rw [if_neg c31] at H
             have c31b0 : ((rd t253 x8_1) == ((rd_T46 t246 x9_1).f0)) = false := beq_eq_false_iff_ne.mpr c31
             have c31b1 : ((rd t253 x8_1) != ((rd_T46 t246 x9_1).f0)) = true := bne_iff_ne.mpr c31
             obtain rfl := Option.some.inj H
             obtain ⟨Ao35, co35, eo35⟩ := Kd.R_slice HO_7.out
             subst eo35
             have p258 : 0 ≤ (x8_1 : Int) := of_decide_eq_true (by first | (with_reducible assumption) | assumption)
             have q258 : x8_1 < (t253.length : Int) := of_decide_eq_true (by first | (with_reducible assumption) | assumption)
             obtain ⟨ad258, e258, hx258_0⟩ := Kd.at_int (Kd.R_reads' HO_7.out).2.2 x8_1 p258 q258
             cases e258
             replace p258 := eq_true p258
             replace q258 := eq_true q258
             have hnb36 := NB257_252.out
             have hnc36 := NB252_257.out
             have hcz37_0 := mZ BK257.out 0
             have hcz37_1 := mZ BK257.out 1
             have hcz37_2 := mZ BK257.out 2
             have hcz37_3 := mZ BK257.out 3
             have hfz37_0 := blk_frozen BK257.out 0
             have hfz37_1 := blk_frozen BK257.out 1
             have hfz37_2 := blk_frozen BK257.out 2
             have hfz37_3 := blk_frozen BK257.out 3
             go_wp2
             repeat (go_quiet (fail); try go_wp2)
             go_ret
             exact ⟨by first | rfl | (simp [errW_none, errW_some] <;> rfl) | (simp [*, errW_none, errW_some] <;> rfl), (mH2 HB.out GE252.out GE257.out)⟩
           ·rw [if_neg c30] at H
            exact absurd H (by simp)
          ·rw [if_neg c29] at H
           exact absurd H (by simp)
        ·replace c26 := Bool.eq_false_iff.mpr c26
         subst c26
         have H1 : (laws_FnOverlaps.l0 kj12 t249 t250 t251 t253 x8_1 (wrap64 (x9_1 + 1)) t244 t245 t246) = some r := by rw [if_neg (show ¬ (false = true) by decide)] at H; exact H
         clear H
         have H := H1
         clear H1
         have H' := mS H
         clear H
         go_wp2
         repeat (go_quiet (fail); try go_wp2)
         go_roundg kj12
         case measure => have := HK1.out; have := HJ12.out; omega
         case rel => exact ⟨(x8_1), (wrap64 (x9_1 + 1)), (by first | rfl | (simp; done) | (simp [*]; done)), (by first | rfl | (simp; done) | (simp [*]; done)), H', ⟨by have := HK1.out; have := HJ12.out; omega⟩, ⟨by (with_reducible repeat (first | apply Kd.R_alloc | apply Kd.R_drewN | apply Kd.R_drew)); exact HO_7.out⟩, ⟨by (with_reducible repeat (first | apply Kd.R_alloc | apply Kd.R_drewN | apply Kd.R_drew)); exact Kd.R_mono HO_253002.out (fun _ hk => trivial)⟩, ⟨by (with_reducible repeat (first | refine blk_drewN ?_ _ | refine blk_drew ?_ | refine blk_alloc ?_ _)); exact BK252.out⟩, ⟨(mH2 HB.out GE252.out GE257.out)⟩⟩
     ·rw [if_neg c12] at H
      exact absurd H (by simp)
    ·rw [if_neg c11] at H
     have c11b0 : decide (x9_1 < (t246.length : Int)) = false := decide_eq_false c11
     clear c11
     obtain rfl := Option.some.inj H
     have hcz38_0 := mZ BK252.out 0
     have hcz38_1 := mZ BK252.out 1
     have hcz38_2 := mZ BK252.out 2
     have hfz38_0 := blk_frozen BK252.out 0
     have hfz38_1 := blk_frozen BK252.out 1
     have hfz38_2 := blk_frozen BK252.out 2
     obtain ⟨Ao39, co39, eo39⟩ := Kd.R_slice HO_7.out
     subst eo39
     go_wp2
     repeat (go_quiet (fail); try go_wp2)
     go_ret
     exact ⟨by first | rfl | (simp [errW_none, errW_some] <;> rfl) | (simp [*, errW_none, errW_some] <;> rfl), (mH1 HB.out GE252.out)⟩

end Go.Proofs.Ytgncojbnejdplaa.MFnOverlaps
