-- Written by mp.py, this session's own printer (wip/mp.py).
import Derived.Test.YtecjamgajlpfdaaVMShort
import Derived.Test.YtecjamgajlpfdaaMFnExactTablePairsx0
import Derived.Test.YtecjamgajlpfdaaMFnExactTablePairsx1
import Derived.Test.YtecjamgajlpfdaaMFnExactTablePairsx2
namespace Go.Proofs.Ytecjamgajlpfdaa.MFnExactTablePairs
open Go.RowKit Go.Proofs.YtecjamgajlpfdaaW.PrintWords Go.Proofs.YtecjamgajlpfdaaW.PrintLast Go.Proofs.YtecjamgajlpfdaaW.PrintMore Go.Proofs.Ytecjamgajlpfdaa.MWords
attribute [local go_sem] max2_int min2_int max_two min_two max_three min_three max_four min_four   -- for this text's walks alone
set_option linter.unusedVariables false
set_option linter.unusedSimpArgs false

/-! ### spec_l5Index: function 41 -/
mutual
def spec_l5Index.j0 : Nat → List Int → List ByteArray → List Int → Int → Bool → Option (List ByteArray × List Int × List Int × Bool)
 | 0, _, _, _, _, _ => none
 | k + 1, x0, x6, x7, x8, x41 => if x41 = true then (some (x6, x7, (([] : List Int)), false)) else (if 0 ≤ (wrap64 ((x0.length : Int) - 4)) then (if (wrap64 ((x0.length : Int) - 4)) ≤ (x0.length : Int) then ((spec_Unframe.f k (x0.take ((wrap64 ((x0.length : Int) - 4)) : Int).toNat) x8).bind fun bt153 => (if bt153.2.2 = true then (spec_l5Index.j1 k x6 x7 bt153.1 (bt153.2.1 != (wrap64 ((x0.length : Int) - 4)))) else (spec_l5Index.j1 k x6 x7 bt153.1 true))) else (none)) else (none))
def spec_l5Index.j1 : Nat → List ByteArray → List Int → List Int → Bool → Option (List ByteArray × List Int × List Int × Bool)
 | 0, _, _, _, _ => none
 | k + 1, x6, x7, x10, x64 => if x64 = true then (some (x6, x7, (([] : List Int)), false)) else ((spec_GetNum.f k x10 0).bind fun bt161 => (spec_l5Index.l0 k x6 x7 x10 bt161.1 bt161.2.1 bt161.2.2 0))
def spec_l5Index.l0 : Nat → List ByteArray → List Int → List Int → Int → Int → Bool → Int → Option (List ByteArray × List Int × List Int × Bool)
 | 0, _, _, _, _, _, _, _ => none
 | k + 1, x6, x7, x10, x13, x14, x15, x16 => if x16 < x13 then (if x15 = true then (spec_l5Index.j3 k x6 x7 x10 x13 x14 x15 x16 (decide (x16 < 100))) else (spec_l5Index.j3 k x6 x7 x10 x13 x14 x15 x16 false)) else (spec_l5Index.j3 k x6 x7 x10 x13 x14 x15 x16 false)
def spec_l5Index.j3 : Nat → List ByteArray → List Int → List Int → Int → Int → Bool → Int → Bool → Option (List ByteArray × List Int × List Int × Bool)
 | 0, _, _, _, _, _, _, _, _ => none
 | k + 1, x6, x7, x10, x13, x14, x15, x16, x83 => if x83 = true then ((spec_GetText.f k x10 x14).bind fun bt164 => ((spec_GetNum.f k x10 bt164.2.1).bind fun bt167 => (if bt164.2.2 = true then (if x6.length < 8796093022208 then (if x7.length < 17592186044416 then (spec_l5Index.l0 k (x6 ++ [bt164.1]) (x7 ++ [bt167.1]) x10 x13 bt167.2.1 bt167.2.2 (wrap64 (x16 + 1))) else (none)) else (none)) else (if x6.length < 8796093022208 then (if x7.length < 17592186044416 then (spec_l5Index.l0 k (x6 ++ [bt164.1]) (x7 ++ [bt167.1]) x10 x13 bt167.2.1 false (wrap64 (x16 + 1))) else (none)) else (none))))) else (if x15 = true then (if (x6.length : Int) = x13 then (spec_l5Index.j4 k x6 x7 x10 x14 ((wrap64 ((x10.length : Int) - x14)) != 8)) else (spec_l5Index.j4 k x6 x7 x10 x14 true)) else (spec_l5Index.j4 k x6 x7 x10 x14 true))
def spec_l5Index.j4 : Nat → List ByteArray → List Int → List Int → Int → Bool → Option (List ByteArray × List Int × List Int × Bool)
 | 0, _, _, _, _, _ => none
 | k + 1, x6, x7, x10, x14, x127 => if x127 = true then (some (x6, x7, (([] : List Int)), false)) else (if 0 ≤ x14 then (if x14 ≤ (x10.length : Int) then (some (x6, x7, (x10.drop (x14 : Int).toNat), true)) else (none)) else (none))
end
def spec_l5Index.f (k : Nat) (l0 : List Int) : Option (List ByteArray × List Int × List Int × Bool) := (some (([] : List ByteArray) : List ByteArray)).bind fun y141 => ((some (([] : List Int) : List Int)).bind fun y144 => ((spec_l1FourAt.f k l0 (wrap64 ((l0.length : Int) - 4))).bind fun bt147 => (if bt147.2 = true then (spec_l5Index.j0 k l0 y141 y144 bt147.1 (decide (bt147.1 > (wrap64 ((l0.length : Int) - 4))))) else (spec_l5Index.j0 k l0 y141 y144 bt147.1 true))))
theorem spec_l5Index.mono_l : ∀ k, (∀ y0 y1 y2 y3 y4, LeO (spec_l5Index.j0 k y0 y1 y2 y3 y4) (spec_l5Index.j0 (k + 1) y0 y1 y2 y3 y4)) ∧ (∀ y0 y1 y2 y3, LeO (spec_l5Index.j1 k y0 y1 y2 y3) (spec_l5Index.j1 (k + 1) y0 y1 y2 y3)) ∧ (∀ y0 y1 y2 y3 y4 y5 y6, LeO (spec_l5Index.l0 k y0 y1 y2 y3 y4 y5 y6) (spec_l5Index.l0 (k + 1) y0 y1 y2 y3 y4 y5 y6)) ∧ (∀ y0 y1 y2 y3 y4 y5 y6 y7, LeO (spec_l5Index.j3 k y0 y1 y2 y3 y4 y5 y6 y7) (spec_l5Index.j3 (k + 1) y0 y1 y2 y3 y4 y5 y6 y7)) ∧ (∀ y0 y1 y2 y3 y4, LeO (spec_l5Index.j4 k y0 y1 y2 y3 y4) (spec_l5Index.j4 (k + 1) y0 y1 y2 y3 y4))
 | 0 => ⟨fun _ _ _ _ _ r h => by simp [spec_l5Index.j0] at h, fun _ _ _ _ r h => by simp [spec_l5Index.j1] at h, fun _ _ _ _ _ _ _ r h => by simp [spec_l5Index.l0] at h, fun _ _ _ _ _ _ _ _ r h => by simp [spec_l5Index.j3] at h, fun _ _ _ _ _ r h => by simp [spec_l5Index.j4] at h⟩
 | k + 1 => by
  obtain ⟨ih0, ih1, ih2, ih3, ih4⟩ := spec_l5Index.mono_l k
  refine ⟨?_, ?_, ?_, ?_, ?_⟩
  ·intro y0 y1 y2 y3 y4
   unfold spec_l5Index.j0
   repeat' first
   | (with_reducible exact ih0 _ _ _ _ _)
   | (with_reducible exact ih1 _ _ _ _)
   | (with_reducible exact ih2 _ _ _ _ _ _ _)
   | (with_reducible exact ih3 _ _ _ _ _ _ _ _)
   | (with_reducible exact ih4 _ _ _ _ _)
   | (with_reducible exact spec_GetNum.mono _ _ _)
   | (with_reducible exact spec_GetText.mono _ _ _)
   | (with_reducible exact spec_Unframe.mono _ _ _)
   | (with_reducible exact spec_l1FourAt.mono _ _ _)
   | (with_reducible exact LeO.refl _)
   | (with_reducible exact LeO.none _)
   | (with_reducible refine LeO.ite ?_ ?_)
   | (with_reducible refine LeO.bind ?_ (fun _ => ?_))
   | exact ih0 _ _ _ _ _
   | exact ih1 _ _ _ _
   | exact ih2 _ _ _ _ _ _ _
   | exact ih3 _ _ _ _ _ _ _ _
   | exact ih4 _ _ _ _ _
   | exact spec_GetNum.mono _ _ _
   | exact spec_GetText.mono _ _ _
   | exact spec_Unframe.mono _ _ _
   | exact spec_l1FourAt.mono _ _ _
   | exact LeO.none _
   | refine LeO.ite ?_ ?_
   | refine LeO.bind ?_ (fun _ => ?_)
  ·intro y0 y1 y2 y3
   unfold spec_l5Index.j1
   repeat' first
   | (with_reducible exact ih0 _ _ _ _ _)
   | (with_reducible exact ih1 _ _ _ _)
   | (with_reducible exact ih2 _ _ _ _ _ _ _)
   | (with_reducible exact ih3 _ _ _ _ _ _ _ _)
   | (with_reducible exact ih4 _ _ _ _ _)
   | (with_reducible exact spec_GetNum.mono _ _ _)
   | (with_reducible exact spec_GetText.mono _ _ _)
   | (with_reducible exact spec_Unframe.mono _ _ _)
   | (with_reducible exact spec_l1FourAt.mono _ _ _)
   | (with_reducible exact LeO.refl _)
   | (with_reducible exact LeO.none _)
   | (with_reducible refine LeO.ite ?_ ?_)
   | (with_reducible refine LeO.bind ?_ (fun _ => ?_))
   | exact ih0 _ _ _ _ _
   | exact ih1 _ _ _ _
   | exact ih2 _ _ _ _ _ _ _
   | exact ih3 _ _ _ _ _ _ _ _
   | exact ih4 _ _ _ _ _
   | exact spec_GetNum.mono _ _ _
   | exact spec_GetText.mono _ _ _
   | exact spec_Unframe.mono _ _ _
   | exact spec_l1FourAt.mono _ _ _
   | exact LeO.none _
   | refine LeO.ite ?_ ?_
   | refine LeO.bind ?_ (fun _ => ?_)
  ·intro y0 y1 y2 y3 y4 y5 y6
   unfold spec_l5Index.l0
   repeat' first
   | (with_reducible exact ih0 _ _ _ _ _)
   | (with_reducible exact ih1 _ _ _ _)
   | (with_reducible exact ih2 _ _ _ _ _ _ _)
   | (with_reducible exact ih3 _ _ _ _ _ _ _ _)
   | (with_reducible exact ih4 _ _ _ _ _)
   | (with_reducible exact spec_GetNum.mono _ _ _)
   | (with_reducible exact spec_GetText.mono _ _ _)
   | (with_reducible exact spec_Unframe.mono _ _ _)
   | (with_reducible exact spec_l1FourAt.mono _ _ _)
   | (with_reducible exact LeO.refl _)
   | (with_reducible exact LeO.none _)
   | (with_reducible refine LeO.ite ?_ ?_)
   | (with_reducible refine LeO.bind ?_ (fun _ => ?_))
   | exact ih0 _ _ _ _ _
   | exact ih1 _ _ _ _
   | exact ih2 _ _ _ _ _ _ _
   | exact ih3 _ _ _ _ _ _ _ _
   | exact ih4 _ _ _ _ _
   | exact spec_GetNum.mono _ _ _
   | exact spec_GetText.mono _ _ _
   | exact spec_Unframe.mono _ _ _
   | exact spec_l1FourAt.mono _ _ _
   | exact LeO.none _
   | refine LeO.ite ?_ ?_
   | refine LeO.bind ?_ (fun _ => ?_)
  ·intro y0 y1 y2 y3 y4 y5 y6 y7
   unfold spec_l5Index.j3
   repeat' first
   | (with_reducible exact ih0 _ _ _ _ _)
   | (with_reducible exact ih1 _ _ _ _)
   | (with_reducible exact ih2 _ _ _ _ _ _ _)
   | (with_reducible exact ih3 _ _ _ _ _ _ _ _)
   | (with_reducible exact ih4 _ _ _ _ _)
   | (with_reducible exact spec_GetNum.mono _ _ _)
   | (with_reducible exact spec_GetText.mono _ _ _)
   | (with_reducible exact spec_Unframe.mono _ _ _)
   | (with_reducible exact spec_l1FourAt.mono _ _ _)
   | (with_reducible exact LeO.refl _)
   | (with_reducible exact LeO.none _)
   | (with_reducible refine LeO.ite ?_ ?_)
   | (with_reducible refine LeO.bind ?_ (fun _ => ?_))
   | exact ih0 _ _ _ _ _
   | exact ih1 _ _ _ _
   | exact ih2 _ _ _ _ _ _ _
   | exact ih3 _ _ _ _ _ _ _ _
   | exact ih4 _ _ _ _ _
   | exact spec_GetNum.mono _ _ _
   | exact spec_GetText.mono _ _ _
   | exact spec_Unframe.mono _ _ _
   | exact spec_l1FourAt.mono _ _ _
   | exact LeO.none _
   | refine LeO.ite ?_ ?_
   | refine LeO.bind ?_ (fun _ => ?_)
  ·intro y0 y1 y2 y3 y4
   unfold spec_l5Index.j4
   repeat' first
   | (with_reducible exact ih0 _ _ _ _ _)
   | (with_reducible exact ih1 _ _ _ _)
   | (with_reducible exact ih2 _ _ _ _ _ _ _)
   | (with_reducible exact ih3 _ _ _ _ _ _ _ _)
   | (with_reducible exact ih4 _ _ _ _ _)
   | (with_reducible exact spec_GetNum.mono _ _ _)
   | (with_reducible exact spec_GetText.mono _ _ _)
   | (with_reducible exact spec_Unframe.mono _ _ _)
   | (with_reducible exact spec_l1FourAt.mono _ _ _)
   | (with_reducible exact LeO.refl _)
   | (with_reducible exact LeO.none _)
   | (with_reducible refine LeO.ite ?_ ?_)
   | (with_reducible refine LeO.bind ?_ (fun _ => ?_))
   | exact ih0 _ _ _ _ _
   | exact ih1 _ _ _ _
   | exact ih2 _ _ _ _ _ _ _
   | exact ih3 _ _ _ _ _ _ _ _
   | exact ih4 _ _ _ _ _
   | exact spec_GetNum.mono _ _ _
   | exact spec_GetText.mono _ _ _
   | exact spec_Unframe.mono _ _ _
   | exact spec_l1FourAt.mono _ _ _
   | exact LeO.none _
   | refine LeO.ite ?_ ?_
   | refine LeO.bind ?_ (fun _ => ?_)
theorem spec_l5Index.mono : ∀ a0 k, LeO (spec_l5Index.f k a0) (spec_l5Index.f (k + 1) a0) := by
 intro a0 k
 obtain ⟨ih0, ih1, ih2, ih3, ih4⟩ := spec_l5Index.mono_l k
 unfold spec_l5Index.f
 repeat' first
   | (with_reducible exact ih0 _ _ _ _ _)
   | (with_reducible exact ih1 _ _ _ _)
   | (with_reducible exact ih2 _ _ _ _ _ _ _)
   | (with_reducible exact ih3 _ _ _ _ _ _ _ _)
   | (with_reducible exact ih4 _ _ _ _ _)
   | (with_reducible exact spec_GetNum.mono _ _ _)
   | (with_reducible exact spec_GetText.mono _ _ _)
   | (with_reducible exact spec_Unframe.mono _ _ _)
   | (with_reducible exact spec_l1FourAt.mono _ _ _)
   | (with_reducible exact LeO.refl _)
   | (with_reducible exact LeO.none _)
   | (with_reducible refine LeO.ite ?_ ?_)
   | (with_reducible refine LeO.bind ?_ (fun _ => ?_))
   | exact ih0 _ _ _ _ _
   | exact ih1 _ _ _ _
   | exact ih2 _ _ _ _ _ _ _
   | exact ih3 _ _ _ _ _ _ _ _
   | exact ih4 _ _ _ _ _
   | exact spec_GetNum.mono _ _ _
   | exact spec_GetText.mono _ _ _
   | exact spec_Unframe.mono _ _ _
   | exact spec_l1FourAt.mono _ _ _
   | exact LeO.none _
   | refine LeO.ite ?_ ?_
   | refine LeO.bind ?_ (fun _ => ?_)
set_option maxHeartbeats 8000000 in
set_option maxRecDepth 100000 in
theorem spec_l5Index.calls (k : Nat) (A0 : Option Addr) (c0 : Nat) (l0 : List Int) (r1 : List ByteArray) (r2 : List Int) (r3 : List Int) (r4 : Bool) (w : World) (hr0 : Kd.C (Kd.int .u8) w A0 l0.length l0) (hc0 : l0.length ≤ c0) (h : spec_l5Index.f k l0 = some (r1, r2, r3, r4)) :
  Calls Try.prog 41 #[.slice A0 l0.length c0] w fun e w' => ∃ v0_ v1_ v2_ : Value, e = .returned (.tuple #[v0_, v1_, v2_, .bool r4]) ∧ Kd.R Kd.string 9 w' w.heap.size (fun _ => True) v0_ r1 ∧ Kd.R (Kd.int .i64) 3 w' w.heap.size (fun _ => True) v1_ r2 ∧ Kd.Q (Kd.int .u8) 5 w' w.heap.size (fun _ => True) v2_ r3 ∧ Below w.heap.size w w' := by
 have HR0 := mS hr0
 have HC0 := mS hc0
 clear hr0 hc0
 have HB := mS (Below.refl w.heap.size w)
 have H : ((some (([] : List ByteArray) : List ByteArray)).bind fun y141 => ((some (([] : List Int) : List Int)).bind fun y144 => ((spec_l1FourAt.f k l0 (wrap64 ((l0.length : Int) - 4))).bind fun bt147 => (if bt147.2 = true then (spec_l5Index.j0 k l0 y141 y144 bt147.1 (decide (bt147.1 > (wrap64 ((l0.length : Int) - 4))))) else (spec_l5Index.j0 k l0 y141 y144 bt147.1 true))))) = some (r1, r2, r3, r4) := h
 clear h
 obtain ⟨y141, hy141⟩ : ∃ y_ : List ByteArray, y_ = (([] : List ByteArray)) := ⟨_, rfl⟩
 replace H : ((some (([] : List Int) : List Int)).bind fun y144 => ((spec_l1FourAt.f k l0 (wrap64 ((l0.length : Int) - 4))).bind fun bt147 => (if bt147.2 = true then (spec_l5Index.j0 k l0 y141 y144 bt147.1 (decide (bt147.1 > (wrap64 ((l0.length : Int) - 4))))) else (spec_l5Index.j0 k l0 y141 y144 bt147.1 true)))) = some (r1, r2, r3, r4) := by first | (rw [hy141]; with_reducible exact H) | (have H2_ := (Option.bind_some _ _).symm.trans H; rw [hy141]; with_reducible exact H2_) | (have H2_ := (Option.bind_some _ _).symm.trans H; with_reducible exact H2_) | with_reducible exact H | (rw [hy141]; exact H) | exact H
 have Ny141 := mS hy141
 clear hy141
 obtain ⟨y144, hy144⟩ : ∃ y_ : List Int, y_ = (([] : List Int)) := ⟨_, rfl⟩
 replace H : ((spec_l1FourAt.f k l0 (wrap64 ((l0.length : Int) - 4))).bind fun bt147 => (if bt147.2 = true then (spec_l5Index.j0 k l0 y141 y144 bt147.1 (decide (bt147.1 > (wrap64 ((l0.length : Int) - 4))))) else (spec_l5Index.j0 k l0 y141 y144 bt147.1 true))) = some (r1, r2, r3, r4) := by first | (rw [hy144]; with_reducible exact H) | (have H2_ := (Option.bind_some _ _).symm.trans H; rw [hy144]; with_reducible exact H2_) | (have H2_ := (Option.bind_some _ _).symm.trans H; with_reducible exact H2_) | with_reducible exact H | (rw [hy144]; exact H) | exact H
 have Ny144 := mS hy144
 clear hy144
 replace H := Option.bind_eq_some_iff.mp H
 obtain ⟨⟨t147, t148⟩, A20, H⟩ := H
 replace H : (if t148 = true then (spec_l5Index.j0 k l0 y141 y144 t147 (decide (t147 > (wrap64 ((l0.length : Int) - 4))))) else (spec_l5Index.j0 k l0 y141 y144 t147 true)) = some (r1, r2, r3, r4) := H
 have A2 := mS A20
 clear A20
 have HC3 := mS H
 clear H
 go_enter Try.func41, Try.ntmps41
 go_upto_region 4 with (first | ((with_reducible refine gate_dst (N := 23) rfl ?_); (try (refine gate_guard (by rfl) ?_; dsimp only)); refine Kd.R_lit Kd.string _ 9 ?hg (N := 23) ?hd (xs := ([] : List ByteArray)) (inner := []) (ok := fun _ => True) (okp := fun _ => True) ?hr ?hp (fun _ hk => hk) trivial (Below.refl _ _) (Nat.le_refl _) (by simp) ?_; (case hd => rfl); (case hg => rfl); (case hr => first | (go_simp; done) | (go_simp; rfl)); (case hp => exact (Reps.none _ _)); intro v142 w4 ho5 hb hg_ hnew_; clear hg_ hnew_; (first | rw [← Ny141.out] at ho5 | (simp only [Int.reduceToNat] at ho5; rw [← Ny141.out] at ho5)); have HO143 := mS (Kd.R_lower ho5 (below_size (mH HB.out))); replace HB := mS (below_step (mH HB.out) hb); clear hb ho5) | ((with_reducible refine gate_dst (N := 24) rfl ?_); (try (refine gate_guard (by rfl) ?_; dsimp only)); refine Kd.R_lit (Kd.int .i64) _ 3 ?hg (N := 24) ?hd (xs := ([] : List Int)) (inner := []) (ok := fun _ => True) (okp := fun _ => True) ?hr ?hp (fun _ hk => hk) trivial (Below.refl _ _) (Nat.le_refl _) (by simp) ?_; (case hd => rfl); (case hg => rfl); (case hr => first | (go_simp; done) | (go_simp; rfl)); (case hp => exact (Reps.none _ _)); intro v145 w6 ho7 hb hg_ hnew_; clear hg_ hnew_; (first | rw [← Ny144.out] at ho7 | (simp only [Int.reduceToNat] at ho7; rw [← Ny144.out] at ho7)); replace HO143 := mS (Kd.R_below (mR HO143.out) hb); have HO146 := mS (Kd.R_lower ho7 (below_size (mH HB.out))); replace HB := mS (below_step (mH HB.out) hb); clear hb ho7) | (go_at_call 34; (with_reducible refine (spec_l1FourAt.calls k _ _ l0 (wrap64 ((l0.length : Int) - 4)) t147 t148 _ ?side1 ?side2 A2.out).mono ?_); (case side1 => exact mC (Kd.C_below HR0.out HB.out)); (case side2 => exact HC0.out); rintro e w' ⟨rfl, ⟨nd, rfl⟩⟩; (try first | exact ⟨rfl, _, World.drewN_drewN _ _ _⟩ | exact ⟨rfl, _, Eq.trans (World.drewN_drewN _ _ _) (congrArg (World.drewN _) (Nat.add_assoc _ _ _))⟩)))
 repeat (go_quiet (first | ((with_reducible refine gate_dst (N := 23) rfl ?_); (try (refine gate_guard (by rfl) ?_; dsimp only)); refine Kd.R_lit Kd.string _ 9 ?hg (N := 23) ?hd (xs := ([] : List ByteArray)) (inner := []) (ok := fun _ => True) (okp := fun _ => True) ?hr ?hp (fun _ hk => hk) trivial (Below.refl _ _) (Nat.le_refl _) (by simp) ?_; (case hd => rfl); (case hg => rfl); (case hr => first | (go_simp; done) | (go_simp; rfl)); (case hp => exact (Reps.none _ _)); intro v142 w4 ho5 hb hg_ hnew_; clear hg_ hnew_; (first | rw [← Ny141.out] at ho5 | (simp only [Int.reduceToNat] at ho5; rw [← Ny141.out] at ho5)); have HO143 := mS (Kd.R_lower ho5 (below_size (mH HB.out))); replace HB := mS (below_step (mH HB.out) hb); clear hb ho5) | ((with_reducible refine gate_dst (N := 24) rfl ?_); (try (refine gate_guard (by rfl) ?_; dsimp only)); refine Kd.R_lit (Kd.int .i64) _ 3 ?hg (N := 24) ?hd (xs := ([] : List Int)) (inner := []) (ok := fun _ => True) (okp := fun _ => True) ?hr ?hp (fun _ hk => hk) trivial (Below.refl _ _) (Nat.le_refl _) (by simp) ?_; (case hd => rfl); (case hg => rfl); (case hr => first | (go_simp; done) | (go_simp; rfl)); (case hp => exact (Reps.none _ _)); intro v145 w6 ho7 hb hg_ hnew_; clear hg_ hnew_; (first | rw [← Ny144.out] at ho7 | (simp only [Int.reduceToNat] at ho7; rw [← Ny144.out] at ho7)); replace HO143 := mS (Kd.R_below (mR HO143.out) hb); have HO146 := mS (Kd.R_lower ho7 (below_size (mH HB.out))); replace HB := mS (below_step (mH HB.out) hb); clear hb ho7) | (go_at_call 34; (with_reducible refine (spec_l1FourAt.calls k _ _ l0 (wrap64 ((l0.length : Int) - 4)) t147 t148 _ ?side1 ?side2 A2.out).mono ?_); (case side1 => exact mC (Kd.C_below HR0.out HB.out)); (case side2 => exact HC0.out); rintro e w' ⟨rfl, ⟨nd, rfl⟩⟩; (try first | exact ⟨rfl, _, World.drewN_drewN _ _ _⟩ | exact ⟨rfl, _, Eq.trans (World.drewN_drewN _ _ _) (congrArg (World.drewN _) (Nat.add_assoc _ _ _))⟩))); go_upto_region 4 with (first | ((with_reducible refine gate_dst (N := 23) rfl ?_); (try (refine gate_guard (by rfl) ?_; dsimp only)); refine Kd.R_lit Kd.string _ 9 ?hg (N := 23) ?hd (xs := ([] : List ByteArray)) (inner := []) (ok := fun _ => True) (okp := fun _ => True) ?hr ?hp (fun _ hk => hk) trivial (Below.refl _ _) (Nat.le_refl _) (by simp) ?_; (case hd => rfl); (case hg => rfl); (case hr => first | (go_simp; done) | (go_simp; rfl)); (case hp => exact (Reps.none _ _)); intro v142 w4 ho5 hb hg_ hnew_; clear hg_ hnew_; (first | rw [← Ny141.out] at ho5 | (simp only [Int.reduceToNat] at ho5; rw [← Ny141.out] at ho5)); have HO143 := mS (Kd.R_lower ho5 (below_size (mH HB.out))); replace HB := mS (below_step (mH HB.out) hb); clear hb ho5) | ((with_reducible refine gate_dst (N := 24) rfl ?_); (try (refine gate_guard (by rfl) ?_; dsimp only)); refine Kd.R_lit (Kd.int .i64) _ 3 ?hg (N := 24) ?hd (xs := ([] : List Int)) (inner := []) (ok := fun _ => True) (okp := fun _ => True) ?hr ?hp (fun _ hk => hk) trivial (Below.refl _ _) (Nat.le_refl _) (by simp) ?_; (case hd => rfl); (case hg => rfl); (case hr => first | (go_simp; done) | (go_simp; rfl)); (case hp => exact (Reps.none _ _)); intro v145 w6 ho7 hb hg_ hnew_; clear hg_ hnew_; (first | rw [← Ny144.out] at ho7 | (simp only [Int.reduceToNat] at ho7; rw [← Ny144.out] at ho7)); replace HO143 := mS (Kd.R_below (mR HO143.out) hb); have HO146 := mS (Kd.R_lower ho7 (below_size (mH HB.out))); replace HB := mS (below_step (mH HB.out) hb); clear hb ho7) | (go_at_call 34; (with_reducible refine (spec_l1FourAt.calls k _ _ l0 (wrap64 ((l0.length : Int) - 4)) t147 t148 _ ?side1 ?side2 A2.out).mono ?_); (case side1 => exact mC (Kd.C_below HR0.out HB.out)); (case side2 => exact HC0.out); rintro e w' ⟨rfl, ⟨nd, rfl⟩⟩; (try first | exact ⟨rfl, _, World.drewN_drewN _ _ _⟩ | exact ⟨rfl, _, Eq.trans (World.drewN_drewN _ _ _) (congrArg (World.drewN _) (Nat.add_assoc _ _ _))⟩))))
 (try simp only [Act.put, zA, zB, zC])
 go_cut [41] (fun v41 wc => ∃ (kq : Nat) (x41_2 : Bool), v41 = .bool x41_2 ∧ Aside0 (spec_l5Index.j0 kq l0 y141 y144 t147 x41_2 = some (r1, r2, r3, r4)) ∧ Aside0 (kq ≤ k) ∧ Aside0 (Kd.R Kd.string 9 wc w.heap.size (fun _ => True) v142 y141) ∧ Aside0 (Kd.R (Kd.int .i64) 3 wc w.heap.size (fun _ => True) v145 y144) ∧ Aside0 (Below w.heap.size w wc))
 case first =>
  have H := HC3.out
  clear HC3
  by_cases c8 : t148 = true
  ·subst c8
   have H1 := H
   rw [if_pos rfl] at H1
   clear H
   have H := H1
   clear H1
   have H' := mS H
   clear H
   go_wp2
   repeat (go_quiet (fail); try go_wp2)
   go_meet
   case rel => exact ⟨_, (decide (t147 > (wrap64 ((l0.length : Int) - 4)))), mE, H', ⟨by first | omega | exact Nat.le_refl _⟩, ⟨mR HO143.out⟩, ⟨mR HO146.out⟩, ⟨(mH HB.out)⟩⟩
  ·replace c8 := Bool.eq_false_iff.mpr c8
   subst c8
   have H1 := H
   rw [if_neg (show ¬ (false = true) by decide)] at H1
   clear H
   have H := H1
   clear H1
   have H' := mS H
   clear H
   go_wp2
   repeat (go_quiet (fail); try go_wp2)
   go_meet
   case rel => exact ⟨_, (true), mE, H', ⟨by first | omega | exact Nat.le_refl _⟩, ⟨mR HO143.out⟩, ⟨mR HO146.out⟩, ⟨(mH HB.out)⟩⟩
 case rest =>
  clear HC3
  try clear p2
  try clear c4
  try clear p6
  try clear c8
  obtain ⟨kq, x41_2, rfl, HA, HJ2, HO_6, HO_7, HB⟩ := hcut
  cases kq with
  | zero => exact absurd HA.out (by simp [spec_l5Index.j0])
  | succ kj2 =>
   have H := HA.out
   clear HA
   simp only [spec_l5Index.j0] at H
   by_cases c9 : x41_2 = true
   ·subst c9
    have H1 := H
    rw [if_pos rfl] at H1
    clear H
    have H := H1
    clear H1
    obtain ⟨y149, hy149⟩ : ∃ y_ : List Int, y_ = (([] : List Int)) := ⟨_, rfl⟩
    replace H : (some (y141, y144, y149, false)) = some (r1, r2, r3, r4) := by first | (rw [hy149]; with_reducible exact H) | (have H2_ := (Option.bind_some _ _).symm.trans H; rw [hy149]; with_reducible exact H2_) | (have H2_ := (Option.bind_some _ _).symm.trans H; with_reducible exact H2_) | with_reducible exact H | (rw [hy149]; exact H) | exact H
    have Ny149 := mS hy149
    clear hy149
    simp only [Option.some.injEq, Prod.mk.injEq] at H
    obtain ⟨rfl, rfl, rfl, rfl⟩ := H
    go_wp2_with (first | ((with_reducible refine gate_dst (N := 44) rfl ?_); (try (refine gate_guard (by rfl) ?_; dsimp only)); refine Kd.R_lit (Kd.int .u8) _ 5 ?hg (N := 44) ?hd (xs := ([] : List Int)) (inner := []) (ok := fun _ => True) (okp := fun _ => True) ?hr ?hp (fun _ hk => hk) trivial (Below.refl _ _) (Nat.le_refl _) (by simp) ?_; (case hd => rfl); (case hg => rfl); (case hr => first | (go_simp; done) | (go_simp; rfl)); (case hp => exact (Reps.none _ _)); intro v150 w10 ho11 hb hg_ hnew_; clear hg_ hnew_; (first | rw [← Ny149.out] at ho11 | (simp only [Int.reduceToNat] at ho11; rw [← Ny149.out] at ho11)); replace HO_6 := mS (Kd.R_below (mR HO_6.out) hb); replace HO_7 := mS (Kd.R_below (mR HO_7.out) hb); have HO151 := mS (Kd.R_lower ho11 (below_size (mH HB.out))); replace HB := mS (below_step (mH HB.out) hb); clear hb ho11))
    repeat (go_quiet (first | ((with_reducible refine gate_dst (N := 44) rfl ?_); (try (refine gate_guard (by rfl) ?_; dsimp only)); refine Kd.R_lit (Kd.int .u8) _ 5 ?hg (N := 44) ?hd (xs := ([] : List Int)) (inner := []) (ok := fun _ => True) (okp := fun _ => True) ?hr ?hp (fun _ hk => hk) trivial (Below.refl _ _) (Nat.le_refl _) (by simp) ?_; (case hd => rfl); (case hg => rfl); (case hr => first | (go_simp; done) | (go_simp; rfl)); (case hp => exact (Reps.none _ _)); intro v150 w10 ho11 hb hg_ hnew_; clear hg_ hnew_; (first | rw [← Ny149.out] at ho11 | (simp only [Int.reduceToNat] at ho11; rw [← Ny149.out] at ho11)); replace HO_6 := mS (Kd.R_below (mR HO_6.out) hb); replace HO_7 := mS (Kd.R_below (mR HO_7.out) hb); have HO151 := mS (Kd.R_lower ho11 (below_size (mH HB.out))); replace HB := mS (below_step (mH HB.out) hb); clear hb ho11)); try go_wp2_with (first | ((with_reducible refine gate_dst (N := 44) rfl ?_); (try (refine gate_guard (by rfl) ?_; dsimp only)); refine Kd.R_lit (Kd.int .u8) _ 5 ?hg (N := 44) ?hd (xs := ([] : List Int)) (inner := []) (ok := fun _ => True) (okp := fun _ => True) ?hr ?hp (fun _ hk => hk) trivial (Below.refl _ _) (Nat.le_refl _) (by simp) ?_; (case hd => rfl); (case hg => rfl); (case hr => first | (go_simp; done) | (go_simp; rfl)); (case hp => exact (Reps.none _ _)); intro v150 w10 ho11 hb hg_ hnew_; clear hg_ hnew_; (first | rw [← Ny149.out] at ho11 | (simp only [Int.reduceToNat] at ho11; rw [← Ny149.out] at ho11)); replace HO_6 := mS (Kd.R_below (mR HO_6.out) hb); replace HO_7 := mS (Kd.R_below (mR HO_7.out) hb); have HO151 := mS (Kd.R_lower ho11 (below_size (mH HB.out))); replace HB := mS (below_step (mH HB.out) hb); clear hb ho11)))
    refine bodyPost_ret (results_list (rs := [.tmp 2, .tmp 3, .tmp 4, .tmp 5]) rfl (by simp) (.tmp (.tmp (.tmp (.tmp .nil))))) rfl ?_
    exact ⟨_, _, _, mEw, mR HO_6.out, mR HO_7.out, Kd.Q_of_R (mR HO151.out), (mH HB.out)⟩
   ·replace c9 := Bool.eq_false_iff.mpr c9
    subst c9
    have H1 := H
    rw [if_neg (show ¬ (false = true) by decide)] at H1
    clear H
    have H := H1
    clear H1
    obtain ⟨ji12, hji12⟩ : ∃ j_ : Int, (wrap64 ((l0.length : Int) - 4)) = j_ := ⟨_, rfl⟩
    replace H : (if 0 ≤ (ji12) then (if (ji12) ≤ (l0.length : Int) then ((spec_Unframe.f kj2 (l0.take ((ji12) : Int).toNat) t147).bind fun bt153 => (if bt153.2.2 = true then (spec_l5Index.j1 kj2 y141 y144 bt153.1 (bt153.2.1 != (ji12))) else (spec_l5Index.j1 kj2 y141 y144 bt153.1 true))) else (none)) else (none)) = some (r1, r2, r3, r4) := by first | (rw [hji12] at H; exact H) | (simp only [hji12] at H ⊢; exact H)
    have hji12w : (IntKind.i64.wrap ((l0.length : Int) - 4)) = ji12 := (i64_w _).trans hji12
    by_cases c13 : 0 ≤ (ji12)
    ·rw [if_pos c13] at H
     have c13b0 := eq_true c13
     have c13b1 := decide_eq_true c13
     clear c13
     by_cases c14 : (ji12) ≤ (l0.length : Int)
     ·rw [if_pos c14] at H
      have c14b0 := eq_true c14
      have c14b1 := decide_eq_true c14
      clear c14
      replace H := Option.bind_eq_some_iff.mp H
      obtain ⟨⟨t153, t154, t155⟩, A150, H⟩ := H
      replace H : (if t155 = true then (spec_l5Index.j1 kj2 y141 y144 t153 (t154 != (ji12))) else (spec_l5Index.j1 kj2 y141 y144 t153 true)) = some (r1, r2, r3, r4) := H
      have A15 := mS A150
      clear A150
      have HC16 := mS H
      clear H
      obtain ⟨i017, hi017, _, hsz17, _⟩ := info_parts info5
      obtain ⟨hcut17, hA17, hC17⟩ := print_take_of (P := Try.prog) (Value.int .u8) 0 22 5 .i64 Try.underlying22 hi017 hsz17 A0 c0 l0 (ji12) (mD) (mD) HC0.out
      have HR152 := mS (Kd.C_of_reads (h1 := fun _ => rfl) (hA17 _ (Kd.reads_of_C HR0.out)))
      have HC152 := mS hC17
      clear hA17 hC17 hi017 hsz17
      go_upto_region 7 with (first | (go_at_call 7; (try rw [show ((ji12) : Int).toNat = (l0.take ((ji12) : Int).toNat).length from by have h1_ : ((ji12) : Int) ≤ (l0.length : Int) := mD; rw [List.length_take]; omega]); (with_reducible refine (spec_Unframe.calls kj2 _ _ (l0.take ((ji12) : Int).toNat) t147 t153 t154 t155 _ ?side1 ?side2 A15.out).mono ?_); (case side1 => exact mC (Kd.C_below HR152.out HB.out)); (case side2 => exact HC152.out); rintro e w18 ⟨v156, rfl, ho0, hb⟩; replace HO_6 := mS (Kd.R_below (mR HO_6.out) hb); replace HO_7 := mS (Kd.R_below (mR HO_7.out) hb); have HO157 := mS (Kd.R_lower ho0 (below_size (mH HB.out))); replace HB := mS (below_step (mH HB.out) hb); (try clear hb); (try clear hb2); (try clear hk); (try clear hi); (try clear ho0)))
      repeat (go_quiet (first | (go_at_call 7; (try rw [show ((ji12) : Int).toNat = (l0.take ((ji12) : Int).toNat).length from by have h1_ : ((ji12) : Int) ≤ (l0.length : Int) := mD; rw [List.length_take]; omega]); (with_reducible refine (spec_Unframe.calls kj2 _ _ (l0.take ((ji12) : Int).toNat) t147 t153 t154 t155 _ ?side1 ?side2 A15.out).mono ?_); (case side1 => exact mC (Kd.C_below HR152.out HB.out)); (case side2 => exact HC152.out); rintro e w18 ⟨v156, rfl, ho0, hb⟩; replace HO_6 := mS (Kd.R_below (mR HO_6.out) hb); replace HO_7 := mS (Kd.R_below (mR HO_7.out) hb); have HO157 := mS (Kd.R_lower ho0 (below_size (mH HB.out))); replace HB := mS (below_step (mH HB.out) hb); (try clear hb); (try clear hb2); (try clear hk); (try clear hi); (try clear ho0))); go_upto_region 7 with (first | (go_at_call 7; (try rw [show ((ji12) : Int).toNat = (l0.take ((ji12) : Int).toNat).length from by have h1_ : ((ji12) : Int) ≤ (l0.length : Int) := mD; rw [List.length_take]; omega]); (with_reducible refine (spec_Unframe.calls kj2 _ _ (l0.take ((ji12) : Int).toNat) t147 t153 t154 t155 _ ?side1 ?side2 A15.out).mono ?_); (case side1 => exact mC (Kd.C_below HR152.out HB.out)); (case side2 => exact HC152.out); rintro e w18 ⟨v156, rfl, ho0, hb⟩; replace HO_6 := mS (Kd.R_below (mR HO_6.out) hb); replace HO_7 := mS (Kd.R_below (mR HO_7.out) hb); have HO157 := mS (Kd.R_lower ho0 (below_size (mH HB.out))); replace HB := mS (below_step (mH HB.out) hb); (try clear hb); (try clear hb2); (try clear hk); (try clear hi); (try clear ho0))))
      (try simp only [Act.put, zA, zB, zC])
      go_cut [64] (fun v64 wc => ∃ (kq : Nat) (x64_15 : Bool), v64 = .bool x64_15 ∧ Aside0 (spec_l5Index.j1 kq y141 y144 t153 x64_15 = some (r1, r2, r3, r4)) ∧ Aside0 (kq ≤ kj2) ∧ Aside0 (Kd.R Kd.string 9 wc w.heap.size (fun _ => True) v142 y141) ∧ Aside0 (Kd.R (Kd.int .i64) 3 wc w.heap.size (fun _ => True) v145 y144) ∧ Aside0 (Kd.R (Kd.int .u8) 5 wc w.heap.size (fun _ => True) v156 t153) ∧ Aside0 (Below w.heap.size w wc))
      case first =>
       have H := HC16.out
       clear HC16
       by_cases c19 : t155 = true
       ·subst c19
        have H1 := H
        rw [if_pos rfl] at H1
        clear H
        have H := H1
        clear H1
        have H' := mS H
        clear H
        go_wp2
        repeat (go_quiet (fail); try go_wp2)
        go_meet
        case rel => exact ⟨_, ((t154 != (ji12))), (by first | rfl | (simp; done) | (simp only [← hji12] <;> (first | rfl | simp)) | (simp [*]; done)), H', ⟨by have := HJ2.out; first | omega | exact Nat.le_refl _⟩, ⟨mR HO_6.out⟩, ⟨mR HO_7.out⟩, ⟨mR HO157.out⟩, ⟨(mH HB.out)⟩⟩
       ·replace c19 := Bool.eq_false_iff.mpr c19
        subst c19
        have H1 := H
        rw [if_neg (show ¬ (false = true) by decide)] at H1
        clear H
        have H := H1
        clear H1
        have H' := mS H
        clear H
        go_wp2
        repeat (go_quiet (fail); try go_wp2)
        go_meet
        case rel => exact ⟨_, (true), mE, H', ⟨by have := HJ2.out; first | omega | exact Nat.le_refl _⟩, ⟨mR HO_6.out⟩, ⟨mR HO_7.out⟩, ⟨mR HO157.out⟩, ⟨(mH HB.out)⟩⟩
      case rest =>
       clear HC16
       try clear c1
       try clear p2
       try clear c4
       try clear p6
       try clear c8
       try clear c9
       try clear c13
       try clear c13b0
       try clear c13b1
       try clear c14
       try clear c14b0
       try clear c14b1
       try clear c19
       try clear p2
       try clear p6
       obtain ⟨kq, x64_15, rfl, HA, HJ15, HO_6, HO_7, HO_10, HB⟩ := hcut
       cases kq with
       | zero => exact absurd HA.out (by simp [spec_l5Index.j1])
       | succ kj15 =>
        have H := HA.out
        clear HA
        simp only [spec_l5Index.j1] at H
        by_cases c20 : x64_15 = true
        ·subst c20
         have H1 := H
         rw [if_pos rfl] at H1
         clear H
         have H := H1
         clear H1
         obtain ⟨y158, hy158⟩ : ∃ y_ : List Int, y_ = (([] : List Int)) := ⟨_, rfl⟩
         replace H : (some (y141, y144, y158, false)) = some (r1, r2, r3, r4) := by first | (rw [hy158]; with_reducible exact H) | (have H2_ := (Option.bind_some _ _).symm.trans H; rw [hy158]; with_reducible exact H2_) | (have H2_ := (Option.bind_some _ _).symm.trans H; with_reducible exact H2_) | with_reducible exact H | (rw [hy158]; exact H) | exact H
         have Ny158 := mS hy158
         clear hy158
         simp only [Option.some.injEq, Prod.mk.injEq] at H
         obtain ⟨rfl, rfl, rfl, rfl⟩ := H
         go_wp2_with (first | ((with_reducible refine gate_dst (N := 67) rfl ?_); (try (refine gate_guard (by rfl) ?_; dsimp only)); refine Kd.R_lit (Kd.int .u8) _ 5 ?hg (N := 67) ?hd (xs := ([] : List Int)) (inner := []) (ok := fun _ => True) (okp := fun _ => True) ?hr ?hp (fun _ hk => hk) trivial (Below.refl _ _) (Nat.le_refl _) (by simp) ?_; (case hd => rfl); (case hg => rfl); (case hr => first | (go_simp; done) | (go_simp; rfl)); (case hp => exact (Reps.none _ _)); intro v159 w21 ho22 hb hg_ hnew_; clear hg_ hnew_; (first | rw [← Ny158.out] at ho22 | (simp only [Int.reduceToNat] at ho22; rw [← Ny158.out] at ho22)); replace HO_6 := mS (Kd.R_below (mR HO_6.out) hb); replace HO_7 := mS (Kd.R_below (mR HO_7.out) hb); have HO160 := mS (Kd.R_lower (Kd.R_new' ho22 (Kd.R_lt (mR HO_10.out))) (below_size (mH HB.out))); replace HO_10 := mS (Kd.R_elder' (mR HO_10.out) (Kd.R_base ho22) hb); replace HB := mS (below_step (mH HB.out) hb); clear hb ho22))
         repeat (go_quiet (first | ((with_reducible refine gate_dst (N := 67) rfl ?_); (try (refine gate_guard (by rfl) ?_; dsimp only)); refine Kd.R_lit (Kd.int .u8) _ 5 ?hg (N := 67) ?hd (xs := ([] : List Int)) (inner := []) (ok := fun _ => True) (okp := fun _ => True) ?hr ?hp (fun _ hk => hk) trivial (Below.refl _ _) (Nat.le_refl _) (by simp) ?_; (case hd => rfl); (case hg => rfl); (case hr => first | (go_simp; done) | (go_simp; rfl)); (case hp => exact (Reps.none _ _)); intro v159 w21 ho22 hb hg_ hnew_; clear hg_ hnew_; (first | rw [← Ny158.out] at ho22 | (simp only [Int.reduceToNat] at ho22; rw [← Ny158.out] at ho22)); replace HO_6 := mS (Kd.R_below (mR HO_6.out) hb); replace HO_7 := mS (Kd.R_below (mR HO_7.out) hb); have HO160 := mS (Kd.R_lower (Kd.R_new' ho22 (Kd.R_lt (mR HO_10.out))) (below_size (mH HB.out))); replace HO_10 := mS (Kd.R_elder' (mR HO_10.out) (Kd.R_base ho22) hb); replace HB := mS (below_step (mH HB.out) hb); clear hb ho22)); try go_wp2_with (first | ((with_reducible refine gate_dst (N := 67) rfl ?_); (try (refine gate_guard (by rfl) ?_; dsimp only)); refine Kd.R_lit (Kd.int .u8) _ 5 ?hg (N := 67) ?hd (xs := ([] : List Int)) (inner := []) (ok := fun _ => True) (okp := fun _ => True) ?hr ?hp (fun _ hk => hk) trivial (Below.refl _ _) (Nat.le_refl _) (by simp) ?_; (case hd => rfl); (case hg => rfl); (case hr => first | (go_simp; done) | (go_simp; rfl)); (case hp => exact (Reps.none _ _)); intro v159 w21 ho22 hb hg_ hnew_; clear hg_ hnew_; (first | rw [← Ny158.out] at ho22 | (simp only [Int.reduceToNat] at ho22; rw [← Ny158.out] at ho22)); replace HO_6 := mS (Kd.R_below (mR HO_6.out) hb); replace HO_7 := mS (Kd.R_below (mR HO_7.out) hb); have HO160 := mS (Kd.R_lower (Kd.R_new' ho22 (Kd.R_lt (mR HO_10.out))) (below_size (mH HB.out))); replace HO_10 := mS (Kd.R_elder' (mR HO_10.out) (Kd.R_base ho22) hb); replace HB := mS (below_step (mH HB.out) hb); clear hb ho22)))
         refine bodyPost_ret (results_list (rs := [.tmp 2, .tmp 3, .tmp 4, .tmp 5]) rfl (by simp) (.tmp (.tmp (.tmp (.tmp .nil))))) rfl ?_
         exact ⟨_, _, _, by first | rfl | (simp [errW_none, errW_some] <;> rfl) | (simp only [← hji12]; first | rfl | (simp [errW_none, errW_some] <;> rfl)) | (simp [*, errW_none, errW_some] <;> rfl), mR HO_6.out, mR HO_7.out, Kd.Q_of_R (by refine mR ?_; exact Kd.R_mono HO160.out (fun _ hk => trivial)), (mH HB.out)⟩
        ·replace c20 := Bool.eq_false_iff.mpr c20
         subst c20
         have H1 := H
         rw [if_neg (show ¬ (false = true) by decide)] at H1
         clear H
         have H := H1
         clear H1
         replace H := Option.bind_eq_some_iff.mp H
         obtain ⟨⟨t161, t162, t163⟩, A230, H⟩ := H
         replace H : (spec_l5Index.l0 kj15 y141 y144 t153 t161 t162 t163 0) = some (r1, r2, r3, r4) := H
         have A23 := mS A230
         clear A230
         have H' := mS H
         clear H
         obtain ⟨Ao24, co24, eo24⟩ := Kd.R_slice HO_10.out
         subst eo24
         go_wp2_with (first | (go_at_call 35; (with_reducible refine (spec_GetNum.calls kj15 _ _ t153 0 t161 t162 t163 _ ?side1 ?side2 A23.out).mono ?_); (case side1 => exact mC (Kd.R_reads' HO_10.out).2.2); (case side2 => exact (Kd.R_reads' HO_10.out).2.1); rintro e w' ⟨rfl, ⟨nd, rfl⟩⟩; (try first | exact ⟨rfl, _, World.drewN_drewN _ _ _⟩ | exact ⟨rfl, _, Eq.trans (World.drewN_drewN _ _ _) (congrArg (World.drewN _) (Nat.add_assoc _ _ _))⟩)))
         repeat (go_quiet (first | (go_at_call 35; (with_reducible refine (spec_GetNum.calls kj15 _ _ t153 0 t161 t162 t163 _ ?side1 ?side2 A23.out).mono ?_); (case side1 => exact mC (Kd.R_reads' HO_10.out).2.2); (case side2 => exact (Kd.R_reads' HO_10.out).2.1); rintro e w' ⟨rfl, ⟨nd, rfl⟩⟩; (try first | exact ⟨rfl, _, World.drewN_drewN _ _ _⟩ | exact ⟨rfl, _, Eq.trans (World.drewN_drewN _ _ _) (congrArg (World.drewN _) (Nat.add_assoc _ _ _))⟩))); try go_wp2_with (first | (go_at_call 35; (with_reducible refine (spec_GetNum.calls kj15 _ _ t153 0 t161 t162 t163 _ ?side1 ?side2 A23.out).mono ?_); (case side1 => exact mC (Kd.R_reads' HO_10.out).2.2); (case side2 => exact (Kd.R_reads' HO_10.out).2.1); rintro e w' ⟨rfl, ⟨nd, rfl⟩⟩; (try first | exact ⟨rfl, _, World.drewN_drewN _ _ _⟩ | exact ⟨rfl, _, Eq.trans (World.drewN_drewN _ _ _) (congrArg (World.drewN _) (Nat.add_assoc _ _ _))⟩))))
         go_loopg [6, 7, 14, 15, 16] kj15 (fun kq v6 v7 v14 v15 v16 w' => ∃ (x6_3 : List ByteArray) (x7_3 : List Int) (x14_3 : Int) (x15_3 : Bool) (x16_3 : Int), v14 = .int .i64 x14_3 ∧ v15 = .bool x15_3 ∧ v16 = .int .i64 x16_3 ∧ Aside0 (spec_l5Index.l0 kq x6_3 x7_3 t153 t161 x14_3 x15_3 x16_3 = some (r1, r2, r3, r4)) ∧ Aside0 (kq ≤ kj15) ∧ Aside0 (Kd.R Kd.string 9 w' w.heap.size (fun _ => True) v6 x6_3) ∧ Aside0 (Kd.R (Kd.int .i64) 3 w' w.heap.size (fun _ => True) v7 x7_3) ∧ Aside0 (Kd.R (Kd.int .u8) 5 w' w.heap.size (fun _ => True) (.slice Ao24 t153.length co24) t153) ∧ Aside0 (Below w.heap.size w w'))
         case atStart => exact ⟨(y141), (y144), (t162), (t163), (0), mE, mE, mE, H', ⟨Nat.le_refl _⟩, ⟨mR HO_6.out⟩, ⟨mR HO_7.out⟩, ⟨mR HO_10.out⟩, ⟨(mH HB.out)⟩⟩
         case round =>
          clear H'
          try clear c1
          try clear c2
          try clear p2
          try clear c4
          try clear p6
          try clear c8
          try clear c9
          try clear c13
          try clear c13b0
          try clear c13b1
          try clear c14
          try clear c14b0
          try clear c14b1
          try clear c19
          try clear c20
          try clear p2
          try clear p6
          obtain ⟨x6_3, x7_3, x14_3, x15_3, x16_3, rfl, rfl, rfl, HA, HK3, HO_6, HO_7, HO_10, HB⟩ := hrel
          cases gk with
          | zero => exact absurd HA.out (by simp [spec_l5Index.l0])
          | succ k3 =>
           have H := HA.out
           clear HA
           simp only [spec_l5Index.l0] at H
           have HC25 := mS H
           clear H
           go_upto_region 11 with (fail)
           repeat (go_quiet (fail); go_upto_region 11 with (fail))
           go_cut [83] (fun v83 wc => ∃ (kq : Nat) (x83_24 : Bool), v83 = .bool x83_24 ∧ Aside0 (spec_l5Index.j3 kq x6_3 x7_3 t153 t161 x14_3 x15_3 x16_3 x83_24 = some (r1, r2, r3, r4)) ∧ Aside0 (kq ≤ k3) ∧ Aside0 (Kd.R Kd.string 9 wc w.heap.size (fun _ => True) u6 x6_3) ∧ Aside0 (Kd.R (Kd.int .i64) 3 wc w.heap.size (fun _ => True) u7 x7_3) ∧ Aside0 (Kd.R (Kd.int .u8) 5 wc w.heap.size (fun _ => True) (.slice Ao24 t153.length co24) t153) ∧ Aside0 (Below w.heap.size w wc))
           case first =>
            have H := HC25.out
            clear HC25
            by_cases c26 : x16_3 < t161
            ·rw [if_pos c26] at H
             have c26b0 := decide_eq_true c26
             clear c26
             (first | rw [c26b0] | (simp only [i64_w, i32_w]; rw [c26b0]) | skip)
             by_cases c27 : x15_3 = true
             ·subst c27
              have H1 := H
              rw [if_pos rfl] at H1
              clear H
              have H := H1
              clear H1
              have H' := mS H
              clear H
              go_wp2
              repeat (go_quiet (fail); try go_wp2)
              go_meet
              case rel => exact ⟨_, (decide (x16_3 < 100)), mE, H', ⟨by have := HJ2.out; have := HJ15.out; have := HK3.out; first | omega | exact Nat.le_refl _⟩, ⟨mR HO_6.out⟩, ⟨mR HO_7.out⟩, ⟨mR HO_10.out⟩, ⟨(mH HB.out)⟩⟩
             ·replace c27 := Bool.eq_false_iff.mpr c27
              subst c27
              have H1 := H
              rw [if_neg (show ¬ (false = true) by decide)] at H1
              clear H
              have H := H1
              clear H1
              have H' := mS H
              clear H
              go_wp2
              repeat (go_quiet (fail); try go_wp2)
              go_meet
              case rel => exact ⟨_, (false), mE, H', ⟨by have := HJ2.out; have := HJ15.out; have := HK3.out; first | omega | exact Nat.le_refl _⟩, ⟨mR HO_6.out⟩, ⟨mR HO_7.out⟩, ⟨mR HO_10.out⟩, ⟨(mH HB.out)⟩⟩
            ·rw [if_neg c26] at H
             have c26b0 := decide_eq_false c26
             clear c26
             (first | rw [c26b0] | (simp only [i64_w, i32_w]; rw [c26b0]) | skip)
             have H' := mS H
             clear H
             go_wp2
             repeat (go_quiet (fail); try go_wp2)
             go_meet
             case rel => exact ⟨_, (false), mE, H', ⟨by have := HJ2.out; have := HJ15.out; have := HK3.out; first | omega | exact Nat.le_refl _⟩, ⟨mR HO_6.out⟩, ⟨mR HO_7.out⟩, ⟨mR HO_10.out⟩, ⟨(mH HB.out)⟩⟩
           case rest =>
            clear HC25
            try clear c1
            try clear c2
            try clear p2
            try clear c4
            try clear p6
            try clear c8
            try clear c9
            try clear c13
            try clear c13b0
            try clear c13b1
            try clear c14
            try clear c14b0
            try clear c14b1
            try clear c19
            try clear c20
            try clear c26
            try clear c26b0
            try clear c27
            try clear p2
            try clear p6
            obtain ⟨kq, x83_24, rfl, HA, HJ24, HO_6, HO_7, HO_10, HB⟩ := hcut
            cases kq with
            | zero => exact absurd HA.out (by simp [spec_l5Index.j3])
            | succ kj24 =>
             have H := HA.out
             clear HA
             simp only [spec_l5Index.j3] at H
             by_cases c28 : x83_24 = true
             ·subst c28
              have H1 := H
              rw [if_pos rfl] at H1
              clear H
              have H := H1
              clear H1
              replace H := Option.bind_eq_some_iff.mp H
              obtain ⟨⟨t164, t165, t166⟩, A290, H⟩ := H
              replace H : ((spec_GetNum.f kj24 t153 t165).bind fun bt167 => (if t166 = true then (if x6_3.length < 8796093022208 then (if x7_3.length < 17592186044416 then (spec_l5Index.l0 kj24 (x6_3 ++ [t164]) (x7_3 ++ [bt167.1]) t153 t161 bt167.2.1 bt167.2.2 (wrap64 (x16_3 + 1))) else (none)) else (none)) else (if x6_3.length < 8796093022208 then (if x7_3.length < 17592186044416 then (spec_l5Index.l0 kj24 (x6_3 ++ [t164]) (x7_3 ++ [bt167.1]) t153 t161 bt167.2.1 false (wrap64 (x16_3 + 1))) else (none)) else (none)))) = some (r1, r2, r3, r4) := H
              have A29 := mS A290
              clear A290
              replace H := Option.bind_eq_some_iff.mp H
              obtain ⟨⟨t167, t168, t169⟩, A300, H⟩ := H
              replace H : (if t166 = true then (if x6_3.length < 8796093022208 then (if x7_3.length < 17592186044416 then (spec_l5Index.l0 kj24 (x6_3 ++ [t164]) (x7_3 ++ [t167]) t153 t161 t168 t169 (wrap64 (x16_3 + 1))) else (none)) else (none)) else (if x6_3.length < 8796093022208 then (if x7_3.length < 17592186044416 then (spec_l5Index.l0 kj24 (x6_3 ++ [t164]) (x7_3 ++ [t167]) t153 t161 t168 false (wrap64 (x16_3 + 1))) else (none)) else (none))) = some (r1, r2, r3, r4) := H
              have A30 := mS A300
              clear A300
              by_cases c31 : t166 = true
              ·subst c31
               have H1 := H
               rw [if_pos rfl] at H1
               clear H
               have H := H1
               clear H1
               by_cases c32 : x6_3.length < 8796093022208
               ·rw [if_pos c32] at H
                have LMc32 := mS c32
                clear c32
                obtain ⟨y170, hy170⟩ : ∃ y_ : List ByteArray, y_ = (x6_3 ++ [t164]) := ⟨_, rfl⟩
                replace H : (if x7_3.length < 17592186044416 then (spec_l5Index.l0 kj24 y170 (x7_3 ++ [t167]) t153 t161 t168 t169 (wrap64 (x16_3 + 1))) else (none)) = some (r1, r2, r3, r4) := by first | (rw [hy170]; with_reducible exact H) | (have H2_ := (Option.bind_some _ _).symm.trans H; rw [hy170]; with_reducible exact H2_) | (have H2_ := (Option.bind_some _ _).symm.trans H; with_reducible exact H2_) | with_reducible exact H | (rw [hy170]; exact H) | exact H
                have Ny170 := mS hy170
                clear hy170
                by_cases c33 : x7_3.length < 17592186044416
                ·rw [if_pos c33] at H
                 have LMc33 := mS c33
                 clear c33
                 obtain ⟨y173, hy173⟩ : ∃ y_ : List Int, y_ = (x7_3 ++ [t167]) := ⟨_, rfl⟩
                 replace H : (spec_l5Index.l0 kj24 y170 y173 t153 t161 t168 t169 (wrap64 (x16_3 + 1))) = some (r1, r2, r3, r4) := by first | (rw [hy173]; with_reducible exact H) | (have H2_ := (Option.bind_some _ _).symm.trans H; rw [hy173]; with_reducible exact H2_) | (have H2_ := (Option.bind_some _ _).symm.trans H; with_reducible exact H2_) | with_reducible exact H | (rw [hy173]; exact H) | exact H
                 have Ny173 := mS hy173
                 clear hy173
                 have H' := mS H
                 clear H
                 go_wp2_with (first | (go_at_call 72; (with_reducible refine (spec_GetText.calls kj24 _ _ t153 x14_3 t164 t165 true _ ?side1 ?side2 A29.out).mono ?_); (case side1 => exact mC (Kd.R_reads' HO_10.out).2.2); (case side2 => exact (Kd.R_reads' HO_10.out).2.1); rintro e w' ⟨rfl, ⟨nd, rfl⟩⟩; (try first | exact ⟨rfl, _, World.drewN_drewN _ _ _⟩ | exact ⟨rfl, _, Eq.trans (World.drewN_drewN _ _ _) (congrArg (World.drewN _) (Nat.add_assoc _ _ _))⟩)) | (go_at_call 35; (with_reducible refine (spec_GetNum.calls kj24 _ _ t153 t165 t167 t168 t169 _ ?side1 ?side2 A30.out).mono ?_); (case side1 => exact mC (Kd.R_reads' HO_10.out).2.2); (case side2 => exact (Kd.R_reads' HO_10.out).2.1); rintro e w' ⟨rfl, ⟨nd, rfl⟩⟩; (try first | exact ⟨rfl, _, World.drewN_drewN _ _ _⟩ | exact ⟨rfl, _, Eq.trans (World.drewN_drewN _ _ _) (congrArg (World.drewN _) (Nat.add_assoc _ _ _))⟩)) | ((with_reducible refine gate_builtin (b := .append) (xs := #[.tmp 104, .tmp 106]) rfl ?_); (try (refine gate_guard (by rfl) ?_; dsimp only)); at_builtin; refine Kd.R_append Kd.string (w0 := w) w.heap.size rfl (.tmp 104) (.tmp 106) 74 9 (.string ⟨#[]⟩) 16 rfl Try.underlying74 info9 rfl (by decide) (by omega) u6 x6_3 t164 [.string t164] (fun _ => True) (fun _ => False) rfl rfl ?aP (fun _ hk => hk.elim) ?aF ?aO ?aB ?aS ?aL ?_; (case aP => exact rfl); (case aB => exact (mH HB.out)); (case aF => exact (fun _ _ => trivial)); (case aO => exact (mR HO_6.out)); (case aS => exact (below_size (mH HB.out))); (case aL => have := LMc32.out; omega); intro v171 w34 ho hb hg hat; rw [← Ny170.out] at ho; replace HO_7 := mS (Kd.R_over' (mR HO_7.out) (Kd.R_typed (mR HO_6.out)) (by decide) hg); replace HO_10 := mS (Kd.R_over' (mR HO_10.out) (Kd.R_typed (mR HO_6.out)) (by decide) hg); replace HB := mS (hb); have HO172 := mS (ho); clear HO_6; clear ho hb hg hat) | ((with_reducible refine gate_builtin (b := .append) (xs := #[.tmp 108, .tmp 110]) rfl ?_); (try (refine gate_guard (by rfl) ?_; dsimp only)); at_builtin; refine Kd.R_append (Kd.int .i64) (w0 := w) w.heap.size rfl (.tmp 108) (.tmp 110) 75 3 (.int .i64 0) 8 rfl Try.underlying75 info3 rfl (by decide) (by omega) u7 x7_3 t167 [.int .i64 t167] (fun _ => True) (fun _ => False) rfl rfl ?aP (fun _ hk => hk.elim) ?aF ?aO ?aB ?aS ?aL ?_; (case aP => exact rfl); (case aB => exact (mH HB.out)); (case aF => exact (fun _ _ => trivial)); (case aO => exact (mR HO_7.out)); (case aS => exact (below_size (mH HB.out))); (case aL => have := LMc33.out; omega); intro v174 w35 ho hb hg hat; rw [← Ny173.out] at ho; replace HO_10 := mS (Kd.R_over' (mR HO_10.out) (Kd.R_typed (mR HO_7.out)) (by decide) hg); replace HO172 := mS (Kd.R_over' (mR HO172.out) (Kd.R_typed (mR HO_7.out)) (by decide) hg); replace HB := mS (hb); have HO175 := mS (ho); clear HO_7; clear ho hb hg hat))
                 repeat (go_quiet (first | (go_at_call 72; (with_reducible refine (spec_GetText.calls kj24 _ _ t153 x14_3 t164 t165 true _ ?side1 ?side2 A29.out).mono ?_); (case side1 => exact mC (Kd.R_reads' HO_10.out).2.2); (case side2 => exact (Kd.R_reads' HO_10.out).2.1); rintro e w' ⟨rfl, ⟨nd, rfl⟩⟩; (try first | exact ⟨rfl, _, World.drewN_drewN _ _ _⟩ | exact ⟨rfl, _, Eq.trans (World.drewN_drewN _ _ _) (congrArg (World.drewN _) (Nat.add_assoc _ _ _))⟩)) | (go_at_call 35; (with_reducible refine (spec_GetNum.calls kj24 _ _ t153 t165 t167 t168 t169 _ ?side1 ?side2 A30.out).mono ?_); (case side1 => exact mC (Kd.R_reads' HO_10.out).2.2); (case side2 => exact (Kd.R_reads' HO_10.out).2.1); rintro e w' ⟨rfl, ⟨nd, rfl⟩⟩; (try first | exact ⟨rfl, _, World.drewN_drewN _ _ _⟩ | exact ⟨rfl, _, Eq.trans (World.drewN_drewN _ _ _) (congrArg (World.drewN _) (Nat.add_assoc _ _ _))⟩)) | ((with_reducible refine gate_builtin (b := .append) (xs := #[.tmp 104, .tmp 106]) rfl ?_); (try (refine gate_guard (by rfl) ?_; dsimp only)); at_builtin; refine Kd.R_append Kd.string (w0 := w) w.heap.size rfl (.tmp 104) (.tmp 106) 74 9 (.string ⟨#[]⟩) 16 rfl Try.underlying74 info9 rfl (by decide) (by omega) u6 x6_3 t164 [.string t164] (fun _ => True) (fun _ => False) rfl rfl ?aP (fun _ hk => hk.elim) ?aF ?aO ?aB ?aS ?aL ?_; (case aP => exact rfl); (case aB => exact (mH HB.out)); (case aF => exact (fun _ _ => trivial)); (case aO => exact (mR HO_6.out)); (case aS => exact (below_size (mH HB.out))); (case aL => have := LMc32.out; omega); intro v171 w34 ho hb hg hat; rw [← Ny170.out] at ho; replace HO_7 := mS (Kd.R_over' (mR HO_7.out) (Kd.R_typed (mR HO_6.out)) (by decide) hg); replace HO_10 := mS (Kd.R_over' (mR HO_10.out) (Kd.R_typed (mR HO_6.out)) (by decide) hg); replace HB := mS (hb); have HO172 := mS (ho); clear HO_6; clear ho hb hg hat) | ((with_reducible refine gate_builtin (b := .append) (xs := #[.tmp 108, .tmp 110]) rfl ?_); (try (refine gate_guard (by rfl) ?_; dsimp only)); at_builtin; refine Kd.R_append (Kd.int .i64) (w0 := w) w.heap.size rfl (.tmp 108) (.tmp 110) 75 3 (.int .i64 0) 8 rfl Try.underlying75 info3 rfl (by decide) (by omega) u7 x7_3 t167 [.int .i64 t167] (fun _ => True) (fun _ => False) rfl rfl ?aP (fun _ hk => hk.elim) ?aF ?aO ?aB ?aS ?aL ?_; (case aP => exact rfl); (case aB => exact (mH HB.out)); (case aF => exact (fun _ _ => trivial)); (case aO => exact (mR HO_7.out)); (case aS => exact (below_size (mH HB.out))); (case aL => have := LMc33.out; omega); intro v174 w35 ho hb hg hat; rw [← Ny173.out] at ho; replace HO_10 := mS (Kd.R_over' (mR HO_10.out) (Kd.R_typed (mR HO_7.out)) (by decide) hg); replace HO172 := mS (Kd.R_over' (mR HO172.out) (Kd.R_typed (mR HO_7.out)) (by decide) hg); replace HB := mS (hb); have HO175 := mS (ho); clear HO_7; clear ho hb hg hat)); try go_wp2_with (first | (go_at_call 72; (with_reducible refine (spec_GetText.calls kj24 _ _ t153 x14_3 t164 t165 true _ ?side1 ?side2 A29.out).mono ?_); (case side1 => exact mC (Kd.R_reads' HO_10.out).2.2); (case side2 => exact (Kd.R_reads' HO_10.out).2.1); rintro e w' ⟨rfl, ⟨nd, rfl⟩⟩; (try first | exact ⟨rfl, _, World.drewN_drewN _ _ _⟩ | exact ⟨rfl, _, Eq.trans (World.drewN_drewN _ _ _) (congrArg (World.drewN _) (Nat.add_assoc _ _ _))⟩)) | (go_at_call 35; (with_reducible refine (spec_GetNum.calls kj24 _ _ t153 t165 t167 t168 t169 _ ?side1 ?side2 A30.out).mono ?_); (case side1 => exact mC (Kd.R_reads' HO_10.out).2.2); (case side2 => exact (Kd.R_reads' HO_10.out).2.1); rintro e w' ⟨rfl, ⟨nd, rfl⟩⟩; (try first | exact ⟨rfl, _, World.drewN_drewN _ _ _⟩ | exact ⟨rfl, _, Eq.trans (World.drewN_drewN _ _ _) (congrArg (World.drewN _) (Nat.add_assoc _ _ _))⟩)) | ((with_reducible refine gate_builtin (b := .append) (xs := #[.tmp 104, .tmp 106]) rfl ?_); (try (refine gate_guard (by rfl) ?_; dsimp only)); at_builtin; refine Kd.R_append Kd.string (w0 := w) w.heap.size rfl (.tmp 104) (.tmp 106) 74 9 (.string ⟨#[]⟩) 16 rfl Try.underlying74 info9 rfl (by decide) (by omega) u6 x6_3 t164 [.string t164] (fun _ => True) (fun _ => False) rfl rfl ?aP (fun _ hk => hk.elim) ?aF ?aO ?aB ?aS ?aL ?_; (case aP => exact rfl); (case aB => exact (mH HB.out)); (case aF => exact (fun _ _ => trivial)); (case aO => exact (mR HO_6.out)); (case aS => exact (below_size (mH HB.out))); (case aL => have := LMc32.out; omega); intro v171 w34 ho hb hg hat; rw [← Ny170.out] at ho; replace HO_7 := mS (Kd.R_over' (mR HO_7.out) (Kd.R_typed (mR HO_6.out)) (by decide) hg); replace HO_10 := mS (Kd.R_over' (mR HO_10.out) (Kd.R_typed (mR HO_6.out)) (by decide) hg); replace HB := mS (hb); have HO172 := mS (ho); clear HO_6; clear ho hb hg hat) | ((with_reducible refine gate_builtin (b := .append) (xs := #[.tmp 108, .tmp 110]) rfl ?_); (try (refine gate_guard (by rfl) ?_; dsimp only)); at_builtin; refine Kd.R_append (Kd.int .i64) (w0 := w) w.heap.size rfl (.tmp 108) (.tmp 110) 75 3 (.int .i64 0) 8 rfl Try.underlying75 info3 rfl (by decide) (by omega) u7 x7_3 t167 [.int .i64 t167] (fun _ => True) (fun _ => False) rfl rfl ?aP (fun _ hk => hk.elim) ?aF ?aO ?aB ?aS ?aL ?_; (case aP => exact rfl); (case aB => exact (mH HB.out)); (case aF => exact (fun _ _ => trivial)); (case aO => exact (mR HO_7.out)); (case aS => exact (below_size (mH HB.out))); (case aL => have := LMc33.out; omega); intro v174 w35 ho hb hg hat; rw [← Ny173.out] at ho; replace HO_10 := mS (Kd.R_over' (mR HO_10.out) (Kd.R_typed (mR HO_7.out)) (by decide) hg); replace HO172 := mS (Kd.R_over' (mR HO172.out) (Kd.R_typed (mR HO_7.out)) (by decide) hg); replace HB := mS (hb); have HO175 := mS (ho); clear HO_7; clear ho hb hg hat)))
                 go_roundg kj24
                 case measure => have := HJ2.out; have := HJ15.out; have := HK3.out; have := HJ24.out; omega
                 case rel => exact ⟨(y170), (y173), (t168), (t169), (wrap64 (x16_3 + 1)), mE, mE, mE, H', ⟨by have := HJ2.out; have := HJ15.out; have := HK3.out; have := HJ24.out; omega⟩, ⟨mR HO172.out⟩, ⟨mR HO175.out⟩, ⟨mR HO_10.out⟩, ⟨(mH HB.out)⟩⟩
                ·rw [if_neg c33] at H
                 exact absurd H (by simp)
               ·rw [if_neg c32] at H
                exact absurd H (by simp)
              ·replace c31 := Bool.eq_false_iff.mpr c31
               subst c31
               have H1 := H
               rw [if_neg (show ¬ (false = true) by decide)] at H1
               clear H
               have H := H1
               clear H1
               by_cases c36 : x6_3.length < 8796093022208
               ·rw [if_pos c36] at H
                have LMc36 := mS c36
                clear c36
                obtain ⟨y176, hy176⟩ : ∃ y_ : List ByteArray, y_ = (x6_3 ++ [t164]) := ⟨_, rfl⟩
                replace H : (if x7_3.length < 17592186044416 then (spec_l5Index.l0 kj24 y176 (x7_3 ++ [t167]) t153 t161 t168 false (wrap64 (x16_3 + 1))) else (none)) = some (r1, r2, r3, r4) := by first | (rw [hy176]; with_reducible exact H) | (have H2_ := (Option.bind_some _ _).symm.trans H; rw [hy176]; with_reducible exact H2_) | (have H2_ := (Option.bind_some _ _).symm.trans H; with_reducible exact H2_) | with_reducible exact H | (rw [hy176]; exact H) | exact H
                have Ny176 := mS hy176
                clear hy176
                by_cases c37 : x7_3.length < 17592186044416
                ·rw [if_pos c37] at H
                 have LMc37 := mS c37
                 clear c37
                 obtain ⟨y179, hy179⟩ : ∃ y_ : List Int, y_ = (x7_3 ++ [t167]) := ⟨_, rfl⟩
                 replace H : (spec_l5Index.l0 kj24 y176 y179 t153 t161 t168 false (wrap64 (x16_3 + 1))) = some (r1, r2, r3, r4) := by first | (rw [hy179]; with_reducible exact H) | (have H2_ := (Option.bind_some _ _).symm.trans H; rw [hy179]; with_reducible exact H2_) | (have H2_ := (Option.bind_some _ _).symm.trans H; with_reducible exact H2_) | with_reducible exact H | (rw [hy179]; exact H) | exact H
                 have Ny179 := mS hy179
                 clear hy179
                 have H' := mS H
                 clear H
                 go_wp2_with (first | (go_at_call 72; (with_reducible refine (spec_GetText.calls kj24 _ _ t153 x14_3 t164 t165 false _ ?side1 ?side2 A29.out).mono ?_); (case side1 => exact mC (Kd.R_reads' HO_10.out).2.2); (case side2 => exact (Kd.R_reads' HO_10.out).2.1); rintro e w' ⟨rfl, ⟨nd, rfl⟩⟩; (try first | exact ⟨rfl, _, World.drewN_drewN _ _ _⟩ | exact ⟨rfl, _, Eq.trans (World.drewN_drewN _ _ _) (congrArg (World.drewN _) (Nat.add_assoc _ _ _))⟩)) | (go_at_call 35; (with_reducible refine (spec_GetNum.calls kj24 _ _ t153 t165 t167 t168 t169 _ ?side1 ?side2 A30.out).mono ?_); (case side1 => exact mC (Kd.R_reads' HO_10.out).2.2); (case side2 => exact (Kd.R_reads' HO_10.out).2.1); rintro e w' ⟨rfl, ⟨nd, rfl⟩⟩; (try first | exact ⟨rfl, _, World.drewN_drewN _ _ _⟩ | exact ⟨rfl, _, Eq.trans (World.drewN_drewN _ _ _) (congrArg (World.drewN _) (Nat.add_assoc _ _ _))⟩)) | ((with_reducible refine gate_builtin (b := .append) (xs := #[.tmp 104, .tmp 106]) rfl ?_); (try (refine gate_guard (by rfl) ?_; dsimp only)); at_builtin; refine Kd.R_append Kd.string (w0 := w) w.heap.size rfl (.tmp 104) (.tmp 106) 74 9 (.string ⟨#[]⟩) 16 rfl Try.underlying74 info9 rfl (by decide) (by omega) u6 x6_3 t164 [.string t164] (fun _ => True) (fun _ => False) rfl rfl ?aP (fun _ hk => hk.elim) ?aF ?aO ?aB ?aS ?aL ?_; (case aP => exact rfl); (case aB => exact (mH HB.out)); (case aF => exact (fun _ _ => trivial)); (case aO => exact (mR HO_6.out)); (case aS => exact (below_size (mH HB.out))); (case aL => have := LMc36.out; omega); intro v177 w38 ho hb hg hat; rw [← Ny176.out] at ho; replace HO_7 := mS (Kd.R_over' (mR HO_7.out) (Kd.R_typed (mR HO_6.out)) (by decide) hg); replace HO_10 := mS (Kd.R_over' (mR HO_10.out) (Kd.R_typed (mR HO_6.out)) (by decide) hg); replace HB := mS (hb); have HO178 := mS (ho); clear HO_6; clear ho hb hg hat) | ((with_reducible refine gate_builtin (b := .append) (xs := #[.tmp 108, .tmp 110]) rfl ?_); (try (refine gate_guard (by rfl) ?_; dsimp only)); at_builtin; refine Kd.R_append (Kd.int .i64) (w0 := w) w.heap.size rfl (.tmp 108) (.tmp 110) 75 3 (.int .i64 0) 8 rfl Try.underlying75 info3 rfl (by decide) (by omega) u7 x7_3 t167 [.int .i64 t167] (fun _ => True) (fun _ => False) rfl rfl ?aP (fun _ hk => hk.elim) ?aF ?aO ?aB ?aS ?aL ?_; (case aP => exact rfl); (case aB => exact (mH HB.out)); (case aF => exact (fun _ _ => trivial)); (case aO => exact (mR HO_7.out)); (case aS => exact (below_size (mH HB.out))); (case aL => have := LMc37.out; omega); intro v180 w39 ho hb hg hat; rw [← Ny179.out] at ho; replace HO_10 := mS (Kd.R_over' (mR HO_10.out) (Kd.R_typed (mR HO_7.out)) (by decide) hg); replace HO178 := mS (Kd.R_over' (mR HO178.out) (Kd.R_typed (mR HO_7.out)) (by decide) hg); replace HB := mS (hb); have HO181 := mS (ho); clear HO_7; clear ho hb hg hat))
                 repeat (go_quiet (first | (go_at_call 72; (with_reducible refine (spec_GetText.calls kj24 _ _ t153 x14_3 t164 t165 false _ ?side1 ?side2 A29.out).mono ?_); (case side1 => exact mC (Kd.R_reads' HO_10.out).2.2); (case side2 => exact (Kd.R_reads' HO_10.out).2.1); rintro e w' ⟨rfl, ⟨nd, rfl⟩⟩; (try first | exact ⟨rfl, _, World.drewN_drewN _ _ _⟩ | exact ⟨rfl, _, Eq.trans (World.drewN_drewN _ _ _) (congrArg (World.drewN _) (Nat.add_assoc _ _ _))⟩)) | (go_at_call 35; (with_reducible refine (spec_GetNum.calls kj24 _ _ t153 t165 t167 t168 t169 _ ?side1 ?side2 A30.out).mono ?_); (case side1 => exact mC (Kd.R_reads' HO_10.out).2.2); (case side2 => exact (Kd.R_reads' HO_10.out).2.1); rintro e w' ⟨rfl, ⟨nd, rfl⟩⟩; (try first | exact ⟨rfl, _, World.drewN_drewN _ _ _⟩ | exact ⟨rfl, _, Eq.trans (World.drewN_drewN _ _ _) (congrArg (World.drewN _) (Nat.add_assoc _ _ _))⟩)) | ((with_reducible refine gate_builtin (b := .append) (xs := #[.tmp 104, .tmp 106]) rfl ?_); (try (refine gate_guard (by rfl) ?_; dsimp only)); at_builtin; refine Kd.R_append Kd.string (w0 := w) w.heap.size rfl (.tmp 104) (.tmp 106) 74 9 (.string ⟨#[]⟩) 16 rfl Try.underlying74 info9 rfl (by decide) (by omega) u6 x6_3 t164 [.string t164] (fun _ => True) (fun _ => False) rfl rfl ?aP (fun _ hk => hk.elim) ?aF ?aO ?aB ?aS ?aL ?_; (case aP => exact rfl); (case aB => exact (mH HB.out)); (case aF => exact (fun _ _ => trivial)); (case aO => exact (mR HO_6.out)); (case aS => exact (below_size (mH HB.out))); (case aL => have := LMc36.out; omega); intro v177 w38 ho hb hg hat; rw [← Ny176.out] at ho; replace HO_7 := mS (Kd.R_over' (mR HO_7.out) (Kd.R_typed (mR HO_6.out)) (by decide) hg); replace HO_10 := mS (Kd.R_over' (mR HO_10.out) (Kd.R_typed (mR HO_6.out)) (by decide) hg); replace HB := mS (hb); have HO178 := mS (ho); clear HO_6; clear ho hb hg hat) | ((with_reducible refine gate_builtin (b := .append) (xs := #[.tmp 108, .tmp 110]) rfl ?_); (try (refine gate_guard (by rfl) ?_; dsimp only)); at_builtin; refine Kd.R_append (Kd.int .i64) (w0 := w) w.heap.size rfl (.tmp 108) (.tmp 110) 75 3 (.int .i64 0) 8 rfl Try.underlying75 info3 rfl (by decide) (by omega) u7 x7_3 t167 [.int .i64 t167] (fun _ => True) (fun _ => False) rfl rfl ?aP (fun _ hk => hk.elim) ?aF ?aO ?aB ?aS ?aL ?_; (case aP => exact rfl); (case aB => exact (mH HB.out)); (case aF => exact (fun _ _ => trivial)); (case aO => exact (mR HO_7.out)); (case aS => exact (below_size (mH HB.out))); (case aL => have := LMc37.out; omega); intro v180 w39 ho hb hg hat; rw [← Ny179.out] at ho; replace HO_10 := mS (Kd.R_over' (mR HO_10.out) (Kd.R_typed (mR HO_7.out)) (by decide) hg); replace HO178 := mS (Kd.R_over' (mR HO178.out) (Kd.R_typed (mR HO_7.out)) (by decide) hg); replace HB := mS (hb); have HO181 := mS (ho); clear HO_7; clear ho hb hg hat)); try go_wp2_with (first | (go_at_call 72; (with_reducible refine (spec_GetText.calls kj24 _ _ t153 x14_3 t164 t165 false _ ?side1 ?side2 A29.out).mono ?_); (case side1 => exact mC (Kd.R_reads' HO_10.out).2.2); (case side2 => exact (Kd.R_reads' HO_10.out).2.1); rintro e w' ⟨rfl, ⟨nd, rfl⟩⟩; (try first | exact ⟨rfl, _, World.drewN_drewN _ _ _⟩ | exact ⟨rfl, _, Eq.trans (World.drewN_drewN _ _ _) (congrArg (World.drewN _) (Nat.add_assoc _ _ _))⟩)) | (go_at_call 35; (with_reducible refine (spec_GetNum.calls kj24 _ _ t153 t165 t167 t168 t169 _ ?side1 ?side2 A30.out).mono ?_); (case side1 => exact mC (Kd.R_reads' HO_10.out).2.2); (case side2 => exact (Kd.R_reads' HO_10.out).2.1); rintro e w' ⟨rfl, ⟨nd, rfl⟩⟩; (try first | exact ⟨rfl, _, World.drewN_drewN _ _ _⟩ | exact ⟨rfl, _, Eq.trans (World.drewN_drewN _ _ _) (congrArg (World.drewN _) (Nat.add_assoc _ _ _))⟩)) | ((with_reducible refine gate_builtin (b := .append) (xs := #[.tmp 104, .tmp 106]) rfl ?_); (try (refine gate_guard (by rfl) ?_; dsimp only)); at_builtin; refine Kd.R_append Kd.string (w0 := w) w.heap.size rfl (.tmp 104) (.tmp 106) 74 9 (.string ⟨#[]⟩) 16 rfl Try.underlying74 info9 rfl (by decide) (by omega) u6 x6_3 t164 [.string t164] (fun _ => True) (fun _ => False) rfl rfl ?aP (fun _ hk => hk.elim) ?aF ?aO ?aB ?aS ?aL ?_; (case aP => exact rfl); (case aB => exact (mH HB.out)); (case aF => exact (fun _ _ => trivial)); (case aO => exact (mR HO_6.out)); (case aS => exact (below_size (mH HB.out))); (case aL => have := LMc36.out; omega); intro v177 w38 ho hb hg hat; rw [← Ny176.out] at ho; replace HO_7 := mS (Kd.R_over' (mR HO_7.out) (Kd.R_typed (mR HO_6.out)) (by decide) hg); replace HO_10 := mS (Kd.R_over' (mR HO_10.out) (Kd.R_typed (mR HO_6.out)) (by decide) hg); replace HB := mS (hb); have HO178 := mS (ho); clear HO_6; clear ho hb hg hat) | ((with_reducible refine gate_builtin (b := .append) (xs := #[.tmp 108, .tmp 110]) rfl ?_); (try (refine gate_guard (by rfl) ?_; dsimp only)); at_builtin; refine Kd.R_append (Kd.int .i64) (w0 := w) w.heap.size rfl (.tmp 108) (.tmp 110) 75 3 (.int .i64 0) 8 rfl Try.underlying75 info3 rfl (by decide) (by omega) u7 x7_3 t167 [.int .i64 t167] (fun _ => True) (fun _ => False) rfl rfl ?aP (fun _ hk => hk.elim) ?aF ?aO ?aB ?aS ?aL ?_; (case aP => exact rfl); (case aB => exact (mH HB.out)); (case aF => exact (fun _ _ => trivial)); (case aO => exact (mR HO_7.out)); (case aS => exact (below_size (mH HB.out))); (case aL => have := LMc37.out; omega); intro v180 w39 ho hb hg hat; rw [← Ny179.out] at ho; replace HO_10 := mS (Kd.R_over' (mR HO_10.out) (Kd.R_typed (mR HO_7.out)) (by decide) hg); replace HO178 := mS (Kd.R_over' (mR HO178.out) (Kd.R_typed (mR HO_7.out)) (by decide) hg); replace HB := mS (hb); have HO181 := mS (ho); clear HO_7; clear ho hb hg hat)))
                 go_roundg kj24
                 case measure => have := HJ2.out; have := HJ15.out; have := HK3.out; have := HJ24.out; omega
                 case rel => exact ⟨(y176), (y179), (t168), (false), (wrap64 (x16_3 + 1)), mE, mE, mE, H', ⟨by have := HJ2.out; have := HJ15.out; have := HK3.out; have := HJ24.out; omega⟩, ⟨mR HO178.out⟩, ⟨mR HO181.out⟩, ⟨mR HO_10.out⟩, ⟨(mH HB.out)⟩⟩
                ·rw [if_neg c37] at H
                 exact absurd H (by simp)
               ·rw [if_neg c36] at H
                exact absurd H (by simp)
             ·replace c28 := Bool.eq_false_iff.mpr c28
              subst c28
              have H1 := H
              rw [if_neg (show ¬ (false = true) by decide)] at H1
              clear H
              have H := H1
              clear H1
              have HC40 := mS H
              clear H
              go_upto_region 19 with (fail)
              repeat (go_quiet (fail); go_upto_region 19 with (fail))
              go_cut [127] (fun v127 wc => ∃ (kq : Nat) (x127_39 : Bool), v127 = .bool x127_39 ∧ Aside0 (spec_l5Index.j4 kq x6_3 x7_3 t153 x14_3 x127_39 = some (r1, r2, r3, r4)) ∧ Aside0 (kq ≤ kj24) ∧ Aside0 (Kd.R Kd.string 9 wc w.heap.size (fun _ => True) u6 x6_3) ∧ Aside0 (Kd.R (Kd.int .i64) 3 wc w.heap.size (fun _ => True) u7 x7_3) ∧ Aside0 (Kd.R (Kd.int .u8) 5 wc w.heap.size (fun _ => True) (.slice Ao24 t153.length co24) t153) ∧ Aside0 (Below w.heap.size w wc))
              case first =>
               have H := HC40.out
               clear HC40
               by_cases c41 : x15_3 = true
               ·subst c41
                have H1 := H
                rw [if_pos rfl] at H1
                clear H
                have H := H1
                clear H1
                by_cases c42 : (x6_3.length : Int) = t161
                ·rw [if_pos c42] at H
                 have c42b0 : ((x6_3.length : Int) == t161) = true := beq_iff_eq.mpr c42
                 have c42b1 : ((x6_3.length : Int) != t161) = false := bne_eq_false_iff_eq.mpr c42
                 clear c42
                 (first | rw [c42b0] | (simp only [i64_w, i32_w]; rw [c42b0]) | skip)
                 have H' := mS H
                 clear H
                 obtain ⟨Ao43, co43, eo43⟩ := Kd.R_slice HO_6.out
                 subst eo43
                 go_wp2
                 repeat (go_quiet (fail); try go_wp2)
                 go_meet
                 case rel => exact ⟨_, (((wrap64 ((t153.length : Int) - x14_3)) != 8)), mE, H', ⟨by have := HJ2.out; have := HJ15.out; have := HK3.out; have := HJ24.out; first | omega | exact Nat.le_refl _⟩, ⟨mR HO_6.out⟩, ⟨mR HO_7.out⟩, ⟨mR HO_10.out⟩, ⟨(mH HB.out)⟩⟩
                ·rw [if_neg c42] at H
                 have c42b0 : ((x6_3.length : Int) == t161) = false := beq_eq_false_iff_ne.mpr c42
                 have c42b1 : ((x6_3.length : Int) != t161) = true := bne_iff_ne.mpr c42
                 (first | rw [c42b0] | (simp only [i64_w, i32_w]; rw [c42b0]) | skip)
                 have H' := mS H
                 clear H
                 obtain ⟨Ao44, co44, eo44⟩ := Kd.R_slice HO_6.out
                 subst eo44
                 go_wp2
                 repeat (go_quiet (fail); try go_wp2)
                 go_meet
                 case rel => exact ⟨_, (true), mE, H', ⟨by have := HJ2.out; have := HJ15.out; have := HK3.out; have := HJ24.out; first | omega | exact Nat.le_refl _⟩, ⟨mR HO_6.out⟩, ⟨mR HO_7.out⟩, ⟨mR HO_10.out⟩, ⟨(mH HB.out)⟩⟩
               ·replace c41 := Bool.eq_false_iff.mpr c41
                subst c41
                have H1 := H
                rw [if_neg (show ¬ (false = true) by decide)] at H1
                clear H
                have H := H1
                clear H1
                have H' := mS H
                clear H
                go_wp2
                repeat (go_quiet (fail); try go_wp2)
                go_meet
                case rel => exact ⟨_, (true), mE, H', ⟨by have := HJ2.out; have := HJ15.out; have := HK3.out; have := HJ24.out; first | omega | exact Nat.le_refl _⟩, ⟨mR HO_6.out⟩, ⟨mR HO_7.out⟩, ⟨mR HO_10.out⟩, ⟨(mH HB.out)⟩⟩
              case rest =>
               clear HC40
               try clear c1
               try clear c2
               try clear p2
               try clear c3
               try clear c4
               try clear p6
               try clear c8
               try clear c9
               try clear c13
               try clear c13b0
               try clear c13b1
               try clear c14
               try clear c14b0
               try clear c14b1
               try clear c19
               try clear c20
               try clear c26
               try clear c26b0
               try clear c27
               try clear c28
               try clear c31
               try clear c32
               try clear c33
               try clear c36
               try clear c37
               try clear c41
               try clear c42
               try clear c42b0
               try clear c42b1
               try clear p2
               try clear p6
               obtain ⟨kq, x127_39, rfl, HA, HJ39, HO_6, HO_7, HO_10, HB⟩ := hcut
               cases kq with
               | zero => exact absurd HA.out (by simp [spec_l5Index.j4])
               | succ kj39 =>
                have H := HA.out
                clear HA
                simp only [spec_l5Index.j4] at H
                by_cases c45 : x127_39 = true
                ·subst c45
                 have H1 := H
                 rw [if_pos rfl] at H1
                 clear H
                 have H := H1
                 clear H1
                 obtain ⟨y182, hy182⟩ : ∃ y_ : List Int, y_ = (([] : List Int)) := ⟨_, rfl⟩
                 replace H : (some (x6_3, x7_3, y182, false)) = some (r1, r2, r3, r4) := by first | (rw [hy182]; with_reducible exact H) | (have H2_ := (Option.bind_some _ _).symm.trans H; rw [hy182]; with_reducible exact H2_) | (have H2_ := (Option.bind_some _ _).symm.trans H; with_reducible exact H2_) | with_reducible exact H | (rw [hy182]; exact H) | exact H
                 have Ny182 := mS hy182
                 clear hy182
                 simp only [Option.some.injEq, Prod.mk.injEq] at H
                 obtain ⟨rfl, rfl, rfl, rfl⟩ := H
                 go_wp2_with (first | ((with_reducible refine gate_dst (N := 130) rfl ?_); (try (refine gate_guard (by rfl) ?_; dsimp only)); refine Kd.R_lit (Kd.int .u8) _ 5 ?hg (N := 130) ?hd (xs := ([] : List Int)) (inner := []) (ok := fun _ => True) (okp := fun _ => True) ?hr ?hp (fun _ hk => hk) trivial (Below.refl _ _) (Nat.le_refl _) (by simp) ?_; (case hd => rfl); (case hg => rfl); (case hr => first | (go_simp; done) | (go_simp; rfl)); (case hp => exact (Reps.none _ _)); intro v183 w46 ho47 hb hg_ hnew_; clear hg_ hnew_; (first | rw [← Ny182.out] at ho47 | (simp only [Int.reduceToNat] at ho47; rw [← Ny182.out] at ho47)); replace HO_6 := mS (Kd.R_below (mR HO_6.out) hb); replace HO_7 := mS (Kd.R_below (mR HO_7.out) hb); have HO184 := mS (Kd.R_lower (Kd.R_new' ho47 (Kd.R_lt (mR HO_10.out))) (below_size (mH HB.out))); replace HO_10 := mS (Kd.R_elder' (mR HO_10.out) (Kd.R_base ho47) hb); replace HB := mS (below_step (mH HB.out) hb); clear hb ho47))
                 repeat (go_quiet (first | ((with_reducible refine gate_dst (N := 130) rfl ?_); (try (refine gate_guard (by rfl) ?_; dsimp only)); refine Kd.R_lit (Kd.int .u8) _ 5 ?hg (N := 130) ?hd (xs := ([] : List Int)) (inner := []) (ok := fun _ => True) (okp := fun _ => True) ?hr ?hp (fun _ hk => hk) trivial (Below.refl _ _) (Nat.le_refl _) (by simp) ?_; (case hd => rfl); (case hg => rfl); (case hr => first | (go_simp; done) | (go_simp; rfl)); (case hp => exact (Reps.none _ _)); intro v183 w46 ho47 hb hg_ hnew_; clear hg_ hnew_; (first | rw [← Ny182.out] at ho47 | (simp only [Int.reduceToNat] at ho47; rw [← Ny182.out] at ho47)); replace HO_6 := mS (Kd.R_below (mR HO_6.out) hb); replace HO_7 := mS (Kd.R_below (mR HO_7.out) hb); have HO184 := mS (Kd.R_lower (Kd.R_new' ho47 (Kd.R_lt (mR HO_10.out))) (below_size (mH HB.out))); replace HO_10 := mS (Kd.R_elder' (mR HO_10.out) (Kd.R_base ho47) hb); replace HB := mS (below_step (mH HB.out) hb); clear hb ho47)); try go_wp2_with (first | ((with_reducible refine gate_dst (N := 130) rfl ?_); (try (refine gate_guard (by rfl) ?_; dsimp only)); refine Kd.R_lit (Kd.int .u8) _ 5 ?hg (N := 130) ?hd (xs := ([] : List Int)) (inner := []) (ok := fun _ => True) (okp := fun _ => True) ?hr ?hp (fun _ hk => hk) trivial (Below.refl _ _) (Nat.le_refl _) (by simp) ?_; (case hd => rfl); (case hg => rfl); (case hr => first | (go_simp; done) | (go_simp; rfl)); (case hp => exact (Reps.none _ _)); intro v183 w46 ho47 hb hg_ hnew_; clear hg_ hnew_; (first | rw [← Ny182.out] at ho47 | (simp only [Int.reduceToNat] at ho47; rw [← Ny182.out] at ho47)); replace HO_6 := mS (Kd.R_below (mR HO_6.out) hb); replace HO_7 := mS (Kd.R_below (mR HO_7.out) hb); have HO184 := mS (Kd.R_lower (Kd.R_new' ho47 (Kd.R_lt (mR HO_10.out))) (below_size (mH HB.out))); replace HO_10 := mS (Kd.R_elder' (mR HO_10.out) (Kd.R_base ho47) hb); replace HB := mS (below_step (mH HB.out) hb); clear hb ho47)))
                 refine bodyPost_ret (results_list (rs := [.tmp 2, .tmp 3, .tmp 4, .tmp 5]) rfl (by simp) (.tmp (.tmp (.tmp (.tmp .nil))))) rfl ?_
                 exact ⟨_, _, _, by first | rfl | (simp [errW_none, errW_some] <;> rfl) | (simp only [← hji12]; first | rfl | (simp [errW_none, errW_some] <;> rfl)) | (simp [*, errW_none, errW_some] <;> rfl), mR HO_6.out, mR HO_7.out, Kd.Q_of_R (by refine mR ?_; exact Kd.R_mono HO184.out (fun _ hk => trivial)), (mH HB.out)⟩
                ·replace c45 := Bool.eq_false_iff.mpr c45
                 subst c45
                 have H1 := H
                 rw [if_neg (show ¬ (false = true) by decide)] at H1
                 clear H
                 have H := H1
                 clear H1
                 by_cases c48 : 0 ≤ x14_3
                 ·rw [if_pos c48] at H
                  have c48b0 := eq_true c48
                  have c48b1 := decide_eq_true c48
                  clear c48
                  by_cases c49 : x14_3 ≤ (t153.length : Int)
                  ·rw [if_pos c49] at H
                   have c49b0 := eq_true c49
                   have c49b1 := decide_eq_true c49
                   clear c49
                   obtain ⟨y185, hy185⟩ : ∃ y_ : List Int, y_ = (t153.drop (x14_3 : Int).toNat) := ⟨_, rfl⟩
                   replace H : (some (x6_3, x7_3, y185, true)) = some (r1, r2, r3, r4) := by first | (rw [hy185]; with_reducible exact H) | (have H2_ := (Option.bind_some _ _).symm.trans H; rw [hy185]; with_reducible exact H2_) | (have H2_ := (Option.bind_some _ _).symm.trans H; with_reducible exact H2_) | with_reducible exact H | (rw [hy185]; exact H) | exact H
                   have Ny185 := mS hy185
                   clear hy185
                   simp only [Option.some.injEq, Prod.mk.injEq] at H
                   obtain ⟨rfl, rfl, rfl, rfl⟩ := H
                   have q50 : (x14_3 : Int) ≤ ((t153.length : Int) : Int) := mD
                   obtain ⟨i050, hi050, _, hsz50, _⟩ := info_parts info5
                   have hcut50 := cut_from (P := Try.prog) 22 5 .i64 Try.underlying22 hi050 1 hsz50 Ao24 t153.length co24 x14_3 (mD) q50
                   have hr50 := Kd.Q_drop (k := (x14_3 : Int).toNat) (Kd.Q_of_R HO_10.out) (by omega)
                   obtain ⟨A50, hA50⟩ : ∃ A1, A1 = (if co24 = (x14_3 : Int).toNat then Ao24 else (Ao24 : Option Addr).map (·.add ((x14_3 : Int).toNat * 1))) := ⟨_, rfl⟩
                   obtain ⟨c50, hc50⟩ : ∃ c1, c1 = co24 - (x14_3 : Int).toNat := ⟨_, rfl⟩
                   have hy50 : y185.length = t153.length - (x14_3 : Int).toNat := (by rw [Ny185.out, List.length_drop])
                   rw [← Ny185.out] at hr50
                   rw [← hy50, ← hA50, ← hc50] at hcut50
                   replace hr50 : Kd.Q (Kd.int .u8) 5 wc w.heap.size (fun _ => True) (.slice A50 y185.length c50) y185 := (by rw [hA50, hc50, hy50]; exact hr50)
                   have HE50 : Aside0 ((Value.slice A50 y185.length c50).ownBlock = (.slice Ao24 t153.length co24 : Value).ownBlock) := ⟨by rw [hA50]; split <;> (cases (Ao24 : Option Addr) <;> first | rfl | (simp only [Option.map_some, Value.ownBlock]; unfold Addr.add; split <;> rfl))⟩
                   clear hy50 hi050 hsz50 HO_10 hA50 hc50
                   have HO187 := mS hr50
                   clear hr50
                   replace q50 := eq_true q50
                   go_wp2
                   repeat (go_quiet (fail); try go_wp2)
                   refine bodyPost_ret (results_list (rs := [.tmp 2, .tmp 3, .tmp 4, .tmp 5]) rfl (by simp) (.tmp (.tmp (.tmp (.tmp .nil))))) rfl ?_
                   exact ⟨_, _, _, by first | rfl | (simp [errW_none, errW_some] <;> rfl) | (simp only [← hji12]; first | rfl | (simp [errW_none, errW_some] <;> rfl)) | (simp [*, errW_none, errW_some] <;> rfl), mR HO_6.out, mR HO_7.out, mQd HO187.out, (mH HB.out)⟩
                  ·rw [if_neg c49] at H
                   exact absurd H (by simp)
                 ·rw [if_neg c48] at H
                  exact absurd H (by simp)
     ·rw [if_neg c14] at H
      exact absurd H (by simp)
    ·rw [if_neg c13] at H
     exact absurd H (by simp)

end Go.Proofs.Ytecjamgajlpfdaa.MFnExactTablePairs
