-- Written by mp.py, this session's own printer (wip/mp.py).
import Derived.Test.YtbepbgfkajnlbaaVMShort
import Derived.Test.YtbepbgfkajnlbaaMFnMemx0
import Derived.Test.YtbepbgfkajnlbaaMFnMemx2
import Derived.Test.YtbepbgfkajnlbaaMFnMemx3
import Derived.Test.YtbepbgfkajnlbaaMFnMemx8
namespace Go.Proofs.Ytbepbgfkajnlbaa.MFnMem
open Go.RowKit Go.Proofs.YtbepbgfkajnlbaaW.PrintWords Go.Proofs.YtbepbgfkajnlbaaW.PrintLast Go.Proofs.YtbepbgfkajnlbaaW.PrintMore Go.Proofs.Ytbepbgfkajnlbaa.MWords
attribute [local go_sem] max2_int min2_int max_two min_two max_three min_three max_four min_four   -- for this text's walks alone
set_option linter.unusedVariables false
set_option linter.unusedSimpArgs false

/-! ### impl_MemPut: function 20 -/
mutual
def impl_MemPut.j0 : Nat → Int → Bool → List (S35) → ByteArray → ByteArray → Bool → List (S35) → Option ((List (S35)) × Bool)
 | 0, _, _, _, _, _, _, _ => none
 | k + 1, x2, x24, x296000, x297000, x297001, x297002, x302000 => if x24 = true then (some (x302000, false)) else (impl_MemPut.l0 k x2 0 x296000 x297000 x297001 x297002 x302000)
def impl_MemPut.l0 : Nat → Int → Int → List (S35) → ByteArray → ByteArray → Bool → List (S35) → Option ((List (S35)) × Bool)
 | 0, _, _, _, _, _, _, _ => none
 | k + 1, x2, x9, x296000, x297000, x297001, x297002, x302000 => if x9 < (x296000.length : Int) then (if 0 ≤ x9 then (impl_MemPut.j2 k x2 x9 (Op.bytesLess (((rd_T35 x296000 x9).f0.f0).toList) x297000.toList) x296000 x297000 x297001 x297002 x302000) else (none)) else (impl_MemPut.j2 k x2 x9 false x296000 x297000 x297001 x297002 x302000)
def impl_MemPut.j2 : Nat → Int → Int → Bool → List (S35) → ByteArray → ByteArray → Bool → List (S35) → Option ((List (S35)) × Bool)
 | 0, _, _, _, _, _, _, _, _ => none
 | k + 1, x2, x9, x42, x296000, x297000, x297001, x297002, x302000 => if x42 = true then (impl_MemPut.l0 k x2 (wrap64 (x9 + 1)) x296000 x297000 x297001 x297002 x302000) else (if x9 < (x296000.length : Int) then (if 0 ≤ x9 then (impl_MemPut.j3 k x2 x9 (((rd_T35 x296000 x9).f0.f0).toList == x297000.toList) x296000 x297000 x297001 x297002 x302000) else (none)) else (impl_MemPut.j3 k x2 x9 false x296000 x297000 x297001 x297002 x302000))
def impl_MemPut.j3 : Nat → Int → Int → Bool → List (S35) → ByteArray → ByteArray → Bool → List (S35) → Option ((List (S35)) × Bool)
 | 0, _, _, _, _, _, _, _, _ => none
 | k + 1, x2, x9, x61, x296000, x297000, x297001, x297002, x302000 => if x61 = true then (if 0 ≤ x9 then (if x9 < (x302000.length : Int) then (some ((x302000.set (x9 : Int).toNat (⟨(⟨x297000, x297001, x297002⟩ : S33), (rd_T35 x302000 x9).f1⟩ : S35)), true)) else (none)) else (none)) else (if (x296000.length : Int) ≥ 60 then (some (x302000, false)) else (if 0 ≤ x9 then (if x9 ≤ (x296000.length : Int) then ((some (x296000.take (x9 : Int).toNat : List (S35))).bind fun y308 => (if ([] : List (S35)).length + y308.length < 2932031007402 then ((some (([] : List (S35)) ++ y308 : List (S35))).bind fun y312 => ((some (([(⟨(⟨x297000, x297001, x297002⟩ : S33), x2⟩ : S35)] : List (S35)) : List (S35))).bind fun y315 => (if y312.length + y315.length < 2932031007402 then ((some (y312 ++ y315 : List (S35))).bind fun y318 => ((some (x296000.drop (x9 : Int).toNat : List (S35))).bind fun y321 => (if y318.length + y321.length < 2932031007402 then (some ((y318 ++ y321), true)) else (none)))) else (none)))) else (none))) else (none)) else (none)))
end
def impl_MemPut.f (k : Nat) (l0_0 : List (S35)) (a1_0 : ByteArray) (a1_1 : ByteArray) (a1_2 : Bool) (a2 : Int) : Option ((List (S35)) × Bool) := (impl_copyMem.f l0_0).bind fun t298 => ((impl_MemOk.f k l0_0).bind fun t302 => (if t302 = true then ((impl_PairOk.f a1_0 a1_1 a1_2).bind fun t303 => (if t303 = true then ((impl_in.f a2 1 4).bind fun t304 => (impl_MemPut.j0 k a2 (!t304) l0_0 a1_0 a1_1 a1_2 t298)) else (impl_MemPut.j0 k a2 true l0_0 a1_0 a1_1 a1_2 t298))) else (impl_MemPut.j0 k a2 true l0_0 a1_0 a1_1 a1_2 t298)))
theorem impl_MemPut.mono_l : ∀ k, (∀ y0 y1 y2 y3 y4 y5 y6, LeO (impl_MemPut.j0 k y0 y1 y2 y3 y4 y5 y6) (impl_MemPut.j0 (k + 1) y0 y1 y2 y3 y4 y5 y6)) ∧ (∀ y0 y1 y2 y3 y4 y5 y6, LeO (impl_MemPut.l0 k y0 y1 y2 y3 y4 y5 y6) (impl_MemPut.l0 (k + 1) y0 y1 y2 y3 y4 y5 y6)) ∧ (∀ y0 y1 y2 y3 y4 y5 y6 y7, LeO (impl_MemPut.j2 k y0 y1 y2 y3 y4 y5 y6 y7) (impl_MemPut.j2 (k + 1) y0 y1 y2 y3 y4 y5 y6 y7)) ∧ (∀ y0 y1 y2 y3 y4 y5 y6 y7, LeO (impl_MemPut.j3 k y0 y1 y2 y3 y4 y5 y6 y7) (impl_MemPut.j3 (k + 1) y0 y1 y2 y3 y4 y5 y6 y7))
 | 0 => ⟨fun _ _ _ _ _ _ _ r h => by simp [impl_MemPut.j0] at h, fun _ _ _ _ _ _ _ r h => by simp [impl_MemPut.l0] at h, fun _ _ _ _ _ _ _ _ r h => by simp [impl_MemPut.j2] at h, fun _ _ _ _ _ _ _ _ r h => by simp [impl_MemPut.j3] at h⟩
 | k + 1 => by
  obtain ⟨ih0, ih1, ih2, ih3⟩ := impl_MemPut.mono_l k
  refine ⟨?_, ?_, ?_, ?_⟩
  ·intro y0 y1 y2 y3 y4 y5 y6
   unfold impl_MemPut.j0
   repeat' first
   | (with_reducible exact ih0 _ _ _ _ _ _ _)
   | (with_reducible exact ih1 _ _ _ _ _ _ _)
   | (with_reducible exact ih2 _ _ _ _ _ _ _ _)
   | (with_reducible exact ih3 _ _ _ _ _ _ _ _)
   | (with_reducible exact impl_MemOk.mono _ _)
   | (with_reducible exact LeO.refl _)
   | (with_reducible exact LeO.none _)
   | (with_reducible refine LeO.ite ?_ ?_)
   | (with_reducible refine LeO.bind ?_ (fun _ => ?_))
   | exact ih0 _ _ _ _ _ _ _
   | exact ih1 _ _ _ _ _ _ _
   | exact ih2 _ _ _ _ _ _ _ _
   | exact ih3 _ _ _ _ _ _ _ _
   | exact impl_MemOk.mono _ _
   | exact LeO.none _
   | refine LeO.ite ?_ ?_
   | refine LeO.bind ?_ (fun _ => ?_)
  ·intro y0 y1 y2 y3 y4 y5 y6
   unfold impl_MemPut.l0
   repeat' first
   | (with_reducible exact ih0 _ _ _ _ _ _ _)
   | (with_reducible exact ih1 _ _ _ _ _ _ _)
   | (with_reducible exact ih2 _ _ _ _ _ _ _ _)
   | (with_reducible exact ih3 _ _ _ _ _ _ _ _)
   | (with_reducible exact impl_MemOk.mono _ _)
   | (with_reducible exact LeO.refl _)
   | (with_reducible exact LeO.none _)
   | (with_reducible refine LeO.ite ?_ ?_)
   | (with_reducible refine LeO.bind ?_ (fun _ => ?_))
   | exact ih0 _ _ _ _ _ _ _
   | exact ih1 _ _ _ _ _ _ _
   | exact ih2 _ _ _ _ _ _ _ _
   | exact ih3 _ _ _ _ _ _ _ _
   | exact impl_MemOk.mono _ _
   | exact LeO.none _
   | refine LeO.ite ?_ ?_
   | refine LeO.bind ?_ (fun _ => ?_)
  ·intro y0 y1 y2 y3 y4 y5 y6 y7
   unfold impl_MemPut.j2
   repeat' first
   | (with_reducible exact ih0 _ _ _ _ _ _ _)
   | (with_reducible exact ih1 _ _ _ _ _ _ _)
   | (with_reducible exact ih2 _ _ _ _ _ _ _ _)
   | (with_reducible exact ih3 _ _ _ _ _ _ _ _)
   | (with_reducible exact impl_MemOk.mono _ _)
   | (with_reducible exact LeO.refl _)
   | (with_reducible exact LeO.none _)
   | (with_reducible refine LeO.ite ?_ ?_)
   | (with_reducible refine LeO.bind ?_ (fun _ => ?_))
   | exact ih0 _ _ _ _ _ _ _
   | exact ih1 _ _ _ _ _ _ _
   | exact ih2 _ _ _ _ _ _ _ _
   | exact ih3 _ _ _ _ _ _ _ _
   | exact impl_MemOk.mono _ _
   | exact LeO.none _
   | refine LeO.ite ?_ ?_
   | refine LeO.bind ?_ (fun _ => ?_)
  ·intro y0 y1 y2 y3 y4 y5 y6 y7
   unfold impl_MemPut.j3
   repeat' first
   | (with_reducible exact ih0 _ _ _ _ _ _ _)
   | (with_reducible exact ih1 _ _ _ _ _ _ _)
   | (with_reducible exact ih2 _ _ _ _ _ _ _ _)
   | (with_reducible exact ih3 _ _ _ _ _ _ _ _)
   | (with_reducible exact impl_MemOk.mono _ _)
   | (with_reducible exact LeO.refl _)
   | (with_reducible exact LeO.none _)
   | (with_reducible refine LeO.ite ?_ ?_)
   | (with_reducible refine LeO.bind ?_ (fun _ => ?_))
   | exact ih0 _ _ _ _ _ _ _
   | exact ih1 _ _ _ _ _ _ _
   | exact ih2 _ _ _ _ _ _ _ _
   | exact ih3 _ _ _ _ _ _ _ _
   | exact impl_MemOk.mono _ _
   | exact LeO.none _
   | refine LeO.ite ?_ ?_
   | refine LeO.bind ?_ (fun _ => ?_)
theorem impl_MemPut.mono : ∀ a0 a1 a2 a3 a4 k, LeO (impl_MemPut.f k a0 a1 a2 a3 a4) (impl_MemPut.f (k + 1) a0 a1 a2 a3 a4) := by
 intro a0 a1 a2 a3 a4 k
 obtain ⟨ih0, ih1, ih2, ih3⟩ := impl_MemPut.mono_l k
 unfold impl_MemPut.f
 repeat' first
   | (with_reducible exact ih0 _ _ _ _ _ _ _)
   | (with_reducible exact ih1 _ _ _ _ _ _ _)
   | (with_reducible exact ih2 _ _ _ _ _ _ _ _)
   | (with_reducible exact ih3 _ _ _ _ _ _ _ _)
   | (with_reducible exact impl_MemOk.mono _ _)
   | (with_reducible exact LeO.refl _)
   | (with_reducible exact LeO.none _)
   | (with_reducible refine LeO.ite ?_ ?_)
   | (with_reducible refine LeO.bind ?_ (fun _ => ?_))
   | exact ih0 _ _ _ _ _ _ _
   | exact ih1 _ _ _ _ _ _ _
   | exact ih2 _ _ _ _ _ _ _ _
   | exact ih3 _ _ _ _ _ _ _ _
   | exact impl_MemOk.mono _ _
   | exact LeO.none _
   | refine LeO.ite ?_ ?_
   | refine LeO.bind ?_ (fun _ => ?_)
def impl_MemPut.T5 : Bool × List (List Nat × List Nat) := (true, [([], []), ([], []), ([1], [1]), ([2], [2]), ([0, 3], [0, 3]), ([4], [4]), ([5], [5]), ([6, 5], [5, 6]), ([5], [5]), ([7, 8, 5], [5, 7, 8]), ([9, 5], [5, 9]), ([10, 5], [5, 10]), ([11, 5], [5, 11]), ([5], [5]), ([13, 5], [5, 13]), ([12, 14, 5], [5, 12, 14]), ([5, 15], [5, 15])])
def impl_MemPut.B5 : List Nat := [0, 0, 2, 6, 15, 31, 63, 127, 63, 511, 1023, 2047, 4095, 63, 8255, 32767, 65535]
theorem impl_MemPut.tab5 : rtab .any (opsOf Try.f20 5) = impl_MemPut.T5 := by kernel_rfl
theorem impl_MemPut.bits5 : waitsOk impl_MemPut.T5.2 impl_MemPut.B5 = true := by kernel_rfl
def impl_MemPut.T7 : Bool × List (List Nat × List Nat) := (true, [([], []), ([], []), ([1], [1]), ([2], [2]), ([0, 3], [0, 3]), ([4], [4]), ([5], [5]), ([6, 5], [5, 6]), ([5], [5]), ([7, 8, 5], [5, 7, 8]), ([9, 5], [5, 9]), ([10, 5], [5, 10]), ([11, 5], [5, 11]), ([5], [5]), ([13, 5], [5, 13]), ([12, 14, 5], [5, 12, 14]), ([5, 15], [5, 15])])
def impl_MemPut.B7 : List Nat := [0, 0, 2, 6, 15, 31, 63, 127, 63, 511, 1023, 2047, 4095, 63, 8255, 32767, 65535]
theorem impl_MemPut.tab7 : rtab .any (opsOf Try.f20 7) = impl_MemPut.T7 := by kernel_rfl
theorem impl_MemPut.bits7 : waitsOk impl_MemPut.T7.2 impl_MemPut.B7 = true := by kernel_rfl
def impl_MemPut.T12 : Bool × List (List Nat × List Nat) := (true, [([], []), ([0], [0]), ([], []), ([1, 2], [1, 2]), ([3], [3]), ([], []), ([], []), ([5, 6], [5, 6]), ([7], [7]), ([4, 8, 4], [4, 8]), ([], []), ([10], [10]), ([], []), ([11, 12], [11, 12]), ([9, 13, 9], [9, 13]), ([14], [14]), ([15, 14, 0, 1, 2, 3, 4, 5, 6, 7, 8, 9, 10, 11, 12, 13, 14, 15], [15]), ([16, 0, 1, 2, 3, 4, 5, 6, 7, 8, 9, 10, 11, 12, 13, 14, 15, 16], [])])
def impl_MemPut.B12 : List Nat := [0, 1, 0, 7, 15, 0, 0, 96, 224, 511, 0, 1024, 0, 7168, 16383, 32767, 65535, 131071]
theorem impl_MemPut.tab12 : rtab .any (opsOf Try.f20 12) = impl_MemPut.T12 := by kernel_rfl
theorem impl_MemPut.bits12 : waitsOk impl_MemPut.T12.2 impl_MemPut.B12 = true := by kernel_rfl
set_option maxHeartbeats 8000000 in
set_option maxRecDepth 100000 in
theorem impl_MemPut.calls (k : Nat) (A0_0 : Option Addr) (c0_0 : Nat) (l0_0 : List (S35)) (a1_0 : ByteArray) (a1_1 : ByteArray) (a1_2 : Bool) (a2 : Int) (r1 : List (S35)) (r2 : Bool) (w : World) (hr0_0 : Kd.C k35 w A0_0 l0_0.length l0_0) (hc0_0 : l0_0.length ≤ c0_0) (h : impl_MemPut.f k l0_0 a1_0 a1_1 a1_2 a2 = some (r1, r2)) :
  Calls Try.prog 20 #[.agg #[.slice A0_0 l0_0.length c0_0], .agg #[.string a1_0, .string a1_1, .bool a1_2], .int .i64 a2] w fun e w' => ∃ v0_ : Value, e = .returned (.tuple #[.agg #[v0_], .bool r2]) ∧ Kd.R k35 35 w' w.heap.size (fun _ => True) v0_ r1 ∧ Below w.heap.size w w' := by
 have hu26 := Try.underlying26
 have hu33 := Try.underlying33
 have hu35 := Try.underlying35
 have HR0_0 := mS hr0_0
 have HC0_0 := mS hc0_0
 clear hr0_0 hc0_0
 have HB := mS (Below.refl w.heap.size w)
 have H : ((impl_copyMem.f l0_0).bind fun t298 => ((impl_MemOk.f k l0_0).bind fun t302 => (if t302 = true then ((impl_PairOk.f a1_0 a1_1 a1_2).bind fun t303 => (if t303 = true then ((impl_in.f a2 1 4).bind fun t304 => (impl_MemPut.j0 k a2 (!t304) l0_0 a1_0 a1_1 a1_2 t298)) else (impl_MemPut.j0 k a2 true l0_0 a1_0 a1_1 a1_2 t298))) else (impl_MemPut.j0 k a2 true l0_0 a1_0 a1_1 a1_2 t298)))) = some (r1, r2) := h
 clear h
 replace H := Option.bind_eq_some_iff.mp H
 obtain ⟨t298, A40, H⟩ := H
 replace H : ((impl_MemOk.f k l0_0).bind fun t302 => (if t302 = true then ((impl_PairOk.f a1_0 a1_1 a1_2).bind fun t303 => (if t303 = true then ((impl_in.f a2 1 4).bind fun t304 => (impl_MemPut.j0 k a2 (!t304) l0_0 a1_0 a1_1 a1_2 t298)) else (impl_MemPut.j0 k a2 true l0_0 a1_0 a1_1 a1_2 t298))) else (impl_MemPut.j0 k a2 true l0_0 a1_0 a1_1 a1_2 t298))) = some (r1, r2) := H
 have A4 := mS A40
 clear A40
 have HC5 := mS H
 clear H
 go_enter Try.func20, Try.ntmps20
 go_upto_region 2 with (first | ((with_reducible refine gate_dst (N := 3) rfl ?_); refine box_event ?hg (N := 3) ?hd (cs := #[.slice A0_0 l0_0.length c0_0]) (t := 26) ?hr ?_; (case hd => rfl); (case hg => rfl); (case hr => first | (go_simp; done) | (go_simp; rfl)); intro gb295 hg w6 hbox hb; have BK295 := mS (hbox); have GW295 := mG hg (mH HB.out); have GE295 := mG hg (mH HB.out); replace HB := mS (below_step (mH HB.out) hb); clear hb hbox hg) | ((with_reducible refine gate_dst (N := 4) rfl ?_); refine box_event ?hg (N := 4) ?hd (cs := #[.string a1_0, .string a1_1, .bool a1_2]) (t := 33) ?hr ?_; (case hd => rfl); (case hg => rfl); (case hr => first | (go_simp; done) | (go_simp; rfl)); intro gb296 hg w7 hbox hb; have BK296 := mS (hbox); have GW296 := mG hg (mH1 HB.out GE295.out); have GE296 := mG hg (mH1 HB.out GE295.out); replace HB := mS (below_step (mH1 HB.out GE295.out) hb); have NB295_296 := mNl hg BK295.out; have NB296_295 := mNg hg BK295.out; replace BK295 := mB BK295 hb; clear hb hbox hg) | ((with_reducible refine gate_dst (N := 6) rfl ?_); refine box_event ?hg (N := 6) ?hd (cs := #[.slice none 0 0]) (t := 26) ?hr ?_; (case hd => rfl); (case hg => rfl); (case hr => first | (go_simp; done) | (go_simp; rfl)); intro gb297 hg w8 hbox hb; have BK297 := mS (hbox); have GW297 := mG hg (mH2 HB.out GE295.out GE296.out); have GE297 := mG hg (mH2 HB.out GE295.out GE296.out); replace HB := mS (below_step (mH2 HB.out GE295.out GE296.out) hb); have NB295_297 := mNl hg BK295.out; have NB297_295 := mNg hg BK295.out; replace BK295 := mB BK295 hb; have NB296_297 := mNl hg BK296.out; have NB297_296 := mNg hg BK296.out; replace BK296 := mB BK296 hb; clear hb hbox hg; have hnb9 := NB295_296.out; have hnc9 := NB296_295.out; have hnb10 := NB295_297.out; have hnc10 := NB297_295.out; have hcz11_0 := mZ BK295.out 0; have hfz11_0 := blk_frozen BK295.out 0) | ((with_reducible refine gate_callee (f := 85) rfl ?_); refine goesL_ (some 11) rfl rfl Try.func85 (by kernel_rfl) rfl #[.agg #[.slice A0_0 l0_0.length c0_0]] rfl mA ?_; (with_reducible refine (impl_copyMem.calls _ _ l0_0 t298 _ ?side1 ?side2 A4.out).mono ?_); (case side1 => repeat (first | exact (Kd.C_below HR0_0.out HB.out) | (with_reducible refine Kd.C_alloc ?_ _) | (with_reducible refine Kd.C_drewN ?_ _) | (with_reducible refine Kd.C_drew ?_))); (case side2 => exact HC0_0.out); rintro e w12 ⟨v299, rfl, ho0, hb⟩; refine ⟨_, rfl, ?_⟩; have HO300 := mS (Kd.R_lower ho0 (below_size (mH3 HB.out GE295.out GE296.out GE297.out))); replace BK295 := mB BK295 hb; replace BK296 := mB BK296 hb; replace BK297 := mB BK297 hb; replace HB := mS (below_step (mH3 HB.out GE295.out GE296.out GE297.out) hb); (try clear hb); (try clear hb2); (try clear hk); (try clear hi); (try clear ho0)) | ((with_reducible refine gate_dst (N := 8) rfl ?_); refine box_event ?hg (N := 8) ?hd (cs := #[.slice none 0 0]) (t := 26) ?hr ?_; (case hd => rfl); (case hg => rfl); (case hr => first | (go_simp; done) | (go_simp; rfl)); intro gb301 hg w13 hbox hb; replace HO300 := mS (Kd.R_below (mR HO300.out) hb); have BK301 := mS (hbox); have GW301 := mG hg (mH3 HB.out GE295.out GE296.out GE297.out); have GE301 := mG hg (mH3 HB.out GE295.out GE296.out GE297.out); replace HB := mS (below_step (mH3 HB.out GE295.out GE296.out GE297.out) hb); have NB295_301 := mNl hg BK295.out; have NB301_295 := mNg hg BK295.out; replace BK295 := mB BK295 hb; have NB296_301 := mNl hg BK296.out; have NB301_296 := mNg hg BK296.out; replace BK296 := mB BK296 hb; have NB297_301 := mNl hg BK297.out; have NB301_297 := mNg hg BK297.out; replace BK297 := mB BK297 hb; clear hb hbox hg; obtain ⟨Ao14, co14, eo14⟩ := Kd.R_slice HO300.out; subst eo14; have hnb15 := NB301_295.out; have hnc15 := NB295_301.out; have hnb16 := NB301_296.out; have hnc16 := NB296_301.out; have hnb17 := NB301_297.out; have hnc17 := NB297_301.out; have hcz18_0 := mZ BK301.out 0; have hfz18_0 := blk_frozen BK301.out 0))
 (try simp only [Act.put, zA, zB, zC])
 go_cut [24] (fun v24 wc => ∃ (kq : Nat) (x24_4 : Bool), v24 = .bool x24_4 ∧ Aside0 (impl_MemPut.j0 kq a2 x24_4 l0_0 a1_0 a1_1 a1_2 t298 = some (r1, r2)) ∧ Aside0 (kq ≤ k) ∧ Aside0 (Kd.R k35 35 wc w.heap.size (fun _ => True) (.slice Ao14 t298.length co14) t298) ∧ Aside0 (wc.heap[gb295]? = some (.cells #[(.slice A0_0 l0_0.length c0_0)] 26 (0, 0))) ∧ Aside0 (wc.heap[gb296]? = some (.cells #[.string a1_0, .string a1_1, .bool a1_2] 33 (0, 0))) ∧ Aside0 (wc.heap[gb297]? = some (.cells #[(.slice none 0 0)] 26 (0, 0))) ∧ Aside0 (wc.heap[gb301]? = some (.cells #[(.slice Ao14 t298.length co14)] 26 (0, 0))) ∧ Aside0 (Below w.heap.size w wc))
 case first =>
  have H := HC5.out
  clear HC5
  replace H := Option.bind_eq_some_iff.mp H
  obtain ⟨t302, A190, H⟩ := H
  replace H : (if t302 = true then ((impl_PairOk.f a1_0 a1_1 a1_2).bind fun t303 => (if t303 = true then ((impl_in.f a2 1 4).bind fun t304 => (impl_MemPut.j0 k a2 (!t304) l0_0 a1_0 a1_1 a1_2 t298)) else (impl_MemPut.j0 k a2 true l0_0 a1_0 a1_1 a1_2 t298))) else (impl_MemPut.j0 k a2 true l0_0 a1_0 a1_1 a1_2 t298)) = some (r1, r2) := H
  have A19 := mS A190
  clear A190
  by_cases c20 : t302 = true
  ·subst c20
   have H1 : ((impl_PairOk.f a1_0 a1_1 a1_2).bind fun t303 => (if t303 = true then ((impl_in.f a2 1 4).bind fun t304 => (impl_MemPut.j0 k a2 (!t304) l0_0 a1_0 a1_1 a1_2 t298)) else (impl_MemPut.j0 k a2 true l0_0 a1_0 a1_1 a1_2 t298))) = some (r1, r2) := by rw [if_pos rfl] at H; exact H
   clear H
   have H := H1
   clear H1
   replace H := Option.bind_eq_some_iff.mp H
   obtain ⟨t303, A210, H⟩ := H
   replace H : (if t303 = true then ((impl_in.f a2 1 4).bind fun t304 => (impl_MemPut.j0 k a2 (!t304) l0_0 a1_0 a1_1 a1_2 t298)) else (impl_MemPut.j0 k a2 true l0_0 a1_0 a1_1 a1_2 t298)) = some (r1, r2) := H
   have A21 := mS A210
   clear A210
   by_cases c22 : t303 = true
   ·subst c22
    have H1 : ((impl_in.f a2 1 4).bind fun t304 => (impl_MemPut.j0 k a2 (!t304) l0_0 a1_0 a1_1 a1_2 t298)) = some (r1, r2) := by rw [if_pos rfl] at H; exact H
    clear H
    have H := H1
    clear H1
    replace H := Option.bind_eq_some_iff.mp H
    obtain ⟨t304, A230, H⟩ := H
    replace H : (impl_MemPut.j0 k a2 (!t304) l0_0 a1_0 a1_1 a1_2 t298) = some (r1, r2) := H
    have A23 := mS A230
    clear A230
    have H' := mS H
    clear H
    have hnb24 := NB295_296.out
    have hnc24 := NB296_295.out
    have hnb25 := NB295_297.out
    have hnc25 := NB297_295.out
    have hnb26 := NB295_301.out
    have hnc26 := NB301_295.out
    have hcz27_0 := mZ BK295.out 0
    have hfz27_0 := blk_frozen BK295.out 0
    go_wp2_with (first | ((with_reducible refine gate_callee (f := 18) rfl ?_); refine goesL_ (some 13) rfl rfl Try.func18 (by kernel_rfl) rfl #[.agg #[.slice A0_0 l0_0.length c0_0]] rfl mA ?_; (with_reducible refine (impl_MemOk.calls k _ _ l0_0 true _ ?side1 ?side2 A19.out).mono ?_); (case side1 => exact Kd.C_below HR0_0.out (mH4 HB.out GE295.out GE296.out GE297.out GE301.out)); (case side2 => exact HC0_0.out); rintro e w28 ⟨rfl, hb⟩; refine ⟨_, rfl, ?_⟩; replace HO300 := mS (Kd.R_below (by (with_reducible repeat (first | apply Kd.R_alloc | apply Kd.R_drewN | apply Kd.R_drew)); exact (Kd.R_mono (Kd.R_far (p := ⟨gb301, 0, none⟩) (Kd.R_types HO300.out BK301.out (by decide)) (fun _ hk => hk.2) (.slice Ao14 t298.length co14)) (fun _ h_ => h_.1))) hb); replace BK295 := mS (blk_below (g := gb295) (o := .cells #[.slice A0_0 l0_0.length c0_0] 26 (0, 0)) (by (with_reducible repeat (first | refine blk_drewN ?_ _ | refine blk_drew ?_ | refine blk_alloc ?_ _)); refine blk_far ?_ NB295_301.out _; (with_reducible repeat (first | refine blk_drewN ?_ _ | refine blk_drew ?_ | refine blk_alloc ?_ _)); exact BK295.out) hb); replace BK296 := mS (blk_below (g := gb296) (o := .cells #[.string a1_0, .string a1_1, .bool a1_2] 33 (0, 0)) (by (with_reducible repeat (first | refine blk_drewN ?_ _ | refine blk_drew ?_ | refine blk_alloc ?_ _)); refine blk_far ?_ NB296_301.out _; (with_reducible repeat (first | refine blk_drewN ?_ _ | refine blk_drew ?_ | refine blk_alloc ?_ _)); exact BK296.out) hb); replace BK297 := mS (blk_below (g := gb297) (o := .cells #[.slice none 0 0] 26 (0, 0)) (by (with_reducible repeat (first | refine blk_drewN ?_ _ | refine blk_drew ?_ | refine blk_alloc ?_ _)); refine blk_far ?_ NB297_301.out _; (with_reducible repeat (first | refine blk_drewN ?_ _ | refine blk_drew ?_ | refine blk_alloc ?_ _)); exact BK297.out) hb); replace BK301 := mS (blk_below (g := gb301) (o := .cells #[.slice Ao14 t298.length co14] 26 (0, 0)) (by (with_reducible repeat (first | refine blk_drewN ?_ _ | refine blk_drew ?_ | refine blk_alloc ?_ _)); refine blk_put (cs := #[.slice none 0 0]) ?_ 0 _ rfl; (with_reducible repeat (first | refine blk_drewN ?_ _ | refine blk_drew ?_ | refine blk_alloc ?_ _)); exact BK301.out) hb); replace HB := mS (below_step (mH4 HB.out GE295.out GE296.out GE297.out GE301.out) hb); (try clear hb); (try clear hb2); (try clear hk); (try clear hi); have hnb29 := NB296_297.out; have hnc29 := NB297_296.out; have hnb30 := NB296_301.out; have hnc30 := NB301_296.out; have hcz31_0 := mZ BK296.out 0; have hcz31_1 := mZ BK296.out 1; have hcz31_2 := mZ BK296.out 2; have hfz31_0 := blk_frozen BK296.out 0; have hfz31_1 := blk_frozen BK296.out 1; have hfz31_2 := blk_frozen BK296.out 2) | (go_at_call 23; (with_reducible refine (impl_PairOk.calls a1_0 a1_1 a1_2 true _ A21.out).mono ?_); rintro e w32 ⟨rfl, hb⟩; replace HO300 := mS (Kd.R_below (mR HO300.out) hb); replace BK295 := mB BK295 hb; replace BK296 := mB BK296 hb; replace BK297 := mB BK297 hb; replace BK301 := mB BK301 hb; replace HB := mS (below_step (mH4 HB.out GE295.out GE296.out GE297.out GE301.out) hb); (try clear hb); (try clear hb2); (try clear hk); (try clear hi)) | (go_at_call 77; (with_reducible refine (impl_in.calls a2 1 4 t304 _ A23.out).mono ?_); rintro e w' ⟨rfl, ⟨nd, rfl⟩⟩))
    go_meet
    case rel => exact ⟨_, (!t304), (by first | rfl | (simp; done) | (simp [*]; done)), H', ⟨by first | omega | exact Nat.le_refl _⟩, ⟨by (with_reducible repeat (first | apply Kd.R_alloc | apply Kd.R_drewN | apply Kd.R_drew)); exact HO300.out⟩, ⟨by (with_reducible repeat (first | refine blk_drewN ?_ _ | refine blk_drew ?_ | refine blk_alloc ?_ _)); exact BK295.out⟩, ⟨by (with_reducible repeat (first | refine blk_drewN ?_ _ | refine blk_drew ?_ | refine blk_alloc ?_ _)); exact BK296.out⟩, ⟨by (with_reducible repeat (first | refine blk_drewN ?_ _ | refine blk_drew ?_ | refine blk_alloc ?_ _)); exact BK297.out⟩, ⟨by (with_reducible repeat (first | refine blk_drewN ?_ _ | refine blk_drew ?_ | refine blk_alloc ?_ _)); exact BK301.out⟩, ⟨(mH4 HB.out GE295.out GE296.out GE297.out GE301.out)⟩⟩
   ·replace c22 := Bool.eq_false_iff.mpr c22
    subst c22
    have H1 : (impl_MemPut.j0 k a2 true l0_0 a1_0 a1_1 a1_2 t298) = some (r1, r2) := by rw [if_neg (show ¬ (false = true) by decide)] at H; exact H
    clear H
    have H := H1
    clear H1
    have H' := mS H
    clear H
    have hnb33 := NB295_296.out
    have hnc33 := NB296_295.out
    have hnb34 := NB295_297.out
    have hnc34 := NB297_295.out
    have hnb35 := NB295_301.out
    have hnc35 := NB301_295.out
    have hcz36_0 := mZ BK295.out 0
    have hfz36_0 := blk_frozen BK295.out 0
    go_wp2_with (first | ((with_reducible refine gate_callee (f := 18) rfl ?_); refine goesL_ (some 13) rfl rfl Try.func18 (by kernel_rfl) rfl #[.agg #[.slice A0_0 l0_0.length c0_0]] rfl mA ?_; (with_reducible refine (impl_MemOk.calls k _ _ l0_0 true _ ?side1 ?side2 A19.out).mono ?_); (case side1 => exact Kd.C_below HR0_0.out (mH4 HB.out GE295.out GE296.out GE297.out GE301.out)); (case side2 => exact HC0_0.out); rintro e w37 ⟨rfl, hb⟩; refine ⟨_, rfl, ?_⟩; replace HO300 := mS (Kd.R_below (by (with_reducible repeat (first | apply Kd.R_alloc | apply Kd.R_drewN | apply Kd.R_drew)); exact (Kd.R_mono (Kd.R_far (p := ⟨gb301, 0, none⟩) (Kd.R_types HO300.out BK301.out (by decide)) (fun _ hk => hk.2) (.slice Ao14 t298.length co14)) (fun _ h_ => h_.1))) hb); replace BK295 := mS (blk_below (g := gb295) (o := .cells #[.slice A0_0 l0_0.length c0_0] 26 (0, 0)) (by (with_reducible repeat (first | refine blk_drewN ?_ _ | refine blk_drew ?_ | refine blk_alloc ?_ _)); refine blk_far ?_ NB295_301.out _; (with_reducible repeat (first | refine blk_drewN ?_ _ | refine blk_drew ?_ | refine blk_alloc ?_ _)); exact BK295.out) hb); replace BK296 := mS (blk_below (g := gb296) (o := .cells #[.string a1_0, .string a1_1, .bool a1_2] 33 (0, 0)) (by (with_reducible repeat (first | refine blk_drewN ?_ _ | refine blk_drew ?_ | refine blk_alloc ?_ _)); refine blk_far ?_ NB296_301.out _; (with_reducible repeat (first | refine blk_drewN ?_ _ | refine blk_drew ?_ | refine blk_alloc ?_ _)); exact BK296.out) hb); replace BK297 := mS (blk_below (g := gb297) (o := .cells #[.slice none 0 0] 26 (0, 0)) (by (with_reducible repeat (first | refine blk_drewN ?_ _ | refine blk_drew ?_ | refine blk_alloc ?_ _)); refine blk_far ?_ NB297_301.out _; (with_reducible repeat (first | refine blk_drewN ?_ _ | refine blk_drew ?_ | refine blk_alloc ?_ _)); exact BK297.out) hb); replace BK301 := mS (blk_below (g := gb301) (o := .cells #[.slice Ao14 t298.length co14] 26 (0, 0)) (by (with_reducible repeat (first | refine blk_drewN ?_ _ | refine blk_drew ?_ | refine blk_alloc ?_ _)); refine blk_put (cs := #[.slice none 0 0]) ?_ 0 _ rfl; (with_reducible repeat (first | refine blk_drewN ?_ _ | refine blk_drew ?_ | refine blk_alloc ?_ _)); exact BK301.out) hb); replace HB := mS (below_step (mH4 HB.out GE295.out GE296.out GE297.out GE301.out) hb); (try clear hb); (try clear hb2); (try clear hk); (try clear hi); have hnb38 := NB296_297.out; have hnc38 := NB297_296.out; have hnb39 := NB296_301.out; have hnc39 := NB301_296.out; have hcz40_0 := mZ BK296.out 0; have hcz40_1 := mZ BK296.out 1; have hcz40_2 := mZ BK296.out 2; have hfz40_0 := blk_frozen BK296.out 0; have hfz40_1 := blk_frozen BK296.out 1; have hfz40_2 := blk_frozen BK296.out 2) | (go_at_call 23; (with_reducible refine (impl_PairOk.calls a1_0 a1_1 a1_2 false _ A21.out).mono ?_); rintro e w41 ⟨rfl, hb⟩; replace HO300 := mS (Kd.R_below (mR HO300.out) hb); replace BK295 := mB BK295 hb; replace BK296 := mB BK296 hb; replace BK297 := mB BK297 hb; replace BK301 := mB BK301 hb; replace HB := mS (below_step (mH4 HB.out GE295.out GE296.out GE297.out GE301.out) hb); (try clear hb); (try clear hb2); (try clear hk); (try clear hi)))
    go_meet
    case rel => exact ⟨_, (true), (by first | rfl | (simp; done) | (simp [*]; done)), H', ⟨by first | omega | exact Nat.le_refl _⟩, ⟨by (with_reducible repeat (first | apply Kd.R_alloc | apply Kd.R_drewN | apply Kd.R_drew)); exact HO300.out⟩, ⟨by (with_reducible repeat (first | refine blk_drewN ?_ _ | refine blk_drew ?_ | refine blk_alloc ?_ _)); exact BK295.out⟩, ⟨by (with_reducible repeat (first | refine blk_drewN ?_ _ | refine blk_drew ?_ | refine blk_alloc ?_ _)); exact BK296.out⟩, ⟨by (with_reducible repeat (first | refine blk_drewN ?_ _ | refine blk_drew ?_ | refine blk_alloc ?_ _)); exact BK297.out⟩, ⟨by (with_reducible repeat (first | refine blk_drewN ?_ _ | refine blk_drew ?_ | refine blk_alloc ?_ _)); exact BK301.out⟩, ⟨(mH4 HB.out GE295.out GE296.out GE297.out GE301.out)⟩⟩
  ·replace c20 := Bool.eq_false_iff.mpr c20
   subst c20
   have H1 : (impl_MemPut.j0 k a2 true l0_0 a1_0 a1_1 a1_2 t298) = some (r1, r2) := by rw [if_neg (show ¬ (false = true) by decide)] at H; exact H
   clear H
   have H := H1
   clear H1
   have H' := mS H
   clear H
   have hnb42 := NB295_296.out
   have hnc42 := NB296_295.out
   have hnb43 := NB295_297.out
   have hnc43 := NB297_295.out
   have hnb44 := NB295_301.out
   have hnc44 := NB301_295.out
   have hcz45_0 := mZ BK295.out 0
   have hfz45_0 := blk_frozen BK295.out 0
   go_wp2_with (first | ((with_reducible refine gate_callee (f := 18) rfl ?_); refine goesL_ (some 13) rfl rfl Try.func18 (by kernel_rfl) rfl #[.agg #[.slice A0_0 l0_0.length c0_0]] rfl mA ?_; (with_reducible refine (impl_MemOk.calls k _ _ l0_0 false _ ?side1 ?side2 A19.out).mono ?_); (case side1 => exact Kd.C_below HR0_0.out (mH4 HB.out GE295.out GE296.out GE297.out GE301.out)); (case side2 => exact HC0_0.out); rintro e w46 ⟨rfl, hb⟩; refine ⟨_, rfl, ?_⟩; replace HO300 := mS (Kd.R_below (by (with_reducible repeat (first | apply Kd.R_alloc | apply Kd.R_drewN | apply Kd.R_drew)); exact (Kd.R_mono (Kd.R_far (p := ⟨gb301, 0, none⟩) (Kd.R_types HO300.out BK301.out (by decide)) (fun _ hk => hk.2) (.slice Ao14 t298.length co14)) (fun _ h_ => h_.1))) hb); replace BK295 := mS (blk_below (g := gb295) (o := .cells #[.slice A0_0 l0_0.length c0_0] 26 (0, 0)) (by (with_reducible repeat (first | refine blk_drewN ?_ _ | refine blk_drew ?_ | refine blk_alloc ?_ _)); refine blk_far ?_ NB295_301.out _; (with_reducible repeat (first | refine blk_drewN ?_ _ | refine blk_drew ?_ | refine blk_alloc ?_ _)); exact BK295.out) hb); replace BK296 := mS (blk_below (g := gb296) (o := .cells #[.string a1_0, .string a1_1, .bool a1_2] 33 (0, 0)) (by (with_reducible repeat (first | refine blk_drewN ?_ _ | refine blk_drew ?_ | refine blk_alloc ?_ _)); refine blk_far ?_ NB296_301.out _; (with_reducible repeat (first | refine blk_drewN ?_ _ | refine blk_drew ?_ | refine blk_alloc ?_ _)); exact BK296.out) hb); replace BK297 := mS (blk_below (g := gb297) (o := .cells #[.slice none 0 0] 26 (0, 0)) (by (with_reducible repeat (first | refine blk_drewN ?_ _ | refine blk_drew ?_ | refine blk_alloc ?_ _)); refine blk_far ?_ NB297_301.out _; (with_reducible repeat (first | refine blk_drewN ?_ _ | refine blk_drew ?_ | refine blk_alloc ?_ _)); exact BK297.out) hb); replace BK301 := mS (blk_below (g := gb301) (o := .cells #[.slice Ao14 t298.length co14] 26 (0, 0)) (by (with_reducible repeat (first | refine blk_drewN ?_ _ | refine blk_drew ?_ | refine blk_alloc ?_ _)); refine blk_put (cs := #[.slice none 0 0]) ?_ 0 _ rfl; (with_reducible repeat (first | refine blk_drewN ?_ _ | refine blk_drew ?_ | refine blk_alloc ?_ _)); exact BK301.out) hb); replace HB := mS (below_step (mH4 HB.out GE295.out GE296.out GE297.out GE301.out) hb); (try clear hb); (try clear hb2); (try clear hk); (try clear hi)))
   go_meet
   case rel => exact ⟨_, (true), (by first | rfl | (simp; done) | (simp [*]; done)), H', ⟨by first | omega | exact Nat.le_refl _⟩, ⟨by (with_reducible repeat (first | apply Kd.R_alloc | apply Kd.R_drewN | apply Kd.R_drew)); exact HO300.out⟩, ⟨by (with_reducible repeat (first | refine blk_drewN ?_ _ | refine blk_drew ?_ | refine blk_alloc ?_ _)); exact BK295.out⟩, ⟨by (with_reducible repeat (first | refine blk_drewN ?_ _ | refine blk_drew ?_ | refine blk_alloc ?_ _)); exact BK296.out⟩, ⟨by (with_reducible repeat (first | refine blk_drewN ?_ _ | refine blk_drew ?_ | refine blk_alloc ?_ _)); exact BK297.out⟩, ⟨by (with_reducible repeat (first | refine blk_drewN ?_ _ | refine blk_drew ?_ | refine blk_alloc ?_ _)); exact BK301.out⟩, ⟨(mH4 HB.out GE295.out GE296.out GE297.out GE301.out)⟩⟩
 case rest =>
  clear HC5
  try clear c1
  try clear c2
  try clear p2
  try clear c3
  try clear c4
  try clear c8
  try clear c9
  try clear c10
  try clear c15
  try clear c16
  try clear c17
  try clear c18
  try clear c20
  try clear c22
  try clear c24
  try clear c25
  try clear c26
  try clear c29
  try clear c30
  try clear c33
  try clear c34
  try clear c35
  try clear c38
  try clear c39
  try clear c42
  try clear c43
  try clear c44
  try clear hcz11_0
  try clear hcz18_0
  try clear hcz27_0
  try clear hcz31_0
  try clear hcz31_1
  try clear hcz31_2
  try clear hcz36_0
  try clear hcz40_0
  try clear hcz40_1
  try clear hcz40_2
  try clear hcz45_0
  try clear hfz11_0
  try clear hfz18_0
  try clear hfz27_0
  try clear hfz31_0
  try clear hfz31_1
  try clear hfz31_2
  try clear hfz36_0
  try clear hfz40_0
  try clear hfz40_1
  try clear hfz40_2
  try clear hfz45_0
  obtain ⟨kq, x24_4, rfl, HA, HJ4, HO_302000, BK295, BK296, BK297, BK301, HB⟩ := hcut
  cases kq with
  | zero => exact absurd HA.out (by simp [impl_MemPut.j0])
  | succ kj4 =>
   have H := HA.out
   clear HA
   simp only [impl_MemPut.j0] at H
   by_cases c47 : x24_4 = true
   ·subst c47
    have H1 : (some (t298, false)) = some (r1, r2) := by rw [if_pos rfl] at H; exact H
    clear H
    have H := H1
    clear H1
    simp only [Option.some.injEq, Prod.mk.injEq] at H
    obtain ⟨rfl, rfl⟩ := H
    have hnb48 := NB301_295.out
    have hnc48 := NB295_301.out
    have hnb49 := NB301_296.out
    have hnc49 := NB296_301.out
    have hnb50 := NB301_297.out
    have hnc50 := NB297_301.out
    have hcz51_0 := mZ BK301.out 0
    have hfz51_0 := blk_frozen BK301.out 0
    have hnb52 := NB297_295.out
    have hnc52 := NB295_297.out
    have hnb53 := NB297_296.out
    have hnc53 := NB296_297.out
    have hcz54_0 := mZ BK297.out 0
    have hfz54_0 := blk_frozen BK297.out 0
    go_wp2
    refine bodyPost_ret (results_ct rfl _ _ gb297 26 #[.slice Ao14 t298.length co14] (0, 0) _ rfl (by (with_reducible repeat (first | refine blk_drewN ?_ _ | refine blk_drew ?_ | refine blk_alloc ?_ _)); refine blk_put (cs := #[.slice none 0 0]) ?_ 0 _ rfl; (with_reducible repeat (first | refine blk_drewN ?_ _ | refine blk_drew ?_ | refine blk_alloc ?_ _)); exact BK297.out) Try.underlying26 rfl (by kernel_rfl)) rfl ?_
    exact ⟨_, by first | rfl | (simp [errW_none, errW_some] <;> rfl) | (simp [*, errW_none, errW_some] <;> rfl), by (with_reducible repeat (first | apply Kd.R_alloc | apply Kd.R_drewN | apply Kd.R_drew)); exact Kd.R_mono (Kd.R_far (p := ⟨gb297, 0, none⟩) (Kd.R_types HO_302000.out BK297.out (by decide)) (fun _ hk => hk.2) (.slice Ao14 t298.length co14)) (fun _ hk => trivial), (mH4 HB.out GE295.out GE296.out GE297.out GE301.out)⟩
   ·replace c47 := Bool.eq_false_iff.mpr c47
    subst c47
    have H1 : (impl_MemPut.l0 kj4 a2 0 l0_0 a1_0 a1_1 a1_2 t298) = some (r1, r2) := by rw [if_neg (show ¬ (false = true) by decide)] at H; exact H
    clear H
    have H := H1
    clear H1
    have H' := mS H
    clear H
    go_wp2
    go_loopg [9] kj4 (fun kq v9 w' => ∃ (x9_2 : Int), v9 = .int .i64 x9_2 ∧ Aside0 (impl_MemPut.l0 kq a2 x9_2 l0_0 a1_0 a1_1 a1_2 t298 = some (r1, r2)) ∧ Aside0 (kq ≤ kj4) ∧ Aside0 (Kd.R k35 35 w' w.heap.size (fun _ => True) (.slice Ao14 t298.length co14) t298) ∧ Aside0 (w'.heap[gb295]? = some (.cells #[(.slice A0_0 l0_0.length c0_0)] 26 (0, 0))) ∧ Aside0 (w'.heap[gb296]? = some (.cells #[.string a1_0, .string a1_1, .bool a1_2] 33 (0, 0))) ∧ Aside0 (w'.heap[gb297]? = some (.cells #[(.slice none 0 0)] 26 (0, 0))) ∧ Aside0 (w'.heap[gb301]? = some (.cells #[(.slice Ao14 t298.length co14)] 26 (0, 0))) ∧ Aside0 (Below w.heap.size w w'))
    case atStart => exact ⟨(0), (by first | rfl | (simp; done) | (simp [*]; done)), H', ⟨Nat.le_refl _⟩, ⟨by (with_reducible repeat (first | apply Kd.R_alloc | apply Kd.R_drewN | apply Kd.R_drew)); exact HO_302000.out⟩, ⟨by (with_reducible repeat (first | refine blk_drewN ?_ _ | refine blk_drew ?_ | refine blk_alloc ?_ _)); exact BK295.out⟩, ⟨by (with_reducible repeat (first | refine blk_drewN ?_ _ | refine blk_drew ?_ | refine blk_alloc ?_ _)); exact BK296.out⟩, ⟨by (with_reducible repeat (first | refine blk_drewN ?_ _ | refine blk_drew ?_ | refine blk_alloc ?_ _)); exact BK297.out⟩, ⟨by (with_reducible repeat (first | refine blk_drewN ?_ _ | refine blk_drew ?_ | refine blk_alloc ?_ _)); exact BK301.out⟩, ⟨(mH4 HB.out GE295.out GE296.out GE297.out GE301.out)⟩⟩
    case round =>
     clear H'
     try clear c1
     try clear c2
     try clear p2
     try clear c3
     try clear c4
     try clear c5
     try clear c8
     try clear c9
     try clear c10
     try clear c15
     try clear c16
     try clear c17
     try clear c18
     try clear c20
     try clear c22
     try clear c24
     try clear c25
     try clear c26
     try clear c29
     try clear c30
     try clear c33
     try clear c34
     try clear c35
     try clear c38
     try clear c39
     try clear c42
     try clear c43
     try clear c44
     try clear c47
     try clear c48
     try clear c49
     try clear c50
     try clear c52
     try clear c53
     try clear hcz11_0
     try clear hcz18_0
     try clear hcz27_0
     try clear hcz31_0
     try clear hcz31_1
     try clear hcz31_2
     try clear hcz36_0
     try clear hcz40_0
     try clear hcz40_1
     try clear hcz40_2
     try clear hcz45_0
     try clear hcz51_0
     try clear hcz54_0
     try clear hfz11_0
     try clear hfz18_0
     try clear hfz27_0
     try clear hfz31_0
     try clear hfz31_1
     try clear hfz31_2
     try clear hfz36_0
     try clear hfz40_0
     try clear hfz40_1
     try clear hfz40_2
     try clear hfz45_0
     try clear hfz51_0
     try clear hfz54_0
     try clear p2
     obtain ⟨x9_2, rfl, HA, HK2, HO_302000, BK295, BK296, BK297, BK301, HB⟩ := hrel
     cases gk with
     | zero => exact absurd HA.out (by simp [impl_MemPut.l0])
     | succ k2 =>
      have H := HA.out
      clear HA
      simp only [impl_MemPut.l0] at H
      have HC55 := mS H
      clear H
      go_upto_region 5 with (fail)
      go_cut [42] (fun v42 wc => ∃ (kq : Nat) (x42_54 : Bool), v42 = .bool x42_54 ∧ Aside0 (impl_MemPut.j2 kq a2 x9_2 x42_54 l0_0 a1_0 a1_1 a1_2 t298 = some (r1, r2)) ∧ Aside0 (kq ≤ k2) ∧ Aside0 (Kd.R k35 35 wc w.heap.size (fun _ => True) (.slice Ao14 t298.length co14) t298) ∧ Aside0 (wc.heap[gb295]? = some (.cells #[(.slice A0_0 l0_0.length c0_0)] 26 (0, 0))) ∧ Aside0 (wc.heap[gb296]? = some (.cells #[.string a1_0, .string a1_1, .bool a1_2] 33 (0, 0))) ∧ Aside0 (wc.heap[gb297]? = some (.cells #[(.slice none 0 0)] 26 (0, 0))) ∧ Aside0 (wc.heap[gb301]? = some (.cells #[(.slice Ao14 t298.length co14)] 26 (0, 0))) ∧ Aside0 (Below w.heap.size w wc))
      case first =>
       have H := HC55.out
       clear HC55
       by_cases c56 : x9_2 < (l0_0.length : Int)
       ·rw [if_pos c56] at H
        have c56b0 : decide (x9_2 < (l0_0.length : Int)) = true := decide_eq_true c56
        clear c56
        (first | rw [c56b0] | (simp only [i64_w, i32_w]; rw [c56b0]) | skip)
        by_cases c57 : 0 ≤ x9_2
        ·rw [if_pos c57] at H
         have c57b0 : decide (0 ≤ x9_2) = true := decide_eq_true c57
         clear c57
         have H' := mS H
         clear H
         try go_wp2
         have n0_ := mS (Kd.R_drew HO_302000.out)
         have n1_ := mS (blk_drew BK295.out)
         have n2_ := mS (blk_drew BK296.out)
         have n3_ := mS (blk_drew BK297.out)
         have n4_ := mS (blk_drew BK301.out)
         have n5_ := mS (below_drew1 HB.out)
         clear HO_302000
         clear BK295
         clear BK296
         clear BK297
         clear BK301
         clear HB
         have HO_302000 := n0_
         have BK295 := n1_
         have BK296 := n2_
         have BK297 := n3_
         have BK301 := n4_
         have HB := n5_
         clear n0_ n1_ n2_ n3_ n4_ n5_
         have p305 : 0 ≤ (x9_2 : Int) := of_decide_eq_true (by first | (with_reducible assumption) | assumption)
         have q305 : x9_2 < (l0_0.length : Int) := of_decide_eq_true (by first | (with_reducible assumption) | assumption)
         obtain ⟨ad305, e305, hx305_0, hx305_1, hx305_2, hx305_3⟩ := at_T35 HR0_0.out x9_2 p305 q305
         have hw305_3 := hx305_3
         have hw305_2 := hx305_2
         have hw305_1 := hx305_1
         have hw305_0 := hx305_0
         cases e305
         replace hx305_0 := mX HB.out hx305_0
         replace hx305_1 := mX HB.out hx305_1
         replace hx305_2 := mX HB.out hx305_2
         replace hx305_3 := mX HB.out hx305_3
         replace p305 := eq_true p305
         replace q305 := eq_true q305
         refine start_ (n := 17) (S := fun w' => w'.cell? ⟨gb295, 0, none⟩ = some (.slice (some ad305) l0_0.length c0_0) ∧ w'.cell? ⟨gb296, 0, none⟩ = some (.string a1_0) ∧ w'.cell? ⟨gb296, 1, none⟩ = some (.string a1_1) ∧ w'.cell? ⟨gb296, 2, none⟩ = some (.bool a1_2) ∧ w'.cell? (ad305.add ((x9_2).toNat * 4)) = some (.string ((rd_T35 l0_0 x9_2).f0.f0)) ∧ w'.cell? ⟨(ad305.add ((x9_2).toNat * 4)).block, (ad305.add ((x9_2).toNat * 4)).off + 1, none⟩ = some (.string ((rd_T35 l0_0 x9_2).f0.f1)) ∧ w'.cell? ⟨(ad305.add ((x9_2).toNat * 4)).block, (ad305.add ((x9_2).toNat * 4)).off + 2, none⟩ = some (.bool ((rd_T35 l0_0 x9_2).f0.f2)) ∧ w'.cell? ⟨(ad305.add ((x9_2).toNat * 4)).block, (ad305.add ((x9_2).toNat * 4)).off + 3, none⟩ = some (.int .i64 ((rd_T35 l0_0 x9_2).f1))) (ds := []) (mb 0 17) (by kernel_rfl) rfl rfl ⟨mZ BK295.out 0, mZ BK296.out 0, mZ BK296.out 1, mZ BK296.out 2, ((HB.out.cell (World.block_lt_of_cell? w _ hw305_0)).trans hw305_0), ((HB.out.cell (World.block_lt_of_cell? w _ hw305_1)).trans hw305_1), ((HB.out.cell (World.block_lt_of_cell? w _ hw305_2)).trans hw305_2), ((HB.out.cell (World.block_lt_of_cell? w _ hw305_3)).trans hw305_3)⟩ (fun hHeld => ?_); refine with_tabW impl_MemPut.tab5 impl_MemPut.bits5 (fun HT_ HW_ => ?_)
         generalize wr.drew = w58 at HO_302000 BK295 BK296 BK297 BK301 HB hx305_0 hx305_1 hx305_2 hx305_3 hHeld ⊢
         refine pure_ (i := 0) (N := some 26) (v := ?_) (a' := ?_) (mb 1 16) rfl rfl (any_of HT_.out (by kernel_rfl)) (fun _ _ _ h => h) (Or.inl ⟨by rfl, ?_⟩) ?_ ?_
         rotate_left
         ·intro w'
          go_simp
          with_reducible rfl
         rotate_left
         ·simp only [Act.put, zA, zB, zC, i64_w, i32_w]
          rfl
         refine pure_ (i := 1) (N := some 27) (v := ?_) (a' := ?_) (mb 2 15) rfl rfl (any_of HT_.out (by kernel_rfl)) (fun _ _ _ h => h) (Or.inl ⟨by rfl, ?_⟩) ?_ ?_
         rotate_left
         ·intro w'
          go_simp
          with_reducible rfl
         rotate_left
         ·simp only [Act.put, zA, zB, zC, i64_w, i32_w]
          rfl
         refine take_ (i := 2) (N := some 28) (v := ?_) (a' := ?_) (mb 3 14) rfl rfl (take_ofW HT_.out HW_.out (by kernel_rfl)) (fun _ _ _ h => h) (Or.inl ⟨by rfl, ?_⟩) hHeld ?_ ?_
         rotate_left
         ·rintro w' ⟨s0, s1, s2, s3, s4, s5, s6, s7⟩
          go_simp
          with_reducible rfl
         rotate_left
         ·simp only [Act.put, zA, zB, zC, i64_w, i32_w]
          rfl
         refine pure_ (i := 3) (N := some 29) (v := ?_) (a' := ?_) (mb 4 13) rfl rfl (any_of HT_.out (by kernel_rfl)) (fun _ _ _ h => h) (Or.inl ⟨by rfl, ?_⟩) ?_ ?_
         rotate_left
         ·intro w'
          go_simp
          with_reducible rfl
         rotate_left
         ·simp only [Act.put, zA, zB, zC, i64_w, i32_w]
          rfl
         refine pure_ (i := 4) (N := some 30) (v := ?_) (a' := ?_) (mb 5 12) rfl rfl (any_of HT_.out (by kernel_rfl)) (fun _ _ _ h => h) (Or.inl ⟨by rfl, ?_⟩) ?_ ?_
         rotate_left
         ·intro w'
          go_simp
          with_reducible rfl
         rotate_left
         ·simp only [Act.put, zA, zB, zC, i64_w, i32_w]
          rfl
         refine pure_ (i := 5) (N := some 31) (v := ?_) (a' := ?_) (mb 6 11) rfl rfl (any_of HT_.out (by kernel_rfl)) (fun _ _ _ h => h) (Or.inl ⟨by rfl, ?_⟩) ?_ ?_
         rotate_left
         ·intro w'
          go_simp
          with_reducible rfl
         rotate_left
         ·simp only [Act.put, zA, zB, zC, i64_w, i32_w]
          rfl
         refine pure_ (i := 6) (N := some 32) (v := ?_) (a' := ?_) (mb 7 10) rfl rfl (any_of HT_.out (by kernel_rfl)) (fun _ _ _ h => h) (Or.inl ⟨by rfl, ?_⟩) ?_ ?_
         rotate_left
         ·intro w'
          go_simp
          with_reducible rfl
         rotate_left
         ·simp only [Act.put, zA, zB, zC, i64_w, i32_w]
          rfl
         refine pure_ (i := 8) (N := some 34) (v := ?_) (a' := ?_) #[true, true, true, true, true, true, true, false, true, false, false, false, false, false, false, false, false] rfl rfl (any_of HT_.out (by kernel_rfl)) (fun _ _ _ h => h) (Or.inl ⟨by rfl, ?_⟩) ?_ ?_
         rotate_left
         ·intro w'
          go_simp
          with_reducible rfl
         rotate_left
         ·simp only [Act.put, zA, zB, zC, i64_w, i32_w]
          rfl
         refine pure_ (i := 13) (N := some 39) (v := ?_) (a' := ?_) #[true, true, true, true, true, true, true, false, true, false, false, false, false, true, false, false, false] rfl rfl (any_of HT_.out (by kernel_rfl)) (fun _ _ _ h => h) (Or.inl ⟨by rfl, ?_⟩) ?_ ?_
         rotate_left
         ·intro w'
          go_simp
          with_reducible rfl
         rotate_left
         ·simp only [Act.put, zA, zB, zC, i64_w, i32_w]
          rfl
         refine take_ (i := 7) (N := some 33) (v := ?_) (a' := ?_) #[true, true, true, true, true, true, true, true, true, false, false, false, false, true, false, false, false] rfl rfl (take_ofW HT_.out HW_.out (by kernel_rfl)) (fun _ _ _ h => h) (Or.inl ⟨by rfl, ?_⟩) hHeld ?_ ?_
         rotate_left
         ·rintro w' ⟨s0, s1, s2, s3, s4, s5, s6, s7⟩
          go_simp
          with_reducible rfl
         rotate_left
         ·simp only [Act.put, zA, zB, zC, i64_w, i32_w]
          rfl
         refine pure_ (i := 9) (N := some 35) (v := ?_) (a' := ?_) #[true, true, true, true, true, true, true, true, true, true, false, false, false, true, false, false, false] rfl rfl (any_of HT_.out (by kernel_rfl)) (fun _ _ _ h => h) (Or.inl ⟨by rfl, ?_⟩) ?_ ?_
         rotate_left
         ·intro w'
          go_simp
          with_reducible rfl
         rotate_left
         ·simp only [Act.put, zA, zB, zC, i64_w, i32_w]
          rfl
         refine pure_ (i := 10) (N := some 36) (v := ?_) (a' := ?_) #[true, true, true, true, true, true, true, true, true, true, true, false, false, true, false, false, false] rfl rfl (any_of HT_.out (by kernel_rfl)) (fun _ _ _ h => h) (Or.inl ⟨by rfl, ?_⟩) ?_ ?_
         rotate_left
         ·intro w'
          go_simp
          with_reducible rfl
         rotate_left
         ·simp only [Act.put, zA, zB, zC, i64_w, i32_w]
          rfl
         refine pure_ (i := 11) (N := some 37) (v := ?_) (a' := ?_) #[true, true, true, true, true, true, true, true, true, true, true, true, false, true, false, false, false] rfl rfl (any_of HT_.out (by kernel_rfl)) (fun _ _ _ h => h) (Or.inl ⟨by rfl, ?_⟩) ?_ ?_
         rotate_left
         ·intro w'
          go_simp
          with_reducible rfl
         rotate_left
         ·simp only [Act.put, zA, zB, zC, i64_w, i32_w]
          rfl
         refine take_ (i := 12) (N := some 38) (v := ?_) (a' := ?_) (mb 14 3) rfl rfl (take_ofW HT_.out HW_.out (by kernel_rfl)) (fun _ _ _ h => h) (Or.inl ⟨by rfl, ?_⟩) hHeld ?_ ?_
         rotate_left
         ·rintro w' ⟨s0, s1, s2, s3, s4, s5, s6, s7⟩
          go_simp
          with_reducible rfl
         rotate_left
         ·simp only [Act.put, zA, zB, zC, i64_w, i32_w]
          rfl
         refine take_ (i := 14) (N := some 40) (v := ?_) (a' := ?_) (mb 15 2) rfl rfl (take_ofW HT_.out HW_.out (by kernel_rfl)) (fun _ _ _ h => h) (Or.inl ⟨by rfl, ?_⟩) hHeld ?_ ?_
         rotate_left
         ·rintro w' ⟨s0, s1, s2, s3, s4, s5, s6, s7⟩
          go_simp
          with_reducible rfl
         rotate_left
         ·simp only [Act.put, zA, zB, zC, i64_w, i32_w]
          rfl
         refine pure_ (i := 15) (N := some 41) (v := ?_) (a' := ?_) (mb 16 1) rfl rfl (any_of HT_.out (by kernel_rfl)) (fun _ _ _ h => h) (Or.inl ⟨by rfl, ?_⟩) ?_ ?_
         rotate_left
         ·intro w'
          go_simp
          with_reducible rfl
         rotate_left
         ·simp only [Act.put, zA, zB, zC, i64_w, i32_w]
          rfl
         refine pure_ (i := 16) (N := some 42) (v := ?_) (a' := ?_) (mb 17 0) rfl rfl (any_of HT_.out (by kernel_rfl)) (fun _ _ _ h => h) (Or.inl ⟨by rfl, ?_⟩) ?_ ?_
         rotate_left
         ·intro w'
          go_simp
          with_reducible rfl
         rotate_left
         ·simp only [Act.put, zA, zB, zC, i64_w, i32_w]
          rfl
         refine done_ (done_of HT_.out (by kernel_rfl)) ?_
         try go_wp2
         go_meet
         case rel => exact ⟨_, ((Op.bytesLess (((rd_T35 l0_0 x9_2).f0.f0).toList) a1_0.toList)), (by first | rfl | (simp; done) | (simp [*]; done)), H', ⟨by have := HJ4.out; have := HK2.out; first | omega | exact Nat.le_refl _⟩, ⟨by (with_reducible repeat (first | apply Kd.R_alloc | apply Kd.R_drewN | apply Kd.R_drew)); exact HO_302000.out⟩, ⟨by (with_reducible repeat (first | refine blk_drewN ?_ _ | refine blk_drew ?_ | refine blk_alloc ?_ _)); exact BK295.out⟩, ⟨by (with_reducible repeat (first | refine blk_drewN ?_ _ | refine blk_drew ?_ | refine blk_alloc ?_ _)); exact BK296.out⟩, ⟨by (with_reducible repeat (first | refine blk_drewN ?_ _ | refine blk_drew ?_ | refine blk_alloc ?_ _)); exact BK297.out⟩, ⟨by (with_reducible repeat (first | refine blk_drewN ?_ _ | refine blk_drew ?_ | refine blk_alloc ?_ _)); exact BK301.out⟩, ⟨(mH4 HB.out GE295.out GE296.out GE297.out GE301.out)⟩⟩
        ·rw [if_neg c57] at H
         exact absurd H (by simp)
       ·rw [if_neg c56] at H
        have c56b0 : decide (x9_2 < (l0_0.length : Int)) = false := decide_eq_false c56
        clear c56
        (first | rw [c56b0] | (simp only [i64_w, i32_w]; rw [c56b0]) | skip)
        have H' := mS H
        clear H
        try go_wp2
        have n0_ := mS (Kd.R_drew HO_302000.out)
        have n1_ := mS (blk_drew BK295.out)
        have n2_ := mS (blk_drew BK296.out)
        have n3_ := mS (blk_drew BK297.out)
        have n4_ := mS (blk_drew BK301.out)
        have n5_ := mS (below_drew1 HB.out)
        clear HO_302000
        clear BK295
        clear BK296
        clear BK297
        clear BK301
        clear HB
        have HO_302000 := n0_
        have BK295 := n1_
        have BK296 := n2_
        have BK297 := n3_
        have BK301 := n4_
        have HB := n5_
        clear n0_ n1_ n2_ n3_ n4_ n5_
        refine start_ (n := 17) (S := fun w' => w'.cell? ⟨gb295, 0, none⟩ = some (.slice A0_0 l0_0.length c0_0)) (ds := []) (mb 0 17) (by kernel_rfl) rfl rfl (mZ BK295.out 0) (fun hHeld => ?_); refine with_tabW impl_MemPut.tab5 impl_MemPut.bits5 (fun HT_ HW_ => ?_)
        generalize wr.drew = w59 at HO_302000 BK295 BK296 BK297 BK301 HB hHeld ⊢
        refine pure_ (i := 0) (N := some 26) (v := ?_) (a' := ?_) (mb 1 16) rfl rfl (any_of HT_.out (by kernel_rfl)) (fun _ _ _ h => h) (Or.inl ⟨by rfl, ?_⟩) ?_ ?_
        rotate_left
        ·intro w'
         go_simp
         with_reducible rfl
        rotate_left
        ·simp only [Act.put, zA, zB, zC, i64_w, i32_w]
         rfl
        refine pure_ (i := 1) (N := some 27) (v := ?_) (a' := ?_) (mb 2 15) rfl rfl (any_of HT_.out (by kernel_rfl)) (fun _ _ _ h => h) (Or.inl ⟨by rfl, ?_⟩) ?_ ?_
        rotate_left
        ·intro w'
         go_simp
         with_reducible rfl
        rotate_left
        ·simp only [Act.put, zA, zB, zC, i64_w, i32_w]
         rfl
        refine take_ (i := 2) (N := some 28) (v := ?_) (a' := ?_) (mb 3 14) rfl rfl (take_ofW HT_.out HW_.out (by kernel_rfl)) (fun _ _ _ h => h) (Or.inl ⟨by rfl, ?_⟩) hHeld ?_ ?_
        rotate_left
        ·intro w' s0
         go_simp
         with_reducible rfl
        rotate_left
        ·simp only [Act.put, zA, zB, zC, i64_w, i32_w]
         rfl
        refine pure_ (i := 3) (N := some 29) (v := ?_) (a' := ?_) (mb 4 13) rfl rfl (any_of HT_.out (by kernel_rfl)) (fun _ _ _ h => h) (Or.inl ⟨by rfl, ?_⟩) ?_ ?_
        rotate_left
        ·intro w'
         go_simp
         with_reducible rfl
        rotate_left
        ·simp only [Act.put, zA, zB, zC, i64_w, i32_w]
         rfl
        refine pure_ (i := 4) (N := some 30) (v := ?_) (a' := ?_) (mb 5 12) rfl rfl (any_of HT_.out (by kernel_rfl)) (fun _ _ _ h => h) (Or.inl ⟨by rfl, ?_⟩) ?_ ?_
        rotate_left
        ·intro w'
         go_simp
         with_reducible rfl
        rotate_left
        ·simp only [Act.put, zA, zB, zC, i64_w, i32_w]
         rfl
        refine pure_ (i := 5) (N := some 31) (v := ?_) (a' := ?_) (mb 6 11) rfl rfl (any_of HT_.out (by kernel_rfl)) (fun _ _ _ h => h) (Or.inl ⟨by rfl, ?_⟩) ?_ ?_
        rotate_left
        ·intro w'
         go_simp
         with_reducible rfl
        rotate_left
        ·simp only [Act.put, zA, zB, zC, i64_w, i32_w]
         rfl
        refine pure_ (i := 6) (N := some 32) (v := undef) (a' := ?_) (mb 7 10) rfl rfl (any_of HT_.out (by kernel_rfl)) (fun _ _ _ h => h) (Or.inr ⟨by rfl, rfl⟩) ?_ ?_
        rotate_left
        ·simp only [Act.put, zA, zB, zC, i64_w, i32_w]
         rfl
        refine pure_ (i := 7) (N := some 33) (v := undef) (a' := ?_) (mb 8 9) rfl rfl (any_of HT_.out (by kernel_rfl)) (fun _ _ _ h => h) (Or.inr ⟨by rfl, rfl⟩) ?_ ?_
        rotate_left
        ·simp only [Act.put, zA, zB, zC, i64_w, i32_w]
         rfl
        refine pure_ (i := 8) (N := some 34) (v := undef) (a' := ?_) (mb 9 8) rfl rfl (any_of HT_.out (by kernel_rfl)) (fun _ _ _ h => h) (Or.inr ⟨by rfl, rfl⟩) ?_ ?_
        rotate_left
        ·simp only [Act.put, zA, zB, zC, i64_w, i32_w]
         rfl
        refine pure_ (i := 9) (N := some 35) (v := undef) (a' := ?_) (mb 10 7) rfl rfl (any_of HT_.out (by kernel_rfl)) (fun _ _ _ h => h) (Or.inr ⟨by rfl, rfl⟩) ?_ ?_
        rotate_left
        ·simp only [Act.put, zA, zB, zC, i64_w, i32_w]
         rfl
        refine pure_ (i := 10) (N := some 36) (v := undef) (a' := ?_) (mb 11 6) rfl rfl (any_of HT_.out (by kernel_rfl)) (fun _ _ _ h => h) (Or.inr ⟨by rfl, rfl⟩) ?_ ?_
        rotate_left
        ·simp only [Act.put, zA, zB, zC, i64_w, i32_w]
         rfl
        refine pure_ (i := 11) (N := some 37) (v := undef) (a' := ?_) (mb 12 5) rfl rfl (any_of HT_.out (by kernel_rfl)) (fun _ _ _ h => h) (Or.inr ⟨by rfl, rfl⟩) ?_ ?_
        rotate_left
        ·simp only [Act.put, zA, zB, zC, i64_w, i32_w]
         rfl
        refine pure_ (i := 12) (N := some 38) (v := undef) (a' := ?_) (mb 13 4) rfl rfl (any_of HT_.out (by kernel_rfl)) (fun _ _ _ h => h) (Or.inr ⟨by rfl, rfl⟩) ?_ ?_
        rotate_left
        ·simp only [Act.put, zA, zB, zC, i64_w, i32_w]
         rfl
        refine pure_ (i := 13) (N := some 39) (v := undef) (a' := ?_) (mb 14 3) rfl rfl (any_of HT_.out (by kernel_rfl)) (fun _ _ _ h => h) (Or.inr ⟨by rfl, rfl⟩) ?_ ?_
        rotate_left
        ·simp only [Act.put, zA, zB, zC, i64_w, i32_w]
         rfl
        refine pure_ (i := 14) (N := some 40) (v := undef) (a' := ?_) (mb 15 2) rfl rfl (any_of HT_.out (by kernel_rfl)) (fun _ _ _ h => h) (Or.inr ⟨by rfl, rfl⟩) ?_ ?_
        rotate_left
        ·simp only [Act.put, zA, zB, zC, i64_w, i32_w]
         rfl
        refine pure_ (i := 15) (N := some 41) (v := undef) (a' := ?_) (mb 16 1) rfl rfl (any_of HT_.out (by kernel_rfl)) (fun _ _ _ h => h) (Or.inr ⟨by rfl, rfl⟩) ?_ ?_
        rotate_left
        ·simp only [Act.put, zA, zB, zC, i64_w, i32_w]
         rfl
        refine pure_ (i := 16) (N := some 42) (v := ?_) (a' := ?_) (mb 17 0) rfl rfl (any_of HT_.out (by kernel_rfl)) (fun _ _ _ h => h) (Or.inl ⟨by rfl, ?_⟩) ?_ ?_
        rotate_left
        ·intro w'
         go_simp
         with_reducible rfl
        rotate_left
        ·simp only [Act.put, zA, zB, zC, i64_w, i32_w]
         rfl
        refine done_ (done_of HT_.out (by kernel_rfl)) ?_
        try go_wp2
        go_meet
        case rel => exact ⟨_, (false), (by first | rfl | (simp; done) | (simp [*]; done)), H', ⟨by have := HJ4.out; have := HK2.out; first | omega | exact Nat.le_refl _⟩, ⟨by (with_reducible repeat (first | apply Kd.R_alloc | apply Kd.R_drewN | apply Kd.R_drew)); exact HO_302000.out⟩, ⟨by (with_reducible repeat (first | refine blk_drewN ?_ _ | refine blk_drew ?_ | refine blk_alloc ?_ _)); exact BK295.out⟩, ⟨by (with_reducible repeat (first | refine blk_drewN ?_ _ | refine blk_drew ?_ | refine blk_alloc ?_ _)); exact BK296.out⟩, ⟨by (with_reducible repeat (first | refine blk_drewN ?_ _ | refine blk_drew ?_ | refine blk_alloc ?_ _)); exact BK297.out⟩, ⟨by (with_reducible repeat (first | refine blk_drewN ?_ _ | refine blk_drew ?_ | refine blk_alloc ?_ _)); exact BK301.out⟩, ⟨(mH4 HB.out GE295.out GE296.out GE297.out GE301.out)⟩⟩
      case rest =>
       clear HC55
       try clear c1
       try clear c2
       try clear p2
       try clear c3
       try clear p3
       try clear q3
       try clear hx3
       try clear c4
       try clear c5
       try clear c8
       try clear c9
       try clear c10
       try clear c15
       try clear c16
       try clear c17
       try clear c18
       try clear c20
       try clear c22
       try clear c24
       try clear c25
       try clear c26
       try clear c29
       try clear c30
       try clear p30
       try clear q30
       try clear hx30
       try clear c33
       try clear c34
       try clear c35
       try clear c38
       try clear c39
       try clear c42
       try clear c43
       try clear c44
       try clear c47
       try clear c48
       try clear c49
       try clear c50
       try clear c52
       try clear c53
       try clear c56
       try clear c56b0
       try clear c57
       try clear c57b0
       try clear hcz11_0
       try clear hcz18_0
       try clear hcz27_0
       try clear hcz31_0
       try clear hcz31_1
       try clear hcz31_2
       try clear hcz36_0
       try clear hcz40_0
       try clear hcz40_1
       try clear hcz40_2
       try clear hcz45_0
       try clear hcz51_0
       try clear hcz54_0
       try clear hfz11_0
       try clear hfz18_0
       try clear hfz27_0
       try clear hfz31_0
       try clear hfz31_1
       try clear hfz31_2
       try clear hfz36_0
       try clear hfz40_0
       try clear hfz40_1
       try clear hfz40_2
       try clear hfz45_0
       try clear hfz51_0
       try clear hfz54_0
       try clear hx305_0
       try clear hx305_1
       try clear hx305_2
       try clear hx305_3
       try clear p2
       try clear p305
       try clear q305
       obtain ⟨kq, x42_54, rfl, HA, HJ54, HO_302000, BK295, BK296, BK297, BK301, HB⟩ := hcut
       cases kq with
       | zero => exact absurd HA.out (by simp [impl_MemPut.j2])
       | succ kj54 =>
        have H := HA.out
        clear HA
        simp only [impl_MemPut.j2] at H
        by_cases c60 : x42_54 = true
        ·subst c60
         have H1 : (impl_MemPut.l0 kj54 a2 (wrap64 (x9_2 + 1)) l0_0 a1_0 a1_1 a1_2 t298) = some (r1, r2) := by rw [if_pos rfl] at H; exact H
         clear H
         have H := H1
         clear H1
         have H' := mS H
         clear H
         go_wp2
         go_roundg kj54
         case measure => have := HJ4.out; have := HK2.out; have := HJ54.out; omega
         case rel => exact ⟨(wrap64 (x9_2 + 1)), (by first | rfl | (simp; done) | (simp [*]; done)), H', ⟨by have := HJ4.out; have := HK2.out; have := HJ54.out; omega⟩, ⟨by (with_reducible repeat (first | apply Kd.R_alloc | apply Kd.R_drewN | apply Kd.R_drew)); exact HO_302000.out⟩, ⟨by (with_reducible repeat (first | refine blk_drewN ?_ _ | refine blk_drew ?_ | refine blk_alloc ?_ _)); exact BK295.out⟩, ⟨by (with_reducible repeat (first | refine blk_drewN ?_ _ | refine blk_drew ?_ | refine blk_alloc ?_ _)); exact BK296.out⟩, ⟨by (with_reducible repeat (first | refine blk_drewN ?_ _ | refine blk_drew ?_ | refine blk_alloc ?_ _)); exact BK297.out⟩, ⟨by (with_reducible repeat (first | refine blk_drewN ?_ _ | refine blk_drew ?_ | refine blk_alloc ?_ _)); exact BK301.out⟩, ⟨(mH4 HB.out GE295.out GE296.out GE297.out GE301.out)⟩⟩
        ·replace c60 := Bool.eq_false_iff.mpr c60
         subst c60
         have H1 : (if x9_2 < (l0_0.length : Int) then (if 0 ≤ x9_2 then (impl_MemPut.j3 kj54 a2 x9_2 (((rd_T35 l0_0 x9_2).f0.f0).toList == a1_0.toList) l0_0 a1_0 a1_1 a1_2 t298) else (none)) else (impl_MemPut.j3 kj54 a2 x9_2 false l0_0 a1_0 a1_1 a1_2 t298)) = some (r1, r2) := by rw [if_neg (show ¬ (false = true) by decide)] at H; exact H
         clear H
         have H := H1
         clear H1
         have HC61 := mS H
         clear H
         go_upto_region 7 with (fail)
         go_cut [61] (fun v61 wc => ∃ (kq : Nat) (x61_60 : Bool), v61 = .bool x61_60 ∧ Aside0 (impl_MemPut.j3 kq a2 x9_2 x61_60 l0_0 a1_0 a1_1 a1_2 t298 = some (r1, r2)) ∧ Aside0 (kq ≤ kj54) ∧ Aside0 (Kd.R k35 35 wc w.heap.size (fun _ => True) (.slice Ao14 t298.length co14) t298) ∧ Aside0 (wc.heap[gb295]? = some (.cells #[(.slice A0_0 l0_0.length c0_0)] 26 (0, 0))) ∧ Aside0 (wc.heap[gb296]? = some (.cells #[.string a1_0, .string a1_1, .bool a1_2] 33 (0, 0))) ∧ Aside0 (wc.heap[gb297]? = some (.cells #[(.slice none 0 0)] 26 (0, 0))) ∧ Aside0 (wc.heap[gb301]? = some (.cells #[(.slice Ao14 t298.length co14)] 26 (0, 0))) ∧ Aside0 (Below w.heap.size w wc))
         case first =>
          have H := HC61.out
          clear HC61
          by_cases c62 : x9_2 < (l0_0.length : Int)
          ·rw [if_pos c62] at H
           have c62b0 : decide (x9_2 < (l0_0.length : Int)) = true := decide_eq_true c62
           clear c62
           (first | rw [c62b0] | (simp only [i64_w, i32_w]; rw [c62b0]) | skip)
           by_cases c63 : 0 ≤ x9_2
           ·rw [if_pos c63] at H
            have c63b0 : decide (0 ≤ x9_2) = true := decide_eq_true c63
            clear c63
            have H' := mS H
            clear H
            try go_wp2
            have n0_ := mS (Kd.R_drew HO_302000.out)
            have n1_ := mS (blk_drew BK295.out)
            have n2_ := mS (blk_drew BK296.out)
            have n3_ := mS (blk_drew BK297.out)
            have n4_ := mS (blk_drew BK301.out)
            have n5_ := mS (below_drew1 HB.out)
            clear HO_302000
            clear BK295
            clear BK296
            clear BK297
            clear BK301
            clear HB
            have HO_302000 := n0_
            have BK295 := n1_
            have BK296 := n2_
            have BK297 := n3_
            have BK301 := n4_
            have HB := n5_
            clear n0_ n1_ n2_ n3_ n4_ n5_
            have p306 : 0 ≤ (x9_2 : Int) := of_decide_eq_true (by first | (with_reducible assumption) | assumption)
            have q306 : x9_2 < (l0_0.length : Int) := of_decide_eq_true (by first | (with_reducible assumption) | assumption)
            obtain ⟨ad306, e306, hx306_0, hx306_1, hx306_2, hx306_3⟩ := at_T35 HR0_0.out x9_2 p306 q306
            have hw306_3 := hx306_3
            have hw306_2 := hx306_2
            have hw306_1 := hx306_1
            have hw306_0 := hx306_0
            cases e306
            replace hx306_0 := mX HB.out hx306_0
            replace hx306_1 := mX HB.out hx306_1
            replace hx306_2 := mX HB.out hx306_2
            replace hx306_3 := mX HB.out hx306_3
            replace p306 := eq_true p306
            replace q306 := eq_true q306
            refine start_ (n := 17) (S := fun w' => w'.cell? ⟨gb295, 0, none⟩ = some (.slice (some ad306) l0_0.length c0_0) ∧ w'.cell? ⟨gb296, 0, none⟩ = some (.string a1_0) ∧ w'.cell? ⟨gb296, 1, none⟩ = some (.string a1_1) ∧ w'.cell? ⟨gb296, 2, none⟩ = some (.bool a1_2) ∧ w'.cell? (ad306.add ((x9_2).toNat * 4)) = some (.string ((rd_T35 l0_0 x9_2).f0.f0)) ∧ w'.cell? ⟨(ad306.add ((x9_2).toNat * 4)).block, (ad306.add ((x9_2).toNat * 4)).off + 1, none⟩ = some (.string ((rd_T35 l0_0 x9_2).f0.f1)) ∧ w'.cell? ⟨(ad306.add ((x9_2).toNat * 4)).block, (ad306.add ((x9_2).toNat * 4)).off + 2, none⟩ = some (.bool ((rd_T35 l0_0 x9_2).f0.f2)) ∧ w'.cell? ⟨(ad306.add ((x9_2).toNat * 4)).block, (ad306.add ((x9_2).toNat * 4)).off + 3, none⟩ = some (.int .i64 ((rd_T35 l0_0 x9_2).f1))) (ds := []) (mb 0 17) (by kernel_rfl) rfl rfl ⟨mZ BK295.out 0, mZ BK296.out 0, mZ BK296.out 1, mZ BK296.out 2, ((HB.out.cell (World.block_lt_of_cell? w _ hw306_0)).trans hw306_0), ((HB.out.cell (World.block_lt_of_cell? w _ hw306_1)).trans hw306_1), ((HB.out.cell (World.block_lt_of_cell? w _ hw306_2)).trans hw306_2), ((HB.out.cell (World.block_lt_of_cell? w _ hw306_3)).trans hw306_3)⟩ (fun hHeld => ?_); refine with_tabW impl_MemPut.tab7 impl_MemPut.bits7 (fun HT_ HW_ => ?_)
            generalize wc.drew = w64 at HO_302000 BK295 BK296 BK297 BK301 HB hx306_0 hx306_1 hx306_2 hx306_3 hHeld ⊢
            refine pure_ (i := 0) (N := some 45) (v := ?_) (a' := ?_) (mb 1 16) rfl rfl (any_of HT_.out (by kernel_rfl)) (fun _ _ _ h => h) (Or.inl ⟨by rfl, ?_⟩) ?_ ?_
            rotate_left
            ·intro w'
             go_simp
             with_reducible rfl
            rotate_left
            ·simp only [Act.put, zA, zB, zC, i64_w, i32_w]
             rfl
            refine pure_ (i := 1) (N := some 46) (v := ?_) (a' := ?_) (mb 2 15) rfl rfl (any_of HT_.out (by kernel_rfl)) (fun _ _ _ h => h) (Or.inl ⟨by rfl, ?_⟩) ?_ ?_
            rotate_left
            ·intro w'
             go_simp
             with_reducible rfl
            rotate_left
            ·simp only [Act.put, zA, zB, zC, i64_w, i32_w]
             rfl
            refine take_ (i := 2) (N := some 47) (v := ?_) (a' := ?_) (mb 3 14) rfl rfl (take_ofW HT_.out HW_.out (by kernel_rfl)) (fun _ _ _ h => h) (Or.inl ⟨by rfl, ?_⟩) hHeld ?_ ?_
            rotate_left
            ·rintro w' ⟨s0, s1, s2, s3, s4, s5, s6, s7⟩
             go_simp
             with_reducible rfl
            rotate_left
            ·simp only [Act.put, zA, zB, zC, i64_w, i32_w]
             rfl
            refine pure_ (i := 3) (N := some 48) (v := ?_) (a' := ?_) (mb 4 13) rfl rfl (any_of HT_.out (by kernel_rfl)) (fun _ _ _ h => h) (Or.inl ⟨by rfl, ?_⟩) ?_ ?_
            rotate_left
            ·intro w'
             go_simp
             with_reducible rfl
            rotate_left
            ·simp only [Act.put, zA, zB, zC, i64_w, i32_w]
             rfl
            refine pure_ (i := 4) (N := some 49) (v := ?_) (a' := ?_) (mb 5 12) rfl rfl (any_of HT_.out (by kernel_rfl)) (fun _ _ _ h => h) (Or.inl ⟨by rfl, ?_⟩) ?_ ?_
            rotate_left
            ·intro w'
             go_simp
             with_reducible rfl
            rotate_left
            ·simp only [Act.put, zA, zB, zC, i64_w, i32_w]
             rfl
            refine pure_ (i := 5) (N := some 50) (v := ?_) (a' := ?_) (mb 6 11) rfl rfl (any_of HT_.out (by kernel_rfl)) (fun _ _ _ h => h) (Or.inl ⟨by rfl, ?_⟩) ?_ ?_
            rotate_left
            ·intro w'
             go_simp
             with_reducible rfl
            rotate_left
            ·simp only [Act.put, zA, zB, zC, i64_w, i32_w]
             rfl
            refine pure_ (i := 6) (N := some 51) (v := ?_) (a' := ?_) (mb 7 10) rfl rfl (any_of HT_.out (by kernel_rfl)) (fun _ _ _ h => h) (Or.inl ⟨by rfl, ?_⟩) ?_ ?_
            rotate_left
            ·intro w'
             go_simp
             with_reducible rfl
            rotate_left
            ·simp only [Act.put, zA, zB, zC, i64_w, i32_w]
             rfl
            refine pure_ (i := 8) (N := some 53) (v := ?_) (a' := ?_) #[true, true, true, true, true, true, true, false, true, false, false, false, false, false, false, false, false] rfl rfl (any_of HT_.out (by kernel_rfl)) (fun _ _ _ h => h) (Or.inl ⟨by rfl, ?_⟩) ?_ ?_
            rotate_left
            ·intro w'
             go_simp
             with_reducible rfl
            rotate_left
            ·simp only [Act.put, zA, zB, zC, i64_w, i32_w]
             rfl
            refine pure_ (i := 13) (N := some 58) (v := ?_) (a' := ?_) #[true, true, true, true, true, true, true, false, true, false, false, false, false, true, false, false, false] rfl rfl (any_of HT_.out (by kernel_rfl)) (fun _ _ _ h => h) (Or.inl ⟨by rfl, ?_⟩) ?_ ?_
            rotate_left
            ·intro w'
             go_simp
             with_reducible rfl
            rotate_left
            ·simp only [Act.put, zA, zB, zC, i64_w, i32_w]
             rfl
            refine take_ (i := 7) (N := some 52) (v := ?_) (a' := ?_) #[true, true, true, true, true, true, true, true, true, false, false, false, false, true, false, false, false] rfl rfl (take_ofW HT_.out HW_.out (by kernel_rfl)) (fun _ _ _ h => h) (Or.inl ⟨by rfl, ?_⟩) hHeld ?_ ?_
            rotate_left
            ·rintro w' ⟨s0, s1, s2, s3, s4, s5, s6, s7⟩
             go_simp
             with_reducible rfl
            rotate_left
            ·simp only [Act.put, zA, zB, zC, i64_w, i32_w]
             rfl
            refine pure_ (i := 9) (N := some 54) (v := ?_) (a' := ?_) #[true, true, true, true, true, true, true, true, true, true, false, false, false, true, false, false, false] rfl rfl (any_of HT_.out (by kernel_rfl)) (fun _ _ _ h => h) (Or.inl ⟨by rfl, ?_⟩) ?_ ?_
            rotate_left
            ·intro w'
             go_simp
             with_reducible rfl
            rotate_left
            ·simp only [Act.put, zA, zB, zC, i64_w, i32_w]
             rfl
            refine pure_ (i := 10) (N := some 55) (v := ?_) (a' := ?_) #[true, true, true, true, true, true, true, true, true, true, true, false, false, true, false, false, false] rfl rfl (any_of HT_.out (by kernel_rfl)) (fun _ _ _ h => h) (Or.inl ⟨by rfl, ?_⟩) ?_ ?_
            rotate_left
            ·intro w'
             go_simp
             with_reducible rfl
            rotate_left
            ·simp only [Act.put, zA, zB, zC, i64_w, i32_w]
             rfl
            refine pure_ (i := 11) (N := some 56) (v := ?_) (a' := ?_) #[true, true, true, true, true, true, true, true, true, true, true, true, false, true, false, false, false] rfl rfl (any_of HT_.out (by kernel_rfl)) (fun _ _ _ h => h) (Or.inl ⟨by rfl, ?_⟩) ?_ ?_
            rotate_left
            ·intro w'
             go_simp
             with_reducible rfl
            rotate_left
            ·simp only [Act.put, zA, zB, zC, i64_w, i32_w]
             rfl
            refine take_ (i := 12) (N := some 57) (v := ?_) (a' := ?_) (mb 14 3) rfl rfl (take_ofW HT_.out HW_.out (by kernel_rfl)) (fun _ _ _ h => h) (Or.inl ⟨by rfl, ?_⟩) hHeld ?_ ?_
            rotate_left
            ·rintro w' ⟨s0, s1, s2, s3, s4, s5, s6, s7⟩
             go_simp
             with_reducible rfl
            rotate_left
            ·simp only [Act.put, zA, zB, zC, i64_w, i32_w]
             rfl
            refine take_ (i := 14) (N := some 59) (v := ?_) (a' := ?_) (mb 15 2) rfl rfl (take_ofW HT_.out HW_.out (by kernel_rfl)) (fun _ _ _ h => h) (Or.inl ⟨by rfl, ?_⟩) hHeld ?_ ?_
            rotate_left
            ·rintro w' ⟨s0, s1, s2, s3, s4, s5, s6, s7⟩
             go_simp
             with_reducible rfl
            rotate_left
            ·simp only [Act.put, zA, zB, zC, i64_w, i32_w]
             rfl
            refine pure_ (i := 15) (N := some 60) (v := ?_) (a' := ?_) (mb 16 1) rfl rfl (any_of HT_.out (by kernel_rfl)) (fun _ _ _ h => h) (Or.inl ⟨by rfl, ?_⟩) ?_ ?_
            rotate_left
            ·intro w'
             go_simp
             with_reducible rfl
            rotate_left
            ·simp only [Act.put, zA, zB, zC, i64_w, i32_w]
             rfl
            refine pure_ (i := 16) (N := some 61) (v := ?_) (a' := ?_) (mb 17 0) rfl rfl (any_of HT_.out (by kernel_rfl)) (fun _ _ _ h => h) (Or.inl ⟨by rfl, ?_⟩) ?_ ?_
            rotate_left
            ·intro w'
             go_simp
             with_reducible rfl
            rotate_left
            ·simp only [Act.put, zA, zB, zC, i64_w, i32_w]
             rfl
            refine done_ (done_of HT_.out (by kernel_rfl)) ?_
            try go_wp2
            go_meet
            case rel => exact ⟨_, ((((rd_T35 l0_0 x9_2).f0.f0).toList == a1_0.toList)), (by first | rfl | (simp; done) | (simp [*]; done)), H', ⟨by have := HJ4.out; have := HK2.out; have := HJ54.out; first | omega | exact Nat.le_refl _⟩, ⟨by (with_reducible repeat (first | apply Kd.R_alloc | apply Kd.R_drewN | apply Kd.R_drew)); exact HO_302000.out⟩, ⟨by (with_reducible repeat (first | refine blk_drewN ?_ _ | refine blk_drew ?_ | refine blk_alloc ?_ _)); exact BK295.out⟩, ⟨by (with_reducible repeat (first | refine blk_drewN ?_ _ | refine blk_drew ?_ | refine blk_alloc ?_ _)); exact BK296.out⟩, ⟨by (with_reducible repeat (first | refine blk_drewN ?_ _ | refine blk_drew ?_ | refine blk_alloc ?_ _)); exact BK297.out⟩, ⟨by (with_reducible repeat (first | refine blk_drewN ?_ _ | refine blk_drew ?_ | refine blk_alloc ?_ _)); exact BK301.out⟩, ⟨(mH4 HB.out GE295.out GE296.out GE297.out GE301.out)⟩⟩
           ·rw [if_neg c63] at H
            exact absurd H (by simp)
          ·rw [if_neg c62] at H
           have c62b0 : decide (x9_2 < (l0_0.length : Int)) = false := decide_eq_false c62
           clear c62
           (first | rw [c62b0] | (simp only [i64_w, i32_w]; rw [c62b0]) | skip)
           have H' := mS H
           clear H
           try go_wp2
           have n0_ := mS (Kd.R_drew HO_302000.out)
           have n1_ := mS (blk_drew BK295.out)
           have n2_ := mS (blk_drew BK296.out)
           have n3_ := mS (blk_drew BK297.out)
           have n4_ := mS (blk_drew BK301.out)
           have n5_ := mS (below_drew1 HB.out)
           clear HO_302000
           clear BK295
           clear BK296
           clear BK297
           clear BK301
           clear HB
           have HO_302000 := n0_
           have BK295 := n1_
           have BK296 := n2_
           have BK297 := n3_
           have BK301 := n4_
           have HB := n5_
           clear n0_ n1_ n2_ n3_ n4_ n5_
           refine start_ (n := 17) (S := fun w' => w'.cell? ⟨gb295, 0, none⟩ = some (.slice A0_0 l0_0.length c0_0)) (ds := []) (mb 0 17) (by kernel_rfl) rfl rfl (mZ BK295.out 0) (fun hHeld => ?_); refine with_tabW impl_MemPut.tab7 impl_MemPut.bits7 (fun HT_ HW_ => ?_)
           generalize wc.drew = w65 at HO_302000 BK295 BK296 BK297 BK301 HB hHeld ⊢
           refine pure_ (i := 0) (N := some 45) (v := ?_) (a' := ?_) (mb 1 16) rfl rfl (any_of HT_.out (by kernel_rfl)) (fun _ _ _ h => h) (Or.inl ⟨by rfl, ?_⟩) ?_ ?_
           rotate_left
           ·intro w'
            go_simp
            with_reducible rfl
           rotate_left
           ·simp only [Act.put, zA, zB, zC, i64_w, i32_w]
            rfl
           refine pure_ (i := 1) (N := some 46) (v := ?_) (a' := ?_) (mb 2 15) rfl rfl (any_of HT_.out (by kernel_rfl)) (fun _ _ _ h => h) (Or.inl ⟨by rfl, ?_⟩) ?_ ?_
           rotate_left
           ·intro w'
            go_simp
            with_reducible rfl
           rotate_left
           ·simp only [Act.put, zA, zB, zC, i64_w, i32_w]
            rfl
           refine take_ (i := 2) (N := some 47) (v := ?_) (a' := ?_) (mb 3 14) rfl rfl (take_ofW HT_.out HW_.out (by kernel_rfl)) (fun _ _ _ h => h) (Or.inl ⟨by rfl, ?_⟩) hHeld ?_ ?_
           rotate_left
           ·intro w' s0
            go_simp
            with_reducible rfl
           rotate_left
           ·simp only [Act.put, zA, zB, zC, i64_w, i32_w]
            rfl
           refine pure_ (i := 3) (N := some 48) (v := ?_) (a' := ?_) (mb 4 13) rfl rfl (any_of HT_.out (by kernel_rfl)) (fun _ _ _ h => h) (Or.inl ⟨by rfl, ?_⟩) ?_ ?_
           rotate_left
           ·intro w'
            go_simp
            with_reducible rfl
           rotate_left
           ·simp only [Act.put, zA, zB, zC, i64_w, i32_w]
            rfl
           refine pure_ (i := 4) (N := some 49) (v := ?_) (a' := ?_) (mb 5 12) rfl rfl (any_of HT_.out (by kernel_rfl)) (fun _ _ _ h => h) (Or.inl ⟨by rfl, ?_⟩) ?_ ?_
           rotate_left
           ·intro w'
            go_simp
            with_reducible rfl
           rotate_left
           ·simp only [Act.put, zA, zB, zC, i64_w, i32_w]
            rfl
           refine pure_ (i := 5) (N := some 50) (v := ?_) (a' := ?_) (mb 6 11) rfl rfl (any_of HT_.out (by kernel_rfl)) (fun _ _ _ h => h) (Or.inl ⟨by rfl, ?_⟩) ?_ ?_
           rotate_left
           ·intro w'
            go_simp
            with_reducible rfl
           rotate_left
           ·simp only [Act.put, zA, zB, zC, i64_w, i32_w]
            rfl
           refine pure_ (i := 6) (N := some 51) (v := undef) (a' := ?_) (mb 7 10) rfl rfl (any_of HT_.out (by kernel_rfl)) (fun _ _ _ h => h) (Or.inr ⟨by rfl, rfl⟩) ?_ ?_
           rotate_left
           ·simp only [Act.put, zA, zB, zC, i64_w, i32_w]
            rfl
           refine pure_ (i := 7) (N := some 52) (v := undef) (a' := ?_) (mb 8 9) rfl rfl (any_of HT_.out (by kernel_rfl)) (fun _ _ _ h => h) (Or.inr ⟨by rfl, rfl⟩) ?_ ?_
           rotate_left
           ·simp only [Act.put, zA, zB, zC, i64_w, i32_w]
            rfl
           refine pure_ (i := 8) (N := some 53) (v := undef) (a' := ?_) (mb 9 8) rfl rfl (any_of HT_.out (by kernel_rfl)) (fun _ _ _ h => h) (Or.inr ⟨by rfl, rfl⟩) ?_ ?_
           rotate_left
           ·simp only [Act.put, zA, zB, zC, i64_w, i32_w]
            rfl
           refine pure_ (i := 9) (N := some 54) (v := undef) (a' := ?_) (mb 10 7) rfl rfl (any_of HT_.out (by kernel_rfl)) (fun _ _ _ h => h) (Or.inr ⟨by rfl, rfl⟩) ?_ ?_
           rotate_left
           ·simp only [Act.put, zA, zB, zC, i64_w, i32_w]
            rfl
           refine pure_ (i := 10) (N := some 55) (v := undef) (a' := ?_) (mb 11 6) rfl rfl (any_of HT_.out (by kernel_rfl)) (fun _ _ _ h => h) (Or.inr ⟨by rfl, rfl⟩) ?_ ?_
           rotate_left
           ·simp only [Act.put, zA, zB, zC, i64_w, i32_w]
            rfl
           refine pure_ (i := 11) (N := some 56) (v := undef) (a' := ?_) (mb 12 5) rfl rfl (any_of HT_.out (by kernel_rfl)) (fun _ _ _ h => h) (Or.inr ⟨by rfl, rfl⟩) ?_ ?_
           rotate_left
           ·simp only [Act.put, zA, zB, zC, i64_w, i32_w]
            rfl
           refine pure_ (i := 12) (N := some 57) (v := undef) (a' := ?_) (mb 13 4) rfl rfl (any_of HT_.out (by kernel_rfl)) (fun _ _ _ h => h) (Or.inr ⟨by rfl, rfl⟩) ?_ ?_
           rotate_left
           ·simp only [Act.put, zA, zB, zC, i64_w, i32_w]
            rfl
           refine pure_ (i := 13) (N := some 58) (v := undef) (a' := ?_) (mb 14 3) rfl rfl (any_of HT_.out (by kernel_rfl)) (fun _ _ _ h => h) (Or.inr ⟨by rfl, rfl⟩) ?_ ?_
           rotate_left
           ·simp only [Act.put, zA, zB, zC, i64_w, i32_w]
            rfl
           refine pure_ (i := 14) (N := some 59) (v := undef) (a' := ?_) (mb 15 2) rfl rfl (any_of HT_.out (by kernel_rfl)) (fun _ _ _ h => h) (Or.inr ⟨by rfl, rfl⟩) ?_ ?_
           rotate_left
           ·simp only [Act.put, zA, zB, zC, i64_w, i32_w]
            rfl
           refine pure_ (i := 15) (N := some 60) (v := undef) (a' := ?_) (mb 16 1) rfl rfl (any_of HT_.out (by kernel_rfl)) (fun _ _ _ h => h) (Or.inr ⟨by rfl, rfl⟩) ?_ ?_
           rotate_left
           ·simp only [Act.put, zA, zB, zC, i64_w, i32_w]
            rfl
           refine pure_ (i := 16) (N := some 61) (v := ?_) (a' := ?_) (mb 17 0) rfl rfl (any_of HT_.out (by kernel_rfl)) (fun _ _ _ h => h) (Or.inl ⟨by rfl, ?_⟩) ?_ ?_
           rotate_left
           ·intro w'
            go_simp
            with_reducible rfl
           rotate_left
           ·simp only [Act.put, zA, zB, zC, i64_w, i32_w]
            rfl
           refine done_ (done_of HT_.out (by kernel_rfl)) ?_
           try go_wp2
           go_meet
           case rel => exact ⟨_, (false), (by first | rfl | (simp; done) | (simp [*]; done)), H', ⟨by have := HJ4.out; have := HK2.out; have := HJ54.out; first | omega | exact Nat.le_refl _⟩, ⟨by (with_reducible repeat (first | apply Kd.R_alloc | apply Kd.R_drewN | apply Kd.R_drew)); exact HO_302000.out⟩, ⟨by (with_reducible repeat (first | refine blk_drewN ?_ _ | refine blk_drew ?_ | refine blk_alloc ?_ _)); exact BK295.out⟩, ⟨by (with_reducible repeat (first | refine blk_drewN ?_ _ | refine blk_drew ?_ | refine blk_alloc ?_ _)); exact BK296.out⟩, ⟨by (with_reducible repeat (first | refine blk_drewN ?_ _ | refine blk_drew ?_ | refine blk_alloc ?_ _)); exact BK297.out⟩, ⟨by (with_reducible repeat (first | refine blk_drewN ?_ _ | refine blk_drew ?_ | refine blk_alloc ?_ _)); exact BK301.out⟩, ⟨(mH4 HB.out GE295.out GE296.out GE297.out GE301.out)⟩⟩
         case rest =>
          clear HC61
          try clear c1
          try clear c2
          try clear p2
          try clear c3
          try clear p3
          try clear q3
          try clear hx3
          try clear c4
          try clear c5
          try clear c6
          try clear p6
          try clear c8
          try clear c9
          try clear c10
          try clear c15
          try clear c16
          try clear c17
          try clear c18
          try clear c20
          try clear c22
          try clear c24
          try clear c25
          try clear c26
          try clear c29
          try clear c30
          try clear p30
          try clear q30
          try clear hx30
          try clear c33
          try clear c34
          try clear c35
          try clear c38
          try clear c39
          try clear c42
          try clear c43
          try clear c44
          try clear c47
          try clear c48
          try clear c49
          try clear c50
          try clear c52
          try clear c53
          try clear c56
          try clear c56b0
          try clear c57
          try clear c57b0
          try clear c60
          try clear c62
          try clear c62b0
          try clear c63
          try clear c63b0
          try clear p64
          try clear hcz11_0
          try clear hcz18_0
          try clear hcz27_0
          try clear hcz31_0
          try clear hcz31_1
          try clear hcz31_2
          try clear hcz36_0
          try clear hcz40_0
          try clear hcz40_1
          try clear hcz40_2
          try clear hcz45_0
          try clear hcz51_0
          try clear hcz54_0
          try clear hfz11_0
          try clear hfz18_0
          try clear hfz27_0
          try clear hfz31_0
          try clear hfz31_1
          try clear hfz31_2
          try clear hfz36_0
          try clear hfz40_0
          try clear hfz40_1
          try clear hfz40_2
          try clear hfz45_0
          try clear hfz51_0
          try clear hfz54_0
          try clear hx305_0
          try clear hx305_1
          try clear hx305_2
          try clear hx305_3
          try clear hx306_0
          try clear hx306_1
          try clear hx306_2
          try clear hx306_3
          try clear p2
          try clear p3
          try clear p30
          try clear p305
          try clear p306
          try clear q3
          try clear q30
          try clear q305
          try clear q306
          obtain ⟨kq, x61_60, rfl, HA, HJ60, HO_302000, BK295, BK296, BK297, BK301, HB⟩ := hcut
          cases kq with
          | zero => exact absurd HA.out (by simp [impl_MemPut.j3])
          | succ kj60 =>
           have H := HA.out
           clear HA
           simp only [impl_MemPut.j3] at H
           by_cases c66 : x61_60 = true
           ·subst c66
            have H1 : (if 0 ≤ x9_2 then (if x9_2 < (t298.length : Int) then (some ((t298.set (x9_2 : Int).toNat (⟨(⟨a1_0, a1_1, a1_2⟩ : S33), (rd_T35 t298 x9_2).f1⟩ : S35)), true)) else (none)) else (none)) = some (r1, r2) := by rw [if_pos rfl] at H; exact H
            clear H
            have H := H1
            clear H1
            by_cases c67 : 0 ≤ x9_2
            ·rw [if_pos c67] at H
             have c67b0 : decide (0 ≤ x9_2) = true := decide_eq_true c67
             clear c67
             by_cases c68 : x9_2 < (t298.length : Int)
             ·rw [if_pos c68] at H
              have c68b0 : decide (x9_2 < (t298.length : Int)) = true := decide_eq_true c68
              clear c68
              obtain ⟨y307, hy307⟩ : ∃ y_ : List (S35), y_ = (t298.set (x9_2 : Int).toNat (⟨(⟨a1_0, a1_1, a1_2⟩ : S33), (rd_T35 t298 x9_2).f1⟩ : S35)) := ⟨_, rfl⟩
              replace H : (some (y307, true)) = some (r1, r2) := by first | (rw [hy307]; with_reducible exact H) | (have H2_ := (Option.bind_some _ _).symm.trans H; rw [hy307]; with_reducible exact H2_) | (have H2_ := (Option.bind_some _ _).symm.trans H; with_reducible exact H2_) | with_reducible exact H | (rw [hy307]; exact H) | exact H
              have Ny307 := mS hy307
              clear hy307
              simp only [Option.some.injEq, Prod.mk.injEq] at H
              obtain ⟨rfl, rfl⟩ := H
              have hnb70 := NB301_295.out
              have hnc70 := NB295_301.out
              have hnb71 := NB301_296.out
              have hnc71 := NB296_301.out
              have hnb72 := NB301_297.out
              have hnc72 := NB297_301.out
              have hcz73_0 := mZ BK301.out 0
              have hfz73_0 := blk_frozen BK301.out 0
              have hnb74 := NB296_295.out
              have hnc74 := NB295_296.out
              have hnb75 := NB296_297.out
              have hnc75 := NB297_296.out
              have hcz76_0 := mZ BK296.out 0
              have hcz76_1 := mZ BK296.out 1
              have hcz76_2 := mZ BK296.out 2
              have hfz76_0 := blk_frozen BK296.out 0
              have hfz76_1 := blk_frozen BK296.out 1
              have hfz76_2 := blk_frozen BK296.out 2
              have p69 : 0 ≤ (x9_2 : Int) := of_decide_eq_true (by first | (with_reducible assumption) | assumption)
              have q69 : (x9_2 : Int) < ((t298.length : Int) : Int) := of_decide_eq_true (by first | (with_reducible assumption) | assumption)
              obtain ⟨go69, co69, eo69, gb69, gl69, cl69, HG69⟩ := Kd.R_form HO_302000.out (by omega)
              (first | cases eo69 | (injection eo69 with ea_ en_ ec_; (first | subst ea_ | (injection ea_ with ea_; subst ea_)); subst ec_; clear en_))
              have GB69 := mS gb69
              have GG69 := mS HG69
              clear gb69 gl69 HG69
              obtain ⟨ce69, hcl69, hM69, hcc69, hfr69⟩ := Kd.R_elem HO_302000.out z35 (x9_2 : Int) p69 q69
              obtain rfl := k35_openM hM69
              have hx69_0 : wc.cell? ⟨go69, (x9_2 : Int).toNat * 4, none⟩ = some (.string ((rd_T35 t298 x9_2).f0.f0)) := hcc69 0 _ rfl
              have hx69_1 : wc.cell? ⟨go69, (x9_2 : Int).toNat * 4 + 1, none⟩ = some (.string ((rd_T35 t298 x9_2).f0.f1)) := hcc69 1 _ rfl
              have hx69_2 : wc.cell? ⟨go69, (x9_2 : Int).toNat * 4 + 2, none⟩ = some (.bool ((rd_T35 t298 x9_2).f0.f2)) := hcc69 2 _ rfl
              have hx69_3 : wc.cell? ⟨go69, (x9_2 : Int).toNat * 4 + 3, none⟩ = some (.int .i64 ((rd_T35 t298 x9_2).f1)) := hcc69 3 _ rfl
              have hf69_0 : wc.frozen? ⟨go69, (x9_2 : Int).toNat * 4, none⟩ = false := hfr69 0
              have hf69_1 : wc.frozen? ⟨go69, (x9_2 : Int).toNat * 4 + 1, none⟩ = false := hfr69 1
              have hf69_2 : wc.frozen? ⟨go69, (x9_2 : Int).toNat * 4 + 2, none⟩ = false := hfr69 2
              have hf69_3 : wc.frozen? ⟨go69, (x9_2 : Int).toNat * 4 + 3, none⟩ = false := hfr69 3
              clear hcl69 hcc69 hfr69 hM69
              replace p69 := eq_true p69
              replace q69 := eq_true q69
              have HX77 := mS (show Kd.R k35 35 wc w.heap.size (fun _ => True) (.slice (some ⟨go69, 0, none⟩) t298.length co14) t298 from (mR HO_302000.out))
              obtain ⟨ce77, hcl77, hM77, hcc77, hfr77⟩ := Kd.R_elem HX77.out z35 (x9_2 : Int) (of_decide_eq_true (by first | (with_reducible assumption) | assumption)) (by have h_ : (x9_2 : Int) < ((t298.length : Int) : Int) := of_decide_eq_true (by first | (with_reducible assumption) | assumption); first | exact h_ | (have e_ := (Kd.R_reads' HO_302000.out).1; omega) | simpa using h_)
              obtain rfl := k35_openM hM77
              have HP77 := Kd.R_seg HX77.out (x9_2 : Int) (of_decide_eq_true (by first | (with_reducible assumption) | assumption)) (by have h_ : (x9_2 : Int) < ((t298.length : Int) : Int) := of_decide_eq_true (by first | (with_reducible assumption) | assumption); first | exact h_ | (have e_ := (Kd.R_reads' HO_302000.out).1; omega) | simpa using h_) (seg := [.string a1_0, .string a1_1, .bool a1_2]) (j := 0) hcl77 hcc77 (show 3 ≤ 4 from by decide) (x' := (⟨(⟨a1_0, a1_1, a1_2⟩ : S33), (rd_T35 t298 x9_2).f1⟩ : S35)) (k35_mkM _ _ _ (⟨(⟨a1_0, a1_1, a1_2⟩ : S33), (rd_T35 t298 x9_2).f1⟩ : S35) ) (fun _ hk => hk)
              have hx77_0 := hcc77 0 _ rfl
              (try simp only [show (k35).sz = 4 from rfl, Nat.mul_one, Nat.add_zero] at hx77_0)
              have hf77_0 := hfr77 0
              (try simp only [show (k35).sz = 4 from rfl, Nat.mul_one, Nat.add_zero] at hf77_0)
              have hx77_1 := hcc77 1 _ rfl
              (try simp only [show (k35).sz = 4 from rfl, Nat.mul_one, Nat.add_zero] at hx77_1)
              have hf77_1 := hfr77 1
              (try simp only [show (k35).sz = 4 from rfl, Nat.mul_one, Nat.add_zero] at hf77_1)
              have hx77_2 := hcc77 2 _ rfl
              (try simp only [show (k35).sz = 4 from rfl, Nat.mul_one, Nat.add_zero] at hx77_2)
              have hf77_2 := hfr77 2
              (try simp only [show (k35).sz = 4 from rfl, Nat.mul_one, Nat.add_zero] at hf77_2)
              clear hcl77 hcc77 hfr77 hM77
              go_wp2_with (first | ((with_reducible refine gate_store (t := 33) (p := 67) rfl ?_); refine store_event (t := 33) (p := 67) (v := ?vo_w78) (w1 := (((wc.setCell ⟨go69, (x9_2 : Int).toNat * 4, none⟩ (.string a1_0)).setCell ⟨go69, (x9_2 : Int).toNat * 4 + 1, none⟩ (.string a1_1)).setCell ⟨go69, (x9_2 : Int).toNat * 4 + 2, none⟩ (.bool a1_2))) ?hg ?ho ?hn ?hr ?_; (case ho => rfl); (case hg => rfl); (case hn => rfl); (case hr => first | (go_simp; done) | (go_simp; rfl)); intro w78 hw; have hg : wc.grownBy w78 (some go69) := (by rw [hw]; exact HP77.2); have hp_ : Kd.R k35 35 w78 w.heap.size (fun _ => True) (.slice (some ⟨go69, 0, none⟩) t298.length co14) y307 := (by rw [hw, Ny307.out]; exact HP77.1); clear HP77; replace BK295 := mS (blk_grown (g := gb295) (o := .cells #[.slice A0_0 l0_0.length c0_0] 26 (0, 0)) (mK BK295.out) hg (Kd.R_ne HO_302000.out BK295.out (by decide))); replace BK296 := mS (blk_grown (g := gb296) (o := .cells #[.string a1_0, .string a1_1, .bool a1_2] 33 (0, 0)) (mK BK296.out) hg (Kd.R_ne HO_302000.out BK296.out (by decide))); replace BK297 := mS (blk_grown (g := gb297) (o := .cells #[.slice none 0 0] 26 (0, 0)) (mK BK297.out) hg (Kd.R_ne HO_302000.out BK297.out (by decide))); replace BK301 := mS (blk_grown (g := gb301) (o := .cells #[.slice (some ⟨go69, 0, none⟩) t298.length co14] 26 (0, 0)) (mK BK301.out) hg (Kd.R_ne HO_302000.out BK301.out (by decide))); replace HO_302000 := mS (hp_); replace HB := mS ((by rw [hw]; exact below_set (below_set (below_set (HB.out) GB69.out) GB69.out) GB69.out : Below w.heap.size w w78)); clear hg hw hp_; have hcz79_0 := mZ BK301.out 0; have hfz79_0 := blk_frozen BK301.out 0; have hnb80 := NB297_295.out; have hnc80 := NB295_297.out; have hcz81_0 := mZ BK297.out 0; have hfz81_0 := blk_frozen BK297.out 0))
              refine bodyPost_ret (results_ct rfl _ _ gb297 26 #[.slice (some ⟨go69, 0, none⟩) t298.length co14] (0, 0) _ rfl (by (with_reducible repeat (first | refine blk_drewN ?_ _ | refine blk_drew ?_ | refine blk_alloc ?_ _)); refine blk_put (cs := #[.slice none 0 0]) ?_ 0 _ rfl; (with_reducible repeat (first | refine blk_drewN ?_ _ | refine blk_drew ?_ | refine blk_alloc ?_ _)); exact BK297.out) Try.underlying26 rfl (by kernel_rfl)) rfl ?_
              exact ⟨_, by first | rfl | (simp [errW_none, errW_some] <;> rfl) | (simp [*, errW_none, errW_some] <;> rfl), by (with_reducible repeat (first | apply Kd.R_alloc | apply Kd.R_drewN | apply Kd.R_drew)); exact Kd.R_mono (Kd.R_far (p := ⟨gb297, 0, none⟩) (Kd.R_types HO_302000.out BK297.out (by decide)) (fun _ hk => hk.2) (.slice (some ⟨go69, 0, none⟩) t298.length co14)) (fun _ hk => trivial), (mH4 HB.out GE295.out GE296.out GE297.out GE301.out)⟩
             ·rw [if_neg c68] at H
              exact absurd H (by simp)
            ·rw [if_neg c67] at H
             exact absurd H (by simp)
           ·replace c66 := Bool.eq_false_iff.mpr c66
            subst c66
            have H1 : (if (l0_0.length : Int) ≥ 60 then (some (t298, false)) else (if 0 ≤ x9_2 then (if x9_2 ≤ (l0_0.length : Int) then ((some (l0_0.take (x9_2 : Int).toNat : List (S35))).bind fun y308 => (if ([] : List (S35)).length + y308.length < 2932031007402 then ((some (([] : List (S35)) ++ y308 : List (S35))).bind fun y312 => ((some (([(⟨(⟨a1_0, a1_1, a1_2⟩ : S33), a2⟩ : S35)] : List (S35)) : List (S35))).bind fun y315 => (if y312.length + y315.length < 2932031007402 then ((some (y312 ++ y315 : List (S35))).bind fun y318 => ((some (l0_0.drop (x9_2 : Int).toNat : List (S35))).bind fun y321 => (if y318.length + y321.length < 2932031007402 then (some ((y318 ++ y321), true)) else (none)))) else (none)))) else (none))) else (none)) else (none))) = some (r1, r2) := by rw [if_neg (show ¬ (false = true) by decide)] at H; exact H
            clear H
            have H := H1
            clear H1
            by_cases c82 : (l0_0.length : Int) ≥ 60
            ·rw [if_pos c82] at H
             have c82b0 : decide (60 ≤ (l0_0.length : Int)) = true := decide_eq_true c82
             have c82b1 : decide (60 ≤ l0_0.length) = true := decide_eq_true (by omega)
             clear c82
             simp only [Option.some.injEq, Prod.mk.injEq] at H
             obtain ⟨rfl, rfl⟩ := H
             have hnb83 := NB295_296.out
             have hnc83 := NB296_295.out
             have hnb84 := NB295_297.out
             have hnc84 := NB297_295.out
             have hnb85 := NB295_301.out
             have hnc85 := NB301_295.out
             have hcz86_0 := mZ BK295.out 0
             have hfz86_0 := blk_frozen BK295.out 0
             have hnb87 := NB301_296.out
             have hnc87 := NB296_301.out
             have hnb88 := NB301_297.out
             have hnc88 := NB297_301.out
             have hcz89_0 := mZ BK301.out 0
             have hfz89_0 := blk_frozen BK301.out 0
             have hnb90 := NB297_296.out
             have hnc90 := NB296_297.out
             have hcz91_0 := mZ BK297.out 0
             have hfz91_0 := blk_frozen BK297.out 0
             go_wp2
             refine bodyPost_ret (results_ct rfl _ _ gb297 26 #[.slice Ao14 t298.length co14] (0, 0) _ rfl (by (with_reducible repeat (first | refine blk_drewN ?_ _ | refine blk_drew ?_ | refine blk_alloc ?_ _)); refine blk_put (cs := #[.slice none 0 0]) ?_ 0 _ rfl; (with_reducible repeat (first | refine blk_drewN ?_ _ | refine blk_drew ?_ | refine blk_alloc ?_ _)); exact BK297.out) Try.underlying26 rfl (by kernel_rfl)) rfl ?_
             exact ⟨_, by first | rfl | (simp [errW_none, errW_some] <;> rfl) | (simp [*, errW_none, errW_some] <;> rfl), by (with_reducible repeat (first | apply Kd.R_alloc | apply Kd.R_drewN | apply Kd.R_drew)); exact Kd.R_mono (Kd.R_far (p := ⟨gb297, 0, none⟩) (Kd.R_types HO_302000.out BK297.out (by decide)) (fun _ hk => hk.2) (.slice Ao14 t298.length co14)) (fun _ hk => trivial), (mH4 HB.out GE295.out GE296.out GE297.out GE301.out)⟩
            ·rw [if_neg c82] at H
             have c82b0 : decide (60 ≤ (l0_0.length : Int)) = false := decide_eq_false c82
             have c82b1 : decide (60 ≤ l0_0.length) = false := decide_eq_false (by omega)
             clear c82
             by_cases c92 : 0 ≤ x9_2
             ·rw [if_pos c92] at H
              have c92b0 := eq_true c92
              have c92b1 : decide (0 ≤ x9_2) = true := decide_eq_true c92
              clear c92
              by_cases c93 : x9_2 ≤ (l0_0.length : Int)
              ·rw [if_pos c93] at H
               have c93b0 := eq_true c93
               have c93b1 : decide (x9_2 ≤ (l0_0.length : Int)) = true := decide_eq_true c93
               clear c93
               obtain ⟨y308, hy308⟩ : ∃ y_ : List (S35), y_ = (l0_0.take (x9_2 : Int).toNat) := ⟨_, rfl⟩
               replace H : (if ([] : List (S35)).length + y308.length < 2932031007402 then ((some (([] : List (S35)) ++ y308 : List (S35))).bind fun y312 => ((some (([(⟨(⟨a1_0, a1_1, a1_2⟩ : S33), a2⟩ : S35)] : List (S35)) : List (S35))).bind fun y315 => (if y312.length + y315.length < 2932031007402 then ((some (y312 ++ y315 : List (S35))).bind fun y318 => ((some (l0_0.drop (x9_2 : Int).toNat : List (S35))).bind fun y321 => (if y318.length + y321.length < 2932031007402 then (some ((y318 ++ y321), true)) else (none)))) else (none)))) else (none)) = some (r1, r2) := by first | (rw [hy308]; with_reducible exact H) | (have H2_ := (Option.bind_some _ _).symm.trans H; rw [hy308]; with_reducible exact H2_) | (have H2_ := (Option.bind_some _ _).symm.trans H; with_reducible exact H2_) | with_reducible exact H | (rw [hy308]; exact H) | exact H
               have Ny308 := mS hy308
               clear hy308
               by_cases c94 : ([] : List (S35)).length + y308.length < 2932031007402
               ·rw [if_pos c94] at H
                have LMc94 := mS c94
                clear c94
                obtain ⟨y312, hy312⟩ : ∃ y_ : List (S35), y_ = (([] : List (S35)) ++ y308) := ⟨_, rfl⟩
                replace H : ((some (([(⟨(⟨a1_0, a1_1, a1_2⟩ : S33), a2⟩ : S35)] : List (S35)) : List (S35))).bind fun y315 => (if y312.length + y315.length < 2932031007402 then ((some (y312 ++ y315 : List (S35))).bind fun y318 => ((some (l0_0.drop (x9_2 : Int).toNat : List (S35))).bind fun y321 => (if y318.length + y321.length < 2932031007402 then (some ((y318 ++ y321), true)) else (none)))) else (none))) = some (r1, r2) := by first | (rw [hy312]; with_reducible exact H) | (have H2_ := (Option.bind_some _ _).symm.trans H; rw [hy312]; with_reducible exact H2_) | (have H2_ := (Option.bind_some _ _).symm.trans H; with_reducible exact H2_) | with_reducible exact H | (rw [hy312]; exact H) | exact H
                have Ny312 := mS hy312
                clear hy312
                obtain ⟨y315, hy315⟩ : ∃ y_ : List (S35), y_ = (([(⟨(⟨a1_0, a1_1, a1_2⟩ : S33), a2⟩ : S35)] : List (S35))) := ⟨_, rfl⟩
                replace H : (if y312.length + y315.length < 2932031007402 then ((some (y312 ++ y315 : List (S35))).bind fun y318 => ((some (l0_0.drop (x9_2 : Int).toNat : List (S35))).bind fun y321 => (if y318.length + y321.length < 2932031007402 then (some ((y318 ++ y321), true)) else (none)))) else (none)) = some (r1, r2) := by first | (rw [hy315]; with_reducible exact H) | (have H2_ := (Option.bind_some _ _).symm.trans H; rw [hy315]; with_reducible exact H2_) | (have H2_ := (Option.bind_some _ _).symm.trans H; with_reducible exact H2_) | with_reducible exact H | (rw [hy315]; exact H) | exact H
                have Ny315 := mS hy315
                clear hy315
                by_cases c95 : y312.length + y315.length < 2932031007402
                ·rw [if_pos c95] at H
                 have LMc95 := mS c95
                 clear c95
                 obtain ⟨y318, hy318⟩ : ∃ y_ : List (S35), y_ = (y312 ++ y315) := ⟨_, rfl⟩
                 replace H : ((some (l0_0.drop (x9_2 : Int).toNat : List (S35))).bind fun y321 => (if y318.length + y321.length < 2932031007402 then (some ((y318 ++ y321), true)) else (none))) = some (r1, r2) := by first | (rw [hy318]; with_reducible exact H) | (have H2_ := (Option.bind_some _ _).symm.trans H; rw [hy318]; with_reducible exact H2_) | (have H2_ := (Option.bind_some _ _).symm.trans H; with_reducible exact H2_) | with_reducible exact H | (rw [hy318]; exact H) | exact H
                 have Ny318 := mS hy318
                 clear hy318
                 have c96b0 := eq_true (of_decide_eq_true (by first | (with_reducible assumption) | assumption) : 0 ≤ x9_2)
                 have c97b0 := eq_true (of_decide_eq_true (by first | (with_reducible assumption) | assumption) : x9_2 ≤ (l0_0.length : Int))
                 obtain ⟨y321, hy321⟩ : ∃ y_ : List (S35), y_ = (l0_0.drop (x9_2 : Int).toNat) := ⟨_, rfl⟩
                 replace H : (if y318.length + y321.length < 2932031007402 then (some ((y318 ++ y321), true)) else (none)) = some (r1, r2) := by first | (rw [hy321]; with_reducible exact H) | (have H2_ := (Option.bind_some _ _).symm.trans H; rw [hy321]; with_reducible exact H2_) | (have H2_ := (Option.bind_some _ _).symm.trans H; with_reducible exact H2_) | with_reducible exact H | (rw [hy321]; exact H) | exact H
                 have Ny321 := mS hy321
                 clear hy321
                 by_cases c98 : y318.length + y321.length < 2932031007402
                 ·rw [if_pos c98] at H
                  have LMc98 := mS c98
                  clear c98
                  obtain ⟨y325, hy325⟩ : ∃ y_ : List (S35), y_ = (y318 ++ y321) := ⟨_, rfl⟩
                  replace H : (some (y325, true)) = some (r1, r2) := by first | (rw [hy325]; with_reducible exact H) | (have H2_ := (Option.bind_some _ _).symm.trans H; rw [hy325]; with_reducible exact H2_) | (have H2_ := (Option.bind_some _ _).symm.trans H; with_reducible exact H2_) | with_reducible exact H | (rw [hy325]; exact H) | exact H
                  have Ny325 := mS hy325
                  clear hy325
                  simp only [Option.some.injEq, Prod.mk.injEq] at H
                  obtain ⟨rfl, rfl⟩ := H
                  have hnb99 := NB295_296.out
                  have hnc99 := NB296_295.out
                  have hnb100 := NB295_297.out
                  have hnc100 := NB297_295.out
                  have hnb101 := NB295_301.out
                  have hnc101 := NB301_295.out
                  have hcz102_0 := mZ BK295.out 0
                  have hfz102_0 := blk_frozen BK295.out 0
                  try go_wp2
                  have n0_ := mS (Kd.R_drew HO_302000.out)
                  have n1_ := mS (blk_drew BK295.out)
                  have n2_ := mS (blk_drew BK296.out)
                  have n3_ := mS (blk_drew BK297.out)
                  have n4_ := mS (blk_drew BK301.out)
                  have n5_ := mS (below_drew1 HB.out)
                  clear HO_302000
                  clear BK295
                  clear BK296
                  clear BK297
                  clear BK301
                  clear HB
                  have HO_302000 := n0_
                  have BK295 := n1_
                  have BK296 := n2_
                  have BK297 := n3_
                  have BK301 := n4_
                  have HB := n5_
                  clear n0_ n1_ n2_ n3_ n4_ n5_
                  have q104 : (x9_2 : Int) ≤ ((l0_0.length : Int) : Int) := of_decide_eq_true (by first | (with_reducible assumption) | assumption)
                  obtain ⟨i0104, hi0104, _, hsz104, _⟩ := info_parts info35
                  have hroom104 : l0_0.length ≤ c0_0 := HC0_0.out
                  have hC104 : Kd.C k35 _ A0_0 l0_0.length l0_0 := HR0_0.out
                  have hcut104 := cut_to (P := Try.prog) 24 35 .i64 Try.underlying24 hi0104 A0_0 l0_0.length c0_0 x9_2 (of_decide_eq_true (by first | (with_reducible assumption) | assumption)) q104 hroom104
                  have hr104 := Kd.C_take (m := (x9_2 : Int).toNat) hC104 (by omega)
                  have hy104 : y308.length = (x9_2 : Int).toNat := (by rw [Ny308.out, List.length_take]; omega)
                  rw [← Ny308.out] at hr104
                  rw [← hy104] at hcut104
                  have HR311 := mS hr104
                  have HC311 := mS (show y308.length ≤ c0_0 from by omega)
                  clear hr104 hC104 hroom104 hi0104 hsz104
                  have KY104 := mS hy104
                  clear hy104
                  replace q104 := eq_true q104
                  have q105 : (x9_2 : Int) ≤ ((l0_0.length : Int) : Int) := of_decide_eq_true (by first | (with_reducible assumption) | assumption)
                  obtain ⟨i0105, hi0105, _, hsz105, _⟩ := info_parts info35
                  have hroom105 : l0_0.length ≤ c0_0 := HC0_0.out
                  have hC105 : Kd.C k35 _ A0_0 l0_0.length l0_0 := HR0_0.out
                  have q0105 : (0 : Int) ≤ (x9_2 : Int) := of_decide_eq_true (by first | (with_reducible assumption) | assumption)
                  have hcut105 := cut_from (P := Try.prog) 24 35 .i64 Try.underlying24 hi0105 4 hsz105 A0_0 l0_0.length c0_0 x9_2 q0105 q105
                  have hr105 := Kd.C_drop (m := (x9_2 : Int).toNat) (c := c0_0) hC105 (by omega) hroom105
                  obtain ⟨A105, hA105⟩ : ∃ A1, A1 = (if c0_0 = (x9_2 : Int).toNat then A0_0 else (A0_0 : Option Addr).map (·.add ((x9_2 : Int).toNat * 4))) := ⟨_, rfl⟩
                  obtain ⟨c105, hc105⟩ : ∃ c1, c1 = c0_0 - (x9_2 : Int).toNat := ⟨_, rfl⟩
                  have hy105 : y321.length = l0_0.length - (x9_2 : Int).toNat := (by rw [Ny321.out, List.length_drop] <;> omega)
                  rw [show (l0_0).drop (x9_2 : Int).toNat = y321 from Ny321.out.symm] at hr105
                  replace hr105 : Kd.C k35 _ A105 y321.length y321 := (by rw [hA105]; exact hr105)
                  rw [← hy105, ← hA105, ← hc105] at hcut105
                  have HR324 := mS hr105
                  have HC324 := mS (show y321.length ≤ c105 from by rw [hy105, hc105]; exact Nat.sub_le_sub_right hroom105 _)
                  clear hr105 hC105 hroom105 hi0105 hsz105 hc105
                  have KY105 := mS hy105
                  have KA105 := mS hA105
                  clear hy105 hA105
                  replace q105 := eq_true q105
                  refine start_ (n := 18) (S := fun w' => w'.cell? ⟨gb295, 0, none⟩ = some (.slice A0_0 l0_0.length c0_0) ∧ w'.cell? ⟨gb296, 0, none⟩ = some (.string a1_0) ∧ w'.cell? ⟨gb296, 1, none⟩ = some (.string a1_1) ∧ w'.cell? ⟨gb296, 2, none⟩ = some (.bool a1_2)) (ds := []) (mb 0 18) (by kernel_rfl) rfl rfl ⟨mZ BK295.out 0, mZ BK296.out 0, mZ BK296.out 1, mZ BK296.out 2⟩ (fun hHeld => ?_); refine with_tabW impl_MemPut.tab12 impl_MemPut.bits12 (fun HT_ HW_ => ?_)
                  generalize wc.drew = w103 at HO_302000 BK295 BK296 BK297 BK301 HB HR311 HR324 hHeld ⊢
                  refine pure_ (i := 0) (N := some 74) (v := ?_) (a' := ?_) (mb 1 17) rfl rfl (any_of HT_.out (by kernel_rfl)) (fun _ _ _ h => h) (Or.inl ⟨by rfl, ?_⟩) ?_ ?_
                  rotate_left
                  ·intro w'
                   go_simp
                   with_reducible rfl
                  rotate_left
                  ·simp only [Act.put, zA, zB, zC, i64_w, i32_w]
                   rfl
                  refine pure_ (i := 2) (N := some 76) (v := ?_) (a' := ?_) #[true, false, true, false, false, false, false, false, false, false, false, false, false, false, false, false, false, false] rfl rfl (any_of HT_.out (by kernel_rfl)) (fun _ _ _ h => h) (Or.inl ⟨by rfl, ?_⟩) ?_ ?_
                  rotate_left
                  ·intro w'
                   go_simp
                   with_reducible rfl
                  rotate_left
                  ·simp only [Act.put, zA, zB, zC, i64_w, i32_w]
                   rfl
                  refine pure_ (i := 6) (N := some 80) (v := ?_) (a' := ?_) #[true, false, true, false, false, false, true, false, false, false, false, false, false, false, false, false, false, false] rfl rfl (any_of HT_.out (by kernel_rfl)) (fun _ _ _ h => h) (Or.inl ⟨by rfl, ?_⟩) ?_ ?_
                  rotate_left
                  ·intro w'
                   go_simp
                   with_reducible rfl
                  rotate_left
                  ·simp only [Act.put, zA, zB, zC, i64_w, i32_w]
                   rfl
                  refine pure_ (i := 10) (N := some 84) (v := ?_) (a' := ?_) #[true, false, true, false, false, false, true, false, false, false, true, false, false, false, false, false, false, false] rfl rfl (any_of HT_.out (by kernel_rfl)) (fun _ _ _ h => h) (Or.inl ⟨by rfl, ?_⟩) ?_ ?_
                  rotate_left
                  ·intro w'
                   go_simp
                   with_reducible rfl
                  rotate_left
                  ·simp only [Act.put, zA, zB, zC, i64_w, i32_w]
                   rfl
                  refine pure_ (i := 12) (N := some 86) (v := ?_) (a' := ?_) #[true, false, true, false, false, false, true, false, false, false, true, false, true, false, false, false, false, false] rfl rfl (any_of HT_.out (by kernel_rfl)) (fun _ _ _ h => h) (Or.inl ⟨by rfl, ?_⟩) ?_ ?_
                  rotate_left
                  ·intro w'
                   go_simp
                   with_reducible rfl
                  rotate_left
                  ·simp only [Act.put, zA, zB, zC, i64_w, i32_w]
                   rfl
                  refine take_ (i := 1) (N := some 75) (v := ?_) (a' := ?_) #[true, true, true, false, false, false, true, false, false, false, true, false, true, false, false, false, false, false] rfl rfl (take_ofW HT_.out HW_.out (by kernel_rfl)) (fun _ _ _ h => h) (Or.inl ⟨by rfl, ?_⟩) hHeld ?_ ?_
                  rotate_left
                  ·rintro w' ⟨s0, s1, s2, s3⟩
                   go_simp
                   with_reducible rfl
                  rotate_left
                  ·simp only [Act.put, zA, zB, zC, i64_w, i32_w]
                   rfl
                  refine pure_ (i := 3) (N := some 77) (v := ?_) (a' := ?_) #[true, true, true, true, false, false, true, false, false, false, true, false, true, false, false, false, false, false] rfl rfl (any_of HT_.out (by kernel_rfl)) (fun _ _ _ h => h) (Or.inl ⟨by rfl, ?_⟩) ?_ ?_
                  rotate_left
                  ·intro w'
                   go_simp
                   with_reducible rfl
                  rotate_left
                  ·simp only [Act.put, zA, zB, zC, i64_w, i32_w]
                   rfl
                  refine take_ (i := 5) (N := some 79) (v := ?_) (a' := ?_) #[true, true, true, true, false, true, true, false, false, false, true, false, true, false, false, false, false, false] rfl rfl (take_ofW HT_.out HW_.out (by kernel_rfl)) (fun _ _ _ h => h) (Or.inl ⟨by rfl, ?_⟩) hHeld ?_ ?_
                  rotate_left
                  ·rintro w' ⟨s0, s1, s2, s3⟩
                   go_simp
                   with_reducible rfl
                  rotate_left
                  ·simp only [Act.put, zA, zB, zC, i64_w, i32_w]
                   rfl
                  refine pure_ (i := 7) (N := some 81) (v := ?_) (a' := ?_) #[true, true, true, true, false, true, true, true, false, false, true, false, true, false, false, false, false, false] rfl rfl (any_of HT_.out (by kernel_rfl)) (fun _ _ _ h => h) (Or.inl ⟨by rfl, ?_⟩) ?_ ?_
                  rotate_left
                  ·intro w'
                   go_simp
                   with_reducible rfl
                  rotate_left
                  ·simp only [Act.put, zA, zB, zC, i64_w, i32_w]
                   rfl
                  refine take_ (i := 11) (N := some 85) (v := ?_) (a' := ?_) #[true, true, true, true, false, true, true, true, false, false, true, true, true, false, false, false, false, false] rfl rfl (take_ofW HT_.out HW_.out (by kernel_rfl)) (fun _ _ _ h => h) (Or.inl ⟨by rfl, ?_⟩) hHeld ?_ ?_
                  rotate_left
                  ·rintro w' ⟨s0, s1, s2, s3⟩
                   go_simp
                   with_reducible rfl
                  rotate_left
                  ·simp only [Act.put, zA, zB, zC, i64_w, i32_w]
                   rfl
                  refine pure_ (i := 13) (N := some 87) (v := ?_) (a' := ?_) #[true, true, true, true, false, true, true, true, false, false, true, true, true, true, false, false, false, false] rfl rfl (any_of HT_.out (by kernel_rfl)) (fun _ _ _ h => h) (Or.inl ⟨by rfl, ?_⟩) ?_ ?_
                  rotate_left
                  ·intro w'
                   go_simp
                   with_reducible rfl
                  rotate_left
                  ·simp only [Act.put, zA, zB, zC, i64_w, i32_w]
                   rfl
                  refine join_ (σ := Value × Value) 5 #[true, true, true, true, true, true, true, true, true, false, true, true, true, true, false, false, false, false] (fun s_ => [(78, s_.1), (82, s_.2)]) (fun s_ w' => (w'.cell? ⟨gb295, 0, none⟩ = some (.slice A0_0 l0_0.length c0_0) ∧ w'.cell? ⟨gb296, 0, none⟩ = some (.string a1_0) ∧ w'.cell? ⟨gb296, 1, none⟩ = some (.string a1_1) ∧ w'.cell? ⟨gb296, 2, none⟩ = some (.bool a1_2)) ∧ (Kd.R k35 35 w' w.heap.size (fun k_ => some k_ ≠ (s_.2 : Value).ownBlock ∧ some k_ ≠ (.slice Ao14 t298.length co14 : Value).ownBlock) s_.1 y312) ∧ (Kd.R k35 35 w' w.heap.size (fun k_ => some k_ ≠ (s_.1 : Value).ownBlock ∧ some k_ ≠ (.slice Ao14 t298.length co14 : Value).ownBlock) s_.2 y315) ∧ (Kd.R k35 35 w' w.heap.size (fun k_ => some k_ ≠ (s_.1 : Value).ownBlock ∧ some k_ ≠ (s_.2 : Value).ownBlock) (.slice Ao14 t298.length co14) t298) ∧ (w'.heap[gb295]? = some (.cells #[.slice A0_0 l0_0.length c0_0] 26 (0, 0))) ∧ (w'.heap[gb296]? = some (.cells #[.string a1_0, .string a1_1, .bool a1_2] 33 (0, 0))) ∧ (w'.heap[gb297]? = some (.cells #[.slice none 0 0] 26 (0, 0))) ∧ (w'.heap[gb301]? = some (.cells #[.slice Ao14 t298.length co14] 26 (0, 0))) ∧ (Below w.heap.size w w')) ?_ ?_
                  rotate_left
                  ·intro hCont
                   refine two_ (i := 4) (j := 8) (Ni := some 78) (Nj := some 82) #[true, true, true, true, true, true, true, true, false, false, true, true, true, true, false, false, false, false] #[true, true, true, true, false, true, true, true, true, false, true, true, true, true, false, false, false, false] rfl rfl rfl rfl (two_of HT_.out (by kernel_rfl)) (by decide) (by decide) (fun K hK => ?_) (fun K hK => ?_)
                   ·skip
                    refine Kd.R_append_rows_step k35 (w0 := w) w.heap.size rfl (.const (.slice none 0 0)) (.tmp 77) 24 35 (.agg #[(.string ⟨#[]⟩), (.string ⟨#[]⟩), (.bool false), (.int .i64 0)]) 48 rfl Try.underlying24 info35 rfl (by decide) (by omega) (.slice none 0 0) ([] : List (S35)) y308 _ _ _ (fun k_ => some k_ ≠ (.slice Ao14 t298.length co14 : Value).ownBlock) (fun _ => False) rfl rfl ?aO ?aR (fun _ _ h => h) (fun _ h => h.elim) ?aF ?aB ?aS ?aL ?_
                    (case aR => repeat (first | exact (Kd.C_below HR311.out HB.out) | (with_reducible refine Kd.C_alloc ?_ _) | (with_reducible refine Kd.C_drewN ?_ _) | (with_reducible refine Kd.C_drew ?_)))
                    (case aB => exact (mH4 HB.out GE295.out GE296.out GE297.out GE301.out))
                    (case aF => exact (fun k_ hk => Kd.fresh' (Kd.R_lt (mR HO_302000.out)) k_ hk))
                    (case aO => exact ((Kd.R_nil _ _ _ _ (fun k_ => some k_ ≠ (.slice Ao14 t298.length co14 : Value).ownBlock))))
                    (case aS => exact (below_size (mH4 HB.out GE295.out GE296.out GE297.out GE301.out)))
                    (case aL => have := LMc94.out; omega)
                    intro v313 w106 ho hb hg hat
                    rw [← Ny312.out] at ho
                    have n0_ := mS (Kd.R_after (Kd.R_apart_nil (mR HO_302000.out)) hg hat)
                    have n1_ := mS (blk_grown (g := gb295) (o := .cells #[.slice A0_0 l0_0.length c0_0] 26 (0, 0)) (mK BK295.out) hg (by simp [Value.ownBlock]))
                    have n2_ := mS (blk_grown (g := gb296) (o := .cells #[.string a1_0, .string a1_1, .bool a1_2] 33 (0, 0)) (mK BK296.out) hg (by simp [Value.ownBlock]))
                    have n3_ := mS (blk_grown (g := gb297) (o := .cells #[.slice none 0 0] 26 (0, 0)) (mK BK297.out) hg (by simp [Value.ownBlock]))
                    have n4_ := mS (blk_grown (g := gb301) (o := .cells #[.slice Ao14 t298.length co14] 26 (0, 0)) (mK BK301.out) hg (by simp [Value.ownBlock]))
                    have n5_ := mS (hb)
                    have n6_ := mS (ho)
                    clear HO_302000
                    clear BK295
                    clear BK296
                    clear BK297
                    clear BK301
                    clear HB
                    have HO_302000 := n0_
                    have BK295 := n1_
                    have BK296 := n2_
                    have BK297 := n3_
                    have BK301 := n4_
                    have HB := n5_
                    have HO314 := n6_
                    clear n0_ n1_ n2_ n3_ n4_ n5_ n6_
                    clear ho hb hg hat
                    refine hK.out _ _ ⟨mZ BK295.out 0, mZ BK296.out 0, mZ BK296.out 1, mZ BK296.out 2⟩ (fun hHeld => ?_)
                    clear hK K
                    refine norm_ (a' := ?_) ?_ ?_
                    rotate_left
                    ·show Act.put _ (some 78) _ = _
                     simp only [Act.put, zA, zB, zC, i64_w, i32_w]
                     rfl
                    refine one_ (i := 8) (N := some 82) #[true, true, true, true, true, true, true, true, true, false, true, true, true, true, false, false, false, false] rfl rfl (one_of HT_.out (by kernel_rfl)) (by decide) (fun K hK => ?_)
                    refine Kd.R_lit_step k35 _ 35 ?hg (N := 82) ?hd (xs := ([(⟨(⟨a1_0, a1_1, a1_2⟩ : S33), a2⟩ : S35)] : List (S35))) (inner := [.string a1_0, .string a1_1, .bool a1_2, .int .i64 a2]) (ok := fun _ => True) (okp := fun _ => True) ?hr ?hp (fun _ hk => hk) trivial (Below.refl _ _) (Nat.le_refl _) (by simp) ?_; (case hd => rfl); (case hg => rfl); (case hr => first | (go_simp; done) | (go_simp; rfl)); (case hp => exact (Reps.c4 (show Kd.M k35 _ _ _ (⟨(⟨a1_0, a1_1, a1_2⟩ : S33), a2⟩ : S35) [.string a1_0, .string a1_1, .bool a1_2, .int .i64 a2] from (k35_mkM _ _ _ (⟨(⟨a1_0, a1_1, a1_2⟩ : S33), a2⟩ : S35) )) (Reps.none _ _)))
                    intro v316 w107 ho108 hb hg_ hnew_
                    clear hg_ hnew_
                    (first | rw [← Ny315.out] at ho108 | (simp only [Int.reduceToNat] at ho108; rw [← Ny315.out] at ho108))
                    have n0_ := mS (Kd.R_elder' (mR HO_302000.out) (Kd.R_base ho108) hb)
                    have n1_ := mS (Kd.R_elder' (mR HO314.out) (Kd.R_base ho108) hb)
                    have n2_ := mS (Kd.R_lower (Kd.R_new' (Kd.R_new' ho108 (Kd.R_lt (mR HO_302000.out))) (Kd.R_lt (mR HO314.out))) (below_size (mH4 HB.out GE295.out GE296.out GE297.out GE301.out)))
                    have n3_ := mB BK295 hb
                    have n4_ := mB BK296 hb
                    have n5_ := mB BK297 hb
                    have n6_ := mB BK301 hb
                    have n7_ := mS (below_step (mH4 HB.out GE295.out GE296.out GE297.out GE301.out) hb)
                    clear HO_302000
                    clear HO314
                    clear BK295
                    clear BK296
                    clear BK297
                    clear BK301
                    clear HB
                    have HO_302000 := n0_
                    have HO314 := n1_
                    have HO317 := n2_
                    have BK295 := n3_
                    have BK296 := n4_
                    have BK297 := n5_
                    have BK301 := n6_
                    have HB := n7_
                    clear n0_ n1_ n2_ n3_ n4_ n5_ n6_ n7_
                    clear hb ho108
                    refine hK.out _ _ ⟨mZ BK295.out 0, mZ BK296.out 0, mZ BK296.out 1, mZ BK296.out 2⟩ (fun hHeld => ?_)
                    clear hK K
                    refine norm_ (a' := ?_) ?_ ?_
                    rotate_left
                    ·show Act.put _ (some 82) _ = _
                     simp only [Act.put, zA, zB, zC, i64_w, i32_w]
                     rfl
                    exact norm_ mU (hCont (v313, v316) _ ⟨hHeld, (by (with_reducible repeat (first | apply Kd.R_alloc | apply Kd.R_drewN | apply Kd.R_drew)); exact Kd.R_mono HO314.out (fun _ hk => ⟨hk.2, hk.1⟩)), (by (with_reducible repeat (first | apply Kd.R_alloc | apply Kd.R_drewN | apply Kd.R_drew)); exact Kd.R_mono HO317.out (fun _ hk => ⟨hk.2, hk.1.2⟩)), (by (with_reducible repeat (first | apply Kd.R_alloc | apply Kd.R_drewN | apply Kd.R_drew)); exact Kd.R_mono HO_302000.out (fun _ hk => ⟨hk.1.2, hk.2⟩)), (mK BK295.out), (mK BK296.out), (mK BK297.out), (mK BK301.out), (mH4 HB.out GE295.out GE296.out GE297.out GE301.out)⟩)
                   ·skip
                    refine Kd.R_lit_step k35 _ 35 ?hg (N := 82) ?hd (xs := ([(⟨(⟨a1_0, a1_1, a1_2⟩ : S33), a2⟩ : S35)] : List (S35))) (inner := [.string a1_0, .string a1_1, .bool a1_2, .int .i64 a2]) (ok := fun _ => True) (okp := fun _ => True) ?hr ?hp (fun _ hk => hk) trivial (Below.refl _ _) (Nat.le_refl _) (by simp) ?_; (case hd => rfl); (case hg => rfl); (case hr => first | (go_simp; done) | (go_simp; rfl)); (case hp => exact (Reps.c4 (show Kd.M k35 _ _ _ (⟨(⟨a1_0, a1_1, a1_2⟩ : S33), a2⟩ : S35) [.string a1_0, .string a1_1, .bool a1_2, .int .i64 a2] from (k35_mkM _ _ _ (⟨(⟨a1_0, a1_1, a1_2⟩ : S33), a2⟩ : S35) )) (Reps.none _ _)))
                    intro v316 w106 ho107 hb hg_ hnew_
                    clear hg_ hnew_
                    (first | rw [← Ny315.out] at ho107 | (simp only [Int.reduceToNat] at ho107; rw [← Ny315.out] at ho107))
                    have n0_ := mS (Kd.R_elder' (mR HO_302000.out) (Kd.R_base ho107) hb)
                    have n1_ := mS (Kd.R_lower (Kd.R_new' ho107 (Kd.R_lt (mR HO_302000.out))) (below_size (mH4 HB.out GE295.out GE296.out GE297.out GE301.out)))
                    have n2_ := mB BK295 hb
                    have n3_ := mB BK296 hb
                    have n4_ := mB BK297 hb
                    have n5_ := mB BK301 hb
                    have n6_ := mS (below_step (mH4 HB.out GE295.out GE296.out GE297.out GE301.out) hb)
                    clear HO_302000
                    clear BK295
                    clear BK296
                    clear BK297
                    clear BK301
                    clear HB
                    have HO_302000 := n0_
                    have HO317 := n1_
                    have BK295 := n2_
                    have BK296 := n3_
                    have BK297 := n4_
                    have BK301 := n5_
                    have HB := n6_
                    clear n0_ n1_ n2_ n3_ n4_ n5_ n6_
                    clear hb ho107
                    refine hK.out _ _ ⟨mZ BK295.out 0, mZ BK296.out 0, mZ BK296.out 1, mZ BK296.out 2⟩ (fun hHeld => ?_)
                    clear hK K
                    refine norm_ (a' := ?_) ?_ ?_
                    rotate_left
                    ·show Act.put _ (some 82) _ = _
                     simp only [Act.put, zA, zB, zC, i64_w, i32_w]
                     rfl
                    refine one_ (i := 4) (N := some 78) #[true, true, true, true, true, true, true, true, true, false, true, true, true, true, false, false, false, false] rfl rfl (one_of HT_.out (by kernel_rfl)) (by decide) (fun K hK => ?_)
                    refine Kd.R_append_rows_step k35 (w0 := w) w.heap.size rfl (.const (.slice none 0 0)) (.tmp 77) 24 35 (.agg #[(.string ⟨#[]⟩), (.string ⟨#[]⟩), (.bool false), (.int .i64 0)]) 48 rfl Try.underlying24 info35 rfl (by decide) (by omega) (.slice none 0 0) ([] : List (S35)) y308 _ _ _ (fun k_ => some k_ ≠ (.slice Ao14 t298.length co14 : Value).ownBlock ∧ some k_ ≠ (v316 : Value).ownBlock) (fun _ => False) rfl rfl ?aO ?aR (fun _ _ h => h) (fun _ h => h.elim) ?aF ?aB ?aS ?aL ?_
                    (case aR => repeat (first | exact (Kd.C_below HR311.out HB.out) | (with_reducible refine Kd.C_alloc ?_ _) | (with_reducible refine Kd.C_drewN ?_ _) | (with_reducible refine Kd.C_drew ?_)))
                    (case aB => exact (mH4 HB.out GE295.out GE296.out GE297.out GE301.out))
                    (case aF => exact (fun k_ hk => ⟨Kd.fresh' (Kd.R_lt (mR HO_302000.out)) k_ hk, Kd.fresh' (Kd.R_lt (mR HO317.out)) k_ hk⟩))
                    (case aO => exact ((Kd.R_nil _ _ _ _ (fun k_ => some k_ ≠ (.slice Ao14 t298.length co14 : Value).ownBlock ∧ some k_ ≠ (v316 : Value).ownBlock))))
                    (case aS => exact (below_size (mH4 HB.out GE295.out GE296.out GE297.out GE301.out)))
                    (case aL => have := LMc94.out; omega)
                    intro v313 w108 ho hb hg hat
                    rw [← Ny312.out] at ho
                    have n0_ := mS (Kd.R_after (Kd.R_apart_nil (mR HO_302000.out)) hg hat)
                    have n1_ := mS (blk_grown (g := gb295) (o := .cells #[.slice A0_0 l0_0.length c0_0] 26 (0, 0)) (mK BK295.out) hg (by simp [Value.ownBlock]))
                    have n2_ := mS (blk_grown (g := gb296) (o := .cells #[.string a1_0, .string a1_1, .bool a1_2] 33 (0, 0)) (mK BK296.out) hg (by simp [Value.ownBlock]))
                    have n3_ := mS (blk_grown (g := gb297) (o := .cells #[.slice none 0 0] 26 (0, 0)) (mK BK297.out) hg (by simp [Value.ownBlock]))
                    have n4_ := mS (blk_grown (g := gb301) (o := .cells #[.slice Ao14 t298.length co14] 26 (0, 0)) (mK BK301.out) hg (by simp [Value.ownBlock]))
                    have n5_ := mS (Kd.R_after (Kd.R_apart_nil (mR HO317.out)) hg hat)
                    have n6_ := mS (hb)
                    have n7_ := mS (ho)
                    clear HO_302000
                    clear BK295
                    clear BK296
                    clear BK297
                    clear BK301
                    clear HO317
                    clear HB
                    have HO_302000 := n0_
                    have BK295 := n1_
                    have BK296 := n2_
                    have BK297 := n3_
                    have BK301 := n4_
                    have HO317 := n5_
                    have HB := n6_
                    have HO314 := n7_
                    clear n0_ n1_ n2_ n3_ n4_ n5_ n6_ n7_
                    clear ho hb hg hat
                    refine hK.out _ _ ⟨mZ BK295.out 0, mZ BK296.out 0, mZ BK296.out 1, mZ BK296.out 2⟩ (fun hHeld => ?_)
                    clear hK K
                    refine norm_ (a' := ?_) ?_ ?_
                    rotate_left
                    ·show Act.put _ (some 78) _ = _
                     simp only [Act.put, zA, zB, zC, i64_w, i32_w]
                     rfl
                    exact norm_ mU (hCont (v313, v316) _ ⟨hHeld, (by (with_reducible repeat (first | apply Kd.R_alloc | apply Kd.R_drewN | apply Kd.R_drew)); exact Kd.R_mono HO314.out (fun _ hk => ⟨hk.2, hk.1⟩)), (by (with_reducible repeat (first | apply Kd.R_alloc | apply Kd.R_drewN | apply Kd.R_drew)); exact Kd.R_mono HO317.out (fun _ hk => ⟨hk.2, hk.1.2⟩)), (by (with_reducible repeat (first | apply Kd.R_alloc | apply Kd.R_drewN | apply Kd.R_drew)); exact Kd.R_mono HO_302000.out (fun _ hk => ⟨hk.2, hk.1.2⟩)), (mK BK295.out), (mK BK296.out), (mK BK297.out), (mK BK301.out), (mH4 HB.out GE295.out GE296.out GE297.out GE301.out)⟩)
                  rintro ⟨v313, v316⟩ w109 ⟨hS_, h0_, h1_, h2_, h3_, h4_, h5_, h6_, h7_⟩
                  have n0_ : Aside0 (Kd.R k35 35 w109 w.heap.size (fun k_ => some k_ ≠ (v316 : Value).ownBlock ∧ some k_ ≠ (.slice Ao14 t298.length co14 : Value).ownBlock) v313 y312) := ⟨h0_⟩
                  have n1_ : Aside0 (Kd.R k35 35 w109 w.heap.size (fun k_ => some k_ ≠ (v313 : Value).ownBlock ∧ some k_ ≠ (.slice Ao14 t298.length co14 : Value).ownBlock) v316 y315) := ⟨h1_⟩
                  have n2_ : Aside0 (Kd.R k35 35 w109 w.heap.size (fun k_ => some k_ ≠ (v313 : Value).ownBlock ∧ some k_ ≠ (v316 : Value).ownBlock) (.slice Ao14 t298.length co14) t298) := ⟨h2_⟩
                  have n3_ : Aside0 (w109.heap[gb295]? = some (.cells #[.slice A0_0 l0_0.length c0_0] 26 (0, 0))) := ⟨h3_⟩
                  have n4_ : Aside0 (w109.heap[gb296]? = some (.cells #[.string a1_0, .string a1_1, .bool a1_2] 33 (0, 0))) := ⟨h4_⟩
                  have n5_ : Aside0 (w109.heap[gb297]? = some (.cells #[.slice none 0 0] 26 (0, 0))) := ⟨h5_⟩
                  have n6_ : Aside0 (w109.heap[gb301]? = some (.cells #[.slice Ao14 t298.length co14] 26 (0, 0))) := ⟨h6_⟩
                  have n7_ : Aside0 (Below w.heap.size w w109) := ⟨h7_⟩
                  clear HO_302000
                  clear BK295
                  clear BK296
                  clear BK297
                  clear BK301
                  clear HB
                  clear h0_ h1_ h2_ h3_ h4_ h5_ h6_ h7_
                  have HO314 := n0_
                  have HO317 := n1_
                  have HO_302000 := n2_
                  have BK295 := n3_
                  have BK296 := n4_
                  have BK297 := n5_
                  have BK301 := n6_
                  have HB := n7_
                  clear n0_ n1_ n2_ n3_ n4_ n5_ n6_ n7_
                  have hHeld : w109.cell? ⟨gb295, 0, none⟩ = some (.slice A0_0 l0_0.length c0_0) ∧ w109.cell? ⟨gb296, 0, none⟩ = some (.string a1_0) ∧ w109.cell? ⟨gb296, 1, none⟩ = some (.string a1_1) ∧ w109.cell? ⟨gb296, 2, none⟩ = some (.bool a1_2) := hS_
                  obtain ⟨Ao111, co111, eo111⟩ := Kd.R_slice HO317.out
                  (first | subst eo111 | (injection eo111 with f1_ f2_ f3_; have f4_ := f1_.symm; have f5_ := f3_.symm; clear f1_ f2_ f3_; subst f4_; subst f5_))
                  refine norm_ (a' := ?_) ?_ ?_
                  rotate_left
                  ·simp only [putAll, Act.put, zA, zB, zC]
                   rfl
                  refine one_ (i := 9) (N := some 83) (mb 14 4) rfl rfl (one_of HT_.out (by kernel_rfl)) (by decide) (fun K hK => ?_)
                  refine Kd.R_append_rows_step k35 (w0 := w) w.heap.size (by rfl) (.tmp 78) (.tmp 82) 24 35 (.agg #[(.string ⟨#[]⟩), (.string ⟨#[]⟩), (.bool false), (.int .i64 0)]) 48 rfl Try.underlying24 info35 rfl (by decide) (by omega) v313 y312 y315 _ _ _ (fun k_ => some k_ ≠ (.slice Ao14 t298.length co14 : Value).ownBlock ∧ some k_ ≠ (.slice Ao111 y315.length co111 : Value).ownBlock) (fun _ => False) rfl rfl ?aO ?aR (fun _ _ h => h) (fun _ h => h.elim) ?aF ?aB ?aS ?aL ?_
                  (case aR => repeat (first | exact (Kd.R_reads' HO317.out).2.2 | (with_reducible refine Kd.C_alloc ?_ _) | (with_reducible refine Kd.C_drewN ?_ _) | (with_reducible refine Kd.C_drew ?_)))
                  (case aB => exact (mH4 HB.out GE295.out GE296.out GE297.out GE301.out))
                  (case aF => exact (fun k_ hk => ⟨Kd.fresh' (Kd.R_lt (mR HO_302000.out)) k_ hk, Kd.fresh' (Kd.R_lt (mR HO317.out)) k_ hk⟩))
                  (case aO => exact (by (with_reducible repeat (first | apply Kd.R_alloc | apply Kd.R_drewN | apply Kd.R_drew)); exact Kd.R_mono HO314.out (fun _ hk => ⟨hk.2, hk.1⟩)))
                  (case aS => exact (below_size (mH4 HB.out GE295.out GE296.out GE297.out GE301.out)))
                  (case aL => have := LMc95.out; omega)
                  intro v319 w110 ho hb hg hat
                  rw [← Ny318.out] at ho
                  have n0_ := mS (Kd.R_after (ok := (fun k_ => some k_ ≠ (.slice Ao111 y315.length co111 : Value).ownBlock)) (by (with_reducible repeat (first | apply Kd.R_alloc | apply Kd.R_drewN | apply Kd.R_drew)); exact Kd.R_mono HO_302000.out (fun _ hk => ⟨hk.2, hk.1⟩)) hg hat)
                  have n1_ := mS (blk_grown (g := gb295) (o := .cells #[.slice A0_0 l0_0.length c0_0] 26 (0, 0)) (mK BK295.out) hg (Kd.R_ne HO314.out BK295.out (by decide)))
                  have n2_ := mS (blk_grown (g := gb296) (o := .cells #[.string a1_0, .string a1_1, .bool a1_2] 33 (0, 0)) (mK BK296.out) hg (Kd.R_ne HO314.out BK296.out (by decide)))
                  have n3_ := mS (blk_grown (g := gb297) (o := .cells #[.slice none 0 0] 26 (0, 0)) (mK BK297.out) hg (Kd.R_ne HO314.out BK297.out (by decide)))
                  have n4_ := mS (blk_grown (g := gb301) (o := .cells #[.slice Ao14 t298.length co14] 26 (0, 0)) (mK BK301.out) hg (Kd.R_ne HO314.out BK301.out (by decide)))
                  have n5_ := mS (Kd.R_after (ok := (fun k_ => some k_ ≠ (.slice Ao14 t298.length co14 : Value).ownBlock)) (by (with_reducible repeat (first | apply Kd.R_alloc | apply Kd.R_drewN | apply Kd.R_drew)); exact Kd.R_mono HO317.out (fun _ hk => ⟨hk.2, hk.1⟩)) hg hat)
                  have n6_ := mS (hb)
                  have n7_ := mS (ho)
                  clear HO_302000
                  clear BK295
                  clear BK296
                  clear BK297
                  clear BK301
                  clear HO317
                  clear HB
                  clear HO314
                  have HO_302000 := n0_
                  have BK295 := n1_
                  have BK296 := n2_
                  have BK297 := n3_
                  have BK301 := n4_
                  have HO317 := n5_
                  have HB := n6_
                  have HO320 := n7_
                  clear n0_ n1_ n2_ n3_ n4_ n5_ n6_ n7_
                  clear ho hb hg hat
                  refine hK.out _ _ ⟨mZ BK295.out 0, mZ BK296.out 0, mZ BK296.out 1, mZ BK296.out 2⟩ (fun hHeld => ?_)
                  clear hK K
                  refine norm_ (a' := ?_) ?_ ?_
                  rotate_left
                  ·show Act.put _ (some 83) _ = _
                   simp only [Act.put, zA, zB, zC, i64_w, i32_w]
                   rfl
                  refine one_ (i := 14) (N := some 88) (mb 15 3) rfl rfl (one_of HT_.out (by kernel_rfl)) (by decide) (fun K hK => ?_)
                  refine Kd.R_append_rows_step k35 (w0 := w) w.heap.size (by rfl) (.tmp 83) (.tmp 87) 24 35 (.agg #[(.string ⟨#[]⟩), (.string ⟨#[]⟩), (.bool false), (.int .i64 0)]) 48 rfl Try.underlying24 info35 rfl (by decide) (by omega) v319 y318 y321 _ _ _ (fun k_ => some k_ ≠ (.slice Ao14 t298.length co14 : Value).ownBlock ∧ some k_ ≠ (.slice Ao111 y315.length co111 : Value).ownBlock) (fun _ => False) rfl rfl ?aO ?aR (fun _ _ h => h) (fun _ h => h.elim) ?aF ?aB ?aS ?aL ?_
                  (case aR => repeat (first | exact (Kd.C_below HR324.out HB.out) | (with_reducible refine Kd.C_alloc ?_ _) | (with_reducible refine Kd.C_drewN ?_ _) | (with_reducible refine Kd.C_drew ?_)))
                  (case aB => exact (mH4 HB.out GE295.out GE296.out GE297.out GE301.out))
                  (case aF => exact (fun k_ hk => ⟨Kd.fresh' (Kd.R_lt (mR HO_302000.out)) k_ hk, Kd.fresh' (Kd.R_lt (mR HO317.out)) k_ hk⟩))
                  (case aO => exact (mR HO320.out))
                  (case aS => exact (below_size (mH4 HB.out GE295.out GE296.out GE297.out GE301.out)))
                  (case aL => have := LMc98.out; omega)
                  intro v326 w112 ho hb hg hat
                  rw [← Ny325.out] at ho
                  have n0_ := mS (Kd.R_after (ok := (fun k_ => some k_ ≠ (.slice Ao111 y315.length co111 : Value).ownBlock)) (mR HO_302000.out) hg hat)
                  have n1_ := mS (blk_grown (g := gb295) (o := .cells #[.slice A0_0 l0_0.length c0_0] 26 (0, 0)) (mK BK295.out) hg (Kd.R_ne HO320.out BK295.out (by decide)))
                  have n2_ := mS (blk_grown (g := gb296) (o := .cells #[.string a1_0, .string a1_1, .bool a1_2] 33 (0, 0)) (mK BK296.out) hg (Kd.R_ne HO320.out BK296.out (by decide)))
                  have n3_ := mS (blk_grown (g := gb297) (o := .cells #[.slice none 0 0] 26 (0, 0)) (mK BK297.out) hg (Kd.R_ne HO320.out BK297.out (by decide)))
                  have n4_ := mS (blk_grown (g := gb301) (o := .cells #[.slice Ao14 t298.length co14] 26 (0, 0)) (mK BK301.out) hg (Kd.R_ne HO320.out BK301.out (by decide)))
                  have n5_ := mS (Kd.R_after (ok := (fun k_ => some k_ ≠ (.slice Ao14 t298.length co14 : Value).ownBlock)) (mR HO317.out) hg hat)
                  have n6_ := mS (hb)
                  have n7_ := mS (ho)
                  clear HO_302000
                  clear BK295
                  clear BK296
                  clear BK297
                  clear BK301
                  clear HO317
                  clear HB
                  clear HO320
                  have HO_302000 := n0_
                  have BK295 := n1_
                  have BK296 := n2_
                  have BK297 := n3_
                  have BK301 := n4_
                  have HO317 := n5_
                  have HB := n6_
                  have HO327 := n7_
                  clear n0_ n1_ n2_ n3_ n4_ n5_ n6_ n7_
                  clear ho hb hg hat
                  obtain ⟨Ao113, co113, eo113⟩ := Kd.R_slice HO327.out
                  (first | subst eo113 | (injection eo113 with f1_ f2_ f3_; have f4_ := f1_.symm; have f5_ := f3_.symm; clear f1_ f2_ f3_; subst f4_; subst f5_))
                  refine hK.out _ _ ⟨mZ BK295.out 0, mZ BK296.out 0, mZ BK296.out 1, mZ BK296.out 2⟩ (fun hHeld => ?_)
                  clear hK K
                  refine norm_ (a' := ?_) ?_ ?_
                  rotate_left
                  ·show Act.put _ (some 88) _ = _
                   simp only [Act.put, zA, zB, zC, i64_w, i32_w]
                   rfl
                  refine pure_ (i := 15) (N := some 89) (v := ?_) (a' := ?_) (mb 16 2) rfl rfl (any_of HT_.out (by kernel_rfl)) (fun _ _ _ h => h) (Or.inl ⟨by rfl, ?_⟩) ?_ ?_
                  rotate_left
                  ·intro w'
                   go_simp
                   with_reducible rfl
                  rotate_left
                  ·simp only [Act.put, zA, zB, zC, i64_w, i32_w]
                   rfl
                  refine one_ (i := 16) (N := none) (mb 17 1) rfl rfl (one_of HT_.out (by kernel_rfl)) (by decide) (fun K hK => ?_)
                  have hs114 : w112.cell? ⟨gb297, 0, none⟩ = some (.slice none 0 0) := mZ BK297.out 0
                  have hfs114 := blk_frozen BK297.out 0
                  have hns114_0 := NB295_297.out
                  have hns114_1 := NB296_297.out
                  have hns114_3 := NB301_297.out
                  have hms114_0 := NB297_295.out
                  have hms114_1 := NB297_296.out
                  have hms114_3 := NB297_301.out
                  refine skip_ (w1 := ?_) (by rfl) rfl ?_ ?_
                  rotate_left
                  ·go_simp
                   rfl
                  refine hK.out _ _ ⟨((cell_far (p := ⟨gb297, _, none⟩) NB295_297.out _).trans (hHeld.1)), ((cell_far (p := ⟨gb297, _, none⟩) NB296_297.out _).trans (hHeld.2.1)), ((cell_far (p := ⟨gb297, _, none⟩) NB296_297.out _).trans (hHeld.2.2.1)), ((cell_far (p := ⟨gb297, _, none⟩) NB296_297.out _).trans (hHeld.2.2.2))⟩ (fun hHeld => ?_)
                  clear hK K
                  refine pure_ (i := 17) (N := some 7) (v := ?_) (a' := ?_) (mb 18 0) rfl rfl (any_of HT_.out (by kernel_rfl)) (fun _ _ _ h => h) (Or.inl ⟨by rfl, ?_⟩) ?_ ?_
                  rotate_left
                  ·intro w'
                   go_simp
                   with_reducible rfl
                  rotate_left
                  ·simp only [Act.put, zA, zB, zC, i64_w, i32_w]
                   rfl
                  refine done_ (done_of HT_.out (by kernel_rfl)) ?_
                  try go_wp2
                  refine bodyPost_ret (results_ct rfl _ _ gb297 26 #[.slice Ao113 y325.length co113] (0, 0) _ rfl (by (with_reducible repeat (first | refine blk_drewN ?_ _ | refine blk_drew ?_ | refine blk_alloc ?_ _)); refine blk_put (cs := #[.slice none 0 0]) ?_ 0 _ rfl; (with_reducible repeat (first | refine blk_drewN ?_ _ | refine blk_drew ?_ | refine blk_alloc ?_ _)); exact BK297.out) Try.underlying26 rfl (by kernel_rfl)) rfl ?_
                  exact ⟨_, by first | rfl | (simp [errW_none, errW_some] <;> rfl) | (simp [*, errW_none, errW_some] <;> rfl), by (with_reducible repeat (first | apply Kd.R_alloc | apply Kd.R_drewN | apply Kd.R_drew)); exact Kd.R_mono (Kd.R_far (p := ⟨gb297, 0, none⟩) (Kd.R_types HO327.out BK297.out (by decide)) (fun _ hk => hk.2) (.slice Ao113 y325.length co113)) (fun _ hk => trivial), (mH4 HB.out GE295.out GE296.out GE297.out GE301.out)⟩
                 ·rw [if_neg c98] at H
                  exact absurd H (by simp)
                ·rw [if_neg c95] at H
                 exact absurd H (by simp)
               ·rw [if_neg c94] at H
                exact absurd H (by simp)
              ·rw [if_neg c93] at H
               exact absurd H (by simp)
             ·rw [if_neg c92] at H
              exact absurd H (by simp)

end Go.Proofs.Ytbepbgfkajnlbaa.MFnMem
