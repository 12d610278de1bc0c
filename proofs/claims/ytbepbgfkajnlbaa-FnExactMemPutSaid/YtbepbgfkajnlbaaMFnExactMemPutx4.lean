-- Written by mp.py, this session's own printer (wip/mp.py).
import Derived.Test.YtbepbgfkajnlbaaVMShort
import Derived.Test.YtbepbgfkajnlbaaMFnExactMemPutx0
import Derived.Test.YtbepbgfkajnlbaaMFnExactMemPutx1
import Derived.Test.YtbepbgfkajnlbaaMFnExactMemPutx2
import Derived.Test.YtbepbgfkajnlbaaMFnExactMemPutx3
namespace Go.Proofs.Ytbepbgfkajnlbaa.MFnExactMemPut
open Go.RowKit Go.Proofs.YtbepbgfkajnlbaaW.PrintWords Go.Proofs.YtbepbgfkajnlbaaW.PrintLast Go.Proofs.YtbepbgfkajnlbaaW.PrintMore Go.Proofs.Ytbepbgfkajnlbaa.MWords
attribute [local go_sem] max2_int min2_int max_two min_two max_three min_three max_four min_four   -- for this text's walks alone
set_option linter.unusedVariables false
set_option linter.unusedSimpArgs false

/-! ### impl_MemPut: function 20 -/
mutual
def impl_MemPut.j0 : Nat → Int → Bool → List (S35) → ByteArray → ByteArray → Bool → List (S35) → Option ((List (S35)) × Bool)
 | 0, _, _, _, _, _, _, _ => none
 | k + 1, x2, x24, x116000, x117000, x117001, x117002, x122000 => if x24 = true then (some (x122000, false)) else (impl_MemPut.l0 k x2 0 x116000 x117000 x117001 x117002 x122000)
def impl_MemPut.j2 : Nat → Int → Int → List (S35) → ByteArray → ByteArray → Bool → List (S35) → Option ((List (S35)) × Bool)
 | 0, _, _, _, _, _, _, _ => none
 | k + 1, x2, x9, x116000, x117000, x117001, x117002, x122000 => if x9 < (x116000.length : Int) then (if 0 ≤ x9 then (impl_MemPut.j3 k x2 x9 (((rd_T35 x116000 x9).f0.f0).toList == x117000.toList) x116000 x117000 x117001 x117002 x122000) else (none)) else (impl_MemPut.j3 k x2 x9 false x116000 x117000 x117001 x117002 x122000)
def impl_MemPut.j3 : Nat → Int → Int → Bool → List (S35) → ByteArray → ByteArray → Bool → List (S35) → Option ((List (S35)) × Bool)
 | 0, _, _, _, _, _, _, _, _ => none
 | k + 1, x2, x9, x61, x116000, x117000, x117001, x117002, x122000 => if x61 = true then (if 0 ≤ x9 then (if x9 < (x122000.length : Int) then (some ((x122000.set (x9 : Int).toNat (⟨(⟨x117000, x117001, x117002⟩ : S33), (rd_T35 x122000 x9).f1⟩ : S35)), true)) else (none)) else (none)) else (if (x116000.length : Int) ≥ 60 then (some (x122000, false)) else (if 0 ≤ x9 then (if x9 ≤ (x116000.length : Int) then ((some (x116000.take (x9 : Int).toNat : List (S35))).bind fun y128 => (if ([] : List (S35)).length + y128.length < 2932031007402 then ((some (([] : List (S35)) ++ y128 : List (S35))).bind fun y132 => ((some (([(⟨(⟨x117000, x117001, x117002⟩ : S33), x2⟩ : S35)] : List (S35)) : List (S35))).bind fun y135 => (if y132.length + y135.length < 2932031007402 then ((some (y132 ++ y135 : List (S35))).bind fun y138 => ((some (x116000.drop (x9 : Int).toNat : List (S35))).bind fun y141 => (if y138.length + y141.length < 2932031007402 then (some ((y138 ++ y141), true)) else (none)))) else (none)))) else (none))) else (none)) else (none)))
def impl_MemPut.l0 : Nat → Int → Int → List (S35) → ByteArray → ByteArray → Bool → List (S35) → Option ((List (S35)) × Bool)
 | 0, _, _, _, _, _, _, _ => none
 | k + 1, x2, x9, x116000, x117000, x117001, x117002, x122000 => if x9 < (x116000.length : Int) then (if 0 ≤ x9 then (if (Op.bytesLess (((rd_T35 x116000 x9).f0.f0).toList) x117000.toList) = true then (impl_MemPut.l0 k x2 (wrap64 (x9 + 1)) x116000 x117000 x117001 x117002 x122000) else (impl_MemPut.j2 k x2 x9 x116000 x117000 x117001 x117002 x122000)) else (none)) else (impl_MemPut.j2 k x2 x9 x116000 x117000 x117001 x117002 x122000)
end
def impl_MemPut.f (k : Nat) (l0_0 : List (S35)) (a1_0 : ByteArray) (a1_1 : ByteArray) (a1_2 : Bool) (a2 : Int) : Option ((List (S35)) × Bool) := (impl_copyMem.f l0_0).bind fun t118 => ((impl_MemOk.f k l0_0).bind fun t122 => (if t122 = true then ((impl_PairOk.f a1_0 a1_1 a1_2).bind fun t123 => (if t123 = true then ((impl_in.f a2 1 4).bind fun t124 => (impl_MemPut.j0 k a2 (!t124) l0_0 a1_0 a1_1 a1_2 t118)) else (impl_MemPut.j0 k a2 true l0_0 a1_0 a1_1 a1_2 t118))) else (impl_MemPut.j0 k a2 true l0_0 a1_0 a1_1 a1_2 t118)))
theorem impl_MemPut.mono_l : ∀ k, (∀ y0 y1 y2 y3 y4 y5 y6, LeO (impl_MemPut.j0 k y0 y1 y2 y3 y4 y5 y6) (impl_MemPut.j0 (k + 1) y0 y1 y2 y3 y4 y5 y6)) ∧ (∀ y0 y1 y2 y3 y4 y5 y6, LeO (impl_MemPut.j2 k y0 y1 y2 y3 y4 y5 y6) (impl_MemPut.j2 (k + 1) y0 y1 y2 y3 y4 y5 y6)) ∧ (∀ y0 y1 y2 y3 y4 y5 y6 y7, LeO (impl_MemPut.j3 k y0 y1 y2 y3 y4 y5 y6 y7) (impl_MemPut.j3 (k + 1) y0 y1 y2 y3 y4 y5 y6 y7)) ∧ (∀ y0 y1 y2 y3 y4 y5 y6, LeO (impl_MemPut.l0 k y0 y1 y2 y3 y4 y5 y6) (impl_MemPut.l0 (k + 1) y0 y1 y2 y3 y4 y5 y6))
 | 0 => ⟨fun _ _ _ _ _ _ _ r h => by simp [impl_MemPut.j0] at h, fun _ _ _ _ _ _ _ r h => by simp [impl_MemPut.j2] at h, fun _ _ _ _ _ _ _ _ r h => by simp [impl_MemPut.j3] at h, fun _ _ _ _ _ _ _ r h => by simp [impl_MemPut.l0] at h⟩
 | k + 1 => by
  obtain ⟨ih0, ih1, ih2, ih3⟩ := impl_MemPut.mono_l k
  refine ⟨?_, ?_, ?_, ?_⟩
  ·intro y0 y1 y2 y3 y4 y5 y6
   unfold impl_MemPut.j0
   repeat' first
   | (with_reducible exact ih0 _ _ _ _ _ _ _)
   | (with_reducible exact ih1 _ _ _ _ _ _ _)
   | (with_reducible exact ih2 _ _ _ _ _ _ _ _)
   | (with_reducible exact ih3 _ _ _ _ _ _ _)
   | (with_reducible exact impl_MemOk.mono _ _)
   | (with_reducible exact LeO.refl _)
   | (with_reducible exact LeO.none _)
   | (with_reducible refine LeO.ite ?_ ?_)
   | (with_reducible refine LeO.bind ?_ (fun _ => ?_))
   | exact ih0 _ _ _ _ _ _ _
   | exact ih1 _ _ _ _ _ _ _
   | exact ih2 _ _ _ _ _ _ _ _
   | exact ih3 _ _ _ _ _ _ _
   | exact impl_MemOk.mono _ _
   | exact LeO.none _
   | refine LeO.ite ?_ ?_
   | refine LeO.bind ?_ (fun _ => ?_)
  ·intro y0 y1 y2 y3 y4 y5 y6
   unfold impl_MemPut.j2
   repeat' first
   | (with_reducible exact ih0 _ _ _ _ _ _ _)
   | (with_reducible exact ih1 _ _ _ _ _ _ _)
   | (with_reducible exact ih2 _ _ _ _ _ _ _ _)
   | (with_reducible exact ih3 _ _ _ _ _ _ _)
   | (with_reducible exact impl_MemOk.mono _ _)
   | (with_reducible exact LeO.refl _)
   | (with_reducible exact LeO.none _)
   | (with_reducible refine LeO.ite ?_ ?_)
   | (with_reducible refine LeO.bind ?_ (fun _ => ?_))
   | exact ih0 _ _ _ _ _ _ _
   | exact ih1 _ _ _ _ _ _ _
   | exact ih2 _ _ _ _ _ _ _ _
   | exact ih3 _ _ _ _ _ _ _
   | exact impl_MemOk.mono _ _
   | exact LeO.none _
   | refine LeO.ite ?_ ?_
   | refine LeO.bind ?_ (fun _ => ?_)
  ·intro y0 y1 y2 y3 y4 y5 y6 y7
   unfold impl_MemPut.j3
   repeat' first
   | (with_reducible exact ih0 _ _ _ _ _ _ _)
   | (with_reducible exact ih1 _ _ _ _ _ _ _)
   | (with_reducible exact ih2 _ _ _ _ _ _ _ _)
   | (with_reducible exact ih3 _ _ _ _ _ _ _)
   | (with_reducible exact impl_MemOk.mono _ _)
   | (with_reducible exact LeO.refl _)
   | (with_reducible exact LeO.none _)
   | (with_reducible refine LeO.ite ?_ ?_)
   | (with_reducible refine LeO.bind ?_ (fun _ => ?_))
   | exact ih0 _ _ _ _ _ _ _
   | exact ih1 _ _ _ _ _ _ _
   | exact ih2 _ _ _ _ _ _ _ _
   | exact ih3 _ _ _ _ _ _ _
   | exact impl_MemOk.mono _ _
   | exact LeO.none _
   | refine LeO.ite ?_ ?_
   | refine LeO.bind ?_ (fun _ => ?_)
  ·intro y0 y1 y2 y3 y4 y5 y6
   unfold impl_MemPut.l0
   repeat' first
   | (with_reducible exact ih0 _ _ _ _ _ _ _)
   | (with_reducible exact ih1 _ _ _ _ _ _ _)
   | (with_reducible exact ih2 _ _ _ _ _ _ _ _)
   | (with_reducible exact ih3 _ _ _ _ _ _ _)
   | (with_reducible exact impl_MemOk.mono _ _)
   | (with_reducible exact LeO.refl _)
   | (with_reducible exact LeO.none _)
   | (with_reducible refine LeO.ite ?_ ?_)
   | (with_reducible refine LeO.bind ?_ (fun _ => ?_))
   | exact ih0 _ _ _ _ _ _ _
   | exact ih1 _ _ _ _ _ _ _
   | exact ih2 _ _ _ _ _ _ _ _
   | exact ih3 _ _ _ _ _ _ _
   | exact impl_MemOk.mono _ _
   | exact LeO.none _
   | refine LeO.ite ?_ ?_
   | refine LeO.bind ?_ (fun _ => ?_)
theorem impl_MemPut.mono : ∀ a0 a1 a2 a3 a4 k, LeO (impl_MemPut.f k a0 a1 a2 a3 a4) (impl_MemPut.f (k + 1) a0 a1 a2 a3 a4) := by
 intro a0 a1 a2 a3 a4 k
 obtain ⟨ih0, ih1, ih2, ih3⟩ := impl_MemPut.mono_l k
 unfold impl_MemPut.f
 repeat' first
   | (with_reducible exact ih0 _ _ _ _ _ _ _)
   | (with_reducible exact ih1 _ _ _ _ _ _ _)
   | (with_reducible exact ih2 _ _ _ _ _ _ _ _)
   | (with_reducible exact ih3 _ _ _ _ _ _ _)
   | (with_reducible exact impl_MemOk.mono _ _)
   | (with_reducible exact LeO.refl _)
   | (with_reducible exact LeO.none _)
   | (with_reducible refine LeO.ite ?_ ?_)
   | (with_reducible refine LeO.bind ?_ (fun _ => ?_))
   | exact ih0 _ _ _ _ _ _ _
   | exact ih1 _ _ _ _ _ _ _
   | exact ih2 _ _ _ _ _ _ _ _
   | exact ih3 _ _ _ _ _ _ _
   | exact impl_MemOk.mono _ _
   | exact LeO.none _
   | refine LeO.ite ?_ ?_
   | refine LeO.bind ?_ (fun _ => ?_)
def impl_MemPut.T5 : Bool × List (List Nat × List Nat) := (true, [([], []), ([], []), ([1], [1]), ([2], [2]), ([0, 3], [0, 3]), ([4], [4]), ([5], [5]), ([6, 5], [5, 6]), ([5], [5]), ([7, 8, 5], [5, 7, 8]), ([9, 5], [5, 9]), ([10, 5], [5, 10]), ([11, 5], [5, 11]), ([5], [5]), ([13, 5], [5, 13]), ([12, 14, 5], [5, 12, 14]), ([5, 15], [5, 15])])
def impl_MemPut.B5 : List Nat := [0, 0, 2, 6, 15, 31, 63, 127, 63, 511, 1023, 2047, 4095, 63, 8255, 32767, 65535]
theorem impl_MemPut.tab5 : rtab .any (opsOf Try.f20 5) = impl_MemPut.T5 := by kernel_rfl
theorem impl_MemPut.bits5 : waitsOk impl_MemPut.T5.2 impl_MemPut.B5 = true := by kernel_rfl
def impl_MemPut.T7 : Bool × List (List Nat × List Nat) := (true, [([], []), ([], []), ([1], [1]), ([2], [2]), ([0, 3], [0, 3]), ([4], [4]), ([5], [5]), ([6, 5], [5, 6]), ([5], [5]), ([7, 8, 5], [5, 7, 8]), ([9, 5], [5, 9]), ([10, 5], [5, 10]), ([11, 5], [5, 11]), ([5], [5]), ([13, 5], [5, 13]), ([12, 14, 5], [5, 12, 14]), ([5, 15], [5, 15])])
def impl_MemPut.B7 : List Nat := [0, 0, 2, 6, 15, 31, 63, 127, 63, 511, 1023, 2047, 4095, 63, 8255, 32767, 65535]
theorem impl_MemPut.tab7 : rtab .any (opsOf Try.f20 7) = impl_MemPut.T7 := by kernel_rfl
theorem impl_MemPut.bits7 : waitsOk impl_MemPut.T7.2 impl_MemPut.B7 = true := by kernel_rfl
def impl_MemPut.T12 : Bool × List (List Nat × List Nat) := (true, [([], []), ([0], [0]), ([], []), ([1, 2], [1, 2]), ([3], [3]), ([], []), ([], []), ([5, 6], [5, 6]), ([7], [7]), ([4, 8, 4], [4, 8]), ([], []), ([10], [10]), ([], []), ([11, 12], [11, 12]), ([9, 13, 9], [9, 13]), ([14], [14]), ([15, 14, 0, 1, 2, 3, 4, 5, 6, 7, 8, 9, 10, 11, 12, 13, 14, 15], [15]), ([16, 0, 1, 2, 3, 4, 5, 6, 7, 8, 9, 10, 11, 12, 13, 14, 15, 16], [])])
def impl_MemPut.B12 : List Nat := [0, 1, 0, 7, 15, 0, 0, 96, 224, 511, 0, 1024, 0, 7168, 16383, 32767, 65535, 131071]
theorem impl_MemPut.tab12 : rtab .any (opsOf Try.f20 12) = impl_MemPut.T12 := by kernel_rfl
theorem impl_MemPut.bits12 : waitsOk impl_MemPut.T12.2 impl_MemPut.B12 = true := by kernel_rfl
set_option maxHeartbeats 8000000 in
set_option maxRecDepth 100000 in
theorem impl_MemPut.calls (k : Nat) (A0_0 : Option Addr) (c0_0 : Nat) (l0_0 : List (S35)) (a1_0 : ByteArray) (a1_1 : ByteArray) (a1_2 : Bool) (a2 : Int) (r1 : List (S35)) (r2 : Bool) (w : World) (hr0_0 : Kd.C k35 w A0_0 l0_0.length l0_0) (hc0_0 : l0_0.length ≤ c0_0) (h : impl_MemPut.f k l0_0 a1_0 a1_1 a1_2 a2 = some (r1, r2)) :
  Calls Try.prog 20 #[.agg #[.slice A0_0 l0_0.length c0_0], .agg #[.string a1_0, .string a1_1, .bool a1_2], .int .i64 a2] w fun e w' => ∃ v0_ : Value, e = .returned (.tuple #[.agg #[v0_], .bool r2]) ∧ Kd.R k35 35 w' w.heap.size (fun _ => True) v0_ r1 ∧ Below w.heap.size w w' := by
 have hu26 := Try.underlying26
 have hu33 := Try.underlying33
 have hu35 := Try.underlying35
 have HR0_0 := mS hr0_0
 have HC0_0 := mS hc0_0
 clear hr0_0 hc0_0
 have HB := mS (Below.refl w.heap.size w)
 have H : ((impl_copyMem.f l0_0).bind fun t118 => ((impl_MemOk.f k l0_0).bind fun t122 => (if t122 = true then ((impl_PairOk.f a1_0 a1_1 a1_2).bind fun t123 => (if t123 = true then ((impl_in.f a2 1 4).bind fun t124 => (impl_MemPut.j0 k a2 (!t124) l0_0 a1_0 a1_1 a1_2 t118)) else (impl_MemPut.j0 k a2 true l0_0 a1_0 a1_1 a1_2 t118))) else (impl_MemPut.j0 k a2 true l0_0 a1_0 a1_1 a1_2 t118)))) = some (r1, r2) := h
 clear h
 replace H := Option.bind_eq_some_iff.mp H
 obtain ⟨t118, A40, H⟩ := H
 replace H : ((impl_MemOk.f k l0_0).bind fun t122 => (if t122 = true then ((impl_PairOk.f a1_0 a1_1 a1_2).bind fun t123 => (if t123 = true then ((impl_in.f a2 1 4).bind fun t124 => (impl_MemPut.j0 k a2 (!t124) l0_0 a1_0 a1_1 a1_2 t118)) else (impl_MemPut.j0 k a2 true l0_0 a1_0 a1_1 a1_2 t118))) else (impl_MemPut.j0 k a2 true l0_0 a1_0 a1_1 a1_2 t118))) = some (r1, r2) := H
 have A4 := mS A40
 clear A40
 have HC5 := mS H
 clear H
 go_enter Try.func20, Try.ntmps20
 go_upto_region 2 with (first | ((with_reducible refine gate_dst (N := 3) rfl ?_); refine box_event ?hg (N := 3) ?hd (cs := #[.slice A0_0 l0_0.length c0_0]) (t := 26) ?hr ?_; (case hd => rfl); (case hg => rfl); (case hr => first | (go_simp; done) | (go_simp; rfl)); intro gb115 hg w6 hbox hb; have BK115 := mS (hbox); have GW115 := mG hg (mH HB.out); have GE115 := mG hg (mH HB.out); replace HB := mS (below_step (mH HB.out) hb); clear hb hbox hg) | ((with_reducible refine gate_dst (N := 4) rfl ?_); refine box_event ?hg (N := 4) ?hd (cs := #[.string a1_0, .string a1_1, .bool a1_2]) (t := 33) ?hr ?_; (case hd => rfl); (case hg => rfl); (case hr => first | (go_simp; done) | (go_simp; rfl)); intro gb116 hg w7 hbox hb; have BK116 := mS (hbox); have GW116 := mG hg (mH1 HB.out GE115.out); have GE116 := mG hg (mH1 HB.out GE115.out); replace HB := mS (below_step (mH1 HB.out GE115.out) hb); have NB115_116 := mNl hg BK115.out; have NB116_115 := mNg hg BK115.out; replace BK115 := mB BK115 hb; clear hb hbox hg) | ((with_reducible refine gate_dst (N := 6) rfl ?_); refine box_event ?hg (N := 6) ?hd (cs := #[.slice none 0 0]) (t := 26) ?hr ?_; (case hd => rfl); (case hg => rfl); (case hr => first | (go_simp; done) | (go_simp; rfl)); intro gb117 hg w8 hbox hb; have BK117 := mS (hbox); have GW117 := mG hg (mH2 HB.out GE115.out GE116.out); have GE117 := mG hg (mH2 HB.out GE115.out GE116.out); replace HB := mS (below_step (mH2 HB.out GE115.out GE116.out) hb); have NB115_117 := mNl hg BK115.out; have NB117_115 := mNg hg BK115.out; replace BK115 := mB BK115 hb; have NB116_117 := mNl hg BK116.out; have NB117_116 := mNg hg BK116.out; replace BK116 := mB BK116 hb; clear hb hbox hg; have hnb9 := NB115_116.out; have hnc9 := NB116_115.out; have hnb10 := NB115_117.out; have hnc10 := NB117_115.out; have hcz11_0 : w8.cell? ⟨gb115, 0, none⟩ = some (.slice A0_0 l0_0.length c0_0) := (blk_cell BK115.out 0).trans rfl; have hfz11_0 := blk_frozen BK115.out 0) | ((with_reducible refine gate_callee (f := 85) rfl ?_); refine goesL_ (some 11) rfl rfl Try.func85 (by kernel_rfl) rfl #[.agg #[.slice A0_0 l0_0.length c0_0]] rfl mA ?_; (with_reducible refine (impl_copyMem.calls _ _ l0_0 t118 _ ?side1 ?side2 A4.out).mono ?_); (case side1 => repeat (first | exact (Kd.C_below HR0_0.out HB.out) | (with_reducible refine Kd.C_alloc ?_ _) | (with_reducible refine Kd.C_drewN ?_ _) | (with_reducible refine Kd.C_drew ?_))); (case side2 => exact HC0_0.out); rintro e w12 ⟨v119, rfl, ho0, hb⟩; refine ⟨_, rfl, ?_⟩; have HO120 := mS (Kd.R_lower ho0 (below_size (mH3 HB.out GE115.out GE116.out GE117.out))); replace BK115 := mB BK115 hb; replace BK116 := mB BK116 hb; replace BK117 := mB BK117 hb; replace HB := mS (below_step (mH3 HB.out GE115.out GE116.out GE117.out) hb); (try clear hb); (try clear hb2); (try clear hk); (try clear hi); (try clear ho0)) | ((with_reducible refine gate_dst (N := 8) rfl ?_); refine box_event ?hg (N := 8) ?hd (cs := #[.slice none 0 0]) (t := 26) ?hr ?_; (case hd => rfl); (case hg => rfl); (case hr => first | (go_simp; done) | (go_simp; rfl)); intro gb121 hg w13 hbox hb; replace HO120 := mS (Kd.R_below (mR HO120.out) hb); have BK121 := mS (hbox); have GW121 := mG hg (mH3 HB.out GE115.out GE116.out GE117.out); have GE121 := mG hg (mH3 HB.out GE115.out GE116.out GE117.out); replace HB := mS (below_step (mH3 HB.out GE115.out GE116.out GE117.out) hb); have NB115_121 := mNl hg BK115.out; have NB121_115 := mNg hg BK115.out; replace BK115 := mB BK115 hb; have NB116_121 := mNl hg BK116.out; have NB121_116 := mNg hg BK116.out; replace BK116 := mB BK116 hb; have NB117_121 := mNl hg BK117.out; have NB121_117 := mNg hg BK117.out; replace BK117 := mB BK117 hb; clear hb hbox hg; obtain ⟨Ao14, co14, eo14⟩ := Kd.R_slice HO120.out; subst eo14; have hnb15 := NB121_115.out; have hnc15 := NB115_121.out; have hnb16 := NB121_116.out; have hnc16 := NB116_121.out; have hnb17 := NB121_117.out; have hnc17 := NB117_121.out; have hcz18_0 : w13.cell? ⟨gb121, 0, none⟩ = some (.slice none 0 0) := (blk_cell BK121.out 0).trans rfl; have hfz18_0 := blk_frozen BK121.out 0))
 (try simp only [Act.put, zA, zB, zC])
 go_cut [24] (fun v24 wc => ∃ (kq : Nat) (x24_4 : Bool), v24 = .bool x24_4 ∧ Aside0 (impl_MemPut.j0 kq a2 x24_4 l0_0 a1_0 a1_1 a1_2 t118 = some (r1, r2)) ∧ Aside0 (kq ≤ k) ∧ Aside0 (Kd.R k35 35 wc w.heap.size (fun _ => True) (.slice Ao14 t118.length co14) t118) ∧ Aside0 (wc.heap[gb115]? = some (.cells #[(.slice A0_0 l0_0.length c0_0)] 26 (0, 0))) ∧ Aside0 (wc.heap[gb116]? = some (.cells #[.string a1_0, .string a1_1, .bool a1_2] 33 (0, 0))) ∧ Aside0 (wc.heap[gb117]? = some (.cells #[(.slice none 0 0)] 26 (0, 0))) ∧ Aside0 (wc.heap[gb121]? = some (.cells #[(.slice Ao14 t118.length co14)] 26 (0, 0))) ∧ Aside0 (Below w.heap.size w wc))
 case first =>
  have H := HC5.out
  clear HC5
  replace H := Option.bind_eq_some_iff.mp H
  obtain ⟨t122, A190, H⟩ := H
  replace H : (if t122 = true then ((impl_PairOk.f a1_0 a1_1 a1_2).bind fun t123 => (if t123 = true then ((impl_in.f a2 1 4).bind fun t124 => (impl_MemPut.j0 k a2 (!t124) l0_0 a1_0 a1_1 a1_2 t118)) else (impl_MemPut.j0 k a2 true l0_0 a1_0 a1_1 a1_2 t118))) else (impl_MemPut.j0 k a2 true l0_0 a1_0 a1_1 a1_2 t118)) = some (r1, r2) := H
  have A19 := mS A190
  clear A190
  by_cases c20 : t122 = true
  ·subst c20
   have H1 : ((impl_PairOk.f a1_0 a1_1 a1_2).bind fun t123 => (if t123 = true then ((impl_in.f a2 1 4).bind fun t124 => (impl_MemPut.j0 k a2 (!t124) l0_0 a1_0 a1_1 a1_2 t118)) else (impl_MemPut.j0 k a2 true l0_0 a1_0 a1_1 a1_2 t118))) = some (r1, r2) := by rw [if_pos rfl] at H; exact H
   clear H
   have H := H1
   clear H1
   replace H := Option.bind_eq_some_iff.mp H
   obtain ⟨t123, A210, H⟩ := H
   replace H : (if t123 = true then ((impl_in.f a2 1 4).bind fun t124 => (impl_MemPut.j0 k a2 (!t124) l0_0 a1_0 a1_1 a1_2 t118)) else (impl_MemPut.j0 k a2 true l0_0 a1_0 a1_1 a1_2 t118)) = some (r1, r2) := H
   have A21 := mS A210
   clear A210
   by_cases c22 : t123 = true
   ·subst c22
    have H1 : ((impl_in.f a2 1 4).bind fun t124 => (impl_MemPut.j0 k a2 (!t124) l0_0 a1_0 a1_1 a1_2 t118)) = some (r1, r2) := by rw [if_pos rfl] at H; exact H
    clear H
    have H := H1
    clear H1
    replace H := Option.bind_eq_some_iff.mp H
    obtain ⟨t124, A230, H⟩ := H
    replace H : (impl_MemPut.j0 k a2 (!t124) l0_0 a1_0 a1_1 a1_2 t118) = some (r1, r2) := H
    have A23 := mS A230
    clear A230
    have H' := mS H
    clear H
    have hnb24 := NB115_116.out
    have hnc24 := NB116_115.out
    have hnb25 := NB115_117.out
    have hnc25 := NB117_115.out
    have hnb26 := NB115_121.out
    have hnc26 := NB121_115.out
    have hcz27_0 : w13.cell? ⟨gb115, 0, none⟩ = some (.slice A0_0 l0_0.length c0_0) := (blk_cell BK115.out 0).trans rfl
    have hfz27_0 := blk_frozen BK115.out 0
    go_wp2_with (first | ((with_reducible refine gate_callee (f := 18) rfl ?_); refine goesL_ (some 13) rfl rfl Try.func18 (by kernel_rfl) rfl #[.agg #[.slice A0_0 l0_0.length c0_0]] rfl mA ?_; (with_reducible refine (impl_MemOk.calls k _ _ l0_0 true _ ?side1 ?side2 A19.out).mono ?_); (case side1 => exact Kd.C_below HR0_0.out (mH4 HB.out GE115.out GE116.out GE117.out GE121.out)); (case side2 => exact HC0_0.out); rintro e w28 ⟨rfl, hb⟩; refine ⟨_, rfl, ?_⟩; replace HO120 := mS (Kd.R_below (by (with_reducible repeat (first | apply Kd.R_alloc | apply Kd.R_drewN | apply Kd.R_drew)); exact (Kd.R_mono (Kd.R_far (p := ⟨gb121, 0, none⟩) (Kd.R_types HO120.out BK121.out (by decide)) (fun _ hk => hk.2) (.slice Ao14 t118.length co14)) (fun _ h_ => h_.1))) hb); replace BK115 := mS (blk_below (g := gb115) (o := .cells #[.slice A0_0 l0_0.length c0_0] 26 (0, 0)) (by (with_reducible repeat (first | refine blk_drewN ?_ _ | refine blk_drew ?_ | refine blk_alloc ?_ _)); refine blk_far ?_ NB115_121.out _; (with_reducible repeat (first | refine blk_drewN ?_ _ | refine blk_drew ?_ | refine blk_alloc ?_ _)); exact BK115.out) hb); replace BK116 := mS (blk_below (g := gb116) (o := .cells #[.string a1_0, .string a1_1, .bool a1_2] 33 (0, 0)) (by (with_reducible repeat (first | refine blk_drewN ?_ _ | refine blk_drew ?_ | refine blk_alloc ?_ _)); refine blk_far ?_ NB116_121.out _; (with_reducible repeat (first | refine blk_drewN ?_ _ | refine blk_drew ?_ | refine blk_alloc ?_ _)); exact BK116.out) hb); replace BK117 := mS (blk_below (g := gb117) (o := .cells #[.slice none 0 0] 26 (0, 0)) (by (with_reducible repeat (first | refine blk_drewN ?_ _ | refine blk_drew ?_ | refine blk_alloc ?_ _)); refine blk_far ?_ NB117_121.out _; (with_reducible repeat (first | refine blk_drewN ?_ _ | refine blk_drew ?_ | refine blk_alloc ?_ _)); exact BK117.out) hb); replace BK121 := mS (blk_below (g := gb121) (o := .cells #[.slice Ao14 t118.length co14] 26 (0, 0)) (by (with_reducible repeat (first | refine blk_drewN ?_ _ | refine blk_drew ?_ | refine blk_alloc ?_ _)); refine blk_put (cs := #[.slice none 0 0]) ?_ 0 _ rfl; (with_reducible repeat (first | refine blk_drewN ?_ _ | refine blk_drew ?_ | refine blk_alloc ?_ _)); exact BK121.out) hb); replace HB := mS (below_step (mH4 HB.out GE115.out GE116.out GE117.out GE121.out) hb); (try clear hb); (try clear hb2); (try clear hk); (try clear hi); have hnb29 := NB116_117.out; have hnc29 := NB117_116.out; have hnb30 := NB116_121.out; have hnc30 := NB121_116.out; have hcz31_0 : w28.cell? ⟨gb116, 0, none⟩ = some (.string a1_0) := (blk_cell BK116.out 0).trans rfl; have hcz31_1 : w28.cell? ⟨gb116, 1, none⟩ = some (.string a1_1) := (blk_cell BK116.out 1).trans rfl; have hcz31_2 : w28.cell? ⟨gb116, 2, none⟩ = some (.bool a1_2) := (blk_cell BK116.out 2).trans rfl; have hfz31_0 := blk_frozen BK116.out 0; have hfz31_1 := blk_frozen BK116.out 1; have hfz31_2 := blk_frozen BK116.out 2) | (go_at_call 23; (with_reducible refine (impl_PairOk.calls a1_0 a1_1 a1_2 true _ A21.out).mono ?_); rintro e w32 ⟨rfl, hb⟩; replace HO120 := mS (Kd.R_below (mR HO120.out) hb); replace BK115 := mB BK115 hb; replace BK116 := mB BK116 hb; replace BK117 := mB BK117 hb; replace BK121 := mB BK121 hb; replace HB := mS (below_step (mH4 HB.out GE115.out GE116.out GE117.out GE121.out) hb); (try clear hb); (try clear hb2); (try clear hk); (try clear hi)) | (go_at_call 77; (with_reducible refine (impl_in.calls a2 1 4 t124 _ A23.out).mono ?_); rintro e w' ⟨rfl, ⟨nd, rfl⟩⟩))
    go_meet
    case rel => exact ⟨_, (!t124), (by first | rfl | (simp; done) | (simp [*]; done)), H', ⟨by first | omega | exact Nat.le_refl _⟩, ⟨by (with_reducible repeat (first | apply Kd.R_alloc | apply Kd.R_drewN | apply Kd.R_drew)); exact HO120.out⟩, ⟨by (with_reducible repeat (first | refine blk_drewN ?_ _ | refine blk_drew ?_ | refine blk_alloc ?_ _)); exact BK115.out⟩, ⟨by (with_reducible repeat (first | refine blk_drewN ?_ _ | refine blk_drew ?_ | refine blk_alloc ?_ _)); exact BK116.out⟩, ⟨by (with_reducible repeat (first | refine blk_drewN ?_ _ | refine blk_drew ?_ | refine blk_alloc ?_ _)); exact BK117.out⟩, ⟨by (with_reducible repeat (first | refine blk_drewN ?_ _ | refine blk_drew ?_ | refine blk_alloc ?_ _)); exact BK121.out⟩, ⟨(mH4 HB.out GE115.out GE116.out GE117.out GE121.out)⟩⟩
   ·replace c22 := Bool.eq_false_iff.mpr c22
    subst c22
    have H1 : (impl_MemPut.j0 k a2 true l0_0 a1_0 a1_1 a1_2 t118) = some (r1, r2) := by rw [if_neg (show ¬ (false = true) by decide)] at H; exact H
    clear H
    have H := H1
    clear H1
    have H' := mS H
    clear H
    have hnb33 := NB115_116.out
    have hnc33 := NB116_115.out
    have hnb34 := NB115_117.out
    have hnc34 := NB117_115.out
    have hnb35 := NB115_121.out
    have hnc35 := NB121_115.out
    have hcz36_0 : w13.cell? ⟨gb115, 0, none⟩ = some (.slice A0_0 l0_0.length c0_0) := (blk_cell BK115.out 0).trans rfl
    have hfz36_0 := blk_frozen BK115.out 0
    go_wp2_with (first | ((with_reducible refine gate_callee (f := 18) rfl ?_); refine goesL_ (some 13) rfl rfl Try.func18 (by kernel_rfl) rfl #[.agg #[.slice A0_0 l0_0.length c0_0]] rfl mA ?_; (with_reducible refine (impl_MemOk.calls k _ _ l0_0 true _ ?side1 ?side2 A19.out).mono ?_); (case side1 => exact Kd.C_below HR0_0.out (mH4 HB.out GE115.out GE116.out GE117.out GE121.out)); (case side2 => exact HC0_0.out); rintro e w37 ⟨rfl, hb⟩; refine ⟨_, rfl, ?_⟩; replace HO120 := mS (Kd.R_below (by (with_reducible repeat (first | apply Kd.R_alloc | apply Kd.R_drewN | apply Kd.R_drew)); exact (Kd.R_mono (Kd.R_far (p := ⟨gb121, 0, none⟩) (Kd.R_types HO120.out BK121.out (by decide)) (fun _ hk => hk.2) (.slice Ao14 t118.length co14)) (fun _ h_ => h_.1))) hb); replace BK115 := mS (blk_below (g := gb115) (o := .cells #[.slice A0_0 l0_0.length c0_0] 26 (0, 0)) (by (with_reducible repeat (first | refine blk_drewN ?_ _ | refine blk_drew ?_ | refine blk_alloc ?_ _)); refine blk_far ?_ NB115_121.out _; (with_reducible repeat (first | refine blk_drewN ?_ _ | refine blk_drew ?_ | refine blk_alloc ?_ _)); exact BK115.out) hb); replace BK116 := mS (blk_below (g := gb116) (o := .cells #[.string a1_0, .string a1_1, .bool a1_2] 33 (0, 0)) (by (with_reducible repeat (first | refine blk_drewN ?_ _ | refine blk_drew ?_ | refine blk_alloc ?_ _)); refine blk_far ?_ NB116_121.out _; (with_reducible repeat (first | refine blk_drewN ?_ _ | refine blk_drew ?_ | refine blk_alloc ?_ _)); exact BK116.out) hb); replace BK117 := mS (blk_below (g := gb117) (o := .cells #[.slice none 0 0] 26 (0, 0)) (by (with_reducible repeat (first | refine blk_drewN ?_ _ | refine blk_drew ?_ | refine blk_alloc ?_ _)); refine blk_far ?_ NB117_121.out _; (with_reducible repeat (first | refine blk_drewN ?_ _ | refine blk_drew ?_ | refine blk_alloc ?_ _)); exact BK117.out) hb); replace BK121 := mS (blk_below (g := gb121) (o := .cells #[.slice Ao14 t118.length co14] 26 (0, 0)) (by (with_reducible repeat (first | refine blk_drewN ?_ _ | refine blk_drew ?_ | refine blk_alloc ?_ _)); refine blk_put (cs := #[.slice none 0 0]) ?_ 0 _ rfl; (with_reducible repeat (first | refine blk_drewN ?_ _ | refine blk_drew ?_ | refine blk_alloc ?_ _)); exact BK121.out) hb); replace HB := mS (below_step (mH4 HB.out GE115.out GE116.out GE117.out GE121.out) hb); (try clear hb); (try clear hb2); (try clear hk); (try clear hi); have hnb38 := NB116_117.out; have hnc38 := NB117_116.out; have hnb39 := NB116_121.out; have hnc39 := NB121_116.out; have hcz40_0 : w37.cell? ⟨gb116, 0, none⟩ = some (.string a1_0) := (blk_cell BK116.out 0).trans rfl; have hcz40_1 : w37.cell? ⟨gb116, 1, none⟩ = some (.string a1_1) := (blk_cell BK116.out 1).trans rfl; have hcz40_2 : w37.cell? ⟨gb116, 2, none⟩ = some (.bool a1_2) := (blk_cell BK116.out 2).trans rfl; have hfz40_0 := blk_frozen BK116.out 0; have hfz40_1 := blk_frozen BK116.out 1; have hfz40_2 := blk_frozen BK116.out 2) | (go_at_call 23; (with_reducible refine (impl_PairOk.calls a1_0 a1_1 a1_2 false _ A21.out).mono ?_); rintro e w41 ⟨rfl, hb⟩; replace HO120 := mS (Kd.R_below (mR HO120.out) hb); replace BK115 := mB BK115 hb; replace BK116 := mB BK116 hb; replace BK117 := mB BK117 hb; replace BK121 := mB BK121 hb; replace HB := mS (below_step (mH4 HB.out GE115.out GE116.out GE117.out GE121.out) hb); (try clear hb); (try clear hb2); (try clear hk); (try clear hi)))
    go_meet
    case rel => exact ⟨_, (true), (by first | rfl | (simp; done) | (simp [*]; done)), H', ⟨by first | omega | exact Nat.le_refl _⟩, ⟨by (with_reducible repeat (first | apply Kd.R_alloc | apply Kd.R_drewN | apply Kd.R_drew)); exact HO120.out⟩, ⟨by (with_reducible repeat (first | refine blk_drewN ?_ _ | refine blk_drew ?_ | refine blk_alloc ?_ _)); exact BK115.out⟩, ⟨by (with_reducible repeat (first | refine blk_drewN ?_ _ | refine blk_drew ?_ | refine blk_alloc ?_ _)); exact BK116.out⟩, ⟨by (with_reducible repeat (first | refine blk_drewN ?_ _ | refine blk_drew ?_ | refine blk_alloc ?_ _)); exact BK117.out⟩, ⟨by (with_reducible repeat (first | refine blk_drewN ?_ _ | refine blk_drew ?_ | refine blk_alloc ?_ _)); exact BK121.out⟩, ⟨(mH4 HB.out GE115.out GE116.out GE117.out GE121.out)⟩⟩
  ·replace c20 := Bool.eq_false_iff.mpr c20
   subst c20
   have H1 : (impl_MemPut.j0 k a2 true l0_0 a1_0 a1_1 a1_2 t118) = some (r1, r2) := by rw [if_neg (show ¬ (false = true) by decide)] at H; exact H
   clear H
   have H := H1
   clear H1
   have H' := mS H
   clear H
   have hnb42 := NB115_116.out
   have hnc42 := NB116_115.out
   have hnb43 := NB115_117.out
   have hnc43 := NB117_115.out
   have hnb44 := NB115_121.out
   have hnc44 := NB121_115.out
   have hcz45_0 : w13.cell? ⟨gb115, 0, none⟩ = some (.slice A0_0 l0_0.length c0_0) := (blk_cell BK115.out 0).trans rfl
   have hfz45_0 := blk_frozen BK115.out 0
   go_wp2_with (first | ((with_reducible refine gate_callee (f := 18) rfl ?_); refine goesL_ (some 13) rfl rfl Try.func18 (by kernel_rfl) rfl #[.agg #[.slice A0_0 l0_0.length c0_0]] rfl mA ?_; (with_reducible refine (impl_MemOk.calls k _ _ l0_0 false _ ?side1 ?side2 A19.out).mono ?_); (case side1 => exact Kd.C_below HR0_0.out (mH4 HB.out GE115.out GE116.out GE117.out GE121.out)); (case side2 => exact HC0_0.out); rintro e w46 ⟨rfl, hb⟩; refine ⟨_, rfl, ?_⟩; replace HO120 := mS (Kd.R_below (by (with_reducible repeat (first | apply Kd.R_alloc | apply Kd.R_drewN | apply Kd.R_drew)); exact (Kd.R_mono (Kd.R_far (p := ⟨gb121, 0, none⟩) (Kd.R_types HO120.out BK121.out (by decide)) (fun _ hk => hk.2) (.slice Ao14 t118.length co14)) (fun _ h_ => h_.1))) hb); replace BK115 := mS (blk_below (g := gb115) (o := .cells #[.slice A0_0 l0_0.length c0_0] 26 (0, 0)) (by (with_reducible repeat (first | refine blk_drewN ?_ _ | refine blk_drew ?_ | refine blk_alloc ?_ _)); refine blk_far ?_ NB115_121.out _; (with_reducible repeat (first | refine blk_drewN ?_ _ | refine blk_drew ?_ | refine blk_alloc ?_ _)); exact BK115.out) hb); replace BK116 := mS (blk_below (g := gb116) (o := .cells #[.string a1_0, .string a1_1, .bool a1_2] 33 (0, 0)) (by (with_reducible repeat (first | refine blk_drewN ?_ _ | refine blk_drew ?_ | refine blk_alloc ?_ _)); refine blk_far ?_ NB116_121.out _; (with_reducible repeat (first | refine blk_drewN ?_ _ | refine blk_drew ?_ | refine blk_alloc ?_ _)); exact BK116.out) hb); replace BK117 := mS (blk_below (g := gb117) (o := .cells #[.slice none 0 0] 26 (0, 0)) (by (with_reducible repeat (first | refine blk_drewN ?_ _ | refine blk_drew ?_ | refine blk_alloc ?_ _)); refine blk_far ?_ NB117_121.out _; (with_reducible repeat (first | refine blk_drewN ?_ _ | refine blk_drew ?_ | refine blk_alloc ?_ _)); exact BK117.out) hb); replace BK121 := mS (blk_below (g := gb121) (o := .cells #[.slice Ao14 t118.length co14] 26 (0, 0)) (by (with_reducible repeat (first | refine blk_drewN ?_ _ | refine blk_drew ?_ | refine blk_alloc ?_ _)); refine blk_put (cs := #[.slice none 0 0]) ?_ 0 _ rfl; (with_reducible repeat (first | refine blk_drewN ?_ _ | refine blk_drew ?_ | refine blk_alloc ?_ _)); exact BK121.out) hb); replace HB := mS (below_step (mH4 HB.out GE115.out GE116.out GE117.out GE121.out) hb); (try clear hb); (try clear hb2); (try clear hk); (try clear hi)))
   go_meet
   case rel => exact ⟨_, (true), (by first | rfl | (simp; done) | (simp [*]; done)), H', ⟨by first | omega | exact Nat.le_refl _⟩, ⟨by (with_reducible repeat (first | apply Kd.R_alloc | apply Kd.R_drewN | apply Kd.R_drew)); exact HO120.out⟩, ⟨by (with_reducible repeat (first | refine blk_drewN ?_ _ | refine blk_drew ?_ | refine blk_alloc ?_ _)); exact BK115.out⟩, ⟨by (with_reducible repeat (first | refine blk_drewN ?_ _ | refine blk_drew ?_ | refine blk_alloc ?_ _)); exact BK116.out⟩, ⟨by (with_reducible repeat (first | refine blk_drewN ?_ _ | refine blk_drew ?_ | refine blk_alloc ?_ _)); exact BK117.out⟩, ⟨by (with_reducible repeat (first | refine blk_drewN ?_ _ | refine blk_drew ?_ | refine blk_alloc ?_ _)); exact BK121.out⟩, ⟨(mH4 HB.out GE115.out GE116.out GE117.out GE121.out)⟩⟩
 case rest =>
  clear HC5
  try clear c1
  try clear c2
  try clear p2
  try clear c3
  try clear c4
  try clear c8
  try clear c9
  try clear c10
  try clear c15
  try clear c16
  try clear c17
  try clear c18
  try clear c20
  try clear c22
  try clear c24
  try clear c25
  try clear c26
  try clear c29
  try clear c30
  try clear c33
  try clear c34
  try clear c35
  try clear c38
  try clear c39
  try clear c42
  try clear c43
  try clear c44
  try clear hcz11_0
  try clear hcz18_0
  try clear hcz27_0
  try clear hcz31_0
  try clear hcz31_1
  try clear hcz31_2
  try clear hcz36_0
  try clear hcz40_0
  try clear hcz40_1
  try clear hcz40_2
  try clear hcz45_0
  try clear hfz11_0
  try clear hfz18_0
  try clear hfz27_0
  try clear hfz31_0
  try clear hfz31_1
  try clear hfz31_2
  try clear hfz36_0
  try clear hfz40_0
  try clear hfz40_1
  try clear hfz40_2
  try clear hfz45_0
  obtain ⟨kq, x24_4, rfl, HA, HJ4, HO_122000, BK115, BK116, BK117, BK121, HB⟩ := hcut
  cases kq with
  | zero => exact absurd HA.out (by simp [impl_MemPut.j0])
  | succ kj4 =>
   have H := HA.out
   clear HA
   simp only [impl_MemPut.j0] at H
   by_cases c47 : x24_4 = true
   ·subst c47
    have H1 : (some (t118, false)) = some (r1, r2) := by rw [if_pos rfl] at H; exact H
    clear H
    have H := H1
    clear H1
    simp only [Option.some.injEq, Prod.mk.injEq] at H
    obtain ⟨rfl, rfl⟩ := H
    have hnb48 := NB121_115.out
    have hnc48 := NB115_121.out
    have hnb49 := NB121_116.out
    have hnc49 := NB116_121.out
    have hnb50 := NB121_117.out
    have hnc50 := NB117_121.out
    have hcz51_0 : wc.cell? ⟨gb121, 0, none⟩ = some (.slice Ao14 t118.length co14) := (blk_cell BK121.out 0).trans rfl
    have hfz51_0 := blk_frozen BK121.out 0
    have hnb52 := NB117_115.out
    have hnc52 := NB115_117.out
    have hnb53 := NB117_116.out
    have hnc53 := NB116_117.out
    have hcz54_0 : wc.cell? ⟨gb117, 0, none⟩ = some (.slice none 0 0) := (blk_cell BK117.out 0).trans rfl
    have hfz54_0 := blk_frozen BK117.out 0
    go_wp2
    refine bodyPost_ret (results_ct rfl _ _ gb117 26 #[.slice Ao14 t118.length co14] (0, 0) _ rfl (by (with_reducible repeat (first | refine blk_drewN ?_ _ | refine blk_drew ?_ | refine blk_alloc ?_ _)); refine blk_put (cs := #[.slice none 0 0]) ?_ 0 _ rfl; (with_reducible repeat (first | refine blk_drewN ?_ _ | refine blk_drew ?_ | refine blk_alloc ?_ _)); exact BK117.out) Try.underlying26 rfl (by kernel_rfl)) rfl ?_
    exact ⟨_, by first | rfl | (simp [errW_none, errW_some] <;> rfl) | (simp [*, errW_none, errW_some] <;> rfl), by (with_reducible repeat (first | apply Kd.R_alloc | apply Kd.R_drewN | apply Kd.R_drew)); exact Kd.R_mono (Kd.R_far (p := ⟨gb117, 0, none⟩) (Kd.R_types HO_122000.out BK117.out (by decide)) (fun _ hk => hk.2) (.slice Ao14 t118.length co14)) (fun _ hk => trivial), (mH4 HB.out GE115.out GE116.out GE117.out GE121.out)⟩
   ·replace c47 := Bool.eq_false_iff.mpr c47
    subst c47
    have H1 : (impl_MemPut.l0 kj4 a2 0 l0_0 a1_0 a1_1 a1_2 t118) = some (r1, r2) := by rw [if_neg (show ¬ (false = true) by decide)] at H; exact H
    clear H
    have H := H1
    clear H1
    have HC55 := mS H
    clear H
    go_upto_block 0 with (fail)
    go_cut [9] (fun v9 wc => ∃ (kq : Nat) (x9_54 : Int), v9 = .int .i64 x9_54 ∧ Aside0 (impl_MemPut.j2 kq a2 x9_54 l0_0 a1_0 a1_1 a1_2 t118 = some (r1, r2)) ∧ Aside0 (kq ≤ kj4) ∧ Aside0 (Kd.R k35 35 wc w.heap.size (fun _ => True) (.slice Ao14 t118.length co14) t118) ∧ Aside0 (wc.heap[gb115]? = some (.cells #[(.slice A0_0 l0_0.length c0_0)] 26 (0, 0))) ∧ Aside0 (wc.heap[gb116]? = some (.cells #[.string a1_0, .string a1_1, .bool a1_2] 33 (0, 0))) ∧ Aside0 (wc.heap[gb117]? = some (.cells #[(.slice none 0 0)] 26 (0, 0))) ∧ Aside0 (wc.heap[gb121]? = some (.cells #[(.slice Ao14 t118.length co14)] 26 (0, 0))) ∧ Aside0 (Below w.heap.size w wc))
    case first =>
     have H := HC55.out
     clear HC55
     have H' := mS H
     clear H
     go_wp2
     go_loopg [9] kj4 (fun kq v9 w' => ∃ (x9_2 : Int), v9 = .int .i64 x9_2 ∧ Aside0 (impl_MemPut.l0 kq a2 x9_2 l0_0 a1_0 a1_1 a1_2 t118 = some (r1, r2)) ∧ Aside0 (kq ≤ kj4) ∧ Aside0 (Kd.R k35 35 w' w.heap.size (fun _ => True) (.slice Ao14 t118.length co14) t118) ∧ Aside0 (w'.heap[gb115]? = some (.cells #[(.slice A0_0 l0_0.length c0_0)] 26 (0, 0))) ∧ Aside0 (w'.heap[gb116]? = some (.cells #[.string a1_0, .string a1_1, .bool a1_2] 33 (0, 0))) ∧ Aside0 (w'.heap[gb117]? = some (.cells #[(.slice none 0 0)] 26 (0, 0))) ∧ Aside0 (w'.heap[gb121]? = some (.cells #[(.slice Ao14 t118.length co14)] 26 (0, 0))) ∧ Aside0 (Below w.heap.size w w'))
     case atStart => exact ⟨(0), (by first | rfl | (simp; done) | (simp [*]; done)), H', ⟨Nat.le_refl _⟩, ⟨by (with_reducible repeat (first | apply Kd.R_alloc | apply Kd.R_drewN | apply Kd.R_drew)); exact HO_122000.out⟩, ⟨by (with_reducible repeat (first | refine blk_drewN ?_ _ | refine blk_drew ?_ | refine blk_alloc ?_ _)); exact BK115.out⟩, ⟨by (with_reducible repeat (first | refine blk_drewN ?_ _ | refine blk_drew ?_ | refine blk_alloc ?_ _)); exact BK116.out⟩, ⟨by (with_reducible repeat (first | refine blk_drewN ?_ _ | refine blk_drew ?_ | refine blk_alloc ?_ _)); exact BK117.out⟩, ⟨by (with_reducible repeat (first | refine blk_drewN ?_ _ | refine blk_drew ?_ | refine blk_alloc ?_ _)); exact BK121.out⟩, ⟨(mH4 HB.out GE115.out GE116.out GE117.out GE121.out)⟩⟩
     case round =>
      clear H'
      try clear c1
      try clear c2
      try clear p2
      try clear c3
      try clear c4
      try clear c5
      try clear c8
      try clear c9
      try clear c10
      try clear c15
      try clear c16
      try clear c17
      try clear c18
      try clear c20
      try clear c22
      try clear c24
      try clear c25
      try clear c26
      try clear c29
      try clear c30
      try clear c33
      try clear c34
      try clear c35
      try clear c38
      try clear c39
      try clear c42
      try clear c43
      try clear c44
      try clear c47
      try clear c48
      try clear c49
      try clear c50
      try clear c52
      try clear c53
      try clear hcz11_0
      try clear hcz18_0
      try clear hcz27_0
      try clear hcz31_0
      try clear hcz31_1
      try clear hcz31_2
      try clear hcz36_0
      try clear hcz40_0
      try clear hcz40_1
      try clear hcz40_2
      try clear hcz45_0
      try clear hcz51_0
      try clear hcz54_0
      try clear hfz11_0
      try clear hfz18_0
      try clear hfz27_0
      try clear hfz31_0
      try clear hfz31_1
      try clear hfz31_2
      try clear hfz36_0
      try clear hfz40_0
      try clear hfz40_1
      try clear hfz40_2
      try clear hfz45_0
      try clear hfz51_0
      try clear hfz54_0
      try clear p2
      obtain ⟨x9_2, rfl, HA, HK2, HO_122000, BK115, BK116, BK117, BK121, HB⟩ := hrel
      cases gk with
      | zero => exact absurd HA.out (by simp [impl_MemPut.l0])
      | succ k2 =>
       have H := HA.out
       clear HA
       simp only [impl_MemPut.l0] at H
       by_cases c56 : x9_2 < (l0_0.length : Int)
       ·rw [if_pos c56] at H
        have c56b0 : decide (x9_2 < (l0_0.length : Int)) = true := decide_eq_true c56
        clear c56
        (first | rw [c56b0] | (simp only [i64_w, i32_w]; rw [c56b0]) | skip)
        by_cases c57 : 0 ≤ x9_2
        ·rw [if_pos c57] at H
         have c57b0 : decide (0 ≤ x9_2) = true := decide_eq_true c57
         clear c57
         by_cases c58 : (Op.bytesLess (((rd_T35 l0_0 x9_2).f0.f0).toList) a1_0.toList) = true
         ·rw [if_pos c58] at H
          have c58b0 : (Op.bytesLess (((rd_T35 l0_0 x9_2).f0.f0).toList) a1_0.toList) = true := c58
          clear c58
          have H' := mS H
          clear H
          try go_wp2
          have n0_ := mS (Kd.R_drew HO_122000.out)
          have n1_ := mS (blk_drew BK115.out)
          have n2_ := mS (blk_drew BK116.out)
          have n3_ := mS (blk_drew BK117.out)
          have n4_ := mS (blk_drew BK121.out)
          have n5_ := mS (below_drew1 HB.out)
          clear HO_122000
          clear BK115
          clear BK116
          clear BK117
          clear BK121
          clear HB
          have HO_122000 := n0_
          have BK115 := n1_
          have BK116 := n2_
          have BK117 := n3_
          have BK121 := n4_
          have HB := n5_
          clear n0_ n1_ n2_ n3_ n4_ n5_
          have p125 : 0 ≤ (x9_2 : Int) := of_decide_eq_true (by first | (with_reducible assumption) | assumption)
          have q125 : x9_2 < (l0_0.length : Int) := of_decide_eq_true (by first | (with_reducible assumption) | assumption)
          obtain ⟨ad125, e125, hx125_0, hx125_1, hx125_2, hx125_3⟩ := at_T35 HR0_0.out x9_2 p125 q125
          have hw125_3 := hx125_3
          have hw125_2 := hx125_2
          have hw125_1 := hx125_1
          have hw125_0 := hx125_0
          cases e125
          replace hx125_0 := mX HB.out hx125_0
          replace hx125_1 := mX HB.out hx125_1
          replace hx125_2 := mX HB.out hx125_2
          replace hx125_3 := mX HB.out hx125_3
          replace p125 := eq_true p125
          replace q125 := eq_true q125
          refine start_ (n := 17) (S := fun w' => w'.cell? ⟨gb115, 0, none⟩ = some (.slice (some ad125) l0_0.length c0_0) ∧ w'.cell? ⟨gb116, 0, none⟩ = some (.string a1_0) ∧ w'.cell? ⟨gb116, 1, none⟩ = some (.string a1_1) ∧ w'.cell? ⟨gb116, 2, none⟩ = some (.bool a1_2) ∧ w'.cell? (ad125.add ((x9_2).toNat * 4)) = some (.string ((rd_T35 l0_0 x9_2).f0.f0)) ∧ w'.cell? ⟨(ad125.add ((x9_2).toNat * 4)).block, (ad125.add ((x9_2).toNat * 4)).off + 1, none⟩ = some (.string ((rd_T35 l0_0 x9_2).f0.f1)) ∧ w'.cell? ⟨(ad125.add ((x9_2).toNat * 4)).block, (ad125.add ((x9_2).toNat * 4)).off + 2, none⟩ = some (.bool ((rd_T35 l0_0 x9_2).f0.f2)) ∧ w'.cell? ⟨(ad125.add ((x9_2).toNat * 4)).block, (ad125.add ((x9_2).toNat * 4)).off + 3, none⟩ = some (.int .i64 ((rd_T35 l0_0 x9_2).f1))) (ds := []) #[false, false, false, false, false, false, false, false, false, false, false, false, false, false, false, false, false] (by kernel_rfl) rfl rfl ⟨(blk_cell BK115.out 0).trans rfl, (blk_cell BK116.out 0).trans rfl, (blk_cell BK116.out 1).trans rfl, (blk_cell BK116.out 2).trans rfl, ((HB.out.cell (World.block_lt_of_cell? w _ hw125_0)).trans hw125_0), ((HB.out.cell (World.block_lt_of_cell? w _ hw125_1)).trans hw125_1), ((HB.out.cell (World.block_lt_of_cell? w _ hw125_2)).trans hw125_2), ((HB.out.cell (World.block_lt_of_cell? w _ hw125_3)).trans hw125_3)⟩ (fun hHeld => ?_); refine with_tabW impl_MemPut.tab5 impl_MemPut.bits5 (fun HT_ HW_ => ?_)
          generalize wr.drew = w59 at HO_122000 BK115 BK116 BK117 BK121 HB hx125_0 hx125_1 hx125_2 hx125_3 hHeld ⊢
          refine pure_ (i := 0) (N := some 26) (v := ?_) (a' := ?_) #[true, false, false, false, false, false, false, false, false, false, false, false, false, false, false, false, false] rfl rfl (any_of HT_.out (by kernel_rfl)) (fun _ _ _ h => h) (Or.inl ⟨by rfl, ?_⟩) ?_ ?_
          rotate_left
          ·intro w'
           go_simp
           with_reducible rfl
          rotate_left
          ·simp only [Act.put, zA, zB, zC, i64_w, i32_w]
           rfl
          refine pure_ (i := 1) (N := some 27) (v := ?_) (a' := ?_) #[true, true, false, false, false, false, false, false, false, false, false, false, false, false, false, false, false] rfl rfl (any_of HT_.out (by kernel_rfl)) (fun _ _ _ h => h) (Or.inl ⟨by rfl, ?_⟩) ?_ ?_
          rotate_left
          ·intro w'
           go_simp
           with_reducible rfl
          rotate_left
          ·simp only [Act.put, zA, zB, zC, i64_w, i32_w]
           rfl
          refine take_ (i := 2) (N := some 28) (v := ?_) (a' := ?_) #[true, true, true, false, false, false, false, false, false, false, false, false, false, false, false, false, false] rfl rfl (take_ofW HT_.out HW_.out (by kernel_rfl)) (fun _ _ _ h => h) (Or.inl ⟨by rfl, ?_⟩) hHeld ?_ ?_
          rotate_left
          ·rintro w' ⟨s0, s1, s2, s3, s4, s5, s6, s7⟩
           go_simp
           with_reducible rfl
          rotate_left
          ·simp only [Act.put, zA, zB, zC, i64_w, i32_w]
           rfl
          refine pure_ (i := 3) (N := some 29) (v := ?_) (a' := ?_) #[true, true, true, true, false, false, false, false, false, false, false, false, false, false, false, false, false] rfl rfl (any_of HT_.out (by kernel_rfl)) (fun _ _ _ h => h) (Or.inl ⟨by rfl, ?_⟩) ?_ ?_
          rotate_left
          ·intro w'
           go_simp
           with_reducible rfl
          rotate_left
          ·simp only [Act.put, zA, zB, zC, i64_w, i32_w]
           rfl
          refine pure_ (i := 4) (N := some 30) (v := ?_) (a' := ?_) #[true, true, true, true, true, false, false, false, false, false, false, false, false, false, false, false, false] rfl rfl (any_of HT_.out (by kernel_rfl)) (fun _ _ _ h => h) (Or.inl ⟨by rfl, ?_⟩) ?_ ?_
          rotate_left
          ·intro w'
           go_simp
           with_reducible rfl
          rotate_left
          ·simp only [Act.put, zA, zB, zC, i64_w, i32_w]
           rfl
          refine pure_ (i := 5) (N := some 31) (v := ?_) (a' := ?_) #[true, true, true, true, true, true, false, false, false, false, false, false, false, false, false, false, false] rfl rfl (any_of HT_.out (by kernel_rfl)) (fun _ _ _ h => h) (Or.inl ⟨by rfl, ?_⟩) ?_ ?_
          rotate_left
          ·intro w'
           go_simp
           with_reducible rfl
          rotate_left
          ·simp only [Act.put, zA, zB, zC, i64_w, i32_w]
           rfl
          refine pure_ (i := 6) (N := some 32) (v := ?_) (a' := ?_) #[true, true, true, true, true, true, true, false, false, false, false, false, false, false, false, false, false] rfl rfl (any_of HT_.out (by kernel_rfl)) (fun _ _ _ h => h) (Or.inl ⟨by rfl, ?_⟩) ?_ ?_
          rotate_left
          ·intro w'
           go_simp
           with_reducible rfl
          rotate_left
          ·simp only [Act.put, zA, zB, zC, i64_w, i32_w]
           rfl
          refine pure_ (i := 8) (N := some 34) (v := ?_) (a' := ?_) #[true, true, true, true, true, true, true, false, true, false, false, false, false, false, false, false, false] rfl rfl (any_of HT_.out (by kernel_rfl)) (fun _ _ _ h => h) (Or.inl ⟨by rfl, ?_⟩) ?_ ?_
          rotate_left
          ·intro w'
           go_simp
           with_reducible rfl
          rotate_left
          ·simp only [Act.put, zA, zB, zC, i64_w, i32_w]
           rfl
          refine pure_ (i := 13) (N := some 39) (v := ?_) (a' := ?_) #[true, true, true, true, true, true, true, false, true, false, false, false, false, true, false, false, false] rfl rfl (any_of HT_.out (by kernel_rfl)) (fun _ _ _ h => h) (Or.inl ⟨by rfl, ?_⟩) ?_ ?_
          rotate_left
          ·intro w'
           go_simp
           with_reducible rfl
          rotate_left
          ·simp only [Act.put, zA, zB, zC, i64_w, i32_w]
           rfl
          refine take_ (i := 7) (N := some 33) (v := ?_) (a' := ?_) #[true, true, true, true, true, true, true, true, true, false, false, false, false, true, false, false, false] rfl rfl (take_ofW HT_.out HW_.out (by kernel_rfl)) (fun _ _ _ h => h) (Or.inl ⟨by rfl, ?_⟩) hHeld ?_ ?_
          rotate_left
          ·rintro w' ⟨s0, s1, s2, s3, s4, s5, s6, s7⟩
           go_simp
           with_reducible rfl
          rotate_left
          ·simp only [Act.put, zA, zB, zC, i64_w, i32_w]
           rfl
          refine pure_ (i := 9) (N := some 35) (v := ?_) (a' := ?_) #[true, true, true, true, true, true, true, true, true, true, false, false, false, true, false, false, false] rfl rfl (any_of HT_.out (by kernel_rfl)) (fun _ _ _ h => h) (Or.inl ⟨by rfl, ?_⟩) ?_ ?_
          rotate_left
          ·intro w'
           go_simp
           with_reducible rfl
          rotate_left
          ·simp only [Act.put, zA, zB, zC, i64_w, i32_w]
           rfl
          refine pure_ (i := 10) (N := some 36) (v := ?_) (a' := ?_) #[true, true, true, true, true, true, true, true, true, true, true, false, false, true, false, false, false] rfl rfl (any_of HT_.out (by kernel_rfl)) (fun _ _ _ h => h) (Or.inl ⟨by rfl, ?_⟩) ?_ ?_
          rotate_left
          ·intro w'
           go_simp
           with_reducible rfl
          rotate_left
          ·simp only [Act.put, zA, zB, zC, i64_w, i32_w]
           rfl
          refine pure_ (i := 11) (N := some 37) (v := ?_) (a' := ?_) #[true, true, true, true, true, true, true, true, true, true, true, true, false, true, false, false, false] rfl rfl (any_of HT_.out (by kernel_rfl)) (fun _ _ _ h => h) (Or.inl ⟨by rfl, ?_⟩) ?_ ?_
          rotate_left
          ·intro w'
           go_simp
           with_reducible rfl
          rotate_left
          ·simp only [Act.put, zA, zB, zC, i64_w, i32_w]
           rfl
          refine take_ (i := 12) (N := some 38) (v := ?_) (a' := ?_) #[true, true, true, true, true, true, true, true, true, true, true, true, true, true, false, false, false] rfl rfl (take_ofW HT_.out HW_.out (by kernel_rfl)) (fun _ _ _ h => h) (Or.inl ⟨by rfl, ?_⟩) hHeld ?_ ?_
          rotate_left
          ·rintro w' ⟨s0, s1, s2, s3, s4, s5, s6, s7⟩
           go_simp
           with_reducible rfl
          rotate_left
          ·simp only [Act.put, zA, zB, zC, i64_w, i32_w]
           rfl
          refine take_ (i := 14) (N := some 40) (v := ?_) (a' := ?_) #[true, true, true, true, true, true, true, true, true, true, true, true, true, true, true, false, false] rfl rfl (take_ofW HT_.out HW_.out (by kernel_rfl)) (fun _ _ _ h => h) (Or.inl ⟨by rfl, ?_⟩) hHeld ?_ ?_
          rotate_left
          ·rintro w' ⟨s0, s1, s2, s3, s4, s5, s6, s7⟩
           go_simp
           with_reducible rfl
          rotate_left
          ·simp only [Act.put, zA, zB, zC, i64_w, i32_w]
           rfl
          refine pure_ (i := 15) (N := some 41) (v := ?_) (a' := ?_) #[true, true, true, true, true, true, true, true, true, true, true, true, true, true, true, true, false] rfl rfl (any_of HT_.out (by kernel_rfl)) (fun _ _ _ h => h) (Or.inl ⟨by rfl, ?_⟩) ?_ ?_
          rotate_left
          ·intro w'
           go_simp
           with_reducible rfl
          rotate_left
          ·simp only [Act.put, zA, zB, zC, i64_w, i32_w]
           rfl
          refine pure_ (i := 16) (N := some 42) (v := ?_) (a' := ?_) #[true, true, true, true, true, true, true, true, true, true, true, true, true, true, true, true, true] rfl rfl (any_of HT_.out (by kernel_rfl)) (fun _ _ _ h => h) (Or.inl ⟨by rfl, ?_⟩) ?_ ?_
          rotate_left
          ·intro w'
           go_simp
           with_reducible rfl
          rotate_left
          ·simp only [Act.put, zA, zB, zC, i64_w, i32_w]
           rfl
          refine done_ (done_of HT_.out (by kernel_rfl)) ?_
          try go_wp2
          go_roundg k2
          case measure => have := HJ4.out; have := HK2.out; omega
          case rel => exact ⟨(wrap64 (x9_2 + 1)), (by first | rfl | (simp; done) | (simp [*]; done)), H', ⟨by have := HJ4.out; have := HK2.out; omega⟩, ⟨by (with_reducible repeat (first | apply Kd.R_alloc | apply Kd.R_drewN | apply Kd.R_drew)); exact HO_122000.out⟩, ⟨by (with_reducible repeat (first | refine blk_drewN ?_ _ | refine blk_drew ?_ | refine blk_alloc ?_ _)); exact BK115.out⟩, ⟨by (with_reducible repeat (first | refine blk_drewN ?_ _ | refine blk_drew ?_ | refine blk_alloc ?_ _)); exact BK116.out⟩, ⟨by (with_reducible repeat (first | refine blk_drewN ?_ _ | refine blk_drew ?_ | refine blk_alloc ?_ _)); exact BK117.out⟩, ⟨by (with_reducible repeat (first | refine blk_drewN ?_ _ | refine blk_drew ?_ | refine blk_alloc ?_ _)); exact BK121.out⟩, ⟨(mH4 HB.out GE115.out GE116.out GE117.out GE121.out)⟩⟩
         ·rw [if_neg c58] at H
          have c58b0 : (Op.bytesLess (((rd_T35 l0_0 x9_2).f0.f0).toList) a1_0.toList) = false := by simpa using c58
          clear c58
          have H' := mS H
          clear H
          try go_wp2
          have n0_ := mS (Kd.R_drew HO_122000.out)
          have n1_ := mS (blk_drew BK115.out)
          have n2_ := mS (blk_drew BK116.out)
          have n3_ := mS (blk_drew BK117.out)
          have n4_ := mS (blk_drew BK121.out)
          have n5_ := mS (below_drew1 HB.out)
          clear HO_122000
          clear BK115
          clear BK116
          clear BK117
          clear BK121
          clear HB
          have HO_122000 := n0_
          have BK115 := n1_
          have BK116 := n2_
          have BK117 := n3_
          have BK121 := n4_
          have HB := n5_
          clear n0_ n1_ n2_ n3_ n4_ n5_
          have p125 : 0 ≤ (x9_2 : Int) := of_decide_eq_true (by first | (with_reducible assumption) | assumption)
          have q125 : x9_2 < (l0_0.length : Int) := of_decide_eq_true (by first | (with_reducible assumption) | assumption)
          obtain ⟨ad125, e125, hx125_0, hx125_1, hx125_2, hx125_3⟩ := at_T35 HR0_0.out x9_2 p125 q125
          have hw125_3 := hx125_3
          have hw125_2 := hx125_2
          have hw125_1 := hx125_1
          have hw125_0 := hx125_0
          cases e125
          replace hx125_0 := mX HB.out hx125_0
          replace hx125_1 := mX HB.out hx125_1
          replace hx125_2 := mX HB.out hx125_2
          replace hx125_3 := mX HB.out hx125_3
          replace p125 := eq_true p125
          replace q125 := eq_true q125
          refine start_ (n := 17) (S := fun w' => w'.cell? ⟨gb115, 0, none⟩ = some (.slice (some ad125) l0_0.length c0_0) ∧ w'.cell? ⟨gb116, 0, none⟩ = some (.string a1_0) ∧ w'.cell? ⟨gb116, 1, none⟩ = some (.string a1_1) ∧ w'.cell? ⟨gb116, 2, none⟩ = some (.bool a1_2) ∧ w'.cell? (ad125.add ((x9_2).toNat * 4)) = some (.string ((rd_T35 l0_0 x9_2).f0.f0)) ∧ w'.cell? ⟨(ad125.add ((x9_2).toNat * 4)).block, (ad125.add ((x9_2).toNat * 4)).off + 1, none⟩ = some (.string ((rd_T35 l0_0 x9_2).f0.f1)) ∧ w'.cell? ⟨(ad125.add ((x9_2).toNat * 4)).block, (ad125.add ((x9_2).toNat * 4)).off + 2, none⟩ = some (.bool ((rd_T35 l0_0 x9_2).f0.f2)) ∧ w'.cell? ⟨(ad125.add ((x9_2).toNat * 4)).block, (ad125.add ((x9_2).toNat * 4)).off + 3, none⟩ = some (.int .i64 ((rd_T35 l0_0 x9_2).f1))) (ds := []) #[false, false, false, false, false, false, false, false, false, false, false, false, false, false, false, false, false] (by kernel_rfl) rfl rfl ⟨(blk_cell BK115.out 0).trans rfl, (blk_cell BK116.out 0).trans rfl, (blk_cell BK116.out 1).trans rfl, (blk_cell BK116.out 2).trans rfl, ((HB.out.cell (World.block_lt_of_cell? w _ hw125_0)).trans hw125_0), ((HB.out.cell (World.block_lt_of_cell? w _ hw125_1)).trans hw125_1), ((HB.out.cell (World.block_lt_of_cell? w _ hw125_2)).trans hw125_2), ((HB.out.cell (World.block_lt_of_cell? w _ hw125_3)).trans hw125_3)⟩ (fun hHeld => ?_); refine with_tabW impl_MemPut.tab5 impl_MemPut.bits5 (fun HT_ HW_ => ?_)
          generalize wr.drew = w60 at HO_122000 BK115 BK116 BK117 BK121 HB hx125_0 hx125_1 hx125_2 hx125_3 hHeld ⊢
          refine pure_ (i := 0) (N := some 26) (v := ?_) (a' := ?_) #[true, false, false, false, false, false, false, false, false, false, false, false, false, false, false, false, false] rfl rfl (any_of HT_.out (by kernel_rfl)) (fun _ _ _ h => h) (Or.inl ⟨by rfl, ?_⟩) ?_ ?_
          rotate_left
          ·intro w'
           go_simp
           with_reducible rfl
          rotate_left
          ·simp only [Act.put, zA, zB, zC, i64_w, i32_w]
           rfl
          refine pure_ (i := 1) (N := some 27) (v := ?_) (a' := ?_) #[true, true, false, false, false, false, false, false, false, false, false, false, false, false, false, false, false] rfl rfl (any_of HT_.out (by kernel_rfl)) (fun _ _ _ h => h) (Or.inl ⟨by rfl, ?_⟩) ?_ ?_
          rotate_left
          ·intro w'
           go_simp
           with_reducible rfl
          rotate_left
          ·simp only [Act.put, zA, zB, zC, i64_w, i32_w]
           rfl
          refine take_ (i := 2) (N := some 28) (v := ?_) (a' := ?_) #[true, true, true, false, false, false, false, false, false, false, false, false, false, false, false, false, false] rfl rfl (take_ofW HT_.out HW_.out (by kernel_rfl)) (fun _ _ _ h => h) (Or.inl ⟨by rfl, ?_⟩) hHeld ?_ ?_
          rotate_left
          ·rintro w' ⟨s0, s1, s2, s3, s4, s5, s6, s7⟩
           go_simp
           with_reducible rfl
          rotate_left
          ·simp only [Act.put, zA, zB, zC, i64_w, i32_w]
           rfl
          refine pure_ (i := 3) (N := some 29) (v := ?_) (a' := ?_) #[true, true, true, true, false, false, false, false, false, false, false, false, false, false, false, false, false] rfl rfl (any_of HT_.out (by kernel_rfl)) (fun _ _ _ h => h) (Or.inl ⟨by rfl, ?_⟩) ?_ ?_
          rotate_left
          ·intro w'
           go_simp
           with_reducible rfl
          rotate_left
          ·simp only [Act.put, zA, zB, zC, i64_w, i32_w]
           rfl
          refine pure_ (i := 4) (N := some 30) (v := ?_) (a' := ?_) #[true, true, true, true, true, false, false, false, false, false, false, false, false, false, false, false, false] rfl rfl (any_of HT_.out (by kernel_rfl)) (fun _ _ _ h => h) (Or.inl ⟨by rfl, ?_⟩) ?_ ?_
          rotate_left
          ·intro w'
           go_simp
           with_reducible rfl
          rotate_left
          ·simp only [Act.put, zA, zB, zC, i64_w, i32_w]
           rfl
          refine pure_ (i := 5) (N := some 31) (v := ?_) (a' := ?_) #[true, true, true, true, true, true, false, false, false, false, false, false, false, false, false, false, false] rfl rfl (any_of HT_.out (by kernel_rfl)) (fun _ _ _ h => h) (Or.inl ⟨by rfl, ?_⟩) ?_ ?_
          rotate_left
          ·intro w'
           go_simp
           with_reducible rfl
          rotate_left
          ·simp only [Act.put, zA, zB, zC, i64_w, i32_w]
           rfl
          refine pure_ (i := 6) (N := some 32) (v := ?_) (a' := ?_) #[true, true, true, true, true, true, true, false, false, false, false, false, false, false, false, false, false] rfl rfl (any_of HT_.out (by kernel_rfl)) (fun _ _ _ h => h) (Or.inl ⟨by rfl, ?_⟩) ?_ ?_
          rotate_left
          ·intro w'
           go_simp
           with_reducible rfl
          rotate_left
          ·simp only [Act.put, zA, zB, zC, i64_w, i32_w]
           rfl
          refine pure_ (i := 8) (N := some 34) (v := ?_) (a' := ?_) #[true, true, true, true, true, true, true, false, true, false, false, false, false, false, false, false, false] rfl rfl (any_of HT_.out (by kernel_rfl)) (fun _ _ _ h => h) (Or.inl ⟨by rfl, ?_⟩) ?_ ?_
          rotate_left
          ·intro w'
           go_simp
           with_reducible rfl
          rotate_left
          ·simp only [Act.put, zA, zB, zC, i64_w, i32_w]
           rfl
          refine pure_ (i := 13) (N := some 39) (v := ?_) (a' := ?_) #[true, true, true, true, true, true, true, false, true, false, false, false, false, true, false, false, false] rfl rfl (any_of HT_.out (by kernel_rfl)) (fun _ _ _ h => h) (Or.inl ⟨by rfl, ?_⟩) ?_ ?_
          rotate_left
          ·intro w'
           go_simp
           with_reducible rfl
          rotate_left
          ·simp only [Act.put, zA, zB, zC, i64_w, i32_w]
           rfl
          refine take_ (i := 7) (N := some 33) (v := ?_) (a' := ?_) #[true, true, true, true, true, true, true, true, true, false, false, false, false, true, false, false, false] rfl rfl (take_ofW HT_.out HW_.out (by kernel_rfl)) (fun _ _ _ h => h) (Or.inl ⟨by rfl, ?_⟩) hHeld ?_ ?_
          rotate_left
          ·rintro w' ⟨s0, s1, s2, s3, s4, s5, s6, s7⟩
           go_simp
           with_reducible rfl
          rotate_left
          ·simp only [Act.put, zA, zB, zC, i64_w, i32_w]
           rfl
          refine pure_ (i := 9) (N := some 35) (v := ?_) (a' := ?_) #[true, true, true, true, true, true, true, true, true, true, false, false, false, true, false, false, false] rfl rfl (any_of HT_.out (by kernel_rfl)) (fun _ _ _ h => h) (Or.inl ⟨by rfl, ?_⟩) ?_ ?_
          rotate_left
          ·intro w'
           go_simp
           with_reducible rfl
          rotate_left
          ·simp only [Act.put, zA, zB, zC, i64_w, i32_w]
           rfl
          refine pure_ (i := 10) (N := some 36) (v := ?_) (a' := ?_) #[true, true, true, true, true, true, true, true, true, true, true, false, false, true, false, false, false] rfl rfl (any_of HT_.out (by kernel_rfl)) (fun _ _ _ h => h) (Or.inl ⟨by rfl, ?_⟩) ?_ ?_
          rotate_left
          ·intro w'
           go_simp
           with_reducible rfl
          rotate_left
          ·simp only [Act.put, zA, zB, zC, i64_w, i32_w]
           rfl
          refine pure_ (i := 11) (N := some 37) (v := ?_) (a' := ?_) #[true, true, true, true, true, true, true, true, true, true, true, true, false, true, false, false, false] rfl rfl (any_of HT_.out (by kernel_rfl)) (fun _ _ _ h => h) (Or.inl ⟨by rfl, ?_⟩) ?_ ?_
          rotate_left
          ·intro w'
           go_simp
           with_reducible rfl
          rotate_left
          ·simp only [Act.put, zA, zB, zC, i64_w, i32_w]
           rfl
          refine take_ (i := 12) (N := some 38) (v := ?_) (a' := ?_) #[true, true, true, true, true, true, true, true, true, true, true, true, true, true, false, false, false] rfl rfl (take_ofW HT_.out HW_.out (by kernel_rfl)) (fun _ _ _ h => h) (Or.inl ⟨by rfl, ?_⟩) hHeld ?_ ?_
          rotate_left
          ·rintro w' ⟨s0, s1, s2, s3, s4, s5, s6, s7⟩
           go_simp
           with_reducible rfl
          rotate_left
          ·simp only [Act.put, zA, zB, zC, i64_w, i32_w]
           rfl
          refine take_ (i := 14) (N := some 40) (v := ?_) (a' := ?_) #[true, true, true, true, true, true, true, true, true, true, true, true, true, true, true, false, false] rfl rfl (take_ofW HT_.out HW_.out (by kernel_rfl)) (fun _ _ _ h => h) (Or.inl ⟨by rfl, ?_⟩) hHeld ?_ ?_
          rotate_left
          ·rintro w' ⟨s0, s1, s2, s3, s4, s5, s6, s7⟩
           go_simp
           with_reducible rfl
          rotate_left
          ·simp only [Act.put, zA, zB, zC, i64_w, i32_w]
           rfl
          refine pure_ (i := 15) (N := some 41) (v := ?_) (a' := ?_) #[true, true, true, true, true, true, true, true, true, true, true, true, true, true, true, true, false] rfl rfl (any_of HT_.out (by kernel_rfl)) (fun _ _ _ h => h) (Or.inl ⟨by rfl, ?_⟩) ?_ ?_
          rotate_left
          ·intro w'
           go_simp
           with_reducible rfl
          rotate_left
          ·simp only [Act.put, zA, zB, zC, i64_w, i32_w]
           rfl
          refine pure_ (i := 16) (N := some 42) (v := ?_) (a' := ?_) #[true, true, true, true, true, true, true, true, true, true, true, true, true, true, true, true, true] rfl rfl (any_of HT_.out (by kernel_rfl)) (fun _ _ _ h => h) (Or.inl ⟨by rfl, ?_⟩) ?_ ?_
          rotate_left
          ·intro w'
           go_simp
           with_reducible rfl
          rotate_left
          ·simp only [Act.put, zA, zB, zC, i64_w, i32_w]
           rfl
          refine done_ (done_of HT_.out (by kernel_rfl)) ?_
          try go_wp2
          go_meet
          case rel => exact ⟨_, (x9_2), (by first | rfl | (simp; done) | (simp [*]; done)), H', ⟨by have := HJ4.out; have := HK2.out; first | omega | exact Nat.le_refl _⟩, ⟨by (with_reducible repeat (first | apply Kd.R_alloc | apply Kd.R_drewN | apply Kd.R_drew)); exact HO_122000.out⟩, ⟨by (with_reducible repeat (first | refine blk_drewN ?_ _ | refine blk_drew ?_ | refine blk_alloc ?_ _)); exact BK115.out⟩, ⟨by (with_reducible repeat (first | refine blk_drewN ?_ _ | refine blk_drew ?_ | refine blk_alloc ?_ _)); exact BK116.out⟩, ⟨by (with_reducible repeat (first | refine blk_drewN ?_ _ | refine blk_drew ?_ | refine blk_alloc ?_ _)); exact BK117.out⟩, ⟨by (with_reducible repeat (first | refine blk_drewN ?_ _ | refine blk_drew ?_ | refine blk_alloc ?_ _)); exact BK121.out⟩, ⟨(mH4 HB.out GE115.out GE116.out GE117.out GE121.out)⟩⟩
        ·rw [if_neg c57] at H
         exact absurd H (by simp)
       ·rw [if_neg c56] at H
        have c56b0 : decide (x9_2 < (l0_0.length : Int)) = false := decide_eq_false c56
        clear c56
        (first | rw [c56b0] | (simp only [i64_w, i32_w]; rw [c56b0]) | skip)
        have H' := mS H
        clear H
        try go_wp2
        have n0_ := mS (Kd.R_drew HO_122000.out)
        have n1_ := mS (blk_drew BK115.out)
        have n2_ := mS (blk_drew BK116.out)
        have n3_ := mS (blk_drew BK117.out)
        have n4_ := mS (blk_drew BK121.out)
        have n5_ := mS (below_drew1 HB.out)
        clear HO_122000
        clear BK115
        clear BK116
        clear BK117
        clear BK121
        clear HB
        have HO_122000 := n0_
        have BK115 := n1_
        have BK116 := n2_
        have BK117 := n3_
        have BK121 := n4_
        have HB := n5_
        clear n0_ n1_ n2_ n3_ n4_ n5_
        refine start_ (n := 17) (S := fun w' => w'.cell? ⟨gb115, 0, none⟩ = some (.slice A0_0 l0_0.length c0_0)) (ds := []) #[false, false, false, false, false, false, false, false, false, false, false, false, false, false, false, false, false] (by kernel_rfl) rfl rfl ((blk_cell BK115.out 0).trans rfl) (fun hHeld => ?_); refine with_tabW impl_MemPut.tab5 impl_MemPut.bits5 (fun HT_ HW_ => ?_)
        generalize wr.drew = w61 at HO_122000 BK115 BK116 BK117 BK121 HB hHeld ⊢
        refine pure_ (i := 0) (N := some 26) (v := ?_) (a' := ?_) #[true, false, false, false, false, false, false, false, false, false, false, false, false, false, false, false, false] rfl rfl (any_of HT_.out (by kernel_rfl)) (fun _ _ _ h => h) (Or.inl ⟨by rfl, ?_⟩) ?_ ?_
        rotate_left
        ·intro w'
         go_simp
         with_reducible rfl
        rotate_left
        ·simp only [Act.put, zA, zB, zC, i64_w, i32_w]
         rfl
        refine pure_ (i := 1) (N := some 27) (v := ?_) (a' := ?_) #[true, true, false, false, false, false, false, false, false, false, false, false, false, false, false, false, false] rfl rfl (any_of HT_.out (by kernel_rfl)) (fun _ _ _ h => h) (Or.inl ⟨by rfl, ?_⟩) ?_ ?_
        rotate_left
        ·intro w'
         go_simp
         with_reducible rfl
        rotate_left
        ·simp only [Act.put, zA, zB, zC, i64_w, i32_w]
         rfl
        refine take_ (i := 2) (N := some 28) (v := ?_) (a' := ?_) #[true, true, true, false, false, false, false, false, false, false, false, false, false, false, false, false, false] rfl rfl (take_ofW HT_.out HW_.out (by kernel_rfl)) (fun _ _ _ h => h) (Or.inl ⟨by rfl, ?_⟩) hHeld ?_ ?_
        rotate_left
        ·intro w' s0
         go_simp
         with_reducible rfl
        rotate_left
        ·simp only [Act.put, zA, zB, zC, i64_w, i32_w]
         rfl
        refine pure_ (i := 3) (N := some 29) (v := ?_) (a' := ?_) #[true, true, true, true, false, false, false, false, false, false, false, false, false, false, false, false, false] rfl rfl (any_of HT_.out (by kernel_rfl)) (fun _ _ _ h => h) (Or.inl ⟨by rfl, ?_⟩) ?_ ?_
        rotate_left
        ·intro w'
         go_simp
         with_reducible rfl
        rotate_left
        ·simp only [Act.put, zA, zB, zC, i64_w, i32_w]
         rfl
        refine pure_ (i := 4) (N := some 30) (v := ?_) (a' := ?_) #[true, true, true, true, true, false, false, false, false, false, false, false, false, false, false, false, false] rfl rfl (any_of HT_.out (by kernel_rfl)) (fun _ _ _ h => h) (Or.inl ⟨by rfl, ?_⟩) ?_ ?_
        rotate_left
        ·intro w'
         go_simp
         with_reducible rfl
        rotate_left
        ·simp only [Act.put, zA, zB, zC, i64_w, i32_w]
         rfl
        refine pure_ (i := 5) (N := some 31) (v := ?_) (a' := ?_) #[true, true, true, true, true, true, false, false, false, false, false, false, false, false, false, false, false] rfl rfl (any_of HT_.out (by kernel_rfl)) (fun _ _ _ h => h) (Or.inl ⟨by rfl, ?_⟩) ?_ ?_
        rotate_left
        ·intro w'
         go_simp
         with_reducible rfl
        rotate_left
        ·simp only [Act.put, zA, zB, zC, i64_w, i32_w]
         rfl
        refine pure_ (i := 6) (N := some 32) (v := undef) (a' := ?_) #[true, true, true, true, true, true, true, false, false, false, false, false, false, false, false, false, false] rfl rfl (any_of HT_.out (by kernel_rfl)) (fun _ _ _ h => h) (Or.inr ⟨by rfl, rfl⟩) ?_ ?_
        rotate_left
        ·simp only [Act.put, zA, zB, zC, i64_w, i32_w]
         rfl
        refine pure_ (i := 7) (N := some 33) (v := undef) (a' := ?_) #[true, true, true, true, true, true, true, true, false, false, false, false, false, false, false, false, false] rfl rfl (any_of HT_.out (by kernel_rfl)) (fun _ _ _ h => h) (Or.inr ⟨by rfl, rfl⟩) ?_ ?_
        rotate_left
        ·simp only [Act.put, zA, zB, zC, i64_w, i32_w]
         rfl
        refine pure_ (i := 8) (N := some 34) (v := undef) (a' := ?_) #[true, true, true, true, true, true, true, true, true, false, false, false, false, false, false, false, false] rfl rfl (any_of HT_.out (by kernel_rfl)) (fun _ _ _ h => h) (Or.inr ⟨by rfl, rfl⟩) ?_ ?_
        rotate_left
        ·simp only [Act.put, zA, zB, zC, i64_w, i32_w]
         rfl
        refine pure_ (i := 9) (N := some 35) (v := undef) (a' := ?_) #[true, true, true, true, true, true, true, true, true, true, false, false, false, false, false, false, false] rfl rfl (any_of HT_.out (by kernel_rfl)) (fun _ _ _ h => h) (Or.inr ⟨by rfl, rfl⟩) ?_ ?_
        rotate_left
        ·simp only [Act.put, zA, zB, zC, i64_w, i32_w]
         rfl
        refine pure_ (i := 10) (N := some 36) (v := undef) (a' := ?_) #[true, true, true, true, true, true, true, true, true, true, true, false, false, false, false, false, false] rfl rfl (any_of HT_.out (by kernel_rfl)) (fun _ _ _ h => h) (Or.inr ⟨by rfl, rfl⟩) ?_ ?_
        rotate_left
        ·simp only [Act.put, zA, zB, zC, i64_w, i32_w]
         rfl
        refine pure_ (i := 11) (N := some 37) (v := undef) (a' := ?_) #[true, true, true, true, true, true, true, true, true, true, true, true, false, false, false, false, false] rfl rfl (any_of HT_.out (by kernel_rfl)) (fun _ _ _ h => h) (Or.inr ⟨by rfl, rfl⟩) ?_ ?_
        rotate_left
        ·simp only [Act.put, zA, zB, zC, i64_w, i32_w]
         rfl
        refine pure_ (i := 12) (N := some 38) (v := undef) (a' := ?_) #[true, true, true, true, true, true, true, true, true, true, true, true, true, false, false, false, false] rfl rfl (any_of HT_.out (by kernel_rfl)) (fun _ _ _ h => h) (Or.inr ⟨by rfl, rfl⟩) ?_ ?_
        rotate_left
        ·simp only [Act.put, zA, zB, zC, i64_w, i32_w]
         rfl
        refine pure_ (i := 13) (N := some 39) (v := undef) (a' := ?_) #[true, true, true, true, true, true, true, true, true, true, true, true, true, true, false, false, false] rfl rfl (any_of HT_.out (by kernel_rfl)) (fun _ _ _ h => h) (Or.inr ⟨by rfl, rfl⟩) ?_ ?_
        rotate_left
        ·simp only [Act.put, zA, zB, zC, i64_w, i32_w]
         rfl
        refine pure_ (i := 14) (N := some 40) (v := undef) (a' := ?_) #[true, true, true, true, true, true, true, true, true, true, true, true, true, true, true, false, false] rfl rfl (any_of HT_.out (by kernel_rfl)) (fun _ _ _ h => h) (Or.inr ⟨by rfl, rfl⟩) ?_ ?_
        rotate_left
        ·simp only [Act.put, zA, zB, zC, i64_w, i32_w]
         rfl
        refine pure_ (i := 15) (N := some 41) (v := undef) (a' := ?_) #[true, true, true, true, true, true, true, true, true, true, true, true, true, true, true, true, false] rfl rfl (any_of HT_.out (by kernel_rfl)) (fun _ _ _ h => h) (Or.inr ⟨by rfl, rfl⟩) ?_ ?_
        rotate_left
        ·simp only [Act.put, zA, zB, zC, i64_w, i32_w]
         rfl
        refine pure_ (i := 16) (N := some 42) (v := ?_) (a' := ?_) #[true, true, true, true, true, true, true, true, true, true, true, true, true, true, true, true, true] rfl rfl (any_of HT_.out (by kernel_rfl)) (fun _ _ _ h => h) (Or.inl ⟨by rfl, ?_⟩) ?_ ?_
        rotate_left
        ·intro w'
         go_simp
         with_reducible rfl
        rotate_left
        ·simp only [Act.put, zA, zB, zC, i64_w, i32_w]
         rfl
        refine done_ (done_of HT_.out (by kernel_rfl)) ?_
        try go_wp2
        go_meet
        case rel => exact ⟨_, (x9_2), (by first | rfl | (simp; done) | (simp [*]; done)), H', ⟨by have := HJ4.out; have := HK2.out; first | omega | exact Nat.le_refl _⟩, ⟨by (with_reducible repeat (first | apply Kd.R_alloc | apply Kd.R_drewN | apply Kd.R_drew)); exact HO_122000.out⟩, ⟨by (with_reducible repeat (first | refine blk_drewN ?_ _ | refine blk_drew ?_ | refine blk_alloc ?_ _)); exact BK115.out⟩, ⟨by (with_reducible repeat (first | refine blk_drewN ?_ _ | refine blk_drew ?_ | refine blk_alloc ?_ _)); exact BK116.out⟩, ⟨by (with_reducible repeat (first | refine blk_drewN ?_ _ | refine blk_drew ?_ | refine blk_alloc ?_ _)); exact BK117.out⟩, ⟨by (with_reducible repeat (first | refine blk_drewN ?_ _ | refine blk_drew ?_ | refine blk_alloc ?_ _)); exact BK121.out⟩, ⟨(mH4 HB.out GE115.out GE116.out GE117.out GE121.out)⟩⟩
    case rest =>
     clear HC55
     try clear c1
     try clear p1
     try clear q1
     try clear hx1
     try clear c2
     try clear p2
     try clear c3
     try clear c4
     try clear c5
     try clear p6
     try clear c8
     try clear c9
     try clear c10
     try clear p12
     try clear q12
     try clear hx12
     try clear c15
     try clear c16
     try clear c17
     try clear c18
     try clear c20
     try clear c22
     try clear c24
     try clear c25
     try clear c26
     try clear c29
     try clear c30
     try clear c33
     try clear c34
     try clear c35
     try clear c38
     try clear c39
     try clear c42
     try clear c43
     try clear c44
     try clear c47
     try clear c48
     try clear c49
     try clear c50
     try clear c52
     try clear c53
     try clear c56
     try clear c56b0
     try clear c57
     try clear c57b0
     try clear c58
     try clear c58b0
     try clear hcz11_0
     try clear hcz18_0
     try clear hcz27_0
     try clear hcz31_0
     try clear hcz31_1
     try clear hcz31_2
     try clear hcz36_0
     try clear hcz40_0
     try clear hcz40_1
     try clear hcz40_2
     try clear hcz45_0
     try clear hcz51_0
     try clear hcz54_0
     try clear hfz11_0
     try clear hfz18_0
     try clear hfz27_0
     try clear hfz31_0
     try clear hfz31_1
     try clear hfz31_2
     try clear hfz36_0
     try clear hfz40_0
     try clear hfz40_1
     try clear hfz40_2
     try clear hfz45_0
     try clear hfz51_0
     try clear hfz54_0
     try clear hx125_0
     try clear hx125_1
     try clear hx125_2
     try clear hx125_3
     try clear p125
     try clear p2
     try clear q125
     obtain ⟨kq, x9_54, rfl, HA, HJ54, HO_122000, BK115, BK116, BK117, BK121, HB⟩ := hcut
     cases kq with
     | zero => exact absurd HA.out (by simp [impl_MemPut.j2])
     | succ kj54 =>
      have H := HA.out
      clear HA
      simp only [impl_MemPut.j2] at H
      have HC62 := mS H
      clear H
      go_upto_region 7 with (fail)
      go_cut [61] (fun v61 wc => ∃ (kq : Nat) (x61_61 : Bool), v61 = .bool x61_61 ∧ Aside0 (impl_MemPut.j3 kq a2 x9_54 x61_61 l0_0 a1_0 a1_1 a1_2 t118 = some (r1, r2)) ∧ Aside0 (kq ≤ kj54) ∧ Aside0 (Kd.R k35 35 wc w.heap.size (fun _ => True) (.slice Ao14 t118.length co14) t118) ∧ Aside0 (wc.heap[gb115]? = some (.cells #[(.slice A0_0 l0_0.length c0_0)] 26 (0, 0))) ∧ Aside0 (wc.heap[gb116]? = some (.cells #[.string a1_0, .string a1_1, .bool a1_2] 33 (0, 0))) ∧ Aside0 (wc.heap[gb117]? = some (.cells #[(.slice none 0 0)] 26 (0, 0))) ∧ Aside0 (wc.heap[gb121]? = some (.cells #[(.slice Ao14 t118.length co14)] 26 (0, 0))) ∧ Aside0 (Below w.heap.size w wc))
      case first =>
       have H := HC62.out
       clear HC62
       by_cases c63 : x9_54 < (l0_0.length : Int)
       ·rw [if_pos c63] at H
        have c63b0 : decide (x9_54 < (l0_0.length : Int)) = true := decide_eq_true c63
        clear c63
        (first | rw [c63b0] | (simp only [i64_w, i32_w]; rw [c63b0]) | skip)
        by_cases c64 : 0 ≤ x9_54
        ·rw [if_pos c64] at H
         have c64b0 : decide (0 ≤ x9_54) = true := decide_eq_true c64
         clear c64
         have H' := mS H
         clear H
         try go_wp2
         have n0_ := mS (Kd.R_drew HO_122000.out)
         have n1_ := mS (blk_drew BK115.out)
         have n2_ := mS (blk_drew BK116.out)
         have n3_ := mS (blk_drew BK117.out)
         have n4_ := mS (blk_drew BK121.out)
         have n5_ := mS (below_drew1 HB.out)
         clear HO_122000
         clear BK115
         clear BK116
         clear BK117
         clear BK121
         clear HB
         have HO_122000 := n0_
         have BK115 := n1_
         have BK116 := n2_
         have BK117 := n3_
         have BK121 := n4_
         have HB := n5_
         clear n0_ n1_ n2_ n3_ n4_ n5_
         have p126 : 0 ≤ (x9_54 : Int) := of_decide_eq_true (by first | (with_reducible assumption) | assumption)
         have q126 : x9_54 < (l0_0.length : Int) := of_decide_eq_true (by first | (with_reducible assumption) | assumption)
         obtain ⟨ad126, e126, hx126_0, hx126_1, hx126_2, hx126_3⟩ := at_T35 HR0_0.out x9_54 p126 q126
         have hw126_3 := hx126_3
         have hw126_2 := hx126_2
         have hw126_1 := hx126_1
         have hw126_0 := hx126_0
         cases e126
         replace hx126_0 := mX HB.out hx126_0
         replace hx126_1 := mX HB.out hx126_1
         replace hx126_2 := mX HB.out hx126_2
         replace hx126_3 := mX HB.out hx126_3
         replace p126 := eq_true p126
         replace q126 := eq_true q126
         refine start_ (n := 17) (S := fun w' => w'.cell? ⟨gb115, 0, none⟩ = some (.slice (some ad126) l0_0.length c0_0) ∧ w'.cell? ⟨gb116, 0, none⟩ = some (.string a1_0) ∧ w'.cell? ⟨gb116, 1, none⟩ = some (.string a1_1) ∧ w'.cell? ⟨gb116, 2, none⟩ = some (.bool a1_2) ∧ w'.cell? (ad126.add ((x9_54).toNat * 4)) = some (.string ((rd_T35 l0_0 x9_54).f0.f0)) ∧ w'.cell? ⟨(ad126.add ((x9_54).toNat * 4)).block, (ad126.add ((x9_54).toNat * 4)).off + 1, none⟩ = some (.string ((rd_T35 l0_0 x9_54).f0.f1)) ∧ w'.cell? ⟨(ad126.add ((x9_54).toNat * 4)).block, (ad126.add ((x9_54).toNat * 4)).off + 2, none⟩ = some (.bool ((rd_T35 l0_0 x9_54).f0.f2)) ∧ w'.cell? ⟨(ad126.add ((x9_54).toNat * 4)).block, (ad126.add ((x9_54).toNat * 4)).off + 3, none⟩ = some (.int .i64 ((rd_T35 l0_0 x9_54).f1))) (ds := []) #[false, false, false, false, false, false, false, false, false, false, false, false, false, false, false, false, false] (by kernel_rfl) rfl rfl ⟨(blk_cell BK115.out 0).trans rfl, (blk_cell BK116.out 0).trans rfl, (blk_cell BK116.out 1).trans rfl, (blk_cell BK116.out 2).trans rfl, ((HB.out.cell (World.block_lt_of_cell? w _ hw126_0)).trans hw126_0), ((HB.out.cell (World.block_lt_of_cell? w _ hw126_1)).trans hw126_1), ((HB.out.cell (World.block_lt_of_cell? w _ hw126_2)).trans hw126_2), ((HB.out.cell (World.block_lt_of_cell? w _ hw126_3)).trans hw126_3)⟩ (fun hHeld => ?_); refine with_tabW impl_MemPut.tab7 impl_MemPut.bits7 (fun HT_ HW_ => ?_)
         generalize wc.drew = w65 at HO_122000 BK115 BK116 BK117 BK121 HB hx126_0 hx126_1 hx126_2 hx126_3 hHeld ⊢
         refine pure_ (i := 0) (N := some 45) (v := ?_) (a' := ?_) #[true, false, false, false, false, false, false, false, false, false, false, false, false, false, false, false, false] rfl rfl (any_of HT_.out (by kernel_rfl)) (fun _ _ _ h => h) (Or.inl ⟨by rfl, ?_⟩) ?_ ?_
         rotate_left
         ·intro w'
          go_simp
          with_reducible rfl
         rotate_left
         ·simp only [Act.put, zA, zB, zC, i64_w, i32_w]
          rfl
         refine pure_ (i := 1) (N := some 46) (v := ?_) (a' := ?_) #[true, true, false, false, false, false, false, false, false, false, false, false, false, false, false, false, false] rfl rfl (any_of HT_.out (by kernel_rfl)) (fun _ _ _ h => h) (Or.inl ⟨by rfl, ?_⟩) ?_ ?_
         rotate_left
         ·intro w'
          go_simp
          with_reducible rfl
         rotate_left
         ·simp only [Act.put, zA, zB, zC, i64_w, i32_w]
          rfl
         refine take_ (i := 2) (N := some 47) (v := ?_) (a' := ?_) #[true, true, true, false, false, false, false, false, false, false, false, false, false, false, false, false, false] rfl rfl (take_ofW HT_.out HW_.out (by kernel_rfl)) (fun _ _ _ h => h) (Or.inl ⟨by rfl, ?_⟩) hHeld ?_ ?_
         rotate_left
         ·rintro w' ⟨s0, s1, s2, s3, s4, s5, s6, s7⟩
          go_simp
          with_reducible rfl
         rotate_left
         ·simp only [Act.put, zA, zB, zC, i64_w, i32_w]
          rfl
         refine pure_ (i := 3) (N := some 48) (v := ?_) (a' := ?_) #[true, true, true, true, false, false, false, false, false, false, false, false, false, false, false, false, false] rfl rfl (any_of HT_.out (by kernel_rfl)) (fun _ _ _ h => h) (Or.inl ⟨by rfl, ?_⟩) ?_ ?_
         rotate_left
         ·intro w'
          go_simp
          with_reducible rfl
         rotate_left
         ·simp only [Act.put, zA, zB, zC, i64_w, i32_w]
          rfl
         refine pure_ (i := 4) (N := some 49) (v := ?_) (a' := ?_) #[true, true, true, true, true, false, false, false, false, false, false, false, false, false, false, false, false] rfl rfl (any_of HT_.out (by kernel_rfl)) (fun _ _ _ h => h) (Or.inl ⟨by rfl, ?_⟩) ?_ ?_
         rotate_left
         ·intro w'
          go_simp
          with_reducible rfl
         rotate_left
         ·simp only [Act.put, zA, zB, zC, i64_w, i32_w]
          rfl
         refine pure_ (i := 5) (N := some 50) (v := ?_) (a' := ?_) #[true, true, true, true, true, true, false, false, false, false, false, false, false, false, false, false, false] rfl rfl (any_of HT_.out (by kernel_rfl)) (fun _ _ _ h => h) (Or.inl ⟨by rfl, ?_⟩) ?_ ?_
         rotate_left
         ·intro w'
          go_simp
          with_reducible rfl
         rotate_left
         ·simp only [Act.put, zA, zB, zC, i64_w, i32_w]
          rfl
         refine pure_ (i := 6) (N := some 51) (v := ?_) (a' := ?_) #[true, true, true, true, true, true, true, false, false, false, false, false, false, false, false, false, false] rfl rfl (any_of HT_.out (by kernel_rfl)) (fun _ _ _ h => h) (Or.inl ⟨by rfl, ?_⟩) ?_ ?_
         rotate_left
         ·intro w'
          go_simp
          with_reducible rfl
         rotate_left
         ·simp only [Act.put, zA, zB, zC, i64_w, i32_w]
          rfl
         refine pure_ (i := 8) (N := some 53) (v := ?_) (a' := ?_) #[true, true, true, true, true, true, true, false, true, false, false, false, false, false, false, false, false] rfl rfl (any_of HT_.out (by kernel_rfl)) (fun _ _ _ h => h) (Or.inl ⟨by rfl, ?_⟩) ?_ ?_
         rotate_left
         ·intro w'
          go_simp
          with_reducible rfl
         rotate_left
         ·simp only [Act.put, zA, zB, zC, i64_w, i32_w]
          rfl
         refine pure_ (i := 13) (N := some 58) (v := ?_) (a' := ?_) #[true, true, true, true, true, true, true, false, true, false, false, false, false, true, false, false, false] rfl rfl (any_of HT_.out (by kernel_rfl)) (fun _ _ _ h => h) (Or.inl ⟨by rfl, ?_⟩) ?_ ?_
         rotate_left
         ·intro w'
          go_simp
          with_reducible rfl
         rotate_left
         ·simp only [Act.put, zA, zB, zC, i64_w, i32_w]
          rfl
         refine take_ (i := 7) (N := some 52) (v := ?_) (a' := ?_) #[true, true, true, true, true, true, true, true, true, false, false, false, false, true, false, false, false] rfl rfl (take_ofW HT_.out HW_.out (by kernel_rfl)) (fun _ _ _ h => h) (Or.inl ⟨by rfl, ?_⟩) hHeld ?_ ?_
         rotate_left
         ·rintro w' ⟨s0, s1, s2, s3, s4, s5, s6, s7⟩
          go_simp
          with_reducible rfl
         rotate_left
         ·simp only [Act.put, zA, zB, zC, i64_w, i32_w]
          rfl
         refine pure_ (i := 9) (N := some 54) (v := ?_) (a' := ?_) #[true, true, true, true, true, true, true, true, true, true, false, false, false, true, false, false, false] rfl rfl (any_of HT_.out (by kernel_rfl)) (fun _ _ _ h => h) (Or.inl ⟨by rfl, ?_⟩) ?_ ?_
         rotate_left
         ·intro w'
          go_simp
          with_reducible rfl
         rotate_left
         ·simp only [Act.put, zA, zB, zC, i64_w, i32_w]
          rfl
         refine pure_ (i := 10) (N := some 55) (v := ?_) (a' := ?_) #[true, true, true, true, true, true, true, true, true, true, true, false, false, true, false, false, false] rfl rfl (any_of HT_.out (by kernel_rfl)) (fun _ _ _ h => h) (Or.inl ⟨by rfl, ?_⟩) ?_ ?_
         rotate_left
         ·intro w'
          go_simp
          with_reducible rfl
         rotate_left
         ·simp only [Act.put, zA, zB, zC, i64_w, i32_w]
          rfl
         refine pure_ (i := 11) (N := some 56) (v := ?_) (a' := ?_) #[true, true, true, true, true, true, true, true, true, true, true, true, false, true, false, false, false] rfl rfl (any_of HT_.out (by kernel_rfl)) (fun _ _ _ h => h) (Or.inl ⟨by rfl, ?_⟩) ?_ ?_
         rotate_left
         ·intro w'
          go_simp
          with_reducible rfl
         rotate_left
         ·simp only [Act.put, zA, zB, zC, i64_w, i32_w]
          rfl
         refine take_ (i := 12) (N := some 57) (v := ?_) (a' := ?_) #[true, true, true, true, true, true, true, true, true, true, true, true, true, true, false, false, false] rfl rfl (take_ofW HT_.out HW_.out (by kernel_rfl)) (fun _ _ _ h => h) (Or.inl ⟨by rfl, ?_⟩) hHeld ?_ ?_
         rotate_left
         ·rintro w' ⟨s0, s1, s2, s3, s4, s5, s6, s7⟩
          go_simp
          with_reducible rfl
         rotate_left
         ·simp only [Act.put, zA, zB, zC, i64_w, i32_w]
          rfl
         refine take_ (i := 14) (N := some 59) (v := ?_) (a' := ?_) #[true, true, true, true, true, true, true, true, true, true, true, true, true, true, true, false, false] rfl rfl (take_ofW HT_.out HW_.out (by kernel_rfl)) (fun _ _ _ h => h) (Or.inl ⟨by rfl, ?_⟩) hHeld ?_ ?_
         rotate_left
         ·rintro w' ⟨s0, s1, s2, s3, s4, s5, s6, s7⟩
          go_simp
          with_reducible rfl
         rotate_left
         ·simp only [Act.put, zA, zB, zC, i64_w, i32_w]
          rfl
         refine pure_ (i := 15) (N := some 60) (v := ?_) (a' := ?_) #[true, true, true, true, true, true, true, true, true, true, true, true, true, true, true, true, false] rfl rfl (any_of HT_.out (by kernel_rfl)) (fun _ _ _ h => h) (Or.inl ⟨by rfl, ?_⟩) ?_ ?_
         rotate_left
         ·intro w'
          go_simp
          with_reducible rfl
         rotate_left
         ·simp only [Act.put, zA, zB, zC, i64_w, i32_w]
          rfl
         refine pure_ (i := 16) (N := some 61) (v := ?_) (a' := ?_) #[true, true, true, true, true, true, true, true, true, true, true, true, true, true, true, true, true] rfl rfl (any_of HT_.out (by kernel_rfl)) (fun _ _ _ h => h) (Or.inl ⟨by rfl, ?_⟩) ?_ ?_
         rotate_left
         ·intro w'
          go_simp
          with_reducible rfl
         rotate_left
         ·simp only [Act.put, zA, zB, zC, i64_w, i32_w]
          rfl
         refine done_ (done_of HT_.out (by kernel_rfl)) ?_
         try go_wp2
         go_meet
         case rel => exact ⟨_, ((((rd_T35 l0_0 x9_54).f0.f0).toList == a1_0.toList)), (by first | rfl | (simp; done) | (simp [*]; done)), H', ⟨by have := HJ4.out; have := HJ54.out; first | omega | exact Nat.le_refl _⟩, ⟨by (with_reducible repeat (first | apply Kd.R_alloc | apply Kd.R_drewN | apply Kd.R_drew)); exact HO_122000.out⟩, ⟨by (with_reducible repeat (first | refine blk_drewN ?_ _ | refine blk_drew ?_ | refine blk_alloc ?_ _)); exact BK115.out⟩, ⟨by (with_reducible repeat (first | refine blk_drewN ?_ _ | refine blk_drew ?_ | refine blk_alloc ?_ _)); exact BK116.out⟩, ⟨by (with_reducible repeat (first | refine blk_drewN ?_ _ | refine blk_drew ?_ | refine blk_alloc ?_ _)); exact BK117.out⟩, ⟨by (with_reducible repeat (first | refine blk_drewN ?_ _ | refine blk_drew ?_ | refine blk_alloc ?_ _)); exact BK121.out⟩, ⟨(mH4 HB.out GE115.out GE116.out GE117.out GE121.out)⟩⟩
        ·rw [if_neg c64] at H
         exact absurd H (by simp)
       ·rw [if_neg c63] at H
        have c63b0 : decide (x9_54 < (l0_0.length : Int)) = false := decide_eq_false c63
        clear c63
        (first | rw [c63b0] | (simp only [i64_w, i32_w]; rw [c63b0]) | skip)
        have H' := mS H
        clear H
        try go_wp2
        have n0_ := mS (Kd.R_drew HO_122000.out)
        have n1_ := mS (blk_drew BK115.out)
        have n2_ := mS (blk_drew BK116.out)
        have n3_ := mS (blk_drew BK117.out)
        have n4_ := mS (blk_drew BK121.out)
        have n5_ := mS (below_drew1 HB.out)
        clear HO_122000
        clear BK115
        clear BK116
        clear BK117
        clear BK121
        clear HB
        have HO_122000 := n0_
        have BK115 := n1_
        have BK116 := n2_
        have BK117 := n3_
        have BK121 := n4_
        have HB := n5_
        clear n0_ n1_ n2_ n3_ n4_ n5_
        refine start_ (n := 17) (S := fun w' => w'.cell? ⟨gb115, 0, none⟩ = some (.slice A0_0 l0_0.length c0_0)) (ds := []) #[false, false, false, false, false, false, false, false, false, false, false, false, false, false, false, false, false] (by kernel_rfl) rfl rfl ((blk_cell BK115.out 0).trans rfl) (fun hHeld => ?_); refine with_tabW impl_MemPut.tab7 impl_MemPut.bits7 (fun HT_ HW_ => ?_)
        generalize wc.drew = w66 at HO_122000 BK115 BK116 BK117 BK121 HB hHeld ⊢
        refine pure_ (i := 0) (N := some 45) (v := ?_) (a' := ?_) #[true, false, false, false, false, false, false, false, false, false, false, false, false, false, false, false, false] rfl rfl (any_of HT_.out (by kernel_rfl)) (fun _ _ _ h => h) (Or.inl ⟨by rfl, ?_⟩) ?_ ?_
        rotate_left
        ·intro w'
         go_simp
         with_reducible rfl
        rotate_left
        ·simp only [Act.put, zA, zB, zC, i64_w, i32_w]
         rfl
        refine pure_ (i := 1) (N := some 46) (v := ?_) (a' := ?_) #[true, true, false, false, false, false, false, false, false, false, false, false, false, false, false, false, false] rfl rfl (any_of HT_.out (by kernel_rfl)) (fun _ _ _ h => h) (Or.inl ⟨by rfl, ?_⟩) ?_ ?_
        rotate_left
        ·intro w'
         go_simp
         with_reducible rfl
        rotate_left
        ·simp only [Act.put, zA, zB, zC, i64_w, i32_w]
         rfl
        refine take_ (i := 2) (N := some 47) (v := ?_) (a' := ?_) #[true, true, true, false, false, false, false, false, false, false, false, false, false, false, false, false, false] rfl rfl (take_ofW HT_.out HW_.out (by kernel_rfl)) (fun _ _ _ h => h) (Or.inl ⟨by rfl, ?_⟩) hHeld ?_ ?_
        rotate_left
        ·intro w' s0
         go_simp
         with_reducible rfl
        rotate_left
        ·simp only [Act.put, zA, zB, zC, i64_w, i32_w]
         rfl
        refine pure_ (i := 3) (N := some 48) (v := ?_) (a' := ?_) #[true, true, true, true, false, false, false, false, false, false, false, false, false, false, false, false, false] rfl rfl (any_of HT_.out (by kernel_rfl)) (fun _ _ _ h => h) (Or.inl ⟨by rfl, ?_⟩) ?_ ?_
        rotate_left
        ·intro w'
         go_simp
         with_reducible rfl
        rotate_left
        ·simp only [Act.put, zA, zB, zC, i64_w, i32_w]
         rfl
        refine pure_ (i := 4) (N := some 49) (v := ?_) (a' := ?_) #[true, true, true, true, true, false, false, false, false, false, false, false, false, false, false, false, false] rfl rfl (any_of HT_.out (by kernel_rfl)) (fun _ _ _ h => h) (Or.inl ⟨by rfl, ?_⟩) ?_ ?_
        rotate_left
        ·intro w'
         go_simp
         with_reducible rfl
        rotate_left
        ·simp only [Act.put, zA, zB, zC, i64_w, i32_w]
         rfl
        refine pure_ (i := 5) (N := some 50) (v := ?_) (a' := ?_) #[true, true, true, true, true, true, false, false, false, false, false, false, false, false, false, false, false] rfl rfl (any_of HT_.out (by kernel_rfl)) (fun _ _ _ h => h) (Or.inl ⟨by rfl, ?_⟩) ?_ ?_
        rotate_left
        ·intro w'
         go_simp
         with_reducible rfl
        rotate_left
        ·simp only [Act.put, zA, zB, zC, i64_w, i32_w]
         rfl
        refine pure_ (i := 6) (N := some 51) (v := undef) (a' := ?_) #[true, true, true, true, true, true, true, false, false, false, false, false, false, false, false, false, false] rfl rfl (any_of HT_.out (by kernel_rfl)) (fun _ _ _ h => h) (Or.inr ⟨by rfl, rfl⟩) ?_ ?_
        rotate_left
        ·simp only [Act.put, zA, zB, zC, i64_w, i32_w]
         rfl
        refine pure_ (i := 7) (N := some 52) (v := undef) (a' := ?_) #[true, true, true, true, true, true, true, true, false, false, false, false, false, false, false, false, false] rfl rfl (any_of HT_.out (by kernel_rfl)) (fun _ _ _ h => h) (Or.inr ⟨by rfl, rfl⟩) ?_ ?_
        rotate_left
        ·simp only [Act.put, zA, zB, zC, i64_w, i32_w]
         rfl
        refine pure_ (i := 8) (N := some 53) (v := undef) (a' := ?_) #[true, true, true, true, true, true, true, true, true, false, false, false, false, false, false, false, false] rfl rfl (any_of HT_.out (by kernel_rfl)) (fun _ _ _ h => h) (Or.inr ⟨by rfl, rfl⟩) ?_ ?_
        rotate_left
        ·simp only [Act.put, zA, zB, zC, i64_w, i32_w]
         rfl
        refine pure_ (i := 9) (N := some 54) (v := undef) (a' := ?_) #[true, true, true, true, true, true, true, true, true, true, false, false, false, false, false, false, false] rfl rfl (any_of HT_.out (by kernel_rfl)) (fun _ _ _ h => h) (Or.inr ⟨by rfl, rfl⟩) ?_ ?_
        rotate_left
        ·simp only [Act.put, zA, zB, zC, i64_w, i32_w]
         rfl
        refine pure_ (i := 10) (N := some 55) (v := undef) (a' := ?_) #[true, true, true, true, true, true, true, true, true, true, true, false, false, false, false, false, false] rfl rfl (any_of HT_.out (by kernel_rfl)) (fun _ _ _ h => h) (Or.inr ⟨by rfl, rfl⟩) ?_ ?_
        rotate_left
        ·simp only [Act.put, zA, zB, zC, i64_w, i32_w]
         rfl
        refine pure_ (i := 11) (N := some 56) (v := undef) (a' := ?_) #[true, true, true, true, true, true, true, true, true, true, true, true, false, false, false, false, false] rfl rfl (any_of HT_.out (by kernel_rfl)) (fun _ _ _ h => h) (Or.inr ⟨by rfl, rfl⟩) ?_ ?_
        rotate_left
        ·simp only [Act.put, zA, zB, zC, i64_w, i32_w]
         rfl
        refine pure_ (i := 12) (N := some 57) (v := undef) (a' := ?_) #[true, true, true, true, true, true, true, true, true, true, true, true, true, false, false, false, false] rfl rfl (any_of HT_.out (by kernel_rfl)) (fun _ _ _ h => h) (Or.inr ⟨by rfl, rfl⟩) ?_ ?_
        rotate_left
        ·simp only [Act.put, zA, zB, zC, i64_w, i32_w]
         rfl
        refine pure_ (i := 13) (N := some 58) (v := undef) (a' := ?_) #[true, true, true, true, true, true, true, true, true, true, true, true, true, true, false, false, false] rfl rfl (any_of HT_.out (by kernel_rfl)) (fun _ _ _ h => h) (Or.inr ⟨by rfl, rfl⟩) ?_ ?_
        rotate_left
        ·simp only [Act.put, zA, zB, zC, i64_w, i32_w]
         rfl
        refine pure_ (i := 14) (N := some 59) (v := undef) (a' := ?_) #[true, true, true, true, true, true, true, true, true, true, true, true, true, true, true, false, false] rfl rfl (any_of HT_.out (by kernel_rfl)) (fun _ _ _ h => h) (Or.inr ⟨by rfl, rfl⟩) ?_ ?_
        rotate_left
        ·simp only [Act.put, zA, zB, zC, i64_w, i32_w]
         rfl
        refine pure_ (i := 15) (N := some 60) (v := undef) (a' := ?_) #[true, true, true, true, true, true, true, true, true, true, true, true, true, true, true, true, false] rfl rfl (any_of HT_.out (by kernel_rfl)) (fun _ _ _ h => h) (Or.inr ⟨by rfl, rfl⟩) ?_ ?_
        rotate_left
        ·simp only [Act.put, zA, zB, zC, i64_w, i32_w]
         rfl
        refine pure_ (i := 16) (N := some 61) (v := ?_) (a' := ?_) #[true, true, true, true, true, true, true, true, true, true, true, true, true, true, true, true, true] rfl rfl (any_of HT_.out (by kernel_rfl)) (fun _ _ _ h => h) (Or.inl ⟨by rfl, ?_⟩) ?_ ?_
        rotate_left
        ·intro w'
         go_simp
         with_reducible rfl
        rotate_left
        ·simp only [Act.put, zA, zB, zC, i64_w, i32_w]
         rfl
        refine done_ (done_of HT_.out (by kernel_rfl)) ?_
        try go_wp2
        go_meet
        case rel => exact ⟨_, (false), (by first | rfl | (simp; done) | (simp [*]; done)), H', ⟨by have := HJ4.out; have := HJ54.out; first | omega | exact Nat.le_refl _⟩, ⟨by (with_reducible repeat (first | apply Kd.R_alloc | apply Kd.R_drewN | apply Kd.R_drew)); exact HO_122000.out⟩, ⟨by (with_reducible repeat (first | refine blk_drewN ?_ _ | refine blk_drew ?_ | refine blk_alloc ?_ _)); exact BK115.out⟩, ⟨by (with_reducible repeat (first | refine blk_drewN ?_ _ | refine blk_drew ?_ | refine blk_alloc ?_ _)); exact BK116.out⟩, ⟨by (with_reducible repeat (first | refine blk_drewN ?_ _ | refine blk_drew ?_ | refine blk_alloc ?_ _)); exact BK117.out⟩, ⟨by (with_reducible repeat (first | refine blk_drewN ?_ _ | refine blk_drew ?_ | refine blk_alloc ?_ _)); exact BK121.out⟩, ⟨(mH4 HB.out GE115.out GE116.out GE117.out GE121.out)⟩⟩
      case rest =>
       clear HC62
       try clear c1
       try clear p1
       try clear q1
       try clear hx1
       try clear c2
       try clear p2
       try clear c3
       try clear c4
       try clear c5
       try clear c6
       try clear p6
       try clear c8
       try clear c9
       try clear c10
       try clear p12
       try clear q12
       try clear hx12
       try clear c15
       try clear c16
       try clear c17
       try clear c18
       try clear c20
       try clear c22
       try clear c24
       try clear c25
       try clear c26
       try clear c29
       try clear c30
       try clear c33
       try clear c34
       try clear c35
       try clear c38
       try clear c39
       try clear c42
       try clear c43
       try clear c44
       try clear c47
       try clear c48
       try clear c49
       try clear c50
       try clear c52
       try clear c53
       try clear c56
       try clear c56b0
       try clear c57
       try clear c57b0
       try clear c58
       try clear c58b0
       try clear c63
       try clear c63b0
       try clear c64
       try clear c64b0
       try clear hcz11_0
       try clear hcz18_0
       try clear hcz27_0
       try clear hcz31_0
       try clear hcz31_1
       try clear hcz31_2
       try clear hcz36_0
       try clear hcz40_0
       try clear hcz40_1
       try clear hcz40_2
       try clear hcz45_0
       try clear hcz51_0
       try clear hcz54_0
       try clear hfz11_0
       try clear hfz18_0
       try clear hfz27_0
       try clear hfz31_0
       try clear hfz31_1
       try clear hfz31_2
       try clear hfz36_0
       try clear hfz40_0
       try clear hfz40_1
       try clear hfz40_2
       try clear hfz45_0
       try clear hfz51_0
       try clear hfz54_0
       try clear hx125_0
       try clear hx125_1
       try clear hx125_2
       try clear hx125_3
       try clear hx126_0
       try clear hx126_1
       try clear hx126_2
       try clear hx126_3
       try clear p1
       try clear p12
       try clear p125
       try clear p126
       try clear p2
       try clear p6
       try clear q1
       try clear q12
       try clear q125
       try clear q126
       obtain ⟨kq, x61_61, rfl, HA, HJ61, HO_122000, BK115, BK116, BK117, BK121, HB⟩ := hcut
       cases kq with
       | zero => exact absurd HA.out (by simp [impl_MemPut.j3])
       | succ kj61 =>
        have H := HA.out
        clear HA
        simp only [impl_MemPut.j3] at H
        by_cases c67 : x61_61 = true
        ·subst c67
         have H1 : (if 0 ≤ x9_54 then (if x9_54 < (t118.length : Int) then (some ((t118.set (x9_54 : Int).toNat (⟨(⟨a1_0, a1_1, a1_2⟩ : S33), (rd_T35 t118 x9_54).f1⟩ : S35)), true)) else (none)) else (none)) = some (r1, r2) := by rw [if_pos rfl] at H; exact H
         clear H
         have H := H1
         clear H1
         by_cases c68 : 0 ≤ x9_54
         ·rw [if_pos c68] at H
          have c68b0 : decide (0 ≤ x9_54) = true := decide_eq_true c68
          clear c68
          by_cases c69 : x9_54 < (t118.length : Int)
          ·rw [if_pos c69] at H
           have c69b0 : decide (x9_54 < (t118.length : Int)) = true := decide_eq_true c69
           clear c69
           obtain ⟨y127, hy127⟩ : ∃ y_ : List (S35), y_ = (t118.set (x9_54 : Int).toNat (⟨(⟨a1_0, a1_1, a1_2⟩ : S33), (rd_T35 t118 x9_54).f1⟩ : S35)) := ⟨_, rfl⟩
           replace H : (some (y127, true)) = some (r1, r2) := by first | (rw [hy127]; with_reducible exact H) | (have H2_ := (Option.bind_some _ _).symm.trans H; rw [hy127]; with_reducible exact H2_) | (have H2_ := (Option.bind_some _ _).symm.trans H; with_reducible exact H2_) | with_reducible exact H | (rw [hy127]; exact H) | exact H
           have Ny127 := mS hy127
           clear hy127
           simp only [Option.some.injEq, Prod.mk.injEq] at H
           obtain ⟨rfl, rfl⟩ := H
           have hnb71 := NB121_115.out
           have hnc71 := NB115_121.out
           have hnb72 := NB121_116.out
           have hnc72 := NB116_121.out
           have hnb73 := NB121_117.out
           have hnc73 := NB117_121.out
           have hcz74_0 : wc.cell? ⟨gb121, 0, none⟩ = some (.slice Ao14 t118.length co14) := (blk_cell BK121.out 0).trans rfl
           have hfz74_0 := blk_frozen BK121.out 0
           have hnb75 := NB116_115.out
           have hnc75 := NB115_116.out
           have hnb76 := NB116_117.out
           have hnc76 := NB117_116.out
           have hcz77_0 : wc.cell? ⟨gb116, 0, none⟩ = some (.string a1_0) := (blk_cell BK116.out 0).trans rfl
           have hcz77_1 : wc.cell? ⟨gb116, 1, none⟩ = some (.string a1_1) := (blk_cell BK116.out 1).trans rfl
           have hcz77_2 : wc.cell? ⟨gb116, 2, none⟩ = some (.bool a1_2) := (blk_cell BK116.out 2).trans rfl
           have hfz77_0 := blk_frozen BK116.out 0
           have hfz77_1 := blk_frozen BK116.out 1
           have hfz77_2 := blk_frozen BK116.out 2
           have p70 : 0 ≤ (x9_54 : Int) := of_decide_eq_true (by first | (with_reducible assumption) | assumption)
           have q70 : (x9_54 : Int) < ((t118.length : Int) : Int) := of_decide_eq_true (by first | (with_reducible assumption) | assumption)
           obtain ⟨go70, co70, eo70, gb70, gl70, cl70, HG70⟩ := Kd.R_form HO_122000.out (by omega)
           (first | cases eo70 | (injection eo70 with ea_ en_ ec_; (first | subst ea_ | (injection ea_ with ea_; subst ea_)); subst ec_; clear en_))
           have GB70 := mS gb70
           have GG70 := mS HG70
           clear gb70 gl70 HG70
           obtain ⟨ce70, hcl70, hM70, hcc70, hfr70⟩ := Kd.R_elem HO_122000.out z35 (x9_54 : Int) p70 q70
           obtain rfl := k35_openM hM70
           have hx70_0 : wc.cell? ⟨go70, (x9_54 : Int).toNat * 4, none⟩ = some (.string ((rd_T35 t118 x9_54).f0.f0)) := hcc70 0 _ rfl
           have hx70_1 : wc.cell? ⟨go70, (x9_54 : Int).toNat * 4 + 1, none⟩ = some (.string ((rd_T35 t118 x9_54).f0.f1)) := hcc70 1 _ rfl
           have hx70_2 : wc.cell? ⟨go70, (x9_54 : Int).toNat * 4 + 2, none⟩ = some (.bool ((rd_T35 t118 x9_54).f0.f2)) := hcc70 2 _ rfl
           have hx70_3 : wc.cell? ⟨go70, (x9_54 : Int).toNat * 4 + 3, none⟩ = some (.int .i64 ((rd_T35 t118 x9_54).f1)) := hcc70 3 _ rfl
           have hf70_0 : wc.frozen? ⟨go70, (x9_54 : Int).toNat * 4, none⟩ = false := hfr70 0
           have hf70_1 : wc.frozen? ⟨go70, (x9_54 : Int).toNat * 4 + 1, none⟩ = false := hfr70 1
           have hf70_2 : wc.frozen? ⟨go70, (x9_54 : Int).toNat * 4 + 2, none⟩ = false := hfr70 2
           have hf70_3 : wc.frozen? ⟨go70, (x9_54 : Int).toNat * 4 + 3, none⟩ = false := hfr70 3
           clear hcl70 hcc70 hfr70 hM70
           replace p70 := eq_true p70
           replace q70 := eq_true q70
           have HX78 := mS (show Kd.R k35 35 wc w.heap.size (fun _ => True) (.slice (some ⟨go70, 0, none⟩) t118.length co14) t118 from (mR HO_122000.out))
           obtain ⟨ce78, hcl78, hM78, hcc78, hfr78⟩ := Kd.R_elem HX78.out z35 (x9_54 : Int) (of_decide_eq_true (by first | (with_reducible assumption) | assumption)) (by have h_ : (x9_54 : Int) < ((t118.length : Int) : Int) := of_decide_eq_true (by first | (with_reducible assumption) | assumption); first | exact h_ | (have e_ := (Kd.R_reads' HO_122000.out).1; omega) | simpa using h_)
           obtain rfl := k35_openM hM78
           have HP78 := Kd.R_seg HX78.out (x9_54 : Int) (of_decide_eq_true (by first | (with_reducible assumption) | assumption)) (by have h_ : (x9_54 : Int) < ((t118.length : Int) : Int) := of_decide_eq_true (by first | (with_reducible assumption) | assumption); first | exact h_ | (have e_ := (Kd.R_reads' HO_122000.out).1; omega) | simpa using h_) (seg := [.string a1_0, .string a1_1, .bool a1_2]) (j := 0) hcl78 hcc78 (show 3 ≤ 4 from by decide) (x' := (⟨(⟨a1_0, a1_1, a1_2⟩ : S33), (rd_T35 t118 x9_54).f1⟩ : S35)) (k35_mkM _ _ _ (⟨(⟨a1_0, a1_1, a1_2⟩ : S33), (rd_T35 t118 x9_54).f1⟩ : S35) ) (fun _ hk => hk)
           have hx78_0 := hcc78 0 _ rfl
           (try simp only [show (k35).sz = 4 from rfl, Nat.mul_one, Nat.add_zero] at hx78_0)
           have hf78_0 := hfr78 0
           (try simp only [show (k35).sz = 4 from rfl, Nat.mul_one, Nat.add_zero] at hf78_0)
           have hx78_1 := hcc78 1 _ rfl
           (try simp only [show (k35).sz = 4 from rfl, Nat.mul_one, Nat.add_zero] at hx78_1)
           have hf78_1 := hfr78 1
           (try simp only [show (k35).sz = 4 from rfl, Nat.mul_one, Nat.add_zero] at hf78_1)
           have hx78_2 := hcc78 2 _ rfl
           (try simp only [show (k35).sz = 4 from rfl, Nat.mul_one, Nat.add_zero] at hx78_2)
           have hf78_2 := hfr78 2
           (try simp only [show (k35).sz = 4 from rfl, Nat.mul_one, Nat.add_zero] at hf78_2)
           clear hcl78 hcc78 hfr78 hM78
           go_wp2_with (first | ((with_reducible refine gate_store (t := 33) (p := 67) rfl ?_); refine store_event (t := 33) (p := 67) (v := ?vo_w79) (w1 := (((wc.setCell ⟨go70, (x9_54 : Int).toNat * 4, none⟩ (.string a1_0)).setCell ⟨go70, (x9_54 : Int).toNat * 4 + 1, none⟩ (.string a1_1)).setCell ⟨go70, (x9_54 : Int).toNat * 4 + 2, none⟩ (.bool a1_2))) ?hg ?ho ?hn ?hr ?_; (case ho => rfl); (case hg => rfl); (case hn => rfl); (case hr => first | (go_simp; done) | (go_simp; rfl)); intro w79 hw; have hg : wc.grownBy w79 (some go70) := (by rw [hw]; exact HP78.2); have hp_ : Kd.R k35 35 w79 w.heap.size (fun _ => True) (.slice (some ⟨go70, 0, none⟩) t118.length co14) y127 := (by rw [hw, Ny127.out]; exact HP78.1); clear HP78; replace BK115 := mS (blk_grown (g := gb115) (o := .cells #[.slice A0_0 l0_0.length c0_0] 26 (0, 0)) (mK BK115.out) hg (Kd.R_ne HO_122000.out BK115.out (by decide))); replace BK116 := mS (blk_grown (g := gb116) (o := .cells #[.string a1_0, .string a1_1, .bool a1_2] 33 (0, 0)) (mK BK116.out) hg (Kd.R_ne HO_122000.out BK116.out (by decide))); replace BK117 := mS (blk_grown (g := gb117) (o := .cells #[.slice none 0 0] 26 (0, 0)) (mK BK117.out) hg (Kd.R_ne HO_122000.out BK117.out (by decide))); replace BK121 := mS (blk_grown (g := gb121) (o := .cells #[.slice (some ⟨go70, 0, none⟩) t118.length co14] 26 (0, 0)) (mK BK121.out) hg (Kd.R_ne HO_122000.out BK121.out (by decide))); replace HO_122000 := mS (hp_); replace HB := mS ((by rw [hw]; exact below_set (below_set (below_set (HB.out) GB70.out) GB70.out) GB70.out : Below w.heap.size w w79)); clear hg hw hp_; have hcz80_0 : w79.cell? ⟨gb121, 0, none⟩ = some (.slice (some ⟨go70, 0, none⟩) t118.length co14) := (blk_cell BK121.out 0).trans rfl; have hfz80_0 := blk_frozen BK121.out 0; have hnb81 := NB117_115.out; have hnc81 := NB115_117.out; have hcz82_0 : w79.cell? ⟨gb117, 0, none⟩ = some (.slice none 0 0) := (blk_cell BK117.out 0).trans rfl; have hfz82_0 := blk_frozen BK117.out 0))
           refine bodyPost_ret (results_ct rfl _ _ gb117 26 #[.slice (some ⟨go70, 0, none⟩) t118.length co14] (0, 0) _ rfl (by (with_reducible repeat (first | refine blk_drewN ?_ _ | refine blk_drew ?_ | refine blk_alloc ?_ _)); refine blk_put (cs := #[.slice none 0 0]) ?_ 0 _ rfl; (with_reducible repeat (first | refine blk_drewN ?_ _ | refine blk_drew ?_ | refine blk_alloc ?_ _)); exact BK117.out) Try.underlying26 rfl (by kernel_rfl)) rfl ?_
           exact ⟨_, by first | rfl | (simp [errW_none, errW_some] <;> rfl) | (simp [*, errW_none, errW_some] <;> rfl), by (with_reducible repeat (first | apply Kd.R_alloc | apply Kd.R_drewN | apply Kd.R_drew)); exact Kd.R_mono (Kd.R_far (p := ⟨gb117, 0, none⟩) (Kd.R_types HO_122000.out BK117.out (by decide)) (fun _ hk => hk.2) (.slice (some ⟨go70, 0, none⟩) t118.length co14)) (fun _ hk => trivial), (mH4 HB.out GE115.out GE116.out GE117.out GE121.out)⟩
          ·rw [if_neg c69] at H
           exact absurd H (by simp)
         ·rw [if_neg c68] at H
          exact absurd H (by simp)
        ·replace c67 := Bool.eq_false_iff.mpr c67
         subst c67
         have H1 : (if (l0_0.length : Int) ≥ 60 then (some (t118, false)) else (if 0 ≤ x9_54 then (if x9_54 ≤ (l0_0.length : Int) then ((some (l0_0.take (x9_54 : Int).toNat : List (S35))).bind fun y128 => (if ([] : List (S35)).length + y128.length < 2932031007402 then ((some (([] : List (S35)) ++ y128 : List (S35))).bind fun y132 => ((some (([(⟨(⟨a1_0, a1_1, a1_2⟩ : S33), a2⟩ : S35)] : List (S35)) : List (S35))).bind fun y135 => (if y132.length + y135.length < 2932031007402 then ((some (y132 ++ y135 : List (S35))).bind fun y138 => ((some (l0_0.drop (x9_54 : Int).toNat : List (S35))).bind fun y141 => (if y138.length + y141.length < 2932031007402 then (some ((y138 ++ y141), true)) else (none)))) else (none)))) else (none))) else (none)) else (none))) = some (r1, r2) := by rw [if_neg (show ¬ (false = true) by decide)] at H; exact H
         clear H
         have H := H1
         clear H1
         by_cases c83 : (l0_0.length : Int) ≥ 60
         ·rw [if_pos c83] at H
          have c83b0 : decide (60 ≤ (l0_0.length : Int)) = true := decide_eq_true c83
          have c83b1 : decide (60 ≤ l0_0.length) = true := decide_eq_true (by omega)
          clear c83
          simp only [Option.some.injEq, Prod.mk.injEq] at H
          obtain ⟨rfl, rfl⟩ := H
          have hnb84 := NB115_116.out
          have hnc84 := NB116_115.out
          have hnb85 := NB115_117.out
          have hnc85 := NB117_115.out
          have hnb86 := NB115_121.out
          have hnc86 := NB121_115.out
          have hcz87_0 : wc.cell? ⟨gb115, 0, none⟩ = some (.slice A0_0 l0_0.length c0_0) := (blk_cell BK115.out 0).trans rfl
          have hfz87_0 := blk_frozen BK115.out 0
          have hnb88 := NB121_116.out
          have hnc88 := NB116_121.out
          have hnb89 := NB121_117.out
          have hnc89 := NB117_121.out
          have hcz90_0 : wc.cell? ⟨gb121, 0, none⟩ = some (.slice Ao14 t118.length co14) := (blk_cell BK121.out 0).trans rfl
          have hfz90_0 := blk_frozen BK121.out 0
          have hnb91 := NB117_116.out
          have hnc91 := NB116_117.out
          have hcz92_0 : wc.cell? ⟨gb117, 0, none⟩ = some (.slice none 0 0) := (blk_cell BK117.out 0).trans rfl
          have hfz92_0 := blk_frozen BK117.out 0
          go_wp2
          refine bodyPost_ret (results_ct rfl _ _ gb117 26 #[.slice Ao14 t118.length co14] (0, 0) _ rfl (by (with_reducible repeat (first | refine blk_drewN ?_ _ | refine blk_drew ?_ | refine blk_alloc ?_ _)); refine blk_put (cs := #[.slice none 0 0]) ?_ 0 _ rfl; (with_reducible repeat (first | refine blk_drewN ?_ _ | refine blk_drew ?_ | refine blk_alloc ?_ _)); exact BK117.out) Try.underlying26 rfl (by kernel_rfl)) rfl ?_
          exact ⟨_, by first | rfl | (simp [errW_none, errW_some] <;> rfl) | (simp [*, errW_none, errW_some] <;> rfl), by (with_reducible repeat (first | apply Kd.R_alloc | apply Kd.R_drewN | apply Kd.R_drew)); exact Kd.R_mono (Kd.R_far (p := ⟨gb117, 0, none⟩) (Kd.R_types HO_122000.out BK117.out (by decide)) (fun _ hk => hk.2) (.slice Ao14 t118.length co14)) (fun _ hk => trivial), (mH4 HB.out GE115.out GE116.out GE117.out GE121.out)⟩
         ·rw [if_neg c83] at H
          have c83b0 : decide (60 ≤ (l0_0.length : Int)) = false := decide_eq_false c83
          have c83b1 : decide (60 ≤ l0_0.length) = false := decide_eq_false (by omega)
          clear c83
          by_cases c93 : 0 ≤ x9_54
          ·rw [if_pos c93] at H
           have c93b0 := eq_true c93
           have c93b1 : decide (0 ≤ x9_54) = true := decide_eq_true c93
           clear c93
           by_cases c94 : x9_54 ≤ (l0_0.length : Int)
           ·rw [if_pos c94] at H
            have c94b0 := eq_true c94
            have c94b1 : decide (x9_54 ≤ (l0_0.length : Int)) = true := decide_eq_true c94
            clear c94
            obtain ⟨y128, hy128⟩ : ∃ y_ : List (S35), y_ = (l0_0.take (x9_54 : Int).toNat) := ⟨_, rfl⟩
            replace H : (if ([] : List (S35)).length + y128.length < 2932031007402 then ((some (([] : List (S35)) ++ y128 : List (S35))).bind fun y132 => ((some (([(⟨(⟨a1_0, a1_1, a1_2⟩ : S33), a2⟩ : S35)] : List (S35)) : List (S35))).bind fun y135 => (if y132.length + y135.length < 2932031007402 then ((some (y132 ++ y135 : List (S35))).bind fun y138 => ((some (l0_0.drop (x9_54 : Int).toNat : List (S35))).bind fun y141 => (if y138.length + y141.length < 2932031007402 then (some ((y138 ++ y141), true)) else (none)))) else (none)))) else (none)) = some (r1, r2) := by first | (rw [hy128]; with_reducible exact H) | (have H2_ := (Option.bind_some _ _).symm.trans H; rw [hy128]; with_reducible exact H2_) | (have H2_ := (Option.bind_some _ _).symm.trans H; with_reducible exact H2_) | with_reducible exact H | (rw [hy128]; exact H) | exact H
            have Ny128 := mS hy128
            clear hy128
            by_cases c95 : ([] : List (S35)).length + y128.length < 2932031007402
            ·rw [if_pos c95] at H
             have LMc95 := mS c95
             clear c95
             obtain ⟨y132, hy132⟩ : ∃ y_ : List (S35), y_ = (([] : List (S35)) ++ y128) := ⟨_, rfl⟩
             replace H : ((some (([(⟨(⟨a1_0, a1_1, a1_2⟩ : S33), a2⟩ : S35)] : List (S35)) : List (S35))).bind fun y135 => (if y132.length + y135.length < 2932031007402 then ((some (y132 ++ y135 : List (S35))).bind fun y138 => ((some (l0_0.drop (x9_54 : Int).toNat : List (S35))).bind fun y141 => (if y138.length + y141.length < 2932031007402 then (some ((y138 ++ y141), true)) else (none)))) else (none))) = some (r1, r2) := by first | (rw [hy132]; with_reducible exact H) | (have H2_ := (Option.bind_some _ _).symm.trans H; rw [hy132]; with_reducible exact H2_) | (have H2_ := (Option.bind_some _ _).symm.trans H; with_reducible exact H2_) | with_reducible exact H | (rw [hy132]; exact H) | exact H
             have Ny132 := mS hy132
             clear hy132
             obtain ⟨y135, hy135⟩ : ∃ y_ : List (S35), y_ = (([(⟨(⟨a1_0, a1_1, a1_2⟩ : S33), a2⟩ : S35)] : List (S35))) := ⟨_, rfl⟩
             replace H : (if y132.length + y135.length < 2932031007402 then ((some (y132 ++ y135 : List (S35))).bind fun y138 => ((some (l0_0.drop (x9_54 : Int).toNat : List (S35))).bind fun y141 => (if y138.length + y141.length < 2932031007402 then (some ((y138 ++ y141), true)) else (none)))) else (none)) = some (r1, r2) := by first | (rw [hy135]; with_reducible exact H) | (have H2_ := (Option.bind_some _ _).symm.trans H; rw [hy135]; with_reducible exact H2_) | (have H2_ := (Option.bind_some _ _).symm.trans H; with_reducible exact H2_) | with_reducible exact H | (rw [hy135]; exact H) | exact H
             have Ny135 := mS hy135
             clear hy135
             by_cases c96 : y132.length + y135.length < 2932031007402
             ·rw [if_pos c96] at H
              have LMc96 := mS c96
              clear c96
              obtain ⟨y138, hy138⟩ : ∃ y_ : List (S35), y_ = (y132 ++ y135) := ⟨_, rfl⟩
              replace H : ((some (l0_0.drop (x9_54 : Int).toNat : List (S35))).bind fun y141 => (if y138.length + y141.length < 2932031007402 then (some ((y138 ++ y141), true)) else (none))) = some (r1, r2) := by first | (rw [hy138]; with_reducible exact H) | (have H2_ := (Option.bind_some _ _).symm.trans H; rw [hy138]; with_reducible exact H2_) | (have H2_ := (Option.bind_some _ _).symm.trans H; with_reducible exact H2_) | with_reducible exact H | (rw [hy138]; exact H) | exact H
              have Ny138 := mS hy138
              clear hy138
              have c97b0 := eq_true (of_decide_eq_true (by first | (with_reducible assumption) | assumption) : 0 ≤ x9_54)
              have c98b0 := eq_true (of_decide_eq_true (by first | (with_reducible assumption) | assumption) : x9_54 ≤ (l0_0.length : Int))
              obtain ⟨y141, hy141⟩ : ∃ y_ : List (S35), y_ = (l0_0.drop (x9_54 : Int).toNat) := ⟨_, rfl⟩
              replace H : (if y138.length + y141.length < 2932031007402 then (some ((y138 ++ y141), true)) else (none)) = some (r1, r2) := by first | (rw [hy141]; with_reducible exact H) | (have H2_ := (Option.bind_some _ _).symm.trans H; rw [hy141]; with_reducible exact H2_) | (have H2_ := (Option.bind_some _ _).symm.trans H; with_reducible exact H2_) | with_reducible exact H | (rw [hy141]; exact H) | exact H
              have Ny141 := mS hy141
              clear hy141
              by_cases c99 : y138.length + y141.length < 2932031007402
              ·rw [if_pos c99] at H
               have LMc99 := mS c99
               clear c99
               obtain ⟨y145, hy145⟩ : ∃ y_ : List (S35), y_ = (y138 ++ y141) := ⟨_, rfl⟩
               replace H : (some (y145, true)) = some (r1, r2) := by first | (rw [hy145]; with_reducible exact H) | (have H2_ := (Option.bind_some _ _).symm.trans H; rw [hy145]; with_reducible exact H2_) | (have H2_ := (Option.bind_some _ _).symm.trans H; with_reducible exact H2_) | with_reducible exact H | (rw [hy145]; exact H) | exact H
               have Ny145 := mS hy145
               clear hy145
               simp only [Option.some.injEq, Prod.mk.injEq] at H
               obtain ⟨rfl, rfl⟩ := H
               have hnb100 := NB115_116.out
               have hnc100 := NB116_115.out
               have hnb101 := NB115_117.out
               have hnc101 := NB117_115.out
               have hnb102 := NB115_121.out
               have hnc102 := NB121_115.out
               have hcz103_0 : wc.cell? ⟨gb115, 0, none⟩ = some (.slice A0_0 l0_0.length c0_0) := (blk_cell BK115.out 0).trans rfl
               have hfz103_0 := blk_frozen BK115.out 0
               try go_wp2
               have n0_ := mS (Kd.R_drew HO_122000.out)
               have n1_ := mS (blk_drew BK115.out)
               have n2_ := mS (blk_drew BK116.out)
               have n3_ := mS (blk_drew BK117.out)
               have n4_ := mS (blk_drew BK121.out)
               have n5_ := mS (below_drew1 HB.out)
               clear HO_122000
               clear BK115
               clear BK116
               clear BK117
               clear BK121
               clear HB
               have HO_122000 := n0_
               have BK115 := n1_
               have BK116 := n2_
               have BK117 := n3_
               have BK121 := n4_
               have HB := n5_
               clear n0_ n1_ n2_ n3_ n4_ n5_
               have q105 : (x9_54 : Int) ≤ ((l0_0.length : Int) : Int) := of_decide_eq_true (by first | (with_reducible assumption) | assumption)
               obtain ⟨i0105, hi0105, _, hsz105, _⟩ := info_parts info35
               have hroom105 : l0_0.length ≤ c0_0 := HC0_0.out
               have hC105 : Kd.C k35 _ A0_0 l0_0.length l0_0 := HR0_0.out
               have hcut105 := cut_to (P := Try.prog) 24 35 .i64 Try.underlying24 hi0105 A0_0 l0_0.length c0_0 x9_54 (of_decide_eq_true (by first | (with_reducible assumption) | assumption)) q105 hroom105
               have hr105 := Kd.C_take (m := (x9_54 : Int).toNat) hC105 (by omega)
               have hy105 : y128.length = (x9_54 : Int).toNat := (by rw [Ny128.out, List.length_take]; omega)
               rw [← Ny128.out] at hr105
               rw [← hy105] at hcut105
               have HR131 := mS hr105
               have HC131 := mS (show y128.length ≤ c0_0 from by omega)
               clear hr105 hC105 hroom105 hi0105 hsz105
               have KY105 := mS hy105
               clear hy105
               replace q105 := eq_true q105
               have q106 : (x9_54 : Int) ≤ ((l0_0.length : Int) : Int) := of_decide_eq_true (by first | (with_reducible assumption) | assumption)
               obtain ⟨i0106, hi0106, _, hsz106, _⟩ := info_parts info35
               have hroom106 : l0_0.length ≤ c0_0 := HC0_0.out
               have hC106 : Kd.C k35 _ A0_0 l0_0.length l0_0 := HR0_0.out
               have q0106 : (0 : Int) ≤ (x9_54 : Int) := of_decide_eq_true (by first | (with_reducible assumption) | assumption)
               have hcut106 := cut_from (P := Try.prog) 24 35 .i64 Try.underlying24 hi0106 4 hsz106 A0_0 l0_0.length c0_0 x9_54 q0106 q106
               have hr106 := Kd.C_drop (m := (x9_54 : Int).toNat) (c := c0_0) hC106 (by omega) hroom106
               obtain ⟨A106, hA106⟩ : ∃ A1, A1 = (if c0_0 = (x9_54 : Int).toNat then A0_0 else (A0_0 : Option Addr).map (·.add ((x9_54 : Int).toNat * 4))) := ⟨_, rfl⟩
               obtain ⟨c106, hc106⟩ : ∃ c1, c1 = c0_0 - (x9_54 : Int).toNat := ⟨_, rfl⟩
               have hy106 : y141.length = l0_0.length - (x9_54 : Int).toNat := (by rw [Ny141.out, List.length_drop] <;> omega)
               rw [show (l0_0).drop (x9_54 : Int).toNat = y141 from Ny141.out.symm] at hr106
               replace hr106 : Kd.C k35 _ A106 y141.length y141 := (by rw [hA106]; exact hr106)
               rw [← hy106, ← hA106, ← hc106] at hcut106
               have HR144 := mS hr106
               have HC144 := mS (show y141.length ≤ c106 from by rw [hy106, hc106]; exact Nat.sub_le_sub_right hroom106 _)
               clear hr106 hC106 hroom106 hi0106 hsz106 hc106
               have KY106 := mS hy106
               have KA106 := mS hA106
               clear hy106 hA106
               replace q106 := eq_true q106
               refine start_ (n := 18) (S := fun w' => w'.cell? ⟨gb115, 0, none⟩ = some (.slice A0_0 l0_0.length c0_0) ∧ w'.cell? ⟨gb116, 0, none⟩ = some (.string a1_0) ∧ w'.cell? ⟨gb116, 1, none⟩ = some (.string a1_1) ∧ w'.cell? ⟨gb116, 2, none⟩ = some (.bool a1_2)) (ds := []) #[false, false, false, false, false, false, false, false, false, false, false, false, false, false, false, false, false, false] (by kernel_rfl) rfl rfl ⟨(blk_cell BK115.out 0).trans rfl, (blk_cell BK116.out 0).trans rfl, (blk_cell BK116.out 1).trans rfl, (blk_cell BK116.out 2).trans rfl⟩ (fun hHeld => ?_); refine with_tabW impl_MemPut.tab12 impl_MemPut.bits12 (fun HT_ HW_ => ?_)
               generalize wc.drew = w104 at HO_122000 BK115 BK116 BK117 BK121 HB HR131 HR144 hHeld ⊢
               refine pure_ (i := 0) (N := some 74) (v := ?_) (a' := ?_) #[true, false, false, false, false, false, false, false, false, false, false, false, false, false, false, false, false, false] rfl rfl (any_of HT_.out (by kernel_rfl)) (fun _ _ _ h => h) (Or.inl ⟨by rfl, ?_⟩) ?_ ?_
               rotate_left
               ·intro w'
                go_simp
                with_reducible rfl
               rotate_left
               ·simp only [Act.put, zA, zB, zC, i64_w, i32_w]
                rfl
               refine pure_ (i := 2) (N := some 76) (v := ?_) (a' := ?_) #[true, false, true, false, false, false, false, false, false, false, false, false, false, false, false, false, false, false] rfl rfl (any_of HT_.out (by kernel_rfl)) (fun _ _ _ h => h) (Or.inl ⟨by rfl, ?_⟩) ?_ ?_
               rotate_left
               ·intro w'
                go_simp
                with_reducible rfl
               rotate_left
               ·simp only [Act.put, zA, zB, zC, i64_w, i32_w]
                rfl
               refine pure_ (i := 6) (N := some 80) (v := ?_) (a' := ?_) #[true, false, true, false, false, false, true, false, false, false, false, false, false, false, false, false, false, false] rfl rfl (any_of HT_.out (by kernel_rfl)) (fun _ _ _ h => h) (Or.inl ⟨by rfl, ?_⟩) ?_ ?_
               rotate_left
               ·intro w'
                go_simp
                with_reducible rfl
               rotate_left
               ·simp only [Act.put, zA, zB, zC, i64_w, i32_w]
                rfl
               refine pure_ (i := 10) (N := some 84) (v := ?_) (a' := ?_) #[true, false, true, false, false, false, true, false, false, false, true, false, false, false, false, false, false, false] rfl rfl (any_of HT_.out (by kernel_rfl)) (fun _ _ _ h => h) (Or.inl ⟨by rfl, ?_⟩) ?_ ?_
               rotate_left
               ·intro w'
                go_simp
                with_reducible rfl
               rotate_left
               ·simp only [Act.put, zA, zB, zC, i64_w, i32_w]
                rfl
               refine pure_ (i := 12) (N := some 86) (v := ?_) (a' := ?_) #[true, false, true, false, false, false, true, false, false, false, true, false, true, false, false, false, false, false] rfl rfl (any_of HT_.out (by kernel_rfl)) (fun _ _ _ h => h) (Or.inl ⟨by rfl, ?_⟩) ?_ ?_
               rotate_left
               ·intro w'
                go_simp
                with_reducible rfl
               rotate_left
               ·simp only [Act.put, zA, zB, zC, i64_w, i32_w]
                rfl
               refine take_ (i := 1) (N := some 75) (v := ?_) (a' := ?_) #[true, true, true, false, false, false, true, false, false, false, true, false, true, false, false, false, false, false] rfl rfl (take_ofW HT_.out HW_.out (by kernel_rfl)) (fun _ _ _ h => h) (Or.inl ⟨by rfl, ?_⟩) hHeld ?_ ?_
               rotate_left
               ·rintro w' ⟨s0, s1, s2, s3⟩
                go_simp
                with_reducible rfl
               rotate_left
               ·simp only [Act.put, zA, zB, zC, i64_w, i32_w]
                rfl
               refine pure_ (i := 3) (N := some 77) (v := ?_) (a' := ?_) #[true, true, true, true, false, false, true, false, false, false, true, false, true, false, false, false, false, false] rfl rfl (any_of HT_.out (by kernel_rfl)) (fun _ _ _ h => h) (Or.inl ⟨by rfl, ?_⟩) ?_ ?_
               rotate_left
               ·intro w'
                go_simp
                with_reducible rfl
               rotate_left
               ·simp only [Act.put, zA, zB, zC, i64_w, i32_w]
                rfl
               refine take_ (i := 5) (N := some 79) (v := ?_) (a' := ?_) #[true, true, true, true, false, true, true, false, false, false, true, false, true, false, false, false, false, false] rfl rfl (take_ofW HT_.out HW_.out (by kernel_rfl)) (fun _ _ _ h => h) (Or.inl ⟨by rfl, ?_⟩) hHeld ?_ ?_
               rotate_left
               ·rintro w' ⟨s0, s1, s2, s3⟩
                go_simp
                with_reducible rfl
               rotate_left
               ·simp only [Act.put, zA, zB, zC, i64_w, i32_w]
                rfl
               refine pure_ (i := 7) (N := some 81) (v := ?_) (a' := ?_) #[true, true, true, true, false, true, true, true, false, false, true, false, true, false, false, false, false, false] rfl rfl (any_of HT_.out (by kernel_rfl)) (fun _ _ _ h => h) (Or.inl ⟨by rfl, ?_⟩) ?_ ?_
               rotate_left
               ·intro w'
                go_simp
                with_reducible rfl
               rotate_left
               ·simp only [Act.put, zA, zB, zC, i64_w, i32_w]
                rfl
               refine take_ (i := 11) (N := some 85) (v := ?_) (a' := ?_) #[true, true, true, true, false, true, true, true, false, false, true, true, true, false, false, false, false, false] rfl rfl (take_ofW HT_.out HW_.out (by kernel_rfl)) (fun _ _ _ h => h) (Or.inl ⟨by rfl, ?_⟩) hHeld ?_ ?_
               rotate_left
               ·rintro w' ⟨s0, s1, s2, s3⟩
                go_simp
                with_reducible rfl
               rotate_left
               ·simp only [Act.put, zA, zB, zC, i64_w, i32_w]
                rfl
               refine pure_ (i := 13) (N := some 87) (v := ?_) (a' := ?_) #[true, true, true, true, false, true, true, true, false, false, true, true, true, true, false, false, false, false] rfl rfl (any_of HT_.out (by kernel_rfl)) (fun _ _ _ h => h) (Or.inl ⟨by rfl, ?_⟩) ?_ ?_
               rotate_left
               ·intro w'
                go_simp
                with_reducible rfl
               rotate_left
               ·simp only [Act.put, zA, zB, zC, i64_w, i32_w]
                rfl
               refine join_ (σ := Value × Value) 5 #[true, true, true, true, true, true, true, true, true, false, true, true, true, true, false, false, false, false] (fun s_ => [(78, s_.1), (82, s_.2)]) (fun s_ w' => (w'.cell? ⟨gb115, 0, none⟩ = some (.slice A0_0 l0_0.length c0_0) ∧ w'.cell? ⟨gb116, 0, none⟩ = some (.string a1_0) ∧ w'.cell? ⟨gb116, 1, none⟩ = some (.string a1_1) ∧ w'.cell? ⟨gb116, 2, none⟩ = some (.bool a1_2)) ∧ (Kd.R k35 35 w' w.heap.size (fun k_ => some k_ ≠ (s_.2 : Value).ownBlock ∧ some k_ ≠ (.slice Ao14 t118.length co14 : Value).ownBlock) s_.1 y132) ∧ (Kd.R k35 35 w' w.heap.size (fun k_ => some k_ ≠ (s_.1 : Value).ownBlock ∧ some k_ ≠ (.slice Ao14 t118.length co14 : Value).ownBlock) s_.2 y135) ∧ (Kd.R k35 35 w' w.heap.size (fun k_ => some k_ ≠ (s_.1 : Value).ownBlock ∧ some k_ ≠ (s_.2 : Value).ownBlock) (.slice Ao14 t118.length co14) t118) ∧ (w'.heap[gb115]? = some (.cells #[.slice A0_0 l0_0.length c0_0] 26 (0, 0))) ∧ (w'.heap[gb116]? = some (.cells #[.string a1_0, .string a1_1, .bool a1_2] 33 (0, 0))) ∧ (w'.heap[gb117]? = some (.cells #[.slice none 0 0] 26 (0, 0))) ∧ (w'.heap[gb121]? = some (.cells #[.slice Ao14 t118.length co14] 26 (0, 0))) ∧ (Below w.heap.size w w')) ?_ ?_
               rotate_left
               ·intro hCont
                refine two_ (i := 4) (j := 8) (Ni := some 78) (Nj := some 82) #[true, true, true, true, true, true, true, true, false, false, true, true, true, true, false, false, false, false] #[true, true, true, true, false, true, true, true, true, false, true, true, true, true, false, false, false, false] rfl rfl rfl rfl (two_of HT_.out (by kernel_rfl)) (by decide) (by decide) (fun K hK => ?_) (fun K hK => ?_)
                ·skip
                 refine Kd.R_append_rows_step k35 (w0 := w) w.heap.size rfl (.const (.slice none 0 0)) (.tmp 77) 24 35 (.agg #[(.string ⟨#[]⟩), (.string ⟨#[]⟩), (.bool false), (.int .i64 0)]) 48 rfl Try.underlying24 info35 rfl (by decide) (by omega) (.slice none 0 0) ([] : List (S35)) y128 _ _ _ (fun k_ => some k_ ≠ (.slice Ao14 t118.length co14 : Value).ownBlock) (fun _ => False) rfl rfl ?aO ?aR (fun _ _ h => h) (fun _ h => h.elim) ?aF ?aB ?aS ?aL ?_
                 (case aR => repeat (first | exact (Kd.C_below HR131.out HB.out) | (with_reducible refine Kd.C_alloc ?_ _) | (with_reducible refine Kd.C_drewN ?_ _) | (with_reducible refine Kd.C_drew ?_)))
                 (case aB => exact (mH4 HB.out GE115.out GE116.out GE117.out GE121.out))
                 (case aF => exact (fun k_ hk => Kd.fresh' (Kd.R_lt (mR HO_122000.out)) k_ hk))
                 (case aO => exact ((Kd.R_nil _ _ _ _ (fun k_ => some k_ ≠ (.slice Ao14 t118.length co14 : Value).ownBlock))))
                 (case aS => exact (below_size (mH4 HB.out GE115.out GE116.out GE117.out GE121.out)))
                 (case aL => have := LMc95.out; omega)
                 intro v133 w107 ho hb hg hat
                 rw [← Ny132.out] at ho
                 have n0_ := mS (Kd.R_after (Kd.R_apart_nil (mR HO_122000.out)) hg hat)
                 have n1_ := mS (blk_grown (g := gb115) (o := .cells #[.slice A0_0 l0_0.length c0_0] 26 (0, 0)) (mK BK115.out) hg (by simp [Value.ownBlock]))
                 have n2_ := mS (blk_grown (g := gb116) (o := .cells #[.string a1_0, .string a1_1, .bool a1_2] 33 (0, 0)) (mK BK116.out) hg (by simp [Value.ownBlock]))
                 have n3_ := mS (blk_grown (g := gb117) (o := .cells #[.slice none 0 0] 26 (0, 0)) (mK BK117.out) hg (by simp [Value.ownBlock]))
                 have n4_ := mS (blk_grown (g := gb121) (o := .cells #[.slice Ao14 t118.length co14] 26 (0, 0)) (mK BK121.out) hg (by simp [Value.ownBlock]))
                 have n5_ := mS (hb)
                 have n6_ := mS (ho)
                 clear HO_122000
                 clear BK115
                 clear BK116
                 clear BK117
                 clear BK121
                 clear HB
                 have HO_122000 := n0_
                 have BK115 := n1_
                 have BK116 := n2_
                 have BK117 := n3_
                 have BK121 := n4_
                 have HB := n5_
                 have HO134 := n6_
                 clear n0_ n1_ n2_ n3_ n4_ n5_ n6_
                 clear ho hb hg hat
                 refine hK.out _ _ ⟨(blk_cell BK115.out 0).trans rfl, (blk_cell BK116.out 0).trans rfl, (blk_cell BK116.out 1).trans rfl, (blk_cell BK116.out 2).trans rfl⟩ (fun hHeld => ?_)
                 clear hK K
                 refine norm_ (a' := ?_) ?_ ?_
                 rotate_left
                 ·show Act.put _ (some 78) _ = _
                  simp only [Act.put, zA, zB, zC, i64_w, i32_w]
                  rfl
                 refine one_ (i := 8) (N := some 82) #[true, true, true, true, true, true, true, true, true, false, true, true, true, true, false, false, false, false] rfl rfl (one_of HT_.out (by kernel_rfl)) (by decide) (fun K hK => ?_)
                 refine Kd.R_lit_step k35 _ 35 ?hg (N := 82) ?hd (xs := ([(⟨(⟨a1_0, a1_1, a1_2⟩ : S33), a2⟩ : S35)] : List (S35))) (inner := [.string a1_0, .string a1_1, .bool a1_2, .int .i64 a2]) (ok := fun _ => True) (okp := fun _ => True) ?hr ?hp (fun _ hk => hk) trivial (Below.refl _ _) (Nat.le_refl _) (by simp) ?_; (case hd => rfl); (case hg => rfl); (case hr => first | (go_simp; done) | (go_simp; rfl)); (case hp => exact (Reps.c4 (show Kd.M k35 _ _ _ (⟨(⟨a1_0, a1_1, a1_2⟩ : S33), a2⟩ : S35) [.string a1_0, .string a1_1, .bool a1_2, .int .i64 a2] from (k35_mkM _ _ _ (⟨(⟨a1_0, a1_1, a1_2⟩ : S33), a2⟩ : S35) )) (Reps.none _ _)))
                 intro v136 w108 ho109 hb hg_ hnew_
                 clear hg_ hnew_
                 (first | rw [← Ny135.out] at ho109 | (simp only [Int.reduceToNat] at ho109; rw [← Ny135.out] at ho109))
                 have n0_ := mS (Kd.R_elder' (mR HO_122000.out) (Kd.R_base ho109) hb)
                 have n1_ := mS (Kd.R_elder' (mR HO134.out) (Kd.R_base ho109) hb)
                 have n2_ := mS (Kd.R_lower (Kd.R_new' (Kd.R_new' ho109 (Kd.R_lt (mR HO_122000.out))) (Kd.R_lt (mR HO134.out))) (below_size (mH4 HB.out GE115.out GE116.out GE117.out GE121.out)))
                 have n3_ := mB BK115 hb
                 have n4_ := mB BK116 hb
                 have n5_ := mB BK117 hb
                 have n6_ := mB BK121 hb
                 have n7_ := mS (below_step (mH4 HB.out GE115.out GE116.out GE117.out GE121.out) hb)
                 clear HO_122000
                 clear HO134
                 clear BK115
                 clear BK116
                 clear BK117
                 clear BK121
                 clear HB
                 have HO_122000 := n0_
                 have HO134 := n1_
                 have HO137 := n2_
                 have BK115 := n3_
                 have BK116 := n4_
                 have BK117 := n5_
                 have BK121 := n6_
                 have HB := n7_
                 clear n0_ n1_ n2_ n3_ n4_ n5_ n6_ n7_
                 clear hb ho109
                 refine hK.out _ _ ⟨(blk_cell BK115.out 0).trans rfl, (blk_cell BK116.out 0).trans rfl, (blk_cell BK116.out 1).trans rfl, (blk_cell BK116.out 2).trans rfl⟩ (fun hHeld => ?_)
                 clear hK K
                 refine norm_ (a' := ?_) ?_ ?_
                 rotate_left
                 ·show Act.put _ (some 82) _ = _
                  simp only [Act.put, zA, zB, zC, i64_w, i32_w]
                  rfl
                 exact norm_ mU (hCont (v133, v136) _ ⟨hHeld, (by (with_reducible repeat (first | apply Kd.R_alloc | apply Kd.R_drewN | apply Kd.R_drew)); exact Kd.R_mono HO134.out (fun _ hk => ⟨hk.2, hk.1⟩)), (by (with_reducible repeat (first | apply Kd.R_alloc | apply Kd.R_drewN | apply Kd.R_drew)); exact Kd.R_mono HO137.out (fun _ hk => ⟨hk.2, hk.1.2⟩)), (by (with_reducible repeat (first | apply Kd.R_alloc | apply Kd.R_drewN | apply Kd.R_drew)); exact Kd.R_mono HO_122000.out (fun _ hk => ⟨hk.1.2, hk.2⟩)), (mK BK115.out), (mK BK116.out), (mK BK117.out), (mK BK121.out), (mH4 HB.out GE115.out GE116.out GE117.out GE121.out)⟩)
                ·skip
                 refine Kd.R_lit_step k35 _ 35 ?hg (N := 82) ?hd (xs := ([(⟨(⟨a1_0, a1_1, a1_2⟩ : S33), a2⟩ : S35)] : List (S35))) (inner := [.string a1_0, .string a1_1, .bool a1_2, .int .i64 a2]) (ok := fun _ => True) (okp := fun _ => True) ?hr ?hp (fun _ hk => hk) trivial (Below.refl _ _) (Nat.le_refl _) (by simp) ?_; (case hd => rfl); (case hg => rfl); (case hr => first | (go_simp; done) | (go_simp; rfl)); (case hp => exact (Reps.c4 (show Kd.M k35 _ _ _ (⟨(⟨a1_0, a1_1, a1_2⟩ : S33), a2⟩ : S35) [.string a1_0, .string a1_1, .bool a1_2, .int .i64 a2] from (k35_mkM _ _ _ (⟨(⟨a1_0, a1_1, a1_2⟩ : S33), a2⟩ : S35) )) (Reps.none _ _)))
                 intro v136 w107 ho108 hb hg_ hnew_
                 clear hg_ hnew_
                 (first | rw [← Ny135.out] at ho108 | (simp only [Int.reduceToNat] at ho108; rw [← Ny135.out] at ho108))
                 have n0_ := mS (Kd.R_elder' (mR HO_122000.out) (Kd.R_base ho108) hb)
                 have n1_ := mS (Kd.R_lower (Kd.R_new' ho108 (Kd.R_lt (mR HO_122000.out))) (below_size (mH4 HB.out GE115.out GE116.out GE117.out GE121.out)))
                 have n2_ := mB BK115 hb
                 have n3_ := mB BK116 hb
                 have n4_ := mB BK117 hb
                 have n5_ := mB BK121 hb
                 have n6_ := mS (below_step (mH4 HB.out GE115.out GE116.out GE117.out GE121.out) hb)
                 clear HO_122000
                 clear BK115
                 clear BK116
                 clear BK117
                 clear BK121
                 clear HB
                 have HO_122000 := n0_
                 have HO137 := n1_
                 have BK115 := n2_
                 have BK116 := n3_
                 have BK117 := n4_
                 have BK121 := n5_
                 have HB := n6_
                 clear n0_ n1_ n2_ n3_ n4_ n5_ n6_
                 clear hb ho108
                 refine hK.out _ _ ⟨(blk_cell BK115.out 0).trans rfl, (blk_cell BK116.out 0).trans rfl, (blk_cell BK116.out 1).trans rfl, (blk_cell BK116.out 2).trans rfl⟩ (fun hHeld => ?_)
                 clear hK K
                 refine norm_ (a' := ?_) ?_ ?_
                 rotate_left
                 ·show Act.put _ (some 82) _ = _
                  simp only [Act.put, zA, zB, zC, i64_w, i32_w]
                  rfl
                 refine one_ (i := 4) (N := some 78) #[true, true, true, true, true, true, true, true, true, false, true, true, true, true, false, false, false, false] rfl rfl (one_of HT_.out (by kernel_rfl)) (by decide) (fun K hK => ?_)
                 refine Kd.R_append_rows_step k35 (w0 := w) w.heap.size rfl (.const (.slice none 0 0)) (.tmp 77) 24 35 (.agg #[(.string ⟨#[]⟩), (.string ⟨#[]⟩), (.bool false), (.int .i64 0)]) 48 rfl Try.underlying24 info35 rfl (by decide) (by omega) (.slice none 0 0) ([] : List (S35)) y128 _ _ _ (fun k_ => some k_ ≠ (.slice Ao14 t118.length co14 : Value).ownBlock ∧ some k_ ≠ (v136 : Value).ownBlock) (fun _ => False) rfl rfl ?aO ?aR (fun _ _ h => h) (fun _ h => h.elim) ?aF ?aB ?aS ?aL ?_
                 (case aR => repeat (first | exact (Kd.C_below HR131.out HB.out) | (with_reducible refine Kd.C_alloc ?_ _) | (with_reducible refine Kd.C_drewN ?_ _) | (with_reducible refine Kd.C_drew ?_)))
                 (case aB => exact (mH4 HB.out GE115.out GE116.out GE117.out GE121.out))
                 (case aF => exact (fun k_ hk => ⟨Kd.fresh' (Kd.R_lt (mR HO_122000.out)) k_ hk, Kd.fresh' (Kd.R_lt (mR HO137.out)) k_ hk⟩))
                 (case aO => exact ((Kd.R_nil _ _ _ _ (fun k_ => some k_ ≠ (.slice Ao14 t118.length co14 : Value).ownBlock ∧ some k_ ≠ (v136 : Value).ownBlock))))
                 (case aS => exact (below_size (mH4 HB.out GE115.out GE116.out GE117.out GE121.out)))
                 (case aL => have := LMc95.out; omega)
                 intro v133 w109 ho hb hg hat
                 rw [← Ny132.out] at ho
                 have n0_ := mS (Kd.R_after (Kd.R_apart_nil (mR HO_122000.out)) hg hat)
                 have n1_ := mS (blk_grown (g := gb115) (o := .cells #[.slice A0_0 l0_0.length c0_0] 26 (0, 0)) (mK BK115.out) hg (by simp [Value.ownBlock]))
                 have n2_ := mS (blk_grown (g := gb116) (o := .cells #[.string a1_0, .string a1_1, .bool a1_2] 33 (0, 0)) (mK BK116.out) hg (by simp [Value.ownBlock]))
                 have n3_ := mS (blk_grown (g := gb117) (o := .cells #[.slice none 0 0] 26 (0, 0)) (mK BK117.out) hg (by simp [Value.ownBlock]))
                 have n4_ := mS (blk_grown (g := gb121) (o := .cells #[.slice Ao14 t118.length co14] 26 (0, 0)) (mK BK121.out) hg (by simp [Value.ownBlock]))
                 have n5_ := mS (Kd.R_after (Kd.R_apart_nil (mR HO137.out)) hg hat)
                 have n6_ := mS (hb)
                 have n7_ := mS (ho)
                 clear HO_122000
                 clear BK115
                 clear BK116
                 clear BK117
                 clear BK121
                 clear HO137
                 clear HB
                 have HO_122000 := n0_
                 have BK115 := n1_
                 have BK116 := n2_
                 have BK117 := n3_
                 have BK121 := n4_
                 have HO137 := n5_
                 have HB := n6_
                 have HO134 := n7_
                 clear n0_ n1_ n2_ n3_ n4_ n5_ n6_ n7_
                 clear ho hb hg hat
                 refine hK.out _ _ ⟨(blk_cell BK115.out 0).trans rfl, (blk_cell BK116.out 0).trans rfl, (blk_cell BK116.out 1).trans rfl, (blk_cell BK116.out 2).trans rfl⟩ (fun hHeld => ?_)
                 clear hK K
                 refine norm_ (a' := ?_) ?_ ?_
                 rotate_left
                 ·show Act.put _ (some 78) _ = _
                  simp only [Act.put, zA, zB, zC, i64_w, i32_w]
                  rfl
                 exact norm_ mU (hCont (v133, v136) _ ⟨hHeld, (by (with_reducible repeat (first | apply Kd.R_alloc | apply Kd.R_drewN | apply Kd.R_drew)); exact Kd.R_mono HO134.out (fun _ hk => ⟨hk.2, hk.1⟩)), (by (with_reducible repeat (first | apply Kd.R_alloc | apply Kd.R_drewN | apply Kd.R_drew)); exact Kd.R_mono HO137.out (fun _ hk => ⟨hk.2, hk.1.2⟩)), (by (with_reducible repeat (first | apply Kd.R_alloc | apply Kd.R_drewN | apply Kd.R_drew)); exact Kd.R_mono HO_122000.out (fun _ hk => ⟨hk.2, hk.1.2⟩)), (mK BK115.out), (mK BK116.out), (mK BK117.out), (mK BK121.out), (mH4 HB.out GE115.out GE116.out GE117.out GE121.out)⟩)
               rintro ⟨v133, v136⟩ w110 ⟨hS_, h0_, h1_, h2_, h3_, h4_, h5_, h6_, h7_⟩
               have n0_ : Aside0 (Kd.R k35 35 w110 w.heap.size (fun k_ => some k_ ≠ (v136 : Value).ownBlock ∧ some k_ ≠ (.slice Ao14 t118.length co14 : Value).ownBlock) v133 y132) := ⟨h0_⟩
               have n1_ : Aside0 (Kd.R k35 35 w110 w.heap.size (fun k_ => some k_ ≠ (v133 : Value).ownBlock ∧ some k_ ≠ (.slice Ao14 t118.length co14 : Value).ownBlock) v136 y135) := ⟨h1_⟩
               have n2_ : Aside0 (Kd.R k35 35 w110 w.heap.size (fun k_ => some k_ ≠ (v133 : Value).ownBlock ∧ some k_ ≠ (v136 : Value).ownBlock) (.slice Ao14 t118.length co14) t118) := ⟨h2_⟩
               have n3_ : Aside0 (w110.heap[gb115]? = some (.cells #[.slice A0_0 l0_0.length c0_0] 26 (0, 0))) := ⟨h3_⟩
               have n4_ : Aside0 (w110.heap[gb116]? = some (.cells #[.string a1_0, .string a1_1, .bool a1_2] 33 (0, 0))) := ⟨h4_⟩
               have n5_ : Aside0 (w110.heap[gb117]? = some (.cells #[.slice none 0 0] 26 (0, 0))) := ⟨h5_⟩
               have n6_ : Aside0 (w110.heap[gb121]? = some (.cells #[.slice Ao14 t118.length co14] 26 (0, 0))) := ⟨h6_⟩
               have n7_ : Aside0 (Below w.heap.size w w110) := ⟨h7_⟩
               clear HO_122000
               clear BK115
               clear BK116
               clear BK117
               clear BK121
               clear HB
               clear h0_ h1_ h2_ h3_ h4_ h5_ h6_ h7_
               have HO134 := n0_
               have HO137 := n1_
               have HO_122000 := n2_
               have BK115 := n3_
               have BK116 := n4_
               have BK117 := n5_
               have BK121 := n6_
               have HB := n7_
               clear n0_ n1_ n2_ n3_ n4_ n5_ n6_ n7_
               have hHeld : w110.cell? ⟨gb115, 0, none⟩ = some (.slice A0_0 l0_0.length c0_0) ∧ w110.cell? ⟨gb116, 0, none⟩ = some (.string a1_0) ∧ w110.cell? ⟨gb116, 1, none⟩ = some (.string a1_1) ∧ w110.cell? ⟨gb116, 2, none⟩ = some (.bool a1_2) := hS_
               obtain ⟨Ao112, co112, eo112⟩ := Kd.R_slice HO137.out
               (first | subst eo112 | (injection eo112 with f1_ f2_ f3_; have f4_ := f1_.symm; have f5_ := f3_.symm; clear f1_ f2_ f3_; subst f4_; subst f5_))
               refine norm_ (a' := ?_) ?_ ?_
               rotate_left
               ·simp only [putAll, Act.put, zA, zB, zC]
                rfl
               refine one_ (i := 9) (N := some 83) #[true, true, true, true, true, true, true, true, true, true, true, true, true, true, false, false, false, false] rfl rfl (one_of HT_.out (by kernel_rfl)) (by decide) (fun K hK => ?_)
               refine Kd.R_append_rows_step k35 (w0 := w) w.heap.size (by rfl) (.tmp 78) (.tmp 82) 24 35 (.agg #[(.string ⟨#[]⟩), (.string ⟨#[]⟩), (.bool false), (.int .i64 0)]) 48 rfl Try.underlying24 info35 rfl (by decide) (by omega) v133 y132 y135 _ _ _ (fun k_ => some k_ ≠ (.slice Ao14 t118.length co14 : Value).ownBlock ∧ some k_ ≠ (.slice Ao112 y135.length co112 : Value).ownBlock) (fun _ => False) rfl rfl ?aO ?aR (fun _ _ h => h) (fun _ h => h.elim) ?aF ?aB ?aS ?aL ?_
               (case aR => repeat (first | exact (Kd.R_reads' HO137.out).2.2 | (with_reducible refine Kd.C_alloc ?_ _) | (with_reducible refine Kd.C_drewN ?_ _) | (with_reducible refine Kd.C_drew ?_)))
               (case aB => exact (mH4 HB.out GE115.out GE116.out GE117.out GE121.out))
               (case aF => exact (fun k_ hk => ⟨Kd.fresh' (Kd.R_lt (mR HO_122000.out)) k_ hk, Kd.fresh' (Kd.R_lt (mR HO137.out)) k_ hk⟩))
               (case aO => exact (by (with_reducible repeat (first | apply Kd.R_alloc | apply Kd.R_drewN | apply Kd.R_drew)); exact Kd.R_mono HO134.out (fun _ hk => ⟨hk.2, hk.1⟩)))
               (case aS => exact (below_size (mH4 HB.out GE115.out GE116.out GE117.out GE121.out)))
               (case aL => have := LMc96.out; omega)
               intro v139 w111 ho hb hg hat
               rw [← Ny138.out] at ho
               have n0_ := mS (Kd.R_after (ok := (fun k_ => some k_ ≠ (.slice Ao112 y135.length co112 : Value).ownBlock)) (by (with_reducible repeat (first | apply Kd.R_alloc | apply Kd.R_drewN | apply Kd.R_drew)); exact Kd.R_mono HO_122000.out (fun _ hk => ⟨hk.2, hk.1⟩)) hg hat)
               have n1_ := mS (blk_grown (g := gb115) (o := .cells #[.slice A0_0 l0_0.length c0_0] 26 (0, 0)) (mK BK115.out) hg (Kd.R_ne HO134.out BK115.out (by decide)))
               have n2_ := mS (blk_grown (g := gb116) (o := .cells #[.string a1_0, .string a1_1, .bool a1_2] 33 (0, 0)) (mK BK116.out) hg (Kd.R_ne HO134.out BK116.out (by decide)))
               have n3_ := mS (blk_grown (g := gb117) (o := .cells #[.slice none 0 0] 26 (0, 0)) (mK BK117.out) hg (Kd.R_ne HO134.out BK117.out (by decide)))
               have n4_ := mS (blk_grown (g := gb121) (o := .cells #[.slice Ao14 t118.length co14] 26 (0, 0)) (mK BK121.out) hg (Kd.R_ne HO134.out BK121.out (by decide)))
               have n5_ := mS (Kd.R_after (ok := (fun k_ => some k_ ≠ (.slice Ao14 t118.length co14 : Value).ownBlock)) (by (with_reducible repeat (first | apply Kd.R_alloc | apply Kd.R_drewN | apply Kd.R_drew)); exact Kd.R_mono HO137.out (fun _ hk => ⟨hk.2, hk.1⟩)) hg hat)
               have n6_ := mS (hb)
               have n7_ := mS (ho)
               clear HO_122000
               clear BK115
               clear BK116
               clear BK117
               clear BK121
               clear HO137
               clear HB
               clear HO134
               have HO_122000 := n0_
               have BK115 := n1_
               have BK116 := n2_
               have BK117 := n3_
               have BK121 := n4_
               have HO137 := n5_
               have HB := n6_
               have HO140 := n7_
               clear n0_ n1_ n2_ n3_ n4_ n5_ n6_ n7_
               clear ho hb hg hat
               refine hK.out _ _ ⟨(blk_cell BK115.out 0).trans rfl, (blk_cell BK116.out 0).trans rfl, (blk_cell BK116.out 1).trans rfl, (blk_cell BK116.out 2).trans rfl⟩ (fun hHeld => ?_)
               clear hK K
               refine norm_ (a' := ?_) ?_ ?_
               rotate_left
               ·show Act.put _ (some 83) _ = _
                simp only [Act.put, zA, zB, zC, i64_w, i32_w]
                rfl
               refine one_ (i := 14) (N := some 88) #[true, true, true, true, true, true, true, true, true, true, true, true, true, true, true, false, false, false] rfl rfl (one_of HT_.out (by kernel_rfl)) (by decide) (fun K hK => ?_)
               refine Kd.R_append_rows_step k35 (w0 := w) w.heap.size (by rfl) (.tmp 83) (.tmp 87) 24 35 (.agg #[(.string ⟨#[]⟩), (.string ⟨#[]⟩), (.bool false), (.int .i64 0)]) 48 rfl Try.underlying24 info35 rfl (by decide) (by omega) v139 y138 y141 _ _ _ (fun k_ => some k_ ≠ (.slice Ao14 t118.length co14 : Value).ownBlock ∧ some k_ ≠ (.slice Ao112 y135.length co112 : Value).ownBlock) (fun _ => False) rfl rfl ?aO ?aR (fun _ _ h => h) (fun _ h => h.elim) ?aF ?aB ?aS ?aL ?_
               (case aR => repeat (first | exact (Kd.C_below HR144.out HB.out) | (with_reducible refine Kd.C_alloc ?_ _) | (with_reducible refine Kd.C_drewN ?_ _) | (with_reducible refine Kd.C_drew ?_)))
               (case aB => exact (mH4 HB.out GE115.out GE116.out GE117.out GE121.out))
               (case aF => exact (fun k_ hk => ⟨Kd.fresh' (Kd.R_lt (mR HO_122000.out)) k_ hk, Kd.fresh' (Kd.R_lt (mR HO137.out)) k_ hk⟩))
               (case aO => exact (mR HO140.out))
               (case aS => exact (below_size (mH4 HB.out GE115.out GE116.out GE117.out GE121.out)))
               (case aL => have := LMc99.out; omega)
               intro v146 w113 ho hb hg hat
               rw [← Ny145.out] at ho
               have n0_ := mS (Kd.R_after (ok := (fun k_ => some k_ ≠ (.slice Ao112 y135.length co112 : Value).ownBlock)) (mR HO_122000.out) hg hat)
               have n1_ := mS (blk_grown (g := gb115) (o := .cells #[.slice A0_0 l0_0.length c0_0] 26 (0, 0)) (mK BK115.out) hg (Kd.R_ne HO140.out BK115.out (by decide)))
               have n2_ := mS (blk_grown (g := gb116) (o := .cells #[.string a1_0, .string a1_1, .bool a1_2] 33 (0, 0)) (mK BK116.out) hg (Kd.R_ne HO140.out BK116.out (by decide)))
               have n3_ := mS (blk_grown (g := gb117) (o := .cells #[.slice none 0 0] 26 (0, 0)) (mK BK117.out) hg (Kd.R_ne HO140.out BK117.out (by decide)))
               have n4_ := mS (blk_grown (g := gb121) (o := .cells #[.slice Ao14 t118.length co14] 26 (0, 0)) (mK BK121.out) hg (Kd.R_ne HO140.out BK121.out (by decide)))
               have n5_ := mS (Kd.R_after (ok := (fun k_ => some k_ ≠ (.slice Ao14 t118.length co14 : Value).ownBlock)) (mR HO137.out) hg hat)
               have n6_ := mS (hb)
               have n7_ := mS (ho)
               clear HO_122000
               clear BK115
               clear BK116
               clear BK117
               clear BK121
               clear HO137
               clear HB
               clear HO140
               have HO_122000 := n0_
               have BK115 := n1_
               have BK116 := n2_
               have BK117 := n3_
               have BK121 := n4_
               have HO137 := n5_
               have HB := n6_
               have HO147 := n7_
               clear n0_ n1_ n2_ n3_ n4_ n5_ n6_ n7_
               clear ho hb hg hat
               obtain ⟨Ao114, co114, eo114⟩ := Kd.R_slice HO147.out
               (first | subst eo114 | (injection eo114 with f1_ f2_ f3_; have f4_ := f1_.symm; have f5_ := f3_.symm; clear f1_ f2_ f3_; subst f4_; subst f5_))
               refine hK.out _ _ ⟨(blk_cell BK115.out 0).trans rfl, (blk_cell BK116.out 0).trans rfl, (blk_cell BK116.out 1).trans rfl, (blk_cell BK116.out 2).trans rfl⟩ (fun hHeld => ?_)
               clear hK K
               refine norm_ (a' := ?_) ?_ ?_
               rotate_left
               ·show Act.put _ (some 88) _ = _
                simp only [Act.put, zA, zB, zC, i64_w, i32_w]
                rfl
               refine pure_ (i := 15) (N := some 89) (v := ?_) (a' := ?_) #[true, true, true, true, true, true, true, true, true, true, true, true, true, true, true, true, false, false] rfl rfl (any_of HT_.out (by kernel_rfl)) (fun _ _ _ h => h) (Or.inl ⟨by rfl, ?_⟩) ?_ ?_
               rotate_left
               ·intro w'
                go_simp
                with_reducible rfl
               rotate_left
               ·simp only [Act.put, zA, zB, zC, i64_w, i32_w]
                rfl
               refine one_ (i := 16) (N := none) #[true, true, true, true, true, true, true, true, true, true, true, true, true, true, true, true, true, false] rfl rfl (one_of HT_.out (by kernel_rfl)) (by decide) (fun K hK => ?_)
               have hs115 : w113.cell? ⟨gb117, 0, none⟩ = some (.slice none 0 0) := (blk_cell BK117.out 0).trans rfl
               have hfs115 := blk_frozen BK117.out 0
               have hns115_0 := NB115_117.out
               have hns115_1 := NB116_117.out
               have hns115_3 := NB121_117.out
               have hms115_0 := NB117_115.out
               have hms115_1 := NB117_116.out
               have hms115_3 := NB117_121.out
               refine skip_ (w1 := ?_) (by rfl) rfl ?_ ?_
               rotate_left
               ·go_simp
                rfl
               refine hK.out _ _ ⟨((cell_far (p := ⟨gb117, _, none⟩) NB115_117.out _).trans (hHeld.1)), ((cell_far (p := ⟨gb117, _, none⟩) NB116_117.out _).trans (hHeld.2.1)), ((cell_far (p := ⟨gb117, _, none⟩) NB116_117.out _).trans (hHeld.2.2.1)), ((cell_far (p := ⟨gb117, _, none⟩) NB116_117.out _).trans (hHeld.2.2.2))⟩ (fun hHeld => ?_)
               clear hK K
               refine pure_ (i := 17) (N := some 7) (v := ?_) (a' := ?_) #[true, true, true, true, true, true, true, true, true, true, true, true, true, true, true, true, true, true] rfl rfl (any_of HT_.out (by kernel_rfl)) (fun _ _ _ h => h) (Or.inl ⟨by rfl, ?_⟩) ?_ ?_
               rotate_left
               ·intro w'
                go_simp
                with_reducible rfl
               rotate_left
               ·simp only [Act.put, zA, zB, zC, i64_w, i32_w]
                rfl
               refine done_ (done_of HT_.out (by kernel_rfl)) ?_
               try go_wp2
               refine bodyPost_ret (results_ct rfl _ _ gb117 26 #[.slice Ao114 y145.length co114] (0, 0) _ rfl (by (with_reducible repeat (first | refine blk_drewN ?_ _ | refine blk_drew ?_ | refine blk_alloc ?_ _)); refine blk_put (cs := #[.slice none 0 0]) ?_ 0 _ rfl; (with_reducible repeat (first | refine blk_drewN ?_ _ | refine blk_drew ?_ | refine blk_alloc ?_ _)); exact BK117.out) Try.underlying26 rfl (by kernel_rfl)) rfl ?_
               exact ⟨_, by first | rfl | (simp [errW_none, errW_some] <;> rfl) | (simp [*, errW_none, errW_some] <;> rfl), by (with_reducible repeat (first | apply Kd.R_alloc | apply Kd.R_drewN | apply Kd.R_drew)); exact Kd.R_mono (Kd.R_far (p := ⟨gb117, 0, none⟩) (Kd.R_types HO147.out BK117.out (by decide)) (fun _ hk => hk.2) (.slice Ao114 y145.length co114)) (fun _ hk => trivial), (mH4 HB.out GE115.out GE116.out GE117.out GE121.out)⟩
              ·rw [if_neg c99] at H
               exact absurd H (by simp)
             ·rw [if_neg c96] at H
              exact absurd H (by simp)
            ·rw [if_neg c95] at H
             exact absurd H (by simp)
           ·rw [if_neg c94] at H
            exact absurd H (by simp)
          ·rw [if_neg c93] at H
           exact absurd H (by simp)

end Go.Proofs.Ytbepbgfkajnlbaa.MFnExactMemPut
