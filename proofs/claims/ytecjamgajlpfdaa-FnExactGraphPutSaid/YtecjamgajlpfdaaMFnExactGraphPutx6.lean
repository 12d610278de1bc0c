-- Written by mp.py, this session's own printer (wip/mp.py).
import Derived.Test.YtecjamgajlpfdaaVMShort
import Derived.Test.YtecjamgajlpfdaaMFnExactGraphPutx0
import Derived.Test.YtecjamgajlpfdaaMFnExactGraphPutx2
import Derived.Test.YtecjamgajlpfdaaMFnExactGraphPutx4
import Derived.Test.YtecjamgajlpfdaaMFnExactGraphPutx5
namespace Go.Proofs.Ytecjamgajlpfdaa.MFnExactGraphPut
open Go.RowKit Go.Proofs.YtecjamgajlpfdaaW.PrintWords Go.Proofs.YtecjamgajlpfdaaW.PrintLast Go.Proofs.YtecjamgajlpfdaaW.PrintMore Go.Proofs.Ytecjamgajlpfdaa.MWords
attribute [local go_sem] max2_int min2_int max_two min_two max_three min_three max_four min_four   -- for this text's walks alone
set_option linter.unusedVariables false
set_option linter.unusedSimpArgs false

/-! ### spec_GraphPut: function 25 -/
mutual
def spec_GraphPut.l0 : Nat → Bool → Int → List (S59) → Int → Int → List (S56) → List (S59) → Option ((List (S59)) × Bool)
 | 0, _, _, _, _, _, _, _ => none
 | k + 1, x7, x8, x153000, x154000, x154001, x154002, x156000 => if x8 < (x153000.length : Int) then (if x7 = true then (spec_GraphPut.j1 k x7 x8 false x153000 x154000 x154001 x154002 x156000) else (if 0 ≤ x8 then ((spec_DotLess.f x154000 x154001 ((rd_T59 x153000 x8).f0.f0) ((rd_T59 x153000 x8).f0.f1)).bind fun t157 => (spec_GraphPut.j1 k x7 x8 t157 x153000 x154000 x154001 x154002 x156000)) else (none))) else (if x7 = true then (spec_GraphPut.j2 k x153000 x154000 x154001 x154002 x156000) else ((spec_l8CopyItem.f x154000 x154001 x154002).bind fun bt184 => (if x156000.length < 3518437208883 then (spec_GraphPut.j2 k x153000 x154000 x154001 x154002 (x156000 ++ [(⟨(⟨bt184.1, bt184.2.1⟩ : S56), bt184.2.2⟩ : S59)])) else (none))))
def spec_GraphPut.j1 : Nat → Bool → Int → Bool → List (S59) → Int → Int → List (S56) → List (S59) → Option ((List (S59)) × Bool)
 | 0, _, _, _, _, _, _, _, _ => none
 | k + 1, x7, x8, x29, x153000, x154000, x154001, x154002, x156000 => if x29 = true then ((spec_l8CopyItem.f x154000 x154001 x154002).bind fun bt158 => (if x156000.length < 3518437208883 then ((some (x156000 ++ [(⟨(⟨bt158.1, bt158.2.1⟩ : S56), bt158.2.2⟩ : S59)] : List (S59))).bind fun y163 => (if 0 ≤ x8 then (if x8 < (x153000.length : Int) then ((spec_l8CopyItem.f ((rd_T59 x153000 x8).f0.f0) ((rd_T59 x153000 x8).f0.f1) ((rd_T59 x153000 x8).f1)).bind fun bt167 => (if y163.length < 3518437208883 then (spec_GraphPut.l0 k true (wrap64 (x8 + 1)) x153000 x154000 x154001 x154002 (y163 ++ [(⟨(⟨bt167.1, bt167.2.1⟩ : S56), bt167.2.2⟩ : S59)])) else (none))) else (none)) else (none))) else (none))) else (if 0 ≤ x8 then (if x8 < (x153000.length : Int) then ((spec_l8CopyItem.f ((rd_T59 x153000 x8).f0.f0) ((rd_T59 x153000 x8).f0.f1) ((rd_T59 x153000 x8).f1)).bind fun bt176 => (if x156000.length < 3518437208883 then (spec_GraphPut.l0 k x7 (wrap64 (x8 + 1)) x153000 x154000 x154001 x154002 (x156000 ++ [(⟨(⟨bt176.1, bt176.2.1⟩ : S56), bt176.2.2⟩ : S59)])) else (none))) else (none)) else (none))
def spec_GraphPut.j2 : Nat → List (S59) → Int → Int → List (S56) → List (S59) → Option ((List (S59)) × Bool)
 | 0, _, _, _, _, _ => none
 | k + 1, x153000, x154000, x154001, x154002, x156000 => (spec_l8At.f k x153000 x154000 x154001).bind fun t192 => (if t192 ≥ 0 then (spec_GraphPut.j3 k true x153000 x156000) else ((spec_GraphOk.f k x156000).bind fun t193 => (spec_GraphPut.j3 k (!t193) x153000 x156000)))
def spec_GraphPut.j3 : Nat → Bool → List (S59) → List (S59) → Option ((List (S59)) × Bool)
 | 0, _, _, _ => none
 | k + 1, x66, x153000, x156000 => if x66 = true then ((spec_l8Copy.f k x153000).bind fun t194 => (some (t194, false))) else (some (x156000, true))
end
def spec_GraphPut.f (k : Nat) (l0_0 : List (S59)) (a1_0 : Int) (a1_1 : Int) (l1_2 : List (S56)) : Option ((List (S59)) × Bool) := spec_GraphPut.l0 k false 0 l0_0 a1_0 a1_1 l1_2 ([] : List (S59))
theorem spec_GraphPut.mono_l : ∀ k, (∀ y0 y1 y2 y3 y4 y5 y6, LeO (spec_GraphPut.l0 k y0 y1 y2 y3 y4 y5 y6) (spec_GraphPut.l0 (k + 1) y0 y1 y2 y3 y4 y5 y6)) ∧ (∀ y0 y1 y2 y3 y4 y5 y6 y7, LeO (spec_GraphPut.j1 k y0 y1 y2 y3 y4 y5 y6 y7) (spec_GraphPut.j1 (k + 1) y0 y1 y2 y3 y4 y5 y6 y7)) ∧ (∀ y0 y1 y2 y3 y4, LeO (spec_GraphPut.j2 k y0 y1 y2 y3 y4) (spec_GraphPut.j2 (k + 1) y0 y1 y2 y3 y4)) ∧ (∀ y0 y1 y2, LeO (spec_GraphPut.j3 k y0 y1 y2) (spec_GraphPut.j3 (k + 1) y0 y1 y2))
 | 0 => ⟨fun _ _ _ _ _ _ _ r h => by simp [spec_GraphPut.l0] at h, fun _ _ _ _ _ _ _ _ r h => by simp [spec_GraphPut.j1] at h, fun _ _ _ _ _ r h => by simp [spec_GraphPut.j2] at h, fun _ _ _ r h => by simp [spec_GraphPut.j3] at h⟩
 | k + 1 => by
  obtain ⟨ih0, ih1, ih2, ih3⟩ := spec_GraphPut.mono_l k
  refine ⟨?_, ?_, ?_, ?_⟩
  ·intro y0 y1 y2 y3 y4 y5 y6
   unfold spec_GraphPut.l0
   repeat' first
   | (with_reducible exact ih0 _ _ _ _ _ _ _)
   | (with_reducible exact ih1 _ _ _ _ _ _ _ _)
   | (with_reducible exact ih2 _ _ _ _ _)
   | (with_reducible exact ih3 _ _ _)
   | (with_reducible exact spec_GraphOk.mono _ _)
   | (with_reducible exact spec_l8At.mono _ _ _ _)
   | (with_reducible exact spec_l8Copy.mono _ _)
   | (with_reducible exact LeO.refl _)
   | (with_reducible exact LeO.none _)
   | (with_reducible refine LeO.ite ?_ ?_)
   | (with_reducible refine LeO.bind ?_ (fun _ => ?_))
   | exact ih0 _ _ _ _ _ _ _
   | exact ih1 _ _ _ _ _ _ _ _
   | exact ih2 _ _ _ _ _
   | exact ih3 _ _ _
   | exact spec_GraphOk.mono _ _
   | exact spec_l8At.mono _ _ _ _
   | exact spec_l8Copy.mono _ _
   | exact LeO.none _
   | refine LeO.ite ?_ ?_
   | refine LeO.bind ?_ (fun _ => ?_)
  ·intro y0 y1 y2 y3 y4 y5 y6 y7
   unfold spec_GraphPut.j1
   repeat' first
   | (with_reducible exact ih0 _ _ _ _ _ _ _)
   | (with_reducible exact ih1 _ _ _ _ _ _ _ _)
   | (with_reducible exact ih2 _ _ _ _ _)
   | (with_reducible exact ih3 _ _ _)
   | (with_reducible exact spec_GraphOk.mono _ _)
   | (with_reducible exact spec_l8At.mono _ _ _ _)
   | (with_reducible exact spec_l8Copy.mono _ _)
   | (with_reducible exact LeO.refl _)
   | (with_reducible exact LeO.none _)
   | (with_reducible refine LeO.ite ?_ ?_)
   | (with_reducible refine LeO.bind ?_ (fun _ => ?_))
   | exact ih0 _ _ _ _ _ _ _
   | exact ih1 _ _ _ _ _ _ _ _
   | exact ih2 _ _ _ _ _
   | exact ih3 _ _ _
   | exact spec_GraphOk.mono _ _
   | exact spec_l8At.mono _ _ _ _
   | exact spec_l8Copy.mono _ _
   | exact LeO.none _
   | refine LeO.ite ?_ ?_
   | refine LeO.bind ?_ (fun _ => ?_)
  ·intro y0 y1 y2 y3 y4
   unfold spec_GraphPut.j2
   repeat' first
   | (with_reducible exact ih0 _ _ _ _ _ _ _)
   | (with_reducible exact ih1 _ _ _ _ _ _ _ _)
   | (with_reducible exact ih2 _ _ _ _ _)
   | (with_reducible exact ih3 _ _ _)
   | (with_reducible exact spec_GraphOk.mono _ _)
   | (with_reducible exact spec_l8At.mono _ _ _ _)
   | (with_reducible exact spec_l8Copy.mono _ _)
   | (with_reducible exact LeO.refl _)
   | (with_reducible exact LeO.none _)
   | (with_reducible refine LeO.ite ?_ ?_)
   | (with_reducible refine LeO.bind ?_ (fun _ => ?_))
   | exact ih0 _ _ _ _ _ _ _
   | exact ih1 _ _ _ _ _ _ _ _
   | exact ih2 _ _ _ _ _
   | exact ih3 _ _ _
   | exact spec_GraphOk.mono _ _
   | exact spec_l8At.mono _ _ _ _
   | exact spec_l8Copy.mono _ _
   | exact LeO.none _
   | refine LeO.ite ?_ ?_
   | refine LeO.bind ?_ (fun _ => ?_)
  ·intro y0 y1 y2
   unfold spec_GraphPut.j3
   repeat' first
   | (with_reducible exact ih0 _ _ _ _ _ _ _)
   | (with_reducible exact ih1 _ _ _ _ _ _ _ _)
   | (with_reducible exact ih2 _ _ _ _ _)
   | (with_reducible exact ih3 _ _ _)
   | (with_reducible exact spec_GraphOk.mono _ _)
   | (with_reducible exact spec_l8At.mono _ _ _ _)
   | (with_reducible exact spec_l8Copy.mono _ _)
   | (with_reducible exact LeO.refl _)
   | (with_reducible exact LeO.none _)
   | (with_reducible refine LeO.ite ?_ ?_)
   | (with_reducible refine LeO.bind ?_ (fun _ => ?_))
   | exact ih0 _ _ _ _ _ _ _
   | exact ih1 _ _ _ _ _ _ _ _
   | exact ih2 _ _ _ _ _
   | exact ih3 _ _ _
   | exact spec_GraphOk.mono _ _
   | exact spec_l8At.mono _ _ _ _
   | exact spec_l8Copy.mono _ _
   | exact LeO.none _
   | refine LeO.ite ?_ ?_
   | refine LeO.bind ?_ (fun _ => ?_)
theorem spec_GraphPut.mono : ∀ a0 a1 a2 a3 k, LeO (spec_GraphPut.f k a0 a1 a2 a3) (spec_GraphPut.f (k + 1) a0 a1 a2 a3) := by
 intro a0 a1 a2 a3 k
 obtain ⟨ih0, ih1, ih2, ih3⟩ := spec_GraphPut.mono_l k
 unfold spec_GraphPut.f
 repeat' first
   | (with_reducible exact ih0 _ _ _ _ _ _ _)
   | (with_reducible exact ih1 _ _ _ _ _ _ _ _)
   | (with_reducible exact ih2 _ _ _ _ _)
   | (with_reducible exact ih3 _ _ _)
   | (with_reducible exact spec_GraphOk.mono _ _)
   | (with_reducible exact spec_l8At.mono _ _ _ _)
   | (with_reducible exact spec_l8Copy.mono _ _)
   | (with_reducible exact LeO.refl _)
   | (with_reducible exact LeO.none _)
   | (with_reducible refine LeO.ite ?_ ?_)
   | (with_reducible refine LeO.bind ?_ (fun _ => ?_))
   | exact ih0 _ _ _ _ _ _ _
   | exact ih1 _ _ _ _ _ _ _ _
   | exact ih2 _ _ _ _ _
   | exact ih3 _ _ _
   | exact spec_GraphOk.mono _ _
   | exact spec_l8At.mono _ _ _ _
   | exact spec_l8Copy.mono _ _
   | exact LeO.none _
   | refine LeO.ite ?_ ?_
   | refine LeO.bind ?_ (fun _ => ?_)
def spec_GraphPut.T6 : Bool × List (List Nat × List Nat) := (true, [([], []), ([0], [0]), ([1], [1]), ([2], [2]), ([3, 2], [2, 3]), ([2], [2]), ([5, 2], [2, 5]), ([2], [2]), ([6, 7, 2], [2, 6, 7]), ([8, 2], [2, 8]), ([9, 2], [2, 9]), ([4, 10, 2, 2], [2, 4, 10]), ([2, 11], [2, 11])])
def spec_GraphPut.B6 : List Nat := [0, 1, 3, 7, 15, 7, 39, 7, 231, 487, 999, 2047, 4095]
theorem spec_GraphPut.tab6 : rtab .any (opsOf Try.f25 6) = spec_GraphPut.T6 := by kernel_rfl
theorem spec_GraphPut.bits6 : waitsOk spec_GraphPut.T6.2 spec_GraphPut.B6 = true := by kernel_rfl
def spec_GraphPut.T7 : Bool × List (List Nat × List Nat) := (true, [([], []), ([0], [0]), ([], []), ([2], [2]), ([3], [3]), ([1, 4, 3], [1, 4]), ([0, 1, 2, 3, 4, 5], []), ([6, 5, 5, 0, 1, 2, 3, 4, 5], [5, 6])])
def spec_GraphPut.B7 : List Nat := [0, 1, 0, 4, 12, 31, 63, 127]
theorem spec_GraphPut.tab7 : rtab .any (opsOf Try.f25 7) = spec_GraphPut.T7 := by kernel_rfl
theorem spec_GraphPut.bits7 : waitsOk spec_GraphPut.T7.2 spec_GraphPut.B7 = true := by kernel_rfl
def spec_GraphPut.T9 : Bool × List (List Nat × List Nat) := (true, [([], []), ([0], [0]), ([], []), ([2], [2]), ([], []), ([3, 4], [3, 4]), ([5], [5]), ([6], [6]), ([7], [7]), ([1, 8, 7], [1, 8]), ([0, 1, 2, 3, 4, 5, 6, 7, 8, 9], []), ([10, 9, 9, 0, 1, 2, 3, 4, 5, 6, 7, 8, 9], [9, 10])])
def spec_GraphPut.B9 : List Nat := [0, 1, 0, 4, 0, 28, 60, 124, 252, 511, 1023, 2047]
theorem spec_GraphPut.tab9 : rtab .any (opsOf Try.f25 9) = spec_GraphPut.T9 := by kernel_rfl
theorem spec_GraphPut.bits9 : waitsOk spec_GraphPut.T9.2 spec_GraphPut.B9 = true := by kernel_rfl
def spec_GraphPut.T11 : Bool × List (List Nat × List Nat) := (true, [([], []), ([0], [0]), ([], []), ([2], [2]), ([3], [3]), ([1, 4, 3], [1, 4]), ([0, 1, 2, 3, 4, 5], []), ([6, 5, 5, 0, 1, 2, 3, 4, 5], [5, 6])])
def spec_GraphPut.B11 : List Nat := [0, 1, 0, 4, 12, 31, 63, 127]
theorem spec_GraphPut.tab11 : rtab .any (opsOf Try.f25 11) = spec_GraphPut.T11 := by kernel_rfl
theorem spec_GraphPut.bits11 : waitsOk spec_GraphPut.T11.2 spec_GraphPut.B11 = true := by kernel_rfl
set_option maxHeartbeats 8000000 in
set_option maxRecDepth 100000 in
theorem spec_GraphPut.calls (k : Nat) (A0_0 : Option Addr) (c0_0 : Nat) (l0_0 : List (S59)) (a1_0 : Int) (a1_1 : Int) (A1_2 : Option Addr) (c1_2 : Nat) (l1_2 : List (S56)) (r1 : List (S59)) (r2 : Bool) (w : World) (hr0_0 : Kd.C k59 w A0_0 l0_0.length l0_0) (hc0_0 : l0_0.length ≤ c0_0) (hr1_2 : Kd.C k56 w A1_2 l1_2.length l1_2) (hc1_2 : l1_2.length ≤ c1_2) (h : spec_GraphPut.f k l0_0 a1_0 a1_1 l1_2 = some (r1, r2)) :
  Calls Try.prog 25 #[.agg #[.slice A0_0 l0_0.length c0_0], .agg #[.int .i64 a1_0, .int .i64 a1_1, .slice A1_2 l1_2.length c1_2]] w fun e w' => ∃ v0_ : Value, e = .returned (.tuple #[.agg #[v0_], .bool r2]) ∧ Kd.S k59 59 w' w.heap.size (fun _ => True) v0_ r1 ∧ Below w.heap.size w w' := by
 have hu52 := Try.underlying52
 have hu59 := Try.underlying59
 have hu56 := Try.underlying56
 have HR0_0 := mS hr0_0
 have HC0_0 := mS hc0_0
 clear hr0_0 hc0_0
 have HR1_2 := mS hr1_2
 have HC1_2 := mS hc1_2
 clear hr1_2 hc1_2
 have HB := mS (Below.refl w.heap.size w)
 have H : (spec_GraphPut.l0 k false 0 l0_0 a1_0 a1_1 l1_2 ([] : List (S59))) = some (r1, r2) := h
 clear h
 have H' := mS H
 clear H
 go_enter Try.func25, Try.ntmps25
 go_wp2_with (first | ((with_reducible refine gate_dst (N := 2) rfl ?_); refine mBx 2 #[.slice A0_0 l0_0.length c0_0] 52 ?_; intro gb152 hg w3 hbox hb; have BK152 := mS (hbox); have GW152 := mG hg (mH HB.out); have GE152 := mG hg (mH HB.out); replace HB := mS (below_step (mH HB.out) hb); clear hb hbox hg) | ((with_reducible refine gate_dst (N := 3) rfl ?_); refine mBx 3 #[.int .i64 a1_0, .int .i64 a1_1, .slice A1_2 l1_2.length c1_2] 59 ?_; intro gb153 hg w4 hbox hb; have BK153 := mS (hbox); have GW153 := mG hg (mH1 HB.out GE152.out); have GE153 := mG hg (mH1 HB.out GE152.out); replace HB := mS (below_step (mH1 HB.out GE152.out) hb); have NB152_153 := mNl hg BK152.out; have NB153_152 := mNg hg BK152.out; replace BK152 := mB BK152 hb; clear hb hbox hg) | ((with_reducible refine gate_dst (N := 4) rfl ?_); refine mBx 4 #[.slice none 0 0] 52 ?_; intro gb154 hg w5 hbox hb; have BK154 := mS (hbox); have GW154 := mG hg (mH2 HB.out GE152.out GE153.out); have GE154 := mG hg (mH2 HB.out GE152.out GE153.out); replace HB := mS (below_step (mH2 HB.out GE152.out GE153.out) hb); have NB152_154 := mNl hg BK152.out; have NB154_152 := mNg hg BK152.out; replace BK152 := mB BK152 hb; have NB153_154 := mNl hg BK153.out; have NB154_153 := mNg hg BK153.out; replace BK153 := mB BK153 hb; clear hb hbox hg) | ((with_reducible refine gate_dst (N := 6) rfl ?_); refine mBx 6 #[.slice none 0 0] 52 ?_; intro gb155 hg w6 hbox hb; have BK155 := mS (hbox); have GW155 := mG hg (mH3 HB.out GE152.out GE153.out GE154.out); have GE155 := mG hg (mH3 HB.out GE152.out GE153.out GE154.out); replace HB := mS (below_step (mH3 HB.out GE152.out GE153.out GE154.out) hb); have NB152_155 := mNl hg BK152.out; have NB155_152 := mNg hg BK152.out; replace BK152 := mB BK152 hb; have NB153_155 := mNl hg BK153.out; have NB155_153 := mNg hg BK153.out; replace BK153 := mB BK153 hb; have NB154_155 := mNl hg BK154.out; have NB155_154 := mNg hg BK154.out; replace BK154 := mB BK154 hb; clear hb hbox hg; have hnb7 := NB155_152.out; have hnc7 := NB152_155.out; have hnb8 := NB155_153.out; have hnc8 := NB153_155.out; have hnb9 := NB155_154.out; have hnc9 := NB154_155.out; have hcz10_0 := mZ BK155.out 0; have hfz10_0 := blk_frozen BK155.out 0))
 go_loopg [7, 8] k (fun kq v7 v8 w' => ∃ (x7_1 : Bool) (x8_1 : Int) (x156000_1 : List (S59)) (u156000 : Value), v7 = .bool x7_1 ∧ v8 = .int .i64 x8_1 ∧ Aside0 (spec_GraphPut.l0 kq x7_1 x8_1 l0_0 a1_0 a1_1 l1_2 x156000_1 = some (r1, r2)) ∧ Aside0 (kq ≤ k) ∧ Aside0 (Kd.S k59 59 w' w.heap.size (fun k_ => k_ ≠ gb153) u156000 x156000_1) ∧ Aside0 (w'.heap[gb152]? = some (.cells #[(.slice A0_0 l0_0.length c0_0)] 52 (0, 0))) ∧ Aside0 (w'.heap[gb153]? = some (.cells #[.int .i64 a1_0, .int .i64 a1_1, (.slice A1_2 l1_2.length c1_2)] 59 (0, 0))) ∧ Aside0 (w'.heap[gb154]? = some (.cells #[(.slice none 0 0)] 52 (0, 0))) ∧ Aside0 (w'.heap[gb155]? = some (.cells #[u156000] 52 (0, 0))) ∧ Aside0 (Below w.heap.size w w'))
 case atStart => exact ⟨(false), (0), (([] : List (S59))), (.slice none 0 0), mE, mE, H', ⟨Nat.le_refl _⟩, ⟨by first | exact Kd.S_nil _ _ _ _ _ | exact Kd.N_nil _ _ _ _ _ | exact Kd.V_nil _ _ _ _ _ | exact Kd.Q_nil _ _ _ _ _ | exact Kd.R_nil _ _ _ _ _⟩, ⟨mKf NB152_155.out BK152.out⟩, ⟨mKf NB153_155.out BK153.out⟩, ⟨mKf NB154_155.out BK154.out⟩, ⟨by refine mK ?_; refine blk_put (cs := #[.slice none 0 0]) ?_ 0 _ rfl; refine mK ?_; exact BK155.out⟩, ⟨(mH4 HB.out GE152.out GE153.out GE154.out GE155.out)⟩⟩
 case round =>
  clear H'
  try clear c1
  try clear c2
  try clear p2
  try clear c7
  try clear c8
  try clear c9
  try clear hcz10_0
  try clear hfz10_0
  obtain ⟨x7_1, x8_1, x156000_1, u156000, rfl, rfl, HA, HK1, HO_156000, BK152, BK153, BK154, BK155, HB⟩ := hrel
  cases gk with
  | zero => exact absurd HA.out (by simp [spec_GraphPut.l0])
  | succ k1 =>
   have H := HA.out
   clear HA
   simp only [spec_GraphPut.l0] at H
   by_cases c11 : x8_1 < (l0_0.length : Int)
   ·rw [if_pos c11] at H
    have c11b0 := decide_eq_true c11
    clear c11
    have HC12 := mS H
    clear H
    have hnb13 := NB152_153.out
    have hnc13 := NB153_152.out
    have hnb14 := NB152_154.out
    have hnc14 := NB154_152.out
    have hnb15 := NB152_155.out
    have hnc15 := NB155_152.out
    have hcz16_0 := mZ BK152.out 0
    have hfz16_0 := blk_frozen BK152.out 0
    go_upto_region 6 with (fail)
    go_cut [29] (fun v29 wc => ∃ (kq : Nat) (x29_11 : Bool), v29 = .bool x29_11 ∧ Aside0 (spec_GraphPut.j1 kq x7_1 x8_1 x29_11 l0_0 a1_0 a1_1 l1_2 x156000_1 = some (r1, r2)) ∧ Aside0 (kq ≤ k1) ∧ Aside0 (Kd.S k59 59 wc w.heap.size (fun k_ => k_ ≠ gb153) u156000 x156000_1) ∧ Aside0 (wc.heap[gb152]? = some (.cells #[(.slice A0_0 l0_0.length c0_0)] 52 (0, 0))) ∧ Aside0 (wc.heap[gb153]? = some (.cells #[.int .i64 a1_0, .int .i64 a1_1, (.slice A1_2 l1_2.length c1_2)] 59 (0, 0))) ∧ Aside0 (wc.heap[gb154]? = some (.cells #[(.slice none 0 0)] 52 (0, 0))) ∧ Aside0 (wc.heap[gb155]? = some (.cells #[u156000] 52 (0, 0))) ∧ Aside0 (Below w.heap.size w wc))
    case first =>
     have H := HC12.out
     clear HC12
     by_cases c17 : x7_1 = true
     ·subst c17
      have H1 := H
      rw [if_pos rfl] at H1
      clear H
      have H := H1
      clear H1
      have H' := mS H
      clear H
      try go_wp2
      replace HO_156000 := mS (Kd.S_drew HO_156000.out)
      replace BK152 := mS (blk_drew BK152.out)
      replace BK153 := mS (blk_drew BK153.out)
      replace BK154 := mS (blk_drew BK154.out)
      replace BK155 := mS (blk_drew BK155.out)
      replace HB := mS (below_drew1 HB.out)
      refine start_ (n := 13) (S := fun w' => True) (ds := []) (mb 0 13) (by kernel_rfl) rfl rfl trivial (fun hHeld => ?_); refine with_tabW spec_GraphPut.tab6 spec_GraphPut.bits6 (fun HT_ HW_ => ?_)
      generalize wr.drew = w18 at HO_156000 BK152 BK153 BK154 BK155 HB hHeld ⊢
      refine mpu 0 17 HT_.out (mb 1 12) ?_
      refine mpu 1 18 HT_.out (mb 2 11) ?_
      refine mpu 2 19 HT_.out (mb 3 10) ?_
      refine mpf 3 20 HT_.out (mb 4 9) ?_
      refine mpf 4 21 HT_.out (mb 5 8) ?_
      refine mpf 5 22 HT_.out (mb 6 7) ?_
      refine mpf 6 23 HT_.out (mb 7 6) ?_
      refine mpf 7 24 HT_.out (mb 8 5) ?_
      refine mpf 8 25 HT_.out (mb 9 4) ?_
      refine mpf 9 26 HT_.out (mb 10 3) ?_
      refine mpf 10 27 HT_.out (mb 11 2) ?_
      refine mpf 11 28 HT_.out (mb 12 1) ?_
      refine mpu 12 29 HT_.out (mb 13 0) ?_
      refine done_ (done_of HT_.out (by kernel_rfl)) ?_
      try go_wp2
      go_meet
      case rel => exact ⟨_, (false), mE, H', ⟨by have := HK1.out; first | omega | exact Nat.le_refl _⟩, ⟨mSd HO_156000.out⟩, ⟨mK BK152.out⟩, ⟨mK BK153.out⟩, ⟨mK BK154.out⟩, ⟨mK BK155.out⟩, ⟨(mH4 HB.out GE152.out GE153.out GE154.out GE155.out)⟩⟩
     ·replace c17 := Bool.eq_false_iff.mpr c17
      subst c17
      have H1 := H
      rw [if_neg (show ¬ (false = true) by decide)] at H1
      clear H
      have H := H1
      clear H1
      by_cases c19 : 0 ≤ x8_1
      ·rw [if_pos c19] at H
       have c19b0 := decide_eq_true c19
       clear c19
       (first | rw [c19b0] | (simp only [i64_w, i32_w]; rw [c19b0]) | skip)
       replace H := Option.bind_eq_some_iff.mp H
       obtain ⟨t157, A200, H⟩ := H
       replace H : (spec_GraphPut.j1 k1 false x8_1 t157 l0_0 a1_0 a1_1 l1_2 x156000_1) = some (r1, r2) := H
       have A20 := mS A200
       clear A200
       have H' := mS H
       clear H
       try go_wp2
       replace HO_156000 := mS (Kd.S_drew HO_156000.out)
       replace BK152 := mS (blk_drew BK152.out)
       replace BK153 := mS (blk_drew BK153.out)
       replace BK154 := mS (blk_drew BK154.out)
       replace BK155 := mS (blk_drew BK155.out)
       replace HB := mS (below_drew1 HB.out)
       have p156 : 0 ≤ (x8_1 : Int) := mD
       have q156 : x8_1 < (l0_0.length : Int) := mD
       obtain ⟨ad156, A156_2, c156_2, e156, hx156_0, hx156_1, hx156_2, hl156_2, hi156_2⟩ := at_T59 HR0_0.out x8_1 p156 q156
       have hw156_2 := hx156_2
       have hw156_1 := hx156_1
       have hw156_0 := hx156_0
       cases e156
       replace hx156_0 := mX HB.out hx156_0
       replace hx156_1 := mX HB.out hx156_1
       replace hx156_2 := mX HB.out hx156_2
       have HR156_2 := mS hi156_2
       have HC156_2 := mS hl156_2
       clear hi156_2 hl156_2
       replace p156 := eq_true p156
       replace q156 := eq_true q156
       refine start_ (n := 13) (S := fun w' => w'.cell? ⟨gb153, 0, none⟩ = some (.int .i64 a1_0) ∧ w'.cell? ⟨gb153, 1, none⟩ = some (.int .i64 a1_1) ∧ w'.cell? ⟨gb153, 2, none⟩ = some (.slice A1_2 l1_2.length c1_2) ∧ w'.cell? ⟨gb152, 0, none⟩ = some (.slice (some ad156) l0_0.length c0_0) ∧ w'.cell? (ad156.add ((x8_1).toNat * 3)) = some (.int .i64 ((rd_T59 l0_0 x8_1).f0.f0)) ∧ w'.cell? ⟨(ad156.add ((x8_1).toNat * 3)).block, (ad156.add ((x8_1).toNat * 3)).off + 1, none⟩ = some (.int .i64 ((rd_T59 l0_0 x8_1).f0.f1)) ∧ w'.cell? ⟨(ad156.add ((x8_1).toNat * 3)).block, (ad156.add ((x8_1).toNat * 3)).off + 2, none⟩ = some (.slice A156_2 ((rd_T59 l0_0 x8_1).f1).length c156_2)) (ds := []) (mb 0 13) (by kernel_rfl) rfl rfl (mb3 BK153.out ⟨mZ BK152.out 0, ⟨(mX HB.out hw156_0 :), ⟨(mX HB.out hw156_1 :), (mX HB.out hw156_2 :)⟩⟩⟩) (fun hHeld => ?_); refine with_tabW spec_GraphPut.tab6 spec_GraphPut.bits6 (fun HT_ HW_ => ?_)
       generalize wr.drew = w21 at HO_156000 BK152 BK153 BK154 BK155 HB HR156_2 hx156_0 hx156_1 hx156_2 hHeld ⊢
       refine mpu 0 17 HT_.out (mb 1 12) ?_
       refine mpu 1 18 HT_.out (mb 2 11) ?_
       refine mpu 2 19 HT_.out (mb 3 10) ?_
       refine mpu 3 20 HT_.out (mb 4 9) ?_
       refine mpu 5 22 HT_.out (mr [4,1,1,7]) ?_
       refine mpu 7 24 HT_.out (mr [4,1,1,1,1,5]) ?_
       refine mpt 4 21 HT_.out HW_.out (mr [6,1,1,5]) hHeld ?_
       refine mpt 6 23 HT_.out HW_.out (mb 8 5) hHeld ?_
       refine mpu 8 25 HT_.out (mb 9 4) ?_
       refine mpu 9 26 HT_.out (mb 10 3) ?_
       refine mpt 10 27 HT_.out HW_.out (mb 11 2) hHeld ?_
       refine mone 11 (some 28) HT_.out (mb 12 1) (fun K hK => ?_)
       refine goes_ Try.func52 (by kernel_rfl) rfl #[.agg #[.int .i64 a1_0, .int .i64 a1_1], .agg #[.int .i64 ((rd_T59 l0_0 x8_1).f0.f0), .int .i64 ((rd_T59 l0_0 x8_1).f0.f1)]] (by rfl) rfl rfl mA ?_
       with_reducible refine (spec_DotLess.calls a1_0 a1_1 ((rd_T59 l0_0 x8_1).f0.f0) ((rd_T59 l0_0 x8_1).f0.f1) t157 _ A20.out).mono ?_
       rintro e w22 ⟨rfl, hb⟩
       refine ⟨_, rfl, ?_⟩
       replace HO_156000 := mS (Kd.S_below (mSd HO_156000.out) hb)
       replace BK152 := mB BK152 hb
       replace BK153 := mB BK153 hb
       replace BK154 := mB BK154 hb
       replace BK155 := mB BK155 hb
       replace HB := mS (below_step (mH4 HB.out GE152.out GE153.out GE154.out GE155.out) hb)
       (try clear hb)
       (try clear hb2)
       (try clear hk)
       (try clear hi)
       refine hK.out _ _ (mb3 BK153.out ⟨mZ BK152.out 0, ⟨(mX HB.out hw156_0 :), ⟨(mX HB.out hw156_1 :), (mX HB.out hw156_2 :)⟩⟩⟩) (fun hHeld => ?_)
       clear hK K
       refine mno 28 ?_
       refine mpu 12 29 HT_.out (mb 13 0) ?_
       refine done_ (done_of HT_.out (by kernel_rfl)) ?_
       try go_wp2
       go_meet
       case rel => exact ⟨_, (t157), mE, H', ⟨by have := HK1.out; first | omega | exact Nat.le_refl _⟩, ⟨mSd HO_156000.out⟩, ⟨mK BK152.out⟩, ⟨mK BK153.out⟩, ⟨mK BK154.out⟩, ⟨mK BK155.out⟩, ⟨(mH4 HB.out GE152.out GE153.out GE154.out GE155.out)⟩⟩
      ·rw [if_neg c19] at H
       exact absurd H (by simp)
    case rest =>
     clear HC12
     try clear c1
     try clear p1
     try clear q1
     try clear hx1
     try clear c2
     try clear p2
     try clear c5
     try clear c7
     try clear c8
     try clear c9
     try clear c11
     try clear c11b0
     try clear c13
     try clear c14
     try clear c15
     try clear p15
     try clear q15
     try clear hx15
     try clear c17
     try clear c19
     try clear c19b0
     try clear hcz10_0
     try clear hcz16_0
     try clear hfz10_0
     try clear hfz16_0
     try clear hx156_0
     try clear hx156_1
     try clear hx156_2
     try clear p156
     try clear p2
     try clear q156
     obtain ⟨kq, x29_11, rfl, HA, HJ11, HO_156000, BK152, BK153, BK154, BK155, HB⟩ := hcut
     cases kq with
     | zero => exact absurd HA.out (by simp [spec_GraphPut.j1])
     | succ kj11 =>
      have H := HA.out
      clear HA
      simp only [spec_GraphPut.j1] at H
      by_cases c23 : x29_11 = true
      ·subst c23
       have H1 := H
       rw [if_pos rfl] at H1
       clear H
       have H := H1
       clear H1
       replace H := Option.bind_eq_some_iff.mp H
       obtain ⟨⟨t158, t159, t160⟩, A240, H⟩ := H
       replace H : (if x156000_1.length < 3518437208883 then ((some (x156000_1 ++ [(⟨(⟨t158, t159⟩ : S56), t160⟩ : S59)] : List (S59))).bind fun y163 => (if 0 ≤ x8_1 then (if x8_1 < (l0_0.length : Int) then ((spec_l8CopyItem.f ((rd_T59 l0_0 x8_1).f0.f0) ((rd_T59 l0_0 x8_1).f0.f1) ((rd_T59 l0_0 x8_1).f1)).bind fun bt167 => (if y163.length < 3518437208883 then (spec_GraphPut.l0 kj11 true (wrap64 (x8_1 + 1)) l0_0 a1_0 a1_1 l1_2 (y163 ++ [(⟨(⟨bt167.1, bt167.2.1⟩ : S56), bt167.2.2⟩ : S59)])) else (none))) else (none)) else (none))) else (none)) = some (r1, r2) := H
       have A24 := mS A240
       clear A240
       by_cases c25 : x156000_1.length < 3518437208883
       ·rw [if_pos c25] at H
        have LMc25 := mS c25
        clear c25
        obtain ⟨y163, hy163⟩ : ∃ y_ : List (S59), y_ = (x156000_1 ++ [(⟨(⟨t158, t159⟩ : S56), t160⟩ : S59)]) := ⟨_, rfl⟩
        replace H : (if 0 ≤ x8_1 then (if x8_1 < (l0_0.length : Int) then ((spec_l8CopyItem.f ((rd_T59 l0_0 x8_1).f0.f0) ((rd_T59 l0_0 x8_1).f0.f1) ((rd_T59 l0_0 x8_1).f1)).bind fun bt167 => (if y163.length < 3518437208883 then (spec_GraphPut.l0 kj11 true (wrap64 (x8_1 + 1)) l0_0 a1_0 a1_1 l1_2 (y163 ++ [(⟨(⟨bt167.1, bt167.2.1⟩ : S56), bt167.2.2⟩ : S59)])) else (none))) else (none)) else (none)) = some (r1, r2) := by first | (rw [hy163]; with_reducible exact H) | (have H2_ := (Option.bind_some _ _).symm.trans H; rw [hy163]; with_reducible exact H2_) | (have H2_ := (Option.bind_some _ _).symm.trans H; with_reducible exact H2_) | with_reducible exact H | (rw [hy163]; exact H) | exact H
        have Ny163 := mS hy163
        clear hy163
        by_cases c26 : 0 ≤ x8_1
        ·rw [if_pos c26] at H
         have c26b0 := decide_eq_true c26
         clear c26
         by_cases c27 : x8_1 < (l0_0.length : Int)
         ·rw [if_pos c27] at H
          have c27b0 := decide_eq_true c27
          clear c27
          replace H := Option.bind_eq_some_iff.mp H
          obtain ⟨⟨t167, t168, t169⟩, A280, H⟩ := H
          replace H : (if y163.length < 3518437208883 then (spec_GraphPut.l0 kj11 true (wrap64 (x8_1 + 1)) l0_0 a1_0 a1_1 l1_2 (y163 ++ [(⟨(⟨t167, t168⟩ : S56), t169⟩ : S59)])) else (none)) = some (r1, r2) := H
          have A28 := mS A280
          clear A280
          by_cases c29 : y163.length < 3518437208883
          ·rw [if_pos c29] at H
           have LMc29 := mS c29
           clear c29
           obtain ⟨y172, hy172⟩ : ∃ y_ : List (S59), y_ = (y163 ++ [(⟨(⟨t167, t168⟩ : S56), t169⟩ : S59)]) := ⟨_, rfl⟩
           replace H : (spec_GraphPut.l0 kj11 true (wrap64 (x8_1 + 1)) l0_0 a1_0 a1_1 l1_2 y172) = some (r1, r2) := by first | (rw [hy172]; with_reducible exact H) | (have H2_ := (Option.bind_some _ _).symm.trans H; rw [hy172]; with_reducible exact H2_) | (have H2_ := (Option.bind_some _ _).symm.trans H; with_reducible exact H2_) | with_reducible exact H | (rw [hy172]; exact H) | exact H
           have Ny172 := mS hy172
           clear hy172
           have H' := mS H
           clear H
           try go_wp2
           replace HO_156000 := mS (Kd.S_drew HO_156000.out)
           replace BK152 := mS (blk_drew BK152.out)
           replace BK153 := mS (blk_drew BK153.out)
           replace BK154 := mS (blk_drew BK154.out)
           replace BK155 := mS (blk_drew BK155.out)
           replace HB := mS (below_drew1 HB.out)
           refine start_ (n := 8) (S := fun w' => w'.cell? ⟨gb155, 0, none⟩ = some (u156000) ∧ w'.cell? ⟨gb153, 0, none⟩ = some (.int .i64 a1_0) ∧ w'.cell? ⟨gb153, 1, none⟩ = some (.int .i64 a1_1) ∧ w'.cell? ⟨gb153, 2, none⟩ = some (.slice A1_2 l1_2.length c1_2)) (ds := [7]) (mb 0 8) (by kernel_rfl) rfl rfl ⟨mZ BK155.out 0, mc3 BK153.out⟩ (fun hHeld => ?_); refine with_tabW spec_GraphPut.tab7 spec_GraphPut.bits7 (fun HT_ HW_ => ?_)
           generalize wc.drew = w30 at HO_156000 BK152 BK153 BK154 BK155 HB hHeld ⊢
           refine mpu 0 30 HT_.out (mb 1 7) ?_
           refine mpt 1 31 HT_.out HW_.out (mb 2 6) hHeld ?_
           refine mpt 2 32 HT_.out HW_.out (mb 3 5) hHeld ?_
           refine mone 3 (some 33) HT_.out (mb 4 4) (fun K hK => ?_)
           refine goes_ Try.func53 (by kernel_rfl) rfl #[.agg #[.int .i64 a1_0, .int .i64 a1_1, .slice A1_2 l1_2.length c1_2]] (by rfl) rfl rfl mA ?_
           with_reducible refine (spec_l8CopyItem.calls a1_0 a1_1 _ _ l1_2 t158 t159 t160 _ ?side1 ?side2 A24.out).mono ?_
           (case side1 => exact mC (Kd.C_below HR1_2.out HB.out))
           (case side2 => exact HC1_2.out)
           rintro e w31 ⟨v161, rfl, ho0, hb⟩
           refine ⟨_, rfl, ?_⟩
           replace HO_156000 := mS (Kd.S_elder' (mSd HO_156000.out) (Kd.R_base ho0) hb)
           have HO162 := mS (Kd.R_lower ho0 (below_size (mH4 HB.out GE152.out GE153.out GE154.out GE155.out)))
           replace BK152 := mB BK152 hb
           replace BK153 := mB BK153 hb
           replace BK154 := mB BK154 hb
           replace BK155 := mB BK155 hb
           replace HB := mS (below_step (mH4 HB.out GE152.out GE153.out GE154.out GE155.out) hb)
           (try clear hb)
           (try clear hb2)
           (try clear hk)
           (try clear hi)
           (try clear ho0)
           obtain ⟨Ao33, co33, eo33⟩ := Kd.R_slice HO162.out
           (first | subst eo33 | (injection eo33 with f1_ f2_ f3_; have f4_ := f1_.symm; have f5_ := f3_.symm; clear f1_ f2_ f3_; subst f4_; subst f5_))
           refine hK.out _ _ ⟨mZ BK155.out 0, mc3 BK153.out⟩ (fun hHeld => ?_)
           clear hK K
           refine mno 33 ?_
           refine mone 4 (some 34) HT_.out (mb 5 3) (fun K hK => ?_)
           refine value_ (w1 := ?_) (v := ?_) (by rfl) rfl ?_ ?_
           rotate_left 2
           ·go_simp
            constructor
            ·rfl
            ·rfl
           refine hK.out _ _ ⟨(blk_cell (blk_alloc BK155.out _) 0).trans rfl, (blk_cell (blk_alloc BK153.out _) 0).trans rfl, (blk_cell (blk_alloc BK153.out _) 1).trans rfl, (blk_cell (blk_alloc BK153.out _) 2).trans rfl⟩ (fun hHeld => ?_)
           clear hK K
           refine mno 34 ?_
           refine mone 5 (some 35) HT_.out (mb 6 2) (fun K hK => ?_)
           refine Kd.S_append_step k59 (w0 := w) w.heap.size (by rfl) (.tmp 31) (.tmp 34) 50 59 (.agg #[(.int .i64 0), (.int .i64 0), (.slice none 0 0)]) 40 rfl Try.underlying50 info59 rfl (by decide) (by omega) u156000 x156000_1 (⟨(⟨t158, t159⟩ : S56), t160⟩ : S59) [.int .i64 t158, .int .i64 t159, .slice Ao33 t160.length co33] (fun k_ => k_ ≠ gb153) (fun k_ => some k_ = (.slice Ao33 t160.length co33 : Value).ownBlock) rfl rfl ?aP (fun k_ hk_ => ((Kd.R_mono (ok' := fun k_ => ((fun k_ => k_ ≠ gb153)) k_ ∧ some k_ ≠ (u156000 : Value).ownBlock) (Kd.R_types (Kd.R_apart' (HO162.out) (Kd.S_typed HO_156000.out) (by decide)) BK153.out (by decide)) (fun k_ hk => ⟨hk.2, hk.1.2⟩))).1 k_ hk_.symm) ?aF ?aO ?aB ?aS ?aL ?_
           (case aP => exact k59_mkM _ _ _ (⟨(⟨t158, t159⟩ : S56), t160⟩ : S59) (Kd.R_mono (Kd.R_tight rfl (Kd.R_mono (ok' := fun k_ => ((fun k_ => k_ ≠ gb153)) k_ ∧ some k_ ≠ (u156000 : Value).ownBlock) (Kd.R_types (Kd.R_apart' (HO162.out) (Kd.S_typed HO_156000.out) (by decide)) BK153.out (by decide)) (fun k_ hk => ⟨hk.2, hk.1.2⟩))) (fun _ h_ => h_)))
           (case aB => exact (mH4 HB.out GE152.out GE153.out GE154.out GE155.out))
           (case aF => exact (fun k_ hk => Kd.freshB (g := gb153) (o := .cells #[.int .i64 a1_0, .int .i64 a1_1, .slice A1_2 l1_2.length c1_2] 59 (0, 0)) (mK BK153.out) k_ hk))
           (case aO => exact (by refine mSd ?_; exact Kd.S_mono HO_156000.out (fun k_ hk => ⟨hk.1, fun e_ => hk.2 e_⟩)))
           (case aS => exact (below_size (mH4 HB.out GE152.out GE153.out GE154.out GE155.out)))
           (case aL => have := LMc25.out; omega)
           intro v164 w32 ho hb hg hat
           rw [← Ny163.out] at ho
           replace BK152 := mS (blk_grown (g := gb152) (o := .cells #[.slice A0_0 l0_0.length c0_0] 52 (0, 0)) (mK BK152.out) hg (Kd.S_ne HO_156000.out BK152.out (by decide)))
           replace BK153 := mS (blk_grown (g := gb153) (o := .cells #[.int .i64 a1_0, .int .i64 a1_1, .slice A1_2 l1_2.length c1_2] 59 (0, 0)) (mK BK153.out) hg (Kd.S_away HO_156000.out (fun _ hk => hk.1)))
           replace BK154 := mS (blk_grown (g := gb154) (o := .cells #[.slice none 0 0] 52 (0, 0)) (mK BK154.out) hg (Kd.S_ne HO_156000.out BK154.out (by decide)))
           replace BK155 := mS (blk_grown (g := gb155) (o := .cells #[u156000] 52 (0, 0)) (mK BK155.out) hg (Kd.S_ne HO_156000.out BK155.out (by decide)))
           replace HB := mS (hb)
           have HO165 := mS (ho)
           clear HO_156000
           clear HO162
           clear ho hb hg hat
           obtain ⟨Ao34, co34, eo34⟩ := Kd.S_slice HO165.out
           (first | subst eo34 | (injection eo34 with f1_ f2_ f3_; have f4_ := f1_.symm; have f5_ := f3_.symm; clear f1_ f2_ f3_; subst f4_; subst f5_))
           refine hK.out _ _ ⟨mZ BK155.out 0, mc3 BK153.out⟩ (fun hHeld => ?_)
           clear hK K
           refine mno 35 ?_
           refine mpu 6 36 HT_.out (mb 7 1) ?_
           refine last_ (i := 7) (N := none) (mb 8 0) rfl rfl (one_of HT_.out (by kernel_rfl)) (by decide) (fun K hK => ?_)
           have hs35 : w32.cell? ⟨gb155, 0, none⟩ = some (u156000) := mZ BK155.out 0
           have hfs35 := blk_frozen BK155.out 0
           have hns35_0 := NB152_155.out
           have hns35_1 := NB153_155.out
           have hns35_2 := NB154_155.out
           have hms35_0 := NB155_152.out
           have hms35_1 := NB155_153.out
           have hms35_2 := NB155_154.out
           refine skip_ (w1 := ?_) (by rfl) rfl ?_ ?_
           rotate_left
           ·go_simp
            rfl
           refine hK.out _ _ ?_
           clear hK K
           refine done_ (done_of HT_.out (by kernel_rfl)) ?_
           try go_wp2
           generalize hW_ : (w32.setCell ⟨gb155, 0, none⟩ (.slice Ao34 y163.length co34)) = w36
           replace HO165 : Aside0 (Kd.S k59 59 w36 w.heap.size (fun k_ => k_ ≠ gb153) (.slice Ao34 y163.length co34) y163) := by rw [← hW_]; exact ⟨by refine mSd ?_; exact Kd.S_mono (Kd.S_far (p := ⟨gb155, 0, none⟩) (Kd.S_types HO165.out BK155.out (by decide)) (fun _ hk => hk.2) (.slice Ao34 y163.length co34)) (fun _ hk => hk.1)⟩
           replace BK152 : Aside0 (w36.heap[gb152]? = some (.cells #[.slice A0_0 l0_0.length c0_0] 52 (0, 0))) := by rw [← hW_]; exact ⟨mKf NB152_155.out BK152.out⟩
           replace BK153 : Aside0 (w36.heap[gb153]? = some (.cells #[.int .i64 a1_0, .int .i64 a1_1, .slice A1_2 l1_2.length c1_2] 59 (0, 0))) := by rw [← hW_]; exact ⟨mKf NB153_155.out BK153.out⟩
           replace BK154 : Aside0 (w36.heap[gb154]? = some (.cells #[.slice none 0 0] 52 (0, 0))) := by rw [← hW_]; exact ⟨mKf NB154_155.out BK154.out⟩
           replace BK155 : Aside0 (w36.heap[gb155]? = some (.cells #[.slice Ao34 y163.length co34] 52 (0, 0))) := by rw [← hW_]; exact ⟨by refine mK ?_; refine blk_put (cs := #[u156000]) ?_ 0 _ rfl; refine mK ?_; exact BK155.out⟩
           replace HB : Aside0 (Below w.heap.size w w36) := by rw [← hW_]; exact ⟨(mH4 HB.out GE152.out GE153.out GE154.out GE155.out)⟩
           clear hW_
           replace HO165 := mS (Kd.S_drew HO165.out)
           replace BK152 := mS (blk_drew BK152.out)
           replace BK153 := mS (blk_drew BK153.out)
           replace BK154 := mS (blk_drew BK154.out)
           replace BK155 := mS (blk_drew BK155.out)
           replace HB := mS (below_drew1 HB.out)
           have p166 : 0 ≤ (x8_1 : Int) := mD
           have q166 : x8_1 < (l0_0.length : Int) := mD
           obtain ⟨ad166, A166_2, c166_2, e166, hx166_0, hx166_1, hx166_2, hl166_2, hi166_2⟩ := at_T59 HR0_0.out x8_1 p166 q166
           have hw166_2 := hx166_2
           have hw166_1 := hx166_1
           have hw166_0 := hx166_0
           cases e166
           replace hx166_0 := mX HB.out hx166_0
           replace hx166_1 := mX HB.out hx166_1
           replace hx166_2 := mX HB.out hx166_2
           have HR166_2 := mS hi166_2
           have HC166_2 := mS hl166_2
           clear hi166_2 hl166_2
           replace p166 := eq_true p166
           replace q166 := eq_true q166
           refine start_ (n := 12) (S := fun w' => w'.cell? ⟨gb155, 0, none⟩ = some (.slice Ao34 y163.length co34) ∧ w'.cell? ⟨gb152, 0, none⟩ = some (.slice (some ad166) l0_0.length c0_0) ∧ w'.cell? (ad166.add ((x8_1).toNat * 3)) = some (.int .i64 ((rd_T59 l0_0 x8_1).f0.f0)) ∧ w'.cell? ⟨(ad166.add ((x8_1).toNat * 3)).block, (ad166.add ((x8_1).toNat * 3)).off + 1, none⟩ = some (.int .i64 ((rd_T59 l0_0 x8_1).f0.f1)) ∧ w'.cell? ⟨(ad166.add ((x8_1).toNat * 3)).block, (ad166.add ((x8_1).toNat * 3)).off + 2, none⟩ = some (.slice A166_2 ((rd_T59 l0_0 x8_1).f1).length c166_2)) (ds := [11]) (mb 0 12) (by kernel_rfl) rfl rfl ⟨mZ BK155.out 0, mZ BK152.out 0, (mX HB.out hw166_0 :), (mX HB.out hw166_1 :), (mX HB.out hw166_2 :)⟩ (fun hHeld => ?_); refine with_tabW spec_GraphPut.tab9 spec_GraphPut.bits9 (fun HT_ HW_ => ?_)
           generalize w36.drew = w37 at HO165 BK152 BK153 BK154 BK155 HB HR166_2 hx166_0 hx166_1 hx166_2 hHeld ⊢
           refine mpu 0 37 HT_.out (mb 1 11) ?_
           refine mpu 2 39 HT_.out (mr [1,1,1,9]) ?_
           refine mpu 4 41 HT_.out (mr [1,1,1,1,1,7]) ?_
           refine mpt 1 38 HT_.out HW_.out (mr [3,1,1,7]) hHeld ?_
           refine mpt 3 40 HT_.out HW_.out (mb 5 7) hHeld ?_
           refine mpu 5 42 HT_.out (mb 6 6) ?_
           refine mpt 6 43 HT_.out HW_.out (mb 7 5) hHeld ?_
           refine mone 7 (some 44) HT_.out (mb 8 4) (fun K hK => ?_)
           refine goes_ Try.func53 (by kernel_rfl) rfl #[.agg #[.int .i64 ((rd_T59 l0_0 x8_1).f0.f0), .int .i64 ((rd_T59 l0_0 x8_1).f0.f1), .slice A166_2 ((rd_T59 l0_0 x8_1).f1).length c166_2]] (by rfl) rfl rfl mA ?_
           with_reducible refine (spec_l8CopyItem.calls ((rd_T59 l0_0 x8_1).f0.f0) ((rd_T59 l0_0 x8_1).f0.f1) _ _ ((rd_T59 l0_0 x8_1).f1) t167 t168 t169 _ ?side1 ?side2 A28.out).mono ?_
           (case side1 => exact mC (Kd.C_below HR166_2.out HB.out))
           (case side2 => exact HC166_2.out)
           rintro e w38 ⟨v170, rfl, ho0, hb⟩
           refine ⟨_, rfl, ?_⟩
           replace HO165 := mS (Kd.S_elder' (mSd HO165.out) (Kd.R_base ho0) hb)
           have HO171 := mS (Kd.R_lower ho0 (below_size (mH4 HB.out GE152.out GE153.out GE154.out GE155.out)))
           replace BK152 := mB BK152 hb
           replace BK153 := mB BK153 hb
           replace BK154 := mB BK154 hb
           replace BK155 := mB BK155 hb
           replace HB := mS (below_step (mH4 HB.out GE152.out GE153.out GE154.out GE155.out) hb)
           (try clear hb)
           (try clear hb2)
           (try clear hk)
           (try clear hi)
           (try clear ho0)
           obtain ⟨Ao40, co40, eo40⟩ := Kd.R_slice HO171.out
           (first | subst eo40 | (injection eo40 with f1_ f2_ f3_; have f4_ := f1_.symm; have f5_ := f3_.symm; clear f1_ f2_ f3_; subst f4_; subst f5_))
           refine hK.out _ _ ⟨mZ BK155.out 0, mZ BK152.out 0, (mX HB.out hw166_0 :), (mX HB.out hw166_1 :), (mX HB.out hw166_2 :)⟩ (fun hHeld => ?_)
           clear hK K
           refine mno 44 ?_
           refine mone 8 (some 45) HT_.out (mb 9 3) (fun K hK => ?_)
           refine value_ (w1 := ?_) (v := ?_) (by rfl) rfl ?_ ?_
           rotate_left 2
           ·go_simp
            constructor
            ·rfl
            ·rfl
           refine hK.out _ _ ⟨(blk_cell (blk_alloc BK155.out _) 0).trans rfl, (blk_cell (blk_alloc BK152.out _) 0).trans rfl, (World.cell?_alloc_lt _ _ _ (World.block_lt_of_cell? _ _ ((mX HB.out hw166_0 :)))).trans ((mX HB.out hw166_0 :)), (World.cell?_alloc_lt _ _ _ (World.block_lt_of_cell? _ _ ((mX HB.out hw166_1 :)))).trans ((mX HB.out hw166_1 :)), (World.cell?_alloc_lt _ _ _ (World.block_lt_of_cell? _ _ ((mX HB.out hw166_2 :)))).trans ((mX HB.out hw166_2 :))⟩ (fun hHeld => ?_)
           clear hK K
           refine mno 45 ?_
           refine mone 9 (some 46) HT_.out (mb 10 2) (fun K hK => ?_)
           refine Kd.S_append_step k59 (w0 := w) w.heap.size (by rfl) (.tmp 38) (.tmp 45) 50 59 (.agg #[(.int .i64 0), (.int .i64 0), (.slice none 0 0)]) 40 rfl Try.underlying50 info59 rfl (by decide) (by omega) (.slice Ao34 y163.length co34) y163 (⟨(⟨t167, t168⟩ : S56), t169⟩ : S59) [.int .i64 t167, .int .i64 t168, .slice Ao40 t169.length co40] (fun k_ => k_ ≠ gb153) (fun k_ => some k_ = (.slice Ao40 t169.length co40 : Value).ownBlock) rfl rfl ?aP (fun k_ hk_ => ((Kd.R_mono (ok' := fun k_ => ((fun k_ => k_ ≠ gb153)) k_ ∧ some k_ ≠ (.slice Ao34 y163.length co34 : Value).ownBlock) (Kd.R_types (Kd.R_apart' (HO171.out) (Kd.S_typed HO165.out) (by decide)) BK153.out (by decide)) (fun k_ hk => ⟨hk.2, hk.1.2⟩))).1 k_ hk_.symm) ?aF ?aO ?aB ?aS ?aL ?_
           (case aP => exact k59_mkM _ _ _ (⟨(⟨t167, t168⟩ : S56), t169⟩ : S59) (Kd.R_mono (Kd.R_tight rfl (Kd.R_mono (ok' := fun k_ => ((fun k_ => k_ ≠ gb153)) k_ ∧ some k_ ≠ (.slice Ao34 y163.length co34 : Value).ownBlock) (Kd.R_types (Kd.R_apart' (HO171.out) (Kd.S_typed HO165.out) (by decide)) BK153.out (by decide)) (fun k_ hk => ⟨hk.2, hk.1.2⟩))) (fun _ h_ => h_)))
           (case aB => exact (mH4 HB.out GE152.out GE153.out GE154.out GE155.out))
           (case aF => exact (fun k_ hk => Kd.freshB (g := gb153) (o := .cells #[.int .i64 a1_0, .int .i64 a1_1, .slice A1_2 l1_2.length c1_2] 59 (0, 0)) (mK BK153.out) k_ hk))
           (case aO => exact (by refine mSd ?_; exact Kd.S_mono HO165.out (fun k_ hk => ⟨hk.1, fun e_ => hk.2 e_⟩)))
           (case aS => exact (below_size (mH4 HB.out GE152.out GE153.out GE154.out GE155.out)))
           (case aL => have := LMc29.out; omega)
           intro v173 w39 ho hb hg hat
           rw [← Ny172.out] at ho
           replace BK152 := mS (blk_grown (g := gb152) (o := .cells #[.slice (some ad166) l0_0.length c0_0] 52 (0, 0)) (mK BK152.out) hg (Kd.S_ne HO165.out BK152.out (by decide)))
           replace BK153 := mS (blk_grown (g := gb153) (o := .cells #[.int .i64 a1_0, .int .i64 a1_1, .slice A1_2 l1_2.length c1_2] 59 (0, 0)) (mK BK153.out) hg (Kd.S_away HO165.out (fun _ hk => hk.1)))
           replace BK154 := mS (blk_grown (g := gb154) (o := .cells #[.slice none 0 0] 52 (0, 0)) (mK BK154.out) hg (Kd.S_ne HO165.out BK154.out (by decide)))
           replace BK155 := mS (blk_grown (g := gb155) (o := .cells #[.slice Ao34 y163.length co34] 52 (0, 0)) (mK BK155.out) hg (Kd.S_ne HO165.out BK155.out (by decide)))
           replace HB := mS (hb)
           have HO174 := mS (ho)
           clear HO165
           clear HO171
           clear ho hb hg hat
           obtain ⟨Ao41, co41, eo41⟩ := Kd.S_slice HO174.out
           (first | subst eo41 | (injection eo41 with f1_ f2_ f3_; have f4_ := f1_.symm; have f5_ := f3_.symm; clear f1_ f2_ f3_; subst f4_; subst f5_))
           refine hK.out _ _ ⟨mZ BK155.out 0, mZ BK152.out 0, (mX HB.out hw166_0 :), (mX HB.out hw166_1 :), (mX HB.out hw166_2 :)⟩ (fun hHeld => ?_)
           clear hK K
           refine mno 46 ?_
           refine mpu 10 47 HT_.out (mb 11 1) ?_
           refine last_ (i := 11) (N := none) (mb 12 0) rfl rfl (one_of HT_.out (by kernel_rfl)) (by decide) (fun K hK => ?_)
           have hs42 : w39.cell? ⟨gb155, 0, none⟩ = some (.slice Ao34 y163.length co34) := mZ BK155.out 0
           have hfs42 := blk_frozen BK155.out 0
           have hns42_0 := NB152_155.out
           have hns42_1 := NB153_155.out
           have hns42_2 := NB154_155.out
           have hms42_0 := NB155_152.out
           have hms42_1 := NB155_153.out
           have hms42_2 := NB155_154.out
           refine skip_ (w1 := ?_) (by rfl) rfl ?_ ?_
           rotate_left
           ·go_simp
            rfl
           refine hK.out _ _ ?_
           clear hK K
           refine done_ (done_of HT_.out (by kernel_rfl)) ?_
           try go_wp2
           go_roundg kj11
           case measure => have := HK1.out; have := HJ11.out; omega
           case rel => exact ⟨(true), (wrap64 (x8_1 + 1)), (y172), (.slice Ao41 y172.length co41), mE, mE, H', ⟨by have := HK1.out; have := HJ11.out; omega⟩, ⟨by refine mSd ?_; exact Kd.S_mono (Kd.S_far (p := ⟨gb155, 0, none⟩) (Kd.S_types HO174.out BK155.out (by decide)) (fun _ hk => hk.2) (.slice Ao41 y172.length co41)) (fun _ hk => hk.1)⟩, ⟨mKf NB152_155.out BK152.out⟩, ⟨mKf NB153_155.out BK153.out⟩, ⟨mKf NB154_155.out BK154.out⟩, ⟨by refine mK ?_; refine blk_put (cs := #[.slice Ao34 y163.length co34]) ?_ 0 _ rfl; refine mK ?_; exact BK155.out⟩, ⟨(mH4 HB.out GE152.out GE153.out GE154.out GE155.out)⟩⟩
          ·rw [if_neg c29] at H
           exact absurd H (by simp)
         ·rw [if_neg c27] at H
          exact absurd H (by simp)
        ·rw [if_neg c26] at H
         exact absurd H (by simp)
       ·rw [if_neg c25] at H
        exact absurd H (by simp)
      ·replace c23 := Bool.eq_false_iff.mpr c23
       subst c23
       have H1 := H
       rw [if_neg (show ¬ (false = true) by decide)] at H1
       clear H
       have H := H1
       clear H1
       by_cases c43 : 0 ≤ x8_1
       ·rw [if_pos c43] at H
        have c43b0 := decide_eq_true c43
        clear c43
        by_cases c44 : x8_1 < (l0_0.length : Int)
        ·rw [if_pos c44] at H
         have c44b0 := decide_eq_true c44
         clear c44
         replace H := Option.bind_eq_some_iff.mp H
         obtain ⟨⟨t176, t177, t178⟩, A450, H⟩ := H
         replace H : (if x156000_1.length < 3518437208883 then (spec_GraphPut.l0 kj11 x7_1 (wrap64 (x8_1 + 1)) l0_0 a1_0 a1_1 l1_2 (x156000_1 ++ [(⟨(⟨t176, t177⟩ : S56), t178⟩ : S59)])) else (none)) = some (r1, r2) := H
         have A45 := mS A450
         clear A450
         by_cases c46 : x156000_1.length < 3518437208883
         ·rw [if_pos c46] at H
          have LMc46 := mS c46
          clear c46
          obtain ⟨y181, hy181⟩ : ∃ y_ : List (S59), y_ = (x156000_1 ++ [(⟨(⟨t176, t177⟩ : S56), t178⟩ : S59)]) := ⟨_, rfl⟩
          replace H : (spec_GraphPut.l0 kj11 x7_1 (wrap64 (x8_1 + 1)) l0_0 a1_0 a1_1 l1_2 y181) = some (r1, r2) := by first | (rw [hy181]; with_reducible exact H) | (have H2_ := (Option.bind_some _ _).symm.trans H; rw [hy181]; with_reducible exact H2_) | (have H2_ := (Option.bind_some _ _).symm.trans H; with_reducible exact H2_) | with_reducible exact H | (rw [hy181]; exact H) | exact H
          have Ny181 := mS hy181
          clear hy181
          have H' := mS H
          clear H
          try go_wp2
          replace HO_156000 := mS (Kd.S_drew HO_156000.out)
          replace BK152 := mS (blk_drew BK152.out)
          replace BK153 := mS (blk_drew BK153.out)
          replace BK154 := mS (blk_drew BK154.out)
          replace BK155 := mS (blk_drew BK155.out)
          replace HB := mS (below_drew1 HB.out)
          have p175 : 0 ≤ (x8_1 : Int) := mD
          have q175 : x8_1 < (l0_0.length : Int) := mD
          obtain ⟨ad175, A175_2, c175_2, e175, hx175_0, hx175_1, hx175_2, hl175_2, hi175_2⟩ := at_T59 HR0_0.out x8_1 p175 q175
          have hw175_2 := hx175_2
          have hw175_1 := hx175_1
          have hw175_0 := hx175_0
          cases e175
          replace hx175_0 := mX HB.out hx175_0
          replace hx175_1 := mX HB.out hx175_1
          replace hx175_2 := mX HB.out hx175_2
          have HR175_2 := mS hi175_2
          have HC175_2 := mS hl175_2
          clear hi175_2 hl175_2
          replace p175 := eq_true p175
          replace q175 := eq_true q175
          refine start_ (n := 12) (S := fun w' => w'.cell? ⟨gb155, 0, none⟩ = some (u156000) ∧ w'.cell? ⟨gb152, 0, none⟩ = some (.slice (some ad175) l0_0.length c0_0) ∧ w'.cell? (ad175.add ((x8_1).toNat * 3)) = some (.int .i64 ((rd_T59 l0_0 x8_1).f0.f0)) ∧ w'.cell? ⟨(ad175.add ((x8_1).toNat * 3)).block, (ad175.add ((x8_1).toNat * 3)).off + 1, none⟩ = some (.int .i64 ((rd_T59 l0_0 x8_1).f0.f1)) ∧ w'.cell? ⟨(ad175.add ((x8_1).toNat * 3)).block, (ad175.add ((x8_1).toNat * 3)).off + 2, none⟩ = some (.slice A175_2 ((rd_T59 l0_0 x8_1).f1).length c175_2)) (ds := [11]) (mb 0 12) (by kernel_rfl) rfl rfl ⟨mZ BK155.out 0, mZ BK152.out 0, (mX HB.out hw175_0 :), (mX HB.out hw175_1 :), (mX HB.out hw175_2 :)⟩ (fun hHeld => ?_); refine with_tabW spec_GraphPut.tab9 spec_GraphPut.bits9 (fun HT_ HW_ => ?_)
          generalize wc.drew = w47 at HO_156000 BK152 BK153 BK154 BK155 HB HR175_2 hx175_0 hx175_1 hx175_2 hHeld ⊢
          refine mpu 0 37 HT_.out (mb 1 11) ?_
          refine mpu 2 39 HT_.out (mr [1,1,1,9]) ?_
          refine mpu 4 41 HT_.out (mr [1,1,1,1,1,7]) ?_
          refine mpt 1 38 HT_.out HW_.out (mr [3,1,1,7]) hHeld ?_
          refine mpt 3 40 HT_.out HW_.out (mb 5 7) hHeld ?_
          refine mpu 5 42 HT_.out (mb 6 6) ?_
          refine mpt 6 43 HT_.out HW_.out (mb 7 5) hHeld ?_
          refine mone 7 (some 44) HT_.out (mb 8 4) (fun K hK => ?_)
          refine goes_ Try.func53 (by kernel_rfl) rfl #[.agg #[.int .i64 ((rd_T59 l0_0 x8_1).f0.f0), .int .i64 ((rd_T59 l0_0 x8_1).f0.f1), .slice A175_2 ((rd_T59 l0_0 x8_1).f1).length c175_2]] (by rfl) rfl rfl mA ?_
          with_reducible refine (spec_l8CopyItem.calls ((rd_T59 l0_0 x8_1).f0.f0) ((rd_T59 l0_0 x8_1).f0.f1) _ _ ((rd_T59 l0_0 x8_1).f1) t176 t177 t178 _ ?side1 ?side2 A45.out).mono ?_
          (case side1 => exact mC (Kd.C_below HR175_2.out HB.out))
          (case side2 => exact HC175_2.out)
          rintro e w48 ⟨v179, rfl, ho0, hb⟩
          refine ⟨_, rfl, ?_⟩
          replace HO_156000 := mS (Kd.S_elder' (mSd HO_156000.out) (Kd.R_base ho0) hb)
          have HO180 := mS (Kd.R_lower ho0 (below_size (mH4 HB.out GE152.out GE153.out GE154.out GE155.out)))
          replace BK152 := mB BK152 hb
          replace BK153 := mB BK153 hb
          replace BK154 := mB BK154 hb
          replace BK155 := mB BK155 hb
          replace HB := mS (below_step (mH4 HB.out GE152.out GE153.out GE154.out GE155.out) hb)
          (try clear hb)
          (try clear hb2)
          (try clear hk)
          (try clear hi)
          (try clear ho0)
          obtain ⟨Ao50, co50, eo50⟩ := Kd.R_slice HO180.out
          (first | subst eo50 | (injection eo50 with f1_ f2_ f3_; have f4_ := f1_.symm; have f5_ := f3_.symm; clear f1_ f2_ f3_; subst f4_; subst f5_))
          refine hK.out _ _ ⟨mZ BK155.out 0, mZ BK152.out 0, (mX HB.out hw175_0 :), (mX HB.out hw175_1 :), (mX HB.out hw175_2 :)⟩ (fun hHeld => ?_)
          clear hK K
          refine mno 44 ?_
          refine mone 8 (some 45) HT_.out (mb 9 3) (fun K hK => ?_)
          refine value_ (w1 := ?_) (v := ?_) (by rfl) rfl ?_ ?_
          rotate_left 2
          ·go_simp
           constructor
           ·rfl
           ·rfl
          refine hK.out _ _ ⟨(blk_cell (blk_alloc BK155.out _) 0).trans rfl, (blk_cell (blk_alloc BK152.out _) 0).trans rfl, (World.cell?_alloc_lt _ _ _ (World.block_lt_of_cell? _ _ ((mX HB.out hw175_0 :)))).trans ((mX HB.out hw175_0 :)), (World.cell?_alloc_lt _ _ _ (World.block_lt_of_cell? _ _ ((mX HB.out hw175_1 :)))).trans ((mX HB.out hw175_1 :)), (World.cell?_alloc_lt _ _ _ (World.block_lt_of_cell? _ _ ((mX HB.out hw175_2 :)))).trans ((mX HB.out hw175_2 :))⟩ (fun hHeld => ?_)
          clear hK K
          refine mno 45 ?_
          refine mone 9 (some 46) HT_.out (mb 10 2) (fun K hK => ?_)
          refine Kd.S_append_step k59 (w0 := w) w.heap.size (by rfl) (.tmp 38) (.tmp 45) 50 59 (.agg #[(.int .i64 0), (.int .i64 0), (.slice none 0 0)]) 40 rfl Try.underlying50 info59 rfl (by decide) (by omega) u156000 x156000_1 (⟨(⟨t176, t177⟩ : S56), t178⟩ : S59) [.int .i64 t176, .int .i64 t177, .slice Ao50 t178.length co50] (fun k_ => k_ ≠ gb153) (fun k_ => some k_ = (.slice Ao50 t178.length co50 : Value).ownBlock) rfl rfl ?aP (fun k_ hk_ => ((Kd.R_mono (ok' := fun k_ => ((fun k_ => k_ ≠ gb153)) k_ ∧ some k_ ≠ (u156000 : Value).ownBlock) (Kd.R_types (Kd.R_apart' (HO180.out) (Kd.S_typed HO_156000.out) (by decide)) BK153.out (by decide)) (fun k_ hk => ⟨hk.2, hk.1.2⟩))).1 k_ hk_.symm) ?aF ?aO ?aB ?aS ?aL ?_
          (case aP => exact k59_mkM _ _ _ (⟨(⟨t176, t177⟩ : S56), t178⟩ : S59) (Kd.R_mono (Kd.R_tight rfl (Kd.R_mono (ok' := fun k_ => ((fun k_ => k_ ≠ gb153)) k_ ∧ some k_ ≠ (u156000 : Value).ownBlock) (Kd.R_types (Kd.R_apart' (HO180.out) (Kd.S_typed HO_156000.out) (by decide)) BK153.out (by decide)) (fun k_ hk => ⟨hk.2, hk.1.2⟩))) (fun _ h_ => h_)))
          (case aB => exact (mH4 HB.out GE152.out GE153.out GE154.out GE155.out))
          (case aF => exact (fun k_ hk => Kd.freshB (g := gb153) (o := .cells #[.int .i64 a1_0, .int .i64 a1_1, .slice A1_2 l1_2.length c1_2] 59 (0, 0)) (mK BK153.out) k_ hk))
          (case aO => exact (by refine mSd ?_; exact Kd.S_mono HO_156000.out (fun k_ hk => ⟨hk.1, fun e_ => hk.2 e_⟩)))
          (case aS => exact (below_size (mH4 HB.out GE152.out GE153.out GE154.out GE155.out)))
          (case aL => have := LMc46.out; omega)
          intro v182 w49 ho hb hg hat
          rw [← Ny181.out] at ho
          replace BK152 := mS (blk_grown (g := gb152) (o := .cells #[.slice (some ad175) l0_0.length c0_0] 52 (0, 0)) (mK BK152.out) hg (Kd.S_ne HO_156000.out BK152.out (by decide)))
          replace BK153 := mS (blk_grown (g := gb153) (o := .cells #[.int .i64 a1_0, .int .i64 a1_1, .slice A1_2 l1_2.length c1_2] 59 (0, 0)) (mK BK153.out) hg (Kd.S_away HO_156000.out (fun _ hk => hk.1)))
          replace BK154 := mS (blk_grown (g := gb154) (o := .cells #[.slice none 0 0] 52 (0, 0)) (mK BK154.out) hg (Kd.S_ne HO_156000.out BK154.out (by decide)))
          replace BK155 := mS (blk_grown (g := gb155) (o := .cells #[u156000] 52 (0, 0)) (mK BK155.out) hg (Kd.S_ne HO_156000.out BK155.out (by decide)))
          replace HB := mS (hb)
          have HO183 := mS (ho)
          clear HO_156000
          clear HO180
          clear ho hb hg hat
          obtain ⟨Ao51, co51, eo51⟩ := Kd.S_slice HO183.out
          (first | subst eo51 | (injection eo51 with f1_ f2_ f3_; have f4_ := f1_.symm; have f5_ := f3_.symm; clear f1_ f2_ f3_; subst f4_; subst f5_))
          refine hK.out _ _ ⟨mZ BK155.out 0, mZ BK152.out 0, (mX HB.out hw175_0 :), (mX HB.out hw175_1 :), (mX HB.out hw175_2 :)⟩ (fun hHeld => ?_)
          clear hK K
          refine mno 46 ?_
          refine mpu 10 47 HT_.out (mb 11 1) ?_
          refine last_ (i := 11) (N := none) (mb 12 0) rfl rfl (one_of HT_.out (by kernel_rfl)) (by decide) (fun K hK => ?_)
          have hs52 : w49.cell? ⟨gb155, 0, none⟩ = some (u156000) := mZ BK155.out 0
          have hfs52 := blk_frozen BK155.out 0
          have hns52_0 := NB152_155.out
          have hns52_1 := NB153_155.out
          have hns52_2 := NB154_155.out
          have hms52_0 := NB155_152.out
          have hms52_1 := NB155_153.out
          have hms52_2 := NB155_154.out
          refine skip_ (w1 := ?_) (by rfl) rfl ?_ ?_
          rotate_left
          ·go_simp
           rfl
          refine hK.out _ _ ?_
          clear hK K
          refine done_ (done_of HT_.out (by kernel_rfl)) ?_
          try go_wp2
          go_roundg kj11
          case measure => have := HK1.out; have := HJ11.out; omega
          case rel => exact ⟨(x7_1), (wrap64 (x8_1 + 1)), (y181), (.slice Ao51 y181.length co51), mE, mE, H', ⟨by have := HK1.out; have := HJ11.out; omega⟩, ⟨by refine mSd ?_; exact Kd.S_mono (Kd.S_far (p := ⟨gb155, 0, none⟩) (Kd.S_types HO183.out BK155.out (by decide)) (fun _ hk => hk.2) (.slice Ao51 y181.length co51)) (fun _ hk => hk.1)⟩, ⟨mKf NB152_155.out BK152.out⟩, ⟨mKf NB153_155.out BK153.out⟩, ⟨mKf NB154_155.out BK154.out⟩, ⟨by refine mK ?_; refine blk_put (cs := #[u156000]) ?_ 0 _ rfl; refine mK ?_; exact BK155.out⟩, ⟨(mH4 HB.out GE152.out GE153.out GE154.out GE155.out)⟩⟩
         ·rw [if_neg c46] at H
          exact absurd H (by simp)
        ·rw [if_neg c44] at H
         exact absurd H (by simp)
       ·rw [if_neg c43] at H
        exact absurd H (by simp)
   ·rw [if_neg c11] at H
    have c11b0 := decide_eq_false c11
    clear c11
    have HC53 := mS H
    clear H
    have hnb54 := NB152_153.out
    have hnc54 := NB153_152.out
    have hnb55 := NB152_154.out
    have hnc55 := NB154_152.out
    have hnb56 := NB152_155.out
    have hnc56 := NB155_152.out
    have hcz57_0 := mZ BK152.out 0
    have hfz57_0 := blk_frozen BK152.out 0
    go_upto_if 49 with (fail)
    go_cut [] (fun wc => ∃ (kq : Nat) (x156000_52 : List (S59)) (u156000 : Value), Aside0 (spec_GraphPut.j2 kq l0_0 a1_0 a1_1 l1_2 x156000_52 = some (r1, r2)) ∧ Aside0 (kq ≤ k1) ∧ Aside0 (Kd.S k59 59 wc w.heap.size (fun k_ => k_ ≠ gb153) u156000 x156000_52) ∧ Aside0 (wc.heap[gb152]? = some (.cells #[(.slice A0_0 l0_0.length c0_0)] 52 (0, 0))) ∧ Aside0 (wc.heap[gb153]? = some (.cells #[.int .i64 a1_0, .int .i64 a1_1, (.slice A1_2 l1_2.length c1_2)] 59 (0, 0))) ∧ Aside0 (wc.heap[gb154]? = some (.cells #[(.slice none 0 0)] 52 (0, 0))) ∧ Aside0 (wc.heap[gb155]? = some (.cells #[u156000] 52 (0, 0))) ∧ Aside0 (Below w.heap.size w wc))
    case first =>
     have H := HC53.out
     clear HC53
     by_cases c58 : x7_1 = true
     ·subst c58
      have H1 := H
      rw [if_pos rfl] at H1
      clear H
      have H := H1
      clear H1
      have H' := mS H
      clear H
      go_wp2
      go_meet
      case rel => exact ⟨_, (x156000_1), (u156000), H', ⟨by have := HK1.out; first | omega | exact Nat.le_refl _⟩, ⟨mSd HO_156000.out⟩, ⟨mK BK152.out⟩, ⟨mK BK153.out⟩, ⟨mK BK154.out⟩, ⟨mK BK155.out⟩, ⟨(mH4 HB.out GE152.out GE153.out GE154.out GE155.out)⟩⟩
     ·replace c58 := Bool.eq_false_iff.mpr c58
      subst c58
      have H1 := H
      rw [if_neg (show ¬ (false = true) by decide)] at H1
      clear H
      have H := H1
      clear H1
      replace H := Option.bind_eq_some_iff.mp H
      obtain ⟨⟨t184, t185, t186⟩, A590, H⟩ := H
      replace H : (if x156000_1.length < 3518437208883 then (spec_GraphPut.j2 k1 l0_0 a1_0 a1_1 l1_2 (x156000_1 ++ [(⟨(⟨t184, t185⟩ : S56), t186⟩ : S59)])) else (none)) = some (r1, r2) := H
      have A59 := mS A590
      clear A590
      by_cases c60 : x156000_1.length < 3518437208883
      ·rw [if_pos c60] at H
       have LMc60 := mS c60
       clear c60
       obtain ⟨y189, hy189⟩ : ∃ y_ : List (S59), y_ = (x156000_1 ++ [(⟨(⟨t184, t185⟩ : S56), t186⟩ : S59)]) := ⟨_, rfl⟩
       replace H : (spec_GraphPut.j2 k1 l0_0 a1_0 a1_1 l1_2 y189) = some (r1, r2) := by first | (rw [hy189]; with_reducible exact H) | (have H2_ := (Option.bind_some _ _).symm.trans H; rw [hy189]; with_reducible exact H2_) | (have H2_ := (Option.bind_some _ _).symm.trans H; with_reducible exact H2_) | with_reducible exact H | (rw [hy189]; exact H) | exact H
       have Ny189 := mS hy189
       clear hy189
       have H' := mS H
       clear H
       try go_wp2
       replace HO_156000 := mS (Kd.S_drew HO_156000.out)
       replace BK152 := mS (blk_drew BK152.out)
       replace BK153 := mS (blk_drew BK153.out)
       replace BK154 := mS (blk_drew BK154.out)
       replace BK155 := mS (blk_drew BK155.out)
       replace HB := mS (below_drew1 HB.out)
       refine start_ (n := 8) (S := fun w' => w'.cell? ⟨gb155, 0, none⟩ = some (u156000) ∧ w'.cell? ⟨gb153, 0, none⟩ = some (.int .i64 a1_0) ∧ w'.cell? ⟨gb153, 1, none⟩ = some (.int .i64 a1_1) ∧ w'.cell? ⟨gb153, 2, none⟩ = some (.slice A1_2 l1_2.length c1_2)) (ds := [7]) (mb 0 8) (by kernel_rfl) rfl rfl ⟨mZ BK155.out 0, mc3 BK153.out⟩ (fun hHeld => ?_); refine with_tabW spec_GraphPut.tab11 spec_GraphPut.bits11 (fun HT_ HW_ => ?_)
       generalize wr.drew = w61 at HO_156000 BK152 BK153 BK154 BK155 HB hHeld ⊢
       refine mpu 0 50 HT_.out (mb 1 7) ?_
       refine mpt 1 51 HT_.out HW_.out (mb 2 6) hHeld ?_
       refine mpt 2 52 HT_.out HW_.out (mb 3 5) hHeld ?_
       refine mone 3 (some 53) HT_.out (mb 4 4) (fun K hK => ?_)
       refine goes_ Try.func53 (by kernel_rfl) rfl #[.agg #[.int .i64 a1_0, .int .i64 a1_1, .slice A1_2 l1_2.length c1_2]] (by rfl) rfl rfl mA ?_
       with_reducible refine (spec_l8CopyItem.calls a1_0 a1_1 _ _ l1_2 t184 t185 t186 _ ?side1 ?side2 A59.out).mono ?_
       (case side1 => exact mC (Kd.C_below HR1_2.out HB.out))
       (case side2 => exact HC1_2.out)
       rintro e w62 ⟨v187, rfl, ho0, hb⟩
       refine ⟨_, rfl, ?_⟩
       replace HO_156000 := mS (Kd.S_elder' (mSd HO_156000.out) (Kd.R_base ho0) hb)
       have HO188 := mS (Kd.R_lower ho0 (below_size (mH4 HB.out GE152.out GE153.out GE154.out GE155.out)))
       replace BK152 := mB BK152 hb
       replace BK153 := mB BK153 hb
       replace BK154 := mB BK154 hb
       replace BK155 := mB BK155 hb
       replace HB := mS (below_step (mH4 HB.out GE152.out GE153.out GE154.out GE155.out) hb)
       (try clear hb)
       (try clear hb2)
       (try clear hk)
       (try clear hi)
       (try clear ho0)
       obtain ⟨Ao64, co64, eo64⟩ := Kd.R_slice HO188.out
       (first | subst eo64 | (injection eo64 with f1_ f2_ f3_; have f4_ := f1_.symm; have f5_ := f3_.symm; clear f1_ f2_ f3_; subst f4_; subst f5_))
       refine hK.out _ _ ⟨mZ BK155.out 0, mc3 BK153.out⟩ (fun hHeld => ?_)
       clear hK K
       refine mno 53 ?_
       refine mone 4 (some 54) HT_.out (mb 5 3) (fun K hK => ?_)
       refine value_ (w1 := ?_) (v := ?_) (by rfl) rfl ?_ ?_
       rotate_left 2
       ·go_simp
        constructor
        ·rfl
        ·rfl
       refine hK.out _ _ ⟨(blk_cell (blk_alloc BK155.out _) 0).trans rfl, (blk_cell (blk_alloc BK153.out _) 0).trans rfl, (blk_cell (blk_alloc BK153.out _) 1).trans rfl, (blk_cell (blk_alloc BK153.out _) 2).trans rfl⟩ (fun hHeld => ?_)
       clear hK K
       refine mno 54 ?_
       refine mone 5 (some 55) HT_.out (mb 6 2) (fun K hK => ?_)
       refine Kd.S_append_step k59 (w0 := w) w.heap.size (by rfl) (.tmp 51) (.tmp 54) 50 59 (.agg #[(.int .i64 0), (.int .i64 0), (.slice none 0 0)]) 40 rfl Try.underlying50 info59 rfl (by decide) (by omega) u156000 x156000_1 (⟨(⟨t184, t185⟩ : S56), t186⟩ : S59) [.int .i64 t184, .int .i64 t185, .slice Ao64 t186.length co64] (fun k_ => k_ ≠ gb153) (fun k_ => some k_ = (.slice Ao64 t186.length co64 : Value).ownBlock) rfl rfl ?aP (fun k_ hk_ => ((Kd.R_mono (ok' := fun k_ => ((fun k_ => k_ ≠ gb153)) k_ ∧ some k_ ≠ (u156000 : Value).ownBlock) (Kd.R_types (Kd.R_apart' (HO188.out) (Kd.S_typed HO_156000.out) (by decide)) BK153.out (by decide)) (fun k_ hk => ⟨hk.2, hk.1.2⟩))).1 k_ hk_.symm) ?aF ?aO ?aB ?aS ?aL ?_
       (case aP => exact k59_mkM _ _ _ (⟨(⟨t184, t185⟩ : S56), t186⟩ : S59) (Kd.R_mono (Kd.R_tight rfl (Kd.R_mono (ok' := fun k_ => ((fun k_ => k_ ≠ gb153)) k_ ∧ some k_ ≠ (u156000 : Value).ownBlock) (Kd.R_types (Kd.R_apart' (HO188.out) (Kd.S_typed HO_156000.out) (by decide)) BK153.out (by decide)) (fun k_ hk => ⟨hk.2, hk.1.2⟩))) (fun _ h_ => h_)))
       (case aB => exact (mH4 HB.out GE152.out GE153.out GE154.out GE155.out))
       (case aF => exact (fun k_ hk => Kd.freshB (g := gb153) (o := .cells #[.int .i64 a1_0, .int .i64 a1_1, .slice A1_2 l1_2.length c1_2] 59 (0, 0)) (mK BK153.out) k_ hk))
       (case aO => exact (by refine mSd ?_; exact Kd.S_mono HO_156000.out (fun k_ hk => ⟨hk.1, fun e_ => hk.2 e_⟩)))
       (case aS => exact (below_size (mH4 HB.out GE152.out GE153.out GE154.out GE155.out)))
       (case aL => have := LMc60.out; omega)
       intro v190 w63 ho hb hg hat
       rw [← Ny189.out] at ho
       replace BK152 := mS (blk_grown (g := gb152) (o := .cells #[.slice A0_0 l0_0.length c0_0] 52 (0, 0)) (mK BK152.out) hg (Kd.S_ne HO_156000.out BK152.out (by decide)))
       replace BK153 := mS (blk_grown (g := gb153) (o := .cells #[.int .i64 a1_0, .int .i64 a1_1, .slice A1_2 l1_2.length c1_2] 59 (0, 0)) (mK BK153.out) hg (Kd.S_away HO_156000.out (fun _ hk => hk.1)))
       replace BK154 := mS (blk_grown (g := gb154) (o := .cells #[.slice none 0 0] 52 (0, 0)) (mK BK154.out) hg (Kd.S_ne HO_156000.out BK154.out (by decide)))
       replace BK155 := mS (blk_grown (g := gb155) (o := .cells #[u156000] 52 (0, 0)) (mK BK155.out) hg (Kd.S_ne HO_156000.out BK155.out (by decide)))
       replace HB := mS (hb)
       have HO191 := mS (ho)
       clear HO_156000
       clear HO188
       clear ho hb hg hat
       obtain ⟨Ao65, co65, eo65⟩ := Kd.S_slice HO191.out
       (first | subst eo65 | (injection eo65 with f1_ f2_ f3_; have f4_ := f1_.symm; have f5_ := f3_.symm; clear f1_ f2_ f3_; subst f4_; subst f5_))
       refine hK.out _ _ ⟨mZ BK155.out 0, mc3 BK153.out⟩ (fun hHeld => ?_)
       clear hK K
       refine mno 55 ?_
       refine mpu 6 56 HT_.out (mb 7 1) ?_
       refine last_ (i := 7) (N := none) (mb 8 0) rfl rfl (one_of HT_.out (by kernel_rfl)) (by decide) (fun K hK => ?_)
       have hs66 : w63.cell? ⟨gb155, 0, none⟩ = some (u156000) := mZ BK155.out 0
       have hfs66 := blk_frozen BK155.out 0
       have hns66_0 := NB152_155.out
       have hns66_1 := NB153_155.out
       have hns66_2 := NB154_155.out
       have hms66_0 := NB155_152.out
       have hms66_1 := NB155_153.out
       have hms66_2 := NB155_154.out
       refine skip_ (w1 := ?_) (by rfl) rfl ?_ ?_
       rotate_left
       ·go_simp
        rfl
       refine hK.out _ _ ?_
       clear hK K
       refine done_ (done_of HT_.out (by kernel_rfl)) ?_
       try go_wp2
       go_meet
       case rel => exact ⟨_, (y189), (.slice Ao65 y189.length co65), H', ⟨by have := HK1.out; first | omega | exact Nat.le_refl _⟩, ⟨by refine mSd ?_; exact Kd.S_mono (Kd.S_far (p := ⟨gb155, 0, none⟩) (Kd.S_types HO191.out BK155.out (by decide)) (fun _ hk => hk.2) (.slice Ao65 y189.length co65)) (fun _ hk => hk.1)⟩, ⟨mKf NB152_155.out BK152.out⟩, ⟨mKf NB153_155.out BK153.out⟩, ⟨mKf NB154_155.out BK154.out⟩, ⟨by refine mK ?_; refine blk_put (cs := #[u156000]) ?_ 0 _ rfl; refine mK ?_; exact BK155.out⟩, ⟨(mH4 HB.out GE152.out GE153.out GE154.out GE155.out)⟩⟩
      ·rw [if_neg c60] at H
       exact absurd H (by simp)
    case rest =>
     clear HC53
     try clear c1
     try clear p1
     try clear q1
     try clear hx1
     try clear c2
     try clear p2
     try clear c4
     try clear c5
     try clear c6
     try clear p6
     try clear c11
     try clear c11b0
     try clear c17
     try clear p17
     try clear q17
     try clear hx17
     try clear c23
     try clear c25
     try clear c26
     try clear c27
     try clear c29
     try clear c43
     try clear c43b0
     try clear c44
     try clear c44b0
     try clear c46
     try clear c53
     try clear c54
     try clear c55
     try clear c56
     try clear c58
     try clear c60
     try clear p64
     try clear hcz57_0
     try clear hfz57_0
     try clear hx175_0
     try clear hx175_1
     try clear hx175_2
     try clear p175
     try clear q175
     obtain ⟨kq, x156000_52, u156000, HA, HJ52, HO_156000, BK152, BK153, BK154, BK155, HB⟩ := hcut
     cases kq with
     | zero => exact absurd HA.out (by simp [spec_GraphPut.j2])
     | succ kj52 =>
      have H := HA.out
      clear HA
      simp only [spec_GraphPut.j2] at H
      have HC67 := mS H
      clear H
      go_upto_region 12 with (fail)
      go_cut [66] (fun v66 wc => ∃ (kq : Nat) (x66_66 : Bool), v66 = .bool x66_66 ∧ Aside0 (spec_GraphPut.j3 kq x66_66 l0_0 x156000_52 = some (r1, r2)) ∧ Aside0 (kq ≤ kj52) ∧ Aside0 (Kd.S k59 59 wc w.heap.size (fun k_ => k_ ≠ gb153) u156000 x156000_52) ∧ Aside0 (wc.heap[gb152]? = some (.cells #[(.slice A0_0 l0_0.length c0_0)] 52 (0, 0))) ∧ Aside0 (wc.heap[gb153]? = some (.cells #[.int .i64 a1_0, .int .i64 a1_1, (.slice A1_2 l1_2.length c1_2)] 59 (0, 0))) ∧ Aside0 (wc.heap[gb154]? = some (.cells #[(.slice none 0 0)] 52 (0, 0))) ∧ Aside0 (wc.heap[gb155]? = some (.cells #[u156000] 52 (0, 0))) ∧ Aside0 (Below w.heap.size w wc))
      case first =>
       have H := HC67.out
       clear HC67
       replace H := Option.bind_eq_some_iff.mp H
       obtain ⟨t192, A680, H⟩ := H
       replace H : (if t192 ≥ 0 then (spec_GraphPut.j3 kj52 true l0_0 x156000_52) else ((spec_GraphOk.f kj52 x156000_52).bind fun t193 => (spec_GraphPut.j3 kj52 (!t193) l0_0 x156000_52))) = some (r1, r2) := H
       have A68 := mS A680
       clear A680
       by_cases c69 : t192 ≥ 0
       ·rw [if_pos c69] at H
        have c69b0 : decide (0 ≤ t192) = true := decide_eq_true c69
        clear c69
        (first | rw [c69b0] | (simp only [i64_w, i32_w]; rw [c69b0]) | skip)
        have H' := mS H
        clear H
        have hnb70 := NB152_153.out
        have hnc70 := NB153_152.out
        have hnb71 := NB152_154.out
        have hnc71 := NB154_152.out
        have hnb72 := NB152_155.out
        have hnc72 := NB155_152.out
        have hcz73_0 := mZ BK152.out 0
        have hfz73_0 := blk_frozen BK152.out 0
        have hnb74 := NB153_154.out
        have hnc74 := NB154_153.out
        have hnb75 := NB153_155.out
        have hnc75 := NB155_153.out
        obtain ⟨hcz76_0, hcz76_1, hcz76_2, hfz76_0, hfz76_1, hfz76_2⟩ := mZ3 BK153.out
        go_wp2_with (first | ((with_reducible refine gate_callee (f := 54) rfl ?_); refine mGo 60 Try.func54 #[.agg #[.slice A0_0 l0_0.length c0_0], .agg #[.int .i64 a1_0, .int .i64 a1_1]] ?_; (with_reducible refine (spec_l8At.calls kj52 _ _ l0_0 a1_0 a1_1 t192 _ ?side1 ?side2 A68.out).mono ?_); (case side1 => exact mC (Kd.C_below HR0_0.out HB.out)); (case side2 => exact HC0_0.out); rintro e w77 ⟨rfl, hb⟩; refine ⟨_, rfl, ?_⟩; replace HO_156000 := mS (Kd.S_below (mSd HO_156000.out) hb); replace BK152 := mB BK152 hb; replace BK153 := mB BK153 hb; replace BK154 := mB BK154 hb; replace BK155 := mB BK155 hb; replace HB := mS (below_step (mH4 HB.out GE152.out GE153.out GE154.out GE155.out) hb); (try clear hb)))
        go_meet
        case rel => exact ⟨_, (true), mE, H', ⟨by have := HK1.out; have := HJ52.out; first | omega | exact Nat.le_refl _⟩, ⟨mSd HO_156000.out⟩, ⟨mK BK152.out⟩, ⟨mK BK153.out⟩, ⟨mK BK154.out⟩, ⟨mK BK155.out⟩, ⟨(mH4 HB.out GE152.out GE153.out GE154.out GE155.out)⟩⟩
       ·rw [if_neg c69] at H
        have c69b0 : decide (0 ≤ t192) = false := decide_eq_false c69
        clear c69
        (first | rw [c69b0] | (simp only [i64_w, i32_w]; rw [c69b0]) | skip)
        replace H := Option.bind_eq_some_iff.mp H
        obtain ⟨t193, A780, H⟩ := H
        replace H : (spec_GraphPut.j3 kj52 (!t193) l0_0 x156000_52) = some (r1, r2) := H
        have A78 := mS A780
        clear A780
        have H' := mS H
        clear H
        have hnb79 := NB152_153.out
        have hnc79 := NB153_152.out
        have hnb80 := NB152_154.out
        have hnc80 := NB154_152.out
        have hnb81 := NB152_155.out
        have hnc81 := NB155_152.out
        have hcz82_0 := mZ BK152.out 0
        have hfz82_0 := blk_frozen BK152.out 0
        have hnb83 := NB153_154.out
        have hnc83 := NB154_153.out
        have hnb84 := NB153_155.out
        have hnc84 := NB155_153.out
        obtain ⟨hcz85_0, hcz85_1, hcz85_2, hfz85_0, hfz85_1, hfz85_2⟩ := mZ3 BK153.out
        go_wp2_with (first | ((with_reducible refine gate_callee (f := 54) rfl ?_); refine mGo 60 Try.func54 #[.agg #[.slice A0_0 l0_0.length c0_0], .agg #[.int .i64 a1_0, .int .i64 a1_1]] ?_; (with_reducible refine (spec_l8At.calls kj52 _ _ l0_0 a1_0 a1_1 t192 _ ?side1 ?side2 A68.out).mono ?_); (case side1 => exact mC (Kd.C_below HR0_0.out HB.out)); (case side2 => exact HC0_0.out); rintro e w86 ⟨rfl, hb⟩; refine ⟨_, rfl, ?_⟩; replace HO_156000 := mS (Kd.S_below (mSd HO_156000.out) hb); replace BK152 := mB BK152 hb; replace BK153 := mB BK153 hb; replace BK154 := mB BK154 hb; replace BK155 := mB BK155 hb; replace HB := mS (below_step (mH4 HB.out GE152.out GE153.out GE154.out GE155.out) hb); (try clear hb); have hnb87 := NB155_154.out; have hnc87 := NB154_155.out; have hcz88_0 := mZ BK155.out 0; have hfz88_0 := blk_frozen BK155.out 0; obtain ⟨Ao89, co89, eo89⟩ := Kd.S_slice HO_156000.out; subst eo89) | (go_at_call 55; (with_reducible refine (spec_GraphOk.calls kj52 _ _ x156000_52 t193 _ ?side1 ?side2 A78.out).mono ?_); (case side1 => exact mC (Kd.S_reads' HO_156000.out).2.2); (case side2 => exact (Kd.S_reads' HO_156000.out).2.1); rintro e w90 ⟨rfl, hb⟩; replace HO_156000 := mS (Kd.S_below (mSd HO_156000.out) hb); replace BK152 := mB BK152 hb; replace BK153 := mB BK153 hb; replace BK154 := mB BK154 hb; replace BK155 := mB BK155 hb; replace HB := mS (below_step (mH4 HB.out GE152.out GE153.out GE154.out GE155.out) hb); (try clear hb); (try clear hb2); (try clear hk); (try clear hi)))
        go_meet
        case rel => exact ⟨_, (!t193), mE, H', ⟨by have := HK1.out; have := HJ52.out; first | omega | exact Nat.le_refl _⟩, ⟨mSd HO_156000.out⟩, ⟨mK BK152.out⟩, ⟨mK BK153.out⟩, ⟨mK BK154.out⟩, ⟨mK BK155.out⟩, ⟨(mH4 HB.out GE152.out GE153.out GE154.out GE155.out)⟩⟩
      case rest =>
       clear HC67
       try clear c1
       try clear p1
       try clear q1
       try clear hx1
       try clear c2
       try clear p2
       try clear c4
       try clear c5
       try clear c6
       try clear p6
       try clear c7
       try clear c8
       try clear c11
       try clear c11b0
       try clear c17
       try clear p17
       try clear q17
       try clear hx17
       try clear c23
       try clear c25
       try clear c26
       try clear c27
       try clear c29
       try clear c43
       try clear c43b0
       try clear c44
       try clear c44b0
       try clear c46
       try clear c53
       try clear c54
       try clear c55
       try clear c56
       try clear c58
       try clear c60
       try clear p64
       try clear c69
       try clear c69b0
       try clear c70
       try clear c71
       try clear c72
       try clear c74
       try clear c75
       try clear c79
       try clear c80
       try clear c81
       try clear c83
       try clear c84
       try clear c87
       try clear hcz57_0
       try clear hcz73_0
       try clear hcz76_0
       try clear hcz76_1
       try clear hcz76_2
       try clear hcz82_0
       try clear hcz85_0
       try clear hcz85_1
       try clear hcz85_2
       try clear hcz88_0
       try clear hfz57_0
       try clear hfz73_0
       try clear hfz76_0
       try clear hfz76_1
       try clear hfz76_2
       try clear hfz82_0
       try clear hfz85_0
       try clear hfz85_1
       try clear hfz85_2
       try clear hfz88_0
       try clear hx175_0
       try clear hx175_1
       try clear hx175_2
       try clear p1
       try clear p17
       try clear p175
       try clear p2
       try clear p6
       try clear p64
       try clear q1
       try clear q17
       try clear q175
       obtain ⟨kq, x66_66, rfl, HA, HJ66, HO_156000, BK152, BK153, BK154, BK155, HB⟩ := hcut
       cases kq with
       | zero => exact absurd HA.out (by simp [spec_GraphPut.j3])
       | succ kj66 =>
        have H := HA.out
        clear HA
        simp only [spec_GraphPut.j3] at H
        by_cases c91 : x66_66 = true
        ·subst c91
         have H1 := H
         rw [if_pos rfl] at H1
         clear H
         have H := H1
         clear H1
         replace H := Option.bind_eq_some_iff.mp H
         obtain ⟨t194, A920, H⟩ := H
         replace H : (some (t194, false)) = some (r1, r2) := H
         have A92 := mS A920
         clear A920
         simp only [Option.some.injEq, Prod.mk.injEq] at H
         obtain ⟨rfl, rfl⟩ := H
         have hnb93 := NB152_153.out
         have hnc93 := NB153_152.out
         have hnb94 := NB152_154.out
         have hnc94 := NB154_152.out
         have hnb95 := NB152_155.out
         have hnc95 := NB155_152.out
         have hcz96_0 := mZ BK152.out 0
         have hfz96_0 := blk_frozen BK152.out 0
         go_wp2_with (first | ((with_reducible refine gate_callee (f := 56) rfl ?_); refine mGo 68 Try.func56 #[.agg #[.slice A0_0 l0_0.length c0_0]] ?_; (with_reducible refine (spec_l8Copy.calls kj66 _ _ l0_0 t194 _ ?side1 ?side2 A92.out).mono ?_); (case side1 => exact mC (Kd.C_below HR0_0.out HB.out)); (case side2 => exact HC0_0.out); rintro e w97 ⟨v195, rfl, ho0, hb⟩; refine ⟨_, rfl, ?_⟩; have HO196 := mS (Kd.S_lower (Kd.S_newB (Kd.S_new' ho0 (Kd.S_lt (mSd HO_156000.out))) (g := gb153) (o := .cells #[.int .i64 a1_0, .int .i64 a1_1, .slice A1_2 l1_2.length c1_2] 59 (0, 0)) (mK BK153.out)) (below_size (mH4 HB.out GE152.out GE153.out GE154.out GE155.out))); replace HO_156000 := mS (Kd.S_elder' (mSd HO_156000.out) (Kd.S_base ho0) hb); replace BK152 := mB BK152 hb; replace BK153 := mB BK153 hb; replace BK154 := mB BK154 hb; replace BK155 := mB BK155 hb; replace HB := mS (below_step (mH4 HB.out GE152.out GE153.out GE154.out GE155.out) hb); (try clear hb); (try clear ho0); obtain ⟨Ao98, co98, eo98⟩ := Kd.S_slice HO196.out; subst eo98; have hnb99 := NB154_153.out; have hnc99 := NB153_154.out; have hnb100 := NB154_155.out; have hnc100 := NB155_154.out; have hcz101_0 := mZ BK154.out 0; have hfz101_0 := blk_frozen BK154.out 0))
         refine bodyPost_ret (results_ct rfl _ _ gb154 52 #[.slice Ao98 t194.length co98] (0, 0) _ rfl (by refine mK ?_; refine blk_put (cs := #[.slice none 0 0]) ?_ 0 _ rfl; refine mK ?_; exact BK154.out) Try.underlying52 rfl (by kernel_rfl)) rfl ?_
         exact ⟨_, mEw, by refine mSd ?_; exact Kd.S_mono (Kd.S_far (p := ⟨gb154, 0, none⟩) (Kd.S_types HO196.out BK154.out (by decide)) (fun _ hk => hk.2) (.slice Ao98 t194.length co98)) (fun _ hk => trivial), (mH4 HB.out GE152.out GE153.out GE154.out GE155.out)⟩
        ·replace c91 := Bool.eq_false_iff.mpr c91
         subst c91
         have H1 := H
         rw [if_neg (show ¬ (false = true) by decide)] at H1
         clear H
         have H := H1
         clear H1
         simp only [Option.some.injEq, Prod.mk.injEq] at H
         obtain ⟨rfl, rfl⟩ := H
         have hnb102 := NB155_152.out
         have hnc102 := NB152_155.out
         have hnb103 := NB155_153.out
         have hnc103 := NB153_155.out
         have hnb104 := NB155_154.out
         have hnc104 := NB154_155.out
         have hcz105_0 := mZ BK155.out 0
         have hfz105_0 := blk_frozen BK155.out 0
         obtain ⟨Ao106, co106, eo106⟩ := Kd.S_slice HO_156000.out
         subst eo106
         have hnb107 := NB154_152.out
         have hnc107 := NB152_154.out
         have hnb108 := NB154_153.out
         have hnc108 := NB153_154.out
         have hcz109_0 := mZ BK154.out 0
         have hfz109_0 := blk_frozen BK154.out 0
         go_wp2
         refine bodyPost_ret (results_ct rfl _ _ gb154 52 #[.slice Ao106 x156000_52.length co106] (0, 0) _ rfl (by refine mK ?_; refine blk_put (cs := #[.slice none 0 0]) ?_ 0 _ rfl; refine mK ?_; exact BK154.out) Try.underlying52 rfl (by kernel_rfl)) rfl ?_
         exact ⟨_, mEw, by refine mSd ?_; exact Kd.S_mono (Kd.S_far (p := ⟨gb154, 0, none⟩) (Kd.S_types HO_156000.out BK154.out (by decide)) (fun _ hk => hk.2) (.slice Ao106 x156000_52.length co106)) (fun _ hk => trivial), (mH4 HB.out GE152.out GE153.out GE154.out GE155.out)⟩

end Go.Proofs.Ytecjamgajlpfdaa.MFnExactGraphPut
