-- Written by mp.py, this session's own printer (wip/mp.py).
import Derived.Test.YtgbejjeephipeaaVMShort
import Derived.Test.YtgbejjeephipeaaMFnStablex0
import Derived.Test.YtgbejjeephipeaaMFnStablex2
import Derived.Test.YtgbejjeephipeaaMFnStablex4
import Derived.Test.YtgbejjeephipeaaMFnStablex5
namespace Go.Proofs.Ytgbejjeephipeaa.MFnStable
open Go.RowKit Go.Proofs.YtgbejjeephipeaaW.PrintWords Go.Proofs.YtgbejjeephipeaaW.PrintLast Go.Proofs.YtgbejjeephipeaaW.PrintMore Go.Proofs.Ytgbejjeephipeaa.MWords
attribute [local go_sem] max2_int min2_int max_two min_two max_three min_three max_four min_four   -- for this text's walks alone
set_option linter.unusedVariables false
set_option linter.unusedSimpArgs false

/-! ### spec_GraphPut: function 21 -/
mutual
def spec_GraphPut.l0 : Nat → Bool → Int → List (S33) → Int → Int → List (S31) → List (S33) → Option ((List (S33)) × Bool)
 | 0, _, _, _, _, _, _, _ => none
 | k + 1, x7, x8, x149000, x150000, x150001, x150002, x152000 => if x8 < (x149000.length : Int) then (if x7 = true then (spec_GraphPut.j1 k x7 x8 false x149000 x150000 x150001 x150002 x152000) else (if 0 ≤ x8 then ((spec_DotLess.f x150000 x150001 ((rd_T33 x149000 x8).f0.f0) ((rd_T33 x149000 x8).f0.f1)).bind fun t153 => (spec_GraphPut.j1 k x7 x8 t153 x149000 x150000 x150001 x150002 x152000)) else (none))) else (if x7 = true then (spec_GraphPut.j2 k x149000 x150000 x150001 x150002 x152000) else ((spec_l8CopyItem.f x150000 x150001 x150002).bind fun bt180 => (if x152000.length < 3518437208883 then (spec_GraphPut.j2 k x149000 x150000 x150001 x150002 (x152000 ++ [(⟨(⟨bt180.1, bt180.2.1⟩ : S31), bt180.2.2⟩ : S33)])) else (none))))
def spec_GraphPut.j1 : Nat → Bool → Int → Bool → List (S33) → Int → Int → List (S31) → List (S33) → Option ((List (S33)) × Bool)
 | 0, _, _, _, _, _, _, _, _ => none
 | k + 1, x7, x8, x29, x149000, x150000, x150001, x150002, x152000 => if x29 = true then ((spec_l8CopyItem.f x150000 x150001 x150002).bind fun bt154 => (if x152000.length < 3518437208883 then ((some (x152000 ++ [(⟨(⟨bt154.1, bt154.2.1⟩ : S31), bt154.2.2⟩ : S33)] : List (S33))).bind fun y159 => (if 0 ≤ x8 then (if x8 < (x149000.length : Int) then ((spec_l8CopyItem.f ((rd_T33 x149000 x8).f0.f0) ((rd_T33 x149000 x8).f0.f1) ((rd_T33 x149000 x8).f1)).bind fun bt163 => (if y159.length < 3518437208883 then (spec_GraphPut.l0 k true (wrap64 (x8 + 1)) x149000 x150000 x150001 x150002 (y159 ++ [(⟨(⟨bt163.1, bt163.2.1⟩ : S31), bt163.2.2⟩ : S33)])) else (none))) else (none)) else (none))) else (none))) else (if 0 ≤ x8 then (if x8 < (x149000.length : Int) then ((spec_l8CopyItem.f ((rd_T33 x149000 x8).f0.f0) ((rd_T33 x149000 x8).f0.f1) ((rd_T33 x149000 x8).f1)).bind fun bt172 => (if x152000.length < 3518437208883 then (spec_GraphPut.l0 k x7 (wrap64 (x8 + 1)) x149000 x150000 x150001 x150002 (x152000 ++ [(⟨(⟨bt172.1, bt172.2.1⟩ : S31), bt172.2.2⟩ : S33)])) else (none))) else (none)) else (none))
def spec_GraphPut.j2 : Nat → List (S33) → Int → Int → List (S31) → List (S33) → Option ((List (S33)) × Bool)
 | 0, _, _, _, _, _ => none
 | k + 1, x149000, x150000, x150001, x150002, x152000 => (spec_l8At.f k x149000 x150000 x150001).bind fun t188 => (if t188 ≥ 0 then (spec_GraphPut.j3 k true x149000 x152000) else ((spec_GraphOk.f k x152000).bind fun t189 => (spec_GraphPut.j3 k (!t189) x149000 x152000)))
def spec_GraphPut.j3 : Nat → Bool → List (S33) → List (S33) → Option ((List (S33)) × Bool)
 | 0, _, _, _ => none
 | k + 1, x66, x149000, x152000 => if x66 = true then ((spec_l8Copy.f k x149000).bind fun t190 => (some (t190, false))) else (some (x152000, true))
end
def spec_GraphPut.f (k : Nat) (l0_0 : List (S33)) (a1_0 : Int) (a1_1 : Int) (l1_2 : List (S31)) : Option ((List (S33)) × Bool) := spec_GraphPut.l0 k false 0 l0_0 a1_0 a1_1 l1_2 ([] : List (S33))
theorem spec_GraphPut.mono_l : ∀ k, (∀ y0 y1 y2 y3 y4 y5 y6, LeO (spec_GraphPut.l0 k y0 y1 y2 y3 y4 y5 y6) (spec_GraphPut.l0 (k + 1) y0 y1 y2 y3 y4 y5 y6)) ∧ (∀ y0 y1 y2 y3 y4 y5 y6 y7, LeO (spec_GraphPut.j1 k y0 y1 y2 y3 y4 y5 y6 y7) (spec_GraphPut.j1 (k + 1) y0 y1 y2 y3 y4 y5 y6 y7)) ∧ (∀ y0 y1 y2 y3 y4, LeO (spec_GraphPut.j2 k y0 y1 y2 y3 y4) (spec_GraphPut.j2 (k + 1) y0 y1 y2 y3 y4)) ∧ (∀ y0 y1 y2, LeO (spec_GraphPut.j3 k y0 y1 y2) (spec_GraphPut.j3 (k + 1) y0 y1 y2))
 | 0 => ⟨fun _ _ _ _ _ _ _ r h => by simp [spec_GraphPut.l0] at h, fun _ _ _ _ _ _ _ _ r h => by simp [spec_GraphPut.j1] at h, fun _ _ _ _ _ r h => by simp [spec_GraphPut.j2] at h, fun _ _ _ r h => by simp [spec_GraphPut.j3] at h⟩
 | k + 1 => by
  obtain ⟨ih0, ih1, ih2, ih3⟩ := spec_GraphPut.mono_l k
  refine ⟨?_, ?_, ?_, ?_⟩
  ·intro y0 y1 y2 y3 y4 y5 y6
   unfold spec_GraphPut.l0
   repeat' first
   | (with_reducible exact ih0 _ _ _ _ _ _ _)
   | (with_reducible exact ih1 _ _ _ _ _ _ _ _)
   | (with_reducible exact ih2 _ _ _ _ _)
   | (with_reducible exact ih3 _ _ _)
   | (with_reducible exact spec_GraphOk.mono _ _)
   | (with_reducible exact spec_l8At.mono _ _ _ _)
   | (with_reducible exact spec_l8Copy.mono _ _)
   | (with_reducible exact LeO.refl _)
   | (with_reducible exact LeO.none _)
   | (with_reducible refine LeO.ite ?_ ?_)
   | (with_reducible refine LeO.bind ?_ (fun _ => ?_))
   | exact ih0 _ _ _ _ _ _ _
   | exact ih1 _ _ _ _ _ _ _ _
   | exact ih2 _ _ _ _ _
   | exact ih3 _ _ _
   | exact spec_GraphOk.mono _ _
   | exact spec_l8At.mono _ _ _ _
   | exact spec_l8Copy.mono _ _
   | exact LeO.none _
   | refine LeO.ite ?_ ?_
   | refine LeO.bind ?_ (fun _ => ?_)
  ·intro y0 y1 y2 y3 y4 y5 y6 y7
   unfold spec_GraphPut.j1
   repeat' first
   | (with_reducible exact ih0 _ _ _ _ _ _ _)
   | (with_reducible exact ih1 _ _ _ _ _ _ _ _)
   | (with_reducible exact ih2 _ _ _ _ _)
   | (with_reducible exact ih3 _ _ _)
   | (with_reducible exact spec_GraphOk.mono _ _)
   | (with_reducible exact spec_l8At.mono _ _ _ _)
   | (with_reducible exact spec_l8Copy.mono _ _)
   | (with_reducible exact LeO.refl _)
   | (with_reducible exact LeO.none _)
   | (with_reducible refine LeO.ite ?_ ?_)
   | (with_reducible refine LeO.bind ?_ (fun _ => ?_))
   | exact ih0 _ _ _ _ _ _ _
   | exact ih1 _ _ _ _ _ _ _ _
   | exact ih2 _ _ _ _ _
   | exact ih3 _ _ _
   | exact spec_GraphOk.mono _ _
   | exact spec_l8At.mono _ _ _ _
   | exact spec_l8Copy.mono _ _
   | exact LeO.none _
   | refine LeO.ite ?_ ?_
   | refine LeO.bind ?_ (fun _ => ?_)
  ·intro y0 y1 y2 y3 y4
   unfold spec_GraphPut.j2
   repeat' first
   | (with_reducible exact ih0 _ _ _ _ _ _ _)
   | (with_reducible exact ih1 _ _ _ _ _ _ _ _)
   | (with_reducible exact ih2 _ _ _ _ _)
   | (with_reducible exact ih3 _ _ _)
   | (with_reducible exact spec_GraphOk.mono _ _)
   | (with_reducible exact spec_l8At.mono _ _ _ _)
   | (with_reducible exact spec_l8Copy.mono _ _)
   | (with_reducible exact LeO.refl _)
   | (with_reducible exact LeO.none _)
   | (with_reducible refine LeO.ite ?_ ?_)
   | (with_reducible refine LeO.bind ?_ (fun _ => ?_))
   | exact ih0 _ _ _ _ _ _ _
   | exact ih1 _ _ _ _ _ _ _ _
   | exact ih2 _ _ _ _ _
   | exact ih3 _ _ _
   | exact spec_GraphOk.mono _ _
   | exact spec_l8At.mono _ _ _ _
   | exact spec_l8Copy.mono _ _
   | exact LeO.none _
   | refine LeO.ite ?_ ?_
   | refine LeO.bind ?_ (fun _ => ?_)
  ·intro y0 y1 y2
   unfold spec_GraphPut.j3
   repeat' first
   | (with_reducible exact ih0 _ _ _ _ _ _ _)
   | (with_reducible exact ih1 _ _ _ _ _ _ _ _)
   | (with_reducible exact ih2 _ _ _ _ _)
   | (with_reducible exact ih3 _ _ _)
   | (with_reducible exact spec_GraphOk.mono _ _)
   | (with_reducible exact spec_l8At.mono _ _ _ _)
   | (with_reducible exact spec_l8Copy.mono _ _)
   | (with_reducible exact LeO.refl _)
   | (with_reducible exact LeO.none _)
   | (with_reducible refine LeO.ite ?_ ?_)
   | (with_reducible refine LeO.bind ?_ (fun _ => ?_))
   | exact ih0 _ _ _ _ _ _ _
   | exact ih1 _ _ _ _ _ _ _ _
   | exact ih2 _ _ _ _ _
   | exact ih3 _ _ _
   | exact spec_GraphOk.mono _ _
   | exact spec_l8At.mono _ _ _ _
   | exact spec_l8Copy.mono _ _
   | exact LeO.none _
   | refine LeO.ite ?_ ?_
   | refine LeO.bind ?_ (fun _ => ?_)
theorem spec_GraphPut.mono : ∀ a0 a1 a2 a3 k, LeO (spec_GraphPut.f k a0 a1 a2 a3) (spec_GraphPut.f (k + 1) a0 a1 a2 a3) := by
 intro a0 a1 a2 a3 k
 obtain ⟨ih0, ih1, ih2, ih3⟩ := spec_GraphPut.mono_l k
 unfold spec_GraphPut.f
 repeat' first
   | (with_reducible exact ih0 _ _ _ _ _ _ _)
   | (with_reducible exact ih1 _ _ _ _ _ _ _ _)
   | (with_reducible exact ih2 _ _ _ _ _)
   | (with_reducible exact ih3 _ _ _)
   | (with_reducible exact spec_GraphOk.mono _ _)
   | (with_reducible exact spec_l8At.mono _ _ _ _)
   | (with_reducible exact spec_l8Copy.mono _ _)
   | (with_reducible exact LeO.refl _)
   | (with_reducible exact LeO.none _)
   | (with_reducible refine LeO.ite ?_ ?_)
   | (with_reducible refine LeO.bind ?_ (fun _ => ?_))
   | exact ih0 _ _ _ _ _ _ _
   | exact ih1 _ _ _ _ _ _ _ _
   | exact ih2 _ _ _ _ _
   | exact ih3 _ _ _
   | exact spec_GraphOk.mono _ _
   | exact spec_l8At.mono _ _ _ _
   | exact spec_l8Copy.mono _ _
   | exact LeO.none _
   | refine LeO.ite ?_ ?_
   | refine LeO.bind ?_ (fun _ => ?_)
def spec_GraphPut.T6 : Bool × List (List Nat × List Nat) := (true, [([], []), ([0], [0]), ([1], [1]), ([2], [2]), ([3, 2], [2, 3]), ([2], [2]), ([5, 2], [2, 5]), ([2], [2]), ([6, 7, 2], [2, 6, 7]), ([8, 2], [2, 8]), ([9, 2], [2, 9]), ([4, 10, 2, 2], [2, 4, 10]), ([2, 11], [2, 11])])
def spec_GraphPut.B6 : List Nat := [0, 1, 3, 7, 15, 7, 39, 7, 231, 487, 999, 2047, 4095]
theorem spec_GraphPut.tab6 : rtab .any (opsOf Try.f21 6) = spec_GraphPut.T6 := by kernel_rfl
theorem spec_GraphPut.bits6 : waitsOk spec_GraphPut.T6.2 spec_GraphPut.B6 = true := by kernel_rfl
def spec_GraphPut.T7 : Bool × List (List Nat × List Nat) := (true, [([], []), ([0], [0]), ([], []), ([2], [2]), ([3], [3]), ([1, 4, 3], [1, 4]), ([0, 1, 2, 3, 4, 5], []), ([6, 5, 5, 0, 1, 2, 3, 4, 5], [5, 6])])
def spec_GraphPut.B7 : List Nat := [0, 1, 0, 4, 12, 31, 63, 127]
theorem spec_GraphPut.tab7 : rtab .any (opsOf Try.f21 7) = spec_GraphPut.T7 := by kernel_rfl
theorem spec_GraphPut.bits7 : waitsOk spec_GraphPut.T7.2 spec_GraphPut.B7 = true := by kernel_rfl
def spec_GraphPut.T9 : Bool × List (List Nat × List Nat) := (true, [([], []), ([0], [0]), ([], []), ([2], [2]), ([], []), ([3, 4], [3, 4]), ([5], [5]), ([6], [6]), ([7], [7]), ([1, 8, 7], [1, 8]), ([0, 1, 2, 3, 4, 5, 6, 7, 8, 9], []), ([10, 9, 9, 0, 1, 2, 3, 4, 5, 6, 7, 8, 9], [9, 10])])
def spec_GraphPut.B9 : List Nat := [0, 1, 0, 4, 0, 28, 60, 124, 252, 511, 1023, 2047]
theorem spec_GraphPut.tab9 : rtab .any (opsOf Try.f21 9) = spec_GraphPut.T9 := by kernel_rfl
theorem spec_GraphPut.bits9 : waitsOk spec_GraphPut.T9.2 spec_GraphPut.B9 = true := by kernel_rfl
def spec_GraphPut.T11 : Bool × List (List Nat × List Nat) := (true, [([], []), ([0], [0]), ([], []), ([2], [2]), ([3], [3]), ([1, 4, 3], [1, 4]), ([0, 1, 2, 3, 4, 5], []), ([6, 5, 5, 0, 1, 2, 3, 4, 5], [5, 6])])
def spec_GraphPut.B11 : List Nat := [0, 1, 0, 4, 12, 31, 63, 127]
theorem spec_GraphPut.tab11 : rtab .any (opsOf Try.f21 11) = spec_GraphPut.T11 := by kernel_rfl
theorem spec_GraphPut.bits11 : waitsOk spec_GraphPut.T11.2 spec_GraphPut.B11 = true := by kernel_rfl
set_option maxHeartbeats 8000000 in
set_option maxRecDepth 100000 in
theorem spec_GraphPut.calls (k : Nat) (A0_0 : Option Addr) (c0_0 : Nat) (l0_0 : List (S33)) (a1_0 : Int) (a1_1 : Int) (A1_2 : Option Addr) (c1_2 : Nat) (l1_2 : List (S31)) (r1 : List (S33)) (r2 : Bool) (w : World) (hr0_0 : Kd.C k33 w A0_0 l0_0.length l0_0) (hc0_0 : l0_0.length ≤ c0_0) (hr1_2 : Kd.C k31 w A1_2 l1_2.length l1_2) (hc1_2 : l1_2.length ≤ c1_2) (h : spec_GraphPut.f k l0_0 a1_0 a1_1 l1_2 = some (r1, r2)) :
  Calls Try.prog 21 #[.agg #[.slice A0_0 l0_0.length c0_0], .agg #[.int .i64 a1_0, .int .i64 a1_1, .slice A1_2 l1_2.length c1_2]] w fun e w' => ∃ v0_ : Value, e = .returned (.tuple #[.agg #[v0_], .bool r2]) ∧ Kd.S k33 33 w' w.heap.size (fun _ => True) v0_ r1 ∧ Below w.heap.size w w' := by
 have hu26 := Try.underlying26
 have hfd26 : ∀ (v : Value) (w : World), (Instr.field 26 (.agg #[v]) 0).run Try.prog w = .ok v w := fun _ _ => by first | kernel_rfl | rfl
 have hu33 := Try.underlying33
 have hu31 := Try.underlying31
 have HR0_0 := mS hr0_0
 have HC0_0 := mS hc0_0
 clear hr0_0 hc0_0
 have HR1_2 := mS hr1_2
 have HC1_2 := mS hc1_2
 clear hr1_2 hc1_2
 have HB := mS (Below.refl w.heap.size w)
 have H : (spec_GraphPut.l0 k false 0 l0_0 a1_0 a1_1 l1_2 ([] : List (S33))) = some (r1, r2) := h
 clear h
 have H' := mS H
 clear H
 go_enter Try.func21, Try.ntmps21
 go_wp2_with (first | ((with_reducible refine gate_dst (N := 2) rfl ?_); refine mBx 2 #[.slice A0_0 l0_0.length c0_0] 26 ?_; intro gb148 hg w3 hbox hb; have BK148 := mS (hbox); have GW148 := mG hg (mH HB.out); have GE148 := mG hg (mH HB.out); replace HB := mS (below_step (mH HB.out) hb); clear hb hbox hg) | ((with_reducible refine gate_dst (N := 3) rfl ?_); refine mBx 3 #[.int .i64 a1_0, .int .i64 a1_1, .slice A1_2 l1_2.length c1_2] 33 ?_; intro gb149 hg w4 hbox hb; have BK149 := mS (hbox); have GW149 := mG hg (mH1 HB.out GE148.out); have GE149 := mG hg (mH1 HB.out GE148.out); replace HB := mS (below_step (mH1 HB.out GE148.out) hb); have NB148_149 := mNl hg BK148.out; have NB149_148 := mNg hg BK148.out; replace BK148 := mB BK148 hb; clear hb hbox hg) | ((with_reducible refine gate_dst (N := 4) rfl ?_); refine mBx 4 #[.slice none 0 0] 26 ?_; intro gb150 hg w5 hbox hb; have BK150 := mS (hbox); have GW150 := mG hg (mH2 HB.out GE148.out GE149.out); have GE150 := mG hg (mH2 HB.out GE148.out GE149.out); replace HB := mS (below_step (mH2 HB.out GE148.out GE149.out) hb); have NB148_150 := mNl hg BK148.out; have NB150_148 := mNg hg BK148.out; replace BK148 := mB BK148 hb; have NB149_150 := mNl hg BK149.out; have NB150_149 := mNg hg BK149.out; replace BK149 := mB BK149 hb; clear hb hbox hg) | ((with_reducible refine gate_dst (N := 6) rfl ?_); refine mBx 6 #[.slice none 0 0] 26 ?_; intro gb151 hg w6 hbox hb; have BK151 := mS (hbox); have GW151 := mG hg (mH3 HB.out GE148.out GE149.out GE150.out); have GE151 := mG hg (mH3 HB.out GE148.out GE149.out GE150.out); replace HB := mS (below_step (mH3 HB.out GE148.out GE149.out GE150.out) hb); have NB148_151 := mNl hg BK148.out; have NB151_148 := mNg hg BK148.out; replace BK148 := mB BK148 hb; have NB149_151 := mNl hg BK149.out; have NB151_149 := mNg hg BK149.out; replace BK149 := mB BK149 hb; have NB150_151 := mNl hg BK150.out; have NB151_150 := mNg hg BK150.out; replace BK150 := mB BK150 hb; clear hb hbox hg; have hnb7 := NB151_148.out; have hnc7 := NB148_151.out; have hnb8 := NB151_149.out; have hnc8 := NB149_151.out; have hnb9 := NB151_150.out; have hnc9 := NB150_151.out; have hcz10_0 := mZ BK151.out 0; have hfz10_0 := blk_frozen BK151.out 0))
 go_loopg [7, 8] k (fun kq v7 v8 w' => ∃ (x7_1 : Bool) (x8_1 : Int) (x152000_1 : List (S33)) (u152000 : Value), v7 = .bool x7_1 ∧ v8 = .int .i64 x8_1 ∧ Aside0 (spec_GraphPut.l0 kq x7_1 x8_1 l0_0 a1_0 a1_1 l1_2 x152000_1 = some (r1, r2)) ∧ Aside0 (kq ≤ k) ∧ Aside0 (Kd.S k33 33 w' w.heap.size (fun k_ => k_ ≠ gb149) u152000 x152000_1) ∧ Aside0 (w'.heap[gb148]? = some (.cells #[(.slice A0_0 l0_0.length c0_0)] 26 (0, 0))) ∧ Aside0 (w'.heap[gb149]? = some (.cells #[.int .i64 a1_0, .int .i64 a1_1, (.slice A1_2 l1_2.length c1_2)] 33 (0, 0))) ∧ Aside0 (w'.heap[gb150]? = some (.cells #[(.slice none 0 0)] 26 (0, 0))) ∧ Aside0 (w'.heap[gb151]? = some (.cells #[u152000] 26 (0, 0))) ∧ Aside0 (Below w.heap.size w w'))
 case atStart => exact ⟨(false), (0), (([] : List (S33))), (.slice none 0 0), mE, mE, H', ⟨Nat.le_refl _⟩, ⟨by first | exact Kd.S_nil _ _ _ _ _ | exact Kd.N_nil _ _ _ _ _ | exact Kd.V_nil _ _ _ _ _ | exact Kd.Q_nil _ _ _ _ _ | exact Kd.R_nil _ _ _ _ _⟩, ⟨mKf NB148_151.out BK148.out⟩, ⟨mKf NB149_151.out BK149.out⟩, ⟨mKf NB150_151.out BK150.out⟩, ⟨by refine mK ?_; refine blk_put (cs := #[.slice none 0 0]) ?_ 0 _ rfl; refine mK ?_; exact BK151.out⟩, ⟨(mH4 HB.out GE148.out GE149.out GE150.out GE151.out)⟩⟩
 case round =>
  clear H'
  try clear c1
  try clear c2
  try clear p2
  try clear c7
  try clear c8
  try clear c9
  try clear hcz10_0
  try clear hfz10_0
  obtain ⟨x7_1, x8_1, x152000_1, u152000, rfl, rfl, HA, HK1, HO_152000, BK148, BK149, BK150, BK151, HB⟩ := hrel
  cases gk with
  | zero => exact absurd HA.out (by simp [spec_GraphPut.l0])
  | succ k1 =>
   have H := HA.out
   clear HA
   simp only [spec_GraphPut.l0] at H
   by_cases c11 : x8_1 < (l0_0.length : Int)
   ·rw [if_pos c11] at H
    have c11b0 := decide_eq_true c11
    clear c11
    have HC12 := mS H
    clear H
    have hnb13 := NB148_149.out
    have hnc13 := NB149_148.out
    have hnb14 := NB148_150.out
    have hnc14 := NB150_148.out
    have hnb15 := NB148_151.out
    have hnc15 := NB151_148.out
    have hcz16_0 := mZ BK148.out 0
    have hfz16_0 := blk_frozen BK148.out 0
    go_upto_region 6 with (fail)
    go_cut [29] (fun v29 wc => ∃ (kq : Nat) (x29_11 : Bool), v29 = .bool x29_11 ∧ Aside0 (spec_GraphPut.j1 kq x7_1 x8_1 x29_11 l0_0 a1_0 a1_1 l1_2 x152000_1 = some (r1, r2)) ∧ Aside0 (kq ≤ k1) ∧ Aside0 (Kd.S k33 33 wc w.heap.size (fun k_ => k_ ≠ gb149) u152000 x152000_1) ∧ Aside0 (wc.heap[gb148]? = some (.cells #[(.slice A0_0 l0_0.length c0_0)] 26 (0, 0))) ∧ Aside0 (wc.heap[gb149]? = some (.cells #[.int .i64 a1_0, .int .i64 a1_1, (.slice A1_2 l1_2.length c1_2)] 33 (0, 0))) ∧ Aside0 (wc.heap[gb150]? = some (.cells #[(.slice none 0 0)] 26 (0, 0))) ∧ Aside0 (wc.heap[gb151]? = some (.cells #[u152000] 26 (0, 0))) ∧ Aside0 (Below w.heap.size w wc))
    case first =>
     have H := HC12.out
     clear HC12
     by_cases c17 : x7_1 = true
     ·subst c17
      have H1 := H
      rw [if_pos rfl] at H1
      clear H
      have H := H1
      clear H1
      have H' := mS H
      clear H
      try go_wp2
      replace HO_152000 := mS (Kd.S_drew HO_152000.out)
      replace BK148 := mS (blk_drew BK148.out)
      replace BK149 := mS (blk_drew BK149.out)
      replace BK150 := mS (blk_drew BK150.out)
      replace BK151 := mS (blk_drew BK151.out)
      replace HB := mS (below_drew1 HB.out)
      refine start_ (n := 13) (S := fun w' => True) (ds := []) (mb 0 13) (by kernel_rfl) rfl rfl trivial (fun hHeld => ?_); refine with_tabW spec_GraphPut.tab6 spec_GraphPut.bits6 (fun HT_ HW_ => ?_)
      generalize wr.drew = w18 at HO_152000 BK148 BK149 BK150 BK151 HB hHeld ⊢
      refine mpu 0 17 HT_.out (mb 1 12) ?_
      refine mpu 1 18 HT_.out (mb 2 11) ?_
      refine mpu 2 19 HT_.out (mb 3 10) ?_
      refine mpf 3 20 HT_.out (mb 4 9) ?_
      refine mpf 4 21 HT_.out (mb 5 8) ?_
      refine mpf 5 22 HT_.out (mb 6 7) ?_
      refine mpf 6 23 HT_.out (mb 7 6) ?_
      refine mpf 7 24 HT_.out (mb 8 5) ?_
      refine mpf 8 25 HT_.out (mb 9 4) ?_
      refine mpf 9 26 HT_.out (mb 10 3) ?_
      refine mpf 10 27 HT_.out (mb 11 2) ?_
      refine mpf 11 28 HT_.out (mb 12 1) ?_
      refine mpu 12 29 HT_.out (mb 13 0) ?_
      refine done_ (done_of HT_.out (by kernel_rfl)) ?_
      try go_wp2
      go_meet
      case rel => exact ⟨_, (false), mE, H', ⟨by have := HK1.out; first | omega | exact Nat.le_refl _⟩, ⟨mSd HO_152000.out⟩, ⟨mK BK148.out⟩, ⟨mK BK149.out⟩, ⟨mK BK150.out⟩, ⟨mK BK151.out⟩, ⟨(mH4 HB.out GE148.out GE149.out GE150.out GE151.out)⟩⟩
     ·replace c17 := Bool.eq_false_iff.mpr c17
      subst c17
      have H1 := H
      rw [if_neg (show ¬ (false = true) by decide)] at H1
      clear H
      have H := H1
      clear H1
      by_cases c19 : 0 ≤ x8_1
      ·rw [if_pos c19] at H
       have c19b0 := decide_eq_true c19
       clear c19
       (first | rw [c19b0] | (simp only [i64_w, i32_w]; rw [c19b0]) | skip)
       replace H := Option.bind_eq_some_iff.mp H
       obtain ⟨t153, A200, H⟩ := H
       replace H : (spec_GraphPut.j1 k1 false x8_1 t153 l0_0 a1_0 a1_1 l1_2 x152000_1) = some (r1, r2) := H
       have A20 := mS A200
       clear A200
       have H' := mS H
       clear H
       try go_wp2
       replace HO_152000 := mS (Kd.S_drew HO_152000.out)
       replace BK148 := mS (blk_drew BK148.out)
       replace BK149 := mS (blk_drew BK149.out)
       replace BK150 := mS (blk_drew BK150.out)
       replace BK151 := mS (blk_drew BK151.out)
       replace HB := mS (below_drew1 HB.out)
       have p152 : 0 ≤ (x8_1 : Int) := mD
       have q152 : x8_1 < (l0_0.length : Int) := mD
       obtain ⟨ad152, A152_2, c152_2, e152, hx152_0, hx152_1, hx152_2, hl152_2, hi152_2⟩ := at_T33 HR0_0.out x8_1 p152 q152
       have hw152_2 := hx152_2
       have hw152_1 := hx152_1
       have hw152_0 := hx152_0
       cases e152
       replace hx152_0 := mX HB.out hx152_0
       replace hx152_1 := mX HB.out hx152_1
       replace hx152_2 := mX HB.out hx152_2
       have HR152_2 := mS hi152_2
       have HC152_2 := mS hl152_2
       clear hi152_2 hl152_2
       replace p152 := eq_true p152
       replace q152 := eq_true q152
       refine start_ (n := 13) (S := fun w' => w'.cell? ⟨gb149, 0, none⟩ = some (.int .i64 a1_0) ∧ w'.cell? ⟨gb149, 1, none⟩ = some (.int .i64 a1_1) ∧ w'.cell? ⟨gb149, 2, none⟩ = some (.slice A1_2 l1_2.length c1_2) ∧ w'.cell? ⟨gb148, 0, none⟩ = some (.slice (some ad152) l0_0.length c0_0) ∧ w'.cell? (ad152.add ((x8_1).toNat * 3)) = some (.int .i64 ((rd_T33 l0_0 x8_1).f0.f0)) ∧ w'.cell? ⟨(ad152.add ((x8_1).toNat * 3)).block, (ad152.add ((x8_1).toNat * 3)).off + 1, none⟩ = some (.int .i64 ((rd_T33 l0_0 x8_1).f0.f1)) ∧ w'.cell? ⟨(ad152.add ((x8_1).toNat * 3)).block, (ad152.add ((x8_1).toNat * 3)).off + 2, none⟩ = some (.slice A152_2 ((rd_T33 l0_0 x8_1).f1).length c152_2)) (ds := []) (mb 0 13) (by kernel_rfl) rfl rfl (mb3 BK149.out ⟨mZ BK148.out 0, ⟨(mX HB.out hw152_0 :), ⟨(mX HB.out hw152_1 :), (mX HB.out hw152_2 :)⟩⟩⟩) (fun hHeld => ?_); refine with_tabW spec_GraphPut.tab6 spec_GraphPut.bits6 (fun HT_ HW_ => ?_)
       generalize wr.drew = w21 at HO_152000 BK148 BK149 BK150 BK151 HB HR152_2 hx152_0 hx152_1 hx152_2 hHeld ⊢
       refine mpu 0 17 HT_.out (mb 1 12) ?_
       refine mpu 1 18 HT_.out (mb 2 11) ?_
       refine mpu 2 19 HT_.out (mb 3 10) ?_
       refine mpu 3 20 HT_.out (mb 4 9) ?_
       refine mpu 5 22 HT_.out (mr [4,1,1,7]) ?_
       refine mpu 7 24 HT_.out (mr [4,1,1,1,1,5]) ?_
       refine mpt 4 21 HT_.out HW_.out (mr [6,1,1,5]) hHeld ?_
       refine mpt 6 23 HT_.out HW_.out (mb 8 5) hHeld ?_
       refine mpu 8 25 HT_.out (mb 9 4) ?_
       refine mpu 9 26 HT_.out (mb 10 3) ?_
       refine mpt 10 27 HT_.out HW_.out (mb 11 2) hHeld ?_
       refine mone 11 (some 28) HT_.out (mb 12 1) (fun K hK => ?_)
       refine goes_ Try.func70 (by kernel_rfl) rfl #[.agg #[.int .i64 a1_0, .int .i64 a1_1], .agg #[.int .i64 ((rd_T33 l0_0 x8_1).f0.f0), .int .i64 ((rd_T33 l0_0 x8_1).f0.f1)]] (by rfl) rfl rfl mA ?_
       with_reducible refine (spec_DotLess.calls a1_0 a1_1 ((rd_T33 l0_0 x8_1).f0.f0) ((rd_T33 l0_0 x8_1).f0.f1) t153 _ A20.out).mono ?_
       rintro e w22 ⟨rfl, hb⟩
       refine ⟨_, rfl, ?_⟩
       replace HO_152000 := mS (Kd.S_below (mSd HO_152000.out) hb)
       replace BK148 := mB BK148 hb
       replace BK149 := mB BK149 hb
       replace BK150 := mB BK150 hb
       replace BK151 := mB BK151 hb
       replace HB := mS (below_step (mH4 HB.out GE148.out GE149.out GE150.out GE151.out) hb)
       (try clear hb)
       (try clear hb2)
       (try clear hk)
       (try clear hi)
       refine hK.out _ _ (mb3 BK149.out ⟨mZ BK148.out 0, ⟨(mX HB.out hw152_0 :), ⟨(mX HB.out hw152_1 :), (mX HB.out hw152_2 :)⟩⟩⟩) (fun hHeld => ?_)
       clear hK K
       refine mno 28 ?_
       refine mpu 12 29 HT_.out (mb 13 0) ?_
       refine done_ (done_of HT_.out (by kernel_rfl)) ?_
       try go_wp2
       go_meet
       case rel => exact ⟨_, (t153), mE, H', ⟨by have := HK1.out; first | omega | exact Nat.le_refl _⟩, ⟨mSd HO_152000.out⟩, ⟨mK BK148.out⟩, ⟨mK BK149.out⟩, ⟨mK BK150.out⟩, ⟨mK BK151.out⟩, ⟨(mH4 HB.out GE148.out GE149.out GE150.out GE151.out)⟩⟩
      ·rw [if_neg c19] at H
       exact absurd H (by simp)
    case rest =>
     clear HC12
     try clear c1
     try clear p1
     try clear q1
     try clear hx1
     try clear c2
     try clear p2
     try clear c7
     try clear c8
     try clear c9
     try clear c11
     try clear c11b0
     try clear c13
     try clear c14
     try clear c15
     try clear p15
     try clear q15
     try clear hx15
     try clear c17
     try clear c19
     try clear c19b0
     try clear c21
     try clear hcz10_0
     try clear hcz16_0
     try clear hfz10_0
     try clear hfz16_0
     try clear hx152_0
     try clear hx152_1
     try clear hx152_2
     try clear p152
     try clear p2
     try clear q152
     obtain ⟨kq, x29_11, rfl, HA, HJ11, HO_152000, BK148, BK149, BK150, BK151, HB⟩ := hcut
     cases kq with
     | zero => exact absurd HA.out (by simp [spec_GraphPut.j1])
     | succ kj11 =>
      have H := HA.out
      clear HA
      simp only [spec_GraphPut.j1] at H
      by_cases c23 : x29_11 = true
      ·subst c23
       have H1 := H
       rw [if_pos rfl] at H1
       clear H
       have H := H1
       clear H1
       replace H := Option.bind_eq_some_iff.mp H
       obtain ⟨⟨t154, t155, t156⟩, A240, H⟩ := H
       replace H : (if x152000_1.length < 3518437208883 then ((some (x152000_1 ++ [(⟨(⟨t154, t155⟩ : S31), t156⟩ : S33)] : List (S33))).bind fun y159 => (if 0 ≤ x8_1 then (if x8_1 < (l0_0.length : Int) then ((spec_l8CopyItem.f ((rd_T33 l0_0 x8_1).f0.f0) ((rd_T33 l0_0 x8_1).f0.f1) ((rd_T33 l0_0 x8_1).f1)).bind fun bt163 => (if y159.length < 3518437208883 then (spec_GraphPut.l0 kj11 true (wrap64 (x8_1 + 1)) l0_0 a1_0 a1_1 l1_2 (y159 ++ [(⟨(⟨bt163.1, bt163.2.1⟩ : S31), bt163.2.2⟩ : S33)])) else (none))) else (none)) else (none))) else (none)) = some (r1, r2) := H
       have A24 := mS A240
       clear A240
       by_cases c25 : x152000_1.length < 3518437208883
       ·rw [if_pos c25] at H
        have LMc25 := mS c25
        clear c25
        obtain ⟨y159, hy159⟩ : ∃ y_ : List (S33), y_ = (x152000_1 ++ [(⟨(⟨t154, t155⟩ : S31), t156⟩ : S33)]) := ⟨_, rfl⟩
        replace H : (if 0 ≤ x8_1 then (if x8_1 < (l0_0.length : Int) then ((spec_l8CopyItem.f ((rd_T33 l0_0 x8_1).f0.f0) ((rd_T33 l0_0 x8_1).f0.f1) ((rd_T33 l0_0 x8_1).f1)).bind fun bt163 => (if y159.length < 3518437208883 then (spec_GraphPut.l0 kj11 true (wrap64 (x8_1 + 1)) l0_0 a1_0 a1_1 l1_2 (y159 ++ [(⟨(⟨bt163.1, bt163.2.1⟩ : S31), bt163.2.2⟩ : S33)])) else (none))) else (none)) else (none)) = some (r1, r2) := by first | (rw [hy159]; with_reducible exact H) | (have H2_ := (Option.bind_some _ _).symm.trans H; rw [hy159]; with_reducible exact H2_) | (have H2_ := (Option.bind_some _ _).symm.trans H; with_reducible exact H2_) | with_reducible exact H | (rw [hy159]; exact H) | exact H
        have Ny159 := mS hy159
        clear hy159
        by_cases c26 : 0 ≤ x8_1
        ·rw [if_pos c26] at H
         have c26b0 := decide_eq_true c26
         clear c26
         by_cases c27 : x8_1 < (l0_0.length : Int)
         ·rw [if_pos c27] at H
          have c27b0 := decide_eq_true c27
          clear c27
          replace H := Option.bind_eq_some_iff.mp H
          obtain ⟨⟨t163, t164, t165⟩, A280, H⟩ := H
          replace H : (if y159.length < 3518437208883 then (spec_GraphPut.l0 kj11 true (wrap64 (x8_1 + 1)) l0_0 a1_0 a1_1 l1_2 (y159 ++ [(⟨(⟨t163, t164⟩ : S31), t165⟩ : S33)])) else (none)) = some (r1, r2) := H
          have A28 := mS A280
          clear A280
          by_cases c29 : y159.length < 3518437208883
          ·rw [if_pos c29] at H
           have LMc29 := mS c29
           clear c29
           obtain ⟨y168, hy168⟩ : ∃ y_ : List (S33), y_ = (y159 ++ [(⟨(⟨t163, t164⟩ : S31), t165⟩ : S33)]) := ⟨_, rfl⟩
           replace H : (spec_GraphPut.l0 kj11 true (wrap64 (x8_1 + 1)) l0_0 a1_0 a1_1 l1_2 y168) = some (r1, r2) := by first | (rw [hy168]; with_reducible exact H) | (have H2_ := (Option.bind_some _ _).symm.trans H; rw [hy168]; with_reducible exact H2_) | (have H2_ := (Option.bind_some _ _).symm.trans H; with_reducible exact H2_) | with_reducible exact H | (rw [hy168]; exact H) | exact H
           have Ny168 := mS hy168
           clear hy168
           have H' := mS H
           clear H
           try go_wp2
           replace HO_152000 := mS (Kd.S_drew HO_152000.out)
           replace BK148 := mS (blk_drew BK148.out)
           replace BK149 := mS (blk_drew BK149.out)
           replace BK150 := mS (blk_drew BK150.out)
           replace BK151 := mS (blk_drew BK151.out)
           replace HB := mS (below_drew1 HB.out)
           refine start_ (n := 8) (S := fun w' => w'.cell? ⟨gb151, 0, none⟩ = some (u152000) ∧ w'.cell? ⟨gb149, 0, none⟩ = some (.int .i64 a1_0) ∧ w'.cell? ⟨gb149, 1, none⟩ = some (.int .i64 a1_1) ∧ w'.cell? ⟨gb149, 2, none⟩ = some (.slice A1_2 l1_2.length c1_2)) (ds := [7]) (mb 0 8) (by kernel_rfl) rfl rfl ⟨mZ BK151.out 0, mc3 BK149.out⟩ (fun hHeld => ?_); refine with_tabW spec_GraphPut.tab7 spec_GraphPut.bits7 (fun HT_ HW_ => ?_)
           generalize wc.drew = w30 at HO_152000 BK148 BK149 BK150 BK151 HB hHeld ⊢
           refine mpu 0 30 HT_.out (mb 1 7) ?_
           refine mpt 1 31 HT_.out HW_.out (mb 2 6) hHeld ?_
           refine mpt 2 32 HT_.out HW_.out (mb 3 5) hHeld ?_
           refine mone 3 (some 33) HT_.out (mb 4 4) (fun K hK => ?_)
           refine goes_ Try.func71 (by kernel_rfl) rfl #[.agg #[.int .i64 a1_0, .int .i64 a1_1, .slice A1_2 l1_2.length c1_2]] (by rfl) rfl rfl mA ?_
           with_reducible refine (spec_l8CopyItem.calls a1_0 a1_1 _ _ l1_2 t154 t155 t156 _ ?side1 ?side2 A24.out).mono ?_
           (case side1 => exact mC (Kd.C_below HR1_2.out HB.out))
           (case side2 => exact HC1_2.out)
           rintro e w31 ⟨v157, rfl, ho0, hb⟩
           refine ⟨_, rfl, ?_⟩
           replace HO_152000 := mS (Kd.S_elder' (mSd HO_152000.out) (Kd.R_base ho0) hb)
           have HO158 := mS (Kd.R_lower ho0 (below_size (mH4 HB.out GE148.out GE149.out GE150.out GE151.out)))
           replace BK148 := mB BK148 hb
           replace BK149 := mB BK149 hb
           replace BK150 := mB BK150 hb
           replace BK151 := mB BK151 hb
           replace HB := mS (below_step (mH4 HB.out GE148.out GE149.out GE150.out GE151.out) hb)
           (try clear hb)
           (try clear hb2)
           (try clear hk)
           (try clear hi)
           (try clear ho0)
           obtain ⟨Ao33, co33, eo33⟩ := Kd.R_slice HO158.out
           (first | subst eo33 | (injection eo33 with f1_ f2_ f3_; have f4_ := f1_.symm; have f5_ := f3_.symm; clear f1_ f2_ f3_; subst f4_; subst f5_))
           refine hK.out _ _ ⟨mZ BK151.out 0, mc3 BK149.out⟩ (fun hHeld => ?_)
           clear hK K
           refine mno 33 ?_
           refine mone 4 (some 34) HT_.out (mb 5 3) (fun K hK => ?_)
           refine value_ (w1 := ?_) (v := ?_) (by rfl) rfl ?_ ?_
           rotate_left 2
           ·go_simp
            constructor
            ·rfl
            ·rfl
           refine hK.out _ _ ⟨(blk_cell (blk_alloc BK151.out _) 0).trans rfl, (blk_cell (blk_alloc BK149.out _) 0).trans rfl, (blk_cell (blk_alloc BK149.out _) 1).trans rfl, (blk_cell (blk_alloc BK149.out _) 2).trans rfl⟩ (fun hHeld => ?_)
           clear hK K
           refine mno 34 ?_
           refine mone 5 (some 35) HT_.out (mb 6 2) (fun K hK => ?_)
           refine Kd.S_append_step k33 (w0 := w) w.heap.size (by rfl) (.tmp 31) (.tmp 34) 24 33 (.agg #[(.int .i64 0), (.int .i64 0), (.slice none 0 0)]) 40 rfl Try.underlying24 info33 rfl (by decide) (by omega) u152000 x152000_1 (⟨(⟨t154, t155⟩ : S31), t156⟩ : S33) [.int .i64 t154, .int .i64 t155, .slice Ao33 t156.length co33] (fun k_ => k_ ≠ gb149) (fun k_ => some k_ = (.slice Ao33 t156.length co33 : Value).ownBlock) rfl rfl ?aP (fun k_ hk_ => ((Kd.R_mono (ok' := fun k_ => ((fun k_ => k_ ≠ gb149)) k_ ∧ some k_ ≠ (u152000 : Value).ownBlock) (Kd.R_types (Kd.R_apart' (HO158.out) (Kd.S_typed HO_152000.out) (by decide)) BK149.out (by decide)) (fun k_ hk => ⟨hk.2, hk.1.2⟩))).1 k_ hk_.symm) ?aF ?aO ?aB ?aS ?aL ?_
           (case aP => exact k33_mkM _ _ _ (⟨(⟨t154, t155⟩ : S31), t156⟩ : S33) (Kd.R_mono (Kd.R_tight rfl (Kd.R_mono (ok' := fun k_ => ((fun k_ => k_ ≠ gb149)) k_ ∧ some k_ ≠ (u152000 : Value).ownBlock) (Kd.R_types (Kd.R_apart' (HO158.out) (Kd.S_typed HO_152000.out) (by decide)) BK149.out (by decide)) (fun k_ hk => ⟨hk.2, hk.1.2⟩))) (fun _ h_ => h_)))
           (case aB => exact (mH4 HB.out GE148.out GE149.out GE150.out GE151.out))
           (case aF => exact (fun k_ hk => Kd.freshB (g := gb149) (o := .cells #[.int .i64 a1_0, .int .i64 a1_1, .slice A1_2 l1_2.length c1_2] 33 (0, 0)) (mK BK149.out) k_ hk))
           (case aO => exact (by refine mSd ?_; exact Kd.S_mono HO_152000.out (fun k_ hk => ⟨hk.1, fun e_ => hk.2 e_⟩)))
           (case aS => exact (below_size (mH4 HB.out GE148.out GE149.out GE150.out GE151.out)))
           (case aL => have := LMc25.out; omega)
           intro v160 w32 ho hb hg hat
           rw [← Ny159.out] at ho
           replace BK148 := mS (blk_grown (g := gb148) (o := .cells #[.slice A0_0 l0_0.length c0_0] 26 (0, 0)) (mK BK148.out) hg (Kd.S_ne HO_152000.out BK148.out (by decide)))
           replace BK149 := mS (blk_grown (g := gb149) (o := .cells #[.int .i64 a1_0, .int .i64 a1_1, .slice A1_2 l1_2.length c1_2] 33 (0, 0)) (mK BK149.out) hg (Kd.S_away HO_152000.out (fun _ hk => hk.1)))
           replace BK150 := mS (blk_grown (g := gb150) (o := .cells #[.slice none 0 0] 26 (0, 0)) (mK BK150.out) hg (Kd.S_ne HO_152000.out BK150.out (by decide)))
           replace BK151 := mS (blk_grown (g := gb151) (o := .cells #[u152000] 26 (0, 0)) (mK BK151.out) hg (Kd.S_ne HO_152000.out BK151.out (by decide)))
           replace HB := mS (hb)
           have HO161 := mS (ho)
           clear HO_152000
           clear HO158
           clear ho hb hg hat
           obtain ⟨Ao34, co34, eo34⟩ := Kd.S_slice HO161.out
           (first | subst eo34 | (injection eo34 with f1_ f2_ f3_; have f4_ := f1_.symm; have f5_ := f3_.symm; clear f1_ f2_ f3_; subst f4_; subst f5_))
           refine hK.out _ _ ⟨mZ BK151.out 0, mc3 BK149.out⟩ (fun hHeld => ?_)
           clear hK K
           refine mno 35 ?_
           refine mpu 6 36 HT_.out (mb 7 1) ?_
           refine last_ (i := 7) (N := none) (mb 8 0) rfl rfl (one_of HT_.out (by kernel_rfl)) (by decide) (fun K hK => ?_)
           have hs35 : w32.cell? ⟨gb151, 0, none⟩ = some (u152000) := mZ BK151.out 0
           have hfs35 := blk_frozen BK151.out 0
           have hns35_0 := NB148_151.out
           have hns35_1 := NB149_151.out
           have hns35_2 := NB150_151.out
           have hms35_0 := NB151_148.out
           have hms35_1 := NB151_149.out
           have hms35_2 := NB151_150.out
           refine skip_ (w1 := ?_) (by rfl) rfl ?_ ?_
           rotate_left
           ·go_simp
            rfl
           refine hK.out _ _ ?_
           clear hK K
           refine done_ (done_of HT_.out (by kernel_rfl)) ?_
           try go_wp2
           generalize hW_ : (w32.setCell ⟨gb151, 0, none⟩ (.slice Ao34 y159.length co34)) = w36
           replace HO161 : Aside0 (Kd.S k33 33 w36 w.heap.size (fun k_ => k_ ≠ gb149) (.slice Ao34 y159.length co34) y159) := by rw [← hW_]; exact ⟨by refine mSd ?_; exact Kd.S_mono (Kd.S_far (p := ⟨gb151, 0, none⟩) (Kd.S_types HO161.out BK151.out (by decide)) (fun _ hk => hk.2) (.slice Ao34 y159.length co34)) (fun _ hk => hk.1)⟩
           replace BK148 : Aside0 (w36.heap[gb148]? = some (.cells #[.slice A0_0 l0_0.length c0_0] 26 (0, 0))) := by rw [← hW_]; exact ⟨mKf NB148_151.out BK148.out⟩
           replace BK149 : Aside0 (w36.heap[gb149]? = some (.cells #[.int .i64 a1_0, .int .i64 a1_1, .slice A1_2 l1_2.length c1_2] 33 (0, 0))) := by rw [← hW_]; exact ⟨mKf NB149_151.out BK149.out⟩
           replace BK150 : Aside0 (w36.heap[gb150]? = some (.cells #[.slice none 0 0] 26 (0, 0))) := by rw [← hW_]; exact ⟨mKf NB150_151.out BK150.out⟩
           replace BK151 : Aside0 (w36.heap[gb151]? = some (.cells #[.slice Ao34 y159.length co34] 26 (0, 0))) := by rw [← hW_]; exact ⟨by refine mK ?_; refine blk_put (cs := #[u152000]) ?_ 0 _ rfl; refine mK ?_; exact BK151.out⟩
           replace HB : Aside0 (Below w.heap.size w w36) := by rw [← hW_]; exact ⟨(mH4 HB.out GE148.out GE149.out GE150.out GE151.out)⟩
           clear hW_
           replace HO161 := mS (Kd.S_drew HO161.out)
           replace BK148 := mS (blk_drew BK148.out)
           replace BK149 := mS (blk_drew BK149.out)
           replace BK150 := mS (blk_drew BK150.out)
           replace BK151 := mS (blk_drew BK151.out)
           replace HB := mS (below_drew1 HB.out)
           have p162 : 0 ≤ (x8_1 : Int) := mD
           have q162 : x8_1 < (l0_0.length : Int) := mD
           obtain ⟨ad162, A162_2, c162_2, e162, hx162_0, hx162_1, hx162_2, hl162_2, hi162_2⟩ := at_T33 HR0_0.out x8_1 p162 q162
           have hw162_2 := hx162_2
           have hw162_1 := hx162_1
           have hw162_0 := hx162_0
           cases e162
           replace hx162_0 := mX HB.out hx162_0
           replace hx162_1 := mX HB.out hx162_1
           replace hx162_2 := mX HB.out hx162_2
           have HR162_2 := mS hi162_2
           have HC162_2 := mS hl162_2
           clear hi162_2 hl162_2
           replace p162 := eq_true p162
           replace q162 := eq_true q162
           refine start_ (n := 12) (S := fun w' => w'.cell? ⟨gb151, 0, none⟩ = some (.slice Ao34 y159.length co34) ∧ w'.cell? ⟨gb148, 0, none⟩ = some (.slice (some ad162) l0_0.length c0_0) ∧ w'.cell? (ad162.add ((x8_1).toNat * 3)) = some (.int .i64 ((rd_T33 l0_0 x8_1).f0.f0)) ∧ w'.cell? ⟨(ad162.add ((x8_1).toNat * 3)).block, (ad162.add ((x8_1).toNat * 3)).off + 1, none⟩ = some (.int .i64 ((rd_T33 l0_0 x8_1).f0.f1)) ∧ w'.cell? ⟨(ad162.add ((x8_1).toNat * 3)).block, (ad162.add ((x8_1).toNat * 3)).off + 2, none⟩ = some (.slice A162_2 ((rd_T33 l0_0 x8_1).f1).length c162_2)) (ds := [11]) (mb 0 12) (by kernel_rfl) rfl rfl ⟨mZ BK151.out 0, mZ BK148.out 0, (mX HB.out hw162_0 :), (mX HB.out hw162_1 :), (mX HB.out hw162_2 :)⟩ (fun hHeld => ?_); refine with_tabW spec_GraphPut.tab9 spec_GraphPut.bits9 (fun HT_ HW_ => ?_)
           generalize w36.drew = w37 at HO161 BK148 BK149 BK150 BK151 HB HR162_2 hx162_0 hx162_1 hx162_2 hHeld ⊢
           refine mpu 0 37 HT_.out (mb 1 11) ?_
           refine mpu 2 39 HT_.out (mr [1,1,1,9]) ?_
           refine mpu 4 41 HT_.out (mr [1,1,1,1,1,7]) ?_
           refine mpt 1 38 HT_.out HW_.out (mr [3,1,1,7]) hHeld ?_
           refine mpt 3 40 HT_.out HW_.out (mb 5 7) hHeld ?_
           refine mpu 5 42 HT_.out (mb 6 6) ?_
           refine mpt 6 43 HT_.out HW_.out (mb 7 5) hHeld ?_
           refine mone 7 (some 44) HT_.out (mb 8 4) (fun K hK => ?_)
           refine goes_ Try.func71 (by kernel_rfl) rfl #[.agg #[.int .i64 ((rd_T33 l0_0 x8_1).f0.f0), .int .i64 ((rd_T33 l0_0 x8_1).f0.f1), .slice A162_2 ((rd_T33 l0_0 x8_1).f1).length c162_2]] (by rfl) rfl rfl mA ?_
           with_reducible refine (spec_l8CopyItem.calls ((rd_T33 l0_0 x8_1).f0.f0) ((rd_T33 l0_0 x8_1).f0.f1) _ _ ((rd_T33 l0_0 x8_1).f1) t163 t164 t165 _ ?side1 ?side2 A28.out).mono ?_
           (case side1 => exact mC (Kd.C_below HR162_2.out HB.out))
           (case side2 => exact HC162_2.out)
           rintro e w38 ⟨v166, rfl, ho0, hb⟩
           refine ⟨_, rfl, ?_⟩
           replace HO161 := mS (Kd.S_elder' (mSd HO161.out) (Kd.R_base ho0) hb)
           have HO167 := mS (Kd.R_lower ho0 (below_size (mH4 HB.out GE148.out GE149.out GE150.out GE151.out)))
           replace BK148 := mB BK148 hb
           replace BK149 := mB BK149 hb
           replace BK150 := mB BK150 hb
           replace BK151 := mB BK151 hb
           replace HB := mS (below_step (mH4 HB.out GE148.out GE149.out GE150.out GE151.out) hb)
           (try clear hb)
           (try clear hb2)
           (try clear hk)
           (try clear hi)
           (try clear ho0)
           obtain ⟨Ao40, co40, eo40⟩ := Kd.R_slice HO167.out
           (first | subst eo40 | (injection eo40 with f1_ f2_ f3_; have f4_ := f1_.symm; have f5_ := f3_.symm; clear f1_ f2_ f3_; subst f4_; subst f5_))
           refine hK.out _ _ ⟨mZ BK151.out 0, mZ BK148.out 0, (mX HB.out hw162_0 :), (mX HB.out hw162_1 :), (mX HB.out hw162_2 :)⟩ (fun hHeld => ?_)
           clear hK K
           refine mno 44 ?_
           refine mone 8 (some 45) HT_.out (mb 9 3) (fun K hK => ?_)
           refine value_ (w1 := ?_) (v := ?_) (by rfl) rfl ?_ ?_
           rotate_left 2
           ·go_simp
            constructor
            ·rfl
            ·rfl
           refine hK.out _ _ ⟨(blk_cell (blk_alloc BK151.out _) 0).trans rfl, (blk_cell (blk_alloc BK148.out _) 0).trans rfl, (World.cell?_alloc_lt _ _ _ (World.block_lt_of_cell? _ _ ((mX HB.out hw162_0 :)))).trans ((mX HB.out hw162_0 :)), (World.cell?_alloc_lt _ _ _ (World.block_lt_of_cell? _ _ ((mX HB.out hw162_1 :)))).trans ((mX HB.out hw162_1 :)), (World.cell?_alloc_lt _ _ _ (World.block_lt_of_cell? _ _ ((mX HB.out hw162_2 :)))).trans ((mX HB.out hw162_2 :))⟩ (fun hHeld => ?_)
           clear hK K
           refine mno 45 ?_
           refine mone 9 (some 46) HT_.out (mb 10 2) (fun K hK => ?_)
           refine Kd.S_append_step k33 (w0 := w) w.heap.size (by rfl) (.tmp 38) (.tmp 45) 24 33 (.agg #[(.int .i64 0), (.int .i64 0), (.slice none 0 0)]) 40 rfl Try.underlying24 info33 rfl (by decide) (by omega) (.slice Ao34 y159.length co34) y159 (⟨(⟨t163, t164⟩ : S31), t165⟩ : S33) [.int .i64 t163, .int .i64 t164, .slice Ao40 t165.length co40] (fun k_ => k_ ≠ gb149) (fun k_ => some k_ = (.slice Ao40 t165.length co40 : Value).ownBlock) rfl rfl ?aP (fun k_ hk_ => ((Kd.R_mono (ok' := fun k_ => ((fun k_ => k_ ≠ gb149)) k_ ∧ some k_ ≠ (.slice Ao34 y159.length co34 : Value).ownBlock) (Kd.R_types (Kd.R_apart' (HO167.out) (Kd.S_typed HO161.out) (by decide)) BK149.out (by decide)) (fun k_ hk => ⟨hk.2, hk.1.2⟩))).1 k_ hk_.symm) ?aF ?aO ?aB ?aS ?aL ?_
           (case aP => exact k33_mkM _ _ _ (⟨(⟨t163, t164⟩ : S31), t165⟩ : S33) (Kd.R_mono (Kd.R_tight rfl (Kd.R_mono (ok' := fun k_ => ((fun k_ => k_ ≠ gb149)) k_ ∧ some k_ ≠ (.slice Ao34 y159.length co34 : Value).ownBlock) (Kd.R_types (Kd.R_apart' (HO167.out) (Kd.S_typed HO161.out) (by decide)) BK149.out (by decide)) (fun k_ hk => ⟨hk.2, hk.1.2⟩))) (fun _ h_ => h_)))
           (case aB => exact (mH4 HB.out GE148.out GE149.out GE150.out GE151.out))
           (case aF => exact (fun k_ hk => Kd.freshB (g := gb149) (o := .cells #[.int .i64 a1_0, .int .i64 a1_1, .slice A1_2 l1_2.length c1_2] 33 (0, 0)) (mK BK149.out) k_ hk))
           (case aO => exact (by refine mSd ?_; exact Kd.S_mono HO161.out (fun k_ hk => ⟨hk.1, fun e_ => hk.2 e_⟩)))
           (case aS => exact (below_size (mH4 HB.out GE148.out GE149.out GE150.out GE151.out)))
           (case aL => have := LMc29.out; omega)
           intro v169 w39 ho hb hg hat
           rw [← Ny168.out] at ho
           replace BK148 := mS (blk_grown (g := gb148) (o := .cells #[.slice (some ad162) l0_0.length c0_0] 26 (0, 0)) (mK BK148.out) hg (Kd.S_ne HO161.out BK148.out (by decide)))
           replace BK149 := mS (blk_grown (g := gb149) (o := .cells #[.int .i64 a1_0, .int .i64 a1_1, .slice A1_2 l1_2.length c1_2] 33 (0, 0)) (mK BK149.out) hg (Kd.S_away HO161.out (fun _ hk => hk.1)))
           replace BK150 := mS (blk_grown (g := gb150) (o := .cells #[.slice none 0 0] 26 (0, 0)) (mK BK150.out) hg (Kd.S_ne HO161.out BK150.out (by decide)))
           replace BK151 := mS (blk_grown (g := gb151) (o := .cells #[.slice Ao34 y159.length co34] 26 (0, 0)) (mK BK151.out) hg (Kd.S_ne HO161.out BK151.out (by decide)))
           replace HB := mS (hb)
           have HO170 := mS (ho)
           clear HO161
           clear HO167
           clear ho hb hg hat
           obtain ⟨Ao41, co41, eo41⟩ := Kd.S_slice HO170.out
           (first | subst eo41 | (injection eo41 with f1_ f2_ f3_; have f4_ := f1_.symm; have f5_ := f3_.symm; clear f1_ f2_ f3_; subst f4_; subst f5_))
           refine hK.out _ _ ⟨mZ BK151.out 0, mZ BK148.out 0, (mX HB.out hw162_0 :), (mX HB.out hw162_1 :), (mX HB.out hw162_2 :)⟩ (fun hHeld => ?_)
           clear hK K
           refine mno 46 ?_
           refine mpu 10 47 HT_.out (mb 11 1) ?_
           refine last_ (i := 11) (N := none) (mb 12 0) rfl rfl (one_of HT_.out (by kernel_rfl)) (by decide) (fun K hK => ?_)
           have hs42 : w39.cell? ⟨gb151, 0, none⟩ = some (.slice Ao34 y159.length co34) := mZ BK151.out 0
           have hfs42 := blk_frozen BK151.out 0
           have hns42_0 := NB148_151.out
           have hns42_1 := NB149_151.out
           have hns42_2 := NB150_151.out
           have hms42_0 := NB151_148.out
           have hms42_1 := NB151_149.out
           have hms42_2 := NB151_150.out
           refine skip_ (w1 := ?_) (by rfl) rfl ?_ ?_
           rotate_left
           ·go_simp
            rfl
           refine hK.out _ _ ?_
           clear hK K
           refine done_ (done_of HT_.out (by kernel_rfl)) ?_
           try go_wp2
           go_roundg kj11
           case measure => have := HK1.out; have := HJ11.out; omega
           case rel => exact ⟨(true), (wrap64 (x8_1 + 1)), (y168), (.slice Ao41 y168.length co41), mE, mE, H', ⟨by have := HK1.out; have := HJ11.out; omega⟩, ⟨by refine mSd ?_; exact Kd.S_mono (Kd.S_far (p := ⟨gb151, 0, none⟩) (Kd.S_types HO170.out BK151.out (by decide)) (fun _ hk => hk.2) (.slice Ao41 y168.length co41)) (fun _ hk => hk.1)⟩, ⟨mKf NB148_151.out BK148.out⟩, ⟨mKf NB149_151.out BK149.out⟩, ⟨mKf NB150_151.out BK150.out⟩, ⟨by refine mK ?_; refine blk_put (cs := #[.slice Ao34 y159.length co34]) ?_ 0 _ rfl; refine mK ?_; exact BK151.out⟩, ⟨(mH4 HB.out GE148.out GE149.out GE150.out GE151.out)⟩⟩
          ·rw [if_neg c29] at H
           exact absurd H (by simp)
         ·rw [if_neg c27] at H
          exact absurd H (by simp)
        ·rw [if_neg c26] at H
         exact absurd H (by simp)
       ·rw [if_neg c25] at H
        exact absurd H (by simp)
      ·replace c23 := Bool.eq_false_iff.mpr c23
       subst c23
       have H1 := H
       rw [if_neg (show ¬ (false = true) by decide)] at H1
       clear H
       have H := H1
       clear H1
       by_cases c43 : 0 ≤ x8_1
       ·rw [if_pos c43] at H
        have c43b0 := decide_eq_true c43
        clear c43
        by_cases c44 : x8_1 < (l0_0.length : Int)
        ·rw [if_pos c44] at H
         have c44b0 := decide_eq_true c44
         clear c44
         replace H := Option.bind_eq_some_iff.mp H
         obtain ⟨⟨t172, t173, t174⟩, A450, H⟩ := H
         replace H : (if x152000_1.length < 3518437208883 then (spec_GraphPut.l0 kj11 x7_1 (wrap64 (x8_1 + 1)) l0_0 a1_0 a1_1 l1_2 (x152000_1 ++ [(⟨(⟨t172, t173⟩ : S31), t174⟩ : S33)])) else (none)) = some (r1, r2) := H
         have A45 := mS A450
         clear A450
         by_cases c46 : x152000_1.length < 3518437208883
         ·rw [if_pos c46] at H
          have LMc46 := mS c46
          clear c46
          obtain ⟨y177, hy177⟩ : ∃ y_ : List (S33), y_ = (x152000_1 ++ [(⟨(⟨t172, t173⟩ : S31), t174⟩ : S33)]) := ⟨_, rfl⟩
          replace H : (spec_GraphPut.l0 kj11 x7_1 (wrap64 (x8_1 + 1)) l0_0 a1_0 a1_1 l1_2 y177) = some (r1, r2) := by first | (rw [hy177]; with_reducible exact H) | (have H2_ := (Option.bind_some _ _).symm.trans H; rw [hy177]; with_reducible exact H2_) | (have H2_ := (Option.bind_some _ _).symm.trans H; with_reducible exact H2_) | with_reducible exact H | (rw [hy177]; exact H) | exact H
          have Ny177 := mS hy177
          clear hy177
          have H' := mS H
          clear H
          try go_wp2
          replace HO_152000 := mS (Kd.S_drew HO_152000.out)
          replace BK148 := mS (blk_drew BK148.out)
          replace BK149 := mS (blk_drew BK149.out)
          replace BK150 := mS (blk_drew BK150.out)
          replace BK151 := mS (blk_drew BK151.out)
          replace HB := mS (below_drew1 HB.out)
          have p171 : 0 ≤ (x8_1 : Int) := mD
          have q171 : x8_1 < (l0_0.length : Int) := mD
          obtain ⟨ad171, A171_2, c171_2, e171, hx171_0, hx171_1, hx171_2, hl171_2, hi171_2⟩ := at_T33 HR0_0.out x8_1 p171 q171
          have hw171_2 := hx171_2
          have hw171_1 := hx171_1
          have hw171_0 := hx171_0
          cases e171
          replace hx171_0 := mX HB.out hx171_0
          replace hx171_1 := mX HB.out hx171_1
          replace hx171_2 := mX HB.out hx171_2
          have HR171_2 := mS hi171_2
          have HC171_2 := mS hl171_2
          clear hi171_2 hl171_2
          replace p171 := eq_true p171
          replace q171 := eq_true q171
          refine start_ (n := 12) (S := fun w' => w'.cell? ⟨gb151, 0, none⟩ = some (u152000) ∧ w'.cell? ⟨gb148, 0, none⟩ = some (.slice (some ad171) l0_0.length c0_0) ∧ w'.cell? (ad171.add ((x8_1).toNat * 3)) = some (.int .i64 ((rd_T33 l0_0 x8_1).f0.f0)) ∧ w'.cell? ⟨(ad171.add ((x8_1).toNat * 3)).block, (ad171.add ((x8_1).toNat * 3)).off + 1, none⟩ = some (.int .i64 ((rd_T33 l0_0 x8_1).f0.f1)) ∧ w'.cell? ⟨(ad171.add ((x8_1).toNat * 3)).block, (ad171.add ((x8_1).toNat * 3)).off + 2, none⟩ = some (.slice A171_2 ((rd_T33 l0_0 x8_1).f1).length c171_2)) (ds := [11]) (mb 0 12) (by kernel_rfl) rfl rfl ⟨mZ BK151.out 0, mZ BK148.out 0, (mX HB.out hw171_0 :), (mX HB.out hw171_1 :), (mX HB.out hw171_2 :)⟩ (fun hHeld => ?_); refine with_tabW spec_GraphPut.tab9 spec_GraphPut.bits9 (fun HT_ HW_ => ?_)
          generalize wc.drew = w47 at HO_152000 BK148 BK149 BK150 BK151 HB HR171_2 hx171_0 hx171_1 hx171_2 hHeld ⊢
          refine mpu 0 37 HT_.out (mb 1 11) ?_
          refine mpu 2 39 HT_.out (mr [1,1,1,9]) ?_
          refine mpu 4 41 HT_.out (mr [1,1,1,1,1,7]) ?_
          refine mpt 1 38 HT_.out HW_.out (mr [3,1,1,7]) hHeld ?_
          refine mpt 3 40 HT_.out HW_.out (mb 5 7) hHeld ?_
          refine mpu 5 42 HT_.out (mb 6 6) ?_
          refine mpt 6 43 HT_.out HW_.out (mb 7 5) hHeld ?_
          refine mone 7 (some 44) HT_.out (mb 8 4) (fun K hK => ?_)
          refine goes_ Try.func71 (by kernel_rfl) rfl #[.agg #[.int .i64 ((rd_T33 l0_0 x8_1).f0.f0), .int .i64 ((rd_T33 l0_0 x8_1).f0.f1), .slice A171_2 ((rd_T33 l0_0 x8_1).f1).length c171_2]] (by rfl) rfl rfl mA ?_
          with_reducible refine (spec_l8CopyItem.calls ((rd_T33 l0_0 x8_1).f0.f0) ((rd_T33 l0_0 x8_1).f0.f1) _ _ ((rd_T33 l0_0 x8_1).f1) t172 t173 t174 _ ?side1 ?side2 A45.out).mono ?_
          (case side1 => exact mC (Kd.C_below HR171_2.out HB.out))
          (case side2 => exact HC171_2.out)
          rintro e w48 ⟨v175, rfl, ho0, hb⟩
          refine ⟨_, rfl, ?_⟩
          replace HO_152000 := mS (Kd.S_elder' (mSd HO_152000.out) (Kd.R_base ho0) hb)
          have HO176 := mS (Kd.R_lower ho0 (below_size (mH4 HB.out GE148.out GE149.out GE150.out GE151.out)))
          replace BK148 := mB BK148 hb
          replace BK149 := mB BK149 hb
          replace BK150 := mB BK150 hb
          replace BK151 := mB BK151 hb
          replace HB := mS (below_step (mH4 HB.out GE148.out GE149.out GE150.out GE151.out) hb)
          (try clear hb)
          (try clear hb2)
          (try clear hk)
          (try clear hi)
          (try clear ho0)
          obtain ⟨Ao50, co50, eo50⟩ := Kd.R_slice HO176.out
          (first | subst eo50 | (injection eo50 with f1_ f2_ f3_; have f4_ := f1_.symm; have f5_ := f3_.symm; clear f1_ f2_ f3_; subst f4_; subst f5_))
          refine hK.out _ _ ⟨mZ BK151.out 0, mZ BK148.out 0, (mX HB.out hw171_0 :), (mX HB.out hw171_1 :), (mX HB.out hw171_2 :)⟩ (fun hHeld => ?_)
          clear hK K
          refine mno 44 ?_
          refine mone 8 (some 45) HT_.out (mb 9 3) (fun K hK => ?_)
          refine value_ (w1 := ?_) (v := ?_) (by rfl) rfl ?_ ?_
          rotate_left 2
          ·go_simp
           constructor
           ·rfl
           ·rfl
          refine hK.out _ _ ⟨(blk_cell (blk_alloc BK151.out _) 0).trans rfl, (blk_cell (blk_alloc BK148.out _) 0).trans rfl, (World.cell?_alloc_lt _ _ _ (World.block_lt_of_cell? _ _ ((mX HB.out hw171_0 :)))).trans ((mX HB.out hw171_0 :)), (World.cell?_alloc_lt _ _ _ (World.block_lt_of_cell? _ _ ((mX HB.out hw171_1 :)))).trans ((mX HB.out hw171_1 :)), (World.cell?_alloc_lt _ _ _ (World.block_lt_of_cell? _ _ ((mX HB.out hw171_2 :)))).trans ((mX HB.out hw171_2 :))⟩ (fun hHeld => ?_)
          clear hK K
          refine mno 45 ?_
          refine mone 9 (some 46) HT_.out (mb 10 2) (fun K hK => ?_)
          refine Kd.S_append_step k33 (w0 := w) w.heap.size (by rfl) (.tmp 38) (.tmp 45) 24 33 (.agg #[(.int .i64 0), (.int .i64 0), (.slice none 0 0)]) 40 rfl Try.underlying24 info33 rfl (by decide) (by omega) u152000 x152000_1 (⟨(⟨t172, t173⟩ : S31), t174⟩ : S33) [.int .i64 t172, .int .i64 t173, .slice Ao50 t174.length co50] (fun k_ => k_ ≠ gb149) (fun k_ => some k_ = (.slice Ao50 t174.length co50 : Value).ownBlock) rfl rfl ?aP (fun k_ hk_ => ((Kd.R_mono (ok' := fun k_ => ((fun k_ => k_ ≠ gb149)) k_ ∧ some k_ ≠ (u152000 : Value).ownBlock) (Kd.R_types (Kd.R_apart' (HO176.out) (Kd.S_typed HO_152000.out) (by decide)) BK149.out (by decide)) (fun k_ hk => ⟨hk.2, hk.1.2⟩))).1 k_ hk_.symm) ?aF ?aO ?aB ?aS ?aL ?_
          (case aP => exact k33_mkM _ _ _ (⟨(⟨t172, t173⟩ : S31), t174⟩ : S33) (Kd.R_mono (Kd.R_tight rfl (Kd.R_mono (ok' := fun k_ => ((fun k_ => k_ ≠ gb149)) k_ ∧ some k_ ≠ (u152000 : Value).ownBlock) (Kd.R_types (Kd.R_apart' (HO176.out) (Kd.S_typed HO_152000.out) (by decide)) BK149.out (by decide)) (fun k_ hk => ⟨hk.2, hk.1.2⟩))) (fun _ h_ => h_)))
          (case aB => exact (mH4 HB.out GE148.out GE149.out GE150.out GE151.out))
          (case aF => exact (fun k_ hk => Kd.freshB (g := gb149) (o := .cells #[.int .i64 a1_0, .int .i64 a1_1, .slice A1_2 l1_2.length c1_2] 33 (0, 0)) (mK BK149.out) k_ hk))
          (case aO => exact (by refine mSd ?_; exact Kd.S_mono HO_152000.out (fun k_ hk => ⟨hk.1, fun e_ => hk.2 e_⟩)))
          (case aS => exact (below_size (mH4 HB.out GE148.out GE149.out GE150.out GE151.out)))
          (case aL => have := LMc46.out; omega)
          intro v178 w49 ho hb hg hat
          rw [← Ny177.out] at ho
          replace BK148 := mS (blk_grown (g := gb148) (o := .cells #[.slice (some ad171) l0_0.length c0_0] 26 (0, 0)) (mK BK148.out) hg (Kd.S_ne HO_152000.out BK148.out (by decide)))
          replace BK149 := mS (blk_grown (g := gb149) (o := .cells #[.int .i64 a1_0, .int .i64 a1_1, .slice A1_2 l1_2.length c1_2] 33 (0, 0)) (mK BK149.out) hg (Kd.S_away HO_152000.out (fun _ hk => hk.1)))
          replace BK150 := mS (blk_grown (g := gb150) (o := .cells #[.slice none 0 0] 26 (0, 0)) (mK BK150.out) hg (Kd.S_ne HO_152000.out BK150.out (by decide)))
          replace BK151 := mS (blk_grown (g := gb151) (o := .cells #[u152000] 26 (0, 0)) (mK BK151.out) hg (Kd.S_ne HO_152000.out BK151.out (by decide)))
          replace HB := mS (hb)
          have HO179 := mS (ho)
          clear HO_152000
          clear HO176
          clear ho hb hg hat
          obtain ⟨Ao51, co51, eo51⟩ := Kd.S_slice HO179.out
          (first | subst eo51 | (injection eo51 with f1_ f2_ f3_; have f4_ := f1_.symm; have f5_ := f3_.symm; clear f1_ f2_ f3_; subst f4_; subst f5_))
          refine hK.out _ _ ⟨mZ BK151.out 0, mZ BK148.out 0, (mX HB.out hw171_0 :), (mX HB.out hw171_1 :), (mX HB.out hw171_2 :)⟩ (fun hHeld => ?_)
          clear hK K
          refine mno 46 ?_
          refine mpu 10 47 HT_.out (mb 11 1) ?_
          refine last_ (i := 11) (N := none) (mb 12 0) rfl rfl (one_of HT_.out (by kernel_rfl)) (by decide) (fun K hK => ?_)
          have hs52 : w49.cell? ⟨gb151, 0, none⟩ = some (u152000) := mZ BK151.out 0
          have hfs52 := blk_frozen BK151.out 0
          have hns52_0 := NB148_151.out
          have hns52_1 := NB149_151.out
          have hns52_2 := NB150_151.out
          have hms52_0 := NB151_148.out
          have hms52_1 := NB151_149.out
          have hms52_2 := NB151_150.out
          refine skip_ (w1 := ?_) (by rfl) rfl ?_ ?_
          rotate_left
          ·go_simp
           rfl
          refine hK.out _ _ ?_
          clear hK K
          refine done_ (done_of HT_.out (by kernel_rfl)) ?_
          try go_wp2
          go_roundg kj11
          case measure => have := HK1.out; have := HJ11.out; omega
          case rel => exact ⟨(x7_1), (wrap64 (x8_1 + 1)), (y177), (.slice Ao51 y177.length co51), mE, mE, H', ⟨by have := HK1.out; have := HJ11.out; omega⟩, ⟨by refine mSd ?_; exact Kd.S_mono (Kd.S_far (p := ⟨gb151, 0, none⟩) (Kd.S_types HO179.out BK151.out (by decide)) (fun _ hk => hk.2) (.slice Ao51 y177.length co51)) (fun _ hk => hk.1)⟩, ⟨mKf NB148_151.out BK148.out⟩, ⟨mKf NB149_151.out BK149.out⟩, ⟨mKf NB150_151.out BK150.out⟩, ⟨by refine mK ?_; refine blk_put (cs := #[u152000]) ?_ 0 _ rfl; refine mK ?_; exact BK151.out⟩, ⟨(mH4 HB.out GE148.out GE149.out GE150.out GE151.out)⟩⟩
         ·rw [if_neg c46] at H
          exact absurd H (by simp)
        ·rw [if_neg c44] at H
         exact absurd H (by simp)
       ·rw [if_neg c43] at H
        exact absurd H (by simp)
   ·rw [if_neg c11] at H
    have c11b0 := decide_eq_false c11
    clear c11
    have HC53 := mS H
    clear H
    have hnb54 := NB148_149.out
    have hnc54 := NB149_148.out
    have hnb55 := NB148_150.out
    have hnc55 := NB150_148.out
    have hnb56 := NB148_151.out
    have hnc56 := NB151_148.out
    have hcz57_0 := mZ BK148.out 0
    have hfz57_0 := blk_frozen BK148.out 0
    go_upto_if 49 with (fail)
    go_cut [] (fun wc => ∃ (kq : Nat) (x152000_52 : List (S33)) (u152000 : Value), Aside0 (spec_GraphPut.j2 kq l0_0 a1_0 a1_1 l1_2 x152000_52 = some (r1, r2)) ∧ Aside0 (kq ≤ k1) ∧ Aside0 (Kd.S k33 33 wc w.heap.size (fun k_ => k_ ≠ gb149) u152000 x152000_52) ∧ Aside0 (wc.heap[gb148]? = some (.cells #[(.slice A0_0 l0_0.length c0_0)] 26 (0, 0))) ∧ Aside0 (wc.heap[gb149]? = some (.cells #[.int .i64 a1_0, .int .i64 a1_1, (.slice A1_2 l1_2.length c1_2)] 33 (0, 0))) ∧ Aside0 (wc.heap[gb150]? = some (.cells #[(.slice none 0 0)] 26 (0, 0))) ∧ Aside0 (wc.heap[gb151]? = some (.cells #[u152000] 26 (0, 0))) ∧ Aside0 (Below w.heap.size w wc))
    case first =>
     have H := HC53.out
     clear HC53
     by_cases c58 : x7_1 = true
     ·subst c58
      have H1 := H
      rw [if_pos rfl] at H1
      clear H
      have H := H1
      clear H1
      have H' := mS H
      clear H
      go_wp2
      go_meet
      case rel => exact ⟨_, (x152000_1), (u152000), H', ⟨by have := HK1.out; first | omega | exact Nat.le_refl _⟩, ⟨mSd HO_152000.out⟩, ⟨mK BK148.out⟩, ⟨mK BK149.out⟩, ⟨mK BK150.out⟩, ⟨mK BK151.out⟩, ⟨(mH4 HB.out GE148.out GE149.out GE150.out GE151.out)⟩⟩
     ·replace c58 := Bool.eq_false_iff.mpr c58
      subst c58
      have H1 := H
      rw [if_neg (show ¬ (false = true) by decide)] at H1
      clear H
      have H := H1
      clear H1
      replace H := Option.bind_eq_some_iff.mp H
      obtain ⟨⟨t180, t181, t182⟩, A590, H⟩ := H
      replace H : (if x152000_1.length < 3518437208883 then (spec_GraphPut.j2 k1 l0_0 a1_0 a1_1 l1_2 (x152000_1 ++ [(⟨(⟨t180, t181⟩ : S31), t182⟩ : S33)])) else (none)) = some (r1, r2) := H
      have A59 := mS A590
      clear A590
      by_cases c60 : x152000_1.length < 3518437208883
      ·rw [if_pos c60] at H
       have LMc60 := mS c60
       clear c60
       obtain ⟨y185, hy185⟩ : ∃ y_ : List (S33), y_ = (x152000_1 ++ [(⟨(⟨t180, t181⟩ : S31), t182⟩ : S33)]) := ⟨_, rfl⟩
       replace H : (spec_GraphPut.j2 k1 l0_0 a1_0 a1_1 l1_2 y185) = some (r1, r2) := by first | (rw [hy185]; with_reducible exact H) | (have H2_ := (Option.bind_some _ _).symm.trans H; rw [hy185]; with_reducible exact H2_) | (have H2_ := (Option.bind_some _ _).symm.trans H; with_reducible exact H2_) | with_reducible exact H | (rw [hy185]; exact H) | exact H
       have Ny185 := mS hy185
       clear hy185
       have H' := mS H
       clear H
       try go_wp2
       replace HO_152000 := mS (Kd.S_drew HO_152000.out)
       replace BK148 := mS (blk_drew BK148.out)
       replace BK149 := mS (blk_drew BK149.out)
       replace BK150 := mS (blk_drew BK150.out)
       replace BK151 := mS (blk_drew BK151.out)
       replace HB := mS (below_drew1 HB.out)
       refine start_ (n := 8) (S := fun w' => w'.cell? ⟨gb151, 0, none⟩ = some (u152000) ∧ w'.cell? ⟨gb149, 0, none⟩ = some (.int .i64 a1_0) ∧ w'.cell? ⟨gb149, 1, none⟩ = some (.int .i64 a1_1) ∧ w'.cell? ⟨gb149, 2, none⟩ = some (.slice A1_2 l1_2.length c1_2)) (ds := [7]) (mb 0 8) (by kernel_rfl) rfl rfl ⟨mZ BK151.out 0, mc3 BK149.out⟩ (fun hHeld => ?_); refine with_tabW spec_GraphPut.tab11 spec_GraphPut.bits11 (fun HT_ HW_ => ?_)
       generalize wr.drew = w61 at HO_152000 BK148 BK149 BK150 BK151 HB hHeld ⊢
       refine mpu 0 50 HT_.out (mb 1 7) ?_
       refine mpt 1 51 HT_.out HW_.out (mb 2 6) hHeld ?_
       refine mpt 2 52 HT_.out HW_.out (mb 3 5) hHeld ?_
       refine mone 3 (some 53) HT_.out (mb 4 4) (fun K hK => ?_)
       refine goes_ Try.func71 (by kernel_rfl) rfl #[.agg #[.int .i64 a1_0, .int .i64 a1_1, .slice A1_2 l1_2.length c1_2]] (by rfl) rfl rfl mA ?_
       with_reducible refine (spec_l8CopyItem.calls a1_0 a1_1 _ _ l1_2 t180 t181 t182 _ ?side1 ?side2 A59.out).mono ?_
       (case side1 => exact mC (Kd.C_below HR1_2.out HB.out))
       (case side2 => exact HC1_2.out)
       rintro e w62 ⟨v183, rfl, ho0, hb⟩
       refine ⟨_, rfl, ?_⟩
       replace HO_152000 := mS (Kd.S_elder' (mSd HO_152000.out) (Kd.R_base ho0) hb)
       have HO184 := mS (Kd.R_lower ho0 (below_size (mH4 HB.out GE148.out GE149.out GE150.out GE151.out)))
       replace BK148 := mB BK148 hb
       replace BK149 := mB BK149 hb
       replace BK150 := mB BK150 hb
       replace BK151 := mB BK151 hb
       replace HB := mS (below_step (mH4 HB.out GE148.out GE149.out GE150.out GE151.out) hb)
       (try clear hb)
       (try clear hb2)
       (try clear hk)
       (try clear hi)
       (try clear ho0)
       obtain ⟨Ao64, co64, eo64⟩ := Kd.R_slice HO184.out
       (first | subst eo64 | (injection eo64 with f1_ f2_ f3_; have f4_ := f1_.symm; have f5_ := f3_.symm; clear f1_ f2_ f3_; subst f4_; subst f5_))
       refine hK.out _ _ ⟨mZ BK151.out 0, mc3 BK149.out⟩ (fun hHeld => ?_)
       clear hK K
       refine mno 53 ?_
       refine mone 4 (some 54) HT_.out (mb 5 3) (fun K hK => ?_)
       refine value_ (w1 := ?_) (v := ?_) (by rfl) rfl ?_ ?_
       rotate_left 2
       ·go_simp
        constructor
        ·rfl
        ·rfl
       refine hK.out _ _ ⟨(blk_cell (blk_alloc BK151.out _) 0).trans rfl, (blk_cell (blk_alloc BK149.out _) 0).trans rfl, (blk_cell (blk_alloc BK149.out _) 1).trans rfl, (blk_cell (blk_alloc BK149.out _) 2).trans rfl⟩ (fun hHeld => ?_)
       clear hK K
       refine mno 54 ?_
       refine mone 5 (some 55) HT_.out (mb 6 2) (fun K hK => ?_)
       refine Kd.S_append_step k33 (w0 := w) w.heap.size (by rfl) (.tmp 51) (.tmp 54) 24 33 (.agg #[(.int .i64 0), (.int .i64 0), (.slice none 0 0)]) 40 rfl Try.underlying24 info33 rfl (by decide) (by omega) u152000 x152000_1 (⟨(⟨t180, t181⟩ : S31), t182⟩ : S33) [.int .i64 t180, .int .i64 t181, .slice Ao64 t182.length co64] (fun k_ => k_ ≠ gb149) (fun k_ => some k_ = (.slice Ao64 t182.length co64 : Value).ownBlock) rfl rfl ?aP (fun k_ hk_ => ((Kd.R_mono (ok' := fun k_ => ((fun k_ => k_ ≠ gb149)) k_ ∧ some k_ ≠ (u152000 : Value).ownBlock) (Kd.R_types (Kd.R_apart' (HO184.out) (Kd.S_typed HO_152000.out) (by decide)) BK149.out (by decide)) (fun k_ hk => ⟨hk.2, hk.1.2⟩))).1 k_ hk_.symm) ?aF ?aO ?aB ?aS ?aL ?_
       (case aP => exact k33_mkM _ _ _ (⟨(⟨t180, t181⟩ : S31), t182⟩ : S33) (Kd.R_mono (Kd.R_tight rfl (Kd.R_mono (ok' := fun k_ => ((fun k_ => k_ ≠ gb149)) k_ ∧ some k_ ≠ (u152000 : Value).ownBlock) (Kd.R_types (Kd.R_apart' (HO184.out) (Kd.S_typed HO_152000.out) (by decide)) BK149.out (by decide)) (fun k_ hk => ⟨hk.2, hk.1.2⟩))) (fun _ h_ => h_)))
       (case aB => exact (mH4 HB.out GE148.out GE149.out GE150.out GE151.out))
       (case aF => exact (fun k_ hk => Kd.freshB (g := gb149) (o := .cells #[.int .i64 a1_0, .int .i64 a1_1, .slice A1_2 l1_2.length c1_2] 33 (0, 0)) (mK BK149.out) k_ hk))
       (case aO => exact (by refine mSd ?_; exact Kd.S_mono HO_152000.out (fun k_ hk => ⟨hk.1, fun e_ => hk.2 e_⟩)))
       (case aS => exact (below_size (mH4 HB.out GE148.out GE149.out GE150.out GE151.out)))
       (case aL => have := LMc60.out; omega)
       intro v186 w63 ho hb hg hat
       rw [← Ny185.out] at ho
       replace BK148 := mS (blk_grown (g := gb148) (o := .cells #[.slice A0_0 l0_0.length c0_0] 26 (0, 0)) (mK BK148.out) hg (Kd.S_ne HO_152000.out BK148.out (by decide)))
       replace BK149 := mS (blk_grown (g := gb149) (o := .cells #[.int .i64 a1_0, .int .i64 a1_1, .slice A1_2 l1_2.length c1_2] 33 (0, 0)) (mK BK149.out) hg (Kd.S_away HO_152000.out (fun _ hk => hk.1)))
       replace BK150 := mS (blk_grown (g := gb150) (o := .cells #[.slice none 0 0] 26 (0, 0)) (mK BK150.out) hg (Kd.S_ne HO_152000.out BK150.out (by decide)))
       replace BK151 := mS (blk_grown (g := gb151) (o := .cells #[u152000] 26 (0, 0)) (mK BK151.out) hg (Kd.S_ne HO_152000.out BK151.out (by decide)))
       replace HB := mS (hb)
       have HO187 := mS (ho)
       clear HO_152000
       clear HO184
       clear ho hb hg hat
       obtain ⟨Ao65, co65, eo65⟩ := Kd.S_slice HO187.out
       (first | subst eo65 | (injection eo65 with f1_ f2_ f3_; have f4_ := f1_.symm; have f5_ := f3_.symm; clear f1_ f2_ f3_; subst f4_; subst f5_))
       refine hK.out _ _ ⟨mZ BK151.out 0, mc3 BK149.out⟩ (fun hHeld => ?_)
       clear hK K
       refine mno 55 ?_
       refine mpu 6 56 HT_.out (mb 7 1) ?_
       refine last_ (i := 7) (N := none) (mb 8 0) rfl rfl (one_of HT_.out (by kernel_rfl)) (by decide) (fun K hK => ?_)
       have hs66 : w63.cell? ⟨gb151, 0, none⟩ = some (u152000) := mZ BK151.out 0
       have hfs66 := blk_frozen BK151.out 0
       have hns66_0 := NB148_151.out
       have hns66_1 := NB149_151.out
       have hns66_2 := NB150_151.out
       have hms66_0 := NB151_148.out
       have hms66_1 := NB151_149.out
       have hms66_2 := NB151_150.out
       refine skip_ (w1 := ?_) (by rfl) rfl ?_ ?_
       rotate_left
       ·go_simp
        rfl
       refine hK.out _ _ ?_
       clear hK K
       refine done_ (done_of HT_.out (by kernel_rfl)) ?_
       try go_wp2
       go_meet
       case rel => exact ⟨_, (y185), (.slice Ao65 y185.length co65), H', ⟨by have := HK1.out; first | omega | exact Nat.le_refl _⟩, ⟨by refine mSd ?_; exact Kd.S_mono (Kd.S_far (p := ⟨gb151, 0, none⟩) (Kd.S_types HO187.out BK151.out (by decide)) (fun _ hk => hk.2) (.slice Ao65 y185.length co65)) (fun _ hk => hk.1)⟩, ⟨mKf NB148_151.out BK148.out⟩, ⟨mKf NB149_151.out BK149.out⟩, ⟨mKf NB150_151.out BK150.out⟩, ⟨by refine mK ?_; refine blk_put (cs := #[u152000]) ?_ 0 _ rfl; refine mK ?_; exact BK151.out⟩, ⟨(mH4 HB.out GE148.out GE149.out GE150.out GE151.out)⟩⟩
      ·rw [if_neg c60] at H
       exact absurd H (by simp)
    case rest =>
     clear HC53
     try clear c1
     try clear p1
     try clear q1
     try clear hx1
     try clear c2
     try clear p2
     try clear c4
     try clear c5
     try clear c6
     try clear p6
     try clear c7
     try clear c11
     try clear c11b0
     try clear c17
     try clear p17
     try clear q17
     try clear hx17
     try clear c23
     try clear c25
     try clear c26
     try clear c27
     try clear c29
     try clear c43
     try clear c43b0
     try clear c44
     try clear c44b0
     try clear c46
     try clear c54
     try clear c55
     try clear c56
     try clear c58
     try clear c60
     try clear p64
     try clear hcz57_0
     try clear hfz57_0
     try clear hx171_0
     try clear hx171_1
     try clear hx171_2
     try clear p171
     try clear q171
     obtain ⟨kq, x152000_52, u152000, HA, HJ52, HO_152000, BK148, BK149, BK150, BK151, HB⟩ := hcut
     cases kq with
     | zero => exact absurd HA.out (by simp [spec_GraphPut.j2])
     | succ kj52 =>
      have H := HA.out
      clear HA
      simp only [spec_GraphPut.j2] at H
      have HC67 := mS H
      clear H
      go_upto_region 12 with (fail)
      go_cut [66] (fun v66 wc => ∃ (kq : Nat) (x66_66 : Bool), v66 = .bool x66_66 ∧ Aside0 (spec_GraphPut.j3 kq x66_66 l0_0 x152000_52 = some (r1, r2)) ∧ Aside0 (kq ≤ kj52) ∧ Aside0 (Kd.S k33 33 wc w.heap.size (fun k_ => k_ ≠ gb149) u152000 x152000_52) ∧ Aside0 (wc.heap[gb148]? = some (.cells #[(.slice A0_0 l0_0.length c0_0)] 26 (0, 0))) ∧ Aside0 (wc.heap[gb149]? = some (.cells #[.int .i64 a1_0, .int .i64 a1_1, (.slice A1_2 l1_2.length c1_2)] 33 (0, 0))) ∧ Aside0 (wc.heap[gb150]? = some (.cells #[(.slice none 0 0)] 26 (0, 0))) ∧ Aside0 (wc.heap[gb151]? = some (.cells #[u152000] 26 (0, 0))) ∧ Aside0 (Below w.heap.size w wc))
      case first =>
       have H := HC67.out
       clear HC67
       replace H := Option.bind_eq_some_iff.mp H
       obtain ⟨t188, A680, H⟩ := H
       replace H : (if t188 ≥ 0 then (spec_GraphPut.j3 kj52 true l0_0 x152000_52) else ((spec_GraphOk.f kj52 x152000_52).bind fun t189 => (spec_GraphPut.j3 kj52 (!t189) l0_0 x152000_52))) = some (r1, r2) := H
       have A68 := mS A680
       clear A680
       by_cases c69 : t188 ≥ 0
       ·rw [if_pos c69] at H
        have c69b0 : decide (0 ≤ t188) = true := decide_eq_true c69
        clear c69
        (first | rw [c69b0] | (simp only [i64_w, i32_w]; rw [c69b0]) | skip)
        have H' := mS H
        clear H
        have hnb70 := NB148_149.out
        have hnc70 := NB149_148.out
        have hnb71 := NB148_150.out
        have hnc71 := NB150_148.out
        have hnb72 := NB148_151.out
        have hnc72 := NB151_148.out
        have hcz73_0 := mZ BK148.out 0
        have hfz73_0 := blk_frozen BK148.out 0
        have hnb74 := NB149_150.out
        have hnc74 := NB150_149.out
        have hnb75 := NB149_151.out
        have hnc75 := NB151_149.out
        obtain ⟨hcz76_0, hcz76_1, hcz76_2, hfz76_0, hfz76_1, hfz76_2⟩ := mZ3 BK149.out
        go_wp2_with (first | ((with_reducible refine gate_callee (f := 72) rfl ?_); refine mGo 60 Try.func72 #[.agg #[.slice A0_0 l0_0.length c0_0], .agg #[.int .i64 a1_0, .int .i64 a1_1]] ?_; (with_reducible refine (spec_l8At.calls kj52 _ _ l0_0 a1_0 a1_1 t188 _ ?side1 ?side2 A68.out).mono ?_); (case side1 => exact mC (Kd.C_below HR0_0.out HB.out)); (case side2 => exact HC0_0.out); rintro e w77 ⟨rfl, hb⟩; refine ⟨_, rfl, ?_⟩; replace HO_152000 := mS (Kd.S_below (mSd HO_152000.out) hb); replace BK148 := mB BK148 hb; replace BK149 := mB BK149 hb; replace BK150 := mB BK150 hb; replace BK151 := mB BK151 hb; replace HB := mS (below_step (mH4 HB.out GE148.out GE149.out GE150.out GE151.out) hb); (try clear hb)))
        go_meet
        case rel => exact ⟨_, (true), mE, H', ⟨by have := HK1.out; have := HJ52.out; first | omega | exact Nat.le_refl _⟩, ⟨mSd HO_152000.out⟩, ⟨mK BK148.out⟩, ⟨mK BK149.out⟩, ⟨mK BK150.out⟩, ⟨mK BK151.out⟩, ⟨(mH4 HB.out GE148.out GE149.out GE150.out GE151.out)⟩⟩
       ·rw [if_neg c69] at H
        have c69b0 : decide (0 ≤ t188) = false := decide_eq_false c69
        clear c69
        (first | rw [c69b0] | (simp only [i64_w, i32_w]; rw [c69b0]) | skip)
        replace H := Option.bind_eq_some_iff.mp H
        obtain ⟨t189, A780, H⟩ := H
        replace H : (spec_GraphPut.j3 kj52 (!t189) l0_0 x152000_52) = some (r1, r2) := H
        have A78 := mS A780
        clear A780
        have H' := mS H
        clear H
        have hnb79 := NB148_149.out
        have hnc79 := NB149_148.out
        have hnb80 := NB148_150.out
        have hnc80 := NB150_148.out
        have hnb81 := NB148_151.out
        have hnc81 := NB151_148.out
        have hcz82_0 := mZ BK148.out 0
        have hfz82_0 := blk_frozen BK148.out 0
        have hnb83 := NB149_150.out
        have hnc83 := NB150_149.out
        have hnb84 := NB149_151.out
        have hnc84 := NB151_149.out
        obtain ⟨hcz85_0, hcz85_1, hcz85_2, hfz85_0, hfz85_1, hfz85_2⟩ := mZ3 BK149.out
        go_wp2_with (first | ((with_reducible refine gate_callee (f := 72) rfl ?_); refine mGo 60 Try.func72 #[.agg #[.slice A0_0 l0_0.length c0_0], .agg #[.int .i64 a1_0, .int .i64 a1_1]] ?_; (with_reducible refine (spec_l8At.calls kj52 _ _ l0_0 a1_0 a1_1 t188 _ ?side1 ?side2 A68.out).mono ?_); (case side1 => exact mC (Kd.C_below HR0_0.out HB.out)); (case side2 => exact HC0_0.out); rintro e w86 ⟨rfl, hb⟩; refine ⟨_, rfl, ?_⟩; replace HO_152000 := mS (Kd.S_below (mSd HO_152000.out) hb); replace BK148 := mB BK148 hb; replace BK149 := mB BK149 hb; replace BK150 := mB BK150 hb; replace BK151 := mB BK151 hb; replace HB := mS (below_step (mH4 HB.out GE148.out GE149.out GE150.out GE151.out) hb); (try clear hb); have hnb87 := NB151_150.out; have hnc87 := NB150_151.out; have hcz88_0 := mZ BK151.out 0; have hfz88_0 := blk_frozen BK151.out 0; obtain ⟨Ao89, co89, eo89⟩ := Kd.S_slice HO_152000.out; subst eo89) | (go_at_call 73; (with_reducible refine (spec_GraphOk.calls kj52 _ _ x152000_52 t189 _ ?side1 ?side2 A78.out).mono ?_); (case side1 => exact mC (Kd.S_reads' HO_152000.out).2.2); (case side2 => exact (Kd.S_reads' HO_152000.out).2.1); rintro e w90 ⟨rfl, hb⟩; replace HO_152000 := mS (Kd.S_below (mSd HO_152000.out) hb); replace BK148 := mB BK148 hb; replace BK149 := mB BK149 hb; replace BK150 := mB BK150 hb; replace BK151 := mB BK151 hb; replace HB := mS (below_step (mH4 HB.out GE148.out GE149.out GE150.out GE151.out) hb); (try clear hb); (try clear hb2); (try clear hk); (try clear hi)))
        go_meet
        case rel => exact ⟨_, (!t189), mE, H', ⟨by have := HK1.out; have := HJ52.out; first | omega | exact Nat.le_refl _⟩, ⟨mSd HO_152000.out⟩, ⟨mK BK148.out⟩, ⟨mK BK149.out⟩, ⟨mK BK150.out⟩, ⟨mK BK151.out⟩, ⟨(mH4 HB.out GE148.out GE149.out GE150.out GE151.out)⟩⟩
      case rest =>
       clear HC67
       try clear c1
       try clear p1
       try clear q1
       try clear hx1
       try clear c2
       try clear p2
       try clear c4
       try clear c5
       try clear c6
       try clear p6
       try clear c7
       try clear c8
       try clear c11
       try clear c11b0
       try clear c17
       try clear p17
       try clear q17
       try clear hx17
       try clear c23
       try clear c25
       try clear c26
       try clear c27
       try clear c29
       try clear c43
       try clear c43b0
       try clear c44
       try clear c44b0
       try clear c46
       try clear c54
       try clear c55
       try clear c56
       try clear c58
       try clear c60
       try clear p64
       try clear c69
       try clear c69b0
       try clear c70
       try clear c71
       try clear c72
       try clear c74
       try clear c75
       try clear c79
       try clear c80
       try clear c81
       try clear c83
       try clear c84
       try clear c87
       try clear hcz57_0
       try clear hcz73_0
       try clear hcz76_0
       try clear hcz76_1
       try clear hcz76_2
       try clear hcz82_0
       try clear hcz85_0
       try clear hcz85_1
       try clear hcz85_2
       try clear hcz88_0
       try clear hfz57_0
       try clear hfz73_0
       try clear hfz76_0
       try clear hfz76_1
       try clear hfz76_2
       try clear hfz82_0
       try clear hfz85_0
       try clear hfz85_1
       try clear hfz85_2
       try clear hfz88_0
       try clear hx171_0
       try clear hx171_1
       try clear hx171_2
       try clear p1
       try clear p17
       try clear p171
       try clear p2
       try clear p6
       try clear p64
       try clear q1
       try clear q17
       try clear q171
       obtain ⟨kq, x66_66, rfl, HA, HJ66, HO_152000, BK148, BK149, BK150, BK151, HB⟩ := hcut
       cases kq with
       | zero => exact absurd HA.out (by simp [spec_GraphPut.j3])
       | succ kj66 =>
        have H := HA.out
        clear HA
        simp only [spec_GraphPut.j3] at H
        by_cases c91 : x66_66 = true
        ·subst c91
         have H1 := H
         rw [if_pos rfl] at H1
         clear H
         have H := H1
         clear H1
         replace H := Option.bind_eq_some_iff.mp H
         obtain ⟨t190, A920, H⟩ := H
         replace H : (some (t190, false)) = some (r1, r2) := H
         have A92 := mS A920
         clear A920
         simp only [Option.some.injEq, Prod.mk.injEq] at H
         obtain ⟨rfl, rfl⟩ := H
         have hnb93 := NB148_149.out
         have hnc93 := NB149_148.out
         have hnb94 := NB148_150.out
         have hnc94 := NB150_148.out
         have hnb95 := NB148_151.out
         have hnc95 := NB151_148.out
         have hcz96_0 := mZ BK148.out 0
         have hfz96_0 := blk_frozen BK148.out 0
         go_wp2_with (first | ((with_reducible refine gate_callee (f := 74) rfl ?_); refine mGo 68 Try.func74 #[.agg #[.slice A0_0 l0_0.length c0_0]] ?_; (with_reducible refine (spec_l8Copy.calls kj66 _ _ l0_0 t190 _ ?side1 ?side2 A92.out).mono ?_); (case side1 => exact mC (Kd.C_below HR0_0.out HB.out)); (case side2 => exact HC0_0.out); rintro e w97 ⟨v191, rfl, ho0, hb⟩; refine ⟨_, rfl, ?_⟩; have HO192 := mS (Kd.S_lower (Kd.S_newB (Kd.S_new' ho0 (Kd.S_lt (mSd HO_152000.out))) (g := gb149) (o := .cells #[.int .i64 a1_0, .int .i64 a1_1, .slice A1_2 l1_2.length c1_2] 33 (0, 0)) (mK BK149.out)) (below_size (mH4 HB.out GE148.out GE149.out GE150.out GE151.out))); replace HO_152000 := mS (Kd.S_elder' (mSd HO_152000.out) (Kd.S_base ho0) hb); replace BK148 := mB BK148 hb; replace BK149 := mB BK149 hb; replace BK150 := mB BK150 hb; replace BK151 := mB BK151 hb; replace HB := mS (below_step (mH4 HB.out GE148.out GE149.out GE150.out GE151.out) hb); (try clear hb); (try clear ho0); obtain ⟨Ao98, co98, eo98⟩ := Kd.S_slice HO192.out; subst eo98; have hnb99 := NB150_149.out; have hnc99 := NB149_150.out; have hnb100 := NB150_151.out; have hnc100 := NB151_150.out; have hcz101_0 := mZ BK150.out 0; have hfz101_0 := blk_frozen BK150.out 0))
         refine bodyPost_ret (results_ct rfl _ _ gb150 26 #[.slice Ao98 t190.length co98] (0, 0) _ rfl (by refine mK ?_; refine blk_put (cs := #[.slice none 0 0]) ?_ 0 _ rfl; refine mK ?_; exact BK150.out) Try.underlying26 rfl (by kernel_rfl)) rfl ?_
         exact ⟨_, mEw, by refine mSd ?_; exact Kd.S_mono (Kd.S_far (p := ⟨gb150, 0, none⟩) (Kd.S_types HO192.out BK150.out (by decide)) (fun _ hk => hk.2) (.slice Ao98 t190.length co98)) (fun _ hk => trivial), (mH4 HB.out GE148.out GE149.out GE150.out GE151.out)⟩
        ·replace c91 := Bool.eq_false_iff.mpr c91
         subst c91
         have H1 := H
         rw [if_neg (show ¬ (false = true) by decide)] at H1
         clear H
         have H := H1
         clear H1
         simp only [Option.some.injEq, Prod.mk.injEq] at H
         obtain ⟨rfl, rfl⟩ := H
         have hnb102 := NB151_148.out
         have hnc102 := NB148_151.out
         have hnb103 := NB151_149.out
         have hnc103 := NB149_151.out
         have hnb104 := NB151_150.out
         have hnc104 := NB150_151.out
         have hcz105_0 := mZ BK151.out 0
         have hfz105_0 := blk_frozen BK151.out 0
         obtain ⟨Ao106, co106, eo106⟩ := Kd.S_slice HO_152000.out
         subst eo106
         have hnb107 := NB150_148.out
         have hnc107 := NB148_150.out
         have hnb108 := NB150_149.out
         have hnc108 := NB149_150.out
         have hcz109_0 := mZ BK150.out 0
         have hfz109_0 := blk_frozen BK150.out 0
         go_wp2
         refine bodyPost_ret (results_ct rfl _ _ gb150 26 #[.slice Ao106 x152000_52.length co106] (0, 0) _ rfl (by refine mK ?_; refine blk_put (cs := #[.slice none 0 0]) ?_ 0 _ rfl; refine mK ?_; exact BK150.out) Try.underlying26 rfl (by kernel_rfl)) rfl ?_
         exact ⟨_, mEw, by refine mSd ?_; exact Kd.S_mono (Kd.S_far (p := ⟨gb150, 0, none⟩) (Kd.S_types HO_152000.out BK150.out (by decide)) (fun _ hk => hk.2) (.slice Ao106 x152000_52.length co106)) (fun _ hk => trivial), (mH4 HB.out GE148.out GE149.out GE150.out GE151.out)⟩

end Go.Proofs.Ytgbejjeephipeaa.MFnStable
