-- Written by mp.py, this session's own printer (wip/mp.py).
import Derived.Test.YtecjamgajlpfdaaVMShort
import Derived.Test.YtecjamgajlpfdaaMFnExactGraphPutx0
import Derived.Test.YtecjamgajlpfdaaMFnExactGraphPutx2
import Derived.Test.YtecjamgajlpfdaaMFnExactGraphPutx6
import Derived.Test.YtecjamgajlpfdaaMFnExactGraphPutx7
import Derived.Test.YtecjamgajlpfdaaMFnExactGraphPutx11
import Derived.Test.YtecjamgajlpfdaaMFnExactGraphPutx12
import Derived.Test.YtecjamgajlpfdaaMFnExactGraphPutx13
import Derived.Test.YtecjamgajlpfdaaMFnExactGraphPutx14
namespace Go.Proofs.Ytecjamgajlpfdaa.MFnExactGraphPut
open Go.RowKit Go.Proofs.YtecjamgajlpfdaaW.PrintWords Go.Proofs.YtecjamgajlpfdaaW.PrintLast Go.Proofs.YtecjamgajlpfdaaW.PrintMore Go.Proofs.Ytecjamgajlpfdaa.MWords
attribute [local go_sem] max2_int min2_int max_two min_two max_three min_three max_four min_four   -- for this text's walks alone
set_option linter.unusedVariables false
set_option linter.unusedSimpArgs false

/-! ### laws_FnExactGraphPut: function 6 -/
theorem mKk_FnExactGraphPut {w0 w w1 : World} {g : Nat} {o : Obj} {P : Nat → Prop} (x : w0.heap[g]? = some o) (hk : Kept w w1 P) (hn : ¬ P g) (h : w0.heap[g]? = some o → w.heap[g]? = some o := by intro h_; (with_reducible repeat (first | refine blk_drewN ?_ _ | refine blk_drew ?_ | refine blk_alloc ?_ _)); exact h_) : w1.heap[g]? = some o := blk_kept (h x) hk hn
mutual
def laws_FnExactGraphPut.j0 : Nat → Bool → Bool → Bool → List (S47) → Int → Int → List (S44) → List (S59) → List (S59) → Int → Int → List (S56) → List (S59) → Option (Bool)
 | 0, _, _, _, _, _, _, _, _, _, _, _, _, _ => none
 | k + 1, x7, x11, x53, x335000, x336000, x336001, x336002, x351000, x355000, x361000, x361001, x361002, x366000 => if x53 = true then (some false) else ((laws_toGraph.f k x335000).bind fun t367 => ((laws_eqGraph.f k x355000 t367).bind fun t370 => (if t370 = true then ((laws_toItem.f k x336000 x336001 x336002).bind fun bt371 => ((laws_eqItem.f k x361000 x361001 x361002 bt371.1 bt371.2.1 bt371.2.2).bind fun t376 => (if t376 = true then ((laws_markGraph.f k x355000 1).bind fun bt377 => ((laws_markItem.f k x361000 x361001 x361002 bt377.1).bind fun bt379 => (if bt379.1 < 0 then (laws_FnExactGraphPut.j1 k x7 true x335000 x336000 x336001 x336002 x351000 x366000) else ((laws_eqGraph.f k x366000 x351000).bind fun t381 => (if t381 = true then (laws_FnExactGraphPut.j1 k x7 (x11 != x7) x335000 x336000 x336001 x336002 x351000 x366000) else (laws_FnExactGraphPut.j1 k x7 true x335000 x336000 x336001 x336002 x351000 x366000)))))) else (some false)))) else (some false))))
def laws_FnExactGraphPut.j1 : Nat → Bool → Bool → List (S47) → Int → Int → List (S44) → List (S59) → List (S59) → Option (Bool)
 | 0, _, _, _, _, _, _, _, _ => none
 | k + 1, x7, x82, x335000, x336000, x336001, x336002, x351000, x366000 => if x82 = true then (some false) else ((laws_markGraph.f k x366000 1).bind fun bt382 => ((laws_heldGraph.f k bt382.2 1).bind fun t384 => (if t384 < 0 then (some false) else (if t384 = bt382.1 then ((laws_toGraph.f k x335000).bind fun t385 => ((laws_toItem.f k x336000 x336001 x336002).bind fun bt388 => ((impl_GraphPut.f k t385 bt388.1 bt388.2.1 bt388.2.2).bind fun bt393 => ((laws_eqGraph.f k bt393.1 x351000).bind fun t398 => (if t398 = true then (laws_FnExactGraphPut.j2 k bt382.1 (bt393.2 != x7) bt382.2) else (laws_FnExactGraphPut.j2 k bt382.1 true bt382.2)))))) else (some false)))))
def laws_FnExactGraphPut.j2 : Nat → Int → Bool → List (S59) → Option (Bool)
 | 0, _, _, _ => none
 | k + 1, x13, x110, x366000 => if x110 = true then (some false) else ((laws_heldGraph.f k x366000 1).bind fun t399 => (if t399 < 0 then (some false) else (if t399 = x13 then (some true) else (some false))))
end
def laws_FnExactGraphPut.f (k : Nat) (l0_0 : List (S47)) (a1_0 : Int) (a1_1 : Int) (l1_2 : List (S44)) : Option (Bool) := (laws_szGraph.f k l0_0 1048576).bind fun t336 => (if t336 < 0 then (some true) else ((laws_szItem.f a1_0 a1_1 l1_2 t336).bind fun t337 => (if t337 < 0 then (some true) else ((laws_toGraph.f k l0_0).bind fun t338 => ((laws_toItem.f k a1_0 a1_1 l1_2).bind fun bt341 => ((spec_GraphPut.f k t338 bt341.1 bt341.2.1 bt341.2.2).bind fun bt346 => ((laws_toGraph.f k l0_0).bind fun t351 => ((laws_toItem.f k a1_0 a1_1 l1_2).bind fun bt355 => ((impl_GraphPut.f k t351 bt355.1 bt355.2.1 bt355.2.2).bind fun bt361 => ((laws_eqGraph.f k bt361.1 bt346.1).bind fun t366 => (if t366 = true then (laws_FnExactGraphPut.j0 k bt346.2 bt361.2 (bt361.2 != bt346.2) l0_0 a1_0 a1_1 l1_2 bt346.1 t351 bt355.1 bt355.2.1 bt355.2.2 bt361.1) else (laws_FnExactGraphPut.j0 k bt346.2 bt361.2 true l0_0 a1_0 a1_1 l1_2 bt346.1 t351 bt355.1 bt355.2.1 bt355.2.2 bt361.1))))))))))))
theorem laws_FnExactGraphPut.mono_l : ∀ k, (∀ y0 y1 y2 y3 y4 y5 y6 y7 y8 y9 y10 y11 y12, LeO (laws_FnExactGraphPut.j0 k y0 y1 y2 y3 y4 y5 y6 y7 y8 y9 y10 y11 y12) (laws_FnExactGraphPut.j0 (k + 1) y0 y1 y2 y3 y4 y5 y6 y7 y8 y9 y10 y11 y12)) ∧ (∀ y0 y1 y2 y3 y4 y5 y6 y7, LeO (laws_FnExactGraphPut.j1 k y0 y1 y2 y3 y4 y5 y6 y7) (laws_FnExactGraphPut.j1 (k + 1) y0 y1 y2 y3 y4 y5 y6 y7)) ∧ (∀ y0 y1 y2, LeO (laws_FnExactGraphPut.j2 k y0 y1 y2) (laws_FnExactGraphPut.j2 (k + 1) y0 y1 y2))
 | 0 => ⟨fun _ _ _ _ _ _ _ _ _ _ _ _ _ r h => by simp [laws_FnExactGraphPut.j0] at h, fun _ _ _ _ _ _ _ _ r h => by simp [laws_FnExactGraphPut.j1] at h, fun _ _ _ r h => by simp [laws_FnExactGraphPut.j2] at h⟩
 | k + 1 => by
  obtain ⟨ih0, ih1, ih2⟩ := laws_FnExactGraphPut.mono_l k
  refine ⟨?_, ?_, ?_⟩
  ·intro y0 y1 y2 y3 y4 y5 y6 y7 y8 y9 y10 y11 y12
   unfold laws_FnExactGraphPut.j0
   repeat' first
   | (with_reducible exact ih0 _ _ _ _ _ _ _ _ _ _ _ _ _)
   | (with_reducible exact ih1 _ _ _ _ _ _ _ _)
   | (with_reducible exact ih2 _ _ _)
   | (with_reducible exact impl_GraphPut.mono _ _ _ _ _)
   | (with_reducible exact laws_eqGraph.mono _ _ _)
   | (with_reducible exact laws_eqItem.mono _ _ _ _ _ _ _)
   | (with_reducible exact laws_heldGraph.mono _ _ _)
   | (with_reducible exact laws_markGraph.mono _ _ _)
   | (with_reducible exact laws_markItem.mono _ _ _ _ _)
   | (with_reducible exact laws_szGraph.mono _ _ _)
   | (with_reducible exact laws_toGraph.mono _ _)
   | (with_reducible exact laws_toItem.mono _ _ _ _)
   | (with_reducible exact spec_GraphPut.mono _ _ _ _ _)
   | (with_reducible exact LeO.refl _)
   | (with_reducible exact LeO.none _)
   | (with_reducible refine LeO.ite ?_ ?_)
   | (with_reducible refine LeO.bind ?_ (fun _ => ?_))
   | exact ih0 _ _ _ _ _ _ _ _ _ _ _ _ _
   | exact ih1 _ _ _ _ _ _ _ _
   | exact ih2 _ _ _
   | exact impl_GraphPut.mono _ _ _ _ _
   | exact laws_eqGraph.mono _ _ _
   | exact laws_eqItem.mono _ _ _ _ _ _ _
   | exact laws_heldGraph.mono _ _ _
   | exact laws_markGraph.mono _ _ _
   | exact laws_markItem.mono _ _ _ _ _
   | exact laws_szGraph.mono _ _ _
   | exact laws_toGraph.mono _ _
   | exact laws_toItem.mono _ _ _ _
   | exact spec_GraphPut.mono _ _ _ _ _
   | exact LeO.none _
   | refine LeO.ite ?_ ?_
   | refine LeO.bind ?_ (fun _ => ?_)
  ·intro y0 y1 y2 y3 y4 y5 y6 y7
   unfold laws_FnExactGraphPut.j1
   repeat' first
   | (with_reducible exact ih0 _ _ _ _ _ _ _ _ _ _ _ _ _)
   | (with_reducible exact ih1 _ _ _ _ _ _ _ _)
   | (with_reducible exact ih2 _ _ _)
   | (with_reducible exact impl_GraphPut.mono _ _ _ _ _)
   | (with_reducible exact laws_eqGraph.mono _ _ _)
   | (with_reducible exact laws_eqItem.mono _ _ _ _ _ _ _)
   | (with_reducible exact laws_heldGraph.mono _ _ _)
   | (with_reducible exact laws_markGraph.mono _ _ _)
   | (with_reducible exact laws_markItem.mono _ _ _ _ _)
   | (with_reducible exact laws_szGraph.mono _ _ _)
   | (with_reducible exact laws_toGraph.mono _ _)
   | (with_reducible exact laws_toItem.mono _ _ _ _)
   | (with_reducible exact spec_GraphPut.mono _ _ _ _ _)
   | (with_reducible exact LeO.refl _)
   | (with_reducible exact LeO.none _)
   | (with_reducible refine LeO.ite ?_ ?_)
   | (with_reducible refine LeO.bind ?_ (fun _ => ?_))
   | exact ih0 _ _ _ _ _ _ _ _ _ _ _ _ _
   | exact ih1 _ _ _ _ _ _ _ _
   | exact ih2 _ _ _
   | exact impl_GraphPut.mono _ _ _ _ _
   | exact laws_eqGraph.mono _ _ _
   | exact laws_eqItem.mono _ _ _ _ _ _ _
   | exact laws_heldGraph.mono _ _ _
   | exact laws_markGraph.mono _ _ _
   | exact laws_markItem.mono _ _ _ _ _
   | exact laws_szGraph.mono _ _ _
   | exact laws_toGraph.mono _ _
   | exact laws_toItem.mono _ _ _ _
   | exact spec_GraphPut.mono _ _ _ _ _
   | exact LeO.none _
   | refine LeO.ite ?_ ?_
   | refine LeO.bind ?_ (fun _ => ?_)
  ·intro y0 y1 y2
   unfold laws_FnExactGraphPut.j2
   repeat' first
   | (with_reducible exact ih0 _ _ _ _ _ _ _ _ _ _ _ _ _)
   | (with_reducible exact ih1 _ _ _ _ _ _ _ _)
   | (with_reducible exact ih2 _ _ _)
   | (with_reducible exact impl_GraphPut.mono _ _ _ _ _)
   | (with_reducible exact laws_eqGraph.mono _ _ _)
   | (with_reducible exact laws_eqItem.mono _ _ _ _ _ _ _)
   | (with_reducible exact laws_heldGraph.mono _ _ _)
   | (with_reducible exact laws_markGraph.mono _ _ _)
   | (with_reducible exact laws_markItem.mono _ _ _ _ _)
   | (with_reducible exact laws_szGraph.mono _ _ _)
   | (with_reducible exact laws_toGraph.mono _ _)
   | (with_reducible exact laws_toItem.mono _ _ _ _)
   | (with_reducible exact spec_GraphPut.mono _ _ _ _ _)
   | (with_reducible exact LeO.refl _)
   | (with_reducible exact LeO.none _)
   | (with_reducible refine LeO.ite ?_ ?_)
   | (with_reducible refine LeO.bind ?_ (fun _ => ?_))
   | exact ih0 _ _ _ _ _ _ _ _ _ _ _ _ _
   | exact ih1 _ _ _ _ _ _ _ _
   | exact ih2 _ _ _
   | exact impl_GraphPut.mono _ _ _ _ _
   | exact laws_eqGraph.mono _ _ _
   | exact laws_eqItem.mono _ _ _ _ _ _ _
   | exact laws_heldGraph.mono _ _ _
   | exact laws_markGraph.mono _ _ _
   | exact laws_markItem.mono _ _ _ _ _
   | exact laws_szGraph.mono _ _ _
   | exact laws_toGraph.mono _ _
   | exact laws_toItem.mono _ _ _ _
   | exact spec_GraphPut.mono _ _ _ _ _
   | exact LeO.none _
   | refine LeO.ite ?_ ?_
   | refine LeO.bind ?_ (fun _ => ?_)
theorem laws_FnExactGraphPut.mono : ∀ a0 a1 a2 a3 k, LeO (laws_FnExactGraphPut.f k a0 a1 a2 a3) (laws_FnExactGraphPut.f (k + 1) a0 a1 a2 a3) := by
 intro a0 a1 a2 a3 k
 obtain ⟨ih0, ih1, ih2⟩ := laws_FnExactGraphPut.mono_l k
 unfold laws_FnExactGraphPut.f
 repeat' first
   | (with_reducible exact ih0 _ _ _ _ _ _ _ _ _ _ _ _ _)
   | (with_reducible exact ih1 _ _ _ _ _ _ _ _)
   | (with_reducible exact ih2 _ _ _)
   | (with_reducible exact impl_GraphPut.mono _ _ _ _ _)
   | (with_reducible exact laws_eqGraph.mono _ _ _)
   | (with_reducible exact laws_eqItem.mono _ _ _ _ _ _ _)
   | (with_reducible exact laws_heldGraph.mono _ _ _)
   | (with_reducible exact laws_markGraph.mono _ _ _)
   | (with_reducible exact laws_markItem.mono _ _ _ _ _)
   | (with_reducible exact laws_szGraph.mono _ _ _)
   | (with_reducible exact laws_toGraph.mono _ _)
   | (with_reducible exact laws_toItem.mono _ _ _ _)
   | (with_reducible exact spec_GraphPut.mono _ _ _ _ _)
   | (with_reducible exact LeO.refl _)
   | (with_reducible exact LeO.none _)
   | (with_reducible refine LeO.ite ?_ ?_)
   | (with_reducible refine LeO.bind ?_ (fun _ => ?_))
   | exact ih0 _ _ _ _ _ _ _ _ _ _ _ _ _
   | exact ih1 _ _ _ _ _ _ _ _
   | exact ih2 _ _ _
   | exact impl_GraphPut.mono _ _ _ _ _
   | exact laws_eqGraph.mono _ _ _
   | exact laws_eqItem.mono _ _ _ _ _ _ _
   | exact laws_heldGraph.mono _ _ _
   | exact laws_markGraph.mono _ _ _
   | exact laws_markItem.mono _ _ _ _ _
   | exact laws_szGraph.mono _ _ _
   | exact laws_toGraph.mono _ _
   | exact laws_toItem.mono _ _ _ _
   | exact spec_GraphPut.mono _ _ _ _ _
   | exact LeO.none _
   | refine LeO.ite ?_ ?_
   | refine LeO.bind ?_ (fun _ => ?_)
def laws_FnExactGraphPut.T8 : Bool × List (List Nat × List Nat) := (true, [([], []), ([0], [0]), ([], []), ([2, 1], [2]), ([1, 3, 3], [1, 3]), ([4], [4]), ([5], [5]), ([5], [5]), ([], []), ([8, 6, 4, 0, 1, 2, 3, 4, 5, 6, 8], [6, 8]), ([7, 9, 0, 1, 2, 3, 4, 5, 6, 7, 8, 9], [7])])
def laws_FnExactGraphPut.B8 : List Nat := [0, 1, 0, 7, 15, 31, 63, 63, 0, 383, 1023]
theorem laws_FnExactGraphPut.tab8 : rtab .any (opsOf Try.f6 8) = laws_FnExactGraphPut.T8 := by kernel_rfl
theorem laws_FnExactGraphPut.bits8 : waitsOk laws_FnExactGraphPut.T8.2 laws_FnExactGraphPut.B8 = true := by kernel_rfl
def laws_FnExactGraphPut.T31 : Bool × List (List Nat × List Nat) := (true, [([], []), ([0], [0]), ([], []), ([2, 1], [2]), ([1, 3, 3], [1, 3]), ([4], [4]), ([5], [5]), ([5], [5]), ([], []), ([8, 6, 4, 0, 1, 2, 3, 4, 5, 6, 8], [6, 8]), ([7, 9, 0, 1, 2, 3, 4, 5, 6, 7, 8, 9], [7])])
def laws_FnExactGraphPut.B31 : List Nat := [0, 1, 0, 7, 15, 31, 63, 63, 0, 383, 1023]
theorem laws_FnExactGraphPut.tab31 : rtab .any (opsOf Try.f6 31) = laws_FnExactGraphPut.T31 := by kernel_rfl
theorem laws_FnExactGraphPut.bits31 : waitsOk laws_FnExactGraphPut.T31.2 laws_FnExactGraphPut.B31 = true := by kernel_rfl
set_option maxHeartbeats 8000000 in
set_option maxRecDepth 100000 in
theorem laws_FnExactGraphPut.calls (k : Nat) (A0_0 : Option Addr) (c0_0 : Nat) (l0_0 : List (S47)) (a1_0 : Int) (a1_1 : Int) (A1_2 : Option Addr) (c1_2 : Nat) (l1_2 : List (S44)) (r : Bool) (w : World) (hr0_0 : Kd.C k47 w A0_0 l0_0.length l0_0) (hc0_0 : l0_0.length ≤ c0_0) (hr1_2 : Kd.C k44 w A1_2 l1_2.length l1_2) (hc1_2 : l1_2.length ≤ c1_2) (ht_ : r = true) (h : laws_FnExactGraphPut.f k l0_0 a1_0 a1_1 l1_2 = some r) :
  Calls Try.prog 6 #[.agg #[.slice A0_0 l0_0.length c0_0], .agg #[.int .i64 a1_0, .int .i64 a1_1, .slice A1_2 l1_2.length c1_2]] w fun e w' => e = .returned (.bool r) ∧ Below w.heap.size w w' := by
 have hu42 := Try.underlying42
 have hu47 := Try.underlying47
 have hu52 := Try.underlying52
 have hu59 := Try.underlying59
 have HR0_0 := mS hr0_0
 have HC0_0 := mS hc0_0
 clear hr0_0 hc0_0
 have HR1_2 := mS hr1_2
 have HC1_2 := mS hc1_2
 clear hr1_2 hc1_2
 have HB := mS (Below.refl w.heap.size w)
 have H : ((laws_szGraph.f k l0_0 1048576).bind fun t336 => (if t336 < 0 then (some true) else ((laws_szItem.f a1_0 a1_1 l1_2 t336).bind fun t337 => (if t337 < 0 then (some true) else ((laws_toGraph.f k l0_0).bind fun t338 => ((laws_toItem.f k a1_0 a1_1 l1_2).bind fun bt341 => ((spec_GraphPut.f k t338 bt341.1 bt341.2.1 bt341.2.2).bind fun bt346 => ((laws_toGraph.f k l0_0).bind fun t351 => ((laws_toItem.f k a1_0 a1_1 l1_2).bind fun bt355 => ((impl_GraphPut.f k t351 bt355.1 bt355.2.1 bt355.2.2).bind fun bt361 => ((laws_eqGraph.f k bt361.1 bt346.1).bind fun t366 => (if t366 = true then (laws_FnExactGraphPut.j0 k bt346.2 bt361.2 (bt361.2 != bt346.2) l0_0 a1_0 a1_1 l1_2 bt346.1 t351 bt355.1 bt355.2.1 bt355.2.2 bt361.1) else (laws_FnExactGraphPut.j0 k bt346.2 bt361.2 true l0_0 a1_0 a1_1 l1_2 bt346.1 t351 bt355.1 bt355.2.1 bt355.2.2 bt361.1))))))))))))) = some r := h
 clear h
 replace H := Option.bind_eq_some_iff.mp H
 obtain ⟨t336, A30, H⟩ := H
 replace H : (if t336 < 0 then (some true) else ((laws_szItem.f a1_0 a1_1 l1_2 t336).bind fun t337 => (if t337 < 0 then (some true) else ((laws_toGraph.f k l0_0).bind fun t338 => ((laws_toItem.f k a1_0 a1_1 l1_2).bind fun bt341 => ((spec_GraphPut.f k t338 bt341.1 bt341.2.1 bt341.2.2).bind fun bt346 => ((laws_toGraph.f k l0_0).bind fun t351 => ((laws_toItem.f k a1_0 a1_1 l1_2).bind fun bt355 => ((impl_GraphPut.f k t351 bt355.1 bt355.2.1 bt355.2.2).bind fun bt361 => ((laws_eqGraph.f k bt361.1 bt346.1).bind fun t366 => (if t366 = true then (laws_FnExactGraphPut.j0 k bt346.2 bt361.2 (bt361.2 != bt346.2) l0_0 a1_0 a1_1 l1_2 bt346.1 t351 bt355.1 bt355.2.1 bt355.2.2 bt361.1) else (laws_FnExactGraphPut.j0 k bt346.2 bt361.2 true l0_0 a1_0 a1_1 l1_2 bt346.1 t351 bt355.1 bt355.2.1 bt355.2.2 bt361.1)))))))))))) = some r := H
 have A3 := mS A30
 clear A30
 by_cases c4 : t336 < 0
 ·rw [if_pos c4] at H
  have c4b0 := decide_eq_true c4
  clear c4
  obtain rfl := Option.some.inj H
  go_enter Try.func6, Try.ntmps6
  go_wp2_with (first | ((with_reducible refine gate_dst (N := 2) rfl ?_); refine mBx 2 #[.slice A0_0 l0_0.length c0_0] 42 ?_; intro gb334 hg w5 hbox hb; have BK334 := mS (hbox); have GW334 := mG hg (mH HB.out); have GE334 := mG hg (mH HB.out); replace HB := mS (below_step (mH HB.out) hb); clear hb hbox hg) | ((with_reducible refine gate_dst (N := 3) rfl ?_); refine mBx 3 #[.int .i64 a1_0, .int .i64 a1_1, .slice A1_2 l1_2.length c1_2] 47 ?_; intro gb335 hg w6 hbox hb; have BK335 := mS (hbox); have GW335 := mG hg (mH1 HB.out GE334.out); have GE335 := mG hg (mH1 HB.out GE334.out); replace HB := mS (below_step (mH1 HB.out GE334.out) hb); have NB334_335 := mNl hg BK334.out; have NB335_334 := mNg hg BK334.out; replace BK334 := mB BK334 hb; clear hb hbox hg; have hnb7 := NB334_335.out; have hnc7 := NB335_334.out; have hcz8_0 := mZ BK334.out 0; have hfz8_0 := blk_frozen BK334.out 0) | ((with_reducible refine gate_callee (f := 23) rfl ?_); refine mGo 19 Try.func23 #[.agg #[.slice A0_0 l0_0.length c0_0], .int .i64 1048576] ?_; (with_reducible refine (laws_szGraph.calls k _ _ l0_0 1048576 t336 _ ?side1 ?side2 A3.out).mono ?_); (case side1 => exact mC (Kd.C_below HR0_0.out HB.out)); (case side2 => exact HC0_0.out); rintro e w9 ⟨rfl, hb⟩; refine ⟨_, rfl, ?_⟩; replace BK334 := mB BK334 hb; replace BK335 := mB BK335 hb; replace HB := mS (below_step (mH2 HB.out GE334.out GE335.out) hb); (try clear hb)))
  go_ret
  exact ⟨mEw, (mH2 HB.out GE334.out GE335.out)⟩
 ·rw [if_neg c4] at H
  have c4b0 := decide_eq_false c4
  clear c4
  replace H := Option.bind_eq_some_iff.mp H
  obtain ⟨t337, A100, H⟩ := H
  replace H : (if t337 < 0 then (some true) else ((laws_toGraph.f k l0_0).bind fun t338 => ((laws_toItem.f k a1_0 a1_1 l1_2).bind fun bt341 => ((spec_GraphPut.f k t338 bt341.1 bt341.2.1 bt341.2.2).bind fun bt346 => ((laws_toGraph.f k l0_0).bind fun t351 => ((laws_toItem.f k a1_0 a1_1 l1_2).bind fun bt355 => ((impl_GraphPut.f k t351 bt355.1 bt355.2.1 bt355.2.2).bind fun bt361 => ((laws_eqGraph.f k bt361.1 bt346.1).bind fun t366 => (if t366 = true then (laws_FnExactGraphPut.j0 k bt346.2 bt361.2 (bt361.2 != bt346.2) l0_0 a1_0 a1_1 l1_2 bt346.1 t351 bt355.1 bt355.2.1 bt355.2.2 bt361.1) else (laws_FnExactGraphPut.j0 k bt346.2 bt361.2 true l0_0 a1_0 a1_1 l1_2 bt346.1 t351 bt355.1 bt355.2.1 bt355.2.2 bt361.1)))))))))) = some r := H
  have A10 := mS A100
  clear A100
  by_cases c11 : t337 < 0
  ·rw [if_pos c11] at H
   have c11b0 := decide_eq_true c11
   clear c11
   obtain rfl := Option.some.inj H
   go_enter Try.func6, Try.ntmps6
   go_wp2_with (first | ((with_reducible refine gate_dst (N := 2) rfl ?_); refine mBx 2 #[.slice A0_0 l0_0.length c0_0] 42 ?_; intro gb334 hg w12 hbox hb; have BK334 := mS (hbox); have GW334 := mG hg (mH HB.out); have GE334 := mG hg (mH HB.out); replace HB := mS (below_step (mH HB.out) hb); clear hb hbox hg) | ((with_reducible refine gate_dst (N := 3) rfl ?_); refine mBx 3 #[.int .i64 a1_0, .int .i64 a1_1, .slice A1_2 l1_2.length c1_2] 47 ?_; intro gb335 hg w13 hbox hb; have BK335 := mS (hbox); have GW335 := mG hg (mH1 HB.out GE334.out); have GE335 := mG hg (mH1 HB.out GE334.out); replace HB := mS (below_step (mH1 HB.out GE334.out) hb); have NB334_335 := mNl hg BK334.out; have NB335_334 := mNg hg BK334.out; replace BK334 := mB BK334 hb; clear hb hbox hg; have hnb14 := NB334_335.out; have hnc14 := NB335_334.out; have hcz15_0 := mZ BK334.out 0; have hfz15_0 := blk_frozen BK334.out 0) | ((with_reducible refine gate_callee (f := 23) rfl ?_); refine mGo 19 Try.func23 #[.agg #[.slice A0_0 l0_0.length c0_0], .int .i64 1048576] ?_; (with_reducible refine (laws_szGraph.calls k _ _ l0_0 1048576 t336 _ ?side1 ?side2 A3.out).mono ?_); (case side1 => exact mC (Kd.C_below HR0_0.out HB.out)); (case side2 => exact HC0_0.out); rintro e w16 ⟨rfl, hb⟩; refine ⟨_, rfl, ?_⟩; replace BK334 := mB BK334 hb; replace BK335 := mB BK335 hb; replace HB := mS (below_step (mH2 HB.out GE334.out GE335.out) hb); (try clear hb); obtain ⟨hcz17_0, hcz17_1, hcz17_2, hfz17_0, hfz17_1, hfz17_2⟩ := mZ3 BK335.out) | ((with_reducible refine gate_callee (f := 24) rfl ?_); refine mGo 24 Try.func24 #[.agg #[.int .i64 a1_0, .int .i64 a1_1, .slice A1_2 l1_2.length c1_2], .int .i64 t336] ?_; (with_reducible refine (laws_szItem.calls a1_0 a1_1 _ _ l1_2 t336 t337 _ ?side1 ?side2 A10.out).mono ?_); (case side1 => exact mC (Kd.C_below HR1_2.out HB.out)); (case side2 => exact HC1_2.out); rintro e w18 ⟨rfl, hb⟩; refine ⟨_, rfl, ?_⟩; replace BK334 := mB BK334 hb; replace BK335 := mB BK335 hb; replace HB := mS (below_step (mH2 HB.out GE334.out GE335.out) hb); (try clear hb)))
   go_ret
   exact ⟨mEw, (mH2 HB.out GE334.out GE335.out)⟩
  ·rw [if_neg c11] at H
   have c11b0 := decide_eq_false c11
   clear c11
   replace H := Option.bind_eq_some_iff.mp H
   obtain ⟨t338, A190, H⟩ := H
   replace H : ((laws_toItem.f k a1_0 a1_1 l1_2).bind fun bt341 => ((spec_GraphPut.f k t338 bt341.1 bt341.2.1 bt341.2.2).bind fun bt346 => ((laws_toGraph.f k l0_0).bind fun t351 => ((laws_toItem.f k a1_0 a1_1 l1_2).bind fun bt355 => ((impl_GraphPut.f k t351 bt355.1 bt355.2.1 bt355.2.2).bind fun bt361 => ((laws_eqGraph.f k bt361.1 bt346.1).bind fun t366 => (if t366 = true then (laws_FnExactGraphPut.j0 k bt346.2 bt361.2 (bt361.2 != bt346.2) l0_0 a1_0 a1_1 l1_2 bt346.1 t351 bt355.1 bt355.2.1 bt355.2.2 bt361.1) else (laws_FnExactGraphPut.j0 k bt346.2 bt361.2 true l0_0 a1_0 a1_1 l1_2 bt346.1 t351 bt355.1 bt355.2.1 bt355.2.2 bt361.1)))))))) = some r := H
   have A19 := mS A190
   clear A190
   replace H := Option.bind_eq_some_iff.mp H
   obtain ⟨⟨t341, t342, t343⟩, A200, H⟩ := H
   replace H : ((spec_GraphPut.f k t338 t341 t342 t343).bind fun bt346 => ((laws_toGraph.f k l0_0).bind fun t351 => ((laws_toItem.f k a1_0 a1_1 l1_2).bind fun bt355 => ((impl_GraphPut.f k t351 bt355.1 bt355.2.1 bt355.2.2).bind fun bt361 => ((laws_eqGraph.f k bt361.1 bt346.1).bind fun t366 => (if t366 = true then (laws_FnExactGraphPut.j0 k bt346.2 bt361.2 (bt361.2 != bt346.2) l0_0 a1_0 a1_1 l1_2 bt346.1 t351 bt355.1 bt355.2.1 bt355.2.2 bt361.1) else (laws_FnExactGraphPut.j0 k bt346.2 bt361.2 true l0_0 a1_0 a1_1 l1_2 bt346.1 t351 bt355.1 bt355.2.1 bt355.2.2 bt361.1))))))) = some r := H
   have A20 := mS A200
   clear A200
   replace H := Option.bind_eq_some_iff.mp H
   obtain ⟨⟨t346, t349⟩, A210, H⟩ := H
   replace H : ((laws_toGraph.f k l0_0).bind fun t351 => ((laws_toItem.f k a1_0 a1_1 l1_2).bind fun bt355 => ((impl_GraphPut.f k t351 bt355.1 bt355.2.1 bt355.2.2).bind fun bt361 => ((laws_eqGraph.f k bt361.1 t346).bind fun t366 => (if t366 = true then (laws_FnExactGraphPut.j0 k t349 bt361.2 (bt361.2 != t349) l0_0 a1_0 a1_1 l1_2 t346 t351 bt355.1 bt355.2.1 bt355.2.2 bt361.1) else (laws_FnExactGraphPut.j0 k t349 bt361.2 true l0_0 a1_0 a1_1 l1_2 t346 t351 bt355.1 bt355.2.1 bt355.2.2 bt361.1)))))) = some r := H
   have A21 := mS A210
   clear A210
   replace H := Option.bind_eq_some_iff.mp H
   obtain ⟨t351, A220, H⟩ := H
   replace H : ((laws_toItem.f k a1_0 a1_1 l1_2).bind fun bt355 => ((impl_GraphPut.f k t351 bt355.1 bt355.2.1 bt355.2.2).bind fun bt361 => ((laws_eqGraph.f k bt361.1 t346).bind fun t366 => (if t366 = true then (laws_FnExactGraphPut.j0 k t349 bt361.2 (bt361.2 != t349) l0_0 a1_0 a1_1 l1_2 t346 t351 bt355.1 bt355.2.1 bt355.2.2 bt361.1) else (laws_FnExactGraphPut.j0 k t349 bt361.2 true l0_0 a1_0 a1_1 l1_2 t346 t351 bt355.1 bt355.2.1 bt355.2.2 bt361.1))))) = some r := H
   have A22 := mS A220
   clear A220
   replace H := Option.bind_eq_some_iff.mp H
   obtain ⟨⟨t355, t356, t357⟩, A230, H⟩ := H
   replace H : ((impl_GraphPut.f k t351 t355 t356 t357).bind fun bt361 => ((laws_eqGraph.f k bt361.1 t346).bind fun t366 => (if t366 = true then (laws_FnExactGraphPut.j0 k t349 bt361.2 (bt361.2 != t349) l0_0 a1_0 a1_1 l1_2 t346 t351 t355 t356 t357 bt361.1) else (laws_FnExactGraphPut.j0 k t349 bt361.2 true l0_0 a1_0 a1_1 l1_2 t346 t351 t355 t356 t357 bt361.1)))) = some r := H
   have A23 := mS A230
   clear A230
   replace H := Option.bind_eq_some_iff.mp H
   obtain ⟨⟨t361, t364⟩, A240, H⟩ := H
   replace H : ((laws_eqGraph.f k t361 t346).bind fun t366 => (if t366 = true then (laws_FnExactGraphPut.j0 k t349 t364 (t364 != t349) l0_0 a1_0 a1_1 l1_2 t346 t351 t355 t356 t357 t361) else (laws_FnExactGraphPut.j0 k t349 t364 true l0_0 a1_0 a1_1 l1_2 t346 t351 t355 t356 t357 t361))) = some r := H
   have A24 := mS A240
   clear A240
   have HC25 := mS H
   clear H
   go_enter Try.func6, Try.ntmps6
   try go_wp2_with (first | ((with_reducible refine gate_dst (N := 2) rfl ?_); refine mBx 2 #[.slice A0_0 l0_0.length c0_0] 42 ?_; intro gb334 hg w26 hbox hb; have BK334 := mS (hbox); have GW334 := mG hg (mH HB.out); have GE334 := mG hg (mH HB.out); replace HB := mS (below_step (mH HB.out) hb); clear hb hbox hg) | ((with_reducible refine gate_dst (N := 3) rfl ?_); refine mBx 3 #[.int .i64 a1_0, .int .i64 a1_1, .slice A1_2 l1_2.length c1_2] 47 ?_; intro gb335 hg w27 hbox hb; have BK335 := mS (hbox); have GW335 := mG hg (mH1 HB.out GE334.out); have GE335 := mG hg (mH1 HB.out GE334.out); replace HB := mS (below_step (mH1 HB.out GE334.out) hb); have NB334_335 := mNl hg BK334.out; have NB335_334 := mNg hg BK334.out; replace BK334 := mB BK334 hb; clear hb hbox hg; have hnb28 := NB334_335.out; have hnc28 := NB335_334.out; have hcz29_0 := mZ BK334.out 0; have hfz29_0 := blk_frozen BK334.out 0) | ((with_reducible refine gate_callee (f := 23) rfl ?_); refine mGo 19 Try.func23 #[.agg #[.slice A0_0 l0_0.length c0_0], .int .i64 1048576] ?_; (with_reducible refine (laws_szGraph.calls k _ _ l0_0 1048576 t336 _ ?side1 ?side2 A3.out).mono ?_); (case side1 => exact mC (Kd.C_below HR0_0.out HB.out)); (case side2 => exact HC0_0.out); rintro e w30 ⟨rfl, hb⟩; refine ⟨_, rfl, ?_⟩; replace BK334 := mB BK334 hb; replace BK335 := mB BK335 hb; replace HB := mS (below_step (mH2 HB.out GE334.out GE335.out) hb); (try clear hb); obtain ⟨hcz31_0, hcz31_1, hcz31_2, hfz31_0, hfz31_1, hfz31_2⟩ := mZ3 BK335.out) | ((with_reducible refine gate_callee (f := 24) rfl ?_); refine mGo 24 Try.func24 #[.agg #[.int .i64 a1_0, .int .i64 a1_1, .slice A1_2 l1_2.length c1_2], .int .i64 t336] ?_; (with_reducible refine (laws_szItem.calls a1_0 a1_1 _ _ l1_2 t336 t337 _ ?side1 ?side2 A10.out).mono ?_); (case side1 => exact mC (Kd.C_below HR1_2.out HB.out)); (case side2 => exact HC1_2.out); rintro e w32 ⟨rfl, hb⟩; refine ⟨_, rfl, ?_⟩; replace BK334 := mB BK334 hb; replace BK335 := mB BK335 hb; replace HB := mS (below_step (mH2 HB.out GE334.out GE335.out) hb); (try clear hb)))
   replace BK334 := mS (blk_drew BK334.out)
   replace BK335 := mS (blk_drew BK335.out)
   replace HB := mS (below_drew1 HB.out)
   refine start_ (n := 11) (S := fun w' => w'.cell? ⟨gb334, 0, none⟩ = some (.slice A0_0 l0_0.length c0_0) ∧ w'.cell? ⟨gb335, 0, none⟩ = some (.int .i64 a1_0) ∧ w'.cell? ⟨gb335, 1, none⟩ = some (.int .i64 a1_1) ∧ w'.cell? ⟨gb335, 2, none⟩ = some (.slice A1_2 l1_2.length c1_2)) (ds := []) (mb 0 11) (by kernel_rfl) rfl rfl ⟨mZ BK334.out 0, mc3 BK335.out⟩ (fun hHeld => ?_); refine with_tabW laws_FnExactGraphPut.tab8 laws_FnExactGraphPut.bits8 (fun HT_ HW_ => ?_)
   generalize w32.drew = w33 at BK334 BK335 HB hHeld ⊢
   refine mpt 0 28 HT_.out HW_.out (mb 1 10) hHeld ?_
   refine mpt 2 30 HT_.out HW_.out (mr [1,1,1,8]) hHeld ?_
   refine join_ (σ := Value × Value × Value × Nat × Nat × Nat) 2 (mb 9 2) (fun s_ => [(29, .agg #[s_.1]), (31, .agg #[.int .i64 t341, .int .i64 t342, s_.2.1]), (32, .tuple #[.agg #[s_.2.2.1], .bool t349]), (6, .pointer (some ⟨s_.2.2.2.1, 0, none⟩)), (27, .tuple #[.agg #[s_.2.2.1], .bool t349]), (33, .agg #[s_.2.2.1]), (34, .bool t349)]) (fun s_ w' => (w'.cell? ⟨gb334, 0, none⟩ = some (.slice A0_0 l0_0.length c0_0) ∧ w'.cell? ⟨gb335, 0, none⟩ = some (.int .i64 a1_0) ∧ w'.cell? ⟨gb335, 1, none⟩ = some (.int .i64 a1_1) ∧ w'.cell? ⟨gb335, 2, none⟩ = some (.slice A1_2 l1_2.length c1_2)) ∧ (Kd.S k59 59 w' w.heap.size (fun k_ => some k_ ≠ (s_.2.1 : Value).ownBlock ∧ some k_ ≠ (s_.2.2.1 : Value).ownBlock ∧ s_.2.2.2.2.1 ≤ k_ ∧ k_ < s_.2.2.2.2.2) s_.1 t338) ∧ (Kd.R k56 56 w' w.heap.size (fun _ => True) s_.2.1 t343) ∧ (Kd.S k59 59 w' w.heap.size (fun k_ => some k_ ≠ (s_.1 : Value).ownBlock ∧ some k_ ≠ (s_.2.1 : Value).ownBlock ∧ s_.2.2.2.2.2 ≤ k_) s_.2.2.1 t346) ∧ (w'.heap[gb334]? = some (.cells #[.slice A0_0 l0_0.length c0_0] 42 (0, 0))) ∧ (w'.heap[gb335]? = some (.cells #[.int .i64 a1_0, .int .i64 a1_1, .slice A1_2 l1_2.length c1_2] 47 (0, 0))) ∧ (w'.heap[s_.2.2.2.1]? = some (.cells #[.slice none 0 0] 52 (0, 0))) ∧ (w.heap.size ≤ s_.2.2.2.1) ∧ (w.heap.size ≤ s_.2.2.2.1) ∧ (gb334 ≠ s_.2.2.2.1) ∧ (s_.2.2.2.1 ≠ gb334) ∧ (gb335 ≠ s_.2.2.2.1) ∧ (s_.2.2.2.1 ≠ gb335) ∧ (Below w.heap.size w w')) ?_ ?_
   rotate_left
   ·intro hCont
    refine two_ (i := 1) (j := 8) (Ni := some 29) (Nj := some 6) (mb 3 8) (mr [1,1,1,5,1,2]) rfl rfl rfl rfl (two_of HT_.out (by kernel_rfl)) (by decide) (by decide) (fun K hK => ?_) (fun K hK => ?_)
    ·skip
     refine goes_ Try.func26 (by kernel_rfl) rfl #[.agg #[.slice A0_0 l0_0.length c0_0]] (by rfl) rfl rfl mA ?_
     with_reducible refine (laws_toGraph.calls k _ _ l0_0 t338 _ ?side1 ?side2 A19.out).mono ?_
     (case side1 => exact mC (Kd.C_below HR0_0.out HB.out))
     (case side2 => exact HC0_0.out)
     rintro e w34 ⟨v339, rfl, ho0, hb⟩
     refine ⟨_, rfl, ?_⟩
     obtain ⟨z35, hz35⟩ := MWords.mp_size hb
     have HO340 := mS (Kd.S_lower (MWords.mp_geS ho0 hz35) (below_size (mH2 HB.out GE334.out GE335.out)))
     replace BK334 := mB BK334 hb
     replace BK335 := mB BK335 hb
     replace HB := mS (below_step (mH2 HB.out GE334.out GE335.out) hb)
     (try clear hb)
     (try clear hb2)
     (try clear hk)
     (try clear hi)
     (try clear ho0)
     refine hK.out _ _ ⟨mZ BK334.out 0, mc3 BK335.out⟩ (fun hHeld => ?_)
     clear hK K
     refine mno 29 ?_
     refine two_ (i := 3) (j := 8) (Ni := some 31) (Nj := some 6) (mb 4 7) (mr [3,5,1,2]) rfl rfl rfl rfl (two_of HT_.out (by kernel_rfl)) (by decide) (by decide) (fun K hK => ?_) (fun K hK => ?_)
     ·skip
      refine goes_ Try.func27 (by kernel_rfl) rfl #[.agg #[.int .i64 a1_0, .int .i64 a1_1, .slice A1_2 l1_2.length c1_2]] (by rfl) rfl rfl mA ?_
      with_reducible refine (laws_toItem.calls k a1_0 a1_1 _ _ l1_2 t341 t342 t343 _ ?side1 ?side2 A20.out).mono ?_
      (case side1 => exact mC (Kd.C_below HR1_2.out HB.out))
      (case side2 => exact HC1_2.out)
      rintro e w36 ⟨v344, rfl, ho0, hb⟩
      refine ⟨_, rfl, ?_⟩
      replace HO340 := mS (Kd.S_elder' (mSd HO340.out) (Kd.R_base ho0) hb)
      have HO345 := mS (Kd.R_lower ho0 (below_size (mH2 HB.out GE334.out GE335.out)))
      replace BK334 := mB BK334 hb
      replace BK335 := mB BK335 hb
      replace HB := mS (below_step (mH2 HB.out GE334.out GE335.out) hb)
      (try clear hb)
      (try clear hb2)
      (try clear hk)
      (try clear hi)
      (try clear ho0)
      obtain ⟨Ao37, co37, eo37⟩ := Kd.S_slice HO340.out
      (first | subst eo37 | (injection eo37 with f1_ f2_ f3_; have f4_ := f1_.symm; have f5_ := f3_.symm; clear f1_ f2_ f3_; subst f4_; subst f5_))
      obtain ⟨Ao38, co38, eo38⟩ := Kd.R_slice HO345.out
      (first | subst eo38 | (injection eo38 with f1_ f2_ f3_; have f4_ := f1_.symm; have f5_ := f3_.symm; clear f1_ f2_ f3_; subst f4_; subst f5_))
      refine hK.out _ _ ⟨mZ BK334.out 0, mc3 BK335.out⟩ (fun hHeld => ?_)
      clear hK K
      refine mno 31 ?_
      refine two_ (i := 4) (j := 8) (Ni := some 32) (Nj := some 6) (mb 5 6) (mr [4,4,1,2]) rfl rfl rfl rfl (two_of HT_.out (by kernel_rfl)) (by decide) (by decide) (fun K hK => ?_) (fun K hK => ?_)
      ·skip
       refine goes_ Try.func25 (by kernel_rfl) rfl #[.agg #[.slice Ao37 t338.length co37], .agg #[.int .i64 t341, .int .i64 t342, .slice Ao38 t343.length co38]] (by rfl) rfl rfl mA ?_
       with_reducible refine (spec_GraphPut.calls k _ _ t338 t341 t342 _ _ t343 t346 t349 _ ?side1 ?side2 ?side3 ?side4 A21.out).mono ?_
       (case side1 => exact mC (Kd.S_reads' HO340.out).2.2)
       (case side2 => exact (Kd.S_reads' HO340.out).2.1)
       (case side3 => exact mC (Kd.R_reads' HO345.out).2.2)
       (case side4 => exact (Kd.R_reads' HO345.out).2.1)
       rintro e w39 ⟨v347, rfl, ho0, hb⟩
       refine ⟨_, rfl, ?_⟩
       obtain ⟨z40, hz40⟩ := MWords.mp_size hb
       have HO348 := mS (Kd.S_lower (Kd.S_new' (Kd.S_new' (MWords.mp_geS ho0 hz40) (Kd.S_lt (mSd HO340.out))) (Kd.R_lt (mR HO345.out))) (below_size (mH2 HB.out GE334.out GE335.out)))
       replace HO340 := mS (MWords.mp_ltS (Kd.S_told (Kd.S_old (mSd HO340.out) hb) (Kd.S_base ho0)) hz40)
       replace HO345 := mS (Kd.R_below (mR HO345.out) hb)
       replace BK334 := mB BK334 hb
       replace BK335 := mB BK335 hb
       replace HB := mS (below_step (mH2 HB.out GE334.out GE335.out) hb)
       (try clear hb)
       (try clear hb2)
       (try clear hk)
       (try clear hi)
       (try clear ho0)
       refine hK.out _ _ ⟨mZ BK334.out 0, mc3 BK335.out⟩ (fun hHeld => ?_)
       clear hK K
       refine mno 32 ?_
       refine mpu 5 27 HT_.out (mb 6 5) ?_
       refine mpu 6 33 HT_.out (mb 7 4) ?_
       refine mpu 7 34 HT_.out (mb 8 3) ?_
       refine mone 8 (some 6) HT_.out (mb 9 2) (fun K hK => ?_)
       refine box_step ?hg (N := 6) ?hd (cs := #[.slice none 0 0]) (t := 52) ?hr ?_; (case hd => rfl); (case hg => rfl); (case hr => first | (go_simp; done) | (go_simp; rfl))
       intro gb350 hg w41 hbox hb
       replace HO340 := mS (Kd.S_below (mSd HO340.out) hb)
       replace HO345 := mS (Kd.R_below (mR HO345.out) hb)
       replace HO348 := mS (Kd.S_below (mSd HO348.out) hb)
       have BK350 := mS (hbox)
       have GW350 := mG hg (mH2 HB.out GE334.out GE335.out)
       have GE350 := mG hg (mH2 HB.out GE334.out GE335.out)
       replace HB := mS (below_step (mH2 HB.out GE334.out GE335.out) hb)
       have NB334_350 := mNl hg BK334.out
       have NB350_334 := mNg hg BK334.out
       replace BK334 := mB BK334 hb
       have NB335_350 := mNl hg BK335.out
       have NB350_335 := mNg hg BK335.out
       replace BK335 := mB BK335 hb
       clear hb hbox hg
       refine hK.out _ _ ⟨mZ BK334.out 0, mc3 BK335.out⟩ (fun hHeld => ?_)
       clear hK K
       refine mno 6 ?_
       exact norm_ mU (hCont (.slice Ao37 t338.length co37, .slice Ao38 t343.length co38, v347, gb350, z35, z40) _ ⟨hHeld, (by refine mSd ?_; exact Kd.S_mono HO340.out (fun _ hk => ⟨hk.1.1.2, ⟨hk.1.2, ⟨hk.1.1.1.2, hk.2⟩⟩⟩)), (mR HO345.out), (by refine mSd ?_; exact Kd.S_mono HO348.out (fun _ hk => ⟨hk.1.2, ⟨hk.2, hk.1.1.2⟩⟩)), (mK BK334.out), (mK BK335.out), (mK BK350.out), GW350.out, GE350.out, NB334_350.out, NB350_334.out, NB335_350.out, NB350_335.out, (mH3 HB.out GE334.out GE335.out GE350.out)⟩)
      ·skip
       refine box_step ?hg (N := 6) ?hd (cs := #[.slice none 0 0]) (t := 52) ?hr ?_; (case hd => rfl); (case hg => rfl); (case hr => first | (go_simp; done) | (go_simp; rfl))
       intro gb350 hg w37 hbox hb
       replace HO340 := mS (Kd.S_below (mSd HO340.out) hb)
       replace HO345 := mS (Kd.R_below (mR HO345.out) hb)
       have BK350 := mS (hbox)
       have GW350 := mG hg (mH2 HB.out GE334.out GE335.out)
       have GE350 := mG hg (mH2 HB.out GE334.out GE335.out)
       replace HB := mS (below_step (mH2 HB.out GE334.out GE335.out) hb)
       have NB334_350 := mNl hg BK334.out
       have NB350_334 := mNg hg BK334.out
       replace BK334 := mB BK334 hb
       have NB335_350 := mNl hg BK335.out
       have NB350_335 := mNg hg BK335.out
       replace BK335 := mB BK335 hb
       clear hb hbox hg
       obtain ⟨Ao38, co38, eo38⟩ := Kd.S_slice HO340.out
       (first | subst eo38 | (injection eo38 with f1_ f2_ f3_; have f4_ := f1_.symm; have f5_ := f3_.symm; clear f1_ f2_ f3_; subst f4_; subst f5_))
       obtain ⟨Ao39, co39, eo39⟩ := Kd.R_slice HO345.out
       (first | subst eo39 | (injection eo39 with f1_ f2_ f3_; have f4_ := f1_.symm; have f5_ := f3_.symm; clear f1_ f2_ f3_; subst f4_; subst f5_))
       refine hK.out _ _ ⟨mZ BK334.out 0, mc3 BK335.out⟩ (fun hHeld => ?_)
       clear hK K
       refine mno 6 ?_
       refine mone 4 (some 32) HT_.out (mr [5,3,1,2]) (fun K hK => ?_)
       refine goes_ Try.func25 (by kernel_rfl) rfl #[.agg #[.slice Ao38 t338.length co38], .agg #[.int .i64 t341, .int .i64 t342, .slice Ao39 t343.length co39]] (by rfl) rfl rfl mA ?_
       with_reducible refine (spec_GraphPut.calls k _ _ t338 t341 t342 _ _ t343 t346 t349 _ ?side1 ?side2 ?side3 ?side4 A21.out).mono ?_
       (case side1 => exact mC (Kd.S_reads' HO340.out).2.2)
       (case side2 => exact (Kd.S_reads' HO340.out).2.1)
       (case side3 => exact mC (Kd.R_reads' HO345.out).2.2)
       (case side4 => exact (Kd.R_reads' HO345.out).2.1)
       rintro e w40 ⟨v347, rfl, ho0, hb⟩
       refine ⟨_, rfl, ?_⟩
       obtain ⟨z41, hz41⟩ := MWords.mp_size hb
       have HO348 := mS (Kd.S_lower (Kd.S_new' (Kd.S_new' (MWords.mp_geS ho0 hz41) (Kd.S_lt (mSd HO340.out))) (Kd.R_lt (mR HO345.out))) (below_size (mH3 HB.out GE334.out GE335.out GE350.out)))
       replace HO340 := mS (MWords.mp_ltS (Kd.S_told (Kd.S_old (mSd HO340.out) hb) (Kd.S_base ho0)) hz41)
       replace HO345 := mS (Kd.R_below (mR HO345.out) hb)
       replace BK334 := mB BK334 hb
       replace BK335 := mB BK335 hb
       replace BK350 := mB BK350 hb
       replace HB := mS (below_step (mH3 HB.out GE334.out GE335.out GE350.out) hb)
       (try clear hb)
       (try clear hb2)
       (try clear hk)
       (try clear hi)
       (try clear ho0)
       refine hK.out _ _ ⟨mZ BK334.out 0, mc3 BK335.out⟩ (fun hHeld => ?_)
       clear hK K
       refine mno 32 ?_
       refine mpu 5 27 HT_.out (mr [6,2,1,2]) ?_
       refine mpu 6 33 HT_.out (mr [7,1,1,2]) ?_
       refine mpu 7 34 HT_.out (mb 9 2) ?_
       exact norm_ mU (hCont (.slice Ao38 t338.length co38, .slice Ao39 t343.length co39, v347, gb350, z35, z41) _ ⟨hHeld, (by refine mSd ?_; exact Kd.S_mono HO340.out (fun _ hk => ⟨hk.1.1.2, ⟨hk.1.2, ⟨hk.1.1.1.2, hk.2⟩⟩⟩)), (mR HO345.out), (by refine mSd ?_; exact Kd.S_mono HO348.out (fun _ hk => ⟨hk.1.2, ⟨hk.2, hk.1.1.2⟩⟩)), (mK BK334.out), (mK BK335.out), (mK BK350.out), GW350.out, GE350.out, NB334_350.out, NB350_334.out, NB335_350.out, NB350_335.out, (mH3 HB.out GE334.out GE335.out GE350.out)⟩)
     ·skip
      refine box_step ?hg (N := 6) ?hd (cs := #[.slice none 0 0]) (t := 52) ?hr ?_; (case hd => rfl); (case hg => rfl); (case hr => first | (go_simp; done) | (go_simp; rfl))
      intro gb350 hg w36 hbox hb
      replace HO340 := mS (Kd.S_below (mSd HO340.out) hb)
      have BK350 := mS (hbox)
      have GW350 := mG hg (mH2 HB.out GE334.out GE335.out)
      have GE350 := mG hg (mH2 HB.out GE334.out GE335.out)
      replace HB := mS (below_step (mH2 HB.out GE334.out GE335.out) hb)
      have NB334_350 := mNl hg BK334.out
      have NB350_334 := mNg hg BK334.out
      replace BK334 := mB BK334 hb
      have NB335_350 := mNl hg BK335.out
      have NB350_335 := mNg hg BK335.out
      replace BK335 := mB BK335 hb
      clear hb hbox hg
      refine hK.out _ _ ⟨mZ BK334.out 0, mc3 BK335.out⟩ (fun hHeld => ?_)
      clear hK K
      refine mno 6 ?_
      refine mone 3 (some 31) HT_.out (mr [4,4,1,2]) (fun K hK => ?_)
      refine goes_ Try.func27 (by kernel_rfl) rfl #[.agg #[.int .i64 a1_0, .int .i64 a1_1, .slice A1_2 l1_2.length c1_2]] (by rfl) rfl rfl mA ?_
      with_reducible refine (laws_toItem.calls k a1_0 a1_1 _ _ l1_2 t341 t342 t343 _ ?side1 ?side2 A20.out).mono ?_
      (case side1 => exact mC (Kd.C_below HR1_2.out HB.out))
      (case side2 => exact HC1_2.out)
      rintro e w37 ⟨v344, rfl, ho0, hb⟩
      refine ⟨_, rfl, ?_⟩
      replace HO340 := mS (Kd.S_elder' (mSd HO340.out) (Kd.R_base ho0) hb)
      have HO345 := mS (Kd.R_lower ho0 (below_size (mH3 HB.out GE334.out GE335.out GE350.out)))
      replace BK334 := mB BK334 hb
      replace BK335 := mB BK335 hb
      replace BK350 := mB BK350 hb
      replace HB := mS (below_step (mH3 HB.out GE334.out GE335.out GE350.out) hb)
      (try clear hb)
      (try clear hb2)
      (try clear hk)
      (try clear hi)
      (try clear ho0)
      obtain ⟨Ao38, co38, eo38⟩ := Kd.S_slice HO340.out
      (first | subst eo38 | (injection eo38 with f1_ f2_ f3_; have f4_ := f1_.symm; have f5_ := f3_.symm; clear f1_ f2_ f3_; subst f4_; subst f5_))
      obtain ⟨Ao39, co39, eo39⟩ := Kd.R_slice HO345.out
      (first | subst eo39 | (injection eo39 with f1_ f2_ f3_; have f4_ := f1_.symm; have f5_ := f3_.symm; clear f1_ f2_ f3_; subst f4_; subst f5_))
      refine hK.out _ _ ⟨mZ BK334.out 0, mc3 BK335.out⟩ (fun hHeld => ?_)
      clear hK K
      refine mno 31 ?_
      refine mone 4 (some 32) HT_.out (mr [5,3,1,2]) (fun K hK => ?_)
      refine goes_ Try.func25 (by kernel_rfl) rfl #[.agg #[.slice Ao38 t338.length co38], .agg #[.int .i64 t341, .int .i64 t342, .slice Ao39 t343.length co39]] (by rfl) rfl rfl mA ?_
      with_reducible refine (spec_GraphPut.calls k _ _ t338 t341 t342 _ _ t343 t346 t349 _ ?side1 ?side2 ?side3 ?side4 A21.out).mono ?_
      (case side1 => exact mC (Kd.S_reads' HO340.out).2.2)
      (case side2 => exact (Kd.S_reads' HO340.out).2.1)
      (case side3 => exact mC (Kd.R_reads' HO345.out).2.2)
      (case side4 => exact (Kd.R_reads' HO345.out).2.1)
      rintro e w40 ⟨v347, rfl, ho0, hb⟩
      refine ⟨_, rfl, ?_⟩
      obtain ⟨z41, hz41⟩ := MWords.mp_size hb
      have HO348 := mS (Kd.S_lower (Kd.S_new' (Kd.S_new' (MWords.mp_geS ho0 hz41) (Kd.S_lt (mSd HO340.out))) (Kd.R_lt (mR HO345.out))) (below_size (mH3 HB.out GE334.out GE335.out GE350.out)))
      replace HO340 := mS (MWords.mp_ltS (Kd.S_told (Kd.S_old (mSd HO340.out) hb) (Kd.S_base ho0)) hz41)
      replace HO345 := mS (Kd.R_below (mR HO345.out) hb)
      replace BK334 := mB BK334 hb
      replace BK335 := mB BK335 hb
      replace BK350 := mB BK350 hb
      replace HB := mS (below_step (mH3 HB.out GE334.out GE335.out GE350.out) hb)
      (try clear hb)
      (try clear hb2)
      (try clear hk)
      (try clear hi)
      (try clear ho0)
      refine hK.out _ _ ⟨mZ BK334.out 0, mc3 BK335.out⟩ (fun hHeld => ?_)
      clear hK K
      refine mno 32 ?_
      refine mpu 5 27 HT_.out (mr [6,2,1,2]) ?_
      refine mpu 6 33 HT_.out (mr [7,1,1,2]) ?_
      refine mpu 7 34 HT_.out (mb 9 2) ?_
      exact norm_ mU (hCont (.slice Ao38 t338.length co38, .slice Ao39 t343.length co39, v347, gb350, z35, z41) _ ⟨hHeld, (by refine mSd ?_; exact Kd.S_mono HO340.out (fun _ hk => ⟨hk.1.1.2, ⟨hk.1.2, ⟨hk.1.1.1.2, hk.2⟩⟩⟩)), (mR HO345.out), (by refine mSd ?_; exact Kd.S_mono HO348.out (fun _ hk => ⟨hk.1.2, ⟨hk.2, hk.1.1.2⟩⟩)), (mK BK334.out), (mK BK335.out), (mK BK350.out), GW350.out, GE350.out, NB334_350.out, NB350_334.out, NB335_350.out, NB350_335.out, (mH3 HB.out GE334.out GE335.out GE350.out)⟩)
    ·skip
     refine box_step ?hg (N := 6) ?hd (cs := #[.slice none 0 0]) (t := 52) ?hr ?_; (case hd => rfl); (case hg => rfl); (case hr => first | (go_simp; done) | (go_simp; rfl))
     intro gb350 hg w34 hbox hb
     have BK350 := mS (hbox)
     have GW350 := mG hg (mH2 HB.out GE334.out GE335.out)
     have GE350 := mG hg (mH2 HB.out GE334.out GE335.out)
     replace HB := mS (below_step (mH2 HB.out GE334.out GE335.out) hb)
     have NB334_350 := mNl hg BK334.out
     have NB350_334 := mNg hg BK334.out
     replace BK334 := mB BK334 hb
     have NB335_350 := mNl hg BK335.out
     have NB350_335 := mNg hg BK335.out
     replace BK335 := mB BK335 hb
     clear hb hbox hg
     refine hK.out _ _ ⟨mZ BK334.out 0, mc3 BK335.out⟩ (fun hHeld => ?_)
     clear hK K
     refine mno 6 ?_
     refine mone 1 (some 29) HT_.out (mr [3,5,1,2]) (fun K hK => ?_)
     refine goes_ Try.func26 (by kernel_rfl) rfl #[.agg #[.slice A0_0 l0_0.length c0_0]] (by rfl) rfl rfl mA ?_
     with_reducible refine (laws_toGraph.calls k _ _ l0_0 t338 _ ?side1 ?side2 A19.out).mono ?_
     (case side1 => exact mC (Kd.C_below HR0_0.out HB.out))
     (case side2 => exact HC0_0.out)
     rintro e w35 ⟨v339, rfl, ho0, hb⟩
     refine ⟨_, rfl, ?_⟩
     obtain ⟨z36, hz36⟩ := MWords.mp_size hb
     have HO340 := mS (Kd.S_lower (MWords.mp_geS ho0 hz36) (below_size (mH3 HB.out GE334.out GE335.out GE350.out)))
     replace BK334 := mB BK334 hb
     replace BK335 := mB BK335 hb
     replace BK350 := mB BK350 hb
     replace HB := mS (below_step (mH3 HB.out GE334.out GE335.out GE350.out) hb)
     (try clear hb)
     (try clear hb2)
     (try clear hk)
     (try clear hi)
     (try clear ho0)
     refine hK.out _ _ ⟨mZ BK334.out 0, mc3 BK335.out⟩ (fun hHeld => ?_)
     clear hK K
     refine mno 29 ?_
     refine mone 3 (some 31) HT_.out (mr [4,4,1,2]) (fun K hK => ?_)
     refine goes_ Try.func27 (by kernel_rfl) rfl #[.agg #[.int .i64 a1_0, .int .i64 a1_1, .slice A1_2 l1_2.length c1_2]] (by rfl) rfl rfl mA ?_
     with_reducible refine (laws_toItem.calls k a1_0 a1_1 _ _ l1_2 t341 t342 t343 _ ?side1 ?side2 A20.out).mono ?_
     (case side1 => exact mC (Kd.C_below HR1_2.out HB.out))
     (case side2 => exact HC1_2.out)
     rintro e w37 ⟨v344, rfl, ho0, hb⟩
     refine ⟨_, rfl, ?_⟩
     replace HO340 := mS (Kd.S_elder' (mSd HO340.out) (Kd.R_base ho0) hb)
     have HO345 := mS (Kd.R_lower ho0 (below_size (mH3 HB.out GE334.out GE335.out GE350.out)))
     replace BK334 := mB BK334 hb
     replace BK335 := mB BK335 hb
     replace BK350 := mB BK350 hb
     replace HB := mS (below_step (mH3 HB.out GE334.out GE335.out GE350.out) hb)
     (try clear hb)
     (try clear hb2)
     (try clear hk)
     (try clear hi)
     (try clear ho0)
     obtain ⟨Ao38, co38, eo38⟩ := Kd.S_slice HO340.out
     (first | subst eo38 | (injection eo38 with f1_ f2_ f3_; have f4_ := f1_.symm; have f5_ := f3_.symm; clear f1_ f2_ f3_; subst f4_; subst f5_))
     obtain ⟨Ao39, co39, eo39⟩ := Kd.R_slice HO345.out
     (first | subst eo39 | (injection eo39 with f1_ f2_ f3_; have f4_ := f1_.symm; have f5_ := f3_.symm; clear f1_ f2_ f3_; subst f4_; subst f5_))
     refine hK.out _ _ ⟨mZ BK334.out 0, mc3 BK335.out⟩ (fun hHeld => ?_)
     clear hK K
     refine mno 31 ?_
     refine mone 4 (some 32) HT_.out (mr [5,3,1,2]) (fun K hK => ?_)
     refine goes_ Try.func25 (by kernel_rfl) rfl #[.agg #[.slice Ao38 t338.length co38], .agg #[.int .i64 t341, .int .i64 t342, .slice Ao39 t343.length co39]] (by rfl) rfl rfl mA ?_
     with_reducible refine (spec_GraphPut.calls k _ _ t338 t341 t342 _ _ t343 t346 t349 _ ?side1 ?side2 ?side3 ?side4 A21.out).mono ?_
     (case side1 => exact mC (Kd.S_reads' HO340.out).2.2)
     (case side2 => exact (Kd.S_reads' HO340.out).2.1)
     (case side3 => exact mC (Kd.R_reads' HO345.out).2.2)
     (case side4 => exact (Kd.R_reads' HO345.out).2.1)
     rintro e w40 ⟨v347, rfl, ho0, hb⟩
     refine ⟨_, rfl, ?_⟩
     obtain ⟨z41, hz41⟩ := MWords.mp_size hb
     have HO348 := mS (Kd.S_lower (Kd.S_new' (Kd.S_new' (MWords.mp_geS ho0 hz41) (Kd.S_lt (mSd HO340.out))) (Kd.R_lt (mR HO345.out))) (below_size (mH3 HB.out GE334.out GE335.out GE350.out)))
     replace HO340 := mS (MWords.mp_ltS (Kd.S_told (Kd.S_old (mSd HO340.out) hb) (Kd.S_base ho0)) hz41)
     replace HO345 := mS (Kd.R_below (mR HO345.out) hb)
     replace BK334 := mB BK334 hb
     replace BK335 := mB BK335 hb
     replace BK350 := mB BK350 hb
     replace HB := mS (below_step (mH3 HB.out GE334.out GE335.out GE350.out) hb)
     (try clear hb)
     (try clear hb2)
     (try clear hk)
     (try clear hi)
     (try clear ho0)
     refine hK.out _ _ ⟨mZ BK334.out 0, mc3 BK335.out⟩ (fun hHeld => ?_)
     clear hK K
     refine mno 32 ?_
     refine mpu 5 27 HT_.out (mr [6,2,1,2]) ?_
     refine mpu 6 33 HT_.out (mr [7,1,1,2]) ?_
     refine mpu 7 34 HT_.out (mb 9 2) ?_
     exact norm_ mU (hCont (.slice Ao38 t338.length co38, .slice Ao39 t343.length co39, v347, gb350, z36, z41) _ ⟨hHeld, (by refine mSd ?_; exact Kd.S_mono HO340.out (fun _ hk => ⟨hk.1.1.2, ⟨hk.1.2, ⟨hk.1.1.1.2, hk.2⟩⟩⟩)), (mR HO345.out), (by refine mSd ?_; exact Kd.S_mono HO348.out (fun _ hk => ⟨hk.1.2, ⟨hk.2, hk.1.1.2⟩⟩)), (mK BK334.out), (mK BK335.out), (mK BK350.out), GW350.out, GE350.out, NB334_350.out, NB350_334.out, NB335_350.out, NB350_335.out, (mH3 HB.out GE334.out GE335.out GE350.out)⟩)
   rintro ⟨v339, v344, v347, gb350, z35, z40⟩ w42 ⟨hS_, h0_, h1_, h2_, h3_, h4_, h5_, h6_, h7_, h8_, h9_, h10_, h11_, h12_⟩
   have HO340 : Aside0 (Kd.S k59 59 w42 w.heap.size (fun k_ => some k_ ≠ (v344 : Value).ownBlock ∧ some k_ ≠ (v347 : Value).ownBlock ∧ z35 ≤ k_ ∧ k_ < z40) v339 t338) := ⟨h0_⟩
   have HO345 : Aside0 (Kd.R k56 56 w42 w.heap.size (fun _ => True) v344 t343) := ⟨h1_⟩
   have HO348 : Aside0 (Kd.S k59 59 w42 w.heap.size (fun k_ => some k_ ≠ (v339 : Value).ownBlock ∧ some k_ ≠ (v344 : Value).ownBlock ∧ z40 ≤ k_) v347 t346) := ⟨h2_⟩
   replace BK334 : Aside0 (w42.heap[gb334]? = some (.cells #[.slice A0_0 l0_0.length c0_0] 42 (0, 0))) := ⟨h3_⟩
   replace BK335 : Aside0 (w42.heap[gb335]? = some (.cells #[.int .i64 a1_0, .int .i64 a1_1, .slice A1_2 l1_2.length c1_2] 47 (0, 0))) := ⟨h4_⟩
   have BK350 : Aside0 (w42.heap[gb350]? = some (.cells #[.slice none 0 0] 52 (0, 0))) := ⟨h5_⟩
   have GW350 : Aside0 (w.heap.size ≤ gb350) := ⟨h6_⟩
   have GE350 : Aside0 (w.heap.size ≤ gb350) := ⟨h7_⟩
   have NB334_350 : Aside0 (gb334 ≠ gb350) := ⟨h8_⟩
   have NB350_334 : Aside0 (gb350 ≠ gb334) := ⟨h9_⟩
   have NB335_350 : Aside0 (gb335 ≠ gb350) := ⟨h10_⟩
   have NB350_335 : Aside0 (gb350 ≠ gb335) := ⟨h11_⟩
   replace HB : Aside0 (Below w.heap.size w w42) := ⟨h12_⟩
   clear h0_ h1_ h2_ h3_ h4_ h5_ h6_ h7_ h8_ h9_ h10_ h11_ h12_
   have hHeld : w42.cell? ⟨gb334, 0, none⟩ = some (.slice A0_0 l0_0.length c0_0) ∧ w42.cell? ⟨gb335, 0, none⟩ = some (.int .i64 a1_0) ∧ w42.cell? ⟨gb335, 1, none⟩ = some (.int .i64 a1_1) ∧ w42.cell? ⟨gb335, 2, none⟩ = some (.slice A1_2 l1_2.length c1_2) := hS_
   obtain ⟨Ao43, co43, eo43⟩ := Kd.S_slice HO348.out
   (first | subst eo43 | (injection eo43 with f1_ f2_ f3_; have f4_ := f1_.symm; have f5_ := f3_.symm; clear f1_ f2_ f3_; subst f4_; subst f5_))
   refine mnp ?_
   refine mone 9 none HT_.out (mb 10 1) (fun K hK => ?_)
   have hs44 : w42.cell? ⟨gb350, 0, none⟩ = some (.slice none 0 0) := mZ BK350.out 0
   have hfs44 := blk_frozen BK350.out 0
   have hns44_0 := NB334_350.out
   have hns44_1 := NB335_350.out
   have hms44_0 := NB350_334.out
   have hms44_1 := NB350_335.out
   refine skip_ (w1 := ?_) (by rfl) rfl ?_ ?_
   rotate_left
   ·go_simp
    rfl
   refine hK.out _ _ ⟨((cell_far (p := ⟨gb350, _, none⟩) NB334_350.out _).trans (hHeld.1)), ((cell_far (p := ⟨gb350, _, none⟩) NB335_350.out _).trans (hHeld.2.1)), ((cell_far (p := ⟨gb350, _, none⟩) NB335_350.out _).trans (hHeld.2.2.1)), ((cell_far (p := ⟨gb350, _, none⟩) NB335_350.out _).trans (hHeld.2.2.2))⟩ (fun hHeld => ?_)
   clear hK K
   refine mpu 10 7 HT_.out (mb 11 0) ?_
   refine done_ (done_of HT_.out (by kernel_rfl)) ?_
   have hnb45 := NB334_350.out
   have hnc45 := NB350_334.out
   have hcz46_0 := mZ BK334.out 0
   have hfz46_0 := blk_frozen BK334.out 0
   go_upto_region 12 with (first | ((with_reducible refine gate_callee (f := 26) rfl ?_); refine mGo 36 Try.func26 #[.agg #[.slice A0_0 l0_0.length c0_0]] ?_; (with_reducible refine (laws_toGraph.calls k _ _ l0_0 t351 _ ?side1 ?side2 A22.out).mono ?_); (case side1 => exact Kd.C_below HR0_0.out (mH3 HB.out GE334.out GE335.out GE350.out)); (case side2 => exact HC0_0.out); rintro e w47 ⟨v352, rfl, ho0, hb⟩; refine ⟨_, rfl, ?_⟩; obtain ⟨z48, hz48⟩ := MWords.mp_size hb; have HO353 := mS (Kd.S_lower (Kd.S_new' (Kd.S_new' (Kd.S_new' (MWords.mp_geS ho0 hz48) (Kd.S_lt (by refine mSd ?_; exact (Kd.S_mono (Kd.S_far (p := ⟨gb350, 0, none⟩) (Kd.S_types HO340.out BK350.out (by decide)) (fun _ hk => hk.2) (.slice Ao43 t346.length co43)) (fun _ h_ => h_.1))))) (Kd.R_lt (by refine mR ?_; exact (Kd.R_mono (Kd.R_far (p := ⟨gb350, 0, none⟩) (Kd.R_types HO345.out BK350.out (by decide)) (fun _ hk => hk.2) (.slice Ao43 t346.length co43)) (fun _ h_ => h_.1))))) (Kd.S_lt (by refine mSd ?_; exact (Kd.S_mono (Kd.S_far (p := ⟨gb350, 0, none⟩) (Kd.S_types HO348.out BK350.out (by decide)) (fun _ hk => hk.2) (.slice Ao43 t346.length co43)) (fun _ h_ => h_.1))))) (below_size (mH3 HB.out GE334.out GE335.out GE350.out))); replace HO340 := mS (MWords.mp_ltS (Kd.S_told (Kd.S_old (by refine mSd ?_; exact (Kd.S_mono (Kd.S_far (p := ⟨gb350, 0, none⟩) (Kd.S_types HO340.out BK350.out (by decide)) (fun _ hk => hk.2) (.slice Ao43 t346.length co43)) (fun _ h_ => h_.1))) hb) (Kd.S_base ho0)) hz48); replace HO345 := mS (Kd.R_below (by refine mR ?_; exact (Kd.R_mono (Kd.R_far (p := ⟨gb350, 0, none⟩) (Kd.R_types HO345.out BK350.out (by decide)) (fun _ hk => hk.2) (.slice Ao43 t346.length co43)) (fun _ h_ => h_.1))) hb); replace HO348 := mS (MWords.mp_ltS (Kd.S_told (Kd.S_old (by refine mSd ?_; exact (Kd.S_mono (Kd.S_far (p := ⟨gb350, 0, none⟩) (Kd.S_types HO348.out BK350.out (by decide)) (fun _ hk => hk.2) (.slice Ao43 t346.length co43)) (fun _ h_ => h_.1))) hb) (Kd.S_base ho0)) hz48); replace BK334 := mS (blk_below (g := gb334) (o := .cells #[.slice A0_0 l0_0.length c0_0] 42 (0, 0)) (mKf NB334_350.out BK334.out) hb); replace BK335 := mS (blk_below (g := gb335) (o := .cells #[.int .i64 a1_0, .int .i64 a1_1, .slice A1_2 l1_2.length c1_2] 47 (0, 0)) (mKf NB335_350.out BK335.out) hb); replace BK350 := mS (blk_below (g := gb350) (o := .cells #[.slice Ao43 t346.length co43] 52 (0, 0)) (by refine mK ?_; refine blk_put (cs := #[.slice none 0 0]) ?_ 0 _ rfl; refine mK ?_; exact BK350.out) hb); replace HB := mS (below_step (mH3 HB.out GE334.out GE335.out GE350.out) hb); (try clear hb); (try clear ho0)) | ((with_reducible refine gate_dst (N := 8) rfl ?_); refine mBx 8 #[.slice none 0 0] 52 ?_; intro gb354 hg w49 hbox hb; replace HO340 := mS (Kd.S_below (mSd HO340.out) hb); replace HO345 := mS (Kd.R_below (mR HO345.out) hb); replace HO348 := mS (Kd.S_below (mSd HO348.out) hb); replace HO353 := mS (Kd.S_below (mSd HO353.out) hb); have BK354 := mS (hbox); have GW354 := mG hg (mH3 HB.out GE334.out GE335.out GE350.out); have GE354 := mG hg (mH3 HB.out GE334.out GE335.out GE350.out); replace HB := mS (below_step (mH3 HB.out GE334.out GE335.out GE350.out) hb); have NB334_354 := mNl hg BK334.out; have NB354_334 := mNg hg BK334.out; replace BK334 := mB BK334 hb; have NB335_354 := mNl hg BK335.out; have NB354_335 := mNg hg BK335.out; replace BK335 := mB BK335 hb; have NB350_354 := mNl hg BK350.out; have NB354_350 := mNg hg BK350.out; replace BK350 := mB BK350 hb; clear hb hbox hg; obtain ⟨Ao50, co50, eo50⟩ := Kd.S_slice HO353.out; subst eo50; have hnb51 := NB354_334.out; have hnc51 := NB334_354.out; have hnb52 := NB354_335.out; have hnc52 := NB335_354.out; have hnb53 := NB354_350.out; have hnc53 := NB350_354.out; have hcz54_0 := mZ BK354.out 0; have hfz54_0 := blk_frozen BK354.out 0; have hnb55 := NB335_350.out; have hnc55 := NB350_335.out; obtain ⟨hcz56_0, hcz56_1, hcz56_2, hfz56_0, hfz56_1, hfz56_2⟩ := mZ3 BK335.out) | ((with_reducible refine gate_callee (f := 27) rfl ?_); refine mGo 38 Try.func27 #[.agg #[.int .i64 a1_0, .int .i64 a1_1, .slice A1_2 l1_2.length c1_2]] ?_; (with_reducible refine (laws_toItem.calls k a1_0 a1_1 _ _ l1_2 t355 t356 t357 _ ?side1 ?side2 A23.out).mono ?_); (case side1 => exact Kd.C_below HR1_2.out (mH4 HB.out GE334.out GE335.out GE350.out GE354.out)); (case side2 => exact HC1_2.out); rintro e w57 ⟨v358, rfl, ho0, hb⟩; refine ⟨_, rfl, ?_⟩; replace HO340 := mS (Kd.S_elder' (by refine mSd ?_; exact (Kd.S_mono (Kd.S_far (p := ⟨gb354, 0, none⟩) (Kd.S_types HO340.out BK354.out (by decide)) (fun _ hk => hk.2) (.slice Ao50 t351.length co50)) (fun _ h_ => h_.1))) (Kd.R_base ho0) hb); replace HO348 := mS (Kd.S_elder' (by refine mSd ?_; exact (Kd.S_mono (Kd.S_far (p := ⟨gb354, 0, none⟩) (Kd.S_types HO348.out BK354.out (by decide)) (fun _ hk => hk.2) (.slice Ao50 t351.length co50)) (fun _ h_ => h_.1))) (Kd.R_base ho0) hb); replace HO353 := mS (Kd.S_elder' (by refine mSd ?_; exact (Kd.S_mono (Kd.S_far (p := ⟨gb354, 0, none⟩) (Kd.S_types HO353.out BK354.out (by decide)) (fun _ hk => hk.2) (.slice Ao50 t351.length co50)) (fun _ h_ => h_.1))) (Kd.R_base ho0) hb); have HO359 := mS (Kd.R_lower (Kd.R_new' ho0 (Kd.R_lt (by refine mR ?_; exact (Kd.R_mono (Kd.R_far (p := ⟨gb354, 0, none⟩) (Kd.R_types HO345.out BK354.out (by decide)) (fun _ hk => hk.2) (.slice Ao50 t351.length co50)) (fun _ h_ => h_.1))))) (below_size (mH4 HB.out GE334.out GE335.out GE350.out GE354.out))); replace HO345 := mS (Kd.R_elder' (by refine mR ?_; exact (Kd.R_mono (Kd.R_far (p := ⟨gb354, 0, none⟩) (Kd.R_types HO345.out BK354.out (by decide)) (fun _ hk => hk.2) (.slice Ao50 t351.length co50)) (fun _ h_ => h_.1))) (Kd.R_base ho0) hb); replace BK334 := mS (blk_below (g := gb334) (o := .cells #[.slice A0_0 l0_0.length c0_0] 42 (0, 0)) (mKf NB334_354.out BK334.out) hb); replace BK335 := mS (blk_below (g := gb335) (o := .cells #[.int .i64 a1_0, .int .i64 a1_1, .slice A1_2 l1_2.length c1_2] 47 (0, 0)) (mKf NB335_354.out BK335.out) hb); replace BK350 := mS (blk_below (g := gb350) (o := .cells #[.slice Ao43 t346.length co43] 52 (0, 0)) (mKf NB350_354.out BK350.out) hb); replace BK354 := mS (blk_below (g := gb354) (o := .cells #[.slice Ao50 t351.length co50] 52 (0, 0)) (by refine mK ?_; refine blk_put (cs := #[.slice none 0 0]) ?_ 0 _ rfl; refine mK ?_; exact BK354.out) hb); replace HB := mS (below_step (mH4 HB.out GE334.out GE335.out GE350.out GE354.out) hb); (try clear hb); (try clear ho0)) | ((with_reducible refine gate_dst (N := 9) rfl ?_); refine mBx 9 #[.int .i64 0, .int .i64 0, .slice none 0 0] 59 ?_; intro gb360 hg w58 hbox hb; replace HO340 := mS (Kd.S_below (Kd.S_elderB (mSd HO340.out) gb360 (Nat.le_of_eq hg.symm)) hb); replace HO345 := mS (Kd.R_below (mR HO345.out) hb); replace HO348 := mS (Kd.S_below (Kd.S_elderB (mSd HO348.out) gb360 (Nat.le_of_eq hg.symm)) hb); replace HO353 := mS (Kd.S_below (Kd.S_elderB (mSd HO353.out) gb360 (Nat.le_of_eq hg.symm)) hb); replace HO359 := mS (Kd.R_below (mR HO359.out) hb); have BK360 := mS (hbox); have GW360 := mG hg (mH4 HB.out GE334.out GE335.out GE350.out GE354.out); have GE360 := mG hg (mH4 HB.out GE334.out GE335.out GE350.out GE354.out); replace HB := mS (below_step (mH4 HB.out GE334.out GE335.out GE350.out GE354.out) hb); have NB334_360 := mNl hg BK334.out; have NB360_334 := mNg hg BK334.out; replace BK334 := mB BK334 hb; have NB335_360 := mNl hg BK335.out; have NB360_335 := mNg hg BK335.out; replace BK335 := mB BK335 hb; have NB350_360 := mNl hg BK350.out; have NB360_350 := mNg hg BK350.out; replace BK350 := mB BK350 hb; have NB354_360 := mNl hg BK354.out; have NB360_354 := mNg hg BK354.out; replace BK354 := mB BK354 hb; clear hb hbox hg; have hnb59 := NB360_334.out; have hnc59 := NB334_360.out; have hnb60 := NB360_335.out; have hnc60 := NB335_360.out; have hnb61 := NB360_350.out; have hnc61 := NB350_360.out; have hnb62 := NB360_354.out; have hnc62 := NB354_360.out; obtain ⟨hcz63_0, hcz63_1, hcz63_2, hfz63_0, hfz63_1, hfz63_2⟩ := mZ3 BK360.out; obtain ⟨Ao64, co64, eo64⟩ := Kd.R_slice HO359.out; subst eo64; have hcz65_0 := mZ BK354.out 0; have hfz65_0 := blk_frozen BK354.out 0) | ((with_reducible refine gate_callee (f := 28) rfl ?_); refine mGo 42 Try.func28 #[.agg #[.slice Ao50 t351.length co50], .agg #[.int .i64 t355, .int .i64 t356, .slice Ao64 t357.length co64]] ?_; (with_reducible refine (impl_GraphPut.calls k _ _ t351 t355 t356 _ _ t357 t361 t364 _ ?side1 ?side2 ?side3 ?side4 A24.out).mono ?_); (case side1 => refine (Kd.S_reads' (e := 59) (base := w.heap.size) (ok := fun k_ => ((((((True ∧ z48 ≤ k_) ∧ some k_ ≠ (v339 : Value).ownBlock) ∧ some k_ ≠ (v344 : Value).ownBlock) ∧ some k_ ≠ (.slice Ao43 t346.length co43 : Value).ownBlock) ∧ some k_ ≠ (.slice Ao64 t357.length co64 : Value).ownBlock) ∧ k_ ≠ gb360)) (n := t351.length) (c := co50) ?_).2.2; exact (by refine mSd ?_; exact (Kd.S_mono (mSf3 (Kd.S_mono HO353.out (fun k_ hk => (⟨hk, hk.2⟩ : _ ∧ k_ ≠ gb360)))) (fun _ h_ => h_.1)))); (case side2 => exact (Kd.S_reads' HO353.out).2.1); (case side3 => refine (Kd.R_reads' (e := 56) (base := w.heap.size) (ok := fun k_ => (True ∧ some k_ ≠ (v344 : Value).ownBlock)) (n := t357.length) (c := co64) ?_).2.2; exact (by refine mR ?_; exact (Kd.R_mono (mRf3 (Kd.R_types HO359.out BK360.out (by decide))) (fun _ h_ => h_.1)))); (case side4 => exact (Kd.R_reads' HO359.out).2.1); rintro e w66 ⟨v362, rfl, ho0, hb⟩; refine ⟨_, rfl, ?_⟩; obtain ⟨z67, hz67⟩ := MWords.mp_size hb; have HO363 := mS (Kd.S_lower (Kd.S_newB (Kd.S_new' (Kd.S_new' (Kd.S_new' (Kd.S_new' (Kd.S_new' (MWords.mp_geS ho0 hz67) (Kd.S_lt (by refine mSd ?_; exact (Kd.S_mono (mSf3 (Kd.S_mono HO340.out (fun k_ hk => (⟨hk, hk.2⟩ : _ ∧ k_ ≠ gb360)))) (fun _ h_ => h_.1))))) (Kd.R_lt (by refine mR ?_; exact (Kd.R_mono (mRf3 (Kd.R_types HO345.out BK360.out (by decide))) (fun _ h_ => h_.1))))) (Kd.S_lt (by refine mSd ?_; exact (Kd.S_mono (mSf3 (Kd.S_mono HO348.out (fun k_ hk => (⟨hk, hk.2⟩ : _ ∧ k_ ≠ gb360)))) (fun _ h_ => h_.1))))) (Kd.S_lt (by refine mSd ?_; exact (Kd.S_mono (mSf3 (Kd.S_mono HO353.out (fun k_ hk => (⟨hk, hk.2⟩ : _ ∧ k_ ≠ gb360)))) (fun _ h_ => h_.1))))) (Kd.R_lt (by refine mR ?_; exact (Kd.R_mono (mRf3 (Kd.R_types HO359.out BK360.out (by decide))) (fun _ h_ => h_.1))))) (g := gb360) (o := .cells #[.int .i64 t355, .int .i64 t356, .slice Ao64 t357.length co64] 59 (0, 0)) (by refine mK ?_; refine blk_put (cs := #[.int .i64 t355, .int .i64 t356, .slice none 0 0]) ?_ 2 _ rfl; refine mK ?_; refine blk_put (cs := #[.int .i64 t355, .int .i64 0, .slice none 0 0]) ?_ 1 _ rfl; refine mK ?_; refine blk_put (cs := #[.int .i64 0, .int .i64 0, .slice none 0 0]) ?_ 0 _ rfl; refine mK ?_; exact BK360.out)) (below_size (mH5 HB.out GE334.out GE335.out GE350.out GE354.out GE360.out))); replace HO340 := mS (MWords.mp_ltS (Kd.S_told (Kd.S_old (by refine mSd ?_; exact (Kd.S_mono (mSf3 (Kd.S_mono HO340.out (fun k_ hk => (⟨hk, hk.2⟩ : _ ∧ k_ ≠ gb360)))) (fun _ h_ => h_.1))) hb) (Kd.S_base ho0)) hz67); replace HO345 := mS (Kd.R_below (by refine mR ?_; exact (Kd.R_mono (mRf3 (Kd.R_types HO345.out BK360.out (by decide))) (fun _ h_ => h_.1))) hb); replace HO348 := mS (MWords.mp_ltS (Kd.S_told (Kd.S_old (by refine mSd ?_; exact (Kd.S_mono (mSf3 (Kd.S_mono HO348.out (fun k_ hk => (⟨hk, hk.2⟩ : _ ∧ k_ ≠ gb360)))) (fun _ h_ => h_.1))) hb) (Kd.S_base ho0)) hz67); replace HO353 := mS (MWords.mp_ltS (Kd.S_told (Kd.S_old (by refine mSd ?_; exact (Kd.S_mono (mSf3 (Kd.S_mono HO353.out (fun k_ hk => (⟨hk, hk.2⟩ : _ ∧ k_ ≠ gb360)))) (fun _ h_ => h_.1))) hb) (Kd.S_base ho0)) hz67); replace HO359 := mS (Kd.R_below (by refine mR ?_; exact (Kd.R_mono (mRf3 (Kd.R_types HO359.out BK360.out (by decide))) (fun _ h_ => h_.1))) hb); replace BK334 := mS (blk_below (g := gb334) (o := .cells #[.slice A0_0 l0_0.length c0_0] 42 (0, 0)) (mKf NB334_360.out BK334.out) hb); replace BK335 := mS (blk_below (g := gb335) (o := .cells #[.int .i64 a1_0, .int .i64 a1_1, .slice A1_2 l1_2.length c1_2] 47 (0, 0)) (mKf NB335_360.out BK335.out) hb); replace BK350 := mS (blk_below (g := gb350) (o := .cells #[.slice Ao43 t346.length co43] 52 (0, 0)) (mKf NB350_360.out BK350.out) hb); replace BK354 := mS (blk_below (g := gb354) (o := .cells #[.slice Ao50 t351.length co50] 52 (0, 0)) (mKf NB354_360.out BK354.out) hb); replace BK360 := mS (blk_below (g := gb360) (o := .cells #[.int .i64 t355, .int .i64 t356, .slice Ao64 t357.length co64] 59 (0, 0)) (by refine mK ?_; refine blk_put (cs := #[.int .i64 t355, .int .i64 t356, .slice none 0 0]) ?_ 2 _ rfl; refine mK ?_; refine blk_put (cs := #[.int .i64 t355, .int .i64 0, .slice none 0 0]) ?_ 1 _ rfl; refine mK ?_; refine blk_put (cs := #[.int .i64 0, .int .i64 0, .slice none 0 0]) ?_ 0 _ rfl; refine mK ?_; exact BK360.out) hb); replace HB := mS (below_step (mH5 HB.out GE334.out GE335.out GE350.out GE354.out GE360.out) hb); (try clear hb); (try clear ho0)) | ((with_reducible refine gate_dst (N := 10) rfl ?_); refine mBx 10 #[.slice none 0 0] 52 ?_; intro gb365 hg w68 hbox hb; replace HO340 := mS (Kd.S_below (mSd HO340.out) hb); replace HO345 := mS (Kd.R_below (mR HO345.out) hb); replace HO348 := mS (Kd.S_below (mSd HO348.out) hb); replace HO353 := mS (Kd.S_below (mSd HO353.out) hb); replace HO359 := mS (Kd.R_below (mR HO359.out) hb); replace HO363 := mS (Kd.S_below (mSd HO363.out) hb); have BK365 := mS (hbox); have GW365 := mG hg (mH5 HB.out GE334.out GE335.out GE350.out GE354.out GE360.out); have GE365 := mG hg (mH5 HB.out GE334.out GE335.out GE350.out GE354.out GE360.out); replace HB := mS (below_step (mH5 HB.out GE334.out GE335.out GE350.out GE354.out GE360.out) hb); have NB334_365 := mNl hg BK334.out; have NB365_334 := mNg hg BK334.out; replace BK334 := mB BK334 hb; have NB335_365 := mNl hg BK335.out; have NB365_335 := mNg hg BK335.out; replace BK335 := mB BK335 hb; have NB350_365 := mNl hg BK350.out; have NB365_350 := mNg hg BK350.out; replace BK350 := mB BK350 hb; have NB354_365 := mNl hg BK354.out; have NB365_354 := mNg hg BK354.out; replace BK354 := mB BK354 hb; have NB360_365 := mNl hg BK360.out; have NB365_360 := mNg hg BK360.out; replace BK360 := mB BK360 hb; clear hb hbox hg; obtain ⟨Ao69, co69, eo69⟩ := Kd.S_slice HO363.out; subst eo69; have hnb70 := NB365_334.out; have hnc70 := NB334_365.out; have hnb71 := NB365_335.out; have hnc71 := NB335_365.out; have hnb72 := NB365_350.out; have hnc72 := NB350_365.out; have hnb73 := NB365_354.out; have hnc73 := NB354_365.out; have hnb74 := NB365_360.out; have hnc74 := NB360_365.out; have hcz75_0 := mZ BK365.out 0; have hfz75_0 := blk_frozen BK365.out 0))
   (try simp only [Act.put, zA, zB, zC])
   go_cut [53] (fun v53 wc => ∃ (kq : Nat) (x53_24 : Bool), v53 = .bool x53_24 ∧ Aside0 (laws_FnExactGraphPut.j0 kq t349 t364 x53_24 l0_0 a1_0 a1_1 l1_2 t346 t351 t355 t356 t357 t361 = some r) ∧ Aside0 (kq ≤ k) ∧ Aside0 (Kd.S k59 59 wc w.heap.size (fun k_ => some k_ ≠ ((.slice Ao50 t351.length co50) : Value).ownBlock ∧ some k_ ≠ ((.slice Ao64 t357.length co64) : Value).ownBlock ∧ some k_ ≠ ((.slice Ao69 t361.length co69) : Value).ownBlock ∧ k_ ≠ gb360 ∧ z40 ≤ k_ ∧ k_ < z48 ∧ k_ < z67) (.slice Ao43 t346.length co43) t346) ∧ Aside0 (Kd.S k59 59 wc w.heap.size (fun k_ => some k_ ≠ ((.slice Ao43 t346.length co43) : Value).ownBlock ∧ some k_ ≠ ((.slice Ao64 t357.length co64) : Value).ownBlock ∧ some k_ ≠ ((.slice Ao69 t361.length co69) : Value).ownBlock ∧ k_ ≠ gb360 ∧ z48 ≤ k_ ∧ k_ < z67) (.slice Ao50 t351.length co50) t351) ∧ Aside0 (Kd.R k56 56 wc w.heap.size (fun _ => True) (.slice Ao64 t357.length co64) t357) ∧ Aside0 (Kd.S k59 59 wc w.heap.size (fun k_ => some k_ ≠ ((.slice Ao43 t346.length co43) : Value).ownBlock ∧ some k_ ≠ ((.slice Ao50 t351.length co50) : Value).ownBlock ∧ some k_ ≠ ((.slice Ao64 t357.length co64) : Value).ownBlock ∧ k_ ≠ gb360 ∧ z67 ≤ k_) (.slice Ao69 t361.length co69) t361) ∧ Aside0 (wc.heap[gb334]? = some (.cells #[(.slice A0_0 l0_0.length c0_0)] 42 (0, 0))) ∧ Aside0 (wc.heap[gb335]? = some (.cells #[.int .i64 a1_0, .int .i64 a1_1, (.slice A1_2 l1_2.length c1_2)] 47 (0, 0))) ∧ Aside0 (wc.heap[gb350]? = some (.cells #[(.slice Ao43 t346.length co43)] 52 (0, 0))) ∧ Aside0 (wc.heap[gb354]? = some (.cells #[(.slice Ao50 t351.length co50)] 52 (0, 0))) ∧ Aside0 (wc.heap[gb360]? = some (.cells #[.int .i64 t355, .int .i64 t356, (.slice Ao64 t357.length co64)] 59 (0, 0))) ∧ Aside0 (wc.heap[gb365]? = some (.cells #[(.slice Ao69 t361.length co69)] 52 (0, 0))) ∧ Aside0 (Below w.heap.size w wc))
   case first =>
    have H := HC25.out
    clear HC25
    replace H := Option.bind_eq_some_iff.mp H
    obtain ⟨t366, A760, H⟩ := H
    replace H : (if t366 = true then (laws_FnExactGraphPut.j0 k t349 t364 (t364 != t349) l0_0 a1_0 a1_1 l1_2 t346 t351 t355 t356 t357 t361) else (laws_FnExactGraphPut.j0 k t349 t364 true l0_0 a1_0 a1_1 l1_2 t346 t351 t355 t356 t357 t361)) = some r := H
    have A76 := mS A760
    clear A760
    by_cases c77 : t366 = true
    ·subst c77
     have H1 := H
     rw [if_pos rfl] at H1
     clear H
     have H := H1
     clear H1
     have H' := mS H
     clear H
     have hnb78 := NB365_334.out
     have hnc78 := NB334_365.out
     have hnb79 := NB365_335.out
     have hnc79 := NB335_365.out
     have hnb80 := NB365_350.out
     have hnc80 := NB350_365.out
     have hnb81 := NB365_354.out
     have hnc81 := NB354_365.out
     have hnb82 := NB365_360.out
     have hnc82 := NB360_365.out
     have hcz83_0 := mZ BK365.out 0
     have hfz83_0 := blk_frozen BK365.out 0
     have hnb84 := NB350_334.out
     have hnc84 := NB334_350.out
     have hnb85 := NB350_335.out
     have hnc85 := NB335_350.out
     have hnb86 := NB350_354.out
     have hnc86 := NB354_350.out
     have hnb87 := NB350_360.out
     have hnc87 := NB360_350.out
     have hcz88_0 := mZ BK350.out 0
     have hfz88_0 := blk_frozen BK350.out 0
     go_wp2_with (first | ((with_reducible refine gate_callee (f := 29) rfl ?_); refine mGo 47 Try.func29 #[.agg #[.slice Ao69 t361.length co69], .agg #[.slice Ao43 t346.length co43]] ?_; (with_reducible refine (laws_eqGraph.calls k _ _ t361 _ _ t346 true _ ?side1 ?side2 ?side3 ?side4 A76.out).mono ?_); (case side1 => refine (Kd.S_reads' (e := 59) (base := w.heap.size) (ok := fun k_ => (((((((True ∧ z67 ≤ k_) ∧ some k_ ≠ (v339 : Value).ownBlock) ∧ some k_ ≠ (v344 : Value).ownBlock) ∧ some k_ ≠ (.slice Ao43 t346.length co43 : Value).ownBlock) ∧ some k_ ≠ (.slice Ao50 t351.length co50 : Value).ownBlock) ∧ some k_ ≠ (.slice Ao64 t357.length co64 : Value).ownBlock) ∧ k_ ≠ gb360)) (n := t361.length) (c := co69) ?_).2.2; exact (by refine mSd ?_; exact (Kd.S_mono (Kd.S_far (p := ⟨gb365, 0, none⟩) (Kd.S_types HO363.out BK365.out (by decide)) (fun _ hk => hk.2) (.slice Ao69 t361.length co69)) (fun _ h_ => h_.1)))); (case side2 => exact (Kd.S_reads' HO363.out).2.1); (case side3 => refine (Kd.S_reads' (e := 59) (base := w.heap.size) (ok := fun k_ => (((((((some k_ ≠ (v339 : Value).ownBlock ∧ (some k_ ≠ (v344 : Value).ownBlock ∧ z40 ≤ k_)) ∧ some k_ ≠ (.slice Ao50 t351.length co50 : Value).ownBlock) ∧ k_ < z48) ∧ some k_ ≠ (.slice Ao64 t357.length co64 : Value).ownBlock) ∧ k_ ≠ gb360) ∧ some k_ ≠ (.slice Ao69 t361.length co69 : Value).ownBlock) ∧ k_ < z67)) (n := t346.length) (c := co43) ?_).2.2; exact (by refine mSd ?_; exact (Kd.S_mono (Kd.S_far (p := ⟨gb365, 0, none⟩) (Kd.S_types HO348.out BK365.out (by decide)) (fun _ hk => hk.2) (.slice Ao69 t361.length co69)) (fun _ h_ => h_.1)))); (case side4 => exact (Kd.S_reads' HO348.out).2.1); rintro e w89 ⟨rfl, hb⟩; refine ⟨_, rfl, ?_⟩; replace HO340 := mS (Kd.S_below (by refine mSd ?_; exact (Kd.S_mono (Kd.S_far (p := ⟨gb365, 0, none⟩) (Kd.S_types HO340.out BK365.out (by decide)) (fun _ hk => hk.2) (.slice Ao69 t361.length co69)) (fun _ h_ => h_.1))) hb); replace HO345 := mS (Kd.R_below (by refine mR ?_; exact (Kd.R_mono (Kd.R_far (p := ⟨gb365, 0, none⟩) (Kd.R_types HO345.out BK365.out (by decide)) (fun _ hk => hk.2) (.slice Ao69 t361.length co69)) (fun _ h_ => h_.1))) hb); replace HO348 := mS (Kd.S_below (by refine mSd ?_; exact (Kd.S_mono (Kd.S_far (p := ⟨gb365, 0, none⟩) (Kd.S_types HO348.out BK365.out (by decide)) (fun _ hk => hk.2) (.slice Ao69 t361.length co69)) (fun _ h_ => h_.1))) hb); replace HO353 := mS (Kd.S_below (by refine mSd ?_; exact (Kd.S_mono (Kd.S_far (p := ⟨gb365, 0, none⟩) (Kd.S_types HO353.out BK365.out (by decide)) (fun _ hk => hk.2) (.slice Ao69 t361.length co69)) (fun _ h_ => h_.1))) hb); replace HO359 := mS (Kd.R_below (by refine mR ?_; exact (Kd.R_mono (Kd.R_far (p := ⟨gb365, 0, none⟩) (Kd.R_types HO359.out BK365.out (by decide)) (fun _ hk => hk.2) (.slice Ao69 t361.length co69)) (fun _ h_ => h_.1))) hb); replace HO363 := mS (Kd.S_below (by refine mSd ?_; exact (Kd.S_mono (Kd.S_far (p := ⟨gb365, 0, none⟩) (Kd.S_types HO363.out BK365.out (by decide)) (fun _ hk => hk.2) (.slice Ao69 t361.length co69)) (fun _ h_ => h_.1))) hb); replace BK334 := mS (blk_below (g := gb334) (o := .cells #[.slice A0_0 l0_0.length c0_0] 42 (0, 0)) (mKf NB334_365.out BK334.out) hb); replace BK335 := mS (blk_below (g := gb335) (o := .cells #[.int .i64 a1_0, .int .i64 a1_1, .slice A1_2 l1_2.length c1_2] 47 (0, 0)) (mKf NB335_365.out BK335.out) hb); replace BK350 := mS (blk_below (g := gb350) (o := .cells #[.slice Ao43 t346.length co43] 52 (0, 0)) (mKf NB350_365.out BK350.out) hb); replace BK354 := mS (blk_below (g := gb354) (o := .cells #[.slice Ao50 t351.length co50] 52 (0, 0)) (mKf NB354_365.out BK354.out) hb); replace BK360 := mS (blk_below (g := gb360) (o := .cells #[.int .i64 t355, .int .i64 t356, .slice Ao64 t357.length co64] 59 (0, 0)) (mKf NB360_365.out BK360.out) hb); replace BK365 := mS (blk_below (g := gb365) (o := .cells #[.slice Ao69 t361.length co69] 52 (0, 0)) (by refine mK ?_; refine blk_put (cs := #[.slice none 0 0]) ?_ 0 _ rfl; refine mK ?_; exact BK365.out) hb); replace HB := mS (below_step (mH6 HB.out GE334.out GE335.out GE350.out GE354.out GE360.out GE365.out) hb); (try clear hb)))
     go_meet
     case rel => exact ⟨_, ((t364 != t349)), mE, H', ⟨by first | omega | exact Nat.le_refl _⟩, ⟨by refine mSd ?_; exact Kd.S_mono HO348.out (fun _ hk => ⟨hk.1.1.1.1.1.2, ⟨hk.1.1.1.2, ⟨hk.1.2, ⟨hk.1.1.2, ⟨hk.1.1.1.1.1.1.2.2, ⟨hk.1.1.1.1.2, hk.2⟩⟩⟩⟩⟩⟩)⟩, ⟨by refine mSd ?_; exact Kd.S_mono HO353.out (fun _ hk => ⟨hk.1.1.1.1.2, ⟨hk.1.1.1.2, ⟨hk.1.2, ⟨hk.1.1.2, ⟨hk.1.1.1.1.1.1.1.2, hk.2⟩⟩⟩⟩⟩)⟩, ⟨by refine mR ?_; exact Kd.R_mono HO359.out (fun _ hk => trivial)⟩, ⟨by refine mSd ?_; exact Kd.S_mono HO363.out (fun _ hk => ⟨hk.1.1.1.2, ⟨hk.1.1.2, ⟨hk.1.2, ⟨hk.2, hk.1.1.1.1.1.1.2⟩⟩⟩⟩)⟩, ⟨mK BK334.out⟩, ⟨mK BK335.out⟩, ⟨mK BK350.out⟩, ⟨mK BK354.out⟩, ⟨mK BK360.out⟩, ⟨mK BK365.out⟩, ⟨(mH6 HB.out GE334.out GE335.out GE350.out GE354.out GE360.out GE365.out)⟩⟩
    ·replace c77 := Bool.eq_false_iff.mpr c77
     subst c77
     have H1 := H
     rw [if_neg (show ¬ (false = true) by decide)] at H1
     clear H
     have H := H1
     clear H1
     have H' := mS H
     clear H
     have hnb90 := NB365_334.out
     have hnc90 := NB334_365.out
     have hnb91 := NB365_335.out
     have hnc91 := NB335_365.out
     have hnb92 := NB365_350.out
     have hnc92 := NB350_365.out
     have hnb93 := NB365_354.out
     have hnc93 := NB354_365.out
     have hnb94 := NB365_360.out
     have hnc94 := NB360_365.out
     have hcz95_0 := mZ BK365.out 0
     have hfz95_0 := blk_frozen BK365.out 0
     have hnb96 := NB350_334.out
     have hnc96 := NB334_350.out
     have hnb97 := NB350_335.out
     have hnc97 := NB335_350.out
     have hnb98 := NB350_354.out
     have hnc98 := NB354_350.out
     have hnb99 := NB350_360.out
     have hnc99 := NB360_350.out
     have hcz100_0 := mZ BK350.out 0
     have hfz100_0 := blk_frozen BK350.out 0
     go_wp2_with (first | ((with_reducible refine gate_callee (f := 29) rfl ?_); refine mGo 47 Try.func29 #[.agg #[.slice Ao69 t361.length co69], .agg #[.slice Ao43 t346.length co43]] ?_; (with_reducible refine (laws_eqGraph.calls k _ _ t361 _ _ t346 false _ ?side1 ?side2 ?side3 ?side4 A76.out).mono ?_); (case side1 => refine (Kd.S_reads' (e := 59) (base := w.heap.size) (ok := fun k_ => (((((((True ∧ z67 ≤ k_) ∧ some k_ ≠ (v339 : Value).ownBlock) ∧ some k_ ≠ (v344 : Value).ownBlock) ∧ some k_ ≠ (.slice Ao43 t346.length co43 : Value).ownBlock) ∧ some k_ ≠ (.slice Ao50 t351.length co50 : Value).ownBlock) ∧ some k_ ≠ (.slice Ao64 t357.length co64 : Value).ownBlock) ∧ k_ ≠ gb360)) (n := t361.length) (c := co69) ?_).2.2; exact (by refine mSd ?_; exact (Kd.S_mono (Kd.S_far (p := ⟨gb365, 0, none⟩) (Kd.S_types HO363.out BK365.out (by decide)) (fun _ hk => hk.2) (.slice Ao69 t361.length co69)) (fun _ h_ => h_.1)))); (case side2 => exact (Kd.S_reads' HO363.out).2.1); (case side3 => refine (Kd.S_reads' (e := 59) (base := w.heap.size) (ok := fun k_ => (((((((some k_ ≠ (v339 : Value).ownBlock ∧ (some k_ ≠ (v344 : Value).ownBlock ∧ z40 ≤ k_)) ∧ some k_ ≠ (.slice Ao50 t351.length co50 : Value).ownBlock) ∧ k_ < z48) ∧ some k_ ≠ (.slice Ao64 t357.length co64 : Value).ownBlock) ∧ k_ ≠ gb360) ∧ some k_ ≠ (.slice Ao69 t361.length co69 : Value).ownBlock) ∧ k_ < z67)) (n := t346.length) (c := co43) ?_).2.2; exact (by refine mSd ?_; exact (Kd.S_mono (Kd.S_far (p := ⟨gb365, 0, none⟩) (Kd.S_types HO348.out BK365.out (by decide)) (fun _ hk => hk.2) (.slice Ao69 t361.length co69)) (fun _ h_ => h_.1)))); (case side4 => exact (Kd.S_reads' HO348.out).2.1); rintro e w101 ⟨rfl, hb⟩; refine ⟨_, rfl, ?_⟩; replace HO340 := mS (Kd.S_below (by refine mSd ?_; exact (Kd.S_mono (Kd.S_far (p := ⟨gb365, 0, none⟩) (Kd.S_types HO340.out BK365.out (by decide)) (fun _ hk => hk.2) (.slice Ao69 t361.length co69)) (fun _ h_ => h_.1))) hb); replace HO345 := mS (Kd.R_below (by refine mR ?_; exact (Kd.R_mono (Kd.R_far (p := ⟨gb365, 0, none⟩) (Kd.R_types HO345.out BK365.out (by decide)) (fun _ hk => hk.2) (.slice Ao69 t361.length co69)) (fun _ h_ => h_.1))) hb); replace HO348 := mS (Kd.S_below (by refine mSd ?_; exact (Kd.S_mono (Kd.S_far (p := ⟨gb365, 0, none⟩) (Kd.S_types HO348.out BK365.out (by decide)) (fun _ hk => hk.2) (.slice Ao69 t361.length co69)) (fun _ h_ => h_.1))) hb); replace HO353 := mS (Kd.S_below (by refine mSd ?_; exact (Kd.S_mono (Kd.S_far (p := ⟨gb365, 0, none⟩) (Kd.S_types HO353.out BK365.out (by decide)) (fun _ hk => hk.2) (.slice Ao69 t361.length co69)) (fun _ h_ => h_.1))) hb); replace HO359 := mS (Kd.R_below (by refine mR ?_; exact (Kd.R_mono (Kd.R_far (p := ⟨gb365, 0, none⟩) (Kd.R_types HO359.out BK365.out (by decide)) (fun _ hk => hk.2) (.slice Ao69 t361.length co69)) (fun _ h_ => h_.1))) hb); replace HO363 := mS (Kd.S_below (by refine mSd ?_; exact (Kd.S_mono (Kd.S_far (p := ⟨gb365, 0, none⟩) (Kd.S_types HO363.out BK365.out (by decide)) (fun _ hk => hk.2) (.slice Ao69 t361.length co69)) (fun _ h_ => h_.1))) hb); replace BK334 := mS (blk_below (g := gb334) (o := .cells #[.slice A0_0 l0_0.length c0_0] 42 (0, 0)) (mKf NB334_365.out BK334.out) hb); replace BK335 := mS (blk_below (g := gb335) (o := .cells #[.int .i64 a1_0, .int .i64 a1_1, .slice A1_2 l1_2.length c1_2] 47 (0, 0)) (mKf NB335_365.out BK335.out) hb); replace BK350 := mS (blk_below (g := gb350) (o := .cells #[.slice Ao43 t346.length co43] 52 (0, 0)) (mKf NB350_365.out BK350.out) hb); replace BK354 := mS (blk_below (g := gb354) (o := .cells #[.slice Ao50 t351.length co50] 52 (0, 0)) (mKf NB354_365.out BK354.out) hb); replace BK360 := mS (blk_below (g := gb360) (o := .cells #[.int .i64 t355, .int .i64 t356, .slice Ao64 t357.length co64] 59 (0, 0)) (mKf NB360_365.out BK360.out) hb); replace BK365 := mS (blk_below (g := gb365) (o := .cells #[.slice Ao69 t361.length co69] 52 (0, 0)) (by refine mK ?_; refine blk_put (cs := #[.slice none 0 0]) ?_ 0 _ rfl; refine mK ?_; exact BK365.out) hb); replace HB := mS (below_step (mH6 HB.out GE334.out GE335.out GE350.out GE354.out GE360.out GE365.out) hb); (try clear hb)))
     go_meet
     case rel => exact ⟨_, (true), mE, H', ⟨by first | omega | exact Nat.le_refl _⟩, ⟨by refine mSd ?_; exact Kd.S_mono HO348.out (fun _ hk => ⟨hk.1.1.1.1.1.2, ⟨hk.1.1.1.2, ⟨hk.1.2, ⟨hk.1.1.2, ⟨hk.1.1.1.1.1.1.2.2, ⟨hk.1.1.1.1.2, hk.2⟩⟩⟩⟩⟩⟩)⟩, ⟨by refine mSd ?_; exact Kd.S_mono HO353.out (fun _ hk => ⟨hk.1.1.1.1.2, ⟨hk.1.1.1.2, ⟨hk.1.2, ⟨hk.1.1.2, ⟨hk.1.1.1.1.1.1.1.2, hk.2⟩⟩⟩⟩⟩)⟩, ⟨by refine mR ?_; exact Kd.R_mono HO359.out (fun _ hk => trivial)⟩, ⟨by refine mSd ?_; exact Kd.S_mono HO363.out (fun _ hk => ⟨hk.1.1.1.2, ⟨hk.1.1.2, ⟨hk.1.2, ⟨hk.2, hk.1.1.1.1.1.1.2⟩⟩⟩⟩)⟩, ⟨mK BK334.out⟩, ⟨mK BK335.out⟩, ⟨mK BK350.out⟩, ⟨mK BK354.out⟩, ⟨mK BK360.out⟩, ⟨mK BK365.out⟩, ⟨(mH6 HB.out GE334.out GE335.out GE350.out GE354.out GE360.out GE365.out)⟩⟩
   case rest =>
    clear HC25
    try clear c1
    try clear c2
    try clear p2
    try clear c4
    try clear c5
    try clear c6
    try clear c7
    try clear c8
    try clear c9
    try clear c25
    try clear c26
    try clear c27
    try clear c28
    try clear c29
    try clear c45
    try clear c51
    try clear c52
    try clear c53
    try clear c55
    try clear c59
    try clear c60
    try clear c61
    try clear c62
    try clear c70
    try clear c71
    try clear c72
    try clear c73
    try clear c74
    try clear c77
    try clear c78
    try clear c79
    try clear c80
    try clear c81
    try clear c82
    try clear c84
    try clear c85
    try clear c86
    try clear c87
    try clear c90
    try clear c91
    try clear c92
    try clear c93
    try clear c94
    try clear c96
    try clear c97
    try clear c98
    try clear c99
    try clear hcz100_0
    try clear hcz46_0
    try clear hcz54_0
    try clear hcz56_0
    try clear hcz56_1
    try clear hcz56_2
    try clear hcz63_0
    try clear hcz63_1
    try clear hcz63_2
    try clear hcz65_0
    try clear hcz75_0
    try clear hcz83_0
    try clear hcz88_0
    try clear hcz95_0
    try clear hfz100_0
    try clear hfz46_0
    try clear hfz54_0
    try clear hfz56_0
    try clear hfz56_1
    try clear hfz56_2
    try clear hfz63_0
    try clear hfz63_1
    try clear hfz63_2
    try clear hfz65_0
    try clear hfz75_0
    try clear hfz83_0
    try clear hfz88_0
    try clear hfz95_0
    obtain ⟨kq, x53_24, rfl, HA, HJ24, HO_351000, HO_355000, HO_361002, HO_366000, BK334, BK335, BK350, BK354, BK360, BK365, HB⟩ := hcut
    cases kq with
    | zero => exact absurd HA.out (by simp [laws_FnExactGraphPut.j0])
    | succ kj24 =>
     have H := HA.out
     clear HA
     simp only [laws_FnExactGraphPut.j0] at H
     by_cases c102 : x53_24 = true
     ·subst c102
      have H1 := H
      rw [if_pos rfl] at H1
      clear H
      have H := H1
      clear H1
      exact absurd ((Option.some.inj H).trans ht_) (by decide)
     ·replace c102 := Bool.eq_false_iff.mpr c102
      subst c102
      have H1 := H
      rw [if_neg (show ¬ (false = true) by decide)] at H1
      clear H
      have H := H1
      clear H1
      replace H := Option.bind_eq_some_iff.mp H
      obtain ⟨t367, A1030, H⟩ := H
      replace H : ((laws_eqGraph.f kj24 t351 t367).bind fun t370 => (if t370 = true then ((laws_toItem.f kj24 a1_0 a1_1 l1_2).bind fun bt371 => ((laws_eqItem.f kj24 t355 t356 t357 bt371.1 bt371.2.1 bt371.2.2).bind fun t376 => (if t376 = true then ((laws_markGraph.f kj24 t351 1).bind fun bt377 => ((laws_markItem.f kj24 t355 t356 t357 bt377.1).bind fun bt379 => (if bt379.1 < 0 then (laws_FnExactGraphPut.j1 kj24 t349 true l0_0 a1_0 a1_1 l1_2 t346 t361) else ((laws_eqGraph.f kj24 t361 t346).bind fun t381 => (if t381 = true then (laws_FnExactGraphPut.j1 kj24 t349 (t364 != t349) l0_0 a1_0 a1_1 l1_2 t346 t361) else (laws_FnExactGraphPut.j1 kj24 t349 true l0_0 a1_0 a1_1 l1_2 t346 t361)))))) else (some false)))) else (some false))) = some r := H
      have A103 := mS A1030
      clear A1030
      replace H := Option.bind_eq_some_iff.mp H
      obtain ⟨t370, A1040, H⟩ := H
      replace H : (if t370 = true then ((laws_toItem.f kj24 a1_0 a1_1 l1_2).bind fun bt371 => ((laws_eqItem.f kj24 t355 t356 t357 bt371.1 bt371.2.1 bt371.2.2).bind fun t376 => (if t376 = true then ((laws_markGraph.f kj24 t351 1).bind fun bt377 => ((laws_markItem.f kj24 t355 t356 t357 bt377.1).bind fun bt379 => (if bt379.1 < 0 then (laws_FnExactGraphPut.j1 kj24 t349 true l0_0 a1_0 a1_1 l1_2 t346 t361) else ((laws_eqGraph.f kj24 t361 t346).bind fun t381 => (if t381 = true then (laws_FnExactGraphPut.j1 kj24 t349 (t364 != t349) l0_0 a1_0 a1_1 l1_2 t346 t361) else (laws_FnExactGraphPut.j1 kj24 t349 true l0_0 a1_0 a1_1 l1_2 t346 t361)))))) else (some false)))) else (some false)) = some r := H
      have A104 := mS A1040
      clear A1040
      by_cases c105 : t370 = true
      ·subst c105
       have H1 := H
       rw [if_pos rfl] at H1
       clear H
       have H := H1
       clear H1
       replace H := Option.bind_eq_some_iff.mp H
       obtain ⟨⟨t371, t372, t373⟩, A1060, H⟩ := H
       replace H : ((laws_eqItem.f kj24 t355 t356 t357 t371 t372 t373).bind fun t376 => (if t376 = true then ((laws_markGraph.f kj24 t351 1).bind fun bt377 => ((laws_markItem.f kj24 t355 t356 t357 bt377.1).bind fun bt379 => (if bt379.1 < 0 then (laws_FnExactGraphPut.j1 kj24 t349 true l0_0 a1_0 a1_1 l1_2 t346 t361) else ((laws_eqGraph.f kj24 t361 t346).bind fun t381 => (if t381 = true then (laws_FnExactGraphPut.j1 kj24 t349 (t364 != t349) l0_0 a1_0 a1_1 l1_2 t346 t361) else (laws_FnExactGraphPut.j1 kj24 t349 true l0_0 a1_0 a1_1 l1_2 t346 t361)))))) else (some false))) = some r := H
       have A106 := mS A1060
       clear A1060
       replace H := Option.bind_eq_some_iff.mp H
       obtain ⟨t376, A1070, H⟩ := H
       replace H : (if t376 = true then ((laws_markGraph.f kj24 t351 1).bind fun bt377 => ((laws_markItem.f kj24 t355 t356 t357 bt377.1).bind fun bt379 => (if bt379.1 < 0 then (laws_FnExactGraphPut.j1 kj24 t349 true l0_0 a1_0 a1_1 l1_2 t346 t361) else ((laws_eqGraph.f kj24 t361 t346).bind fun t381 => (if t381 = true then (laws_FnExactGraphPut.j1 kj24 t349 (t364 != t349) l0_0 a1_0 a1_1 l1_2 t346 t361) else (laws_FnExactGraphPut.j1 kj24 t349 true l0_0 a1_0 a1_1 l1_2 t346 t361)))))) else (some false)) = some r := H
       have A107 := mS A1070
       clear A1070
       by_cases c108 : t376 = true
       ·subst c108
        have H1 := H
        rw [if_pos rfl] at H1
        clear H
        have H := H1
        clear H1
        replace H := Option.bind_eq_some_iff.mp H
        obtain ⟨⟨t377, t378⟩, A1090, H⟩ := H
        replace H : ((laws_markItem.f kj24 t355 t356 t357 t377).bind fun bt379 => (if bt379.1 < 0 then (laws_FnExactGraphPut.j1 kj24 t349 true l0_0 a1_0 a1_1 l1_2 t346 t361) else ((laws_eqGraph.f kj24 t361 t346).bind fun t381 => (if t381 = true then (laws_FnExactGraphPut.j1 kj24 t349 (t364 != t349) l0_0 a1_0 a1_1 l1_2 t346 t361) else (laws_FnExactGraphPut.j1 kj24 t349 true l0_0 a1_0 a1_1 l1_2 t346 t361))))) = some r := H
        have A109 := mS A1090
        clear A1090
        replace H := Option.bind_eq_some_iff.mp H
        obtain ⟨⟨t379, t380⟩, A1100, H⟩ := H
        replace H : (if t379 < 0 then (laws_FnExactGraphPut.j1 kj24 t349 true l0_0 a1_0 a1_1 l1_2 t346 t361) else ((laws_eqGraph.f kj24 t361 t346).bind fun t381 => (if t381 = true then (laws_FnExactGraphPut.j1 kj24 t349 (t364 != t349) l0_0 a1_0 a1_1 l1_2 t346 t361) else (laws_FnExactGraphPut.j1 kj24 t349 true l0_0 a1_0 a1_1 l1_2 t346 t361)))) = some r := H
        have A110 := mS A1100
        clear A1100
        have HC111 := mS H
        clear H
        try go_wp2
        replace HO_351000 := mS (Kd.S_drew HO_351000.out)
        replace HO_355000 := mS (Kd.S_drew HO_355000.out)
        replace HO_361002 := mS (Kd.R_drew HO_361002.out)
        replace HO_366000 := mS (Kd.S_drew HO_366000.out)
        replace BK334 := mS (blk_drew BK334.out)
        replace BK335 := mS (blk_drew BK335.out)
        replace BK350 := mS (blk_drew BK350.out)
        replace BK354 := mS (blk_drew BK354.out)
        replace BK360 := mS (blk_drew BK360.out)
        replace BK365 := mS (blk_drew BK365.out)
        replace HB := mS (below_drew1 HB.out)
        refine start_ (n := 5) (S := fun w' => w'.cell? ⟨gb354, 0, none⟩ = some (.slice Ao50 t351.length co50) ∧ w'.cell? ⟨gb334, 0, none⟩ = some (.slice A0_0 l0_0.length c0_0)) (ds := []) (mb 0 5) (by kernel_rfl) rfl rfl ⟨mZ BK354.out 0, mZ BK334.out 0⟩ (fun hHeld => ?_)
        generalize wc.drew = w112 at HO_351000 HO_355000 HO_361002 HO_366000 BK334 BK335 BK350 BK354 BK360 BK365 HB hHeld ⊢
        refine take_ (i := 0) (N := some 54) (v := ?_) (a' := ?_) (mb 1 4) rfl rfl (by kernel_rfl) (fun _ _ _ h => h) (Or.inl ⟨by rfl, ?_⟩) hHeld ?_ ?_
        rotate_left
        ·rintro w' ⟨s0, s1⟩
         go_simp
         with_reducible rfl
        rotate_left
        ·simp only [Act.put, zA, zB, zC, i64_w, i32_w]
         rfl
        refine take_ (i := 1) (N := some 55) (v := ?_) (a' := ?_) (mb 2 3) rfl rfl (by kernel_rfl) (fun _ _ _ h => h) (Or.inl ⟨by rfl, ?_⟩) hHeld ?_ ?_
        rotate_left
        ·rintro w' ⟨s0, s1⟩
         go_simp
         with_reducible rfl
        rotate_left
        ·simp only [Act.put, zA, zB, zC, i64_w, i32_w]
         rfl
        refine one_ (i := 2) (N := some 56) (mb 3 2) rfl rfl (by kernel_rfl) (by decide) (fun K hK => ?_)
        refine goes_ Try.func26 (by kernel_rfl) rfl #[.agg #[.slice A0_0 l0_0.length c0_0]] (by rfl) rfl rfl mA ?_
        with_reducible refine (laws_toGraph.calls kj24 _ _ l0_0 t367 _ ?side1 ?side2 A103.out).mono ?_
        (case side1 => exact mC (Kd.C_below HR0_0.out HB.out))
        (case side2 => exact HC0_0.out)
        rintro e w113 ⟨v368, rfl, ho0, hb⟩
        refine ⟨_, rfl, ?_⟩
        obtain ⟨z114, hz114⟩ := MWords.mp_size hb
        have HO369 := mS (Kd.S_lower (Kd.S_newB (Kd.S_new' (Kd.S_new' (Kd.S_new' (Kd.S_new' (MWords.mp_geS ho0 hz114) (Kd.S_lt (mSd HO_351000.out))) (Kd.S_lt (mSd HO_355000.out))) (Kd.R_lt (mR HO_361002.out))) (Kd.S_lt (mSd HO_366000.out))) (g := gb360) (o := .cells #[.int .i64 t355, .int .i64 t356, .slice Ao64 t357.length co64] 59 (0, 0)) (mK BK360.out)) (below_size (mH6 HB.out GE334.out GE335.out GE350.out GE354.out GE360.out GE365.out)))
        replace HO_351000 := mS (MWords.mp_ltS (Kd.S_told (Kd.S_old (mSd HO_351000.out) hb) (Kd.S_base ho0)) hz114)
        replace HO_355000 := mS (MWords.mp_ltS (Kd.S_told (Kd.S_old (mSd HO_355000.out) hb) (Kd.S_base ho0)) hz114)
        replace HO_361002 := mS (Kd.R_below (mR HO_361002.out) hb)
        replace HO_366000 := mS (MWords.mp_ltS (Kd.S_told (Kd.S_old (mSd HO_366000.out) hb) (Kd.S_base ho0)) hz114)
        replace BK334 := mB BK334 hb
        replace BK335 := mB BK335 hb
        replace BK350 := mB BK350 hb
        replace BK354 := mB BK354 hb
        replace BK360 := mB BK360 hb
        replace BK365 := mB BK365 hb
        replace HB := mS (below_step (mH6 HB.out GE334.out GE335.out GE350.out GE354.out GE360.out GE365.out) hb)
        (try clear hb)
        (try clear hb2)
        (try clear hk)
        (try clear hi)
        (try clear ho0)
        obtain ⟨Ao115, co115, eo115⟩ := Kd.S_slice HO369.out
        (first | subst eo115 | (injection eo115 with f1_ f2_ f3_; have f4_ := f1_.symm; have f5_ := f3_.symm; clear f1_ f2_ f3_; subst f4_; subst f5_))
        refine hK.out _ _ ⟨mZ BK354.out 0, mZ BK334.out 0⟩ (fun hHeld => ?_)
        clear hK K
        refine mno 56 ?_
        refine one_ (i := 3) (N := some 57) (mb 4 1) rfl rfl (by kernel_rfl) (by decide) (fun K hK => ?_)
        refine goes_ Try.func29 (by kernel_rfl) rfl #[.agg #[.slice Ao50 t351.length co50], .agg #[.slice Ao115 t367.length co115]] (by rfl) rfl rfl mA ?_
        with_reducible refine (laws_eqGraph.calls kj24 _ _ t351 _ _ t367 true _ ?side1 ?side2 ?side3 ?side4 A104.out).mono ?_
        (case side1 => exact mC (Kd.S_reads' HO_355000.out).2.2)
        (case side2 => exact (Kd.S_reads' HO_355000.out).2.1)
        (case side3 => exact mC (Kd.S_reads' HO369.out).2.2)
        (case side4 => exact (Kd.S_reads' HO369.out).2.1)
        rintro e w116 ⟨rfl, hb⟩
        refine ⟨_, rfl, ?_⟩
        replace HO_351000 := mS (Kd.S_below (mSd HO_351000.out) hb)
        replace HO_355000 := mS (Kd.S_below (mSd HO_355000.out) hb)
        replace HO_361002 := mS (Kd.R_below (mR HO_361002.out) hb)
        replace HO_366000 := mS (Kd.S_below (mSd HO_366000.out) hb)
        replace HO369 := mS (Kd.S_below (mSd HO369.out) hb)
        replace BK334 := mB BK334 hb
        replace BK335 := mB BK335 hb
        replace BK350 := mB BK350 hb
        replace BK354 := mB BK354 hb
        replace BK360 := mB BK360 hb
        replace BK365 := mB BK365 hb
        replace HB := mS (below_step (mH6 HB.out GE334.out GE335.out GE350.out GE354.out GE360.out GE365.out) hb)
        (try clear hb)
        (try clear hb2)
        (try clear hk)
        (try clear hi)
        refine hK.out _ _ ⟨mZ BK354.out 0, mZ BK334.out 0⟩ (fun hHeld => ?_)
        clear hK K
        refine mno 57 ?_
        refine pure_ (i := 4) (N := some 58) (v := ?_) (a' := ?_) (mb 5 0) rfl rfl (by kernel_rfl) (fun _ _ _ h => h) (Or.inl ⟨by rfl, ?_⟩) ?_ ?_
        rotate_left
        ·intro w'
         go_simp
         with_reducible rfl
        rotate_left
        ·simp only [Act.put, zA, zB, zC, i64_w, i32_w]
         rfl
        refine done_ (by kernel_rfl) ?_
        try go_wp2
        replace HO_351000 := mS (Kd.S_drew HO_351000.out)
        replace HO_355000 := mS (Kd.S_drew HO_355000.out)
        replace HO_361002 := mS (Kd.R_drew HO_361002.out)
        replace HO_366000 := mS (Kd.S_drew HO_366000.out)
        replace HO369 := mS (Kd.S_drew HO369.out)
        replace BK334 := mS (blk_drew BK334.out)
        replace BK335 := mS (blk_drew BK335.out)
        replace BK350 := mS (blk_drew BK350.out)
        replace BK354 := mS (blk_drew BK354.out)
        replace BK360 := mS (blk_drew BK360.out)
        replace BK365 := mS (blk_drew BK365.out)
        replace HB := mS (below_drew1 HB.out)
        refine start_ (n := 5) (S := fun w' => w'.cell? ⟨gb360, 0, none⟩ = some (.int .i64 t355) ∧ w'.cell? ⟨gb360, 1, none⟩ = some (.int .i64 t356) ∧ w'.cell? ⟨gb360, 2, none⟩ = some (.slice Ao64 t357.length co64) ∧ w'.cell? ⟨gb335, 0, none⟩ = some (.int .i64 a1_0) ∧ w'.cell? ⟨gb335, 1, none⟩ = some (.int .i64 a1_1) ∧ w'.cell? ⟨gb335, 2, none⟩ = some (.slice A1_2 l1_2.length c1_2)) (ds := []) (mb 0 5) (by kernel_rfl) rfl rfl (mb3 BK360.out (mc3 BK335.out)) (fun hHeld => ?_)
        generalize w116.drew = w117 at HO_351000 HO_355000 HO_361002 HO_366000 HO369 BK334 BK335 BK350 BK354 BK360 BK365 HB hHeld ⊢
        refine take_ (i := 0) (N := some 59) (v := ?_) (a' := ?_) (mb 1 4) rfl rfl (by kernel_rfl) (fun _ _ _ h => h) (Or.inl ⟨by rfl, ?_⟩) hHeld ?_ ?_
        rotate_left
        ·rintro w' ⟨s0, s1, s2, s3, s4, s5⟩
         go_simp
         with_reducible rfl
        rotate_left
        ·simp only [Act.put, zA, zB, zC, i64_w, i32_w]
         rfl
        refine take_ (i := 1) (N := some 60) (v := ?_) (a' := ?_) (mb 2 3) rfl rfl (by kernel_rfl) (fun _ _ _ h => h) (Or.inl ⟨by rfl, ?_⟩) hHeld ?_ ?_
        rotate_left
        ·rintro w' ⟨s0, s1, s2, s3, s4, s5⟩
         go_simp
         with_reducible rfl
        rotate_left
        ·simp only [Act.put, zA, zB, zC, i64_w, i32_w]
         rfl
        refine one_ (i := 2) (N := some 61) (mb 3 2) rfl rfl (by kernel_rfl) (by decide) (fun K hK => ?_)
        refine goes_ Try.func27 (by kernel_rfl) rfl #[.agg #[.int .i64 a1_0, .int .i64 a1_1, .slice A1_2 l1_2.length c1_2]] (by rfl) rfl rfl mA ?_
        with_reducible refine (laws_toItem.calls kj24 a1_0 a1_1 _ _ l1_2 t371 t372 t373 _ ?side1 ?side2 A106.out).mono ?_
        (case side1 => exact mC (Kd.C_below HR1_2.out HB.out))
        (case side2 => exact HC1_2.out)
        rintro e w118 ⟨v374, rfl, ho0, hb⟩
        refine ⟨_, rfl, ?_⟩
        replace HO_351000 := mS (Kd.S_elder' (mSd HO_351000.out) (Kd.R_base ho0) hb)
        replace HO_355000 := mS (Kd.S_elder' (mSd HO_355000.out) (Kd.R_base ho0) hb)
        replace HO_366000 := mS (Kd.S_elder' (mSd HO_366000.out) (Kd.R_base ho0) hb)
        replace HO369 := mS (Kd.S_elder' (mSd HO369.out) (Kd.R_base ho0) hb)
        have HO375 := mS (Kd.R_lower (Kd.R_new' ho0 (Kd.R_lt (mR HO_361002.out))) (below_size (mH6 HB.out GE334.out GE335.out GE350.out GE354.out GE360.out GE365.out)))
        replace HO_361002 := mS (Kd.R_elder' (mR HO_361002.out) (Kd.R_base ho0) hb)
        replace BK334 := mB BK334 hb
        replace BK335 := mB BK335 hb
        replace BK350 := mB BK350 hb
        replace BK354 := mB BK354 hb
        replace BK360 := mB BK360 hb
        replace BK365 := mB BK365 hb
        replace HB := mS (below_step (mH6 HB.out GE334.out GE335.out GE350.out GE354.out GE360.out GE365.out) hb)
        (try clear hb)
        (try clear hb2)
        (try clear hk)
        (try clear hi)
        (try clear ho0)
        obtain ⟨Ao119, co119, eo119⟩ := Kd.R_slice HO375.out
        (first | subst eo119 | (injection eo119 with f1_ f2_ f3_; have f4_ := f1_.symm; have f5_ := f3_.symm; clear f1_ f2_ f3_; subst f4_; subst f5_))
        refine hK.out _ _ (mb3 BK360.out (mc3 BK335.out)) (fun hHeld => ?_)
        clear hK K
        refine mno 61 ?_
        refine one_ (i := 3) (N := some 62) (mb 4 1) rfl rfl (by kernel_rfl) (by decide) (fun K hK => ?_)
        refine goes_ Try.func30 (by kernel_rfl) rfl #[.agg #[.int .i64 t355, .int .i64 t356, .slice Ao64 t357.length co64], .agg #[.int .i64 t371, .int .i64 t372, .slice Ao119 t373.length co119]] (by rfl) rfl rfl mA ?_
        with_reducible refine (laws_eqItem.calls kj24 t355 t356 _ _ t357 t371 t372 _ _ t373 true _ ?side1 ?side2 ?side3 ?side4 A107.out).mono ?_
        (case side1 => exact mC (Kd.R_reads' HO_361002.out).2.2)
        (case side2 => exact (Kd.R_reads' HO_361002.out).2.1)
        (case side3 => exact mC (Kd.R_reads' HO375.out).2.2)
        (case side4 => exact (Kd.R_reads' HO375.out).2.1)
        rintro e w120 ⟨rfl, hb⟩
        refine ⟨_, rfl, ?_⟩
        replace HO_351000 := mS (Kd.S_below (mSd HO_351000.out) hb)
        replace HO_355000 := mS (Kd.S_below (mSd HO_355000.out) hb)
        replace HO_361002 := mS (Kd.R_below (mR HO_361002.out) hb)
        replace HO_366000 := mS (Kd.S_below (mSd HO_366000.out) hb)
        replace HO369 := mS (Kd.S_below (mSd HO369.out) hb)
        replace HO375 := mS (Kd.R_below (mR HO375.out) hb)
        replace BK334 := mB BK334 hb
        replace BK335 := mB BK335 hb
        replace BK350 := mB BK350 hb
        replace BK354 := mB BK354 hb
        replace BK360 := mB BK360 hb
        replace BK365 := mB BK365 hb
        replace HB := mS (below_step (mH6 HB.out GE334.out GE335.out GE350.out GE354.out GE360.out GE365.out) hb)
        (try clear hb)
        (try clear hb2)
        (try clear hk)
        (try clear hi)
        refine hK.out _ _ (mb3 BK360.out (mc3 BK335.out)) (fun hHeld => ?_)
        clear hK K
        refine mno 62 ?_
        refine pure_ (i := 4) (N := some 63) (v := ?_) (a' := ?_) (mb 5 0) rfl rfl (by kernel_rfl) (fun _ _ _ h => h) (Or.inl ⟨by rfl, ?_⟩) ?_ ?_
        rotate_left
        ·intro w'
         go_simp
         with_reducible rfl
        rotate_left
        ·simp only [Act.put, zA, zB, zC, i64_w, i32_w]
         rfl
        refine done_ (by kernel_rfl) ?_
        have hnb121 := NB354_334.out
        have hnc121 := NB334_354.out
        have hnb122 := NB354_335.out
        have hnc122 := NB335_354.out
        have hnb123 := NB354_350.out
        have hnc123 := NB350_354.out
        have hnb124 := NB354_360.out
        have hnc124 := NB360_354.out
        have hnb125 := NB354_365.out
        have hnc125 := NB365_354.out
        have hcz126_0 := mZ BK354.out 0
        have hfz126_0 := blk_frozen BK354.out 0
        go_upto_region 21 with (first | ((with_reducible refine gate_callee (f := 31) rfl ?_); refine mGo 66 Try.func31 #[.agg #[.slice Ao50 t351.length co50], .int .i64 1] ?_; (with_reducible refine (laws_markGraph.calls kj24 (fun k_ => (((((((((some k_ ≠ (.slice Ao43 t346.length co43 : Value).ownBlock ∧ (some k_ ≠ (.slice Ao64 t357.length co64 : Value).ownBlock ∧ (some k_ ≠ (.slice Ao69 t361.length co69 : Value).ownBlock ∧ (k_ ≠ gb360 ∧ (z48 ≤ k_ ∧ k_ < z67))))) ∧ some k_ ≠ (.slice Ao115 t367.length co115 : Value).ownBlock) ∧ k_ < z114) ∧ some k_ ≠ (.slice Ao119 t373.length co119 : Value).ownBlock) ∧ k_ ≠ gb334) ∧ k_ ≠ gb335) ∧ k_ ≠ gb350) ∧ k_ ≠ gb354) ∧ k_ ≠ gb365) ∧ w.heap.size ≤ k_) (.slice Ao50 t351.length co50) t351 1 t377 t378 w _ ?side1 ?side2 A109.out).mono ?_); (case side1 => exact mH6 HB.out GE334.out GE335.out GE350.out GE354.out GE360.out GE365.out); (case side2 => exact Kd.S_mono (Kd.S_bound (Kd.S_types (Kd.S_types (Kd.S_types (Kd.S_types (Kd.S_types HO_355000.out BK334.out (by decide)) BK335.out (by decide)) BK350.out (by decide)) BK354.out (by decide)) BK365.out (by decide))) (fun k_ h_ => (⟨h_.1, h_.2.1⟩ : _ ∧ _))); rintro e w127 ⟨rfl, hy0, hb, hkp⟩; refine ⟨_, rfl, ?_⟩; replace HO_351000 := mS (Kd.S_mono (ok' := fun k_ => some k_ ≠ (.slice Ao50 t351.length co50 : Value).ownBlock ∧ some k_ ≠ (.slice Ao64 t357.length co64 : Value).ownBlock ∧ some k_ ≠ (.slice Ao69 t361.length co69 : Value).ownBlock ∧ some k_ ≠ (.slice Ao115 t367.length co115 : Value).ownBlock ∧ some k_ ≠ (.slice Ao119 t373.length co119 : Value).ownBlock ∧ k_ ≠ gb360 ∧ z40 ≤ k_ ∧ k_ < z48 ∧ k_ < z67 ∧ k_ < z114) (Kd.S_keptB (HO_351000.out) hkp (fun k_ hk_ hs_ => (fun e_ => Nat.lt_irrefl _ (Nat.lt_of_lt_of_le (hk_.1.1.1.2.2.2.2.2.1) (e_.1.1.1.1.1.1.1.1.1.2.2.2.2.1))) hs_)) (fun k_ hk_ => ⟨hk_.1.1.1.1.1, hk_.1.1.1.1.2.1, hk_.1.1.1.1.2.2.1, hk_.1.1.1.2, hk_.1.2, hk_.1.1.1.1.2.2.2.1, hk_.1.1.1.1.2.2.2.2.1, hk_.1.1.1.1.2.2.2.2.2.1, hk_.1.1.1.1.2.2.2.2.2.2, hk_.1.1.2⟩)); replace HO_355000 := mS (Kd.S_mono (ok' := fun k_ => ((((some k_ ≠ (.slice Ao43 t346.length co43 : Value).ownBlock ∧ (some k_ ≠ (.slice Ao64 t357.length co64 : Value).ownBlock ∧ (some k_ ≠ (.slice Ao69 t361.length co69 : Value).ownBlock ∧ (k_ ≠ gb360 ∧ (z48 ≤ k_ ∧ k_ < z67))))) ∧ some k_ ≠ (.slice Ao115 t367.length co115 : Value).ownBlock) ∧ k_ < z114) ∧ some k_ ≠ (.slice Ao119 t373.length co119 : Value).ownBlock)) hy0 (fun k_ h_ => ⟨⟨⟨⟨h_.1.1.1.1.1.1.1.1.1.1, ⟨h_.1.1.1.1.1.1.1.1.1.2.1, ⟨h_.1.1.1.1.1.1.1.1.1.2.2.1, ⟨h_.1.1.1.1.1.1.1.1.1.2.2.2.1, ⟨h_.1.1.1.1.1.1.1.1.1.2.2.2.2.1, h_.1.1.1.1.1.1.1.1.1.2.2.2.2.2⟩⟩⟩⟩⟩, h_.1.1.1.1.1.1.1.1.2⟩, h_.1.1.1.1.1.1.1.2⟩, h_.1.1.1.1.1.1.2⟩)); replace HO_361002 := mS (Kd.R_mono (ok' := fun k_ => some k_ ≠ (.slice Ao119 t373.length co119 : Value).ownBlock) (Kd.R_keptB ((Kd.R_tight2 rfl HO_361002.out)) hkp (fun k_ hk_ hs_ => (fun e_ => (e_.1.1.1.1.1.1.1.1.1.2.1) (hk_.1)) hs_)) (fun k_ hk_ => hk_.1.2.2)); replace HO_366000 := mS (Kd.S_mono (ok' := fun k_ => some k_ ≠ (.slice Ao43 t346.length co43 : Value).ownBlock ∧ some k_ ≠ (.slice Ao50 t351.length co50 : Value).ownBlock ∧ some k_ ≠ (.slice Ao64 t357.length co64 : Value).ownBlock ∧ some k_ ≠ (.slice Ao115 t367.length co115 : Value).ownBlock ∧ some k_ ≠ (.slice Ao119 t373.length co119 : Value).ownBlock ∧ k_ ≠ gb360 ∧ z67 ≤ k_ ∧ k_ < z114) (Kd.S_keptB (HO_366000.out) hkp (fun k_ hk_ hs_ => (fun e_ => Nat.lt_irrefl _ (Nat.lt_of_lt_of_le (e_.1.1.1.1.1.1.1.1.1.2.2.2.2.2) (hk_.1.1.1.2.2.2.2))) hs_)) (fun k_ hk_ => ⟨hk_.1.1.1.1.1, hk_.1.1.1.1.2.1, hk_.1.1.1.1.2.2.1, hk_.1.1.1.2, hk_.1.2, hk_.1.1.1.1.2.2.2.1, hk_.1.1.1.1.2.2.2.2, hk_.1.1.2⟩)); replace BK334 := mS (mKk_FnExactGraphPut BK334.out hkp (fun hs_ => (fun e_ => (e_.1.1.1.1.1.2) rfl) hs_)); replace BK335 := mS (mKk_FnExactGraphPut BK335.out hkp (fun hs_ => (fun e_ => (e_.1.1.1.1.2) rfl) hs_)); replace BK350 := mS (mKk_FnExactGraphPut BK350.out hkp (fun hs_ => (fun e_ => (e_.1.1.1.2) rfl) hs_)); replace BK354 := mS (mKk_FnExactGraphPut BK354.out hkp (fun hs_ => (fun e_ => (e_.1.1.2) rfl) hs_)); replace BK360 := mS (mKk_FnExactGraphPut BK360.out hkp (fun hs_ => (fun e_ => (e_.1.1.1.1.1.1.1.1.1.2.2.2.1) rfl) hs_)); replace BK365 := mS (mKk_FnExactGraphPut BK365.out hkp (fun hs_ => (fun e_ => (e_.1.2) rfl) hs_)); replace HO369 := mS (Kd.S_mono (ok' := fun k_ => some k_ ≠ (.slice Ao43 t346.length co43 : Value).ownBlock ∧ some k_ ≠ (.slice Ao50 t351.length co50 : Value).ownBlock ∧ some k_ ≠ (.slice Ao64 t357.length co64 : Value).ownBlock ∧ some k_ ≠ (.slice Ao69 t361.length co69 : Value).ownBlock ∧ some k_ ≠ (.slice Ao119 t373.length co119 : Value).ownBlock ∧ k_ ≠ gb360 ∧ z114 ≤ k_) (Kd.S_keptB (HO369.out) hkp (fun k_ hk_ hs_ => (fun e_ => Nat.lt_irrefl _ (Nat.lt_of_lt_of_le (e_.1.1.1.1.1.1.1.2) (hk_.1.1.1.1.1.1.2))) hs_)) (fun k_ hk_ => ⟨hk_.1.1.1.1.1.1.2, hk_.1.1.1.1.1.2, hk_.1.1.1.1.2, hk_.1.1.1.2, hk_.1.2, hk_.1.1.2, hk_.1.1.1.1.1.1.1.2⟩)); replace HO375 := mS (Kd.R_mono (ok' := fun k_ => some k_ ≠ (.slice Ao64 t357.length co64 : Value).ownBlock) (Kd.R_keptB ((Kd.R_tight2 rfl HO375.out)) hkp (fun k_ hk_ hs_ => (fun e_ => (e_.1.1.1.1.1.1.2) (hk_.1)) hs_)) (fun k_ hk_ => hk_.1.2.2)); replace HB := mS (hb); (try clear hb); (try clear hkp); (try clear hy0); have hnb128 := NB360_334.out; have hnc128 := NB334_360.out; have hnb129 := NB360_335.out; have hnc129 := NB335_360.out; have hnb130 := NB360_350.out; have hnc130 := NB350_360.out; have hnb131 := NB360_365.out; have hnc131 := NB365_360.out; obtain ⟨hcz132_0, hcz132_1, hcz132_2, hfz132_0, hfz132_1, hfz132_2⟩ := mZ3 BK360.out) | ((with_reducible refine gate_callee (f := 32) rfl ?_); refine mGo 69 Try.func32 #[.agg #[.int .i64 t355, .int .i64 t356, .slice Ao64 t357.length co64], .int .i64 t377] ?_; (with_reducible refine (laws_markItem.calls kj24 t355 t356 (fun k_ => some k_ = (.slice Ao64 t357.length co64 : Value).ownBlock) (.slice Ao64 t357.length co64) t357 t377 t379 t380 w _ ?side1 ?side2 A110.out).mono ?_); (case side1 => exact mH6 HB.out GE334.out GE335.out GE350.out GE354.out GE360.out GE365.out); (case side2 => exact Kd.R_tight rfl HO_361002.out); rintro e w133 ⟨rfl, hy0, hb, hkp⟩; refine ⟨_, rfl, ?_⟩; replace HO_351000 := mS (Kd.S_mono (ok' := fun k_ => some k_ ≠ (.slice Ao50 t351.length co50 : Value).ownBlock ∧ some k_ ≠ (.slice Ao64 t357.length co64 : Value).ownBlock ∧ some k_ ≠ (.slice Ao69 t361.length co69 : Value).ownBlock ∧ some k_ ≠ (.slice Ao115 t367.length co115 : Value).ownBlock ∧ some k_ ≠ (.slice Ao119 t373.length co119 : Value).ownBlock ∧ k_ ≠ gb360 ∧ z40 ≤ k_ ∧ k_ < z48 ∧ k_ < z67 ∧ k_ < z114) (Kd.S_keptB (HO_351000.out) hkp (fun k_ hk_ hs_ => (hk_.2.1) hs_)) (fun k_ hk_ => ⟨hk_.1.1, hk_.1.2.1, hk_.1.2.2.1, hk_.1.2.2.2.1, hk_.1.2.2.2.2.1, hk_.1.2.2.2.2.2.1, hk_.1.2.2.2.2.2.2.1, hk_.1.2.2.2.2.2.2.2.1, hk_.1.2.2.2.2.2.2.2.2.1, hk_.1.2.2.2.2.2.2.2.2.2⟩)); replace HO_355000 := mS (Kd.S_mono (ok' := fun k_ => some k_ ≠ (.slice Ao43 t346.length co43 : Value).ownBlock ∧ some k_ ≠ (.slice Ao64 t357.length co64 : Value).ownBlock ∧ some k_ ≠ (.slice Ao69 t361.length co69 : Value).ownBlock ∧ some k_ ≠ (.slice Ao115 t367.length co115 : Value).ownBlock ∧ some k_ ≠ (.slice Ao119 t373.length co119 : Value).ownBlock ∧ k_ ≠ gb360 ∧ z48 ≤ k_ ∧ k_ < z67 ∧ k_ < z114) (Kd.S_keptB (HO_355000.out) hkp (fun k_ hk_ hs_ => (hk_.1.1.1.2.1) hs_)) (fun k_ hk_ => ⟨hk_.1.1.1.1.1, hk_.1.1.1.1.2.1, hk_.1.1.1.1.2.2.1, hk_.1.1.1.2, hk_.1.2, hk_.1.1.1.1.2.2.2.1, hk_.1.1.1.1.2.2.2.2.1, hk_.1.1.1.1.2.2.2.2.2, hk_.1.1.2⟩)); replace HO_366000 := mS (Kd.S_mono (ok' := fun k_ => some k_ ≠ (.slice Ao43 t346.length co43 : Value).ownBlock ∧ some k_ ≠ (.slice Ao50 t351.length co50 : Value).ownBlock ∧ some k_ ≠ (.slice Ao64 t357.length co64 : Value).ownBlock ∧ some k_ ≠ (.slice Ao115 t367.length co115 : Value).ownBlock ∧ some k_ ≠ (.slice Ao119 t373.length co119 : Value).ownBlock ∧ k_ ≠ gb360 ∧ z67 ≤ k_ ∧ k_ < z114) (Kd.S_keptB (HO_366000.out) hkp (fun k_ hk_ hs_ => (hk_.2.2.1) hs_)) (fun k_ hk_ => ⟨hk_.1.1, hk_.1.2.1, hk_.1.2.2.1, hk_.1.2.2.2.1, hk_.1.2.2.2.2.1, hk_.1.2.2.2.2.2.1, hk_.1.2.2.2.2.2.2.1, hk_.1.2.2.2.2.2.2.2⟩)); replace BK334 := mS (mKk_FnExactGraphPut BK334.out hkp (fun hs_ => (fun e_ => (Kd.R_ne HO_361002.out BK334.out (by decide)) e_) hs_)); replace BK335 := mS (mKk_FnExactGraphPut BK335.out hkp (fun hs_ => (fun e_ => (Kd.R_ne HO_361002.out BK335.out (by decide)) e_) hs_)); replace BK350 := mS (mKk_FnExactGraphPut BK350.out hkp (fun hs_ => (fun e_ => (Kd.R_ne HO_361002.out BK350.out (by decide)) e_) hs_)); replace BK354 := mS (mKk_FnExactGraphPut BK354.out hkp (fun hs_ => (fun e_ => (Kd.R_ne HO_361002.out BK354.out (by decide)) e_) hs_)); replace BK360 := mS (mKk_FnExactGraphPut BK360.out hkp (fun hs_ => (fun e_ => (Kd.R_ne HO_361002.out BK360.out (by decide)) e_) hs_)); replace BK365 := mS (mKk_FnExactGraphPut BK365.out hkp (fun hs_ => (fun e_ => (Kd.R_ne HO_361002.out BK365.out (by decide)) e_) hs_)); replace HO_361002 := mS (Kd.R_reok rfl hy0 (fun k_ e_ => HO_361002.out.1 k_ e_)); replace HO369 := mS (Kd.S_mono (ok' := fun k_ => some k_ ≠ (.slice Ao43 t346.length co43 : Value).ownBlock ∧ some k_ ≠ (.slice Ao50 t351.length co50 : Value).ownBlock ∧ some k_ ≠ (.slice Ao64 t357.length co64 : Value).ownBlock ∧ some k_ ≠ (.slice Ao69 t361.length co69 : Value).ownBlock ∧ some k_ ≠ (.slice Ao119 t373.length co119 : Value).ownBlock ∧ k_ ≠ gb360 ∧ z114 ≤ k_) (Kd.S_keptB (HO369.out) hkp (fun k_ hk_ hs_ => (hk_.2.2.1) hs_)) (fun k_ hk_ => ⟨hk_.1.1, hk_.1.2.1, hk_.1.2.2.1, hk_.1.2.2.2.1, hk_.1.2.2.2.2.1, hk_.1.2.2.2.2.2.1, hk_.1.2.2.2.2.2.2⟩)); replace HO375 := mS (Kd.R_mono (ok' := fun k_ => some k_ ≠ (.slice Ao64 t357.length co64 : Value).ownBlock) (Kd.R_keptB (HO375.out) hkp (fun k_ hk_ hs_ => (hk_) hs_)) (fun k_ hk_ => hk_.1)); replace HB := mS (hb); (try clear hb); (try clear hkp); (try clear hy0)))
        (try simp only [Act.put, zA, zB, zC])
        go_cut [82] (fun v82 wc => ∃ (kq : Nat) (x82_110 : Bool), v82 = .bool x82_110 ∧ Aside0 (laws_FnExactGraphPut.j1 kq t349 x82_110 l0_0 a1_0 a1_1 l1_2 t346 t361 = some r) ∧ Aside0 (kq ≤ kj24) ∧ Aside0 (Kd.S k59 59 wc w.heap.size (fun k_ => some k_ ≠ ((.slice Ao50 t351.length co50) : Value).ownBlock ∧ some k_ ≠ ((.slice Ao64 t357.length co64) : Value).ownBlock ∧ some k_ ≠ ((.slice Ao69 t361.length co69) : Value).ownBlock ∧ k_ ≠ gb360 ∧ z40 ≤ k_ ∧ k_ < z48 ∧ k_ < z67 ∧ k_ < z114) (.slice Ao43 t346.length co43) t346) ∧ Aside0 (Kd.S k59 59 wc w.heap.size (fun k_ => some k_ ≠ ((.slice Ao43 t346.length co43) : Value).ownBlock ∧ some k_ ≠ ((.slice Ao64 t357.length co64) : Value).ownBlock ∧ some k_ ≠ ((.slice Ao69 t361.length co69) : Value).ownBlock ∧ k_ ≠ gb360 ∧ z48 ≤ k_ ∧ k_ < z67 ∧ k_ < z114) (.slice Ao50 t351.length co50) t378) ∧ Aside0 (Kd.R k56 56 wc w.heap.size (fun _ => True) (.slice Ao64 t357.length co64) t380) ∧ Aside0 (Kd.S k59 59 wc w.heap.size (fun k_ => some k_ ≠ ((.slice Ao43 t346.length co43) : Value).ownBlock ∧ some k_ ≠ ((.slice Ao50 t351.length co50) : Value).ownBlock ∧ some k_ ≠ ((.slice Ao64 t357.length co64) : Value).ownBlock ∧ k_ ≠ gb360 ∧ z67 ≤ k_ ∧ k_ < z114) (.slice Ao69 t361.length co69) t361) ∧ Aside0 (wc.heap[gb334]? = some (.cells #[(.slice A0_0 l0_0.length c0_0)] 42 (0, 0))) ∧ Aside0 (wc.heap[gb335]? = some (.cells #[.int .i64 a1_0, .int .i64 a1_1, (.slice A1_2 l1_2.length c1_2)] 47 (0, 0))) ∧ Aside0 (wc.heap[gb350]? = some (.cells #[(.slice Ao43 t346.length co43)] 52 (0, 0))) ∧ Aside0 (wc.heap[gb354]? = some (.cells #[(.slice Ao50 t351.length co50)] 52 (0, 0))) ∧ Aside0 (wc.heap[gb360]? = some (.cells #[.int .i64 t355, .int .i64 t356, (.slice Ao64 t357.length co64)] 59 (0, 0))) ∧ Aside0 (wc.heap[gb365]? = some (.cells #[(.slice Ao69 t361.length co69)] 52 (0, 0))) ∧ Aside0 (Below w.heap.size w wc))
        case first =>
         have H := HC111.out
         clear HC111
         by_cases c134 : t379 < 0
         ·rw [if_pos c134] at H
          have c134b0 := decide_eq_true c134
          clear c134
          (first | rw [c134b0] | (simp only [i64_w, i32_w]; rw [c134b0]) | skip)
          have H' := mS H
          clear H
          go_wp2
          go_meet
          case rel => exact ⟨_, (true), mE, H', ⟨by have := HJ24.out; first | omega | exact Nat.le_refl _⟩, ⟨by refine mSd ?_; exact Kd.S_mono HO_351000.out (fun _ hk => ⟨hk.1, ⟨hk.2.1, ⟨hk.2.2.1, ⟨hk.2.2.2.2.2.1, ⟨hk.2.2.2.2.2.2.1, ⟨hk.2.2.2.2.2.2.2.1, ⟨hk.2.2.2.2.2.2.2.2.1, hk.2.2.2.2.2.2.2.2.2⟩⟩⟩⟩⟩⟩⟩)⟩, ⟨by refine mSd ?_; exact Kd.S_mono HO_355000.out (fun _ hk => ⟨hk.1, ⟨hk.2.1, ⟨hk.2.2.1, ⟨hk.2.2.2.2.2.1, ⟨hk.2.2.2.2.2.2.1, ⟨hk.2.2.2.2.2.2.2.1, hk.2.2.2.2.2.2.2.2⟩⟩⟩⟩⟩⟩)⟩, ⟨by refine mR ?_; exact Kd.R_mono HO_361002.out (fun _ hk => trivial)⟩, ⟨by refine mSd ?_; exact Kd.S_mono HO_366000.out (fun _ hk => ⟨hk.1, ⟨hk.2.1, ⟨hk.2.2.1, ⟨hk.2.2.2.2.2.1, ⟨hk.2.2.2.2.2.2.1, hk.2.2.2.2.2.2.2⟩⟩⟩⟩⟩)⟩, ⟨mK BK334.out⟩, ⟨mK BK335.out⟩, ⟨mK BK350.out⟩, ⟨mK BK354.out⟩, ⟨mK BK360.out⟩, ⟨mK BK365.out⟩, ⟨(mH6 HB.out GE334.out GE335.out GE350.out GE354.out GE360.out GE365.out)⟩⟩
         ·rw [if_neg c134] at H
          have c134b0 := decide_eq_false c134
          clear c134
          (first | rw [c134b0] | (simp only [i64_w, i32_w]; rw [c134b0]) | skip)
          replace H := Option.bind_eq_some_iff.mp H
          obtain ⟨t381, A1350, H⟩ := H
          replace H : (if t381 = true then (laws_FnExactGraphPut.j1 kj24 t349 (t364 != t349) l0_0 a1_0 a1_1 l1_2 t346 t361) else (laws_FnExactGraphPut.j1 kj24 t349 true l0_0 a1_0 a1_1 l1_2 t346 t361)) = some r := H
          have A135 := mS A1350
          clear A1350
          by_cases c136 : t381 = true
          ·subst c136
           have H1 := H
           rw [if_pos rfl] at H1
           clear H
           have H := H1
           clear H1
           have H' := mS H
           clear H
           have hnb137 := NB365_334.out
           have hnc137 := NB334_365.out
           have hnb138 := NB365_335.out
           have hnc138 := NB335_365.out
           have hnb139 := NB365_350.out
           have hnc139 := NB350_365.out
           have hnb140 := NB365_354.out
           have hnc140 := NB354_365.out
           have hnb141 := NB365_360.out
           have hnc141 := NB360_365.out
           have hcz142_0 := mZ BK365.out 0
           have hfz142_0 := blk_frozen BK365.out 0
           have hnb143 := NB350_334.out
           have hnc143 := NB334_350.out
           have hnb144 := NB350_335.out
           have hnc144 := NB335_350.out
           have hnb145 := NB350_354.out
           have hnc145 := NB354_350.out
           have hnb146 := NB350_360.out
           have hnc146 := NB360_350.out
           have hcz147_0 := mZ BK350.out 0
           have hfz147_0 := blk_frozen BK350.out 0
           go_wp2_with (first | (go_at_call 29; (with_reducible refine (laws_eqGraph.calls kj24 _ _ t361 _ _ t346 true _ ?side1 ?side2 ?side3 ?side4 A135.out).mono ?_); (case side1 => exact mC (Kd.S_reads' HO_366000.out).2.2); (case side2 => exact (Kd.S_reads' HO_366000.out).2.1); (case side3 => exact mC (Kd.S_reads' HO_351000.out).2.2); (case side4 => exact (Kd.S_reads' HO_351000.out).2.1); rintro e w148 ⟨rfl, hb⟩; replace HO_351000 := mS (Kd.S_below (mSd HO_351000.out) hb); replace HO_355000 := mS (Kd.S_below (mSd HO_355000.out) hb); replace HO_361002 := mS (Kd.R_below (mR HO_361002.out) hb); replace HO_366000 := mS (Kd.S_below (mSd HO_366000.out) hb); replace HO369 := mS (Kd.S_below (mSd HO369.out) hb); replace HO375 := mS (Kd.R_below (mR HO375.out) hb); replace BK334 := mB BK334 hb; replace BK335 := mB BK335 hb; replace BK350 := mB BK350 hb; replace BK354 := mB BK354 hb; replace BK360 := mB BK360 hb; replace BK365 := mB BK365 hb; replace HB := mS (below_step (mH6 HB.out GE334.out GE335.out GE350.out GE354.out GE360.out GE365.out) hb); (try clear hb); (try clear hb2); (try clear hk); (try clear hi)))
           go_meet
           case rel => exact ⟨_, ((t364 != t349)), mE, H', ⟨by have := HJ24.out; first | omega | exact Nat.le_refl _⟩, ⟨by refine mSd ?_; exact Kd.S_mono HO_351000.out (fun _ hk => ⟨hk.1, ⟨hk.2.1, ⟨hk.2.2.1, ⟨hk.2.2.2.2.2.1, ⟨hk.2.2.2.2.2.2.1, ⟨hk.2.2.2.2.2.2.2.1, ⟨hk.2.2.2.2.2.2.2.2.1, hk.2.2.2.2.2.2.2.2.2⟩⟩⟩⟩⟩⟩⟩)⟩, ⟨by refine mSd ?_; exact Kd.S_mono HO_355000.out (fun _ hk => ⟨hk.1, ⟨hk.2.1, ⟨hk.2.2.1, ⟨hk.2.2.2.2.2.1, ⟨hk.2.2.2.2.2.2.1, ⟨hk.2.2.2.2.2.2.2.1, hk.2.2.2.2.2.2.2.2⟩⟩⟩⟩⟩⟩)⟩, ⟨by refine mR ?_; exact Kd.R_mono HO_361002.out (fun _ hk => trivial)⟩, ⟨by refine mSd ?_; exact Kd.S_mono HO_366000.out (fun _ hk => ⟨hk.1, ⟨hk.2.1, ⟨hk.2.2.1, ⟨hk.2.2.2.2.2.1, ⟨hk.2.2.2.2.2.2.1, hk.2.2.2.2.2.2.2⟩⟩⟩⟩⟩)⟩, ⟨mK BK334.out⟩, ⟨mK BK335.out⟩, ⟨mK BK350.out⟩, ⟨mK BK354.out⟩, ⟨mK BK360.out⟩, ⟨mK BK365.out⟩, ⟨(mH6 HB.out GE334.out GE335.out GE350.out GE354.out GE360.out GE365.out)⟩⟩
          ·replace c136 := Bool.eq_false_iff.mpr c136
           subst c136
           have H1 := H
           rw [if_neg (show ¬ (false = true) by decide)] at H1
           clear H
           have H := H1
           clear H1
           have H' := mS H
           clear H
           have hnb149 := NB365_334.out
           have hnc149 := NB334_365.out
           have hnb150 := NB365_335.out
           have hnc150 := NB335_365.out
           have hnb151 := NB365_350.out
           have hnc151 := NB350_365.out
           have hnb152 := NB365_354.out
           have hnc152 := NB354_365.out
           have hnb153 := NB365_360.out
           have hnc153 := NB360_365.out
           have hcz154_0 := mZ BK365.out 0
           have hfz154_0 := blk_frozen BK365.out 0
           have hnb155 := NB350_334.out
           have hnc155 := NB334_350.out
           have hnb156 := NB350_335.out
           have hnc156 := NB335_350.out
           have hnb157 := NB350_354.out
           have hnc157 := NB354_350.out
           have hnb158 := NB350_360.out
           have hnc158 := NB360_350.out
           have hcz159_0 := mZ BK350.out 0
           have hfz159_0 := blk_frozen BK350.out 0
           go_wp2_with (first | (go_at_call 29; (with_reducible refine (laws_eqGraph.calls kj24 _ _ t361 _ _ t346 false _ ?side1 ?side2 ?side3 ?side4 A135.out).mono ?_); (case side1 => exact mC (Kd.S_reads' HO_366000.out).2.2); (case side2 => exact (Kd.S_reads' HO_366000.out).2.1); (case side3 => exact mC (Kd.S_reads' HO_351000.out).2.2); (case side4 => exact (Kd.S_reads' HO_351000.out).2.1); rintro e w160 ⟨rfl, hb⟩; replace HO_351000 := mS (Kd.S_below (mSd HO_351000.out) hb); replace HO_355000 := mS (Kd.S_below (mSd HO_355000.out) hb); replace HO_361002 := mS (Kd.R_below (mR HO_361002.out) hb); replace HO_366000 := mS (Kd.S_below (mSd HO_366000.out) hb); replace HO369 := mS (Kd.S_below (mSd HO369.out) hb); replace HO375 := mS (Kd.R_below (mR HO375.out) hb); replace BK334 := mB BK334 hb; replace BK335 := mB BK335 hb; replace BK350 := mB BK350 hb; replace BK354 := mB BK354 hb; replace BK360 := mB BK360 hb; replace BK365 := mB BK365 hb; replace HB := mS (below_step (mH6 HB.out GE334.out GE335.out GE350.out GE354.out GE360.out GE365.out) hb); (try clear hb); (try clear hb2); (try clear hk); (try clear hi)))
           go_meet
           case rel => exact ⟨_, (true), mE, H', ⟨by have := HJ24.out; first | omega | exact Nat.le_refl _⟩, ⟨by refine mSd ?_; exact Kd.S_mono HO_351000.out (fun _ hk => ⟨hk.1, ⟨hk.2.1, ⟨hk.2.2.1, ⟨hk.2.2.2.2.2.1, ⟨hk.2.2.2.2.2.2.1, ⟨hk.2.2.2.2.2.2.2.1, ⟨hk.2.2.2.2.2.2.2.2.1, hk.2.2.2.2.2.2.2.2.2⟩⟩⟩⟩⟩⟩⟩)⟩, ⟨by refine mSd ?_; exact Kd.S_mono HO_355000.out (fun _ hk => ⟨hk.1, ⟨hk.2.1, ⟨hk.2.2.1, ⟨hk.2.2.2.2.2.1, ⟨hk.2.2.2.2.2.2.1, ⟨hk.2.2.2.2.2.2.2.1, hk.2.2.2.2.2.2.2.2⟩⟩⟩⟩⟩⟩)⟩, ⟨by refine mR ?_; exact Kd.R_mono HO_361002.out (fun _ hk => trivial)⟩, ⟨by refine mSd ?_; exact Kd.S_mono HO_366000.out (fun _ hk => ⟨hk.1, ⟨hk.2.1, ⟨hk.2.2.1, ⟨hk.2.2.2.2.2.1, ⟨hk.2.2.2.2.2.2.1, hk.2.2.2.2.2.2.2⟩⟩⟩⟩⟩)⟩, ⟨mK BK334.out⟩, ⟨mK BK335.out⟩, ⟨mK BK350.out⟩, ⟨mK BK354.out⟩, ⟨mK BK360.out⟩, ⟨mK BK365.out⟩, ⟨(mH6 HB.out GE334.out GE335.out GE350.out GE354.out GE360.out GE365.out)⟩⟩
        case rest =>
         clear HC111
         try clear c1
         try clear c2
         try clear p2
         try clear c3
         try clear c4
         try clear c5
         try clear c6
         try clear c7
         try clear c8
         try clear c9
         try clear c10
         try clear c12
         try clear c13
         try clear c14
         try clear c15
         try clear c25
         try clear c26
         try clear c27
         try clear c28
         try clear c29
         try clear c30
         try clear c31
         try clear c32
         try clear c45
         try clear c51
         try clear c52
         try clear c53
         try clear c55
         try clear c59
         try clear c60
         try clear c61
         try clear c62
         try clear c70
         try clear c71
         try clear c72
         try clear c73
         try clear c74
         try clear c77
         try clear c78
         try clear c79
         try clear c80
         try clear c81
         try clear c82
         try clear c84
         try clear c85
         try clear c86
         try clear c87
         try clear c90
         try clear c91
         try clear c92
         try clear c93
         try clear c94
         try clear c96
         try clear c97
         try clear c98
         try clear c99
         try clear c102
         try clear c105
         try clear c108
         try clear c121
         try clear c122
         try clear c123
         try clear c124
         try clear c125
         try clear c128
         try clear c129
         try clear c130
         try clear c131
         try clear c134
         try clear c134b0
         try clear c136
         try clear c137
         try clear c138
         try clear c139
         try clear c140
         try clear c141
         try clear c143
         try clear c144
         try clear c145
         try clear c146
         try clear c149
         try clear c150
         try clear c151
         try clear c152
         try clear c153
         try clear c155
         try clear c156
         try clear c157
         try clear c158
         try clear hcz100_0
         try clear hcz126_0
         try clear hcz132_0
         try clear hcz132_1
         try clear hcz132_2
         try clear hcz142_0
         try clear hcz147_0
         try clear hcz154_0
         try clear hcz159_0
         try clear hcz46_0
         try clear hcz54_0
         try clear hcz56_0
         try clear hcz56_1
         try clear hcz56_2
         try clear hcz63_0
         try clear hcz63_1
         try clear hcz63_2
         try clear hcz65_0
         try clear hcz75_0
         try clear hcz83_0
         try clear hcz88_0
         try clear hcz95_0
         try clear hfz100_0
         try clear hfz126_0
         try clear hfz132_0
         try clear hfz132_1
         try clear hfz132_2
         try clear hfz142_0
         try clear hfz147_0
         try clear hfz154_0
         try clear hfz159_0
         try clear hfz46_0
         try clear hfz54_0
         try clear hfz56_0
         try clear hfz56_1
         try clear hfz56_2
         try clear hfz63_0
         try clear hfz63_1
         try clear hfz63_2
         try clear hfz65_0
         try clear hfz75_0
         try clear hfz83_0
         try clear hfz88_0
         try clear hfz95_0
         obtain ⟨kq, x82_110, rfl, HA, HJ110, HO_351000, HO_355000, HO_361002, HO_366000, BK334, BK335, BK350, BK354, BK360, BK365, HB⟩ := hcut
         have hl355000_110 := (Kd.S_reads' HO_355000.out).1
         rw [hl355000_110] at HO_355000
         (try simp only [hl355000_110])
         (try simp only [hl355000_110] at BK334)
         (try simp only [hl355000_110] at BK335)
         (try simp only [hl355000_110] at BK350)
         (try simp only [hl355000_110] at BK354)
         (try simp only [hl355000_110] at BK360)
         (try simp only [hl355000_110] at BK365)
         (try simp only [hl355000_110] at HO_351000)
         (try simp only [hl355000_110] at HO_361002)
         (try simp only [hl355000_110] at HO_366000)
         have hl361002_110 := (Kd.R_reads' HO_361002.out).1
         rw [hl361002_110] at HO_361002
         (try simp only [hl361002_110])
         (try simp only [hl361002_110] at BK334)
         (try simp only [hl361002_110] at BK335)
         (try simp only [hl361002_110] at BK350)
         (try simp only [hl361002_110] at BK354)
         (try simp only [hl361002_110] at BK360)
         (try simp only [hl361002_110] at BK365)
         (try simp only [hl361002_110] at HO_351000)
         (try simp only [hl361002_110] at HO_355000)
         (try simp only [hl361002_110] at HO_366000)
         cases kq with
         | zero => exact absurd HA.out (by simp [laws_FnExactGraphPut.j1])
         | succ kj110 =>
          have H := HA.out
          clear HA
          simp only [laws_FnExactGraphPut.j1] at H
          by_cases c161 : x82_110 = true
          ·subst c161
           have H1 := H
           rw [if_pos rfl] at H1
           clear H
           have H := H1
           clear H1
           exact absurd ((Option.some.inj H).trans ht_) (by decide)
          ·replace c161 := Bool.eq_false_iff.mpr c161
           subst c161
           have H1 := H
           rw [if_neg (show ¬ (false = true) by decide)] at H1
           clear H
           have H := H1
           clear H1
           replace H := Option.bind_eq_some_iff.mp H
           obtain ⟨⟨t382, t383⟩, A1620, H⟩ := H
           replace H : ((laws_heldGraph.f kj110 t383 1).bind fun t384 => (if t384 < 0 then (some false) else (if t384 = t382 then ((laws_toGraph.f kj110 l0_0).bind fun t385 => ((laws_toItem.f kj110 a1_0 a1_1 l1_2).bind fun bt388 => ((impl_GraphPut.f kj110 t385 bt388.1 bt388.2.1 bt388.2.2).bind fun bt393 => ((laws_eqGraph.f kj110 bt393.1 t346).bind fun t398 => (if t398 = true then (laws_FnExactGraphPut.j2 kj110 t382 (bt393.2 != t349) t383) else (laws_FnExactGraphPut.j2 kj110 t382 true t383)))))) else (some false)))) = some r := H
           have A162 := mS A1620
           clear A1620
           replace H := Option.bind_eq_some_iff.mp H
           obtain ⟨t384, A1630, H⟩ := H
           replace H : (if t384 < 0 then (some false) else (if t384 = t382 then ((laws_toGraph.f kj110 l0_0).bind fun t385 => ((laws_toItem.f kj110 a1_0 a1_1 l1_2).bind fun bt388 => ((impl_GraphPut.f kj110 t385 bt388.1 bt388.2.1 bt388.2.2).bind fun bt393 => ((laws_eqGraph.f kj110 bt393.1 t346).bind fun t398 => (if t398 = true then (laws_FnExactGraphPut.j2 kj110 t382 (bt393.2 != t349) t383) else (laws_FnExactGraphPut.j2 kj110 t382 true t383)))))) else (some false))) = some r := H
           have A163 := mS A1630
           clear A1630
           by_cases c164 : t384 < 0
           ·rw [if_pos c164] at H
            have c164b0 := decide_eq_true c164
            clear c164
            exact absurd ((Option.some.inj H).trans ht_) (by decide)
           ·rw [if_neg c164] at H
            have c164b0 := decide_eq_false c164
            clear c164
            by_cases c165 : t384 = t382
            ·rw [if_pos c165] at H
             have c165b0 : (t384 == t382) = true := beq_iff_eq.mpr c165
             have c165b1 : (t384 != t382) = false := bne_eq_false_iff_eq.mpr c165
             clear c165
             replace H := Option.bind_eq_some_iff.mp H
             obtain ⟨t385, A1660, H⟩ := H
             replace H : ((laws_toItem.f kj110 a1_0 a1_1 l1_2).bind fun bt388 => ((impl_GraphPut.f kj110 t385 bt388.1 bt388.2.1 bt388.2.2).bind fun bt393 => ((laws_eqGraph.f kj110 bt393.1 t346).bind fun t398 => (if t398 = true then (laws_FnExactGraphPut.j2 kj110 t382 (bt393.2 != t349) t383) else (laws_FnExactGraphPut.j2 kj110 t382 true t383))))) = some r := H
             have A166 := mS A1660
             clear A1660
             replace H := Option.bind_eq_some_iff.mp H
             obtain ⟨⟨t388, t389, t390⟩, A1670, H⟩ := H
             replace H : ((impl_GraphPut.f kj110 t385 t388 t389 t390).bind fun bt393 => ((laws_eqGraph.f kj110 bt393.1 t346).bind fun t398 => (if t398 = true then (laws_FnExactGraphPut.j2 kj110 t382 (bt393.2 != t349) t383) else (laws_FnExactGraphPut.j2 kj110 t382 true t383)))) = some r := H
             have A167 := mS A1670
             clear A1670
             replace H := Option.bind_eq_some_iff.mp H
             obtain ⟨⟨t393, t396⟩, A1680, H⟩ := H
             replace H : ((laws_eqGraph.f kj110 t393 t346).bind fun t398 => (if t398 = true then (laws_FnExactGraphPut.j2 kj110 t382 (t396 != t349) t383) else (laws_FnExactGraphPut.j2 kj110 t382 true t383))) = some r := H
             have A168 := mS A1680
             clear A1680
             have HC169 := mS H
             clear H
             have hnb170 := NB365_334.out
             have hnc170 := NB334_365.out
             have hnb171 := NB365_335.out
             have hnc171 := NB335_365.out
             have hnb172 := NB365_350.out
             have hnc172 := NB350_365.out
             have hnb173 := NB365_354.out
             have hnc173 := NB354_365.out
             have hnb174 := NB365_360.out
             have hnc174 := NB360_365.out
             have hcz175_0 := mZ BK365.out 0
             have hfz175_0 := blk_frozen BK365.out 0
             try go_wp2_with (first | ((with_reducible refine gate_callee (f := 31) rfl ?_); refine mGo 85 Try.func31 #[.agg #[.slice Ao69 t361.length co69], .int .i64 1] ?_; (with_reducible refine (laws_markGraph.calls kj110 (fun k_ => ((((((some k_ ≠ (.slice Ao43 t346.length co43 : Value).ownBlock ∧ (some k_ ≠ (.slice Ao50 t378.length co50 : Value).ownBlock ∧ (some k_ ≠ (.slice Ao64 t380.length co64 : Value).ownBlock ∧ (k_ ≠ gb360 ∧ (z67 ≤ k_ ∧ k_ < z114))))) ∧ k_ ≠ gb334) ∧ k_ ≠ gb335) ∧ k_ ≠ gb350) ∧ k_ ≠ gb354) ∧ k_ ≠ gb365) ∧ w.heap.size ≤ k_) (.slice Ao69 t361.length co69) t361 1 t382 t383 w _ ?side1 ?side2 A162.out).mono ?_); (case side1 => exact mH6 HB.out GE334.out GE335.out GE350.out GE354.out GE360.out GE365.out); (case side2 => exact Kd.S_mono (Kd.S_bound (Kd.S_types (Kd.S_types (Kd.S_types (Kd.S_types (Kd.S_types HO_366000.out BK334.out (by decide)) BK335.out (by decide)) BK350.out (by decide)) BK354.out (by decide)) BK365.out (by decide))) (fun k_ h_ => (⟨h_.1, h_.2.1⟩ : _ ∧ _))); rintro e w176 ⟨rfl, hy0, hb, hkp⟩; refine ⟨_, rfl, ?_⟩; replace HO_351000 := mS (Kd.S_mono (ok' := fun k_ => some k_ ≠ (.slice Ao50 t378.length co50 : Value).ownBlock ∧ some k_ ≠ (.slice Ao64 t380.length co64 : Value).ownBlock ∧ some k_ ≠ (.slice Ao69 t361.length co69 : Value).ownBlock ∧ k_ ≠ gb360 ∧ z40 ≤ k_ ∧ k_ < z48 ∧ k_ < z67 ∧ k_ < z114) (Kd.S_keptB (HO_351000.out) hkp (fun k_ hk_ hs_ => (fun e_ => Nat.lt_irrefl _ (Nat.lt_of_lt_of_le (hk_.2.2.2.2.2.2.1) (e_.1.1.1.1.1.1.2.2.2.2.1))) hs_)) (fun k_ hk_ => ⟨hk_.1.1, hk_.1.2.1, hk_.1.2.2.1, hk_.1.2.2.2.1, hk_.1.2.2.2.2.1, hk_.1.2.2.2.2.2.1, hk_.1.2.2.2.2.2.2.1, hk_.1.2.2.2.2.2.2.2⟩)); replace HO_355000 := mS (Kd.S_mono (ok' := fun k_ => some k_ ≠ (.slice Ao43 t346.length co43 : Value).ownBlock ∧ some k_ ≠ (.slice Ao64 t380.length co64 : Value).ownBlock ∧ some k_ ≠ (.slice Ao69 t361.length co69 : Value).ownBlock ∧ k_ ≠ gb360 ∧ z48 ≤ k_ ∧ k_ < z67 ∧ k_ < z114) (Kd.S_keptB (HO_355000.out) hkp (fun k_ hk_ hs_ => (fun e_ => Nat.lt_irrefl _ (Nat.lt_of_lt_of_le (hk_.2.2.2.2.2.1) (e_.1.1.1.1.1.1.2.2.2.2.1))) hs_)) (fun k_ hk_ => ⟨hk_.1.1, hk_.1.2.1, hk_.1.2.2.1, hk_.1.2.2.2.1, hk_.1.2.2.2.2.1, hk_.1.2.2.2.2.2.1, hk_.1.2.2.2.2.2.2⟩)); replace HO_361002 := mS (Kd.R_mono (ok' := fun k_ => True) (Kd.R_keptB ((Kd.R_tight2 rfl HO_361002.out)) hkp (fun k_ hk_ hs_ => (fun e_ => (e_.1.1.1.1.1.1.2.2.1) (hk_.1)) hs_)) (fun k_ hk_ => trivial)); replace HO_366000 := mS (Kd.S_mono (ok' := fun k_ => (some k_ ≠ (.slice Ao43 t346.length co43 : Value).ownBlock ∧ (some k_ ≠ (.slice Ao50 t378.length co50 : Value).ownBlock ∧ (some k_ ≠ (.slice Ao64 t380.length co64 : Value).ownBlock ∧ (k_ ≠ gb360 ∧ (z67 ≤ k_ ∧ k_ < z114)))))) hy0 (fun k_ h_ => ⟨h_.1.1.1.1.1.1.1, ⟨h_.1.1.1.1.1.1.2.1, ⟨h_.1.1.1.1.1.1.2.2.1, ⟨h_.1.1.1.1.1.1.2.2.2.1, ⟨h_.1.1.1.1.1.1.2.2.2.2.1, h_.1.1.1.1.1.1.2.2.2.2.2⟩⟩⟩⟩⟩)); replace BK334 := mS (mKk_FnExactGraphPut BK334.out hkp (fun hs_ => (fun e_ => (e_.1.1.1.1.1.2) rfl) hs_)); replace BK335 := mS (mKk_FnExactGraphPut BK335.out hkp (fun hs_ => (fun e_ => (e_.1.1.1.1.2) rfl) hs_)); replace BK350 := mS (mKk_FnExactGraphPut BK350.out hkp (fun hs_ => (fun e_ => (e_.1.1.1.2) rfl) hs_)); replace BK354 := mS (mKk_FnExactGraphPut BK354.out hkp (fun hs_ => (fun e_ => (e_.1.1.2) rfl) hs_)); replace BK360 := mS (mKk_FnExactGraphPut BK360.out hkp (fun hs_ => (fun e_ => (e_.1.1.1.1.1.1.2.2.2.1) rfl) hs_)); replace BK365 := mS (mKk_FnExactGraphPut BK365.out hkp (fun hs_ => (fun e_ => (e_.1.2) rfl) hs_)); replace HB := mS (hb); (try clear hb); (try clear hkp); (try clear hy0); have hcz177_0 := mZ BK365.out 0; have hfz177_0 := blk_frozen BK365.out 0) | ((with_reducible refine gate_callee (f := 33) rfl ?_); refine goesL_ (some 88) rfl rfl Try.func33 (by kernel_rfl) rfl #[.agg #[.slice Ao69 t383.length co69], .int .i64 1] rfl (by (try simp only [List.map_toArray, List.map_cons, List.map_nil]); first | done | (rw [show t383.length = t361.length from (Kd.S_reads' HO_366000.out).1.symm] <;> rfl) | rfl | (simp only [List.length_drop, List.length_take]; rfl)) ?_; (with_reducible refine (laws_heldGraph.calls kj110 _ _ t383 1 t384 _ ?side1 ?side2 A163.out).mono ?_); (case side1 => exact mC (Kd.S_reads' HO_366000.out).2.2); (case side2 => rw [show t383.length = t361.length from (Kd.S_reads' HO_366000.out).1.symm]; exact (Kd.S_reads' HO_366000.out).2.1); rintro e w178 ⟨rfl, hb⟩; refine ⟨_, rfl, ?_⟩; replace HO_351000 := mS (Kd.S_below (mSd HO_351000.out) hb); replace HO_355000 := mS (Kd.S_below (mSd HO_355000.out) hb); replace HO_361002 := mS (Kd.R_below (mR HO_361002.out) hb); replace HO_366000 := mS (Kd.S_below (mSd HO_366000.out) hb); replace BK334 := mB BK334 hb; replace BK335 := mB BK335 hb; replace BK350 := mB BK350 hb; replace BK354 := mB BK354 hb; replace BK360 := mB BK360 hb; replace BK365 := mB BK365 hb; replace HB := mS (below_step (mH6 HB.out GE334.out GE335.out GE350.out GE354.out GE360.out GE365.out) hb); (try clear hb)))
             replace HO_351000 := mS (Kd.S_drew HO_351000.out)
             replace HO_355000 := mS (Kd.S_drew HO_355000.out)
             replace HO_361002 := mS (Kd.R_drew HO_361002.out)
             replace HO_366000 := mS (Kd.S_drew HO_366000.out)
             replace BK334 := mS (blk_drew BK334.out)
             replace BK335 := mS (blk_drew BK335.out)
             replace BK350 := mS (blk_drew BK350.out)
             replace BK354 := mS (blk_drew BK354.out)
             replace BK360 := mS (blk_drew BK360.out)
             replace BK365 := mS (blk_drew BK365.out)
             replace HB := mS (below_drew1 HB.out)
             refine start_ (n := 11) (S := fun w' => w'.cell? ⟨gb334, 0, none⟩ = some (.slice A0_0 l0_0.length c0_0) ∧ w'.cell? ⟨gb335, 0, none⟩ = some (.int .i64 a1_0) ∧ w'.cell? ⟨gb335, 1, none⟩ = some (.int .i64 a1_1) ∧ w'.cell? ⟨gb335, 2, none⟩ = some (.slice A1_2 l1_2.length c1_2)) (ds := []) (mb 0 11) (by kernel_rfl) rfl rfl ⟨mZ BK334.out 0, mc3 BK335.out⟩ (fun hHeld => ?_); refine with_tabW laws_FnExactGraphPut.tab31 laws_FnExactGraphPut.bits31 (fun HT_ HW_ => ?_)
             generalize w178.drew = w179 at HO_351000 HO_355000 HO_361002 HO_366000 BK334 BK335 BK350 BK354 BK360 BK365 HB hHeld ⊢
             refine mpt 0 95 HT_.out HW_.out (mb 1 10) hHeld ?_
             refine mpt 2 97 HT_.out HW_.out (mr [1,1,1,8]) hHeld ?_
             refine join_ (σ := Value × Value × Value × Nat × Nat × Nat) 2 (mb 9 2) (fun s_ => [(96, .agg #[s_.1]), (98, .agg #[.int .i64 t388, .int .i64 t389, s_.2.1]), (99, .tuple #[.agg #[s_.2.2.1], .bool t396]), (15, .pointer (some ⟨s_.2.2.2.1, 0, none⟩)), (94, .tuple #[.agg #[s_.2.2.1], .bool t396]), (100, .agg #[s_.2.2.1]), (101, .bool t396)]) (fun s_ w' => (w'.cell? ⟨gb334, 0, none⟩ = some (.slice A0_0 l0_0.length c0_0) ∧ w'.cell? ⟨gb335, 0, none⟩ = some (.int .i64 a1_0) ∧ w'.cell? ⟨gb335, 1, none⟩ = some (.int .i64 a1_1) ∧ w'.cell? ⟨gb335, 2, none⟩ = some (.slice A1_2 l1_2.length c1_2)) ∧ (Kd.S k59 59 w' w.heap.size (fun k_ => some k_ ≠ (s_.2.1 : Value).ownBlock ∧ some k_ ≠ (s_.2.2.1 : Value).ownBlock ∧ some k_ ≠ (.slice Ao43 t346.length co43 : Value).ownBlock ∧ some k_ ≠ (.slice Ao50 t378.length co50 : Value).ownBlock ∧ some k_ ≠ (.slice Ao64 t380.length co64 : Value).ownBlock ∧ some k_ ≠ (.slice Ao69 t361.length co69 : Value).ownBlock ∧ k_ ≠ gb360 ∧ s_.2.2.2.2.1 ≤ k_ ∧ k_ < s_.2.2.2.2.2) s_.1 t385) ∧ (Kd.R k56 56 w' w.heap.size (fun k_ => some k_ ≠ (.slice Ao64 t380.length co64 : Value).ownBlock) s_.2.1 t390) ∧ (Kd.S k59 59 w' w.heap.size (fun k_ => some k_ ≠ (s_.1 : Value).ownBlock ∧ some k_ ≠ (s_.2.1 : Value).ownBlock ∧ some k_ ≠ (.slice Ao43 t346.length co43 : Value).ownBlock ∧ some k_ ≠ (.slice Ao50 t378.length co50 : Value).ownBlock ∧ some k_ ≠ (.slice Ao64 t380.length co64 : Value).ownBlock ∧ some k_ ≠ (.slice Ao69 t361.length co69 : Value).ownBlock ∧ k_ ≠ gb360 ∧ s_.2.2.2.2.2 ≤ k_) s_.2.2.1 t393) ∧ (Kd.S k59 59 w' w.heap.size (fun k_ => some k_ ≠ (s_.1 : Value).ownBlock ∧ some k_ ≠ (s_.2.1 : Value).ownBlock ∧ some k_ ≠ (s_.2.2.1 : Value).ownBlock ∧ some k_ ≠ (.slice Ao50 t378.length co50 : Value).ownBlock ∧ some k_ ≠ (.slice Ao64 t380.length co64 : Value).ownBlock ∧ some k_ ≠ (.slice Ao69 t361.length co69 : Value).ownBlock ∧ k_ ≠ gb360 ∧ z40 ≤ k_ ∧ k_ < z48 ∧ k_ < z67 ∧ k_ < z114 ∧ k_ < s_.2.2.2.2.1 ∧ k_ < s_.2.2.2.2.2) (.slice Ao43 t346.length co43) t346) ∧ (Kd.S k59 59 w' w.heap.size (fun k_ => some k_ ≠ (s_.1 : Value).ownBlock ∧ some k_ ≠ (s_.2.1 : Value).ownBlock ∧ some k_ ≠ (s_.2.2.1 : Value).ownBlock ∧ some k_ ≠ (.slice Ao43 t346.length co43 : Value).ownBlock ∧ some k_ ≠ (.slice Ao64 t380.length co64 : Value).ownBlock ∧ some k_ ≠ (.slice Ao69 t361.length co69 : Value).ownBlock ∧ k_ ≠ gb360 ∧ z48 ≤ k_ ∧ k_ < z67 ∧ k_ < z114 ∧ k_ < s_.2.2.2.2.1 ∧ k_ < s_.2.2.2.2.2) (.slice Ao50 t378.length co50) t378) ∧ (Kd.R k56 56 w' w.heap.size (fun k_ => some k_ ≠ (s_.2.1 : Value).ownBlock) (.slice Ao64 t380.length co64) t380) ∧ (Kd.S k59 59 w' w.heap.size (fun k_ => some k_ ≠ (s_.1 : Value).ownBlock ∧ some k_ ≠ (s_.2.1 : Value).ownBlock ∧ some k_ ≠ (s_.2.2.1 : Value).ownBlock ∧ some k_ ≠ (.slice Ao43 t346.length co43 : Value).ownBlock ∧ some k_ ≠ (.slice Ao50 t378.length co50 : Value).ownBlock ∧ some k_ ≠ (.slice Ao64 t380.length co64 : Value).ownBlock ∧ k_ ≠ gb360 ∧ z67 ≤ k_ ∧ k_ < z114 ∧ k_ < s_.2.2.2.2.1 ∧ k_ < s_.2.2.2.2.2) (.slice Ao69 t361.length co69) t383) ∧ (w'.heap[gb334]? = some (.cells #[.slice A0_0 l0_0.length c0_0] 42 (0, 0))) ∧ (w'.heap[gb335]? = some (.cells #[.int .i64 a1_0, .int .i64 a1_1, .slice A1_2 l1_2.length c1_2] 47 (0, 0))) ∧ (w'.heap[gb350]? = some (.cells #[.slice Ao43 t346.length co43] 52 (0, 0))) ∧ (w'.heap[gb354]? = some (.cells #[.slice Ao50 t378.length co50] 52 (0, 0))) ∧ (w'.heap[gb360]? = some (.cells #[.int .i64 t355, .int .i64 t356, .slice Ao64 t380.length co64] 59 (0, 0))) ∧ (w'.heap[gb365]? = some (.cells #[.slice Ao69 t361.length co69] 52 (0, 0))) ∧ (w'.heap[s_.2.2.2.1]? = some (.cells #[.slice none 0 0] 52 (0, 0))) ∧ (w.heap.size ≤ s_.2.2.2.1) ∧ (w.heap.size ≤ s_.2.2.2.1) ∧ (gb334 ≠ s_.2.2.2.1) ∧ (s_.2.2.2.1 ≠ gb334) ∧ (gb335 ≠ s_.2.2.2.1) ∧ (s_.2.2.2.1 ≠ gb335) ∧ (gb350 ≠ s_.2.2.2.1) ∧ (s_.2.2.2.1 ≠ gb350) ∧ (gb354 ≠ s_.2.2.2.1) ∧ (s_.2.2.2.1 ≠ gb354) ∧ (gb360 ≠ s_.2.2.2.1) ∧ (s_.2.2.2.1 ≠ gb360) ∧ (gb365 ≠ s_.2.2.2.1) ∧ (s_.2.2.2.1 ≠ gb365) ∧ (Below w.heap.size w w')) ?_ ?_
             rotate_left
             ·intro hCont
              refine two_ (i := 1) (j := 8) (Ni := some 96) (Nj := some 15) (mb 3 8) (mr [1,1,1,5,1,2]) rfl rfl rfl rfl (two_of HT_.out (by kernel_rfl)) (by decide) (by decide) (fun K hK => ?_) (fun K hK => ?_)
              ·skip
               refine goes_ Try.func26 (by kernel_rfl) rfl #[.agg #[.slice A0_0 l0_0.length c0_0]] (by rfl) rfl rfl mA ?_
               with_reducible refine (laws_toGraph.calls kj110 _ _ l0_0 t385 _ ?side1 ?side2 A166.out).mono ?_
               (case side1 => exact mC (Kd.C_below HR0_0.out HB.out))
               (case side2 => exact HC0_0.out)
               rintro e w180 ⟨v386, rfl, ho0, hb⟩
               refine ⟨_, rfl, ?_⟩
               obtain ⟨z181, hz181⟩ := MWords.mp_size hb
               have HO387 := mS (Kd.S_lower (Kd.S_newB (Kd.S_new' (Kd.S_new' (Kd.S_new' (Kd.S_new' (MWords.mp_geS ho0 hz181) (Kd.S_lt (mSd HO_351000.out))) (Kd.S_lt (mSd HO_355000.out))) (Kd.R_lt (mR HO_361002.out))) (Kd.S_lt (mSd HO_366000.out))) (g := gb360) (o := .cells #[.int .i64 t355, .int .i64 t356, .slice Ao64 t380.length co64] 59 (0, 0)) (mK BK360.out)) (below_size (mH6 HB.out GE334.out GE335.out GE350.out GE354.out GE360.out GE365.out)))
               replace HO_351000 := mS (MWords.mp_ltS (Kd.S_told (Kd.S_old (mSd HO_351000.out) hb) (Kd.S_base ho0)) hz181)
               replace HO_355000 := mS (MWords.mp_ltS (Kd.S_told (Kd.S_old (mSd HO_355000.out) hb) (Kd.S_base ho0)) hz181)
               replace HO_361002 := mS (Kd.R_below (mR HO_361002.out) hb)
               replace HO_366000 := mS (MWords.mp_ltS (Kd.S_told (Kd.S_old (mSd HO_366000.out) hb) (Kd.S_base ho0)) hz181)
               replace BK334 := mB BK334 hb
               replace BK335 := mB BK335 hb
               replace BK350 := mB BK350 hb
               replace BK354 := mB BK354 hb
               replace BK360 := mB BK360 hb
               replace BK365 := mB BK365 hb
               replace HB := mS (below_step (mH6 HB.out GE334.out GE335.out GE350.out GE354.out GE360.out GE365.out) hb)
               (try clear hb)
               (try clear hb2)
               (try clear hk)
               (try clear hi)
               (try clear ho0)
               refine hK.out _ _ ⟨mZ BK334.out 0, mc3 BK335.out⟩ (fun hHeld => ?_)
               clear hK K
               refine mno 96 ?_
               refine two_ (i := 3) (j := 8) (Ni := some 98) (Nj := some 15) (mb 4 7) (mr [3,5,1,2]) rfl rfl rfl rfl (two_of HT_.out (by kernel_rfl)) (by decide) (by decide) (fun K hK => ?_) (fun K hK => ?_)
               ·skip
                refine goes_ Try.func27 (by kernel_rfl) rfl #[.agg #[.int .i64 a1_0, .int .i64 a1_1, .slice A1_2 l1_2.length c1_2]] (by rfl) rfl rfl mA ?_
                with_reducible refine (laws_toItem.calls kj110 a1_0 a1_1 _ _ l1_2 t388 t389 t390 _ ?side1 ?side2 A167.out).mono ?_
                (case side1 => exact mC (Kd.C_below HR1_2.out HB.out))
                (case side2 => exact HC1_2.out)
                rintro e w182 ⟨v391, rfl, ho0, hb⟩
                refine ⟨_, rfl, ?_⟩
                replace HO_351000 := mS (Kd.S_elder' (mSd HO_351000.out) (Kd.R_base ho0) hb)
                replace HO_355000 := mS (Kd.S_elder' (mSd HO_355000.out) (Kd.R_base ho0) hb)
                replace HO_366000 := mS (Kd.S_elder' (mSd HO_366000.out) (Kd.R_base ho0) hb)
                replace HO387 := mS (Kd.S_elder' (mSd HO387.out) (Kd.R_base ho0) hb)
                have HO392 := mS (Kd.R_lower (Kd.R_new' ho0 (Kd.R_lt (mR HO_361002.out))) (below_size (mH6 HB.out GE334.out GE335.out GE350.out GE354.out GE360.out GE365.out)))
                replace HO_361002 := mS (Kd.R_elder' (mR HO_361002.out) (Kd.R_base ho0) hb)
                replace BK334 := mB BK334 hb
                replace BK335 := mB BK335 hb
                replace BK350 := mB BK350 hb
                replace BK354 := mB BK354 hb
                replace BK360 := mB BK360 hb
                replace BK365 := mB BK365 hb
                replace HB := mS (below_step (mH6 HB.out GE334.out GE335.out GE350.out GE354.out GE360.out GE365.out) hb)
                (try clear hb)
                (try clear hb2)
                (try clear hk)
                (try clear hi)
                (try clear ho0)
                obtain ⟨Ao183, co183, eo183⟩ := Kd.S_slice HO387.out
                (first | subst eo183 | (injection eo183 with f1_ f2_ f3_; have f4_ := f1_.symm; have f5_ := f3_.symm; clear f1_ f2_ f3_; subst f4_; subst f5_))
                obtain ⟨Ao184, co184, eo184⟩ := Kd.R_slice HO392.out
                (first | subst eo184 | (injection eo184 with f1_ f2_ f3_; have f4_ := f1_.symm; have f5_ := f3_.symm; clear f1_ f2_ f3_; subst f4_; subst f5_))
                refine hK.out _ _ ⟨mZ BK334.out 0, mc3 BK335.out⟩ (fun hHeld => ?_)
                clear hK K
                refine mno 98 ?_
                refine two_ (i := 4) (j := 8) (Ni := some 99) (Nj := some 15) (mb 5 6) (mr [4,4,1,2]) rfl rfl rfl rfl (two_of HT_.out (by kernel_rfl)) (by decide) (by decide) (fun K hK => ?_) (fun K hK => ?_)
                ·skip
                 refine goes_ Try.func28 (by kernel_rfl) rfl #[.agg #[.slice Ao183 t385.length co183], .agg #[.int .i64 t388, .int .i64 t389, .slice Ao184 t390.length co184]] (by rfl) rfl rfl mA ?_
                 with_reducible refine (impl_GraphPut.calls kj110 _ _ t385 t388 t389 _ _ t390 t393 t396 _ ?side1 ?side2 ?side3 ?side4 A168.out).mono ?_
                 (case side1 => exact mC (Kd.S_reads' HO387.out).2.2)
                 (case side2 => exact (Kd.S_reads' HO387.out).2.1)
                 (case side3 => exact mC (Kd.R_reads' HO392.out).2.2)
                 (case side4 => exact (Kd.R_reads' HO392.out).2.1)
                 rintro e w185 ⟨v394, rfl, ho0, hb⟩
                 refine ⟨_, rfl, ?_⟩
                 obtain ⟨z186, hz186⟩ := MWords.mp_size hb
                 have HO395 := mS (Kd.S_lower (Kd.S_newB (Kd.S_new' (Kd.S_new' (Kd.S_new' (Kd.S_new' (Kd.S_new' (Kd.S_new' (MWords.mp_geS ho0 hz186) (Kd.S_lt (mSd HO_351000.out))) (Kd.S_lt (mSd HO_355000.out))) (Kd.R_lt (mR HO_361002.out))) (Kd.S_lt (mSd HO_366000.out))) (Kd.S_lt (mSd HO387.out))) (Kd.R_lt (mR HO392.out))) (g := gb360) (o := .cells #[.int .i64 t355, .int .i64 t356, .slice Ao64 t380.length co64] 59 (0, 0)) (mK BK360.out)) (below_size (mH6 HB.out GE334.out GE335.out GE350.out GE354.out GE360.out GE365.out)))
                 replace HO_351000 := mS (MWords.mp_ltS (Kd.S_told (Kd.S_old (mSd HO_351000.out) hb) (Kd.S_base ho0)) hz186)
                 replace HO_355000 := mS (MWords.mp_ltS (Kd.S_told (Kd.S_old (mSd HO_355000.out) hb) (Kd.S_base ho0)) hz186)
                 replace HO_361002 := mS (Kd.R_below (mR HO_361002.out) hb)
                 replace HO_366000 := mS (MWords.mp_ltS (Kd.S_told (Kd.S_old (mSd HO_366000.out) hb) (Kd.S_base ho0)) hz186)
                 replace HO387 := mS (MWords.mp_ltS (Kd.S_told (Kd.S_old (mSd HO387.out) hb) (Kd.S_base ho0)) hz186)
                 replace HO392 := mS (Kd.R_below (mR HO392.out) hb)
                 replace BK334 := mB BK334 hb
                 replace BK335 := mB BK335 hb
                 replace BK350 := mB BK350 hb
                 replace BK354 := mB BK354 hb
                 replace BK360 := mB BK360 hb
                 replace BK365 := mB BK365 hb
                 replace HB := mS (below_step (mH6 HB.out GE334.out GE335.out GE350.out GE354.out GE360.out GE365.out) hb)
                 (try clear hb)
                 (try clear hb2)
                 (try clear hk)
                 (try clear hi)
                 (try clear ho0)
                 refine hK.out _ _ ⟨mZ BK334.out 0, mc3 BK335.out⟩ (fun hHeld => ?_)
                 clear hK K
                 refine mno 99 ?_
                 refine mpu 5 94 HT_.out (mb 6 5) ?_
                 refine mpu 6 100 HT_.out (mb 7 4) ?_
                 refine mpu 7 101 HT_.out (mb 8 3) ?_
                 refine mone 8 (some 15) HT_.out (mb 9 2) (fun K hK => ?_)
                 refine box_step ?hg (N := 15) ?hd (cs := #[.slice none 0 0]) (t := 52) ?hr ?_; (case hd => rfl); (case hg => rfl); (case hr => first | (go_simp; done) | (go_simp; rfl))
                 intro gb397 hg w187 hbox hb
                 replace HO_351000 := mS (Kd.S_below (mSd HO_351000.out) hb)
                 replace HO_355000 := mS (Kd.S_below (mSd HO_355000.out) hb)
                 replace HO_361002 := mS (Kd.R_below (mR HO_361002.out) hb)
                 replace HO_366000 := mS (Kd.S_below (mSd HO_366000.out) hb)
                 replace HO387 := mS (Kd.S_below (mSd HO387.out) hb)
                 replace HO392 := mS (Kd.R_below (mR HO392.out) hb)
                 replace HO395 := mS (Kd.S_below (mSd HO395.out) hb)
                 have BK397 := mS (hbox)
                 have GW397 := mG hg (mH6 HB.out GE334.out GE335.out GE350.out GE354.out GE360.out GE365.out)
                 have GE397 := mG hg (mH6 HB.out GE334.out GE335.out GE350.out GE354.out GE360.out GE365.out)
                 replace HB := mS (below_step (mH6 HB.out GE334.out GE335.out GE350.out GE354.out GE360.out GE365.out) hb)
                 have NB334_397 := mNl hg BK334.out
                 have NB397_334 := mNg hg BK334.out
                 replace BK334 := mB BK334 hb
                 have NB335_397 := mNl hg BK335.out
                 have NB397_335 := mNg hg BK335.out
                 replace BK335 := mB BK335 hb
                 have NB350_397 := mNl hg BK350.out
                 have NB397_350 := mNg hg BK350.out
                 replace BK350 := mB BK350 hb
                 have NB354_397 := mNl hg BK354.out
                 have NB397_354 := mNg hg BK354.out
                 replace BK354 := mB BK354 hb
                 have NB360_397 := mNl hg BK360.out
                 have NB397_360 := mNg hg BK360.out
                 replace BK360 := mB BK360 hb
                 have NB365_397 := mNl hg BK365.out
                 have NB397_365 := mNg hg BK365.out
                 replace BK365 := mB BK365 hb
                 clear hb hbox hg
                 refine hK.out _ _ ⟨mZ BK334.out 0, mc3 BK335.out⟩ (fun hHeld => ?_)
                 clear hK K
                 refine mno 15 ?_
                 exact norm_ mU (hCont (.slice Ao183 t385.length co183, .slice Ao184 t390.length co184, v394, gb397, z181, z186) _ ⟨hHeld, (by refine mSd ?_; exact Kd.S_mono HO387.out (fun _ hk => ⟨hk.1.1.2, ⟨hk.1.2, ⟨hk.1.1.1.1.1.1.1.2, ⟨hk.1.1.1.1.1.1.2, ⟨hk.1.1.1.1.1.2, ⟨hk.1.1.1.1.2, ⟨hk.1.1.1.2, ⟨hk.1.1.1.1.1.1.1.1.2, hk.2⟩⟩⟩⟩⟩⟩⟩⟩)), (by refine mR ?_; exact Kd.R_mono HO392.out (fun _ hk => hk.2)), (by refine mSd ?_; exact Kd.S_mono HO395.out (fun _ hk => ⟨hk.1.1.2, ⟨hk.1.2, ⟨hk.1.1.1.1.1.1.2, ⟨hk.1.1.1.1.1.2, ⟨hk.1.1.1.1.2, ⟨hk.1.1.1.2, ⟨hk.2, hk.1.1.1.1.1.1.1.2⟩⟩⟩⟩⟩⟩⟩)), (by refine mSd ?_; exact Kd.S_mono HO_351000.out (fun _ hk => ⟨hk.1.1.1.1.2, ⟨hk.1.1.2, ⟨hk.1.2, ⟨hk.1.1.1.1.1.1, ⟨hk.1.1.1.1.1.2.1, ⟨hk.1.1.1.1.1.2.2.1, ⟨hk.1.1.1.1.1.2.2.2.1, ⟨hk.1.1.1.1.1.2.2.2.2.1, ⟨hk.1.1.1.1.1.2.2.2.2.2.1, ⟨hk.1.1.1.1.1.2.2.2.2.2.2.1, ⟨hk.1.1.1.1.1.2.2.2.2.2.2.2, ⟨hk.1.1.1.2, hk.2⟩⟩⟩⟩⟩⟩⟩⟩⟩⟩⟩⟩)), (by refine mSd ?_; exact Kd.S_mono HO_355000.out (fun _ hk => ⟨hk.1.1.1.1.2, ⟨hk.1.1.2, ⟨hk.1.2, ⟨hk.1.1.1.1.1.1, ⟨hk.1.1.1.1.1.2.1, ⟨hk.1.1.1.1.1.2.2.1, ⟨hk.1.1.1.1.1.2.2.2.1, ⟨hk.1.1.1.1.1.2.2.2.2.1, ⟨hk.1.1.1.1.1.2.2.2.2.2.1, ⟨hk.1.1.1.1.1.2.2.2.2.2.2, ⟨hk.1.1.1.2, hk.2⟩⟩⟩⟩⟩⟩⟩⟩⟩⟩⟩)), (by refine mR ?_; exact Kd.R_mono HO_361002.out (fun _ hk => hk.2)), (by refine mSd ?_; exact Kd.S_mono HO_366000.out (fun _ hk => ⟨hk.1.1.1.1.2, ⟨hk.1.1.2, ⟨hk.1.2, ⟨hk.1.1.1.1.1.1, ⟨hk.1.1.1.1.1.2.1, ⟨hk.1.1.1.1.1.2.2.1, ⟨hk.1.1.1.1.1.2.2.2.1, ⟨hk.1.1.1.1.1.2.2.2.2.1, ⟨hk.1.1.1.1.1.2.2.2.2.2, ⟨hk.1.1.1.2, hk.2⟩⟩⟩⟩⟩⟩⟩⟩⟩⟩)), (mK BK334.out), (mK BK335.out), (mK BK350.out), (mK BK354.out), (mK BK360.out), (mK BK365.out), (mK BK397.out), GW397.out, GE397.out, NB334_397.out, NB397_334.out, NB335_397.out, NB397_335.out, NB350_397.out, NB397_350.out, NB354_397.out, NB397_354.out, NB360_397.out, NB397_360.out, NB365_397.out, NB397_365.out, (mH7 HB.out GE334.out GE335.out GE350.out GE354.out GE360.out GE365.out GE397.out)⟩)
                ·skip
                 refine box_step ?hg (N := 15) ?hd (cs := #[.slice none 0 0]) (t := 52) ?hr ?_; (case hd => rfl); (case hg => rfl); (case hr => first | (go_simp; done) | (go_simp; rfl))
                 intro gb397 hg w183 hbox hb
                 replace HO_351000 := mS (Kd.S_below (mSd HO_351000.out) hb)
                 replace HO_355000 := mS (Kd.S_below (mSd HO_355000.out) hb)
                 replace HO_361002 := mS (Kd.R_below (mR HO_361002.out) hb)
                 replace HO_366000 := mS (Kd.S_below (mSd HO_366000.out) hb)
                 replace HO387 := mS (Kd.S_below (mSd HO387.out) hb)
                 replace HO392 := mS (Kd.R_below (mR HO392.out) hb)
                 have BK397 := mS (hbox)
                 have GW397 := mG hg (mH6 HB.out GE334.out GE335.out GE350.out GE354.out GE360.out GE365.out)
                 have GE397 := mG hg (mH6 HB.out GE334.out GE335.out GE350.out GE354.out GE360.out GE365.out)
                 replace HB := mS (below_step (mH6 HB.out GE334.out GE335.out GE350.out GE354.out GE360.out GE365.out) hb)
                 have NB334_397 := mNl hg BK334.out
                 have NB397_334 := mNg hg BK334.out
                 replace BK334 := mB BK334 hb
                 have NB335_397 := mNl hg BK335.out
                 have NB397_335 := mNg hg BK335.out
                 replace BK335 := mB BK335 hb
                 have NB350_397 := mNl hg BK350.out
                 have NB397_350 := mNg hg BK350.out
                 replace BK350 := mB BK350 hb
                 have NB354_397 := mNl hg BK354.out
                 have NB397_354 := mNg hg BK354.out
                 replace BK354 := mB BK354 hb
                 have NB360_397 := mNl hg BK360.out
                 have NB397_360 := mNg hg BK360.out
                 replace BK360 := mB BK360 hb
                 have NB365_397 := mNl hg BK365.out
                 have NB397_365 := mNg hg BK365.out
                 replace BK365 := mB BK365 hb
                 clear hb hbox hg
                 obtain ⟨Ao184, co184, eo184⟩ := Kd.S_slice HO387.out
                 (first | subst eo184 | (injection eo184 with f1_ f2_ f3_; have f4_ := f1_.symm; have f5_ := f3_.symm; clear f1_ f2_ f3_; subst f4_; subst f5_))
                 obtain ⟨Ao185, co185, eo185⟩ := Kd.R_slice HO392.out
                 (first | subst eo185 | (injection eo185 with f1_ f2_ f3_; have f4_ := f1_.symm; have f5_ := f3_.symm; clear f1_ f2_ f3_; subst f4_; subst f5_))
                 refine hK.out _ _ ⟨mZ BK334.out 0, mc3 BK335.out⟩ (fun hHeld => ?_)
                 clear hK K
                 refine mno 15 ?_
                 refine mone 4 (some 99) HT_.out (mr [5,3,1,2]) (fun K hK => ?_)
                 refine goes_ Try.func28 (by kernel_rfl) rfl #[.agg #[.slice Ao184 t385.length co184], .agg #[.int .i64 t388, .int .i64 t389, .slice Ao185 t390.length co185]] (by rfl) rfl rfl mA ?_
                 with_reducible refine (impl_GraphPut.calls kj110 _ _ t385 t388 t389 _ _ t390 t393 t396 _ ?side1 ?side2 ?side3 ?side4 A168.out).mono ?_
                 (case side1 => exact mC (Kd.S_reads' HO387.out).2.2)
                 (case side2 => exact (Kd.S_reads' HO387.out).2.1)
                 (case side3 => exact mC (Kd.R_reads' HO392.out).2.2)
                 (case side4 => exact (Kd.R_reads' HO392.out).2.1)
                 rintro e w186 ⟨v394, rfl, ho0, hb⟩
                 refine ⟨_, rfl, ?_⟩
                 obtain ⟨z187, hz187⟩ := MWords.mp_size hb
                 have HO395 := mS (Kd.S_lower (Kd.S_newB (Kd.S_new' (Kd.S_new' (Kd.S_new' (Kd.S_new' (Kd.S_new' (Kd.S_new' (MWords.mp_geS ho0 hz187) (Kd.S_lt (mSd HO_351000.out))) (Kd.S_lt (mSd HO_355000.out))) (Kd.R_lt (mR HO_361002.out))) (Kd.S_lt (mSd HO_366000.out))) (Kd.S_lt (mSd HO387.out))) (Kd.R_lt (mR HO392.out))) (g := gb360) (o := .cells #[.int .i64 t355, .int .i64 t356, .slice Ao64 t380.length co64] 59 (0, 0)) (mK BK360.out)) (below_size (mH7 HB.out GE334.out GE335.out GE350.out GE354.out GE360.out GE365.out GE397.out)))
                 replace HO_351000 := mS (MWords.mp_ltS (Kd.S_told (Kd.S_old (mSd HO_351000.out) hb) (Kd.S_base ho0)) hz187)
                 replace HO_355000 := mS (MWords.mp_ltS (Kd.S_told (Kd.S_old (mSd HO_355000.out) hb) (Kd.S_base ho0)) hz187)
                 replace HO_361002 := mS (Kd.R_below (mR HO_361002.out) hb)
                 replace HO_366000 := mS (MWords.mp_ltS (Kd.S_told (Kd.S_old (mSd HO_366000.out) hb) (Kd.S_base ho0)) hz187)
                 replace HO387 := mS (MWords.mp_ltS (Kd.S_told (Kd.S_old (mSd HO387.out) hb) (Kd.S_base ho0)) hz187)
                 replace HO392 := mS (Kd.R_below (mR HO392.out) hb)
                 replace BK334 := mB BK334 hb
                 replace BK335 := mB BK335 hb
                 replace BK350 := mB BK350 hb
                 replace BK354 := mB BK354 hb
                 replace BK360 := mB BK360 hb
                 replace BK365 := mB BK365 hb
                 replace BK397 := mB BK397 hb
                 replace HB := mS (below_step (mH7 HB.out GE334.out GE335.out GE350.out GE354.out GE360.out GE365.out GE397.out) hb)
                 (try clear hb)
                 (try clear hb2)
                 (try clear hk)
                 (try clear hi)
                 (try clear ho0)
                 refine hK.out _ _ ⟨mZ BK334.out 0, mc3 BK335.out⟩ (fun hHeld => ?_)
                 clear hK K
                 refine mno 99 ?_
                 refine mpu 5 94 HT_.out (mr [6,2,1,2]) ?_
                 refine mpu 6 100 HT_.out (mr [7,1,1,2]) ?_
                 refine mpu 7 101 HT_.out (mb 9 2) ?_
                 exact norm_ mU (hCont (.slice Ao184 t385.length co184, .slice Ao185 t390.length co185, v394, gb397, z181, z187) _ ⟨hHeld, (by refine mSd ?_; exact Kd.S_mono HO387.out (fun _ hk => ⟨hk.1.1.2, ⟨hk.1.2, ⟨hk.1.1.1.1.1.1.1.2, ⟨hk.1.1.1.1.1.1.2, ⟨hk.1.1.1.1.1.2, ⟨hk.1.1.1.1.2, ⟨hk.1.1.1.2, ⟨hk.1.1.1.1.1.1.1.1.2, hk.2⟩⟩⟩⟩⟩⟩⟩⟩)), (by refine mR ?_; exact Kd.R_mono HO392.out (fun _ hk => hk.2)), (by refine mSd ?_; exact Kd.S_mono HO395.out (fun _ hk => ⟨hk.1.1.2, ⟨hk.1.2, ⟨hk.1.1.1.1.1.1.2, ⟨hk.1.1.1.1.1.2, ⟨hk.1.1.1.1.2, ⟨hk.1.1.1.2, ⟨hk.2, hk.1.1.1.1.1.1.1.2⟩⟩⟩⟩⟩⟩⟩)), (by refine mSd ?_; exact Kd.S_mono HO_351000.out (fun _ hk => ⟨hk.1.1.1.1.2, ⟨hk.1.1.2, ⟨hk.1.2, ⟨hk.1.1.1.1.1.1, ⟨hk.1.1.1.1.1.2.1, ⟨hk.1.1.1.1.1.2.2.1, ⟨hk.1.1.1.1.1.2.2.2.1, ⟨hk.1.1.1.1.1.2.2.2.2.1, ⟨hk.1.1.1.1.1.2.2.2.2.2.1, ⟨hk.1.1.1.1.1.2.2.2.2.2.2.1, ⟨hk.1.1.1.1.1.2.2.2.2.2.2.2, ⟨hk.1.1.1.2, hk.2⟩⟩⟩⟩⟩⟩⟩⟩⟩⟩⟩⟩)), (by refine mSd ?_; exact Kd.S_mono HO_355000.out (fun _ hk => ⟨hk.1.1.1.1.2, ⟨hk.1.1.2, ⟨hk.1.2, ⟨hk.1.1.1.1.1.1, ⟨hk.1.1.1.1.1.2.1, ⟨hk.1.1.1.1.1.2.2.1, ⟨hk.1.1.1.1.1.2.2.2.1, ⟨hk.1.1.1.1.1.2.2.2.2.1, ⟨hk.1.1.1.1.1.2.2.2.2.2.1, ⟨hk.1.1.1.1.1.2.2.2.2.2.2, ⟨hk.1.1.1.2, hk.2⟩⟩⟩⟩⟩⟩⟩⟩⟩⟩⟩)), (by refine mR ?_; exact Kd.R_mono HO_361002.out (fun _ hk => hk.2)), (by refine mSd ?_; exact Kd.S_mono HO_366000.out (fun _ hk => ⟨hk.1.1.1.1.2, ⟨hk.1.1.2, ⟨hk.1.2, ⟨hk.1.1.1.1.1.1, ⟨hk.1.1.1.1.1.2.1, ⟨hk.1.1.1.1.1.2.2.1, ⟨hk.1.1.1.1.1.2.2.2.1, ⟨hk.1.1.1.1.1.2.2.2.2.1, ⟨hk.1.1.1.1.1.2.2.2.2.2, ⟨hk.1.1.1.2, hk.2⟩⟩⟩⟩⟩⟩⟩⟩⟩⟩)), (mK BK334.out), (mK BK335.out), (mK BK350.out), (mK BK354.out), (mK BK360.out), (mK BK365.out), (mK BK397.out), GW397.out, GE397.out, NB334_397.out, NB397_334.out, NB335_397.out, NB397_335.out, NB350_397.out, NB397_350.out, NB354_397.out, NB397_354.out, NB360_397.out, NB397_360.out, NB365_397.out, NB397_365.out, (mH7 HB.out GE334.out GE335.out GE350.out GE354.out GE360.out GE365.out GE397.out)⟩)
               ·skip
                refine box_step ?hg (N := 15) ?hd (cs := #[.slice none 0 0]) (t := 52) ?hr ?_; (case hd => rfl); (case hg => rfl); (case hr => first | (go_simp; done) | (go_simp; rfl))
                intro gb397 hg w182 hbox hb
                replace HO_351000 := mS (Kd.S_below (mSd HO_351000.out) hb)
                replace HO_355000 := mS (Kd.S_below (mSd HO_355000.out) hb)
                replace HO_361002 := mS (Kd.R_below (mR HO_361002.out) hb)
                replace HO_366000 := mS (Kd.S_below (mSd HO_366000.out) hb)
                replace HO387 := mS (Kd.S_below (mSd HO387.out) hb)
                have BK397 := mS (hbox)
                have GW397 := mG hg (mH6 HB.out GE334.out GE335.out GE350.out GE354.out GE360.out GE365.out)
                have GE397 := mG hg (mH6 HB.out GE334.out GE335.out GE350.out GE354.out GE360.out GE365.out)
                replace HB := mS (below_step (mH6 HB.out GE334.out GE335.out GE350.out GE354.out GE360.out GE365.out) hb)
                have NB334_397 := mNl hg BK334.out
                have NB397_334 := mNg hg BK334.out
                replace BK334 := mB BK334 hb
                have NB335_397 := mNl hg BK335.out
                have NB397_335 := mNg hg BK335.out
                replace BK335 := mB BK335 hb
                have NB350_397 := mNl hg BK350.out
                have NB397_350 := mNg hg BK350.out
                replace BK350 := mB BK350 hb
                have NB354_397 := mNl hg BK354.out
                have NB397_354 := mNg hg BK354.out
                replace BK354 := mB BK354 hb
                have NB360_397 := mNl hg BK360.out
                have NB397_360 := mNg hg BK360.out
                replace BK360 := mB BK360 hb
                have NB365_397 := mNl hg BK365.out
                have NB397_365 := mNg hg BK365.out
                replace BK365 := mB BK365 hb
                clear hb hbox hg
                refine hK.out _ _ ⟨mZ BK334.out 0, mc3 BK335.out⟩ (fun hHeld => ?_)
                clear hK K
                refine mno 15 ?_
                refine mone 3 (some 98) HT_.out (mr [4,4,1,2]) (fun K hK => ?_)
                refine goes_ Try.func27 (by kernel_rfl) rfl #[.agg #[.int .i64 a1_0, .int .i64 a1_1, .slice A1_2 l1_2.length c1_2]] (by rfl) rfl rfl mA ?_
                with_reducible refine (laws_toItem.calls kj110 a1_0 a1_1 _ _ l1_2 t388 t389 t390 _ ?side1 ?side2 A167.out).mono ?_
                (case side1 => exact mC (Kd.C_below HR1_2.out HB.out))
                (case side2 => exact HC1_2.out)
                rintro e w183 ⟨v391, rfl, ho0, hb⟩
                refine ⟨_, rfl, ?_⟩
                replace HO_351000 := mS (Kd.S_elder' (mSd HO_351000.out) (Kd.R_base ho0) hb)
                replace HO_355000 := mS (Kd.S_elder' (mSd HO_355000.out) (Kd.R_base ho0) hb)
                replace HO_366000 := mS (Kd.S_elder' (mSd HO_366000.out) (Kd.R_base ho0) hb)
                replace HO387 := mS (Kd.S_elder' (mSd HO387.out) (Kd.R_base ho0) hb)
                have HO392 := mS (Kd.R_lower (Kd.R_new' ho0 (Kd.R_lt (mR HO_361002.out))) (below_size (mH7 HB.out GE334.out GE335.out GE350.out GE354.out GE360.out GE365.out GE397.out)))
                replace HO_361002 := mS (Kd.R_elder' (mR HO_361002.out) (Kd.R_base ho0) hb)
                replace BK334 := mB BK334 hb
                replace BK335 := mB BK335 hb
                replace BK350 := mB BK350 hb
                replace BK354 := mB BK354 hb
                replace BK360 := mB BK360 hb
                replace BK365 := mB BK365 hb
                replace BK397 := mB BK397 hb
                replace HB := mS (below_step (mH7 HB.out GE334.out GE335.out GE350.out GE354.out GE360.out GE365.out GE397.out) hb)
                (try clear hb)
                (try clear hb2)
                (try clear hk)
                (try clear hi)
                (try clear ho0)
                obtain ⟨Ao184, co184, eo184⟩ := Kd.S_slice HO387.out
                (first | subst eo184 | (injection eo184 with f1_ f2_ f3_; have f4_ := f1_.symm; have f5_ := f3_.symm; clear f1_ f2_ f3_; subst f4_; subst f5_))
                obtain ⟨Ao185, co185, eo185⟩ := Kd.R_slice HO392.out
                (first | subst eo185 | (injection eo185 with f1_ f2_ f3_; have f4_ := f1_.symm; have f5_ := f3_.symm; clear f1_ f2_ f3_; subst f4_; subst f5_))
                refine hK.out _ _ ⟨mZ BK334.out 0, mc3 BK335.out⟩ (fun hHeld => ?_)
                clear hK K
                refine mno 98 ?_
                refine mone 4 (some 99) HT_.out (mr [5,3,1,2]) (fun K hK => ?_)
                refine goes_ Try.func28 (by kernel_rfl) rfl #[.agg #[.slice Ao184 t385.length co184], .agg #[.int .i64 t388, .int .i64 t389, .slice Ao185 t390.length co185]] (by rfl) rfl rfl mA ?_
                with_reducible refine (impl_GraphPut.calls kj110 _ _ t385 t388 t389 _ _ t390 t393 t396 _ ?side1 ?side2 ?side3 ?side4 A168.out).mono ?_
                (case side1 => exact mC (Kd.S_reads' HO387.out).2.2)
                (case side2 => exact (Kd.S_reads' HO387.out).2.1)
                (case side3 => exact mC (Kd.R_reads' HO392.out).2.2)
                (case side4 => exact (Kd.R_reads' HO392.out).2.1)
                rintro e w186 ⟨v394, rfl, ho0, hb⟩
                refine ⟨_, rfl, ?_⟩
                obtain ⟨z187, hz187⟩ := MWords.mp_size hb
                have HO395 := mS (Kd.S_lower (Kd.S_newB (Kd.S_new' (Kd.S_new' (Kd.S_new' (Kd.S_new' (Kd.S_new' (Kd.S_new' (MWords.mp_geS ho0 hz187) (Kd.S_lt (mSd HO_351000.out))) (Kd.S_lt (mSd HO_355000.out))) (Kd.R_lt (mR HO_361002.out))) (Kd.S_lt (mSd HO_366000.out))) (Kd.S_lt (mSd HO387.out))) (Kd.R_lt (mR HO392.out))) (g := gb360) (o := .cells #[.int .i64 t355, .int .i64 t356, .slice Ao64 t380.length co64] 59 (0, 0)) (mK BK360.out)) (below_size (mH7 HB.out GE334.out GE335.out GE350.out GE354.out GE360.out GE365.out GE397.out)))
                replace HO_351000 := mS (MWords.mp_ltS (Kd.S_told (Kd.S_old (mSd HO_351000.out) hb) (Kd.S_base ho0)) hz187)
                replace HO_355000 := mS (MWords.mp_ltS (Kd.S_told (Kd.S_old (mSd HO_355000.out) hb) (Kd.S_base ho0)) hz187)
                replace HO_361002 := mS (Kd.R_below (mR HO_361002.out) hb)
                replace HO_366000 := mS (MWords.mp_ltS (Kd.S_told (Kd.S_old (mSd HO_366000.out) hb) (Kd.S_base ho0)) hz187)
                replace HO387 := mS (MWords.mp_ltS (Kd.S_told (Kd.S_old (mSd HO387.out) hb) (Kd.S_base ho0)) hz187)
                replace HO392 := mS (Kd.R_below (mR HO392.out) hb)
                replace BK334 := mB BK334 hb
                replace BK335 := mB BK335 hb
                replace BK350 := mB BK350 hb
                replace BK354 := mB BK354 hb
                replace BK360 := mB BK360 hb
                replace BK365 := mB BK365 hb
                replace BK397 := mB BK397 hb
                replace HB := mS (below_step (mH7 HB.out GE334.out GE335.out GE350.out GE354.out GE360.out GE365.out GE397.out) hb)
                (try clear hb)
                (try clear hb2)
                (try clear hk)
                (try clear hi)
                (try clear ho0)
                refine hK.out _ _ ⟨mZ BK334.out 0, mc3 BK335.out⟩ (fun hHeld => ?_)
                clear hK K
                refine mno 99 ?_
                refine mpu 5 94 HT_.out (mr [6,2,1,2]) ?_
                refine mpu 6 100 HT_.out (mr [7,1,1,2]) ?_
                refine mpu 7 101 HT_.out (mb 9 2) ?_
                exact norm_ mU (hCont (.slice Ao184 t385.length co184, .slice Ao185 t390.length co185, v394, gb397, z181, z187) _ ⟨hHeld, (by refine mSd ?_; exact Kd.S_mono HO387.out (fun _ hk => ⟨hk.1.1.2, ⟨hk.1.2, ⟨hk.1.1.1.1.1.1.1.2, ⟨hk.1.1.1.1.1.1.2, ⟨hk.1.1.1.1.1.2, ⟨hk.1.1.1.1.2, ⟨hk.1.1.1.2, ⟨hk.1.1.1.1.1.1.1.1.2, hk.2⟩⟩⟩⟩⟩⟩⟩⟩)), (by refine mR ?_; exact Kd.R_mono HO392.out (fun _ hk => hk.2)), (by refine mSd ?_; exact Kd.S_mono HO395.out (fun _ hk => ⟨hk.1.1.2, ⟨hk.1.2, ⟨hk.1.1.1.1.1.1.2, ⟨hk.1.1.1.1.1.2, ⟨hk.1.1.1.1.2, ⟨hk.1.1.1.2, ⟨hk.2, hk.1.1.1.1.1.1.1.2⟩⟩⟩⟩⟩⟩⟩)), (by refine mSd ?_; exact Kd.S_mono HO_351000.out (fun _ hk => ⟨hk.1.1.1.1.2, ⟨hk.1.1.2, ⟨hk.1.2, ⟨hk.1.1.1.1.1.1, ⟨hk.1.1.1.1.1.2.1, ⟨hk.1.1.1.1.1.2.2.1, ⟨hk.1.1.1.1.1.2.2.2.1, ⟨hk.1.1.1.1.1.2.2.2.2.1, ⟨hk.1.1.1.1.1.2.2.2.2.2.1, ⟨hk.1.1.1.1.1.2.2.2.2.2.2.1, ⟨hk.1.1.1.1.1.2.2.2.2.2.2.2, ⟨hk.1.1.1.2, hk.2⟩⟩⟩⟩⟩⟩⟩⟩⟩⟩⟩⟩)), (by refine mSd ?_; exact Kd.S_mono HO_355000.out (fun _ hk => ⟨hk.1.1.1.1.2, ⟨hk.1.1.2, ⟨hk.1.2, ⟨hk.1.1.1.1.1.1, ⟨hk.1.1.1.1.1.2.1, ⟨hk.1.1.1.1.1.2.2.1, ⟨hk.1.1.1.1.1.2.2.2.1, ⟨hk.1.1.1.1.1.2.2.2.2.1, ⟨hk.1.1.1.1.1.2.2.2.2.2.1, ⟨hk.1.1.1.1.1.2.2.2.2.2.2, ⟨hk.1.1.1.2, hk.2⟩⟩⟩⟩⟩⟩⟩⟩⟩⟩⟩)), (by refine mR ?_; exact Kd.R_mono HO_361002.out (fun _ hk => hk.2)), (by refine mSd ?_; exact Kd.S_mono HO_366000.out (fun _ hk => ⟨hk.1.1.1.1.2, ⟨hk.1.1.2, ⟨hk.1.2, ⟨hk.1.1.1.1.1.1, ⟨hk.1.1.1.1.1.2.1, ⟨hk.1.1.1.1.1.2.2.1, ⟨hk.1.1.1.1.1.2.2.2.1, ⟨hk.1.1.1.1.1.2.2.2.2.1, ⟨hk.1.1.1.1.1.2.2.2.2.2, ⟨hk.1.1.1.2, hk.2⟩⟩⟩⟩⟩⟩⟩⟩⟩⟩)), (mK BK334.out), (mK BK335.out), (mK BK350.out), (mK BK354.out), (mK BK360.out), (mK BK365.out), (mK BK397.out), GW397.out, GE397.out, NB334_397.out, NB397_334.out, NB335_397.out, NB397_335.out, NB350_397.out, NB397_350.out, NB354_397.out, NB397_354.out, NB360_397.out, NB397_360.out, NB365_397.out, NB397_365.out, (mH7 HB.out GE334.out GE335.out GE350.out GE354.out GE360.out GE365.out GE397.out)⟩)
              ·skip
               refine box_step ?hg (N := 15) ?hd (cs := #[.slice none 0 0]) (t := 52) ?hr ?_; (case hd => rfl); (case hg => rfl); (case hr => first | (go_simp; done) | (go_simp; rfl))
               intro gb397 hg w180 hbox hb
               replace HO_351000 := mS (Kd.S_below (mSd HO_351000.out) hb)
               replace HO_355000 := mS (Kd.S_below (mSd HO_355000.out) hb)
               replace HO_361002 := mS (Kd.R_below (mR HO_361002.out) hb)
               replace HO_366000 := mS (Kd.S_below (mSd HO_366000.out) hb)
               have BK397 := mS (hbox)
               have GW397 := mG hg (mH6 HB.out GE334.out GE335.out GE350.out GE354.out GE360.out GE365.out)
               have GE397 := mG hg (mH6 HB.out GE334.out GE335.out GE350.out GE354.out GE360.out GE365.out)
               replace HB := mS (below_step (mH6 HB.out GE334.out GE335.out GE350.out GE354.out GE360.out GE365.out) hb)
               have NB334_397 := mNl hg BK334.out
               have NB397_334 := mNg hg BK334.out
               replace BK334 := mB BK334 hb
               have NB335_397 := mNl hg BK335.out
               have NB397_335 := mNg hg BK335.out
               replace BK335 := mB BK335 hb
               have NB350_397 := mNl hg BK350.out
               have NB397_350 := mNg hg BK350.out
               replace BK350 := mB BK350 hb
               have NB354_397 := mNl hg BK354.out
               have NB397_354 := mNg hg BK354.out
               replace BK354 := mB BK354 hb
               have NB360_397 := mNl hg BK360.out
               have NB397_360 := mNg hg BK360.out
               replace BK360 := mB BK360 hb
               have NB365_397 := mNl hg BK365.out
               have NB397_365 := mNg hg BK365.out
               replace BK365 := mB BK365 hb
               clear hb hbox hg
               refine hK.out _ _ ⟨mZ BK334.out 0, mc3 BK335.out⟩ (fun hHeld => ?_)
               clear hK K
               refine mno 15 ?_
               refine mone 1 (some 96) HT_.out (mr [3,5,1,2]) (fun K hK => ?_)
               refine goes_ Try.func26 (by kernel_rfl) rfl #[.agg #[.slice A0_0 l0_0.length c0_0]] (by rfl) rfl rfl mA ?_
               with_reducible refine (laws_toGraph.calls kj110 _ _ l0_0 t385 _ ?side1 ?side2 A166.out).mono ?_
               (case side1 => exact mC (Kd.C_below HR0_0.out HB.out))
               (case side2 => exact HC0_0.out)
               rintro e w181 ⟨v386, rfl, ho0, hb⟩
               refine ⟨_, rfl, ?_⟩
               obtain ⟨z182, hz182⟩ := MWords.mp_size hb
               have HO387 := mS (Kd.S_lower (Kd.S_newB (Kd.S_new' (Kd.S_new' (Kd.S_new' (Kd.S_new' (MWords.mp_geS ho0 hz182) (Kd.S_lt (mSd HO_351000.out))) (Kd.S_lt (mSd HO_355000.out))) (Kd.R_lt (mR HO_361002.out))) (Kd.S_lt (mSd HO_366000.out))) (g := gb360) (o := .cells #[.int .i64 t355, .int .i64 t356, .slice Ao64 t380.length co64] 59 (0, 0)) (mK BK360.out)) (below_size (mH7 HB.out GE334.out GE335.out GE350.out GE354.out GE360.out GE365.out GE397.out)))
               replace HO_351000 := mS (MWords.mp_ltS (Kd.S_told (Kd.S_old (mSd HO_351000.out) hb) (Kd.S_base ho0)) hz182)
               replace HO_355000 := mS (MWords.mp_ltS (Kd.S_told (Kd.S_old (mSd HO_355000.out) hb) (Kd.S_base ho0)) hz182)
               replace HO_361002 := mS (Kd.R_below (mR HO_361002.out) hb)
               replace HO_366000 := mS (MWords.mp_ltS (Kd.S_told (Kd.S_old (mSd HO_366000.out) hb) (Kd.S_base ho0)) hz182)
               replace BK334 := mB BK334 hb
               replace BK335 := mB BK335 hb
               replace BK350 := mB BK350 hb
               replace BK354 := mB BK354 hb
               replace BK360 := mB BK360 hb
               replace BK365 := mB BK365 hb
               replace BK397 := mB BK397 hb
               replace HB := mS (below_step (mH7 HB.out GE334.out GE335.out GE350.out GE354.out GE360.out GE365.out GE397.out) hb)
               (try clear hb)
               (try clear hb2)
               (try clear hk)
               (try clear hi)
               (try clear ho0)
               refine hK.out _ _ ⟨mZ BK334.out 0, mc3 BK335.out⟩ (fun hHeld => ?_)
               clear hK K
               refine mno 96 ?_
               refine mone 3 (some 98) HT_.out (mr [4,4,1,2]) (fun K hK => ?_)
               refine goes_ Try.func27 (by kernel_rfl) rfl #[.agg #[.int .i64 a1_0, .int .i64 a1_1, .slice A1_2 l1_2.length c1_2]] (by rfl) rfl rfl mA ?_
               with_reducible refine (laws_toItem.calls kj110 a1_0 a1_1 _ _ l1_2 t388 t389 t390 _ ?side1 ?side2 A167.out).mono ?_
               (case side1 => exact mC (Kd.C_below HR1_2.out HB.out))
               (case side2 => exact HC1_2.out)
               rintro e w183 ⟨v391, rfl, ho0, hb⟩
               refine ⟨_, rfl, ?_⟩
               replace HO_351000 := mS (Kd.S_elder' (mSd HO_351000.out) (Kd.R_base ho0) hb)
               replace HO_355000 := mS (Kd.S_elder' (mSd HO_355000.out) (Kd.R_base ho0) hb)
               replace HO_366000 := mS (Kd.S_elder' (mSd HO_366000.out) (Kd.R_base ho0) hb)
               replace HO387 := mS (Kd.S_elder' (mSd HO387.out) (Kd.R_base ho0) hb)
               have HO392 := mS (Kd.R_lower (Kd.R_new' ho0 (Kd.R_lt (mR HO_361002.out))) (below_size (mH7 HB.out GE334.out GE335.out GE350.out GE354.out GE360.out GE365.out GE397.out)))
               replace HO_361002 := mS (Kd.R_elder' (mR HO_361002.out) (Kd.R_base ho0) hb)
               replace BK334 := mB BK334 hb
               replace BK335 := mB BK335 hb
               replace BK350 := mB BK350 hb
               replace BK354 := mB BK354 hb
               replace BK360 := mB BK360 hb
               replace BK365 := mB BK365 hb
               replace BK397 := mB BK397 hb
               replace HB := mS (below_step (mH7 HB.out GE334.out GE335.out GE350.out GE354.out GE360.out GE365.out GE397.out) hb)
               (try clear hb)
               (try clear hb2)
               (try clear hk)
               (try clear hi)
               (try clear ho0)
               obtain ⟨Ao184, co184, eo184⟩ := Kd.S_slice HO387.out
               (first | subst eo184 | (injection eo184 with f1_ f2_ f3_; have f4_ := f1_.symm; have f5_ := f3_.symm; clear f1_ f2_ f3_; subst f4_; subst f5_))
               obtain ⟨Ao185, co185, eo185⟩ := Kd.R_slice HO392.out
               (first | subst eo185 | (injection eo185 with f1_ f2_ f3_; have f4_ := f1_.symm; have f5_ := f3_.symm; clear f1_ f2_ f3_; subst f4_; subst f5_))
               refine hK.out _ _ ⟨mZ BK334.out 0, mc3 BK335.out⟩ (fun hHeld => ?_)
               clear hK K
               refine mno 98 ?_
               refine mone 4 (some 99) HT_.out (mr [5,3,1,2]) (fun K hK => ?_)
               refine goes_ Try.func28 (by kernel_rfl) rfl #[.agg #[.slice Ao184 t385.length co184], .agg #[.int .i64 t388, .int .i64 t389, .slice Ao185 t390.length co185]] (by rfl) rfl rfl mA ?_
               with_reducible refine (impl_GraphPut.calls kj110 _ _ t385 t388 t389 _ _ t390 t393 t396 _ ?side1 ?side2 ?side3 ?side4 A168.out).mono ?_
               (case side1 => exact mC (Kd.S_reads' HO387.out).2.2)
               (case side2 => exact (Kd.S_reads' HO387.out).2.1)
               (case side3 => exact mC (Kd.R_reads' HO392.out).2.2)
               (case side4 => exact (Kd.R_reads' HO392.out).2.1)
               rintro e w186 ⟨v394, rfl, ho0, hb⟩
               refine ⟨_, rfl, ?_⟩
               obtain ⟨z187, hz187⟩ := MWords.mp_size hb
               have HO395 := mS (Kd.S_lower (Kd.S_newB (Kd.S_new' (Kd.S_new' (Kd.S_new' (Kd.S_new' (Kd.S_new' (Kd.S_new' (MWords.mp_geS ho0 hz187) (Kd.S_lt (mSd HO_351000.out))) (Kd.S_lt (mSd HO_355000.out))) (Kd.R_lt (mR HO_361002.out))) (Kd.S_lt (mSd HO_366000.out))) (Kd.S_lt (mSd HO387.out))) (Kd.R_lt (mR HO392.out))) (g := gb360) (o := .cells #[.int .i64 t355, .int .i64 t356, .slice Ao64 t380.length co64] 59 (0, 0)) (mK BK360.out)) (below_size (mH7 HB.out GE334.out GE335.out GE350.out GE354.out GE360.out GE365.out GE397.out)))
               replace HO_351000 := mS (MWords.mp_ltS (Kd.S_told (Kd.S_old (mSd HO_351000.out) hb) (Kd.S_base ho0)) hz187)
               replace HO_355000 := mS (MWords.mp_ltS (Kd.S_told (Kd.S_old (mSd HO_355000.out) hb) (Kd.S_base ho0)) hz187)
               replace HO_361002 := mS (Kd.R_below (mR HO_361002.out) hb)
               replace HO_366000 := mS (MWords.mp_ltS (Kd.S_told (Kd.S_old (mSd HO_366000.out) hb) (Kd.S_base ho0)) hz187)
               replace HO387 := mS (MWords.mp_ltS (Kd.S_told (Kd.S_old (mSd HO387.out) hb) (Kd.S_base ho0)) hz187)
               replace HO392 := mS (Kd.R_below (mR HO392.out) hb)
               replace BK334 := mB BK334 hb
               replace BK335 := mB BK335 hb
               replace BK350 := mB BK350 hb
               replace BK354 := mB BK354 hb
               replace BK360 := mB BK360 hb
               replace BK365 := mB BK365 hb
               replace BK397 := mB BK397 hb
               replace HB := mS (below_step (mH7 HB.out GE334.out GE335.out GE350.out GE354.out GE360.out GE365.out GE397.out) hb)
               (try clear hb)
               (try clear hb2)
               (try clear hk)
               (try clear hi)
               (try clear ho0)
               refine hK.out _ _ ⟨mZ BK334.out 0, mc3 BK335.out⟩ (fun hHeld => ?_)
               clear hK K
               refine mno 99 ?_
               refine mpu 5 94 HT_.out (mr [6,2,1,2]) ?_
               refine mpu 6 100 HT_.out (mr [7,1,1,2]) ?_
               refine mpu 7 101 HT_.out (mb 9 2) ?_
               exact norm_ mU (hCont (.slice Ao184 t385.length co184, .slice Ao185 t390.length co185, v394, gb397, z182, z187) _ ⟨hHeld, (by refine mSd ?_; exact Kd.S_mono HO387.out (fun _ hk => ⟨hk.1.1.2, ⟨hk.1.2, ⟨hk.1.1.1.1.1.1.1.2, ⟨hk.1.1.1.1.1.1.2, ⟨hk.1.1.1.1.1.2, ⟨hk.1.1.1.1.2, ⟨hk.1.1.1.2, ⟨hk.1.1.1.1.1.1.1.1.2, hk.2⟩⟩⟩⟩⟩⟩⟩⟩)), (by refine mR ?_; exact Kd.R_mono HO392.out (fun _ hk => hk.2)), (by refine mSd ?_; exact Kd.S_mono HO395.out (fun _ hk => ⟨hk.1.1.2, ⟨hk.1.2, ⟨hk.1.1.1.1.1.1.2, ⟨hk.1.1.1.1.1.2, ⟨hk.1.1.1.1.2, ⟨hk.1.1.1.2, ⟨hk.2, hk.1.1.1.1.1.1.1.2⟩⟩⟩⟩⟩⟩⟩)), (by refine mSd ?_; exact Kd.S_mono HO_351000.out (fun _ hk => ⟨hk.1.1.1.1.2, ⟨hk.1.1.2, ⟨hk.1.2, ⟨hk.1.1.1.1.1.1, ⟨hk.1.1.1.1.1.2.1, ⟨hk.1.1.1.1.1.2.2.1, ⟨hk.1.1.1.1.1.2.2.2.1, ⟨hk.1.1.1.1.1.2.2.2.2.1, ⟨hk.1.1.1.1.1.2.2.2.2.2.1, ⟨hk.1.1.1.1.1.2.2.2.2.2.2.1, ⟨hk.1.1.1.1.1.2.2.2.2.2.2.2, ⟨hk.1.1.1.2, hk.2⟩⟩⟩⟩⟩⟩⟩⟩⟩⟩⟩⟩)), (by refine mSd ?_; exact Kd.S_mono HO_355000.out (fun _ hk => ⟨hk.1.1.1.1.2, ⟨hk.1.1.2, ⟨hk.1.2, ⟨hk.1.1.1.1.1.1, ⟨hk.1.1.1.1.1.2.1, ⟨hk.1.1.1.1.1.2.2.1, ⟨hk.1.1.1.1.1.2.2.2.1, ⟨hk.1.1.1.1.1.2.2.2.2.1, ⟨hk.1.1.1.1.1.2.2.2.2.2.1, ⟨hk.1.1.1.1.1.2.2.2.2.2.2, ⟨hk.1.1.1.2, hk.2⟩⟩⟩⟩⟩⟩⟩⟩⟩⟩⟩)), (by refine mR ?_; exact Kd.R_mono HO_361002.out (fun _ hk => hk.2)), (by refine mSd ?_; exact Kd.S_mono HO_366000.out (fun _ hk => ⟨hk.1.1.1.1.2, ⟨hk.1.1.2, ⟨hk.1.2, ⟨hk.1.1.1.1.1.1, ⟨hk.1.1.1.1.1.2.1, ⟨hk.1.1.1.1.1.2.2.1, ⟨hk.1.1.1.1.1.2.2.2.1, ⟨hk.1.1.1.1.1.2.2.2.2.1, ⟨hk.1.1.1.1.1.2.2.2.2.2, ⟨hk.1.1.1.2, hk.2⟩⟩⟩⟩⟩⟩⟩⟩⟩⟩)), (mK BK334.out), (mK BK335.out), (mK BK350.out), (mK BK354.out), (mK BK360.out), (mK BK365.out), (mK BK397.out), GW397.out, GE397.out, NB334_397.out, NB397_334.out, NB335_397.out, NB397_335.out, NB350_397.out, NB397_350.out, NB354_397.out, NB397_354.out, NB360_397.out, NB397_360.out, NB365_397.out, NB397_365.out, (mH7 HB.out GE334.out GE335.out GE350.out GE354.out GE360.out GE365.out GE397.out)⟩)
             rintro ⟨v386, v391, v394, gb397, z181, z186⟩ w188 ⟨hS_, h0_, h1_, h2_, h3_, h4_, h5_, h6_, h7_, h8_, h9_, h10_, h11_, h12_, h13_, h14_, h15_, h16_, h17_, h18_, h19_, h20_, h21_, h22_, h23_, h24_, h25_, h26_, h27_, h28_⟩
             have HO387 : Aside0 (Kd.S k59 59 w188 w.heap.size (fun k_ => some k_ ≠ (v391 : Value).ownBlock ∧ some k_ ≠ (v394 : Value).ownBlock ∧ some k_ ≠ (.slice Ao43 t346.length co43 : Value).ownBlock ∧ some k_ ≠ (.slice Ao50 t378.length co50 : Value).ownBlock ∧ some k_ ≠ (.slice Ao64 t380.length co64 : Value).ownBlock ∧ some k_ ≠ (.slice Ao69 t361.length co69 : Value).ownBlock ∧ k_ ≠ gb360 ∧ z181 ≤ k_ ∧ k_ < z186) v386 t385) := ⟨h0_⟩
             have HO392 : Aside0 (Kd.R k56 56 w188 w.heap.size (fun k_ => some k_ ≠ (.slice Ao64 t380.length co64 : Value).ownBlock) v391 t390) := ⟨h1_⟩
             have HO395 : Aside0 (Kd.S k59 59 w188 w.heap.size (fun k_ => some k_ ≠ (v386 : Value).ownBlock ∧ some k_ ≠ (v391 : Value).ownBlock ∧ some k_ ≠ (.slice Ao43 t346.length co43 : Value).ownBlock ∧ some k_ ≠ (.slice Ao50 t378.length co50 : Value).ownBlock ∧ some k_ ≠ (.slice Ao64 t380.length co64 : Value).ownBlock ∧ some k_ ≠ (.slice Ao69 t361.length co69 : Value).ownBlock ∧ k_ ≠ gb360 ∧ z186 ≤ k_) v394 t393) := ⟨h2_⟩
             replace HO_351000 : Aside0 (Kd.S k59 59 w188 w.heap.size (fun k_ => some k_ ≠ (v386 : Value).ownBlock ∧ some k_ ≠ (v391 : Value).ownBlock ∧ some k_ ≠ (v394 : Value).ownBlock ∧ some k_ ≠ (.slice Ao50 t378.length co50 : Value).ownBlock ∧ some k_ ≠ (.slice Ao64 t380.length co64 : Value).ownBlock ∧ some k_ ≠ (.slice Ao69 t361.length co69 : Value).ownBlock ∧ k_ ≠ gb360 ∧ z40 ≤ k_ ∧ k_ < z48 ∧ k_ < z67 ∧ k_ < z114 ∧ k_ < z181 ∧ k_ < z186) (.slice Ao43 t346.length co43) t346) := ⟨h3_⟩
             replace HO_355000 : Aside0 (Kd.S k59 59 w188 w.heap.size (fun k_ => some k_ ≠ (v386 : Value).ownBlock ∧ some k_ ≠ (v391 : Value).ownBlock ∧ some k_ ≠ (v394 : Value).ownBlock ∧ some k_ ≠ (.slice Ao43 t346.length co43 : Value).ownBlock ∧ some k_ ≠ (.slice Ao64 t380.length co64 : Value).ownBlock ∧ some k_ ≠ (.slice Ao69 t361.length co69 : Value).ownBlock ∧ k_ ≠ gb360 ∧ z48 ≤ k_ ∧ k_ < z67 ∧ k_ < z114 ∧ k_ < z181 ∧ k_ < z186) (.slice Ao50 t378.length co50) t378) := ⟨h4_⟩
             replace HO_361002 : Aside0 (Kd.R k56 56 w188 w.heap.size (fun k_ => some k_ ≠ (v391 : Value).ownBlock) (.slice Ao64 t380.length co64) t380) := ⟨h5_⟩
             replace HO_366000 : Aside0 (Kd.S k59 59 w188 w.heap.size (fun k_ => some k_ ≠ (v386 : Value).ownBlock ∧ some k_ ≠ (v391 : Value).ownBlock ∧ some k_ ≠ (v394 : Value).ownBlock ∧ some k_ ≠ (.slice Ao43 t346.length co43 : Value).ownBlock ∧ some k_ ≠ (.slice Ao50 t378.length co50 : Value).ownBlock ∧ some k_ ≠ (.slice Ao64 t380.length co64 : Value).ownBlock ∧ k_ ≠ gb360 ∧ z67 ≤ k_ ∧ k_ < z114 ∧ k_ < z181 ∧ k_ < z186) (.slice Ao69 t361.length co69) t383) := ⟨h6_⟩
             replace BK334 : Aside0 (w188.heap[gb334]? = some (.cells #[.slice A0_0 l0_0.length c0_0] 42 (0, 0))) := ⟨h7_⟩
             replace BK335 : Aside0 (w188.heap[gb335]? = some (.cells #[.int .i64 a1_0, .int .i64 a1_1, .slice A1_2 l1_2.length c1_2] 47 (0, 0))) := ⟨h8_⟩
             replace BK350 : Aside0 (w188.heap[gb350]? = some (.cells #[.slice Ao43 t346.length co43] 52 (0, 0))) := ⟨h9_⟩
             replace BK354 : Aside0 (w188.heap[gb354]? = some (.cells #[.slice Ao50 t378.length co50] 52 (0, 0))) := ⟨h10_⟩
             replace BK360 : Aside0 (w188.heap[gb360]? = some (.cells #[.int .i64 t355, .int .i64 t356, .slice Ao64 t380.length co64] 59 (0, 0))) := ⟨h11_⟩
             replace BK365 : Aside0 (w188.heap[gb365]? = some (.cells #[.slice Ao69 t361.length co69] 52 (0, 0))) := ⟨h12_⟩
             have BK397 : Aside0 (w188.heap[gb397]? = some (.cells #[.slice none 0 0] 52 (0, 0))) := ⟨h13_⟩
             have GW397 : Aside0 (w.heap.size ≤ gb397) := ⟨h14_⟩
             have GE397 : Aside0 (w.heap.size ≤ gb397) := ⟨h15_⟩
             have NB334_397 : Aside0 (gb334 ≠ gb397) := ⟨h16_⟩
             have NB397_334 : Aside0 (gb397 ≠ gb334) := ⟨h17_⟩
             have NB335_397 : Aside0 (gb335 ≠ gb397) := ⟨h18_⟩
             have NB397_335 : Aside0 (gb397 ≠ gb335) := ⟨h19_⟩
             have NB350_397 : Aside0 (gb350 ≠ gb397) := ⟨h20_⟩
             have NB397_350 : Aside0 (gb397 ≠ gb350) := ⟨h21_⟩
             have NB354_397 : Aside0 (gb354 ≠ gb397) := ⟨h22_⟩
             have NB397_354 : Aside0 (gb397 ≠ gb354) := ⟨h23_⟩
             have NB360_397 : Aside0 (gb360 ≠ gb397) := ⟨h24_⟩
             have NB397_360 : Aside0 (gb397 ≠ gb360) := ⟨h25_⟩
             have NB365_397 : Aside0 (gb365 ≠ gb397) := ⟨h26_⟩
             have NB397_365 : Aside0 (gb397 ≠ gb365) := ⟨h27_⟩
             replace HB : Aside0 (Below w.heap.size w w188) := ⟨h28_⟩
             clear h0_ h1_ h2_ h3_ h4_ h5_ h6_ h7_ h8_ h9_ h10_ h11_ h12_ h13_ h14_ h15_ h16_ h17_ h18_ h19_ h20_ h21_ h22_ h23_ h24_ h25_ h26_ h27_ h28_
             have hHeld : w188.cell? ⟨gb334, 0, none⟩ = some (.slice A0_0 l0_0.length c0_0) ∧ w188.cell? ⟨gb335, 0, none⟩ = some (.int .i64 a1_0) ∧ w188.cell? ⟨gb335, 1, none⟩ = some (.int .i64 a1_1) ∧ w188.cell? ⟨gb335, 2, none⟩ = some (.slice A1_2 l1_2.length c1_2) := hS_
             obtain ⟨Ao189, co189, eo189⟩ := Kd.S_slice HO395.out
             (first | subst eo189 | (injection eo189 with f1_ f2_ f3_; have f4_ := f1_.symm; have f5_ := f3_.symm; clear f1_ f2_ f3_; subst f4_; subst f5_))
             refine mnp ?_
             refine mone 9 none HT_.out (mb 10 1) (fun K hK => ?_)
             have hs190 : w188.cell? ⟨gb397, 0, none⟩ = some (.slice none 0 0) := mZ BK397.out 0
             have hfs190 := blk_frozen BK397.out 0
             have hns190_0 := NB334_397.out
             have hns190_1 := NB335_397.out
             have hns190_2 := NB350_397.out
             have hns190_3 := NB354_397.out
             have hns190_4 := NB360_397.out
             have hns190_5 := NB365_397.out
             have hms190_0 := NB397_334.out
             have hms190_1 := NB397_335.out
             have hms190_2 := NB397_350.out
             have hms190_3 := NB397_354.out
             have hms190_4 := NB397_360.out
             have hms190_5 := NB397_365.out
             refine skip_ (w1 := ?_) (by rfl) rfl ?_ ?_
             rotate_left
             ·go_simp
              rfl
             refine hK.out _ _ ⟨((cell_far (p := ⟨gb397, _, none⟩) NB334_397.out _).trans (hHeld.1)), ((cell_far (p := ⟨gb397, _, none⟩) NB335_397.out _).trans (hHeld.2.1)), ((cell_far (p := ⟨gb397, _, none⟩) NB335_397.out _).trans (hHeld.2.2.1)), ((cell_far (p := ⟨gb397, _, none⟩) NB335_397.out _).trans (hHeld.2.2.2))⟩ (fun hHeld => ?_)
             clear hK K
             refine mpu 10 16 HT_.out (mb 11 0) ?_
             refine done_ (done_of HT_.out (by kernel_rfl)) ?_
             go_upto_region 32 with (fail)
             go_cut [110] (fun v110 wc => ∃ (kq : Nat) (x110_168 : Bool), v110 = .bool x110_168 ∧ Aside0 (laws_FnExactGraphPut.j2 kq t382 x110_168 t383 = some r) ∧ Aside0 (kq ≤ kj110) ∧ Aside0 (Kd.S k59 59 wc w.heap.size (fun k_ => some k_ ≠ ((.slice Ao50 t378.length co50) : Value).ownBlock ∧ some k_ ≠ ((.slice Ao64 t380.length co64) : Value).ownBlock ∧ some k_ ≠ ((.slice Ao69 t361.length co69) : Value).ownBlock ∧ some k_ ≠ ((.slice Ao189 t393.length co189) : Value).ownBlock ∧ k_ ≠ gb360 ∧ z40 ≤ k_ ∧ k_ < z48 ∧ k_ < z67 ∧ k_ < z114 ∧ k_ < z181 ∧ k_ < z186) (.slice Ao43 t346.length co43) t346) ∧ Aside0 (Kd.S k59 59 wc w.heap.size (fun k_ => some k_ ≠ ((.slice Ao43 t346.length co43) : Value).ownBlock ∧ some k_ ≠ ((.slice Ao64 t380.length co64) : Value).ownBlock ∧ some k_ ≠ ((.slice Ao69 t361.length co69) : Value).ownBlock ∧ some k_ ≠ ((.slice Ao189 t393.length co189) : Value).ownBlock ∧ k_ ≠ gb360 ∧ z48 ≤ k_ ∧ k_ < z67 ∧ k_ < z114 ∧ k_ < z181 ∧ k_ < z186) (.slice Ao50 t378.length co50) t378) ∧ Aside0 (Kd.R k56 56 wc w.heap.size (fun _ => True) (.slice Ao64 t380.length co64) t380) ∧ Aside0 (Kd.S k59 59 wc w.heap.size (fun k_ => some k_ ≠ ((.slice Ao43 t346.length co43) : Value).ownBlock ∧ some k_ ≠ ((.slice Ao50 t378.length co50) : Value).ownBlock ∧ some k_ ≠ ((.slice Ao64 t380.length co64) : Value).ownBlock ∧ some k_ ≠ ((.slice Ao189 t393.length co189) : Value).ownBlock ∧ k_ ≠ gb360 ∧ z67 ≤ k_ ∧ k_ < z114 ∧ k_ < z181 ∧ k_ < z186) (.slice Ao69 t361.length co69) t383) ∧ Aside0 (Kd.S k59 59 wc w.heap.size (fun k_ => some k_ ≠ ((.slice Ao43 t346.length co43) : Value).ownBlock ∧ some k_ ≠ ((.slice Ao50 t378.length co50) : Value).ownBlock ∧ some k_ ≠ ((.slice Ao64 t380.length co64) : Value).ownBlock ∧ some k_ ≠ ((.slice Ao69 t361.length co69) : Value).ownBlock ∧ k_ ≠ gb360 ∧ z186 ≤ k_) (.slice Ao189 t393.length co189) t393) ∧ Aside0 (wc.heap[gb334]? = some (.cells #[(.slice A0_0 l0_0.length c0_0)] 42 (0, 0))) ∧ Aside0 (wc.heap[gb335]? = some (.cells #[.int .i64 a1_0, .int .i64 a1_1, (.slice A1_2 l1_2.length c1_2)] 47 (0, 0))) ∧ Aside0 (wc.heap[gb350]? = some (.cells #[(.slice Ao43 t346.length co43)] 52 (0, 0))) ∧ Aside0 (wc.heap[gb354]? = some (.cells #[(.slice Ao50 t378.length co50)] 52 (0, 0))) ∧ Aside0 (wc.heap[gb360]? = some (.cells #[.int .i64 t355, .int .i64 t356, (.slice Ao64 t380.length co64)] 59 (0, 0))) ∧ Aside0 (wc.heap[gb365]? = some (.cells #[(.slice Ao69 t361.length co69)] 52 (0, 0))) ∧ Aside0 (wc.heap[gb397]? = some (.cells #[(.slice Ao189 t393.length co189)] 52 (0, 0))) ∧ Aside0 (Below w.heap.size w wc))
             case first =>
              have H := HC169.out
              clear HC169
              replace H := Option.bind_eq_some_iff.mp H
              obtain ⟨t398, A1910, H⟩ := H
              replace H : (if t398 = true then (laws_FnExactGraphPut.j2 kj110 t382 (t396 != t349) t383) else (laws_FnExactGraphPut.j2 kj110 t382 true t383)) = some r := H
              have A191 := mS A1910
              clear A1910
              by_cases c192 : t398 = true
              ·subst c192
               have H1 := H
               rw [if_pos rfl] at H1
               clear H
               have H := H1
               clear H1
               have H' := mS H
               clear H
               have hnb193 := NB397_334.out
               have hnc193 := NB334_397.out
               have hnb194 := NB397_335.out
               have hnc194 := NB335_397.out
               have hnb195 := NB397_350.out
               have hnc195 := NB350_397.out
               have hnb196 := NB397_354.out
               have hnc196 := NB354_397.out
               have hnb197 := NB397_360.out
               have hnc197 := NB360_397.out
               have hnb198 := NB397_365.out
               have hnc198 := NB365_397.out
               have hcz199_0 := mZ BK397.out 0
               have hfz199_0 := blk_frozen BK397.out 0
               have hnb200 := NB350_334.out
               have hnc200 := NB334_350.out
               have hnb201 := NB350_335.out
               have hnc201 := NB335_350.out
               have hnb202 := NB350_354.out
               have hnc202 := NB354_350.out
               have hnb203 := NB350_360.out
               have hnc203 := NB360_350.out
               have hnb204 := NB350_365.out
               have hnc204 := NB365_350.out
               have hcz205_0 := mZ BK350.out 0
               have hfz205_0 := blk_frozen BK350.out 0
               go_wp2_with (first | ((with_reducible refine gate_callee (f := 29) rfl ?_); refine mGo 104 Try.func29 #[.agg #[.slice Ao189 t393.length co189], .agg #[.slice Ao43 t346.length co43]] ?_; (with_reducible refine (laws_eqGraph.calls kj110 _ _ t393 _ _ t346 true _ ?side1 ?side2 ?side3 ?side4 A191.out).mono ?_); (case side1 => refine (Kd.S_reads' (e := 59) (base := w.heap.size) (ok := fun k_ => (some k_ ≠ (v386 : Value).ownBlock ∧ (some k_ ≠ (v391 : Value).ownBlock ∧ (some k_ ≠ (.slice Ao43 t346.length co43 : Value).ownBlock ∧ (some k_ ≠ (.slice Ao50 t378.length co50 : Value).ownBlock ∧ (some k_ ≠ (.slice Ao64 t380.length co64 : Value).ownBlock ∧ (some k_ ≠ (.slice Ao69 t361.length co69 : Value).ownBlock ∧ (k_ ≠ gb360 ∧ z186 ≤ k_)))))))) (n := t393.length) (c := co189) ?_).2.2; exact (by refine mSd ?_; exact (Kd.S_mono (Kd.S_far (p := ⟨gb397, 0, none⟩) (Kd.S_types HO395.out BK397.out (by decide)) (fun _ hk => hk.2) (.slice Ao189 t393.length co189)) (fun _ h_ => h_.1)))); (case side2 => exact (Kd.S_reads' HO395.out).2.1); (case side3 => refine (Kd.S_reads' (e := 59) (base := w.heap.size) (ok := fun k_ => (some k_ ≠ (v386 : Value).ownBlock ∧ (some k_ ≠ (v391 : Value).ownBlock ∧ (some k_ ≠ (.slice Ao189 t393.length co189 : Value).ownBlock ∧ (some k_ ≠ (.slice Ao50 t378.length co50 : Value).ownBlock ∧ (some k_ ≠ (.slice Ao64 t380.length co64 : Value).ownBlock ∧ (some k_ ≠ (.slice Ao69 t361.length co69 : Value).ownBlock ∧ (k_ ≠ gb360 ∧ (z40 ≤ k_ ∧ (k_ < z48 ∧ (k_ < z67 ∧ (k_ < z114 ∧ (k_ < z181 ∧ k_ < z186))))))))))))) (n := t346.length) (c := co43) ?_).2.2; exact (by refine mSd ?_; exact (Kd.S_mono (Kd.S_far (p := ⟨gb397, 0, none⟩) (Kd.S_types HO_351000.out BK397.out (by decide)) (fun _ hk => hk.2) (.slice Ao189 t393.length co189)) (fun _ h_ => h_.1)))); (case side4 => exact (Kd.S_reads' HO_351000.out).2.1); rintro e w206 ⟨rfl, hb⟩; refine ⟨_, rfl, ?_⟩; replace HO_351000 := mS (Kd.S_below (by refine mSd ?_; exact (Kd.S_mono (Kd.S_far (p := ⟨gb397, 0, none⟩) (Kd.S_types HO_351000.out BK397.out (by decide)) (fun _ hk => hk.2) (.slice Ao189 t393.length co189)) (fun _ h_ => h_.1))) hb); replace HO_355000 := mS (Kd.S_below (by refine mSd ?_; exact (Kd.S_mono (Kd.S_far (p := ⟨gb397, 0, none⟩) (Kd.S_types HO_355000.out BK397.out (by decide)) (fun _ hk => hk.2) (.slice Ao189 t393.length co189)) (fun _ h_ => h_.1))) hb); replace HO_361002 := mS (Kd.R_below (by refine mR ?_; exact (Kd.R_mono (Kd.R_far (p := ⟨gb397, 0, none⟩) (Kd.R_types HO_361002.out BK397.out (by decide)) (fun _ hk => hk.2) (.slice Ao189 t393.length co189)) (fun _ h_ => h_.1))) hb); replace HO_366000 := mS (Kd.S_below (by refine mSd ?_; exact (Kd.S_mono (Kd.S_far (p := ⟨gb397, 0, none⟩) (Kd.S_types HO_366000.out BK397.out (by decide)) (fun _ hk => hk.2) (.slice Ao189 t393.length co189)) (fun _ h_ => h_.1))) hb); replace HO387 := mS (Kd.S_below (by refine mSd ?_; exact (Kd.S_mono (Kd.S_far (p := ⟨gb397, 0, none⟩) (Kd.S_types HO387.out BK397.out (by decide)) (fun _ hk => hk.2) (.slice Ao189 t393.length co189)) (fun _ h_ => h_.1))) hb); replace HO392 := mS (Kd.R_below (by refine mR ?_; exact (Kd.R_mono (Kd.R_far (p := ⟨gb397, 0, none⟩) (Kd.R_types HO392.out BK397.out (by decide)) (fun _ hk => hk.2) (.slice Ao189 t393.length co189)) (fun _ h_ => h_.1))) hb); replace HO395 := mS (Kd.S_below (by refine mSd ?_; exact (Kd.S_mono (Kd.S_far (p := ⟨gb397, 0, none⟩) (Kd.S_types HO395.out BK397.out (by decide)) (fun _ hk => hk.2) (.slice Ao189 t393.length co189)) (fun _ h_ => h_.1))) hb); replace BK334 := mS (blk_below (g := gb334) (o := .cells #[.slice A0_0 l0_0.length c0_0] 42 (0, 0)) (mKf NB334_397.out BK334.out) hb); replace BK335 := mS (blk_below (g := gb335) (o := .cells #[.int .i64 a1_0, .int .i64 a1_1, .slice A1_2 l1_2.length c1_2] 47 (0, 0)) (mKf NB335_397.out BK335.out) hb); replace BK350 := mS (blk_below (g := gb350) (o := .cells #[.slice Ao43 t346.length co43] 52 (0, 0)) (mKf NB350_397.out BK350.out) hb); replace BK354 := mS (blk_below (g := gb354) (o := .cells #[.slice Ao50 t378.length co50] 52 (0, 0)) (mKf NB354_397.out BK354.out) hb); replace BK360 := mS (blk_below (g := gb360) (o := .cells #[.int .i64 t355, .int .i64 t356, .slice Ao64 t380.length co64] 59 (0, 0)) (mKf NB360_397.out BK360.out) hb); replace BK365 := mS (blk_below (g := gb365) (o := .cells #[.slice Ao69 t361.length co69] 52 (0, 0)) (mKf NB365_397.out BK365.out) hb); replace BK397 := mS (blk_below (g := gb397) (o := .cells #[.slice Ao189 t393.length co189] 52 (0, 0)) (by refine mK ?_; refine blk_put (cs := #[.slice none 0 0]) ?_ 0 _ rfl; refine mK ?_; exact BK397.out) hb); replace HB := mS (below_step (mH7 HB.out GE334.out GE335.out GE350.out GE354.out GE360.out GE365.out GE397.out) hb); (try clear hb)))
               go_meet
               case rel => exact ⟨_, ((t396 != t349)), mE, H', ⟨by have := HJ24.out; have := HJ110.out; first | omega | exact Nat.le_refl _⟩, ⟨by (try simp only [hl355000_110]); (try simp only [hl361002_110]); refine mSd ?_; exact Kd.S_mono HO_351000.out (fun _ hk => ⟨hk.2.2.2.1, ⟨hk.2.2.2.2.1, ⟨hk.2.2.2.2.2.1, ⟨hk.2.2.1, ⟨hk.2.2.2.2.2.2.1, ⟨hk.2.2.2.2.2.2.2.1, ⟨hk.2.2.2.2.2.2.2.2.1, ⟨hk.2.2.2.2.2.2.2.2.2.1, ⟨hk.2.2.2.2.2.2.2.2.2.2.1, ⟨hk.2.2.2.2.2.2.2.2.2.2.2.1, hk.2.2.2.2.2.2.2.2.2.2.2.2⟩⟩⟩⟩⟩⟩⟩⟩⟩⟩)⟩, ⟨by (try simp only [hl355000_110]); (try simp only [hl361002_110]); refine mSd ?_; exact Kd.S_mono HO_355000.out (fun _ hk => ⟨hk.2.2.2.1, ⟨hk.2.2.2.2.1, ⟨hk.2.2.2.2.2.1, ⟨hk.2.2.1, ⟨hk.2.2.2.2.2.2.1, ⟨hk.2.2.2.2.2.2.2.1, ⟨hk.2.2.2.2.2.2.2.2.1, ⟨hk.2.2.2.2.2.2.2.2.2.1, ⟨hk.2.2.2.2.2.2.2.2.2.2.1, hk.2.2.2.2.2.2.2.2.2.2.2⟩⟩⟩⟩⟩⟩⟩⟩⟩)⟩, ⟨by (try simp only [hl355000_110]); (try simp only [hl361002_110]); refine mR ?_; exact Kd.R_mono HO_361002.out (fun _ hk => trivial)⟩, ⟨by (try simp only [hl355000_110]); (try simp only [hl361002_110]); refine mSd ?_; exact Kd.S_mono HO_366000.out (fun _ hk => ⟨hk.2.2.2.1, ⟨hk.2.2.2.2.1, ⟨hk.2.2.2.2.2.1, ⟨hk.2.2.1, ⟨hk.2.2.2.2.2.2.1, ⟨hk.2.2.2.2.2.2.2.1, ⟨hk.2.2.2.2.2.2.2.2.1, ⟨hk.2.2.2.2.2.2.2.2.2.1, hk.2.2.2.2.2.2.2.2.2.2⟩⟩⟩⟩⟩⟩⟩⟩)⟩, ⟨by (try simp only [hl355000_110]); (try simp only [hl361002_110]); refine mSd ?_; exact Kd.S_mono HO395.out (fun _ hk => ⟨hk.2.2.1, ⟨hk.2.2.2.1, ⟨hk.2.2.2.2.1, ⟨hk.2.2.2.2.2.1, ⟨hk.2.2.2.2.2.2.1, hk.2.2.2.2.2.2.2⟩⟩⟩⟩⟩)⟩, ⟨by (try simp only [hl355000_110]); (try simp only [hl361002_110]); refine mK ?_; exact BK334.out⟩, ⟨by (try simp only [hl355000_110]); (try simp only [hl361002_110]); refine mK ?_; exact BK335.out⟩, ⟨by (try simp only [hl355000_110]); (try simp only [hl361002_110]); refine mK ?_; exact BK350.out⟩, ⟨by (try simp only [hl355000_110]); (try simp only [hl361002_110]); refine mK ?_; exact BK354.out⟩, ⟨by (try simp only [hl355000_110]); (try simp only [hl361002_110]); refine mK ?_; exact BK360.out⟩, ⟨by (try simp only [hl355000_110]); (try simp only [hl361002_110]); refine mK ?_; exact BK365.out⟩, ⟨by (try simp only [hl355000_110]); (try simp only [hl361002_110]); refine mK ?_; exact BK397.out⟩, ⟨(mH7 HB.out GE334.out GE335.out GE350.out GE354.out GE360.out GE365.out GE397.out)⟩⟩
              ·replace c192 := Bool.eq_false_iff.mpr c192
               subst c192
               have H1 := H
               rw [if_neg (show ¬ (false = true) by decide)] at H1
               clear H
               have H := H1
               clear H1
               have H' := mS H
               clear H
               have hnb207 := NB397_334.out
               have hnc207 := NB334_397.out
               have hnb208 := NB397_335.out
               have hnc208 := NB335_397.out
               have hnb209 := NB397_350.out
               have hnc209 := NB350_397.out
               have hnb210 := NB397_354.out
               have hnc210 := NB354_397.out
               have hnb211 := NB397_360.out
               have hnc211 := NB360_397.out
               have hnb212 := NB397_365.out
               have hnc212 := NB365_397.out
               have hcz213_0 := mZ BK397.out 0
               have hfz213_0 := blk_frozen BK397.out 0
               have hnb214 := NB350_334.out
               have hnc214 := NB334_350.out
               have hnb215 := NB350_335.out
               have hnc215 := NB335_350.out
               have hnb216 := NB350_354.out
               have hnc216 := NB354_350.out
               have hnb217 := NB350_360.out
               have hnc217 := NB360_350.out
               have hnb218 := NB350_365.out
               have hnc218 := NB365_350.out
               have hcz219_0 := mZ BK350.out 0
               have hfz219_0 := blk_frozen BK350.out 0
               go_wp2_with (first | ((with_reducible refine gate_callee (f := 29) rfl ?_); refine mGo 104 Try.func29 #[.agg #[.slice Ao189 t393.length co189], .agg #[.slice Ao43 t346.length co43]] ?_; (with_reducible refine (laws_eqGraph.calls kj110 _ _ t393 _ _ t346 false _ ?side1 ?side2 ?side3 ?side4 A191.out).mono ?_); (case side1 => refine (Kd.S_reads' (e := 59) (base := w.heap.size) (ok := fun k_ => (some k_ ≠ (v386 : Value).ownBlock ∧ (some k_ ≠ (v391 : Value).ownBlock ∧ (some k_ ≠ (.slice Ao43 t346.length co43 : Value).ownBlock ∧ (some k_ ≠ (.slice Ao50 t378.length co50 : Value).ownBlock ∧ (some k_ ≠ (.slice Ao64 t380.length co64 : Value).ownBlock ∧ (some k_ ≠ (.slice Ao69 t361.length co69 : Value).ownBlock ∧ (k_ ≠ gb360 ∧ z186 ≤ k_)))))))) (n := t393.length) (c := co189) ?_).2.2; exact (by refine mSd ?_; exact (Kd.S_mono (Kd.S_far (p := ⟨gb397, 0, none⟩) (Kd.S_types HO395.out BK397.out (by decide)) (fun _ hk => hk.2) (.slice Ao189 t393.length co189)) (fun _ h_ => h_.1)))); (case side2 => exact (Kd.S_reads' HO395.out).2.1); (case side3 => refine (Kd.S_reads' (e := 59) (base := w.heap.size) (ok := fun k_ => (some k_ ≠ (v386 : Value).ownBlock ∧ (some k_ ≠ (v391 : Value).ownBlock ∧ (some k_ ≠ (.slice Ao189 t393.length co189 : Value).ownBlock ∧ (some k_ ≠ (.slice Ao50 t378.length co50 : Value).ownBlock ∧ (some k_ ≠ (.slice Ao64 t380.length co64 : Value).ownBlock ∧ (some k_ ≠ (.slice Ao69 t361.length co69 : Value).ownBlock ∧ (k_ ≠ gb360 ∧ (z40 ≤ k_ ∧ (k_ < z48 ∧ (k_ < z67 ∧ (k_ < z114 ∧ (k_ < z181 ∧ k_ < z186))))))))))))) (n := t346.length) (c := co43) ?_).2.2; exact (by refine mSd ?_; exact (Kd.S_mono (Kd.S_far (p := ⟨gb397, 0, none⟩) (Kd.S_types HO_351000.out BK397.out (by decide)) (fun _ hk => hk.2) (.slice Ao189 t393.length co189)) (fun _ h_ => h_.1)))); (case side4 => exact (Kd.S_reads' HO_351000.out).2.1); rintro e w220 ⟨rfl, hb⟩; refine ⟨_, rfl, ?_⟩; replace HO_351000 := mS (Kd.S_below (by refine mSd ?_; exact (Kd.S_mono (Kd.S_far (p := ⟨gb397, 0, none⟩) (Kd.S_types HO_351000.out BK397.out (by decide)) (fun _ hk => hk.2) (.slice Ao189 t393.length co189)) (fun _ h_ => h_.1))) hb); replace HO_355000 := mS (Kd.S_below (by refine mSd ?_; exact (Kd.S_mono (Kd.S_far (p := ⟨gb397, 0, none⟩) (Kd.S_types HO_355000.out BK397.out (by decide)) (fun _ hk => hk.2) (.slice Ao189 t393.length co189)) (fun _ h_ => h_.1))) hb); replace HO_361002 := mS (Kd.R_below (by refine mR ?_; exact (Kd.R_mono (Kd.R_far (p := ⟨gb397, 0, none⟩) (Kd.R_types HO_361002.out BK397.out (by decide)) (fun _ hk => hk.2) (.slice Ao189 t393.length co189)) (fun _ h_ => h_.1))) hb); replace HO_366000 := mS (Kd.S_below (by refine mSd ?_; exact (Kd.S_mono (Kd.S_far (p := ⟨gb397, 0, none⟩) (Kd.S_types HO_366000.out BK397.out (by decide)) (fun _ hk => hk.2) (.slice Ao189 t393.length co189)) (fun _ h_ => h_.1))) hb); replace HO387 := mS (Kd.S_below (by refine mSd ?_; exact (Kd.S_mono (Kd.S_far (p := ⟨gb397, 0, none⟩) (Kd.S_types HO387.out BK397.out (by decide)) (fun _ hk => hk.2) (.slice Ao189 t393.length co189)) (fun _ h_ => h_.1))) hb); replace HO392 := mS (Kd.R_below (by refine mR ?_; exact (Kd.R_mono (Kd.R_far (p := ⟨gb397, 0, none⟩) (Kd.R_types HO392.out BK397.out (by decide)) (fun _ hk => hk.2) (.slice Ao189 t393.length co189)) (fun _ h_ => h_.1))) hb); replace HO395 := mS (Kd.S_below (by refine mSd ?_; exact (Kd.S_mono (Kd.S_far (p := ⟨gb397, 0, none⟩) (Kd.S_types HO395.out BK397.out (by decide)) (fun _ hk => hk.2) (.slice Ao189 t393.length co189)) (fun _ h_ => h_.1))) hb); replace BK334 := mS (blk_below (g := gb334) (o := .cells #[.slice A0_0 l0_0.length c0_0] 42 (0, 0)) (mKf NB334_397.out BK334.out) hb); replace BK335 := mS (blk_below (g := gb335) (o := .cells #[.int .i64 a1_0, .int .i64 a1_1, .slice A1_2 l1_2.length c1_2] 47 (0, 0)) (mKf NB335_397.out BK335.out) hb); replace BK350 := mS (blk_below (g := gb350) (o := .cells #[.slice Ao43 t346.length co43] 52 (0, 0)) (mKf NB350_397.out BK350.out) hb); replace BK354 := mS (blk_below (g := gb354) (o := .cells #[.slice Ao50 t378.length co50] 52 (0, 0)) (mKf NB354_397.out BK354.out) hb); replace BK360 := mS (blk_below (g := gb360) (o := .cells #[.int .i64 t355, .int .i64 t356, .slice Ao64 t380.length co64] 59 (0, 0)) (mKf NB360_397.out BK360.out) hb); replace BK365 := mS (blk_below (g := gb365) (o := .cells #[.slice Ao69 t361.length co69] 52 (0, 0)) (mKf NB365_397.out BK365.out) hb); replace BK397 := mS (blk_below (g := gb397) (o := .cells #[.slice Ao189 t393.length co189] 52 (0, 0)) (by refine mK ?_; refine blk_put (cs := #[.slice none 0 0]) ?_ 0 _ rfl; refine mK ?_; exact BK397.out) hb); replace HB := mS (below_step (mH7 HB.out GE334.out GE335.out GE350.out GE354.out GE360.out GE365.out GE397.out) hb); (try clear hb)))
               go_meet
               case rel => exact ⟨_, (true), mE, H', ⟨by have := HJ24.out; have := HJ110.out; first | omega | exact Nat.le_refl _⟩, ⟨by (try simp only [hl355000_110]); (try simp only [hl361002_110]); refine mSd ?_; exact Kd.S_mono HO_351000.out (fun _ hk => ⟨hk.2.2.2.1, ⟨hk.2.2.2.2.1, ⟨hk.2.2.2.2.2.1, ⟨hk.2.2.1, ⟨hk.2.2.2.2.2.2.1, ⟨hk.2.2.2.2.2.2.2.1, ⟨hk.2.2.2.2.2.2.2.2.1, ⟨hk.2.2.2.2.2.2.2.2.2.1, ⟨hk.2.2.2.2.2.2.2.2.2.2.1, ⟨hk.2.2.2.2.2.2.2.2.2.2.2.1, hk.2.2.2.2.2.2.2.2.2.2.2.2⟩⟩⟩⟩⟩⟩⟩⟩⟩⟩)⟩, ⟨by (try simp only [hl355000_110]); (try simp only [hl361002_110]); refine mSd ?_; exact Kd.S_mono HO_355000.out (fun _ hk => ⟨hk.2.2.2.1, ⟨hk.2.2.2.2.1, ⟨hk.2.2.2.2.2.1, ⟨hk.2.2.1, ⟨hk.2.2.2.2.2.2.1, ⟨hk.2.2.2.2.2.2.2.1, ⟨hk.2.2.2.2.2.2.2.2.1, ⟨hk.2.2.2.2.2.2.2.2.2.1, ⟨hk.2.2.2.2.2.2.2.2.2.2.1, hk.2.2.2.2.2.2.2.2.2.2.2⟩⟩⟩⟩⟩⟩⟩⟩⟩)⟩, ⟨by (try simp only [hl355000_110]); (try simp only [hl361002_110]); refine mR ?_; exact Kd.R_mono HO_361002.out (fun _ hk => trivial)⟩, ⟨by (try simp only [hl355000_110]); (try simp only [hl361002_110]); refine mSd ?_; exact Kd.S_mono HO_366000.out (fun _ hk => ⟨hk.2.2.2.1, ⟨hk.2.2.2.2.1, ⟨hk.2.2.2.2.2.1, ⟨hk.2.2.1, ⟨hk.2.2.2.2.2.2.1, ⟨hk.2.2.2.2.2.2.2.1, ⟨hk.2.2.2.2.2.2.2.2.1, ⟨hk.2.2.2.2.2.2.2.2.2.1, hk.2.2.2.2.2.2.2.2.2.2⟩⟩⟩⟩⟩⟩⟩⟩)⟩, ⟨by (try simp only [hl355000_110]); (try simp only [hl361002_110]); refine mSd ?_; exact Kd.S_mono HO395.out (fun _ hk => ⟨hk.2.2.1, ⟨hk.2.2.2.1, ⟨hk.2.2.2.2.1, ⟨hk.2.2.2.2.2.1, ⟨hk.2.2.2.2.2.2.1, hk.2.2.2.2.2.2.2⟩⟩⟩⟩⟩)⟩, ⟨by (try simp only [hl355000_110]); (try simp only [hl361002_110]); refine mK ?_; exact BK334.out⟩, ⟨by (try simp only [hl355000_110]); (try simp only [hl361002_110]); refine mK ?_; exact BK335.out⟩, ⟨by (try simp only [hl355000_110]); (try simp only [hl361002_110]); refine mK ?_; exact BK350.out⟩, ⟨by (try simp only [hl355000_110]); (try simp only [hl361002_110]); refine mK ?_; exact BK354.out⟩, ⟨by (try simp only [hl355000_110]); (try simp only [hl361002_110]); refine mK ?_; exact BK360.out⟩, ⟨by (try simp only [hl355000_110]); (try simp only [hl361002_110]); refine mK ?_; exact BK365.out⟩, ⟨by (try simp only [hl355000_110]); (try simp only [hl361002_110]); refine mK ?_; exact BK397.out⟩, ⟨(mH7 HB.out GE334.out GE335.out GE350.out GE354.out GE360.out GE365.out GE397.out)⟩⟩
             case rest =>
              clear HC169
              try clear c1
              try clear c2
              try clear p2
              try clear c19
              try clear c20
              try clear c21
              try clear c26
              try clear c27
              try clear c28
              try clear c29
              try clear c192
              try clear c193
              try clear c194
              try clear c195
              try clear c196
              try clear c197
              try clear c198
              try clear c200
              try clear c201
              try clear c202
              try clear c203
              try clear c204
              try clear c207
              try clear c208
              try clear c209
              try clear c210
              try clear c211
              try clear c212
              try clear c214
              try clear c215
              try clear c216
              try clear c217
              try clear c218
              try clear hcz199_0
              try clear hcz205_0
              try clear hcz213_0
              try clear hcz219_0
              try clear hfz199_0
              try clear hfz205_0
              try clear hfz213_0
              try clear hfz219_0
              obtain ⟨kq, x110_168, rfl, HA, HJ168, HO_351000, HO_355000, HO_361002, HO_366000, HO_398000, BK334, BK335, BK350, BK354, BK360, BK365, BK397, HB⟩ := hcut
              have hl366000_168 := (Kd.S_reads' HO_366000.out).1
              rw [hl366000_168] at HO_366000
              (try simp only [hl366000_168])
              (try simp only [hl366000_168] at BK334)
              (try simp only [hl366000_168] at BK335)
              (try simp only [hl366000_168] at BK350)
              (try simp only [hl366000_168] at BK354)
              (try simp only [hl366000_168] at BK360)
              (try simp only [hl366000_168] at BK365)
              (try simp only [hl366000_168] at BK397)
              (try simp only [hl366000_168] at HO_351000)
              (try simp only [hl366000_168] at HO_355000)
              (try simp only [hl366000_168] at HO_361002)
              (try simp only [hl366000_168] at HO_398000)
              cases kq with
              | zero => exact absurd HA.out (by simp [laws_FnExactGraphPut.j2])
              | succ kj168 =>
               have H := HA.out
               clear HA
               simp only [laws_FnExactGraphPut.j2] at H
               by_cases c221 : x110_168 = true
               ·subst c221
                have H1 := H
                rw [if_pos rfl] at H1
                clear H
                have H := H1
                clear H1
                exact absurd ((Option.some.inj H).trans ht_) (by decide)
               ·replace c221 := Bool.eq_false_iff.mpr c221
                subst c221
                have H1 := H
                rw [if_neg (show ¬ (false = true) by decide)] at H1
                clear H
                have H := H1
                clear H1
                replace H := Option.bind_eq_some_iff.mp H
                obtain ⟨t399, A2220, H⟩ := H
                replace H : (if t399 < 0 then (some false) else (if t399 = t382 then (some true) else (some false))) = some r := H
                have A222 := mS A2220
                clear A2220
                by_cases c223 : t399 < 0
                ·rw [if_pos c223] at H
                 have c223b0 := decide_eq_true c223
                 clear c223
                 exact absurd ((Option.some.inj H).trans ht_) (by decide)
                ·rw [if_neg c223] at H
                 have c223b0 := decide_eq_false c223
                 clear c223
                 by_cases c224 : t399 = t382
                 ·rw [if_pos c224] at H
                  have c224b0 : (t399 == t382) = true := beq_iff_eq.mpr c224
                  have c224b1 : (t399 != t382) = false := bne_eq_false_iff_eq.mpr c224
                  clear c224
                  obtain rfl := Option.some.inj H
                  have hnb225 := NB365_334.out
                  have hnc225 := NB334_365.out
                  have hnb226 := NB365_335.out
                  have hnc226 := NB335_365.out
                  have hnb227 := NB365_350.out
                  have hnc227 := NB350_365.out
                  have hnb228 := NB365_354.out
                  have hnc228 := NB354_365.out
                  have hnb229 := NB365_360.out
                  have hnc229 := NB360_365.out
                  have hnb230 := NB365_397.out
                  have hnc230 := NB397_365.out
                  have hcz231_0 := mZ BK365.out 0
                  have hfz231_0 := blk_frozen BK365.out 0
                  go_wp2_with (first | ((with_reducible refine gate_callee (f := 33) rfl ?_); refine mGo 113 Try.func33 #[.agg #[.slice Ao69 t383.length co69], .int .i64 1] ?_; (with_reducible refine (laws_heldGraph.calls kj168 _ _ t383 1 t399 _ ?side1 ?side2 A222.out).mono ?_); (case side1 => exact mC (Kd.S_reads' HO_366000.out).2.2); (case side2 => exact (Kd.S_reads' HO_366000.out).2.1); rintro e w232 ⟨rfl, hb⟩; refine ⟨_, rfl, ?_⟩; replace HO_351000 := mS (Kd.S_below (mSd HO_351000.out) hb); replace HO_355000 := mS (Kd.S_below (mSd HO_355000.out) hb); replace HO_361002 := mS (Kd.R_below (mR HO_361002.out) hb); replace HO_366000 := mS (Kd.S_below (mSd HO_366000.out) hb); replace HO_398000 := mS (Kd.S_below (mSd HO_398000.out) hb); replace BK334 := mB BK334 hb; replace BK335 := mB BK335 hb; replace BK350 := mB BK350 hb; replace BK354 := mB BK354 hb; replace BK360 := mB BK360 hb; replace BK365 := mB BK365 hb; replace BK397 := mB BK397 hb; replace HB := mS (below_step (mH7 HB.out GE334.out GE335.out GE350.out GE354.out GE360.out GE365.out GE397.out) hb); (try clear hb)))
                  go_ret
                  exact ⟨mEw, (mH7 HB.out GE334.out GE335.out GE350.out GE354.out GE360.out GE365.out GE397.out)⟩
                 ·rw [if_neg c224] at H
                  have c224b0 : (t399 == t382) = false := beq_eq_false_iff_ne.mpr c224
                  have c224b1 : (t399 != t382) = true := bne_iff_ne.mpr c224
                  exact absurd ((Option.some.inj H).trans ht_) (by decide)
            ·rw [if_neg c165] at H
             have c165b0 : (t384 == t382) = false := beq_eq_false_iff_ne.mpr c165
             have c165b1 : (t384 != t382) = true := bne_iff_ne.mpr c165
             exact absurd ((Option.some.inj H).trans ht_) (by decide)
       ·replace c108 := Bool.eq_false_iff.mpr c108
        subst c108
        have H1 := H
        rw [if_neg (show ¬ (false = true) by decide)] at H1
        clear H
        have H := H1
        clear H1
        exact absurd ((Option.some.inj H).trans ht_) (by decide)
      ·replace c105 := Bool.eq_false_iff.mpr c105
       subst c105
       have H1 := H
       rw [if_neg (show ¬ (false = true) by decide)] at H1
       clear H
       have H := H1
       clear H1
       exact absurd ((Option.some.inj H).trans ht_) (by decide)

end Go.Proofs.Ytecjamgajlpfdaa.MFnExactGraphPut
