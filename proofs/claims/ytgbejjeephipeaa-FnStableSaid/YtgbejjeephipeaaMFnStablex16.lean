-- Written by mp.py, this session's own printer (wip/mp.py).
import Derived.Test.YtgbejjeephipeaaVMShort
import Derived.Test.YtgbejjeephipeaaMFnStablex0
import Derived.Test.YtgbejjeephipeaaMFnStablex7
import Derived.Test.YtgbejjeephipeaaMFnStablex10
import Derived.Test.YtgbejjeephipeaaMFnStablex11
import Derived.Test.YtgbejjeephipeaaMFnStablex15
namespace Go.Proofs.Ytgbejjeephipeaa.MFnStable
open Go.RowKit Go.Proofs.YtgbejjeephipeaaW.PrintWords Go.Proofs.YtgbejjeephipeaaW.PrintLast Go.Proofs.YtgbejjeephipeaaW.PrintMore Go.Proofs.Ytgbejjeephipeaa.MWords
attribute [local go_sem] max2_int min2_int max_two min_two max_three min_three max_four min_four   -- for this text's walks alone
set_option linter.unusedVariables false
set_option linter.unusedSimpArgs false

/-! ### impl_GraphPut: function 17 -/
mutual
def impl_GraphPut.l0 : Nat → Bool → List (S33) → Int → Int → List (S33) → Int → Int → List (S31) → List (S33) → Option ((List (S33)) × Bool)
 | 0, _, _, _, _, _, _, _, _, _ => none
 | k + 1, x7, x12, x13, x14, x375000, x376000, x376001, x376002, x378000 => if x14 < x13 then (if 0 ≤ x14 then (if x14 < (x12.length : Int) then (if x7 = true then (if x378000.length < 3518437208883 then (impl_GraphPut.l0 k x7 x12 x13 (wrap64 (x14 + 1)) x375000 x376000 x376001 x376002 (x378000 ++ [(⟨(⟨(rd_T33 x12 x14).f0.f0, (rd_T33 x12 x14).f0.f1⟩ : S31), (rd_T33 x12 x14).f1⟩ : S33)])) else (none)) else ((impl_DotLess.f x376000 x376001 ((rd_T33 x12 x14).f0.f0) ((rd_T33 x12 x14).f0.f1)).bind fun t386 => (if t386 = true then ((impl_copyDots.f x376002).bind fun t387 => (if x378000.length < 3518437208883 then ((some (x378000 ++ [(⟨(⟨x376000, x376001⟩ : S31), t387⟩ : S33)] : List (S33))).bind fun y390 => (if y390.length < 3518437208883 then (impl_GraphPut.l0 k true x12 x13 (wrap64 (x14 + 1)) x375000 x376000 x376001 x376002 (y390 ++ [(⟨(⟨(rd_T33 x12 x14).f0.f0, (rd_T33 x12 x14).f0.f1⟩ : S31), (rd_T33 x12 x14).f1⟩ : S33)])) else (none))) else (none))) else (if x378000.length < 3518437208883 then (impl_GraphPut.l0 k x7 x12 x13 (wrap64 (x14 + 1)) x375000 x376000 x376001 x376002 (x378000 ++ [(⟨(⟨(rd_T33 x12 x14).f0.f0, (rd_T33 x12 x14).f0.f1⟩ : S31), (rd_T33 x12 x14).f1⟩ : S33)])) else (none))))) else (none)) else (none)) else (if x7 = true then (impl_GraphPut.j1 k x375000 x376000 x376001 x376002 x378000) else ((impl_copyDots.f x376002).bind fun t399 => (if x378000.length < 3518437208883 then (impl_GraphPut.j1 k x375000 x376000 x376001 x376002 (x378000 ++ [(⟨(⟨x376000, x376001⟩ : S31), t399⟩ : S33)])) else (none))))
def impl_GraphPut.j1 : Nat → List (S33) → Int → Int → List (S31) → List (S33) → Option ((List (S33)) × Bool)
 | 0, _, _, _, _, _ => none
 | k + 1, x375000, x376000, x376001, x376002, x378000 => (impl_itemAt.f k x375000 x376000 x376001).bind fun t405 => (if t405 ≥ 0 then ((impl_copyGraph.f k x375000).bind fun t406 => (some (t406, false))) else ((impl_GraphOk.f k x378000).bind fun t409 => (if t409 = true then (some (x378000, true)) else ((impl_copyGraph.f k x375000).bind fun t410 => (some (t410, false))))))
end
def impl_GraphPut.f (k : Nat) (l0_0 : List (S33)) (a1_0 : Int) (a1_1 : Int) (l1_2 : List (S31)) : Option ((List (S33)) × Bool) := (impl_copyGraph.f k l0_0).bind fun t378 => (impl_GraphPut.l0 k false t378 (t378.length : Int) 0 l0_0 a1_0 a1_1 l1_2 ([] : List (S33)))
theorem impl_GraphPut.mono_l : ∀ k, (∀ y0 y1 y2 y3 y4 y5 y6 y7 y8, LeO (impl_GraphPut.l0 k y0 y1 y2 y3 y4 y5 y6 y7 y8) (impl_GraphPut.l0 (k + 1) y0 y1 y2 y3 y4 y5 y6 y7 y8)) ∧ (∀ y0 y1 y2 y3 y4, LeO (impl_GraphPut.j1 k y0 y1 y2 y3 y4) (impl_GraphPut.j1 (k + 1) y0 y1 y2 y3 y4))
 | 0 => ⟨fun _ _ _ _ _ _ _ _ _ r h => by simp [impl_GraphPut.l0] at h, fun _ _ _ _ _ r h => by simp [impl_GraphPut.j1] at h⟩
 | k + 1 => by
  obtain ⟨ih0, ih1⟩ := impl_GraphPut.mono_l k
  refine ⟨?_, ?_⟩
  ·intro y0 y1 y2 y3 y4 y5 y6 y7 y8
   unfold impl_GraphPut.l0
   repeat' first
   | (with_reducible exact ih0 _ _ _ _ _ _ _ _ _)
   | (with_reducible exact ih1 _ _ _ _ _)
   | (with_reducible exact impl_GraphOk.mono _ _)
   | (with_reducible exact impl_copyGraph.mono _ _)
   | (with_reducible exact impl_itemAt.mono _ _ _ _)
   | (with_reducible exact LeO.refl _)
   | (with_reducible exact LeO.none _)
   | (with_reducible refine LeO.ite ?_ ?_)
   | (with_reducible refine LeO.bind ?_ (fun _ => ?_))
   | exact ih0 _ _ _ _ _ _ _ _ _
   | exact ih1 _ _ _ _ _
   | exact impl_GraphOk.mono _ _
   | exact impl_copyGraph.mono _ _
   | exact impl_itemAt.mono _ _ _ _
   | exact LeO.none _
   | refine LeO.ite ?_ ?_
   | refine LeO.bind ?_ (fun _ => ?_)
  ·intro y0 y1 y2 y3 y4
   unfold impl_GraphPut.j1
   repeat' first
   | (with_reducible exact ih0 _ _ _ _ _ _ _ _ _)
   | (with_reducible exact ih1 _ _ _ _ _)
   | (with_reducible exact impl_GraphOk.mono _ _)
   | (with_reducible exact impl_copyGraph.mono _ _)
   | (with_reducible exact impl_itemAt.mono _ _ _ _)
   | (with_reducible exact LeO.refl _)
   | (with_reducible exact LeO.none _)
   | (with_reducible refine LeO.ite ?_ ?_)
   | (with_reducible refine LeO.bind ?_ (fun _ => ?_))
   | exact ih0 _ _ _ _ _ _ _ _ _
   | exact ih1 _ _ _ _ _
   | exact impl_GraphOk.mono _ _
   | exact impl_copyGraph.mono _ _
   | exact impl_itemAt.mono _ _ _ _
   | exact LeO.none _
   | refine LeO.ite ?_ ?_
   | refine LeO.bind ?_ (fun _ => ?_)
theorem impl_GraphPut.mono : ∀ a0 a1 a2 a3 k, LeO (impl_GraphPut.f k a0 a1 a2 a3) (impl_GraphPut.f (k + 1) a0 a1 a2 a3) := by
 intro a0 a1 a2 a3 k
 obtain ⟨ih0, ih1⟩ := impl_GraphPut.mono_l k
 unfold impl_GraphPut.f
 repeat' first
   | (with_reducible exact ih0 _ _ _ _ _ _ _ _ _)
   | (with_reducible exact ih1 _ _ _ _ _)
   | (with_reducible exact impl_GraphOk.mono _ _)
   | (with_reducible exact impl_copyGraph.mono _ _)
   | (with_reducible exact impl_itemAt.mono _ _ _ _)
   | (with_reducible exact LeO.refl _)
   | (with_reducible exact LeO.none _)
   | (with_reducible refine LeO.ite ?_ ?_)
   | (with_reducible refine LeO.bind ?_ (fun _ => ?_))
   | exact ih0 _ _ _ _ _ _ _ _ _
   | exact ih1 _ _ _ _ _
   | exact impl_GraphOk.mono _ _
   | exact impl_copyGraph.mono _ _
   | exact impl_itemAt.mono _ _ _ _
   | exact LeO.none _
   | refine LeO.ite ?_ ?_
   | refine LeO.bind ?_ (fun _ => ?_)
def impl_GraphPut.T7 : Bool × List (List Nat × List Nat) := (true, [([], []), ([0], [0]), ([], []), ([2], [2]), ([], []), ([4], [4]), ([5], [5]), ([3, 6], [3, 6]), ([7], [7]), ([1, 8, 6], [1, 8]), ([0, 1, 2, 3, 4, 5, 6, 7, 8, 9], []), ([10, 9, 9, 0, 1, 2, 3, 4, 5, 6, 7, 8, 9], [9, 10])])
def impl_GraphPut.B7 : List Nat := [0, 1, 0, 4, 0, 16, 48, 124, 252, 511, 1023, 2047]
theorem impl_GraphPut.tab7 : rtab .any (opsOf Try.f17 7) = impl_GraphPut.T7 := by kernel_rfl
theorem impl_GraphPut.bits7 : waitsOk impl_GraphPut.T7.2 impl_GraphPut.B7 = true := by kernel_rfl
def impl_GraphPut.T12 : Bool × List (List Nat × List Nat) := (true, [([], []), ([0], [0]), ([], []), ([2], [2]), ([], []), ([4], [4]), ([5], [5]), ([3, 6], [3, 6]), ([7], [7]), ([1, 8, 6], [1, 8]), ([0, 1, 2, 3, 4, 5, 6, 7, 8, 9], []), ([10, 9, 9, 0, 1, 2, 3, 4, 5, 6, 7, 8, 9], [9, 10])])
def impl_GraphPut.B12 : List Nat := [0, 1, 0, 4, 0, 16, 48, 124, 252, 511, 1023, 2047]
theorem impl_GraphPut.tab12 : rtab .any (opsOf Try.f17 12) = impl_GraphPut.T12 := by kernel_rfl
theorem impl_GraphPut.bits12 : waitsOk impl_GraphPut.T12.2 impl_GraphPut.B12 = true := by kernel_rfl
set_option maxHeartbeats 8000000 in
set_option maxRecDepth 100000 in
theorem impl_GraphPut.calls (k : Nat) (A0_0 : Option Addr) (c0_0 : Nat) (l0_0 : List (S33)) (a1_0 : Int) (a1_1 : Int) (A1_2 : Option Addr) (c1_2 : Nat) (l1_2 : List (S31)) (r1 : List (S33)) (r2 : Bool) (w : World) (hr0_0 : Kd.C k33 w A0_0 l0_0.length l0_0) (hc0_0 : l0_0.length ≤ c0_0) (hr1_2 : Kd.C k31 w A1_2 l1_2.length l1_2) (hc1_2 : l1_2.length ≤ c1_2) (h : impl_GraphPut.f k l0_0 a1_0 a1_1 l1_2 = some (r1, r2)) :
  Calls Try.prog 17 #[.agg #[.slice A0_0 l0_0.length c0_0], .agg #[.int .i64 a1_0, .int .i64 a1_1, .slice A1_2 l1_2.length c1_2]] w fun e w' => ∃ v0_ : Value, e = .returned (.tuple #[.agg #[v0_], .bool r2]) ∧ Kd.N k33 33 w' w.heap.size (fun k_ => (w.heap.size ≤ k_)) v0_ r1 ∧ Below w.heap.size w w' := by
 have hu26 := Try.underlying26
 have hfd26 : ∀ (v : Value) (w : World), (Instr.field 26 (.agg #[v]) 0).run Try.prog w = .ok v w := fun _ _ => by first | kernel_rfl | rfl
 have hu33 := Try.underlying33
 have hu31 := Try.underlying31
 have HR0_0 := mS hr0_0
 have HC0_0 := mS hc0_0
 clear hr0_0 hc0_0
 have HR1_2 := mS hr1_2
 have HC1_2 := mS hc1_2
 clear hr1_2 hc1_2
 have HB := mS (Below.refl w.heap.size w)
 have H : ((impl_copyGraph.f k l0_0).bind fun t378 => (impl_GraphPut.l0 k false t378 (t378.length : Int) 0 l0_0 a1_0 a1_1 l1_2 ([] : List (S33)))) = some (r1, r2) := h
 clear h
 replace H := Option.bind_eq_some_iff.mp H
 obtain ⟨t378, A30, H⟩ := H
 replace H : (impl_GraphPut.l0 k false t378 (t378.length : Int) 0 l0_0 a1_0 a1_1 l1_2 ([] : List (S33))) = some (r1, r2) := H
 have A3 := mS A30
 clear A30
 have H' := mS H
 clear H
 go_enter Try.func17, Try.ntmps17
 go_wp2_with (first | ((with_reducible refine gate_dst (N := 2) rfl ?_); refine mBx 2 #[.slice A0_0 l0_0.length c0_0] 26 ?_; intro gb374 hg w4 hbox hb; have BK374 := mS (hbox); have GW374 := mG hg (mH HB.out); have GE374 := mG hg (mH HB.out); replace HB := mS (below_step (mH HB.out) hb); clear hb hbox hg) | ((with_reducible refine gate_dst (N := 3) rfl ?_); refine mBx 3 #[.int .i64 a1_0, .int .i64 a1_1, .slice A1_2 l1_2.length c1_2] 33 ?_; intro gb375 hg w5 hbox hb; have BK375 := mS (hbox); have GW375 := mG hg (mH1 HB.out GE374.out); have GE375 := mG hg (mH1 HB.out GE374.out); replace HB := mS (below_step (mH1 HB.out GE374.out) hb); have NB374_375 := mNl hg BK374.out; have NB375_374 := mNg hg BK374.out; replace BK374 := mB BK374 hb; clear hb hbox hg) | ((with_reducible refine gate_dst (N := 4) rfl ?_); refine mBx 4 #[.slice none 0 0] 26 ?_; intro gb376 hg w6 hbox hb; have BK376 := mS (hbox); have GW376 := mG hg (mH2 HB.out GE374.out GE375.out); have GE376 := mG hg (mH2 HB.out GE374.out GE375.out); replace HB := mS (below_step (mH2 HB.out GE374.out GE375.out) hb); have NB374_376 := mNl hg BK374.out; have NB376_374 := mNg hg BK374.out; replace BK374 := mB BK374 hb; have NB375_376 := mNl hg BK375.out; have NB376_375 := mNg hg BK375.out; replace BK375 := mB BK375 hb; clear hb hbox hg) | ((with_reducible refine gate_dst (N := 6) rfl ?_); refine mBx 6 #[.slice none 0 0] 26 ?_; intro gb377 hg w7 hbox hb; have BK377 := mS (hbox); have GW377 := mG hg (mH3 HB.out GE374.out GE375.out GE376.out); have GE377 := mG hg (mH3 HB.out GE374.out GE375.out GE376.out); replace HB := mS (below_step (mH3 HB.out GE374.out GE375.out GE376.out) hb); have NB374_377 := mNl hg BK374.out; have NB377_374 := mNg hg BK374.out; replace BK374 := mB BK374 hb; have NB375_377 := mNl hg BK375.out; have NB377_375 := mNg hg BK375.out; replace BK375 := mB BK375 hb; have NB376_377 := mNl hg BK376.out; have NB377_376 := mNg hg BK376.out; replace BK376 := mB BK376 hb; clear hb hbox hg; have hnb8 := NB374_375.out; have hnc8 := NB375_374.out; have hnb9 := NB374_376.out; have hnc9 := NB376_374.out; have hnb10 := NB374_377.out; have hnc10 := NB377_374.out; have hcz11_0 := mZ BK374.out 0; have hfz11_0 := blk_frozen BK374.out 0) | ((with_reducible refine gate_callee (f := 63) rfl ?_); refine mGo 11 Try.func63 #[.agg #[.slice A0_0 l0_0.length c0_0]] ?_; (with_reducible refine (impl_copyGraph.calls k _ _ l0_0 t378 _ ?side1 ?side2 A3.out).mono ?_); (case side1 => exact mC (Kd.C_below HR0_0.out HB.out)); (case side2 => exact HC0_0.out); rintro e w12 ⟨v379, rfl, ho0, hb⟩; refine ⟨_, rfl, ?_⟩; have HO380 := mS (Kd.N_lower (Kd.N_mono (ok' := fun k_ => (w.heap.size ≤ k_) ∧ k_ ≠ gb374 ∧ k_ ≠ gb375 ∧ k_ ≠ gb376 ∧ k_ ≠ gb377) (Kd.S_N (Kd.S_bound ho0)) (fun k_ hk_ => ⟨(Nat.le_trans (below_size (mH4 HB.out GE374.out GE375.out GE376.out GE377.out)) hk_.2.1), (Kd.freshB (g := gb374) (o := .cells #[.slice A0_0 l0_0.length c0_0] 26 (0, 0)) (mK BK374.out) k_ hk_.2.1), (Kd.freshB (g := gb375) (o := .cells #[.int .i64 a1_0, .int .i64 a1_1, .slice A1_2 l1_2.length c1_2] 33 (0, 0)) (mK BK375.out) k_ hk_.2.1), (Kd.freshB (g := gb376) (o := .cells #[.slice none 0 0] 26 (0, 0)) (mK BK376.out) k_ hk_.2.1), (Kd.freshB (g := gb377) (o := .cells #[.slice none 0 0] 26 (0, 0)) (mK BK377.out) k_ hk_.2.1)⟩)) (below_size (mH4 HB.out GE374.out GE375.out GE376.out GE377.out))); replace BK374 := mB BK374 hb; replace BK375 := mB BK375 hb; replace BK376 := mB BK376 hb; replace BK377 := mB BK377 hb; replace HB := mS (below_step (mH4 HB.out GE374.out GE375.out GE376.out GE377.out) hb); (try clear hb); (try clear ho0); obtain ⟨Ao13, co13, eo13⟩ := Kd.N_slice HO380.out; subst eo13))
 go_loopg [7, 14] k (fun kq v7 v14 w' => ∃ (x7_1 : Bool) (x14_1 : Int) (x378000_1 : List (S33)) (u378000 : Value), v7 = .bool x7_1 ∧ v14 = .int .i64 x14_1 ∧ Aside0 (impl_GraphPut.l0 kq x7_1 t378 (t378.length : Int) x14_1 l0_0 a1_0 a1_1 l1_2 x378000_1 = some (r1, r2)) ∧ Aside0 (kq ≤ k) ∧ Aside0 (Kd.N k33 33 w' w.heap.size (fun k_ => (w.heap.size ≤ k_) ∧ some k_ ≠ (u378000 : Value).ownBlock ∧ k_ ≠ gb374 ∧ k_ ≠ gb375 ∧ k_ ≠ gb376 ∧ k_ ≠ gb377) (.slice Ao13 t378.length co13) t378) ∧ Aside0 (Kd.N k33 33 w' w.heap.size (fun k_ => (w.heap.size ≤ k_) ∧ some k_ ≠ ((.slice Ao13 t378.length co13) : Value).ownBlock ∧ k_ ≠ gb374 ∧ k_ ≠ gb375 ∧ k_ ≠ gb376 ∧ k_ ≠ gb377) u378000 x378000_1) ∧ Aside0 (w'.heap[gb374]? = some (.cells #[(.slice A0_0 l0_0.length c0_0)] 26 (0, 0))) ∧ Aside0 (w'.heap[gb375]? = some (.cells #[.int .i64 a1_0, .int .i64 a1_1, (.slice A1_2 l1_2.length c1_2)] 33 (0, 0))) ∧ Aside0 (w'.heap[gb376]? = some (.cells #[(.slice none 0 0)] 26 (0, 0))) ∧ Aside0 (w'.heap[gb377]? = some (.cells #[u378000] 26 (0, 0))) ∧ Aside0 (Below w.heap.size w w'))
 case atStart => exact ⟨(false), (0), (([] : List (S33))), (.slice none 0 0), mE, mE, H', ⟨Nat.le_refl _⟩, ⟨by refine mNd ?_; exact Kd.N_mono HO380.out (fun _ hk => ⟨hk.1, ⟨(by simp [Value.ownBlock]), ⟨hk.2.1, ⟨hk.2.2.1, ⟨hk.2.2.2.1, hk.2.2.2.2⟩⟩⟩⟩⟩)⟩, ⟨by first | exact Kd.S_nil _ _ _ _ _ | exact Kd.N_nil _ _ _ _ _ | exact Kd.V_nil _ _ _ _ _ | exact Kd.Q_nil _ _ _ _ _ | exact Kd.R_nil _ _ _ _ _⟩, ⟨mK BK374.out⟩, ⟨mK BK375.out⟩, ⟨mK BK376.out⟩, ⟨mK BK377.out⟩, ⟨(mH4 HB.out GE374.out GE375.out GE376.out GE377.out)⟩⟩
 case round =>
  clear H'
  try clear c1
  try clear p2
  try clear c6
  try clear c8
  try clear c9
  try clear c10
  try clear hcz11_0
  try clear hfz11_0
  obtain ⟨x7_1, x14_1, x378000_1, u378000, rfl, rfl, HA, HK1, HO_12, HO_378000, BK374, BK375, BK376, BK377, HB⟩ := hrel
  cases gk with
  | zero => exact absurd HA.out (by simp [impl_GraphPut.l0])
  | succ k1 =>
   have H := HA.out
   clear HA
   simp only [impl_GraphPut.l0] at H
   by_cases c14 : x14_1 < (t378.length : Int)
   ·rw [if_pos c14] at H
    have c14b0 := decide_eq_true c14
    clear c14
    by_cases c15 : 0 ≤ x14_1
    ·rw [if_pos c15] at H
     have c15b0 := decide_eq_true c15
     clear c15
     by_cases c16 : x14_1 < (t378.length : Int)
     ·rw [if_pos c16] at H
      have c16b0 := decide_eq_true c16
      clear c16
      by_cases c17 : x7_1 = true
      ·subst c17
       have H1 := H
       rw [if_pos rfl] at H1
       clear H
       have H := H1
       clear H1
       by_cases c18 : x378000_1.length < 3518437208883
       ·rw [if_pos c18] at H
        have LMc18 := mS c18
        clear c18
        obtain ⟨y383, hy383⟩ : ∃ y_ : List (S33), y_ = (x378000_1 ++ [(⟨(⟨(rd_T33 t378 x14_1).f0.f0, (rd_T33 t378 x14_1).f0.f1⟩ : S31), (rd_T33 t378 x14_1).f1⟩ : S33)]) := ⟨_, rfl⟩
        replace H : (impl_GraphPut.l0 k1 true t378 (t378.length : Int) (wrap64 (x14_1 + 1)) l0_0 a1_0 a1_1 l1_2 y383) = some (r1, r2) := by first | (rw [hy383]; with_reducible exact H) | (have H2_ := (Option.bind_some _ _).symm.trans H; rw [hy383]; with_reducible exact H2_) | (have H2_ := (Option.bind_some _ _).symm.trans H; with_reducible exact H2_) | with_reducible exact H | (rw [hy383]; exact H) | exact H
        have Ny383 := mS hy383
        clear hy383
        have H' := mS H
        clear H
        have p381 : 0 ≤ (x14_1 : Int) := mD
        have q381 : x14_1 < (t378.length : Int) := mD
        obtain ⟨ad381, A381_2, c381_2, e381, hx381_0, hx381_1, hx381_2, hl381_2, hi381_2⟩ := at_T33 (Kd.N_reads' HO_12.out).2.2 x14_1 p381 q381
        cases e381
        obtain ⟨ce381, hce381, hMe381, hcc381⟩ := Kd.N_get HO_12.out z33 x14_1 p381 (by first | exact q381 | exact mD | (have e_ := (Kd.N_reads' HO_12.out).1; omega))
        obtain ⟨ua381_2, uc381_2, rfl, ul381_2, ge381_2⟩ := k33_openF hMe381
        have hv381_2 := hcc381 2 _ rfl
        rw [add_field _ _ 2 (by omega)] at hv381_2
        replace hv381_2 := Option.some.inj (hv381_2.symm.trans hx381_2)
        injection hv381_2 with hva_ hvn_ hvc_
        rw [hva_] at ge381_2
        rw [hvc_] at ul381_2
        have HL381_2 := mS (show Kd.V k31 31 _ w.heap.size _ _ ((rd_T33 t378 x14_1).f1) from Kd.V_mk ul381_2 ge381_2)
        clear hva_ hvn_ hvc_ ge381_2 ul381_2
        clear hcc381 hce381
        have HR381_2 := mS hi381_2
        have HC381_2 := mS hl381_2
        clear hi381_2 hl381_2
        replace p381 := eq_true p381
        replace q381 := eq_true q381
        go_wp2_with (first | ((with_reducible refine gate_dst (N := 9) rfl ?_); refine mBx 9 #[.int .i64 0, .int .i64 0, .slice none 0 0] 33 ?_; intro gb382 hg w19 hbox hb; replace HO_12 := mS (Kd.N_below (Kd.N_elderB (mNd HO_12.out) gb382 (Nat.le_of_eq hg.symm)) hb); replace HO_378000 := mS (Kd.N_below (Kd.N_elderB (mNd HO_378000.out) gb382 (Nat.le_of_eq hg.symm)) hb); replace HL381_2 := mS (Kd.V_below (Kd.V_elderB (mVd HL381_2.out) gb382 (Nat.le_of_eq hg.symm)) hb); replace HR381_2 := mS (Kd.C_below (by repeat (first | (with_reducible exact HR381_2.out) | (with_reducible refine Kd.C_alloc ?_ _) | (with_reducible refine Kd.C_drewN ?_ _) | (with_reducible refine Kd.C_drew ?_) | exact HR381_2.out)) hb); have BK382 := mS (hbox); have GW382 := mG hg (mH4 HB.out GE374.out GE375.out GE376.out GE377.out); have GE382 := mG hg (mH4 HB.out GE374.out GE375.out GE376.out GE377.out); replace HB := mS (below_step (mH4 HB.out GE374.out GE375.out GE376.out GE377.out) hb); have NB374_382 := mNl hg BK374.out; have NB382_374 := mNg hg BK374.out; replace BK374 := mB BK374 hb; have NB375_382 := mNl hg BK375.out; have NB382_375 := mNg hg BK375.out; replace BK375 := mB BK375 hb; have NB376_382 := mNl hg BK376.out; have NB382_376 := mNg hg BK376.out; replace BK376 := mB BK376 hb; have NB377_382 := mNl hg BK377.out; have NB382_377 := mNg hg BK377.out; replace BK377 := mB BK377 hb; clear hb hbox hg; have hnb20 := NB382_374.out; have hnc20 := NB374_382.out; have hnb21 := NB382_375.out; have hnc21 := NB375_382.out; have hnb22 := NB382_376.out; have hnc22 := NB376_382.out; have hnb23 := NB382_377.out; have hnc23 := NB377_382.out; obtain ⟨hcz24_0, hcz24_1, hcz24_2, hfz24_0, hfz24_1, hfz24_2⟩ := mZ3 BK382.out) | ((with_reducible refine gate_store (t := 33) (p := 9) rfl ?_); refine store_event (t := 33) (p := 9) (v := ?vo_w25) (w1 := (((w19.setCell ⟨gb382, 0, none⟩ (.int .i64 ((rd_T33 t378 x14_1).f0.f0))).setCell ⟨gb382, 1, none⟩ (.int .i64 ((rd_T33 t378 x14_1).f0.f1))).setCell ⟨gb382, 2, none⟩ (.slice A381_2 ((rd_T33 t378 x14_1).f1).length c381_2))) ?hg ?ho ?hn ?hr ?_; (case ho => rfl); (case hg => rfl); (case hn => rfl); (case hr => first | (go_simp; done) | (go_simp; rfl)); intro w25 hw; have n0_ : Aside0 (Kd.N k33 33 w25 w.heap.size (fun k_ => (w.heap.size ≤ k_) ∧ some k_ ≠ (u378000 : Value).ownBlock ∧ k_ ≠ gb374 ∧ k_ ≠ gb375 ∧ k_ ≠ gb376 ∧ k_ ≠ gb377 ∧ k_ ≠ gb382) (.slice (some ad381) t378.length co13) t378) := ⟨(by rw [hw]; exact (by refine mNd ?_; exact Kd.N_mono (mNf3 (Kd.N_mono HO_12.out (fun k_ hk => (⟨hk, hk.2⟩ : _ ∧ k_ ≠ gb382)))) (fun _ hk => ⟨hk.1.1.1, ⟨hk.1.1.2.1, ⟨hk.1.1.2.2.1, ⟨hk.1.1.2.2.2.1, ⟨hk.1.1.2.2.2.2.1, ⟨hk.1.1.2.2.2.2.2, hk.1.2⟩⟩⟩⟩⟩⟩)))⟩; have n1_ : Aside0 (Kd.N k33 33 w25 w.heap.size (fun k_ => (w.heap.size ≤ k_) ∧ some k_ ≠ (.slice (some ad381) t378.length co13 : Value).ownBlock ∧ k_ ≠ gb374 ∧ k_ ≠ gb375 ∧ k_ ≠ gb376 ∧ k_ ≠ gb377 ∧ k_ ≠ gb382) u378000 x378000_1) := ⟨(by rw [hw]; exact (by refine mNd ?_; exact Kd.N_mono (mNf3 (Kd.N_mono HO_378000.out (fun k_ hk => (⟨hk, hk.2⟩ : _ ∧ k_ ≠ gb382)))) (fun _ hk => ⟨hk.1.1.1, ⟨hk.1.1.2.1, ⟨hk.1.1.2.2.1, ⟨hk.1.1.2.2.2.1, ⟨hk.1.1.2.2.2.2.1, ⟨hk.1.1.2.2.2.2.2, hk.1.2⟩⟩⟩⟩⟩⟩)))⟩; have n2_ : Aside0 (Kd.V k31 31 w25 w.heap.size (fun k_ => (w.heap.size ≤ k_) ∧ some k_ ≠ (.slice (some ad381) t378.length co13 : Value).ownBlock ∧ some k_ ≠ (u378000 : Value).ownBlock ∧ k_ ≠ gb374 ∧ k_ ≠ gb375 ∧ k_ ≠ gb376 ∧ k_ ≠ gb377 ∧ k_ ≠ gb382) (.slice A381_2 ((rd_T33 t378 x14_1).f1).length c381_2) ((rd_T33 t378 x14_1).f1)) := ⟨(by rw [hw]; exact (by refine mVd ?_; exact Kd.V_mono (Kd.V_far (p := ⟨gb382, 2, none⟩) (Kd.V_far (p := ⟨gb382, 1, none⟩) (Kd.V_far (p := ⟨gb382, 0, none⟩) (Kd.V_mono HL381_2.out (fun k_ hk => (⟨hk, hk.2⟩ : _ ∧ k_ ≠ gb382))) (fun _ hk => hk.2) (.int .i64 ((rd_T33 t378 x14_1).f0.f0))) (fun _ hk => hk.2) (.int .i64 ((rd_T33 t378 x14_1).f0.f1))) (fun _ hk => hk.2) (.slice A381_2 ((rd_T33 t378 x14_1).f1).length c381_2)) (fun _ hk => ⟨hk.1.1.1.1, ⟨hk.1.1.2, ⟨hk.1.1.1.2.1, ⟨hk.1.1.1.2.2.1, ⟨hk.1.1.1.2.2.2.1, ⟨hk.1.1.1.2.2.2.2.1, ⟨hk.1.1.1.2.2.2.2.2, hk.1.2⟩⟩⟩⟩⟩⟩⟩)))⟩; have n3_ : Aside0 (w25.heap[gb374]? = some (.cells #[.slice A0_0 l0_0.length c0_0] 26 (0, 0))) := ⟨(by rw [hw]; exact (mKf NB374_382.out BK374.out))⟩; have n4_ : Aside0 (w25.heap[gb375]? = some (.cells #[.int .i64 a1_0, .int .i64 a1_1, .slice A1_2 l1_2.length c1_2] 33 (0, 0))) := ⟨(by rw [hw]; exact (mKf NB375_382.out BK375.out))⟩; have n5_ : Aside0 (w25.heap[gb376]? = some (.cells #[.slice none 0 0] 26 (0, 0))) := ⟨(by rw [hw]; exact (mKf NB376_382.out BK376.out))⟩; have n6_ : Aside0 (w25.heap[gb377]? = some (.cells #[u378000] 26 (0, 0))) := ⟨(by rw [hw]; exact (mKf NB377_382.out BK377.out))⟩; have n7_ : Aside0 (w25.heap[gb382]? = some (.cells #[.int .i64 ((rd_T33 t378 x14_1).f0.f0), .int .i64 ((rd_T33 t378 x14_1).f0.f1), .slice A381_2 ((rd_T33 t378 x14_1).f1).length c381_2] 33 (0, 0))) := ⟨(by rw [hw]; exact (by refine mK ?_; refine blk_put (cs := #[.int .i64 ((rd_T33 t378 x14_1).f0.f0), .int .i64 ((rd_T33 t378 x14_1).f0.f1), .slice none 0 0]) ?_ 2 _ rfl; refine mK ?_; refine blk_put (cs := #[.int .i64 ((rd_T33 t378 x14_1).f0.f0), .int .i64 0, .slice none 0 0]) ?_ 1 _ rfl; refine mK ?_; refine blk_put (cs := #[.int .i64 0, .int .i64 0, .slice none 0 0]) ?_ 0 _ rfl; refine mK ?_; exact BK382.out))⟩; have n8_ : Aside0 (Below w.heap.size w w25) := ⟨(by rw [hw]; exact (mH5 HB.out GE374.out GE375.out GE376.out GE377.out GE382.out))⟩; clear hw; clear HO_12; clear HO_378000; clear HL381_2; clear BK374; clear BK375; clear BK376; clear BK377; clear BK382; clear HB; have HO_12 := n0_; have HO_378000 := n1_; have HL381_2 := n2_; have BK374 := n3_; have BK375 := n4_; have BK376 := n5_; have BK377 := n6_; have BK382 := n7_; have HB := n8_; clear n0_ n1_ n2_ n3_ n4_ n5_ n6_ n7_ n8_; have hnb26 := NB377_374.out; have hnc26 := NB374_377.out; have hnb27 := NB377_375.out; have hnc27 := NB375_377.out; have hnb28 := NB377_376.out; have hnc28 := NB376_377.out; have hcz29_0 := mZ BK377.out 0; have hfz29_0 := blk_frozen BK377.out 0; obtain ⟨hcz30_0, hcz30_1, hcz30_2, hfz30_0, hfz30_1, hfz30_2⟩ := mZ3 BK382.out) | ((with_reducible refine gate_builtin (b := .append) (xs := #[.tmp 39, .tmp 41]) rfl ?_); at_builtin; refine Kd.N_append k33 (w0 := w) w.heap.size rfl (.tmp 39) (.tmp 41) 24 33 (.agg #[(.int .i64 0), (.int .i64 0), (.slice none 0 0)]) 40 rfl Try.underlying24 info33 rfl (by decide) (by omega) u378000 x378000_1 (⟨(⟨(rd_T33 t378 x14_1).f0.f0, (rd_T33 t378 x14_1).f0.f1⟩ : S31), (rd_T33 t378 x14_1).f1⟩ : S33) [.int .i64 ((rd_T33 t378 x14_1).f0.f0), .int .i64 ((rd_T33 t378 x14_1).f0.f1), .slice A381_2 ((rd_T33 t378 x14_1).f1).length c381_2] (fun k_ => (w.heap.size ≤ k_) ∧ some k_ ≠ (.slice (some ad381) t378.length co13 : Value).ownBlock ∧ k_ ≠ gb374 ∧ k_ ≠ gb375 ∧ k_ ≠ gb376 ∧ k_ ≠ gb377 ∧ k_ ≠ gb382) (fun k_ => ((fun k_ => (w.heap.size ≤ k_) ∧ some k_ ≠ (.slice (some ad381) t378.length co13 : Value).ownBlock ∧ k_ ≠ gb374 ∧ k_ ≠ gb375 ∧ k_ ≠ gb376 ∧ k_ ≠ gb377 ∧ k_ ≠ gb382)) k_ ∧ some k_ ≠ (u378000 : Value).ownBlock) rfl rfl ?aP (fun _ hk => hk) ?aF ?aO ?aB ?aS ?aL ?_; (case aP => exact (k33_mkF _ _ (⟨(⟨(rd_T33 t378 x14_1).f0.f0, (rd_T33 t378 x14_1).f0.f1⟩ : S31), (rd_T33 t378 x14_1).f1⟩ : S33) (Kd.V_reads' (Kd.V_mono (ok' := (fun k_ => ((fun k_ => (w.heap.size ≤ k_) ∧ some k_ ≠ (.slice (some ad381) t378.length co13 : Value).ownBlock ∧ k_ ≠ gb374 ∧ k_ ≠ gb375 ∧ k_ ≠ gb376 ∧ k_ ≠ gb377 ∧ k_ ≠ gb382)) k_ ∧ some k_ ≠ (u378000 : Value).ownBlock)) (HL381_2.out) (fun k_ hk => ⟨⟨hk.1, ⟨hk.2.1, ⟨hk.2.2.2.1, ⟨hk.2.2.2.2.1, ⟨hk.2.2.2.2.2.1, ⟨hk.2.2.2.2.2.2.1, hk.2.2.2.2.2.2.2⟩⟩⟩⟩⟩⟩, hk.2.2.1⟩))).2.1 (Kd.V_F (Kd.V_mono (ok' := (fun k_ => ((fun k_ => (w.heap.size ≤ k_) ∧ some k_ ≠ (.slice (some ad381) t378.length co13 : Value).ownBlock ∧ k_ ≠ gb374 ∧ k_ ≠ gb375 ∧ k_ ≠ gb376 ∧ k_ ≠ gb377 ∧ k_ ≠ gb382)) k_ ∧ some k_ ≠ (u378000 : Value).ownBlock)) (HL381_2.out) (fun k_ hk => ⟨⟨hk.1, ⟨hk.2.1, ⟨hk.2.2.2.1, ⟨hk.2.2.2.2.1, ⟨hk.2.2.2.2.2.1, ⟨hk.2.2.2.2.2.2.1, hk.2.2.2.2.2.2.2⟩⟩⟩⟩⟩⟩, hk.2.2.1⟩))))); (case aB => exact (mH5 HB.out GE374.out GE375.out GE376.out GE377.out GE382.out)); (case aF => exact (fun k_ hk => ⟨(Nat.le_trans (below_size (mH5 HB.out GE374.out GE375.out GE376.out GE377.out GE382.out)) hk), Kd.fresh' (Kd.N_lt (mNd HO_12.out)) k_ hk, Kd.freshB (g := gb374) (o := .cells #[.slice A0_0 l0_0.length c0_0] 26 (0, 0)) (mK BK374.out) k_ hk, Kd.freshB (g := gb375) (o := .cells #[.int .i64 a1_0, .int .i64 a1_1, .slice A1_2 l1_2.length c1_2] 33 (0, 0)) (mK BK375.out) k_ hk, Kd.freshB (g := gb376) (o := .cells #[.slice none 0 0] 26 (0, 0)) (mK BK376.out) k_ hk, Kd.freshB (g := gb377) (o := .cells #[u378000] 26 (0, 0)) (mK BK377.out) k_ hk, Kd.freshB (g := gb382) (o := .cells #[.int .i64 ((rd_T33 t378 x14_1).f0.f0), .int .i64 ((rd_T33 t378 x14_1).f0.f1), .slice A381_2 ((rd_T33 t378 x14_1).f1).length c381_2] 33 (0, 0)) (mK BK382.out) k_ hk⟩)); (case aO => exact (mNd HO_378000.out)); (case aS => exact (below_size (mH5 HB.out GE374.out GE375.out GE376.out GE377.out GE382.out))); (case aL => have := LMc18.out; omega); intro v384 w31 ho hb hg hat; rw [← Ny383.out] at ho; replace HO_12 := mS (Kd.N_afterv (ok := (fun k_ => (w.heap.size ≤ k_) ∧ k_ ≠ gb374 ∧ k_ ≠ gb375 ∧ k_ ≠ gb376 ∧ k_ ≠ gb377 ∧ k_ ≠ gb382)) (by refine mNd ?_; exact Kd.N_mono HO_12.out (fun _ hk => ⟨⟨hk.1, ⟨hk.2.2.1, ⟨hk.2.2.2.1, ⟨hk.2.2.2.2.1, ⟨hk.2.2.2.2.2.1, hk.2.2.2.2.2.2⟩⟩⟩⟩⟩, hk.2.1⟩)) hg hat); replace BK374 := mS (blk_grown (g := gb374) (o := .cells #[.slice A0_0 l0_0.length c0_0] 26 (0, 0)) (mK BK374.out) hg (Kd.N_ne HO_378000.out BK374.out (by decide))); replace BK375 := mS (blk_grown (g := gb375) (o := .cells #[.int .i64 a1_0, .int .i64 a1_1, .slice A1_2 l1_2.length c1_2] 33 (0, 0)) (mK BK375.out) hg (Kd.N_away HO_378000.out (fun _ hk => hk.2.2.2.1))); replace BK376 := mS (blk_grown (g := gb376) (o := .cells #[.slice none 0 0] 26 (0, 0)) (mK BK376.out) hg (Kd.N_ne HO_378000.out BK376.out (by decide))); replace BK377 := mS (blk_grown (g := gb377) (o := .cells #[u378000] 26 (0, 0)) (mK BK377.out) hg (Kd.N_ne HO_378000.out BK377.out (by decide))); replace HL381_2 := mS (Kd.V_afterv (ok := (fun k_ => (w.heap.size ≤ k_) ∧ some k_ ≠ (.slice (some ad381) t378.length co13 : Value).ownBlock ∧ k_ ≠ gb374 ∧ k_ ≠ gb375 ∧ k_ ≠ gb376 ∧ k_ ≠ gb377 ∧ k_ ≠ gb382)) (by refine mVd ?_; exact Kd.V_mono HL381_2.out (fun _ hk => ⟨⟨hk.1, ⟨hk.2.1, ⟨hk.2.2.2.1, ⟨hk.2.2.2.2.1, ⟨hk.2.2.2.2.2.1, ⟨hk.2.2.2.2.2.2.1, hk.2.2.2.2.2.2.2⟩⟩⟩⟩⟩⟩, hk.2.2.1⟩)) hg hat); replace BK382 := mS (blk_grown (g := gb382) (o := .cells #[.int .i64 ((rd_T33 t378 x14_1).f0.f0), .int .i64 ((rd_T33 t378 x14_1).f0.f1), .slice A381_2 ((rd_T33 t378 x14_1).f1).length c381_2] 33 (0, 0)) (mK BK382.out) hg (Kd.N_away HO_378000.out (fun _ hk => hk.2.2.2.2.2.2))); replace HB := mS (hb); have HO385 := mS (ho); clear HO_378000; clear ho hb hg hat; obtain ⟨Ao32, co32, eo32⟩ := Kd.N_slice HO385.out; subst eo32; have hcz33_0 := mZ BK377.out 0; have hfz33_0 := blk_frozen BK377.out 0))
        go_roundg k1
        case measure => have := HK1.out; omega
        case rel => exact ⟨(true), (wrap64 (x14_1 + 1)), (y383), (.slice Ao32 y383.length co32), mE, mE, H', ⟨by have := HK1.out; omega⟩, ⟨by refine mNd ?_; exact Kd.N_mono (Kd.N_far (p := ⟨gb377, 0, none⟩) (Kd.N_mono HO_12.out (fun k_ hk => (⟨hk, hk.1.2.2.2.2.1⟩ : _ ∧ k_ ≠ gb377))) (fun _ hk => hk.2) (.slice Ao32 y383.length co32)) (fun _ hk => ⟨hk.1.1.1, ⟨hk.1.2, ⟨hk.1.1.2.1, ⟨hk.1.1.2.2.1, ⟨hk.1.1.2.2.2.1, hk.1.1.2.2.2.2.1⟩⟩⟩⟩⟩)⟩, ⟨by refine mNd ?_; exact Kd.N_mono (Kd.N_far (p := ⟨gb377, 0, none⟩) (Kd.N_mono HO385.out (fun k_ hk => (⟨hk, hk.2.2.2.2.2.1⟩ : _ ∧ k_ ≠ gb377))) (fun _ hk => hk.2) (.slice Ao32 y383.length co32)) (fun _ hk => ⟨hk.1.1, ⟨hk.1.2.1, ⟨hk.1.2.2.1, ⟨hk.1.2.2.2.1, ⟨hk.1.2.2.2.2.1, hk.1.2.2.2.2.2.1⟩⟩⟩⟩⟩)⟩, ⟨mKf NB374_377.out BK374.out⟩, ⟨mKf NB375_377.out BK375.out⟩, ⟨mKf NB376_377.out BK376.out⟩, ⟨by refine mK ?_; refine blk_put (cs := #[u378000]) ?_ 0 _ rfl; refine mK ?_; exact BK377.out⟩, ⟨(mH5 HB.out GE374.out GE375.out GE376.out GE377.out GE382.out)⟩⟩
       ·rw [if_neg c18] at H
        exact absurd H (by simp)
      ·replace c17 := Bool.eq_false_iff.mpr c17
       subst c17
       have H1 := H
       rw [if_neg (show ¬ (false = true) by decide)] at H1
       clear H
       have H := H1
       clear H1
       replace H := Option.bind_eq_some_iff.mp H
       obtain ⟨t386, A340, H⟩ := H
       replace H : (if t386 = true then ((impl_copyDots.f l1_2).bind fun t387 => (if x378000_1.length < 3518437208883 then ((some (x378000_1 ++ [(⟨(⟨a1_0, a1_1⟩ : S31), t387⟩ : S33)] : List (S33))).bind fun y390 => (if y390.length < 3518437208883 then (impl_GraphPut.l0 k1 true t378 (t378.length : Int) (wrap64 (x14_1 + 1)) l0_0 a1_0 a1_1 l1_2 (y390 ++ [(⟨(⟨(rd_T33 t378 x14_1).f0.f0, (rd_T33 t378 x14_1).f0.f1⟩ : S31), (rd_T33 t378 x14_1).f1⟩ : S33)])) else (none))) else (none))) else (if x378000_1.length < 3518437208883 then (impl_GraphPut.l0 k1 false t378 (t378.length : Int) (wrap64 (x14_1 + 1)) l0_0 a1_0 a1_1 l1_2 (x378000_1 ++ [(⟨(⟨(rd_T33 t378 x14_1).f0.f0, (rd_T33 t378 x14_1).f0.f1⟩ : S31), (rd_T33 t378 x14_1).f1⟩ : S33)])) else (none))) = some (r1, r2) := H
       have A34 := mS A340
       clear A340
       by_cases c35 : t386 = true
       ·subst c35
        have H1 := H
        rw [if_pos rfl] at H1
        clear H
        have H := H1
        clear H1
        replace H := Option.bind_eq_some_iff.mp H
        obtain ⟨t387, A360, H⟩ := H
        replace H : (if x378000_1.length < 3518437208883 then ((some (x378000_1 ++ [(⟨(⟨a1_0, a1_1⟩ : S31), t387⟩ : S33)] : List (S33))).bind fun y390 => (if y390.length < 3518437208883 then (impl_GraphPut.l0 k1 true t378 (t378.length : Int) (wrap64 (x14_1 + 1)) l0_0 a1_0 a1_1 l1_2 (y390 ++ [(⟨(⟨(rd_T33 t378 x14_1).f0.f0, (rd_T33 t378 x14_1).f0.f1⟩ : S31), (rd_T33 t378 x14_1).f1⟩ : S33)])) else (none))) else (none)) = some (r1, r2) := H
        have A36 := mS A360
        clear A360
        by_cases c37 : x378000_1.length < 3518437208883
        ·rw [if_pos c37] at H
         have LMc37 := mS c37
         clear c37
         obtain ⟨y390, hy390⟩ : ∃ y_ : List (S33), y_ = (x378000_1 ++ [(⟨(⟨a1_0, a1_1⟩ : S31), t387⟩ : S33)]) := ⟨_, rfl⟩
         replace H : (if y390.length < 3518437208883 then (impl_GraphPut.l0 k1 true t378 (t378.length : Int) (wrap64 (x14_1 + 1)) l0_0 a1_0 a1_1 l1_2 (y390 ++ [(⟨(⟨(rd_T33 t378 x14_1).f0.f0, (rd_T33 t378 x14_1).f0.f1⟩ : S31), (rd_T33 t378 x14_1).f1⟩ : S33)])) else (none)) = some (r1, r2) := by first | (rw [hy390]; with_reducible exact H) | (have H2_ := (Option.bind_some _ _).symm.trans H; rw [hy390]; with_reducible exact H2_) | (have H2_ := (Option.bind_some _ _).symm.trans H; with_reducible exact H2_) | with_reducible exact H | (rw [hy390]; exact H) | exact H
         have Ny390 := mS hy390
         clear hy390
         by_cases c38 : y390.length < 3518437208883
         ·rw [if_pos c38] at H
          have LMc38 := mS c38
          clear c38
          obtain ⟨y393, hy393⟩ : ∃ y_ : List (S33), y_ = (y390 ++ [(⟨(⟨(rd_T33 t378 x14_1).f0.f0, (rd_T33 t378 x14_1).f0.f1⟩ : S31), (rd_T33 t378 x14_1).f1⟩ : S33)]) := ⟨_, rfl⟩
          replace H : (impl_GraphPut.l0 k1 true t378 (t378.length : Int) (wrap64 (x14_1 + 1)) l0_0 a1_0 a1_1 l1_2 y393) = some (r1, r2) := by first | (rw [hy393]; with_reducible exact H) | (have H2_ := (Option.bind_some _ _).symm.trans H; rw [hy393]; with_reducible exact H2_) | (have H2_ := (Option.bind_some _ _).symm.trans H; with_reducible exact H2_) | with_reducible exact H | (rw [hy393]; exact H) | exact H
          have Ny393 := mS hy393
          clear hy393
          have H' := mS H
          clear H
          have p381 : 0 ≤ (x14_1 : Int) := mD
          have q381 : x14_1 < (t378.length : Int) := mD
          obtain ⟨ad381, A381_2, c381_2, e381, hx381_0, hx381_1, hx381_2, hl381_2, hi381_2⟩ := at_T33 (Kd.N_reads' HO_12.out).2.2 x14_1 p381 q381
          cases e381
          obtain ⟨ce381, hce381, hMe381, hcc381⟩ := Kd.N_get HO_12.out z33 x14_1 p381 (by first | exact q381 | exact mD | (have e_ := (Kd.N_reads' HO_12.out).1; omega))
          obtain ⟨ua381_2, uc381_2, rfl, ul381_2, ge381_2⟩ := k33_openF hMe381
          have hv381_2 := hcc381 2 _ rfl
          rw [add_field _ _ 2 (by omega)] at hv381_2
          replace hv381_2 := Option.some.inj (hv381_2.symm.trans hx381_2)
          injection hv381_2 with hva_ hvn_ hvc_
          rw [hva_] at ge381_2
          rw [hvc_] at ul381_2
          have HL381_2 := mS (show Kd.V k31 31 _ w.heap.size _ _ ((rd_T33 t378 x14_1).f1) from Kd.V_mk ul381_2 ge381_2)
          clear hva_ hvn_ hvc_ ge381_2 ul381_2
          clear hcc381 hce381
          have HR381_2 := mS hi381_2
          have HC381_2 := mS hl381_2
          clear hi381_2 hl381_2
          replace p381 := eq_true p381
          replace q381 := eq_true q381
          try go_wp2_with (first | ((with_reducible refine gate_dst (N := 9) rfl ?_); refine mBx 9 #[.int .i64 0, .int .i64 0, .slice none 0 0] 33 ?_; intro gb382 hg w39 hbox hb; replace HO_12 := mS (Kd.N_below (Kd.N_elderB (mNd HO_12.out) gb382 (Nat.le_of_eq hg.symm)) hb); replace HO_378000 := mS (Kd.N_below (Kd.N_elderB (mNd HO_378000.out) gb382 (Nat.le_of_eq hg.symm)) hb); replace HL381_2 := mS (Kd.V_below (Kd.V_elderB (mVd HL381_2.out) gb382 (Nat.le_of_eq hg.symm)) hb); replace HR381_2 := mS (Kd.C_below (by repeat (first | (with_reducible exact HR381_2.out) | (with_reducible refine Kd.C_alloc ?_ _) | (with_reducible refine Kd.C_drewN ?_ _) | (with_reducible refine Kd.C_drew ?_) | exact HR381_2.out)) hb); have BK382 := mS (hbox); have GW382 := mG hg (mH4 HB.out GE374.out GE375.out GE376.out GE377.out); have GE382 := mG hg (mH4 HB.out GE374.out GE375.out GE376.out GE377.out); replace HB := mS (below_step (mH4 HB.out GE374.out GE375.out GE376.out GE377.out) hb); have NB374_382 := mNl hg BK374.out; have NB382_374 := mNg hg BK374.out; replace BK374 := mB BK374 hb; have NB375_382 := mNl hg BK375.out; have NB382_375 := mNg hg BK375.out; replace BK375 := mB BK375 hb; have NB376_382 := mNl hg BK376.out; have NB382_376 := mNg hg BK376.out; replace BK376 := mB BK376 hb; have NB377_382 := mNl hg BK377.out; have NB382_377 := mNg hg BK377.out; replace BK377 := mB BK377 hb; clear hb hbox hg; have hnb40 := NB382_374.out; have hnc40 := NB374_382.out; have hnb41 := NB382_375.out; have hnc41 := NB375_382.out; have hnb42 := NB382_376.out; have hnc42 := NB376_382.out; have hnb43 := NB382_377.out; have hnc43 := NB377_382.out; obtain ⟨hcz44_0, hcz44_1, hcz44_2, hfz44_0, hfz44_1, hfz44_2⟩ := mZ3 BK382.out; have hnb45 := NB375_374.out; have hnc45 := NB374_375.out; have hnb46 := NB375_376.out; have hnc46 := NB376_375.out; have hnb47 := NB375_377.out; have hnc47 := NB377_375.out; obtain ⟨hcz48_0, hcz48_1, hcz48_2, hfz48_0, hfz48_1, hfz48_2⟩ := mZ3 BK375.out) | (go_at_call 64; (with_reducible refine (impl_DotLess.calls a1_0 a1_1 ((rd_T33 t378 x14_1).f0.f0) ((rd_T33 t378 x14_1).f0.f1) true _ A34.out).mono ?_); rintro e w49 ⟨rfl, hb⟩; replace HO_12 := mS (Kd.N_below (by refine mNd ?_; exact (Kd.N_mono (mNf3 (Kd.N_mono HO_12.out (fun k_ hk => (⟨hk, hk.2⟩ : _ ∧ k_ ≠ gb382)))) (fun _ h_ => h_.1))) hb); replace HO_378000 := mS (Kd.N_below (by refine mNd ?_; exact (Kd.N_mono (mNf3 (Kd.N_mono HO_378000.out (fun k_ hk => (⟨hk, hk.2⟩ : _ ∧ k_ ≠ gb382)))) (fun _ h_ => h_.1))) hb); replace BK374 := mS (blk_below (g := gb374) (o := .cells #[.slice A0_0 l0_0.length c0_0] 26 (0, 0)) (mKf NB374_382.out BK374.out) hb); replace BK375 := mS (blk_below (g := gb375) (o := .cells #[.int .i64 a1_0, .int .i64 a1_1, .slice A1_2 l1_2.length c1_2] 33 (0, 0)) (mKf NB375_382.out BK375.out) hb); replace BK376 := mS (blk_below (g := gb376) (o := .cells #[.slice none 0 0] 26 (0, 0)) (mKf NB376_382.out BK376.out) hb); replace BK377 := mS (blk_below (g := gb377) (o := .cells #[u378000] 26 (0, 0)) (mKf NB377_382.out BK377.out) hb); replace HR381_2 := mS (Kd.C_below ((Kd.V_reads' (by refine mVd ?_; exact (Kd.V_mono (Kd.V_far (p := ⟨gb382, 2, none⟩) (Kd.V_far (p := ⟨gb382, 1, none⟩) (Kd.V_far (p := ⟨gb382, 0, none⟩) (Kd.V_mono HL381_2.out (fun k_ hk => (⟨hk, hk.2⟩ : _ ∧ k_ ≠ gb382))) (fun _ hk => hk.2) (.int .i64 ((rd_T33 t378 x14_1).f0.f0))) (fun _ hk => hk.2) (.int .i64 ((rd_T33 t378 x14_1).f0.f1))) (fun _ hk => hk.2) (.slice A381_2 ((rd_T33 t378 x14_1).f1).length c381_2)) (fun _ h_ => h_.1)))).2.2) hb); replace HL381_2 := mS (Kd.V_below (by refine mVd ?_; exact (Kd.V_mono (Kd.V_far (p := ⟨gb382, 2, none⟩) (Kd.V_far (p := ⟨gb382, 1, none⟩) (Kd.V_far (p := ⟨gb382, 0, none⟩) (Kd.V_mono HL381_2.out (fun k_ hk => (⟨hk, hk.2⟩ : _ ∧ k_ ≠ gb382))) (fun _ hk => hk.2) (.int .i64 ((rd_T33 t378 x14_1).f0.f0))) (fun _ hk => hk.2) (.int .i64 ((rd_T33 t378 x14_1).f0.f1))) (fun _ hk => hk.2) (.slice A381_2 ((rd_T33 t378 x14_1).f1).length c381_2)) (fun _ h_ => h_.1))) hb); replace BK382 := mS (blk_below (g := gb382) (o := .cells #[.int .i64 ((rd_T33 t378 x14_1).f0.f0), .int .i64 ((rd_T33 t378 x14_1).f0.f1), .slice A381_2 ((rd_T33 t378 x14_1).f1).length c381_2] 33 (0, 0)) (by refine mK ?_; refine blk_put (cs := #[.int .i64 ((rd_T33 t378 x14_1).f0.f0), .int .i64 ((rd_T33 t378 x14_1).f0.f1), .slice none 0 0]) ?_ 2 _ rfl; refine mK ?_; refine blk_put (cs := #[.int .i64 ((rd_T33 t378 x14_1).f0.f0), .int .i64 0, .slice none 0 0]) ?_ 1 _ rfl; refine mK ?_; refine blk_put (cs := #[.int .i64 0, .int .i64 0, .slice none 0 0]) ?_ 0 _ rfl; refine mK ?_; exact BK382.out) hb); replace HB := mS (below_step (mH5 HB.out GE374.out GE375.out GE376.out GE377.out GE382.out) hb); (try clear hb); (try clear hb2); (try clear hk); (try clear hi)))
          replace HO_12 := mS (Kd.N_drew HO_12.out)
          replace HO_378000 := mS (Kd.N_drew HO_378000.out)
          replace HL381_2 := mS (Kd.V_drew HL381_2.out)
          replace BK374 := mS (blk_drew BK374.out)
          replace BK375 := mS (blk_drew BK375.out)
          replace BK376 := mS (blk_drew BK376.out)
          replace BK377 := mS (blk_drew BK377.out)
          replace BK382 := mS (blk_drew BK382.out)
          replace HR381_2 := mS (Kd.C_drew HR381_2.out)
          replace HB := mS (below_drew1 HB.out)
          refine start_ (n := 12) (S := fun w' => w'.cell? ⟨gb377, 0, none⟩ = some (u378000) ∧ w'.cell? ⟨gb375, 0, none⟩ = some (.int .i64 a1_0) ∧ w'.cell? ⟨gb375, 1, none⟩ = some (.int .i64 a1_1) ∧ w'.cell? ⟨gb375, 2, none⟩ = some (.slice A1_2 l1_2.length c1_2)) (ds := [11]) (mb 0 12) (by kernel_rfl) rfl rfl ⟨mZ BK377.out 0, mc3 BK375.out⟩ (fun hHeld => ?_); refine with_tabW impl_GraphPut.tab7 impl_GraphPut.bits7 (fun HT_ HW_ => ?_)
          generalize w49.drew = w50 at HO_12 HO_378000 HL381_2 BK374 BK375 BK376 BK377 BK382 HR381_2 HB hHeld ⊢
          refine mpu 0 27 HT_.out (mb 1 11) ?_
          refine mpu 2 29 HT_.out (mr [1,1,1,9]) ?_
          refine mpu 4 31 HT_.out (mr [1,1,1,1,1,7]) ?_
          refine mpt 1 28 HT_.out HW_.out (mr [3,1,1,7]) hHeld ?_
          refine mpt 3 30 HT_.out HW_.out (mb 5 7) hHeld ?_
          refine mpt 5 32 HT_.out HW_.out (mb 6 6) hHeld ?_
          refine mone 6 (some 33) HT_.out (mb 7 5) (fun K hK => ?_)
          refine goes_ Try.func65 (by kernel_rfl) rfl #[.slice A1_2 l1_2.length c1_2] (by rfl) rfl rfl mA ?_
          with_reducible refine (impl_copyDots.calls _ _ l1_2 t387 _ ?side1 ?side2 A36.out).mono ?_
          (case side1 => exact mC (Kd.C_below HR1_2.out HB.out))
          (case side2 => exact HC1_2.out)
          rintro e w51 ⟨v388, rfl, ho0, hb⟩
          refine ⟨_, rfl, ?_⟩
          replace HO_12 := mS (Kd.N_elder' (mNd HO_12.out) (Kd.R_base ho0) hb)
          replace HO_378000 := mS (Kd.N_elder' (mNd HO_378000.out) (Kd.R_base ho0) hb)
          replace HL381_2 := mS (Kd.V_elder' (mVd HL381_2.out) (Kd.R_base ho0) hb)
          have HO389 := mS (Kd.R_lower (Kd.R_newM (M := fun k_ => (w.heap.size ≤ k_)) ho0 (below_size (mH5 HB.out GE374.out GE375.out GE376.out GE377.out GE382.out)) (fun k_ h_ => h_)) (below_size (mH5 HB.out GE374.out GE375.out GE376.out GE377.out GE382.out)))
          replace BK374 := mB BK374 hb
          replace BK375 := mB BK375 hb
          replace BK376 := mB BK376 hb
          replace BK377 := mB BK377 hb
          replace HR381_2 := mS (Kd.C_below (by repeat (first | (with_reducible exact HR381_2.out) | (with_reducible refine Kd.C_alloc ?_ _) | (with_reducible refine Kd.C_drewN ?_ _) | (with_reducible refine Kd.C_drew ?_) | exact HR381_2.out)) hb)
          replace BK382 := mB BK382 hb
          replace HB := mS (below_step (mH5 HB.out GE374.out GE375.out GE376.out GE377.out GE382.out) hb)
          (try clear hb)
          (try clear hb2)
          (try clear hk)
          (try clear hi)
          (try clear ho0)
          obtain ⟨Ao52, co52, eo52⟩ := Kd.R_slice HO389.out
          (first | subst eo52 | (injection eo52 with f1_ f2_ f3_; have f4_ := f1_.symm; have f5_ := f3_.symm; clear f1_ f2_ f3_; subst f4_; subst f5_))
          refine hK.out _ _ ⟨mZ BK377.out 0, mc3 BK375.out⟩ (fun hHeld => ?_)
          clear hK K
          refine mno 33 ?_
          refine mpu 7 34 HT_.out (mb 8 4) ?_
          refine mone 8 (some 35) HT_.out (mb 9 3) (fun K hK => ?_)
          refine value_ (w1 := ?_) (v := ?_) (by rfl) rfl ?_ ?_
          rotate_left 2
          ·go_simp
           constructor
           ·rfl
           ·rfl
          refine hK.out _ _ ⟨(blk_cell (blk_alloc BK377.out _) 0).trans rfl, (blk_cell (blk_alloc BK375.out _) 0).trans rfl, (blk_cell (blk_alloc BK375.out _) 1).trans rfl, (blk_cell (blk_alloc BK375.out _) 2).trans rfl⟩ (fun hHeld => ?_)
          clear hK K
          refine mno 35 ?_
          refine mone 9 (some 36) HT_.out (mb 10 2) (fun K hK => ?_)
          refine Kd.N_append_step k33 (w0 := w) w.heap.size (by rfl) (.tmp 28) (.tmp 35) 24 33 (.agg #[(.int .i64 0), (.int .i64 0), (.slice none 0 0)]) 40 rfl Try.underlying24 info33 rfl (by decide) (by omega) u378000 x378000_1 (⟨(⟨a1_0, a1_1⟩ : S31), t387⟩ : S33) [.int .i64 a1_0, .int .i64 a1_1, .slice Ao52 t387.length co52] (fun k_ => (w.heap.size ≤ k_) ∧ some k_ ≠ (.slice (some ad381) t378.length co13 : Value).ownBlock ∧ k_ ≠ gb374 ∧ k_ ≠ gb375 ∧ k_ ≠ gb376 ∧ k_ ≠ gb377 ∧ k_ ≠ gb382) (fun k_ => ((fun k_ => (w.heap.size ≤ k_) ∧ some k_ ≠ (.slice (some ad381) t378.length co13 : Value).ownBlock ∧ k_ ≠ gb374 ∧ k_ ≠ gb375 ∧ k_ ≠ gb376 ∧ k_ ≠ gb377 ∧ k_ ≠ gb382)) k_ ∧ some k_ ≠ (u378000 : Value).ownBlock) rfl rfl ?aP (fun _ hk => hk) ?aF ?aO ?aB ?aS ?aL ?_
          (case aP => exact (k33_mkF _ _ (⟨(⟨a1_0, a1_1⟩ : S31), t387⟩ : S33) (Kd.R_reads' (Kd.R_mono (ok' := (fun k_ => ((fun k_ => (w.heap.size ≤ k_) ∧ some k_ ≠ (.slice (some ad381) t378.length co13 : Value).ownBlock ∧ k_ ≠ gb374 ∧ k_ ≠ gb375 ∧ k_ ≠ gb376 ∧ k_ ≠ gb377 ∧ k_ ≠ gb382)) k_ ∧ some k_ ≠ (u378000 : Value).ownBlock)) (Kd.R_types (Kd.R_types (Kd.R_types (Kd.R_types (Kd.R_types (Kd.R_apart' (Kd.R_apart' (HO389.out) (Kd.N_typed HO_12.out) (by decide)) (Kd.N_typed HO_378000.out) (by decide)) BK374.out (by decide)) BK375.out (by decide)) BK376.out (by decide)) BK377.out (by decide)) BK382.out (by decide)) (fun k_ hk => ⟨⟨hk.1.1.1.1.1.1.1.1, ⟨hk.1.1.1.1.1.1.2, ⟨hk.1.1.1.1.2, ⟨hk.1.1.1.2, ⟨hk.1.1.2, ⟨hk.1.2, hk.2⟩⟩⟩⟩⟩⟩, hk.1.1.1.1.1.2⟩))).2.1 (Kd.R_F (Kd.R_mono (ok' := (fun k_ => ((fun k_ => (w.heap.size ≤ k_) ∧ some k_ ≠ (.slice (some ad381) t378.length co13 : Value).ownBlock ∧ k_ ≠ gb374 ∧ k_ ≠ gb375 ∧ k_ ≠ gb376 ∧ k_ ≠ gb377 ∧ k_ ≠ gb382)) k_ ∧ some k_ ≠ (u378000 : Value).ownBlock)) (Kd.R_types (Kd.R_types (Kd.R_types (Kd.R_types (Kd.R_types (Kd.R_apart' (Kd.R_apart' (HO389.out) (Kd.N_typed HO_12.out) (by decide)) (Kd.N_typed HO_378000.out) (by decide)) BK374.out (by decide)) BK375.out (by decide)) BK376.out (by decide)) BK377.out (by decide)) BK382.out (by decide)) (fun k_ hk => ⟨⟨hk.1.1.1.1.1.1.1.1, ⟨hk.1.1.1.1.1.1.2, ⟨hk.1.1.1.1.2, ⟨hk.1.1.1.2, ⟨hk.1.1.2, ⟨hk.1.2, hk.2⟩⟩⟩⟩⟩⟩, hk.1.1.1.1.1.2⟩)))))
          (case aB => exact (mH5 HB.out GE374.out GE375.out GE376.out GE377.out GE382.out))
          (case aF => exact (fun k_ hk => ⟨(Nat.le_trans (below_size (mH5 HB.out GE374.out GE375.out GE376.out GE377.out GE382.out)) hk), Kd.fresh' (Kd.N_lt (mNd HO_12.out)) k_ hk, Kd.freshB (g := gb374) (o := .cells #[.slice A0_0 l0_0.length c0_0] 26 (0, 0)) (mK BK374.out) k_ hk, Kd.freshB (g := gb375) (o := .cells #[.int .i64 a1_0, .int .i64 a1_1, .slice A1_2 l1_2.length c1_2] 33 (0, 0)) (mK BK375.out) k_ hk, Kd.freshB (g := gb376) (o := .cells #[.slice none 0 0] 26 (0, 0)) (mK BK376.out) k_ hk, Kd.freshB (g := gb377) (o := .cells #[u378000] 26 (0, 0)) (mK BK377.out) k_ hk, Kd.freshB (g := gb382) (o := .cells #[.int .i64 ((rd_T33 t378 x14_1).f0.f0), .int .i64 ((rd_T33 t378 x14_1).f0.f1), .slice A381_2 ((rd_T33 t378 x14_1).f1).length c381_2] 33 (0, 0)) (mK BK382.out) k_ hk⟩))
          (case aO => exact (by refine mNd ?_; exact Kd.N_mono HO_378000.out (fun _ hk => ⟨hk.1.1.1, ⟨hk.1.1.2.1, ⟨hk.1.1.2.2.1, ⟨hk.1.1.2.2.2.1, ⟨hk.1.1.2.2.2.2.1, ⟨hk.1.1.2.2.2.2.2, hk.1.2⟩⟩⟩⟩⟩⟩)))
          (case aS => exact (below_size (mH5 HB.out GE374.out GE375.out GE376.out GE377.out GE382.out)))
          (case aL => have := LMc37.out; omega)
          intro v391 w53 ho hb hg hat
          rw [← Ny390.out] at ho
          replace HO_12 := mS (Kd.N_afterv (ok := (fun k_ => (w.heap.size ≤ k_) ∧ some k_ ≠ (.slice Ao52 t387.length co52 : Value).ownBlock ∧ k_ ≠ gb374 ∧ k_ ≠ gb375 ∧ k_ ≠ gb376 ∧ k_ ≠ gb377 ∧ k_ ≠ gb382)) (by refine mNd ?_; exact Kd.N_mono HO_12.out (fun _ hk => ⟨⟨hk.1.1.1, ⟨hk.2, ⟨hk.1.1.2.2.1, ⟨hk.1.1.2.2.2.1, ⟨hk.1.1.2.2.2.2.1, ⟨hk.1.1.2.2.2.2.2, hk.1.2⟩⟩⟩⟩⟩⟩, hk.1.1.2.1⟩)) hg hat)
          replace BK374 := mS (blk_grown (g := gb374) (o := .cells #[.slice A0_0 l0_0.length c0_0] 26 (0, 0)) (mK BK374.out) hg (Kd.N_ne HO_378000.out BK374.out (by decide)))
          replace BK375 := mS (blk_grown (g := gb375) (o := .cells #[.int .i64 a1_0, .int .i64 a1_1, .slice A1_2 l1_2.length c1_2] 33 (0, 0)) (mK BK375.out) hg (Kd.N_away HO_378000.out (fun _ hk => hk.1.1.2.2.2.1)))
          replace BK376 := mS (blk_grown (g := gb376) (o := .cells #[.slice none 0 0] 26 (0, 0)) (mK BK376.out) hg (Kd.N_ne HO_378000.out BK376.out (by decide)))
          replace BK377 := mS (blk_grown (g := gb377) (o := .cells #[u378000] 26 (0, 0)) (mK BK377.out) hg (Kd.N_ne HO_378000.out BK377.out (by decide)))
          replace HL381_2 := mS (Kd.V_afterv (ok := (fun k_ => (w.heap.size ≤ k_) ∧ some k_ ≠ (.slice (some ad381) t378.length co13 : Value).ownBlock ∧ some k_ ≠ (.slice Ao52 t387.length co52 : Value).ownBlock ∧ k_ ≠ gb374 ∧ k_ ≠ gb375 ∧ k_ ≠ gb376 ∧ k_ ≠ gb377 ∧ k_ ≠ gb382)) (by refine mVd ?_; exact Kd.V_mono HL381_2.out (fun _ hk => ⟨⟨hk.1.1.1.1, ⟨hk.1.1.2, ⟨hk.2, ⟨hk.1.1.1.2.2.1, ⟨hk.1.1.1.2.2.2.1, ⟨hk.1.1.1.2.2.2.2.1, ⟨hk.1.1.1.2.2.2.2.2, hk.1.2⟩⟩⟩⟩⟩⟩⟩, hk.1.1.1.2.1⟩)) hg hat)
          replace BK382 := mS (blk_grown (g := gb382) (o := .cells #[.int .i64 ((rd_T33 t378 x14_1).f0.f0), .int .i64 ((rd_T33 t378 x14_1).f0.f1), .slice A381_2 ((rd_T33 t378 x14_1).f1).length c381_2] 33 (0, 0)) (mK BK382.out) hg (Kd.N_away HO_378000.out (fun _ hk => hk.1.2)))
          replace HB := mS (hb)
          have HO392 := mS (ho)
          clear HO_378000
          clear HO389
          clear ho hb hg hat
          obtain ⟨Ao54, co54, eo54⟩ := Kd.N_slice HO392.out
          (first | subst eo54 | (injection eo54 with f1_ f2_ f3_; have f4_ := f1_.symm; have f5_ := f3_.symm; clear f1_ f2_ f3_; subst f4_; subst f5_))
          refine hK.out _ _ ⟨mZ BK377.out 0, mc3 BK375.out⟩ (fun hHeld => ?_)
          clear hK K
          refine mno 36 ?_
          refine mpu 10 37 HT_.out (mb 11 1) ?_
          refine last_ (i := 11) (N := none) (mb 12 0) rfl rfl (one_of HT_.out (by kernel_rfl)) (by decide) (fun K hK => ?_)
          have hs55 : w53.cell? ⟨gb377, 0, none⟩ = some (u378000) := mZ BK377.out 0
          have hfs55 := blk_frozen BK377.out 0
          have hns55_0 := NB374_377.out
          have hns55_1 := NB375_377.out
          have hns55_2 := NB376_377.out
          have hns55_4 := NB382_377.out
          have hms55_0 := NB377_374.out
          have hms55_1 := NB377_375.out
          have hms55_2 := NB377_376.out
          have hms55_4 := NB377_382.out
          refine skip_ (w1 := ?_) (by rfl) rfl ?_ ?_
          rotate_left
          ·go_simp
           rfl
          refine hK.out _ _ ?_
          clear hK K
          refine done_ (done_of HT_.out (by kernel_rfl)) ?_
          generalize hW_ : (w53.setCell ⟨gb377, 0, none⟩ (.slice Ao54 y390.length co54)) = w56
          replace HO_12 : Aside0 (Kd.N k33 33 w56 w.heap.size (fun k_ => (w.heap.size ≤ k_) ∧ some k_ ≠ (.slice Ao54 y390.length co54 : Value).ownBlock ∧ k_ ≠ gb374 ∧ k_ ≠ gb375 ∧ k_ ≠ gb376 ∧ k_ ≠ gb377 ∧ k_ ≠ gb382) (.slice (some ad381) t378.length co13) t378) := by rw [← hW_]; exact ⟨by refine mNd ?_; exact Kd.N_mono (Kd.N_far (p := ⟨gb377, 0, none⟩) (Kd.N_mono HO_12.out (fun k_ hk => (⟨hk, hk.1.2.2.2.2.2.1⟩ : _ ∧ k_ ≠ gb377))) (fun _ hk => hk.2) (.slice Ao54 y390.length co54)) (fun _ hk => ⟨hk.1.1.1, ⟨hk.1.2, ⟨hk.1.1.2.2.1, ⟨hk.1.1.2.2.2.1, ⟨hk.1.1.2.2.2.2.1, ⟨hk.1.1.2.2.2.2.2.1, hk.1.1.2.2.2.2.2.2⟩⟩⟩⟩⟩⟩)⟩
          replace HL381_2 : Aside0 (Kd.V k31 31 w56 w.heap.size (fun k_ => (w.heap.size ≤ k_) ∧ some k_ ≠ (.slice (some ad381) t378.length co13 : Value).ownBlock ∧ some k_ ≠ (.slice Ao54 y390.length co54 : Value).ownBlock ∧ k_ ≠ gb374 ∧ k_ ≠ gb375 ∧ k_ ≠ gb376 ∧ k_ ≠ gb377 ∧ k_ ≠ gb382) (.slice A381_2 ((rd_T33 t378 x14_1).f1).length c381_2) ((rd_T33 t378 x14_1).f1)) := by rw [← hW_]; exact ⟨by refine mVd ?_; exact Kd.V_mono (Kd.V_far (p := ⟨gb377, 0, none⟩) (Kd.V_mono HL381_2.out (fun k_ hk => (⟨hk, hk.1.2.2.2.2.2.2.1⟩ : _ ∧ k_ ≠ gb377))) (fun _ hk => hk.2) (.slice Ao54 y390.length co54)) (fun _ hk => ⟨hk.1.1.1, ⟨hk.1.1.2.1, ⟨hk.1.2, ⟨hk.1.1.2.2.2.1, ⟨hk.1.1.2.2.2.2.1, ⟨hk.1.1.2.2.2.2.2.1, ⟨hk.1.1.2.2.2.2.2.2.1, hk.1.1.2.2.2.2.2.2.2⟩⟩⟩⟩⟩⟩⟩)⟩
          replace HO392 : Aside0 (Kd.N k33 33 w56 w.heap.size (fun k_ => (w.heap.size ≤ k_) ∧ some k_ ≠ (.slice (some ad381) t378.length co13 : Value).ownBlock ∧ k_ ≠ gb374 ∧ k_ ≠ gb375 ∧ k_ ≠ gb376 ∧ k_ ≠ gb377 ∧ k_ ≠ gb382) (.slice Ao54 y390.length co54) y390) := by rw [← hW_]; exact ⟨by refine mNd ?_; exact Kd.N_mono (Kd.N_far (p := ⟨gb377, 0, none⟩) (Kd.N_mono HO392.out (fun k_ hk => (⟨hk, hk.2.2.2.2.2.1⟩ : _ ∧ k_ ≠ gb377))) (fun _ hk => hk.2) (.slice Ao54 y390.length co54)) (fun _ hk => ⟨hk.1.1, ⟨hk.1.2.1, ⟨hk.1.2.2.1, ⟨hk.1.2.2.2.1, ⟨hk.1.2.2.2.2.1, ⟨hk.1.2.2.2.2.2.1, hk.1.2.2.2.2.2.2⟩⟩⟩⟩⟩⟩)⟩
          replace BK374 : Aside0 (w56.heap[gb374]? = some (.cells #[.slice A0_0 l0_0.length c0_0] 26 (0, 0))) := by rw [← hW_]; exact ⟨mKf NB374_377.out BK374.out⟩
          replace BK375 : Aside0 (w56.heap[gb375]? = some (.cells #[.int .i64 a1_0, .int .i64 a1_1, .slice A1_2 l1_2.length c1_2] 33 (0, 0))) := by rw [← hW_]; exact ⟨mKf NB375_377.out BK375.out⟩
          replace BK376 : Aside0 (w56.heap[gb376]? = some (.cells #[.slice none 0 0] 26 (0, 0))) := by rw [← hW_]; exact ⟨mKf NB376_377.out BK376.out⟩
          replace BK377 : Aside0 (w56.heap[gb377]? = some (.cells #[.slice Ao54 y390.length co54] 26 (0, 0))) := by rw [← hW_]; exact ⟨by refine mK ?_; refine blk_put (cs := #[u378000]) ?_ 0 _ rfl; refine mK ?_; exact BK377.out⟩
          replace BK382 : Aside0 (w56.heap[gb382]? = some (.cells #[.int .i64 ((rd_T33 t378 x14_1).f0.f0), .int .i64 ((rd_T33 t378 x14_1).f0.f1), .slice A381_2 ((rd_T33 t378 x14_1).f1).length c381_2] 33 (0, 0))) := by rw [← hW_]; exact ⟨mKf NB382_377.out BK382.out⟩
          replace HB : Aside0 (Below w.heap.size w w56) := by rw [← hW_]; exact ⟨(mH5 HB.out GE374.out GE375.out GE376.out GE377.out GE382.out)⟩
          clear hW_
          have hnb57 := NB377_374.out
          have hnc57 := NB374_377.out
          have hnb58 := NB377_376.out
          have hnc58 := NB376_377.out
          have hcz59_0 := mZ BK377.out 0
          have hfz59_0 := blk_frozen BK377.out 0
          obtain ⟨hcz60_0, hcz60_1, hcz60_2, hfz60_0, hfz60_1, hfz60_2⟩ := mZ3 BK382.out
          try go_wp2_with (first | ((with_reducible refine gate_builtin (b := .append) (xs := #[.tmp 39, .tmp 41]) rfl ?_); at_builtin; refine Kd.N_append k33 (w0 := w) w.heap.size rfl (.tmp 39) (.tmp 41) 24 33 (.agg #[(.int .i64 0), (.int .i64 0), (.slice none 0 0)]) 40 rfl Try.underlying24 info33 rfl (by decide) (by omega) (.slice Ao54 y390.length co54) y390 (⟨(⟨(rd_T33 t378 x14_1).f0.f0, (rd_T33 t378 x14_1).f0.f1⟩ : S31), (rd_T33 t378 x14_1).f1⟩ : S33) [.int .i64 ((rd_T33 t378 x14_1).f0.f0), .int .i64 ((rd_T33 t378 x14_1).f0.f1), .slice A381_2 ((rd_T33 t378 x14_1).f1).length c381_2] (fun k_ => (w.heap.size ≤ k_) ∧ some k_ ≠ (.slice (some ad381) t378.length co13 : Value).ownBlock ∧ k_ ≠ gb374 ∧ k_ ≠ gb375 ∧ k_ ≠ gb376 ∧ k_ ≠ gb377 ∧ k_ ≠ gb382) (fun k_ => ((fun k_ => (w.heap.size ≤ k_) ∧ some k_ ≠ (.slice (some ad381) t378.length co13 : Value).ownBlock ∧ k_ ≠ gb374 ∧ k_ ≠ gb375 ∧ k_ ≠ gb376 ∧ k_ ≠ gb377 ∧ k_ ≠ gb382)) k_ ∧ some k_ ≠ (.slice Ao54 y390.length co54 : Value).ownBlock) rfl rfl ?aP (fun _ hk => hk) ?aF ?aO ?aB ?aS ?aL ?_; (case aP => exact (k33_mkF _ _ (⟨(⟨(rd_T33 t378 x14_1).f0.f0, (rd_T33 t378 x14_1).f0.f1⟩ : S31), (rd_T33 t378 x14_1).f1⟩ : S33) (Kd.V_reads' (Kd.V_mono (ok' := (fun k_ => ((fun k_ => (w.heap.size ≤ k_) ∧ some k_ ≠ (.slice (some ad381) t378.length co13 : Value).ownBlock ∧ k_ ≠ gb374 ∧ k_ ≠ gb375 ∧ k_ ≠ gb376 ∧ k_ ≠ gb377 ∧ k_ ≠ gb382)) k_ ∧ some k_ ≠ (.slice Ao54 y390.length co54 : Value).ownBlock)) (HL381_2.out) (fun k_ hk => ⟨⟨hk.1, ⟨hk.2.1, ⟨hk.2.2.2.1, ⟨hk.2.2.2.2.1, ⟨hk.2.2.2.2.2.1, ⟨hk.2.2.2.2.2.2.1, hk.2.2.2.2.2.2.2⟩⟩⟩⟩⟩⟩, hk.2.2.1⟩))).2.1 (Kd.V_F (Kd.V_mono (ok' := (fun k_ => ((fun k_ => (w.heap.size ≤ k_) ∧ some k_ ≠ (.slice (some ad381) t378.length co13 : Value).ownBlock ∧ k_ ≠ gb374 ∧ k_ ≠ gb375 ∧ k_ ≠ gb376 ∧ k_ ≠ gb377 ∧ k_ ≠ gb382)) k_ ∧ some k_ ≠ (.slice Ao54 y390.length co54 : Value).ownBlock)) (HL381_2.out) (fun k_ hk => ⟨⟨hk.1, ⟨hk.2.1, ⟨hk.2.2.2.1, ⟨hk.2.2.2.2.1, ⟨hk.2.2.2.2.2.1, ⟨hk.2.2.2.2.2.2.1, hk.2.2.2.2.2.2.2⟩⟩⟩⟩⟩⟩, hk.2.2.1⟩))))); (case aB => exact (mH5 HB.out GE374.out GE375.out GE376.out GE377.out GE382.out)); (case aF => exact (fun k_ hk => ⟨(Nat.le_trans (below_size (mH5 HB.out GE374.out GE375.out GE376.out GE377.out GE382.out)) hk), Kd.fresh' (Kd.N_lt (mNd HO_12.out)) k_ hk, Kd.freshB (g := gb374) (o := .cells #[.slice A0_0 l0_0.length c0_0] 26 (0, 0)) (mK BK374.out) k_ hk, Kd.freshB (g := gb375) (o := .cells #[.int .i64 a1_0, .int .i64 a1_1, .slice A1_2 l1_2.length c1_2] 33 (0, 0)) (mK BK375.out) k_ hk, Kd.freshB (g := gb376) (o := .cells #[.slice none 0 0] 26 (0, 0)) (mK BK376.out) k_ hk, Kd.freshB (g := gb377) (o := .cells #[.slice Ao54 y390.length co54] 26 (0, 0)) (mK BK377.out) k_ hk, Kd.freshB (g := gb382) (o := .cells #[.int .i64 ((rd_T33 t378 x14_1).f0.f0), .int .i64 ((rd_T33 t378 x14_1).f0.f1), .slice A381_2 ((rd_T33 t378 x14_1).f1).length c381_2] 33 (0, 0)) (mK BK382.out) k_ hk⟩)); (case aO => exact (mNd HO392.out)); (case aS => exact (below_size (mH5 HB.out GE374.out GE375.out GE376.out GE377.out GE382.out))); (case aL => have := LMc38.out; omega); intro v394 w61 ho hb hg hat; rw [← Ny393.out] at ho; replace HO_12 := mS (Kd.N_afterv (ok := (fun k_ => (w.heap.size ≤ k_) ∧ k_ ≠ gb374 ∧ k_ ≠ gb375 ∧ k_ ≠ gb376 ∧ k_ ≠ gb377 ∧ k_ ≠ gb382)) (by refine mNd ?_; exact Kd.N_mono HO_12.out (fun _ hk => ⟨⟨hk.1, ⟨hk.2.2.1, ⟨hk.2.2.2.1, ⟨hk.2.2.2.2.1, ⟨hk.2.2.2.2.2.1, hk.2.2.2.2.2.2⟩⟩⟩⟩⟩, hk.2.1⟩)) hg hat); replace BK374 := mS (blk_grown (g := gb374) (o := .cells #[.slice A0_0 l0_0.length c0_0] 26 (0, 0)) (mK BK374.out) hg (Kd.N_ne HO392.out BK374.out (by decide))); replace BK375 := mS (blk_grown (g := gb375) (o := .cells #[.int .i64 a1_0, .int .i64 a1_1, .slice A1_2 l1_2.length c1_2] 33 (0, 0)) (mK BK375.out) hg (Kd.N_away HO392.out (fun _ hk => hk.2.2.2.1))); replace BK376 := mS (blk_grown (g := gb376) (o := .cells #[.slice none 0 0] 26 (0, 0)) (mK BK376.out) hg (Kd.N_ne HO392.out BK376.out (by decide))); replace BK377 := mS (blk_grown (g := gb377) (o := .cells #[.slice Ao54 y390.length co54] 26 (0, 0)) (mK BK377.out) hg (Kd.N_ne HO392.out BK377.out (by decide))); replace HL381_2 := mS (Kd.V_afterv (ok := (fun k_ => (w.heap.size ≤ k_) ∧ some k_ ≠ (.slice (some ad381) t378.length co13 : Value).ownBlock ∧ k_ ≠ gb374 ∧ k_ ≠ gb375 ∧ k_ ≠ gb376 ∧ k_ ≠ gb377 ∧ k_ ≠ gb382)) (by refine mVd ?_; exact Kd.V_mono HL381_2.out (fun _ hk => ⟨⟨hk.1, ⟨hk.2.1, ⟨hk.2.2.2.1, ⟨hk.2.2.2.2.1, ⟨hk.2.2.2.2.2.1, ⟨hk.2.2.2.2.2.2.1, hk.2.2.2.2.2.2.2⟩⟩⟩⟩⟩⟩, hk.2.2.1⟩)) hg hat); replace BK382 := mS (blk_grown (g := gb382) (o := .cells #[.int .i64 ((rd_T33 t378 x14_1).f0.f0), .int .i64 ((rd_T33 t378 x14_1).f0.f1), .slice A381_2 ((rd_T33 t378 x14_1).f1).length c381_2] 33 (0, 0)) (mK BK382.out) hg (Kd.N_away HO392.out (fun _ hk => hk.2.2.2.2.2.2))); replace HB := mS (hb); have HO395 := mS (ho); clear HO392; clear ho hb hg hat; obtain ⟨Ao62, co62, eo62⟩ := Kd.N_slice HO395.out; subst eo62; have hcz63_0 := mZ BK377.out 0; have hfz63_0 := blk_frozen BK377.out 0))
          go_roundg k1
          case measure => have := HK1.out; omega
          case rel => exact ⟨(true), (wrap64 (x14_1 + 1)), (y393), (.slice Ao62 y393.length co62), mE, mE, H', ⟨by have := HK1.out; omega⟩, ⟨by refine mNd ?_; exact Kd.N_mono (Kd.N_far (p := ⟨gb377, 0, none⟩) (Kd.N_mono HO_12.out (fun k_ hk => (⟨hk, hk.1.2.2.2.2.1⟩ : _ ∧ k_ ≠ gb377))) (fun _ hk => hk.2) (.slice Ao62 y393.length co62)) (fun _ hk => ⟨hk.1.1.1, ⟨hk.1.2, ⟨hk.1.1.2.1, ⟨hk.1.1.2.2.1, ⟨hk.1.1.2.2.2.1, hk.1.1.2.2.2.2.1⟩⟩⟩⟩⟩)⟩, ⟨by refine mNd ?_; exact Kd.N_mono (Kd.N_far (p := ⟨gb377, 0, none⟩) (Kd.N_mono HO395.out (fun k_ hk => (⟨hk, hk.2.2.2.2.2.1⟩ : _ ∧ k_ ≠ gb377))) (fun _ hk => hk.2) (.slice Ao62 y393.length co62)) (fun _ hk => ⟨hk.1.1, ⟨hk.1.2.1, ⟨hk.1.2.2.1, ⟨hk.1.2.2.2.1, ⟨hk.1.2.2.2.2.1, hk.1.2.2.2.2.2.1⟩⟩⟩⟩⟩)⟩, ⟨mKf NB374_377.out BK374.out⟩, ⟨mKf NB375_377.out BK375.out⟩, ⟨mKf NB376_377.out BK376.out⟩, ⟨by refine mK ?_; refine blk_put (cs := #[.slice Ao54 y390.length co54]) ?_ 0 _ rfl; refine mK ?_; exact BK377.out⟩, ⟨(mH5 HB.out GE374.out GE375.out GE376.out GE377.out GE382.out)⟩⟩
         ·rw [if_neg c38] at H
          exact absurd H (by simp)
        ·rw [if_neg c37] at H
         exact absurd H (by simp)
       ·replace c35 := Bool.eq_false_iff.mpr c35
        subst c35
        have H1 := H
        rw [if_neg (show ¬ (false = true) by decide)] at H1
        clear H
        have H := H1
        clear H1
        by_cases c64 : x378000_1.length < 3518437208883
        ·rw [if_pos c64] at H
         have LMc64 := mS c64
         clear c64
         obtain ⟨y396, hy396⟩ : ∃ y_ : List (S33), y_ = (x378000_1 ++ [(⟨(⟨(rd_T33 t378 x14_1).f0.f0, (rd_T33 t378 x14_1).f0.f1⟩ : S31), (rd_T33 t378 x14_1).f1⟩ : S33)]) := ⟨_, rfl⟩
         replace H : (impl_GraphPut.l0 k1 false t378 (t378.length : Int) (wrap64 (x14_1 + 1)) l0_0 a1_0 a1_1 l1_2 y396) = some (r1, r2) := by first | (rw [hy396]; with_reducible exact H) | (have H2_ := (Option.bind_some _ _).symm.trans H; rw [hy396]; with_reducible exact H2_) | (have H2_ := (Option.bind_some _ _).symm.trans H; with_reducible exact H2_) | with_reducible exact H | (rw [hy396]; exact H) | exact H
         have Ny396 := mS hy396
         clear hy396
         have H' := mS H
         clear H
         have p381 : 0 ≤ (x14_1 : Int) := mD
         have q381 : x14_1 < (t378.length : Int) := mD
         obtain ⟨ad381, A381_2, c381_2, e381, hx381_0, hx381_1, hx381_2, hl381_2, hi381_2⟩ := at_T33 (Kd.N_reads' HO_12.out).2.2 x14_1 p381 q381
         cases e381
         obtain ⟨ce381, hce381, hMe381, hcc381⟩ := Kd.N_get HO_12.out z33 x14_1 p381 (by first | exact q381 | exact mD | (have e_ := (Kd.N_reads' HO_12.out).1; omega))
         obtain ⟨ua381_2, uc381_2, rfl, ul381_2, ge381_2⟩ := k33_openF hMe381
         have hv381_2 := hcc381 2 _ rfl
         rw [add_field _ _ 2 (by omega)] at hv381_2
         replace hv381_2 := Option.some.inj (hv381_2.symm.trans hx381_2)
         injection hv381_2 with hva_ hvn_ hvc_
         rw [hva_] at ge381_2
         rw [hvc_] at ul381_2
         have HL381_2 := mS (show Kd.V k31 31 _ w.heap.size _ _ ((rd_T33 t378 x14_1).f1) from Kd.V_mk ul381_2 ge381_2)
         clear hva_ hvn_ hvc_ ge381_2 ul381_2
         clear hcc381 hce381
         have HR381_2 := mS hi381_2
         have HC381_2 := mS hl381_2
         clear hi381_2 hl381_2
         replace p381 := eq_true p381
         replace q381 := eq_true q381
         go_wp2_with (first | ((with_reducible refine gate_dst (N := 9) rfl ?_); refine mBx 9 #[.int .i64 0, .int .i64 0, .slice none 0 0] 33 ?_; intro gb382 hg w65 hbox hb; replace HO_12 := mS (Kd.N_below (Kd.N_elderB (mNd HO_12.out) gb382 (Nat.le_of_eq hg.symm)) hb); replace HO_378000 := mS (Kd.N_below (Kd.N_elderB (mNd HO_378000.out) gb382 (Nat.le_of_eq hg.symm)) hb); replace HL381_2 := mS (Kd.V_below (Kd.V_elderB (mVd HL381_2.out) gb382 (Nat.le_of_eq hg.symm)) hb); replace HR381_2 := mS (Kd.C_below (by repeat (first | (with_reducible exact HR381_2.out) | (with_reducible refine Kd.C_alloc ?_ _) | (with_reducible refine Kd.C_drewN ?_ _) | (with_reducible refine Kd.C_drew ?_) | exact HR381_2.out)) hb); have BK382 := mS (hbox); have GW382 := mG hg (mH4 HB.out GE374.out GE375.out GE376.out GE377.out); have GE382 := mG hg (mH4 HB.out GE374.out GE375.out GE376.out GE377.out); replace HB := mS (below_step (mH4 HB.out GE374.out GE375.out GE376.out GE377.out) hb); have NB374_382 := mNl hg BK374.out; have NB382_374 := mNg hg BK374.out; replace BK374 := mB BK374 hb; have NB375_382 := mNl hg BK375.out; have NB382_375 := mNg hg BK375.out; replace BK375 := mB BK375 hb; have NB376_382 := mNl hg BK376.out; have NB382_376 := mNg hg BK376.out; replace BK376 := mB BK376 hb; have NB377_382 := mNl hg BK377.out; have NB382_377 := mNg hg BK377.out; replace BK377 := mB BK377 hb; clear hb hbox hg; have hnb66 := NB382_374.out; have hnc66 := NB374_382.out; have hnb67 := NB382_375.out; have hnc67 := NB375_382.out; have hnb68 := NB382_376.out; have hnc68 := NB376_382.out; have hnb69 := NB382_377.out; have hnc69 := NB377_382.out; obtain ⟨hcz70_0, hcz70_1, hcz70_2, hfz70_0, hfz70_1, hfz70_2⟩ := mZ3 BK382.out; have hnb71 := NB375_374.out; have hnc71 := NB374_375.out; have hnb72 := NB375_376.out; have hnc72 := NB376_375.out; have hnb73 := NB375_377.out; have hnc73 := NB377_375.out; obtain ⟨hcz74_0, hcz74_1, hcz74_2, hfz74_0, hfz74_1, hfz74_2⟩ := mZ3 BK375.out) | (go_at_call 64; (with_reducible refine (impl_DotLess.calls a1_0 a1_1 ((rd_T33 t378 x14_1).f0.f0) ((rd_T33 t378 x14_1).f0.f1) false _ A34.out).mono ?_); rintro e w75 ⟨rfl, hb⟩; replace HO_12 := mS (Kd.N_below (by refine mNd ?_; exact (Kd.N_mono (mNf3 (Kd.N_mono HO_12.out (fun k_ hk => (⟨hk, hk.2⟩ : _ ∧ k_ ≠ gb382)))) (fun _ h_ => h_.1))) hb); replace HO_378000 := mS (Kd.N_below (by refine mNd ?_; exact (Kd.N_mono (mNf3 (Kd.N_mono HO_378000.out (fun k_ hk => (⟨hk, hk.2⟩ : _ ∧ k_ ≠ gb382)))) (fun _ h_ => h_.1))) hb); replace BK374 := mS (blk_below (g := gb374) (o := .cells #[.slice A0_0 l0_0.length c0_0] 26 (0, 0)) (mKf NB374_382.out BK374.out) hb); replace BK375 := mS (blk_below (g := gb375) (o := .cells #[.int .i64 a1_0, .int .i64 a1_1, .slice A1_2 l1_2.length c1_2] 33 (0, 0)) (mKf NB375_382.out BK375.out) hb); replace BK376 := mS (blk_below (g := gb376) (o := .cells #[.slice none 0 0] 26 (0, 0)) (mKf NB376_382.out BK376.out) hb); replace BK377 := mS (blk_below (g := gb377) (o := .cells #[u378000] 26 (0, 0)) (mKf NB377_382.out BK377.out) hb); replace HR381_2 := mS (Kd.C_below ((Kd.V_reads' (by refine mVd ?_; exact (Kd.V_mono (Kd.V_far (p := ⟨gb382, 2, none⟩) (Kd.V_far (p := ⟨gb382, 1, none⟩) (Kd.V_far (p := ⟨gb382, 0, none⟩) (Kd.V_mono HL381_2.out (fun k_ hk => (⟨hk, hk.2⟩ : _ ∧ k_ ≠ gb382))) (fun _ hk => hk.2) (.int .i64 ((rd_T33 t378 x14_1).f0.f0))) (fun _ hk => hk.2) (.int .i64 ((rd_T33 t378 x14_1).f0.f1))) (fun _ hk => hk.2) (.slice A381_2 ((rd_T33 t378 x14_1).f1).length c381_2)) (fun _ h_ => h_.1)))).2.2) hb); replace HL381_2 := mS (Kd.V_below (by refine mVd ?_; exact (Kd.V_mono (Kd.V_far (p := ⟨gb382, 2, none⟩) (Kd.V_far (p := ⟨gb382, 1, none⟩) (Kd.V_far (p := ⟨gb382, 0, none⟩) (Kd.V_mono HL381_2.out (fun k_ hk => (⟨hk, hk.2⟩ : _ ∧ k_ ≠ gb382))) (fun _ hk => hk.2) (.int .i64 ((rd_T33 t378 x14_1).f0.f0))) (fun _ hk => hk.2) (.int .i64 ((rd_T33 t378 x14_1).f0.f1))) (fun _ hk => hk.2) (.slice A381_2 ((rd_T33 t378 x14_1).f1).length c381_2)) (fun _ h_ => h_.1))) hb); replace BK382 := mS (blk_below (g := gb382) (o := .cells #[.int .i64 ((rd_T33 t378 x14_1).f0.f0), .int .i64 ((rd_T33 t378 x14_1).f0.f1), .slice A381_2 ((rd_T33 t378 x14_1).f1).length c381_2] 33 (0, 0)) (by refine mK ?_; refine blk_put (cs := #[.int .i64 ((rd_T33 t378 x14_1).f0.f0), .int .i64 ((rd_T33 t378 x14_1).f0.f1), .slice none 0 0]) ?_ 2 _ rfl; refine mK ?_; refine blk_put (cs := #[.int .i64 ((rd_T33 t378 x14_1).f0.f0), .int .i64 0, .slice none 0 0]) ?_ 1 _ rfl; refine mK ?_; refine blk_put (cs := #[.int .i64 0, .int .i64 0, .slice none 0 0]) ?_ 0 _ rfl; refine mK ?_; exact BK382.out) hb); replace HB := mS (below_step (mH5 HB.out GE374.out GE375.out GE376.out GE377.out GE382.out) hb); (try clear hb); (try clear hb2); (try clear hk); (try clear hi); have hnb76 := NB377_374.out; have hnc76 := NB374_377.out; have hnb77 := NB377_376.out; have hnc77 := NB376_377.out; have hcz78_0 := mZ BK377.out 0; have hfz78_0 := blk_frozen BK377.out 0; obtain ⟨hcz79_0, hcz79_1, hcz79_2, hfz79_0, hfz79_1, hfz79_2⟩ := mZ3 BK382.out) | ((with_reducible refine gate_builtin (b := .append) (xs := #[.tmp 39, .tmp 41]) rfl ?_); at_builtin; refine Kd.N_append k33 (w0 := w) w.heap.size rfl (.tmp 39) (.tmp 41) 24 33 (.agg #[(.int .i64 0), (.int .i64 0), (.slice none 0 0)]) 40 rfl Try.underlying24 info33 rfl (by decide) (by omega) u378000 x378000_1 (⟨(⟨(rd_T33 t378 x14_1).f0.f0, (rd_T33 t378 x14_1).f0.f1⟩ : S31), (rd_T33 t378 x14_1).f1⟩ : S33) [.int .i64 ((rd_T33 t378 x14_1).f0.f0), .int .i64 ((rd_T33 t378 x14_1).f0.f1), .slice A381_2 ((rd_T33 t378 x14_1).f1).length c381_2] (fun k_ => (w.heap.size ≤ k_) ∧ some k_ ≠ (.slice (some ad381) t378.length co13 : Value).ownBlock ∧ k_ ≠ gb374 ∧ k_ ≠ gb375 ∧ k_ ≠ gb376 ∧ k_ ≠ gb377 ∧ k_ ≠ gb382) (fun k_ => ((fun k_ => (w.heap.size ≤ k_) ∧ some k_ ≠ (.slice (some ad381) t378.length co13 : Value).ownBlock ∧ k_ ≠ gb374 ∧ k_ ≠ gb375 ∧ k_ ≠ gb376 ∧ k_ ≠ gb377 ∧ k_ ≠ gb382)) k_ ∧ some k_ ≠ (u378000 : Value).ownBlock) rfl rfl ?aP (fun _ hk => hk) ?aF ?aO ?aB ?aS ?aL ?_; (case aP => exact (k33_mkF _ _ (⟨(⟨(rd_T33 t378 x14_1).f0.f0, (rd_T33 t378 x14_1).f0.f1⟩ : S31), (rd_T33 t378 x14_1).f1⟩ : S33) (Kd.V_reads' (Kd.V_mono (ok' := (fun k_ => ((fun k_ => (w.heap.size ≤ k_) ∧ some k_ ≠ (.slice (some ad381) t378.length co13 : Value).ownBlock ∧ k_ ≠ gb374 ∧ k_ ≠ gb375 ∧ k_ ≠ gb376 ∧ k_ ≠ gb377 ∧ k_ ≠ gb382)) k_ ∧ some k_ ≠ (u378000 : Value).ownBlock)) (HL381_2.out) (fun k_ hk => ⟨⟨hk.1.1.1, ⟨hk.1.2, ⟨hk.1.1.2.2.1, ⟨hk.1.1.2.2.2.1, ⟨hk.1.1.2.2.2.2.1, ⟨hk.1.1.2.2.2.2.2, hk.2⟩⟩⟩⟩⟩⟩, hk.1.1.2.1⟩))).2.1 (Kd.V_F (Kd.V_mono (ok' := (fun k_ => ((fun k_ => (w.heap.size ≤ k_) ∧ some k_ ≠ (.slice (some ad381) t378.length co13 : Value).ownBlock ∧ k_ ≠ gb374 ∧ k_ ≠ gb375 ∧ k_ ≠ gb376 ∧ k_ ≠ gb377 ∧ k_ ≠ gb382)) k_ ∧ some k_ ≠ (u378000 : Value).ownBlock)) (HL381_2.out) (fun k_ hk => ⟨⟨hk.1.1.1, ⟨hk.1.2, ⟨hk.1.1.2.2.1, ⟨hk.1.1.2.2.2.1, ⟨hk.1.1.2.2.2.2.1, ⟨hk.1.1.2.2.2.2.2, hk.2⟩⟩⟩⟩⟩⟩, hk.1.1.2.1⟩))))); (case aB => exact (mH5 HB.out GE374.out GE375.out GE376.out GE377.out GE382.out)); (case aF => exact (fun k_ hk => ⟨(Nat.le_trans (below_size (mH5 HB.out GE374.out GE375.out GE376.out GE377.out GE382.out)) hk), Kd.fresh' (Kd.N_lt (mNd HO_12.out)) k_ hk, Kd.freshB (g := gb374) (o := .cells #[.slice A0_0 l0_0.length c0_0] 26 (0, 0)) (mK BK374.out) k_ hk, Kd.freshB (g := gb375) (o := .cells #[.int .i64 a1_0, .int .i64 a1_1, .slice A1_2 l1_2.length c1_2] 33 (0, 0)) (mK BK375.out) k_ hk, Kd.freshB (g := gb376) (o := .cells #[.slice none 0 0] 26 (0, 0)) (mK BK376.out) k_ hk, Kd.freshB (g := gb377) (o := .cells #[u378000] 26 (0, 0)) (mK BK377.out) k_ hk, Kd.freshB (g := gb382) (o := .cells #[.int .i64 ((rd_T33 t378 x14_1).f0.f0), .int .i64 ((rd_T33 t378 x14_1).f0.f1), .slice A381_2 ((rd_T33 t378 x14_1).f1).length c381_2] 33 (0, 0)) (mK BK382.out) k_ hk⟩)); (case aO => exact (by refine mNd ?_; exact Kd.N_mono HO_378000.out (fun _ hk => ⟨hk.1.1, ⟨hk.1.2.1, ⟨hk.1.2.2.1, ⟨hk.1.2.2.2.1, ⟨hk.1.2.2.2.2.1, ⟨hk.1.2.2.2.2.2, hk.2⟩⟩⟩⟩⟩⟩))); (case aS => exact (below_size (mH5 HB.out GE374.out GE375.out GE376.out GE377.out GE382.out))); (case aL => have := LMc64.out; omega); intro v397 w80 ho hb hg hat; rw [← Ny396.out] at ho; replace HO_12 := mS (Kd.N_afterv (ok := (fun k_ => (w.heap.size ≤ k_) ∧ k_ ≠ gb374 ∧ k_ ≠ gb375 ∧ k_ ≠ gb376 ∧ k_ ≠ gb377 ∧ k_ ≠ gb382)) (by refine mNd ?_; exact Kd.N_mono HO_12.out (fun _ hk => ⟨⟨hk.1.1, ⟨hk.1.2.2.1, ⟨hk.1.2.2.2.1, ⟨hk.1.2.2.2.2.1, ⟨hk.1.2.2.2.2.2, hk.2⟩⟩⟩⟩⟩, hk.1.2.1⟩)) hg hat); replace BK374 := mS (blk_grown (g := gb374) (o := .cells #[.slice A0_0 l0_0.length c0_0] 26 (0, 0)) (mK BK374.out) hg (Kd.N_ne HO_378000.out BK374.out (by decide))); replace BK375 := mS (blk_grown (g := gb375) (o := .cells #[.int .i64 a1_0, .int .i64 a1_1, .slice A1_2 l1_2.length c1_2] 33 (0, 0)) (mK BK375.out) hg (Kd.N_away HO_378000.out (fun _ hk => hk.1.2.2.2.1))); replace BK376 := mS (blk_grown (g := gb376) (o := .cells #[.slice none 0 0] 26 (0, 0)) (mK BK376.out) hg (Kd.N_ne HO_378000.out BK376.out (by decide))); replace BK377 := mS (blk_grown (g := gb377) (o := .cells #[u378000] 26 (0, 0)) (mK BK377.out) hg (Kd.N_ne HO_378000.out BK377.out (by decide))); replace HL381_2 := mS (Kd.V_afterv (ok := (fun k_ => (w.heap.size ≤ k_) ∧ some k_ ≠ (.slice (some ad381) t378.length co13 : Value).ownBlock ∧ k_ ≠ gb374 ∧ k_ ≠ gb375 ∧ k_ ≠ gb376 ∧ k_ ≠ gb377 ∧ k_ ≠ gb382)) (by refine mVd ?_; exact Kd.V_mono HL381_2.out (fun _ hk => ⟨⟨hk.1.1.1, ⟨hk.1.2, ⟨hk.1.1.2.2.1, ⟨hk.1.1.2.2.2.1, ⟨hk.1.1.2.2.2.2.1, ⟨hk.1.1.2.2.2.2.2, hk.2⟩⟩⟩⟩⟩⟩, hk.1.1.2.1⟩)) hg hat); replace BK382 := mS (blk_grown (g := gb382) (o := .cells #[.int .i64 ((rd_T33 t378 x14_1).f0.f0), .int .i64 ((rd_T33 t378 x14_1).f0.f1), .slice A381_2 ((rd_T33 t378 x14_1).f1).length c381_2] 33 (0, 0)) (mK BK382.out) hg (Kd.N_away HO_378000.out (fun _ hk => hk.2))); replace HB := mS (hb); have HO398 := mS (ho); clear HO_378000; clear ho hb hg hat; obtain ⟨Ao81, co81, eo81⟩ := Kd.N_slice HO398.out; subst eo81; have hcz82_0 := mZ BK377.out 0; have hfz82_0 := blk_frozen BK377.out 0))
         go_roundg k1
         case measure => have := HK1.out; omega
         case rel => exact ⟨(false), (wrap64 (x14_1 + 1)), (y396), (.slice Ao81 y396.length co81), mE, mE, H', ⟨by have := HK1.out; omega⟩, ⟨by refine mNd ?_; exact Kd.N_mono (Kd.N_far (p := ⟨gb377, 0, none⟩) (Kd.N_mono HO_12.out (fun k_ hk => (⟨hk, hk.1.2.2.2.2.1⟩ : _ ∧ k_ ≠ gb377))) (fun _ hk => hk.2) (.slice Ao81 y396.length co81)) (fun _ hk => ⟨hk.1.1.1, ⟨hk.1.2, ⟨hk.1.1.2.1, ⟨hk.1.1.2.2.1, ⟨hk.1.1.2.2.2.1, hk.1.1.2.2.2.2.1⟩⟩⟩⟩⟩)⟩, ⟨by refine mNd ?_; exact Kd.N_mono (Kd.N_far (p := ⟨gb377, 0, none⟩) (Kd.N_mono HO398.out (fun k_ hk => (⟨hk, hk.2.2.2.2.2.1⟩ : _ ∧ k_ ≠ gb377))) (fun _ hk => hk.2) (.slice Ao81 y396.length co81)) (fun _ hk => ⟨hk.1.1, ⟨hk.1.2.1, ⟨hk.1.2.2.1, ⟨hk.1.2.2.2.1, ⟨hk.1.2.2.2.2.1, hk.1.2.2.2.2.2.1⟩⟩⟩⟩⟩)⟩, ⟨mKf NB374_377.out BK374.out⟩, ⟨mKf NB375_377.out BK375.out⟩, ⟨mKf NB376_377.out BK376.out⟩, ⟨by refine mK ?_; refine blk_put (cs := #[u378000]) ?_ 0 _ rfl; refine mK ?_; exact BK377.out⟩, ⟨(mH5 HB.out GE374.out GE375.out GE376.out GE377.out GE382.out)⟩⟩
        ·rw [if_neg c64] at H
         exact absurd H (by simp)
     ·rw [if_neg c16] at H
      exact absurd H (by simp)
    ·rw [if_neg c15] at H
     exact absurd H (by simp)
   ·rw [if_neg c14] at H
    have c14b0 := decide_eq_false c14
    clear c14
    have HC83 := mS H
    clear H
    go_upto_if 46 with (fail)
    go_cut [] (fun wc => ∃ (kq : Nat) (x378000_82 : List (S33)) (u378000 : Value), Aside0 (impl_GraphPut.j1 kq l0_0 a1_0 a1_1 l1_2 x378000_82 = some (r1, r2)) ∧ Aside0 (kq ≤ k1) ∧ Aside0 (Kd.N k33 33 wc w.heap.size (fun k_ => (w.heap.size ≤ k_) ∧ k_ ≠ gb374 ∧ k_ ≠ gb375 ∧ k_ ≠ gb376 ∧ k_ ≠ gb377) u378000 x378000_82) ∧ Aside0 (wc.heap[gb374]? = some (.cells #[(.slice A0_0 l0_0.length c0_0)] 26 (0, 0))) ∧ Aside0 (wc.heap[gb375]? = some (.cells #[.int .i64 a1_0, .int .i64 a1_1, (.slice A1_2 l1_2.length c1_2)] 33 (0, 0))) ∧ Aside0 (wc.heap[gb376]? = some (.cells #[(.slice none 0 0)] 26 (0, 0))) ∧ Aside0 (wc.heap[gb377]? = some (.cells #[u378000] 26 (0, 0))) ∧ Aside0 (Below w.heap.size w wc))
    case first =>
     have H := HC83.out
     clear HC83
     by_cases c84 : x7_1 = true
     ·subst c84
      have H1 := H
      rw [if_pos rfl] at H1
      clear H
      have H := H1
      clear H1
      have H' := mS H
      clear H
      go_wp2
      go_meet
      case rel => exact ⟨_, (x378000_1), (u378000), H', ⟨by have := HK1.out; first | omega | exact Nat.le_refl _⟩, ⟨by refine mNd ?_; exact Kd.N_mono HO_378000.out (fun _ hk => ⟨hk.1, ⟨hk.2.2.1, ⟨hk.2.2.2.1, ⟨hk.2.2.2.2.1, hk.2.2.2.2.2⟩⟩⟩⟩)⟩, ⟨mK BK374.out⟩, ⟨mK BK375.out⟩, ⟨mK BK376.out⟩, ⟨mK BK377.out⟩, ⟨(mH4 HB.out GE374.out GE375.out GE376.out GE377.out)⟩⟩
     ·replace c84 := Bool.eq_false_iff.mpr c84
      subst c84
      have H1 := H
      rw [if_neg (show ¬ (false = true) by decide)] at H1
      clear H
      have H := H1
      clear H1
      replace H := Option.bind_eq_some_iff.mp H
      obtain ⟨t399, A850, H⟩ := H
      replace H : (if x378000_1.length < 3518437208883 then (impl_GraphPut.j1 k1 l0_0 a1_0 a1_1 l1_2 (x378000_1 ++ [(⟨(⟨a1_0, a1_1⟩ : S31), t399⟩ : S33)])) else (none)) = some (r1, r2) := H
      have A85 := mS A850
      clear A850
      by_cases c86 : x378000_1.length < 3518437208883
      ·rw [if_pos c86] at H
       have LMc86 := mS c86
       clear c86
       obtain ⟨y402, hy402⟩ : ∃ y_ : List (S33), y_ = (x378000_1 ++ [(⟨(⟨a1_0, a1_1⟩ : S31), t399⟩ : S33)]) := ⟨_, rfl⟩
       replace H : (impl_GraphPut.j1 k1 l0_0 a1_0 a1_1 l1_2 y402) = some (r1, r2) := by first | (rw [hy402]; with_reducible exact H) | (have H2_ := (Option.bind_some _ _).symm.trans H; rw [hy402]; with_reducible exact H2_) | (have H2_ := (Option.bind_some _ _).symm.trans H; with_reducible exact H2_) | with_reducible exact H | (rw [hy402]; exact H) | exact H
       have Ny402 := mS hy402
       clear hy402
       have H' := mS H
       clear H
       try go_wp2
       replace HO_12 := mS (Kd.N_drew HO_12.out)
       replace HO_378000 := mS (Kd.N_drew HO_378000.out)
       replace BK374 := mS (blk_drew BK374.out)
       replace BK375 := mS (blk_drew BK375.out)
       replace BK376 := mS (blk_drew BK376.out)
       replace BK377 := mS (blk_drew BK377.out)
       replace HB := mS (below_drew1 HB.out)
       refine start_ (n := 12) (S := fun w' => w'.cell? ⟨gb377, 0, none⟩ = some (u378000) ∧ w'.cell? ⟨gb375, 0, none⟩ = some (.int .i64 a1_0) ∧ w'.cell? ⟨gb375, 1, none⟩ = some (.int .i64 a1_1) ∧ w'.cell? ⟨gb375, 2, none⟩ = some (.slice A1_2 l1_2.length c1_2)) (ds := [11]) (mb 0 12) (by kernel_rfl) rfl rfl ⟨mZ BK377.out 0, mc3 BK375.out⟩ (fun hHeld => ?_); refine with_tabW impl_GraphPut.tab12 impl_GraphPut.bits12 (fun HT_ HW_ => ?_)
       generalize wr.drew = w87 at HO_12 HO_378000 BK374 BK375 BK376 BK377 HB hHeld ⊢
       refine mpu 0 47 HT_.out (mb 1 11) ?_
       refine mpu 2 49 HT_.out (mr [1,1,1,9]) ?_
       refine mpu 4 51 HT_.out (mr [1,1,1,1,1,7]) ?_
       refine mpt 1 48 HT_.out HW_.out (mr [3,1,1,7]) hHeld ?_
       refine mpt 3 50 HT_.out HW_.out (mb 5 7) hHeld ?_
       refine mpt 5 52 HT_.out HW_.out (mb 6 6) hHeld ?_
       refine mone 6 (some 53) HT_.out (mb 7 5) (fun K hK => ?_)
       refine goes_ Try.func65 (by kernel_rfl) rfl #[.slice A1_2 l1_2.length c1_2] (by rfl) rfl rfl mA ?_
       with_reducible refine (impl_copyDots.calls _ _ l1_2 t399 _ ?side1 ?side2 A85.out).mono ?_
       (case side1 => exact mC (Kd.C_below HR1_2.out HB.out))
       (case side2 => exact HC1_2.out)
       rintro e w88 ⟨v400, rfl, ho0, hb⟩
       refine ⟨_, rfl, ?_⟩
       replace HO_12 := mS (Kd.N_elder' (mNd HO_12.out) (Kd.R_base ho0) hb)
       replace HO_378000 := mS (Kd.N_elder' (mNd HO_378000.out) (Kd.R_base ho0) hb)
       have HO401 := mS (Kd.R_lower (Kd.R_newM (M := fun k_ => (w.heap.size ≤ k_)) ho0 (below_size (mH4 HB.out GE374.out GE375.out GE376.out GE377.out)) (fun k_ h_ => h_)) (below_size (mH4 HB.out GE374.out GE375.out GE376.out GE377.out)))
       replace BK374 := mB BK374 hb
       replace BK375 := mB BK375 hb
       replace BK376 := mB BK376 hb
       replace BK377 := mB BK377 hb
       replace HB := mS (below_step (mH4 HB.out GE374.out GE375.out GE376.out GE377.out) hb)
       (try clear hb)
       (try clear hb2)
       (try clear hk)
       (try clear hi)
       (try clear ho0)
       obtain ⟨Ao89, co89, eo89⟩ := Kd.R_slice HO401.out
       (first | subst eo89 | (injection eo89 with f1_ f2_ f3_; have f4_ := f1_.symm; have f5_ := f3_.symm; clear f1_ f2_ f3_; subst f4_; subst f5_))
       refine hK.out _ _ ⟨mZ BK377.out 0, mc3 BK375.out⟩ (fun hHeld => ?_)
       clear hK K
       refine mno 53 ?_
       refine mpu 7 54 HT_.out (mb 8 4) ?_
       refine mone 8 (some 55) HT_.out (mb 9 3) (fun K hK => ?_)
       refine value_ (w1 := ?_) (v := ?_) (by rfl) rfl ?_ ?_
       rotate_left 2
       ·go_simp
        constructor
        ·rfl
        ·rfl
       refine hK.out _ _ ⟨(blk_cell (blk_alloc BK377.out _) 0).trans rfl, (blk_cell (blk_alloc BK375.out _) 0).trans rfl, (blk_cell (blk_alloc BK375.out _) 1).trans rfl, (blk_cell (blk_alloc BK375.out _) 2).trans rfl⟩ (fun hHeld => ?_)
       clear hK K
       refine mno 55 ?_
       refine mone 9 (some 56) HT_.out (mb 10 2) (fun K hK => ?_)
       refine Kd.N_append_step k33 (w0 := w) w.heap.size (by rfl) (.tmp 48) (.tmp 55) 24 33 (.agg #[(.int .i64 0), (.int .i64 0), (.slice none 0 0)]) 40 rfl Try.underlying24 info33 rfl (by decide) (by omega) u378000 x378000_1 (⟨(⟨a1_0, a1_1⟩ : S31), t399⟩ : S33) [.int .i64 a1_0, .int .i64 a1_1, .slice Ao89 t399.length co89] (fun k_ => (w.heap.size ≤ k_) ∧ some k_ ≠ (.slice Ao13 t378.length co13 : Value).ownBlock ∧ k_ ≠ gb374 ∧ k_ ≠ gb375 ∧ k_ ≠ gb376 ∧ k_ ≠ gb377) (fun k_ => ((fun k_ => (w.heap.size ≤ k_) ∧ some k_ ≠ (.slice Ao13 t378.length co13 : Value).ownBlock ∧ k_ ≠ gb374 ∧ k_ ≠ gb375 ∧ k_ ≠ gb376 ∧ k_ ≠ gb377)) k_ ∧ some k_ ≠ (u378000 : Value).ownBlock) rfl rfl ?aP (fun _ hk => hk) ?aF ?aO ?aB ?aS ?aL ?_
       (case aP => exact (k33_mkF _ _ (⟨(⟨a1_0, a1_1⟩ : S31), t399⟩ : S33) (Kd.R_reads' (Kd.R_mono (ok' := (fun k_ => ((fun k_ => (w.heap.size ≤ k_) ∧ some k_ ≠ (.slice Ao13 t378.length co13 : Value).ownBlock ∧ k_ ≠ gb374 ∧ k_ ≠ gb375 ∧ k_ ≠ gb376 ∧ k_ ≠ gb377)) k_ ∧ some k_ ≠ (u378000 : Value).ownBlock)) (Kd.R_types (Kd.R_types (Kd.R_types (Kd.R_types (Kd.R_apart' (Kd.R_apart' (HO401.out) (Kd.N_typed HO_12.out) (by decide)) (Kd.N_typed HO_378000.out) (by decide)) BK374.out (by decide)) BK375.out (by decide)) BK376.out (by decide)) BK377.out (by decide)) (fun k_ hk => ⟨⟨hk.1.1.1.1.1.1.1, ⟨hk.1.1.1.1.1.2, ⟨hk.1.1.1.2, ⟨hk.1.1.2, ⟨hk.1.2, hk.2⟩⟩⟩⟩⟩, hk.1.1.1.1.2⟩))).2.1 (Kd.R_F (Kd.R_mono (ok' := (fun k_ => ((fun k_ => (w.heap.size ≤ k_) ∧ some k_ ≠ (.slice Ao13 t378.length co13 : Value).ownBlock ∧ k_ ≠ gb374 ∧ k_ ≠ gb375 ∧ k_ ≠ gb376 ∧ k_ ≠ gb377)) k_ ∧ some k_ ≠ (u378000 : Value).ownBlock)) (Kd.R_types (Kd.R_types (Kd.R_types (Kd.R_types (Kd.R_apart' (Kd.R_apart' (HO401.out) (Kd.N_typed HO_12.out) (by decide)) (Kd.N_typed HO_378000.out) (by decide)) BK374.out (by decide)) BK375.out (by decide)) BK376.out (by decide)) BK377.out (by decide)) (fun k_ hk => ⟨⟨hk.1.1.1.1.1.1.1, ⟨hk.1.1.1.1.1.2, ⟨hk.1.1.1.2, ⟨hk.1.1.2, ⟨hk.1.2, hk.2⟩⟩⟩⟩⟩, hk.1.1.1.1.2⟩)))))
       (case aB => exact (mH4 HB.out GE374.out GE375.out GE376.out GE377.out))
       (case aF => exact (fun k_ hk => ⟨(Nat.le_trans (below_size (mH4 HB.out GE374.out GE375.out GE376.out GE377.out)) hk), Kd.fresh' (Kd.N_lt (mNd HO_12.out)) k_ hk, Kd.freshB (g := gb374) (o := .cells #[.slice A0_0 l0_0.length c0_0] 26 (0, 0)) (mK BK374.out) k_ hk, Kd.freshB (g := gb375) (o := .cells #[.int .i64 a1_0, .int .i64 a1_1, .slice A1_2 l1_2.length c1_2] 33 (0, 0)) (mK BK375.out) k_ hk, Kd.freshB (g := gb376) (o := .cells #[.slice none 0 0] 26 (0, 0)) (mK BK376.out) k_ hk, Kd.freshB (g := gb377) (o := .cells #[u378000] 26 (0, 0)) (mK BK377.out) k_ hk⟩))
       (case aO => exact (by refine mNd ?_; exact Kd.N_mono HO_378000.out (fun _ hk => ⟨hk.1.1, ⟨hk.1.2.1, ⟨hk.1.2.2.1, ⟨hk.1.2.2.2.1, ⟨hk.1.2.2.2.2.1, hk.1.2.2.2.2.2⟩⟩⟩⟩⟩)))
       (case aS => exact (below_size (mH4 HB.out GE374.out GE375.out GE376.out GE377.out)))
       (case aL => have := LMc86.out; omega)
       intro v403 w90 ho hb hg hat
       rw [← Ny402.out] at ho
       replace HO_12 := mS (Kd.N_afterv (ok := (fun k_ => (w.heap.size ≤ k_) ∧ some k_ ≠ (.slice Ao89 t399.length co89 : Value).ownBlock ∧ k_ ≠ gb374 ∧ k_ ≠ gb375 ∧ k_ ≠ gb376 ∧ k_ ≠ gb377)) (by refine mNd ?_; exact Kd.N_mono HO_12.out (fun _ hk => ⟨⟨hk.1.1, ⟨hk.2, ⟨hk.1.2.2.1, ⟨hk.1.2.2.2.1, ⟨hk.1.2.2.2.2.1, hk.1.2.2.2.2.2⟩⟩⟩⟩⟩, hk.1.2.1⟩)) hg hat)
       replace BK374 := mS (blk_grown (g := gb374) (o := .cells #[.slice A0_0 l0_0.length c0_0] 26 (0, 0)) (mK BK374.out) hg (Kd.N_ne HO_378000.out BK374.out (by decide)))
       replace BK375 := mS (blk_grown (g := gb375) (o := .cells #[.int .i64 a1_0, .int .i64 a1_1, .slice A1_2 l1_2.length c1_2] 33 (0, 0)) (mK BK375.out) hg (Kd.N_away HO_378000.out (fun _ hk => hk.1.2.2.2.1)))
       replace BK376 := mS (blk_grown (g := gb376) (o := .cells #[.slice none 0 0] 26 (0, 0)) (mK BK376.out) hg (Kd.N_ne HO_378000.out BK376.out (by decide)))
       replace BK377 := mS (blk_grown (g := gb377) (o := .cells #[u378000] 26 (0, 0)) (mK BK377.out) hg (Kd.N_ne HO_378000.out BK377.out (by decide)))
       replace HB := mS (hb)
       have HO404 := mS (ho)
       clear HO_378000
       clear HO401
       clear ho hb hg hat
       obtain ⟨Ao91, co91, eo91⟩ := Kd.N_slice HO404.out
       (first | subst eo91 | (injection eo91 with f1_ f2_ f3_; have f4_ := f1_.symm; have f5_ := f3_.symm; clear f1_ f2_ f3_; subst f4_; subst f5_))
       refine hK.out _ _ ⟨mZ BK377.out 0, mc3 BK375.out⟩ (fun hHeld => ?_)
       clear hK K
       refine mno 56 ?_
       refine mpu 10 57 HT_.out (mb 11 1) ?_
       refine last_ (i := 11) (N := none) (mb 12 0) rfl rfl (one_of HT_.out (by kernel_rfl)) (by decide) (fun K hK => ?_)
       have hs92 : w90.cell? ⟨gb377, 0, none⟩ = some (u378000) := mZ BK377.out 0
       have hfs92 := blk_frozen BK377.out 0
       have hns92_0 := NB374_377.out
       have hns92_1 := NB375_377.out
       have hns92_2 := NB376_377.out
       have hms92_0 := NB377_374.out
       have hms92_1 := NB377_375.out
       have hms92_2 := NB377_376.out
       refine skip_ (w1 := ?_) (by rfl) rfl ?_ ?_
       rotate_left
       ·go_simp
        rfl
       refine hK.out _ _ ?_
       clear hK K
       refine done_ (done_of HT_.out (by kernel_rfl)) ?_
       try go_wp2
       go_meet
       case rel => exact ⟨_, (y402), (.slice Ao91 y402.length co91), H', ⟨by have := HK1.out; first | omega | exact Nat.le_refl _⟩, ⟨by refine mNd ?_; exact Kd.N_mono (Kd.N_far (p := ⟨gb377, 0, none⟩) (Kd.N_mono HO404.out (fun k_ hk => (⟨hk, hk.2.2.2.2.2⟩ : _ ∧ k_ ≠ gb377))) (fun _ hk => hk.2) (.slice Ao91 y402.length co91)) (fun _ hk => ⟨hk.1.1, ⟨hk.1.2.2.1, ⟨hk.1.2.2.2.1, ⟨hk.1.2.2.2.2.1, hk.1.2.2.2.2.2⟩⟩⟩⟩)⟩, ⟨mKf NB374_377.out BK374.out⟩, ⟨mKf NB375_377.out BK375.out⟩, ⟨mKf NB376_377.out BK376.out⟩, ⟨by refine mK ?_; refine blk_put (cs := #[u378000]) ?_ 0 _ rfl; refine mK ?_; exact BK377.out⟩, ⟨(mH4 HB.out GE374.out GE375.out GE376.out GE377.out)⟩⟩
      ·rw [if_neg c86] at H
       exact absurd H (by simp)
    case rest =>
     clear HC83
     try clear c1
     try clear p2
     try clear c3
     try clear p3
     try clear q3
     try clear hx3
     try clear c4
     try clear c5
     try clear c6
     try clear p6
     try clear c7
     try clear c8
     try clear c14
     try clear c14b0
     try clear c15
     try clear c16
     try clear c35
     try clear c37
     try clear c38
     try clear p38
     try clear q38
     try clear hx38
     try clear c40
     try clear c41
     try clear c42
     try clear c43
     try clear c45
     try clear c46
     try clear c47
     try clear c57
     try clear c58
     try clear c64
     try clear p64
     try clear c65
     try clear c66
     try clear c67
     try clear c68
     try clear c69
     try clear c71
     try clear c72
     try clear c73
     try clear c76
     try clear c77
     try clear c84
     try clear c86
     try clear hcz44_0
     try clear hcz44_1
     try clear hcz44_2
     try clear hcz48_0
     try clear hcz48_1
     try clear hcz48_2
     try clear hcz59_0
     try clear hcz60_0
     try clear hcz60_1
     try clear hcz60_2
     try clear hcz63_0
     try clear hcz70_0
     try clear hcz70_1
     try clear hcz70_2
     try clear hcz74_0
     try clear hcz74_1
     try clear hcz74_2
     try clear hcz78_0
     try clear hcz79_0
     try clear hcz79_1
     try clear hcz79_2
     try clear hcz82_0
     try clear hfz44_0
     try clear hfz44_1
     try clear hfz44_2
     try clear hfz48_0
     try clear hfz48_1
     try clear hfz48_2
     try clear hfz59_0
     try clear hfz60_0
     try clear hfz60_1
     try clear hfz60_2
     try clear hfz63_0
     try clear hfz70_0
     try clear hfz70_1
     try clear hfz70_2
     try clear hfz74_0
     try clear hfz74_1
     try clear hfz74_2
     try clear hfz78_0
     try clear hfz79_0
     try clear hfz79_1
     try clear hfz79_2
     try clear hfz82_0
     try clear hx381_0
     try clear hx381_1
     try clear hx381_2
     try clear p381
     try clear q381
     obtain ⟨kq, x378000_82, u378000, HA, HJ82, HO_378000, BK374, BK375, BK376, BK377, HB⟩ := hcut
     cases kq with
     | zero => exact absurd HA.out (by simp [impl_GraphPut.j1])
     | succ kj82 =>
      have H := HA.out
      clear HA
      simp only [impl_GraphPut.j1] at H
      replace H := Option.bind_eq_some_iff.mp H
      obtain ⟨t405, A930, H⟩ := H
      replace H : (if t405 ≥ 0 then ((impl_copyGraph.f kj82 l0_0).bind fun t406 => (some (t406, false))) else ((impl_GraphOk.f kj82 x378000_82).bind fun t409 => (if t409 = true then (some (x378000_82, true)) else ((impl_copyGraph.f kj82 l0_0).bind fun t410 => (some (t410, false)))))) = some (r1, r2) := H
      have A93 := mS A930
      clear A930
      by_cases c94 : t405 ≥ 0
      ·rw [if_pos c94] at H
       have c94b0 : decide (0 ≤ t405) = true := decide_eq_true c94
       clear c94
       replace H := Option.bind_eq_some_iff.mp H
       obtain ⟨t406, A950, H⟩ := H
       replace H : (some (t406, false)) = some (r1, r2) := H
       have A95 := mS A950
       clear A950
       simp only [Option.some.injEq, Prod.mk.injEq] at H
       obtain ⟨rfl, rfl⟩ := H
       have hnb96 := NB374_375.out
       have hnc96 := NB375_374.out
       have hnb97 := NB374_376.out
       have hnc97 := NB376_374.out
       have hnb98 := NB374_377.out
       have hnc98 := NB377_374.out
       have hcz99_0 := mZ BK374.out 0
       have hfz99_0 := blk_frozen BK374.out 0
       have hnb100 := NB375_376.out
       have hnc100 := NB376_375.out
       have hnb101 := NB375_377.out
       have hnc101 := NB377_375.out
       obtain ⟨hcz102_0, hcz102_1, hcz102_2, hfz102_0, hfz102_1, hfz102_2⟩ := mZ3 BK375.out
       go_wp2_with (first | ((with_reducible refine gate_callee (f := 66) rfl ?_); refine mGo 61 Try.func66 #[.agg #[.slice A0_0 l0_0.length c0_0], .agg #[.int .i64 a1_0, .int .i64 a1_1]] ?_; (with_reducible refine (impl_itemAt.calls kj82 _ _ l0_0 a1_0 a1_1 t405 _ ?side1 ?side2 A93.out).mono ?_); (case side1 => exact mC (Kd.C_below HR0_0.out HB.out)); (case side2 => exact HC0_0.out); rintro e w103 ⟨rfl, hb⟩; refine ⟨_, rfl, ?_⟩; replace HO_378000 := mS (Kd.N_below (mNd HO_378000.out) hb); replace BK374 := mB BK374 hb; replace BK375 := mB BK375 hb; replace BK376 := mB BK376 hb; replace BK377 := mB BK377 hb; replace HB := mS (below_step (mH4 HB.out GE374.out GE375.out GE376.out GE377.out) hb); (try clear hb); have hcz104_0 := mZ BK374.out 0; have hfz104_0 := blk_frozen BK374.out 0) | ((with_reducible refine gate_callee (f := 63) rfl ?_); refine mGo 69 Try.func63 #[.agg #[.slice A0_0 l0_0.length c0_0]] ?_; (with_reducible refine (impl_copyGraph.calls kj82 _ _ l0_0 t406 _ ?side1 ?side2 A95.out).mono ?_); (case side1 => exact mC (Kd.C_below HR0_0.out HB.out)); (case side2 => exact HC0_0.out); rintro e w105 ⟨v407, rfl, ho0, hb⟩; refine ⟨_, rfl, ?_⟩; have HO408 := mS (Kd.N_lower (Kd.N_mono (ok' := fun k_ => (w.heap.size ≤ k_) ∧ some k_ ≠ (u378000 : Value).ownBlock ∧ k_ ≠ gb374 ∧ k_ ≠ gb375 ∧ k_ ≠ gb376 ∧ k_ ≠ gb377) (Kd.S_N (Kd.S_bound ho0)) (fun k_ hk_ => ⟨(Nat.le_trans (below_size (mH4 HB.out GE374.out GE375.out GE376.out GE377.out)) hk_.2.1), (Kd.fresh' (Kd.N_lt (mNd HO_378000.out)) k_ hk_.2.1), (Kd.freshB (g := gb374) (o := .cells #[.slice A0_0 l0_0.length c0_0] 26 (0, 0)) (mK BK374.out) k_ hk_.2.1), (Kd.freshB (g := gb375) (o := .cells #[.int .i64 a1_0, .int .i64 a1_1, .slice A1_2 l1_2.length c1_2] 33 (0, 0)) (mK BK375.out) k_ hk_.2.1), (Kd.freshB (g := gb376) (o := .cells #[.slice none 0 0] 26 (0, 0)) (mK BK376.out) k_ hk_.2.1), (Kd.freshB (g := gb377) (o := .cells #[u378000] 26 (0, 0)) (mK BK377.out) k_ hk_.2.1)⟩)) (below_size (mH4 HB.out GE374.out GE375.out GE376.out GE377.out))); replace HO_378000 := mS (Kd.N_elder' (mNd HO_378000.out) (by first | exact Kd.N_base ho0 | exact Kd.S_base ho0) hb); replace BK374 := mB BK374 hb; replace BK375 := mB BK375 hb; replace BK376 := mB BK376 hb; replace BK377 := mB BK377 hb; replace HB := mS (below_step (mH4 HB.out GE374.out GE375.out GE376.out GE377.out) hb); (try clear hb); (try clear ho0); obtain ⟨Ao106, co106, eo106⟩ := Kd.N_slice HO408.out; subst eo106; have hnb107 := NB376_377.out; have hnc107 := NB377_376.out; have hcz108_0 := mZ BK376.out 0; have hfz108_0 := blk_frozen BK376.out 0))
       refine bodyPost_ret (results_ct rfl _ _ gb376 26 #[.slice Ao106 t406.length co106] (0, 0) _ rfl (by refine mK ?_; refine blk_put (cs := #[.slice none 0 0]) ?_ 0 _ rfl; refine mK ?_; exact BK376.out) Try.underlying26 rfl (by kernel_rfl)) rfl ?_
       exact ⟨_, mEw, by refine mNd ?_; exact Kd.N_mono (Kd.N_far (p := ⟨gb376, 0, none⟩) (Kd.N_mono HO408.out (fun k_ hk => (⟨hk, hk.2.2.2.2.1⟩ : _ ∧ k_ ≠ gb376))) (fun _ hk => hk.2) (.slice Ao106 t406.length co106)) (fun _ hk => hk.1.1), (mH4 HB.out GE374.out GE375.out GE376.out GE377.out)⟩
      ·rw [if_neg c94] at H
       have c94b0 : decide (0 ≤ t405) = false := decide_eq_false c94
       clear c94
       replace H := Option.bind_eq_some_iff.mp H
       obtain ⟨t409, A1090, H⟩ := H
       replace H : (if t409 = true then (some (x378000_82, true)) else ((impl_copyGraph.f kj82 l0_0).bind fun t410 => (some (t410, false)))) = some (r1, r2) := H
       have A109 := mS A1090
       clear A1090
       by_cases c110 : t409 = true
       ·subst c110
        have H1 := H
        rw [if_pos rfl] at H1
        clear H
        have H := H1
        clear H1
        simp only [Option.some.injEq, Prod.mk.injEq] at H
        obtain ⟨rfl, rfl⟩ := H
        have hnb111 := NB374_375.out
        have hnc111 := NB375_374.out
        have hnb112 := NB374_376.out
        have hnc112 := NB376_374.out
        have hnb113 := NB374_377.out
        have hnc113 := NB377_374.out
        have hcz114_0 := mZ BK374.out 0
        have hfz114_0 := blk_frozen BK374.out 0
        have hnb115 := NB375_376.out
        have hnc115 := NB376_375.out
        have hnb116 := NB375_377.out
        have hnc116 := NB377_375.out
        obtain ⟨hcz117_0, hcz117_1, hcz117_2, hfz117_0, hfz117_1, hfz117_2⟩ := mZ3 BK375.out
        go_wp2_with (first | ((with_reducible refine gate_callee (f := 66) rfl ?_); refine mGo 61 Try.func66 #[.agg #[.slice A0_0 l0_0.length c0_0], .agg #[.int .i64 a1_0, .int .i64 a1_1]] ?_; (with_reducible refine (impl_itemAt.calls kj82 _ _ l0_0 a1_0 a1_1 t405 _ ?side1 ?side2 A93.out).mono ?_); (case side1 => exact mC (Kd.C_below HR0_0.out HB.out)); (case side2 => exact HC0_0.out); rintro e w118 ⟨rfl, hb⟩; refine ⟨_, rfl, ?_⟩; replace HO_378000 := mS (Kd.N_below (mNd HO_378000.out) hb); replace BK374 := mB BK374 hb; replace BK375 := mB BK375 hb; replace BK376 := mB BK376 hb; replace BK377 := mB BK377 hb; replace HB := mS (below_step (mH4 HB.out GE374.out GE375.out GE376.out GE377.out) hb); (try clear hb); have hnb119 := NB377_376.out; have hnc119 := NB376_377.out; have hcz120_0 := mZ BK377.out 0; have hfz120_0 := blk_frozen BK377.out 0; obtain ⟨Ao121, co121, eo121⟩ := Kd.N_slice HO_378000.out; subst eo121) | (go_at_call 67; (with_reducible refine (impl_GraphOk.calls kj82 _ _ x378000_82 true _ ?side1 ?side2 A109.out).mono ?_); (case side1 => exact mC (Kd.N_reads' HO_378000.out).2.2); (case side2 => exact (Kd.N_reads' HO_378000.out).2.1); rintro e w122 ⟨rfl, hb⟩; replace HO_378000 := mS (Kd.N_below (mNd HO_378000.out) hb); replace BK374 := mB BK374 hb; replace BK375 := mB BK375 hb; replace BK376 := mB BK376 hb; replace BK377 := mB BK377 hb; replace HB := mS (below_step (mH4 HB.out GE374.out GE375.out GE376.out GE377.out) hb); (try clear hb); (try clear hb2); (try clear hk); (try clear hi); have hcz123_0 := mZ BK377.out 0; have hfz123_0 := blk_frozen BK377.out 0; have hcz124_0 := mZ BK376.out 0; have hfz124_0 := blk_frozen BK376.out 0))
        refine bodyPost_ret (results_ct rfl _ _ gb376 26 #[.slice Ao121 x378000_82.length co121] (0, 0) _ rfl (by refine mK ?_; refine blk_put (cs := #[.slice none 0 0]) ?_ 0 _ rfl; refine mK ?_; exact BK376.out) Try.underlying26 rfl (by kernel_rfl)) rfl ?_
        exact ⟨_, mEw, by refine mNd ?_; exact Kd.N_mono (Kd.N_far (p := ⟨gb376, 0, none⟩) (Kd.N_mono HO_378000.out (fun k_ hk => (⟨hk, hk.2.2.2.1⟩ : _ ∧ k_ ≠ gb376))) (fun _ hk => hk.2) (.slice Ao121 x378000_82.length co121)) (fun _ hk => hk.1.1), (mH4 HB.out GE374.out GE375.out GE376.out GE377.out)⟩
       ·replace c110 := Bool.eq_false_iff.mpr c110
        subst c110
        have H1 := H
        rw [if_neg (show ¬ (false = true) by decide)] at H1
        clear H
        have H := H1
        clear H1
        replace H := Option.bind_eq_some_iff.mp H
        obtain ⟨t410, A1250, H⟩ := H
        replace H : (some (t410, false)) = some (r1, r2) := H
        have A125 := mS A1250
        clear A1250
        simp only [Option.some.injEq, Prod.mk.injEq] at H
        obtain ⟨rfl, rfl⟩ := H
        have hnb126 := NB374_375.out
        have hnc126 := NB375_374.out
        have hnb127 := NB374_376.out
        have hnc127 := NB376_374.out
        have hnb128 := NB374_377.out
        have hnc128 := NB377_374.out
        have hcz129_0 := mZ BK374.out 0
        have hfz129_0 := blk_frozen BK374.out 0
        have hnb130 := NB375_376.out
        have hnc130 := NB376_375.out
        have hnb131 := NB375_377.out
        have hnc131 := NB377_375.out
        obtain ⟨hcz132_0, hcz132_1, hcz132_2, hfz132_0, hfz132_1, hfz132_2⟩ := mZ3 BK375.out
        go_wp2_with (first | ((with_reducible refine gate_callee (f := 66) rfl ?_); refine mGo 61 Try.func66 #[.agg #[.slice A0_0 l0_0.length c0_0], .agg #[.int .i64 a1_0, .int .i64 a1_1]] ?_; (with_reducible refine (impl_itemAt.calls kj82 _ _ l0_0 a1_0 a1_1 t405 _ ?side1 ?side2 A93.out).mono ?_); (case side1 => exact mC (Kd.C_below HR0_0.out HB.out)); (case side2 => exact HC0_0.out); rintro e w133 ⟨rfl, hb⟩; refine ⟨_, rfl, ?_⟩; replace HO_378000 := mS (Kd.N_below (mNd HO_378000.out) hb); replace BK374 := mB BK374 hb; replace BK375 := mB BK375 hb; replace BK376 := mB BK376 hb; replace BK377 := mB BK377 hb; replace HB := mS (below_step (mH4 HB.out GE374.out GE375.out GE376.out GE377.out) hb); (try clear hb); have hnb134 := NB377_376.out; have hnc134 := NB376_377.out; have hcz135_0 := mZ BK377.out 0; have hfz135_0 := blk_frozen BK377.out 0; obtain ⟨Ao136, co136, eo136⟩ := Kd.N_slice HO_378000.out; subst eo136) | (go_at_call 67; (with_reducible refine (impl_GraphOk.calls kj82 _ _ x378000_82 false _ ?side1 ?side2 A109.out).mono ?_); (case side1 => exact mC (Kd.N_reads' HO_378000.out).2.2); (case side2 => exact (Kd.N_reads' HO_378000.out).2.1); rintro e w137 ⟨rfl, hb⟩; replace HO_378000 := mS (Kd.N_below (mNd HO_378000.out) hb); replace BK374 := mB BK374 hb; replace BK375 := mB BK375 hb; replace BK376 := mB BK376 hb; replace BK377 := mB BK377 hb; replace HB := mS (below_step (mH4 HB.out GE374.out GE375.out GE376.out GE377.out) hb); (try clear hb); (try clear hb2); (try clear hk); (try clear hi); have hcz138_0 := mZ BK374.out 0; have hfz138_0 := blk_frozen BK374.out 0) | ((with_reducible refine gate_callee (f := 63) rfl ?_); refine mGo 69 Try.func63 #[.agg #[.slice A0_0 l0_0.length c0_0]] ?_; (with_reducible refine (impl_copyGraph.calls kj82 _ _ l0_0 t410 _ ?side1 ?side2 A125.out).mono ?_); (case side1 => exact mC (Kd.C_below HR0_0.out HB.out)); (case side2 => exact HC0_0.out); rintro e w139 ⟨v411, rfl, ho0, hb⟩; refine ⟨_, rfl, ?_⟩; have HO412 := mS (Kd.N_lower (Kd.N_mono (ok' := fun k_ => (w.heap.size ≤ k_) ∧ some k_ ≠ (.slice Ao136 x378000_82.length co136 : Value).ownBlock ∧ k_ ≠ gb374 ∧ k_ ≠ gb375 ∧ k_ ≠ gb376 ∧ k_ ≠ gb377) (Kd.S_N (Kd.S_bound ho0)) (fun k_ hk_ => ⟨(Nat.le_trans (below_size (mH4 HB.out GE374.out GE375.out GE376.out GE377.out)) hk_.2.1), (Kd.fresh' (Kd.N_lt (mNd HO_378000.out)) k_ hk_.2.1), (Kd.freshB (g := gb374) (o := .cells #[.slice A0_0 l0_0.length c0_0] 26 (0, 0)) (mK BK374.out) k_ hk_.2.1), (Kd.freshB (g := gb375) (o := .cells #[.int .i64 a1_0, .int .i64 a1_1, .slice A1_2 l1_2.length c1_2] 33 (0, 0)) (mK BK375.out) k_ hk_.2.1), (Kd.freshB (g := gb376) (o := .cells #[.slice none 0 0] 26 (0, 0)) (mK BK376.out) k_ hk_.2.1), (Kd.freshB (g := gb377) (o := .cells #[.slice Ao136 x378000_82.length co136] 26 (0, 0)) (mK BK377.out) k_ hk_.2.1)⟩)) (below_size (mH4 HB.out GE374.out GE375.out GE376.out GE377.out))); replace HO_378000 := mS (Kd.N_elder' (mNd HO_378000.out) (by first | exact Kd.N_base ho0 | exact Kd.S_base ho0) hb); replace BK374 := mB BK374 hb; replace BK375 := mB BK375 hb; replace BK376 := mB BK376 hb; replace BK377 := mB BK377 hb; replace HB := mS (below_step (mH4 HB.out GE374.out GE375.out GE376.out GE377.out) hb); (try clear hb); (try clear hb2); (try clear hk); (try clear hi); (try clear ho0); obtain ⟨Ao140, co140, eo140⟩ := Kd.N_slice HO412.out; subst eo140; have hcz141_0 := mZ BK376.out 0; have hfz141_0 := blk_frozen BK376.out 0))
        refine bodyPost_ret (results_ct rfl _ _ gb376 26 #[.slice Ao140 t410.length co140] (0, 0) _ rfl (by refine mK ?_; refine blk_put (cs := #[.slice none 0 0]) ?_ 0 _ rfl; refine mK ?_; exact BK376.out) Try.underlying26 rfl (by kernel_rfl)) rfl ?_
        exact ⟨_, mEw, by refine mNd ?_; exact Kd.N_mono (Kd.N_far (p := ⟨gb376, 0, none⟩) (Kd.N_mono HO412.out (fun k_ hk => (⟨hk, hk.2.2.2.2.1⟩ : _ ∧ k_ ≠ gb376))) (fun _ hk => hk.2) (.slice Ao140 t410.length co140)) (fun _ hk => hk.1.1), (mH4 HB.out GE374.out GE375.out GE376.out GE377.out)⟩

end Go.Proofs.Ytgbejjeephipeaa.MFnStable
