-- Written by mp.py, this session's own printer (wip/mp.py).
import Derived.Test.YtgncojbnejdplaaVMShort
import Derived.Test.YtgncojbnejdplaaMFnOverlapsx0
import Derived.Test.YtgncojbnejdplaaMFnOverlapsx1
import Derived.Test.YtgncojbnejdplaaMFnOverlapsx2
namespace Go.Proofs.Ytgncojbnejdplaa.MFnOverlaps
open Go.RowKit Go.Proofs.YtgncojbnejdplaaW.PrintWords Go.Proofs.YtgncojbnejdplaaW.PrintLast Go.Proofs.YtgncojbnejdplaaW.PrintMore Go.Proofs.Ytgncojbnejdplaa.MWords
theorem mI102_0 {p q : Prop} (x : q) (h : q → p := by intro h_; repeat (first | (with_reducible first | exact h_ | apply IsS123.alloc | apply IsS123.drewN | apply IsS123.drew | apply IsS123.set_1 | apply IsS123.set_2) | exact h_)) : p := h x
theorem mI102_1 {p q a0 : Prop} (x : q) (g0 : a0) (h : q → a0 → p := by intro h_ g0_; repeat (first | (with_reducible first | exact h_ | apply IsS123.alloc | apply IsS123.drewN | apply IsS123.drew | apply IsS123.set_1 | apply IsS123.set_2 | refine IsS123.far ?_ g0_ _) | exact h_)) : p := h x g0
theorem mI102_2 {p q a0 a1 : Prop} (x : q) (g0 : a0) (g1 : a1) (h : q → a0 → a1 → p := by intro h_ g0_ g1_; repeat (first | (with_reducible first | exact h_ | apply IsS123.alloc | apply IsS123.drewN | apply IsS123.drew | apply IsS123.set_1 | apply IsS123.set_2 | refine IsS123.far ?_ g0_ _ | refine IsS123.far ?_ g1_ _) | exact h_)) : p := h x g0 g1
theorem mI102_3 {p q a0 a1 a2 : Prop} (x : q) (g0 : a0) (g1 : a1) (g2 : a2) (h : q → a0 → a1 → a2 → p := by intro h_ g0_ g1_ g2_; repeat (first | (with_reducible first | exact h_ | apply IsS123.alloc | apply IsS123.drewN | apply IsS123.drew | apply IsS123.set_1 | apply IsS123.set_2 | refine IsS123.far ?_ g0_ _ | refine IsS123.far ?_ g1_ _ | refine IsS123.far ?_ g2_ _) | exact h_)) : p := h x g0 g1 g2
theorem mQ102_4 {p q : Prop} (x : q) (h : q → p := by intro h_; repeat (first | (with_reducible first | exact h_ | apply KeepBut.set_ | apply keep_drewN | apply keep_drew | apply keep_alloc) | exact h_)) : p := h x
theorem mQ102_5 {p q a0 : Prop} (x : q) (g0 : a0) (h : q → a0 → p := by intro h_ g0_; repeat (first | (with_reducible first | exact h_ | apply KeepBut.set_ | apply keep_drewN | apply keep_drew | apply keep_alloc | refine keep_far ?_ g0_ _) | exact h_)) : p := h x g0
theorem mQ102_6 {p q a0 a1 : Prop} (x : q) (g0 : a0) (g1 : a1) (h : q → a0 → a1 → p := by intro h_ g0_ g1_; repeat (first | (with_reducible first | exact h_ | apply KeepBut.set_ | apply keep_drewN | apply keep_drew | apply keep_alloc | refine keep_far ?_ g0_ _ | refine keep_far ?_ g1_ _) | exact h_)) : p := h x g0 g1
theorem mQ102_7 {p q a0 a1 a2 : Prop} (x : q) (g0 : a0) (g1 : a1) (g2 : a2) (h : q → a0 → a1 → a2 → p := by intro h_ g0_ g1_ g2_; repeat (first | (with_reducible first | exact h_ | apply KeepBut.set_ | apply keep_drewN | apply keep_drew | apply keep_alloc | refine keep_far ?_ g0_ _ | refine keep_far ?_ g1_ _ | refine keep_far ?_ g2_ _) | exact h_)) : p := h x g0 g1 g2
theorem mH102_8 {p q a0 : Prop} (x : q) (g0 : a0) (h : q → a0 → p := by intro h_ g0_; repeat (first | (with_reducible first | exact h_ | apply below_alloc | apply pw_below_drewN | apply below_drew1 | refine below_set ?_ g0_) | exact h_)) : p := h x g0
theorem mH102_9 {p q a0 a1 : Prop} (x : q) (g0 : a0) (g1 : a1) (h : q → a0 → a1 → p := by intro h_ g0_ g1_; repeat (first | (with_reducible first | exact h_ | apply below_alloc | apply pw_below_drewN | apply below_drew1 | refine below_set ?_ g0_ | refine below_set ?_ g1_) | exact h_)) : p := h x g0 g1
theorem mH102_10 {p q a0 a1 a2 : Prop} (x : q) (g0 : a0) (g1 : a1) (g2 : a2) (h : q → a0 → a1 → a2 → p := by intro h_ g0_ g1_ g2_; repeat (first | (with_reducible first | exact h_ | apply below_alloc | apply pw_below_drewN | apply below_drew1 | refine below_set ?_ g0_ | refine below_set ?_ g1_ | refine below_set ?_ g2_) | exact h_)) : p := h x g0 g1 g2
theorem mH102_11 {p q a0 a1 a2 a3 : Prop} (x : q) (g0 : a0) (g1 : a1) (g2 : a2) (g3 : a3) (h : q → a0 → a1 → a2 → a3 → p := by intro h_ g0_ g1_ g2_ g3_; repeat (first | (with_reducible first | exact h_ | apply below_alloc | apply pw_below_drewN | apply below_drew1 | refine below_set ?_ g0_ | refine below_set ?_ g1_ | refine below_set ?_ g2_ | refine below_set ?_ g3_) | exact h_)) : p := h x g0 g1 g2 g3
attribute [local go_sem] max2_int min2_int max_two min_two max_three min_three max_four min_four   -- for this text's walks alone
set_option linter.unusedVariables false
set_option linter.unusedSimpArgs false

/-! ### spec_l6Draw: function 102 -/
mutual
def spec_l6Draw.l0 : Nat → Int → List Int → Int → Int → Int → Int → List (S46) → Option (Int × Int × (List (S46)) × Int × Int)
 | 0, _, _, _, _, _, _, _ => none
 | k + 1, x4, x1000, x1001, x1002, x149000, x149001, x149002 => if x4 > 0 then ((spec_l4Key.f x1000 x1001 x1002).bind fun bt152 => ((spec_l4Key.f x1000 bt152.2.1 bt152.2.2).bind fun bt155 => (if (Op.bytesLess bt155.1.toList bt152.1.toList) = true then (spec_l6Draw.j1 k x4 bt155.1 bt152.1 x1000 bt155.2.1 bt155.2.2 x149000 x149001 x149002) else (spec_l6Draw.j1 k x4 bt152.1 bt155.1 x1000 bt155.2.1 bt155.2.2 x149000 x149001 x149002)))) else (some (x149000, x149001, x149002, x1001, x1002))
def spec_l6Draw.j1 : Nat → Int → ByteArray → ByteArray → List Int → Int → Int → Int → Int → List (S46) → Option (Int × Int × (List (S46)) × Int × Int)
 | 0, _, _, _, _, _, _, _, _, _ => none
 | k + 1, x4, x5, x6, x1000, x1001, x1002, x149000, x149001, x149002 => (some (([] : List (S46)) : List (S46))).bind fun y158 => (if y158.length + x149002.length < 2932031007402 then ((some (y158 ++ x149002 : List (S46))).bind fun y161 => ((spec_l1Below.f x1000 x1001 x1002 4).bind fun bt164 => ((some (([(⟨x149000, bt164.1, x5, x6⟩ : S46)] : List (S46)) : List (S46))).bind fun y167 => (if y161.length + y167.length < 2932031007402 then ((some (y161 ++ y167 : List (S46))).bind fun y170 => ((spec_ManOk.f k (wrap64 (x149000 + 2)) (wrap64 (x149000 + 1)) y170).bind fun t174 => (if t174 = true then (spec_l6Draw.l0 k (wrap64 (x4 - 1)) x1000 bt164.2.1 bt164.2.2 (wrap64 (x149000 + 2)) (wrap64 (x149000 + 1)) y170) else (spec_l6Draw.l0 k (wrap64 (x4 - 1)) x1000 bt164.2.1 bt164.2.2 x149000 x149001 x149002)))) else (none))))) else (none))
end
def spec_l6Draw.f (k : Nat) (s0_0 : List Int) (s0_1 : Int) (s0_2 : Int) : Option (Int × Int × (List (S46)) × Int × Int) := (spec_l1Below.f s0_0 s0_1 s0_2 6).bind fun bt149 => (spec_l6Draw.l0 k bt149.1 s0_0 bt149.2.1 bt149.2.2 2 1 ([] : List (S46)))
theorem spec_l6Draw.mono_l : ∀ k, (∀ y0 y1 y2 y3 y4 y5 y6, LeO (spec_l6Draw.l0 k y0 y1 y2 y3 y4 y5 y6) (spec_l6Draw.l0 (k + 1) y0 y1 y2 y3 y4 y5 y6)) ∧ (∀ y0 y1 y2 y3 y4 y5 y6 y7 y8, LeO (spec_l6Draw.j1 k y0 y1 y2 y3 y4 y5 y6 y7 y8) (spec_l6Draw.j1 (k + 1) y0 y1 y2 y3 y4 y5 y6 y7 y8))
 | 0 => ⟨fun _ _ _ _ _ _ _ r h => by simp [spec_l6Draw.l0] at h, fun _ _ _ _ _ _ _ _ _ r h => by simp [spec_l6Draw.j1] at h⟩
 | k + 1 => by
  obtain ⟨ih0, ih1⟩ := spec_l6Draw.mono_l k
  refine ⟨?_, ?_⟩
  ·intro y0 y1 y2 y3 y4 y5 y6
   unfold spec_l6Draw.l0
   repeat' first
   | (with_reducible exact ih0 _ _ _ _ _ _ _)
   | (with_reducible exact ih1 _ _ _ _ _ _ _ _ _)
   | (with_reducible exact spec_ManOk.mono _ _ _ _)
   | (with_reducible exact LeO.refl _)
   | (with_reducible exact LeO.none _)
   | (with_reducible refine LeO.ite ?_ ?_)
   | (with_reducible refine LeO.bind ?_ (fun _ => ?_))
   | exact ih0 _ _ _ _ _ _ _
   | exact ih1 _ _ _ _ _ _ _ _ _
   | exact spec_ManOk.mono _ _ _ _
   | exact LeO.none _
   | refine LeO.ite ?_ ?_
   | refine LeO.bind ?_ (fun _ => ?_)
  ·intro y0 y1 y2 y3 y4 y5 y6 y7 y8
   unfold spec_l6Draw.j1
   repeat' first
   | (with_reducible exact ih0 _ _ _ _ _ _ _)
   | (with_reducible exact ih1 _ _ _ _ _ _ _ _ _)
   | (with_reducible exact spec_ManOk.mono _ _ _ _)
   | (with_reducible exact LeO.refl _)
   | (with_reducible exact LeO.none _)
   | (with_reducible refine LeO.ite ?_ ?_)
   | (with_reducible refine LeO.bind ?_ (fun _ => ?_))
   | exact ih0 _ _ _ _ _ _ _
   | exact ih1 _ _ _ _ _ _ _ _ _
   | exact spec_ManOk.mono _ _ _ _
   | exact LeO.none _
   | refine LeO.ite ?_ ?_
   | refine LeO.bind ?_ (fun _ => ?_)
theorem spec_l6Draw.mono : ∀ a0 a1 a2 k, LeO (spec_l6Draw.f k a0 a1 a2) (spec_l6Draw.f (k + 1) a0 a1 a2) := by
 intro a0 a1 a2 k
 obtain ⟨ih0, ih1⟩ := spec_l6Draw.mono_l k
 unfold spec_l6Draw.f
 repeat' first
   | (with_reducible exact ih0 _ _ _ _ _ _ _)
   | (with_reducible exact ih1 _ _ _ _ _ _ _ _ _)
   | (with_reducible exact spec_ManOk.mono _ _ _ _)
   | (with_reducible exact LeO.refl _)
   | (with_reducible exact LeO.none _)
   | (with_reducible refine LeO.ite ?_ ?_)
   | (with_reducible refine LeO.bind ?_ (fun _ => ?_))
   | exact ih0 _ _ _ _ _ _ _
   | exact ih1 _ _ _ _ _ _ _ _ _
   | exact spec_ManOk.mono _ _ _ _
   | exact LeO.none _
   | refine LeO.ite ?_ ?_
   | refine LeO.bind ?_ (fun _ => ?_)
def spec_l6Draw.T9 : Bool × List (List Nat × List Nat) := (true, [([], []), ([0], [0]), ([1], [1]), ([], []), ([3], [3]), ([4], [4]), ([], []), ([], []), ([7], [7]), ([6, 8], [6, 8]), ([], []), ([10], [10]), ([], []), ([12, 9], [12]), ([], []), ([], []), ([11, 13, 14, 15], [11, 13, 14, 15]), ([16], [16]), ([9, 17, 13], [9, 17]), ([2, 5, 18], [2, 5, 18]), ([], []), ([20, 19, 18, 0, 1, 2, 3, 4, 5, 6, 7, 8, 9, 10, 11, 12, 13, 14, 15, 16, 17, 18, 19, 20], [19, 20])])
def spec_l6Draw.B9 : List Nat := [0, 1, 3, 0, 8, 24, 0, 0, 128, 448, 0, 1024, 0, 5056, 0, 0, 65472, 131008, 262080, 524287, 0, 2097151]
theorem spec_l6Draw.tab9 : rtab .any (opsOf Try.f102 9) = spec_l6Draw.T9 := by kernel_rfl
theorem spec_l6Draw.bits9 : waitsOk spec_l6Draw.T9.2 spec_l6Draw.B9 = true := by kernel_rfl
set_option maxHeartbeats 8000000 in
set_option maxRecDepth 100000 in
theorem spec_l6Draw.calls (k : Nat) (g : Nat) (s0_0 : List Int) (s0_1 : Int) (s0_2 : Int) (r1 : Int) (r2 : Int) (r3 : List (S46)) (r4 : Int) (r5 : Int) (w0 w : World) (hI : IsS123 w0 w g s0_0 s0_1 s0_2) (hB : Below w0.heap.size w0 w) (h : spec_l6Draw.f k s0_0 s0_1 s0_2 = some (r1, r2, r3, r4, r5)) :
  Calls Try.prog 102 #[.pointer (some ⟨g, 0, none⟩)] w fun e w' => ∃ v2_ : Value, e = .returned (.agg #[.int .i64 r1, .int .i64 r2, v2_]) ∧ Kd.R k46 46 w' w.heap.size (fun _ => True) v2_ r3 ∧ IsS123 w0 w' g s0_0 r4 r5 ∧ Below w0.heap.size w0 w' ∧ KeepBut w w' g none := by
 have hu40 := Try.underlying40
 have hu46 := Try.underlying46
 have HI0 := mS hI
 have HK := mS (KeepBut.refl w g none)
 have HL := mS hB.size
 clear hI
 have HW0 := mS hB.size
 have HB := mS hB
 clear hB
 have H : ((spec_l1Below.f s0_0 s0_1 s0_2 6).bind fun bt149 => (spec_l6Draw.l0 k bt149.1 s0_0 bt149.2.1 bt149.2.2 2 1 ([] : List (S46)))) = some (r1, r2, r3, r4, r5) := h
 clear h
 replace H := Option.bind_eq_some_iff.mp H
 obtain ⟨⟨t149, t150, t151⟩, A20, H⟩ := H
 replace H : (spec_l6Draw.l0 k t149 s0_0 t150 t151 2 1 ([] : List (S46))) = some (r1, r2, r3, r4, r5) := H
 have A2 := mS A20
 clear A20
 have H' := mS H
 clear H
 go_enter Try.func102, Try.ntmps102
 go_wp2_with (first | ((with_reducible refine gate_dst (N := 2) rfl ?_); refine box_event ?hg (N := 2) ?hd (cs := #[.int .i64 0, .int .i64 0, .slice none 0 0]) (t := 40) ?hr ?_; (case hd => rfl); (case hg => rfl); (case hr => first | (go_simp; done) | (go_simp; rfl)); intro gb147 hg w3 hbox hb; replace HB := mS (below_step (mH102_8 HB.out (IsS123.ge HI0.out)) hb); have BK147 := mS (hbox); have GW147 := mS ((by rw [hg]; exact (keep_size (w := w) (g := g) (row := none) (mQ102_4 HK.out)) : w.heap.size ≤ gb147)); have GE147 := mS ((Nat.le_trans HW0.out (by rw [hg]; exact (keep_size (w := w) (g := g) (row := none) (mQ102_4 HK.out)) : w.heap.size ≤ gb147) : w0.heap.size ≤ gb147)); replace HK := mS (KeepBut.trans (mQ102_4 HK.out) (KeepBut.of_below hb g none) (.inl rfl)); have NB0_147 := mS ((by rw [hg]; exact Nat.ne_of_lt (IsS123.lt (show IsS123 w0 _ g s0_0 s0_1 s0_2 from mI102_0 HI0.out)) : g ≠ gb147)); have NB147_0 := mS ((by rw [hg]; exact Nat.ne_of_gt (IsS123.lt (show IsS123 w0 _ g s0_0 s0_1 s0_2 from mI102_0 HI0.out)) : gb147 ≠ g)); replace HI0 := mS (IsS123.below (mI102_0 HI0.out) hb); clear hb hbox hg) | ((with_reducible refine gate_dst (N := 3) rfl ?_); refine box_event ?hg (N := 3) ?hd (cs := #[.int .i64 0, .int .i64 0, .slice none 0 0]) (t := 40) ?hr ?_; (case hd => rfl); (case hg => rfl); (case hr => first | (go_simp; done) | (go_simp; rfl)); intro gb148 hg w4 hbox hb; replace HB := mS (below_step (mH102_9 HB.out (IsS123.ge HI0.out) GE147.out) hb); have BK148 := mS (hbox); have GW148 := mS ((by rw [hg]; exact (keep_size (w := w) (g := g) (row := none) (mQ102_5 HK.out GW147.out)) : w.heap.size ≤ gb148)); have GE148 := mS ((Nat.le_trans HW0.out (by rw [hg]; exact (keep_size (w := w) (g := g) (row := none) (mQ102_5 HK.out GW147.out)) : w.heap.size ≤ gb148) : w0.heap.size ≤ gb148)); replace HK := mS (KeepBut.trans (mQ102_5 HK.out GW147.out) (KeepBut.of_below hb g none) (.inl rfl)); have NB147_148 := mNl hg BK147.out; have NB148_147 := mNg hg BK147.out; replace BK147 := mB BK147 hb; have NB0_148 := mS ((by rw [hg]; exact Nat.ne_of_lt (IsS123.lt (show IsS123 w0 _ g s0_0 s0_1 s0_2 from mI102_1 HI0.out NB0_147.out)) : g ≠ gb148)); have NB148_0 := mS ((by rw [hg]; exact Nat.ne_of_gt (IsS123.lt (show IsS123 w0 _ g s0_0 s0_1 s0_2 from mI102_1 HI0.out NB0_147.out)) : gb148 ≠ g)); replace HI0 := mS (IsS123.below (mI102_1 HI0.out NB0_147.out) hb); clear hb hbox hg; have hnb5 := NB148_147.out; have hnc5 := NB147_148.out; have hnb6 := NB148_0.out; have hnc6 := NB0_148.out; have hcz7_0 := mZ BK148.out 0; have hcz7_1 := mZ BK148.out 1; have hcz7_2 := mZ BK148.out 2; have hfz7_0 := blk_frozen BK148.out 0; have hfz7_1 := blk_frozen BK148.out 1; have hfz7_2 := blk_frozen BK148.out 2) | ((with_reducible refine gate_callee (f := 73) rfl ?_); refine goesL_ (some 10) rfl rfl Try.func73 (by kernel_rfl) rfl #[.pointer (some ⟨g, 0, none⟩), .int .i64 6] rfl mA ?_; (with_reducible refine (spec_l1Below.calls g s0_0 s0_1 s0_2 6 t149 t150 t151 w0 _ ?side1 ?side2 A2.out).mono ?_); (case side1 => repeat (first | (with_reducible first | exact HI0.out | apply IsS123.alloc | apply IsS123.drewN | apply IsS123.drew | apply IsS123.set_1 | apply IsS123.set_2 | refine IsS123.far ?_ NB0_147.out _ | refine IsS123.far ?_ NB0_148.out _) | exact HI0.out)); (case side2 => repeat (first | (with_reducible first | exact HB.out | apply below_alloc | apply pw_below_drewN | apply below_drew1 | refine below_set ?_ (IsS123.ge HI0.out) | refine below_set ?_ GE147.out | refine below_set ?_ GE148.out) | exact HB.out)); rintro e w8 ⟨rfl, hi, hb, hk⟩; refine ⟨_, rfl, ?_⟩; replace BK147 := mS (KeepBut.blk hk (g' := gb147) (o := .cells #[.int .i64 0, .int .i64 0, .slice none 0 0] 40 (0, 0)) (by (with_reducible repeat (first | refine blk_drewN ?_ _ | refine blk_drew ?_ | refine blk_alloc ?_ _)); refine blk_far ?_ NB147_148.out _; (with_reducible repeat (first | refine blk_drewN ?_ _ | refine blk_drew ?_ | refine blk_alloc ?_ _)); refine blk_far ?_ NB147_148.out _; (with_reducible repeat (first | refine blk_drewN ?_ _ | refine blk_drew ?_ | refine blk_alloc ?_ _)); refine blk_far ?_ NB147_148.out _; (with_reducible repeat (first | refine blk_drewN ?_ _ | refine blk_drew ?_ | refine blk_alloc ?_ _)); exact BK147.out) NB147_0.out (by simp)); replace BK148 := mS (KeepBut.blk hk (g' := gb148) (o := .cells #[.int .i64 2, .int .i64 1, .slice none 0 0] 40 (0, 0)) (by (with_reducible repeat (first | refine blk_drewN ?_ _ | refine blk_drew ?_ | refine blk_alloc ?_ _)); refine blk_put (cs := #[.int .i64 2, .int .i64 1, .slice none 0 0]) ?_ 2 _ rfl; (with_reducible repeat (first | refine blk_drewN ?_ _ | refine blk_drew ?_ | refine blk_alloc ?_ _)); refine blk_put (cs := #[.int .i64 2, .int .i64 0, .slice none 0 0]) ?_ 1 _ rfl; (with_reducible repeat (first | refine blk_drewN ?_ _ | refine blk_drew ?_ | refine blk_alloc ?_ _)); refine blk_put (cs := #[.int .i64 0, .int .i64 0, .slice none 0 0]) ?_ 0 _ rfl; (with_reducible repeat (first | refine blk_drewN ?_ _ | refine blk_drew ?_ | refine blk_alloc ?_ _)); exact BK148.out) NB148_0.out (by simp)); replace HK := mS (KeepBut.trans (mQ102_6 HK.out GW147.out GW148.out) hk (.inl rfl)); replace HB := mS (hb); replace HI0 := mS (hi); (try clear hb); (try clear hb2); (try clear hk); (try clear hi)))
 go_loopg [4] k (fun kq v4 w' => ∃ (x4_1 : Int) (x1001_1 : Int) (x1002_1 : Int) (x149000_1 : Int) (x149001_1 : Int) (x149002_1 : List (S46)) (u149002 : Value), v4 = .int .i64 x4_1 ∧ Aside0 (spec_l6Draw.l0 kq x4_1 s0_0 x1001_1 x1002_1 x149000_1 x149001_1 x149002_1 = some (r1, r2, r3, r4, r5)) ∧ Aside0 (kq ≤ k) ∧ Aside0 (Kd.R k46 46 w' w.heap.size (fun _ => True) u149002 x149002_1) ∧ Aside0 (w'.heap[gb147]? = some (.cells #[.int .i64 0, .int .i64 0, (.slice none 0 0)] 40 (0, 0))) ∧ Aside0 (w'.heap[gb148]? = some (.cells #[.int .i64 x149000_1, .int .i64 x149001_1, u149002] 40 (0, 0))) ∧ Aside0 (IsS123 w0 w' g s0_0 x1001_1 x1002_1) ∧ Aside0 (KeepBut w w' g none) ∧ Aside0 (Below w0.heap.size w0 w'))
 case atStart => exact ⟨(t149), (t150), (t151), (2), (1), (([] : List (S46))), (.slice none 0 0), (by first | rfl | (simp; done) | (simp [*]; done)), H', ⟨Nat.le_refl _⟩, ⟨by first | exact Kd.R_nil _ _ _ _ _ | exact Kd.N_nil _ _ _ _ _ | exact Kd.V_nil _ _ _ _ _ | exact Kd.Q_nil _ _ _ _ _ | exact Kd.S_nil _ _ _ _ _⟩, ⟨by (with_reducible repeat (first | refine blk_drewN ?_ _ | refine blk_drew ?_ | refine blk_alloc ?_ _)); exact BK147.out⟩, ⟨by (with_reducible repeat (first | refine blk_drewN ?_ _ | refine blk_drew ?_ | refine blk_alloc ?_ _)); exact BK148.out⟩, ⟨mI102_2 HI0.out NB0_147.out NB0_148.out⟩, ⟨mQ102_6 HK.out GW147.out GW148.out⟩, ⟨mH102_10 HB.out (IsS123.ge HI0.out) GE147.out GE148.out⟩⟩
 case round =>
  clear H'
  try clear c1
  try clear p2
  try clear c5
  try clear c6
  try clear c7
  try clear hcz7_0
  try clear hcz7_1
  try clear hcz7_2
  try clear hfz7_0
  try clear hfz7_1
  try clear hfz7_2
  obtain ⟨x4_1, x1001_1, x1002_1, x149000_1, x149001_1, x149002_1, u149002, rfl, HA, HK1, HO_149002, BK147, BK148, HI0, HK, HB⟩ := hrel
  cases gk with
  | zero => exact absurd HA.out (by simp [spec_l6Draw.l0])
  | succ k1 =>
   have H := HA.out
   clear HA
   simp only [spec_l6Draw.l0] at H
   by_cases c9 : x4_1 > 0
   ·rw [if_pos c9] at H
    have c9b0 : decide (0 < x4_1) = true := decide_eq_true c9
    clear c9
    replace H := Option.bind_eq_some_iff.mp H
    obtain ⟨⟨t152, t153, t154⟩, A100, H⟩ := H
    replace H : ((spec_l4Key.f s0_0 t153 t154).bind fun bt155 => (if (Op.bytesLess bt155.1.toList t152.toList) = true then (spec_l6Draw.j1 k1 x4_1 bt155.1 t152 s0_0 bt155.2.1 bt155.2.2 x149000_1 x149001_1 x149002_1) else (spec_l6Draw.j1 k1 x4_1 t152 bt155.1 s0_0 bt155.2.1 bt155.2.2 x149000_1 x149001_1 x149002_1))) = some (r1, r2, r3, r4, r5) := H
    have A10 := mS A100
    clear A100
    replace H := Option.bind_eq_some_iff.mp H
    obtain ⟨⟨t155, t156, t157⟩, A110, H⟩ := H
    replace H : (if (Op.bytesLess t155.toList t152.toList) = true then (spec_l6Draw.j1 k1 x4_1 t155 t152 s0_0 t156 t157 x149000_1 x149001_1 x149002_1) else (spec_l6Draw.j1 k1 x4_1 t152 t155 s0_0 t156 t157 x149000_1 x149001_1 x149002_1)) = some (r1, r2, r3, r4, r5) := H
    have A11 := mS A110
    clear A110
    have HC12 := mS H
    clear H
    go_upto_if 21 with (first | ((with_reducible refine gate_callee (f := 76) rfl ?_); refine goesL_ (some 16) rfl rfl Try.func76 (by kernel_rfl) rfl #[.pointer (some ⟨g, 0, none⟩)] rfl mA ?_; (with_reducible refine (spec_l4Key.calls g s0_0 x1001_1 x1002_1 t152 t153 t154 w0 _ ?side1 ?side2 A10.out).mono ?_); (case side1 => repeat (first | (with_reducible first | exact HI0.out | apply IsS123.alloc | apply IsS123.drewN | apply IsS123.drew | apply IsS123.set_1 | apply IsS123.set_2 | refine IsS123.far ?_ NB0_147.out _ | refine IsS123.far ?_ NB0_148.out _) | exact HI0.out)); (case side2 => repeat (first | (with_reducible first | exact HB.out | apply below_alloc | apply pw_below_drewN | apply below_drew1 | refine below_set ?_ (IsS123.ge HI0.out) | refine below_set ?_ GE147.out | refine below_set ?_ GE148.out) | exact HB.out)); rintro e w13 ⟨rfl, hi, hb, hk⟩; refine ⟨_, rfl, ?_⟩; replace HO_149002 := mS (Kd.R_mono (Kd.R_keep (IsS123.apart (show IsS123 w0 _ g s0_0 x1001_1 x1002_1 from mI102_2 HI0.out NB0_147.out NB0_148.out) (mR HO_149002.out) (by decide)) hk (fun _ h => h.2)) (fun _ h => h.1)); replace BK147 := mS (KeepBut.blk hk (g' := gb147) (o := .cells #[.int .i64 0, .int .i64 0, .slice none 0 0] 40 (0, 0)) (mK BK147.out) NB147_0.out (by simp)); replace BK148 := mS (KeepBut.blk hk (g' := gb148) (o := .cells #[.int .i64 x149000_1, .int .i64 x149001_1, u149002] 40 (0, 0)) (mK BK148.out) NB148_0.out (by simp)); replace HK := mS (KeepBut.trans (mQ102_6 HK.out GW147.out GW148.out) hk (.inl rfl)); replace HB := mS (hb); replace HI0 := mS (hi); (try clear hb); (try clear hb2); (try clear hk); (try clear hi)) | ((with_reducible refine gate_callee (f := 76) rfl ?_); refine goesL_ (some 18) rfl rfl Try.func76 (by kernel_rfl) rfl #[.pointer (some ⟨g, 0, none⟩)] rfl mA ?_; (with_reducible refine (spec_l4Key.calls g s0_0 t153 t154 t155 t156 t157 w0 _ ?side1 ?side2 A11.out).mono ?_); (case side1 => repeat (first | (with_reducible first | exact HI0.out | apply IsS123.alloc | apply IsS123.drewN | apply IsS123.drew | apply IsS123.set_1 | apply IsS123.set_2 | refine IsS123.far ?_ NB0_147.out _ | refine IsS123.far ?_ NB0_148.out _) | exact HI0.out)); (case side2 => repeat (first | (with_reducible first | exact HB.out | apply below_alloc | apply pw_below_drewN | apply below_drew1 | refine below_set ?_ (IsS123.ge HI0.out) | refine below_set ?_ GE147.out | refine below_set ?_ GE148.out) | exact HB.out)); rintro e w14 ⟨rfl, hi, hb, hk⟩; refine ⟨_, rfl, ?_⟩; replace HO_149002 := mS (Kd.R_mono (Kd.R_keep (IsS123.apart (show IsS123 w0 _ g s0_0 t153 t154 from mI102_2 HI0.out NB0_147.out NB0_148.out) (mR HO_149002.out) (by decide)) hk (fun _ h => h.2)) (fun _ h => h.1)); replace BK147 := mS (KeepBut.blk hk (g' := gb147) (o := .cells #[.int .i64 0, .int .i64 0, .slice none 0 0] 40 (0, 0)) (mK BK147.out) NB147_0.out (by simp)); replace BK148 := mS (KeepBut.blk hk (g' := gb148) (o := .cells #[.int .i64 x149000_1, .int .i64 x149001_1, u149002] 40 (0, 0)) (mK BK148.out) NB148_0.out (by simp)); replace HK := mS (KeepBut.trans (mQ102_6 HK.out GW147.out GW148.out) hk (.inl rfl)); replace HB := mS (hb); replace HI0 := mS (hi); (try clear hb); (try clear hb2); (try clear hk); (try clear hi)))
    (try simp only [Act.put, zA, zB, zC])
    go_cut [5, 6] (fun v5 v6 wc => ∃ (kq : Nat) (x5_11 : ByteArray) (x6_11 : ByteArray), v5 = .string x5_11 ∧ v6 = .string x6_11 ∧ Aside0 (spec_l6Draw.j1 kq x4_1 x5_11 x6_11 s0_0 t156 t157 x149000_1 x149001_1 x149002_1 = some (r1, r2, r3, r4, r5)) ∧ Aside0 (kq ≤ k1) ∧ Aside0 (Kd.R k46 46 wc w.heap.size (fun _ => True) u149002 x149002_1) ∧ Aside0 (wc.heap[gb147]? = some (.cells #[.int .i64 0, .int .i64 0, (.slice none 0 0)] 40 (0, 0))) ∧ Aside0 (wc.heap[gb148]? = some (.cells #[.int .i64 x149000_1, .int .i64 x149001_1, u149002] 40 (0, 0))) ∧ Aside0 (IsS123 w0 wc g s0_0 t156 t157) ∧ Aside0 (KeepBut w wc g none) ∧ Aside0 (Below w0.heap.size w0 wc))
    case first =>
     have H := HC12.out
     clear HC12
     by_cases c15 : (Op.bytesLess t155.toList t152.toList) = true
     ·rw [if_pos c15] at H
      have c15b0 : (Op.bytesLess t155.toList t152.toList) = true := c15
      clear c15
      (first | rw [c15b0] | (simp only [i64_w, i32_w]; rw [c15b0]) | skip)
      have H' := mS H
      clear H
      go_wp2
      go_meet
      case rel => exact ⟨_, (t155), (t152), (by first | rfl | (simp; done) | (simp [*]; done)), (by first | rfl | (simp; done) | (simp [*]; done)), H', ⟨by have := HK1.out; first | omega | exact Nat.le_refl _⟩, ⟨by (with_reducible repeat (first | apply Kd.R_alloc | apply Kd.R_drewN | apply Kd.R_drew)); exact HO_149002.out⟩, ⟨by (with_reducible repeat (first | refine blk_drewN ?_ _ | refine blk_drew ?_ | refine blk_alloc ?_ _)); exact BK147.out⟩, ⟨by (with_reducible repeat (first | refine blk_drewN ?_ _ | refine blk_drew ?_ | refine blk_alloc ?_ _)); exact BK148.out⟩, ⟨mI102_2 HI0.out NB0_147.out NB0_148.out⟩, ⟨mQ102_6 HK.out GW147.out GW148.out⟩, ⟨mH102_10 HB.out (IsS123.ge HI0.out) GE147.out GE148.out⟩⟩
     ·rw [if_neg c15] at H
      have c15b0 : (Op.bytesLess t155.toList t152.toList) = false := by simpa using c15
      clear c15
      (first | rw [c15b0] | (simp only [i64_w, i32_w]; rw [c15b0]) | skip)
      have H' := mS H
      clear H
      go_wp2
      go_meet
      case rel => exact ⟨_, (t152), (t155), (by first | rfl | (simp; done) | (simp [*]; done)), (by first | rfl | (simp; done) | (simp [*]; done)), H', ⟨by have := HK1.out; first | omega | exact Nat.le_refl _⟩, ⟨by (with_reducible repeat (first | apply Kd.R_alloc | apply Kd.R_drewN | apply Kd.R_drew)); exact HO_149002.out⟩, ⟨by (with_reducible repeat (first | refine blk_drewN ?_ _ | refine blk_drew ?_ | refine blk_alloc ?_ _)); exact BK147.out⟩, ⟨by (with_reducible repeat (first | refine blk_drewN ?_ _ | refine blk_drew ?_ | refine blk_alloc ?_ _)); exact BK148.out⟩, ⟨mI102_2 HI0.out NB0_147.out NB0_148.out⟩, ⟨mQ102_6 HK.out GW147.out GW148.out⟩, ⟨mH102_10 HB.out (IsS123.ge HI0.out) GE147.out GE148.out⟩⟩
    case rest =>
     clear HC12
     try clear c1
     try clear p2
     try clear c5
     try clear c6
     try clear c7
     try clear c9
     try clear c9b0
     try clear c10
     try clear c15
     try clear c15b0
     try clear hcz7_0
     try clear hcz7_1
     try clear hcz7_2
     try clear hfz7_0
     try clear hfz7_1
     try clear hfz7_2
     try clear p2
     obtain ⟨kq, x5_11, x6_11, rfl, rfl, HA, HJ11, HO_149002, BK147, BK148, HI0, HK, HB⟩ := hcut
     cases kq with
     | zero => exact absurd HA.out (by simp [spec_l6Draw.j1])
     | succ kj11 =>
      have H := HA.out
      clear HA
      simp only [spec_l6Draw.j1] at H
      obtain ⟨y158, hy158⟩ : ∃ y_ : List (S46), y_ = (([] : List (S46))) := ⟨_, rfl⟩
      replace H : (if y158.length + x149002_1.length < 2932031007402 then ((some (y158 ++ x149002_1 : List (S46))).bind fun y161 => ((spec_l1Below.f s0_0 t156 t157 4).bind fun bt164 => ((some (([(⟨x149000_1, bt164.1, x5_11, x6_11⟩ : S46)] : List (S46)) : List (S46))).bind fun y167 => (if y161.length + y167.length < 2932031007402 then ((some (y161 ++ y167 : List (S46))).bind fun y170 => ((spec_ManOk.f kj11 (wrap64 (x149000_1 + 2)) (wrap64 (x149000_1 + 1)) y170).bind fun t174 => (if t174 = true then (spec_l6Draw.l0 kj11 (wrap64 (x4_1 - 1)) s0_0 bt164.2.1 bt164.2.2 (wrap64 (x149000_1 + 2)) (wrap64 (x149000_1 + 1)) y170) else (spec_l6Draw.l0 kj11 (wrap64 (x4_1 - 1)) s0_0 bt164.2.1 bt164.2.2 x149000_1 x149001_1 x149002_1)))) else (none))))) else (none)) = some (r1, r2, r3, r4, r5) := by first | (rw [hy158]; with_reducible exact H) | (have H2_ := (Option.bind_some _ _).symm.trans H; rw [hy158]; with_reducible exact H2_) | (have H2_ := (Option.bind_some _ _).symm.trans H; with_reducible exact H2_) | with_reducible exact H | (rw [hy158]; exact H) | exact H
      have Ny158 := mS hy158
      clear hy158
      by_cases c16 : y158.length + x149002_1.length < 2932031007402
      ·rw [if_pos c16] at H
       have LMc16 := mS c16
       clear c16
       obtain ⟨y161, hy161⟩ : ∃ y_ : List (S46), y_ = (y158 ++ x149002_1) := ⟨_, rfl⟩
       replace H : ((spec_l1Below.f s0_0 t156 t157 4).bind fun bt164 => ((some (([(⟨x149000_1, bt164.1, x5_11, x6_11⟩ : S46)] : List (S46)) : List (S46))).bind fun y167 => (if y161.length + y167.length < 2932031007402 then ((some (y161 ++ y167 : List (S46))).bind fun y170 => ((spec_ManOk.f kj11 (wrap64 (x149000_1 + 2)) (wrap64 (x149000_1 + 1)) y170).bind fun t174 => (if t174 = true then (spec_l6Draw.l0 kj11 (wrap64 (x4_1 - 1)) s0_0 bt164.2.1 bt164.2.2 (wrap64 (x149000_1 + 2)) (wrap64 (x149000_1 + 1)) y170) else (spec_l6Draw.l0 kj11 (wrap64 (x4_1 - 1)) s0_0 bt164.2.1 bt164.2.2 x149000_1 x149001_1 x149002_1)))) else (none)))) = some (r1, r2, r3, r4, r5) := by first | (rw [hy161]; with_reducible exact H) | (have H2_ := (Option.bind_some _ _).symm.trans H; rw [hy161]; with_reducible exact H2_) | (have H2_ := (Option.bind_some _ _).symm.trans H; with_reducible exact H2_) | with_reducible exact H | (rw [hy161]; exact H) | exact H
       have Ny161 := mS hy161
       clear hy161
       replace H := Option.bind_eq_some_iff.mp H
       obtain ⟨⟨t164, t165, t166⟩, A170, H⟩ := H
       replace H : ((some (([(⟨x149000_1, t164, x5_11, x6_11⟩ : S46)] : List (S46)) : List (S46))).bind fun y167 => (if y161.length + y167.length < 2932031007402 then ((some (y161 ++ y167 : List (S46))).bind fun y170 => ((spec_ManOk.f kj11 (wrap64 (x149000_1 + 2)) (wrap64 (x149000_1 + 1)) y170).bind fun t174 => (if t174 = true then (spec_l6Draw.l0 kj11 (wrap64 (x4_1 - 1)) s0_0 t165 t166 (wrap64 (x149000_1 + 2)) (wrap64 (x149000_1 + 1)) y170) else (spec_l6Draw.l0 kj11 (wrap64 (x4_1 - 1)) s0_0 t165 t166 x149000_1 x149001_1 x149002_1)))) else (none))) = some (r1, r2, r3, r4, r5) := H
       have A17 := mS A170
       clear A170
       obtain ⟨y167, hy167⟩ : ∃ y_ : List (S46), y_ = (([(⟨x149000_1, t164, x5_11, x6_11⟩ : S46)] : List (S46))) := ⟨_, rfl⟩
       replace H : (if y161.length + y167.length < 2932031007402 then ((some (y161 ++ y167 : List (S46))).bind fun y170 => ((spec_ManOk.f kj11 (wrap64 (x149000_1 + 2)) (wrap64 (x149000_1 + 1)) y170).bind fun t174 => (if t174 = true then (spec_l6Draw.l0 kj11 (wrap64 (x4_1 - 1)) s0_0 t165 t166 (wrap64 (x149000_1 + 2)) (wrap64 (x149000_1 + 1)) y170) else (spec_l6Draw.l0 kj11 (wrap64 (x4_1 - 1)) s0_0 t165 t166 x149000_1 x149001_1 x149002_1)))) else (none)) = some (r1, r2, r3, r4, r5) := by first | (rw [hy167]; with_reducible exact H) | (have H2_ := (Option.bind_some _ _).symm.trans H; rw [hy167]; with_reducible exact H2_) | (have H2_ := (Option.bind_some _ _).symm.trans H; with_reducible exact H2_) | with_reducible exact H | (rw [hy167]; exact H) | exact H
       have Ny167 := mS hy167
       clear hy167
       by_cases c18 : y161.length + y167.length < 2932031007402
       ·rw [if_pos c18] at H
        have LMc18 := mS c18
        clear c18
        obtain ⟨y170, hy170⟩ : ∃ y_ : List (S46), y_ = (y161 ++ y167) := ⟨_, rfl⟩
        replace H : ((spec_ManOk.f kj11 (wrap64 (x149000_1 + 2)) (wrap64 (x149000_1 + 1)) y170).bind fun t174 => (if t174 = true then (spec_l6Draw.l0 kj11 (wrap64 (x4_1 - 1)) s0_0 t165 t166 (wrap64 (x149000_1 + 2)) (wrap64 (x149000_1 + 1)) y170) else (spec_l6Draw.l0 kj11 (wrap64 (x4_1 - 1)) s0_0 t165 t166 x149000_1 x149001_1 x149002_1))) = some (r1, r2, r3, r4, r5) := by first | (rw [hy170]; with_reducible exact H) | (have H2_ := (Option.bind_some _ _).symm.trans H; rw [hy170]; with_reducible exact H2_) | (have H2_ := (Option.bind_some _ _).symm.trans H; with_reducible exact H2_) | with_reducible exact H | (rw [hy170]; exact H) | exact H
        have Ny170 := mS hy170
        clear hy170
        replace H := Option.bind_eq_some_iff.mp H
        obtain ⟨t174, A190, H⟩ := H
        replace H : (if t174 = true then (spec_l6Draw.l0 kj11 (wrap64 (x4_1 - 1)) s0_0 t165 t166 (wrap64 (x149000_1 + 2)) (wrap64 (x149000_1 + 1)) y170) else (spec_l6Draw.l0 kj11 (wrap64 (x4_1 - 1)) s0_0 t165 t166 x149000_1 x149001_1 x149002_1)) = some (r1, r2, r3, r4, r5) := H
        have A19 := mS A190
        clear A190
        by_cases c20 : t174 = true
        ·subst c20
         have H1 : (spec_l6Draw.l0 kj11 (wrap64 (x4_1 - 1)) s0_0 t165 t166 (wrap64 (x149000_1 + 2)) (wrap64 (x149000_1 + 1)) y170) = some (r1, r2, r3, r4, r5) := by rw [if_pos rfl] at H; exact H
         clear H
         have H := H1
         clear H1
         have H' := mS H
         clear H
         obtain ⟨Ao21, co21, eo21⟩ := Kd.R_slice HO_149002.out
         subst eo21
         try go_wp2
         have n0_ := mS (Kd.R_drew HO_149002.out)
         have n1_ := mS (blk_drew BK147.out)
         have n2_ := mS (blk_drew BK148.out)
         have n3_ := mS (IsS123.drew HI0.out)
         have n4_ := mS (keep_drew HK.out)
         have n5_ := mS (below_drew1 HB.out)
         clear HO_149002
         clear BK147
         clear BK148
         clear HI0
         clear HK
         clear HB
         have HO_149002 := n0_
         have BK147 := n1_
         have BK148 := n2_
         have HI0 := n3_
         have HK := n4_
         have HB := n5_
         clear n0_ n1_ n2_ n3_ n4_ n5_
         refine start_ (n := 22) (S := fun w' => w'.cell? ⟨gb148, 0, none⟩ = some (.int .i64 x149000_1) ∧ w'.cell? ⟨gb148, 1, none⟩ = some (.int .i64 x149001_1) ∧ w'.cell? ⟨gb148, 2, none⟩ = some (.slice Ao21 x149002_1.length co21)) (ds := []) (mb 0 22) (by kernel_rfl) rfl rfl ⟨mZ BK148.out 0, mZ BK148.out 1, mZ BK148.out 2⟩ (fun hHeld => ?_); refine with_tabW spec_l6Draw.tab9 spec_l6Draw.bits9 (fun HT_ HW_ => ?_)
         generalize wc.drew = w22 at HO_149002 BK147 BK148 HI0 HK HB hHeld ⊢
         refine pure_ (i := 0) (N := some 24) (v := ?_) (a' := ?_) (mb 1 21) rfl rfl (any_of HT_.out (by kernel_rfl)) (fun _ _ _ h => h) (Or.inl ⟨by rfl, ?_⟩) ?_ ?_
         rotate_left
         ·intro w'
          go_simp
          with_reducible rfl
         rotate_left
         ·simp only [Act.put, zA, zB, zC, i64_w, i32_w]
          rfl
         refine pure_ (i := 3) (N := some 27) (v := ?_) (a' := ?_) #[true, false, false, true, false, false, false, false, false, false, false, false, false, false, false, false, false, false, false, false, false, false] rfl rfl (any_of HT_.out (by kernel_rfl)) (fun _ _ _ h => h) (Or.inl ⟨by rfl, ?_⟩) ?_ ?_
         rotate_left
         ·intro w'
          go_simp
          with_reducible rfl
         rotate_left
         ·simp only [Act.put, zA, zB, zC, i64_w, i32_w]
          rfl
         refine pure_ (i := 7) (N := some 31) (v := ?_) (a' := ?_) #[true, false, false, true, false, false, false, true, false, false, false, false, false, false, false, false, false, false, false, false, false, false] rfl rfl (any_of HT_.out (by kernel_rfl)) (fun _ _ _ h => h) (Or.inl ⟨by rfl, ?_⟩) ?_ ?_
         rotate_left
         ·intro w'
          go_simp
          with_reducible rfl
         rotate_left
         ·simp only [Act.put, zA, zB, zC, i64_w, i32_w]
          rfl
         refine pure_ (i := 10) (N := some 34) (v := ?_) (a' := ?_) #[true, false, false, true, false, false, false, true, false, false, true, false, false, false, false, false, false, false, false, false, false, false] rfl rfl (any_of HT_.out (by kernel_rfl)) (fun _ _ _ h => h) (Or.inl ⟨by rfl, ?_⟩) ?_ ?_
         rotate_left
         ·intro w'
          go_simp
          with_reducible rfl
         rotate_left
         ·simp only [Act.put, zA, zB, zC, i64_w, i32_w]
          rfl
         refine pure_ (i := 12) (N := some 36) (v := ?_) (a' := ?_) #[true, false, false, true, false, false, false, true, false, false, true, false, true, false, false, false, false, false, false, false, false, false] rfl rfl (any_of HT_.out (by kernel_rfl)) (fun _ _ _ h => h) (Or.inl ⟨by rfl, ?_⟩) ?_ ?_
         rotate_left
         ·intro w'
          go_simp
          with_reducible rfl
         rotate_left
         ·simp only [Act.put, zA, zB, zC, i64_w, i32_w]
          rfl
         refine pure_ (i := 14) (N := some 38) (v := ?_) (a' := ?_) #[true, false, false, true, false, false, false, true, false, false, true, false, true, false, true, false, false, false, false, false, false, false] rfl rfl (any_of HT_.out (by kernel_rfl)) (fun _ _ _ h => h) (Or.inl ⟨by rfl, ?_⟩) ?_ ?_
         rotate_left
         ·intro w'
          go_simp
          with_reducible rfl
         rotate_left
         ·simp only [Act.put, zA, zB, zC, i64_w, i32_w]
          rfl
         refine pure_ (i := 15) (N := some 39) (v := ?_) (a' := ?_) #[true, false, false, true, false, false, false, true, false, false, true, false, true, false, true, true, false, false, false, false, false, false] rfl rfl (any_of HT_.out (by kernel_rfl)) (fun _ _ _ h => h) (Or.inl ⟨by rfl, ?_⟩) ?_ ?_
         rotate_left
         ·intro w'
          go_simp
          with_reducible rfl
         rotate_left
         ·simp only [Act.put, zA, zB, zC, i64_w, i32_w]
          rfl
         refine take_ (i := 1) (N := some 25) (v := ?_) (a' := ?_) #[true, true, false, true, false, false, false, true, false, false, true, false, true, false, true, true, false, false, false, false, false, false] rfl rfl (take_ofW HT_.out HW_.out (by kernel_rfl)) (fun _ _ _ h => h) (Or.inl ⟨by rfl, ?_⟩) hHeld ?_ ?_
         rotate_left
         ·rintro w' ⟨s0, s1, s2⟩
          go_simp
          with_reducible rfl
         rotate_left
         ·simp only [Act.put, zA, zB, zC, i64_w, i32_w]
          rfl
         refine pure_ (i := 2) (N := some 26) (v := ?_) (a' := ?_) #[true, true, true, true, false, false, false, true, false, false, true, false, true, false, true, true, false, false, false, false, false, false] rfl rfl (any_of HT_.out (by kernel_rfl)) (fun _ _ _ h => h) (Or.inl ⟨by rfl, ?_⟩) ?_ ?_
         rotate_left
         ·intro w'
          go_simp
          with_reducible rfl
         rotate_left
         ·simp only [Act.put, zA, zB, zC, i64_w, i32_w]
          rfl
         refine take_ (i := 4) (N := some 28) (v := ?_) (a' := ?_) #[true, true, true, true, true, false, false, true, false, false, true, false, true, false, true, true, false, false, false, false, false, false] rfl rfl (take_ofW HT_.out HW_.out (by kernel_rfl)) (fun _ _ _ h => h) (Or.inl ⟨by rfl, ?_⟩) hHeld ?_ ?_
         rotate_left
         ·rintro w' ⟨s0, s1, s2⟩
          go_simp
          with_reducible rfl
         rotate_left
         ·simp only [Act.put, zA, zB, zC, i64_w, i32_w]
          rfl
         refine pure_ (i := 5) (N := some 29) (v := ?_) (a' := ?_) #[true, true, true, true, true, true, false, true, false, false, true, false, true, false, true, true, false, false, false, false, false, false] rfl rfl (any_of HT_.out (by kernel_rfl)) (fun _ _ _ h => h) (Or.inl ⟨by rfl, ?_⟩) ?_ ?_
         rotate_left
         ·intro w'
          go_simp
          with_reducible rfl
         rotate_left
         ·simp only [Act.put, zA, zB, zC, i64_w, i32_w]
          rfl
         refine take_ (i := 8) (N := some 32) (v := ?_) (a' := ?_) #[true, true, true, true, true, true, false, true, true, false, true, false, true, false, true, true, false, false, false, false, false, false] rfl rfl (take_ofW HT_.out HW_.out (by kernel_rfl)) (fun _ _ _ h => h) (Or.inl ⟨by rfl, ?_⟩) hHeld ?_ ?_
         rotate_left
         ·rintro w' ⟨s0, s1, s2⟩
          go_simp
          with_reducible rfl
         rotate_left
         ·simp only [Act.put, zA, zB, zC, i64_w, i32_w]
          rfl
         refine take_ (i := 11) (N := some 35) (v := ?_) (a' := ?_) #[true, true, true, true, true, true, false, true, true, false, true, true, true, false, true, true, false, false, false, false, false, false] rfl rfl (take_ofW HT_.out HW_.out (by kernel_rfl)) (fun _ _ _ h => h) (Or.inl ⟨by rfl, ?_⟩) hHeld ?_ ?_
         rotate_left
         ·rintro w' ⟨s0, s1, s2⟩
          go_simp
          with_reducible rfl
         rotate_left
         ·simp only [Act.put, zA, zB, zC, i64_w, i32_w]
          rfl
         refine join_ (σ := Value × Value × Value × Value × Nat) 1 (mb 21 1) (fun s_ => [(30, s_.1), (33, s_.2.1), (37, .int .i64 t164), (41, s_.2.2.1), (42, s_.2.2.2.1), (7, .pointer (some ⟨s_.2.2.2.2, 0, none⟩)), (40, .agg #[.int .i64 x149000_1, .int .i64 t164, .string x5_11, .string x6_11]), (43, .agg #[.int .i64 (wrap64 (x149000_1 + 2)), .int .i64 (wrap64 (x149000_1 + 1)), s_.2.2.2.1])]) (fun s_ w' => (w'.cell? ⟨gb148, 0, none⟩ = some (.int .i64 x149000_1) ∧ w'.cell? ⟨gb148, 1, none⟩ = some (.int .i64 x149001_1) ∧ w'.cell? ⟨gb148, 2, none⟩ = some (.slice Ao21 x149002_1.length co21)) ∧ (Kd.R k46 46 w' w.heap.size (fun k_ => some k_ ≠ (s_.2.2.2.1 : Value).ownBlock ∧ some k_ ≠ (.slice Ao21 x149002_1.length co21 : Value).ownBlock) s_.2.2.1 y167) ∧ (Kd.R k46 46 w' w.heap.size (fun k_ => some k_ ≠ (s_.2.2.1 : Value).ownBlock ∧ some k_ ≠ (.slice Ao21 x149002_1.length co21 : Value).ownBlock) s_.2.2.2.1 y170) ∧ (Kd.R k46 46 w' w.heap.size (fun k_ => some k_ ≠ (s_.2.2.1 : Value).ownBlock ∧ some k_ ≠ (s_.2.2.2.1 : Value).ownBlock) (.slice Ao21 x149002_1.length co21) x149002_1) ∧ (w'.heap[gb147]? = some (.cells #[.int .i64 0, .int .i64 0, .slice none 0 0] 40 (0, 0))) ∧ (w'.heap[gb148]? = some (.cells #[.int .i64 x149000_1, .int .i64 x149001_1, .slice Ao21 x149002_1.length co21] 40 (0, 0))) ∧ (w'.heap[s_.2.2.2.2]? = some (.cells #[.int .i64 0, .int .i64 0, .slice none 0 0] 40 (0, 0))) ∧ (w.heap.size ≤ s_.2.2.2.2) ∧ (w0.heap.size ≤ s_.2.2.2.2) ∧ (g ≠ s_.2.2.2.2) ∧ (s_.2.2.2.2 ≠ g) ∧ (gb147 ≠ s_.2.2.2.2) ∧ (s_.2.2.2.2 ≠ gb147) ∧ (gb148 ≠ s_.2.2.2.2) ∧ (s_.2.2.2.2 ≠ gb148) ∧ (IsS123 w0 w' g s0_0 t165 t166) ∧ (KeepBut w w' g none) ∧ (Below w0.heap.size w0 w')) ?_ ?_
         rotate_left
         ·intro hJ6_9_13_17_18_20
          refine join_ (σ := Value × Value × Value × Value) 2 (mb 20 2) (fun s_ => [(30, s_.1), (33, s_.2.1), (37, .int .i64 t164), (41, s_.2.2.1), (42, s_.2.2.2), (40, .agg #[.int .i64 x149000_1, .int .i64 t164, .string x5_11, .string x6_11]), (43, .agg #[.int .i64 (wrap64 (x149000_1 + 2)), .int .i64 (wrap64 (x149000_1 + 1)), s_.2.2.2])]) (fun s_ w' => (w'.cell? ⟨gb148, 0, none⟩ = some (.int .i64 x149000_1) ∧ w'.cell? ⟨gb148, 1, none⟩ = some (.int .i64 x149001_1) ∧ w'.cell? ⟨gb148, 2, none⟩ = some (.slice Ao21 x149002_1.length co21)) ∧ (Kd.R k46 46 w' w.heap.size (fun k_ => some k_ ≠ (s_.2.2.2 : Value).ownBlock ∧ some k_ ≠ (.slice Ao21 x149002_1.length co21 : Value).ownBlock) s_.2.2.1 y167) ∧ (Kd.R k46 46 w' w.heap.size (fun k_ => some k_ ≠ (s_.2.2.1 : Value).ownBlock ∧ some k_ ≠ (.slice Ao21 x149002_1.length co21 : Value).ownBlock) s_.2.2.2 y170) ∧ (Kd.R k46 46 w' w.heap.size (fun k_ => some k_ ≠ (s_.2.2.1 : Value).ownBlock ∧ some k_ ≠ (s_.2.2.2 : Value).ownBlock) (.slice Ao21 x149002_1.length co21) x149002_1) ∧ (w'.heap[gb147]? = some (.cells #[.int .i64 0, .int .i64 0, .slice none 0 0] 40 (0, 0))) ∧ (w'.heap[gb148]? = some (.cells #[.int .i64 x149000_1, .int .i64 x149001_1, .slice Ao21 x149002_1.length co21] 40 (0, 0))) ∧ (IsS123 w0 w' g s0_0 t165 t166) ∧ (KeepBut w w' g none) ∧ (Below w0.heap.size w0 w')) ?_ ?_
          rotate_left
          ·intro hJ6_9_13_17_18
           refine join_ (σ := Value × Value × Value × Nat) 3 #[true, true, true, true, true, true, true, true, true, true, true, true, true, true, true, true, true, true, false, false, true, false] (fun s_ => [(30, s_.1), (33, s_.2.1), (37, .int .i64 t164), (41, s_.2.2.1), (7, .pointer (some ⟨s_.2.2.2, 0, none⟩)), (40, .agg #[.int .i64 x149000_1, .int .i64 t164, .string x5_11, .string x6_11])]) (fun s_ w' => (w'.cell? ⟨gb148, 0, none⟩ = some (.int .i64 x149000_1) ∧ w'.cell? ⟨gb148, 1, none⟩ = some (.int .i64 x149001_1) ∧ w'.cell? ⟨gb148, 2, none⟩ = some (.slice Ao21 x149002_1.length co21)) ∧ (Kd.R k46 46 w' w.heap.size (fun k_ => some k_ ≠ (s_.2.2.1 : Value).ownBlock ∧ some k_ ≠ (.slice Ao21 x149002_1.length co21 : Value).ownBlock) s_.2.1 y161) ∧ (Kd.R k46 46 w' w.heap.size (fun k_ => some k_ ≠ (s_.2.1 : Value).ownBlock ∧ some k_ ≠ (.slice Ao21 x149002_1.length co21 : Value).ownBlock) s_.2.2.1 y167) ∧ (Kd.R k46 46 w' w.heap.size (fun k_ => some k_ ≠ (s_.2.1 : Value).ownBlock ∧ some k_ ≠ (s_.2.2.1 : Value).ownBlock) (.slice Ao21 x149002_1.length co21) x149002_1) ∧ (w'.heap[gb147]? = some (.cells #[.int .i64 0, .int .i64 0, .slice none 0 0] 40 (0, 0))) ∧ (w'.heap[gb148]? = some (.cells #[.int .i64 x149000_1, .int .i64 x149001_1, .slice Ao21 x149002_1.length co21] 40 (0, 0))) ∧ (w'.heap[s_.2.2.2]? = some (.cells #[.int .i64 0, .int .i64 0, .slice none 0 0] 40 (0, 0))) ∧ (w.heap.size ≤ s_.2.2.2) ∧ (w0.heap.size ≤ s_.2.2.2) ∧ (g ≠ s_.2.2.2) ∧ (s_.2.2.2 ≠ g) ∧ (gb147 ≠ s_.2.2.2) ∧ (s_.2.2.2 ≠ gb147) ∧ (gb148 ≠ s_.2.2.2) ∧ (s_.2.2.2 ≠ gb148) ∧ (IsS123 w0 w' g s0_0 t165 t166) ∧ (KeepBut w w' g none) ∧ (Below w0.heap.size w0 w')) ?_ ?_
           rotate_left
           ·intro hJ6_9_13_17_20
            refine join_ (σ := Value × Value × Value) 4 (mb 18 4) (fun s_ => [(30, s_.1), (33, s_.2.1), (37, .int .i64 t164), (41, s_.2.2), (40, .agg #[.int .i64 x149000_1, .int .i64 t164, .string x5_11, .string x6_11])]) (fun s_ w' => (w'.cell? ⟨gb148, 0, none⟩ = some (.int .i64 x149000_1) ∧ w'.cell? ⟨gb148, 1, none⟩ = some (.int .i64 x149001_1) ∧ w'.cell? ⟨gb148, 2, none⟩ = some (.slice Ao21 x149002_1.length co21)) ∧ (Kd.R k46 46 w' w.heap.size (fun k_ => some k_ ≠ (s_.2.2 : Value).ownBlock ∧ some k_ ≠ (.slice Ao21 x149002_1.length co21 : Value).ownBlock) s_.2.1 y161) ∧ (Kd.R k46 46 w' w.heap.size (fun k_ => some k_ ≠ (s_.2.1 : Value).ownBlock ∧ some k_ ≠ (.slice Ao21 x149002_1.length co21 : Value).ownBlock) s_.2.2 y167) ∧ (Kd.R k46 46 w' w.heap.size (fun k_ => some k_ ≠ (s_.2.1 : Value).ownBlock ∧ some k_ ≠ (s_.2.2 : Value).ownBlock) (.slice Ao21 x149002_1.length co21) x149002_1) ∧ (w'.heap[gb147]? = some (.cells #[.int .i64 0, .int .i64 0, .slice none 0 0] 40 (0, 0))) ∧ (w'.heap[gb148]? = some (.cells #[.int .i64 x149000_1, .int .i64 x149001_1, .slice Ao21 x149002_1.length co21] 40 (0, 0))) ∧ (IsS123 w0 w' g s0_0 t165 t166) ∧ (KeepBut w w' g none) ∧ (Below w0.heap.size w0 w')) ?_ ?_
            rotate_left
            ·intro hJ6_9_13_17
             refine join_ (σ := Value × Value × Nat) 4 #[true, true, true, true, true, true, true, true, true, true, true, true, true, true, true, true, true, false, false, false, true, false] (fun s_ => [(30, s_.1), (33, s_.2.1), (37, .int .i64 t164), (7, .pointer (some ⟨s_.2.2, 0, none⟩)), (40, .agg #[.int .i64 x149000_1, .int .i64 t164, .string x5_11, .string x6_11])]) (fun s_ w' => (w'.cell? ⟨gb148, 0, none⟩ = some (.int .i64 x149000_1) ∧ w'.cell? ⟨gb148, 1, none⟩ = some (.int .i64 x149001_1) ∧ w'.cell? ⟨gb148, 2, none⟩ = some (.slice Ao21 x149002_1.length co21)) ∧ (Kd.R k46 46 w' w.heap.size (fun k_ => some k_ ≠ (.slice Ao21 x149002_1.length co21 : Value).ownBlock) s_.2.1 y161) ∧ (Kd.R k46 46 w' w.heap.size (fun k_ => some k_ ≠ (s_.2.1 : Value).ownBlock) (.slice Ao21 x149002_1.length co21) x149002_1) ∧ (w'.heap[gb147]? = some (.cells #[.int .i64 0, .int .i64 0, .slice none 0 0] 40 (0, 0))) ∧ (w'.heap[gb148]? = some (.cells #[.int .i64 x149000_1, .int .i64 x149001_1, .slice Ao21 x149002_1.length co21] 40 (0, 0))) ∧ (w'.heap[s_.2.2]? = some (.cells #[.int .i64 0, .int .i64 0, .slice none 0 0] 40 (0, 0))) ∧ (w.heap.size ≤ s_.2.2) ∧ (w0.heap.size ≤ s_.2.2) ∧ (g ≠ s_.2.2) ∧ (s_.2.2 ≠ g) ∧ (gb147 ≠ s_.2.2) ∧ (s_.2.2 ≠ gb147) ∧ (gb148 ≠ s_.2.2) ∧ (s_.2.2 ≠ gb148) ∧ (IsS123 w0 w' g s0_0 t165 t166) ∧ (KeepBut w w' g none) ∧ (Below w0.heap.size w0 w')) ?_ ?_
             rotate_left
             ·intro hJ6_9_13_20
              refine join_ (σ := Value × Value) 5 (mb 17 5) (fun s_ => [(30, s_.1), (33, s_.2), (37, .int .i64 t164), (40, .agg #[.int .i64 x149000_1, .int .i64 t164, .string x5_11, .string x6_11])]) (fun s_ w' => (w'.cell? ⟨gb148, 0, none⟩ = some (.int .i64 x149000_1) ∧ w'.cell? ⟨gb148, 1, none⟩ = some (.int .i64 x149001_1) ∧ w'.cell? ⟨gb148, 2, none⟩ = some (.slice Ao21 x149002_1.length co21)) ∧ (Kd.R k46 46 w' w.heap.size (fun k_ => some k_ ≠ (.slice Ao21 x149002_1.length co21 : Value).ownBlock) s_.2 y161) ∧ (Kd.R k46 46 w' w.heap.size (fun k_ => some k_ ≠ (s_.2 : Value).ownBlock) (.slice Ao21 x149002_1.length co21) x149002_1) ∧ (w'.heap[gb147]? = some (.cells #[.int .i64 0, .int .i64 0, .slice none 0 0] 40 (0, 0))) ∧ (w'.heap[gb148]? = some (.cells #[.int .i64 x149000_1, .int .i64 x149001_1, .slice Ao21 x149002_1.length co21] 40 (0, 0))) ∧ (IsS123 w0 w' g s0_0 t165 t166) ∧ (KeepBut w w' g none) ∧ (Below w0.heap.size w0 w')) ?_ ?_
              rotate_left
              ·intro hJ6_9_13
               refine join_ (σ := Value × Value × Nat) 6 #[true, true, true, true, true, true, true, true, true, true, true, true, true, false, true, true, false, false, false, false, true, false] (fun s_ => [(30, s_.1), (33, s_.2.1), (7, .pointer (some ⟨s_.2.2, 0, none⟩))]) (fun s_ w' => (w'.cell? ⟨gb148, 0, none⟩ = some (.int .i64 x149000_1) ∧ w'.cell? ⟨gb148, 1, none⟩ = some (.int .i64 x149001_1) ∧ w'.cell? ⟨gb148, 2, none⟩ = some (.slice Ao21 x149002_1.length co21)) ∧ (Kd.R k46 46 w' w.heap.size (fun k_ => some k_ ≠ (.slice Ao21 x149002_1.length co21 : Value).ownBlock) s_.2.1 y161) ∧ (Kd.R k46 46 w' w.heap.size (fun k_ => some k_ ≠ (s_.2.1 : Value).ownBlock) (.slice Ao21 x149002_1.length co21) x149002_1) ∧ (w'.heap[gb147]? = some (.cells #[.int .i64 0, .int .i64 0, .slice none 0 0] 40 (0, 0))) ∧ (w'.heap[gb148]? = some (.cells #[.int .i64 x149000_1, .int .i64 x149001_1, .slice Ao21 x149002_1.length co21] 40 (0, 0))) ∧ (w'.heap[s_.2.2]? = some (.cells #[.int .i64 0, .int .i64 0, .slice none 0 0] 40 (0, 0))) ∧ (w.heap.size ≤ s_.2.2) ∧ (w0.heap.size ≤ s_.2.2) ∧ (g ≠ s_.2.2) ∧ (s_.2.2 ≠ g) ∧ (gb147 ≠ s_.2.2) ∧ (s_.2.2 ≠ gb147) ∧ (gb148 ≠ s_.2.2) ∧ (s_.2.2 ≠ gb148) ∧ (IsS123 w0 w' g s0_0 t156 t157) ∧ (KeepBut w w' g none) ∧ (Below w0.heap.size w0 w')) ?_ ?_
               rotate_left
               ·intro hJ6_9_20
                refine join_ (σ := Value × Value) 7 #[true, true, true, true, true, true, true, true, true, true, true, true, true, false, true, true, false, false, false, false, false, false] (fun s_ => [(30, s_.1), (33, s_.2)]) (fun s_ w' => (w'.cell? ⟨gb148, 0, none⟩ = some (.int .i64 x149000_1) ∧ w'.cell? ⟨gb148, 1, none⟩ = some (.int .i64 x149001_1) ∧ w'.cell? ⟨gb148, 2, none⟩ = some (.slice Ao21 x149002_1.length co21)) ∧ (Kd.R k46 46 w' w.heap.size (fun k_ => some k_ ≠ (.slice Ao21 x149002_1.length co21 : Value).ownBlock) s_.2 y161) ∧ (Kd.R k46 46 w' w.heap.size (fun k_ => some k_ ≠ (s_.2 : Value).ownBlock) (.slice Ao21 x149002_1.length co21) x149002_1) ∧ (w'.heap[gb147]? = some (.cells #[.int .i64 0, .int .i64 0, .slice none 0 0] 40 (0, 0))) ∧ (w'.heap[gb148]? = some (.cells #[.int .i64 x149000_1, .int .i64 x149001_1, .slice Ao21 x149002_1.length co21] 40 (0, 0))) ∧ (IsS123 w0 w' g s0_0 t156 t157) ∧ (KeepBut w w' g none) ∧ (Below w0.heap.size w0 w')) ?_ ?_
                rotate_left
                ·intro hJ6_9
                 refine join_ (σ := Value × Nat) 7 #[true, true, true, true, true, true, true, true, true, false, true, true, true, false, true, true, false, false, false, false, true, false] (fun s_ => [(30, s_.1), (7, .pointer (some ⟨s_.2, 0, none⟩))]) (fun s_ w' => (w'.cell? ⟨gb148, 0, none⟩ = some (.int .i64 x149000_1) ∧ w'.cell? ⟨gb148, 1, none⟩ = some (.int .i64 x149001_1) ∧ w'.cell? ⟨gb148, 2, none⟩ = some (.slice Ao21 x149002_1.length co21)) ∧ (Kd.R k46 46 w' w.heap.size (fun k_ => some k_ ≠ (.slice Ao21 x149002_1.length co21 : Value).ownBlock) s_.1 y158) ∧ (Kd.R k46 46 w' w.heap.size (fun k_ => some k_ ≠ (s_.1 : Value).ownBlock) (.slice Ao21 x149002_1.length co21) x149002_1) ∧ (w'.heap[gb147]? = some (.cells #[.int .i64 0, .int .i64 0, .slice none 0 0] 40 (0, 0))) ∧ (w'.heap[gb148]? = some (.cells #[.int .i64 x149000_1, .int .i64 x149001_1, .slice Ao21 x149002_1.length co21] 40 (0, 0))) ∧ (w'.heap[s_.2]? = some (.cells #[.int .i64 0, .int .i64 0, .slice none 0 0] 40 (0, 0))) ∧ (w.heap.size ≤ s_.2) ∧ (w0.heap.size ≤ s_.2) ∧ (g ≠ s_.2) ∧ (s_.2 ≠ g) ∧ (gb147 ≠ s_.2) ∧ (s_.2 ≠ gb147) ∧ (gb148 ≠ s_.2) ∧ (s_.2 ≠ gb148) ∧ (IsS123 w0 w' g s0_0 t156 t157) ∧ (KeepBut w w' g none) ∧ (Below w0.heap.size w0 w')) ?_ ?_
                 rotate_left
                 ·intro hJ6_20
                  refine join_ (σ := Value) 8 #[true, true, true, true, true, true, true, true, true, false, true, true, true, false, true, true, false, false, false, false, false, false] (fun s_ => [(30, s_)]) (fun s_ w' => (w'.cell? ⟨gb148, 0, none⟩ = some (.int .i64 x149000_1) ∧ w'.cell? ⟨gb148, 1, none⟩ = some (.int .i64 x149001_1) ∧ w'.cell? ⟨gb148, 2, none⟩ = some (.slice Ao21 x149002_1.length co21)) ∧ (Kd.R k46 46 w' w.heap.size (fun k_ => some k_ ≠ (.slice Ao21 x149002_1.length co21 : Value).ownBlock) s_ y158) ∧ (Kd.R k46 46 w' w.heap.size (fun k_ => some k_ ≠ (s_ : Value).ownBlock) (.slice Ao21 x149002_1.length co21) x149002_1) ∧ (w'.heap[gb147]? = some (.cells #[.int .i64 0, .int .i64 0, .slice none 0 0] 40 (0, 0))) ∧ (w'.heap[gb148]? = some (.cells #[.int .i64 x149000_1, .int .i64 x149001_1, .slice Ao21 x149002_1.length co21] 40 (0, 0))) ∧ (IsS123 w0 w' g s0_0 t156 t157) ∧ (KeepBut w w' g none) ∧ (Below w0.heap.size w0 w')) ?_ ?_
                  rotate_left
                  ·intro hJ6
                   refine join_ (σ := Nat) 8 #[true, true, true, true, true, true, false, true, true, false, true, true, true, false, true, true, false, false, false, false, true, false] (fun s_ => [(7, .pointer (some ⟨s_, 0, none⟩))]) (fun s_ w' => (w'.cell? ⟨gb148, 0, none⟩ = some (.int .i64 x149000_1) ∧ w'.cell? ⟨gb148, 1, none⟩ = some (.int .i64 x149001_1) ∧ w'.cell? ⟨gb148, 2, none⟩ = some (.slice Ao21 x149002_1.length co21)) ∧ (Kd.R k46 46 w' w.heap.size (fun _ => True) (.slice Ao21 x149002_1.length co21) x149002_1) ∧ (w'.heap[gb147]? = some (.cells #[.int .i64 0, .int .i64 0, .slice none 0 0] 40 (0, 0))) ∧ (w'.heap[gb148]? = some (.cells #[.int .i64 x149000_1, .int .i64 x149001_1, .slice Ao21 x149002_1.length co21] 40 (0, 0))) ∧ (w'.heap[s_]? = some (.cells #[.int .i64 0, .int .i64 0, .slice none 0 0] 40 (0, 0))) ∧ (w.heap.size ≤ s_) ∧ (w0.heap.size ≤ s_) ∧ (g ≠ s_) ∧ (s_ ≠ g) ∧ (gb147 ≠ s_) ∧ (s_ ≠ gb147) ∧ (gb148 ≠ s_) ∧ (s_ ≠ gb148) ∧ (IsS123 w0 w' g s0_0 t156 t157) ∧ (KeepBut w w' g none) ∧ (Below w0.heap.size w0 w')) ?_ ?_
                   rotate_left
                   ·intro hJ20
                    refine two_ (i := 6) (j := 20) (Ni := some 30) (Nj := some 7) #[true, true, true, true, true, true, true, true, true, false, true, true, true, false, true, true, false, false, false, false, false, false] #[true, true, true, true, true, true, false, true, true, false, true, true, true, false, true, true, false, false, false, false, true, false] rfl rfl rfl rfl (two_of HT_.out (by kernel_rfl)) (by decide) (by decide) (fun K hK => ?_) (fun K hK => ?_)
                    ·skip
                     refine Kd.R_lit_step k46 _ 46 ?hg (N := 30) ?hd (xs := ([] : List (S46))) (inner := []) (ok := fun _ => True) (okp := fun _ => True) ?hr ?hp (fun _ hk => hk) trivial (Below.refl _ _) (Nat.le_refl _) (by simp) ?_; (case hd => rfl); (case hg => rfl); (case hr => first | (go_simp; done) | (go_simp; rfl)); (case hp => exact (Reps.none _ _))
                     intro v159 w23 ho24 hb hg_ hnew_
                     clear hg_ hnew_
                     (first | rw [← Ny158.out] at ho24 | (simp only [Int.reduceToNat] at ho24; rw [← Ny158.out] at ho24))
                     have n0_ := mS (Kd.R_elder' (mR HO_149002.out) (Kd.R_base ho24) hb)
                     have n1_ := mS (Kd.R_lower (Kd.R_new' ho24 (Kd.R_lt (mR HO_149002.out))) (keep_size (w := w) (g := g) (row := none) (mQ102_6 HK.out GW147.out GW148.out)))
                     have n2_ := mB BK147 hb
                     have n3_ := mB BK148 hb
                     have n4_ := mS (IsS123.below (mI102_2 HI0.out NB0_147.out NB0_148.out) hb)
                     have n5_ := mS (KeepBut.trans (mQ102_6 HK.out GW147.out GW148.out) (KeepBut.of_below hb g none) (.inl rfl))
                     have n6_ := mS (below_step (mH102_10 HB.out (IsS123.ge HI0.out) GE147.out GE148.out) hb)
                     clear HO_149002
                     clear BK147
                     clear BK148
                     clear HI0
                     clear HK
                     clear HB
                     have HO_149002 := n0_
                     have HO160 := n1_
                     have BK147 := n2_
                     have BK148 := n3_
                     have HI0 := n4_
                     have HK := n5_
                     have HB := n6_
                     clear n0_ n1_ n2_ n3_ n4_ n5_ n6_
                     clear hb ho24
                     refine hK.out _ _ ⟨mZ BK148.out 0, mZ BK148.out 1, mZ BK148.out 2⟩ (fun hHeld => ?_)
                     clear hK K
                     refine norm_ (a' := ?_) ?_ ?_
                     rotate_left
                     ·show Act.put _ (some 30) _ = _
                      simp only [Act.put, zA, zB, zC, i64_w, i32_w]
                      rfl
                     exact norm_ (by first | (simp only [putAll, Act.put, zA, zB, zC]; done) | (simp only [putAll, Act.put, zA, zB, zC]; rfl)) (hJ6 (_) _ ⟨hHeld, (by (with_reducible repeat (first | apply Kd.R_alloc | apply Kd.R_drewN | apply Kd.R_drew)); exact Kd.R_mono HO160.out (fun _ hk => hk.2)), (by (with_reducible repeat (first | apply Kd.R_alloc | apply Kd.R_drewN | apply Kd.R_drew)); exact Kd.R_mono HO_149002.out (fun _ hk => hk.2)), (mK BK147.out), (mK BK148.out), (mI102_2 HI0.out NB0_147.out NB0_148.out), (mQ102_6 HK.out GW147.out GW148.out), (mH102_10 HB.out (IsS123.ge HI0.out) GE147.out GE148.out)⟩)
                    ·skip
                     refine box_step ?hg (N := 7) ?hd (cs := #[.int .i64 0, .int .i64 0, .slice none 0 0]) (t := 40) ?hr ?_; (case hd => rfl); (case hg => rfl); (case hr => first | (go_simp; done) | (go_simp; rfl))
                     intro gb173 hg w23 hbox hb
                     have n0_ := mS (Kd.R_below (mR HO_149002.out) hb)
                     have n1_ := mB BK147 hb
                     have n2_ := mB BK148 hb
                     have n3_ := mS (IsS123.below (mI102_2 HI0.out NB0_147.out NB0_148.out) hb)
                     have n4_ := mS (KeepBut.trans (mQ102_6 HK.out GW147.out GW148.out) (KeepBut.of_below hb g none) (.inl rfl))
                     have n5_ := mS (below_step (mH102_10 HB.out (IsS123.ge HI0.out) GE147.out GE148.out) hb)
                     have n6_ := mS (hbox)
                     have n7_ := mS ((by rw [hg]; exact (keep_size (w := w) (g := g) (row := none) (mQ102_6 HK.out GW147.out GW148.out)) : w.heap.size ≤ gb173))
                     have n8_ := mS ((Nat.le_trans HW0.out (by rw [hg]; exact (keep_size (w := w) (g := g) (row := none) (mQ102_6 HK.out GW147.out GW148.out)) : w.heap.size ≤ gb173) : w0.heap.size ≤ gb173))
                     have n9_ := mNl hg BK147.out
                     have n10_ := mNg hg BK147.out
                     have n11_ := mNl hg BK148.out
                     have n12_ := mNg hg BK148.out
                     have n13_ := mS ((by rw [hg]; exact Nat.ne_of_lt (IsS123.lt (show IsS123 w0 _ g s0_0 t156 t157 from mI102_2 HI0.out NB0_147.out NB0_148.out)) : g ≠ gb173))
                     have n14_ := mS ((by rw [hg]; exact Nat.ne_of_gt (IsS123.lt (show IsS123 w0 _ g s0_0 t156 t157 from mI102_2 HI0.out NB0_147.out NB0_148.out)) : gb173 ≠ g))
                     clear HO_149002
                     clear BK147
                     clear BK148
                     clear HI0
                     clear HK
                     clear HB
                     have HO_149002 := n0_
                     have BK147 := n1_
                     have BK148 := n2_
                     have HI0 := n3_
                     have HK := n4_
                     have HB := n5_
                     have BK173 := n6_
                     have GW173 := n7_
                     have GE173 := n8_
                     have NB147_173 := n9_
                     have NB173_147 := n10_
                     have NB148_173 := n11_
                     have NB173_148 := n12_
                     have NB0_173 := n13_
                     have NB173_0 := n14_
                     clear n0_ n1_ n2_ n3_ n4_ n5_ n6_ n7_ n8_ n9_ n10_ n11_ n12_ n13_ n14_
                     clear hb hbox hg
                     refine hK.out _ _ ⟨mZ BK148.out 0, mZ BK148.out 1, mZ BK148.out 2⟩ (fun hHeld => ?_)
                     clear hK K
                     refine norm_ (a' := ?_) ?_ ?_
                     rotate_left
                     ·show Act.put _ (some 7) _ = _
                      simp only [Act.put, zA, zB, zC, i64_w, i32_w]
                      rfl
                     exact norm_ (by first | (simp only [putAll, Act.put, zA, zB, zC]; done) | (simp only [putAll, Act.put, zA, zB, zC]; rfl)) (hJ20 (gb173) _ ⟨hHeld, (mR HO_149002.out), (mK BK147.out), (mK BK148.out), (mK BK173.out), GW173.out, GE173.out, NB0_173.out, NB173_0.out, NB147_173.out, NB173_147.out, NB148_173.out, NB173_148.out, (mI102_3 HI0.out NB0_147.out NB0_148.out NB0_173.out), (mQ102_7 HK.out GW147.out GW148.out GW173.out), (mH102_11 HB.out (IsS123.ge HI0.out) GE147.out GE148.out GE173.out)⟩)
                   ·skip
                    rintro gb173 w24 ⟨hS_, h0_, h1_, h2_, h3_, h4_, h5_, h6_, h7_, h8_, h9_, h10_, h11_, h12_, h13_, h14_⟩
                    have n0_ : Aside0 (Kd.R k46 46 w24 w.heap.size (fun _ => True) (.slice Ao21 x149002_1.length co21) x149002_1) := ⟨h0_⟩
                    have n1_ : Aside0 (w24.heap[gb147]? = some (.cells #[.int .i64 0, .int .i64 0, .slice none 0 0] 40 (0, 0))) := ⟨h1_⟩
                    have n2_ : Aside0 (w24.heap[gb148]? = some (.cells #[.int .i64 x149000_1, .int .i64 x149001_1, .slice Ao21 x149002_1.length co21] 40 (0, 0))) := ⟨h2_⟩
                    have n3_ : Aside0 (w24.heap[gb173]? = some (.cells #[.int .i64 0, .int .i64 0, .slice none 0 0] 40 (0, 0))) := ⟨h3_⟩
                    have n4_ : Aside0 (w.heap.size ≤ gb173) := ⟨h4_⟩
                    have n5_ : Aside0 (w0.heap.size ≤ gb173) := ⟨h5_⟩
                    have n6_ : Aside0 (g ≠ gb173) := ⟨h6_⟩
                    have n7_ : Aside0 (gb173 ≠ g) := ⟨h7_⟩
                    have n8_ : Aside0 (gb147 ≠ gb173) := ⟨h8_⟩
                    have n9_ : Aside0 (gb173 ≠ gb147) := ⟨h9_⟩
                    have n10_ : Aside0 (gb148 ≠ gb173) := ⟨h10_⟩
                    have n11_ : Aside0 (gb173 ≠ gb148) := ⟨h11_⟩
                    have n12_ : Aside0 (IsS123 w0 w24 g s0_0 t156 t157) := ⟨h12_⟩
                    have n13_ : Aside0 (KeepBut w w24 g none) := ⟨h13_⟩
                    have n14_ : Aside0 (Below w0.heap.size w0 w24) := ⟨h14_⟩
                    clear HO_149002
                    clear BK147
                    clear BK148
                    clear HI0
                    clear HK
                    clear HB
                    clear h0_ h1_ h2_ h3_ h4_ h5_ h6_ h7_ h8_ h9_ h10_ h11_ h12_ h13_ h14_
                    have HO_149002 := n0_
                    have BK147 := n1_
                    have BK148 := n2_
                    have BK173 := n3_
                    have GW173 := n4_
                    have GE173 := n5_
                    have NB0_173 := n6_
                    have NB173_0 := n7_
                    have NB147_173 := n8_
                    have NB173_147 := n9_
                    have NB148_173 := n10_
                    have NB173_148 := n11_
                    have HI0 := n12_
                    have HK := n13_
                    have HB := n14_
                    clear n0_ n1_ n2_ n3_ n4_ n5_ n6_ n7_ n8_ n9_ n10_ n11_ n12_ n13_ n14_
                    have hHeld : w24.cell? ⟨gb148, 0, none⟩ = some (.int .i64 x149000_1) ∧ w24.cell? ⟨gb148, 1, none⟩ = some (.int .i64 x149001_1) ∧ w24.cell? ⟨gb148, 2, none⟩ = some (.slice Ao21 x149002_1.length co21) := hS_
                    refine norm_ (a' := ?_) ?_ ?_
                    rotate_left
                    ·simp only [putAll, Act.put, zA, zB, zC]
                     rfl
                    refine one_ (i := 6) (N := some 30) #[true, true, true, true, true, true, true, true, true, false, true, true, true, false, true, true, false, false, false, false, true, false] rfl rfl (one_of HT_.out (by kernel_rfl)) (by decide) (fun K hK => ?_)
                    refine Kd.R_lit_step k46 _ 46 ?hg (N := 30) ?hd (xs := ([] : List (S46))) (inner := []) (ok := fun _ => True) (okp := fun _ => True) ?hr ?hp (fun _ hk => hk) trivial (Below.refl _ _) (Nat.le_refl _) (by simp) ?_; (case hd => rfl); (case hg => rfl); (case hr => first | (go_simp; done) | (go_simp; rfl)); (case hp => exact (Reps.none _ _))
                    intro v159 w25 ho26 hb hg_ hnew_
                    clear hg_ hnew_
                    (first | rw [← Ny158.out] at ho26 | (simp only [Int.reduceToNat] at ho26; rw [← Ny158.out] at ho26))
                    have n0_ := mS (Kd.R_elder' (mR HO_149002.out) (Kd.R_base ho26) hb)
                    have n1_ := mS (Kd.R_lower (Kd.R_new' ho26 (Kd.R_lt (mR HO_149002.out))) (keep_size (w := w) (g := g) (row := none) (mQ102_7 HK.out GW147.out GW148.out GW173.out)))
                    have n2_ := mB BK147 hb
                    have n3_ := mB BK148 hb
                    have n4_ := mS (IsS123.below (mI102_3 HI0.out NB0_147.out NB0_148.out NB0_173.out) hb)
                    have n5_ := mB BK173 hb
                    have n6_ := mS (KeepBut.trans (mQ102_7 HK.out GW147.out GW148.out GW173.out) (KeepBut.of_below hb g none) (.inl rfl))
                    have n7_ := mS (below_step (mH102_11 HB.out (IsS123.ge HI0.out) GE147.out GE148.out GE173.out) hb)
                    clear HO_149002
                    clear BK147
                    clear BK148
                    clear HI0
                    clear BK173
                    clear HK
                    clear HB
                    have HO_149002 := n0_
                    have HO160 := n1_
                    have BK147 := n2_
                    have BK148 := n3_
                    have HI0 := n4_
                    have BK173 := n5_
                    have HK := n6_
                    have HB := n7_
                    clear n0_ n1_ n2_ n3_ n4_ n5_ n6_ n7_
                    clear hb ho26
                    refine hK.out _ _ ⟨mZ BK148.out 0, mZ BK148.out 1, mZ BK148.out 2⟩ (fun hHeld => ?_)
                    clear hK K
                    refine norm_ (a' := ?_) ?_ ?_
                    rotate_left
                    ·show Act.put _ (some 30) _ = _
                     simp only [Act.put, zA, zB, zC, i64_w, i32_w]
                     rfl
                    exact norm_ (by first | (simp only [putAll, Act.put, zA, zB, zC]; done) | (simp only [putAll, Act.put, zA, zB, zC]; rfl)) (hJ6_20 (_, gb173) _ ⟨hHeld, (by (with_reducible repeat (first | apply Kd.R_alloc | apply Kd.R_drewN | apply Kd.R_drew)); exact Kd.R_mono HO160.out (fun _ hk => hk.2)), (by (with_reducible repeat (first | apply Kd.R_alloc | apply Kd.R_drewN | apply Kd.R_drew)); exact Kd.R_mono HO_149002.out (fun _ hk => hk.2)), (mK BK147.out), (mK BK148.out), (mK BK173.out), GW173.out, GE173.out, NB0_173.out, NB173_0.out, NB147_173.out, NB173_147.out, NB148_173.out, NB173_148.out, (mI102_3 HI0.out NB0_147.out NB0_148.out NB0_173.out), (mQ102_7 HK.out GW147.out GW148.out GW173.out), (mH102_11 HB.out (IsS123.ge HI0.out) GE147.out GE148.out GE173.out)⟩)
                  ·skip
                   rintro v159 w25 ⟨hS_, h0_, h1_, h2_, h3_, h4_, h5_, h6_⟩
                   have n0_ : Aside0 (Kd.R k46 46 w25 w.heap.size (fun k_ => some k_ ≠ (.slice Ao21 x149002_1.length co21 : Value).ownBlock) v159 y158) := ⟨h0_⟩
                   have n1_ : Aside0 (Kd.R k46 46 w25 w.heap.size (fun k_ => some k_ ≠ (v159 : Value).ownBlock) (.slice Ao21 x149002_1.length co21) x149002_1) := ⟨h1_⟩
                   have n2_ : Aside0 (w25.heap[gb147]? = some (.cells #[.int .i64 0, .int .i64 0, .slice none 0 0] 40 (0, 0))) := ⟨h2_⟩
                   have n3_ : Aside0 (w25.heap[gb148]? = some (.cells #[.int .i64 x149000_1, .int .i64 x149001_1, .slice Ao21 x149002_1.length co21] 40 (0, 0))) := ⟨h3_⟩
                   have n4_ : Aside0 (IsS123 w0 w25 g s0_0 t156 t157) := ⟨h4_⟩
                   have n5_ : Aside0 (KeepBut w w25 g none) := ⟨h5_⟩
                   have n6_ : Aside0 (Below w0.heap.size w0 w25) := ⟨h6_⟩
                   clear HO_149002
                   clear BK147
                   clear BK148
                   clear HI0
                   clear HK
                   clear HB
                   clear h0_ h1_ h2_ h3_ h4_ h5_ h6_
                   have HO160 := n0_
                   have HO_149002 := n1_
                   have BK147 := n2_
                   have BK148 := n3_
                   have HI0 := n4_
                   have HK := n5_
                   have HB := n6_
                   clear n0_ n1_ n2_ n3_ n4_ n5_ n6_
                   have hHeld : w25.cell? ⟨gb148, 0, none⟩ = some (.int .i64 x149000_1) ∧ w25.cell? ⟨gb148, 1, none⟩ = some (.int .i64 x149001_1) ∧ w25.cell? ⟨gb148, 2, none⟩ = some (.slice Ao21 x149002_1.length co21) := hS_
                   refine norm_ (a' := ?_) ?_ ?_
                   rotate_left
                   ·simp only [putAll, Act.put, zA, zB, zC]
                    rfl
                   refine two_ (i := 9) (j := 20) (Ni := some 33) (Nj := some 7) #[true, true, true, true, true, true, true, true, true, true, true, true, true, false, true, true, false, false, false, false, false, false] #[true, true, true, true, true, true, true, true, true, false, true, true, true, false, true, true, false, false, false, false, true, false] rfl rfl rfl rfl (two_of HT_.out (by kernel_rfl)) (by decide) (by decide) (fun K hK => ?_) (fun K hK => ?_)
                   ·skip
                    refine Kd.R_append_rows_step k46 w.heap.size (by rfl) (.tmp 30) (.tmp 32) 38 46 (.agg #[(.int .i64 0), (.int .i64 0), (.string ⟨#[]⟩), (.string ⟨#[]⟩)]) 48 rfl Try.underlying38 info46 rfl (by decide) (by omega) v159 y158 x149002_1 _ _ _ (fun k_ => some k_ ≠ (.slice Ao21 x149002_1.length co21 : Value).ownBlock) (fun _ => False) rfl rfl ?aO ?aR (fun _ _ h => h) (fun _ h => h.elim) ?aF (Below.refl _ _) ?aS ?aL ?_
                    (case aR => repeat (first | exact (Kd.R_reads' HO_149002.out).2.2 | (with_reducible refine Kd.C_alloc ?_ _) | (with_reducible refine Kd.C_drewN ?_ _) | (with_reducible refine Kd.C_drew ?_)))
                    (case aF => exact (fun k_ hk => Kd.fresh' (Kd.R_lt (mR HO_149002.out)) k_ hk))
                    (case aO => exact (mR HO160.out))
                    (case aS => exact (keep_size (w := w) (g := g) (row := none) (mQ102_6 HK.out GW147.out GW148.out)))
                    (case aL => have := LMc16.out; omega)
                    intro v162 w26 ho hb hg hat
                    rw [← Ny161.out] at ho
                    have n0_ := mS (Kd.R_after (ok := (fun _ => True)) (by (with_reducible repeat (first | apply Kd.R_alloc | apply Kd.R_drewN | apply Kd.R_drew)); exact Kd.R_mono HO_149002.out (fun _ hk => ⟨trivial, hk⟩)) hg hat)
                    have n1_ := mS (blk_grown (g := gb147) (o := .cells #[.int .i64 0, .int .i64 0, .slice none 0 0] 40 (0, 0)) (mK BK147.out) hg (Kd.R_ne HO160.out BK147.out (by decide)))
                    have n2_ := mS (blk_grown (g := gb148) (o := .cells #[.int .i64 x149000_1, .int .i64 x149001_1, .slice Ao21 x149002_1.length co21] 40 (0, 0)) (mK BK148.out) hg (Kd.R_ne HO160.out BK148.out (by decide)))
                    have n3_ := mS (IsS123.grown (mI102_2 HI0.out NB0_147.out NB0_148.out) hg (IsS123.own_ne HI0.out HO160.out (by decide)))
                    have n4_ := mS (below_weaken (mH102_10 HB.out (IsS123.ge HI0.out) GE147.out GE148.out) HL.out hb)
                    have n5_ := mS (KeepBut.trans (mQ102_6 HK.out GW147.out GW148.out) (KeepBut.of_grown hg g) (Kd.R_base2 HO160.out))
                    have n6_ := mS (ho)
                    clear HO_149002
                    clear BK147
                    clear BK148
                    clear HI0
                    clear HB
                    clear HK
                    clear HO160
                    have HO_149002 := n0_
                    have BK147 := n1_
                    have BK148 := n2_
                    have HI0 := n3_
                    have HB := n4_
                    have HK := n5_
                    have HO163 := n6_
                    clear n0_ n1_ n2_ n3_ n4_ n5_ n6_
                    clear ho hb hg hat
                    refine hK.out _ _ ⟨mZ BK148.out 0, mZ BK148.out 1, mZ BK148.out 2⟩ (fun hHeld => ?_)
                    clear hK K
                    refine norm_ (a' := ?_) ?_ ?_
                    rotate_left
                    ·show Act.put _ (some 33) _ = _
                     simp only [Act.put, zA, zB, zC, i64_w, i32_w]
                     rfl
                    exact norm_ (by first | (simp only [putAll, Act.put, zA, zB, zC]; done) | (simp only [putAll, Act.put, zA, zB, zC]; rfl)) (hJ6_9 (_, _) _ ⟨hHeld, (mR HO163.out), (by (with_reducible repeat (first | apply Kd.R_alloc | apply Kd.R_drewN | apply Kd.R_drew)); exact Kd.R_mono HO_149002.out (fun _ hk => hk.2)), (mK BK147.out), (mK BK148.out), (mI102_2 HI0.out NB0_147.out NB0_148.out), (mQ102_6 HK.out GW147.out GW148.out), (mH102_10 HB.out (IsS123.ge HI0.out) GE147.out GE148.out)⟩)
                   ·skip
                    refine box_step ?hg (N := 7) ?hd (cs := #[.int .i64 0, .int .i64 0, .slice none 0 0]) (t := 40) ?hr ?_; (case hd => rfl); (case hg => rfl); (case hr => first | (go_simp; done) | (go_simp; rfl))
                    intro gb173 hg w26 hbox hb
                    have n0_ := mS (Kd.R_below (mR HO_149002.out) hb)
                    have n1_ := mS (Kd.R_below (mR HO160.out) hb)
                    have n2_ := mB BK147 hb
                    have n3_ := mB BK148 hb
                    have n4_ := mS (IsS123.below (mI102_2 HI0.out NB0_147.out NB0_148.out) hb)
                    have n5_ := mS (KeepBut.trans (mQ102_6 HK.out GW147.out GW148.out) (KeepBut.of_below hb g none) (.inl rfl))
                    have n6_ := mS (below_step (mH102_10 HB.out (IsS123.ge HI0.out) GE147.out GE148.out) hb)
                    have n7_ := mS (hbox)
                    have n8_ := mS ((by rw [hg]; exact (keep_size (w := w) (g := g) (row := none) (mQ102_6 HK.out GW147.out GW148.out)) : w.heap.size ≤ gb173))
                    have n9_ := mS ((Nat.le_trans HW0.out (by rw [hg]; exact (keep_size (w := w) (g := g) (row := none) (mQ102_6 HK.out GW147.out GW148.out)) : w.heap.size ≤ gb173) : w0.heap.size ≤ gb173))
                    have n10_ := mNl hg BK147.out
                    have n11_ := mNg hg BK147.out
                    have n12_ := mNl hg BK148.out
                    have n13_ := mNg hg BK148.out
                    have n14_ := mS ((by rw [hg]; exact Nat.ne_of_lt (IsS123.lt (show IsS123 w0 _ g s0_0 t156 t157 from mI102_2 HI0.out NB0_147.out NB0_148.out)) : g ≠ gb173))
                    have n15_ := mS ((by rw [hg]; exact Nat.ne_of_gt (IsS123.lt (show IsS123 w0 _ g s0_0 t156 t157 from mI102_2 HI0.out NB0_147.out NB0_148.out)) : gb173 ≠ g))
                    clear HO_149002
                    clear HO160
                    clear BK147
                    clear BK148
                    clear HI0
                    clear HK
                    clear HB
                    have HO_149002 := n0_
                    have HO160 := n1_
                    have BK147 := n2_
                    have BK148 := n3_
                    have HI0 := n4_
                    have HK := n5_
                    have HB := n6_
                    have BK173 := n7_
                    have GW173 := n8_
                    have GE173 := n9_
                    have NB147_173 := n10_
                    have NB173_147 := n11_
                    have NB148_173 := n12_
                    have NB173_148 := n13_
                    have NB0_173 := n14_
                    have NB173_0 := n15_
                    clear n0_ n1_ n2_ n3_ n4_ n5_ n6_ n7_ n8_ n9_ n10_ n11_ n12_ n13_ n14_ n15_
                    clear hb hbox hg
                    refine hK.out _ _ ⟨mZ BK148.out 0, mZ BK148.out 1, mZ BK148.out 2⟩ (fun hHeld => ?_)
                    clear hK K
                    refine norm_ (a' := ?_) ?_ ?_
                    rotate_left
                    ·show Act.put _ (some 7) _ = _
                     simp only [Act.put, zA, zB, zC, i64_w, i32_w]
                     rfl
                    exact norm_ (by first | (simp only [putAll, Act.put, zA, zB, zC]; done) | (simp only [putAll, Act.put, zA, zB, zC]; rfl)) (hJ6_20 (_, gb173) _ ⟨hHeld, (mR HO160.out), (mR HO_149002.out), (mK BK147.out), (mK BK148.out), (mK BK173.out), GW173.out, GE173.out, NB0_173.out, NB173_0.out, NB147_173.out, NB173_147.out, NB148_173.out, NB173_148.out, (mI102_3 HI0.out NB0_147.out NB0_148.out NB0_173.out), (mQ102_7 HK.out GW147.out GW148.out GW173.out), (mH102_11 HB.out (IsS123.ge HI0.out) GE147.out GE148.out GE173.out)⟩)
                 ·skip
                  rintro ⟨v159, gb173⟩ w26 ⟨hS_, h0_, h1_, h2_, h3_, h4_, h5_, h6_, h7_, h8_, h9_, h10_, h11_, h12_, h13_, h14_, h15_⟩
                  have n0_ : Aside0 (Kd.R k46 46 w26 w.heap.size (fun k_ => some k_ ≠ (.slice Ao21 x149002_1.length co21 : Value).ownBlock) v159 y158) := ⟨h0_⟩
                  have n1_ : Aside0 (Kd.R k46 46 w26 w.heap.size (fun k_ => some k_ ≠ (v159 : Value).ownBlock) (.slice Ao21 x149002_1.length co21) x149002_1) := ⟨h1_⟩
                  have n2_ : Aside0 (w26.heap[gb147]? = some (.cells #[.int .i64 0, .int .i64 0, .slice none 0 0] 40 (0, 0))) := ⟨h2_⟩
                  have n3_ : Aside0 (w26.heap[gb148]? = some (.cells #[.int .i64 x149000_1, .int .i64 x149001_1, .slice Ao21 x149002_1.length co21] 40 (0, 0))) := ⟨h3_⟩
                  have n4_ : Aside0 (w26.heap[gb173]? = some (.cells #[.int .i64 0, .int .i64 0, .slice none 0 0] 40 (0, 0))) := ⟨h4_⟩
                  have n5_ : Aside0 (w.heap.size ≤ gb173) := ⟨h5_⟩
                  have n6_ : Aside0 (w0.heap.size ≤ gb173) := ⟨h6_⟩
                  have n7_ : Aside0 (g ≠ gb173) := ⟨h7_⟩
                  have n8_ : Aside0 (gb173 ≠ g) := ⟨h8_⟩
                  have n9_ : Aside0 (gb147 ≠ gb173) := ⟨h9_⟩
                  have n10_ : Aside0 (gb173 ≠ gb147) := ⟨h10_⟩
                  have n11_ : Aside0 (gb148 ≠ gb173) := ⟨h11_⟩
                  have n12_ : Aside0 (gb173 ≠ gb148) := ⟨h12_⟩
                  have n13_ : Aside0 (IsS123 w0 w26 g s0_0 t156 t157) := ⟨h13_⟩
                  have n14_ : Aside0 (KeepBut w w26 g none) := ⟨h14_⟩
                  have n15_ : Aside0 (Below w0.heap.size w0 w26) := ⟨h15_⟩
                  clear HO_149002
                  clear BK147
                  clear BK148
                  clear HI0
                  clear HK
                  clear HB
                  clear h0_ h1_ h2_ h3_ h4_ h5_ h6_ h7_ h8_ h9_ h10_ h11_ h12_ h13_ h14_ h15_
                  have HO160 := n0_
                  have HO_149002 := n1_
                  have BK147 := n2_
                  have BK148 := n3_
                  have BK173 := n4_
                  have GW173 := n5_
                  have GE173 := n6_
                  have NB0_173 := n7_
                  have NB173_0 := n8_
                  have NB147_173 := n9_
                  have NB173_147 := n10_
                  have NB148_173 := n11_
                  have NB173_148 := n12_
                  have HI0 := n13_
                  have HK := n14_
                  have HB := n15_
                  clear n0_ n1_ n2_ n3_ n4_ n5_ n6_ n7_ n8_ n9_ n10_ n11_ n12_ n13_ n14_ n15_
                  have hHeld : w26.cell? ⟨gb148, 0, none⟩ = some (.int .i64 x149000_1) ∧ w26.cell? ⟨gb148, 1, none⟩ = some (.int .i64 x149001_1) ∧ w26.cell? ⟨gb148, 2, none⟩ = some (.slice Ao21 x149002_1.length co21) := hS_
                  refine norm_ (a' := ?_) ?_ ?_
                  rotate_left
                  ·simp only [putAll, Act.put, zA, zB, zC]
                   rfl
                  refine one_ (i := 9) (N := some 33) #[true, true, true, true, true, true, true, true, true, true, true, true, true, false, true, true, false, false, false, false, true, false] rfl rfl (one_of HT_.out (by kernel_rfl)) (by decide) (fun K hK => ?_)
                  refine Kd.R_append_rows_step k46 w.heap.size (by rfl) (.tmp 30) (.tmp 32) 38 46 (.agg #[(.int .i64 0), (.int .i64 0), (.string ⟨#[]⟩), (.string ⟨#[]⟩)]) 48 rfl Try.underlying38 info46 rfl (by decide) (by omega) v159 y158 x149002_1 _ _ _ (fun k_ => some k_ ≠ (.slice Ao21 x149002_1.length co21 : Value).ownBlock) (fun _ => False) rfl rfl ?aO ?aR (fun _ _ h => h) (fun _ h => h.elim) ?aF (Below.refl _ _) ?aS ?aL ?_
                  (case aR => repeat (first | exact (Kd.R_reads' HO_149002.out).2.2 | (with_reducible refine Kd.C_alloc ?_ _) | (with_reducible refine Kd.C_drewN ?_ _) | (with_reducible refine Kd.C_drew ?_)))
                  (case aF => exact (fun k_ hk => Kd.fresh' (Kd.R_lt (mR HO_149002.out)) k_ hk))
                  (case aO => exact (mR HO160.out))
                  (case aS => exact (keep_size (w := w) (g := g) (row := none) (mQ102_7 HK.out GW147.out GW148.out GW173.out)))
                  (case aL => have := LMc16.out; omega)
                  intro v162 w27 ho hb hg hat
                  rw [← Ny161.out] at ho
                  have n0_ := mS (Kd.R_after (ok := (fun _ => True)) (by (with_reducible repeat (first | apply Kd.R_alloc | apply Kd.R_drewN | apply Kd.R_drew)); exact Kd.R_mono HO_149002.out (fun _ hk => ⟨trivial, hk⟩)) hg hat)
                  have n1_ := mS (blk_grown (g := gb147) (o := .cells #[.int .i64 0, .int .i64 0, .slice none 0 0] 40 (0, 0)) (mK BK147.out) hg (Kd.R_ne HO160.out BK147.out (by decide)))
                  have n2_ := mS (blk_grown (g := gb148) (o := .cells #[.int .i64 x149000_1, .int .i64 x149001_1, .slice Ao21 x149002_1.length co21] 40 (0, 0)) (mK BK148.out) hg (Kd.R_ne HO160.out BK148.out (by decide)))
                  have n3_ := mS (IsS123.grown (mI102_3 HI0.out NB0_147.out NB0_148.out NB0_173.out) hg (IsS123.own_ne HI0.out HO160.out (by decide)))
                  have n4_ := mS (blk_grown (g := gb173) (o := .cells #[.int .i64 0, .int .i64 0, .slice none 0 0] 40 (0, 0)) (mK BK173.out) hg (Kd.R_ne HO160.out BK173.out (by decide)))
                  have n5_ := mS (below_weaken (mH102_11 HB.out (IsS123.ge HI0.out) GE147.out GE148.out GE173.out) HL.out hb)
                  have n6_ := mS (KeepBut.trans (mQ102_7 HK.out GW147.out GW148.out GW173.out) (KeepBut.of_grown hg g) (Kd.R_base2 HO160.out))
                  have n7_ := mS (ho)
                  clear HO_149002
                  clear BK147
                  clear BK148
                  clear HI0
                  clear BK173
                  clear HB
                  clear HK
                  clear HO160
                  have HO_149002 := n0_
                  have BK147 := n1_
                  have BK148 := n2_
                  have HI0 := n3_
                  have BK173 := n4_
                  have HB := n5_
                  have HK := n6_
                  have HO163 := n7_
                  clear n0_ n1_ n2_ n3_ n4_ n5_ n6_ n7_
                  clear ho hb hg hat
                  refine hK.out _ _ ⟨mZ BK148.out 0, mZ BK148.out 1, mZ BK148.out 2⟩ (fun hHeld => ?_)
                  clear hK K
                  refine norm_ (a' := ?_) ?_ ?_
                  rotate_left
                  ·show Act.put _ (some 33) _ = _
                   simp only [Act.put, zA, zB, zC, i64_w, i32_w]
                   rfl
                  exact norm_ (by first | (simp only [putAll, Act.put, zA, zB, zC]; done) | (simp only [putAll, Act.put, zA, zB, zC]; rfl)) (hJ6_9_20 (_, _, gb173) _ ⟨hHeld, (mR HO163.out), (by (with_reducible repeat (first | apply Kd.R_alloc | apply Kd.R_drewN | apply Kd.R_drew)); exact Kd.R_mono HO_149002.out (fun _ hk => hk.2)), (mK BK147.out), (mK BK148.out), (mK BK173.out), GW173.out, GE173.out, NB0_173.out, NB173_0.out, NB147_173.out, NB173_147.out, NB148_173.out, NB173_148.out, (mI102_3 HI0.out NB0_147.out NB0_148.out NB0_173.out), (mQ102_7 HK.out GW147.out GW148.out GW173.out), (mH102_11 HB.out (IsS123.ge HI0.out) GE147.out GE148.out GE173.out)⟩)
                ·skip
                 rintro ⟨v159, v162⟩ w26 ⟨hS_, h0_, h1_, h2_, h3_, h4_, h5_, h6_⟩
                 have n0_ : Aside0 (Kd.R k46 46 w26 w.heap.size (fun k_ => some k_ ≠ (.slice Ao21 x149002_1.length co21 : Value).ownBlock) v162 y161) := ⟨h0_⟩
                 have n1_ : Aside0 (Kd.R k46 46 w26 w.heap.size (fun k_ => some k_ ≠ (v162 : Value).ownBlock) (.slice Ao21 x149002_1.length co21) x149002_1) := ⟨h1_⟩
                 have n2_ : Aside0 (w26.heap[gb147]? = some (.cells #[.int .i64 0, .int .i64 0, .slice none 0 0] 40 (0, 0))) := ⟨h2_⟩
                 have n3_ : Aside0 (w26.heap[gb148]? = some (.cells #[.int .i64 x149000_1, .int .i64 x149001_1, .slice Ao21 x149002_1.length co21] 40 (0, 0))) := ⟨h3_⟩
                 have n4_ : Aside0 (IsS123 w0 w26 g s0_0 t156 t157) := ⟨h4_⟩
                 have n5_ : Aside0 (KeepBut w w26 g none) := ⟨h5_⟩
                 have n6_ : Aside0 (Below w0.heap.size w0 w26) := ⟨h6_⟩
                 clear HO_149002
                 clear BK147
                 clear BK148
                 clear HI0
                 clear HK
                 clear HB
                 clear h0_ h1_ h2_ h3_ h4_ h5_ h6_
                 have HO163 := n0_
                 have HO_149002 := n1_
                 have BK147 := n2_
                 have BK148 := n3_
                 have HI0 := n4_
                 have HK := n5_
                 have HB := n6_
                 clear n0_ n1_ n2_ n3_ n4_ n5_ n6_
                 have hHeld : w26.cell? ⟨gb148, 0, none⟩ = some (.int .i64 x149000_1) ∧ w26.cell? ⟨gb148, 1, none⟩ = some (.int .i64 x149001_1) ∧ w26.cell? ⟨gb148, 2, none⟩ = some (.slice Ao21 x149002_1.length co21) := hS_
                 refine norm_ (a' := ?_) ?_ ?_
                 rotate_left
                 ·simp only [putAll, Act.put, zA, zB, zC]
                  rfl
                 refine two_ (i := 13) (j := 20) (Ni := some 37) (Nj := some 7) (mb 16 6) #[true, true, true, true, true, true, true, true, true, true, true, true, true, false, true, true, false, false, false, false, true, false] rfl rfl rfl rfl (two_of HT_.out (by kernel_rfl)) (by decide) (by decide) (fun K hK => ?_) (fun K hK => ?_)
                 ·skip
                  refine goes_ Try.func73 (by kernel_rfl) rfl #[.pointer (some ⟨g, 0, none⟩), .int .i64 4] (by rfl) rfl rfl mA ?_
                  with_reducible refine (spec_l1Below.calls g s0_0 t156 t157 4 t164 t165 t166 w0 _ ?side1 ?side2 A17.out).mono ?_
                  (case side1 => repeat (first | (with_reducible first | exact HI0.out | apply IsS123.alloc | apply IsS123.drewN | apply IsS123.drew | apply IsS123.set_1 | apply IsS123.set_2 | refine IsS123.far ?_ NB0_147.out _ | refine IsS123.far ?_ NB0_148.out _) | exact HI0.out))
                  (case side2 => repeat (first | (with_reducible first | exact HB.out | apply below_alloc | apply pw_below_drewN | apply below_drew1 | refine below_set ?_ (IsS123.ge HI0.out) | refine below_set ?_ GE147.out | refine below_set ?_ GE148.out) | exact HB.out))
                  rintro e w27 ⟨rfl, hi, hb, hk⟩
                  refine ⟨_, rfl, ?_⟩
                  have n0_ := mS (Kd.R_mono (Kd.R_keep (IsS123.apart (show IsS123 w0 _ g s0_0 t156 t157 from mI102_2 HI0.out NB0_147.out NB0_148.out) (mR HO_149002.out) (by decide)) hk (fun _ h => h.2)) (fun _ h => h.1))
                  have n1_ := mS (KeepBut.blk hk (g' := gb147) (o := .cells #[.int .i64 0, .int .i64 0, .slice none 0 0] 40 (0, 0)) (mK BK147.out) NB147_0.out (by simp))
                  have n2_ := mS (KeepBut.blk hk (g' := gb148) (o := .cells #[.int .i64 x149000_1, .int .i64 x149001_1, .slice Ao21 x149002_1.length co21] 40 (0, 0)) (mK BK148.out) NB148_0.out (by simp))
                  have n3_ := mS (Kd.R_mono (Kd.R_keep (IsS123.apart (show IsS123 w0 _ g s0_0 t156 t157 from mI102_2 HI0.out NB0_147.out NB0_148.out) (mR HO163.out) (by decide)) hk (fun _ h => h.2)) (fun _ h => h.1))
                  have n4_ := mS (KeepBut.trans (mQ102_6 HK.out GW147.out GW148.out) hk (.inl rfl))
                  have n5_ := mS (hb)
                  have n6_ := mS (hi)
                  clear HO_149002
                  clear BK147
                  clear BK148
                  clear HO163
                  clear HK
                  clear HB
                  clear HI0
                  have HO_149002 := n0_
                  have BK147 := n1_
                  have BK148 := n2_
                  have HO163 := n3_
                  have HK := n4_
                  have HB := n5_
                  have HI0 := n6_
                  clear n0_ n1_ n2_ n3_ n4_ n5_ n6_
                  (try clear hb)
                  (try clear hb2)
                  (try clear hk)
                  (try clear hi)
                  refine hK.out _ _ ⟨mZ BK148.out 0, mZ BK148.out 1, mZ BK148.out 2⟩ (fun hHeld => ?_)
                  clear hK K
                  refine norm_ (a' := ?_) ?_ ?_
                  rotate_left
                  ·show Act.put _ (some 37) _ = _
                   simp only [Act.put, zA, zB, zC, i64_w, i32_w]
                   rfl
                  refine pure_ (i := 16) (N := some 40) (v := ?_) (a' := ?_) (mb 17 5) rfl rfl (any_of HT_.out (by kernel_rfl)) (fun _ _ _ h => h) (Or.inl ⟨by rfl, ?_⟩) ?_ ?_
                  rotate_left
                  ·intro w'
                   go_simp
                   with_reducible rfl
                  rotate_left
                  ·simp only [Act.put, zA, zB, zC, i64_w, i32_w]
                   rfl
                  exact norm_ (by first | (simp only [putAll, Act.put, zA, zB, zC]; done) | (simp only [putAll, Act.put, zA, zB, zC]; rfl)) (hJ6_9_13 (_, _) _ ⟨hHeld, (mR HO163.out), (mR HO_149002.out), (mK BK147.out), (mK BK148.out), (mI102_2 HI0.out NB0_147.out NB0_148.out), (mQ102_6 HK.out GW147.out GW148.out), (mH102_10 HB.out (IsS123.ge HI0.out) GE147.out GE148.out)⟩)
                 ·skip
                  refine box_step ?hg (N := 7) ?hd (cs := #[.int .i64 0, .int .i64 0, .slice none 0 0]) (t := 40) ?hr ?_; (case hd => rfl); (case hg => rfl); (case hr => first | (go_simp; done) | (go_simp; rfl))
                  intro gb173 hg w27 hbox hb
                  have n0_ := mS (Kd.R_below (mR HO_149002.out) hb)
                  have n1_ := mS (Kd.R_below (mR HO163.out) hb)
                  have n2_ := mB BK147 hb
                  have n3_ := mB BK148 hb
                  have n4_ := mS (IsS123.below (mI102_2 HI0.out NB0_147.out NB0_148.out) hb)
                  have n5_ := mS (KeepBut.trans (mQ102_6 HK.out GW147.out GW148.out) (KeepBut.of_below hb g none) (.inl rfl))
                  have n6_ := mS (below_step (mH102_10 HB.out (IsS123.ge HI0.out) GE147.out GE148.out) hb)
                  have n7_ := mS (hbox)
                  have n8_ := mS ((by rw [hg]; exact (keep_size (w := w) (g := g) (row := none) (mQ102_6 HK.out GW147.out GW148.out)) : w.heap.size ≤ gb173))
                  have n9_ := mS ((Nat.le_trans HW0.out (by rw [hg]; exact (keep_size (w := w) (g := g) (row := none) (mQ102_6 HK.out GW147.out GW148.out)) : w.heap.size ≤ gb173) : w0.heap.size ≤ gb173))
                  have n10_ := mNl hg BK147.out
                  have n11_ := mNg hg BK147.out
                  have n12_ := mNl hg BK148.out
                  have n13_ := mNg hg BK148.out
                  have n14_ := mS ((by rw [hg]; exact Nat.ne_of_lt (IsS123.lt (show IsS123 w0 _ g s0_0 t156 t157 from mI102_2 HI0.out NB0_147.out NB0_148.out)) : g ≠ gb173))
                  have n15_ := mS ((by rw [hg]; exact Nat.ne_of_gt (IsS123.lt (show IsS123 w0 _ g s0_0 t156 t157 from mI102_2 HI0.out NB0_147.out NB0_148.out)) : gb173 ≠ g))
                  clear HO_149002
                  clear HO163
                  clear BK147
                  clear BK148
                  clear HI0
                  clear HK
                  clear HB
                  have HO_149002 := n0_
                  have HO163 := n1_
                  have BK147 := n2_
                  have BK148 := n3_
                  have HI0 := n4_
                  have HK := n5_
                  have HB := n6_
                  have BK173 := n7_
                  have GW173 := n8_
                  have GE173 := n9_
                  have NB147_173 := n10_
                  have NB173_147 := n11_
                  have NB148_173 := n12_
                  have NB173_148 := n13_
                  have NB0_173 := n14_
                  have NB173_0 := n15_
                  clear n0_ n1_ n2_ n3_ n4_ n5_ n6_ n7_ n8_ n9_ n10_ n11_ n12_ n13_ n14_ n15_
                  clear hb hbox hg
                  refine hK.out _ _ ⟨mZ BK148.out 0, mZ BK148.out 1, mZ BK148.out 2⟩ (fun hHeld => ?_)
                  clear hK K
                  refine norm_ (a' := ?_) ?_ ?_
                  rotate_left
                  ·show Act.put _ (some 7) _ = _
                   simp only [Act.put, zA, zB, zC, i64_w, i32_w]
                   rfl
                  exact norm_ (by first | (simp only [putAll, Act.put, zA, zB, zC]; done) | (simp only [putAll, Act.put, zA, zB, zC]; rfl)) (hJ6_9_20 (_, _, gb173) _ ⟨hHeld, (mR HO163.out), (mR HO_149002.out), (mK BK147.out), (mK BK148.out), (mK BK173.out), GW173.out, GE173.out, NB0_173.out, NB173_0.out, NB147_173.out, NB173_147.out, NB148_173.out, NB173_148.out, (mI102_3 HI0.out NB0_147.out NB0_148.out NB0_173.out), (mQ102_7 HK.out GW147.out GW148.out GW173.out), (mH102_11 HB.out (IsS123.ge HI0.out) GE147.out GE148.out GE173.out)⟩)
               ·skip
                rintro ⟨v159, v162, gb173⟩ w27 ⟨hS_, h0_, h1_, h2_, h3_, h4_, h5_, h6_, h7_, h8_, h9_, h10_, h11_, h12_, h13_, h14_, h15_⟩
                have n0_ : Aside0 (Kd.R k46 46 w27 w.heap.size (fun k_ => some k_ ≠ (.slice Ao21 x149002_1.length co21 : Value).ownBlock) v162 y161) := ⟨h0_⟩
                have n1_ : Aside0 (Kd.R k46 46 w27 w.heap.size (fun k_ => some k_ ≠ (v162 : Value).ownBlock) (.slice Ao21 x149002_1.length co21) x149002_1) := ⟨h1_⟩
                have n2_ : Aside0 (w27.heap[gb147]? = some (.cells #[.int .i64 0, .int .i64 0, .slice none 0 0] 40 (0, 0))) := ⟨h2_⟩
                have n3_ : Aside0 (w27.heap[gb148]? = some (.cells #[.int .i64 x149000_1, .int .i64 x149001_1, .slice Ao21 x149002_1.length co21] 40 (0, 0))) := ⟨h3_⟩
                have n4_ : Aside0 (w27.heap[gb173]? = some (.cells #[.int .i64 0, .int .i64 0, .slice none 0 0] 40 (0, 0))) := ⟨h4_⟩
                have n5_ : Aside0 (w.heap.size ≤ gb173) := ⟨h5_⟩
                have n6_ : Aside0 (w0.heap.size ≤ gb173) := ⟨h6_⟩
                have n7_ : Aside0 (g ≠ gb173) := ⟨h7_⟩
                have n8_ : Aside0 (gb173 ≠ g) := ⟨h8_⟩
                have n9_ : Aside0 (gb147 ≠ gb173) := ⟨h9_⟩
                have n10_ : Aside0 (gb173 ≠ gb147) := ⟨h10_⟩
                have n11_ : Aside0 (gb148 ≠ gb173) := ⟨h11_⟩
                have n12_ : Aside0 (gb173 ≠ gb148) := ⟨h12_⟩
                have n13_ : Aside0 (IsS123 w0 w27 g s0_0 t156 t157) := ⟨h13_⟩
                have n14_ : Aside0 (KeepBut w w27 g none) := ⟨h14_⟩
                have n15_ : Aside0 (Below w0.heap.size w0 w27) := ⟨h15_⟩
                clear HO_149002
                clear BK147
                clear BK148
                clear HI0
                clear HK
                clear HB
                clear h0_ h1_ h2_ h3_ h4_ h5_ h6_ h7_ h8_ h9_ h10_ h11_ h12_ h13_ h14_ h15_
                have HO163 := n0_
                have HO_149002 := n1_
                have BK147 := n2_
                have BK148 := n3_
                have BK173 := n4_
                have GW173 := n5_
                have GE173 := n6_
                have NB0_173 := n7_
                have NB173_0 := n8_
                have NB147_173 := n9_
                have NB173_147 := n10_
                have NB148_173 := n11_
                have NB173_148 := n12_
                have HI0 := n13_
                have HK := n14_
                have HB := n15_
                clear n0_ n1_ n2_ n3_ n4_ n5_ n6_ n7_ n8_ n9_ n10_ n11_ n12_ n13_ n14_ n15_
                have hHeld : w27.cell? ⟨gb148, 0, none⟩ = some (.int .i64 x149000_1) ∧ w27.cell? ⟨gb148, 1, none⟩ = some (.int .i64 x149001_1) ∧ w27.cell? ⟨gb148, 2, none⟩ = some (.slice Ao21 x149002_1.length co21) := hS_
                refine norm_ (a' := ?_) ?_ ?_
                rotate_left
                ·simp only [putAll, Act.put, zA, zB, zC]
                 rfl
                refine one_ (i := 13) (N := some 37) #[true, true, true, true, true, true, true, true, true, true, true, true, true, true, true, true, false, false, false, false, true, false] rfl rfl (one_of HT_.out (by kernel_rfl)) (by decide) (fun K hK => ?_)
                refine goes_ Try.func73 (by kernel_rfl) rfl #[.pointer (some ⟨g, 0, none⟩), .int .i64 4] (by rfl) rfl rfl mA ?_
                with_reducible refine (spec_l1Below.calls g s0_0 t156 t157 4 t164 t165 t166 w0 _ ?side1 ?side2 A17.out).mono ?_
                (case side1 => repeat (first | (with_reducible first | exact HI0.out | apply IsS123.alloc | apply IsS123.drewN | apply IsS123.drew | apply IsS123.set_1 | apply IsS123.set_2 | refine IsS123.far ?_ NB0_147.out _ | refine IsS123.far ?_ NB0_148.out _ | refine IsS123.far ?_ NB0_173.out _) | exact HI0.out))
                (case side2 => repeat (first | (with_reducible first | exact HB.out | apply below_alloc | apply pw_below_drewN | apply below_drew1 | refine below_set ?_ (IsS123.ge HI0.out) | refine below_set ?_ GE147.out | refine below_set ?_ GE148.out | refine below_set ?_ GE173.out) | exact HB.out))
                rintro e w28 ⟨rfl, hi, hb, hk⟩
                refine ⟨_, rfl, ?_⟩
                have n0_ := mS (Kd.R_mono (Kd.R_keep (IsS123.apart (show IsS123 w0 _ g s0_0 t156 t157 from mI102_3 HI0.out NB0_147.out NB0_148.out NB0_173.out) (mR HO_149002.out) (by decide)) hk (fun _ h => h.2)) (fun _ h => h.1))
                have n1_ := mS (KeepBut.blk hk (g' := gb147) (o := .cells #[.int .i64 0, .int .i64 0, .slice none 0 0] 40 (0, 0)) (mK BK147.out) NB147_0.out (by simp))
                have n2_ := mS (KeepBut.blk hk (g' := gb148) (o := .cells #[.int .i64 x149000_1, .int .i64 x149001_1, .slice Ao21 x149002_1.length co21] 40 (0, 0)) (mK BK148.out) NB148_0.out (by simp))
                have n3_ := mS (Kd.R_mono (Kd.R_keep (IsS123.apart (show IsS123 w0 _ g s0_0 t156 t157 from mI102_3 HI0.out NB0_147.out NB0_148.out NB0_173.out) (mR HO163.out) (by decide)) hk (fun _ h => h.2)) (fun _ h => h.1))
                have n4_ := mS (KeepBut.blk hk (g' := gb173) (o := .cells #[.int .i64 0, .int .i64 0, .slice none 0 0] 40 (0, 0)) (mK BK173.out) NB173_0.out (by simp))
                have n5_ := mS (KeepBut.trans (mQ102_7 HK.out GW147.out GW148.out GW173.out) hk (.inl rfl))
                have n6_ := mS (hb)
                have n7_ := mS (hi)
                clear HO_149002
                clear BK147
                clear BK148
                clear HO163
                clear BK173
                clear HK
                clear HB
                clear HI0
                have HO_149002 := n0_
                have BK147 := n1_
                have BK148 := n2_
                have HO163 := n3_
                have BK173 := n4_
                have HK := n5_
                have HB := n6_
                have HI0 := n7_
                clear n0_ n1_ n2_ n3_ n4_ n5_ n6_ n7_
                (try clear hb)
                (try clear hb2)
                (try clear hk)
                (try clear hi)
                refine hK.out _ _ ⟨mZ BK148.out 0, mZ BK148.out 1, mZ BK148.out 2⟩ (fun hHeld => ?_)
                clear hK K
                refine norm_ (a' := ?_) ?_ ?_
                rotate_left
                ·show Act.put _ (some 37) _ = _
                 simp only [Act.put, zA, zB, zC, i64_w, i32_w]
                 rfl
                refine pure_ (i := 16) (N := some 40) (v := ?_) (a' := ?_) #[true, true, true, true, true, true, true, true, true, true, true, true, true, true, true, true, true, false, false, false, true, false] rfl rfl (any_of HT_.out (by kernel_rfl)) (fun _ _ _ h => h) (Or.inl ⟨by rfl, ?_⟩) ?_ ?_
                rotate_left
                ·intro w'
                 go_simp
                 with_reducible rfl
                rotate_left
                ·simp only [Act.put, zA, zB, zC, i64_w, i32_w]
                 rfl
                exact norm_ (by first | (simp only [putAll, Act.put, zA, zB, zC]; done) | (simp only [putAll, Act.put, zA, zB, zC]; rfl)) (hJ6_9_13_20 (_, _, gb173) _ ⟨hHeld, (mR HO163.out), (mR HO_149002.out), (mK BK147.out), (mK BK148.out), (mK BK173.out), GW173.out, GE173.out, NB0_173.out, NB173_0.out, NB147_173.out, NB173_147.out, NB148_173.out, NB173_148.out, (mI102_3 HI0.out NB0_147.out NB0_148.out NB0_173.out), (mQ102_7 HK.out GW147.out GW148.out GW173.out), (mH102_11 HB.out (IsS123.ge HI0.out) GE147.out GE148.out GE173.out)⟩)
              ·skip
               rintro ⟨v159, v162⟩ w27 ⟨hS_, h0_, h1_, h2_, h3_, h4_, h5_, h6_⟩
               have n0_ : Aside0 (Kd.R k46 46 w27 w.heap.size (fun k_ => some k_ ≠ (.slice Ao21 x149002_1.length co21 : Value).ownBlock) v162 y161) := ⟨h0_⟩
               have n1_ : Aside0 (Kd.R k46 46 w27 w.heap.size (fun k_ => some k_ ≠ (v162 : Value).ownBlock) (.slice Ao21 x149002_1.length co21) x149002_1) := ⟨h1_⟩
               have n2_ : Aside0 (w27.heap[gb147]? = some (.cells #[.int .i64 0, .int .i64 0, .slice none 0 0] 40 (0, 0))) := ⟨h2_⟩
               have n3_ : Aside0 (w27.heap[gb148]? = some (.cells #[.int .i64 x149000_1, .int .i64 x149001_1, .slice Ao21 x149002_1.length co21] 40 (0, 0))) := ⟨h3_⟩
               have n4_ : Aside0 (IsS123 w0 w27 g s0_0 t165 t166) := ⟨h4_⟩
               have n5_ : Aside0 (KeepBut w w27 g none) := ⟨h5_⟩
               have n6_ : Aside0 (Below w0.heap.size w0 w27) := ⟨h6_⟩
               clear HO_149002
               clear BK147
               clear BK148
               clear HI0
               clear HK
               clear HB
               clear h0_ h1_ h2_ h3_ h4_ h5_ h6_
               have HO163 := n0_
               have HO_149002 := n1_
               have BK147 := n2_
               have BK148 := n3_
               have HI0 := n4_
               have HK := n5_
               have HB := n6_
               clear n0_ n1_ n2_ n3_ n4_ n5_ n6_
               have hHeld : w27.cell? ⟨gb148, 0, none⟩ = some (.int .i64 x149000_1) ∧ w27.cell? ⟨gb148, 1, none⟩ = some (.int .i64 x149001_1) ∧ w27.cell? ⟨gb148, 2, none⟩ = some (.slice Ao21 x149002_1.length co21) := hS_
               refine norm_ (a' := ?_) ?_ ?_
               rotate_left
               ·simp only [putAll, Act.put, zA, zB, zC]
                rfl
               refine two_ (i := 17) (j := 20) (Ni := some 41) (Nj := some 7) (mb 18 4) #[true, true, true, true, true, true, true, true, true, true, true, true, true, true, true, true, true, false, false, false, true, false] rfl rfl rfl rfl (two_of HT_.out (by kernel_rfl)) (by decide) (by decide) (fun K hK => ?_) (fun K hK => ?_)
               ·skip
                refine Kd.R_lit_step k46 _ 46 ?hg (N := 41) ?hd (xs := ([(⟨x149000_1, t164, x5_11, x6_11⟩ : S46)] : List (S46))) (inner := [.int .i64 x149000_1, .int .i64 t164, .string x5_11, .string x6_11]) (ok := fun _ => True) (okp := fun _ => True) ?hr ?hp (fun _ hk => hk) trivial (Below.refl _ _) (Nat.le_refl _) (by simp) ?_; (case hd => rfl); (case hg => rfl); (case hr => first | (go_simp; done) | (go_simp; rfl)); (case hp => exact (Reps.c4 (show Kd.M k46 _ _ _ (⟨x149000_1, t164, x5_11, x6_11⟩ : S46) [.int .i64 x149000_1, .int .i64 t164, .string x5_11, .string x6_11] from (k46_mkM _ _ _ (⟨x149000_1, t164, x5_11, x6_11⟩ : S46) )) (Reps.none _ _)))
                intro v168 w28 ho29 hb hg_ hnew_
                clear hg_ hnew_
                (first | rw [← Ny167.out] at ho29 | (simp only [Int.reduceToNat] at ho29; rw [← Ny167.out] at ho29))
                have n0_ := mS (Kd.R_elder' (mR HO_149002.out) (Kd.R_base ho29) hb)
                have n1_ := mS (Kd.R_elder' (mR HO163.out) (Kd.R_base ho29) hb)
                have n2_ := mS (Kd.R_lower (Kd.R_new' (Kd.R_new' ho29 (Kd.R_lt (mR HO_149002.out))) (Kd.R_lt (mR HO163.out))) (keep_size (w := w) (g := g) (row := none) (mQ102_6 HK.out GW147.out GW148.out)))
                have n3_ := mB BK147 hb
                have n4_ := mB BK148 hb
                have n5_ := mS (IsS123.below (mI102_2 HI0.out NB0_147.out NB0_148.out) hb)
                have n6_ := mS (KeepBut.trans (mQ102_6 HK.out GW147.out GW148.out) (KeepBut.of_below hb g none) (.inl rfl))
                have n7_ := mS (below_step (mH102_10 HB.out (IsS123.ge HI0.out) GE147.out GE148.out) hb)
                clear HO_149002
                clear HO163
                clear BK147
                clear BK148
                clear HI0
                clear HK
                clear HB
                have HO_149002 := n0_
                have HO163 := n1_
                have HO169 := n2_
                have BK147 := n3_
                have BK148 := n4_
                have HI0 := n5_
                have HK := n6_
                have HB := n7_
                clear n0_ n1_ n2_ n3_ n4_ n5_ n6_ n7_
                clear hb ho29
                refine hK.out _ _ ⟨mZ BK148.out 0, mZ BK148.out 1, mZ BK148.out 2⟩ (fun hHeld => ?_)
                clear hK K
                refine norm_ (a' := ?_) ?_ ?_
                rotate_left
                ·show Act.put _ (some 41) _ = _
                 simp only [Act.put, zA, zB, zC, i64_w, i32_w]
                 rfl
                exact norm_ (by first | (simp only [putAll, Act.put, zA, zB, zC]; done) | (simp only [putAll, Act.put, zA, zB, zC]; rfl)) (hJ6_9_13_17 (_, _, _) _ ⟨hHeld, (by (with_reducible repeat (first | apply Kd.R_alloc | apply Kd.R_drewN | apply Kd.R_drew)); exact Kd.R_mono HO163.out (fun _ hk => ⟨hk.2, hk.1⟩)), (by (with_reducible repeat (first | apply Kd.R_alloc | apply Kd.R_drewN | apply Kd.R_drew)); exact Kd.R_mono HO169.out (fun _ hk => ⟨hk.2, hk.1.2⟩)), (mR HO_149002.out), (mK BK147.out), (mK BK148.out), (mI102_2 HI0.out NB0_147.out NB0_148.out), (mQ102_6 HK.out GW147.out GW148.out), (mH102_10 HB.out (IsS123.ge HI0.out) GE147.out GE148.out)⟩)
               ·skip
                refine box_step ?hg (N := 7) ?hd (cs := #[.int .i64 0, .int .i64 0, .slice none 0 0]) (t := 40) ?hr ?_; (case hd => rfl); (case hg => rfl); (case hr => first | (go_simp; done) | (go_simp; rfl))
                intro gb173 hg w28 hbox hb
                have n0_ := mS (Kd.R_below (mR HO_149002.out) hb)
                have n1_ := mS (Kd.R_below (mR HO163.out) hb)
                have n2_ := mB BK147 hb
                have n3_ := mB BK148 hb
                have n4_ := mS (IsS123.below (mI102_2 HI0.out NB0_147.out NB0_148.out) hb)
                have n5_ := mS (KeepBut.trans (mQ102_6 HK.out GW147.out GW148.out) (KeepBut.of_below hb g none) (.inl rfl))
                have n6_ := mS (below_step (mH102_10 HB.out (IsS123.ge HI0.out) GE147.out GE148.out) hb)
                have n7_ := mS (hbox)
                have n8_ := mS ((by rw [hg]; exact (keep_size (w := w) (g := g) (row := none) (mQ102_6 HK.out GW147.out GW148.out)) : w.heap.size ≤ gb173))
                have n9_ := mS ((Nat.le_trans HW0.out (by rw [hg]; exact (keep_size (w := w) (g := g) (row := none) (mQ102_6 HK.out GW147.out GW148.out)) : w.heap.size ≤ gb173) : w0.heap.size ≤ gb173))
                have n10_ := mNl hg BK147.out
                have n11_ := mNg hg BK147.out
                have n12_ := mNl hg BK148.out
                have n13_ := mNg hg BK148.out
                have n14_ := mS ((by rw [hg]; exact Nat.ne_of_lt (IsS123.lt (show IsS123 w0 _ g s0_0 t165 t166 from mI102_2 HI0.out NB0_147.out NB0_148.out)) : g ≠ gb173))
                have n15_ := mS ((by rw [hg]; exact Nat.ne_of_gt (IsS123.lt (show IsS123 w0 _ g s0_0 t165 t166 from mI102_2 HI0.out NB0_147.out NB0_148.out)) : gb173 ≠ g))
                clear HO_149002
                clear HO163
                clear BK147
                clear BK148
                clear HI0
                clear HK
                clear HB
                have HO_149002 := n0_
                have HO163 := n1_
                have BK147 := n2_
                have BK148 := n3_
                have HI0 := n4_
                have HK := n5_
                have HB := n6_
                have BK173 := n7_
                have GW173 := n8_
                have GE173 := n9_
                have NB147_173 := n10_
                have NB173_147 := n11_
                have NB148_173 := n12_
                have NB173_148 := n13_
                have NB0_173 := n14_
                have NB173_0 := n15_
                clear n0_ n1_ n2_ n3_ n4_ n5_ n6_ n7_ n8_ n9_ n10_ n11_ n12_ n13_ n14_ n15_
                clear hb hbox hg
                refine hK.out _ _ ⟨mZ BK148.out 0, mZ BK148.out 1, mZ BK148.out 2⟩ (fun hHeld => ?_)
                clear hK K
                refine norm_ (a' := ?_) ?_ ?_
                rotate_left
                ·show Act.put _ (some 7) _ = _
                 simp only [Act.put, zA, zB, zC, i64_w, i32_w]
                 rfl
                exact norm_ (by first | (simp only [putAll, Act.put, zA, zB, zC]; done) | (simp only [putAll, Act.put, zA, zB, zC]; rfl)) (hJ6_9_13_20 (_, _, gb173) _ ⟨hHeld, (mR HO163.out), (mR HO_149002.out), (mK BK147.out), (mK BK148.out), (mK BK173.out), GW173.out, GE173.out, NB0_173.out, NB173_0.out, NB147_173.out, NB173_147.out, NB148_173.out, NB173_148.out, (mI102_3 HI0.out NB0_147.out NB0_148.out NB0_173.out), (mQ102_7 HK.out GW147.out GW148.out GW173.out), (mH102_11 HB.out (IsS123.ge HI0.out) GE147.out GE148.out GE173.out)⟩)
             ·skip
              rintro ⟨v159, v162, gb173⟩ w28 ⟨hS_, h0_, h1_, h2_, h3_, h4_, h5_, h6_, h7_, h8_, h9_, h10_, h11_, h12_, h13_, h14_, h15_⟩
              have n0_ : Aside0 (Kd.R k46 46 w28 w.heap.size (fun k_ => some k_ ≠ (.slice Ao21 x149002_1.length co21 : Value).ownBlock) v162 y161) := ⟨h0_⟩
              have n1_ : Aside0 (Kd.R k46 46 w28 w.heap.size (fun k_ => some k_ ≠ (v162 : Value).ownBlock) (.slice Ao21 x149002_1.length co21) x149002_1) := ⟨h1_⟩
              have n2_ : Aside0 (w28.heap[gb147]? = some (.cells #[.int .i64 0, .int .i64 0, .slice none 0 0] 40 (0, 0))) := ⟨h2_⟩
              have n3_ : Aside0 (w28.heap[gb148]? = some (.cells #[.int .i64 x149000_1, .int .i64 x149001_1, .slice Ao21 x149002_1.length co21] 40 (0, 0))) := ⟨h3_⟩
              have n4_ : Aside0 (w28.heap[gb173]? = some (.cells #[.int .i64 0, .int .i64 0, .slice none 0 0] 40 (0, 0))) := ⟨h4_⟩
              have n5_ : Aside0 (w.heap.size ≤ gb173) := ⟨h5_⟩
              have n6_ : Aside0 (w0.heap.size ≤ gb173) := ⟨h6_⟩
              have n7_ : Aside0 (g ≠ gb173) := ⟨h7_⟩
              have n8_ : Aside0 (gb173 ≠ g) := ⟨h8_⟩
              have n9_ : Aside0 (gb147 ≠ gb173) := ⟨h9_⟩
              have n10_ : Aside0 (gb173 ≠ gb147) := ⟨h10_⟩
              have n11_ : Aside0 (gb148 ≠ gb173) := ⟨h11_⟩
              have n12_ : Aside0 (gb173 ≠ gb148) := ⟨h12_⟩
              have n13_ : Aside0 (IsS123 w0 w28 g s0_0 t165 t166) := ⟨h13_⟩
              have n14_ : Aside0 (KeepBut w w28 g none) := ⟨h14_⟩
              have n15_ : Aside0 (Below w0.heap.size w0 w28) := ⟨h15_⟩
              clear HO_149002
              clear BK147
              clear BK148
              clear HI0
              clear HK
              clear HB
              clear h0_ h1_ h2_ h3_ h4_ h5_ h6_ h7_ h8_ h9_ h10_ h11_ h12_ h13_ h14_ h15_
              have HO163 := n0_
              have HO_149002 := n1_
              have BK147 := n2_
              have BK148 := n3_
              have BK173 := n4_
              have GW173 := n5_
              have GE173 := n6_
              have NB0_173 := n7_
              have NB173_0 := n8_
              have NB147_173 := n9_
              have NB173_147 := n10_
              have NB148_173 := n11_
              have NB173_148 := n12_
              have HI0 := n13_
              have HK := n14_
              have HB := n15_
              clear n0_ n1_ n2_ n3_ n4_ n5_ n6_ n7_ n8_ n9_ n10_ n11_ n12_ n13_ n14_ n15_
              have hHeld : w28.cell? ⟨gb148, 0, none⟩ = some (.int .i64 x149000_1) ∧ w28.cell? ⟨gb148, 1, none⟩ = some (.int .i64 x149001_1) ∧ w28.cell? ⟨gb148, 2, none⟩ = some (.slice Ao21 x149002_1.length co21) := hS_
              refine norm_ (a' := ?_) ?_ ?_
              rotate_left
              ·simp only [putAll, Act.put, zA, zB, zC]
               rfl
              refine one_ (i := 17) (N := some 41) #[true, true, true, true, true, true, true, true, true, true, true, true, true, true, true, true, true, true, false, false, true, false] rfl rfl (one_of HT_.out (by kernel_rfl)) (by decide) (fun K hK => ?_)
              refine Kd.R_lit_step k46 _ 46 ?hg (N := 41) ?hd (xs := ([(⟨x149000_1, t164, x5_11, x6_11⟩ : S46)] : List (S46))) (inner := [.int .i64 x149000_1, .int .i64 t164, .string x5_11, .string x6_11]) (ok := fun _ => True) (okp := fun _ => True) ?hr ?hp (fun _ hk => hk) trivial (Below.refl _ _) (Nat.le_refl _) (by simp) ?_; (case hd => rfl); (case hg => rfl); (case hr => first | (go_simp; done) | (go_simp; rfl)); (case hp => exact (Reps.c4 (show Kd.M k46 _ _ _ (⟨x149000_1, t164, x5_11, x6_11⟩ : S46) [.int .i64 x149000_1, .int .i64 t164, .string x5_11, .string x6_11] from (k46_mkM _ _ _ (⟨x149000_1, t164, x5_11, x6_11⟩ : S46) )) (Reps.none _ _)))
              intro v168 w29 ho30 hb hg_ hnew_
              clear hg_ hnew_
              (first | rw [← Ny167.out] at ho30 | (simp only [Int.reduceToNat] at ho30; rw [← Ny167.out] at ho30))
              have n0_ := mS (Kd.R_elder' (mR HO_149002.out) (Kd.R_base ho30) hb)
              have n1_ := mS (Kd.R_elder' (mR HO163.out) (Kd.R_base ho30) hb)
              have n2_ := mS (Kd.R_lower (Kd.R_new' (Kd.R_new' ho30 (Kd.R_lt (mR HO_149002.out))) (Kd.R_lt (mR HO163.out))) (keep_size (w := w) (g := g) (row := none) (mQ102_7 HK.out GW147.out GW148.out GW173.out)))
              have n3_ := mB BK147 hb
              have n4_ := mB BK148 hb
              have n5_ := mS (IsS123.below (mI102_3 HI0.out NB0_147.out NB0_148.out NB0_173.out) hb)
              have n6_ := mB BK173 hb
              have n7_ := mS (KeepBut.trans (mQ102_7 HK.out GW147.out GW148.out GW173.out) (KeepBut.of_below hb g none) (.inl rfl))
              have n8_ := mS (below_step (mH102_11 HB.out (IsS123.ge HI0.out) GE147.out GE148.out GE173.out) hb)
              clear HO_149002
              clear HO163
              clear BK147
              clear BK148
              clear HI0
              clear BK173
              clear HK
              clear HB
              have HO_149002 := n0_
              have HO163 := n1_
              have HO169 := n2_
              have BK147 := n3_
              have BK148 := n4_
              have HI0 := n5_
              have BK173 := n6_
              have HK := n7_
              have HB := n8_
              clear n0_ n1_ n2_ n3_ n4_ n5_ n6_ n7_ n8_
              clear hb ho30
              refine hK.out _ _ ⟨mZ BK148.out 0, mZ BK148.out 1, mZ BK148.out 2⟩ (fun hHeld => ?_)
              clear hK K
              refine norm_ (a' := ?_) ?_ ?_
              rotate_left
              ·show Act.put _ (some 41) _ = _
               simp only [Act.put, zA, zB, zC, i64_w, i32_w]
               rfl
              exact norm_ (by first | (simp only [putAll, Act.put, zA, zB, zC]; done) | (simp only [putAll, Act.put, zA, zB, zC]; rfl)) (hJ6_9_13_17_20 (_, _, _, gb173) _ ⟨hHeld, (by (with_reducible repeat (first | apply Kd.R_alloc | apply Kd.R_drewN | apply Kd.R_drew)); exact Kd.R_mono HO163.out (fun _ hk => ⟨hk.2, hk.1⟩)), (by (with_reducible repeat (first | apply Kd.R_alloc | apply Kd.R_drewN | apply Kd.R_drew)); exact Kd.R_mono HO169.out (fun _ hk => ⟨hk.2, hk.1.2⟩)), (mR HO_149002.out), (mK BK147.out), (mK BK148.out), (mK BK173.out), GW173.out, GE173.out, NB0_173.out, NB173_0.out, NB147_173.out, NB173_147.out, NB148_173.out, NB173_148.out, (mI102_3 HI0.out NB0_147.out NB0_148.out NB0_173.out), (mQ102_7 HK.out GW147.out GW148.out GW173.out), (mH102_11 HB.out (IsS123.ge HI0.out) GE147.out GE148.out GE173.out)⟩)
            ·skip
             rintro ⟨v159, v162, v168⟩ w29 ⟨hS_, h0_, h1_, h2_, h3_, h4_, h5_, h6_, h7_⟩
             have n0_ : Aside0 (Kd.R k46 46 w29 w.heap.size (fun k_ => some k_ ≠ (v168 : Value).ownBlock ∧ some k_ ≠ (.slice Ao21 x149002_1.length co21 : Value).ownBlock) v162 y161) := ⟨h0_⟩
             have n1_ : Aside0 (Kd.R k46 46 w29 w.heap.size (fun k_ => some k_ ≠ (v162 : Value).ownBlock ∧ some k_ ≠ (.slice Ao21 x149002_1.length co21 : Value).ownBlock) v168 y167) := ⟨h1_⟩
             have n2_ : Aside0 (Kd.R k46 46 w29 w.heap.size (fun k_ => some k_ ≠ (v162 : Value).ownBlock ∧ some k_ ≠ (v168 : Value).ownBlock) (.slice Ao21 x149002_1.length co21) x149002_1) := ⟨h2_⟩
             have n3_ : Aside0 (w29.heap[gb147]? = some (.cells #[.int .i64 0, .int .i64 0, .slice none 0 0] 40 (0, 0))) := ⟨h3_⟩
             have n4_ : Aside0 (w29.heap[gb148]? = some (.cells #[.int .i64 x149000_1, .int .i64 x149001_1, .slice Ao21 x149002_1.length co21] 40 (0, 0))) := ⟨h4_⟩
             have n5_ : Aside0 (IsS123 w0 w29 g s0_0 t165 t166) := ⟨h5_⟩
             have n6_ : Aside0 (KeepBut w w29 g none) := ⟨h6_⟩
             have n7_ : Aside0 (Below w0.heap.size w0 w29) := ⟨h7_⟩
             clear HO_149002
             clear BK147
             clear BK148
             clear HI0
             clear HK
             clear HB
             clear h0_ h1_ h2_ h3_ h4_ h5_ h6_ h7_
             have HO163 := n0_
             have HO169 := n1_
             have HO_149002 := n2_
             have BK147 := n3_
             have BK148 := n4_
             have HI0 := n5_
             have HK := n6_
             have HB := n7_
             clear n0_ n1_ n2_ n3_ n4_ n5_ n6_ n7_
             have hHeld : w29.cell? ⟨gb148, 0, none⟩ = some (.int .i64 x149000_1) ∧ w29.cell? ⟨gb148, 1, none⟩ = some (.int .i64 x149001_1) ∧ w29.cell? ⟨gb148, 2, none⟩ = some (.slice Ao21 x149002_1.length co21) := hS_
             obtain ⟨Ao31, co31, eo31⟩ := Kd.R_slice HO169.out
             (first | subst eo31 | (injection eo31 with f1_ f2_ f3_; have f4_ := f1_.symm; have f5_ := f3_.symm; clear f1_ f2_ f3_; subst f4_; subst f5_))
             refine norm_ (a' := ?_) ?_ ?_
             rotate_left
             ·simp only [putAll, Act.put, zA, zB, zC]
              rfl
             refine two_ (i := 18) (j := 20) (Ni := some 42) (Nj := some 7) (mb 19 3) #[true, true, true, true, true, true, true, true, true, true, true, true, true, true, true, true, true, true, false, false, true, false] rfl rfl rfl rfl (two_of HT_.out (by kernel_rfl)) (by decide) (by decide) (fun K hK => ?_) (fun K hK => ?_)
             ·skip
              refine Kd.R_append_rows_step k46 w.heap.size (by rfl) (.tmp 33) (.tmp 41) 38 46 (.agg #[(.int .i64 0), (.int .i64 0), (.string ⟨#[]⟩), (.string ⟨#[]⟩)]) 48 rfl Try.underlying38 info46 rfl (by decide) (by omega) v162 y161 y167 _ _ _ (fun k_ => some k_ ≠ (.slice Ao21 x149002_1.length co21 : Value).ownBlock ∧ some k_ ≠ (.slice Ao31 y167.length co31 : Value).ownBlock) (fun _ => False) rfl rfl ?aO ?aR (fun _ _ h => h) (fun _ h => h.elim) ?aF (Below.refl _ _) ?aS ?aL ?_
              (case aR => repeat (first | exact (Kd.R_reads' HO169.out).2.2 | (with_reducible refine Kd.C_alloc ?_ _) | (with_reducible refine Kd.C_drewN ?_ _) | (with_reducible refine Kd.C_drew ?_)))
              (case aF => exact (fun k_ hk => ⟨Kd.fresh' (Kd.R_lt (mR HO_149002.out)) k_ hk, Kd.fresh' (Kd.R_lt (mR HO169.out)) k_ hk⟩))
              (case aO => exact (by (with_reducible repeat (first | apply Kd.R_alloc | apply Kd.R_drewN | apply Kd.R_drew)); exact Kd.R_mono HO163.out (fun _ hk => ⟨hk.2, hk.1⟩)))
              (case aS => exact (keep_size (w := w) (g := g) (row := none) (mQ102_6 HK.out GW147.out GW148.out)))
              (case aL => have := LMc18.out; omega)
              intro v171 w30 ho hb hg hat
              rw [← Ny170.out] at ho
              have n0_ := mS (Kd.R_after (ok := (fun k_ => some k_ ≠ (.slice Ao31 y167.length co31 : Value).ownBlock)) (by (with_reducible repeat (first | apply Kd.R_alloc | apply Kd.R_drewN | apply Kd.R_drew)); exact Kd.R_mono HO_149002.out (fun _ hk => ⟨hk.2, hk.1⟩)) hg hat)
              have n1_ := mS (blk_grown (g := gb147) (o := .cells #[.int .i64 0, .int .i64 0, .slice none 0 0] 40 (0, 0)) (mK BK147.out) hg (Kd.R_ne HO163.out BK147.out (by decide)))
              have n2_ := mS (blk_grown (g := gb148) (o := .cells #[.int .i64 x149000_1, .int .i64 x149001_1, .slice Ao21 x149002_1.length co21] 40 (0, 0)) (mK BK148.out) hg (Kd.R_ne HO163.out BK148.out (by decide)))
              have n3_ := mS (IsS123.grown (mI102_2 HI0.out NB0_147.out NB0_148.out) hg (IsS123.own_ne HI0.out HO163.out (by decide)))
              have n4_ := mS (Kd.R_after (ok := (fun k_ => some k_ ≠ (.slice Ao21 x149002_1.length co21 : Value).ownBlock)) (by (with_reducible repeat (first | apply Kd.R_alloc | apply Kd.R_drewN | apply Kd.R_drew)); exact Kd.R_mono HO169.out (fun _ hk => ⟨hk.2, hk.1⟩)) hg hat)
              have n5_ := mS (below_weaken (mH102_10 HB.out (IsS123.ge HI0.out) GE147.out GE148.out) HL.out hb)
              have n6_ := mS (KeepBut.trans (mQ102_6 HK.out GW147.out GW148.out) (KeepBut.of_grown hg g) (Kd.R_base2 HO163.out))
              have n7_ := mS (ho)
              clear HO_149002
              clear BK147
              clear BK148
              clear HI0
              clear HO169
              clear HB
              clear HK
              clear HO163
              have HO_149002 := n0_
              have BK147 := n1_
              have BK148 := n2_
              have HI0 := n3_
              have HO169 := n4_
              have HB := n5_
              have HK := n6_
              have HO172 := n7_
              clear n0_ n1_ n2_ n3_ n4_ n5_ n6_ n7_
              clear ho hb hg hat
              obtain ⟨Ao32, co32, eo32⟩ := Kd.R_slice HO172.out
              (first | subst eo32 | (injection eo32 with f1_ f2_ f3_; have f4_ := f1_.symm; have f5_ := f3_.symm; clear f1_ f2_ f3_; subst f4_; subst f5_))
              refine hK.out _ _ ⟨mZ BK148.out 0, mZ BK148.out 1, mZ BK148.out 2⟩ (fun hHeld => ?_)
              clear hK K
              refine norm_ (a' := ?_) ?_ ?_
              rotate_left
              ·show Act.put _ (some 42) _ = _
               simp only [Act.put, zA, zB, zC, i64_w, i32_w]
               rfl
              refine pure_ (i := 19) (N := some 43) (v := ?_) (a' := ?_) (mb 20 2) rfl rfl (any_of HT_.out (by kernel_rfl)) (fun _ _ _ h => h) (Or.inl ⟨by rfl, ?_⟩) ?_ ?_
              rotate_left
              ·intro w'
               go_simp
               with_reducible rfl
              rotate_left
              ·simp only [Act.put, zA, zB, zC, i64_w, i32_w]
               rfl
              exact norm_ (by first | (simp only [putAll, Act.put, zA, zB, zC]; done) | (simp only [putAll, Act.put, zA, zB, zC]; rfl)) (hJ6_9_13_17_18 (_, _, .slice Ao31 y167.length co31, .slice Ao32 y170.length co32) _ ⟨hHeld, (by (with_reducible repeat (first | apply Kd.R_alloc | apply Kd.R_drewN | apply Kd.R_drew)); exact Kd.R_mono HO169.out (fun _ hk => ⟨hk.2, hk.1⟩)), (by (with_reducible repeat (first | apply Kd.R_alloc | apply Kd.R_drewN | apply Kd.R_drew)); exact Kd.R_mono HO172.out (fun _ hk => ⟨hk.2, hk.1⟩)), (mR HO_149002.out), (mK BK147.out), (mK BK148.out), (mI102_2 HI0.out NB0_147.out NB0_148.out), (mQ102_6 HK.out GW147.out GW148.out), (mH102_10 HB.out (IsS123.ge HI0.out) GE147.out GE148.out)⟩)
             ·skip
              refine box_step ?hg (N := 7) ?hd (cs := #[.int .i64 0, .int .i64 0, .slice none 0 0]) (t := 40) ?hr ?_; (case hd => rfl); (case hg => rfl); (case hr => first | (go_simp; done) | (go_simp; rfl))
              intro gb173 hg w30 hbox hb
              have n0_ := mS (Kd.R_below (mR HO_149002.out) hb)
              have n1_ := mS (Kd.R_below (mR HO163.out) hb)
              have n2_ := mS (Kd.R_below (mR HO169.out) hb)
              have n3_ := mB BK147 hb
              have n4_ := mB BK148 hb
              have n5_ := mS (IsS123.below (mI102_2 HI0.out NB0_147.out NB0_148.out) hb)
              have n6_ := mS (KeepBut.trans (mQ102_6 HK.out GW147.out GW148.out) (KeepBut.of_below hb g none) (.inl rfl))
              have n7_ := mS (below_step (mH102_10 HB.out (IsS123.ge HI0.out) GE147.out GE148.out) hb)
              have n8_ := mS (hbox)
              have n9_ := mS ((by rw [hg]; exact (keep_size (w := w) (g := g) (row := none) (mQ102_6 HK.out GW147.out GW148.out)) : w.heap.size ≤ gb173))
              have n10_ := mS ((Nat.le_trans HW0.out (by rw [hg]; exact (keep_size (w := w) (g := g) (row := none) (mQ102_6 HK.out GW147.out GW148.out)) : w.heap.size ≤ gb173) : w0.heap.size ≤ gb173))
              have n11_ := mNl hg BK147.out
              have n12_ := mNg hg BK147.out
              have n13_ := mNl hg BK148.out
              have n14_ := mNg hg BK148.out
              have n15_ := mS ((by rw [hg]; exact Nat.ne_of_lt (IsS123.lt (show IsS123 w0 _ g s0_0 t165 t166 from mI102_2 HI0.out NB0_147.out NB0_148.out)) : g ≠ gb173))
              have n16_ := mS ((by rw [hg]; exact Nat.ne_of_gt (IsS123.lt (show IsS123 w0 _ g s0_0 t165 t166 from mI102_2 HI0.out NB0_147.out NB0_148.out)) : gb173 ≠ g))
              clear HO_149002
              clear HO163
              clear HO169
              clear BK147
              clear BK148
              clear HI0
              clear HK
              clear HB
              have HO_149002 := n0_
              have HO163 := n1_
              have HO169 := n2_
              have BK147 := n3_
              have BK148 := n4_
              have HI0 := n5_
              have HK := n6_
              have HB := n7_
              have BK173 := n8_
              have GW173 := n9_
              have GE173 := n10_
              have NB147_173 := n11_
              have NB173_147 := n12_
              have NB148_173 := n13_
              have NB173_148 := n14_
              have NB0_173 := n15_
              have NB173_0 := n16_
              clear n0_ n1_ n2_ n3_ n4_ n5_ n6_ n7_ n8_ n9_ n10_ n11_ n12_ n13_ n14_ n15_ n16_
              clear hb hbox hg
              refine hK.out _ _ ⟨mZ BK148.out 0, mZ BK148.out 1, mZ BK148.out 2⟩ (fun hHeld => ?_)
              clear hK K
              refine norm_ (a' := ?_) ?_ ?_
              rotate_left
              ·show Act.put _ (some 7) _ = _
               simp only [Act.put, zA, zB, zC, i64_w, i32_w]
               rfl
              exact norm_ (by first | (simp only [putAll, Act.put, zA, zB, zC]; done) | (simp only [putAll, Act.put, zA, zB, zC]; rfl)) (hJ6_9_13_17_20 (_, _, _, gb173) _ ⟨hHeld, (mR HO163.out), (mR HO169.out), (mR HO_149002.out), (mK BK147.out), (mK BK148.out), (mK BK173.out), GW173.out, GE173.out, NB0_173.out, NB173_0.out, NB147_173.out, NB173_147.out, NB148_173.out, NB173_148.out, (mI102_3 HI0.out NB0_147.out NB0_148.out NB0_173.out), (mQ102_7 HK.out GW147.out GW148.out GW173.out), (mH102_11 HB.out (IsS123.ge HI0.out) GE147.out GE148.out GE173.out)⟩)
           ·skip
            rintro ⟨v159, v162, v168, gb173⟩ w30 ⟨hS_, h0_, h1_, h2_, h3_, h4_, h5_, h6_, h7_, h8_, h9_, h10_, h11_, h12_, h13_, h14_, h15_, h16_⟩
            have n0_ : Aside0 (Kd.R k46 46 w30 w.heap.size (fun k_ => some k_ ≠ (v168 : Value).ownBlock ∧ some k_ ≠ (.slice Ao21 x149002_1.length co21 : Value).ownBlock) v162 y161) := ⟨h0_⟩
            have n1_ : Aside0 (Kd.R k46 46 w30 w.heap.size (fun k_ => some k_ ≠ (v162 : Value).ownBlock ∧ some k_ ≠ (.slice Ao21 x149002_1.length co21 : Value).ownBlock) v168 y167) := ⟨h1_⟩
            have n2_ : Aside0 (Kd.R k46 46 w30 w.heap.size (fun k_ => some k_ ≠ (v162 : Value).ownBlock ∧ some k_ ≠ (v168 : Value).ownBlock) (.slice Ao21 x149002_1.length co21) x149002_1) := ⟨h2_⟩
            have n3_ : Aside0 (w30.heap[gb147]? = some (.cells #[.int .i64 0, .int .i64 0, .slice none 0 0] 40 (0, 0))) := ⟨h3_⟩
            have n4_ : Aside0 (w30.heap[gb148]? = some (.cells #[.int .i64 x149000_1, .int .i64 x149001_1, .slice Ao21 x149002_1.length co21] 40 (0, 0))) := ⟨h4_⟩
            have n5_ : Aside0 (w30.heap[gb173]? = some (.cells #[.int .i64 0, .int .i64 0, .slice none 0 0] 40 (0, 0))) := ⟨h5_⟩
            have n6_ : Aside0 (w.heap.size ≤ gb173) := ⟨h6_⟩
            have n7_ : Aside0 (w0.heap.size ≤ gb173) := ⟨h7_⟩
            have n8_ : Aside0 (g ≠ gb173) := ⟨h8_⟩
            have n9_ : Aside0 (gb173 ≠ g) := ⟨h9_⟩
            have n10_ : Aside0 (gb147 ≠ gb173) := ⟨h10_⟩
            have n11_ : Aside0 (gb173 ≠ gb147) := ⟨h11_⟩
            have n12_ : Aside0 (gb148 ≠ gb173) := ⟨h12_⟩
            have n13_ : Aside0 (gb173 ≠ gb148) := ⟨h13_⟩
            have n14_ : Aside0 (IsS123 w0 w30 g s0_0 t165 t166) := ⟨h14_⟩
            have n15_ : Aside0 (KeepBut w w30 g none) := ⟨h15_⟩
            have n16_ : Aside0 (Below w0.heap.size w0 w30) := ⟨h16_⟩
            clear HO_149002
            clear BK147
            clear BK148
            clear HI0
            clear HK
            clear HB
            clear h0_ h1_ h2_ h3_ h4_ h5_ h6_ h7_ h8_ h9_ h10_ h11_ h12_ h13_ h14_ h15_ h16_
            have HO163 := n0_
            have HO169 := n1_
            have HO_149002 := n2_
            have BK147 := n3_
            have BK148 := n4_
            have BK173 := n5_
            have GW173 := n6_
            have GE173 := n7_
            have NB0_173 := n8_
            have NB173_0 := n9_
            have NB147_173 := n10_
            have NB173_147 := n11_
            have NB148_173 := n12_
            have NB173_148 := n13_
            have HI0 := n14_
            have HK := n15_
            have HB := n16_
            clear n0_ n1_ n2_ n3_ n4_ n5_ n6_ n7_ n8_ n9_ n10_ n11_ n12_ n13_ n14_ n15_ n16_
            have hHeld : w30.cell? ⟨gb148, 0, none⟩ = some (.int .i64 x149000_1) ∧ w30.cell? ⟨gb148, 1, none⟩ = some (.int .i64 x149001_1) ∧ w30.cell? ⟨gb148, 2, none⟩ = some (.slice Ao21 x149002_1.length co21) := hS_
            obtain ⟨Ao32, co32, eo32⟩ := Kd.R_slice HO169.out
            (first | subst eo32 | (injection eo32 with f1_ f2_ f3_; have f4_ := f1_.symm; have f5_ := f3_.symm; clear f1_ f2_ f3_; subst f4_; subst f5_))
            refine norm_ (a' := ?_) ?_ ?_
            rotate_left
            ·simp only [putAll, Act.put, zA, zB, zC]
             rfl
            refine one_ (i := 18) (N := some 42) #[true, true, true, true, true, true, true, true, true, true, true, true, true, true, true, true, true, true, true, false, true, false] rfl rfl (one_of HT_.out (by kernel_rfl)) (by decide) (fun K hK => ?_)
            refine Kd.R_append_rows_step k46 w.heap.size (by rfl) (.tmp 33) (.tmp 41) 38 46 (.agg #[(.int .i64 0), (.int .i64 0), (.string ⟨#[]⟩), (.string ⟨#[]⟩)]) 48 rfl Try.underlying38 info46 rfl (by decide) (by omega) v162 y161 y167 _ _ _ (fun k_ => some k_ ≠ (.slice Ao21 x149002_1.length co21 : Value).ownBlock ∧ some k_ ≠ (.slice Ao32 y167.length co32 : Value).ownBlock) (fun _ => False) rfl rfl ?aO ?aR (fun _ _ h => h) (fun _ h => h.elim) ?aF (Below.refl _ _) ?aS ?aL ?_
            (case aR => repeat (first | exact (Kd.R_reads' HO169.out).2.2 | (with_reducible refine Kd.C_alloc ?_ _) | (with_reducible refine Kd.C_drewN ?_ _) | (with_reducible refine Kd.C_drew ?_)))
            (case aF => exact (fun k_ hk => ⟨Kd.fresh' (Kd.R_lt (mR HO_149002.out)) k_ hk, Kd.fresh' (Kd.R_lt (mR HO169.out)) k_ hk⟩))
            (case aO => exact (by (with_reducible repeat (first | apply Kd.R_alloc | apply Kd.R_drewN | apply Kd.R_drew)); exact Kd.R_mono HO163.out (fun _ hk => ⟨hk.2, hk.1⟩)))
            (case aS => exact (keep_size (w := w) (g := g) (row := none) (mQ102_7 HK.out GW147.out GW148.out GW173.out)))
            (case aL => have := LMc18.out; omega)
            intro v171 w31 ho hb hg hat
            rw [← Ny170.out] at ho
            have n0_ := mS (Kd.R_after (ok := (fun k_ => some k_ ≠ (.slice Ao32 y167.length co32 : Value).ownBlock)) (by (with_reducible repeat (first | apply Kd.R_alloc | apply Kd.R_drewN | apply Kd.R_drew)); exact Kd.R_mono HO_149002.out (fun _ hk => ⟨hk.2, hk.1⟩)) hg hat)
            have n1_ := mS (blk_grown (g := gb147) (o := .cells #[.int .i64 0, .int .i64 0, .slice none 0 0] 40 (0, 0)) (mK BK147.out) hg (Kd.R_ne HO163.out BK147.out (by decide)))
            have n2_ := mS (blk_grown (g := gb148) (o := .cells #[.int .i64 x149000_1, .int .i64 x149001_1, .slice Ao21 x149002_1.length co21] 40 (0, 0)) (mK BK148.out) hg (Kd.R_ne HO163.out BK148.out (by decide)))
            have n3_ := mS (IsS123.grown (mI102_3 HI0.out NB0_147.out NB0_148.out NB0_173.out) hg (IsS123.own_ne HI0.out HO163.out (by decide)))
            have n4_ := mS (Kd.R_after (ok := (fun k_ => some k_ ≠ (.slice Ao21 x149002_1.length co21 : Value).ownBlock)) (by (with_reducible repeat (first | apply Kd.R_alloc | apply Kd.R_drewN | apply Kd.R_drew)); exact Kd.R_mono HO169.out (fun _ hk => ⟨hk.2, hk.1⟩)) hg hat)
            have n5_ := mS (blk_grown (g := gb173) (o := .cells #[.int .i64 0, .int .i64 0, .slice none 0 0] 40 (0, 0)) (mK BK173.out) hg (Kd.R_ne HO163.out BK173.out (by decide)))
            have n6_ := mS (below_weaken (mH102_11 HB.out (IsS123.ge HI0.out) GE147.out GE148.out GE173.out) HL.out hb)
            have n7_ := mS (KeepBut.trans (mQ102_7 HK.out GW147.out GW148.out GW173.out) (KeepBut.of_grown hg g) (Kd.R_base2 HO163.out))
            have n8_ := mS (ho)
            clear HO_149002
            clear BK147
            clear BK148
            clear HI0
            clear HO169
            clear BK173
            clear HB
            clear HK
            clear HO163
            have HO_149002 := n0_
            have BK147 := n1_
            have BK148 := n2_
            have HI0 := n3_
            have HO169 := n4_
            have BK173 := n5_
            have HB := n6_
            have HK := n7_
            have HO172 := n8_
            clear n0_ n1_ n2_ n3_ n4_ n5_ n6_ n7_ n8_
            clear ho hb hg hat
            obtain ⟨Ao33, co33, eo33⟩ := Kd.R_slice HO172.out
            (first | subst eo33 | (injection eo33 with f1_ f2_ f3_; have f4_ := f1_.symm; have f5_ := f3_.symm; clear f1_ f2_ f3_; subst f4_; subst f5_))
            refine hK.out _ _ ⟨mZ BK148.out 0, mZ BK148.out 1, mZ BK148.out 2⟩ (fun hHeld => ?_)
            clear hK K
            refine norm_ (a' := ?_) ?_ ?_
            rotate_left
            ·show Act.put _ (some 42) _ = _
             simp only [Act.put, zA, zB, zC, i64_w, i32_w]
             rfl
            refine pure_ (i := 19) (N := some 43) (v := ?_) (a' := ?_) (mb 21 1) rfl rfl (any_of HT_.out (by kernel_rfl)) (fun _ _ _ h => h) (Or.inl ⟨by rfl, ?_⟩) ?_ ?_
            rotate_left
            ·intro w'
             go_simp
             with_reducible rfl
            rotate_left
            ·simp only [Act.put, zA, zB, zC, i64_w, i32_w]
             rfl
            exact norm_ (by first | (simp only [putAll, Act.put, zA, zB, zC]; done) | (simp only [putAll, Act.put, zA, zB, zC]; rfl)) (hJ6_9_13_17_18_20 (_, _, .slice Ao32 y167.length co32, .slice Ao33 y170.length co33, gb173) _ ⟨hHeld, (by (with_reducible repeat (first | apply Kd.R_alloc | apply Kd.R_drewN | apply Kd.R_drew)); exact Kd.R_mono HO169.out (fun _ hk => ⟨hk.2, hk.1⟩)), (by (with_reducible repeat (first | apply Kd.R_alloc | apply Kd.R_drewN | apply Kd.R_drew)); exact Kd.R_mono HO172.out (fun _ hk => ⟨hk.2, hk.1⟩)), (mR HO_149002.out), (mK BK147.out), (mK BK148.out), (mK BK173.out), GW173.out, GE173.out, NB0_173.out, NB173_0.out, NB147_173.out, NB173_147.out, NB148_173.out, NB173_148.out, (mI102_3 HI0.out NB0_147.out NB0_148.out NB0_173.out), (mQ102_7 HK.out GW147.out GW148.out GW173.out), (mH102_11 HB.out (IsS123.ge HI0.out) GE147.out GE148.out GE173.out)⟩)
          ·skip
           rintro ⟨v159, v162, v168, v171⟩ w32 ⟨hS_, h0_, h1_, h2_, h3_, h4_, h5_, h6_, h7_⟩
           have n0_ : Aside0 (Kd.R k46 46 w32 w.heap.size (fun k_ => some k_ ≠ (v171 : Value).ownBlock ∧ some k_ ≠ (.slice Ao21 x149002_1.length co21 : Value).ownBlock) v168 y167) := ⟨h0_⟩
           have n1_ : Aside0 (Kd.R k46 46 w32 w.heap.size (fun k_ => some k_ ≠ (v168 : Value).ownBlock ∧ some k_ ≠ (.slice Ao21 x149002_1.length co21 : Value).ownBlock) v171 y170) := ⟨h1_⟩
           have n2_ : Aside0 (Kd.R k46 46 w32 w.heap.size (fun k_ => some k_ ≠ (v168 : Value).ownBlock ∧ some k_ ≠ (v171 : Value).ownBlock) (.slice Ao21 x149002_1.length co21) x149002_1) := ⟨h2_⟩
           have n3_ : Aside0 (w32.heap[gb147]? = some (.cells #[.int .i64 0, .int .i64 0, .slice none 0 0] 40 (0, 0))) := ⟨h3_⟩
           have n4_ : Aside0 (w32.heap[gb148]? = some (.cells #[.int .i64 x149000_1, .int .i64 x149001_1, .slice Ao21 x149002_1.length co21] 40 (0, 0))) := ⟨h4_⟩
           have n5_ : Aside0 (IsS123 w0 w32 g s0_0 t165 t166) := ⟨h5_⟩
           have n6_ : Aside0 (KeepBut w w32 g none) := ⟨h6_⟩
           have n7_ : Aside0 (Below w0.heap.size w0 w32) := ⟨h7_⟩
           clear HO_149002
           clear BK147
           clear BK148
           clear HI0
           clear HK
           clear HB
           clear h0_ h1_ h2_ h3_ h4_ h5_ h6_ h7_
           have HO169 := n0_
           have HO172 := n1_
           have HO_149002 := n2_
           have BK147 := n3_
           have BK148 := n4_
           have HI0 := n5_
           have HK := n6_
           have HB := n7_
           clear n0_ n1_ n2_ n3_ n4_ n5_ n6_ n7_
           have hHeld : w32.cell? ⟨gb148, 0, none⟩ = some (.int .i64 x149000_1) ∧ w32.cell? ⟨gb148, 1, none⟩ = some (.int .i64 x149001_1) ∧ w32.cell? ⟨gb148, 2, none⟩ = some (.slice Ao21 x149002_1.length co21) := hS_
           obtain ⟨Ao33, co33, eo33⟩ := Kd.R_slice HO172.out
           (first | subst eo33 | (injection eo33 with f1_ f2_ f3_; have f4_ := f1_.symm; have f5_ := f3_.symm; clear f1_ f2_ f3_; subst f4_; subst f5_))
           refine norm_ (a' := ?_) ?_ ?_
           rotate_left
           ·simp only [putAll, Act.put, zA, zB, zC]
            rfl
           refine one_ (i := 20) (N := some 7) (mb 21 1) rfl rfl (one_of HT_.out (by kernel_rfl)) (by decide) (fun K hK => ?_)
           refine box_step ?hg (N := 7) ?hd (cs := #[.int .i64 0, .int .i64 0, .slice none 0 0]) (t := 40) ?hr ?_; (case hd => rfl); (case hg => rfl); (case hr => first | (go_simp; done) | (go_simp; rfl))
           intro gb173 hg w34 hbox hb
           have n0_ := mS (Kd.R_below (mR HO_149002.out) hb)
           have n1_ := mS (Kd.R_below (mR HO169.out) hb)
           have n2_ := mS (Kd.R_below (mR HO172.out) hb)
           have n3_ := mB BK147 hb
           have n4_ := mB BK148 hb
           have n5_ := mS (IsS123.below (mI102_2 HI0.out NB0_147.out NB0_148.out) hb)
           have n6_ := mS (KeepBut.trans (mQ102_6 HK.out GW147.out GW148.out) (KeepBut.of_below hb g none) (.inl rfl))
           have n7_ := mS (below_step (mH102_10 HB.out (IsS123.ge HI0.out) GE147.out GE148.out) hb)
           have n8_ := mS (hbox)
           have n9_ := mS ((by rw [hg]; exact (keep_size (w := w) (g := g) (row := none) (mQ102_6 HK.out GW147.out GW148.out)) : w.heap.size ≤ gb173))
           have n10_ := mS ((Nat.le_trans HW0.out (by rw [hg]; exact (keep_size (w := w) (g := g) (row := none) (mQ102_6 HK.out GW147.out GW148.out)) : w.heap.size ≤ gb173) : w0.heap.size ≤ gb173))
           have n11_ := mNl hg BK147.out
           have n12_ := mNg hg BK147.out
           have n13_ := mNl hg BK148.out
           have n14_ := mNg hg BK148.out
           have n15_ := mS ((by rw [hg]; exact Nat.ne_of_lt (IsS123.lt (show IsS123 w0 _ g s0_0 t165 t166 from mI102_2 HI0.out NB0_147.out NB0_148.out)) : g ≠ gb173))
           have n16_ := mS ((by rw [hg]; exact Nat.ne_of_gt (IsS123.lt (show IsS123 w0 _ g s0_0 t165 t166 from mI102_2 HI0.out NB0_147.out NB0_148.out)) : gb173 ≠ g))
           clear HO_149002
           clear HO169
           clear HO172
           clear BK147
           clear BK148
           clear HI0
           clear HK
           clear HB
           have HO_149002 := n0_
           have HO169 := n1_
           have HO172 := n2_
           have BK147 := n3_
           have BK148 := n4_
           have HI0 := n5_
           have HK := n6_
           have HB := n7_
           have BK173 := n8_
           have GW173 := n9_
           have GE173 := n10_
           have NB147_173 := n11_
           have NB173_147 := n12_
           have NB148_173 := n13_
           have NB173_148 := n14_
           have NB0_173 := n15_
           have NB173_0 := n16_
           clear n0_ n1_ n2_ n3_ n4_ n5_ n6_ n7_ n8_ n9_ n10_ n11_ n12_ n13_ n14_ n15_ n16_
           clear hb hbox hg
           refine hK.out _ _ ⟨mZ BK148.out 0, mZ BK148.out 1, mZ BK148.out 2⟩ (fun hHeld => ?_)
           clear hK K
           refine norm_ (a' := ?_) ?_ ?_
           rotate_left
           ·show Act.put _ (some 7) _ = _
            simp only [Act.put, zA, zB, zC, i64_w, i32_w]
            rfl
           exact norm_ (by first | (simp only [putAll, Act.put, zA, zB, zC]; done) | (simp only [putAll, Act.put, zA, zB, zC]; rfl)) (hJ6_9_13_17_18_20 (_, _, _, .slice Ao33 y170.length co33, gb173) _ ⟨hHeld, (mR HO169.out), (mR HO172.out), (mR HO_149002.out), (mK BK147.out), (mK BK148.out), (mK BK173.out), GW173.out, GE173.out, NB0_173.out, NB173_0.out, NB147_173.out, NB173_147.out, NB148_173.out, NB173_148.out, (mI102_3 HI0.out NB0_147.out NB0_148.out NB0_173.out), (mQ102_7 HK.out GW147.out GW148.out GW173.out), (mH102_11 HB.out (IsS123.ge HI0.out) GE147.out GE148.out GE173.out)⟩)
         rintro ⟨v159, v162, v168, v171, gb173⟩ w33 ⟨hS_, h0_, h1_, h2_, h3_, h4_, h5_, h6_, h7_, h8_, h9_, h10_, h11_, h12_, h13_, h14_, h15_, h16_⟩
         have n0_ : Aside0 (Kd.R k46 46 w33 w.heap.size (fun k_ => some k_ ≠ (v171 : Value).ownBlock ∧ some k_ ≠ (.slice Ao21 x149002_1.length co21 : Value).ownBlock) v168 y167) := ⟨h0_⟩
         have n1_ : Aside0 (Kd.R k46 46 w33 w.heap.size (fun k_ => some k_ ≠ (v168 : Value).ownBlock ∧ some k_ ≠ (.slice Ao21 x149002_1.length co21 : Value).ownBlock) v171 y170) := ⟨h1_⟩
         have n2_ : Aside0 (Kd.R k46 46 w33 w.heap.size (fun k_ => some k_ ≠ (v168 : Value).ownBlock ∧ some k_ ≠ (v171 : Value).ownBlock) (.slice Ao21 x149002_1.length co21) x149002_1) := ⟨h2_⟩
         have n3_ : Aside0 (w33.heap[gb147]? = some (.cells #[.int .i64 0, .int .i64 0, .slice none 0 0] 40 (0, 0))) := ⟨h3_⟩
         have n4_ : Aside0 (w33.heap[gb148]? = some (.cells #[.int .i64 x149000_1, .int .i64 x149001_1, .slice Ao21 x149002_1.length co21] 40 (0, 0))) := ⟨h4_⟩
         have n5_ : Aside0 (w33.heap[gb173]? = some (.cells #[.int .i64 0, .int .i64 0, .slice none 0 0] 40 (0, 0))) := ⟨h5_⟩
         have n6_ : Aside0 (w.heap.size ≤ gb173) := ⟨h6_⟩
         have n7_ : Aside0 (w0.heap.size ≤ gb173) := ⟨h7_⟩
         have n8_ : Aside0 (g ≠ gb173) := ⟨h8_⟩
         have n9_ : Aside0 (gb173 ≠ g) := ⟨h9_⟩
         have n10_ : Aside0 (gb147 ≠ gb173) := ⟨h10_⟩
         have n11_ : Aside0 (gb173 ≠ gb147) := ⟨h11_⟩
         have n12_ : Aside0 (gb148 ≠ gb173) := ⟨h12_⟩
         have n13_ : Aside0 (gb173 ≠ gb148) := ⟨h13_⟩
         have n14_ : Aside0 (IsS123 w0 w33 g s0_0 t165 t166) := ⟨h14_⟩
         have n15_ : Aside0 (KeepBut w w33 g none) := ⟨h15_⟩
         have n16_ : Aside0 (Below w0.heap.size w0 w33) := ⟨h16_⟩
         clear HO_149002
         clear BK147
         clear BK148
         clear HI0
         clear HK
         clear HB
         clear h0_ h1_ h2_ h3_ h4_ h5_ h6_ h7_ h8_ h9_ h10_ h11_ h12_ h13_ h14_ h15_ h16_
         have HO169 := n0_
         have HO172 := n1_
         have HO_149002 := n2_
         have BK147 := n3_
         have BK148 := n4_
         have BK173 := n5_
         have GW173 := n6_
         have GE173 := n7_
         have NB0_173 := n8_
         have NB173_0 := n9_
         have NB147_173 := n10_
         have NB173_147 := n11_
         have NB148_173 := n12_
         have NB173_148 := n13_
         have HI0 := n14_
         have HK := n15_
         have HB := n16_
         clear n0_ n1_ n2_ n3_ n4_ n5_ n6_ n7_ n8_ n9_ n10_ n11_ n12_ n13_ n14_ n15_ n16_
         have hHeld : w33.cell? ⟨gb148, 0, none⟩ = some (.int .i64 x149000_1) ∧ w33.cell? ⟨gb148, 1, none⟩ = some (.int .i64 x149001_1) ∧ w33.cell? ⟨gb148, 2, none⟩ = some (.slice Ao21 x149002_1.length co21) := hS_
         obtain ⟨Ao34, co34, eo34⟩ := Kd.R_slice HO172.out
         (first | subst eo34 | (injection eo34 with f1_ f2_ f3_; have f4_ := f1_.symm; have f5_ := f3_.symm; clear f1_ f2_ f3_; subst f4_; subst f5_))
         refine norm_ (a' := ?_) ?_ ?_
         rotate_left
         ·simp only [putAll, Act.put, zA, zB, zC]
          rfl
         refine one_ (i := 21) (N := none) (mb 22 0) rfl rfl (one_of HT_.out (by kernel_rfl)) (by decide) (fun K hK => ?_)
         have hs35 : w33.cell? ⟨gb173, 0, none⟩ = some (.int .i64 0) := mZ BK173.out 0
         have hfs35 := blk_frozen BK173.out 0
         have hns35_0 := NB147_173.out
         have hns35_1 := NB148_173.out
         have hms35_0 := NB173_147.out
         have hms35_1 := NB173_148.out
         have hs36 : w33.cell? ⟨gb173, 1, none⟩ = some (.int .i64 0) := mZ BK173.out 1
         have hfs36 := blk_frozen BK173.out 1
         have hns36_0 := NB147_173.out
         have hns36_1 := NB148_173.out
         have hms36_0 := NB173_147.out
         have hms36_1 := NB173_148.out
         have hs37 : w33.cell? ⟨gb173, 2, none⟩ = some (.slice none 0 0) := mZ BK173.out 2
         have hfs37 := blk_frozen BK173.out 2
         have hns37_0 := NB147_173.out
         have hns37_1 := NB148_173.out
         have hms37_0 := NB173_147.out
         have hms37_1 := NB173_148.out
         refine skip_ (w1 := ?_) (by rfl) rfl ?_ ?_
         rotate_left
         ·go_simp
          rfl
         refine hK.out _ _ ⟨((cell_far (p := ⟨gb173, _, none⟩) NB148_173.out _).trans (((cell_far (p := ⟨gb173, _, none⟩) NB148_173.out _).trans (((cell_far (p := ⟨gb173, _, none⟩) NB148_173.out _).trans (hHeld.1)))))), ((cell_far (p := ⟨gb173, _, none⟩) NB148_173.out _).trans (((cell_far (p := ⟨gb173, _, none⟩) NB148_173.out _).trans (((cell_far (p := ⟨gb173, _, none⟩) NB148_173.out _).trans (hHeld.2.1)))))), ((cell_far (p := ⟨gb173, _, none⟩) NB148_173.out _).trans (((cell_far (p := ⟨gb173, _, none⟩) NB148_173.out _).trans (((cell_far (p := ⟨gb173, _, none⟩) NB148_173.out _).trans (hHeld.2.2))))))⟩ (fun hHeld => ?_)
         clear hK K
         refine done_ (done_of HT_.out (by kernel_rfl)) ?_
         have hnb38 := NB173_147.out
         have hnc38 := NB147_173.out
         have hnb39 := NB173_148.out
         have hnc39 := NB148_173.out
         have hnb40 := NB173_0.out
         have hnc40 := NB0_173.out
         have hcz41_0 := mZ BK173.out 0
         have hcz41_1 := mZ BK173.out 1
         have hcz41_2 := mZ BK173.out 2
         have hfz41_0 := blk_frozen BK173.out 0
         have hfz41_1 := blk_frozen BK173.out 1
         have hfz41_2 := blk_frozen BK173.out 2
         try go_wp2_with (first | ((with_reducible refine gate_callee (f := 55) rfl ?_); refine goesL_ (some 45) rfl rfl Try.func55 (by kernel_rfl) rfl #[.agg #[.int .i64 (wrap64 (x149000_1 + 2)), .int .i64 (wrap64 (x149000_1 + 1)), .slice Ao34 y170.length co34]] rfl mA ?_; (with_reducible refine (spec_ManOk.calls kj11 (wrap64 (x149000_1 + 2)) (wrap64 (x149000_1 + 1)) _ _ y170 true _ ?side1 ?side2 A19.out).mono ?_); (case side1 => refine (Kd.R_reads' (e := 46) (base := w.heap.size) (ok := fun k_ => (some k_ ≠ (v168 : Value).ownBlock ∧ some k_ ≠ (.slice Ao21 x149002_1.length co21 : Value).ownBlock)) (n := y170.length) (c := co34) ?_).2.2; exact (by (with_reducible repeat (first | apply Kd.R_alloc | apply Kd.R_drewN | apply Kd.R_drew)); exact (Kd.R_mono (Kd.R_far (p := ⟨gb173, 2, none⟩) (Kd.R_far (p := ⟨gb173, 1, none⟩) (Kd.R_far (p := ⟨gb173, 0, none⟩) (Kd.R_types HO172.out BK173.out (by decide)) (fun _ hk => hk.2) (.int .i64 (wrap64 (x149000_1 + 2)))) (fun _ hk => hk.2) (.int .i64 (wrap64 (x149000_1 + 1)))) (fun _ hk => hk.2) (.slice Ao34 y170.length co34)) (fun _ h_ => h_.1)))); (case side2 => exact (Kd.R_reads' HO172.out).2.1); rintro e w42 ⟨rfl, hb⟩; refine ⟨_, rfl, ?_⟩; replace HO_149002 := mS (Kd.R_below (by (with_reducible repeat (first | apply Kd.R_alloc | apply Kd.R_drewN | apply Kd.R_drew)); exact (Kd.R_mono (Kd.R_far (p := ⟨gb173, 2, none⟩) (Kd.R_far (p := ⟨gb173, 1, none⟩) (Kd.R_far (p := ⟨gb173, 0, none⟩) (Kd.R_types HO_149002.out BK173.out (by decide)) (fun _ hk => hk.2) (.int .i64 (wrap64 (x149000_1 + 2)))) (fun _ hk => hk.2) (.int .i64 (wrap64 (x149000_1 + 1)))) (fun _ hk => hk.2) (.slice Ao34 y170.length co34)) (fun _ h_ => h_.1))) hb); replace HO169 := mS (Kd.R_below (by (with_reducible repeat (first | apply Kd.R_alloc | apply Kd.R_drewN | apply Kd.R_drew)); exact (Kd.R_mono (Kd.R_far (p := ⟨gb173, 2, none⟩) (Kd.R_far (p := ⟨gb173, 1, none⟩) (Kd.R_far (p := ⟨gb173, 0, none⟩) (Kd.R_types HO169.out BK173.out (by decide)) (fun _ hk => hk.2) (.int .i64 (wrap64 (x149000_1 + 2)))) (fun _ hk => hk.2) (.int .i64 (wrap64 (x149000_1 + 1)))) (fun _ hk => hk.2) (.slice Ao34 y170.length co34)) (fun _ h_ => h_.1))) hb); replace HO172 := mS (Kd.R_below (by (with_reducible repeat (first | apply Kd.R_alloc | apply Kd.R_drewN | apply Kd.R_drew)); exact (Kd.R_mono (Kd.R_far (p := ⟨gb173, 2, none⟩) (Kd.R_far (p := ⟨gb173, 1, none⟩) (Kd.R_far (p := ⟨gb173, 0, none⟩) (Kd.R_types HO172.out BK173.out (by decide)) (fun _ hk => hk.2) (.int .i64 (wrap64 (x149000_1 + 2)))) (fun _ hk => hk.2) (.int .i64 (wrap64 (x149000_1 + 1)))) (fun _ hk => hk.2) (.slice Ao34 y170.length co34)) (fun _ h_ => h_.1))) hb); replace BK147 := mS (blk_below (g := gb147) (o := .cells #[.int .i64 0, .int .i64 0, .slice none 0 0] 40 (0, 0)) (by (with_reducible repeat (first | refine blk_drewN ?_ _ | refine blk_drew ?_ | refine blk_alloc ?_ _)); refine blk_far ?_ NB147_173.out _; (with_reducible repeat (first | refine blk_drewN ?_ _ | refine blk_drew ?_ | refine blk_alloc ?_ _)); refine blk_far ?_ NB147_173.out _; (with_reducible repeat (first | refine blk_drewN ?_ _ | refine blk_drew ?_ | refine blk_alloc ?_ _)); refine blk_far ?_ NB147_173.out _; (with_reducible repeat (first | refine blk_drewN ?_ _ | refine blk_drew ?_ | refine blk_alloc ?_ _)); exact BK147.out) hb); replace BK148 := mS (blk_below (g := gb148) (o := .cells #[.int .i64 x149000_1, .int .i64 x149001_1, .slice Ao21 x149002_1.length co21] 40 (0, 0)) (by (with_reducible repeat (first | refine blk_drewN ?_ _ | refine blk_drew ?_ | refine blk_alloc ?_ _)); refine blk_far ?_ NB148_173.out _; (with_reducible repeat (first | refine blk_drewN ?_ _ | refine blk_drew ?_ | refine blk_alloc ?_ _)); refine blk_far ?_ NB148_173.out _; (with_reducible repeat (first | refine blk_drewN ?_ _ | refine blk_drew ?_ | refine blk_alloc ?_ _)); refine blk_far ?_ NB148_173.out _; (with_reducible repeat (first | refine blk_drewN ?_ _ | refine blk_drew ?_ | refine blk_alloc ?_ _)); exact BK148.out) hb); replace BK173 := mS (blk_below (g := gb173) (o := .cells #[.int .i64 (wrap64 (x149000_1 + 2)), .int .i64 (wrap64 (x149000_1 + 1)), .slice Ao34 y170.length co34] 40 (0, 0)) (by (with_reducible repeat (first | refine blk_drewN ?_ _ | refine blk_drew ?_ | refine blk_alloc ?_ _)); refine blk_put (cs := #[.int .i64 (wrap64 (x149000_1 + 2)), .int .i64 (wrap64 (x149000_1 + 1)), .slice none 0 0]) ?_ 2 _ rfl; (with_reducible repeat (first | refine blk_drewN ?_ _ | refine blk_drew ?_ | refine blk_alloc ?_ _)); refine blk_put (cs := #[.int .i64 (wrap64 (x149000_1 + 2)), .int .i64 0, .slice none 0 0]) ?_ 1 _ rfl; (with_reducible repeat (first | refine blk_drewN ?_ _ | refine blk_drew ?_ | refine blk_alloc ?_ _)); refine blk_put (cs := #[.int .i64 0, .int .i64 0, .slice none 0 0]) ?_ 0 _ rfl; (with_reducible repeat (first | refine blk_drewN ?_ _ | refine blk_drew ?_ | refine blk_alloc ?_ _)); exact BK173.out) hb); replace HK := mS (KeepBut.trans (mQ102_7 HK.out GW147.out GW148.out GW173.out) (KeepBut.of_below hb g none) (.inl rfl)); replace HB := mS (below_step (mH102_11 HB.out (IsS123.ge HI0.out) GE147.out GE148.out GE173.out) hb); replace HI0 := mS (IsS123.below (show IsS123 w0 (((w33.setCell ⟨gb173, 0, none⟩ (.int .i64 (wrap64 (x149000_1 + 2)))).setCell ⟨gb173, 1, none⟩ (.int .i64 (wrap64 (x149000_1 + 1)))).setCell ⟨gb173, 2, none⟩ (.slice Ao34 y170.length co34)) g s0_0 t165 t166 from mI102_3 HI0.out NB0_147.out NB0_148.out NB0_173.out) hb); (try clear hb); (try clear hb2); (try clear hk); (try clear hi); have hcz43_0 := mZ BK173.out 0; have hcz43_1 := mZ BK173.out 1; have hcz43_2 := mZ BK173.out 2; have hfz43_0 := blk_frozen BK173.out 0; have hfz43_1 := blk_frozen BK173.out 1; have hfz43_2 := blk_frozen BK173.out 2; have hnb44 := NB148_147.out; have hnc44 := NB147_148.out; have hnb45 := NB148_0.out; have hnc45 := NB0_148.out; have hcz46_0 := mZ BK148.out 0; have hcz46_1 := mZ BK148.out 1; have hcz46_2 := mZ BK148.out 2; have hfz46_0 := blk_frozen BK148.out 0; have hfz46_1 := blk_frozen BK148.out 1; have hfz46_2 := blk_frozen BK148.out 2))
         go_roundg kj11
         case measure => have := HK1.out; have := HJ11.out; omega
         case rel => exact ⟨(wrap64 (x4_1 - 1)), (t165), (t166), (wrap64 (x149000_1 + 2)), (wrap64 (x149000_1 + 1)), (y170), (.slice Ao34 y170.length co34), (by first | rfl | (simp; done) | (simp [*]; done)), H', ⟨by have := HK1.out; have := HJ11.out; omega⟩, ⟨by (with_reducible repeat (first | apply Kd.R_alloc | apply Kd.R_drewN | apply Kd.R_drew)); exact Kd.R_mono (Kd.R_far (p := ⟨gb148, 2, none⟩) (Kd.R_far (p := ⟨gb148, 1, none⟩) (Kd.R_far (p := ⟨gb148, 0, none⟩) (Kd.R_types HO172.out BK148.out (by decide)) (fun _ hk => hk.2) (.int .i64 (wrap64 (x149000_1 + 2)))) (fun _ hk => hk.2) (.int .i64 (wrap64 (x149000_1 + 1)))) (fun _ hk => hk.2) (.slice Ao34 y170.length co34)) (fun _ hk => trivial)⟩, ⟨by (with_reducible repeat (first | refine blk_drewN ?_ _ | refine blk_drew ?_ | refine blk_alloc ?_ _)); refine blk_far ?_ NB147_148.out _; (with_reducible repeat (first | refine blk_drewN ?_ _ | refine blk_drew ?_ | refine blk_alloc ?_ _)); refine blk_far ?_ NB147_148.out _; (with_reducible repeat (first | refine blk_drewN ?_ _ | refine blk_drew ?_ | refine blk_alloc ?_ _)); refine blk_far ?_ NB147_148.out _; (with_reducible repeat (first | refine blk_drewN ?_ _ | refine blk_drew ?_ | refine blk_alloc ?_ _)); exact BK147.out⟩, ⟨by (with_reducible repeat (first | refine blk_drewN ?_ _ | refine blk_drew ?_ | refine blk_alloc ?_ _)); refine blk_put (cs := #[.int .i64 (wrap64 (x149000_1 + 2)), .int .i64 (wrap64 (x149000_1 + 1)), .slice Ao21 x149002_1.length co21]) ?_ 2 _ rfl; (with_reducible repeat (first | refine blk_drewN ?_ _ | refine blk_drew ?_ | refine blk_alloc ?_ _)); refine blk_put (cs := #[.int .i64 (wrap64 (x149000_1 + 2)), .int .i64 x149001_1, .slice Ao21 x149002_1.length co21]) ?_ 1 _ rfl; (with_reducible repeat (first | refine blk_drewN ?_ _ | refine blk_drew ?_ | refine blk_alloc ?_ _)); refine blk_put (cs := #[.int .i64 x149000_1, .int .i64 x149001_1, .slice Ao21 x149002_1.length co21]) ?_ 0 _ rfl; (with_reducible repeat (first | refine blk_drewN ?_ _ | refine blk_drew ?_ | refine blk_alloc ?_ _)); exact BK148.out⟩, ⟨mI102_3 HI0.out NB0_147.out NB0_148.out NB0_173.out⟩, ⟨mQ102_7 HK.out GW147.out GW148.out GW173.out⟩, ⟨mH102_11 HB.out (IsS123.ge HI0.out) GE147.out GE148.out GE173.out⟩⟩
        ·replace c20 := Bool.eq_false_iff.mpr c20
         subst c20
         have H1 : (spec_l6Draw.l0 kj11 (wrap64 (x4_1 - 1)) s0_0 t165 t166 x149000_1 x149001_1 x149002_1) = some (r1, r2, r3, r4, r5) := by rw [if_neg (show ¬ (false = true) by decide)] at H; exact H
         clear H
         have H := H1
         clear H1
         have H' := mS H
         clear H
         obtain ⟨Ao47, co47, eo47⟩ := Kd.R_slice HO_149002.out
         subst eo47
         try go_wp2
         have n0_ := mS (Kd.R_drew HO_149002.out)
         have n1_ := mS (blk_drew BK147.out)
         have n2_ := mS (blk_drew BK148.out)
         have n3_ := mS (IsS123.drew HI0.out)
         have n4_ := mS (keep_drew HK.out)
         have n5_ := mS (below_drew1 HB.out)
         clear HO_149002
         clear BK147
         clear BK148
         clear HI0
         clear HK
         clear HB
         have HO_149002 := n0_
         have BK147 := n1_
         have BK148 := n2_
         have HI0 := n3_
         have HK := n4_
         have HB := n5_
         clear n0_ n1_ n2_ n3_ n4_ n5_
         refine start_ (n := 22) (S := fun w' => w'.cell? ⟨gb148, 0, none⟩ = some (.int .i64 x149000_1) ∧ w'.cell? ⟨gb148, 1, none⟩ = some (.int .i64 x149001_1) ∧ w'.cell? ⟨gb148, 2, none⟩ = some (.slice Ao47 x149002_1.length co47)) (ds := []) (mb 0 22) (by kernel_rfl) rfl rfl ⟨mZ BK148.out 0, mZ BK148.out 1, mZ BK148.out 2⟩ (fun hHeld => ?_); refine with_tabW spec_l6Draw.tab9 spec_l6Draw.bits9 (fun HT_ HW_ => ?_)
         generalize wc.drew = w48 at HO_149002 BK147 BK148 HI0 HK HB hHeld ⊢
         refine pure_ (i := 0) (N := some 24) (v := ?_) (a' := ?_) (mb 1 21) rfl rfl (any_of HT_.out (by kernel_rfl)) (fun _ _ _ h => h) (Or.inl ⟨by rfl, ?_⟩) ?_ ?_
         rotate_left
         ·intro w'
          go_simp
          with_reducible rfl
         rotate_left
         ·simp only [Act.put, zA, zB, zC, i64_w, i32_w]
          rfl
         refine pure_ (i := 3) (N := some 27) (v := ?_) (a' := ?_) #[true, false, false, true, false, false, false, false, false, false, false, false, false, false, false, false, false, false, false, false, false, false] rfl rfl (any_of HT_.out (by kernel_rfl)) (fun _ _ _ h => h) (Or.inl ⟨by rfl, ?_⟩) ?_ ?_
         rotate_left
         ·intro w'
          go_simp
          with_reducible rfl
         rotate_left
         ·simp only [Act.put, zA, zB, zC, i64_w, i32_w]
          rfl
         refine pure_ (i := 7) (N := some 31) (v := ?_) (a' := ?_) #[true, false, false, true, false, false, false, true, false, false, false, false, false, false, false, false, false, false, false, false, false, false] rfl rfl (any_of HT_.out (by kernel_rfl)) (fun _ _ _ h => h) (Or.inl ⟨by rfl, ?_⟩) ?_ ?_
         rotate_left
         ·intro w'
          go_simp
          with_reducible rfl
         rotate_left
         ·simp only [Act.put, zA, zB, zC, i64_w, i32_w]
          rfl
         refine pure_ (i := 10) (N := some 34) (v := ?_) (a' := ?_) #[true, false, false, true, false, false, false, true, false, false, true, false, false, false, false, false, false, false, false, false, false, false] rfl rfl (any_of HT_.out (by kernel_rfl)) (fun _ _ _ h => h) (Or.inl ⟨by rfl, ?_⟩) ?_ ?_
         rotate_left
         ·intro w'
          go_simp
          with_reducible rfl
         rotate_left
         ·simp only [Act.put, zA, zB, zC, i64_w, i32_w]
          rfl
         refine pure_ (i := 12) (N := some 36) (v := ?_) (a' := ?_) #[true, false, false, true, false, false, false, true, false, false, true, false, true, false, false, false, false, false, false, false, false, false] rfl rfl (any_of HT_.out (by kernel_rfl)) (fun _ _ _ h => h) (Or.inl ⟨by rfl, ?_⟩) ?_ ?_
         rotate_left
         ·intro w'
          go_simp
          with_reducible rfl
         rotate_left
         ·simp only [Act.put, zA, zB, zC, i64_w, i32_w]
          rfl
         refine pure_ (i := 14) (N := some 38) (v := ?_) (a' := ?_) #[true, false, false, true, false, false, false, true, false, false, true, false, true, false, true, false, false, false, false, false, false, false] rfl rfl (any_of HT_.out (by kernel_rfl)) (fun _ _ _ h => h) (Or.inl ⟨by rfl, ?_⟩) ?_ ?_
         rotate_left
         ·intro w'
          go_simp
          with_reducible rfl
         rotate_left
         ·simp only [Act.put, zA, zB, zC, i64_w, i32_w]
          rfl
         refine pure_ (i := 15) (N := some 39) (v := ?_) (a' := ?_) #[true, false, false, true, false, false, false, true, false, false, true, false, true, false, true, true, false, false, false, false, false, false] rfl rfl (any_of HT_.out (by kernel_rfl)) (fun _ _ _ h => h) (Or.inl ⟨by rfl, ?_⟩) ?_ ?_
         rotate_left
         ·intro w'
          go_simp
          with_reducible rfl
         rotate_left
         ·simp only [Act.put, zA, zB, zC, i64_w, i32_w]
          rfl
         refine take_ (i := 1) (N := some 25) (v := ?_) (a' := ?_) #[true, true, false, true, false, false, false, true, false, false, true, false, true, false, true, true, false, false, false, false, false, false] rfl rfl (take_ofW HT_.out HW_.out (by kernel_rfl)) (fun _ _ _ h => h) (Or.inl ⟨by rfl, ?_⟩) hHeld ?_ ?_
         rotate_left
         ·rintro w' ⟨s0, s1, s2⟩
          go_simp
          with_reducible rfl
         rotate_left
         ·simp only [Act.put, zA, zB, zC, i64_w, i32_w]
          rfl
         refine pure_ (i := 2) (N := some 26) (v := ?_) (a' := ?_) #[true, true, true, true, false, false, false, true, false, false, true, false, true, false, true, true, false, false, false, false, false, false] rfl rfl (any_of HT_.out (by kernel_rfl)) (fun _ _ _ h => h) (Or.inl ⟨by rfl, ?_⟩) ?_ ?_
         rotate_left
         ·intro w'
          go_simp
          with_reducible rfl
         rotate_left
         ·simp only [Act.put, zA, zB, zC, i64_w, i32_w]
          rfl
         refine take_ (i := 4) (N := some 28) (v := ?_) (a' := ?_) #[true, true, true, true, true, false, false, true, false, false, true, false, true, false, true, true, false, false, false, false, false, false] rfl rfl (take_ofW HT_.out HW_.out (by kernel_rfl)) (fun _ _ _ h => h) (Or.inl ⟨by rfl, ?_⟩) hHeld ?_ ?_
         rotate_left
         ·rintro w' ⟨s0, s1, s2⟩
          go_simp
          with_reducible rfl
         rotate_left
         ·simp only [Act.put, zA, zB, zC, i64_w, i32_w]
          rfl
         refine pure_ (i := 5) (N := some 29) (v := ?_) (a' := ?_) #[true, true, true, true, true, true, false, true, false, false, true, false, true, false, true, true, false, false, false, false, false, false] rfl rfl (any_of HT_.out (by kernel_rfl)) (fun _ _ _ h => h) (Or.inl ⟨by rfl, ?_⟩) ?_ ?_
         rotate_left
         ·intro w'
          go_simp
          with_reducible rfl
         rotate_left
         ·simp only [Act.put, zA, zB, zC, i64_w, i32_w]
          rfl
         refine take_ (i := 8) (N := some 32) (v := ?_) (a' := ?_) #[true, true, true, true, true, true, false, true, true, false, true, false, true, false, true, true, false, false, false, false, false, false] rfl rfl (take_ofW HT_.out HW_.out (by kernel_rfl)) (fun _ _ _ h => h) (Or.inl ⟨by rfl, ?_⟩) hHeld ?_ ?_
         rotate_left
         ·rintro w' ⟨s0, s1, s2⟩
          go_simp
          with_reducible rfl
         rotate_left
         ·simp only [Act.put, zA, zB, zC, i64_w, i32_w]
          rfl
         refine take_ (i := 11) (N := some 35) (v := ?_) (a' := ?_) #[true, true, true, true, true, true, false, true, true, false, true, true, true, false, true, true, false, false, false, false, false, false] rfl rfl (take_ofW HT_.out HW_.out (by kernel_rfl)) (fun _ _ _ h => h) (Or.inl ⟨by rfl, ?_⟩) hHeld ?_ ?_
         rotate_left
         ·rintro w' ⟨s0, s1, s2⟩
          go_simp
          with_reducible rfl
         rotate_left
         ·simp only [Act.put, zA, zB, zC, i64_w, i32_w]
          rfl
         refine join_ (σ := Value × Value × Value × Value × Nat) 1 (mb 21 1) (fun s_ => [(30, s_.1), (33, s_.2.1), (37, .int .i64 t164), (41, s_.2.2.1), (42, s_.2.2.2.1), (7, .pointer (some ⟨s_.2.2.2.2, 0, none⟩)), (40, .agg #[.int .i64 x149000_1, .int .i64 t164, .string x5_11, .string x6_11]), (43, .agg #[.int .i64 (wrap64 (x149000_1 + 2)), .int .i64 (wrap64 (x149000_1 + 1)), s_.2.2.2.1])]) (fun s_ w' => (w'.cell? ⟨gb148, 0, none⟩ = some (.int .i64 x149000_1) ∧ w'.cell? ⟨gb148, 1, none⟩ = some (.int .i64 x149001_1) ∧ w'.cell? ⟨gb148, 2, none⟩ = some (.slice Ao47 x149002_1.length co47)) ∧ (Kd.R k46 46 w' w.heap.size (fun k_ => some k_ ≠ (s_.2.2.2.1 : Value).ownBlock ∧ some k_ ≠ (.slice Ao47 x149002_1.length co47 : Value).ownBlock) s_.2.2.1 y167) ∧ (Kd.R k46 46 w' w.heap.size (fun k_ => some k_ ≠ (s_.2.2.1 : Value).ownBlock ∧ some k_ ≠ (.slice Ao47 x149002_1.length co47 : Value).ownBlock) s_.2.2.2.1 y170) ∧ (Kd.R k46 46 w' w.heap.size (fun k_ => some k_ ≠ (s_.2.2.1 : Value).ownBlock ∧ some k_ ≠ (s_.2.2.2.1 : Value).ownBlock) (.slice Ao47 x149002_1.length co47) x149002_1) ∧ (w'.heap[gb147]? = some (.cells #[.int .i64 0, .int .i64 0, .slice none 0 0] 40 (0, 0))) ∧ (w'.heap[gb148]? = some (.cells #[.int .i64 x149000_1, .int .i64 x149001_1, .slice Ao47 x149002_1.length co47] 40 (0, 0))) ∧ (w'.heap[s_.2.2.2.2]? = some (.cells #[.int .i64 0, .int .i64 0, .slice none 0 0] 40 (0, 0))) ∧ (w.heap.size ≤ s_.2.2.2.2) ∧ (w0.heap.size ≤ s_.2.2.2.2) ∧ (g ≠ s_.2.2.2.2) ∧ (s_.2.2.2.2 ≠ g) ∧ (gb147 ≠ s_.2.2.2.2) ∧ (s_.2.2.2.2 ≠ gb147) ∧ (gb148 ≠ s_.2.2.2.2) ∧ (s_.2.2.2.2 ≠ gb148) ∧ (IsS123 w0 w' g s0_0 t165 t166) ∧ (KeepBut w w' g none) ∧ (Below w0.heap.size w0 w')) ?_ ?_
         rotate_left
         ·intro hJ6_9_13_17_18_20
          refine join_ (σ := Value × Value × Value × Value) 2 (mb 20 2) (fun s_ => [(30, s_.1), (33, s_.2.1), (37, .int .i64 t164), (41, s_.2.2.1), (42, s_.2.2.2), (40, .agg #[.int .i64 x149000_1, .int .i64 t164, .string x5_11, .string x6_11]), (43, .agg #[.int .i64 (wrap64 (x149000_1 + 2)), .int .i64 (wrap64 (x149000_1 + 1)), s_.2.2.2])]) (fun s_ w' => (w'.cell? ⟨gb148, 0, none⟩ = some (.int .i64 x149000_1) ∧ w'.cell? ⟨gb148, 1, none⟩ = some (.int .i64 x149001_1) ∧ w'.cell? ⟨gb148, 2, none⟩ = some (.slice Ao47 x149002_1.length co47)) ∧ (Kd.R k46 46 w' w.heap.size (fun k_ => some k_ ≠ (s_.2.2.2 : Value).ownBlock ∧ some k_ ≠ (.slice Ao47 x149002_1.length co47 : Value).ownBlock) s_.2.2.1 y167) ∧ (Kd.R k46 46 w' w.heap.size (fun k_ => some k_ ≠ (s_.2.2.1 : Value).ownBlock ∧ some k_ ≠ (.slice Ao47 x149002_1.length co47 : Value).ownBlock) s_.2.2.2 y170) ∧ (Kd.R k46 46 w' w.heap.size (fun k_ => some k_ ≠ (s_.2.2.1 : Value).ownBlock ∧ some k_ ≠ (s_.2.2.2 : Value).ownBlock) (.slice Ao47 x149002_1.length co47) x149002_1) ∧ (w'.heap[gb147]? = some (.cells #[.int .i64 0, .int .i64 0, .slice none 0 0] 40 (0, 0))) ∧ (w'.heap[gb148]? = some (.cells #[.int .i64 x149000_1, .int .i64 x149001_1, .slice Ao47 x149002_1.length co47] 40 (0, 0))) ∧ (IsS123 w0 w' g s0_0 t165 t166) ∧ (KeepBut w w' g none) ∧ (Below w0.heap.size w0 w')) ?_ ?_
          rotate_left
          ·intro hJ6_9_13_17_18
           refine join_ (σ := Value × Value × Value × Nat) 3 #[true, true, true, true, true, true, true, true, true, true, true, true, true, true, true, true, true, true, false, false, true, false] (fun s_ => [(30, s_.1), (33, s_.2.1), (37, .int .i64 t164), (41, s_.2.2.1), (7, .pointer (some ⟨s_.2.2.2, 0, none⟩)), (40, .agg #[.int .i64 x149000_1, .int .i64 t164, .string x5_11, .string x6_11])]) (fun s_ w' => (w'.cell? ⟨gb148, 0, none⟩ = some (.int .i64 x149000_1) ∧ w'.cell? ⟨gb148, 1, none⟩ = some (.int .i64 x149001_1) ∧ w'.cell? ⟨gb148, 2, none⟩ = some (.slice Ao47 x149002_1.length co47)) ∧ (Kd.R k46 46 w' w.heap.size (fun k_ => some k_ ≠ (s_.2.2.1 : Value).ownBlock ∧ some k_ ≠ (.slice Ao47 x149002_1.length co47 : Value).ownBlock) s_.2.1 y161) ∧ (Kd.R k46 46 w' w.heap.size (fun k_ => some k_ ≠ (s_.2.1 : Value).ownBlock ∧ some k_ ≠ (.slice Ao47 x149002_1.length co47 : Value).ownBlock) s_.2.2.1 y167) ∧ (Kd.R k46 46 w' w.heap.size (fun k_ => some k_ ≠ (s_.2.1 : Value).ownBlock ∧ some k_ ≠ (s_.2.2.1 : Value).ownBlock) (.slice Ao47 x149002_1.length co47) x149002_1) ∧ (w'.heap[gb147]? = some (.cells #[.int .i64 0, .int .i64 0, .slice none 0 0] 40 (0, 0))) ∧ (w'.heap[gb148]? = some (.cells #[.int .i64 x149000_1, .int .i64 x149001_1, .slice Ao47 x149002_1.length co47] 40 (0, 0))) ∧ (w'.heap[s_.2.2.2]? = some (.cells #[.int .i64 0, .int .i64 0, .slice none 0 0] 40 (0, 0))) ∧ (w.heap.size ≤ s_.2.2.2) ∧ (w0.heap.size ≤ s_.2.2.2) ∧ (g ≠ s_.2.2.2) ∧ (s_.2.2.2 ≠ g) ∧ (gb147 ≠ s_.2.2.2) ∧ (s_.2.2.2 ≠ gb147) ∧ (gb148 ≠ s_.2.2.2) ∧ (s_.2.2.2 ≠ gb148) ∧ (IsS123 w0 w' g s0_0 t165 t166) ∧ (KeepBut w w' g none) ∧ (Below w0.heap.size w0 w')) ?_ ?_
           rotate_left
           ·intro hJ6_9_13_17_20
            refine join_ (σ := Value × Value × Value) 4 (mb 18 4) (fun s_ => [(30, s_.1), (33, s_.2.1), (37, .int .i64 t164), (41, s_.2.2), (40, .agg #[.int .i64 x149000_1, .int .i64 t164, .string x5_11, .string x6_11])]) (fun s_ w' => (w'.cell? ⟨gb148, 0, none⟩ = some (.int .i64 x149000_1) ∧ w'.cell? ⟨gb148, 1, none⟩ = some (.int .i64 x149001_1) ∧ w'.cell? ⟨gb148, 2, none⟩ = some (.slice Ao47 x149002_1.length co47)) ∧ (Kd.R k46 46 w' w.heap.size (fun k_ => some k_ ≠ (s_.2.2 : Value).ownBlock ∧ some k_ ≠ (.slice Ao47 x149002_1.length co47 : Value).ownBlock) s_.2.1 y161) ∧ (Kd.R k46 46 w' w.heap.size (fun k_ => some k_ ≠ (s_.2.1 : Value).ownBlock ∧ some k_ ≠ (.slice Ao47 x149002_1.length co47 : Value).ownBlock) s_.2.2 y167) ∧ (Kd.R k46 46 w' w.heap.size (fun k_ => some k_ ≠ (s_.2.1 : Value).ownBlock ∧ some k_ ≠ (s_.2.2 : Value).ownBlock) (.slice Ao47 x149002_1.length co47) x149002_1) ∧ (w'.heap[gb147]? = some (.cells #[.int .i64 0, .int .i64 0, .slice none 0 0] 40 (0, 0))) ∧ (w'.heap[gb148]? = some (.cells #[.int .i64 x149000_1, .int .i64 x149001_1, .slice Ao47 x149002_1.length co47] 40 (0, 0))) ∧ (IsS123 w0 w' g s0_0 t165 t166) ∧ (KeepBut w w' g none) ∧ (Below w0.heap.size w0 w')) ?_ ?_
            rotate_left
            ·intro hJ6_9_13_17
             refine join_ (σ := Value × Value × Nat) 4 #[true, true, true, true, true, true, true, true, true, true, true, true, true, true, true, true, true, false, false, false, true, false] (fun s_ => [(30, s_.1), (33, s_.2.1), (37, .int .i64 t164), (7, .pointer (some ⟨s_.2.2, 0, none⟩)), (40, .agg #[.int .i64 x149000_1, .int .i64 t164, .string x5_11, .string x6_11])]) (fun s_ w' => (w'.cell? ⟨gb148, 0, none⟩ = some (.int .i64 x149000_1) ∧ w'.cell? ⟨gb148, 1, none⟩ = some (.int .i64 x149001_1) ∧ w'.cell? ⟨gb148, 2, none⟩ = some (.slice Ao47 x149002_1.length co47)) ∧ (Kd.R k46 46 w' w.heap.size (fun k_ => some k_ ≠ (.slice Ao47 x149002_1.length co47 : Value).ownBlock) s_.2.1 y161) ∧ (Kd.R k46 46 w' w.heap.size (fun k_ => some k_ ≠ (s_.2.1 : Value).ownBlock) (.slice Ao47 x149002_1.length co47) x149002_1) ∧ (w'.heap[gb147]? = some (.cells #[.int .i64 0, .int .i64 0, .slice none 0 0] 40 (0, 0))) ∧ (w'.heap[gb148]? = some (.cells #[.int .i64 x149000_1, .int .i64 x149001_1, .slice Ao47 x149002_1.length co47] 40 (0, 0))) ∧ (w'.heap[s_.2.2]? = some (.cells #[.int .i64 0, .int .i64 0, .slice none 0 0] 40 (0, 0))) ∧ (w.heap.size ≤ s_.2.2) ∧ (w0.heap.size ≤ s_.2.2) ∧ (g ≠ s_.2.2) ∧ (s_.2.2 ≠ g) ∧ (gb147 ≠ s_.2.2) ∧ (s_.2.2 ≠ gb147) ∧ (gb148 ≠ s_.2.2) ∧ (s_.2.2 ≠ gb148) ∧ (IsS123 w0 w' g s0_0 t165 t166) ∧ (KeepBut w w' g none) ∧ (Below w0.heap.size w0 w')) ?_ ?_
             rotate_left
             ·intro hJ6_9_13_20
              refine join_ (σ := Value × Value) 5 (mb 17 5) (fun s_ => [(30, s_.1), (33, s_.2), (37, .int .i64 t164), (40, .agg #[.int .i64 x149000_1, .int .i64 t164, .string x5_11, .string x6_11])]) (fun s_ w' => (w'.cell? ⟨gb148, 0, none⟩ = some (.int .i64 x149000_1) ∧ w'.cell? ⟨gb148, 1, none⟩ = some (.int .i64 x149001_1) ∧ w'.cell? ⟨gb148, 2, none⟩ = some (.slice Ao47 x149002_1.length co47)) ∧ (Kd.R k46 46 w' w.heap.size (fun k_ => some k_ ≠ (.slice Ao47 x149002_1.length co47 : Value).ownBlock) s_.2 y161) ∧ (Kd.R k46 46 w' w.heap.size (fun k_ => some k_ ≠ (s_.2 : Value).ownBlock) (.slice Ao47 x149002_1.length co47) x149002_1) ∧ (w'.heap[gb147]? = some (.cells #[.int .i64 0, .int .i64 0, .slice none 0 0] 40 (0, 0))) ∧ (w'.heap[gb148]? = some (.cells #[.int .i64 x149000_1, .int .i64 x149001_1, .slice Ao47 x149002_1.length co47] 40 (0, 0))) ∧ (IsS123 w0 w' g s0_0 t165 t166) ∧ (KeepBut w w' g none) ∧ (Below w0.heap.size w0 w')) ?_ ?_
              rotate_left
              ·intro hJ6_9_13
               refine join_ (σ := Value × Value × Nat) 6 #[true, true, true, true, true, true, true, true, true, true, true, true, true, false, true, true, false, false, false, false, true, false] (fun s_ => [(30, s_.1), (33, s_.2.1), (7, .pointer (some ⟨s_.2.2, 0, none⟩))]) (fun s_ w' => (w'.cell? ⟨gb148, 0, none⟩ = some (.int .i64 x149000_1) ∧ w'.cell? ⟨gb148, 1, none⟩ = some (.int .i64 x149001_1) ∧ w'.cell? ⟨gb148, 2, none⟩ = some (.slice Ao47 x149002_1.length co47)) ∧ (Kd.R k46 46 w' w.heap.size (fun k_ => some k_ ≠ (.slice Ao47 x149002_1.length co47 : Value).ownBlock) s_.2.1 y161) ∧ (Kd.R k46 46 w' w.heap.size (fun k_ => some k_ ≠ (s_.2.1 : Value).ownBlock) (.slice Ao47 x149002_1.length co47) x149002_1) ∧ (w'.heap[gb147]? = some (.cells #[.int .i64 0, .int .i64 0, .slice none 0 0] 40 (0, 0))) ∧ (w'.heap[gb148]? = some (.cells #[.int .i64 x149000_1, .int .i64 x149001_1, .slice Ao47 x149002_1.length co47] 40 (0, 0))) ∧ (w'.heap[s_.2.2]? = some (.cells #[.int .i64 0, .int .i64 0, .slice none 0 0] 40 (0, 0))) ∧ (w.heap.size ≤ s_.2.2) ∧ (w0.heap.size ≤ s_.2.2) ∧ (g ≠ s_.2.2) ∧ (s_.2.2 ≠ g) ∧ (gb147 ≠ s_.2.2) ∧ (s_.2.2 ≠ gb147) ∧ (gb148 ≠ s_.2.2) ∧ (s_.2.2 ≠ gb148) ∧ (IsS123 w0 w' g s0_0 t156 t157) ∧ (KeepBut w w' g none) ∧ (Below w0.heap.size w0 w')) ?_ ?_
               rotate_left
               ·intro hJ6_9_20
                refine join_ (σ := Value × Value) 7 #[true, true, true, true, true, true, true, true, true, true, true, true, true, false, true, true, false, false, false, false, false, false] (fun s_ => [(30, s_.1), (33, s_.2)]) (fun s_ w' => (w'.cell? ⟨gb148, 0, none⟩ = some (.int .i64 x149000_1) ∧ w'.cell? ⟨gb148, 1, none⟩ = some (.int .i64 x149001_1) ∧ w'.cell? ⟨gb148, 2, none⟩ = some (.slice Ao47 x149002_1.length co47)) ∧ (Kd.R k46 46 w' w.heap.size (fun k_ => some k_ ≠ (.slice Ao47 x149002_1.length co47 : Value).ownBlock) s_.2 y161) ∧ (Kd.R k46 46 w' w.heap.size (fun k_ => some k_ ≠ (s_.2 : Value).ownBlock) (.slice Ao47 x149002_1.length co47) x149002_1) ∧ (w'.heap[gb147]? = some (.cells #[.int .i64 0, .int .i64 0, .slice none 0 0] 40 (0, 0))) ∧ (w'.heap[gb148]? = some (.cells #[.int .i64 x149000_1, .int .i64 x149001_1, .slice Ao47 x149002_1.length co47] 40 (0, 0))) ∧ (IsS123 w0 w' g s0_0 t156 t157) ∧ (KeepBut w w' g none) ∧ (Below w0.heap.size w0 w')) ?_ ?_
                rotate_left
                ·intro hJ6_9
                 refine join_ (σ := Value × Nat) 7 #[true, true, true, true, true, true, true, true, true, false, true, true, true, false, true, true, false, false, false, false, true, false] (fun s_ => [(30, s_.1), (7, .pointer (some ⟨s_.2, 0, none⟩))]) (fun s_ w' => (w'.cell? ⟨gb148, 0, none⟩ = some (.int .i64 x149000_1) ∧ w'.cell? ⟨gb148, 1, none⟩ = some (.int .i64 x149001_1) ∧ w'.cell? ⟨gb148, 2, none⟩ = some (.slice Ao47 x149002_1.length co47)) ∧ (Kd.R k46 46 w' w.heap.size (fun k_ => some k_ ≠ (.slice Ao47 x149002_1.length co47 : Value).ownBlock) s_.1 y158) ∧ (Kd.R k46 46 w' w.heap.size (fun k_ => some k_ ≠ (s_.1 : Value).ownBlock) (.slice Ao47 x149002_1.length co47) x149002_1) ∧ (w'.heap[gb147]? = some (.cells #[.int .i64 0, .int .i64 0, .slice none 0 0] 40 (0, 0))) ∧ (w'.heap[gb148]? = some (.cells #[.int .i64 x149000_1, .int .i64 x149001_1, .slice Ao47 x149002_1.length co47] 40 (0, 0))) ∧ (w'.heap[s_.2]? = some (.cells #[.int .i64 0, .int .i64 0, .slice none 0 0] 40 (0, 0))) ∧ (w.heap.size ≤ s_.2) ∧ (w0.heap.size ≤ s_.2) ∧ (g ≠ s_.2) ∧ (s_.2 ≠ g) ∧ (gb147 ≠ s_.2) ∧ (s_.2 ≠ gb147) ∧ (gb148 ≠ s_.2) ∧ (s_.2 ≠ gb148) ∧ (IsS123 w0 w' g s0_0 t156 t157) ∧ (KeepBut w w' g none) ∧ (Below w0.heap.size w0 w')) ?_ ?_
                 rotate_left
                 ·intro hJ6_20
                  refine join_ (σ := Value) 8 #[true, true, true, true, true, true, true, true, true, false, true, true, true, false, true, true, false, false, false, false, false, false] (fun s_ => [(30, s_)]) (fun s_ w' => (w'.cell? ⟨gb148, 0, none⟩ = some (.int .i64 x149000_1) ∧ w'.cell? ⟨gb148, 1, none⟩ = some (.int .i64 x149001_1) ∧ w'.cell? ⟨gb148, 2, none⟩ = some (.slice Ao47 x149002_1.length co47)) ∧ (Kd.R k46 46 w' w.heap.size (fun k_ => some k_ ≠ (.slice Ao47 x149002_1.length co47 : Value).ownBlock) s_ y158) ∧ (Kd.R k46 46 w' w.heap.size (fun k_ => some k_ ≠ (s_ : Value).ownBlock) (.slice Ao47 x149002_1.length co47) x149002_1) ∧ (w'.heap[gb147]? = some (.cells #[.int .i64 0, .int .i64 0, .slice none 0 0] 40 (0, 0))) ∧ (w'.heap[gb148]? = some (.cells #[.int .i64 x149000_1, .int .i64 x149001_1, .slice Ao47 x149002_1.length co47] 40 (0, 0))) ∧ (IsS123 w0 w' g s0_0 t156 t157) ∧ (KeepBut w w' g none) ∧ (Below w0.heap.size w0 w')) ?_ ?_
                  rotate_left
                  ·intro hJ6
                   refine join_ (σ := Nat) 8 #[true, true, true, true, true, true, false, true, true, false, true, true, true, false, true, true, false, false, false, false, true, false] (fun s_ => [(7, .pointer (some ⟨s_, 0, none⟩))]) (fun s_ w' => (w'.cell? ⟨gb148, 0, none⟩ = some (.int .i64 x149000_1) ∧ w'.cell? ⟨gb148, 1, none⟩ = some (.int .i64 x149001_1) ∧ w'.cell? ⟨gb148, 2, none⟩ = some (.slice Ao47 x149002_1.length co47)) ∧ (Kd.R k46 46 w' w.heap.size (fun _ => True) (.slice Ao47 x149002_1.length co47) x149002_1) ∧ (w'.heap[gb147]? = some (.cells #[.int .i64 0, .int .i64 0, .slice none 0 0] 40 (0, 0))) ∧ (w'.heap[gb148]? = some (.cells #[.int .i64 x149000_1, .int .i64 x149001_1, .slice Ao47 x149002_1.length co47] 40 (0, 0))) ∧ (w'.heap[s_]? = some (.cells #[.int .i64 0, .int .i64 0, .slice none 0 0] 40 (0, 0))) ∧ (w.heap.size ≤ s_) ∧ (w0.heap.size ≤ s_) ∧ (g ≠ s_) ∧ (s_ ≠ g) ∧ (gb147 ≠ s_) ∧ (s_ ≠ gb147) ∧ (gb148 ≠ s_) ∧ (s_ ≠ gb148) ∧ (IsS123 w0 w' g s0_0 t156 t157) ∧ (KeepBut w w' g none) ∧ (Below w0.heap.size w0 w')) ?_ ?_
                   rotate_left
                   ·intro hJ20
                    refine two_ (i := 6) (j := 20) (Ni := some 30) (Nj := some 7) #[true, true, true, true, true, true, true, true, true, false, true, true, true, false, true, true, false, false, false, false, false, false] #[true, true, true, true, true, true, false, true, true, false, true, true, true, false, true, true, false, false, false, false, true, false] rfl rfl rfl rfl (two_of HT_.out (by kernel_rfl)) (by decide) (by decide) (fun K hK => ?_) (fun K hK => ?_)
                    ·skip
                     refine Kd.R_lit_step k46 _ 46 ?hg (N := 30) ?hd (xs := ([] : List (S46))) (inner := []) (ok := fun _ => True) (okp := fun _ => True) ?hr ?hp (fun _ hk => hk) trivial (Below.refl _ _) (Nat.le_refl _) (by simp) ?_; (case hd => rfl); (case hg => rfl); (case hr => first | (go_simp; done) | (go_simp; rfl)); (case hp => exact (Reps.none _ _))
                     intro v159 w49 ho50 hb hg_ hnew_
                     clear hg_ hnew_
                     (first | rw [← Ny158.out] at ho50 | (simp only [Int.reduceToNat] at ho50; rw [← Ny158.out] at ho50))
                     have n0_ := mS (Kd.R_elder' (mR HO_149002.out) (Kd.R_base ho50) hb)
                     have n1_ := mS (Kd.R_lower (Kd.R_new' ho50 (Kd.R_lt (mR HO_149002.out))) (keep_size (w := w) (g := g) (row := none) (mQ102_6 HK.out GW147.out GW148.out)))
                     have n2_ := mB BK147 hb
                     have n3_ := mB BK148 hb
                     have n4_ := mS (IsS123.below (mI102_2 HI0.out NB0_147.out NB0_148.out) hb)
                     have n5_ := mS (KeepBut.trans (mQ102_6 HK.out GW147.out GW148.out) (KeepBut.of_below hb g none) (.inl rfl))
                     have n6_ := mS (below_step (mH102_10 HB.out (IsS123.ge HI0.out) GE147.out GE148.out) hb)
                     clear HO_149002
                     clear BK147
                     clear BK148
                     clear HI0
                     clear HK
                     clear HB
                     have HO_149002 := n0_
                     have HO160 := n1_
                     have BK147 := n2_
                     have BK148 := n3_
                     have HI0 := n4_
                     have HK := n5_
                     have HB := n6_
                     clear n0_ n1_ n2_ n3_ n4_ n5_ n6_
                     clear hb ho50
                     refine hK.out _ _ ⟨mZ BK148.out 0, mZ BK148.out 1, mZ BK148.out 2⟩ (fun hHeld => ?_)
                     clear hK K
                     refine norm_ (a' := ?_) ?_ ?_
                     rotate_left
                     ·show Act.put _ (some 30) _ = _
                      simp only [Act.put, zA, zB, zC, i64_w, i32_w]
                      rfl
                     exact norm_ (by first | (simp only [putAll, Act.put, zA, zB, zC]; done) | (simp only [putAll, Act.put, zA, zB, zC]; rfl)) (hJ6 (_) _ ⟨hHeld, (by (with_reducible repeat (first | apply Kd.R_alloc | apply Kd.R_drewN | apply Kd.R_drew)); exact Kd.R_mono HO160.out (fun _ hk => hk.2)), (by (with_reducible repeat (first | apply Kd.R_alloc | apply Kd.R_drewN | apply Kd.R_drew)); exact Kd.R_mono HO_149002.out (fun _ hk => hk.2)), (mK BK147.out), (mK BK148.out), (mI102_2 HI0.out NB0_147.out NB0_148.out), (mQ102_6 HK.out GW147.out GW148.out), (mH102_10 HB.out (IsS123.ge HI0.out) GE147.out GE148.out)⟩)
                    ·skip
                     refine box_step ?hg (N := 7) ?hd (cs := #[.int .i64 0, .int .i64 0, .slice none 0 0]) (t := 40) ?hr ?_; (case hd => rfl); (case hg => rfl); (case hr => first | (go_simp; done) | (go_simp; rfl))
                     intro gb173 hg w49 hbox hb
                     have n0_ := mS (Kd.R_below (mR HO_149002.out) hb)
                     have n1_ := mB BK147 hb
                     have n2_ := mB BK148 hb
                     have n3_ := mS (IsS123.below (mI102_2 HI0.out NB0_147.out NB0_148.out) hb)
                     have n4_ := mS (KeepBut.trans (mQ102_6 HK.out GW147.out GW148.out) (KeepBut.of_below hb g none) (.inl rfl))
                     have n5_ := mS (below_step (mH102_10 HB.out (IsS123.ge HI0.out) GE147.out GE148.out) hb)
                     have n6_ := mS (hbox)
                     have n7_ := mS ((by rw [hg]; exact (keep_size (w := w) (g := g) (row := none) (mQ102_6 HK.out GW147.out GW148.out)) : w.heap.size ≤ gb173))
                     have n8_ := mS ((Nat.le_trans HW0.out (by rw [hg]; exact (keep_size (w := w) (g := g) (row := none) (mQ102_6 HK.out GW147.out GW148.out)) : w.heap.size ≤ gb173) : w0.heap.size ≤ gb173))
                     have n9_ := mNl hg BK147.out
                     have n10_ := mNg hg BK147.out
                     have n11_ := mNl hg BK148.out
                     have n12_ := mNg hg BK148.out
                     have n13_ := mS ((by rw [hg]; exact Nat.ne_of_lt (IsS123.lt (show IsS123 w0 _ g s0_0 t156 t157 from mI102_2 HI0.out NB0_147.out NB0_148.out)) : g ≠ gb173))
                     have n14_ := mS ((by rw [hg]; exact Nat.ne_of_gt (IsS123.lt (show IsS123 w0 _ g s0_0 t156 t157 from mI102_2 HI0.out NB0_147.out NB0_148.out)) : gb173 ≠ g))
                     clear HO_149002
                     clear BK147
                     clear BK148
                     clear HI0
                     clear HK
                     clear HB
                     have HO_149002 := n0_
                     have BK147 := n1_
                     have BK148 := n2_
                     have HI0 := n3_
                     have HK := n4_
                     have HB := n5_
                     have BK173 := n6_
                     have GW173 := n7_
                     have GE173 := n8_
                     have NB147_173 := n9_
                     have NB173_147 := n10_
                     have NB148_173 := n11_
                     have NB173_148 := n12_
                     have NB0_173 := n13_
                     have NB173_0 := n14_
                     clear n0_ n1_ n2_ n3_ n4_ n5_ n6_ n7_ n8_ n9_ n10_ n11_ n12_ n13_ n14_
                     clear hb hbox hg
                     refine hK.out _ _ ⟨mZ BK148.out 0, mZ BK148.out 1, mZ BK148.out 2⟩ (fun hHeld => ?_)
                     clear hK K
                     refine norm_ (a' := ?_) ?_ ?_
                     rotate_left
                     ·show Act.put _ (some 7) _ = _
                      simp only [Act.put, zA, zB, zC, i64_w, i32_w]
                      rfl
                     exact norm_ (by first | (simp only [putAll, Act.put, zA, zB, zC]; done) | (simp only [putAll, Act.put, zA, zB, zC]; rfl)) (hJ20 (gb173) _ ⟨hHeld, (mR HO_149002.out), (mK BK147.out), (mK BK148.out), (mK BK173.out), GW173.out, GE173.out, NB0_173.out, NB173_0.out, NB147_173.out, NB173_147.out, NB148_173.out, NB173_148.out, (mI102_3 HI0.out NB0_147.out NB0_148.out NB0_173.out), (mQ102_7 HK.out GW147.out GW148.out GW173.out), (mH102_11 HB.out (IsS123.ge HI0.out) GE147.out GE148.out GE173.out)⟩)
                   ·skip
                    rintro gb173 w50 ⟨hS_, h0_, h1_, h2_, h3_, h4_, h5_, h6_, h7_, h8_, h9_, h10_, h11_, h12_, h13_, h14_⟩
                    have n0_ : Aside0 (Kd.R k46 46 w50 w.heap.size (fun _ => True) (.slice Ao47 x149002_1.length co47) x149002_1) := ⟨h0_⟩
                    have n1_ : Aside0 (w50.heap[gb147]? = some (.cells #[.int .i64 0, .int .i64 0, .slice none 0 0] 40 (0, 0))) := ⟨h1_⟩
                    have n2_ : Aside0 (w50.heap[gb148]? = some (.cells #[.int .i64 x149000_1, .int .i64 x149001_1, .slice Ao47 x149002_1.length co47] 40 (0, 0))) := ⟨h2_⟩
                    have n3_ : Aside0 (w50.heap[gb173]? = some (.cells #[.int .i64 0, .int .i64 0, .slice none 0 0] 40 (0, 0))) := ⟨h3_⟩
                    have n4_ : Aside0 (w.heap.size ≤ gb173) := ⟨h4_⟩
                    have n5_ : Aside0 (w0.heap.size ≤ gb173) := ⟨h5_⟩
                    have n6_ : Aside0 (g ≠ gb173) := ⟨h6_⟩
                    have n7_ : Aside0 (gb173 ≠ g) := ⟨h7_⟩
                    have n8_ : Aside0 (gb147 ≠ gb173) := ⟨h8_⟩
                    have n9_ : Aside0 (gb173 ≠ gb147) := ⟨h9_⟩
                    have n10_ : Aside0 (gb148 ≠ gb173) := ⟨h10_⟩
                    have n11_ : Aside0 (gb173 ≠ gb148) := ⟨h11_⟩
                    have n12_ : Aside0 (IsS123 w0 w50 g s0_0 t156 t157) := ⟨h12_⟩
                    have n13_ : Aside0 (KeepBut w w50 g none) := ⟨h13_⟩
                    have n14_ : Aside0 (Below w0.heap.size w0 w50) := ⟨h14_⟩
                    clear HO_149002
                    clear BK147
                    clear BK148
                    clear HI0
                    clear HK
                    clear HB
                    clear h0_ h1_ h2_ h3_ h4_ h5_ h6_ h7_ h8_ h9_ h10_ h11_ h12_ h13_ h14_
                    have HO_149002 := n0_
                    have BK147 := n1_
                    have BK148 := n2_
                    have BK173 := n3_
                    have GW173 := n4_
                    have GE173 := n5_
                    have NB0_173 := n6_
                    have NB173_0 := n7_
                    have NB147_173 := n8_
                    have NB173_147 := n9_
                    have NB148_173 := n10_
                    have NB173_148 := n11_
                    have HI0 := n12_
                    have HK := n13_
                    have HB := n14_
                    clear n0_ n1_ n2_ n3_ n4_ n5_ n6_ n7_ n8_ n9_ n10_ n11_ n12_ n13_ n14_
                    have hHeld : w50.cell? ⟨gb148, 0, none⟩ = some (.int .i64 x149000_1) ∧ w50.cell? ⟨gb148, 1, none⟩ = some (.int .i64 x149001_1) ∧ w50.cell? ⟨gb148, 2, none⟩ = some (.slice Ao47 x149002_1.length co47) := hS_
                    refine norm_ (a' := ?_) ?_ ?_
                    rotate_left
                    ·simp only [putAll, Act.put, zA, zB, zC]
                     rfl
                    refine one_ (i := 6) (N := some 30) #[true, true, true, true, true, true, true, true, true, false, true, true, true, false, true, true, false, false, false, false, true, false] rfl rfl (one_of HT_.out (by kernel_rfl)) (by decide) (fun K hK => ?_)
                    refine Kd.R_lit_step k46 _ 46 ?hg (N := 30) ?hd (xs := ([] : List (S46))) (inner := []) (ok := fun _ => True) (okp := fun _ => True) ?hr ?hp (fun _ hk => hk) trivial (Below.refl _ _) (Nat.le_refl _) (by simp) ?_; (case hd => rfl); (case hg => rfl); (case hr => first | (go_simp; done) | (go_simp; rfl)); (case hp => exact (Reps.none _ _))
                    intro v159 w51 ho52 hb hg_ hnew_
                    clear hg_ hnew_
                    (first | rw [← Ny158.out] at ho52 | (simp only [Int.reduceToNat] at ho52; rw [← Ny158.out] at ho52))
                    have n0_ := mS (Kd.R_elder' (mR HO_149002.out) (Kd.R_base ho52) hb)
                    have n1_ := mS (Kd.R_lower (Kd.R_new' ho52 (Kd.R_lt (mR HO_149002.out))) (keep_size (w := w) (g := g) (row := none) (mQ102_7 HK.out GW147.out GW148.out GW173.out)))
                    have n2_ := mB BK147 hb
                    have n3_ := mB BK148 hb
                    have n4_ := mS (IsS123.below (mI102_3 HI0.out NB0_147.out NB0_148.out NB0_173.out) hb)
                    have n5_ := mB BK173 hb
                    have n6_ := mS (KeepBut.trans (mQ102_7 HK.out GW147.out GW148.out GW173.out) (KeepBut.of_below hb g none) (.inl rfl))
                    have n7_ := mS (below_step (mH102_11 HB.out (IsS123.ge HI0.out) GE147.out GE148.out GE173.out) hb)
                    clear HO_149002
                    clear BK147
                    clear BK148
                    clear HI0
                    clear BK173
                    clear HK
                    clear HB
                    have HO_149002 := n0_
                    have HO160 := n1_
                    have BK147 := n2_
                    have BK148 := n3_
                    have HI0 := n4_
                    have BK173 := n5_
                    have HK := n6_
                    have HB := n7_
                    clear n0_ n1_ n2_ n3_ n4_ n5_ n6_ n7_
                    clear hb ho52
                    refine hK.out _ _ ⟨mZ BK148.out 0, mZ BK148.out 1, mZ BK148.out 2⟩ (fun hHeld => ?_)
                    clear hK K
                    refine norm_ (a' := ?_) ?_ ?_
                    rotate_left
                    ·show Act.put _ (some 30) _ = _
                     simp only [Act.put, zA, zB, zC, i64_w, i32_w]
                     rfl
                    exact norm_ (by first | (simp only [putAll, Act.put, zA, zB, zC]; done) | (simp only [putAll, Act.put, zA, zB, zC]; rfl)) (hJ6_20 (_, gb173) _ ⟨hHeld, (by (with_reducible repeat (first | apply Kd.R_alloc | apply Kd.R_drewN | apply Kd.R_drew)); exact Kd.R_mono HO160.out (fun _ hk => hk.2)), (by (with_reducible repeat (first | apply Kd.R_alloc | apply Kd.R_drewN | apply Kd.R_drew)); exact Kd.R_mono HO_149002.out (fun _ hk => hk.2)), (mK BK147.out), (mK BK148.out), (mK BK173.out), GW173.out, GE173.out, NB0_173.out, NB173_0.out, NB147_173.out, NB173_147.out, NB148_173.out, NB173_148.out, (mI102_3 HI0.out NB0_147.out NB0_148.out NB0_173.out), (mQ102_7 HK.out GW147.out GW148.out GW173.out), (mH102_11 HB.out (IsS123.ge HI0.out) GE147.out GE148.out GE173.out)⟩)
                  ·skip
                   rintro v159 w51 ⟨hS_, h0_, h1_, h2_, h3_, h4_, h5_, h6_⟩
                   have n0_ : Aside0 (Kd.R k46 46 w51 w.heap.size (fun k_ => some k_ ≠ (.slice Ao47 x149002_1.length co47 : Value).ownBlock) v159 y158) := ⟨h0_⟩
                   have n1_ : Aside0 (Kd.R k46 46 w51 w.heap.size (fun k_ => some k_ ≠ (v159 : Value).ownBlock) (.slice Ao47 x149002_1.length co47) x149002_1) := ⟨h1_⟩
                   have n2_ : Aside0 (w51.heap[gb147]? = some (.cells #[.int .i64 0, .int .i64 0, .slice none 0 0] 40 (0, 0))) := ⟨h2_⟩
                   have n3_ : Aside0 (w51.heap[gb148]? = some (.cells #[.int .i64 x149000_1, .int .i64 x149001_1, .slice Ao47 x149002_1.length co47] 40 (0, 0))) := ⟨h3_⟩
                   have n4_ : Aside0 (IsS123 w0 w51 g s0_0 t156 t157) := ⟨h4_⟩
                   have n5_ : Aside0 (KeepBut w w51 g none) := ⟨h5_⟩
                   have n6_ : Aside0 (Below w0.heap.size w0 w51) := ⟨h6_⟩
                   clear HO_149002
                   clear BK147
                   clear BK148
                   clear HI0
                   clear HK
                   clear HB
                   clear h0_ h1_ h2_ h3_ h4_ h5_ h6_
                   have HO160 := n0_
                   have HO_149002 := n1_
                   have BK147 := n2_
                   have BK148 := n3_
                   have HI0 := n4_
                   have HK := n5_
                   have HB := n6_
                   clear n0_ n1_ n2_ n3_ n4_ n5_ n6_
                   have hHeld : w51.cell? ⟨gb148, 0, none⟩ = some (.int .i64 x149000_1) ∧ w51.cell? ⟨gb148, 1, none⟩ = some (.int .i64 x149001_1) ∧ w51.cell? ⟨gb148, 2, none⟩ = some (.slice Ao47 x149002_1.length co47) := hS_
                   refine norm_ (a' := ?_) ?_ ?_
                   rotate_left
                   ·simp only [putAll, Act.put, zA, zB, zC]
                    rfl
                   refine two_ (i := 9) (j := 20) (Ni := some 33) (Nj := some 7) #[true, true, true, true, true, true, true, true, true, true, true, true, true, false, true, true, false, false, false, false, false, false] #[true, true, true, true, true, true, true, true, true, false, true, true, true, false, true, true, false, false, false, false, true, false] rfl rfl rfl rfl (two_of HT_.out (by kernel_rfl)) (by decide) (by decide) (fun K hK => ?_) (fun K hK => ?_)
                   ·skip
                    refine Kd.R_append_rows_step k46 w.heap.size (by rfl) (.tmp 30) (.tmp 32) 38 46 (.agg #[(.int .i64 0), (.int .i64 0), (.string ⟨#[]⟩), (.string ⟨#[]⟩)]) 48 rfl Try.underlying38 info46 rfl (by decide) (by omega) v159 y158 x149002_1 _ _ _ (fun k_ => some k_ ≠ (.slice Ao47 x149002_1.length co47 : Value).ownBlock) (fun _ => False) rfl rfl ?aO ?aR (fun _ _ h => h) (fun _ h => h.elim) ?aF (Below.refl _ _) ?aS ?aL ?_
                    (case aR => repeat (first | exact (Kd.R_reads' HO_149002.out).2.2 | (with_reducible refine Kd.C_alloc ?_ _) | (with_reducible refine Kd.C_drewN ?_ _) | (with_reducible refine Kd.C_drew ?_)))
                    (case aF => exact (fun k_ hk => Kd.fresh' (Kd.R_lt (mR HO_149002.out)) k_ hk))
                    (case aO => exact (mR HO160.out))
                    (case aS => exact (keep_size (w := w) (g := g) (row := none) (mQ102_6 HK.out GW147.out GW148.out)))
                    (case aL => have := LMc16.out; omega)
                    intro v162 w52 ho hb hg hat
                    rw [← Ny161.out] at ho
                    have n0_ := mS (Kd.R_after (ok := (fun _ => True)) (by (with_reducible repeat (first | apply Kd.R_alloc | apply Kd.R_drewN | apply Kd.R_drew)); exact Kd.R_mono HO_149002.out (fun _ hk => ⟨trivial, hk⟩)) hg hat)
                    have n1_ := mS (blk_grown (g := gb147) (o := .cells #[.int .i64 0, .int .i64 0, .slice none 0 0] 40 (0, 0)) (mK BK147.out) hg (Kd.R_ne HO160.out BK147.out (by decide)))
                    have n2_ := mS (blk_grown (g := gb148) (o := .cells #[.int .i64 x149000_1, .int .i64 x149001_1, .slice Ao47 x149002_1.length co47] 40 (0, 0)) (mK BK148.out) hg (Kd.R_ne HO160.out BK148.out (by decide)))
                    have n3_ := mS (IsS123.grown (mI102_2 HI0.out NB0_147.out NB0_148.out) hg (IsS123.own_ne HI0.out HO160.out (by decide)))
                    have n4_ := mS (below_weaken (mH102_10 HB.out (IsS123.ge HI0.out) GE147.out GE148.out) HL.out hb)
                    have n5_ := mS (KeepBut.trans (mQ102_6 HK.out GW147.out GW148.out) (KeepBut.of_grown hg g) (Kd.R_base2 HO160.out))
                    have n6_ := mS (ho)
                    clear HO_149002
                    clear BK147
                    clear BK148
                    clear HI0
                    clear HB
                    clear HK
                    clear HO160
                    have HO_149002 := n0_
                    have BK147 := n1_
                    have BK148 := n2_
                    have HI0 := n3_
                    have HB := n4_
                    have HK := n5_
                    have HO163 := n6_
                    clear n0_ n1_ n2_ n3_ n4_ n5_ n6_
                    clear ho hb hg hat
                    refine hK.out _ _ ⟨mZ BK148.out 0, mZ BK148.out 1, mZ BK148.out 2⟩ (fun hHeld => ?_)
                    clear hK K
                    refine norm_ (a' := ?_) ?_ ?_
                    rotate_left
                    ·show Act.put _ (some 33) _ = _
                     simp only [Act.put, zA, zB, zC, i64_w, i32_w]
                     rfl
                    exact norm_ (by first | (simp only [putAll, Act.put, zA, zB, zC]; done) | (simp only [putAll, Act.put, zA, zB, zC]; rfl)) (hJ6_9 (_, _) _ ⟨hHeld, (mR HO163.out), (by (with_reducible repeat (first | apply Kd.R_alloc | apply Kd.R_drewN | apply Kd.R_drew)); exact Kd.R_mono HO_149002.out (fun _ hk => hk.2)), (mK BK147.out), (mK BK148.out), (mI102_2 HI0.out NB0_147.out NB0_148.out), (mQ102_6 HK.out GW147.out GW148.out), (mH102_10 HB.out (IsS123.ge HI0.out) GE147.out GE148.out)⟩)
                   ·skip
                    refine box_step ?hg (N := 7) ?hd (cs := #[.int .i64 0, .int .i64 0, .slice none 0 0]) (t := 40) ?hr ?_; (case hd => rfl); (case hg => rfl); (case hr => first | (go_simp; done) | (go_simp; rfl))
                    intro gb173 hg w52 hbox hb
                    have n0_ := mS (Kd.R_below (mR HO_149002.out) hb)
                    have n1_ := mS (Kd.R_below (mR HO160.out) hb)
                    have n2_ := mB BK147 hb
                    have n3_ := mB BK148 hb
                    have n4_ := mS (IsS123.below (mI102_2 HI0.out NB0_147.out NB0_148.out) hb)
                    have n5_ := mS (KeepBut.trans (mQ102_6 HK.out GW147.out GW148.out) (KeepBut.of_below hb g none) (.inl rfl))
                    have n6_ := mS (below_step (mH102_10 HB.out (IsS123.ge HI0.out) GE147.out GE148.out) hb)
                    have n7_ := mS (hbox)
                    have n8_ := mS ((by rw [hg]; exact (keep_size (w := w) (g := g) (row := none) (mQ102_6 HK.out GW147.out GW148.out)) : w.heap.size ≤ gb173))
                    have n9_ := mS ((Nat.le_trans HW0.out (by rw [hg]; exact (keep_size (w := w) (g := g) (row := none) (mQ102_6 HK.out GW147.out GW148.out)) : w.heap.size ≤ gb173) : w0.heap.size ≤ gb173))
                    have n10_ := mNl hg BK147.out
                    have n11_ := mNg hg BK147.out
                    have n12_ := mNl hg BK148.out
                    have n13_ := mNg hg BK148.out
                    have n14_ := mS ((by rw [hg]; exact Nat.ne_of_lt (IsS123.lt (show IsS123 w0 _ g s0_0 t156 t157 from mI102_2 HI0.out NB0_147.out NB0_148.out)) : g ≠ gb173))
                    have n15_ := mS ((by rw [hg]; exact Nat.ne_of_gt (IsS123.lt (show IsS123 w0 _ g s0_0 t156 t157 from mI102_2 HI0.out NB0_147.out NB0_148.out)) : gb173 ≠ g))
                    clear HO_149002
                    clear HO160
                    clear BK147
                    clear BK148
                    clear HI0
                    clear HK
                    clear HB
                    have HO_149002 := n0_
                    have HO160 := n1_
                    have BK147 := n2_
                    have BK148 := n3_
                    have HI0 := n4_
                    have HK := n5_
                    have HB := n6_
                    have BK173 := n7_
                    have GW173 := n8_
                    have GE173 := n9_
                    have NB147_173 := n10_
                    have NB173_147 := n11_
                    have NB148_173 := n12_
                    have NB173_148 := n13_
                    have NB0_173 := n14_
                    have NB173_0 := n15_
                    clear n0_ n1_ n2_ n3_ n4_ n5_ n6_ n7_ n8_ n9_ n10_ n11_ n12_ n13_ n14_ n15_
                    clear hb hbox hg
                    refine hK.out _ _ ⟨mZ BK148.out 0, mZ BK148.out 1, mZ BK148.out 2⟩ (fun hHeld => ?_)
                    clear hK K
                    refine norm_ (a' := ?_) ?_ ?_
                    rotate_left
                    ·show Act.put _ (some 7) _ = _
                     simp only [Act.put, zA, zB, zC, i64_w, i32_w]
                     rfl
                    exact norm_ (by first | (simp only [putAll, Act.put, zA, zB, zC]; done) | (simp only [putAll, Act.put, zA, zB, zC]; rfl)) (hJ6_20 (_, gb173) _ ⟨hHeld, (mR HO160.out), (mR HO_149002.out), (mK BK147.out), (mK BK148.out), (mK BK173.out), GW173.out, GE173.out, NB0_173.out, NB173_0.out, NB147_173.out, NB173_147.out, NB148_173.out, NB173_148.out, (mI102_3 HI0.out NB0_147.out NB0_148.out NB0_173.out), (mQ102_7 HK.out GW147.out GW148.out GW173.out), (mH102_11 HB.out (IsS123.ge HI0.out) GE147.out GE148.out GE173.out)⟩)
                 ·skip
                  rintro ⟨v159, gb173⟩ w52 ⟨hS_, h0_, h1_, h2_, h3_, h4_, h5_, h6_, h7_, h8_, h9_, h10_, h11_, h12_, h13_, h14_, h15_⟩
                  have n0_ : Aside0 (Kd.R k46 46 w52 w.heap.size (fun k_ => some k_ ≠ (.slice Ao47 x149002_1.length co47 : Value).ownBlock) v159 y158) := ⟨h0_⟩
                  have n1_ : Aside0 (Kd.R k46 46 w52 w.heap.size (fun k_ => some k_ ≠ (v159 : Value).ownBlock) (.slice Ao47 x149002_1.length co47) x149002_1) := ⟨h1_⟩
                  have n2_ : Aside0 (w52.heap[gb147]? = some (.cells #[.int .i64 0, .int .i64 0, .slice none 0 0] 40 (0, 0))) := ⟨h2_⟩
                  have n3_ : Aside0 (w52.heap[gb148]? = some (.cells #[.int .i64 x149000_1, .int .i64 x149001_1, .slice Ao47 x149002_1.length co47] 40 (0, 0))) := ⟨h3_⟩
                  have n4_ : Aside0 (w52.heap[gb173]? = some (.cells #[.int .i64 0, .int .i64 0, .slice none 0 0] 40 (0, 0))) := ⟨h4_⟩
                  have n5_ : Aside0 (w.heap.size ≤ gb173) := ⟨h5_⟩
                  have n6_ : Aside0 (w0.heap.size ≤ gb173) := ⟨h6_⟩
                  have n7_ : Aside0 (g ≠ gb173) := ⟨h7_⟩
                  have n8_ : Aside0 (gb173 ≠ g) := ⟨h8_⟩
                  have n9_ : Aside0 (gb147 ≠ gb173) := ⟨h9_⟩
                  have n10_ : Aside0 (gb173 ≠ gb147) := ⟨h10_⟩
                  have n11_ : Aside0 (gb148 ≠ gb173) := ⟨h11_⟩
                  have n12_ : Aside0 (gb173 ≠ gb148) := ⟨h12_⟩
                  have n13_ : Aside0 (IsS123 w0 w52 g s0_0 t156 t157) := ⟨h13_⟩
                  have n14_ : Aside0 (KeepBut w w52 g none) := ⟨h14_⟩
                  have n15_ : Aside0 (Below w0.heap.size w0 w52) := ⟨h15_⟩
                  clear HO_149002
                  clear BK147
                  clear BK148
                  clear HI0
                  clear HK
                  clear HB
                  clear h0_ h1_ h2_ h3_ h4_ h5_ h6_ h7_ h8_ h9_ h10_ h11_ h12_ h13_ h14_ h15_
                  have HO160 := n0_
                  have HO_149002 := n1_
                  have BK147 := n2_
                  have BK148 := n3_
                  have BK173 := n4_
                  have GW173 := n5_
                  have GE173 := n6_
                  have NB0_173 := n7_
                  have NB173_0 := n8_
                  have NB147_173 := n9_
                  have NB173_147 := n10_
                  have NB148_173 := n11_
                  have NB173_148 := n12_
                  have HI0 := n13_
                  have HK := n14_
                  have HB := n15_
                  clear n0_ n1_ n2_ n3_ n4_ n5_ n6_ n7_ n8_ n9_ n10_ n11_ n12_ n13_ n14_ n15_
                  have hHeld : w52.cell? ⟨gb148, 0, none⟩ = some (.int .i64 x149000_1) ∧ w52.cell? ⟨gb148, 1, none⟩ = some (.int .i64 x149001_1) ∧ w52.cell? ⟨gb148, 2, none⟩ = some (.slice Ao47 x149002_1.length co47) := hS_
                  refine norm_ (a' := ?_) ?_ ?_
                  rotate_left
                  ·simp only [putAll, Act.put, zA, zB, zC]
                   rfl
                  refine one_ (i := 9) (N := some 33) #[true, true, true, true, true, true, true, true, true, true, true, true, true, false, true, true, false, false, false, false, true, false] rfl rfl (one_of HT_.out (by kernel_rfl)) (by decide) (fun K hK => ?_)
                  refine Kd.R_append_rows_step k46 w.heap.size (by rfl) (.tmp 30) (.tmp 32) 38 46 (.agg #[(.int .i64 0), (.int .i64 0), (.string ⟨#[]⟩), (.string ⟨#[]⟩)]) 48 rfl Try.underlying38 info46 rfl (by decide) (by omega) v159 y158 x149002_1 _ _ _ (fun k_ => some k_ ≠ (.slice Ao47 x149002_1.length co47 : Value).ownBlock) (fun _ => False) rfl rfl ?aO ?aR (fun _ _ h => h) (fun _ h => h.elim) ?aF (Below.refl _ _) ?aS ?aL ?_
                  (case aR => repeat (first | exact (Kd.R_reads' HO_149002.out).2.2 | (with_reducible refine Kd.C_alloc ?_ _) | (with_reducible refine Kd.C_drewN ?_ _) | (with_reducible refine Kd.C_drew ?_)))
                  (case aF => exact (fun k_ hk => Kd.fresh' (Kd.R_lt (mR HO_149002.out)) k_ hk))
                  (case aO => exact (mR HO160.out))
                  (case aS => exact (keep_size (w := w) (g := g) (row := none) (mQ102_7 HK.out GW147.out GW148.out GW173.out)))
                  (case aL => have := LMc16.out; omega)
                  intro v162 w53 ho hb hg hat
                  rw [← Ny161.out] at ho
                  have n0_ := mS (Kd.R_after (ok := (fun _ => True)) (by (with_reducible repeat (first | apply Kd.R_alloc | apply Kd.R_drewN | apply Kd.R_drew)); exact Kd.R_mono HO_149002.out (fun _ hk => ⟨trivial, hk⟩)) hg hat)
                  have n1_ := mS (blk_grown (g := gb147) (o := .cells #[.int .i64 0, .int .i64 0, .slice none 0 0] 40 (0, 0)) (mK BK147.out) hg (Kd.R_ne HO160.out BK147.out (by decide)))
                  have n2_ := mS (blk_grown (g := gb148) (o := .cells #[.int .i64 x149000_1, .int .i64 x149001_1, .slice Ao47 x149002_1.length co47] 40 (0, 0)) (mK BK148.out) hg (Kd.R_ne HO160.out BK148.out (by decide)))
                  have n3_ := mS (IsS123.grown (mI102_3 HI0.out NB0_147.out NB0_148.out NB0_173.out) hg (IsS123.own_ne HI0.out HO160.out (by decide)))
                  have n4_ := mS (blk_grown (g := gb173) (o := .cells #[.int .i64 0, .int .i64 0, .slice none 0 0] 40 (0, 0)) (mK BK173.out) hg (Kd.R_ne HO160.out BK173.out (by decide)))
                  have n5_ := mS (below_weaken (mH102_11 HB.out (IsS123.ge HI0.out) GE147.out GE148.out GE173.out) HL.out hb)
                  have n6_ := mS (KeepBut.trans (mQ102_7 HK.out GW147.out GW148.out GW173.out) (KeepBut.of_grown hg g) (Kd.R_base2 HO160.out))
                  have n7_ := mS (ho)
                  clear HO_149002
                  clear BK147
                  clear BK148
                  clear HI0
                  clear BK173
                  clear HB
                  clear HK
                  clear HO160
                  have HO_149002 := n0_
                  have BK147 := n1_
                  have BK148 := n2_
                  have HI0 := n3_
                  have BK173 := n4_
                  have HB := n5_
                  have HK := n6_
                  have HO163 := n7_
                  clear n0_ n1_ n2_ n3_ n4_ n5_ n6_ n7_
                  clear ho hb hg hat
                  refine hK.out _ _ ⟨mZ BK148.out 0, mZ BK148.out 1, mZ BK148.out 2⟩ (fun hHeld => ?_)
                  clear hK K
                  refine norm_ (a' := ?_) ?_ ?_
                  rotate_left
                  ·show Act.put _ (some 33) _ = _
                   simp only [Act.put, zA, zB, zC, i64_w, i32_w]
                   rfl
                  exact norm_ (by first | (simp only [putAll, Act.put, zA, zB, zC]; done) | (simp only [putAll, Act.put, zA, zB, zC]; rfl)) (hJ6_9_20 (_, _, gb173) _ ⟨hHeld, (mR HO163.out), (by (with_reducible repeat (first | apply Kd.R_alloc | apply Kd.R_drewN | apply Kd.R_drew)); exact Kd.R_mono HO_149002.out (fun _ hk => hk.2)), (mK BK147.out), (mK BK148.out), (mK BK173.out), GW173.out, GE173.out, NB0_173.out, NB173_0.out, NB147_173.out, NB173_147.out, NB148_173.out, NB173_148.out, (mI102_3 HI0.out NB0_147.out NB0_148.out NB0_173.out), (mQ102_7 HK.out GW147.out GW148.out GW173.out), (mH102_11 HB.out (IsS123.ge HI0.out) GE147.out GE148.out GE173.out)⟩)
                ·skip
                 rintro ⟨v159, v162⟩ w52 ⟨hS_, h0_, h1_, h2_, h3_, h4_, h5_, h6_⟩
                 have n0_ : Aside0 (Kd.R k46 46 w52 w.heap.size (fun k_ => some k_ ≠ (.slice Ao47 x149002_1.length co47 : Value).ownBlock) v162 y161) := ⟨h0_⟩
                 have n1_ : Aside0 (Kd.R k46 46 w52 w.heap.size (fun k_ => some k_ ≠ (v162 : Value).ownBlock) (.slice Ao47 x149002_1.length co47) x149002_1) := ⟨h1_⟩
                 have n2_ : Aside0 (w52.heap[gb147]? = some (.cells #[.int .i64 0, .int .i64 0, .slice none 0 0] 40 (0, 0))) := ⟨h2_⟩
                 have n3_ : Aside0 (w52.heap[gb148]? = some (.cells #[.int .i64 x149000_1, .int .i64 x149001_1, .slice Ao47 x149002_1.length co47] 40 (0, 0))) := ⟨h3_⟩
                 have n4_ : Aside0 (IsS123 w0 w52 g s0_0 t156 t157) := ⟨h4_⟩
                 have n5_ : Aside0 (KeepBut w w52 g none) := ⟨h5_⟩
                 have n6_ : Aside0 (Below w0.heap.size w0 w52) := ⟨h6_⟩
                 clear HO_149002
                 clear BK147
                 clear BK148
                 clear HI0
                 clear HK
                 clear HB
                 clear h0_ h1_ h2_ h3_ h4_ h5_ h6_
                 have HO163 := n0_
                 have HO_149002 := n1_
                 have BK147 := n2_
                 have BK148 := n3_
                 have HI0 := n4_
                 have HK := n5_
                 have HB := n6_
                 clear n0_ n1_ n2_ n3_ n4_ n5_ n6_
                 have hHeld : w52.cell? ⟨gb148, 0, none⟩ = some (.int .i64 x149000_1) ∧ w52.cell? ⟨gb148, 1, none⟩ = some (.int .i64 x149001_1) ∧ w52.cell? ⟨gb148, 2, none⟩ = some (.slice Ao47 x149002_1.length co47) := hS_
                 refine norm_ (a' := ?_) ?_ ?_
                 rotate_left
                 ·simp only [putAll, Act.put, zA, zB, zC]
                  rfl
                 refine two_ (i := 13) (j := 20) (Ni := some 37) (Nj := some 7) (mb 16 6) #[true, true, true, true, true, true, true, true, true, true, true, true, true, false, true, true, false, false, false, false, true, false] rfl rfl rfl rfl (two_of HT_.out (by kernel_rfl)) (by decide) (by decide) (fun K hK => ?_) (fun K hK => ?_)
                 ·skip
                  refine goes_ Try.func73 (by kernel_rfl) rfl #[.pointer (some ⟨g, 0, none⟩), .int .i64 4] (by rfl) rfl rfl mA ?_
                  with_reducible refine (spec_l1Below.calls g s0_0 t156 t157 4 t164 t165 t166 w0 _ ?side1 ?side2 A17.out).mono ?_
                  (case side1 => repeat (first | (with_reducible first | exact HI0.out | apply IsS123.alloc | apply IsS123.drewN | apply IsS123.drew | apply IsS123.set_1 | apply IsS123.set_2 | refine IsS123.far ?_ NB0_147.out _ | refine IsS123.far ?_ NB0_148.out _) | exact HI0.out))
                  (case side2 => repeat (first | (with_reducible first | exact HB.out | apply below_alloc | apply pw_below_drewN | apply below_drew1 | refine below_set ?_ (IsS123.ge HI0.out) | refine below_set ?_ GE147.out | refine below_set ?_ GE148.out) | exact HB.out))
                  rintro e w53 ⟨rfl, hi, hb, hk⟩
                  refine ⟨_, rfl, ?_⟩
                  have n0_ := mS (Kd.R_mono (Kd.R_keep (IsS123.apart (show IsS123 w0 _ g s0_0 t156 t157 from mI102_2 HI0.out NB0_147.out NB0_148.out) (mR HO_149002.out) (by decide)) hk (fun _ h => h.2)) (fun _ h => h.1))
                  have n1_ := mS (KeepBut.blk hk (g' := gb147) (o := .cells #[.int .i64 0, .int .i64 0, .slice none 0 0] 40 (0, 0)) (mK BK147.out) NB147_0.out (by simp))
                  have n2_ := mS (KeepBut.blk hk (g' := gb148) (o := .cells #[.int .i64 x149000_1, .int .i64 x149001_1, .slice Ao47 x149002_1.length co47] 40 (0, 0)) (mK BK148.out) NB148_0.out (by simp))
                  have n3_ := mS (Kd.R_mono (Kd.R_keep (IsS123.apart (show IsS123 w0 _ g s0_0 t156 t157 from mI102_2 HI0.out NB0_147.out NB0_148.out) (mR HO163.out) (by decide)) hk (fun _ h => h.2)) (fun _ h => h.1))
                  have n4_ := mS (KeepBut.trans (mQ102_6 HK.out GW147.out GW148.out) hk (.inl rfl))
                  have n5_ := mS (hb)
                  have n6_ := mS (hi)
                  clear HO_149002
                  clear BK147
                  clear BK148
                  clear HO163
                  clear HK
                  clear HB
                  clear HI0
                  have HO_149002 := n0_
                  have BK147 := n1_
                  have BK148 := n2_
                  have HO163 := n3_
                  have HK := n4_
                  have HB := n5_
                  have HI0 := n6_
                  clear n0_ n1_ n2_ n3_ n4_ n5_ n6_
                  (try clear hb)
                  (try clear hb2)
                  (try clear hk)
                  (try clear hi)
                  refine hK.out _ _ ⟨mZ BK148.out 0, mZ BK148.out 1, mZ BK148.out 2⟩ (fun hHeld => ?_)
                  clear hK K
                  refine norm_ (a' := ?_) ?_ ?_
                  rotate_left
                  ·show Act.put _ (some 37) _ = _
                   simp only [Act.put, zA, zB, zC, i64_w, i32_w]
                   rfl
                  refine pure_ (i := 16) (N := some 40) (v := ?_) (a' := ?_) (mb 17 5) rfl rfl (any_of HT_.out (by kernel_rfl)) (fun _ _ _ h => h) (Or.inl ⟨by rfl, ?_⟩) ?_ ?_
                  rotate_left
                  ·intro w'
                   go_simp
                   with_reducible rfl
                  rotate_left
                  ·simp only [Act.put, zA, zB, zC, i64_w, i32_w]
                   rfl
                  exact norm_ (by first | (simp only [putAll, Act.put, zA, zB, zC]; done) | (simp only [putAll, Act.put, zA, zB, zC]; rfl)) (hJ6_9_13 (_, _) _ ⟨hHeld, (mR HO163.out), (mR HO_149002.out), (mK BK147.out), (mK BK148.out), (mI102_2 HI0.out NB0_147.out NB0_148.out), (mQ102_6 HK.out GW147.out GW148.out), (mH102_10 HB.out (IsS123.ge HI0.out) GE147.out GE148.out)⟩)
                 ·skip
                  refine box_step ?hg (N := 7) ?hd (cs := #[.int .i64 0, .int .i64 0, .slice none 0 0]) (t := 40) ?hr ?_; (case hd => rfl); (case hg => rfl); (case hr => first | (go_simp; done) | (go_simp; rfl))
                  intro gb173 hg w53 hbox hb
                  have n0_ := mS (Kd.R_below (mR HO_149002.out) hb)
                  have n1_ := mS (Kd.R_below (mR HO163.out) hb)
                  have n2_ := mB BK147 hb
                  have n3_ := mB BK148 hb
                  have n4_ := mS (IsS123.below (mI102_2 HI0.out NB0_147.out NB0_148.out) hb)
                  have n5_ := mS (KeepBut.trans (mQ102_6 HK.out GW147.out GW148.out) (KeepBut.of_below hb g none) (.inl rfl))
                  have n6_ := mS (below_step (mH102_10 HB.out (IsS123.ge HI0.out) GE147.out GE148.out) hb)
                  have n7_ := mS (hbox)
                  have n8_ := mS ((by rw [hg]; exact (keep_size (w := w) (g := g) (row := none) (mQ102_6 HK.out GW147.out GW148.out)) : w.heap.size ≤ gb173))
                  have n9_ := mS ((Nat.le_trans HW0.out (by rw [hg]; exact (keep_size (w := w) (g := g) (row := none) (mQ102_6 HK.out GW147.out GW148.out)) : w.heap.size ≤ gb173) : w0.heap.size ≤ gb173))
                  have n10_ := mNl hg BK147.out
                  have n11_ := mNg hg BK147.out
                  have n12_ := mNl hg BK148.out
                  have n13_ := mNg hg BK148.out
                  have n14_ := mS ((by rw [hg]; exact Nat.ne_of_lt (IsS123.lt (show IsS123 w0 _ g s0_0 t156 t157 from mI102_2 HI0.out NB0_147.out NB0_148.out)) : g ≠ gb173))
                  have n15_ := mS ((by rw [hg]; exact Nat.ne_of_gt (IsS123.lt (show IsS123 w0 _ g s0_0 t156 t157 from mI102_2 HI0.out NB0_147.out NB0_148.out)) : gb173 ≠ g))
                  clear HO_149002
                  clear HO163
                  clear BK147
                  clear BK148
                  clear HI0
                  clear HK
                  clear HB
                  have HO_149002 := n0_
                  have HO163 := n1_
                  have BK147 := n2_
                  have BK148 := n3_
                  have HI0 := n4_
                  have HK := n5_
                  have HB := n6_
                  have BK173 := n7_
                  have GW173 := n8_
                  have GE173 := n9_
                  have NB147_173 := n10_
                  have NB173_147 := n11_
                  have NB148_173 := n12_
                  have NB173_148 := n13_
                  have NB0_173 := n14_
                  have NB173_0 := n15_
                  clear n0_ n1_ n2_ n3_ n4_ n5_ n6_ n7_ n8_ n9_ n10_ n11_ n12_ n13_ n14_ n15_
                  clear hb hbox hg
                  refine hK.out _ _ ⟨mZ BK148.out 0, mZ BK148.out 1, mZ BK148.out 2⟩ (fun hHeld => ?_)
                  clear hK K
                  refine norm_ (a' := ?_) ?_ ?_
                  rotate_left
                  ·show Act.put _ (some 7) _ = _
                   simp only [Act.put, zA, zB, zC, i64_w, i32_w]
                   rfl
                  exact norm_ (by first | (simp only [putAll, Act.put, zA, zB, zC]; done) | (simp only [putAll, Act.put, zA, zB, zC]; rfl)) (hJ6_9_20 (_, _, gb173) _ ⟨hHeld, (mR HO163.out), (mR HO_149002.out), (mK BK147.out), (mK BK148.out), (mK BK173.out), GW173.out, GE173.out, NB0_173.out, NB173_0.out, NB147_173.out, NB173_147.out, NB148_173.out, NB173_148.out, (mI102_3 HI0.out NB0_147.out NB0_148.out NB0_173.out), (mQ102_7 HK.out GW147.out GW148.out GW173.out), (mH102_11 HB.out (IsS123.ge HI0.out) GE147.out GE148.out GE173.out)⟩)
               ·skip
                rintro ⟨v159, v162, gb173⟩ w53 ⟨hS_, h0_, h1_, h2_, h3_, h4_, h5_, h6_, h7_, h8_, h9_, h10_, h11_, h12_, h13_, h14_, h15_⟩
                have n0_ : Aside0 (Kd.R k46 46 w53 w.heap.size (fun k_ => some k_ ≠ (.slice Ao47 x149002_1.length co47 : Value).ownBlock) v162 y161) := ⟨h0_⟩
                have n1_ : Aside0 (Kd.R k46 46 w53 w.heap.size (fun k_ => some k_ ≠ (v162 : Value).ownBlock) (.slice Ao47 x149002_1.length co47) x149002_1) := ⟨h1_⟩
                have n2_ : Aside0 (w53.heap[gb147]? = some (.cells #[.int .i64 0, .int .i64 0, .slice none 0 0] 40 (0, 0))) := ⟨h2_⟩
                have n3_ : Aside0 (w53.heap[gb148]? = some (.cells #[.int .i64 x149000_1, .int .i64 x149001_1, .slice Ao47 x149002_1.length co47] 40 (0, 0))) := ⟨h3_⟩
                have n4_ : Aside0 (w53.heap[gb173]? = some (.cells #[.int .i64 0, .int .i64 0, .slice none 0 0] 40 (0, 0))) := ⟨h4_⟩
                have n5_ : Aside0 (w.heap.size ≤ gb173) := ⟨h5_⟩
                have n6_ : Aside0 (w0.heap.size ≤ gb173) := ⟨h6_⟩
                have n7_ : Aside0 (g ≠ gb173) := ⟨h7_⟩
                have n8_ : Aside0 (gb173 ≠ g) := ⟨h8_⟩
                have n9_ : Aside0 (gb147 ≠ gb173) := ⟨h9_⟩
                have n10_ : Aside0 (gb173 ≠ gb147) := ⟨h10_⟩
                have n11_ : Aside0 (gb148 ≠ gb173) := ⟨h11_⟩
                have n12_ : Aside0 (gb173 ≠ gb148) := ⟨h12_⟩
                have n13_ : Aside0 (IsS123 w0 w53 g s0_0 t156 t157) := ⟨h13_⟩
                have n14_ : Aside0 (KeepBut w w53 g none) := ⟨h14_⟩
                have n15_ : Aside0 (Below w0.heap.size w0 w53) := ⟨h15_⟩
                clear HO_149002
                clear BK147
                clear BK148
                clear HI0
                clear HK
                clear HB
                clear h0_ h1_ h2_ h3_ h4_ h5_ h6_ h7_ h8_ h9_ h10_ h11_ h12_ h13_ h14_ h15_
                have HO163 := n0_
                have HO_149002 := n1_
                have BK147 := n2_
                have BK148 := n3_
                have BK173 := n4_
                have GW173 := n5_
                have GE173 := n6_
                have NB0_173 := n7_
                have NB173_0 := n8_
                have NB147_173 := n9_
                have NB173_147 := n10_
                have NB148_173 := n11_
                have NB173_148 := n12_
                have HI0 := n13_
                have HK := n14_
                have HB := n15_
                clear n0_ n1_ n2_ n3_ n4_ n5_ n6_ n7_ n8_ n9_ n10_ n11_ n12_ n13_ n14_ n15_
                have hHeld : w53.cell? ⟨gb148, 0, none⟩ = some (.int .i64 x149000_1) ∧ w53.cell? ⟨gb148, 1, none⟩ = some (.int .i64 x149001_1) ∧ w53.cell? ⟨gb148, 2, none⟩ = some (.slice Ao47 x149002_1.length co47) := hS_
                refine norm_ (a' := ?_) ?_ ?_
                rotate_left
                ·simp only [putAll, Act.put, zA, zB, zC]
                 rfl
                refine one_ (i := 13) (N := some 37) #[true, true, true, true, true, true, true, true, true, true, true, true, true, true, true, true, false, false, false, false, true, false] rfl rfl (one_of HT_.out (by kernel_rfl)) (by decide) (fun K hK => ?_)
                refine goes_ Try.func73 (by kernel_rfl) rfl #[.pointer (some ⟨g, 0, none⟩), .int .i64 4] (by rfl) rfl rfl mA ?_
                with_reducible refine (spec_l1Below.calls g s0_0 t156 t157 4 t164 t165 t166 w0 _ ?side1 ?side2 A17.out).mono ?_
                (case side1 => repeat (first | (with_reducible first | exact HI0.out | apply IsS123.alloc | apply IsS123.drewN | apply IsS123.drew | apply IsS123.set_1 | apply IsS123.set_2 | refine IsS123.far ?_ NB0_147.out _ | refine IsS123.far ?_ NB0_148.out _ | refine IsS123.far ?_ NB0_173.out _) | exact HI0.out))
                (case side2 => repeat (first | (with_reducible first | exact HB.out | apply below_alloc | apply pw_below_drewN | apply below_drew1 | refine below_set ?_ (IsS123.ge HI0.out) | refine below_set ?_ GE147.out | refine below_set ?_ GE148.out | refine below_set ?_ GE173.out) | exact HB.out))
                rintro e w54 ⟨rfl, hi, hb, hk⟩
                refine ⟨_, rfl, ?_⟩
                have n0_ := mS (Kd.R_mono (Kd.R_keep (IsS123.apart (show IsS123 w0 _ g s0_0 t156 t157 from mI102_3 HI0.out NB0_147.out NB0_148.out NB0_173.out) (mR HO_149002.out) (by decide)) hk (fun _ h => h.2)) (fun _ h => h.1))
                have n1_ := mS (KeepBut.blk hk (g' := gb147) (o := .cells #[.int .i64 0, .int .i64 0, .slice none 0 0] 40 (0, 0)) (mK BK147.out) NB147_0.out (by simp))
                have n2_ := mS (KeepBut.blk hk (g' := gb148) (o := .cells #[.int .i64 x149000_1, .int .i64 x149001_1, .slice Ao47 x149002_1.length co47] 40 (0, 0)) (mK BK148.out) NB148_0.out (by simp))
                have n3_ := mS (Kd.R_mono (Kd.R_keep (IsS123.apart (show IsS123 w0 _ g s0_0 t156 t157 from mI102_3 HI0.out NB0_147.out NB0_148.out NB0_173.out) (mR HO163.out) (by decide)) hk (fun _ h => h.2)) (fun _ h => h.1))
                have n4_ := mS (KeepBut.blk hk (g' := gb173) (o := .cells #[.int .i64 0, .int .i64 0, .slice none 0 0] 40 (0, 0)) (mK BK173.out) NB173_0.out (by simp))
                have n5_ := mS (KeepBut.trans (mQ102_7 HK.out GW147.out GW148.out GW173.out) hk (.inl rfl))
                have n6_ := mS (hb)
                have n7_ := mS (hi)
                clear HO_149002
                clear BK147
                clear BK148
                clear HO163
                clear BK173
                clear HK
                clear HB
                clear HI0
                have HO_149002 := n0_
                have BK147 := n1_
                have BK148 := n2_
                have HO163 := n3_
                have BK173 := n4_
                have HK := n5_
                have HB := n6_
                have HI0 := n7_
                clear n0_ n1_ n2_ n3_ n4_ n5_ n6_ n7_
                (try clear hb)
                (try clear hb2)
                (try clear hk)
                (try clear hi)
                refine hK.out _ _ ⟨mZ BK148.out 0, mZ BK148.out 1, mZ BK148.out 2⟩ (fun hHeld => ?_)
                clear hK K
                refine norm_ (a' := ?_) ?_ ?_
                rotate_left
                ·show Act.put _ (some 37) _ = _
                 simp only [Act.put, zA, zB, zC, i64_w, i32_w]
                 rfl
                refine pure_ (i := 16) (N := some 40) (v := ?_) (a' := ?_) #[true, true, true, true, true, true, true, true, true, true, true, true, true, true, true, true, true, false, false, false, true, false] rfl rfl (any_of HT_.out (by kernel_rfl)) (fun _ _ _ h => h) (Or.inl ⟨by rfl, ?_⟩) ?_ ?_
                rotate_left
                ·intro w'
                 go_simp
                 with_reducible rfl
                rotate_left
                ·simp only [Act.put, zA, zB, zC, i64_w, i32_w]
                 rfl
                exact norm_ (by first | (simp only [putAll, Act.put, zA, zB, zC]; done) | (simp only [putAll, Act.put, zA, zB, zC]; rfl)) (hJ6_9_13_20 (_, _, gb173) _ ⟨hHeld, (mR HO163.out), (mR HO_149002.out), (mK BK147.out), (mK BK148.out), (mK BK173.out), GW173.out, GE173.out, NB0_173.out, NB173_0.out, NB147_173.out, NB173_147.out, NB148_173.out, NB173_148.out, (mI102_3 HI0.out NB0_147.out NB0_148.out NB0_173.out), (mQ102_7 HK.out GW147.out GW148.out GW173.out), (mH102_11 HB.out (IsS123.ge HI0.out) GE147.out GE148.out GE173.out)⟩)
              ·skip
               rintro ⟨v159, v162⟩ w53 ⟨hS_, h0_, h1_, h2_, h3_, h4_, h5_, h6_⟩
               have n0_ : Aside0 (Kd.R k46 46 w53 w.heap.size (fun k_ => some k_ ≠ (.slice Ao47 x149002_1.length co47 : Value).ownBlock) v162 y161) := ⟨h0_⟩
               have n1_ : Aside0 (Kd.R k46 46 w53 w.heap.size (fun k_ => some k_ ≠ (v162 : Value).ownBlock) (.slice Ao47 x149002_1.length co47) x149002_1) := ⟨h1_⟩
               have n2_ : Aside0 (w53.heap[gb147]? = some (.cells #[.int .i64 0, .int .i64 0, .slice none 0 0] 40 (0, 0))) := ⟨h2_⟩
               have n3_ : Aside0 (w53.heap[gb148]? = some (.cells #[.int .i64 x149000_1, .int .i64 x149001_1, .slice Ao47 x149002_1.length co47] 40 (0, 0))) := ⟨h3_⟩
               have n4_ : Aside0 (IsS123 w0 w53 g s0_0 t165 t166) := ⟨h4_⟩
               have n5_ : Aside0 (KeepBut w w53 g none) := ⟨h5_⟩
               have n6_ : Aside0 (Below w0.heap.size w0 w53) := ⟨h6_⟩
               clear HO_149002
               clear BK147
               clear BK148
               clear HI0
               clear HK
               clear HB
               clear h0_ h1_ h2_ h3_ h4_ h5_ h6_
               have HO163 := n0_
               have HO_149002 := n1_
               have BK147 := n2_
               have BK148 := n3_
               have HI0 := n4_
               have HK := n5_
               have HB := n6_
               clear n0_ n1_ n2_ n3_ n4_ n5_ n6_
               have hHeld : w53.cell? ⟨gb148, 0, none⟩ = some (.int .i64 x149000_1) ∧ w53.cell? ⟨gb148, 1, none⟩ = some (.int .i64 x149001_1) ∧ w53.cell? ⟨gb148, 2, none⟩ = some (.slice Ao47 x149002_1.length co47) := hS_
               refine norm_ (a' := ?_) ?_ ?_
               rotate_left
               ·simp only [putAll, Act.put, zA, zB, zC]
                rfl
               refine two_ (i := 17) (j := 20) (Ni := some 41) (Nj := some 7) (mb 18 4) #[true, true, true, true, true, true, true, true, true, true, true, true, true, true, true, true, true, false, false, false, true, false] rfl rfl rfl rfl (two_of HT_.out (by kernel_rfl)) (by decide) (by decide) (fun K hK => ?_) (fun K hK => ?_)
               ·skip
                refine Kd.R_lit_step k46 _ 46 ?hg (N := 41) ?hd (xs := ([(⟨x149000_1, t164, x5_11, x6_11⟩ : S46)] : List (S46))) (inner := [.int .i64 x149000_1, .int .i64 t164, .string x5_11, .string x6_11]) (ok := fun _ => True) (okp := fun _ => True) ?hr ?hp (fun _ hk => hk) trivial (Below.refl _ _) (Nat.le_refl _) (by simp) ?_; (case hd => rfl); (case hg => rfl); (case hr => first | (go_simp; done) | (go_simp; rfl)); (case hp => exact (Reps.c4 (show Kd.M k46 _ _ _ (⟨x149000_1, t164, x5_11, x6_11⟩ : S46) [.int .i64 x149000_1, .int .i64 t164, .string x5_11, .string x6_11] from (k46_mkM _ _ _ (⟨x149000_1, t164, x5_11, x6_11⟩ : S46) )) (Reps.none _ _)))
                intro v168 w54 ho55 hb hg_ hnew_
                clear hg_ hnew_
                (first | rw [← Ny167.out] at ho55 | (simp only [Int.reduceToNat] at ho55; rw [← Ny167.out] at ho55))
                have n0_ := mS (Kd.R_elder' (mR HO_149002.out) (Kd.R_base ho55) hb)
                have n1_ := mS (Kd.R_elder' (mR HO163.out) (Kd.R_base ho55) hb)
                have n2_ := mS (Kd.R_lower (Kd.R_new' (Kd.R_new' ho55 (Kd.R_lt (mR HO_149002.out))) (Kd.R_lt (mR HO163.out))) (keep_size (w := w) (g := g) (row := none) (mQ102_6 HK.out GW147.out GW148.out)))
                have n3_ := mB BK147 hb
                have n4_ := mB BK148 hb
                have n5_ := mS (IsS123.below (mI102_2 HI0.out NB0_147.out NB0_148.out) hb)
                have n6_ := mS (KeepBut.trans (mQ102_6 HK.out GW147.out GW148.out) (KeepBut.of_below hb g none) (.inl rfl))
                have n7_ := mS (below_step (mH102_10 HB.out (IsS123.ge HI0.out) GE147.out GE148.out) hb)
                clear HO_149002
                clear HO163
                clear BK147
                clear BK148
                clear HI0
                clear HK
                clear HB
                have HO_149002 := n0_
                have HO163 := n1_
                have HO169 := n2_
                have BK147 := n3_
                have BK148 := n4_
                have HI0 := n5_
                have HK := n6_
                have HB := n7_
                clear n0_ n1_ n2_ n3_ n4_ n5_ n6_ n7_
                clear hb ho55
                refine hK.out _ _ ⟨mZ BK148.out 0, mZ BK148.out 1, mZ BK148.out 2⟩ (fun hHeld => ?_)
                clear hK K
                refine norm_ (a' := ?_) ?_ ?_
                rotate_left
                ·show Act.put _ (some 41) _ = _
                 simp only [Act.put, zA, zB, zC, i64_w, i32_w]
                 rfl
                exact norm_ (by first | (simp only [putAll, Act.put, zA, zB, zC]; done) | (simp only [putAll, Act.put, zA, zB, zC]; rfl)) (hJ6_9_13_17 (_, _, _) _ ⟨hHeld, (by (with_reducible repeat (first | apply Kd.R_alloc | apply Kd.R_drewN | apply Kd.R_drew)); exact Kd.R_mono HO163.out (fun _ hk => ⟨hk.2, hk.1⟩)), (by (with_reducible repeat (first | apply Kd.R_alloc | apply Kd.R_drewN | apply Kd.R_drew)); exact Kd.R_mono HO169.out (fun _ hk => ⟨hk.2, hk.1.2⟩)), (mR HO_149002.out), (mK BK147.out), (mK BK148.out), (mI102_2 HI0.out NB0_147.out NB0_148.out), (mQ102_6 HK.out GW147.out GW148.out), (mH102_10 HB.out (IsS123.ge HI0.out) GE147.out GE148.out)⟩)
               ·skip
                refine box_step ?hg (N := 7) ?hd (cs := #[.int .i64 0, .int .i64 0, .slice none 0 0]) (t := 40) ?hr ?_; (case hd => rfl); (case hg => rfl); (case hr => first | (go_simp; done) | (go_simp; rfl))
                intro gb173 hg w54 hbox hb
                have n0_ := mS (Kd.R_below (mR HO_149002.out) hb)
                have n1_ := mS (Kd.R_below (mR HO163.out) hb)
                have n2_ := mB BK147 hb
                have n3_ := mB BK148 hb
                have n4_ := mS (IsS123.below (mI102_2 HI0.out NB0_147.out NB0_148.out) hb)
                have n5_ := mS (KeepBut.trans (mQ102_6 HK.out GW147.out GW148.out) (KeepBut.of_below hb g none) (.inl rfl))
                have n6_ := mS (below_step (mH102_10 HB.out (IsS123.ge HI0.out) GE147.out GE148.out) hb)
                have n7_ := mS (hbox)
                have n8_ := mS ((by rw [hg]; exact (keep_size (w := w) (g := g) (row := none) (mQ102_6 HK.out GW147.out GW148.out)) : w.heap.size ≤ gb173))
                have n9_ := mS ((Nat.le_trans HW0.out (by rw [hg]; exact (keep_size (w := w) (g := g) (row := none) (mQ102_6 HK.out GW147.out GW148.out)) : w.heap.size ≤ gb173) : w0.heap.size ≤ gb173))
                have n10_ := mNl hg BK147.out
                have n11_ := mNg hg BK147.out
                have n12_ := mNl hg BK148.out
                have n13_ := mNg hg BK148.out
                have n14_ := mS ((by rw [hg]; exact Nat.ne_of_lt (IsS123.lt (show IsS123 w0 _ g s0_0 t165 t166 from mI102_2 HI0.out NB0_147.out NB0_148.out)) : g ≠ gb173))
                have n15_ := mS ((by rw [hg]; exact Nat.ne_of_gt (IsS123.lt (show IsS123 w0 _ g s0_0 t165 t166 from mI102_2 HI0.out NB0_147.out NB0_148.out)) : gb173 ≠ g))
                clear HO_149002
                clear HO163
                clear BK147
                clear BK148
                clear HI0
                clear HK
                clear HB
                have HO_149002 := n0_
                have HO163 := n1_
                have BK147 := n2_
                have BK148 := n3_
                have HI0 := n4_
                have HK := n5_
                have HB := n6_
                have BK173 := n7_
                have GW173 := n8_
                have GE173 := n9_
                have NB147_173 := n10_
                have NB173_147 := n11_
                have NB148_173 := n12_
                have NB173_148 := n13_
                have NB0_173 := n14_
                have NB173_0 := n15_
                clear n0_ n1_ n2_ n3_ n4_ n5_ n6_ n7_ n8_ n9_ n10_ n11_ n12_ n13_ n14_ n15_
                clear hb hbox hg
                refine hK.out _ _ ⟨mZ BK148.out 0, mZ BK148.out 1, mZ BK148.out 2⟩ (fun hHeld => ?_)
                clear hK K
                refine norm_ (a' := ?_) ?_ ?_
                rotate_left
                ·show Act.put _ (some 7) _ = _
                 simp only [Act.put, zA, zB, zC, i64_w, i32_w]
                 rfl
                exact norm_ (by first | (simp only [putAll, Act.put, zA, zB, zC]; done) | (simp only [putAll, Act.put, zA, zB, zC]; rfl)) (hJ6_9_13_20 (_, _, gb173) _ ⟨hHeld, (mR HO163.out), (mR HO_149002.out), (mK BK147.out), (mK BK148.out), (mK BK173.out), GW173.out, GE173.out, NB0_173.out, NB173_0.out, NB147_173.out, NB173_147.out, NB148_173.out, NB173_148.out, (mI102_3 HI0.out NB0_147.out NB0_148.out NB0_173.out), (mQ102_7 HK.out GW147.out GW148.out GW173.out), (mH102_11 HB.out (IsS123.ge HI0.out) GE147.out GE148.out GE173.out)⟩)
             ·skip
              rintro ⟨v159, v162, gb173⟩ w54 ⟨hS_, h0_, h1_, h2_, h3_, h4_, h5_, h6_, h7_, h8_, h9_, h10_, h11_, h12_, h13_, h14_, h15_⟩
              have n0_ : Aside0 (Kd.R k46 46 w54 w.heap.size (fun k_ => some k_ ≠ (.slice Ao47 x149002_1.length co47 : Value).ownBlock) v162 y161) := ⟨h0_⟩
              have n1_ : Aside0 (Kd.R k46 46 w54 w.heap.size (fun k_ => some k_ ≠ (v162 : Value).ownBlock) (.slice Ao47 x149002_1.length co47) x149002_1) := ⟨h1_⟩
              have n2_ : Aside0 (w54.heap[gb147]? = some (.cells #[.int .i64 0, .int .i64 0, .slice none 0 0] 40 (0, 0))) := ⟨h2_⟩
              have n3_ : Aside0 (w54.heap[gb148]? = some (.cells #[.int .i64 x149000_1, .int .i64 x149001_1, .slice Ao47 x149002_1.length co47] 40 (0, 0))) := ⟨h3_⟩
              have n4_ : Aside0 (w54.heap[gb173]? = some (.cells #[.int .i64 0, .int .i64 0, .slice none 0 0] 40 (0, 0))) := ⟨h4_⟩
              have n5_ : Aside0 (w.heap.size ≤ gb173) := ⟨h5_⟩
              have n6_ : Aside0 (w0.heap.size ≤ gb173) := ⟨h6_⟩
              have n7_ : Aside0 (g ≠ gb173) := ⟨h7_⟩
              have n8_ : Aside0 (gb173 ≠ g) := ⟨h8_⟩
              have n9_ : Aside0 (gb147 ≠ gb173) := ⟨h9_⟩
              have n10_ : Aside0 (gb173 ≠ gb147) := ⟨h10_⟩
              have n11_ : Aside0 (gb148 ≠ gb173) := ⟨h11_⟩
              have n12_ : Aside0 (gb173 ≠ gb148) := ⟨h12_⟩
              have n13_ : Aside0 (IsS123 w0 w54 g s0_0 t165 t166) := ⟨h13_⟩
              have n14_ : Aside0 (KeepBut w w54 g none) := ⟨h14_⟩
              have n15_ : Aside0 (Below w0.heap.size w0 w54) := ⟨h15_⟩
              clear HO_149002
              clear BK147
              clear BK148
              clear HI0
              clear HK
              clear HB
              clear h0_ h1_ h2_ h3_ h4_ h5_ h6_ h7_ h8_ h9_ h10_ h11_ h12_ h13_ h14_ h15_
              have HO163 := n0_
              have HO_149002 := n1_
              have BK147 := n2_
              have BK148 := n3_
              have BK173 := n4_
              have GW173 := n5_
              have GE173 := n6_
              have NB0_173 := n7_
              have NB173_0 := n8_
              have NB147_173 := n9_
              have NB173_147 := n10_
              have NB148_173 := n11_
              have NB173_148 := n12_
              have HI0 := n13_
              have HK := n14_
              have HB := n15_
              clear n0_ n1_ n2_ n3_ n4_ n5_ n6_ n7_ n8_ n9_ n10_ n11_ n12_ n13_ n14_ n15_
              have hHeld : w54.cell? ⟨gb148, 0, none⟩ = some (.int .i64 x149000_1) ∧ w54.cell? ⟨gb148, 1, none⟩ = some (.int .i64 x149001_1) ∧ w54.cell? ⟨gb148, 2, none⟩ = some (.slice Ao47 x149002_1.length co47) := hS_
              refine norm_ (a' := ?_) ?_ ?_
              rotate_left
              ·simp only [putAll, Act.put, zA, zB, zC]
               rfl
              refine one_ (i := 17) (N := some 41) #[true, true, true, true, true, true, true, true, true, true, true, true, true, true, true, true, true, true, false, false, true, false] rfl rfl (one_of HT_.out (by kernel_rfl)) (by decide) (fun K hK => ?_)
              refine Kd.R_lit_step k46 _ 46 ?hg (N := 41) ?hd (xs := ([(⟨x149000_1, t164, x5_11, x6_11⟩ : S46)] : List (S46))) (inner := [.int .i64 x149000_1, .int .i64 t164, .string x5_11, .string x6_11]) (ok := fun _ => True) (okp := fun _ => True) ?hr ?hp (fun _ hk => hk) trivial (Below.refl _ _) (Nat.le_refl _) (by simp) ?_; (case hd => rfl); (case hg => rfl); (case hr => first | (go_simp; done) | (go_simp; rfl)); (case hp => exact (Reps.c4 (show Kd.M k46 _ _ _ (⟨x149000_1, t164, x5_11, x6_11⟩ : S46) [.int .i64 x149000_1, .int .i64 t164, .string x5_11, .string x6_11] from (k46_mkM _ _ _ (⟨x149000_1, t164, x5_11, x6_11⟩ : S46) )) (Reps.none _ _)))
              intro v168 w55 ho56 hb hg_ hnew_
              clear hg_ hnew_
              (first | rw [← Ny167.out] at ho56 | (simp only [Int.reduceToNat] at ho56; rw [← Ny167.out] at ho56))
              have n0_ := mS (Kd.R_elder' (mR HO_149002.out) (Kd.R_base ho56) hb)
              have n1_ := mS (Kd.R_elder' (mR HO163.out) (Kd.R_base ho56) hb)
              have n2_ := mS (Kd.R_lower (Kd.R_new' (Kd.R_new' ho56 (Kd.R_lt (mR HO_149002.out))) (Kd.R_lt (mR HO163.out))) (keep_size (w := w) (g := g) (row := none) (mQ102_7 HK.out GW147.out GW148.out GW173.out)))
              have n3_ := mB BK147 hb
              have n4_ := mB BK148 hb
              have n5_ := mS (IsS123.below (mI102_3 HI0.out NB0_147.out NB0_148.out NB0_173.out) hb)
              have n6_ := mB BK173 hb
              have n7_ := mS (KeepBut.trans (mQ102_7 HK.out GW147.out GW148.out GW173.out) (KeepBut.of_below hb g none) (.inl rfl))
              have n8_ := mS (below_step (mH102_11 HB.out (IsS123.ge HI0.out) GE147.out GE148.out GE173.out) hb)
              clear HO_149002
              clear HO163
              clear BK147
              clear BK148
              clear HI0
              clear BK173
              clear HK
              clear HB
              have HO_149002 := n0_
              have HO163 := n1_
              have HO169 := n2_
              have BK147 := n3_
              have BK148 := n4_
              have HI0 := n5_
              have BK173 := n6_
              have HK := n7_
              have HB := n8_
              clear n0_ n1_ n2_ n3_ n4_ n5_ n6_ n7_ n8_
              clear hb ho56
              refine hK.out _ _ ⟨mZ BK148.out 0, mZ BK148.out 1, mZ BK148.out 2⟩ (fun hHeld => ?_)
              clear hK K
              refine norm_ (a' := ?_) ?_ ?_
              rotate_left
              ·show Act.put _ (some 41) _ = _
               simp only [Act.put, zA, zB, zC, i64_w, i32_w]
               rfl
              exact norm_ (by first | (simp only [putAll, Act.put, zA, zB, zC]; done) | (simp only [putAll, Act.put, zA, zB, zC]; rfl)) (hJ6_9_13_17_20 (_, _, _, gb173) _ ⟨hHeld, (by (with_reducible repeat (first | apply Kd.R_alloc | apply Kd.R_drewN | apply Kd.R_drew)); exact Kd.R_mono HO163.out (fun _ hk => ⟨hk.2, hk.1⟩)), (by (with_reducible repeat (first | apply Kd.R_alloc | apply Kd.R_drewN | apply Kd.R_drew)); exact Kd.R_mono HO169.out (fun _ hk => ⟨hk.2, hk.1.2⟩)), (mR HO_149002.out), (mK BK147.out), (mK BK148.out), (mK BK173.out), GW173.out, GE173.out, NB0_173.out, NB173_0.out, NB147_173.out, NB173_147.out, NB148_173.out, NB173_148.out, (mI102_3 HI0.out NB0_147.out NB0_148.out NB0_173.out), (mQ102_7 HK.out GW147.out GW148.out GW173.out), (mH102_11 HB.out (IsS123.ge HI0.out) GE147.out GE148.out GE173.out)⟩)
            ·skip
             rintro ⟨v159, v162, v168⟩ w55 ⟨hS_, h0_, h1_, h2_, h3_, h4_, h5_, h6_, h7_⟩
             have n0_ : Aside0 (Kd.R k46 46 w55 w.heap.size (fun k_ => some k_ ≠ (v168 : Value).ownBlock ∧ some k_ ≠ (.slice Ao47 x149002_1.length co47 : Value).ownBlock) v162 y161) := ⟨h0_⟩
             have n1_ : Aside0 (Kd.R k46 46 w55 w.heap.size (fun k_ => some k_ ≠ (v162 : Value).ownBlock ∧ some k_ ≠ (.slice Ao47 x149002_1.length co47 : Value).ownBlock) v168 y167) := ⟨h1_⟩
             have n2_ : Aside0 (Kd.R k46 46 w55 w.heap.size (fun k_ => some k_ ≠ (v162 : Value).ownBlock ∧ some k_ ≠ (v168 : Value).ownBlock) (.slice Ao47 x149002_1.length co47) x149002_1) := ⟨h2_⟩
             have n3_ : Aside0 (w55.heap[gb147]? = some (.cells #[.int .i64 0, .int .i64 0, .slice none 0 0] 40 (0, 0))) := ⟨h3_⟩
             have n4_ : Aside0 (w55.heap[gb148]? = some (.cells #[.int .i64 x149000_1, .int .i64 x149001_1, .slice Ao47 x149002_1.length co47] 40 (0, 0))) := ⟨h4_⟩
             have n5_ : Aside0 (IsS123 w0 w55 g s0_0 t165 t166) := ⟨h5_⟩
             have n6_ : Aside0 (KeepBut w w55 g none) := ⟨h6_⟩
             have n7_ : Aside0 (Below w0.heap.size w0 w55) := ⟨h7_⟩
             clear HO_149002
             clear BK147
             clear BK148
             clear HI0
             clear HK
             clear HB
             clear h0_ h1_ h2_ h3_ h4_ h5_ h6_ h7_
             have HO163 := n0_
             have HO169 := n1_
             have HO_149002 := n2_
             have BK147 := n3_
             have BK148 := n4_
             have HI0 := n5_
             have HK := n6_
             have HB := n7_
             clear n0_ n1_ n2_ n3_ n4_ n5_ n6_ n7_
             have hHeld : w55.cell? ⟨gb148, 0, none⟩ = some (.int .i64 x149000_1) ∧ w55.cell? ⟨gb148, 1, none⟩ = some (.int .i64 x149001_1) ∧ w55.cell? ⟨gb148, 2, none⟩ = some (.slice Ao47 x149002_1.length co47) := hS_
             obtain ⟨Ao57, co57, eo57⟩ := Kd.R_slice HO169.out
             (first | subst eo57 | (injection eo57 with f1_ f2_ f3_; have f4_ := f1_.symm; have f5_ := f3_.symm; clear f1_ f2_ f3_; subst f4_; subst f5_))
             refine norm_ (a' := ?_) ?_ ?_
             rotate_left
             ·simp only [putAll, Act.put, zA, zB, zC]
              rfl
             refine two_ (i := 18) (j := 20) (Ni := some 42) (Nj := some 7) (mb 19 3) #[true, true, true, true, true, true, true, true, true, true, true, true, true, true, true, true, true, true, false, false, true, false] rfl rfl rfl rfl (two_of HT_.out (by kernel_rfl)) (by decide) (by decide) (fun K hK => ?_) (fun K hK => ?_)
             ·skip
              refine Kd.R_append_rows_step k46 w.heap.size (by rfl) (.tmp 33) (.tmp 41) 38 46 (.agg #[(.int .i64 0), (.int .i64 0), (.string ⟨#[]⟩), (.string ⟨#[]⟩)]) 48 rfl Try.underlying38 info46 rfl (by decide) (by omega) v162 y161 y167 _ _ _ (fun k_ => some k_ ≠ (.slice Ao47 x149002_1.length co47 : Value).ownBlock ∧ some k_ ≠ (.slice Ao57 y167.length co57 : Value).ownBlock) (fun _ => False) rfl rfl ?aO ?aR (fun _ _ h => h) (fun _ h => h.elim) ?aF (Below.refl _ _) ?aS ?aL ?_
              (case aR => repeat (first | exact (Kd.R_reads' HO169.out).2.2 | (with_reducible refine Kd.C_alloc ?_ _) | (with_reducible refine Kd.C_drewN ?_ _) | (with_reducible refine Kd.C_drew ?_)))
              (case aF => exact (fun k_ hk => ⟨Kd.fresh' (Kd.R_lt (mR HO_149002.out)) k_ hk, Kd.fresh' (Kd.R_lt (mR HO169.out)) k_ hk⟩))
              (case aO => exact (by (with_reducible repeat (first | apply Kd.R_alloc | apply Kd.R_drewN | apply Kd.R_drew)); exact Kd.R_mono HO163.out (fun _ hk => ⟨hk.2, hk.1⟩)))
              (case aS => exact (keep_size (w := w) (g := g) (row := none) (mQ102_6 HK.out GW147.out GW148.out)))
              (case aL => have := LMc18.out; omega)
              intro v171 w56 ho hb hg hat
              rw [← Ny170.out] at ho
              have n0_ := mS (Kd.R_after (ok := (fun k_ => some k_ ≠ (.slice Ao57 y167.length co57 : Value).ownBlock)) (by (with_reducible repeat (first | apply Kd.R_alloc | apply Kd.R_drewN | apply Kd.R_drew)); exact Kd.R_mono HO_149002.out (fun _ hk => ⟨hk.2, hk.1⟩)) hg hat)
              have n1_ := mS (blk_grown (g := gb147) (o := .cells #[.int .i64 0, .int .i64 0, .slice none 0 0] 40 (0, 0)) (mK BK147.out) hg (Kd.R_ne HO163.out BK147.out (by decide)))
              have n2_ := mS (blk_grown (g := gb148) (o := .cells #[.int .i64 x149000_1, .int .i64 x149001_1, .slice Ao47 x149002_1.length co47] 40 (0, 0)) (mK BK148.out) hg (Kd.R_ne HO163.out BK148.out (by decide)))
              have n3_ := mS (IsS123.grown (mI102_2 HI0.out NB0_147.out NB0_148.out) hg (IsS123.own_ne HI0.out HO163.out (by decide)))
              have n4_ := mS (Kd.R_after (ok := (fun k_ => some k_ ≠ (.slice Ao47 x149002_1.length co47 : Value).ownBlock)) (by (with_reducible repeat (first | apply Kd.R_alloc | apply Kd.R_drewN | apply Kd.R_drew)); exact Kd.R_mono HO169.out (fun _ hk => ⟨hk.2, hk.1⟩)) hg hat)
              have n5_ := mS (below_weaken (mH102_10 HB.out (IsS123.ge HI0.out) GE147.out GE148.out) HL.out hb)
              have n6_ := mS (KeepBut.trans (mQ102_6 HK.out GW147.out GW148.out) (KeepBut.of_grown hg g) (Kd.R_base2 HO163.out))
              have n7_ := mS (ho)
              clear HO_149002
              clear BK147
              clear BK148
              clear HI0
              clear HO169
              clear HB
              clear HK
              clear HO163
              have HO_149002 := n0_
              have BK147 := n1_
              have BK148 := n2_
              have HI0 := n3_
              have HO169 := n4_
              have HB := n5_
              have HK := n6_
              have HO172 := n7_
              clear n0_ n1_ n2_ n3_ n4_ n5_ n6_ n7_
              clear ho hb hg hat
              obtain ⟨Ao58, co58, eo58⟩ := Kd.R_slice HO172.out
              (first | subst eo58 | (injection eo58 with f1_ f2_ f3_; have f4_ := f1_.symm; have f5_ := f3_.symm; clear f1_ f2_ f3_; subst f4_; subst f5_))
              refine hK.out _ _ ⟨mZ BK148.out 0, mZ BK148.out 1, mZ BK148.out 2⟩ (fun hHeld => ?_)
              clear hK K
              refine norm_ (a' := ?_) ?_ ?_
              rotate_left
              ·show Act.put _ (some 42) _ = _
               simp only [Act.put, zA, zB, zC, i64_w, i32_w]
               rfl
              refine pure_ (i := 19) (N := some 43) (v := ?_) (a' := ?_) (mb 20 2) rfl rfl (any_of HT_.out (by kernel_rfl)) (fun _ _ _ h => h) (Or.inl ⟨by rfl, ?_⟩) ?_ ?_
              rotate_left
              ·intro w'
               go_simp
               with_reducible rfl
              rotate_left
              ·simp only [Act.put, zA, zB, zC, i64_w, i32_w]
               rfl
              exact norm_ (by first | (simp only [putAll, Act.put, zA, zB, zC]; done) | (simp only [putAll, Act.put, zA, zB, zC]; rfl)) (hJ6_9_13_17_18 (_, _, .slice Ao57 y167.length co57, .slice Ao58 y170.length co58) _ ⟨hHeld, (by (with_reducible repeat (first | apply Kd.R_alloc | apply Kd.R_drewN | apply Kd.R_drew)); exact Kd.R_mono HO169.out (fun _ hk => ⟨hk.2, hk.1⟩)), (by (with_reducible repeat (first | apply Kd.R_alloc | apply Kd.R_drewN | apply Kd.R_drew)); exact Kd.R_mono HO172.out (fun _ hk => ⟨hk.2, hk.1⟩)), (mR HO_149002.out), (mK BK147.out), (mK BK148.out), (mI102_2 HI0.out NB0_147.out NB0_148.out), (mQ102_6 HK.out GW147.out GW148.out), (mH102_10 HB.out (IsS123.ge HI0.out) GE147.out GE148.out)⟩)
             ·skip
              refine box_step ?hg (N := 7) ?hd (cs := #[.int .i64 0, .int .i64 0, .slice none 0 0]) (t := 40) ?hr ?_; (case hd => rfl); (case hg => rfl); (case hr => first | (go_simp; done) | (go_simp; rfl))
              intro gb173 hg w56 hbox hb
              have n0_ := mS (Kd.R_below (mR HO_149002.out) hb)
              have n1_ := mS (Kd.R_below (mR HO163.out) hb)
              have n2_ := mS (Kd.R_below (mR HO169.out) hb)
              have n3_ := mB BK147 hb
              have n4_ := mB BK148 hb
              have n5_ := mS (IsS123.below (mI102_2 HI0.out NB0_147.out NB0_148.out) hb)
              have n6_ := mS (KeepBut.trans (mQ102_6 HK.out GW147.out GW148.out) (KeepBut.of_below hb g none) (.inl rfl))
              have n7_ := mS (below_step (mH102_10 HB.out (IsS123.ge HI0.out) GE147.out GE148.out) hb)
              have n8_ := mS (hbox)
              have n9_ := mS ((by rw [hg]; exact (keep_size (w := w) (g := g) (row := none) (mQ102_6 HK.out GW147.out GW148.out)) : w.heap.size ≤ gb173))
              have n10_ := mS ((Nat.le_trans HW0.out (by rw [hg]; exact (keep_size (w := w) (g := g) (row := none) (mQ102_6 HK.out GW147.out GW148.out)) : w.heap.size ≤ gb173) : w0.heap.size ≤ gb173))
              have n11_ := mNl hg BK147.out
              have n12_ := mNg hg BK147.out
              have n13_ := mNl hg BK148.out
              have n14_ := mNg hg BK148.out
              have n15_ := mS ((by rw [hg]; exact Nat.ne_of_lt (IsS123.lt (show IsS123 w0 _ g s0_0 t165 t166 from mI102_2 HI0.out NB0_147.out NB0_148.out)) : g ≠ gb173))
              have n16_ := mS ((by rw [hg]; exact Nat.ne_of_gt (IsS123.lt (show IsS123 w0 _ g s0_0 t165 t166 from mI102_2 HI0.out NB0_147.out NB0_148.out)) : gb173 ≠ g))
              clear HO_149002
              clear HO163
              clear HO169
              clear BK147
              clear BK148
              clear HI0
              clear HK
              clear HB
              have HO_149002 := n0_
              have HO163 := n1_
              have HO169 := n2_
              have BK147 := n3_
              have BK148 := n4_
              have HI0 := n5_
              have HK := n6_
              have HB := n7_
              have BK173 := n8_
              have GW173 := n9_
              have GE173 := n10_
              have NB147_173 := n11_
              have NB173_147 := n12_
              have NB148_173 := n13_
              have NB173_148 := n14_
              have NB0_173 := n15_
              have NB173_0 := n16_
              clear n0_ n1_ n2_ n3_ n4_ n5_ n6_ n7_ n8_ n9_ n10_ n11_ n12_ n13_ n14_ n15_ n16_
              clear hb hbox hg
              refine hK.out _ _ ⟨mZ BK148.out 0, mZ BK148.out 1, mZ BK148.out 2⟩ (fun hHeld => ?_)
              clear hK K
              refine norm_ (a' := ?_) ?_ ?_
              rotate_left
              ·show Act.put _ (some 7) _ = _
               simp only [Act.put, zA, zB, zC, i64_w, i32_w]
               rfl
              exact norm_ (by first | (simp only [putAll, Act.put, zA, zB, zC]; done) | (simp only [putAll, Act.put, zA, zB, zC]; rfl)) (hJ6_9_13_17_20 (_, _, _, gb173) _ ⟨hHeld, (mR HO163.out), (mR HO169.out), (mR HO_149002.out), (mK BK147.out), (mK BK148.out), (mK BK173.out), GW173.out, GE173.out, NB0_173.out, NB173_0.out, NB147_173.out, NB173_147.out, NB148_173.out, NB173_148.out, (mI102_3 HI0.out NB0_147.out NB0_148.out NB0_173.out), (mQ102_7 HK.out GW147.out GW148.out GW173.out), (mH102_11 HB.out (IsS123.ge HI0.out) GE147.out GE148.out GE173.out)⟩)
           ·skip
            rintro ⟨v159, v162, v168, gb173⟩ w56 ⟨hS_, h0_, h1_, h2_, h3_, h4_, h5_, h6_, h7_, h8_, h9_, h10_, h11_, h12_, h13_, h14_, h15_, h16_⟩
            have n0_ : Aside0 (Kd.R k46 46 w56 w.heap.size (fun k_ => some k_ ≠ (v168 : Value).ownBlock ∧ some k_ ≠ (.slice Ao47 x149002_1.length co47 : Value).ownBlock) v162 y161) := ⟨h0_⟩
            have n1_ : Aside0 (Kd.R k46 46 w56 w.heap.size (fun k_ => some k_ ≠ (v162 : Value).ownBlock ∧ some k_ ≠ (.slice Ao47 x149002_1.length co47 : Value).ownBlock) v168 y167) := ⟨h1_⟩
            have n2_ : Aside0 (Kd.R k46 46 w56 w.heap.size (fun k_ => some k_ ≠ (v162 : Value).ownBlock ∧ some k_ ≠ (v168 : Value).ownBlock) (.slice Ao47 x149002_1.length co47) x149002_1) := ⟨h2_⟩
            have n3_ : Aside0 (w56.heap[gb147]? = some (.cells #[.int .i64 0, .int .i64 0, .slice none 0 0] 40 (0, 0))) := ⟨h3_⟩
            have n4_ : Aside0 (w56.heap[gb148]? = some (.cells #[.int .i64 x149000_1, .int .i64 x149001_1, .slice Ao47 x149002_1.length co47] 40 (0, 0))) := ⟨h4_⟩
            have n5_ : Aside0 (w56.heap[gb173]? = some (.cells #[.int .i64 0, .int .i64 0, .slice none 0 0] 40 (0, 0))) := ⟨h5_⟩
            have n6_ : Aside0 (w.heap.size ≤ gb173) := ⟨h6_⟩
            have n7_ : Aside0 (w0.heap.size ≤ gb173) := ⟨h7_⟩
            have n8_ : Aside0 (g ≠ gb173) := ⟨h8_⟩
            have n9_ : Aside0 (gb173 ≠ g) := ⟨h9_⟩
            have n10_ : Aside0 (gb147 ≠ gb173) := ⟨h10_⟩
            have n11_ : Aside0 (gb173 ≠ gb147) := ⟨h11_⟩
            have n12_ : Aside0 (gb148 ≠ gb173) := ⟨h12_⟩
            have n13_ : Aside0 (gb173 ≠ gb148) := ⟨h13_⟩
            have n14_ : Aside0 (IsS123 w0 w56 g s0_0 t165 t166) := ⟨h14_⟩
            have n15_ : Aside0 (KeepBut w w56 g none) := ⟨h15_⟩
            have n16_ : Aside0 (Below w0.heap.size w0 w56) := ⟨h16_⟩
            clear HO_149002
            clear BK147
            clear BK148
            clear HI0
            clear HK
            clear HB
            clear h0_ h1_ h2_ h3_ h4_ h5_ h6_ h7_ h8_ h9_ h10_ h11_ h12_ h13_ h14_ h15_ h16_
            have HO163 := n0_
            have HO169 := n1_
            have HO_149002 := n2_
            have BK147 := n3_
            have BK148 := n4_
            have BK173 := n5_
            have GW173 := n6_
            have GE173 := n7_
            have NB0_173 := n8_
            have NB173_0 := n9_
            have NB147_173 := n10_
            have NB173_147 := n11_
            have NB148_173 := n12_
            have NB173_148 := n13_
            have HI0 := n14_
            have HK := n15_
            have HB := n16_
            clear n0_ n1_ n2_ n3_ n4_ n5_ n6_ n7_ n8_ n9_ n10_ n11_ n12_ n13_ n14_ n15_ n16_
            have hHeld : w56.cell? ⟨gb148, 0, none⟩ = some (.int .i64 x149000_1) ∧ w56.cell? ⟨gb148, 1, none⟩ = some (.int .i64 x149001_1) ∧ w56.cell? ⟨gb148, 2, none⟩ = some (.slice Ao47 x149002_1.length co47) := hS_
            obtain ⟨Ao58, co58, eo58⟩ := Kd.R_slice HO169.out
            (first | subst eo58 | (injection eo58 with f1_ f2_ f3_; have f4_ := f1_.symm; have f5_ := f3_.symm; clear f1_ f2_ f3_; subst f4_; subst f5_))
            refine norm_ (a' := ?_) ?_ ?_
            rotate_left
            ·simp only [putAll, Act.put, zA, zB, zC]
             rfl
            refine one_ (i := 18) (N := some 42) #[true, true, true, true, true, true, true, true, true, true, true, true, true, true, true, true, true, true, true, false, true, false] rfl rfl (one_of HT_.out (by kernel_rfl)) (by decide) (fun K hK => ?_)
            refine Kd.R_append_rows_step k46 w.heap.size (by rfl) (.tmp 33) (.tmp 41) 38 46 (.agg #[(.int .i64 0), (.int .i64 0), (.string ⟨#[]⟩), (.string ⟨#[]⟩)]) 48 rfl Try.underlying38 info46 rfl (by decide) (by omega) v162 y161 y167 _ _ _ (fun k_ => some k_ ≠ (.slice Ao47 x149002_1.length co47 : Value).ownBlock ∧ some k_ ≠ (.slice Ao58 y167.length co58 : Value).ownBlock) (fun _ => False) rfl rfl ?aO ?aR (fun _ _ h => h) (fun _ h => h.elim) ?aF (Below.refl _ _) ?aS ?aL ?_
            (case aR => repeat (first | exact (Kd.R_reads' HO169.out).2.2 | (with_reducible refine Kd.C_alloc ?_ _) | (with_reducible refine Kd.C_drewN ?_ _) | (with_reducible refine Kd.C_drew ?_)))
            (case aF => exact (fun k_ hk => ⟨Kd.fresh' (Kd.R_lt (mR HO_149002.out)) k_ hk, Kd.fresh' (Kd.R_lt (mR HO169.out)) k_ hk⟩))
            (case aO => exact (by (with_reducible repeat (first | apply Kd.R_alloc | apply Kd.R_drewN | apply Kd.R_drew)); exact Kd.R_mono HO163.out (fun _ hk => ⟨hk.2, hk.1⟩)))
            (case aS => exact (keep_size (w := w) (g := g) (row := none) (mQ102_7 HK.out GW147.out GW148.out GW173.out)))
            (case aL => have := LMc18.out; omega)
            intro v171 w57 ho hb hg hat
            rw [← Ny170.out] at ho
            have n0_ := mS (Kd.R_after (ok := (fun k_ => some k_ ≠ (.slice Ao58 y167.length co58 : Value).ownBlock)) (by (with_reducible repeat (first | apply Kd.R_alloc | apply Kd.R_drewN | apply Kd.R_drew)); exact Kd.R_mono HO_149002.out (fun _ hk => ⟨hk.2, hk.1⟩)) hg hat)
            have n1_ := mS (blk_grown (g := gb147) (o := .cells #[.int .i64 0, .int .i64 0, .slice none 0 0] 40 (0, 0)) (mK BK147.out) hg (Kd.R_ne HO163.out BK147.out (by decide)))
            have n2_ := mS (blk_grown (g := gb148) (o := .cells #[.int .i64 x149000_1, .int .i64 x149001_1, .slice Ao47 x149002_1.length co47] 40 (0, 0)) (mK BK148.out) hg (Kd.R_ne HO163.out BK148.out (by decide)))
            have n3_ := mS (IsS123.grown (mI102_3 HI0.out NB0_147.out NB0_148.out NB0_173.out) hg (IsS123.own_ne HI0.out HO163.out (by decide)))
            have n4_ := mS (Kd.R_after (ok := (fun k_ => some k_ ≠ (.slice Ao47 x149002_1.length co47 : Value).ownBlock)) (by (with_reducible repeat (first | apply Kd.R_alloc | apply Kd.R_drewN | apply Kd.R_drew)); exact Kd.R_mono HO169.out (fun _ hk => ⟨hk.2, hk.1⟩)) hg hat)
            have n5_ := mS (blk_grown (g := gb173) (o := .cells #[.int .i64 0, .int .i64 0, .slice none 0 0] 40 (0, 0)) (mK BK173.out) hg (Kd.R_ne HO163.out BK173.out (by decide)))
            have n6_ := mS (below_weaken (mH102_11 HB.out (IsS123.ge HI0.out) GE147.out GE148.out GE173.out) HL.out hb)
            have n7_ := mS (KeepBut.trans (mQ102_7 HK.out GW147.out GW148.out GW173.out) (KeepBut.of_grown hg g) (Kd.R_base2 HO163.out))
            have n8_ := mS (ho)
            clear HO_149002
            clear BK147
            clear BK148
            clear HI0
            clear HO169
            clear BK173
            clear HB
            clear HK
            clear HO163
            have HO_149002 := n0_
            have BK147 := n1_
            have BK148 := n2_
            have HI0 := n3_
            have HO169 := n4_
            have BK173 := n5_
            have HB := n6_
            have HK := n7_
            have HO172 := n8_
            clear n0_ n1_ n2_ n3_ n4_ n5_ n6_ n7_ n8_
            clear ho hb hg hat
            obtain ⟨Ao59, co59, eo59⟩ := Kd.R_slice HO172.out
            (first | subst eo59 | (injection eo59 with f1_ f2_ f3_; have f4_ := f1_.symm; have f5_ := f3_.symm; clear f1_ f2_ f3_; subst f4_; subst f5_))
            refine hK.out _ _ ⟨mZ BK148.out 0, mZ BK148.out 1, mZ BK148.out 2⟩ (fun hHeld => ?_)
            clear hK K
            refine norm_ (a' := ?_) ?_ ?_
            rotate_left
            ·show Act.put _ (some 42) _ = _
             simp only [Act.put, zA, zB, zC, i64_w, i32_w]
             rfl
            refine pure_ (i := 19) (N := some 43) (v := ?_) (a' := ?_) (mb 21 1) rfl rfl (any_of HT_.out (by kernel_rfl)) (fun _ _ _ h => h) (Or.inl ⟨by rfl, ?_⟩) ?_ ?_
            rotate_left
            ·intro w'
             go_simp
             with_reducible rfl
            rotate_left
            ·simp only [Act.put, zA, zB, zC, i64_w, i32_w]
             rfl
            exact norm_ (by first | (simp only [putAll, Act.put, zA, zB, zC]; done) | (simp only [putAll, Act.put, zA, zB, zC]; rfl)) (hJ6_9_13_17_18_20 (_, _, .slice Ao58 y167.length co58, .slice Ao59 y170.length co59, gb173) _ ⟨hHeld, (by (with_reducible repeat (first | apply Kd.R_alloc | apply Kd.R_drewN | apply Kd.R_drew)); exact Kd.R_mono HO169.out (fun _ hk => ⟨hk.2, hk.1⟩)), (by (with_reducible repeat (first | apply Kd.R_alloc | apply Kd.R_drewN | apply Kd.R_drew)); exact Kd.R_mono HO172.out (fun _ hk => ⟨hk.2, hk.1⟩)), (mR HO_149002.out), (mK BK147.out), (mK BK148.out), (mK BK173.out), GW173.out, GE173.out, NB0_173.out, NB173_0.out, NB147_173.out, NB173_147.out, NB148_173.out, NB173_148.out, (mI102_3 HI0.out NB0_147.out NB0_148.out NB0_173.out), (mQ102_7 HK.out GW147.out GW148.out GW173.out), (mH102_11 HB.out (IsS123.ge HI0.out) GE147.out GE148.out GE173.out)⟩)
          ·skip
           rintro ⟨v159, v162, v168, v171⟩ w58 ⟨hS_, h0_, h1_, h2_, h3_, h4_, h5_, h6_, h7_⟩
           have n0_ : Aside0 (Kd.R k46 46 w58 w.heap.size (fun k_ => some k_ ≠ (v171 : Value).ownBlock ∧ some k_ ≠ (.slice Ao47 x149002_1.length co47 : Value).ownBlock) v168 y167) := ⟨h0_⟩
           have n1_ : Aside0 (Kd.R k46 46 w58 w.heap.size (fun k_ => some k_ ≠ (v168 : Value).ownBlock ∧ some k_ ≠ (.slice Ao47 x149002_1.length co47 : Value).ownBlock) v171 y170) := ⟨h1_⟩
           have n2_ : Aside0 (Kd.R k46 46 w58 w.heap.size (fun k_ => some k_ ≠ (v168 : Value).ownBlock ∧ some k_ ≠ (v171 : Value).ownBlock) (.slice Ao47 x149002_1.length co47) x149002_1) := ⟨h2_⟩
           have n3_ : Aside0 (w58.heap[gb147]? = some (.cells #[.int .i64 0, .int .i64 0, .slice none 0 0] 40 (0, 0))) := ⟨h3_⟩
           have n4_ : Aside0 (w58.heap[gb148]? = some (.cells #[.int .i64 x149000_1, .int .i64 x149001_1, .slice Ao47 x149002_1.length co47] 40 (0, 0))) := ⟨h4_⟩
           have n5_ : Aside0 (IsS123 w0 w58 g s0_0 t165 t166) := ⟨h5_⟩
           have n6_ : Aside0 (KeepBut w w58 g none) := ⟨h6_⟩
           have n7_ : Aside0 (Below w0.heap.size w0 w58) := ⟨h7_⟩
           clear HO_149002
           clear BK147
           clear BK148
           clear HI0
           clear HK
           clear HB
           clear h0_ h1_ h2_ h3_ h4_ h5_ h6_ h7_
           have HO169 := n0_
           have HO172 := n1_
           have HO_149002 := n2_
           have BK147 := n3_
           have BK148 := n4_
           have HI0 := n5_
           have HK := n6_
           have HB := n7_
           clear n0_ n1_ n2_ n3_ n4_ n5_ n6_ n7_
           have hHeld : w58.cell? ⟨gb148, 0, none⟩ = some (.int .i64 x149000_1) ∧ w58.cell? ⟨gb148, 1, none⟩ = some (.int .i64 x149001_1) ∧ w58.cell? ⟨gb148, 2, none⟩ = some (.slice Ao47 x149002_1.length co47) := hS_
           obtain ⟨Ao59, co59, eo59⟩ := Kd.R_slice HO172.out
           (first | subst eo59 | (injection eo59 with f1_ f2_ f3_; have f4_ := f1_.symm; have f5_ := f3_.symm; clear f1_ f2_ f3_; subst f4_; subst f5_))
           refine norm_ (a' := ?_) ?_ ?_
           rotate_left
           ·simp only [putAll, Act.put, zA, zB, zC]
            rfl
           refine one_ (i := 20) (N := some 7) (mb 21 1) rfl rfl (one_of HT_.out (by kernel_rfl)) (by decide) (fun K hK => ?_)
           refine box_step ?hg (N := 7) ?hd (cs := #[.int .i64 0, .int .i64 0, .slice none 0 0]) (t := 40) ?hr ?_; (case hd => rfl); (case hg => rfl); (case hr => first | (go_simp; done) | (go_simp; rfl))
           intro gb173 hg w60 hbox hb
           have n0_ := mS (Kd.R_below (mR HO_149002.out) hb)
           have n1_ := mS (Kd.R_below (mR HO169.out) hb)
           have n2_ := mS (Kd.R_below (mR HO172.out) hb)
           have n3_ := mB BK147 hb
           have n4_ := mB BK148 hb
           have n5_ := mS (IsS123.below (mI102_2 HI0.out NB0_147.out NB0_148.out) hb)
           have n6_ := mS (KeepBut.trans (mQ102_6 HK.out GW147.out GW148.out) (KeepBut.of_below hb g none) (.inl rfl))
           have n7_ := mS (below_step (mH102_10 HB.out (IsS123.ge HI0.out) GE147.out GE148.out) hb)
           have n8_ := mS (hbox)
           have n9_ := mS ((by rw [hg]; exact (keep_size (w := w) (g := g) (row := none) (mQ102_6 HK.out GW147.out GW148.out)) : w.heap.size ≤ gb173))
           have n10_ := mS ((Nat.le_trans HW0.out (by rw [hg]; exact (keep_size (w := w) (g := g) (row := none) (mQ102_6 HK.out GW147.out GW148.out)) : w.heap.size ≤ gb173) : w0.heap.size ≤ gb173))
           have n11_ := mNl hg BK147.out
           have n12_ := mNg hg BK147.out
           have n13_ := mNl hg BK148.out
           have n14_ := mNg hg BK148.out
           have n15_ := mS ((by rw [hg]; exact Nat.ne_of_lt (IsS123.lt (show IsS123 w0 _ g s0_0 t165 t166 from mI102_2 HI0.out NB0_147.out NB0_148.out)) : g ≠ gb173))
           have n16_ := mS ((by rw [hg]; exact Nat.ne_of_gt (IsS123.lt (show IsS123 w0 _ g s0_0 t165 t166 from mI102_2 HI0.out NB0_147.out NB0_148.out)) : gb173 ≠ g))
           clear HO_149002
           clear HO169
           clear HO172
           clear BK147
           clear BK148
           clear HI0
           clear HK
           clear HB
           have HO_149002 := n0_
           have HO169 := n1_
           have HO172 := n2_
           have BK147 := n3_
           have BK148 := n4_
           have HI0 := n5_
           have HK := n6_
           have HB := n7_
           have BK173 := n8_
           have GW173 := n9_
           have GE173 := n10_
           have NB147_173 := n11_
           have NB173_147 := n12_
           have NB148_173 := n13_
           have NB173_148 := n14_
           have NB0_173 := n15_
           have NB173_0 := n16_
           clear n0_ n1_ n2_ n3_ n4_ n5_ n6_ n7_ n8_ n9_ n10_ n11_ n12_ n13_ n14_ n15_ n16_
           clear hb hbox hg
           refine hK.out _ _ ⟨mZ BK148.out 0, mZ BK148.out 1, mZ BK148.out 2⟩ (fun hHeld => ?_)
           clear hK K
           refine norm_ (a' := ?_) ?_ ?_
           rotate_left
           ·show Act.put _ (some 7) _ = _
            simp only [Act.put, zA, zB, zC, i64_w, i32_w]
            rfl
           exact norm_ (by first | (simp only [putAll, Act.put, zA, zB, zC]; done) | (simp only [putAll, Act.put, zA, zB, zC]; rfl)) (hJ6_9_13_17_18_20 (_, _, _, .slice Ao59 y170.length co59, gb173) _ ⟨hHeld, (mR HO169.out), (mR HO172.out), (mR HO_149002.out), (mK BK147.out), (mK BK148.out), (mK BK173.out), GW173.out, GE173.out, NB0_173.out, NB173_0.out, NB147_173.out, NB173_147.out, NB148_173.out, NB173_148.out, (mI102_3 HI0.out NB0_147.out NB0_148.out NB0_173.out), (mQ102_7 HK.out GW147.out GW148.out GW173.out), (mH102_11 HB.out (IsS123.ge HI0.out) GE147.out GE148.out GE173.out)⟩)
         rintro ⟨v159, v162, v168, v171, gb173⟩ w59 ⟨hS_, h0_, h1_, h2_, h3_, h4_, h5_, h6_, h7_, h8_, h9_, h10_, h11_, h12_, h13_, h14_, h15_, h16_⟩
         have n0_ : Aside0 (Kd.R k46 46 w59 w.heap.size (fun k_ => some k_ ≠ (v171 : Value).ownBlock ∧ some k_ ≠ (.slice Ao47 x149002_1.length co47 : Value).ownBlock) v168 y167) := ⟨h0_⟩
         have n1_ : Aside0 (Kd.R k46 46 w59 w.heap.size (fun k_ => some k_ ≠ (v168 : Value).ownBlock ∧ some k_ ≠ (.slice Ao47 x149002_1.length co47 : Value).ownBlock) v171 y170) := ⟨h1_⟩
         have n2_ : Aside0 (Kd.R k46 46 w59 w.heap.size (fun k_ => some k_ ≠ (v168 : Value).ownBlock ∧ some k_ ≠ (v171 : Value).ownBlock) (.slice Ao47 x149002_1.length co47) x149002_1) := ⟨h2_⟩
         have n3_ : Aside0 (w59.heap[gb147]? = some (.cells #[.int .i64 0, .int .i64 0, .slice none 0 0] 40 (0, 0))) := ⟨h3_⟩
         have n4_ : Aside0 (w59.heap[gb148]? = some (.cells #[.int .i64 x149000_1, .int .i64 x149001_1, .slice Ao47 x149002_1.length co47] 40 (0, 0))) := ⟨h4_⟩
         have n5_ : Aside0 (w59.heap[gb173]? = some (.cells #[.int .i64 0, .int .i64 0, .slice none 0 0] 40 (0, 0))) := ⟨h5_⟩
         have n6_ : Aside0 (w.heap.size ≤ gb173) := ⟨h6_⟩
         have n7_ : Aside0 (w0.heap.size ≤ gb173) := ⟨h7_⟩
         have n8_ : Aside0 (g ≠ gb173) := ⟨h8_⟩
         have n9_ : Aside0 (gb173 ≠ g) := ⟨h9_⟩
         have n10_ : Aside0 (gb147 ≠ gb173) := ⟨h10_⟩
         have n11_ : Aside0 (gb173 ≠ gb147) := ⟨h11_⟩
         have n12_ : Aside0 (gb148 ≠ gb173) := ⟨h12_⟩
         have n13_ : Aside0 (gb173 ≠ gb148) := ⟨h13_⟩
         have n14_ : Aside0 (IsS123 w0 w59 g s0_0 t165 t166) := ⟨h14_⟩
         have n15_ : Aside0 (KeepBut w w59 g none) := ⟨h15_⟩
         have n16_ : Aside0 (Below w0.heap.size w0 w59) := ⟨h16_⟩
         clear HO_149002
         clear BK147
         clear BK148
         clear HI0
         clear HK
         clear HB
         clear h0_ h1_ h2_ h3_ h4_ h5_ h6_ h7_ h8_ h9_ h10_ h11_ h12_ h13_ h14_ h15_ h16_
         have HO169 := n0_
         have HO172 := n1_
         have HO_149002 := n2_
         have BK147 := n3_
         have BK148 := n4_
         have BK173 := n5_
         have GW173 := n6_
         have GE173 := n7_
         have NB0_173 := n8_
         have NB173_0 := n9_
         have NB147_173 := n10_
         have NB173_147 := n11_
         have NB148_173 := n12_
         have NB173_148 := n13_
         have HI0 := n14_
         have HK := n15_
         have HB := n16_
         clear n0_ n1_ n2_ n3_ n4_ n5_ n6_ n7_ n8_ n9_ n10_ n11_ n12_ n13_ n14_ n15_ n16_
         have hHeld : w59.cell? ⟨gb148, 0, none⟩ = some (.int .i64 x149000_1) ∧ w59.cell? ⟨gb148, 1, none⟩ = some (.int .i64 x149001_1) ∧ w59.cell? ⟨gb148, 2, none⟩ = some (.slice Ao47 x149002_1.length co47) := hS_
         obtain ⟨Ao60, co60, eo60⟩ := Kd.R_slice HO172.out
         (first | subst eo60 | (injection eo60 with f1_ f2_ f3_; have f4_ := f1_.symm; have f5_ := f3_.symm; clear f1_ f2_ f3_; subst f4_; subst f5_))
         refine norm_ (a' := ?_) ?_ ?_
         rotate_left
         ·simp only [putAll, Act.put, zA, zB, zC]
          rfl
         refine one_ (i := 21) (N := none) (mb 22 0) rfl rfl (one_of HT_.out (by kernel_rfl)) (by decide) (fun K hK => ?_)
         have hs61 : w59.cell? ⟨gb173, 0, none⟩ = some (.int .i64 0) := mZ BK173.out 0
         have hfs61 := blk_frozen BK173.out 0
         have hns61_0 := NB147_173.out
         have hns61_1 := NB148_173.out
         have hms61_0 := NB173_147.out
         have hms61_1 := NB173_148.out
         have hs62 : w59.cell? ⟨gb173, 1, none⟩ = some (.int .i64 0) := mZ BK173.out 1
         have hfs62 := blk_frozen BK173.out 1
         have hns62_0 := NB147_173.out
         have hns62_1 := NB148_173.out
         have hms62_0 := NB173_147.out
         have hms62_1 := NB173_148.out
         have hs63 : w59.cell? ⟨gb173, 2, none⟩ = some (.slice none 0 0) := mZ BK173.out 2
         have hfs63 := blk_frozen BK173.out 2
         have hns63_0 := NB147_173.out
         have hns63_1 := NB148_173.out
         have hms63_0 := NB173_147.out
         have hms63_1 := NB173_148.out
         refine skip_ (w1 := ?_) (by rfl) rfl ?_ ?_
         rotate_left
         ·go_simp
          rfl
         refine hK.out _ _ ⟨((cell_far (p := ⟨gb173, _, none⟩) NB148_173.out _).trans (((cell_far (p := ⟨gb173, _, none⟩) NB148_173.out _).trans (((cell_far (p := ⟨gb173, _, none⟩) NB148_173.out _).trans (hHeld.1)))))), ((cell_far (p := ⟨gb173, _, none⟩) NB148_173.out _).trans (((cell_far (p := ⟨gb173, _, none⟩) NB148_173.out _).trans (((cell_far (p := ⟨gb173, _, none⟩) NB148_173.out _).trans (hHeld.2.1)))))), ((cell_far (p := ⟨gb173, _, none⟩) NB148_173.out _).trans (((cell_far (p := ⟨gb173, _, none⟩) NB148_173.out _).trans (((cell_far (p := ⟨gb173, _, none⟩) NB148_173.out _).trans (hHeld.2.2))))))⟩ (fun hHeld => ?_)
         clear hK K
         refine done_ (done_of HT_.out (by kernel_rfl)) ?_
         have hnb64 := NB173_147.out
         have hnc64 := NB147_173.out
         have hnb65 := NB173_148.out
         have hnc65 := NB148_173.out
         have hnb66 := NB173_0.out
         have hnc66 := NB0_173.out
         have hcz67_0 := mZ BK173.out 0
         have hcz67_1 := mZ BK173.out 1
         have hcz67_2 := mZ BK173.out 2
         have hfz67_0 := blk_frozen BK173.out 0
         have hfz67_1 := blk_frozen BK173.out 1
         have hfz67_2 := blk_frozen BK173.out 2
         try go_wp2_with (first | ((with_reducible refine gate_callee (f := 55) rfl ?_); refine goesL_ (some 45) rfl rfl Try.func55 (by kernel_rfl) rfl #[.agg #[.int .i64 (wrap64 (x149000_1 + 2)), .int .i64 (wrap64 (x149000_1 + 1)), .slice Ao60 y170.length co60]] rfl mA ?_; (with_reducible refine (spec_ManOk.calls kj11 (wrap64 (x149000_1 + 2)) (wrap64 (x149000_1 + 1)) _ _ y170 false _ ?side1 ?side2 A19.out).mono ?_); (case side1 => refine (Kd.R_reads' (e := 46) (base := w.heap.size) (ok := fun k_ => (some k_ ≠ (v168 : Value).ownBlock ∧ some k_ ≠ (.slice Ao47 x149002_1.length co47 : Value).ownBlock)) (n := y170.length) (c := co60) ?_).2.2; exact (by (with_reducible repeat (first | apply Kd.R_alloc | apply Kd.R_drewN | apply Kd.R_drew)); exact (Kd.R_mono (Kd.R_far (p := ⟨gb173, 2, none⟩) (Kd.R_far (p := ⟨gb173, 1, none⟩) (Kd.R_far (p := ⟨gb173, 0, none⟩) (Kd.R_types HO172.out BK173.out (by decide)) (fun _ hk => hk.2) (.int .i64 (wrap64 (x149000_1 + 2)))) (fun _ hk => hk.2) (.int .i64 (wrap64 (x149000_1 + 1)))) (fun _ hk => hk.2) (.slice Ao60 y170.length co60)) (fun _ h_ => h_.1)))); (case side2 => exact (Kd.R_reads' HO172.out).2.1); rintro e w68 ⟨rfl, hb⟩; refine ⟨_, rfl, ?_⟩; replace HO_149002 := mS (Kd.R_below (by (with_reducible repeat (first | apply Kd.R_alloc | apply Kd.R_drewN | apply Kd.R_drew)); exact (Kd.R_mono (Kd.R_far (p := ⟨gb173, 2, none⟩) (Kd.R_far (p := ⟨gb173, 1, none⟩) (Kd.R_far (p := ⟨gb173, 0, none⟩) (Kd.R_types HO_149002.out BK173.out (by decide)) (fun _ hk => hk.2) (.int .i64 (wrap64 (x149000_1 + 2)))) (fun _ hk => hk.2) (.int .i64 (wrap64 (x149000_1 + 1)))) (fun _ hk => hk.2) (.slice Ao60 y170.length co60)) (fun _ h_ => h_.1))) hb); replace HO169 := mS (Kd.R_below (by (with_reducible repeat (first | apply Kd.R_alloc | apply Kd.R_drewN | apply Kd.R_drew)); exact (Kd.R_mono (Kd.R_far (p := ⟨gb173, 2, none⟩) (Kd.R_far (p := ⟨gb173, 1, none⟩) (Kd.R_far (p := ⟨gb173, 0, none⟩) (Kd.R_types HO169.out BK173.out (by decide)) (fun _ hk => hk.2) (.int .i64 (wrap64 (x149000_1 + 2)))) (fun _ hk => hk.2) (.int .i64 (wrap64 (x149000_1 + 1)))) (fun _ hk => hk.2) (.slice Ao60 y170.length co60)) (fun _ h_ => h_.1))) hb); replace HO172 := mS (Kd.R_below (by (with_reducible repeat (first | apply Kd.R_alloc | apply Kd.R_drewN | apply Kd.R_drew)); exact (Kd.R_mono (Kd.R_far (p := ⟨gb173, 2, none⟩) (Kd.R_far (p := ⟨gb173, 1, none⟩) (Kd.R_far (p := ⟨gb173, 0, none⟩) (Kd.R_types HO172.out BK173.out (by decide)) (fun _ hk => hk.2) (.int .i64 (wrap64 (x149000_1 + 2)))) (fun _ hk => hk.2) (.int .i64 (wrap64 (x149000_1 + 1)))) (fun _ hk => hk.2) (.slice Ao60 y170.length co60)) (fun _ h_ => h_.1))) hb); replace BK147 := mS (blk_below (g := gb147) (o := .cells #[.int .i64 0, .int .i64 0, .slice none 0 0] 40 (0, 0)) (by (with_reducible repeat (first | refine blk_drewN ?_ _ | refine blk_drew ?_ | refine blk_alloc ?_ _)); refine blk_far ?_ NB147_173.out _; (with_reducible repeat (first | refine blk_drewN ?_ _ | refine blk_drew ?_ | refine blk_alloc ?_ _)); refine blk_far ?_ NB147_173.out _; (with_reducible repeat (first | refine blk_drewN ?_ _ | refine blk_drew ?_ | refine blk_alloc ?_ _)); refine blk_far ?_ NB147_173.out _; (with_reducible repeat (first | refine blk_drewN ?_ _ | refine blk_drew ?_ | refine blk_alloc ?_ _)); exact BK147.out) hb); replace BK148 := mS (blk_below (g := gb148) (o := .cells #[.int .i64 x149000_1, .int .i64 x149001_1, .slice Ao47 x149002_1.length co47] 40 (0, 0)) (by (with_reducible repeat (first | refine blk_drewN ?_ _ | refine blk_drew ?_ | refine blk_alloc ?_ _)); refine blk_far ?_ NB148_173.out _; (with_reducible repeat (first | refine blk_drewN ?_ _ | refine blk_drew ?_ | refine blk_alloc ?_ _)); refine blk_far ?_ NB148_173.out _; (with_reducible repeat (first | refine blk_drewN ?_ _ | refine blk_drew ?_ | refine blk_alloc ?_ _)); refine blk_far ?_ NB148_173.out _; (with_reducible repeat (first | refine blk_drewN ?_ _ | refine blk_drew ?_ | refine blk_alloc ?_ _)); exact BK148.out) hb); replace BK173 := mS (blk_below (g := gb173) (o := .cells #[.int .i64 (wrap64 (x149000_1 + 2)), .int .i64 (wrap64 (x149000_1 + 1)), .slice Ao60 y170.length co60] 40 (0, 0)) (by (with_reducible repeat (first | refine blk_drewN ?_ _ | refine blk_drew ?_ | refine blk_alloc ?_ _)); refine blk_put (cs := #[.int .i64 (wrap64 (x149000_1 + 2)), .int .i64 (wrap64 (x149000_1 + 1)), .slice none 0 0]) ?_ 2 _ rfl; (with_reducible repeat (first | refine blk_drewN ?_ _ | refine blk_drew ?_ | refine blk_alloc ?_ _)); refine blk_put (cs := #[.int .i64 (wrap64 (x149000_1 + 2)), .int .i64 0, .slice none 0 0]) ?_ 1 _ rfl; (with_reducible repeat (first | refine blk_drewN ?_ _ | refine blk_drew ?_ | refine blk_alloc ?_ _)); refine blk_put (cs := #[.int .i64 0, .int .i64 0, .slice none 0 0]) ?_ 0 _ rfl; (with_reducible repeat (first | refine blk_drewN ?_ _ | refine blk_drew ?_ | refine blk_alloc ?_ _)); exact BK173.out) hb); replace HK := mS (KeepBut.trans (mQ102_7 HK.out GW147.out GW148.out GW173.out) (KeepBut.of_below hb g none) (.inl rfl)); replace HB := mS (below_step (mH102_11 HB.out (IsS123.ge HI0.out) GE147.out GE148.out GE173.out) hb); replace HI0 := mS (IsS123.below (show IsS123 w0 (((w59.setCell ⟨gb173, 0, none⟩ (.int .i64 (wrap64 (x149000_1 + 2)))).setCell ⟨gb173, 1, none⟩ (.int .i64 (wrap64 (x149000_1 + 1)))).setCell ⟨gb173, 2, none⟩ (.slice Ao60 y170.length co60)) g s0_0 t165 t166 from mI102_3 HI0.out NB0_147.out NB0_148.out NB0_173.out) hb); (try clear hb); (try clear hb2); (try clear hk); (try clear hi)))
         go_roundg kj11
         case measure => have := HK1.out; have := HJ11.out; omega
         case rel => exact ⟨(wrap64 (x4_1 - 1)), (t165), (t166), (x149000_1), (x149001_1), (x149002_1), (.slice Ao47 x149002_1.length co47), (by first | rfl | (simp; done) | (simp [*]; done)), H', ⟨by have := HK1.out; have := HJ11.out; omega⟩, ⟨by (with_reducible repeat (first | apply Kd.R_alloc | apply Kd.R_drewN | apply Kd.R_drew)); exact Kd.R_mono HO_149002.out (fun _ hk => trivial)⟩, ⟨by (with_reducible repeat (first | refine blk_drewN ?_ _ | refine blk_drew ?_ | refine blk_alloc ?_ _)); exact BK147.out⟩, ⟨by (with_reducible repeat (first | refine blk_drewN ?_ _ | refine blk_drew ?_ | refine blk_alloc ?_ _)); exact BK148.out⟩, ⟨mI102_3 HI0.out NB0_147.out NB0_148.out NB0_173.out⟩, ⟨mQ102_7 HK.out GW147.out GW148.out GW173.out⟩, ⟨mH102_11 HB.out (IsS123.ge HI0.out) GE147.out GE148.out GE173.out⟩⟩
       ·rw [if_neg c18] at H
        exact absurd H (by simp)
      ·rw [if_neg c16] at H
       exact absurd H (by simp)
   ·rw [if_neg c9] at H
    have c9b0 : decide (0 < x4_1) = false := decide_eq_false c9
    clear c9
    simp only [Option.some.injEq, Prod.mk.injEq] at H
    obtain ⟨rfl, rfl, rfl, rfl, rfl⟩ := H
    have hnb69 := NB148_147.out
    have hnc69 := NB147_148.out
    have hnb70 := NB148_0.out
    have hnc70 := NB0_148.out
    have hcz71_0 := mZ BK148.out 0
    have hcz71_1 := mZ BK148.out 1
    have hcz71_2 := mZ BK148.out 2
    have hfz71_0 := blk_frozen BK148.out 0
    have hfz71_1 := blk_frozen BK148.out 1
    have hfz71_2 := blk_frozen BK148.out 2
    have hnb72 := NB147_0.out
    have hnc72 := NB0_147.out
    have hcz73_0 := mZ BK147.out 0
    have hcz73_1 := mZ BK147.out 1
    have hcz73_2 := mZ BK147.out 2
    have hfz73_0 := blk_frozen BK147.out 0
    have hfz73_1 := blk_frozen BK147.out 1
    have hfz73_2 := blk_frozen BK147.out 2
    obtain ⟨Ao74, co74, eo74⟩ := Kd.R_slice HO_149002.out
    subst eo74
    go_wp2
    refine bodyPost_ret (results_cell_row rfl _ _ gb147 40 #[.int .i64 x149000_1, .int .i64 x149001_1, .slice Ao74 x149002_1.length co74] (0, 0) _ rfl (by (with_reducible repeat (first | refine blk_drewN ?_ _ | refine blk_drew ?_ | refine blk_alloc ?_ _)); refine blk_put (cs := #[.int .i64 x149000_1, .int .i64 x149001_1, .slice none 0 0]) ?_ 2 _ rfl; (with_reducible repeat (first | refine blk_drewN ?_ _ | refine blk_drew ?_ | refine blk_alloc ?_ _)); refine blk_put (cs := #[.int .i64 x149000_1, .int .i64 0, .slice none 0 0]) ?_ 1 _ rfl; (with_reducible repeat (first | refine blk_drewN ?_ _ | refine blk_drew ?_ | refine blk_alloc ?_ _)); refine blk_put (cs := #[.int .i64 0, .int .i64 0, .slice none 0 0]) ?_ 0 _ rfl; (with_reducible repeat (first | refine blk_drewN ?_ _ | refine blk_drew ?_ | refine blk_alloc ?_ _)); exact BK147.out) Try.underlying40 rfl (by kernel_rfl)) rfl ?_
    exact ⟨_, by first | rfl | (simp [errW_none, errW_some] <;> rfl) | (simp [*, errW_none, errW_some] <;> rfl), by (with_reducible repeat (first | apply Kd.R_alloc | apply Kd.R_drewN | apply Kd.R_drew)); exact Kd.R_mono (Kd.R_far (p := ⟨gb147, 2, none⟩) (Kd.R_far (p := ⟨gb147, 1, none⟩) (Kd.R_far (p := ⟨gb147, 0, none⟩) (Kd.R_types HO_149002.out BK147.out (by decide)) (fun _ hk => hk.2) (.int .i64 x149000_1)) (fun _ hk => hk.2) (.int .i64 x149001_1)) (fun _ hk => hk.2) (.slice Ao74 x149002_1.length co74)) (fun _ hk => trivial), mI102_2 HI0.out NB0_147.out NB0_148.out, mH102_10 HB.out (IsS123.ge HI0.out) GE147.out GE148.out, mQ102_6 HK.out GW147.out GW148.out⟩

end Go.Proofs.Ytgncojbnejdplaa.MFnOverlaps
