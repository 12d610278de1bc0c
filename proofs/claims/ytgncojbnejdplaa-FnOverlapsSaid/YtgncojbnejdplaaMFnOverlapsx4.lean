-- Written by mp.py, this session's own printer (wip/mp.py).
import Derived.Test.YtgncojbnejdplaaVMShort
import Derived.Test.YtgncojbnejdplaaMFnOverlapsx0
import Derived.Test.YtgncojbnejdplaaMFnOverlapsx1
import Derived.Test.YtgncojbnejdplaaMFnOverlapsx3
namespace Go.Proofs.Ytgncojbnejdplaa.MFnOverlaps
open Go.RowKit Go.Proofs.YtgncojbnejdplaaW.PrintWords Go.Proofs.YtgncojbnejdplaaW.PrintLast Go.Proofs.YtgncojbnejdplaaW.PrintMore Go.Proofs.Ytgncojbnejdplaa.MWords
theorem mI75_0 {p q : Prop} (x : q) (h : q → p := by intro h_; repeat (first | (with_reducible first | exact h_ | apply IsS123.alloc | apply IsS123.drewN | apply IsS123.drew | apply IsS123.set_1 | apply IsS123.set_2) | exact h_)) : p := h x
theorem mI75_1 {p q a0 : Prop} (x : q) (g0 : a0) (h : q → a0 → p := by intro h_ g0_; repeat (first | (with_reducible first | exact h_ | apply IsS123.alloc | apply IsS123.drewN | apply IsS123.drew | apply IsS123.set_1 | apply IsS123.set_2 | refine IsS123.far ?_ g0_ _) | exact h_)) : p := h x g0
theorem mI75_2 {p q a0 a1 : Prop} (x : q) (g0 : a0) (g1 : a1) (h : q → a0 → a1 → p := by intro h_ g0_ g1_; repeat (first | (with_reducible first | exact h_ | apply IsS123.alloc | apply IsS123.drewN | apply IsS123.drew | apply IsS123.set_1 | apply IsS123.set_2 | refine IsS123.far ?_ g0_ _ | refine IsS123.far ?_ g1_ _) | exact h_)) : p := h x g0 g1
theorem mQ75_3 {p q : Prop} (x : q) (h : q → p := by intro h_; repeat (first | (with_reducible first | exact h_ | apply KeepBut.set_ | apply keep_drewN | apply keep_drew | apply keep_alloc) | exact h_)) : p := h x
theorem mQ75_4 {p q a0 : Prop} (x : q) (g0 : a0) (h : q → a0 → p := by intro h_ g0_; repeat (first | (with_reducible first | exact h_ | apply KeepBut.set_ | apply keep_drewN | apply keep_drew | apply keep_alloc | refine keep_far ?_ g0_ _) | exact h_)) : p := h x g0
theorem mQ75_5 {p q a0 a1 : Prop} (x : q) (g0 : a0) (g1 : a1) (h : q → a0 → a1 → p := by intro h_ g0_ g1_; repeat (first | (with_reducible first | exact h_ | apply KeepBut.set_ | apply keep_drewN | apply keep_drew | apply keep_alloc | refine keep_far ?_ g0_ _ | refine keep_far ?_ g1_ _) | exact h_)) : p := h x g0 g1
theorem mH75_6 {p q a0 : Prop} (x : q) (g0 : a0) (h : q → a0 → p := by intro h_ g0_; repeat (first | (with_reducible first | exact h_ | apply below_alloc | apply pw_below_drewN | apply below_drew1 | refine below_set ?_ g0_) | exact h_)) : p := h x g0
theorem mH75_7 {p q a0 a1 : Prop} (x : q) (g0 : a0) (g1 : a1) (h : q → a0 → a1 → p := by intro h_ g0_ g1_; repeat (first | (with_reducible first | exact h_ | apply below_alloc | apply pw_below_drewN | apply below_drew1 | refine below_set ?_ g0_ | refine below_set ?_ g1_) | exact h_)) : p := h x g0 g1
theorem mH75_8 {p q a0 a1 a2 : Prop} (x : q) (g0 : a0) (g1 : a1) (g2 : a2) (h : q → a0 → a1 → a2 → p := by intro h_ g0_ g1_ g2_; repeat (first | (with_reducible first | exact h_ | apply below_alloc | apply pw_below_drewN | apply below_drew1 | refine below_set ?_ g0_ | refine below_set ?_ g1_ | refine below_set ?_ g2_) | exact h_)) : p := h x g0 g1 g2
attribute [local go_sem] max2_int min2_int max_two min_two max_three min_three max_four min_four   -- for this text's walks alone
set_option linter.unusedVariables false
set_option linter.unusedSimpArgs false

/-! ### spec_l6DrawAny: function 75 -/
def spec_l6DrawAny.f (k : Nat) (s0_0 : List Int) (s0_1 : Int) (s0_2 : Int) : Option (Int × Int × (List (S46)) × Int × Int) := (spec_l6Draw.f k s0_0 s0_1 s0_2).bind fun bt176 => ((spec_l1Below.f s0_0 bt176.2.2.2.1 bt176.2.2.2.2 10).bind fun bt184 => (if bt184.1 = 0 then ((spec_l1Int.f s0_0 bt184.2.1 bt184.2.2 (([0, 1, 100000, 100001] : List Int))).bind fun bt190 => (some (bt190.1, bt176.2.1, bt176.2.2.1, bt190.2.1, bt190.2.2))) else (if bt184.1 = 1 then ((spec_l1Int.f s0_0 bt184.2.1 bt184.2.2 (([(-1), 0, bt176.1] : List Int))).bind fun bt196 => (some (bt176.1, bt196.1, bt176.2.2.1, bt196.2.1, bt196.2.2))) else (if bt184.1 = 2 then ((spec_l1Below.f s0_0 bt184.2.1 bt184.2.2 4).bind fun bt199 => ((spec_l1Below.f s0_0 bt199.2.1 bt199.2.2 5).bind fun bt202 => ((spec_l4Key.f s0_0 bt202.2.1 bt202.2.2).bind fun bt205 => ((spec_l4Key.f s0_0 bt205.2.1 bt205.2.2).bind fun bt208 => (if bt176.2.2.1.length < 2932031007402 then (some (bt176.1, bt176.2.1, (bt176.2.2.1 ++ [(⟨bt199.1, bt202.1, bt205.1, bt208.1⟩ : S46)]), bt208.2.1, bt208.2.2)) else (none)))))) else (some (bt176.1, bt176.2.1, bt176.2.2.1, bt184.2.1, bt184.2.2))))))
theorem spec_l6DrawAny.mono : ∀ a0 a1 a2 k, LeO (spec_l6DrawAny.f k a0 a1 a2) (spec_l6DrawAny.f (k + 1) a0 a1 a2) := by
 intro a0 a1 a2 k
 unfold spec_l6DrawAny.f
 repeat' first
   | (with_reducible exact spec_l6Draw.mono _ _ _ _)
   | (with_reducible exact LeO.refl _)
   | (with_reducible exact LeO.none _)
   | (with_reducible refine LeO.ite ?_ ?_)
   | (with_reducible refine LeO.bind ?_ (fun _ => ?_))
   | exact spec_l6Draw.mono _ _ _ _
   | exact LeO.none _
   | refine LeO.ite ?_ ?_
   | refine LeO.bind ?_ (fun _ => ?_)
def spec_l6DrawAny.T8 : Bool × List (List Nat × List Nat) := (true, [([], []), ([0], [0]), ([], []), ([2], [2]), ([], []), ([4, 3], [4]), ([], []), ([6, 5], [6]), ([], []), ([8, 7], [8]), ([3, 5, 7, 9], [3, 5, 7, 9]), ([10], [10]), ([1, 11, 9], [1, 11]), ([0, 1, 2, 3, 4, 5, 6, 7, 8, 9, 10, 11, 12], []), ([13, 12, 12, 0, 1, 2, 3, 4, 5, 6, 7, 8, 9, 10, 11, 12], [12, 13])])
def spec_l6DrawAny.B8 : List Nat := [0, 1, 0, 4, 0, 28, 0, 124, 0, 508, 1020, 2044, 4095, 8191, 16383]
theorem spec_l6DrawAny.tab8 : rtab .any (opsOf Try.f75 8) = spec_l6DrawAny.T8 := by kernel_rfl
theorem spec_l6DrawAny.bits8 : waitsOk spec_l6DrawAny.T8.2 spec_l6DrawAny.B8 = true := by kernel_rfl
set_option maxHeartbeats 8000000 in
set_option maxRecDepth 100000 in
theorem spec_l6DrawAny.calls (k : Nat) (g : Nat) (s0_0 : List Int) (s0_1 : Int) (s0_2 : Int) (r1 : Int) (r2 : Int) (r3 : List (S46)) (r4 : Int) (r5 : Int) (w0 w : World) (hI : IsS123 w0 w g s0_0 s0_1 s0_2) (hB : Below w0.heap.size w0 w) (h : spec_l6DrawAny.f k s0_0 s0_1 s0_2 = some (r1, r2, r3, r4, r5)) :
  Calls Try.prog 75 #[.pointer (some ⟨g, 0, none⟩)] w fun e w' => ∃ v2_ : Value, e = .returned (.agg #[.int .i64 r1, .int .i64 r2, v2_]) ∧ Kd.R k46 46 w' w.heap.size (fun _ => True) v2_ r3 ∧ IsS123 w0 w' g s0_0 r4 r5 ∧ Below w0.heap.size w0 w' ∧ KeepBut w w' g none := by
 have hu40 := Try.underlying40
 have hu46 := Try.underlying46
 have HI0 := mS hI
 have HK := mS (KeepBut.refl w g none)
 have HL := mS hB.size
 clear hI
 have HW0 := mS hB.size
 have HB := mS hB
 clear hB
 have H : ((spec_l6Draw.f k s0_0 s0_1 s0_2).bind fun bt176 => ((spec_l1Below.f s0_0 bt176.2.2.2.1 bt176.2.2.2.2 10).bind fun bt184 => (if bt184.1 = 0 then ((spec_l1Int.f s0_0 bt184.2.1 bt184.2.2 (([0, 1, 100000, 100001] : List Int))).bind fun bt190 => (some (bt190.1, bt176.2.1, bt176.2.2.1, bt190.2.1, bt190.2.2))) else (if bt184.1 = 1 then ((spec_l1Int.f s0_0 bt184.2.1 bt184.2.2 (([(-1), 0, bt176.1] : List Int))).bind fun bt196 => (some (bt176.1, bt196.1, bt176.2.2.1, bt196.2.1, bt196.2.2))) else (if bt184.1 = 2 then ((spec_l1Below.f s0_0 bt184.2.1 bt184.2.2 4).bind fun bt199 => ((spec_l1Below.f s0_0 bt199.2.1 bt199.2.2 5).bind fun bt202 => ((spec_l4Key.f s0_0 bt202.2.1 bt202.2.2).bind fun bt205 => ((spec_l4Key.f s0_0 bt205.2.1 bt205.2.2).bind fun bt208 => (if bt176.2.2.1.length < 2932031007402 then (some (bt176.1, bt176.2.1, (bt176.2.2.1 ++ [(⟨bt199.1, bt202.1, bt205.1, bt208.1⟩ : S46)]), bt208.2.1, bt208.2.2)) else (none)))))) else (some (bt176.1, bt176.2.1, bt176.2.2.1, bt184.2.1, bt184.2.2))))))) = some (r1, r2, r3, r4, r5) := h
 clear h
 replace H := Option.bind_eq_some_iff.mp H
 obtain ⟨⟨t176, t177, t178, t181, t182⟩, A20, H⟩ := H
 replace H : ((spec_l1Below.f s0_0 t181 t182 10).bind fun bt184 => (if bt184.1 = 0 then ((spec_l1Int.f s0_0 bt184.2.1 bt184.2.2 (([0, 1, 100000, 100001] : List Int))).bind fun bt190 => (some (bt190.1, t177, t178, bt190.2.1, bt190.2.2))) else (if bt184.1 = 1 then ((spec_l1Int.f s0_0 bt184.2.1 bt184.2.2 (([(-1), 0, t176] : List Int))).bind fun bt196 => (some (t176, bt196.1, t178, bt196.2.1, bt196.2.2))) else (if bt184.1 = 2 then ((spec_l1Below.f s0_0 bt184.2.1 bt184.2.2 4).bind fun bt199 => ((spec_l1Below.f s0_0 bt199.2.1 bt199.2.2 5).bind fun bt202 => ((spec_l4Key.f s0_0 bt202.2.1 bt202.2.2).bind fun bt205 => ((spec_l4Key.f s0_0 bt205.2.1 bt205.2.2).bind fun bt208 => (if t178.length < 2932031007402 then (some (t176, t177, (t178 ++ [(⟨bt199.1, bt202.1, bt205.1, bt208.1⟩ : S46)]), bt208.2.1, bt208.2.2)) else (none)))))) else (some (t176, t177, t178, bt184.2.1, bt184.2.2)))))) = some (r1, r2, r3, r4, r5) := H
 have A2 := mS A20
 clear A20
 replace H := Option.bind_eq_some_iff.mp H
 obtain ⟨⟨t184, t185, t186⟩, A30, H⟩ := H
 replace H : (if t184 = 0 then ((spec_l1Int.f s0_0 t185 t186 (([0, 1, 100000, 100001] : List Int))).bind fun bt190 => (some (bt190.1, t177, t178, bt190.2.1, bt190.2.2))) else (if t184 = 1 then ((spec_l1Int.f s0_0 t185 t186 (([(-1), 0, t176] : List Int))).bind fun bt196 => (some (t176, bt196.1, t178, bt196.2.1, bt196.2.2))) else (if t184 = 2 then ((spec_l1Below.f s0_0 t185 t186 4).bind fun bt199 => ((spec_l1Below.f s0_0 bt199.2.1 bt199.2.2 5).bind fun bt202 => ((spec_l4Key.f s0_0 bt202.2.1 bt202.2.2).bind fun bt205 => ((spec_l4Key.f s0_0 bt205.2.1 bt205.2.2).bind fun bt208 => (if t178.length < 2932031007402 then (some (t176, t177, (t178 ++ [(⟨bt199.1, bt202.1, bt205.1, bt208.1⟩ : S46)]), bt208.2.1, bt208.2.2)) else (none)))))) else (some (t176, t177, t178, t185, t186))))) = some (r1, r2, r3, r4, r5) := H
 have A3 := mS A30
 clear A30
 by_cases c4 : t184 = 0
 ·rw [if_pos c4] at H
  have c4b0 : (t184 == 0) = true := beq_iff_eq.mpr c4
  have c4b1 : (t184 != 0) = false := bne_eq_false_iff_eq.mpr c4
  clear c4
  obtain ⟨y187, hy187⟩ : ∃ y_ : List Int, y_ = (([0, 1, 100000, 100001] : List Int)) := ⟨_, rfl⟩
  replace H : ((spec_l1Int.f s0_0 t185 t186 y187).bind fun bt190 => (some (bt190.1, t177, t178, bt190.2.1, bt190.2.2))) = some (r1, r2, r3, r4, r5) := by first | (rw [hy187]; with_reducible exact H) | (have H2_ := (Option.bind_some _ _).symm.trans H; rw [hy187]; with_reducible exact H2_) | (have H2_ := (Option.bind_some _ _).symm.trans H; with_reducible exact H2_) | with_reducible exact H | (rw [hy187]; exact H) | exact H
  have Ny187 := mS hy187
  clear hy187
  replace H := Option.bind_eq_some_iff.mp H
  obtain ⟨⟨t190, t191, t192⟩, A50, H⟩ := H
  replace H : (some (t190, t177, t178, t191, t192)) = some (r1, r2, r3, r4, r5) := H
  have A5 := mS A50
  clear A50
  simp only [Option.some.injEq, Prod.mk.injEq] at H
  obtain ⟨rfl, rfl, rfl, rfl, rfl⟩ := H
  go_enter Try.func75, Try.ntmps75
  go_wp2_with (first | ((with_reducible refine gate_dst (N := 2) rfl ?_); refine box_event ?hg (N := 2) ?hd (cs := #[.int .i64 0, .int .i64 0, .slice none 0 0]) (t := 40) ?hr ?_; (case hd => rfl); (case hg => rfl); (case hr => first | (go_simp; done) | (go_simp; rfl)); intro gb175 hg w6 hbox hb; replace HB := mS (below_step (mH75_6 HB.out (IsS123.ge HI0.out)) hb); have BK175 := mS (hbox); have GW175 := mS ((by rw [hg]; exact (keep_size (w := w) (g := g) (row := none) (mQ75_3 HK.out)) : w.heap.size ≤ gb175)); have GE175 := mS ((Nat.le_trans HW0.out (by rw [hg]; exact (keep_size (w := w) (g := g) (row := none) (mQ75_3 HK.out)) : w.heap.size ≤ gb175) : w0.heap.size ≤ gb175)); replace HK := mS (KeepBut.trans (mQ75_3 HK.out) (KeepBut.of_below hb g none) (.inl rfl)); have NB0_175 := mS ((by rw [hg]; exact Nat.ne_of_lt (IsS123.lt (show IsS123 w0 _ g s0_0 s0_1 s0_2 from mI75_0 HI0.out)) : g ≠ gb175)); have NB175_0 := mS ((by rw [hg]; exact Nat.ne_of_gt (IsS123.lt (show IsS123 w0 _ g s0_0 s0_1 s0_2 from mI75_0 HI0.out)) : gb175 ≠ g)); replace HI0 := mS (IsS123.below (mI75_0 HI0.out) hb); clear hb hbox hg) | ((with_reducible refine gate_callee (f := 102) rfl ?_); refine goesL_ (some 5) rfl rfl Try.func102 (by kernel_rfl) rfl #[.pointer (some ⟨g, 0, none⟩)] rfl mA ?_; (with_reducible refine (spec_l6Draw.calls k g s0_0 s0_1 s0_2 t176 t177 t178 t181 t182 w0 _ ?side1 ?side2 A2.out).mono ?_); (case side1 => repeat (first | (with_reducible first | exact HI0.out | apply IsS123.alloc | apply IsS123.drewN | apply IsS123.drew | apply IsS123.set_1 | apply IsS123.set_2 | refine IsS123.far ?_ NB0_175.out _) | exact HI0.out)); (case side2 => repeat (first | (with_reducible first | exact HB.out | apply below_alloc | apply pw_below_drewN | apply below_drew1 | refine below_set ?_ (IsS123.ge HI0.out) | refine below_set ?_ GE175.out) | exact HB.out)); rintro e w7 ⟨v179, rfl, ho0, hi, hb, hk⟩; refine ⟨_, rfl, ?_⟩; replace BK175 := mS (KeepBut.blk hk (g' := gb175) (o := .cells #[.int .i64 0, .int .i64 0, .slice none 0 0] 40 (0, 0)) (mK BK175.out) NB175_0.out (by simp)); have HO180 := mS (Kd.R_lower ho0 (keep_size (w := w) (g := g) (row := none) (mQ75_4 HK.out GW175.out))); replace HK := mS (KeepBut.trans (mQ75_4 HK.out GW175.out) hk (.inl rfl)); replace HB := mS (hb); replace HI0 := mS (hi); (try clear hb); (try clear hb2); (try clear hk); (try clear hi); (try clear ho0)) | ((with_reducible refine gate_dst (N := 3) rfl ?_); refine box_event ?hg (N := 3) ?hd (cs := #[.int .i64 0, .int .i64 0, .slice none 0 0]) (t := 40) ?hr ?_; (case hd => rfl); (case hg => rfl); (case hr => first | (go_simp; done) | (go_simp; rfl)); intro gb183 hg w8 hbox hb; replace HO180 := mS (Kd.R_below (mR HO180.out) hb); replace HB := mS (below_step (mH75_7 HB.out (IsS123.ge HI0.out) GE175.out) hb); have BK183 := mS (hbox); have GW183 := mS ((by rw [hg]; exact (keep_size (w := w) (g := g) (row := none) (mQ75_4 HK.out GW175.out)) : w.heap.size ≤ gb183)); have GE183 := mS ((Nat.le_trans HW0.out (by rw [hg]; exact (keep_size (w := w) (g := g) (row := none) (mQ75_4 HK.out GW175.out)) : w.heap.size ≤ gb183) : w0.heap.size ≤ gb183)); replace HK := mS (KeepBut.trans (mQ75_4 HK.out GW175.out) (KeepBut.of_below hb g none) (.inl rfl)); have NB175_183 := mNl hg BK175.out; have NB183_175 := mNg hg BK175.out; replace BK175 := mB BK175 hb; have NB0_183 := mS ((by rw [hg]; exact Nat.ne_of_lt (IsS123.lt (show IsS123 w0 _ g s0_0 t181 t182 from mI75_1 HI0.out NB0_175.out)) : g ≠ gb183)); have NB183_0 := mS ((by rw [hg]; exact Nat.ne_of_gt (IsS123.lt (show IsS123 w0 _ g s0_0 t181 t182 from mI75_1 HI0.out NB0_175.out)) : gb183 ≠ g)); replace HI0 := mS (IsS123.below (mI75_1 HI0.out NB0_175.out) hb); clear hb hbox hg; have hnb9 := NB183_175.out; have hnc9 := NB175_183.out; have hnb10 := NB183_0.out; have hnc10 := NB0_183.out; have hcz11_0 := mZ BK183.out 0; have hcz11_1 := mZ BK183.out 1; have hcz11_2 := mZ BK183.out 2; have hfz11_0 := blk_frozen BK183.out 0; have hfz11_1 := blk_frozen BK183.out 1; have hfz11_2 := blk_frozen BK183.out 2; obtain ⟨Ao12, co12, eo12⟩ := Kd.R_slice HO180.out; subst eo12) | ((with_reducible refine gate_callee (f := 73) rfl ?_); refine goesL_ (some 7) rfl rfl Try.func73 (by kernel_rfl) rfl #[.pointer (some ⟨g, 0, none⟩), .int .i64 10] rfl mA ?_; (with_reducible refine (spec_l1Below.calls g s0_0 t181 t182 10 t184 t185 t186 w0 _ ?side1 ?side2 A3.out).mono ?_); (case side1 => repeat (first | (with_reducible first | exact HI0.out | apply IsS123.alloc | apply IsS123.drewN | apply IsS123.drew | apply IsS123.set_1 | apply IsS123.set_2 | refine IsS123.far ?_ NB0_175.out _ | refine IsS123.far ?_ NB0_183.out _) | exact HI0.out)); (case side2 => repeat (first | (with_reducible first | exact HB.out | apply below_alloc | apply pw_below_drewN | apply below_drew1 | refine below_set ?_ (IsS123.ge HI0.out) | refine below_set ?_ GE175.out | refine below_set ?_ GE183.out) | exact HB.out)); rintro e w13 ⟨rfl, hi, hb, hk⟩; refine ⟨_, rfl, ?_⟩; replace BK175 := mS (KeepBut.blk hk (g' := gb175) (o := .cells #[.int .i64 0, .int .i64 0, .slice none 0 0] 40 (0, 0)) (by (with_reducible repeat (first | refine blk_drewN ?_ _ | refine blk_drew ?_ | refine blk_alloc ?_ _)); refine blk_far ?_ NB175_183.out _; (with_reducible repeat (first | refine blk_drewN ?_ _ | refine blk_drew ?_ | refine blk_alloc ?_ _)); refine blk_far ?_ NB175_183.out _; (with_reducible repeat (first | refine blk_drewN ?_ _ | refine blk_drew ?_ | refine blk_alloc ?_ _)); refine blk_far ?_ NB175_183.out _; (with_reducible repeat (first | refine blk_drewN ?_ _ | refine blk_drew ?_ | refine blk_alloc ?_ _)); exact BK175.out) NB175_0.out (by simp)); replace HO180 := mS (Kd.R_mono (Kd.R_keep (IsS123.apart (show IsS123 w0 _ g s0_0 t181 t182 from mI75_2 HI0.out NB0_175.out NB0_183.out) (by (with_reducible repeat (first | apply Kd.R_alloc | apply Kd.R_drewN | apply Kd.R_drew)); exact (Kd.R_mono (Kd.R_far (p := ⟨gb183, 2, none⟩) (Kd.R_far (p := ⟨gb183, 1, none⟩) (Kd.R_far (p := ⟨gb183, 0, none⟩) (Kd.R_types HO180.out BK183.out (by decide)) (fun _ hk => hk.2) (.int .i64 t176)) (fun _ hk => hk.2) (.int .i64 t177)) (fun _ hk => hk.2) (.slice Ao12 t178.length co12)) (fun _ h_ => h_.1))) (by decide)) hk (fun _ h => h.2)) (fun _ h => h.1)); replace BK183 := mS (KeepBut.blk hk (g' := gb183) (o := .cells #[.int .i64 t176, .int .i64 t177, .slice Ao12 t178.length co12] 40 (0, 0)) (by (with_reducible repeat (first | refine blk_drewN ?_ _ | refine blk_drew ?_ | refine blk_alloc ?_ _)); refine blk_put (cs := #[.int .i64 t176, .int .i64 t177, .slice none 0 0]) ?_ 2 _ rfl; (with_reducible repeat (first | refine blk_drewN ?_ _ | refine blk_drew ?_ | refine blk_alloc ?_ _)); refine blk_put (cs := #[.int .i64 t176, .int .i64 0, .slice none 0 0]) ?_ 1 _ rfl; (with_reducible repeat (first | refine blk_drewN ?_ _ | refine blk_drew ?_ | refine blk_alloc ?_ _)); refine blk_put (cs := #[.int .i64 0, .int .i64 0, .slice none 0 0]) ?_ 0 _ rfl; (with_reducible repeat (first | refine blk_drewN ?_ _ | refine blk_drew ?_ | refine blk_alloc ?_ _)); exact BK183.out) NB183_0.out (by simp)); replace HK := mS (KeepBut.trans (mQ75_5 HK.out GW175.out GW183.out) hk (.inl rfl)); replace HB := mS (hb); replace HI0 := mS (hi); (try clear hb); (try clear hb2); (try clear hk); (try clear hi)) | ((with_reducible refine gate_dst (N := 11) rfl ?_); refine Kd.R_lit (Kd.int .i64) _ 3 ?hg (N := 11) ?hd (xs := ([0, 1, 100000, 100001] : List Int)) (inner := [.int .i64 0, .int .i64 1, .int .i64 100000, .int .i64 100001]) (ok := fun _ => True) (okp := fun _ => True) ?hr ?hp (fun _ hk => hk) trivial (Below.refl _ _) (Nat.le_refl _) (by simp) ?_; (case hd => rfl); (case hg => rfl); (case hr => first | (go_simp; done) | (go_simp; rfl)); (case hp => exact (Reps.one (show Kd.M (Kd.int .i64) _ _ _ 0 [.int .i64 0] from rfl) (Reps.one (show Kd.M (Kd.int .i64) _ _ _ 1 [.int .i64 1] from rfl) (Reps.one (show Kd.M (Kd.int .i64) _ _ _ 100000 [.int .i64 100000] from rfl) (Reps.one (show Kd.M (Kd.int .i64) _ _ _ 100001 [.int .i64 100001] from rfl) (Reps.none _ _)))))); intro v188 w14 ho15 hb hg_ hnew_; clear hg_ hnew_; (first | rw [← Ny187.out] at ho15 | (simp only [Int.reduceToNat] at ho15; rw [← Ny187.out] at ho15)); replace HO180 := mS (Kd.R_below (mR HO180.out) hb); have HO189 := mS (Kd.R_lower ho15 (keep_size (w := w) (g := g) (row := none) (mQ75_5 HK.out GW175.out GW183.out))); replace BK175 := mB BK175 hb; replace BK183 := mB BK183 hb; replace HK := mS (KeepBut.trans (mQ75_5 HK.out GW175.out GW183.out) (KeepBut.of_below hb g none) (.inl rfl)); replace HB := mS (below_step (mH75_8 HB.out (IsS123.ge HI0.out) GE175.out GE183.out) hb); replace HI0 := mS (IsS123.below (mI75_2 HI0.out NB0_175.out NB0_183.out) hb); clear hb ho15; obtain ⟨Ao16, co16, eo16⟩ := Kd.R_slice HO189.out; subst eo16) | ((with_reducible refine gate_callee (f := 72) rfl ?_); refine goesL_ (some 12) rfl rfl Try.func72 (by kernel_rfl) rfl #[.pointer (some ⟨g, 0, none⟩), .slice Ao16 y187.length co16] rfl mA ?_; (with_reducible refine (spec_l1Int.calls g s0_0 t185 t186 _ _ y187 t190 t191 t192 w0 _ ?side1 ?side2 ?side3 ?side4 ?side5 A5.out).mono ?_); (case side1 => repeat (first | (with_reducible first | exact HI0.out | apply IsS123.alloc | apply IsS123.drewN | apply IsS123.drew | apply IsS123.set_1 | apply IsS123.set_2 | refine IsS123.far ?_ NB0_175.out _ | refine IsS123.far ?_ NB0_183.out _) | exact HI0.out)); (case side2 => repeat (first | (with_reducible first | exact HB.out | apply below_alloc | apply pw_below_drewN | apply below_drew1 | refine below_set ?_ (IsS123.ge HI0.out) | refine below_set ?_ GE175.out | refine below_set ?_ GE183.out) | exact HB.out)); (case side3 => repeat (first | exact (Kd.R_reads' HO189.out).2.2 | (with_reducible refine Kd.C_alloc ?_ _) | (with_reducible refine Kd.C_drewN ?_ _) | (with_reducible refine Kd.C_drew ?_))); (case side4 => exact (Kd.R_reads' HO189.out).2.1); (case side5 => exact far_slice (IsS123.own_ne HI0.out HO189.out (by decide))); rintro e w17 ⟨rfl, hi, hb, hk⟩; refine ⟨_, rfl, ?_⟩; replace BK175 := mS (KeepBut.blk hk (g' := gb175) (o := .cells #[.int .i64 0, .int .i64 0, .slice none 0 0] 40 (0, 0)) (mK BK175.out) NB175_0.out (by simp)); replace HO180 := mS (Kd.R_mono (Kd.R_keep (IsS123.apart (show IsS123 w0 _ g s0_0 t185 t186 from mI75_2 HI0.out NB0_175.out NB0_183.out) (mR HO180.out) (by decide)) hk (fun _ h => h.2)) (fun _ h => h.1)); replace BK183 := mS (KeepBut.blk hk (g' := gb183) (o := .cells #[.int .i64 t176, .int .i64 t177, .slice Ao12 t178.length co12] 40 (0, 0)) (mK BK183.out) NB183_0.out (by simp)); replace HO189 := mS (Kd.R_mono (Kd.R_keep (IsS123.apart (show IsS123 w0 _ g s0_0 t185 t186 from mI75_2 HI0.out NB0_175.out NB0_183.out) (mR HO189.out) (by decide)) hk (fun _ h => h.2)) (fun _ h => h.1)); replace HK := mS (KeepBut.trans (mQ75_5 HK.out GW175.out GW183.out) hk (.inl rfl)); replace HB := mS (hb); replace HI0 := mS (hi); (try clear hb); (try clear hb2); (try clear hk); (try clear hi); have hcz18_0 := mZ BK183.out 0; have hcz18_1 := mZ BK183.out 1; have hcz18_2 := mZ BK183.out 2; have hfz18_0 := blk_frozen BK183.out 0; have hfz18_1 := blk_frozen BK183.out 1; have hfz18_2 := blk_frozen BK183.out 2; have hnb19 := NB175_0.out; have hnc19 := NB0_175.out; have hcz20_0 := mZ BK175.out 0; have hcz20_1 := mZ BK175.out 1; have hcz20_2 := mZ BK175.out 2; have hfz20_0 := blk_frozen BK175.out 0; have hfz20_1 := blk_frozen BK175.out 1; have hfz20_2 := blk_frozen BK175.out 2))
  refine bodyPost_ret (results_cell_row rfl _ _ gb175 40 #[.int .i64 t190, .int .i64 t177, .slice Ao12 t178.length co12] (0, 0) _ rfl (by (with_reducible repeat (first | refine blk_drewN ?_ _ | refine blk_drew ?_ | refine blk_alloc ?_ _)); refine blk_put (cs := #[.int .i64 t190, .int .i64 t177, .slice none 0 0]) ?_ 2 _ rfl; (with_reducible repeat (first | refine blk_drewN ?_ _ | refine blk_drew ?_ | refine blk_alloc ?_ _)); refine blk_put (cs := #[.int .i64 t190, .int .i64 0, .slice none 0 0]) ?_ 1 _ rfl; (with_reducible repeat (first | refine blk_drewN ?_ _ | refine blk_drew ?_ | refine blk_alloc ?_ _)); refine blk_put (cs := #[.int .i64 0, .int .i64 0, .slice none 0 0]) ?_ 0 _ rfl; (with_reducible repeat (first | refine blk_drewN ?_ _ | refine blk_drew ?_ | refine blk_alloc ?_ _)); refine blk_far ?_ NB175_183.out _; (with_reducible repeat (first | refine blk_drewN ?_ _ | refine blk_drew ?_ | refine blk_alloc ?_ _)); exact BK175.out) Try.underlying40 rfl (by kernel_rfl)) rfl ?_
  exact ⟨_, by first | rfl | (simp [errW_none, errW_some] <;> rfl) | (simp [*, errW_none, errW_some] <;> rfl), by (with_reducible repeat (first | apply Kd.R_alloc | apply Kd.R_drewN | apply Kd.R_drew)); exact Kd.R_mono (Kd.R_far (p := ⟨gb175, 2, none⟩) (Kd.R_far (p := ⟨gb175, 1, none⟩) (Kd.R_far (p := ⟨gb175, 0, none⟩) (Kd.R_far (p := ⟨gb183, 0, none⟩) (Kd.R_types (Kd.R_types HO180.out BK183.out (by decide)) BK175.out (by decide)) (fun _ hk => hk.1.2) (.int .i64 t190)) (fun _ hk => hk.2) (.int .i64 t190)) (fun _ hk => hk.2) (.int .i64 t177)) (fun _ hk => hk.2) (.slice Ao12 t178.length co12)) (fun _ hk => trivial), mI75_2 HI0.out NB0_175.out NB0_183.out, mH75_8 HB.out (IsS123.ge HI0.out) GE175.out GE183.out, mQ75_5 HK.out GW175.out GW183.out⟩
 ·rw [if_neg c4] at H
  have c4b0 : (t184 == 0) = false := beq_eq_false_iff_ne.mpr c4
  have c4b1 : (t184 != 0) = true := bne_iff_ne.mpr c4
  by_cases c21 : t184 = 1
  ·rw [if_pos c21] at H
   have c21b0 : (t184 == 1) = true := beq_iff_eq.mpr c21
   have c21b1 : (t184 != 1) = false := bne_eq_false_iff_eq.mpr c21
   clear c21
   obtain ⟨y193, hy193⟩ : ∃ y_ : List Int, y_ = (([(-1), 0, t176] : List Int)) := ⟨_, rfl⟩
   replace H : ((spec_l1Int.f s0_0 t185 t186 y193).bind fun bt196 => (some (t176, bt196.1, t178, bt196.2.1, bt196.2.2))) = some (r1, r2, r3, r4, r5) := by first | (rw [hy193]; with_reducible exact H) | (have H2_ := (Option.bind_some _ _).symm.trans H; rw [hy193]; with_reducible exact H2_) | (have H2_ := (Option.bind_some _ _).symm.trans H; with_reducible exact H2_) | with_reducible exact H | (rw [hy193]; exact H) | exact H
   have Ny193 := mS hy193
   clear hy193
   replace H := Option.bind_eq_some_iff.mp H
   obtain ⟨⟨t196, t197, t198⟩, A220, H⟩ := H
   replace H : (some (t176, t196, t178, t197, t198)) = some (r1, r2, r3, r4, r5) := H
   have A22 := mS A220
   clear A220
   simp only [Option.some.injEq, Prod.mk.injEq] at H
   obtain ⟨rfl, rfl, rfl, rfl, rfl⟩ := H
   go_enter Try.func75, Try.ntmps75
   go_wp2_with (first | ((with_reducible refine gate_dst (N := 2) rfl ?_); refine box_event ?hg (N := 2) ?hd (cs := #[.int .i64 0, .int .i64 0, .slice none 0 0]) (t := 40) ?hr ?_; (case hd => rfl); (case hg => rfl); (case hr => first | (go_simp; done) | (go_simp; rfl)); intro gb175 hg w23 hbox hb; replace HB := mS (below_step (mH75_6 HB.out (IsS123.ge HI0.out)) hb); have BK175 := mS (hbox); have GW175 := mS ((by rw [hg]; exact (keep_size (w := w) (g := g) (row := none) (mQ75_3 HK.out)) : w.heap.size ≤ gb175)); have GE175 := mS ((Nat.le_trans HW0.out (by rw [hg]; exact (keep_size (w := w) (g := g) (row := none) (mQ75_3 HK.out)) : w.heap.size ≤ gb175) : w0.heap.size ≤ gb175)); replace HK := mS (KeepBut.trans (mQ75_3 HK.out) (KeepBut.of_below hb g none) (.inl rfl)); have NB0_175 := mS ((by rw [hg]; exact Nat.ne_of_lt (IsS123.lt (show IsS123 w0 _ g s0_0 s0_1 s0_2 from mI75_0 HI0.out)) : g ≠ gb175)); have NB175_0 := mS ((by rw [hg]; exact Nat.ne_of_gt (IsS123.lt (show IsS123 w0 _ g s0_0 s0_1 s0_2 from mI75_0 HI0.out)) : gb175 ≠ g)); replace HI0 := mS (IsS123.below (mI75_0 HI0.out) hb); clear hb hbox hg) | ((with_reducible refine gate_callee (f := 102) rfl ?_); refine goesL_ (some 5) rfl rfl Try.func102 (by kernel_rfl) rfl #[.pointer (some ⟨g, 0, none⟩)] rfl mA ?_; (with_reducible refine (spec_l6Draw.calls k g s0_0 s0_1 s0_2 t176 t177 t178 t181 t182 w0 _ ?side1 ?side2 A2.out).mono ?_); (case side1 => repeat (first | (with_reducible first | exact HI0.out | apply IsS123.alloc | apply IsS123.drewN | apply IsS123.drew | apply IsS123.set_1 | apply IsS123.set_2 | refine IsS123.far ?_ NB0_175.out _) | exact HI0.out)); (case side2 => repeat (first | (with_reducible first | exact HB.out | apply below_alloc | apply pw_below_drewN | apply below_drew1 | refine below_set ?_ (IsS123.ge HI0.out) | refine below_set ?_ GE175.out) | exact HB.out)); rintro e w24 ⟨v179, rfl, ho0, hi, hb, hk⟩; refine ⟨_, rfl, ?_⟩; replace BK175 := mS (KeepBut.blk hk (g' := gb175) (o := .cells #[.int .i64 0, .int .i64 0, .slice none 0 0] 40 (0, 0)) (mK BK175.out) NB175_0.out (by simp)); have HO180 := mS (Kd.R_lower ho0 (keep_size (w := w) (g := g) (row := none) (mQ75_4 HK.out GW175.out))); replace HK := mS (KeepBut.trans (mQ75_4 HK.out GW175.out) hk (.inl rfl)); replace HB := mS (hb); replace HI0 := mS (hi); (try clear hb); (try clear hb2); (try clear hk); (try clear hi); (try clear ho0)) | ((with_reducible refine gate_dst (N := 3) rfl ?_); refine box_event ?hg (N := 3) ?hd (cs := #[.int .i64 0, .int .i64 0, .slice none 0 0]) (t := 40) ?hr ?_; (case hd => rfl); (case hg => rfl); (case hr => first | (go_simp; done) | (go_simp; rfl)); intro gb183 hg w25 hbox hb; replace HO180 := mS (Kd.R_below (mR HO180.out) hb); replace HB := mS (below_step (mH75_7 HB.out (IsS123.ge HI0.out) GE175.out) hb); have BK183 := mS (hbox); have GW183 := mS ((by rw [hg]; exact (keep_size (w := w) (g := g) (row := none) (mQ75_4 HK.out GW175.out)) : w.heap.size ≤ gb183)); have GE183 := mS ((Nat.le_trans HW0.out (by rw [hg]; exact (keep_size (w := w) (g := g) (row := none) (mQ75_4 HK.out GW175.out)) : w.heap.size ≤ gb183) : w0.heap.size ≤ gb183)); replace HK := mS (KeepBut.trans (mQ75_4 HK.out GW175.out) (KeepBut.of_below hb g none) (.inl rfl)); have NB175_183 := mNl hg BK175.out; have NB183_175 := mNg hg BK175.out; replace BK175 := mB BK175 hb; have NB0_183 := mS ((by rw [hg]; exact Nat.ne_of_lt (IsS123.lt (show IsS123 w0 _ g s0_0 t181 t182 from mI75_1 HI0.out NB0_175.out)) : g ≠ gb183)); have NB183_0 := mS ((by rw [hg]; exact Nat.ne_of_gt (IsS123.lt (show IsS123 w0 _ g s0_0 t181 t182 from mI75_1 HI0.out NB0_175.out)) : gb183 ≠ g)); replace HI0 := mS (IsS123.below (mI75_1 HI0.out NB0_175.out) hb); clear hb hbox hg; have hnb26 := NB183_175.out; have hnc26 := NB175_183.out; have hnb27 := NB183_0.out; have hnc27 := NB0_183.out; have hcz28_0 := mZ BK183.out 0; have hcz28_1 := mZ BK183.out 1; have hcz28_2 := mZ BK183.out 2; have hfz28_0 := blk_frozen BK183.out 0; have hfz28_1 := blk_frozen BK183.out 1; have hfz28_2 := blk_frozen BK183.out 2; obtain ⟨Ao29, co29, eo29⟩ := Kd.R_slice HO180.out; subst eo29) | ((with_reducible refine gate_callee (f := 73) rfl ?_); refine goesL_ (some 7) rfl rfl Try.func73 (by kernel_rfl) rfl #[.pointer (some ⟨g, 0, none⟩), .int .i64 10] rfl mA ?_; (with_reducible refine (spec_l1Below.calls g s0_0 t181 t182 10 t184 t185 t186 w0 _ ?side1 ?side2 A3.out).mono ?_); (case side1 => repeat (first | (with_reducible first | exact HI0.out | apply IsS123.alloc | apply IsS123.drewN | apply IsS123.drew | apply IsS123.set_1 | apply IsS123.set_2 | refine IsS123.far ?_ NB0_175.out _ | refine IsS123.far ?_ NB0_183.out _) | exact HI0.out)); (case side2 => repeat (first | (with_reducible first | exact HB.out | apply below_alloc | apply pw_below_drewN | apply below_drew1 | refine below_set ?_ (IsS123.ge HI0.out) | refine below_set ?_ GE175.out | refine below_set ?_ GE183.out) | exact HB.out)); rintro e w30 ⟨rfl, hi, hb, hk⟩; refine ⟨_, rfl, ?_⟩; replace BK175 := mS (KeepBut.blk hk (g' := gb175) (o := .cells #[.int .i64 0, .int .i64 0, .slice none 0 0] 40 (0, 0)) (by (with_reducible repeat (first | refine blk_drewN ?_ _ | refine blk_drew ?_ | refine blk_alloc ?_ _)); refine blk_far ?_ NB175_183.out _; (with_reducible repeat (first | refine blk_drewN ?_ _ | refine blk_drew ?_ | refine blk_alloc ?_ _)); refine blk_far ?_ NB175_183.out _; (with_reducible repeat (first | refine blk_drewN ?_ _ | refine blk_drew ?_ | refine blk_alloc ?_ _)); refine blk_far ?_ NB175_183.out _; (with_reducible repeat (first | refine blk_drewN ?_ _ | refine blk_drew ?_ | refine blk_alloc ?_ _)); exact BK175.out) NB175_0.out (by simp)); replace HO180 := mS (Kd.R_mono (Kd.R_keep (IsS123.apart (show IsS123 w0 _ g s0_0 t181 t182 from mI75_2 HI0.out NB0_175.out NB0_183.out) (by (with_reducible repeat (first | apply Kd.R_alloc | apply Kd.R_drewN | apply Kd.R_drew)); exact (Kd.R_mono (Kd.R_far (p := ⟨gb183, 2, none⟩) (Kd.R_far (p := ⟨gb183, 1, none⟩) (Kd.R_far (p := ⟨gb183, 0, none⟩) (Kd.R_types HO180.out BK183.out (by decide)) (fun _ hk => hk.2) (.int .i64 t176)) (fun _ hk => hk.2) (.int .i64 t177)) (fun _ hk => hk.2) (.slice Ao29 t178.length co29)) (fun _ h_ => h_.1))) (by decide)) hk (fun _ h => h.2)) (fun _ h => h.1)); replace BK183 := mS (KeepBut.blk hk (g' := gb183) (o := .cells #[.int .i64 t176, .int .i64 t177, .slice Ao29 t178.length co29] 40 (0, 0)) (by (with_reducible repeat (first | refine blk_drewN ?_ _ | refine blk_drew ?_ | refine blk_alloc ?_ _)); refine blk_put (cs := #[.int .i64 t176, .int .i64 t177, .slice none 0 0]) ?_ 2 _ rfl; (with_reducible repeat (first | refine blk_drewN ?_ _ | refine blk_drew ?_ | refine blk_alloc ?_ _)); refine blk_put (cs := #[.int .i64 t176, .int .i64 0, .slice none 0 0]) ?_ 1 _ rfl; (with_reducible repeat (first | refine blk_drewN ?_ _ | refine blk_drew ?_ | refine blk_alloc ?_ _)); refine blk_put (cs := #[.int .i64 0, .int .i64 0, .slice none 0 0]) ?_ 0 _ rfl; (with_reducible repeat (first | refine blk_drewN ?_ _ | refine blk_drew ?_ | refine blk_alloc ?_ _)); exact BK183.out) NB183_0.out (by simp)); replace HK := mS (KeepBut.trans (mQ75_5 HK.out GW175.out GW183.out) hk (.inl rfl)); replace HB := mS (hb); replace HI0 := mS (hi); (try clear hb); (try clear hb2); (try clear hk); (try clear hi); have hcz31_0 := mZ BK183.out 0; have hcz31_1 := mZ BK183.out 1; have hcz31_2 := mZ BK183.out 2; have hfz31_0 := blk_frozen BK183.out 0; have hfz31_1 := blk_frozen BK183.out 1; have hfz31_2 := blk_frozen BK183.out 2) | ((with_reducible refine gate_dst (N := 19) rfl ?_); refine Kd.R_lit (Kd.int .i64) _ 3 ?hg (N := 19) ?hd (xs := ([(-1), 0, t176] : List Int)) (inner := [.int .i64 (-1), .int .i64 0, .int .i64 t176]) (ok := fun _ => True) (okp := fun _ => True) ?hr ?hp (fun _ hk => hk) trivial (Below.refl _ _) (Nat.le_refl _) (by simp) ?_; (case hd => rfl); (case hg => rfl); (case hr => first | (go_simp; done) | (go_simp; rfl)); (case hp => exact (Reps.one (show Kd.M (Kd.int .i64) _ _ _ (-1) [.int .i64 (-1)] from rfl) (Reps.one (show Kd.M (Kd.int .i64) _ _ _ 0 [.int .i64 0] from rfl) (Reps.one (show Kd.M (Kd.int .i64) _ _ _ t176 [.int .i64 t176] from rfl) (Reps.none _ _))))); intro v194 w32 ho33 hb hg_ hnew_; clear hg_ hnew_; (first | rw [← Ny193.out] at ho33 | (simp only [Int.reduceToNat] at ho33; rw [← Ny193.out] at ho33)); replace HO180 := mS (Kd.R_below (mR HO180.out) hb); have HO195 := mS (Kd.R_lower ho33 (keep_size (w := w) (g := g) (row := none) (mQ75_5 HK.out GW175.out GW183.out))); replace BK175 := mB BK175 hb; replace BK183 := mB BK183 hb; replace HK := mS (KeepBut.trans (mQ75_5 HK.out GW175.out GW183.out) (KeepBut.of_below hb g none) (.inl rfl)); replace HB := mS (below_step (mH75_8 HB.out (IsS123.ge HI0.out) GE175.out GE183.out) hb); replace HI0 := mS (IsS123.below (mI75_2 HI0.out NB0_175.out NB0_183.out) hb); clear hb ho33; obtain ⟨Ao34, co34, eo34⟩ := Kd.R_slice HO195.out; subst eo34) | ((with_reducible refine gate_callee (f := 72) rfl ?_); refine goesL_ (some 20) rfl rfl Try.func72 (by kernel_rfl) rfl #[.pointer (some ⟨g, 0, none⟩), .slice Ao34 y193.length co34] rfl mA ?_; (with_reducible refine (spec_l1Int.calls g s0_0 t185 t186 _ _ y193 t196 t197 t198 w0 _ ?side1 ?side2 ?side3 ?side4 ?side5 A22.out).mono ?_); (case side1 => repeat (first | (with_reducible first | exact HI0.out | apply IsS123.alloc | apply IsS123.drewN | apply IsS123.drew | apply IsS123.set_1 | apply IsS123.set_2 | refine IsS123.far ?_ NB0_175.out _ | refine IsS123.far ?_ NB0_183.out _) | exact HI0.out)); (case side2 => repeat (first | (with_reducible first | exact HB.out | apply below_alloc | apply pw_below_drewN | apply below_drew1 | refine below_set ?_ (IsS123.ge HI0.out) | refine below_set ?_ GE175.out | refine below_set ?_ GE183.out) | exact HB.out)); (case side3 => repeat (first | exact (Kd.R_reads' HO195.out).2.2 | (with_reducible refine Kd.C_alloc ?_ _) | (with_reducible refine Kd.C_drewN ?_ _) | (with_reducible refine Kd.C_drew ?_))); (case side4 => exact (Kd.R_reads' HO195.out).2.1); (case side5 => exact far_slice (IsS123.own_ne HI0.out HO195.out (by decide))); rintro e w35 ⟨rfl, hi, hb, hk⟩; refine ⟨_, rfl, ?_⟩; replace BK175 := mS (KeepBut.blk hk (g' := gb175) (o := .cells #[.int .i64 0, .int .i64 0, .slice none 0 0] 40 (0, 0)) (mK BK175.out) NB175_0.out (by simp)); replace HO180 := mS (Kd.R_mono (Kd.R_keep (IsS123.apart (show IsS123 w0 _ g s0_0 t185 t186 from mI75_2 HI0.out NB0_175.out NB0_183.out) (mR HO180.out) (by decide)) hk (fun _ h => h.2)) (fun _ h => h.1)); replace BK183 := mS (KeepBut.blk hk (g' := gb183) (o := .cells #[.int .i64 t176, .int .i64 t177, .slice Ao29 t178.length co29] 40 (0, 0)) (mK BK183.out) NB183_0.out (by simp)); replace HO195 := mS (Kd.R_mono (Kd.R_keep (IsS123.apart (show IsS123 w0 _ g s0_0 t185 t186 from mI75_2 HI0.out NB0_175.out NB0_183.out) (mR HO195.out) (by decide)) hk (fun _ h => h.2)) (fun _ h => h.1)); replace HK := mS (KeepBut.trans (mQ75_5 HK.out GW175.out GW183.out) hk (.inl rfl)); replace HB := mS (hb); replace HI0 := mS (hi); (try clear hb); (try clear hb2); (try clear hk); (try clear hi); have hcz36_0 := mZ BK183.out 0; have hcz36_1 := mZ BK183.out 1; have hcz36_2 := mZ BK183.out 2; have hfz36_0 := blk_frozen BK183.out 0; have hfz36_1 := blk_frozen BK183.out 1; have hfz36_2 := blk_frozen BK183.out 2; have hnb37 := NB175_0.out; have hnc37 := NB0_175.out; have hcz38_0 := mZ BK175.out 0; have hcz38_1 := mZ BK175.out 1; have hcz38_2 := mZ BK175.out 2; have hfz38_0 := blk_frozen BK175.out 0; have hfz38_1 := blk_frozen BK175.out 1; have hfz38_2 := blk_frozen BK175.out 2))
   refine bodyPost_ret (results_cell_row rfl _ _ gb175 40 #[.int .i64 t176, .int .i64 t196, .slice Ao29 t178.length co29] (0, 0) _ rfl (by (with_reducible repeat (first | refine blk_drewN ?_ _ | refine blk_drew ?_ | refine blk_alloc ?_ _)); refine blk_put (cs := #[.int .i64 t176, .int .i64 t196, .slice none 0 0]) ?_ 2 _ rfl; (with_reducible repeat (first | refine blk_drewN ?_ _ | refine blk_drew ?_ | refine blk_alloc ?_ _)); refine blk_put (cs := #[.int .i64 t176, .int .i64 0, .slice none 0 0]) ?_ 1 _ rfl; (with_reducible repeat (first | refine blk_drewN ?_ _ | refine blk_drew ?_ | refine blk_alloc ?_ _)); refine blk_put (cs := #[.int .i64 0, .int .i64 0, .slice none 0 0]) ?_ 0 _ rfl; (with_reducible repeat (first | refine blk_drewN ?_ _ | refine blk_drew ?_ | refine blk_alloc ?_ _)); refine blk_far ?_ NB175_183.out _; (with_reducible repeat (first | refine blk_drewN ?_ _ | refine blk_drew ?_ | refine blk_alloc ?_ _)); exact BK175.out) Try.underlying40 rfl (by kernel_rfl)) rfl ?_
   exact ⟨_, by first | rfl | (simp [errW_none, errW_some] <;> rfl) | (simp [*, errW_none, errW_some] <;> rfl), by (with_reducible repeat (first | apply Kd.R_alloc | apply Kd.R_drewN | apply Kd.R_drew)); exact Kd.R_mono (Kd.R_far (p := ⟨gb175, 2, none⟩) (Kd.R_far (p := ⟨gb175, 1, none⟩) (Kd.R_far (p := ⟨gb175, 0, none⟩) (Kd.R_far (p := ⟨gb183, 1, none⟩) (Kd.R_types (Kd.R_types HO180.out BK183.out (by decide)) BK175.out (by decide)) (fun _ hk => hk.1.2) (.int .i64 t196)) (fun _ hk => hk.2) (.int .i64 t176)) (fun _ hk => hk.2) (.int .i64 t196)) (fun _ hk => hk.2) (.slice Ao29 t178.length co29)) (fun _ hk => trivial), mI75_2 HI0.out NB0_175.out NB0_183.out, mH75_8 HB.out (IsS123.ge HI0.out) GE175.out GE183.out, mQ75_5 HK.out GW175.out GW183.out⟩
  ·rw [if_neg c21] at H
   have c21b0 : (t184 == 1) = false := beq_eq_false_iff_ne.mpr c21
   have c21b1 : (t184 != 1) = true := bne_iff_ne.mpr c21
   by_cases c39 : t184 = 2
   ·rw [if_pos c39] at H
    have c39b0 : (t184 == 2) = true := beq_iff_eq.mpr c39
    have c39b1 : (t184 != 2) = false := bne_eq_false_iff_eq.mpr c39
    clear c39
    replace H := Option.bind_eq_some_iff.mp H
    obtain ⟨⟨t199, t200, t201⟩, A400, H⟩ := H
    replace H : ((spec_l1Below.f s0_0 t200 t201 5).bind fun bt202 => ((spec_l4Key.f s0_0 bt202.2.1 bt202.2.2).bind fun bt205 => ((spec_l4Key.f s0_0 bt205.2.1 bt205.2.2).bind fun bt208 => (if t178.length < 2932031007402 then (some (t176, t177, (t178 ++ [(⟨t199, bt202.1, bt205.1, bt208.1⟩ : S46)]), bt208.2.1, bt208.2.2)) else (none))))) = some (r1, r2, r3, r4, r5) := H
    have A40 := mS A400
    clear A400
    replace H := Option.bind_eq_some_iff.mp H
    obtain ⟨⟨t202, t203, t204⟩, A410, H⟩ := H
    replace H : ((spec_l4Key.f s0_0 t203 t204).bind fun bt205 => ((spec_l4Key.f s0_0 bt205.2.1 bt205.2.2).bind fun bt208 => (if t178.length < 2932031007402 then (some (t176, t177, (t178 ++ [(⟨t199, t202, bt205.1, bt208.1⟩ : S46)]), bt208.2.1, bt208.2.2)) else (none)))) = some (r1, r2, r3, r4, r5) := H
    have A41 := mS A410
    clear A410
    replace H := Option.bind_eq_some_iff.mp H
    obtain ⟨⟨t205, t206, t207⟩, A420, H⟩ := H
    replace H : ((spec_l4Key.f s0_0 t206 t207).bind fun bt208 => (if t178.length < 2932031007402 then (some (t176, t177, (t178 ++ [(⟨t199, t202, t205, bt208.1⟩ : S46)]), bt208.2.1, bt208.2.2)) else (none))) = some (r1, r2, r3, r4, r5) := H
    have A42 := mS A420
    clear A420
    replace H := Option.bind_eq_some_iff.mp H
    obtain ⟨⟨t208, t209, t210⟩, A430, H⟩ := H
    replace H : (if t178.length < 2932031007402 then (some (t176, t177, (t178 ++ [(⟨t199, t202, t205, t208⟩ : S46)]), t209, t210)) else (none)) = some (r1, r2, r3, r4, r5) := H
    have A43 := mS A430
    clear A430
    by_cases c44 : t178.length < 2932031007402
    ·rw [if_pos c44] at H
     have LMc44 := mS c44
     clear c44
     obtain ⟨y211, hy211⟩ : ∃ y_ : List (S46), y_ = (t178 ++ [(⟨t199, t202, t205, t208⟩ : S46)]) := ⟨_, rfl⟩
     replace H : (some (t176, t177, y211, t209, t210)) = some (r1, r2, r3, r4, r5) := by first | (rw [hy211]; with_reducible exact H) | (have H2_ := (Option.bind_some _ _).symm.trans H; rw [hy211]; with_reducible exact H2_) | (have H2_ := (Option.bind_some _ _).symm.trans H; with_reducible exact H2_) | with_reducible exact H | (rw [hy211]; exact H) | exact H
     have Ny211 := mS hy211
     clear hy211
     simp only [Option.some.injEq, Prod.mk.injEq] at H
     obtain ⟨rfl, rfl, rfl, rfl, rfl⟩ := H
     go_enter Try.func75, Try.ntmps75
     try go_wp2_with (first | ((with_reducible refine gate_dst (N := 2) rfl ?_); refine box_event ?hg (N := 2) ?hd (cs := #[.int .i64 0, .int .i64 0, .slice none 0 0]) (t := 40) ?hr ?_; (case hd => rfl); (case hg => rfl); (case hr => first | (go_simp; done) | (go_simp; rfl)); intro gb175 hg w45 hbox hb; replace HB := mS (below_step (mH75_6 HB.out (IsS123.ge HI0.out)) hb); have BK175 := mS (hbox); have GW175 := mS ((by rw [hg]; exact (keep_size (w := w) (g := g) (row := none) (mQ75_3 HK.out)) : w.heap.size ≤ gb175)); have GE175 := mS ((Nat.le_trans HW0.out (by rw [hg]; exact (keep_size (w := w) (g := g) (row := none) (mQ75_3 HK.out)) : w.heap.size ≤ gb175) : w0.heap.size ≤ gb175)); replace HK := mS (KeepBut.trans (mQ75_3 HK.out) (KeepBut.of_below hb g none) (.inl rfl)); have NB0_175 := mS ((by rw [hg]; exact Nat.ne_of_lt (IsS123.lt (show IsS123 w0 _ g s0_0 s0_1 s0_2 from mI75_0 HI0.out)) : g ≠ gb175)); have NB175_0 := mS ((by rw [hg]; exact Nat.ne_of_gt (IsS123.lt (show IsS123 w0 _ g s0_0 s0_1 s0_2 from mI75_0 HI0.out)) : gb175 ≠ g)); replace HI0 := mS (IsS123.below (mI75_0 HI0.out) hb); clear hb hbox hg) | ((with_reducible refine gate_callee (f := 102) rfl ?_); refine goesL_ (some 5) rfl rfl Try.func102 (by kernel_rfl) rfl #[.pointer (some ⟨g, 0, none⟩)] rfl mA ?_; (with_reducible refine (spec_l6Draw.calls k g s0_0 s0_1 s0_2 t176 t177 t178 t181 t182 w0 _ ?side1 ?side2 A2.out).mono ?_); (case side1 => repeat (first | (with_reducible first | exact HI0.out | apply IsS123.alloc | apply IsS123.drewN | apply IsS123.drew | apply IsS123.set_1 | apply IsS123.set_2 | refine IsS123.far ?_ NB0_175.out _) | exact HI0.out)); (case side2 => repeat (first | (with_reducible first | exact HB.out | apply below_alloc | apply pw_below_drewN | apply below_drew1 | refine below_set ?_ (IsS123.ge HI0.out) | refine below_set ?_ GE175.out) | exact HB.out)); rintro e w46 ⟨v179, rfl, ho0, hi, hb, hk⟩; refine ⟨_, rfl, ?_⟩; replace BK175 := mS (KeepBut.blk hk (g' := gb175) (o := .cells #[.int .i64 0, .int .i64 0, .slice none 0 0] 40 (0, 0)) (mK BK175.out) NB175_0.out (by simp)); have HO180 := mS (Kd.R_lower ho0 (keep_size (w := w) (g := g) (row := none) (mQ75_4 HK.out GW175.out))); replace HK := mS (KeepBut.trans (mQ75_4 HK.out GW175.out) hk (.inl rfl)); replace HB := mS (hb); replace HI0 := mS (hi); (try clear hb); (try clear hb2); (try clear hk); (try clear hi); (try clear ho0)) | ((with_reducible refine gate_dst (N := 3) rfl ?_); refine box_event ?hg (N := 3) ?hd (cs := #[.int .i64 0, .int .i64 0, .slice none 0 0]) (t := 40) ?hr ?_; (case hd => rfl); (case hg => rfl); (case hr => first | (go_simp; done) | (go_simp; rfl)); intro gb183 hg w47 hbox hb; replace HO180 := mS (Kd.R_below (mR HO180.out) hb); replace HB := mS (below_step (mH75_7 HB.out (IsS123.ge HI0.out) GE175.out) hb); have BK183 := mS (hbox); have GW183 := mS ((by rw [hg]; exact (keep_size (w := w) (g := g) (row := none) (mQ75_4 HK.out GW175.out)) : w.heap.size ≤ gb183)); have GE183 := mS ((Nat.le_trans HW0.out (by rw [hg]; exact (keep_size (w := w) (g := g) (row := none) (mQ75_4 HK.out GW175.out)) : w.heap.size ≤ gb183) : w0.heap.size ≤ gb183)); replace HK := mS (KeepBut.trans (mQ75_4 HK.out GW175.out) (KeepBut.of_below hb g none) (.inl rfl)); have NB175_183 := mNl hg BK175.out; have NB183_175 := mNg hg BK175.out; replace BK175 := mB BK175 hb; have NB0_183 := mS ((by rw [hg]; exact Nat.ne_of_lt (IsS123.lt (show IsS123 w0 _ g s0_0 t181 t182 from mI75_1 HI0.out NB0_175.out)) : g ≠ gb183)); have NB183_0 := mS ((by rw [hg]; exact Nat.ne_of_gt (IsS123.lt (show IsS123 w0 _ g s0_0 t181 t182 from mI75_1 HI0.out NB0_175.out)) : gb183 ≠ g)); replace HI0 := mS (IsS123.below (mI75_1 HI0.out NB0_175.out) hb); clear hb hbox hg; have hnb48 := NB183_175.out; have hnc48 := NB175_183.out; have hnb49 := NB183_0.out; have hnc49 := NB0_183.out; have hcz50_0 := mZ BK183.out 0; have hcz50_1 := mZ BK183.out 1; have hcz50_2 := mZ BK183.out 2; have hfz50_0 := blk_frozen BK183.out 0; have hfz50_1 := blk_frozen BK183.out 1; have hfz50_2 := blk_frozen BK183.out 2; obtain ⟨Ao51, co51, eo51⟩ := Kd.R_slice HO180.out; subst eo51) | ((with_reducible refine gate_callee (f := 73) rfl ?_); refine goesL_ (some 7) rfl rfl Try.func73 (by kernel_rfl) rfl #[.pointer (some ⟨g, 0, none⟩), .int .i64 10] rfl mA ?_; (with_reducible refine (spec_l1Below.calls g s0_0 t181 t182 10 t184 t185 t186 w0 _ ?side1 ?side2 A3.out).mono ?_); (case side1 => repeat (first | (with_reducible first | exact HI0.out | apply IsS123.alloc | apply IsS123.drewN | apply IsS123.drew | apply IsS123.set_1 | apply IsS123.set_2 | refine IsS123.far ?_ NB0_175.out _ | refine IsS123.far ?_ NB0_183.out _) | exact HI0.out)); (case side2 => repeat (first | (with_reducible first | exact HB.out | apply below_alloc | apply pw_below_drewN | apply below_drew1 | refine below_set ?_ (IsS123.ge HI0.out) | refine below_set ?_ GE175.out | refine below_set ?_ GE183.out) | exact HB.out)); rintro e w52 ⟨rfl, hi, hb, hk⟩; refine ⟨_, rfl, ?_⟩; replace BK175 := mS (KeepBut.blk hk (g' := gb175) (o := .cells #[.int .i64 0, .int .i64 0, .slice none 0 0] 40 (0, 0)) (by (with_reducible repeat (first | refine blk_drewN ?_ _ | refine blk_drew ?_ | refine blk_alloc ?_ _)); refine blk_far ?_ NB175_183.out _; (with_reducible repeat (first | refine blk_drewN ?_ _ | refine blk_drew ?_ | refine blk_alloc ?_ _)); refine blk_far ?_ NB175_183.out _; (with_reducible repeat (first | refine blk_drewN ?_ _ | refine blk_drew ?_ | refine blk_alloc ?_ _)); refine blk_far ?_ NB175_183.out _; (with_reducible repeat (first | refine blk_drewN ?_ _ | refine blk_drew ?_ | refine blk_alloc ?_ _)); exact BK175.out) NB175_0.out (by simp)); replace HO180 := mS (Kd.R_mono (Kd.R_keep (IsS123.apart (show IsS123 w0 _ g s0_0 t181 t182 from mI75_2 HI0.out NB0_175.out NB0_183.out) (by (with_reducible repeat (first | apply Kd.R_alloc | apply Kd.R_drewN | apply Kd.R_drew)); exact (Kd.R_mono (Kd.R_far (p := ⟨gb183, 2, none⟩) (Kd.R_far (p := ⟨gb183, 1, none⟩) (Kd.R_far (p := ⟨gb183, 0, none⟩) (Kd.R_types HO180.out BK183.out (by decide)) (fun _ hk => hk.2) (.int .i64 t176)) (fun _ hk => hk.2) (.int .i64 t177)) (fun _ hk => hk.2) (.slice Ao51 t178.length co51)) (fun _ h_ => h_.1))) (by decide)) hk (fun _ h => h.2)) (fun _ h => h.1)); replace BK183 := mS (KeepBut.blk hk (g' := gb183) (o := .cells #[.int .i64 t176, .int .i64 t177, .slice Ao51 t178.length co51] 40 (0, 0)) (by (with_reducible repeat (first | refine blk_drewN ?_ _ | refine blk_drew ?_ | refine blk_alloc ?_ _)); refine blk_put (cs := #[.int .i64 t176, .int .i64 t177, .slice none 0 0]) ?_ 2 _ rfl; (with_reducible repeat (first | refine blk_drewN ?_ _ | refine blk_drew ?_ | refine blk_alloc ?_ _)); refine blk_put (cs := #[.int .i64 t176, .int .i64 0, .slice none 0 0]) ?_ 1 _ rfl; (with_reducible repeat (first | refine blk_drewN ?_ _ | refine blk_drew ?_ | refine blk_alloc ?_ _)); refine blk_put (cs := #[.int .i64 0, .int .i64 0, .slice none 0 0]) ?_ 0 _ rfl; (with_reducible repeat (first | refine blk_drewN ?_ _ | refine blk_drew ?_ | refine blk_alloc ?_ _)); exact BK183.out) NB183_0.out (by simp)); replace HK := mS (KeepBut.trans (mQ75_5 HK.out GW175.out GW183.out) hk (.inl rfl)); replace HB := mS (hb); replace HI0 := mS (hi); (try clear hb); (try clear hb2); (try clear hk); (try clear hi)))
     have n0_ := mS (Kd.R_drew HO180.out)
     have n1_ := mS (blk_drew BK175.out)
     have n2_ := mS (blk_drew BK183.out)
     have n3_ := mS (IsS123.drew HI0.out)
     have n4_ := mS (keep_drew HK.out)
     have n5_ := mS (below_drew1 HB.out)
     clear HO180
     clear BK175
     clear BK183
     clear HI0
     clear HK
     clear HB
     have HO180 := n0_
     have BK175 := n1_
     have BK183 := n2_
     have HI0 := n3_
     have HK := n4_
     have HB := n5_
     clear n0_ n1_ n2_ n3_ n4_ n5_
     refine start_ (n := 15) (S := fun w' => w'.cell? ⟨gb183, 0, none⟩ = some (.int .i64 t176) ∧ w'.cell? ⟨gb183, 1, none⟩ = some (.int .i64 t177) ∧ w'.cell? ⟨gb183, 2, none⟩ = some (.slice Ao51 t178.length co51)) (ds := [14]) (mb 0 15) (by kernel_rfl) rfl rfl ⟨mZ BK183.out 0, mZ BK183.out 1, mZ BK183.out 2⟩ (fun hHeld => ?_); refine with_tabW spec_l6DrawAny.tab8 spec_l6DrawAny.bits8 (fun HT_ HW_ => ?_)
     generalize w52.drew = w53 at HO180 BK175 BK183 HI0 HK HB hHeld ⊢
     refine pure_ (i := 0) (N := some 24) (v := ?_) (a' := ?_) (mb 1 14) rfl rfl (any_of HT_.out (by kernel_rfl)) (fun _ _ _ h => h) (Or.inl ⟨by rfl, ?_⟩) ?_ ?_
     rotate_left
     ·intro w'
      go_simp
      with_reducible rfl
     rotate_left
     ·simp only [Act.put, zA, zB, zC, i64_w, i32_w]
      rfl
     refine pure_ (i := 2) (N := some 26) (v := ?_) (a' := ?_) #[true, false, true, false, false, false, false, false, false, false, false, false, false, false, false] rfl rfl (any_of HT_.out (by kernel_rfl)) (fun _ _ _ h => h) (Or.inl ⟨by rfl, ?_⟩) ?_ ?_
     rotate_left
     ·intro w'
      go_simp
      with_reducible rfl
     rotate_left
     ·simp only [Act.put, zA, zB, zC, i64_w, i32_w]
      rfl
     refine pure_ (i := 4) (N := some 28) (v := ?_) (a' := ?_) #[true, false, true, false, true, false, false, false, false, false, false, false, false, false, false] rfl rfl (any_of HT_.out (by kernel_rfl)) (fun _ _ _ h => h) (Or.inl ⟨by rfl, ?_⟩) ?_ ?_
     rotate_left
     ·intro w'
      go_simp
      with_reducible rfl
     rotate_left
     ·simp only [Act.put, zA, zB, zC, i64_w, i32_w]
      rfl
     refine pure_ (i := 6) (N := some 30) (v := ?_) (a' := ?_) #[true, false, true, false, true, false, true, false, false, false, false, false, false, false, false] rfl rfl (any_of HT_.out (by kernel_rfl)) (fun _ _ _ h => h) (Or.inl ⟨by rfl, ?_⟩) ?_ ?_
     rotate_left
     ·intro w'
      go_simp
      with_reducible rfl
     rotate_left
     ·simp only [Act.put, zA, zB, zC, i64_w, i32_w]
      rfl
     refine pure_ (i := 8) (N := some 32) (v := ?_) (a' := ?_) #[true, false, true, false, true, false, true, false, true, false, false, false, false, false, false] rfl rfl (any_of HT_.out (by kernel_rfl)) (fun _ _ _ h => h) (Or.inl ⟨by rfl, ?_⟩) ?_ ?_
     rotate_left
     ·intro w'
      go_simp
      with_reducible rfl
     rotate_left
     ·simp only [Act.put, zA, zB, zC, i64_w, i32_w]
      rfl
     refine take_ (i := 1) (N := some 25) (v := ?_) (a' := ?_) #[true, true, true, false, true, false, true, false, true, false, false, false, false, false, false] rfl rfl (take_ofW HT_.out HW_.out (by kernel_rfl)) (fun _ _ _ h => h) (Or.inl ⟨by rfl, ?_⟩) hHeld ?_ ?_
     rotate_left
     ·rintro w' ⟨s0, s1, s2⟩
      go_simp
      with_reducible rfl
     rotate_left
     ·simp only [Act.put, zA, zB, zC, i64_w, i32_w]
      rfl
     refine one_ (i := 3) (N := some 27) #[true, true, true, true, true, false, true, false, true, false, false, false, false, false, false] rfl rfl (one_of HT_.out (by kernel_rfl)) (by decide) (fun K hK => ?_)
     refine goes_ Try.func73 (by kernel_rfl) rfl #[.pointer (some ⟨g, 0, none⟩), .int .i64 4] (by rfl) rfl rfl mA ?_
     with_reducible refine (spec_l1Below.calls g s0_0 t185 t186 4 t199 t200 t201 w0 _ ?side1 ?side2 A40.out).mono ?_
     (case side1 => repeat (first | (with_reducible first | exact HI0.out | apply IsS123.alloc | apply IsS123.drewN | apply IsS123.drew | apply IsS123.set_1 | apply IsS123.set_2 | refine IsS123.far ?_ NB0_175.out _ | refine IsS123.far ?_ NB0_183.out _) | exact HI0.out))
     (case side2 => repeat (first | (with_reducible first | exact HB.out | apply below_alloc | apply pw_below_drewN | apply below_drew1 | refine below_set ?_ (IsS123.ge HI0.out) | refine below_set ?_ GE175.out | refine below_set ?_ GE183.out) | exact HB.out))
     rintro e w54 ⟨rfl, hi, hb, hk⟩
     refine ⟨_, rfl, ?_⟩
     have n0_ := mS (KeepBut.blk hk (g' := gb175) (o := .cells #[.int .i64 0, .int .i64 0, .slice none 0 0] 40 (0, 0)) (mK BK175.out) NB175_0.out (by simp))
     have n1_ := mS (Kd.R_mono (Kd.R_keep (IsS123.apart (show IsS123 w0 _ g s0_0 t185 t186 from mI75_2 HI0.out NB0_175.out NB0_183.out) (mR HO180.out) (by decide)) hk (fun _ h => h.2)) (fun _ h => h.1))
     have n2_ := mS (KeepBut.blk hk (g' := gb183) (o := .cells #[.int .i64 t176, .int .i64 t177, .slice Ao51 t178.length co51] 40 (0, 0)) (mK BK183.out) NB183_0.out (by simp))
     have n3_ := mS (KeepBut.trans (mQ75_5 HK.out GW175.out GW183.out) hk (.inl rfl))
     have n4_ := mS (hb)
     have n5_ := mS (hi)
     clear BK175
     clear HO180
     clear BK183
     clear HK
     clear HB
     clear HI0
     have BK175 := n0_
     have HO180 := n1_
     have BK183 := n2_
     have HK := n3_
     have HB := n4_
     have HI0 := n5_
     clear n0_ n1_ n2_ n3_ n4_ n5_
     (try clear hb)
     (try clear hb2)
     (try clear hk)
     (try clear hi)
     refine hK.out _ _ ⟨mZ BK183.out 0, mZ BK183.out 1, mZ BK183.out 2⟩ (fun hHeld => ?_)
     clear hK K
     refine norm_ (a' := ?_) ?_ ?_
     rotate_left
     ·show Act.put _ (some 27) _ = _
      simp only [Act.put, zA, zB, zC, i64_w, i32_w]
      rfl
     refine one_ (i := 5) (N := some 29) #[true, true, true, true, true, true, true, false, true, false, false, false, false, false, false] rfl rfl (one_of HT_.out (by kernel_rfl)) (by decide) (fun K hK => ?_)
     refine goes_ Try.func73 (by kernel_rfl) rfl #[.pointer (some ⟨g, 0, none⟩), .int .i64 5] (by rfl) rfl rfl mA ?_
     with_reducible refine (spec_l1Below.calls g s0_0 t200 t201 5 t202 t203 t204 w0 _ ?side1 ?side2 A41.out).mono ?_
     (case side1 => repeat (first | (with_reducible first | exact HI0.out | apply IsS123.alloc | apply IsS123.drewN | apply IsS123.drew | apply IsS123.set_1 | apply IsS123.set_2 | refine IsS123.far ?_ NB0_175.out _ | refine IsS123.far ?_ NB0_183.out _) | exact HI0.out))
     (case side2 => repeat (first | (with_reducible first | exact HB.out | apply below_alloc | apply pw_below_drewN | apply below_drew1 | refine below_set ?_ (IsS123.ge HI0.out) | refine below_set ?_ GE175.out | refine below_set ?_ GE183.out) | exact HB.out))
     rintro e w55 ⟨rfl, hi, hb, hk⟩
     refine ⟨_, rfl, ?_⟩
     have n0_ := mS (KeepBut.blk hk (g' := gb175) (o := .cells #[.int .i64 0, .int .i64 0, .slice none 0 0] 40 (0, 0)) (mK BK175.out) NB175_0.out (by simp))
     have n1_ := mS (Kd.R_mono (Kd.R_keep (IsS123.apart (show IsS123 w0 _ g s0_0 t200 t201 from mI75_2 HI0.out NB0_175.out NB0_183.out) (mR HO180.out) (by decide)) hk (fun _ h => h.2)) (fun _ h => h.1))
     have n2_ := mS (KeepBut.blk hk (g' := gb183) (o := .cells #[.int .i64 t176, .int .i64 t177, .slice Ao51 t178.length co51] 40 (0, 0)) (mK BK183.out) NB183_0.out (by simp))
     have n3_ := mS (KeepBut.trans (mQ75_5 HK.out GW175.out GW183.out) hk (.inl rfl))
     have n4_ := mS (hb)
     have n5_ := mS (hi)
     clear BK175
     clear HO180
     clear BK183
     clear HK
     clear HB
     clear HI0
     have BK175 := n0_
     have HO180 := n1_
     have BK183 := n2_
     have HK := n3_
     have HB := n4_
     have HI0 := n5_
     clear n0_ n1_ n2_ n3_ n4_ n5_
     (try clear hb)
     (try clear hb2)
     (try clear hk)
     (try clear hi)
     refine hK.out _ _ ⟨mZ BK183.out 0, mZ BK183.out 1, mZ BK183.out 2⟩ (fun hHeld => ?_)
     clear hK K
     refine norm_ (a' := ?_) ?_ ?_
     rotate_left
     ·show Act.put _ (some 29) _ = _
      simp only [Act.put, zA, zB, zC, i64_w, i32_w]
      rfl
     refine one_ (i := 7) (N := some 31) (mb 9 6) rfl rfl (one_of HT_.out (by kernel_rfl)) (by decide) (fun K hK => ?_)
     refine goes_ Try.func76 (by kernel_rfl) rfl #[.pointer (some ⟨g, 0, none⟩)] (by rfl) rfl rfl mA ?_
     with_reducible refine (spec_l4Key.calls g s0_0 t203 t204 t205 t206 t207 w0 _ ?side1 ?side2 A42.out).mono ?_
     (case side1 => repeat (first | (with_reducible first | exact HI0.out | apply IsS123.alloc | apply IsS123.drewN | apply IsS123.drew | apply IsS123.set_1 | apply IsS123.set_2 | refine IsS123.far ?_ NB0_175.out _ | refine IsS123.far ?_ NB0_183.out _) | exact HI0.out))
     (case side2 => repeat (first | (with_reducible first | exact HB.out | apply below_alloc | apply pw_below_drewN | apply below_drew1 | refine below_set ?_ (IsS123.ge HI0.out) | refine below_set ?_ GE175.out | refine below_set ?_ GE183.out) | exact HB.out))
     rintro e w56 ⟨rfl, hi, hb, hk⟩
     refine ⟨_, rfl, ?_⟩
     have n0_ := mS (KeepBut.blk hk (g' := gb175) (o := .cells #[.int .i64 0, .int .i64 0, .slice none 0 0] 40 (0, 0)) (mK BK175.out) NB175_0.out (by simp))
     have n1_ := mS (Kd.R_mono (Kd.R_keep (IsS123.apart (show IsS123 w0 _ g s0_0 t203 t204 from mI75_2 HI0.out NB0_175.out NB0_183.out) (mR HO180.out) (by decide)) hk (fun _ h => h.2)) (fun _ h => h.1))
     have n2_ := mS (KeepBut.blk hk (g' := gb183) (o := .cells #[.int .i64 t176, .int .i64 t177, .slice Ao51 t178.length co51] 40 (0, 0)) (mK BK183.out) NB183_0.out (by simp))
     have n3_ := mS (KeepBut.trans (mQ75_5 HK.out GW175.out GW183.out) hk (.inl rfl))
     have n4_ := mS (hb)
     have n5_ := mS (hi)
     clear BK175
     clear HO180
     clear BK183
     clear HK
     clear HB
     clear HI0
     have BK175 := n0_
     have HO180 := n1_
     have BK183 := n2_
     have HK := n3_
     have HB := n4_
     have HI0 := n5_
     clear n0_ n1_ n2_ n3_ n4_ n5_
     (try clear hb)
     (try clear hb2)
     (try clear hk)
     (try clear hi)
     refine hK.out _ _ ⟨mZ BK183.out 0, mZ BK183.out 1, mZ BK183.out 2⟩ (fun hHeld => ?_)
     clear hK K
     refine norm_ (a' := ?_) ?_ ?_
     rotate_left
     ·show Act.put _ (some 31) _ = _
      simp only [Act.put, zA, zB, zC, i64_w, i32_w]
      rfl
     refine one_ (i := 9) (N := some 33) (mb 10 5) rfl rfl (one_of HT_.out (by kernel_rfl)) (by decide) (fun K hK => ?_)
     refine goes_ Try.func76 (by kernel_rfl) rfl #[.pointer (some ⟨g, 0, none⟩)] (by rfl) rfl rfl mA ?_
     with_reducible refine (spec_l4Key.calls g s0_0 t206 t207 t208 t209 t210 w0 _ ?side1 ?side2 A43.out).mono ?_
     (case side1 => repeat (first | (with_reducible first | exact HI0.out | apply IsS123.alloc | apply IsS123.drewN | apply IsS123.drew | apply IsS123.set_1 | apply IsS123.set_2 | refine IsS123.far ?_ NB0_175.out _ | refine IsS123.far ?_ NB0_183.out _) | exact HI0.out))
     (case side2 => repeat (first | (with_reducible first | exact HB.out | apply below_alloc | apply pw_below_drewN | apply below_drew1 | refine below_set ?_ (IsS123.ge HI0.out) | refine below_set ?_ GE175.out | refine below_set ?_ GE183.out) | exact HB.out))
     rintro e w57 ⟨rfl, hi, hb, hk⟩
     refine ⟨_, rfl, ?_⟩
     have n0_ := mS (KeepBut.blk hk (g' := gb175) (o := .cells #[.int .i64 0, .int .i64 0, .slice none 0 0] 40 (0, 0)) (mK BK175.out) NB175_0.out (by simp))
     have n1_ := mS (Kd.R_mono (Kd.R_keep (IsS123.apart (show IsS123 w0 _ g s0_0 t206 t207 from mI75_2 HI0.out NB0_175.out NB0_183.out) (mR HO180.out) (by decide)) hk (fun _ h => h.2)) (fun _ h => h.1))
     have n2_ := mS (KeepBut.blk hk (g' := gb183) (o := .cells #[.int .i64 t176, .int .i64 t177, .slice Ao51 t178.length co51] 40 (0, 0)) (mK BK183.out) NB183_0.out (by simp))
     have n3_ := mS (KeepBut.trans (mQ75_5 HK.out GW175.out GW183.out) hk (.inl rfl))
     have n4_ := mS (hb)
     have n5_ := mS (hi)
     clear BK175
     clear HO180
     clear BK183
     clear HK
     clear HB
     clear HI0
     have BK175 := n0_
     have HO180 := n1_
     have BK183 := n2_
     have HK := n3_
     have HB := n4_
     have HI0 := n5_
     clear n0_ n1_ n2_ n3_ n4_ n5_
     (try clear hb)
     (try clear hb2)
     (try clear hk)
     (try clear hi)
     refine hK.out _ _ ⟨mZ BK183.out 0, mZ BK183.out 1, mZ BK183.out 2⟩ (fun hHeld => ?_)
     clear hK K
     refine norm_ (a' := ?_) ?_ ?_
     rotate_left
     ·show Act.put _ (some 33) _ = _
      simp only [Act.put, zA, zB, zC, i64_w, i32_w]
      rfl
     refine pure_ (i := 10) (N := some 34) (v := ?_) (a' := ?_) (mb 11 4) rfl rfl (any_of HT_.out (by kernel_rfl)) (fun _ _ _ h => h) (Or.inl ⟨by rfl, ?_⟩) ?_ ?_
     rotate_left
     ·intro w'
      go_simp
      with_reducible rfl
     rotate_left
     ·simp only [Act.put, zA, zB, zC, i64_w, i32_w]
      rfl
     refine one_ (i := 11) (N := some 35) (mb 12 3) rfl rfl (one_of HT_.out (by kernel_rfl)) (by decide) (fun K hK => ?_)
     refine value_ (w1 := ?_) (v := ?_) (by rfl) rfl ?_ ?_
     rotate_left 2
     ·go_simp
      constructor
      ·rfl
      ·rfl
     refine hK.out _ _ ⟨(blk_cell (blk_alloc BK183.out _) 0).trans rfl, (blk_cell (blk_alloc BK183.out _) 1).trans rfl, (blk_cell (blk_alloc BK183.out _) 2).trans rfl⟩ (fun hHeld => ?_)
     clear hK K
     refine norm_ (a' := ?_) ?_ ?_
     rotate_left
     ·show Act.put _ (some 35) _ = _
      simp only [Act.put, zA, zB, zC, i64_w, i32_w]
      rfl
     refine one_ (i := 12) (N := some 36) (mb 13 2) rfl rfl (one_of HT_.out (by kernel_rfl)) (by decide) (fun K hK => ?_)
     refine Kd.R_append_step k46 w.heap.size (by rfl) (.tmp 25) (.tmp 35) 38 46 (.agg #[(.int .i64 0), (.int .i64 0), (.string ⟨#[]⟩), (.string ⟨#[]⟩)]) 48 rfl Try.underlying38 info46 rfl (by decide) (by omega) (.slice Ao51 t178.length co51) t178 (⟨t199, t202, t205, t208⟩ : S46) [.int .i64 t199, .int .i64 t202, .string t205, .string t208] (fun _ => True) (fun _ => False) rfl rfl ?aP (fun _ hk => hk.elim) ?aF ?aO (Below.refl _ _) ?aS ?aL ?_
     (case aP => exact k46_mkM _ _ _ (⟨t199, t202, t205, t208⟩ : S46))
     (case aF => exact (fun _ _ => trivial))
     (case aO => exact (mR HO180.out))
     (case aS => exact (keep_size (w := w) (g := g) (row := none) (mQ75_5 HK.out GW175.out GW183.out)))
     (case aL => have := LMc44.out; omega)
     intro v212 w58 ho hb hg hat
     rw [← Ny211.out] at ho
     have n0_ := mS (IsS123.grown (mI75_2 HI0.out NB0_175.out NB0_183.out) hg (IsS123.own_ne HI0.out HO180.out (by decide)))
     have n1_ := mS (blk_grown (g := gb175) (o := .cells #[.int .i64 0, .int .i64 0, .slice none 0 0] 40 (0, 0)) (mK BK175.out) hg (Kd.R_ne HO180.out BK175.out (by decide)))
     have n2_ := mS (blk_grown (g := gb183) (o := .cells #[.int .i64 t176, .int .i64 t177, .slice Ao51 t178.length co51] 40 (0, 0)) (mK BK183.out) hg (Kd.R_ne HO180.out BK183.out (by decide)))
     have n3_ := mS (below_weaken (mH75_8 HB.out (IsS123.ge HI0.out) GE175.out GE183.out) HL.out hb)
     have n4_ := mS (KeepBut.trans (mQ75_5 HK.out GW175.out GW183.out) (KeepBut.of_grown hg g) (Kd.R_base2 HO180.out))
     have n5_ := mS (ho)
     clear HI0
     clear BK175
     clear BK183
     clear HB
     clear HK
     clear HO180
     have HI0 := n0_
     have BK175 := n1_
     have BK183 := n2_
     have HB := n3_
     have HK := n4_
     have HO213 := n5_
     clear n0_ n1_ n2_ n3_ n4_ n5_
     clear ho hb hg hat
     obtain ⟨Ao59, co59, eo59⟩ := Kd.R_slice HO213.out
     (first | subst eo59 | (injection eo59 with f1_ f2_ f3_; have f4_ := f1_.symm; have f5_ := f3_.symm; clear f1_ f2_ f3_; subst f4_; subst f5_))
     refine hK.out _ _ ⟨mZ BK183.out 0, mZ BK183.out 1, mZ BK183.out 2⟩ (fun hHeld => ?_)
     clear hK K
     refine norm_ (a' := ?_) ?_ ?_
     rotate_left
     ·show Act.put _ (some 36) _ = _
      simp only [Act.put, zA, zB, zC, i64_w, i32_w]
      rfl
     refine pure_ (i := 13) (N := some 37) (v := ?_) (a' := ?_) (mb 14 1) rfl rfl (any_of HT_.out (by kernel_rfl)) (fun _ _ _ h => h) (Or.inl ⟨by rfl, ?_⟩) ?_ ?_
     rotate_left
     ·intro w'
      go_simp
      with_reducible rfl
     rotate_left
     ·simp only [Act.put, zA, zB, zC, i64_w, i32_w]
      rfl
     refine last_ (i := 14) (N := none) (mb 15 0) rfl rfl (one_of HT_.out (by kernel_rfl)) (by decide) (fun K hK => ?_)
     have hs60 : w58.cell? ⟨gb183, 2, none⟩ = some (.slice Ao51 t178.length co51) := mZ BK183.out 2
     have hfs60 := blk_frozen BK183.out 2
     have hns60_0 := NB175_183.out
     have hms60_0 := NB183_175.out
     refine skip_ (w1 := ?_) (by rfl) rfl ?_ ?_
     rotate_left
     ·go_simp
      rfl
     refine hK.out _ _ ?_
     clear hK K
     refine done_ (done_of HT_.out (by kernel_rfl)) ?_
     have hcz61_0 := mZ BK183.out 0
     have hcz61_1 := mZ BK183.out 1
     have hcz61_2 := mZ BK183.out 2
     have hfz61_0 := blk_frozen BK183.out 0
     have hfz61_1 := blk_frozen BK183.out 1
     have hfz61_2 := blk_frozen BK183.out 2
     have hnb62 := NB175_0.out
     have hnc62 := NB0_175.out
     have hcz63_0 := mZ BK175.out 0
     have hcz63_1 := mZ BK175.out 1
     have hcz63_2 := mZ BK175.out 2
     have hfz63_0 := blk_frozen BK175.out 0
     have hfz63_1 := blk_frozen BK175.out 1
     have hfz63_2 := blk_frozen BK175.out 2
     try go_wp2
     refine bodyPost_ret (results_cell_row rfl _ _ gb175 40 #[.int .i64 t176, .int .i64 t177, .slice Ao59 y211.length co59] (0, 0) _ rfl (by (with_reducible repeat (first | refine blk_drewN ?_ _ | refine blk_drew ?_ | refine blk_alloc ?_ _)); refine blk_put (cs := #[.int .i64 t176, .int .i64 t177, .slice none 0 0]) ?_ 2 _ rfl; (with_reducible repeat (first | refine blk_drewN ?_ _ | refine blk_drew ?_ | refine blk_alloc ?_ _)); refine blk_put (cs := #[.int .i64 t176, .int .i64 0, .slice none 0 0]) ?_ 1 _ rfl; (with_reducible repeat (first | refine blk_drewN ?_ _ | refine blk_drew ?_ | refine blk_alloc ?_ _)); refine blk_put (cs := #[.int .i64 0, .int .i64 0, .slice none 0 0]) ?_ 0 _ rfl; (with_reducible repeat (first | refine blk_drewN ?_ _ | refine blk_drew ?_ | refine blk_alloc ?_ _)); refine blk_far ?_ NB175_183.out _; (with_reducible repeat (first | refine blk_drewN ?_ _ | refine blk_drew ?_ | refine blk_alloc ?_ _)); exact BK175.out) Try.underlying40 rfl (by kernel_rfl)) rfl ?_
     exact ⟨_, by first | rfl | (simp [errW_none, errW_some] <;> rfl) | (simp [*, errW_none, errW_some] <;> rfl), by (with_reducible repeat (first | apply Kd.R_alloc | apply Kd.R_drewN | apply Kd.R_drew)); exact Kd.R_mono (Kd.R_far (p := ⟨gb175, 2, none⟩) (Kd.R_far (p := ⟨gb175, 1, none⟩) (Kd.R_far (p := ⟨gb175, 0, none⟩) (Kd.R_far (p := ⟨gb183, 2, none⟩) (Kd.R_types (Kd.R_types HO213.out BK183.out (by decide)) BK175.out (by decide)) (fun _ hk => hk.1.2) (.slice Ao59 y211.length co59)) (fun _ hk => hk.2) (.int .i64 t176)) (fun _ hk => hk.2) (.int .i64 t177)) (fun _ hk => hk.2) (.slice Ao59 y211.length co59)) (fun _ hk => trivial), mI75_2 HI0.out NB0_175.out NB0_183.out, mH75_8 HB.out (IsS123.ge HI0.out) GE175.out GE183.out, mQ75_5 HK.out GW175.out GW183.out⟩
    ·rw [if_neg c44] at H
     exact absurd H (by simp)
   ·rw [if_neg c39] at H
    have c39b0 : (t184 == 2) = false := beq_eq_false_iff_ne.mpr c39
    have c39b1 : (t184 != 2) = true := bne_iff_ne.mpr c39
    simp only [Option.some.injEq, Prod.mk.injEq] at H
    obtain ⟨rfl, rfl, rfl, rfl, rfl⟩ := H
    go_enter Try.func75, Try.ntmps75
    go_wp2_with (first | ((with_reducible refine gate_dst (N := 2) rfl ?_); refine box_event ?hg (N := 2) ?hd (cs := #[.int .i64 0, .int .i64 0, .slice none 0 0]) (t := 40) ?hr ?_; (case hd => rfl); (case hg => rfl); (case hr => first | (go_simp; done) | (go_simp; rfl)); intro gb175 hg w64 hbox hb; replace HB := mS (below_step (mH75_6 HB.out (IsS123.ge HI0.out)) hb); have BK175 := mS (hbox); have GW175 := mS ((by rw [hg]; exact (keep_size (w := w) (g := g) (row := none) (mQ75_3 HK.out)) : w.heap.size ≤ gb175)); have GE175 := mS ((Nat.le_trans HW0.out (by rw [hg]; exact (keep_size (w := w) (g := g) (row := none) (mQ75_3 HK.out)) : w.heap.size ≤ gb175) : w0.heap.size ≤ gb175)); replace HK := mS (KeepBut.trans (mQ75_3 HK.out) (KeepBut.of_below hb g none) (.inl rfl)); have NB0_175 := mS ((by rw [hg]; exact Nat.ne_of_lt (IsS123.lt (show IsS123 w0 _ g s0_0 s0_1 s0_2 from mI75_0 HI0.out)) : g ≠ gb175)); have NB175_0 := mS ((by rw [hg]; exact Nat.ne_of_gt (IsS123.lt (show IsS123 w0 _ g s0_0 s0_1 s0_2 from mI75_0 HI0.out)) : gb175 ≠ g)); replace HI0 := mS (IsS123.below (mI75_0 HI0.out) hb); clear hb hbox hg) | ((with_reducible refine gate_callee (f := 102) rfl ?_); refine goesL_ (some 5) rfl rfl Try.func102 (by kernel_rfl) rfl #[.pointer (some ⟨g, 0, none⟩)] rfl mA ?_; (with_reducible refine (spec_l6Draw.calls k g s0_0 s0_1 s0_2 t176 t177 t178 t181 t182 w0 _ ?side1 ?side2 A2.out).mono ?_); (case side1 => repeat (first | (with_reducible first | exact HI0.out | apply IsS123.alloc | apply IsS123.drewN | apply IsS123.drew | apply IsS123.set_1 | apply IsS123.set_2 | refine IsS123.far ?_ NB0_175.out _) | exact HI0.out)); (case side2 => repeat (first | (with_reducible first | exact HB.out | apply below_alloc | apply pw_below_drewN | apply below_drew1 | refine below_set ?_ (IsS123.ge HI0.out) | refine below_set ?_ GE175.out) | exact HB.out)); rintro e w65 ⟨v179, rfl, ho0, hi, hb, hk⟩; refine ⟨_, rfl, ?_⟩; replace BK175 := mS (KeepBut.blk hk (g' := gb175) (o := .cells #[.int .i64 0, .int .i64 0, .slice none 0 0] 40 (0, 0)) (mK BK175.out) NB175_0.out (by simp)); have HO180 := mS (Kd.R_lower ho0 (keep_size (w := w) (g := g) (row := none) (mQ75_4 HK.out GW175.out))); replace HK := mS (KeepBut.trans (mQ75_4 HK.out GW175.out) hk (.inl rfl)); replace HB := mS (hb); replace HI0 := mS (hi); (try clear hb); (try clear hb2); (try clear hk); (try clear hi); (try clear ho0)) | ((with_reducible refine gate_dst (N := 3) rfl ?_); refine box_event ?hg (N := 3) ?hd (cs := #[.int .i64 0, .int .i64 0, .slice none 0 0]) (t := 40) ?hr ?_; (case hd => rfl); (case hg => rfl); (case hr => first | (go_simp; done) | (go_simp; rfl)); intro gb183 hg w66 hbox hb; replace HO180 := mS (Kd.R_below (mR HO180.out) hb); replace HB := mS (below_step (mH75_7 HB.out (IsS123.ge HI0.out) GE175.out) hb); have BK183 := mS (hbox); have GW183 := mS ((by rw [hg]; exact (keep_size (w := w) (g := g) (row := none) (mQ75_4 HK.out GW175.out)) : w.heap.size ≤ gb183)); have GE183 := mS ((Nat.le_trans HW0.out (by rw [hg]; exact (keep_size (w := w) (g := g) (row := none) (mQ75_4 HK.out GW175.out)) : w.heap.size ≤ gb183) : w0.heap.size ≤ gb183)); replace HK := mS (KeepBut.trans (mQ75_4 HK.out GW175.out) (KeepBut.of_below hb g none) (.inl rfl)); have NB175_183 := mNl hg BK175.out; have NB183_175 := mNg hg BK175.out; replace BK175 := mB BK175 hb; have NB0_183 := mS ((by rw [hg]; exact Nat.ne_of_lt (IsS123.lt (show IsS123 w0 _ g s0_0 t181 t182 from mI75_1 HI0.out NB0_175.out)) : g ≠ gb183)); have NB183_0 := mS ((by rw [hg]; exact Nat.ne_of_gt (IsS123.lt (show IsS123 w0 _ g s0_0 t181 t182 from mI75_1 HI0.out NB0_175.out)) : gb183 ≠ g)); replace HI0 := mS (IsS123.below (mI75_1 HI0.out NB0_175.out) hb); clear hb hbox hg; have hnb67 := NB183_175.out; have hnc67 := NB175_183.out; have hnb68 := NB183_0.out; have hnc68 := NB0_183.out; have hcz69_0 := mZ BK183.out 0; have hcz69_1 := mZ BK183.out 1; have hcz69_2 := mZ BK183.out 2; have hfz69_0 := blk_frozen BK183.out 0; have hfz69_1 := blk_frozen BK183.out 1; have hfz69_2 := blk_frozen BK183.out 2; obtain ⟨Ao70, co70, eo70⟩ := Kd.R_slice HO180.out; subst eo70) | ((with_reducible refine gate_callee (f := 73) rfl ?_); refine goesL_ (some 7) rfl rfl Try.func73 (by kernel_rfl) rfl #[.pointer (some ⟨g, 0, none⟩), .int .i64 10] rfl mA ?_; (with_reducible refine (spec_l1Below.calls g s0_0 t181 t182 10 t184 t185 t186 w0 _ ?side1 ?side2 A3.out).mono ?_); (case side1 => repeat (first | (with_reducible first | exact HI0.out | apply IsS123.alloc | apply IsS123.drewN | apply IsS123.drew | apply IsS123.set_1 | apply IsS123.set_2 | refine IsS123.far ?_ NB0_175.out _ | refine IsS123.far ?_ NB0_183.out _) | exact HI0.out)); (case side2 => repeat (first | (with_reducible first | exact HB.out | apply below_alloc | apply pw_below_drewN | apply below_drew1 | refine below_set ?_ (IsS123.ge HI0.out) | refine below_set ?_ GE175.out | refine below_set ?_ GE183.out) | exact HB.out)); rintro e w71 ⟨rfl, hi, hb, hk⟩; refine ⟨_, rfl, ?_⟩; replace BK175 := mS (KeepBut.blk hk (g' := gb175) (o := .cells #[.int .i64 0, .int .i64 0, .slice none 0 0] 40 (0, 0)) (by (with_reducible repeat (first | refine blk_drewN ?_ _ | refine blk_drew ?_ | refine blk_alloc ?_ _)); refine blk_far ?_ NB175_183.out _; (with_reducible repeat (first | refine blk_drewN ?_ _ | refine blk_drew ?_ | refine blk_alloc ?_ _)); refine blk_far ?_ NB175_183.out _; (with_reducible repeat (first | refine blk_drewN ?_ _ | refine blk_drew ?_ | refine blk_alloc ?_ _)); refine blk_far ?_ NB175_183.out _; (with_reducible repeat (first | refine blk_drewN ?_ _ | refine blk_drew ?_ | refine blk_alloc ?_ _)); exact BK175.out) NB175_0.out (by simp)); replace HO180 := mS (Kd.R_mono (Kd.R_keep (IsS123.apart (show IsS123 w0 _ g s0_0 t181 t182 from mI75_2 HI0.out NB0_175.out NB0_183.out) (by (with_reducible repeat (first | apply Kd.R_alloc | apply Kd.R_drewN | apply Kd.R_drew)); exact (Kd.R_mono (Kd.R_far (p := ⟨gb183, 2, none⟩) (Kd.R_far (p := ⟨gb183, 1, none⟩) (Kd.R_far (p := ⟨gb183, 0, none⟩) (Kd.R_types HO180.out BK183.out (by decide)) (fun _ hk => hk.2) (.int .i64 t176)) (fun _ hk => hk.2) (.int .i64 t177)) (fun _ hk => hk.2) (.slice Ao70 t178.length co70)) (fun _ h_ => h_.1))) (by decide)) hk (fun _ h => h.2)) (fun _ h => h.1)); replace BK183 := mS (KeepBut.blk hk (g' := gb183) (o := .cells #[.int .i64 t176, .int .i64 t177, .slice Ao70 t178.length co70] 40 (0, 0)) (by (with_reducible repeat (first | refine blk_drewN ?_ _ | refine blk_drew ?_ | refine blk_alloc ?_ _)); refine blk_put (cs := #[.int .i64 t176, .int .i64 t177, .slice none 0 0]) ?_ 2 _ rfl; (with_reducible repeat (first | refine blk_drewN ?_ _ | refine blk_drew ?_ | refine blk_alloc ?_ _)); refine blk_put (cs := #[.int .i64 t176, .int .i64 0, .slice none 0 0]) ?_ 1 _ rfl; (with_reducible repeat (first | refine blk_drewN ?_ _ | refine blk_drew ?_ | refine blk_alloc ?_ _)); refine blk_put (cs := #[.int .i64 0, .int .i64 0, .slice none 0 0]) ?_ 0 _ rfl; (with_reducible repeat (first | refine blk_drewN ?_ _ | refine blk_drew ?_ | refine blk_alloc ?_ _)); exact BK183.out) NB183_0.out (by simp)); replace HK := mS (KeepBut.trans (mQ75_5 HK.out GW175.out GW183.out) hk (.inl rfl)); replace HB := mS (hb); replace HI0 := mS (hi); (try clear hb); (try clear hb2); (try clear hk); (try clear hi); have hcz72_0 := mZ BK183.out 0; have hcz72_1 := mZ BK183.out 1; have hcz72_2 := mZ BK183.out 2; have hfz72_0 := blk_frozen BK183.out 0; have hfz72_1 := blk_frozen BK183.out 1; have hfz72_2 := blk_frozen BK183.out 2; have hnb73 := NB175_0.out; have hnc73 := NB0_175.out; have hcz74_0 := mZ BK175.out 0; have hcz74_1 := mZ BK175.out 1; have hcz74_2 := mZ BK175.out 2; have hfz74_0 := blk_frozen BK175.out 0; have hfz74_1 := blk_frozen BK175.out 1; have hfz74_2 := blk_frozen BK175.out 2))
    refine bodyPost_ret (results_cell_row rfl _ _ gb175 40 #[.int .i64 t176, .int .i64 t177, .slice Ao70 t178.length co70] (0, 0) _ rfl (by (with_reducible repeat (first | refine blk_drewN ?_ _ | refine blk_drew ?_ | refine blk_alloc ?_ _)); refine blk_put (cs := #[.int .i64 t176, .int .i64 t177, .slice none 0 0]) ?_ 2 _ rfl; (with_reducible repeat (first | refine blk_drewN ?_ _ | refine blk_drew ?_ | refine blk_alloc ?_ _)); refine blk_put (cs := #[.int .i64 t176, .int .i64 0, .slice none 0 0]) ?_ 1 _ rfl; (with_reducible repeat (first | refine blk_drewN ?_ _ | refine blk_drew ?_ | refine blk_alloc ?_ _)); refine blk_put (cs := #[.int .i64 0, .int .i64 0, .slice none 0 0]) ?_ 0 _ rfl; (with_reducible repeat (first | refine blk_drewN ?_ _ | refine blk_drew ?_ | refine blk_alloc ?_ _)); exact BK175.out) Try.underlying40 rfl (by kernel_rfl)) rfl ?_
    exact ⟨_, by first | rfl | (simp [errW_none, errW_some] <;> rfl) | (simp [*, errW_none, errW_some] <;> rfl), by (with_reducible repeat (first | apply Kd.R_alloc | apply Kd.R_drewN | apply Kd.R_drew)); exact Kd.R_mono (Kd.R_far (p := ⟨gb175, 2, none⟩) (Kd.R_far (p := ⟨gb175, 1, none⟩) (Kd.R_far (p := ⟨gb175, 0, none⟩) (Kd.R_types HO180.out BK175.out (by decide)) (fun _ hk => hk.2) (.int .i64 t176)) (fun _ hk => hk.2) (.int .i64 t177)) (fun _ hk => hk.2) (.slice Ao70 t178.length co70)) (fun _ hk => trivial), mI75_2 HI0.out NB0_175.out NB0_183.out, mH75_8 HB.out (IsS123.ge HI0.out) GE175.out GE183.out, mQ75_5 HK.out GW175.out GW183.out⟩

/-! ### spec_DrawOverlap: function 29 -/
def spec_DrawOverlap.f (k : Nat) (l0 : List Int) : Option (Int × Int × (List (S46)) × Int × ByteArray × ByteArray) := (spec_l1New.f k l0).bind fun bt215 => ((spec_l6DrawAny.f k bt215.1 bt215.2.1 bt215.2.2).bind fun bt219 => ((spec_l1Below.f bt215.1 bt219.2.2.2.1 bt219.2.2.2.2 4).bind fun bt226 => ((spec_l4Key.f bt215.1 bt226.2.1 bt226.2.2).bind fun bt229 => ((spec_l4Key.f bt215.1 bt229.2.1 bt229.2.2).bind fun bt232 => (some (bt219.1, bt219.2.1, bt219.2.2.1, bt226.1, bt229.1, bt232.1))))))
theorem spec_DrawOverlap.mono : ∀ a0 k, LeO (spec_DrawOverlap.f k a0) (spec_DrawOverlap.f (k + 1) a0) := by
 intro a0 k
 unfold spec_DrawOverlap.f
 repeat' first
   | (with_reducible exact spec_l1New.mono _ _)
   | (with_reducible exact spec_l6DrawAny.mono _ _ _ _)
   | (with_reducible exact LeO.refl _)
   | (with_reducible exact LeO.none _)
   | (with_reducible refine LeO.ite ?_ ?_)
   | (with_reducible refine LeO.bind ?_ (fun _ => ?_))
   | exact spec_l1New.mono _ _
   | exact spec_l6DrawAny.mono _ _ _ _
   | exact LeO.none _
   | refine LeO.ite ?_ ?_
   | refine LeO.bind ?_ (fun _ => ?_)
set_option maxHeartbeats 8000000 in
set_option maxRecDepth 100000 in
theorem spec_DrawOverlap.calls (k : Nat) (A0 : Option Addr) (c0 : Nat) (l0 : List Int) (r1 : Int) (r2 : Int) (r3 : List (S46)) (r4 : Int) (r5 : ByteArray) (r6 : ByteArray) (w : World) (hr0 : Kd.C (Kd.int .u8) w A0 l0.length l0) (hc0 : l0.length ≤ c0) (h : spec_DrawOverlap.f k l0 = some (r1, r2, r3, r4, r5, r6)) :
  Calls Try.prog 29 #[.slice A0 l0.length c0] w fun e w' => ∃ v2_ : Value, e = .returned (.tuple #[.agg #[.int .i64 r1, .int .i64 r2, v2_], .int .i64 r4, .string r5, .string r6]) ∧ Kd.R k46 46 w' w.heap.size (fun _ => True) v2_ r3 ∧ Below w.heap.size w w' := by
 have hu40 := Try.underlying40
 have HR0 := mS hr0
 have HC0 := mS hc0
 clear hr0 hc0
 have HB := mS (Below.refl w.heap.size w)
 have H : ((spec_l1New.f k l0).bind fun bt215 => ((spec_l6DrawAny.f k bt215.1 bt215.2.1 bt215.2.2).bind fun bt219 => ((spec_l1Below.f bt215.1 bt219.2.2.2.1 bt219.2.2.2.2 4).bind fun bt226 => ((spec_l4Key.f bt215.1 bt226.2.1 bt226.2.2).bind fun bt229 => ((spec_l4Key.f bt215.1 bt229.2.1 bt229.2.2).bind fun bt232 => (some (bt219.1, bt219.2.1, bt219.2.2.1, bt226.1, bt229.1, bt232.1))))))) = some (r1, r2, r3, r4, r5, r6) := h
 clear h
 replace H := Option.bind_eq_some_iff.mp H
 obtain ⟨⟨t215, t216, t217⟩, A20, H⟩ := H
 replace H : ((spec_l6DrawAny.f k t215 t216 t217).bind fun bt219 => ((spec_l1Below.f t215 bt219.2.2.2.1 bt219.2.2.2.2 4).bind fun bt226 => ((spec_l4Key.f t215 bt226.2.1 bt226.2.2).bind fun bt229 => ((spec_l4Key.f t215 bt229.2.1 bt229.2.2).bind fun bt232 => (some (bt219.1, bt219.2.1, bt219.2.2.1, bt226.1, bt229.1, bt232.1)))))) = some (r1, r2, r3, r4, r5, r6) := H
 have A2 := mS A20
 clear A20
 replace H := Option.bind_eq_some_iff.mp H
 obtain ⟨⟨t219, t220, t221, t224, t225⟩, A30, H⟩ := H
 replace H : ((spec_l1Below.f t215 t224 t225 4).bind fun bt226 => ((spec_l4Key.f t215 bt226.2.1 bt226.2.2).bind fun bt229 => ((spec_l4Key.f t215 bt229.2.1 bt229.2.2).bind fun bt232 => (some (t219, t220, t221, bt226.1, bt229.1, bt232.1))))) = some (r1, r2, r3, r4, r5, r6) := H
 have A3 := mS A30
 clear A30
 replace H := Option.bind_eq_some_iff.mp H
 obtain ⟨⟨t226, t227, t228⟩, A40, H⟩ := H
 replace H : ((spec_l4Key.f t215 t227 t228).bind fun bt229 => ((spec_l4Key.f t215 bt229.2.1 bt229.2.2).bind fun bt232 => (some (t219, t220, t221, t226, bt229.1, bt232.1)))) = some (r1, r2, r3, r4, r5, r6) := H
 have A4 := mS A40
 clear A40
 replace H := Option.bind_eq_some_iff.mp H
 obtain ⟨⟨t229, t230, t231⟩, A50, H⟩ := H
 replace H : ((spec_l4Key.f t215 t230 t231).bind fun bt232 => (some (t219, t220, t221, t226, t229, bt232.1))) = some (r1, r2, r3, r4, r5, r6) := H
 have A5 := mS A50
 clear A50
 replace H := Option.bind_eq_some_iff.mp H
 obtain ⟨⟨t232, t233, t234⟩, A60, H⟩ := H
 replace H : (some (t219, t220, t221, t226, t229, t232)) = some (r1, r2, r3, r4, r5, r6) := H
 have A6 := mS A60
 clear A60
 simp only [Option.some.injEq, Prod.mk.injEq] at H
 obtain ⟨rfl, rfl, rfl, rfl, rfl, rfl⟩ := H
 go_enter Try.func29, Try.ntmps29
 go_wp2_with (first | ((with_reducible refine gate_dst (N := 2) rfl ?_); refine box_event ?hg (N := 2) ?hd (cs := #[.int .i64 0, .int .i64 0, .slice none 0 0]) (t := 40) ?hr ?_; (case hd => rfl); (case hg => rfl); (case hr => first | (go_simp; done) | (go_simp; rfl)); intro gb214 hg w7 hbox hb; have BK214 := mS (hbox); have GW214 := mG hg (mH HB.out); have GE214 := mG hg (mH HB.out); replace HB := mS (below_step (mH HB.out) hb); clear hb hbox hg) | ((with_reducible refine gate_callee (f := 70) rfl ?_); refine goesL_ (some 8) rfl rfl Try.func70 (by kernel_rfl) rfl #[.slice A0 l0.length c0] rfl mA ?_; (with_reducible refine (spec_l1New.calls k _ _ l0 t215 t216 t217 w _ ?side1 ?side2 ?side3 A2.out).mono ?_); (case side1 => repeat (first | (with_reducible first | exact HB.out | apply below_alloc | apply pw_below_drewN | apply below_drew1 | refine below_set ?_ GE214.out) | exact HB.out)); (case side2 => exact HR0.out); (case side3 => exact HC0.out); rintro e w8 ⟨g218, rfl, hi, hb, hb2⟩; refine ⟨_, rfl, ?_⟩; replace HB := mS (hb); have HI218 := mS (hi); have NB218_214 := mS (IsS123.ne_blk hi (mKb BK214.out hb2) (by decide)); have NB214_218 := mS (Ne.symm (IsS123.ne_blk hi (mKb BK214.out hb2) (by decide))); replace BK214 := mB BK214 hb2; (try clear hb); (try clear hb2); (try clear hk); (try clear hi)) | ((with_reducible refine gate_callee (f := 75) rfl ?_); refine goesL_ (some 10) rfl rfl Try.func75 (by kernel_rfl) rfl #[.pointer (some ⟨g218, 0, none⟩)] rfl mA ?_; (with_reducible refine (spec_l6DrawAny.calls k g218 t215 t216 t217 t219 t220 t221 t224 t225 w _ ?side1 ?side2 A3.out).mono ?_); (case side1 => repeat (first | (with_reducible first | exact HI218.out | apply IsS123.alloc | apply IsS123.drewN | apply IsS123.drew | apply IsS123.set_1 | apply IsS123.set_2 | refine IsS123.far ?_ NB218_214.out _) | exact HI218.out)); (case side2 => repeat (first | (with_reducible first | exact HB.out | apply below_alloc | apply pw_below_drewN | apply below_drew1 | refine below_set ?_ (IsS123.ge HI218.out) | refine below_set ?_ GE214.out) | exact HB.out)); rintro e w9 ⟨v222, rfl, ho0, hi, hb, hk⟩; refine ⟨_, rfl, ?_⟩; replace BK214 := mS (KeepBut.blk hk (g' := gb214) (o := .cells #[.int .i64 0, .int .i64 0, .slice none 0 0] 40 (0, 0)) (mK BK214.out) NB214_218.out (by simp)); have HO223 := mS (Kd.R_lower ho0 (below_size (mH75_7 HB.out (IsS123.ge HI218.out) GE214.out))); replace HB := mS (hb); replace HI218 := mS (hi); (try clear hb); (try clear hb2); (try clear hk); (try clear hi); (try clear ho0)) | ((with_reducible refine gate_callee (f := 73) rfl ?_); refine goesL_ (some 12) rfl rfl Try.func73 (by kernel_rfl) rfl #[.pointer (some ⟨g218, 0, none⟩), .int .i64 4] rfl mA ?_; (with_reducible refine (spec_l1Below.calls g218 t215 t224 t225 4 t226 t227 t228 w _ ?side1 ?side2 A4.out).mono ?_); (case side1 => repeat (first | (with_reducible first | exact HI218.out | apply IsS123.alloc | apply IsS123.drewN | apply IsS123.drew | apply IsS123.set_1 | apply IsS123.set_2 | refine IsS123.far ?_ NB218_214.out _) | exact HI218.out)); (case side2 => repeat (first | (with_reducible first | exact HB.out | apply below_alloc | apply pw_below_drewN | apply below_drew1 | refine below_set ?_ (IsS123.ge HI218.out) | refine below_set ?_ GE214.out) | exact HB.out)); rintro e w10 ⟨rfl, hi, hb, hk⟩; refine ⟨_, rfl, ?_⟩; replace BK214 := mS (KeepBut.blk hk (g' := gb214) (o := .cells #[.int .i64 0, .int .i64 0, .slice none 0 0] 40 (0, 0)) (mK BK214.out) NB214_218.out (by simp)); replace HO223 := mS (Kd.R_mono (Kd.R_keep (IsS123.apart (show IsS123 w _ g218 t215 t224 t225 from mI75_1 HI218.out NB218_214.out) (mR HO223.out) (by decide)) hk (fun _ h => h.2)) (fun _ h => h.1)); replace HB := mS (hb); replace HI218 := mS (hi); (try clear hb); (try clear hb2); (try clear hk); (try clear hi)) | ((with_reducible refine gate_callee (f := 76) rfl ?_); refine goesL_ (some 14) rfl rfl Try.func76 (by kernel_rfl) rfl #[.pointer (some ⟨g218, 0, none⟩)] rfl mA ?_; (with_reducible refine (spec_l4Key.calls g218 t215 t227 t228 t229 t230 t231 w _ ?side1 ?side2 A5.out).mono ?_); (case side1 => repeat (first | (with_reducible first | exact HI218.out | apply IsS123.alloc | apply IsS123.drewN | apply IsS123.drew | apply IsS123.set_1 | apply IsS123.set_2 | refine IsS123.far ?_ NB218_214.out _) | exact HI218.out)); (case side2 => repeat (first | (with_reducible first | exact HB.out | apply below_alloc | apply pw_below_drewN | apply below_drew1 | refine below_set ?_ (IsS123.ge HI218.out) | refine below_set ?_ GE214.out) | exact HB.out)); rintro e w11 ⟨rfl, hi, hb, hk⟩; refine ⟨_, rfl, ?_⟩; replace BK214 := mS (KeepBut.blk hk (g' := gb214) (o := .cells #[.int .i64 0, .int .i64 0, .slice none 0 0] 40 (0, 0)) (mK BK214.out) NB214_218.out (by simp)); replace HO223 := mS (Kd.R_mono (Kd.R_keep (IsS123.apart (show IsS123 w _ g218 t215 t227 t228 from mI75_1 HI218.out NB218_214.out) (mR HO223.out) (by decide)) hk (fun _ h => h.2)) (fun _ h => h.1)); replace HB := mS (hb); replace HI218 := mS (hi); (try clear hb); (try clear hb2); (try clear hk); (try clear hi)) | ((with_reducible refine gate_callee (f := 76) rfl ?_); refine goesL_ (some 16) rfl rfl Try.func76 (by kernel_rfl) rfl #[.pointer (some ⟨g218, 0, none⟩)] rfl mA ?_; (with_reducible refine (spec_l4Key.calls g218 t215 t230 t231 t232 t233 t234 w _ ?side1 ?side2 A6.out).mono ?_); (case side1 => repeat (first | (with_reducible first | exact HI218.out | apply IsS123.alloc | apply IsS123.drewN | apply IsS123.drew | apply IsS123.set_1 | apply IsS123.set_2 | refine IsS123.far ?_ NB218_214.out _) | exact HI218.out)); (case side2 => repeat (first | (with_reducible first | exact HB.out | apply below_alloc | apply pw_below_drewN | apply below_drew1 | refine below_set ?_ (IsS123.ge HI218.out) | refine below_set ?_ GE214.out) | exact HB.out)); rintro e w12 ⟨rfl, hi, hb, hk⟩; refine ⟨_, rfl, ?_⟩; replace BK214 := mS (KeepBut.blk hk (g' := gb214) (o := .cells #[.int .i64 0, .int .i64 0, .slice none 0 0] 40 (0, 0)) (mK BK214.out) NB214_218.out (by simp)); replace HO223 := mS (Kd.R_mono (Kd.R_keep (IsS123.apart (show IsS123 w _ g218 t215 t230 t231 from mI75_1 HI218.out NB218_214.out) (mR HO223.out) (by decide)) hk (fun _ h => h.2)) (fun _ h => h.1)); replace HB := mS (hb); replace HI218 := mS (hi); (try clear hb); (try clear hb2); (try clear hk); (try clear hi); have hnb13 := NB214_218.out; have hnc13 := NB218_214.out; have hcz14_0 := mZ BK214.out 0; have hcz14_1 := mZ BK214.out 1; have hcz14_2 := mZ BK214.out 2; have hfz14_0 := blk_frozen BK214.out 0; have hfz14_1 := blk_frozen BK214.out 1; have hfz14_2 := blk_frozen BK214.out 2; obtain ⟨Ao15, co15, eo15⟩ := Kd.R_slice HO223.out; subst eo15))
 refine bodyPost_ret (results_list (rs := [.cell 2 40, .tmp 3, .tmp 4, .tmp 5]) rfl (by simp) (.cell gb214 40 #[.int .i64 t219, .int .i64 t220, .slice Ao15 t221.length co15] (0, 0) _ rfl (by (with_reducible repeat (first | refine blk_drewN ?_ _ | refine blk_drew ?_ | refine blk_alloc ?_ _)); refine blk_put (cs := #[.int .i64 t219, .int .i64 t220, .slice none 0 0]) ?_ 2 _ rfl; (with_reducible repeat (first | refine blk_drewN ?_ _ | refine blk_drew ?_ | refine blk_alloc ?_ _)); refine blk_put (cs := #[.int .i64 t219, .int .i64 0, .slice none 0 0]) ?_ 1 _ rfl; (with_reducible repeat (first | refine blk_drewN ?_ _ | refine blk_drew ?_ | refine blk_alloc ?_ _)); refine blk_put (cs := #[.int .i64 0, .int .i64 0, .slice none 0 0]) ?_ 0 _ rfl; (with_reducible repeat (first | refine blk_drewN ?_ _ | refine blk_drew ?_ | refine blk_alloc ?_ _)); exact BK214.out) Try.underlying40 rfl (by kernel_rfl) (.tmp (.tmp (.tmp .nil))))) rfl ?_
 exact ⟨_, by first | rfl | (simp [errW_none, errW_some] <;> rfl) | (simp [*, errW_none, errW_some] <;> rfl), by (with_reducible repeat (first | apply Kd.R_alloc | apply Kd.R_drewN | apply Kd.R_drew)); exact Kd.R_mono (Kd.R_far (p := ⟨gb214, 2, none⟩) (Kd.R_far (p := ⟨gb214, 1, none⟩) (Kd.R_far (p := ⟨gb214, 0, none⟩) (Kd.R_types HO223.out BK214.out (by decide)) (fun _ hk => hk.2) (.int .i64 t219)) (fun _ hk => hk.2) (.int .i64 t220)) (fun _ hk => hk.2) (.slice Ao15 t221.length co15)) (fun _ hk => trivial), mH75_7 HB.out (IsS123.ge HI218.out) GE214.out⟩

/-! ### impl_meets: function 77 -/
def impl_meets.f (a0_0 : Int) (a0_1 : Int) (a0_2 : ByteArray) (a0_3 : ByteArray) (a1 : ByteArray) (a2 : ByteArray) : Option (Bool) := if ((Op.bytesLess a2.toList a0_2.toList) = true) then (some false) else (some (!(Op.bytesLess a0_3.toList a1.toList)))
set_option maxHeartbeats 8000000 in
set_option maxRecDepth 100000 in
theorem impl_meets.calls (a0_0 : Int) (a0_1 : Int) (a0_2 : ByteArray) (a0_3 : ByteArray) (a1 : ByteArray) (a2 : ByteArray) (r : Bool) (w : World) (h : impl_meets.f a0_0 a0_1 a0_2 a0_3 a1 a2 = some r) :
  Calls Try.prog 77 #[.agg #[.int .i64 a0_0, .int .i64 a0_1, .string a0_2, .string a0_3], .string a1, .string a2] w fun e w' => e = .returned (.bool r) ∧ Below w.heap.size w w' := by
 have hu46 := Try.underlying46
 have HB := mS (Below.refl w.heap.size w)
 have H : (if ((Op.bytesLess a2.toList a0_2.toList) = true) then (some false) else (some (!(Op.bytesLess a0_3.toList a1.toList)))) = some r := h
 clear h
 by_cases c4 : ((Op.bytesLess a2.toList a0_2.toList) = true)
 ·rw [if_pos c4] at H
  have c4b0 : (Op.bytesLess a2.toList a0_2.toList) = true := c4
  clear c4
  obtain rfl := Option.some.inj H
  go_enter Try.func77, Try.ntmps77
  go_wp2_with (first | ((with_reducible refine gate_dst (N := 3) rfl ?_); refine box_event ?hg (N := 3) ?hd (cs := #[.int .i64 a0_0, .int .i64 a0_1, .string a0_2, .string a0_3]) (t := 46) ?hr ?_; (case hd => rfl); (case hg => rfl); (case hr => first | (go_simp; done) | (go_simp; rfl)); intro gb235 hg w5 hbox hb; have BK235 := mS (hbox); have GW235 := mG hg (mH HB.out); have GE235 := mG hg (mH HB.out); replace HB := mS (below_step (mH HB.out) hb); clear hb hbox hg; have hcz6_0 := mZ BK235.out 0; have hcz6_1 := mZ BK235.out 1; have hcz6_2 := mZ BK235.out 2; have hcz6_3 := mZ BK235.out 3; have hfz6_0 := blk_frozen BK235.out 0; have hfz6_1 := blk_frozen BK235.out 1; have hfz6_2 := blk_frozen BK235.out 2; have hfz6_3 := blk_frozen BK235.out 3))
  go_ret
  exact ⟨by first | rfl | (simp [errW_none, errW_some] <;> rfl) | (simp [*, errW_none, errW_some] <;> rfl), (mH1 HB.out GE235.out)⟩
 ·rw [if_neg c4] at H
  have c4b0 : (Op.bytesLess a2.toList a0_2.toList) = false := by simpa using c4
  clear c4
  obtain rfl := Option.some.inj H
  go_enter Try.func77, Try.ntmps77
  go_wp2_with (first | ((with_reducible refine gate_dst (N := 3) rfl ?_); refine box_event ?hg (N := 3) ?hd (cs := #[.int .i64 a0_0, .int .i64 a0_1, .string a0_2, .string a0_3]) (t := 46) ?hr ?_; (case hd => rfl); (case hg => rfl); (case hr => first | (go_simp; done) | (go_simp; rfl)); intro gb235 hg w7 hbox hb; have BK235 := mS (hbox); have GW235 := mG hg (mH HB.out); have GE235 := mG hg (mH HB.out); replace HB := mS (below_step (mH HB.out) hb); clear hb hbox hg; have hcz8_0 := mZ BK235.out 0; have hcz8_1 := mZ BK235.out 1; have hcz8_2 := mZ BK235.out 2; have hcz8_3 := mZ BK235.out 3; have hfz8_0 := blk_frozen BK235.out 0; have hfz8_1 := blk_frozen BK235.out 1; have hfz8_2 := blk_frozen BK235.out 2; have hfz8_3 := blk_frozen BK235.out 3))
  go_ret
  exact ⟨by first | rfl | (simp [errW_none, errW_some] <;> rfl) | (simp [*, errW_none, errW_some] <;> rfl), (mH1 HB.out GE235.out)⟩

/-! ### impl_Overlap: function 30 -/
def impl_Overlap.l0 : Nat → Int → ByteArray → ByteArray → List Int → List (S46) → Int → Int → Option (List Int)
 | 0, _, _, _, _, _, _, _ => none
 | k + 1, x1, x2, x3, x9, x13, x14, x15 => if x15 < x14 then (if 0 ≤ x15 then (if x15 < (x13.length : Int) then (if ((rd_T46 x13 x15).f1) = x1 then ((impl_meets.f ((rd_T46 x13 x15).f0) ((rd_T46 x13 x15).f1) ((rd_T46 x13 x15).f2) ((rd_T46 x13 x15).f3) x2 x3).bind fun t239 => (if t239 = true then (if x9.length < 17592186044416 then (impl_Overlap.l0 k x1 x2 x3 (x9 ++ [(rd_T46 x13 x15).f0]) x13 x14 (wrap64 (x15 + 1))) else (none)) else (impl_Overlap.l0 k x1 x2 x3 x9 x13 x14 (wrap64 (x15 + 1))))) else (impl_Overlap.l0 k x1 x2 x3 x9 x13 x14 (wrap64 (x15 + 1)))) else (none)) else (none)) else (some x9)
def impl_Overlap.f (k : Nat) (a0_0 : Int) (a0_1 : Int) (l0_2 : List (S46)) (a1 : Int) (a2 : ByteArray) (a3 : ByteArray) : Option (List Int) := impl_Overlap.l0 k a1 a2 a3 ([] : List Int) l0_2 (l0_2.length : Int) 0
theorem impl_Overlap.mono_l : ∀ k, (∀ y0 y1 y2 y3 y4 y5 y6, LeO (impl_Overlap.l0 k y0 y1 y2 y3 y4 y5 y6) (impl_Overlap.l0 (k + 1) y0 y1 y2 y3 y4 y5 y6))
 | 0 => fun _ _ _ _ _ _ _ r h => by simp [impl_Overlap.l0] at h
 | k + 1 => by
  have ih0 := impl_Overlap.mono_l k
  ·intro y0 y1 y2 y3 y4 y5 y6
   unfold impl_Overlap.l0
   repeat' first
   | (with_reducible exact ih0 _ _ _ _ _ _ _)
   | (with_reducible exact LeO.refl _)
   | (with_reducible exact LeO.none _)
   | (with_reducible refine LeO.ite ?_ ?_)
   | (with_reducible refine LeO.bind ?_ (fun _ => ?_))
   | exact ih0 _ _ _ _ _ _ _
   | exact LeO.none _
   | refine LeO.ite ?_ ?_
   | refine LeO.bind ?_ (fun _ => ?_)
theorem impl_Overlap.mono : ∀ a0 a1 a2 a3 a4 a5 k, LeO (impl_Overlap.f k a0 a1 a2 a3 a4 a5) (impl_Overlap.f (k + 1) a0 a1 a2 a3 a4 a5) := by
 intro a0 a1 a2 a3 a4 a5 k
 have ih0 := impl_Overlap.mono_l k
 unfold impl_Overlap.f
 repeat' first
   | (with_reducible exact ih0 _ _ _ _ _ _ _)
   | (with_reducible exact LeO.refl _)
   | (with_reducible exact LeO.none _)
   | (with_reducible refine LeO.ite ?_ ?_)
   | (with_reducible refine LeO.bind ?_ (fun _ => ?_))
   | exact ih0 _ _ _ _ _ _ _
   | exact LeO.none _
   | refine LeO.ite ?_ ?_
   | refine LeO.bind ?_ (fun _ => ?_)
set_option maxHeartbeats 8000000 in
set_option maxRecDepth 100000 in
theorem impl_Overlap.calls (k : Nat) (a0_0 : Int) (a0_1 : Int) (A0_2 : Option Addr) (c0_2 : Nat) (l0_2 : List (S46)) (a1 : Int) (a2 : ByteArray) (a3 : ByteArray) (r : List Int) (w : World) (hr0_2 : Kd.C k46 w A0_2 l0_2.length l0_2) (hc0_2 : l0_2.length ≤ c0_2) (h : impl_Overlap.f k a0_0 a0_1 l0_2 a1 a2 a3 = some r) :
  Calls Try.prog 30 #[.agg #[.int .i64 a0_0, .int .i64 a0_1, .slice A0_2 l0_2.length c0_2], .int .i64 a1, .string a2, .string a3] w fun e w' => ∃ v0_ : Value, e = .returned (v0_) ∧ Kd.R (Kd.int .i64) 3 w' w.heap.size (fun _ => True) v0_ r ∧ Below w.heap.size w w' := by
 have hu40 := Try.underlying40
 have hu46 := Try.underlying46
 have HR0_2 := mS hr0_2
 have HC0_2 := mS hc0_2
 clear hr0_2 hc0_2
 have HB := mS (Below.refl w.heap.size w)
 have H : (impl_Overlap.l0 k a1 a2 a3 ([] : List Int) l0_2 (l0_2.length : Int) 0) = some r := h
 clear h
 have H' := mS H
 clear H
 go_enter Try.func30, Try.ntmps30
 go_wp2_with (first | ((with_reducible refine gate_dst (N := 4) rfl ?_); refine box_event ?hg (N := 4) ?hd (cs := #[.int .i64 a0_0, .int .i64 a0_1, .slice A0_2 l0_2.length c0_2]) (t := 40) ?hr ?_; (case hd => rfl); (case hg => rfl); (case hr => first | (go_simp; done) | (go_simp; rfl)); intro gb236 hg w5 hbox hb; have BK236 := mS (hbox); have GW236 := mG hg (mH HB.out); have GE236 := mG hg (mH HB.out); replace HB := mS (below_step (mH HB.out) hb); clear hb hbox hg; have hcz6_0 := mZ BK236.out 0; have hcz6_1 := mZ BK236.out 1; have hcz6_2 := mZ BK236.out 2; have hfz6_0 := blk_frozen BK236.out 0; have hfz6_1 := blk_frozen BK236.out 1; have hfz6_2 := blk_frozen BK236.out 2))
 go_loopg [9, 15] k (fun kq v9 v15 w' => ∃ (x9_1 : List Int) (x15_1 : Int), v15 = .int .i64 x15_1 ∧ Aside0 (impl_Overlap.l0 kq a1 a2 a3 x9_1 l0_2 (l0_2.length : Int) x15_1 = some r) ∧ Aside0 (kq ≤ k) ∧ Aside0 (Kd.R (Kd.int .i64) 3 w' w.heap.size (fun _ => True) v9 x9_1) ∧ Aside0 (w'.heap[gb236]? = some (.cells #[.int .i64 a0_0, .int .i64 a0_1, (.slice A0_2 l0_2.length c0_2)] 40 (0, 0))) ∧ Aside0 (Below w.heap.size w w'))
 case atStart => exact ⟨(([] : List Int)), (0), (by first | rfl | (simp; done) | (simp [*]; done)), H', ⟨Nat.le_refl _⟩, ⟨by first | exact Kd.R_nil _ _ _ _ _ | exact Kd.N_nil _ _ _ _ _ | exact Kd.V_nil _ _ _ _ _ | exact Kd.Q_nil _ _ _ _ _ | exact Kd.S_nil _ _ _ _ _⟩, ⟨by (with_reducible repeat (first | refine blk_drewN ?_ _ | refine blk_drew ?_ | refine blk_alloc ?_ _)); exact BK236.out⟩, ⟨(mH1 HB.out GE236.out)⟩⟩
 case round =>
  clear H'
  try clear p2
  try clear c3
  try clear hcz6_0
  try clear hcz6_1
  try clear hcz6_2
  try clear hfz6_0
  try clear hfz6_1
  try clear hfz6_2
  obtain ⟨x9_1, x15_1, rfl, HA, HK1, HO_9, BK236, HB⟩ := hrel
  cases gk with
  | zero => exact absurd HA.out (by simp [impl_Overlap.l0])
  | succ k1 =>
   have H := HA.out
   clear HA
   simp only [impl_Overlap.l0] at H
   by_cases c7 : x15_1 < (l0_2.length : Int)
   ·rw [if_pos c7] at H
    have c7b0 : decide (x15_1 < (l0_2.length : Int)) = true := decide_eq_true c7
    clear c7
    by_cases c8 : 0 ≤ x15_1
    ·rw [if_pos c8] at H
     have c8b0 : decide (0 ≤ x15_1) = true := decide_eq_true c8
     clear c8
     by_cases c9 : x15_1 < (l0_2.length : Int)
     ·rw [if_pos c9] at H
      have c9b0 : decide (x15_1 < (l0_2.length : Int)) = true := decide_eq_true c9
      clear c9
      by_cases c10 : ((rd_T46 l0_2 x15_1).f1) = a1
      ·rw [if_pos c10] at H
       have c10b0 : (((rd_T46 l0_2 x15_1).f1) == a1) = true := beq_iff_eq.mpr c10
       have c10b1 : (((rd_T46 l0_2 x15_1).f1) != a1) = false := bne_eq_false_iff_eq.mpr c10
       clear c10
       replace H := Option.bind_eq_some_iff.mp H
       obtain ⟨t239, A110, H⟩ := H
       replace H : (if t239 = true then (if x9_1.length < 17592186044416 then (impl_Overlap.l0 k1 a1 a2 a3 (x9_1 ++ [(rd_T46 l0_2 x15_1).f0]) l0_2 (l0_2.length : Int) (wrap64 (x15_1 + 1))) else (none)) else (impl_Overlap.l0 k1 a1 a2 a3 x9_1 l0_2 (l0_2.length : Int) (wrap64 (x15_1 + 1)))) = some r := H
       have A11 := mS A110
       clear A110
       by_cases c12 : t239 = true
       ·subst c12
        have H1 : (if x9_1.length < 17592186044416 then (impl_Overlap.l0 k1 a1 a2 a3 (x9_1 ++ [(rd_T46 l0_2 x15_1).f0]) l0_2 (l0_2.length : Int) (wrap64 (x15_1 + 1))) else (none)) = some r := by rw [if_pos rfl] at H; exact H
        clear H
        have H := H1
        clear H1
        by_cases c13 : x9_1.length < 17592186044416
        ·rw [if_pos c13] at H
         have LMc13 := mS c13
         clear c13
         obtain ⟨y240, hy240⟩ : ∃ y_ : List Int, y_ = (x9_1 ++ [(rd_T46 l0_2 x15_1).f0]) := ⟨_, rfl⟩
         replace H : (impl_Overlap.l0 k1 a1 a2 a3 y240 l0_2 (l0_2.length : Int) (wrap64 (x15_1 + 1))) = some r := by first | (rw [hy240]; with_reducible exact H) | (have H2_ := (Option.bind_some _ _).symm.trans H; rw [hy240]; with_reducible exact H2_) | (have H2_ := (Option.bind_some _ _).symm.trans H; with_reducible exact H2_) | with_reducible exact H | (rw [hy240]; exact H) | exact H
         have Ny240 := mS hy240
         clear hy240
         have H' := mS H
         clear H
         have p237 : 0 ≤ (x15_1 : Int) := of_decide_eq_true (by first | (with_reducible assumption) | assumption)
         have q237 : x15_1 < (l0_2.length : Int) := of_decide_eq_true (by first | (with_reducible assumption) | assumption)
         obtain ⟨ad237, e237, hx237_0, hx237_1, hx237_2, hx237_3⟩ := at_T46 HR0_2.out x15_1 p237 q237
         cases e237
         replace hx237_0 := mX HB.out hx237_0
         replace hx237_1 := mX HB.out hx237_1
         replace hx237_2 := mX HB.out hx237_2
         replace hx237_3 := mX HB.out hx237_3
         replace p237 := eq_true p237
         replace q237 := eq_true q237
         go_wp2_with (first | ((with_reducible refine gate_dst (N := 11) rfl ?_); refine box_event ?hg (N := 11) ?hd (cs := #[.int .i64 0, .int .i64 0, .string (⟨#[]⟩ : ByteArray), .string (⟨#[]⟩ : ByteArray)]) (t := 46) ?hr ?_; (case hd => rfl); (case hg => rfl); (case hr => first | (go_simp; done) | (go_simp; rfl)); intro gb238 hg w14 hbox hb; replace HO_9 := mS (Kd.R_below (mR HO_9.out) hb); have BK238 := mS (hbox); have GW238 := mG hg (mH1 HB.out GE236.out); have GE238 := mG hg (mH1 HB.out GE236.out); replace HB := mS (below_step (mH1 HB.out GE236.out) hb); have NB236_238 := mNl hg BK236.out; have NB238_236 := mNg hg BK236.out; replace BK236 := mB BK236 hb; clear hb hbox hg; have hnb15 := NB238_236.out; have hnc15 := NB236_238.out; have hcz16_0 := mZ BK238.out 0; have hcz16_1 := mZ BK238.out 1; have hcz16_2 := mZ BK238.out 2; have hcz16_3 := mZ BK238.out 3; have hfz16_0 := blk_frozen BK238.out 0; have hfz16_1 := blk_frozen BK238.out 1; have hfz16_2 := blk_frozen BK238.out 2; have hfz16_3 := blk_frozen BK238.out 3) | (go_at_call 77; (with_reducible refine (impl_meets.calls ((rd_T46 l0_2 x15_1).f0) ((rd_T46 l0_2 x15_1).f1) ((rd_T46 l0_2 x15_1).f2) ((rd_T46 l0_2 x15_1).f3) a2 a3 true _ A11.out).mono ?_); rintro e w17 ⟨rfl, hb⟩; replace HO_9 := mS (Kd.R_below (by (with_reducible repeat (first | apply Kd.R_alloc | apply Kd.R_drewN | apply Kd.R_drew)); exact (Kd.R_mono (Kd.R_far (p := ⟨gb238, 3, none⟩) (Kd.R_far (p := ⟨gb238, 2, none⟩) (Kd.R_far (p := ⟨gb238, 1, none⟩) (Kd.R_far (p := ⟨gb238, 0, none⟩) (Kd.R_types HO_9.out BK238.out (by decide)) (fun _ hk => hk.2) (.int .i64 ((rd_T46 l0_2 x15_1).f0))) (fun _ hk => hk.2) (.int .i64 ((rd_T46 l0_2 x15_1).f1))) (fun _ hk => hk.2) (.string ((rd_T46 l0_2 x15_1).f2))) (fun _ hk => hk.2) (.string ((rd_T46 l0_2 x15_1).f3))) (fun _ h_ => h_.1))) hb); replace BK236 := mS (blk_below (g := gb236) (o := .cells #[.int .i64 a0_0, .int .i64 a0_1, .slice (some ad237) l0_2.length c0_2] 40 (0, 0)) (by (with_reducible repeat (first | refine blk_drewN ?_ _ | refine blk_drew ?_ | refine blk_alloc ?_ _)); refine blk_far ?_ NB236_238.out _; (with_reducible repeat (first | refine blk_drewN ?_ _ | refine blk_drew ?_ | refine blk_alloc ?_ _)); refine blk_far ?_ NB236_238.out _; (with_reducible repeat (first | refine blk_drewN ?_ _ | refine blk_drew ?_ | refine blk_alloc ?_ _)); refine blk_far ?_ NB236_238.out _; (with_reducible repeat (first | refine blk_drewN ?_ _ | refine blk_drew ?_ | refine blk_alloc ?_ _)); refine blk_far ?_ NB236_238.out _; (with_reducible repeat (first | refine blk_drewN ?_ _ | refine blk_drew ?_ | refine blk_alloc ?_ _)); exact BK236.out) hb); replace BK238 := mS (blk_below (g := gb238) (o := .cells #[.int .i64 ((rd_T46 l0_2 x15_1).f0), .int .i64 ((rd_T46 l0_2 x15_1).f1), .string ((rd_T46 l0_2 x15_1).f2), .string ((rd_T46 l0_2 x15_1).f3)] 46 (0, 0)) (by (with_reducible repeat (first | refine blk_drewN ?_ _ | refine blk_drew ?_ | refine blk_alloc ?_ _)); refine blk_put (cs := #[.int .i64 ((rd_T46 l0_2 x15_1).f0), .int .i64 ((rd_T46 l0_2 x15_1).f1), .string ((rd_T46 l0_2 x15_1).f2), .string (⟨#[]⟩ : ByteArray)]) ?_ 3 _ rfl; (with_reducible repeat (first | refine blk_drewN ?_ _ | refine blk_drew ?_ | refine blk_alloc ?_ _)); refine blk_put (cs := #[.int .i64 ((rd_T46 l0_2 x15_1).f0), .int .i64 ((rd_T46 l0_2 x15_1).f1), .string (⟨#[]⟩ : ByteArray), .string (⟨#[]⟩ : ByteArray)]) ?_ 2 _ rfl; (with_reducible repeat (first | refine blk_drewN ?_ _ | refine blk_drew ?_ | refine blk_alloc ?_ _)); refine blk_put (cs := #[.int .i64 ((rd_T46 l0_2 x15_1).f0), .int .i64 0, .string (⟨#[]⟩ : ByteArray), .string (⟨#[]⟩ : ByteArray)]) ?_ 1 _ rfl; (with_reducible repeat (first | refine blk_drewN ?_ _ | refine blk_drew ?_ | refine blk_alloc ?_ _)); refine blk_put (cs := #[.int .i64 0, .int .i64 0, .string (⟨#[]⟩ : ByteArray), .string (⟨#[]⟩ : ByteArray)]) ?_ 0 _ rfl; (with_reducible repeat (first | refine blk_drewN ?_ _ | refine blk_drew ?_ | refine blk_alloc ?_ _)); exact BK238.out) hb); replace HB := mS (below_step (mH2 HB.out GE236.out GE238.out) hb); (try clear hb); (try clear hb2); (try clear hk); (try clear hi); have hcz18_0 := mZ BK238.out 0; have hcz18_1 := mZ BK238.out 1; have hcz18_2 := mZ BK238.out 2; have hcz18_3 := mZ BK238.out 3; have hfz18_0 := blk_frozen BK238.out 0; have hfz18_1 := blk_frozen BK238.out 1; have hfz18_2 := blk_frozen BK238.out 2; have hfz18_3 := blk_frozen BK238.out 3) | ((with_reducible refine gate_builtin (b := .append) (xs := #[.tmp 29, .tmp 32]) rfl ?_); at_builtin; refine Kd.R_append (Kd.int .i64) (w0 := w) w.heap.size rfl (.tmp 29) (.tmp 32) 43 3 (.int .i64 0) 8 rfl Try.underlying43 info3 rfl (by decide) (by omega) u9 x9_1 ((rd_T46 l0_2 x15_1).f0) [.int .i64 ((rd_T46 l0_2 x15_1).f0)] (fun _ => True) (fun _ => False) rfl rfl ?aP (fun _ hk => hk.elim) ?aF ?aO ?aB ?aS ?aL ?_; (case aP => exact rfl); (case aB => exact (mH2 HB.out GE236.out GE238.out)); (case aF => exact (fun _ _ => trivial)); (case aO => exact (mR HO_9.out)); (case aS => exact (below_size (mH2 HB.out GE236.out GE238.out))); (case aL => have := LMc13.out; omega); intro v241 w19 ho hb hg hat; rw [← Ny240.out] at ho; replace BK236 := mS (blk_grown (g := gb236) (o := .cells #[.int .i64 a0_0, .int .i64 a0_1, .slice (some ad237) l0_2.length c0_2] 40 (0, 0)) (mK BK236.out) hg (Kd.R_ne HO_9.out BK236.out (by decide))); replace BK238 := mS (blk_grown (g := gb238) (o := .cells #[.int .i64 ((rd_T46 l0_2 x15_1).f0), .int .i64 ((rd_T46 l0_2 x15_1).f1), .string ((rd_T46 l0_2 x15_1).f2), .string ((rd_T46 l0_2 x15_1).f3)] 46 (0, 0)) (mK BK238.out) hg (Kd.R_ne HO_9.out BK238.out (by decide))); replace HB := mS (hb); have HO242 := mS (ho); clear HO_9; clear ho hb hg hat))
         go_roundg k1
         case measure => have := HK1.out; omega
         case rel => exact ⟨(y240), (wrap64 (x15_1 + 1)), (by first | rfl | (simp; done) | (simp [*]; done)), H', ⟨by have := HK1.out; omega⟩, ⟨by (with_reducible repeat (first | apply Kd.R_alloc | apply Kd.R_drewN | apply Kd.R_drew)); exact HO242.out⟩, ⟨by (with_reducible repeat (first | refine blk_drewN ?_ _ | refine blk_drew ?_ | refine blk_alloc ?_ _)); exact BK236.out⟩, ⟨(mH2 HB.out GE236.out GE238.out)⟩⟩
        ·rw [if_neg c13] at H
         exact absurd H (by simp)
       ·replace c12 := Bool.eq_false_iff.mpr c12
        subst c12
        have H1 : (impl_Overlap.l0 k1 a1 a2 a3 x9_1 l0_2 (l0_2.length : Int) (wrap64 (x15_1 + 1))) = some r := by rw [if_neg (show ¬ (false = true) by decide)] at H; exact H
        clear H
        have H := H1
        clear H1
        have H' := mS H
        clear H
        have p237 : 0 ≤ (x15_1 : Int) := of_decide_eq_true (by first | (with_reducible assumption) | assumption)
        have q237 : x15_1 < (l0_2.length : Int) := of_decide_eq_true (by first | (with_reducible assumption) | assumption)
        obtain ⟨ad237, e237, hx237_0, hx237_1, hx237_2, hx237_3⟩ := at_T46 HR0_2.out x15_1 p237 q237
        cases e237
        replace hx237_0 := mX HB.out hx237_0
        replace hx237_1 := mX HB.out hx237_1
        replace hx237_2 := mX HB.out hx237_2
        replace hx237_3 := mX HB.out hx237_3
        replace p237 := eq_true p237
        replace q237 := eq_true q237
        go_wp2_with (first | ((with_reducible refine gate_dst (N := 11) rfl ?_); refine box_event ?hg (N := 11) ?hd (cs := #[.int .i64 0, .int .i64 0, .string (⟨#[]⟩ : ByteArray), .string (⟨#[]⟩ : ByteArray)]) (t := 46) ?hr ?_; (case hd => rfl); (case hg => rfl); (case hr => first | (go_simp; done) | (go_simp; rfl)); intro gb238 hg w20 hbox hb; replace HO_9 := mS (Kd.R_below (mR HO_9.out) hb); have BK238 := mS (hbox); have GW238 := mG hg (mH1 HB.out GE236.out); have GE238 := mG hg (mH1 HB.out GE236.out); replace HB := mS (below_step (mH1 HB.out GE236.out) hb); have NB236_238 := mNl hg BK236.out; have NB238_236 := mNg hg BK236.out; replace BK236 := mB BK236 hb; clear hb hbox hg; have hnb21 := NB238_236.out; have hnc21 := NB236_238.out; have hcz22_0 := mZ BK238.out 0; have hcz22_1 := mZ BK238.out 1; have hcz22_2 := mZ BK238.out 2; have hcz22_3 := mZ BK238.out 3; have hfz22_0 := blk_frozen BK238.out 0; have hfz22_1 := blk_frozen BK238.out 1; have hfz22_2 := blk_frozen BK238.out 2; have hfz22_3 := blk_frozen BK238.out 3) | (go_at_call 77; (with_reducible refine (impl_meets.calls ((rd_T46 l0_2 x15_1).f0) ((rd_T46 l0_2 x15_1).f1) ((rd_T46 l0_2 x15_1).f2) ((rd_T46 l0_2 x15_1).f3) a2 a3 false _ A11.out).mono ?_); rintro e w23 ⟨rfl, hb⟩; replace HO_9 := mS (Kd.R_below (by (with_reducible repeat (first | apply Kd.R_alloc | apply Kd.R_drewN | apply Kd.R_drew)); exact (Kd.R_mono (Kd.R_far (p := ⟨gb238, 3, none⟩) (Kd.R_far (p := ⟨gb238, 2, none⟩) (Kd.R_far (p := ⟨gb238, 1, none⟩) (Kd.R_far (p := ⟨gb238, 0, none⟩) (Kd.R_types HO_9.out BK238.out (by decide)) (fun _ hk => hk.2) (.int .i64 ((rd_T46 l0_2 x15_1).f0))) (fun _ hk => hk.2) (.int .i64 ((rd_T46 l0_2 x15_1).f1))) (fun _ hk => hk.2) (.string ((rd_T46 l0_2 x15_1).f2))) (fun _ hk => hk.2) (.string ((rd_T46 l0_2 x15_1).f3))) (fun _ h_ => h_.1))) hb); replace BK236 := mS (blk_below (g := gb236) (o := .cells #[.int .i64 a0_0, .int .i64 a0_1, .slice (some ad237) l0_2.length c0_2] 40 (0, 0)) (by (with_reducible repeat (first | refine blk_drewN ?_ _ | refine blk_drew ?_ | refine blk_alloc ?_ _)); refine blk_far ?_ NB236_238.out _; (with_reducible repeat (first | refine blk_drewN ?_ _ | refine blk_drew ?_ | refine blk_alloc ?_ _)); refine blk_far ?_ NB236_238.out _; (with_reducible repeat (first | refine blk_drewN ?_ _ | refine blk_drew ?_ | refine blk_alloc ?_ _)); refine blk_far ?_ NB236_238.out _; (with_reducible repeat (first | refine blk_drewN ?_ _ | refine blk_drew ?_ | refine blk_alloc ?_ _)); refine blk_far ?_ NB236_238.out _; (with_reducible repeat (first | refine blk_drewN ?_ _ | refine blk_drew ?_ | refine blk_alloc ?_ _)); exact BK236.out) hb); replace BK238 := mS (blk_below (g := gb238) (o := .cells #[.int .i64 ((rd_T46 l0_2 x15_1).f0), .int .i64 ((rd_T46 l0_2 x15_1).f1), .string ((rd_T46 l0_2 x15_1).f2), .string ((rd_T46 l0_2 x15_1).f3)] 46 (0, 0)) (by (with_reducible repeat (first | refine blk_drewN ?_ _ | refine blk_drew ?_ | refine blk_alloc ?_ _)); refine blk_put (cs := #[.int .i64 ((rd_T46 l0_2 x15_1).f0), .int .i64 ((rd_T46 l0_2 x15_1).f1), .string ((rd_T46 l0_2 x15_1).f2), .string (⟨#[]⟩ : ByteArray)]) ?_ 3 _ rfl; (with_reducible repeat (first | refine blk_drewN ?_ _ | refine blk_drew ?_ | refine blk_alloc ?_ _)); refine blk_put (cs := #[.int .i64 ((rd_T46 l0_2 x15_1).f0), .int .i64 ((rd_T46 l0_2 x15_1).f1), .string (⟨#[]⟩ : ByteArray), .string (⟨#[]⟩ : ByteArray)]) ?_ 2 _ rfl; (with_reducible repeat (first | refine blk_drewN ?_ _ | refine blk_drew ?_ | refine blk_alloc ?_ _)); refine blk_put (cs := #[.int .i64 ((rd_T46 l0_2 x15_1).f0), .int .i64 0, .string (⟨#[]⟩ : ByteArray), .string (⟨#[]⟩ : ByteArray)]) ?_ 1 _ rfl; (with_reducible repeat (first | refine blk_drewN ?_ _ | refine blk_drew ?_ | refine blk_alloc ?_ _)); refine blk_put (cs := #[.int .i64 0, .int .i64 0, .string (⟨#[]⟩ : ByteArray), .string (⟨#[]⟩ : ByteArray)]) ?_ 0 _ rfl; (with_reducible repeat (first | refine blk_drewN ?_ _ | refine blk_drew ?_ | refine blk_alloc ?_ _)); exact BK238.out) hb); replace HB := mS (below_step (mH2 HB.out GE236.out GE238.out) hb); (try clear hb); (try clear hb2); (try clear hk); (try clear hi)))
        go_roundg k1
        case measure => have := HK1.out; omega
        case rel => exact ⟨(x9_1), (wrap64 (x15_1 + 1)), (by first | rfl | (simp; done) | (simp [*]; done)), H', ⟨by have := HK1.out; omega⟩, ⟨by (with_reducible repeat (first | apply Kd.R_alloc | apply Kd.R_drewN | apply Kd.R_drew)); exact HO_9.out⟩, ⟨by (with_reducible repeat (first | refine blk_drewN ?_ _ | refine blk_drew ?_ | refine blk_alloc ?_ _)); exact BK236.out⟩, ⟨(mH2 HB.out GE236.out GE238.out)⟩⟩
      ·rw [if_neg c10] at H
       have c10b0 : (((rd_T46 l0_2 x15_1).f1) == a1) = false := beq_eq_false_iff_ne.mpr c10
       have c10b1 : (((rd_T46 l0_2 x15_1).f1) != a1) = true := bne_iff_ne.mpr c10
       have H' := mS H
       clear H
       have p237 : 0 ≤ (x15_1 : Int) := of_decide_eq_true (by first | (with_reducible assumption) | assumption)
       have q237 : x15_1 < (l0_2.length : Int) := of_decide_eq_true (by first | (with_reducible assumption) | assumption)
       obtain ⟨ad237, e237, hx237_0, hx237_1, hx237_2, hx237_3⟩ := at_T46 HR0_2.out x15_1 p237 q237
       cases e237
       replace hx237_0 := mX HB.out hx237_0
       replace hx237_1 := mX HB.out hx237_1
       replace hx237_2 := mX HB.out hx237_2
       replace hx237_3 := mX HB.out hx237_3
       replace p237 := eq_true p237
       replace q237 := eq_true q237
       go_wp2_with (first | ((with_reducible refine gate_dst (N := 11) rfl ?_); refine box_event ?hg (N := 11) ?hd (cs := #[.int .i64 0, .int .i64 0, .string (⟨#[]⟩ : ByteArray), .string (⟨#[]⟩ : ByteArray)]) (t := 46) ?hr ?_; (case hd => rfl); (case hg => rfl); (case hr => first | (go_simp; done) | (go_simp; rfl)); intro gb238 hg w24 hbox hb; replace HO_9 := mS (Kd.R_below (mR HO_9.out) hb); have BK238 := mS (hbox); have GW238 := mG hg (mH1 HB.out GE236.out); have GE238 := mG hg (mH1 HB.out GE236.out); replace HB := mS (below_step (mH1 HB.out GE236.out) hb); have NB236_238 := mNl hg BK236.out; have NB238_236 := mNg hg BK236.out; replace BK236 := mB BK236 hb; clear hb hbox hg; have hnb25 := NB238_236.out; have hnc25 := NB236_238.out; have hcz26_0 := mZ BK238.out 0; have hcz26_1 := mZ BK238.out 1; have hcz26_2 := mZ BK238.out 2; have hcz26_3 := mZ BK238.out 3; have hfz26_0 := blk_frozen BK238.out 0; have hfz26_1 := blk_frozen BK238.out 1; have hfz26_2 := blk_frozen BK238.out 2; have hfz26_3 := blk_frozen BK238.out 3))
       go_roundg k1
       case measure => have := HK1.out; omega
       case rel => exact ⟨(x9_1), (wrap64 (x15_1 + 1)), (by first | rfl | (simp; done) | (simp [*]; done)), H', ⟨by have := HK1.out; omega⟩, ⟨by (with_reducible repeat (first | apply Kd.R_alloc | apply Kd.R_drewN | apply Kd.R_drew)); exact Kd.R_mono (Kd.R_far (p := ⟨gb238, 3, none⟩) (Kd.R_far (p := ⟨gb238, 2, none⟩) (Kd.R_far (p := ⟨gb238, 1, none⟩) (Kd.R_far (p := ⟨gb238, 0, none⟩) (Kd.R_types HO_9.out BK238.out (by decide)) (fun _ hk => hk.2) (.int .i64 ((rd_T46 l0_2 x15_1).f0))) (fun _ hk => hk.2) (.int .i64 ((rd_T46 l0_2 x15_1).f1))) (fun _ hk => hk.2) (.string ((rd_T46 l0_2 x15_1).f2))) (fun _ hk => hk.2) (.string ((rd_T46 l0_2 x15_1).f3))) (fun _ hk => trivial)⟩, ⟨by (with_reducible repeat (first | refine blk_drewN ?_ _ | refine blk_drew ?_ | refine blk_alloc ?_ _)); refine blk_far ?_ NB236_238.out _; (with_reducible repeat (first | refine blk_drewN ?_ _ | refine blk_drew ?_ | refine blk_alloc ?_ _)); refine blk_far ?_ NB236_238.out _; (with_reducible repeat (first | refine blk_drewN ?_ _ | refine blk_drew ?_ | refine blk_alloc ?_ _)); refine blk_far ?_ NB236_238.out _; (with_reducible repeat (first | refine blk_drewN ?_ _ | refine blk_drew ?_ | refine blk_alloc ?_ _)); refine blk_far ?_ NB236_238.out _; (with_reducible repeat (first | refine blk_drewN ?_ _ | refine blk_drew ?_ | refine blk_alloc ?_ _)); exact BK236.out⟩, ⟨(mH2 HB.out GE236.out GE238.out)⟩⟩
     ·rw [if_neg c9] at H
      exact absurd H (by simp)
    ·rw [if_neg c8] at H
     exact absurd H (by simp)
   ·rw [if_neg c7] at H
    have c7b0 : decide (x15_1 < (l0_2.length : Int)) = false := decide_eq_false c7
    clear c7
    obtain rfl := Option.some.inj H
    go_wp2
    go_ret
    exact ⟨_, by first | rfl | (simp [errW_none, errW_some] <;> rfl) | (simp [*, errW_none, errW_some] <;> rfl), by (with_reducible repeat (first | apply Kd.R_alloc | apply Kd.R_drewN | apply Kd.R_drew)); exact HO_9.out, (mH1 HB.out GE236.out)⟩

end Go.Proofs.Ytgncojbnejdplaa.MFnOverlaps
