-- Written by mp.py, this session's own printer (wip/mp.py).
import Derived.Test.YtbepbgfkajnlbaaVMShort
import Derived.Test.YtbepbgfkajnlbaaMFnMemx0
import Derived.Test.YtbepbgfkajnlbaaMFnMemx4
import Derived.Test.YtbepbgfkajnlbaaMFnMemx6
namespace Go.Proofs.Ytbepbgfkajnlbaa.MFnMem
open Go.RowKit Go.Proofs.YtbepbgfkajnlbaaW.PrintWords Go.Proofs.YtbepbgfkajnlbaaW.PrintLast Go.Proofs.YtbepbgfkajnlbaaW.PrintMore Go.Proofs.Ytbepbgfkajnlbaa.MWords
theorem mI134_0 {p q : Prop} (x : q) (h : q → p := by intro h_; repeat (first | (with_reducible first | exact h_ | apply IsS167.alloc | apply IsS167.drewN | apply IsS167.drew | apply IsS167.set_1 | apply IsS167.set_2) | exact h_)) : p := h x
theorem mI134_1 {p q a0 : Prop} (x : q) (g0 : a0) (h : q → a0 → p := by intro h_ g0_; repeat (first | (with_reducible first | exact h_ | apply IsS167.alloc | apply IsS167.drewN | apply IsS167.drew | apply IsS167.set_1 | apply IsS167.set_2 | refine IsS167.far ?_ g0_ _) | exact h_)) : p := h x g0
theorem mI134_2 {p q a0 a1 : Prop} (x : q) (g0 : a0) (g1 : a1) (h : q → a0 → a1 → p := by intro h_ g0_ g1_; repeat (first | (with_reducible first | exact h_ | apply IsS167.alloc | apply IsS167.drewN | apply IsS167.drew | apply IsS167.set_1 | apply IsS167.set_2 | refine IsS167.far ?_ g0_ _ | refine IsS167.far ?_ g1_ _) | exact h_)) : p := h x g0 g1
theorem mQ134_3 {p q : Prop} (x : q) (h : q → p := by intro h_; repeat (first | (with_reducible first | exact h_ | apply KeepBut.set_ | apply keep_drewN | apply keep_drew | apply keep_alloc) | exact h_)) : p := h x
theorem mQ134_4 {p q a0 : Prop} (x : q) (g0 : a0) (h : q → a0 → p := by intro h_ g0_; repeat (first | (with_reducible first | exact h_ | apply KeepBut.set_ | apply keep_drewN | apply keep_drew | apply keep_alloc | refine keep_far ?_ g0_ _) | exact h_)) : p := h x g0
theorem mQ134_5 {p q a0 a1 : Prop} (x : q) (g0 : a0) (g1 : a1) (h : q → a0 → a1 → p := by intro h_ g0_ g1_; repeat (first | (with_reducible first | exact h_ | apply KeepBut.set_ | apply keep_drewN | apply keep_drew | apply keep_alloc | refine keep_far ?_ g0_ _ | refine keep_far ?_ g1_ _) | exact h_)) : p := h x g0 g1
theorem mH134_6 {p q a0 : Prop} (x : q) (g0 : a0) (h : q → a0 → p := by intro h_ g0_; repeat (first | (with_reducible first | exact h_ | apply below_alloc | apply pw_below_drewN | apply below_drew1 | refine below_set ?_ g0_) | exact h_)) : p := h x g0
theorem mH134_7 {p q a0 a1 : Prop} (x : q) (g0 : a0) (g1 : a1) (h : q → a0 → a1 → p := by intro h_ g0_ g1_; repeat (first | (with_reducible first | exact h_ | apply below_alloc | apply pw_below_drewN | apply below_drew1 | refine below_set ?_ g0_ | refine below_set ?_ g1_) | exact h_)) : p := h x g0 g1
theorem mH134_8 {p q a0 a1 a2 : Prop} (x : q) (g0 : a0) (g1 : a1) (g2 : a2) (h : q → a0 → a1 → a2 → p := by intro h_ g0_ g1_ g2_; repeat (first | (with_reducible first | exact h_ | apply below_alloc | apply pw_below_drewN | apply below_drew1 | refine below_set ?_ g0_ | refine below_set ?_ g1_ | refine below_set ?_ g2_) | exact h_)) : p := h x g0 g1 g2
attribute [local go_sem] max2_int min2_int max_two min_two max_three min_three max_four min_four   -- for this text's walks alone
set_option linter.unusedVariables false
set_option linter.unusedSimpArgs false

/-! ### spec_l4Draw: function 134 -/
def spec_l4Draw.l0 : Nat → Int → List Int → Int → Int → List (S35) → Option ((List (S35)) × Int × Int)
 | 0, _, _, _, _, _ => none
 | k + 1, x6, x1000, x1001, x1002, x214000 => if x6 > 0 then ((spec_l4Pair.f x1000 x1001 x1002).bind fun bt217 => ((spec_l1Below.f x1000 bt217.2.2.2.1 bt217.2.2.2.2 4).bind fun bt222 => ((spec_MemPut.f k x214000 bt217.1 bt217.2.1 bt217.2.2.1 (wrap64 (1 + bt222.1))).bind fun bt225 => (spec_l4Draw.l0 k (wrap64 (x6 - 1)) x1000 bt222.2.1 bt222.2.2 bt225.1)))) else (some (x214000, x1001, x1002))
def spec_l4Draw.f (k : Nat) (s0_0 : List Int) (s0_1 : Int) (s0_2 : Int) (a1 : Int) : Option ((List (S35)) × Int × Int) := (spec_l1Below.f s0_0 s0_1 s0_2 a1).bind fun bt214 => (spec_l4Draw.l0 k bt214.1 s0_0 bt214.2.1 bt214.2.2 ([] : List (S35)))
theorem spec_l4Draw.mono_l : ∀ k, (∀ y0 y1 y2 y3 y4, LeO (spec_l4Draw.l0 k y0 y1 y2 y3 y4) (spec_l4Draw.l0 (k + 1) y0 y1 y2 y3 y4))
 | 0 => fun _ _ _ _ _ r h => by simp [spec_l4Draw.l0] at h
 | k + 1 => by
  have ih0 := spec_l4Draw.mono_l k
  ·intro y0 y1 y2 y3 y4
   unfold spec_l4Draw.l0
   repeat' first
   | (with_reducible exact ih0 _ _ _ _ _)
   | (with_reducible exact spec_MemPut.mono _ _ _ _ _ _)
   | (with_reducible exact LeO.refl _)
   | (with_reducible exact LeO.none _)
   | (with_reducible refine LeO.ite ?_ ?_)
   | (with_reducible refine LeO.bind ?_ (fun _ => ?_))
   | exact ih0 _ _ _ _ _
   | exact spec_MemPut.mono _ _ _ _ _ _
   | exact LeO.none _
   | refine LeO.ite ?_ ?_
   | refine LeO.bind ?_ (fun _ => ?_)
theorem spec_l4Draw.mono : ∀ a0 a1 a2 a3 k, LeO (spec_l4Draw.f k a0 a1 a2 a3) (spec_l4Draw.f (k + 1) a0 a1 a2 a3) := by
 intro a0 a1 a2 a3 k
 have ih0 := spec_l4Draw.mono_l k
 unfold spec_l4Draw.f
 repeat' first
   | (with_reducible exact ih0 _ _ _ _ _)
   | (with_reducible exact spec_MemPut.mono _ _ _ _ _ _)
   | (with_reducible exact LeO.refl _)
   | (with_reducible exact LeO.none _)
   | (with_reducible refine LeO.ite ?_ ?_)
   | (with_reducible refine LeO.bind ?_ (fun _ => ?_))
   | exact ih0 _ _ _ _ _
   | exact spec_MemPut.mono _ _ _ _ _ _
   | exact LeO.none _
   | refine LeO.ite ?_ ?_
   | refine LeO.bind ?_ (fun _ => ?_)
def spec_l4Draw.T5 : Bool × List (List Nat × List Nat) := (true, [([], []), ([], []), ([1], [1]), ([], []), ([3, 2], [3]), ([4], [4]), ([0, 2, 5, 4], [0, 2, 5]), ([6], [6]), ([7], [7]), ([7], [7]), ([8, 6, 0, 1, 2, 3, 4, 5, 6, 7, 8], [8])])
def spec_l4Draw.B5 : List Nat := [0, 0, 2, 0, 14, 30, 63, 127, 255, 255, 511]
theorem spec_l4Draw.tab5 : rtab .any (opsOf Try.f134 5) = spec_l4Draw.T5 := by kernel_rfl
theorem spec_l4Draw.bits5 : waitsOk spec_l4Draw.T5.2 spec_l4Draw.B5 = true := by kernel_rfl
set_option maxHeartbeats 8000000 in
set_option maxRecDepth 100000 in
theorem spec_l4Draw.calls (k : Nat) (g : Nat) (s0_0 : List Int) (s0_1 : Int) (s0_2 : Int) (a1 : Int) (r1 : List (S35)) (r2 : Int) (r3 : Int) (w0 w : World) (hI : IsS167 w0 w g s0_0 s0_1 s0_2) (hB : Below w0.heap.size w0 w) (h : spec_l4Draw.f k s0_0 s0_1 s0_2 a1 = some (r1, r2, r3)) :
  Calls Try.prog 134 #[.pointer (some ⟨g, 0, none⟩), .int .i64 a1] w fun e w' => ∃ v0_ : Value, e = .returned (.agg #[v0_]) ∧ Kd.R k35 35 w' w.heap.size (fun _ => True) v0_ r1 ∧ IsS167 w0 w' g s0_0 r2 r3 ∧ Below w0.heap.size w0 w' ∧ KeepBut w w' g none := by
 have hu26 := Try.underlying26
 have HI0 := mS hI
 have HK := mS (KeepBut.refl w g none)
 have HL := mS hB.size
 clear hI
 have HW0 := mS hB.size
 have HB := mS hB
 clear hB
 have H : ((spec_l1Below.f s0_0 s0_1 s0_2 a1).bind fun bt214 => (spec_l4Draw.l0 k bt214.1 s0_0 bt214.2.1 bt214.2.2 ([] : List (S35)))) = some (r1, r2, r3) := h
 clear h
 replace H := Option.bind_eq_some_iff.mp H
 obtain ⟨⟨t214, t215, t216⟩, A30, H⟩ := H
 replace H : (spec_l4Draw.l0 k t214 s0_0 t215 t216 ([] : List (S35))) = some (r1, r2, r3) := H
 have A3 := mS A30
 clear A30
 have H' := mS H
 clear H
 go_enter Try.func134, Try.ntmps134
 go_wp2_with (first | ((with_reducible refine gate_dst (N := 4) rfl ?_); refine box_event ?hg (N := 4) ?hd (cs := #[.slice none 0 0]) (t := 26) ?hr ?_; (case hd => rfl); (case hg => rfl); (case hr => first | (go_simp; done) | (go_simp; rfl)); intro gb212 hg w4 hbox hb; replace HB := mS (below_step (mH134_6 HB.out (IsS167.ge HI0.out)) hb); have BK212 := mS (hbox); have GW212 := mS ((by rw [hg]; exact (keep_size (w := w) (g := g) (row := none) (mQ134_3 HK.out)) : w.heap.size ≤ gb212)); have GE212 := mS ((Nat.le_trans HW0.out (by rw [hg]; exact (keep_size (w := w) (g := g) (row := none) (mQ134_3 HK.out)) : w.heap.size ≤ gb212) : w0.heap.size ≤ gb212)); replace HK := mS (KeepBut.trans (mQ134_3 HK.out) (KeepBut.of_below hb g none) (.inl rfl)); have NB0_212 := mS ((by rw [hg]; exact Nat.ne_of_lt (IsS167.lt (show IsS167 w0 _ g s0_0 s0_1 s0_2 from mI134_0 HI0.out)) : g ≠ gb212)); have NB212_0 := mS ((by rw [hg]; exact Nat.ne_of_gt (IsS167.lt (show IsS167 w0 _ g s0_0 s0_1 s0_2 from mI134_0 HI0.out)) : gb212 ≠ g)); replace HI0 := mS (IsS167.below (mI134_0 HI0.out) hb); clear hb hbox hg) | ((with_reducible refine gate_dst (N := 5) rfl ?_); refine box_event ?hg (N := 5) ?hd (cs := #[.slice none 0 0]) (t := 26) ?hr ?_; (case hd => rfl); (case hg => rfl); (case hr => first | (go_simp; done) | (go_simp; rfl)); intro gb213 hg w5 hbox hb; replace HB := mS (below_step (mH134_7 HB.out (IsS167.ge HI0.out) GE212.out) hb); have BK213 := mS (hbox); have GW213 := mS ((by rw [hg]; exact (keep_size (w := w) (g := g) (row := none) (mQ134_4 HK.out GW212.out)) : w.heap.size ≤ gb213)); have GE213 := mS ((Nat.le_trans HW0.out (by rw [hg]; exact (keep_size (w := w) (g := g) (row := none) (mQ134_4 HK.out GW212.out)) : w.heap.size ≤ gb213) : w0.heap.size ≤ gb213)); replace HK := mS (KeepBut.trans (mQ134_4 HK.out GW212.out) (KeepBut.of_below hb g none) (.inl rfl)); have NB212_213 := mNl hg BK212.out; have NB213_212 := mNg hg BK212.out; replace BK212 := mB BK212 hb; have NB0_213 := mS ((by rw [hg]; exact Nat.ne_of_lt (IsS167.lt (show IsS167 w0 _ g s0_0 s0_1 s0_2 from mI134_1 HI0.out NB0_212.out)) : g ≠ gb213)); have NB213_0 := mS ((by rw [hg]; exact Nat.ne_of_gt (IsS167.lt (show IsS167 w0 _ g s0_0 s0_1 s0_2 from mI134_1 HI0.out NB0_212.out)) : gb213 ≠ g)); replace HI0 := mS (IsS167.below (mI134_1 HI0.out NB0_212.out) hb); clear hb hbox hg; have hnb6 := NB213_212.out; have hnc6 := NB212_213.out; have hnb7 := NB213_0.out; have hnc7 := NB0_213.out; have hcz8_0 := mZ BK213.out 0; have hfz8_0 := blk_frozen BK213.out 0) | ((with_reducible refine gate_callee (f := 82) rfl ?_); refine goesL_ (some 10) rfl rfl Try.func82 (by kernel_rfl) rfl #[.pointer (some ⟨g, 0, none⟩), .int .i64 a1] rfl mA ?_; (with_reducible refine (spec_l1Below.calls g s0_0 s0_1 s0_2 a1 t214 t215 t216 w0 _ ?side1 ?side2 A3.out).mono ?_); (case side1 => repeat (first | (with_reducible first | exact HI0.out | apply IsS167.alloc | apply IsS167.drewN | apply IsS167.drew | apply IsS167.set_1 | apply IsS167.set_2 | refine IsS167.far ?_ NB0_212.out _ | refine IsS167.far ?_ NB0_213.out _) | exact HI0.out)); (case side2 => repeat (first | (with_reducible first | exact HB.out | apply below_alloc | apply pw_below_drewN | apply below_drew1 | refine below_set ?_ (IsS167.ge HI0.out) | refine below_set ?_ GE212.out | refine below_set ?_ GE213.out) | exact HB.out)); rintro e w9 ⟨rfl, hi, hb, hk⟩; refine ⟨_, rfl, ?_⟩; replace BK212 := mS (KeepBut.blk hk (g' := gb212) (o := .cells #[.slice none 0 0] 26 (0, 0)) (by (with_reducible repeat (first | refine blk_drewN ?_ _ | refine blk_drew ?_ | refine blk_alloc ?_ _)); refine blk_far ?_ NB212_213.out _; (with_reducible repeat (first | refine blk_drewN ?_ _ | refine blk_drew ?_ | refine blk_alloc ?_ _)); exact BK212.out) NB212_0.out (by simp)); replace BK213 := mS (KeepBut.blk hk (g' := gb213) (o := .cells #[.slice none 0 0] 26 (0, 0)) (by (with_reducible repeat (first | refine blk_drewN ?_ _ | refine blk_drew ?_ | refine blk_alloc ?_ _)); refine blk_put (cs := #[.slice none 0 0]) ?_ 0 _ rfl; (with_reducible repeat (first | refine blk_drewN ?_ _ | refine blk_drew ?_ | refine blk_alloc ?_ _)); exact BK213.out) NB213_0.out (by simp)); replace HK := mS (KeepBut.trans (mQ134_5 HK.out GW212.out GW213.out) hk (.inl rfl)); replace HB := mS (hb); replace HI0 := mS (hi); (try clear hb); (try clear hb2); (try clear hk); (try clear hi)))
 go_loopg [6] k (fun kq v6 w' => ∃ (x6_1 : Int) (x1001_1 : Int) (x1002_1 : Int) (x214000_1 : List (S35)) (u214000 : Value), v6 = .int .i64 x6_1 ∧ Aside0 (spec_l4Draw.l0 kq x6_1 s0_0 x1001_1 x1002_1 x214000_1 = some (r1, r2, r3)) ∧ Aside0 (kq ≤ k) ∧ Aside0 (Kd.R k35 35 w' w.heap.size (fun _ => True) u214000 x214000_1) ∧ Aside0 (w'.heap[gb212]? = some (.cells #[(.slice none 0 0)] 26 (0, 0))) ∧ Aside0 (w'.heap[gb213]? = some (.cells #[u214000] 26 (0, 0))) ∧ Aside0 (IsS167 w0 w' g s0_0 x1001_1 x1002_1) ∧ Aside0 (KeepBut w w' g none) ∧ Aside0 (Below w0.heap.size w0 w'))
 case atStart => exact ⟨(t214), (t215), (t216), (([] : List (S35))), (.slice none 0 0), (by first | rfl | (simp; done) | (simp [*]; done)), H', ⟨Nat.le_refl _⟩, ⟨by first | exact Kd.R_nil _ _ _ _ _ | exact Kd.N_nil _ _ _ _ _ | exact Kd.V_nil _ _ _ _ _ | exact Kd.Q_nil _ _ _ _ _ | exact Kd.S_nil _ _ _ _ _⟩, ⟨by (with_reducible repeat (first | refine blk_drewN ?_ _ | refine blk_drew ?_ | refine blk_alloc ?_ _)); exact BK212.out⟩, ⟨by (with_reducible repeat (first | refine blk_drewN ?_ _ | refine blk_drew ?_ | refine blk_alloc ?_ _)); exact BK213.out⟩, ⟨mI134_2 HI0.out NB0_212.out NB0_213.out⟩, ⟨mQ134_5 HK.out GW212.out GW213.out⟩, ⟨mH134_8 HB.out (IsS167.ge HI0.out) GE212.out GE213.out⟩⟩
 case round =>
  clear H'
  try clear c1
  try clear p2
  try clear c6
  try clear c7
  try clear c8
  try clear hcz8_0
  try clear hfz8_0
  obtain ⟨x6_1, x1001_1, x1002_1, x214000_1, u214000, rfl, HA, HK1, HO_214000, BK212, BK213, HI0, HK, HB⟩ := hrel
  cases gk with
  | zero => exact absurd HA.out (by simp [spec_l4Draw.l0])
  | succ k1 =>
   have H := HA.out
   clear HA
   simp only [spec_l4Draw.l0] at H
   by_cases c10 : x6_1 > 0
   ·rw [if_pos c10] at H
    have c10b0 : decide (0 < x6_1) = true := decide_eq_true c10
    clear c10
    replace H := Option.bind_eq_some_iff.mp H
    obtain ⟨⟨t217, t218, t219, t220, t221⟩, A110, H⟩ := H
    replace H : ((spec_l1Below.f s0_0 t220 t221 4).bind fun bt222 => ((spec_MemPut.f k1 x214000_1 t217 t218 t219 (wrap64 (1 + bt222.1))).bind fun bt225 => (spec_l4Draw.l0 k1 (wrap64 (x6_1 - 1)) s0_0 bt222.2.1 bt222.2.2 bt225.1))) = some (r1, r2, r3) := H
    have A11 := mS A110
    clear A110
    replace H := Option.bind_eq_some_iff.mp H
    obtain ⟨⟨t222, t223, t224⟩, A120, H⟩ := H
    replace H : ((spec_MemPut.f k1 x214000_1 t217 t218 t219 (wrap64 (1 + t222))).bind fun bt225 => (spec_l4Draw.l0 k1 (wrap64 (x6_1 - 1)) s0_0 t223 t224 bt225.1)) = some (r1, r2, r3) := H
    have A12 := mS A120
    clear A120
    replace H := Option.bind_eq_some_iff.mp H
    obtain ⟨⟨t225, t228⟩, A130, H⟩ := H
    replace H : (spec_l4Draw.l0 k1 (wrap64 (x6_1 - 1)) s0_0 t223 t224 t225) = some (r1, r2, r3) := H
    have A13 := mS A130
    clear A130
    have H' := mS H
    clear H
    try go_wp2
    have n0_ := mS (Kd.R_drew HO_214000.out)
    have n1_ := mS (blk_drew BK212.out)
    have n2_ := mS (blk_drew BK213.out)
    have n3_ := mS (IsS167.drew HI0.out)
    have n4_ := mS (keep_drew HK.out)
    have n5_ := mS (below_drew1 HB.out)
    clear HO_214000
    clear BK212
    clear BK213
    clear HI0
    clear HK
    clear HB
    have HO_214000 := n0_
    have BK212 := n1_
    have BK213 := n2_
    have HI0 := n3_
    have HK := n4_
    have HB := n5_
    clear n0_ n1_ n2_ n3_ n4_ n5_
    refine start_ (n := 11) (S := fun w' => w'.cell? ⟨gb213, 0, none⟩ = some (u214000)) (ds := [10]) (mb 0 11) (by kernel_rfl) rfl rfl (mZ BK213.out 0) (fun hHeld => ?_); refine with_tabW spec_l4Draw.tab5 spec_l4Draw.bits5 (fun HT_ HW_ => ?_)
    generalize wr.drew = w14 at HO_214000 BK212 BK213 HI0 HK HB hHeld ⊢
    refine pure_ (i := 1) (N := some 17) (v := ?_) (a' := ?_) #[false, true, false, false, false, false, false, false, false, false, false] rfl rfl (any_of HT_.out (by kernel_rfl)) (fun _ _ _ h => h) (Or.inl ⟨by rfl, ?_⟩) ?_ ?_
    rotate_left
    ·intro w'
     go_simp
     with_reducible rfl
    rotate_left
    ·simp only [Act.put, zA, zB, zC, i64_w, i32_w]
     rfl
    refine pure_ (i := 3) (N := some 19) (v := ?_) (a' := ?_) #[false, true, false, true, false, false, false, false, false, false, false] rfl rfl (any_of HT_.out (by kernel_rfl)) (fun _ _ _ h => h) (Or.inl ⟨by rfl, ?_⟩) ?_ ?_
    rotate_left
    ·intro w'
     go_simp
     with_reducible rfl
    rotate_left
    ·simp only [Act.put, zA, zB, zC, i64_w, i32_w]
     rfl
    refine take_ (i := 0) (N := some 16) (v := ?_) (a' := ?_) #[true, true, false, true, false, false, false, false, false, false, false] rfl rfl (take_ofW HT_.out HW_.out (by kernel_rfl)) (fun _ _ _ h => h) (Or.inl ⟨by rfl, ?_⟩) hHeld ?_ ?_
    rotate_left
    ·intro w' s0
     go_simp
     with_reducible rfl
    rotate_left
    ·simp only [Act.put, zA, zB, zC, i64_w, i32_w]
     rfl
    refine one_ (i := 2) (N := some 18) (mb 4 7) rfl rfl (one_of HT_.out (by kernel_rfl)) (by decide) (fun K hK => ?_)
    refine goes_ Try.func136 (by kernel_rfl) rfl #[.pointer (some ⟨g, 0, none⟩)] (by rfl) rfl rfl mA ?_
    with_reducible refine (spec_l4Pair.calls g s0_0 x1001_1 x1002_1 t217 t218 t219 t220 t221 w0 _ ?side1 ?side2 A11.out).mono ?_
    (case side1 => repeat (first | (with_reducible first | exact HI0.out | apply IsS167.alloc | apply IsS167.drewN | apply IsS167.drew | apply IsS167.set_1 | apply IsS167.set_2 | refine IsS167.far ?_ NB0_212.out _ | refine IsS167.far ?_ NB0_213.out _) | exact HI0.out))
    (case side2 => repeat (first | (with_reducible first | exact HB.out | apply below_alloc | apply pw_below_drewN | apply below_drew1 | refine below_set ?_ (IsS167.ge HI0.out) | refine below_set ?_ GE212.out | refine below_set ?_ GE213.out) | exact HB.out))
    rintro e w15 ⟨rfl, hi, hb, hk⟩
    refine ⟨_, rfl, ?_⟩
    have n0_ := mS (Kd.R_mono (Kd.R_keep (IsS167.apart (show IsS167 w0 _ g s0_0 x1001_1 x1002_1 from mI134_2 HI0.out NB0_212.out NB0_213.out) (mR HO_214000.out) (by decide)) hk (fun _ h => h.2)) (fun _ h => h.1))
    have n1_ := mS (KeepBut.blk hk (g' := gb212) (o := .cells #[.slice none 0 0] 26 (0, 0)) (mK BK212.out) NB212_0.out (by simp))
    have n2_ := mS (KeepBut.blk hk (g' := gb213) (o := .cells #[u214000] 26 (0, 0)) (mK BK213.out) NB213_0.out (by simp))
    have n3_ := mS (KeepBut.trans (mQ134_5 HK.out GW212.out GW213.out) hk (.inl rfl))
    have n4_ := mS (hb)
    have n5_ := mS (hi)
    clear HO_214000
    clear BK212
    clear BK213
    clear HK
    clear HB
    clear HI0
    have HO_214000 := n0_
    have BK212 := n1_
    have BK213 := n2_
    have HK := n3_
    have HB := n4_
    have HI0 := n5_
    clear n0_ n1_ n2_ n3_ n4_ n5_
    (try clear hb)
    (try clear hb2)
    (try clear hk)
    (try clear hi)
    refine hK.out _ _ (mZ BK213.out 0) (fun hHeld => ?_)
    clear hK K
    refine norm_ (a' := ?_) ?_ ?_
    rotate_left
    ·show Act.put _ (some 18) _ = _
     simp only [Act.put, zA, zB, zC, i64_w, i32_w]
     rfl
    refine one_ (i := 4) (N := some 20) (mb 5 6) rfl rfl (one_of HT_.out (by kernel_rfl)) (by decide) (fun K hK => ?_)
    refine goes_ Try.func82 (by kernel_rfl) rfl #[.pointer (some ⟨g, 0, none⟩), .int .i64 4] (by rfl) rfl rfl mA ?_
    with_reducible refine (spec_l1Below.calls g s0_0 t220 t221 4 t222 t223 t224 w0 _ ?side1 ?side2 A12.out).mono ?_
    (case side1 => repeat (first | (with_reducible first | exact HI0.out | apply IsS167.alloc | apply IsS167.drewN | apply IsS167.drew | apply IsS167.set_1 | apply IsS167.set_2 | refine IsS167.far ?_ NB0_212.out _ | refine IsS167.far ?_ NB0_213.out _) | exact HI0.out))
    (case side2 => repeat (first | (with_reducible first | exact HB.out | apply below_alloc | apply pw_below_drewN | apply below_drew1 | refine below_set ?_ (IsS167.ge HI0.out) | refine below_set ?_ GE212.out | refine below_set ?_ GE213.out) | exact HB.out))
    rintro e w16 ⟨rfl, hi, hb, hk⟩
    refine ⟨_, rfl, ?_⟩
    have n0_ := mS (Kd.R_mono (Kd.R_keep (IsS167.apart (show IsS167 w0 _ g s0_0 t220 t221 from mI134_2 HI0.out NB0_212.out NB0_213.out) (mR HO_214000.out) (by decide)) hk (fun _ h => h.2)) (fun _ h => h.1))
    have n1_ := mS (KeepBut.blk hk (g' := gb212) (o := .cells #[.slice none 0 0] 26 (0, 0)) (mK BK212.out) NB212_0.out (by simp))
    have n2_ := mS (KeepBut.blk hk (g' := gb213) (o := .cells #[u214000] 26 (0, 0)) (mK BK213.out) NB213_0.out (by simp))
    have n3_ := mS (KeepBut.trans (mQ134_5 HK.out GW212.out GW213.out) hk (.inl rfl))
    have n4_ := mS (hb)
    have n5_ := mS (hi)
    clear HO_214000
    clear BK212
    clear BK213
    clear HK
    clear HB
    clear HI0
    have HO_214000 := n0_
    have BK212 := n1_
    have BK213 := n2_
    have HK := n3_
    have HB := n4_
    have HI0 := n5_
    clear n0_ n1_ n2_ n3_ n4_ n5_
    (try clear hb)
    (try clear hb2)
    (try clear hk)
    (try clear hi)
    obtain ⟨Ao17, co17, eo17⟩ := Kd.R_slice HO_214000.out
    (first | subst eo17 | (injection eo17 with f1_ f2_ f3_; have f4_ := f1_.symm; have f5_ := f3_.symm; clear f1_ f2_ f3_; subst f4_; subst f5_))
    refine hK.out _ _ (mZ BK213.out 0) (fun hHeld => ?_)
    clear hK K
    refine norm_ (a' := ?_) ?_ ?_
    rotate_left
    ·show Act.put _ (some 20) _ = _
     simp only [Act.put, zA, zB, zC, i64_w, i32_w]
     rfl
    refine pure_ (i := 5) (N := some 21) (v := ?_) (a' := ?_) (mb 6 5) rfl rfl (any_of HT_.out (by kernel_rfl)) (fun _ _ _ h => h) (Or.inl ⟨by rfl, ?_⟩) ?_ ?_
    rotate_left
    ·intro w'
     go_simp
     with_reducible rfl
    rotate_left
    ·simp only [Act.put, zA, zB, zC, i64_w, i32_w]
     rfl
    refine one_ (i := 6) (N := some 22) (mb 7 4) rfl rfl (one_of HT_.out (by kernel_rfl)) (by decide) (fun K hK => ?_)
    refine goes_ Try.func21 (by kernel_rfl) rfl #[.agg #[.slice Ao17 x214000_1.length co17], .agg #[.string t217, .string t218, .bool t219], .int .i64 (wrap64 (1 + t222))] (by rfl) rfl rfl mA ?_
    with_reducible refine (spec_MemPut.calls k1 _ _ x214000_1 t217 t218 t219 (wrap64 (1 + t222)) t225 t228 _ ?side1 ?side2 A13.out).mono ?_
    (case side1 => repeat (first | exact (Kd.R_reads' HO_214000.out).2.2 | (with_reducible refine Kd.C_alloc ?_ _) | (with_reducible refine Kd.C_drewN ?_ _) | (with_reducible refine Kd.C_drew ?_)))
    (case side2 => exact (Kd.R_reads' HO_214000.out).2.1)
    rintro e w18 ⟨v226, rfl, ho0, hb⟩
    refine ⟨_, rfl, ?_⟩
    have n0_ := mS (Kd.R_elder' (mR HO_214000.out) (Kd.R_base ho0) hb)
    have n1_ := mS (Kd.R_lower (Kd.R_new' ho0 (Kd.R_lt (mR HO_214000.out))) (keep_size (w := w) (g := g) (row := none) (mQ134_5 HK.out GW212.out GW213.out)))
    have n2_ := mB BK212 hb
    have n3_ := mB BK213 hb
    have n4_ := mS (IsS167.below (mI134_2 HI0.out NB0_212.out NB0_213.out) hb)
    have n5_ := mS (KeepBut.trans (mQ134_5 HK.out GW212.out GW213.out) (KeepBut.of_below hb g none) (.inl rfl))
    have n6_ := mS (below_step (mH134_8 HB.out (IsS167.ge HI0.out) GE212.out GE213.out) hb)
    clear HO_214000
    clear BK212
    clear BK213
    clear HI0
    clear HK
    clear HB
    have HO_214000 := n0_
    have HO227 := n1_
    have BK212 := n2_
    have BK213 := n3_
    have HI0 := n4_
    have HK := n5_
    have HB := n6_
    clear n0_ n1_ n2_ n3_ n4_ n5_ n6_
    (try clear hb)
    (try clear hb2)
    (try clear hk)
    (try clear hi)
    (try clear ho0)
    obtain ⟨Ao19, co19, eo19⟩ := Kd.R_slice HO227.out
    (first | subst eo19 | (injection eo19 with f1_ f2_ f3_; have f4_ := f1_.symm; have f5_ := f3_.symm; clear f1_ f2_ f3_; subst f4_; subst f5_))
    refine hK.out _ _ (mZ BK213.out 0) (fun hHeld => ?_)
    clear hK K
    refine norm_ (a' := ?_) ?_ ?_
    rotate_left
    ·show Act.put _ (some 22) _ = _
     simp only [Act.put, zA, zB, zC, i64_w, i32_w]
     rfl
    refine pure_ (i := 7) (N := some 15) (v := ?_) (a' := ?_) (mb 8 3) rfl rfl (any_of HT_.out (by kernel_rfl)) (fun _ _ _ h => h) (Or.inl ⟨by rfl, ?_⟩) ?_ ?_
    rotate_left
    ·intro w'
     go_simp
     with_reducible rfl
    rotate_left
    ·simp only [Act.put, zA, zB, zC, i64_w, i32_w]
     rfl
    refine pure_ (i := 8) (N := some 23) (v := ?_) (a' := ?_) (mb 9 2) rfl rfl (any_of HT_.out (by kernel_rfl)) (fun _ _ _ h => h) (Or.inl ⟨by rfl, ?_⟩) ?_ ?_
    rotate_left
    ·intro w'
     go_simp
     with_reducible rfl
    rotate_left
    ·simp only [Act.put, zA, zB, zC, i64_w, i32_w]
     rfl
    refine pure_ (i := 9) (N := some 24) (v := ?_) (a' := ?_) (mb 10 1) rfl rfl (any_of HT_.out (by kernel_rfl)) (fun _ _ _ h => h) (Or.inl ⟨by rfl, ?_⟩) ?_ ?_
    rotate_left
    ·intro w'
     go_simp
     with_reducible rfl
    rotate_left
    ·simp only [Act.put, zA, zB, zC, i64_w, i32_w]
     rfl
    refine last_ (i := 10) (N := none) (mb 11 0) rfl rfl (one_of HT_.out (by kernel_rfl)) (by decide) (fun K hK => ?_)
    have hs20 : w18.cell? ⟨gb213, 0, none⟩ = some (.slice Ao17 x214000_1.length co17) := mZ BK213.out 0
    have hfs20 := blk_frozen BK213.out 0
    have hns20_0 := NB212_213.out
    have hms20_0 := NB213_212.out
    refine skip_ (w1 := ?_) (by rfl) rfl ?_ ?_
    rotate_left
    ·go_simp
     rfl
    refine hK.out _ _ ?_
    clear hK K
    refine done_ (done_of HT_.out (by kernel_rfl)) ?_
    try go_wp2
    go_roundg k1
    case measure => have := HK1.out; omega
    case rel => exact ⟨(wrap64 (x6_1 - 1)), (t223), (t224), (t225), (.slice Ao19 t225.length co19), (by first | rfl | (simp; done) | (simp [*]; done)), H', ⟨by have := HK1.out; omega⟩, ⟨by (with_reducible repeat (first | apply Kd.R_alloc | apply Kd.R_drewN | apply Kd.R_drew)); exact Kd.R_mono (Kd.R_far (p := ⟨gb213, 0, none⟩) (Kd.R_types HO227.out BK213.out (by decide)) (fun _ hk => hk.2) (.slice Ao19 t225.length co19)) (fun _ hk => trivial)⟩, ⟨by (with_reducible repeat (first | refine blk_drewN ?_ _ | refine blk_drew ?_ | refine blk_alloc ?_ _)); refine blk_far ?_ NB212_213.out _; (with_reducible repeat (first | refine blk_drewN ?_ _ | refine blk_drew ?_ | refine blk_alloc ?_ _)); exact BK212.out⟩, ⟨by (with_reducible repeat (first | refine blk_drewN ?_ _ | refine blk_drew ?_ | refine blk_alloc ?_ _)); refine blk_put (cs := #[.slice Ao17 x214000_1.length co17]) ?_ 0 _ rfl; (with_reducible repeat (first | refine blk_drewN ?_ _ | refine blk_drew ?_ | refine blk_alloc ?_ _)); exact BK213.out⟩, ⟨mI134_2 HI0.out NB0_212.out NB0_213.out⟩, ⟨mQ134_5 HK.out GW212.out GW213.out⟩, ⟨mH134_8 HB.out (IsS167.ge HI0.out) GE212.out GE213.out⟩⟩
   ·rw [if_neg c10] at H
    have c10b0 : decide (0 < x6_1) = false := decide_eq_false c10
    clear c10
    simp only [Option.some.injEq, Prod.mk.injEq] at H
    obtain ⟨rfl, rfl, rfl⟩ := H
    have hnb21 := NB213_212.out
    have hnc21 := NB212_213.out
    have hnb22 := NB213_0.out
    have hnc22 := NB0_213.out
    have hcz23_0 := mZ BK213.out 0
    have hfz23_0 := blk_frozen BK213.out 0
    obtain ⟨Ao24, co24, eo24⟩ := Kd.R_slice HO_214000.out
    subst eo24
    have hnb25 := NB212_0.out
    have hnc25 := NB0_212.out
    have hcz26_0 := mZ BK212.out 0
    have hfz26_0 := blk_frozen BK212.out 0
    go_wp2
    refine bodyPost_ret (results_cell_row rfl _ _ gb212 26 #[.slice Ao24 x214000_1.length co24] (0, 0) _ rfl (by (with_reducible repeat (first | refine blk_drewN ?_ _ | refine blk_drew ?_ | refine blk_alloc ?_ _)); refine blk_put (cs := #[.slice none 0 0]) ?_ 0 _ rfl; (with_reducible repeat (first | refine blk_drewN ?_ _ | refine blk_drew ?_ | refine blk_alloc ?_ _)); exact BK212.out) Try.underlying26 rfl (by kernel_rfl)) rfl ?_
    exact ⟨_, by first | rfl | (simp [errW_none, errW_some] <;> rfl) | (simp [*, errW_none, errW_some] <;> rfl), by (with_reducible repeat (first | apply Kd.R_alloc | apply Kd.R_drewN | apply Kd.R_drew)); exact Kd.R_mono (Kd.R_far (p := ⟨gb212, 0, none⟩) (Kd.R_types HO_214000.out BK212.out (by decide)) (fun _ hk => hk.2) (.slice Ao24 x214000_1.length co24)) (fun _ hk => trivial), mI134_2 HI0.out NB0_212.out NB0_213.out, mH134_8 HB.out (IsS167.ge HI0.out) GE212.out GE213.out, mQ134_5 HK.out GW212.out GW213.out⟩

/-! ### spec_l4DrawAny: function 79 -/
def spec_l4DrawAny.f (k : Nat) (s0_0 : List Int) (s0_1 : Int) (s0_2 : Int) (a1 : Int) : Option ((List (S35)) × Int × Int) := (spec_l4Draw.f k s0_0 s0_1 s0_2 a1).bind fun bt230 => ((spec_l1Below.f s0_0 bt230.2.1 bt230.2.2 12).bind fun bt236 => (if bt236.1 = 0 then ((spec_l4PairAny.f s0_0 bt236.2.1 bt236.2.2).bind fun bt239 => ((spec_l1Below.f s0_0 bt239.2.2.2.1 bt239.2.2.2.2 6).bind fun bt244 => (if bt230.1.length < 2932031007402 then (some ((bt230.1 ++ [(⟨(⟨bt239.1, bt239.2.1, bt239.2.2.1⟩ : S33), bt244.1⟩ : S35)]), bt244.2.1, bt244.2.2)) else (none)))) else (some (bt230.1, bt236.2.1, bt236.2.2))))
theorem spec_l4DrawAny.mono : ∀ a0 a1 a2 a3 k, LeO (spec_l4DrawAny.f k a0 a1 a2 a3) (spec_l4DrawAny.f (k + 1) a0 a1 a2 a3) := by
 intro a0 a1 a2 a3 k
 unfold spec_l4DrawAny.f
 repeat' first
   | (with_reducible exact spec_l4Draw.mono _ _ _ _ _)
   | (with_reducible exact LeO.refl _)
   | (with_reducible exact LeO.none _)
   | (with_reducible refine LeO.ite ?_ ?_)
   | (with_reducible refine LeO.bind ?_ (fun _ => ?_))
   | exact spec_l4Draw.mono _ _ _ _ _
   | exact LeO.none _
   | refine LeO.ite ?_ ?_
   | refine LeO.bind ?_ (fun _ => ?_)
def spec_l4DrawAny.T4 : Bool × List (List Nat × List Nat) := (true, [([], []), ([0], [0]), ([], []), ([2], [2]), ([], []), ([4, 3], [4]), ([3, 5], [3, 5]), ([6], [6]), ([1, 7, 5], [1, 7]), ([0, 1, 2, 3, 4, 5, 6, 7, 8], []), ([9, 8, 8, 0, 1, 2, 3, 4, 5, 6, 7, 8], [8, 9])])
def spec_l4DrawAny.B4 : List Nat := [0, 1, 0, 4, 0, 28, 60, 124, 255, 511, 1023]
theorem spec_l4DrawAny.tab4 : rtab .any (opsOf Try.f79 4) = spec_l4DrawAny.T4 := by kernel_rfl
theorem spec_l4DrawAny.bits4 : waitsOk spec_l4DrawAny.T4.2 spec_l4DrawAny.B4 = true := by kernel_rfl
set_option maxHeartbeats 8000000 in
set_option maxRecDepth 100000 in
theorem spec_l4DrawAny.calls (k : Nat) (g : Nat) (s0_0 : List Int) (s0_1 : Int) (s0_2 : Int) (a1 : Int) (r1 : List (S35)) (r2 : Int) (r3 : Int) (w0 w : World) (hI : IsS167 w0 w g s0_0 s0_1 s0_2) (hB : Below w0.heap.size w0 w) (h : spec_l4DrawAny.f k s0_0 s0_1 s0_2 a1 = some (r1, r2, r3)) :
  Calls Try.prog 79 #[.pointer (some ⟨g, 0, none⟩), .int .i64 a1] w fun e w' => ∃ v0_ : Value, e = .returned (.agg #[v0_]) ∧ Kd.R k35 35 w' w.heap.size (fun _ => True) v0_ r1 ∧ IsS167 w0 w' g s0_0 r2 r3 ∧ Below w0.heap.size w0 w' ∧ KeepBut w w' g none := by
 have hu26 := Try.underlying26
 have hu35 := Try.underlying35
 have HI0 := mS hI
 have HK := mS (KeepBut.refl w g none)
 have HL := mS hB.size
 clear hI
 have HW0 := mS hB.size
 have HB := mS hB
 clear hB
 have H : ((spec_l4Draw.f k s0_0 s0_1 s0_2 a1).bind fun bt230 => ((spec_l1Below.f s0_0 bt230.2.1 bt230.2.2 12).bind fun bt236 => (if bt236.1 = 0 then ((spec_l4PairAny.f s0_0 bt236.2.1 bt236.2.2).bind fun bt239 => ((spec_l1Below.f s0_0 bt239.2.2.2.1 bt239.2.2.2.2 6).bind fun bt244 => (if bt230.1.length < 2932031007402 then (some ((bt230.1 ++ [(⟨(⟨bt239.1, bt239.2.1, bt239.2.2.1⟩ : S33), bt244.1⟩ : S35)]), bt244.2.1, bt244.2.2)) else (none)))) else (some (bt230.1, bt236.2.1, bt236.2.2))))) = some (r1, r2, r3) := h
 clear h
 replace H := Option.bind_eq_some_iff.mp H
 obtain ⟨⟨t230, t233, t234⟩, A30, H⟩ := H
 replace H : ((spec_l1Below.f s0_0 t233 t234 12).bind fun bt236 => (if bt236.1 = 0 then ((spec_l4PairAny.f s0_0 bt236.2.1 bt236.2.2).bind fun bt239 => ((spec_l1Below.f s0_0 bt239.2.2.2.1 bt239.2.2.2.2 6).bind fun bt244 => (if t230.length < 2932031007402 then (some ((t230 ++ [(⟨(⟨bt239.1, bt239.2.1, bt239.2.2.1⟩ : S33), bt244.1⟩ : S35)]), bt244.2.1, bt244.2.2)) else (none)))) else (some (t230, bt236.2.1, bt236.2.2)))) = some (r1, r2, r3) := H
 have A3 := mS A30
 clear A30
 replace H := Option.bind_eq_some_iff.mp H
 obtain ⟨⟨t236, t237, t238⟩, A40, H⟩ := H
 replace H : (if t236 = 0 then ((spec_l4PairAny.f s0_0 t237 t238).bind fun bt239 => ((spec_l1Below.f s0_0 bt239.2.2.2.1 bt239.2.2.2.2 6).bind fun bt244 => (if t230.length < 2932031007402 then (some ((t230 ++ [(⟨(⟨bt239.1, bt239.2.1, bt239.2.2.1⟩ : S33), bt244.1⟩ : S35)]), bt244.2.1, bt244.2.2)) else (none)))) else (some (t230, t237, t238))) = some (r1, r2, r3) := H
 have A4 := mS A40
 clear A40
 by_cases c5 : t236 = 0
 ·rw [if_pos c5] at H
  have c5b0 : (t236 == 0) = true := beq_iff_eq.mpr c5
  have c5b1 : (t236 != 0) = false := bne_eq_false_iff_eq.mpr c5
  clear c5
  replace H := Option.bind_eq_some_iff.mp H
  obtain ⟨⟨t239, t240, t241, t242, t243⟩, A60, H⟩ := H
  replace H : ((spec_l1Below.f s0_0 t242 t243 6).bind fun bt244 => (if t230.length < 2932031007402 then (some ((t230 ++ [(⟨(⟨t239, t240, t241⟩ : S33), bt244.1⟩ : S35)]), bt244.2.1, bt244.2.2)) else (none))) = some (r1, r2, r3) := H
  have A6 := mS A60
  clear A60
  replace H := Option.bind_eq_some_iff.mp H
  obtain ⟨⟨t244, t245, t246⟩, A70, H⟩ := H
  replace H : (if t230.length < 2932031007402 then (some ((t230 ++ [(⟨(⟨t239, t240, t241⟩ : S33), t244⟩ : S35)]), t245, t246)) else (none)) = some (r1, r2, r3) := H
  have A7 := mS A70
  clear A70
  by_cases c8 : t230.length < 2932031007402
  ·rw [if_pos c8] at H
   have LMc8 := mS c8
   clear c8
   obtain ⟨y247, hy247⟩ : ∃ y_ : List (S35), y_ = (t230 ++ [(⟨(⟨t239, t240, t241⟩ : S33), t244⟩ : S35)]) := ⟨_, rfl⟩
   replace H : (some (y247, t245, t246)) = some (r1, r2, r3) := by first | (rw [hy247]; with_reducible exact H) | (have H2_ := (Option.bind_some _ _).symm.trans H; rw [hy247]; with_reducible exact H2_) | (have H2_ := (Option.bind_some _ _).symm.trans H; with_reducible exact H2_) | with_reducible exact H | (rw [hy247]; exact H) | exact H
   have Ny247 := mS hy247
   clear hy247
   simp only [Option.some.injEq, Prod.mk.injEq] at H
   obtain ⟨rfl, rfl, rfl⟩ := H
   go_enter Try.func79, Try.ntmps79
   try go_wp2_with (first | ((with_reducible refine gate_dst (N := 4) rfl ?_); refine box_event ?hg (N := 4) ?hd (cs := #[.slice none 0 0]) (t := 26) ?hr ?_; (case hd => rfl); (case hg => rfl); (case hr => first | (go_simp; done) | (go_simp; rfl)); intro gb229 hg w9 hbox hb; replace HB := mS (below_step (mH134_6 HB.out (IsS167.ge HI0.out)) hb); have BK229 := mS (hbox); have GW229 := mS ((by rw [hg]; exact (keep_size (w := w) (g := g) (row := none) (mQ134_3 HK.out)) : w.heap.size ≤ gb229)); have GE229 := mS ((Nat.le_trans HW0.out (by rw [hg]; exact (keep_size (w := w) (g := g) (row := none) (mQ134_3 HK.out)) : w.heap.size ≤ gb229) : w0.heap.size ≤ gb229)); replace HK := mS (KeepBut.trans (mQ134_3 HK.out) (KeepBut.of_below hb g none) (.inl rfl)); have NB0_229 := mS ((by rw [hg]; exact Nat.ne_of_lt (IsS167.lt (show IsS167 w0 _ g s0_0 s0_1 s0_2 from mI134_0 HI0.out)) : g ≠ gb229)); have NB229_0 := mS ((by rw [hg]; exact Nat.ne_of_gt (IsS167.lt (show IsS167 w0 _ g s0_0 s0_1 s0_2 from mI134_0 HI0.out)) : gb229 ≠ g)); replace HI0 := mS (IsS167.below (mI134_0 HI0.out) hb); clear hb hbox hg) | ((with_reducible refine gate_callee (f := 134) rfl ?_); refine goesL_ (some 8) rfl rfl Try.func134 (by kernel_rfl) rfl #[.pointer (some ⟨g, 0, none⟩), .int .i64 a1] rfl mA ?_; (with_reducible refine (spec_l4Draw.calls k g s0_0 s0_1 s0_2 a1 t230 t233 t234 w0 _ ?side1 ?side2 A3.out).mono ?_); (case side1 => repeat (first | (with_reducible first | exact HI0.out | apply IsS167.alloc | apply IsS167.drewN | apply IsS167.drew | apply IsS167.set_1 | apply IsS167.set_2 | refine IsS167.far ?_ NB0_229.out _) | exact HI0.out)); (case side2 => repeat (first | (with_reducible first | exact HB.out | apply below_alloc | apply pw_below_drewN | apply below_drew1 | refine below_set ?_ (IsS167.ge HI0.out) | refine below_set ?_ GE229.out) | exact HB.out)); rintro e w10 ⟨v231, rfl, ho0, hi, hb, hk⟩; refine ⟨_, rfl, ?_⟩; replace BK229 := mS (KeepBut.blk hk (g' := gb229) (o := .cells #[.slice none 0 0] 26 (0, 0)) (mK BK229.out) NB229_0.out (by simp)); have HO232 := mS (Kd.R_lower ho0 (keep_size (w := w) (g := g) (row := none) (mQ134_4 HK.out GW229.out))); replace HK := mS (KeepBut.trans (mQ134_4 HK.out GW229.out) hk (.inl rfl)); replace HB := mS (hb); replace HI0 := mS (hi); (try clear hb); (try clear hb2); (try clear hk); (try clear hi); (try clear ho0)) | ((with_reducible refine gate_dst (N := 5) rfl ?_); refine box_event ?hg (N := 5) ?hd (cs := #[.slice none 0 0]) (t := 26) ?hr ?_; (case hd => rfl); (case hg => rfl); (case hr => first | (go_simp; done) | (go_simp; rfl)); intro gb235 hg w11 hbox hb; replace HO232 := mS (Kd.R_below (mR HO232.out) hb); replace HB := mS (below_step (mH134_7 HB.out (IsS167.ge HI0.out) GE229.out) hb); have BK235 := mS (hbox); have GW235 := mS ((by rw [hg]; exact (keep_size (w := w) (g := g) (row := none) (mQ134_4 HK.out GW229.out)) : w.heap.size ≤ gb235)); have GE235 := mS ((Nat.le_trans HW0.out (by rw [hg]; exact (keep_size (w := w) (g := g) (row := none) (mQ134_4 HK.out GW229.out)) : w.heap.size ≤ gb235) : w0.heap.size ≤ gb235)); replace HK := mS (KeepBut.trans (mQ134_4 HK.out GW229.out) (KeepBut.of_below hb g none) (.inl rfl)); have NB229_235 := mNl hg BK229.out; have NB235_229 := mNg hg BK229.out; replace BK229 := mB BK229 hb; have NB0_235 := mS ((by rw [hg]; exact Nat.ne_of_lt (IsS167.lt (show IsS167 w0 _ g s0_0 t233 t234 from mI134_1 HI0.out NB0_229.out)) : g ≠ gb235)); have NB235_0 := mS ((by rw [hg]; exact Nat.ne_of_gt (IsS167.lt (show IsS167 w0 _ g s0_0 t233 t234 from mI134_1 HI0.out NB0_229.out)) : gb235 ≠ g)); replace HI0 := mS (IsS167.below (mI134_1 HI0.out NB0_229.out) hb); clear hb hbox hg; obtain ⟨Ao12, co12, eo12⟩ := Kd.R_slice HO232.out; subst eo12; have hnb13 := NB235_229.out; have hnc13 := NB229_235.out; have hnb14 := NB235_0.out; have hnc14 := NB0_235.out; have hcz15_0 := mZ BK235.out 0; have hfz15_0 := blk_frozen BK235.out 0) | ((with_reducible refine gate_callee (f := 82) rfl ?_); refine goesL_ (some 10) rfl rfl Try.func82 (by kernel_rfl) rfl #[.pointer (some ⟨g, 0, none⟩), .int .i64 12] rfl mA ?_; (with_reducible refine (spec_l1Below.calls g s0_0 t233 t234 12 t236 t237 t238 w0 _ ?side1 ?side2 A4.out).mono ?_); (case side1 => repeat (first | (with_reducible first | exact HI0.out | apply IsS167.alloc | apply IsS167.drewN | apply IsS167.drew | apply IsS167.set_1 | apply IsS167.set_2 | refine IsS167.far ?_ NB0_229.out _ | refine IsS167.far ?_ NB0_235.out _) | exact HI0.out)); (case side2 => repeat (first | (with_reducible first | exact HB.out | apply below_alloc | apply pw_below_drewN | apply below_drew1 | refine below_set ?_ (IsS167.ge HI0.out) | refine below_set ?_ GE229.out | refine below_set ?_ GE235.out) | exact HB.out)); rintro e w16 ⟨rfl, hi, hb, hk⟩; refine ⟨_, rfl, ?_⟩; replace BK229 := mS (KeepBut.blk hk (g' := gb229) (o := .cells #[.slice none 0 0] 26 (0, 0)) (by (with_reducible repeat (first | refine blk_drewN ?_ _ | refine blk_drew ?_ | refine blk_alloc ?_ _)); refine blk_far ?_ NB229_235.out _; (with_reducible repeat (first | refine blk_drewN ?_ _ | refine blk_drew ?_ | refine blk_alloc ?_ _)); exact BK229.out) NB229_0.out (by simp)); replace HO232 := mS (Kd.R_mono (Kd.R_keep (IsS167.apart (show IsS167 w0 _ g s0_0 t233 t234 from mI134_2 HI0.out NB0_229.out NB0_235.out) (by (with_reducible repeat (first | apply Kd.R_alloc | apply Kd.R_drewN | apply Kd.R_drew)); exact (Kd.R_mono (Kd.R_far (p := ⟨gb235, 0, none⟩) (Kd.R_types HO232.out BK235.out (by decide)) (fun _ hk => hk.2) (.slice Ao12 t230.length co12)) (fun _ h_ => h_.1))) (by decide)) hk (fun _ h => h.2)) (fun _ h => h.1)); replace BK235 := mS (KeepBut.blk hk (g' := gb235) (o := .cells #[.slice Ao12 t230.length co12] 26 (0, 0)) (by (with_reducible repeat (first | refine blk_drewN ?_ _ | refine blk_drew ?_ | refine blk_alloc ?_ _)); refine blk_put (cs := #[.slice none 0 0]) ?_ 0 _ rfl; (with_reducible repeat (first | refine blk_drewN ?_ _ | refine blk_drew ?_ | refine blk_alloc ?_ _)); exact BK235.out) NB235_0.out (by simp)); replace HK := mS (KeepBut.trans (mQ134_5 HK.out GW229.out GW235.out) hk (.inl rfl)); replace HB := mS (hb); replace HI0 := mS (hi); (try clear hb); (try clear hb2); (try clear hk); (try clear hi)))
   have n0_ := mS (Kd.R_drew HO232.out)
   have n1_ := mS (blk_drew BK229.out)
   have n2_ := mS (blk_drew BK235.out)
   have n3_ := mS (IsS167.drew HI0.out)
   have n4_ := mS (keep_drew HK.out)
   have n5_ := mS (below_drew1 HB.out)
   clear HO232
   clear BK229
   clear BK235
   clear HI0
   clear HK
   clear HB
   have HO232 := n0_
   have BK229 := n1_
   have BK235 := n2_
   have HI0 := n3_
   have HK := n4_
   have HB := n5_
   clear n0_ n1_ n2_ n3_ n4_ n5_
   refine start_ (n := 11) (S := fun w' => w'.cell? ⟨gb235, 0, none⟩ = some (.slice Ao12 t230.length co12)) (ds := [10]) (mb 0 11) (by kernel_rfl) rfl rfl (mZ BK235.out 0) (fun hHeld => ?_); refine with_tabW spec_l4DrawAny.tab4 spec_l4DrawAny.bits4 (fun HT_ HW_ => ?_)
   generalize w16.drew = w17 at HO232 BK229 BK235 HI0 HK HB hHeld ⊢
   refine pure_ (i := 0) (N := some 13) (v := ?_) (a' := ?_) (mb 1 10) rfl rfl (any_of HT_.out (by kernel_rfl)) (fun _ _ _ h => h) (Or.inl ⟨by rfl, ?_⟩) ?_ ?_
   rotate_left
   ·intro w'
    go_simp
    with_reducible rfl
   rotate_left
   ·simp only [Act.put, zA, zB, zC, i64_w, i32_w]
    rfl
   refine pure_ (i := 2) (N := some 15) (v := ?_) (a' := ?_) #[true, false, true, false, false, false, false, false, false, false, false] rfl rfl (any_of HT_.out (by kernel_rfl)) (fun _ _ _ h => h) (Or.inl ⟨by rfl, ?_⟩) ?_ ?_
   rotate_left
   ·intro w'
    go_simp
    with_reducible rfl
   rotate_left
   ·simp only [Act.put, zA, zB, zC, i64_w, i32_w]
    rfl
   refine pure_ (i := 4) (N := some 17) (v := ?_) (a' := ?_) #[true, false, true, false, true, false, false, false, false, false, false] rfl rfl (any_of HT_.out (by kernel_rfl)) (fun _ _ _ h => h) (Or.inl ⟨by rfl, ?_⟩) ?_ ?_
   rotate_left
   ·intro w'
    go_simp
    with_reducible rfl
   rotate_left
   ·simp only [Act.put, zA, zB, zC, i64_w, i32_w]
    rfl
   refine take_ (i := 1) (N := some 14) (v := ?_) (a' := ?_) #[true, true, true, false, true, false, false, false, false, false, false] rfl rfl (take_ofW HT_.out HW_.out (by kernel_rfl)) (fun _ _ _ h => h) (Or.inl ⟨by rfl, ?_⟩) hHeld ?_ ?_
   rotate_left
   ·intro w' s0
    go_simp
    with_reducible rfl
   rotate_left
   ·simp only [Act.put, zA, zB, zC, i64_w, i32_w]
    rfl
   refine one_ (i := 3) (N := some 16) (mb 5 6) rfl rfl (one_of HT_.out (by kernel_rfl)) (by decide) (fun K hK => ?_)
   refine goes_ Try.func83 (by kernel_rfl) rfl #[.pointer (some ⟨g, 0, none⟩)] (by rfl) rfl rfl mA ?_
   with_reducible refine (spec_l4PairAny.calls g s0_0 t237 t238 t239 t240 t241 t242 t243 w0 _ ?side1 ?side2 A6.out).mono ?_
   (case side1 => repeat (first | (with_reducible first | exact HI0.out | apply IsS167.alloc | apply IsS167.drewN | apply IsS167.drew | apply IsS167.set_1 | apply IsS167.set_2 | refine IsS167.far ?_ NB0_229.out _ | refine IsS167.far ?_ NB0_235.out _) | exact HI0.out))
   (case side2 => repeat (first | (with_reducible first | exact HB.out | apply below_alloc | apply pw_below_drewN | apply below_drew1 | refine below_set ?_ (IsS167.ge HI0.out) | refine below_set ?_ GE229.out | refine below_set ?_ GE235.out) | exact HB.out))
   rintro e w18 ⟨rfl, hi, hb, hk⟩
   refine ⟨_, rfl, ?_⟩
   have n0_ := mS (KeepBut.blk hk (g' := gb229) (o := .cells #[.slice none 0 0] 26 (0, 0)) (mK BK229.out) NB229_0.out (by simp))
   have n1_ := mS (Kd.R_mono (Kd.R_keep (IsS167.apart (show IsS167 w0 _ g s0_0 t237 t238 from mI134_2 HI0.out NB0_229.out NB0_235.out) (mR HO232.out) (by decide)) hk (fun _ h => h.2)) (fun _ h => h.1))
   have n2_ := mS (KeepBut.blk hk (g' := gb235) (o := .cells #[.slice Ao12 t230.length co12] 26 (0, 0)) (mK BK235.out) NB235_0.out (by simp))
   have n3_ := mS (KeepBut.trans (mQ134_5 HK.out GW229.out GW235.out) hk (.inl rfl))
   have n4_ := mS (hb)
   have n5_ := mS (hi)
   clear BK229
   clear HO232
   clear BK235
   clear HK
   clear HB
   clear HI0
   have BK229 := n0_
   have HO232 := n1_
   have BK235 := n2_
   have HK := n3_
   have HB := n4_
   have HI0 := n5_
   clear n0_ n1_ n2_ n3_ n4_ n5_
   (try clear hb)
   (try clear hb2)
   (try clear hk)
   (try clear hi)
   refine hK.out _ _ (mZ BK235.out 0) (fun hHeld => ?_)
   clear hK K
   refine norm_ (a' := ?_) ?_ ?_
   rotate_left
   ·show Act.put _ (some 16) _ = _
    simp only [Act.put, zA, zB, zC, i64_w, i32_w]
    rfl
   refine one_ (i := 5) (N := some 18) (mb 6 5) rfl rfl (one_of HT_.out (by kernel_rfl)) (by decide) (fun K hK => ?_)
   refine goes_ Try.func82 (by kernel_rfl) rfl #[.pointer (some ⟨g, 0, none⟩), .int .i64 6] (by rfl) rfl rfl mA ?_
   with_reducible refine (spec_l1Below.calls g s0_0 t242 t243 6 t244 t245 t246 w0 _ ?side1 ?side2 A7.out).mono ?_
   (case side1 => repeat (first | (with_reducible first | exact HI0.out | apply IsS167.alloc | apply IsS167.drewN | apply IsS167.drew | apply IsS167.set_1 | apply IsS167.set_2 | refine IsS167.far ?_ NB0_229.out _ | refine IsS167.far ?_ NB0_235.out _) | exact HI0.out))
   (case side2 => repeat (first | (with_reducible first | exact HB.out | apply below_alloc | apply pw_below_drewN | apply below_drew1 | refine below_set ?_ (IsS167.ge HI0.out) | refine below_set ?_ GE229.out | refine below_set ?_ GE235.out) | exact HB.out))
   rintro e w19 ⟨rfl, hi, hb, hk⟩
   refine ⟨_, rfl, ?_⟩
   have n0_ := mS (KeepBut.blk hk (g' := gb229) (o := .cells #[.slice none 0 0] 26 (0, 0)) (mK BK229.out) NB229_0.out (by simp))
   have n1_ := mS (Kd.R_mono (Kd.R_keep (IsS167.apart (show IsS167 w0 _ g s0_0 t242 t243 from mI134_2 HI0.out NB0_229.out NB0_235.out) (mR HO232.out) (by decide)) hk (fun _ h => h.2)) (fun _ h => h.1))
   have n2_ := mS (KeepBut.blk hk (g' := gb235) (o := .cells #[.slice Ao12 t230.length co12] 26 (0, 0)) (mK BK235.out) NB235_0.out (by simp))
   have n3_ := mS (KeepBut.trans (mQ134_5 HK.out GW229.out GW235.out) hk (.inl rfl))
   have n4_ := mS (hb)
   have n5_ := mS (hi)
   clear BK229
   clear HO232
   clear BK235
   clear HK
   clear HB
   clear HI0
   have BK229 := n0_
   have HO232 := n1_
   have BK235 := n2_
   have HK := n3_
   have HB := n4_
   have HI0 := n5_
   clear n0_ n1_ n2_ n3_ n4_ n5_
   (try clear hb)
   (try clear hb2)
   (try clear hk)
   (try clear hi)
   refine hK.out _ _ (mZ BK235.out 0) (fun hHeld => ?_)
   clear hK K
   refine norm_ (a' := ?_) ?_ ?_
   rotate_left
   ·show Act.put _ (some 18) _ = _
    simp only [Act.put, zA, zB, zC, i64_w, i32_w]
    rfl
   refine pure_ (i := 6) (N := some 19) (v := ?_) (a' := ?_) (mb 7 4) rfl rfl (any_of HT_.out (by kernel_rfl)) (fun _ _ _ h => h) (Or.inl ⟨by rfl, ?_⟩) ?_ ?_
   rotate_left
   ·intro w'
    go_simp
    with_reducible rfl
   rotate_left
   ·simp only [Act.put, zA, zB, zC, i64_w, i32_w]
    rfl
   refine one_ (i := 7) (N := some 20) (mb 8 3) rfl rfl (one_of HT_.out (by kernel_rfl)) (by decide) (fun K hK => ?_)
   refine value_ (w1 := ?_) (v := ?_) (by rfl) rfl ?_ ?_
   rotate_left 2
   ·go_simp
    constructor
    ·rfl
    ·rfl
   refine hK.out _ _ ((blk_cell (blk_alloc BK235.out _) 0).trans rfl) (fun hHeld => ?_)
   clear hK K
   refine norm_ (a' := ?_) ?_ ?_
   rotate_left
   ·show Act.put _ (some 20) _ = _
    simp only [Act.put, zA, zB, zC, i64_w, i32_w]
    rfl
   refine one_ (i := 8) (N := some 21) (mb 9 2) rfl rfl (one_of HT_.out (by kernel_rfl)) (by decide) (fun K hK => ?_)
   refine Kd.R_append_step k35 w.heap.size (by rfl) (.tmp 14) (.tmp 20) 24 35 (.agg #[(.string ⟨#[]⟩), (.string ⟨#[]⟩), (.bool false), (.int .i64 0)]) 48 rfl Try.underlying24 info35 rfl (by decide) (by omega) (.slice Ao12 t230.length co12) t230 (⟨(⟨t239, t240, t241⟩ : S33), t244⟩ : S35) [.string t239, .string t240, .bool t241, .int .i64 t244] (fun _ => True) (fun _ => False) rfl rfl ?aP (fun _ hk => hk.elim) ?aF ?aO (Below.refl _ _) ?aS ?aL ?_
   (case aP => exact k35_mkM _ _ _ (⟨(⟨t239, t240, t241⟩ : S33), t244⟩ : S35))
   (case aF => exact (fun _ _ => trivial))
   (case aO => exact (mR HO232.out))
   (case aS => exact (keep_size (w := w) (g := g) (row := none) (mQ134_5 HK.out GW229.out GW235.out)))
   (case aL => have := LMc8.out; omega)
   intro v248 w20 ho hb hg hat
   rw [← Ny247.out] at ho
   have n0_ := mS (IsS167.grown (mI134_2 HI0.out NB0_229.out NB0_235.out) hg (IsS167.own_ne HI0.out HO232.out (by decide)))
   have n1_ := mS (blk_grown (g := gb229) (o := .cells #[.slice none 0 0] 26 (0, 0)) (mK BK229.out) hg (Kd.R_ne HO232.out BK229.out (by decide)))
   have n2_ := mS (blk_grown (g := gb235) (o := .cells #[.slice Ao12 t230.length co12] 26 (0, 0)) (mK BK235.out) hg (Kd.R_ne HO232.out BK235.out (by decide)))
   have n3_ := mS (below_weaken (mH134_8 HB.out (IsS167.ge HI0.out) GE229.out GE235.out) HL.out hb)
   have n4_ := mS (KeepBut.trans (mQ134_5 HK.out GW229.out GW235.out) (KeepBut.of_grown hg g) (Kd.R_base2 HO232.out))
   have n5_ := mS (ho)
   clear HI0
   clear BK229
   clear BK235
   clear HB
   clear HK
   clear HO232
   have HI0 := n0_
   have BK229 := n1_
   have BK235 := n2_
   have HB := n3_
   have HK := n4_
   have HO249 := n5_
   clear n0_ n1_ n2_ n3_ n4_ n5_
   clear ho hb hg hat
   obtain ⟨Ao21, co21, eo21⟩ := Kd.R_slice HO249.out
   (first | subst eo21 | (injection eo21 with f1_ f2_ f3_; have f4_ := f1_.symm; have f5_ := f3_.symm; clear f1_ f2_ f3_; subst f4_; subst f5_))
   refine hK.out _ _ (mZ BK235.out 0) (fun hHeld => ?_)
   clear hK K
   refine norm_ (a' := ?_) ?_ ?_
   rotate_left
   ·show Act.put _ (some 21) _ = _
    simp only [Act.put, zA, zB, zC, i64_w, i32_w]
    rfl
   refine pure_ (i := 9) (N := some 22) (v := ?_) (a' := ?_) (mb 10 1) rfl rfl (any_of HT_.out (by kernel_rfl)) (fun _ _ _ h => h) (Or.inl ⟨by rfl, ?_⟩) ?_ ?_
   rotate_left
   ·intro w'
    go_simp
    with_reducible rfl
   rotate_left
   ·simp only [Act.put, zA, zB, zC, i64_w, i32_w]
    rfl
   refine last_ (i := 10) (N := none) (mb 11 0) rfl rfl (one_of HT_.out (by kernel_rfl)) (by decide) (fun K hK => ?_)
   have hs22 : w20.cell? ⟨gb235, 0, none⟩ = some (.slice Ao12 t230.length co12) := mZ BK235.out 0
   have hfs22 := blk_frozen BK235.out 0
   have hns22_0 := NB229_235.out
   have hms22_0 := NB235_229.out
   refine skip_ (w1 := ?_) (by rfl) rfl ?_ ?_
   rotate_left
   ·go_simp
    rfl
   refine hK.out _ _ ?_
   clear hK K
   refine done_ (done_of HT_.out (by kernel_rfl)) ?_
   have hcz23_0 := mZ BK235.out 0
   have hfz23_0 := blk_frozen BK235.out 0
   have hnb24 := NB229_0.out
   have hnc24 := NB0_229.out
   have hcz25_0 := mZ BK229.out 0
   have hfz25_0 := blk_frozen BK229.out 0
   try go_wp2
   refine bodyPost_ret (results_cell_row rfl _ _ gb229 26 #[.slice Ao21 y247.length co21] (0, 0) _ rfl (by (with_reducible repeat (first | refine blk_drewN ?_ _ | refine blk_drew ?_ | refine blk_alloc ?_ _)); refine blk_put (cs := #[.slice none 0 0]) ?_ 0 _ rfl; (with_reducible repeat (first | refine blk_drewN ?_ _ | refine blk_drew ?_ | refine blk_alloc ?_ _)); refine blk_far ?_ NB229_235.out _; (with_reducible repeat (first | refine blk_drewN ?_ _ | refine blk_drew ?_ | refine blk_alloc ?_ _)); exact BK229.out) Try.underlying26 rfl (by kernel_rfl)) rfl ?_
   exact ⟨_, by first | rfl | (simp [errW_none, errW_some] <;> rfl) | (simp [*, errW_none, errW_some] <;> rfl), by (with_reducible repeat (first | apply Kd.R_alloc | apply Kd.R_drewN | apply Kd.R_drew)); exact Kd.R_mono (Kd.R_far (p := ⟨gb229, 0, none⟩) (Kd.R_far (p := ⟨gb235, 0, none⟩) (Kd.R_types (Kd.R_types HO249.out BK235.out (by decide)) BK229.out (by decide)) (fun _ hk => hk.1.2) (.slice Ao21 y247.length co21)) (fun _ hk => hk.2) (.slice Ao21 y247.length co21)) (fun _ hk => trivial), mI134_2 HI0.out NB0_229.out NB0_235.out, mH134_8 HB.out (IsS167.ge HI0.out) GE229.out GE235.out, mQ134_5 HK.out GW229.out GW235.out⟩
  ·rw [if_neg c8] at H
   exact absurd H (by simp)
 ·rw [if_neg c5] at H
  have c5b0 : (t236 == 0) = false := beq_eq_false_iff_ne.mpr c5
  have c5b1 : (t236 != 0) = true := bne_iff_ne.mpr c5
  simp only [Option.some.injEq, Prod.mk.injEq] at H
  obtain ⟨rfl, rfl, rfl⟩ := H
  go_enter Try.func79, Try.ntmps79
  go_wp2_with (first | ((with_reducible refine gate_dst (N := 4) rfl ?_); refine box_event ?hg (N := 4) ?hd (cs := #[.slice none 0 0]) (t := 26) ?hr ?_; (case hd => rfl); (case hg => rfl); (case hr => first | (go_simp; done) | (go_simp; rfl)); intro gb229 hg w26 hbox hb; replace HB := mS (below_step (mH134_6 HB.out (IsS167.ge HI0.out)) hb); have BK229 := mS (hbox); have GW229 := mS ((by rw [hg]; exact (keep_size (w := w) (g := g) (row := none) (mQ134_3 HK.out)) : w.heap.size ≤ gb229)); have GE229 := mS ((Nat.le_trans HW0.out (by rw [hg]; exact (keep_size (w := w) (g := g) (row := none) (mQ134_3 HK.out)) : w.heap.size ≤ gb229) : w0.heap.size ≤ gb229)); replace HK := mS (KeepBut.trans (mQ134_3 HK.out) (KeepBut.of_below hb g none) (.inl rfl)); have NB0_229 := mS ((by rw [hg]; exact Nat.ne_of_lt (IsS167.lt (show IsS167 w0 _ g s0_0 s0_1 s0_2 from mI134_0 HI0.out)) : g ≠ gb229)); have NB229_0 := mS ((by rw [hg]; exact Nat.ne_of_gt (IsS167.lt (show IsS167 w0 _ g s0_0 s0_1 s0_2 from mI134_0 HI0.out)) : gb229 ≠ g)); replace HI0 := mS (IsS167.below (mI134_0 HI0.out) hb); clear hb hbox hg) | ((with_reducible refine gate_callee (f := 134) rfl ?_); refine goesL_ (some 8) rfl rfl Try.func134 (by kernel_rfl) rfl #[.pointer (some ⟨g, 0, none⟩), .int .i64 a1] rfl mA ?_; (with_reducible refine (spec_l4Draw.calls k g s0_0 s0_1 s0_2 a1 t230 t233 t234 w0 _ ?side1 ?side2 A3.out).mono ?_); (case side1 => repeat (first | (with_reducible first | exact HI0.out | apply IsS167.alloc | apply IsS167.drewN | apply IsS167.drew | apply IsS167.set_1 | apply IsS167.set_2 | refine IsS167.far ?_ NB0_229.out _) | exact HI0.out)); (case side2 => repeat (first | (with_reducible first | exact HB.out | apply below_alloc | apply pw_below_drewN | apply below_drew1 | refine below_set ?_ (IsS167.ge HI0.out) | refine below_set ?_ GE229.out) | exact HB.out)); rintro e w27 ⟨v231, rfl, ho0, hi, hb, hk⟩; refine ⟨_, rfl, ?_⟩; replace BK229 := mS (KeepBut.blk hk (g' := gb229) (o := .cells #[.slice none 0 0] 26 (0, 0)) (mK BK229.out) NB229_0.out (by simp)); have HO232 := mS (Kd.R_lower ho0 (keep_size (w := w) (g := g) (row := none) (mQ134_4 HK.out GW229.out))); replace HK := mS (KeepBut.trans (mQ134_4 HK.out GW229.out) hk (.inl rfl)); replace HB := mS (hb); replace HI0 := mS (hi); (try clear hb); (try clear hb2); (try clear hk); (try clear hi); (try clear ho0)) | ((with_reducible refine gate_dst (N := 5) rfl ?_); refine box_event ?hg (N := 5) ?hd (cs := #[.slice none 0 0]) (t := 26) ?hr ?_; (case hd => rfl); (case hg => rfl); (case hr => first | (go_simp; done) | (go_simp; rfl)); intro gb235 hg w28 hbox hb; replace HO232 := mS (Kd.R_below (mR HO232.out) hb); replace HB := mS (below_step (mH134_7 HB.out (IsS167.ge HI0.out) GE229.out) hb); have BK235 := mS (hbox); have GW235 := mS ((by rw [hg]; exact (keep_size (w := w) (g := g) (row := none) (mQ134_4 HK.out GW229.out)) : w.heap.size ≤ gb235)); have GE235 := mS ((Nat.le_trans HW0.out (by rw [hg]; exact (keep_size (w := w) (g := g) (row := none) (mQ134_4 HK.out GW229.out)) : w.heap.size ≤ gb235) : w0.heap.size ≤ gb235)); replace HK := mS (KeepBut.trans (mQ134_4 HK.out GW229.out) (KeepBut.of_below hb g none) (.inl rfl)); have NB229_235 := mNl hg BK229.out; have NB235_229 := mNg hg BK229.out; replace BK229 := mB BK229 hb; have NB0_235 := mS ((by rw [hg]; exact Nat.ne_of_lt (IsS167.lt (show IsS167 w0 _ g s0_0 t233 t234 from mI134_1 HI0.out NB0_229.out)) : g ≠ gb235)); have NB235_0 := mS ((by rw [hg]; exact Nat.ne_of_gt (IsS167.lt (show IsS167 w0 _ g s0_0 t233 t234 from mI134_1 HI0.out NB0_229.out)) : gb235 ≠ g)); replace HI0 := mS (IsS167.below (mI134_1 HI0.out NB0_229.out) hb); clear hb hbox hg; obtain ⟨Ao29, co29, eo29⟩ := Kd.R_slice HO232.out; subst eo29; have hnb30 := NB235_229.out; have hnc30 := NB229_235.out; have hnb31 := NB235_0.out; have hnc31 := NB0_235.out; have hcz32_0 := mZ BK235.out 0; have hfz32_0 := blk_frozen BK235.out 0) | ((with_reducible refine gate_callee (f := 82) rfl ?_); refine goesL_ (some 10) rfl rfl Try.func82 (by kernel_rfl) rfl #[.pointer (some ⟨g, 0, none⟩), .int .i64 12] rfl mA ?_; (with_reducible refine (spec_l1Below.calls g s0_0 t233 t234 12 t236 t237 t238 w0 _ ?side1 ?side2 A4.out).mono ?_); (case side1 => repeat (first | (with_reducible first | exact HI0.out | apply IsS167.alloc | apply IsS167.drewN | apply IsS167.drew | apply IsS167.set_1 | apply IsS167.set_2 | refine IsS167.far ?_ NB0_229.out _ | refine IsS167.far ?_ NB0_235.out _) | exact HI0.out)); (case side2 => repeat (first | (with_reducible first | exact HB.out | apply below_alloc | apply pw_below_drewN | apply below_drew1 | refine below_set ?_ (IsS167.ge HI0.out) | refine below_set ?_ GE229.out | refine below_set ?_ GE235.out) | exact HB.out)); rintro e w33 ⟨rfl, hi, hb, hk⟩; refine ⟨_, rfl, ?_⟩; replace BK229 := mS (KeepBut.blk hk (g' := gb229) (o := .cells #[.slice none 0 0] 26 (0, 0)) (by (with_reducible repeat (first | refine blk_drewN ?_ _ | refine blk_drew ?_ | refine blk_alloc ?_ _)); refine blk_far ?_ NB229_235.out _; (with_reducible repeat (first | refine blk_drewN ?_ _ | refine blk_drew ?_ | refine blk_alloc ?_ _)); exact BK229.out) NB229_0.out (by simp)); replace HO232 := mS (Kd.R_mono (Kd.R_keep (IsS167.apart (show IsS167 w0 _ g s0_0 t233 t234 from mI134_2 HI0.out NB0_229.out NB0_235.out) (by (with_reducible repeat (first | apply Kd.R_alloc | apply Kd.R_drewN | apply Kd.R_drew)); exact (Kd.R_mono (Kd.R_far (p := ⟨gb235, 0, none⟩) (Kd.R_types HO232.out BK235.out (by decide)) (fun _ hk => hk.2) (.slice Ao29 t230.length co29)) (fun _ h_ => h_.1))) (by decide)) hk (fun _ h => h.2)) (fun _ h => h.1)); replace BK235 := mS (KeepBut.blk hk (g' := gb235) (o := .cells #[.slice Ao29 t230.length co29] 26 (0, 0)) (by (with_reducible repeat (first | refine blk_drewN ?_ _ | refine blk_drew ?_ | refine blk_alloc ?_ _)); refine blk_put (cs := #[.slice none 0 0]) ?_ 0 _ rfl; (with_reducible repeat (first | refine blk_drewN ?_ _ | refine blk_drew ?_ | refine blk_alloc ?_ _)); exact BK235.out) NB235_0.out (by simp)); replace HK := mS (KeepBut.trans (mQ134_5 HK.out GW229.out GW235.out) hk (.inl rfl)); replace HB := mS (hb); replace HI0 := mS (hi); (try clear hb); (try clear hb2); (try clear hk); (try clear hi); have hcz34_0 := mZ BK235.out 0; have hfz34_0 := blk_frozen BK235.out 0; have hnb35 := NB229_0.out; have hnc35 := NB0_229.out; have hcz36_0 := mZ BK229.out 0; have hfz36_0 := blk_frozen BK229.out 0))
  refine bodyPost_ret (results_cell_row rfl _ _ gb229 26 #[.slice Ao29 t230.length co29] (0, 0) _ rfl (by (with_reducible repeat (first | refine blk_drewN ?_ _ | refine blk_drew ?_ | refine blk_alloc ?_ _)); refine blk_put (cs := #[.slice none 0 0]) ?_ 0 _ rfl; (with_reducible repeat (first | refine blk_drewN ?_ _ | refine blk_drew ?_ | refine blk_alloc ?_ _)); exact BK229.out) Try.underlying26 rfl (by kernel_rfl)) rfl ?_
  exact ⟨_, by first | rfl | (simp [errW_none, errW_some] <;> rfl) | (simp [*, errW_none, errW_some] <;> rfl), by (with_reducible repeat (first | apply Kd.R_alloc | apply Kd.R_drewN | apply Kd.R_drew)); exact Kd.R_mono (Kd.R_far (p := ⟨gb229, 0, none⟩) (Kd.R_types HO232.out BK229.out (by decide)) (fun _ hk => hk.2) (.slice Ao29 t230.length co29)) (fun _ hk => trivial), mI134_2 HI0.out NB0_229.out NB0_235.out, mH134_8 HB.out (IsS167.ge HI0.out) GE229.out GE235.out, mQ134_5 HK.out GW229.out GW235.out⟩

/-! ### spec_l1Size: function 80 -/
def spec_l1Size.f (l0 : List Int) (a1 : Int) : Option (Int) := if (wrap64 (3 + (wrap64 ((l0.length : Int) / 12)))) > a1 then (some a1) else (some (wrap64 (3 + (wrap64 ((l0.length : Int) / 12)))))
set_option maxHeartbeats 8000000 in
set_option maxRecDepth 100000 in
theorem spec_l1Size.calls (A0 : Option Addr) (c0 : Nat) (l0 : List Int) (a1 : Int) (r : Int) (w : World) (hr0 : Kd.C (Kd.int .u8) w A0 l0.length l0) (hc0 : l0.length ≤ c0) (h : spec_l1Size.f l0 a1 = some r) :
  Calls Try.prog 80 #[.slice A0 l0.length c0, .int .i64 a1] w fun e w' => e = .returned (.int .i64 r) ∧ Drawn0 w w' := by
 have HR0 := mS hr0
 have HC0 := mS hc0
 clear hr0 hc0
 have H : (if (wrap64 (3 + (wrap64 ((l0.length : Int) / 12)))) > a1 then (some a1) else (some (wrap64 (3 + (wrap64 ((l0.length : Int) / 12)))))) = some r := h
 clear h
 by_cases c3 : (wrap64 (3 + (wrap64 ((l0.length : Int) / 12)))) > a1
 ·rw [if_pos c3] at H
  have c3b0 : decide (a1 < (wrap64 (3 + (wrap64 ((l0.length : Int) / 12))))) = true := decide_eq_true c3
  clear c3
  obtain rfl := Option.some.inj H
  go_enter Try.func80, Try.ntmps80
  go_wp2
  go_ret
  exact ⟨by first | rfl | (simp; done) | (simp [*]; done), by repeat (first | exact Drawn0.refl _ | apply Drawn0.step)⟩
 ·rw [if_neg c3] at H
  have c3b0 : decide (a1 < (wrap64 (3 + (wrap64 ((l0.length : Int) / 12))))) = false := decide_eq_false c3
  clear c3
  obtain rfl := Option.some.inj H
  go_enter Try.func80, Try.ntmps80
  go_wp2
  go_ret
  exact ⟨by first | rfl | (simp; done) | (simp [*]; done), by repeat (first | exact Drawn0.refl _ | apply Drawn0.step)⟩

/-! ### spec_l1Int: function 84 -/
def spec_l1Int.f (s0_0 : List Int) (s0_1 : Int) (s0_2 : Int) (l1 : List Int) : Option (Int × Int × Int) := (spec_l1Below.f s0_0 s0_1 s0_2 (l1.length : Int)).bind fun bt250 => (if 0 ≤ bt250.1 then (if bt250.1 < (l1.length : Int) then (some (rd l1 bt250.1, bt250.2.1, bt250.2.2)) else (none)) else (none))
set_option maxHeartbeats 8000000 in
set_option maxRecDepth 100000 in
theorem spec_l1Int.calls (g : Nat) (s0_0 : List Int) (s0_1 : Int) (s0_2 : Int) (A1 : Option Addr) (c1 : Nat) (l1 : List Int) (r1 : Int) (r2 : Int) (r3 : Int) (w0 w : World) (hI : IsS167 w0 w g s0_0 s0_1 s0_2) (hB : Below w0.heap.size w0 w) (hr1 : Kd.C (Kd.int .i64) w A1 l1.length l1) (hc1 : l1.length ≤ c1) (hf1 : ∀ ad, A1 = some ad → 0 < l1.length → ad.block ≠ g) (h : spec_l1Int.f s0_0 s0_1 s0_2 l1 = some (r1, r2, r3)) :
  Calls Try.prog 84 #[.pointer (some ⟨g, 0, none⟩), .slice A1 l1.length c1] w fun e w' => e = .returned (.int .i64 r1) ∧ IsS167 w0 w' g s0_0 r2 r3 ∧ Below w0.heap.size w0 w' ∧ KeepBut w w' g none := by
 have HR1 := mS hr1
 have HC1 := mS hc1
 clear hr1 hc1
 have HI0 := mS hI
 have HK := mS (KeepBut.refl w g none)
 have HL := mS hB.size
 clear hI
 have HW0 := mS hB.size
 have HB := mS hB
 clear hB
 have H : ((spec_l1Below.f s0_0 s0_1 s0_2 (l1.length : Int)).bind fun bt250 => (if 0 ≤ bt250.1 then (if bt250.1 < (l1.length : Int) then (some (rd l1 bt250.1, bt250.2.1, bt250.2.2)) else (none)) else (none))) = some (r1, r2, r3) := h
 clear h
 replace H := Option.bind_eq_some_iff.mp H
 obtain ⟨⟨t250, t251, t252⟩, A30, H⟩ := H
 replace H : (if 0 ≤ t250 then (if t250 < (l1.length : Int) then (some (rd l1 t250, t251, t252)) else (none)) else (none)) = some (r1, r2, r3) := H
 have A3 := mS A30
 clear A30
 by_cases c4 : 0 ≤ t250
 ·rw [if_pos c4] at H
  have c4b0 : decide (0 ≤ t250) = true := decide_eq_true c4
  clear c4
  by_cases c5 : t250 < (l1.length : Int)
  ·rw [if_pos c5] at H
   have c5b0 : decide (t250 < (l1.length : Int)) = true := decide_eq_true c5
   clear c5
   simp only [Option.some.injEq, Prod.mk.injEq] at H
   obtain ⟨rfl, rfl, rfl⟩ := H
   go_enter Try.func84, Try.ntmps84
   go_wp2_with (first | ((with_reducible refine gate_callee (f := 82) rfl ?_); refine goesL_ (some 9) rfl rfl Try.func82 (by kernel_rfl) rfl #[.pointer (some ⟨g, 0, none⟩), .int .i64 (l1.length : Int)] rfl mA ?_; (with_reducible refine (spec_l1Below.calls g s0_0 s0_1 s0_2 (l1.length : Int) t250 t251 t252 w0 _ ?side1 ?side2 A3.out).mono ?_); (case side1 => repeat (first | (with_reducible first | exact HI0.out | apply IsS167.alloc | apply IsS167.drewN | apply IsS167.drew | apply IsS167.set_1 | apply IsS167.set_2) | exact HI0.out)); (case side2 => repeat (first | (with_reducible first | exact HB.out | apply below_alloc | apply pw_below_drewN | apply below_drew1 | refine below_set ?_ (IsS167.ge HI0.out)) | exact HB.out)); rintro e w6 ⟨rfl, hi, hb, hk⟩; refine ⟨_, rfl, ?_⟩; replace HK := mS (KeepBut.trans (mQ134_3 HK.out) hk (.inl rfl)); replace HB := mS (hb); replace HI0 := mS (hi); (try clear hb); (try clear hb2); (try clear hk); (try clear hi); have p253 : 0 ≤ (t250 : Int) := of_decide_eq_true (by first | (with_reducible assumption) | assumption); have q253 : t250 < (l1.length : Int) := of_decide_eq_true (by first | (with_reducible assumption) | assumption); obtain ⟨ad253, e253, hx253_0⟩ := Kd.at_int HR1.out t250 p253 q253; cases e253; replace hx253_0 := keep_cell HK.out hx253_0 (by first | (rw [add_block]; exact hf1 _ rfl (by omega)) | exact hf1 _ rfl (by omega) | exact hf1 ad253 rfl (by omega)); replace p253 := eq_true p253; replace q253 := eq_true q253))
   go_ret
   exact ⟨by first | rfl | (simp [errW_none, errW_some] <;> rfl) | (simp [*, errW_none, errW_some] <;> rfl), mI134_0 HI0.out, mH134_6 HB.out (IsS167.ge HI0.out), mQ134_3 HK.out⟩
  ·rw [if_neg c5] at H
   exact absurd H (by simp)
 ·rw [if_neg c4] at H
  exact absurd H (by simp)

end Go.Proofs.Ytbepbgfkajnlbaa.MFnMem
