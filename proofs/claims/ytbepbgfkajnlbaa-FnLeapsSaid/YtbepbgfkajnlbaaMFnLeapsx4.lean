-- Written by mp.py, this session's own printer (wip/mp.py).
import Derived.Test.YtbepbgfkajnlbaaVMShort
import Derived.Test.YtbepbgfkajnlbaaMFnLeapsx0
import Derived.Test.YtbepbgfkajnlbaaMFnLeapsx1
import Derived.Test.YtbepbgfkajnlbaaMFnLeapsx3
namespace Go.Proofs.Ytbepbgfkajnlbaa.MFnLeaps
open Go.RowKit Go.Proofs.YtbepbgfkajnlbaaW.PrintWords Go.Proofs.YtbepbgfkajnlbaaW.PrintLast Go.Proofs.YtbepbgfkajnlbaaW.PrintMore Go.Proofs.Ytbepbgfkajnlbaa.MWords
theorem mI134_0 {p q : Prop} (x : q) (h : q → p := by intro h_; repeat (first | (with_reducible first | exact h_ | apply IsS167.alloc | apply IsS167.drewN | apply IsS167.drew | apply IsS167.set_1 | apply IsS167.set_2) | exact h_)) : p := h x
theorem mI134_1 {p q a0 : Prop} (x : q) (g0 : a0) (h : q → a0 → p := by intro h_ g0_; repeat (first | (with_reducible first | exact h_ | apply IsS167.alloc | apply IsS167.drewN | apply IsS167.drew | apply IsS167.set_1 | apply IsS167.set_2 | refine IsS167.far ?_ g0_ _) | exact h_)) : p := h x g0
theorem mI134_2 {p q a0 a1 : Prop} (x : q) (g0 : a0) (g1 : a1) (h : q → a0 → a1 → p := by intro h_ g0_ g1_; repeat (first | (with_reducible first | exact h_ | apply IsS167.alloc | apply IsS167.drewN | apply IsS167.drew | apply IsS167.set_1 | apply IsS167.set_2 | refine IsS167.far ?_ g0_ _ | refine IsS167.far ?_ g1_ _) | exact h_)) : p := h x g0 g1
theorem mQ134_3 {p q : Prop} (x : q) (h : q → p := by intro h_; repeat (first | (with_reducible first | exact h_ | apply KeepBut.set_ | apply keep_drewN | apply keep_drew | apply keep_alloc) | exact h_)) : p := h x
theorem mQ134_4 {p q a0 : Prop} (x : q) (g0 : a0) (h : q → a0 → p := by intro h_ g0_; repeat (first | (with_reducible first | exact h_ | apply KeepBut.set_ | apply keep_drewN | apply keep_drew | apply keep_alloc | refine keep_far ?_ g0_ _) | exact h_)) : p := h x g0
theorem mQ134_5 {p q a0 a1 : Prop} (x : q) (g0 : a0) (g1 : a1) (h : q → a0 → a1 → p := by intro h_ g0_ g1_; repeat (first | (with_reducible first | exact h_ | apply KeepBut.set_ | apply keep_drewN | apply keep_drew | apply keep_alloc | refine keep_far ?_ g0_ _ | refine keep_far ?_ g1_ _) | exact h_)) : p := h x g0 g1
theorem mH134_6 {p q a0 : Prop} (x : q) (g0 : a0) (h : q → a0 → p := by intro h_ g0_; repeat (first | (with_reducible first | exact h_ | apply below_alloc | apply pw_below_drewN | apply below_drew1 | refine below_set ?_ g0_) | exact h_)) : p := h x g0
theorem mH134_7 {p q a0 a1 : Prop} (x : q) (g0 : a0) (g1 : a1) (h : q → a0 → a1 → p := by intro h_ g0_ g1_; repeat (first | (with_reducible first | exact h_ | apply below_alloc | apply pw_below_drewN | apply below_drew1 | refine below_set ?_ g0_ | refine below_set ?_ g1_) | exact h_)) : p := h x g0 g1
theorem mH134_8 {p q a0 a1 a2 : Prop} (x : q) (g0 : a0) (g1 : a1) (g2 : a2) (h : q → a0 → a1 → a2 → p := by intro h_ g0_ g1_ g2_; repeat (first | (with_reducible first | exact h_ | apply below_alloc | apply pw_below_drewN | apply below_drew1 | refine below_set ?_ g0_ | refine below_set ?_ g1_ | refine below_set ?_ g2_) | exact h_)) : p := h x g0 g1 g2
attribute [local go_sem] max2_int min2_int max_two min_two max_three min_three max_four min_four   -- for this text's walks alone
set_option linter.unusedVariables false
set_option linter.unusedSimpArgs false

/-! ### spec_l4Draw: function 134 -/
def spec_l4Draw.l0 : Nat → Int → List Int → Int → Int → List (S35) → Option ((List (S35)) × Int × Int)
 | 0, _, _, _, _, _ => none
 | k + 1, x6, x1000, x1001, x1002, x205000 => if x6 > 0 then ((spec_l4Pair.f x1000 x1001 x1002).bind fun bt208 => ((spec_l1Below.f x1000 bt208.2.2.2.1 bt208.2.2.2.2 4).bind fun bt213 => ((spec_MemPut.f k x205000 bt208.1 bt208.2.1 bt208.2.2.1 (wrap64 (1 + bt213.1))).bind fun bt216 => (spec_l4Draw.l0 k (wrap64 (x6 - 1)) x1000 bt213.2.1 bt213.2.2 bt216.1)))) else (some (x205000, x1001, x1002))
def spec_l4Draw.f (k : Nat) (s0_0 : List Int) (s0_1 : Int) (s0_2 : Int) (a1 : Int) : Option ((List (S35)) × Int × Int) := (spec_l1Below.f s0_0 s0_1 s0_2 a1).bind fun bt205 => (spec_l4Draw.l0 k bt205.1 s0_0 bt205.2.1 bt205.2.2 ([] : List (S35)))
theorem spec_l4Draw.mono_l : ∀ k, (∀ y0 y1 y2 y3 y4, LeO (spec_l4Draw.l0 k y0 y1 y2 y3 y4) (spec_l4Draw.l0 (k + 1) y0 y1 y2 y3 y4))
 | 0 => fun _ _ _ _ _ r h => by simp [spec_l4Draw.l0] at h
 | k + 1 => by
  have ih0 := spec_l4Draw.mono_l k
  ·intro y0 y1 y2 y3 y4
   unfold spec_l4Draw.l0
   repeat' first
   | (with_reducible exact ih0 _ _ _ _ _)
   | (with_reducible exact spec_MemPut.mono _ _ _ _ _ _)
   | (with_reducible exact LeO.refl _)
   | (with_reducible exact LeO.none _)
   | (with_reducible refine LeO.ite ?_ ?_)
   | (with_reducible refine LeO.bind ?_ (fun _ => ?_))
   | exact ih0 _ _ _ _ _
   | exact spec_MemPut.mono _ _ _ _ _ _
   | exact LeO.none _
   | refine LeO.ite ?_ ?_
   | refine LeO.bind ?_ (fun _ => ?_)
theorem spec_l4Draw.mono : ∀ a0 a1 a2 a3 k, LeO (spec_l4Draw.f k a0 a1 a2 a3) (spec_l4Draw.f (k + 1) a0 a1 a2 a3) := by
 intro a0 a1 a2 a3 k
 have ih0 := spec_l4Draw.mono_l k
 unfold spec_l4Draw.f
 repeat' first
   | (with_reducible exact ih0 _ _ _ _ _)
   | (with_reducible exact spec_MemPut.mono _ _ _ _ _ _)
   | (with_reducible exact LeO.refl _)
   | (with_reducible exact LeO.none _)
   | (with_reducible refine LeO.ite ?_ ?_)
   | (with_reducible refine LeO.bind ?_ (fun _ => ?_))
   | exact ih0 _ _ _ _ _
   | exact spec_MemPut.mono _ _ _ _ _ _
   | exact LeO.none _
   | refine LeO.ite ?_ ?_
   | refine LeO.bind ?_ (fun _ => ?_)
def spec_l4Draw.T5 : Bool × List (List Nat × List Nat) := (true, [([], []), ([], []), ([1], [1]), ([], []), ([3, 2], [3]), ([4], [4]), ([0, 2, 5, 4], [0, 2, 5]), ([6], [6]), ([7], [7]), ([7], [7]), ([8, 6, 0, 1, 2, 3, 4, 5, 6, 7, 8], [8])])
def spec_l4Draw.B5 : List Nat := [0, 0, 2, 0, 14, 30, 63, 127, 255, 255, 511]
theorem spec_l4Draw.tab5 : rtab .any (opsOf Try.f134 5) = spec_l4Draw.T5 := by kernel_rfl
theorem spec_l4Draw.bits5 : waitsOk spec_l4Draw.T5.2 spec_l4Draw.B5 = true := by kernel_rfl
set_option maxHeartbeats 8000000 in
set_option maxRecDepth 100000 in
theorem spec_l4Draw.calls (k : Nat) (g : Nat) (s0_0 : List Int) (s0_1 : Int) (s0_2 : Int) (a1 : Int) (r1 : List (S35)) (r2 : Int) (r3 : Int) (w0 w : World) (hI : IsS167 w0 w g s0_0 s0_1 s0_2) (hB : Below w0.heap.size w0 w) (h : spec_l4Draw.f k s0_0 s0_1 s0_2 a1 = some (r1, r2, r3)) :
  Calls Try.prog 134 #[.pointer (some ⟨g, 0, none⟩), .int .i64 a1] w fun e w' => ∃ v0_ : Value, e = .returned (.agg #[v0_]) ∧ Kd.R k35 35 w' w.heap.size (fun _ => True) v0_ r1 ∧ IsS167 w0 w' g s0_0 r2 r3 ∧ Below w0.heap.size w0 w' ∧ KeepBut w w' g none := by
 have hu26 := Try.underlying26
 have HI0 := mS hI
 have HK := mS (KeepBut.refl w g none)
 have HL := mS hB.size
 clear hI
 have HW0 := mS hB.size
 have HB := mS hB
 clear hB
 have H : ((spec_l1Below.f s0_0 s0_1 s0_2 a1).bind fun bt205 => (spec_l4Draw.l0 k bt205.1 s0_0 bt205.2.1 bt205.2.2 ([] : List (S35)))) = some (r1, r2, r3) := h
 clear h
 replace H := Option.bind_eq_some_iff.mp H
 obtain ⟨⟨t205, t206, t207⟩, A30, H⟩ := H
 replace H : (spec_l4Draw.l0 k t205 s0_0 t206 t207 ([] : List (S35))) = some (r1, r2, r3) := H
 have A3 := mS A30
 clear A30
 have H' := mS H
 clear H
 go_enter Try.func134, Try.ntmps134
 go_wp2_with (first | ((with_reducible refine gate_dst (N := 4) rfl ?_); refine mBx 4 #[.slice none 0 0] 26 ?_; intro gb203 hg w4 hbox hb; replace HB := mS (below_step (mH134_6 HB.out (IsS167.ge HI0.out)) hb); have BK203 := mS (hbox); have GW203 := mS ((by rw [hg]; exact (keep_size (w := w) (g := g) (row := none) (mQ134_3 HK.out)) : w.heap.size ≤ gb203)); have GE203 := mS ((Nat.le_trans HW0.out (by rw [hg]; exact (keep_size (w := w) (g := g) (row := none) (mQ134_3 HK.out)) : w.heap.size ≤ gb203) : w0.heap.size ≤ gb203)); replace HK := mS (KeepBut.trans (mQ134_3 HK.out) (KeepBut.of_below hb g none) (.inl rfl)); have NB0_203 := mS ((by rw [hg]; exact Nat.ne_of_lt (IsS167.lt (show IsS167 w0 _ g s0_0 s0_1 s0_2 from mI134_0 HI0.out)) : g ≠ gb203)); have NB203_0 := mS ((by rw [hg]; exact Nat.ne_of_gt (IsS167.lt (show IsS167 w0 _ g s0_0 s0_1 s0_2 from mI134_0 HI0.out)) : gb203 ≠ g)); replace HI0 := mS (IsS167.below (mI134_0 HI0.out) hb); clear hb hbox hg) | ((with_reducible refine gate_dst (N := 5) rfl ?_); refine mBx 5 #[.slice none 0 0] 26 ?_; intro gb204 hg w5 hbox hb; replace HB := mS (below_step (mH134_7 HB.out (IsS167.ge HI0.out) GE203.out) hb); have BK204 := mS (hbox); have GW204 := mS ((by rw [hg]; exact (keep_size (w := w) (g := g) (row := none) (mQ134_4 HK.out GW203.out)) : w.heap.size ≤ gb204)); have GE204 := mS ((Nat.le_trans HW0.out (by rw [hg]; exact (keep_size (w := w) (g := g) (row := none) (mQ134_4 HK.out GW203.out)) : w.heap.size ≤ gb204) : w0.heap.size ≤ gb204)); replace HK := mS (KeepBut.trans (mQ134_4 HK.out GW203.out) (KeepBut.of_below hb g none) (.inl rfl)); have NB203_204 := mNl hg BK203.out; have NB204_203 := mNg hg BK203.out; replace BK203 := mB BK203 hb; have NB0_204 := mS ((by rw [hg]; exact Nat.ne_of_lt (IsS167.lt (show IsS167 w0 _ g s0_0 s0_1 s0_2 from mI134_1 HI0.out NB0_203.out)) : g ≠ gb204)); have NB204_0 := mS ((by rw [hg]; exact Nat.ne_of_gt (IsS167.lt (show IsS167 w0 _ g s0_0 s0_1 s0_2 from mI134_1 HI0.out NB0_203.out)) : gb204 ≠ g)); replace HI0 := mS (IsS167.below (mI134_1 HI0.out NB0_203.out) hb); clear hb hbox hg; have hnb6 := NB204_203.out; have hnc6 := NB203_204.out; have hnb7 := NB204_0.out; have hnc7 := NB0_204.out; have hcz8_0 := mZ BK204.out 0; have hfz8_0 := blk_frozen BK204.out 0) | ((with_reducible refine gate_callee (f := 82) rfl ?_); refine mGo 10 Try.func82 #[.pointer (some ⟨g, 0, none⟩), .int .i64 a1] ?_; (with_reducible refine (spec_l1Below.calls g s0_0 s0_1 s0_2 a1 t205 t206 t207 w0 _ ?side1 ?side2 A3.out).mono ?_); (case side1 => repeat (first | (with_reducible first | exact HI0.out | apply IsS167.alloc | apply IsS167.drewN | apply IsS167.drew | apply IsS167.set_1 | apply IsS167.set_2 | refine IsS167.far ?_ NB0_203.out _ | refine IsS167.far ?_ NB0_204.out _) | exact HI0.out)); (case side2 => repeat (first | (with_reducible first | exact HB.out | apply below_alloc | apply pw_below_drewN | apply below_drew1 | refine below_set ?_ (IsS167.ge HI0.out) | refine below_set ?_ GE203.out | refine below_set ?_ GE204.out) | exact HB.out)); rintro e w9 ⟨rfl, hi, hb, hk⟩; refine ⟨_, rfl, ?_⟩; replace BK203 := mS (KeepBut.blk hk (g' := gb203) (o := .cells #[.slice none 0 0] 26 (0, 0)) (mKf NB203_204.out BK203.out) NB203_0.out (by simp)); replace BK204 := mS (KeepBut.blk hk (g' := gb204) (o := .cells #[.slice none 0 0] 26 (0, 0)) (by refine mK ?_; refine blk_put (cs := #[.slice none 0 0]) ?_ 0 _ rfl; refine mK ?_; exact BK204.out) NB204_0.out (by simp)); replace HK := mS (KeepBut.trans (mQ134_5 HK.out GW203.out GW204.out) hk (.inl rfl)); replace HB := mS (hb); replace HI0 := mS (hi); (try clear hb); (try clear hk); (try clear hi)))
 go_loopg [6] k (fun kq v6 w' => ∃ (x6_1 : Int) (x1001_1 : Int) (x1002_1 : Int) (x205000_1 : List (S35)) (u205000 : Value), v6 = .int .i64 x6_1 ∧ Aside0 (spec_l4Draw.l0 kq x6_1 s0_0 x1001_1 x1002_1 x205000_1 = some (r1, r2, r3)) ∧ Aside0 (kq ≤ k) ∧ Aside0 (Kd.R k35 35 w' w.heap.size (fun _ => True) u205000 x205000_1) ∧ Aside0 (w'.heap[gb203]? = some (.cells #[(.slice none 0 0)] 26 (0, 0))) ∧ Aside0 (w'.heap[gb204]? = some (.cells #[u205000] 26 (0, 0))) ∧ Aside0 (IsS167 w0 w' g s0_0 x1001_1 x1002_1) ∧ Aside0 (KeepBut w w' g none) ∧ Aside0 (Below w0.heap.size w0 w'))
 case atStart => exact ⟨(t205), (t206), (t207), (([] : List (S35))), (.slice none 0 0), mE, H', ⟨Nat.le_refl _⟩, ⟨by first | exact Kd.R_nil _ _ _ _ _ | exact Kd.N_nil _ _ _ _ _ | exact Kd.V_nil _ _ _ _ _ | exact Kd.Q_nil _ _ _ _ _ | exact Kd.S_nil _ _ _ _ _⟩, ⟨mK BK203.out⟩, ⟨mK BK204.out⟩, ⟨mI134_2 HI0.out NB0_203.out NB0_204.out⟩, ⟨mQ134_5 HK.out GW203.out GW204.out⟩, ⟨mH134_8 HB.out (IsS167.ge HI0.out) GE203.out GE204.out⟩⟩
 case round =>
  clear H'
  try clear c1
  try clear p2
  try clear c6
  try clear c7
  try clear c8
  try clear hcz8_0
  try clear hfz8_0
  obtain ⟨x6_1, x1001_1, x1002_1, x205000_1, u205000, rfl, HA, HK1, HO_205000, BK203, BK204, HI0, HK, HB⟩ := hrel
  cases gk with
  | zero => exact absurd HA.out (by simp [spec_l4Draw.l0])
  | succ k1 =>
   have H := HA.out
   clear HA
   simp only [spec_l4Draw.l0] at H
   by_cases c10 : x6_1 > 0
   ·rw [if_pos c10] at H
    have c10b0 : decide (0 < x6_1) = true := decide_eq_true c10
    clear c10
    replace H := Option.bind_eq_some_iff.mp H
    obtain ⟨⟨t208, t209, t210, t211, t212⟩, A110, H⟩ := H
    replace H : ((spec_l1Below.f s0_0 t211 t212 4).bind fun bt213 => ((spec_MemPut.f k1 x205000_1 t208 t209 t210 (wrap64 (1 + bt213.1))).bind fun bt216 => (spec_l4Draw.l0 k1 (wrap64 (x6_1 - 1)) s0_0 bt213.2.1 bt213.2.2 bt216.1))) = some (r1, r2, r3) := H
    have A11 := mS A110
    clear A110
    replace H := Option.bind_eq_some_iff.mp H
    obtain ⟨⟨t213, t214, t215⟩, A120, H⟩ := H
    replace H : ((spec_MemPut.f k1 x205000_1 t208 t209 t210 (wrap64 (1 + t213))).bind fun bt216 => (spec_l4Draw.l0 k1 (wrap64 (x6_1 - 1)) s0_0 t214 t215 bt216.1)) = some (r1, r2, r3) := H
    have A12 := mS A120
    clear A120
    replace H := Option.bind_eq_some_iff.mp H
    obtain ⟨⟨t216, t219⟩, A130, H⟩ := H
    replace H : (spec_l4Draw.l0 k1 (wrap64 (x6_1 - 1)) s0_0 t214 t215 t216) = some (r1, r2, r3) := H
    have A13 := mS A130
    clear A130
    have H' := mS H
    clear H
    try go_wp2
    replace HO_205000 := mS (Kd.R_drew HO_205000.out)
    replace BK203 := mS (blk_drew BK203.out)
    replace BK204 := mS (blk_drew BK204.out)
    replace HI0 := mS (IsS167.drew HI0.out)
    replace HK := mS (keep_drew HK.out)
    replace HB := mS (below_drew1 HB.out)
    refine start_ (n := 11) (S := fun w' => w'.cell? ⟨gb204, 0, none⟩ = some (u205000)) (ds := [10]) (mb 0 11) (by kernel_rfl) rfl rfl (mZ BK204.out 0) (fun hHeld => ?_); refine with_tabW spec_l4Draw.tab5 spec_l4Draw.bits5 (fun HT_ HW_ => ?_)
    generalize wr.drew = w14 at HO_205000 BK203 BK204 HI0 HK HB hHeld ⊢
    refine mpu 1 17 HT_.out (mr [0,1,1,9]) ?_
    refine mpu 3 19 HT_.out (mr [0,1,1,1,1,7]) ?_
    refine take_ (i := 0) (N := some 16) (v := ?_) (a' := ?_) (mr [2,1,1,7]) rfl rfl (take_ofW HT_.out HW_.out (by kernel_rfl)) (fun _ _ _ h => h) (Or.inl ⟨by rfl, ?_⟩) hHeld ?_ ?_
    rotate_left
    ·intro w' s0
     go_simp
     with_reducible rfl
    rotate_left
    ·simp only [Act.put, zA, zB, zC, i64_w, i32_w]
     rfl
    refine mone 2 (some 18) HT_.out (mb 4 7) (fun K hK => ?_)
    refine goes_ Try.func136 (by kernel_rfl) rfl #[.pointer (some ⟨g, 0, none⟩)] (by rfl) rfl rfl mA ?_
    with_reducible refine (spec_l4Pair.calls g s0_0 x1001_1 x1002_1 t208 t209 t210 t211 t212 w0 _ ?side1 ?side2 A11.out).mono ?_
    (case side1 => repeat (first | (with_reducible first | exact HI0.out | apply IsS167.alloc | apply IsS167.drewN | apply IsS167.drew | apply IsS167.set_1 | apply IsS167.set_2 | refine IsS167.far ?_ NB0_203.out _ | refine IsS167.far ?_ NB0_204.out _) | exact HI0.out))
    (case side2 => repeat (first | (with_reducible first | exact HB.out | apply below_alloc | apply pw_below_drewN | apply below_drew1 | refine below_set ?_ (IsS167.ge HI0.out) | refine below_set ?_ GE203.out | refine below_set ?_ GE204.out) | exact HB.out))
    rintro e w15 ⟨rfl, hi, hb, hk⟩
    refine ⟨_, rfl, ?_⟩
    replace HO_205000 := mS (Kd.R_mono (Kd.R_keep (IsS167.apart (show IsS167 w0 _ g s0_0 x1001_1 x1002_1 from mI134_2 HI0.out NB0_203.out NB0_204.out) (mR HO_205000.out) (by decide)) hk (fun _ h => h.2)) (fun _ h => h.1))
    replace BK203 := mS (KeepBut.blk hk (g' := gb203) (o := .cells #[.slice none 0 0] 26 (0, 0)) (mK BK203.out) NB203_0.out (by simp))
    replace BK204 := mS (KeepBut.blk hk (g' := gb204) (o := .cells #[u205000] 26 (0, 0)) (mK BK204.out) NB204_0.out (by simp))
    replace HK := mS (KeepBut.trans (mQ134_5 HK.out GW203.out GW204.out) hk (.inl rfl))
    replace HB := mS (hb)
    replace HI0 := mS (hi)
    (try clear hb)
    (try clear hb2)
    (try clear hk)
    (try clear hi)
    refine hK.out _ _ (mZ BK204.out 0) (fun hHeld => ?_)
    clear hK K
    refine mno 18 ?_
    refine mone 4 (some 20) HT_.out (mb 5 6) (fun K hK => ?_)
    refine goes_ Try.func82 (by kernel_rfl) rfl #[.pointer (some ⟨g, 0, none⟩), .int .i64 4] (by rfl) rfl rfl mA ?_
    with_reducible refine (spec_l1Below.calls g s0_0 t211 t212 4 t213 t214 t215 w0 _ ?side1 ?side2 A12.out).mono ?_
    (case side1 => repeat (first | (with_reducible first | exact HI0.out | apply IsS167.alloc | apply IsS167.drewN | apply IsS167.drew | apply IsS167.set_1 | apply IsS167.set_2 | refine IsS167.far ?_ NB0_203.out _ | refine IsS167.far ?_ NB0_204.out _) | exact HI0.out))
    (case side2 => repeat (first | (with_reducible first | exact HB.out | apply below_alloc | apply pw_below_drewN | apply below_drew1 | refine below_set ?_ (IsS167.ge HI0.out) | refine below_set ?_ GE203.out | refine below_set ?_ GE204.out) | exact HB.out))
    rintro e w16 ⟨rfl, hi, hb, hk⟩
    refine ⟨_, rfl, ?_⟩
    replace HO_205000 := mS (Kd.R_mono (Kd.R_keep (IsS167.apart (show IsS167 w0 _ g s0_0 t211 t212 from mI134_2 HI0.out NB0_203.out NB0_204.out) (mR HO_205000.out) (by decide)) hk (fun _ h => h.2)) (fun _ h => h.1))
    replace BK203 := mS (KeepBut.blk hk (g' := gb203) (o := .cells #[.slice none 0 0] 26 (0, 0)) (mK BK203.out) NB203_0.out (by simp))
    replace BK204 := mS (KeepBut.blk hk (g' := gb204) (o := .cells #[u205000] 26 (0, 0)) (mK BK204.out) NB204_0.out (by simp))
    replace HK := mS (KeepBut.trans (mQ134_5 HK.out GW203.out GW204.out) hk (.inl rfl))
    replace HB := mS (hb)
    replace HI0 := mS (hi)
    (try clear hb)
    (try clear hb2)
    (try clear hk)
    (try clear hi)
    obtain ⟨Ao17, co17, eo17⟩ := Kd.R_slice HO_205000.out
    (first | subst eo17 | (injection eo17 with f1_ f2_ f3_; have f4_ := f1_.symm; have f5_ := f3_.symm; clear f1_ f2_ f3_; subst f4_; subst f5_))
    refine hK.out _ _ (mZ BK204.out 0) (fun hHeld => ?_)
    clear hK K
    refine mno 20 ?_
    refine mpu 5 21 HT_.out (mb 6 5) ?_
    refine mone 6 (some 22) HT_.out (mb 7 4) (fun K hK => ?_)
    refine goes_ Try.func21 (by kernel_rfl) rfl #[.agg #[.slice Ao17 x205000_1.length co17], .agg #[.string t208, .string t209, .bool t210], .int .i64 (wrap64 (1 + t213))] (by rfl) rfl rfl mA ?_
    with_reducible refine (spec_MemPut.calls k1 _ _ x205000_1 t208 t209 t210 (wrap64 (1 + t213)) t216 t219 _ ?side1 ?side2 A13.out).mono ?_
    (case side1 => exact mC (Kd.R_reads' HO_205000.out).2.2)
    (case side2 => exact (Kd.R_reads' HO_205000.out).2.1)
    rintro e w18 ⟨v217, rfl, ho0, hb⟩
    refine ⟨_, rfl, ?_⟩
    have HO218 := mS (Kd.R_lower (Kd.R_new' ho0 (Kd.R_lt (mR HO_205000.out))) (keep_size (w := w) (g := g) (row := none) (mQ134_5 HK.out GW203.out GW204.out)))
    replace HO_205000 := mS (Kd.R_elder' (mR HO_205000.out) (Kd.R_base ho0) hb)
    replace BK203 := mB BK203 hb
    replace BK204 := mB BK204 hb
    replace HK := mS (KeepBut.trans (mQ134_5 HK.out GW203.out GW204.out) (KeepBut.of_below hb g none) (.inl rfl))
    replace HB := mS (below_step (mH134_8 HB.out (IsS167.ge HI0.out) GE203.out GE204.out) hb)
    replace HI0 := mS (IsS167.below (mI134_2 HI0.out NB0_203.out NB0_204.out) hb)
    (try clear hb)
    (try clear hb2)
    (try clear hk)
    (try clear hi)
    (try clear ho0)
    obtain ⟨Ao19, co19, eo19⟩ := Kd.R_slice HO218.out
    (first | subst eo19 | (injection eo19 with f1_ f2_ f3_; have f4_ := f1_.symm; have f5_ := f3_.symm; clear f1_ f2_ f3_; subst f4_; subst f5_))
    refine hK.out _ _ (mZ BK204.out 0) (fun hHeld => ?_)
    clear hK K
    refine mno 22 ?_
    refine mpu 7 15 HT_.out (mb 8 3) ?_
    refine mpu 8 23 HT_.out (mb 9 2) ?_
    refine mpu 9 24 HT_.out (mb 10 1) ?_
    refine last_ (i := 10) (N := none) (mb 11 0) rfl rfl (one_of HT_.out (by kernel_rfl)) (by decide) (fun K hK => ?_)
    have hs20 : w18.cell? ⟨gb204, 0, none⟩ = some (.slice Ao17 x205000_1.length co17) := mZ BK204.out 0
    have hfs20 := blk_frozen BK204.out 0
    have hns20_0 := NB203_204.out
    have hms20_0 := NB204_203.out
    refine skip_ (w1 := ?_) (by rfl) rfl ?_ ?_
    rotate_left
    ·go_simp
     rfl
    refine hK.out _ _ ?_
    clear hK K
    refine done_ (done_of HT_.out (by kernel_rfl)) ?_
    try go_wp2
    go_roundg k1
    case measure => have := HK1.out; omega
    case rel => exact ⟨(wrap64 (x6_1 - 1)), (t214), (t215), (t216), (.slice Ao19 t216.length co19), mE, H', ⟨by have := HK1.out; omega⟩, ⟨by refine mR ?_; exact Kd.R_mono (Kd.R_far (p := ⟨gb204, 0, none⟩) (Kd.R_types HO218.out BK204.out (by decide)) (fun _ hk => hk.2) (.slice Ao19 t216.length co19)) (fun _ hk => trivial)⟩, ⟨mKf NB203_204.out BK203.out⟩, ⟨by refine mK ?_; refine blk_put (cs := #[.slice Ao17 x205000_1.length co17]) ?_ 0 _ rfl; refine mK ?_; exact BK204.out⟩, ⟨mI134_2 HI0.out NB0_203.out NB0_204.out⟩, ⟨mQ134_5 HK.out GW203.out GW204.out⟩, ⟨mH134_8 HB.out (IsS167.ge HI0.out) GE203.out GE204.out⟩⟩
   ·rw [if_neg c10] at H
    have c10b0 : decide (0 < x6_1) = false := decide_eq_false c10
    clear c10
    simp only [Option.some.injEq, Prod.mk.injEq] at H
    obtain ⟨rfl, rfl, rfl⟩ := H
    have hnb21 := NB204_203.out
    have hnc21 := NB203_204.out
    have hnb22 := NB204_0.out
    have hnc22 := NB0_204.out
    have hcz23_0 := mZ BK204.out 0
    have hfz23_0 := blk_frozen BK204.out 0
    obtain ⟨Ao24, co24, eo24⟩ := Kd.R_slice HO_205000.out
    subst eo24
    have hnb25 := NB203_0.out
    have hnc25 := NB0_203.out
    have hcz26_0 := mZ BK203.out 0
    have hfz26_0 := blk_frozen BK203.out 0
    go_wp2
    refine bodyPost_ret (results_cell_row rfl _ _ gb203 26 #[.slice Ao24 x205000_1.length co24] (0, 0) _ rfl (by refine mK ?_; refine blk_put (cs := #[.slice none 0 0]) ?_ 0 _ rfl; refine mK ?_; exact BK203.out) Try.underlying26 rfl (by kernel_rfl)) rfl ?_
    exact ⟨_, mEw, by refine mR ?_; exact Kd.R_mono (Kd.R_far (p := ⟨gb203, 0, none⟩) (Kd.R_types HO_205000.out BK203.out (by decide)) (fun _ hk => hk.2) (.slice Ao24 x205000_1.length co24)) (fun _ hk => trivial), mI134_2 HI0.out NB0_203.out NB0_204.out, mH134_8 HB.out (IsS167.ge HI0.out) GE203.out GE204.out, mQ134_5 HK.out GW203.out GW204.out⟩

/-! ### spec_l4DrawAny: function 79 -/
def spec_l4DrawAny.f (k : Nat) (s0_0 : List Int) (s0_1 : Int) (s0_2 : Int) (a1 : Int) : Option ((List (S35)) × Int × Int) := (spec_l4Draw.f k s0_0 s0_1 s0_2 a1).bind fun bt221 => ((spec_l1Below.f s0_0 bt221.2.1 bt221.2.2 12).bind fun bt227 => (if bt227.1 = 0 then ((spec_l4PairAny.f s0_0 bt227.2.1 bt227.2.2).bind fun bt230 => ((spec_l1Below.f s0_0 bt230.2.2.2.1 bt230.2.2.2.2 6).bind fun bt235 => (if bt221.1.length < 2932031007402 then (some ((bt221.1 ++ [(⟨(⟨bt230.1, bt230.2.1, bt230.2.2.1⟩ : S33), bt235.1⟩ : S35)]), bt235.2.1, bt235.2.2)) else (none)))) else (some (bt221.1, bt227.2.1, bt227.2.2))))
theorem spec_l4DrawAny.mono : ∀ a0 a1 a2 a3 k, LeO (spec_l4DrawAny.f k a0 a1 a2 a3) (spec_l4DrawAny.f (k + 1) a0 a1 a2 a3) := by
 intro a0 a1 a2 a3 k
 unfold spec_l4DrawAny.f
 repeat' first
   | (with_reducible exact spec_l4Draw.mono _ _ _ _ _)
   | (with_reducible exact LeO.refl _)
   | (with_reducible exact LeO.none _)
   | (with_reducible refine LeO.ite ?_ ?_)
   | (with_reducible refine LeO.bind ?_ (fun _ => ?_))
   | exact spec_l4Draw.mono _ _ _ _ _
   | exact LeO.none _
   | refine LeO.ite ?_ ?_
   | refine LeO.bind ?_ (fun _ => ?_)
def spec_l4DrawAny.T4 : Bool × List (List Nat × List Nat) := (true, [([], []), ([0], [0]), ([], []), ([2], [2]), ([], []), ([4, 3], [4]), ([3, 5], [3, 5]), ([6], [6]), ([1, 7, 5], [1, 7]), ([0, 1, 2, 3, 4, 5, 6, 7, 8], []), ([9, 8, 8, 0, 1, 2, 3, 4, 5, 6, 7, 8], [8, 9])])
def spec_l4DrawAny.B4 : List Nat := [0, 1, 0, 4, 0, 28, 60, 124, 255, 511, 1023]
theorem spec_l4DrawAny.tab4 : rtab .any (opsOf Try.f79 4) = spec_l4DrawAny.T4 := by kernel_rfl
theorem spec_l4DrawAny.bits4 : waitsOk spec_l4DrawAny.T4.2 spec_l4DrawAny.B4 = true := by kernel_rfl
set_option maxHeartbeats 8000000 in
set_option maxRecDepth 100000 in
theorem spec_l4DrawAny.calls (k : Nat) (g : Nat) (s0_0 : List Int) (s0_1 : Int) (s0_2 : Int) (a1 : Int) (r1 : List (S35)) (r2 : Int) (r3 : Int) (w0 w : World) (hI : IsS167 w0 w g s0_0 s0_1 s0_2) (hB : Below w0.heap.size w0 w) (h : spec_l4DrawAny.f k s0_0 s0_1 s0_2 a1 = some (r1, r2, r3)) :
  Calls Try.prog 79 #[.pointer (some ⟨g, 0, none⟩), .int .i64 a1] w fun e w' => ∃ v0_ : Value, e = .returned (.agg #[v0_]) ∧ Kd.R k35 35 w' w.heap.size (fun _ => True) v0_ r1 ∧ IsS167 w0 w' g s0_0 r2 r3 ∧ Below w0.heap.size w0 w' ∧ KeepBut w w' g none := by
 have hu26 := Try.underlying26
 have hu35 := Try.underlying35
 have HI0 := mS hI
 have HK := mS (KeepBut.refl w g none)
 have HL := mS hB.size
 clear hI
 have HW0 := mS hB.size
 have HB := mS hB
 clear hB
 have H : ((spec_l4Draw.f k s0_0 s0_1 s0_2 a1).bind fun bt221 => ((spec_l1Below.f s0_0 bt221.2.1 bt221.2.2 12).bind fun bt227 => (if bt227.1 = 0 then ((spec_l4PairAny.f s0_0 bt227.2.1 bt227.2.2).bind fun bt230 => ((spec_l1Below.f s0_0 bt230.2.2.2.1 bt230.2.2.2.2 6).bind fun bt235 => (if bt221.1.length < 2932031007402 then (some ((bt221.1 ++ [(⟨(⟨bt230.1, bt230.2.1, bt230.2.2.1⟩ : S33), bt235.1⟩ : S35)]), bt235.2.1, bt235.2.2)) else (none)))) else (some (bt221.1, bt227.2.1, bt227.2.2))))) = some (r1, r2, r3) := h
 clear h
 replace H := Option.bind_eq_some_iff.mp H
 obtain ⟨⟨t221, t224, t225⟩, A30, H⟩ := H
 replace H : ((spec_l1Below.f s0_0 t224 t225 12).bind fun bt227 => (if bt227.1 = 0 then ((spec_l4PairAny.f s0_0 bt227.2.1 bt227.2.2).bind fun bt230 => ((spec_l1Below.f s0_0 bt230.2.2.2.1 bt230.2.2.2.2 6).bind fun bt235 => (if t221.length < 2932031007402 then (some ((t221 ++ [(⟨(⟨bt230.1, bt230.2.1, bt230.2.2.1⟩ : S33), bt235.1⟩ : S35)]), bt235.2.1, bt235.2.2)) else (none)))) else (some (t221, bt227.2.1, bt227.2.2)))) = some (r1, r2, r3) := H
 have A3 := mS A30
 clear A30
 replace H := Option.bind_eq_some_iff.mp H
 obtain ⟨⟨t227, t228, t229⟩, A40, H⟩ := H
 replace H : (if t227 = 0 then ((spec_l4PairAny.f s0_0 t228 t229).bind fun bt230 => ((spec_l1Below.f s0_0 bt230.2.2.2.1 bt230.2.2.2.2 6).bind fun bt235 => (if t221.length < 2932031007402 then (some ((t221 ++ [(⟨(⟨bt230.1, bt230.2.1, bt230.2.2.1⟩ : S33), bt235.1⟩ : S35)]), bt235.2.1, bt235.2.2)) else (none)))) else (some (t221, t228, t229))) = some (r1, r2, r3) := H
 have A4 := mS A40
 clear A40
 by_cases c5 : t227 = 0
 ·rw [if_pos c5] at H
  have c5b0 : (t227 == 0) = true := beq_iff_eq.mpr c5
  have c5b1 : (t227 != 0) = false := bne_eq_false_iff_eq.mpr c5
  clear c5
  replace H := Option.bind_eq_some_iff.mp H
  obtain ⟨⟨t230, t231, t232, t233, t234⟩, A60, H⟩ := H
  replace H : ((spec_l1Below.f s0_0 t233 t234 6).bind fun bt235 => (if t221.length < 2932031007402 then (some ((t221 ++ [(⟨(⟨t230, t231, t232⟩ : S33), bt235.1⟩ : S35)]), bt235.2.1, bt235.2.2)) else (none))) = some (r1, r2, r3) := H
  have A6 := mS A60
  clear A60
  replace H := Option.bind_eq_some_iff.mp H
  obtain ⟨⟨t235, t236, t237⟩, A70, H⟩ := H
  replace H : (if t221.length < 2932031007402 then (some ((t221 ++ [(⟨(⟨t230, t231, t232⟩ : S33), t235⟩ : S35)]), t236, t237)) else (none)) = some (r1, r2, r3) := H
  have A7 := mS A70
  clear A70
  by_cases c8 : t221.length < 2932031007402
  ·rw [if_pos c8] at H
   have LMc8 := mS c8
   clear c8
   obtain ⟨y238, hy238⟩ : ∃ y_ : List (S35), y_ = (t221 ++ [(⟨(⟨t230, t231, t232⟩ : S33), t235⟩ : S35)]) := ⟨_, rfl⟩
   replace H : (some (y238, t236, t237)) = some (r1, r2, r3) := by first | (rw [hy238]; with_reducible exact H) | (have H2_ := (Option.bind_some _ _).symm.trans H; rw [hy238]; with_reducible exact H2_) | (have H2_ := (Option.bind_some _ _).symm.trans H; with_reducible exact H2_) | with_reducible exact H | (rw [hy238]; exact H) | exact H
   have Ny238 := mS hy238
   clear hy238
   simp only [Option.some.injEq, Prod.mk.injEq] at H
   obtain ⟨rfl, rfl, rfl⟩ := H
   go_enter Try.func79, Try.ntmps79
   try go_wp2_with (first | ((with_reducible refine gate_dst (N := 4) rfl ?_); refine mBx 4 #[.slice none 0 0] 26 ?_; intro gb220 hg w9 hbox hb; replace HB := mS (below_step (mH134_6 HB.out (IsS167.ge HI0.out)) hb); have BK220 := mS (hbox); have GW220 := mS ((by rw [hg]; exact (keep_size (w := w) (g := g) (row := none) (mQ134_3 HK.out)) : w.heap.size ≤ gb220)); have GE220 := mS ((Nat.le_trans HW0.out (by rw [hg]; exact (keep_size (w := w) (g := g) (row := none) (mQ134_3 HK.out)) : w.heap.size ≤ gb220) : w0.heap.size ≤ gb220)); replace HK := mS (KeepBut.trans (mQ134_3 HK.out) (KeepBut.of_below hb g none) (.inl rfl)); have NB0_220 := mS ((by rw [hg]; exact Nat.ne_of_lt (IsS167.lt (show IsS167 w0 _ g s0_0 s0_1 s0_2 from mI134_0 HI0.out)) : g ≠ gb220)); have NB220_0 := mS ((by rw [hg]; exact Nat.ne_of_gt (IsS167.lt (show IsS167 w0 _ g s0_0 s0_1 s0_2 from mI134_0 HI0.out)) : gb220 ≠ g)); replace HI0 := mS (IsS167.below (mI134_0 HI0.out) hb); clear hb hbox hg) | ((with_reducible refine gate_callee (f := 134) rfl ?_); refine mGo 8 Try.func134 #[.pointer (some ⟨g, 0, none⟩), .int .i64 a1] ?_; (with_reducible refine (spec_l4Draw.calls k g s0_0 s0_1 s0_2 a1 t221 t224 t225 w0 _ ?side1 ?side2 A3.out).mono ?_); (case side1 => repeat (first | (with_reducible first | exact HI0.out | apply IsS167.alloc | apply IsS167.drewN | apply IsS167.drew | apply IsS167.set_1 | apply IsS167.set_2 | refine IsS167.far ?_ NB0_220.out _) | exact HI0.out)); (case side2 => repeat (first | (with_reducible first | exact HB.out | apply below_alloc | apply pw_below_drewN | apply below_drew1 | refine below_set ?_ (IsS167.ge HI0.out) | refine below_set ?_ GE220.out) | exact HB.out)); rintro e w10 ⟨v222, rfl, ho0, hi, hb, hk⟩; refine ⟨_, rfl, ?_⟩; replace BK220 := mS (KeepBut.blk hk (g' := gb220) (o := .cells #[.slice none 0 0] 26 (0, 0)) (mK BK220.out) NB220_0.out (by simp)); have HO223 := mS (Kd.R_lower ho0 (keep_size (w := w) (g := g) (row := none) (mQ134_4 HK.out GW220.out))); replace HK := mS (KeepBut.trans (mQ134_4 HK.out GW220.out) hk (.inl rfl)); replace HB := mS (hb); replace HI0 := mS (hi); (try clear hb); (try clear hk); (try clear hi); (try clear ho0)) | ((with_reducible refine gate_dst (N := 5) rfl ?_); refine mBx 5 #[.slice none 0 0] 26 ?_; intro gb226 hg w11 hbox hb; replace HO223 := mS (Kd.R_below (mR HO223.out) hb); replace HB := mS (below_step (mH134_7 HB.out (IsS167.ge HI0.out) GE220.out) hb); have BK226 := mS (hbox); have GW226 := mS ((by rw [hg]; exact (keep_size (w := w) (g := g) (row := none) (mQ134_4 HK.out GW220.out)) : w.heap.size ≤ gb226)); have GE226 := mS ((Nat.le_trans HW0.out (by rw [hg]; exact (keep_size (w := w) (g := g) (row := none) (mQ134_4 HK.out GW220.out)) : w.heap.size ≤ gb226) : w0.heap.size ≤ gb226)); replace HK := mS (KeepBut.trans (mQ134_4 HK.out GW220.out) (KeepBut.of_below hb g none) (.inl rfl)); have NB220_226 := mNl hg BK220.out; have NB226_220 := mNg hg BK220.out; replace BK220 := mB BK220 hb; have NB0_226 := mS ((by rw [hg]; exact Nat.ne_of_lt (IsS167.lt (show IsS167 w0 _ g s0_0 t224 t225 from mI134_1 HI0.out NB0_220.out)) : g ≠ gb226)); have NB226_0 := mS ((by rw [hg]; exact Nat.ne_of_gt (IsS167.lt (show IsS167 w0 _ g s0_0 t224 t225 from mI134_1 HI0.out NB0_220.out)) : gb226 ≠ g)); replace HI0 := mS (IsS167.below (mI134_1 HI0.out NB0_220.out) hb); clear hb hbox hg; obtain ⟨Ao12, co12, eo12⟩ := Kd.R_slice HO223.out; subst eo12; have hnb13 := NB226_220.out; have hnc13 := NB220_226.out; have hnb14 := NB226_0.out; have hnc14 := NB0_226.out; have hcz15_0 := mZ BK226.out 0; have hfz15_0 := blk_frozen BK226.out 0) | ((with_reducible refine gate_callee (f := 82) rfl ?_); refine mGo 10 Try.func82 #[.pointer (some ⟨g, 0, none⟩), .int .i64 12] ?_; (with_reducible refine (spec_l1Below.calls g s0_0 t224 t225 12 t227 t228 t229 w0 _ ?side1 ?side2 A4.out).mono ?_); (case side1 => repeat (first | (with_reducible first | exact HI0.out | apply IsS167.alloc | apply IsS167.drewN | apply IsS167.drew | apply IsS167.set_1 | apply IsS167.set_2 | refine IsS167.far ?_ NB0_220.out _ | refine IsS167.far ?_ NB0_226.out _) | exact HI0.out)); (case side2 => repeat (first | (with_reducible first | exact HB.out | apply below_alloc | apply pw_below_drewN | apply below_drew1 | refine below_set ?_ (IsS167.ge HI0.out) | refine below_set ?_ GE220.out | refine below_set ?_ GE226.out) | exact HB.out)); rintro e w16 ⟨rfl, hi, hb, hk⟩; refine ⟨_, rfl, ?_⟩; replace BK220 := mS (KeepBut.blk hk (g' := gb220) (o := .cells #[.slice none 0 0] 26 (0, 0)) (mKf NB220_226.out BK220.out) NB220_0.out (by simp)); replace HO223 := mS (Kd.R_mono (Kd.R_keep (IsS167.apart (show IsS167 w0 _ g s0_0 t224 t225 from mI134_2 HI0.out NB0_220.out NB0_226.out) (by refine mR ?_; exact (Kd.R_mono (Kd.R_far (p := ⟨gb226, 0, none⟩) (Kd.R_types HO223.out BK226.out (by decide)) (fun _ hk => hk.2) (.slice Ao12 t221.length co12)) (fun _ h_ => h_.1))) (by decide)) hk (fun _ h => h.2)) (fun _ h => h.1)); replace BK226 := mS (KeepBut.blk hk (g' := gb226) (o := .cells #[.slice Ao12 t221.length co12] 26 (0, 0)) (by refine mK ?_; refine blk_put (cs := #[.slice none 0 0]) ?_ 0 _ rfl; refine mK ?_; exact BK226.out) NB226_0.out (by simp)); replace HK := mS (KeepBut.trans (mQ134_5 HK.out GW220.out GW226.out) hk (.inl rfl)); replace HB := mS (hb); replace HI0 := mS (hi); (try clear hb); (try clear hk); (try clear hi)))
   replace HO223 := mS (Kd.R_drew HO223.out)
   replace BK220 := mS (blk_drew BK220.out)
   replace BK226 := mS (blk_drew BK226.out)
   replace HI0 := mS (IsS167.drew HI0.out)
   replace HK := mS (keep_drew HK.out)
   replace HB := mS (below_drew1 HB.out)
   refine start_ (n := 11) (S := fun w' => w'.cell? ⟨gb226, 0, none⟩ = some (.slice Ao12 t221.length co12)) (ds := [10]) (mb 0 11) (by kernel_rfl) rfl rfl (mZ BK226.out 0) (fun hHeld => ?_); refine with_tabW spec_l4DrawAny.tab4 spec_l4DrawAny.bits4 (fun HT_ HW_ => ?_)
   generalize w16.drew = w17 at HO223 BK220 BK226 HI0 HK HB hHeld ⊢
   refine mpu 0 13 HT_.out (mb 1 10) ?_
   refine mpu 2 15 HT_.out (mr [1,1,1,8]) ?_
   refine mpu 4 17 HT_.out (mr [1,1,1,1,1,6]) ?_
   refine take_ (i := 1) (N := some 14) (v := ?_) (a' := ?_) (mr [3,1,1,6]) rfl rfl (take_ofW HT_.out HW_.out (by kernel_rfl)) (fun _ _ _ h => h) (Or.inl ⟨by rfl, ?_⟩) hHeld ?_ ?_
   rotate_left
   ·intro w' s0
    go_simp
    with_reducible rfl
   rotate_left
   ·simp only [Act.put, zA, zB, zC, i64_w, i32_w]
    rfl
   refine mone 3 (some 16) HT_.out (mb 5 6) (fun K hK => ?_)
   refine goes_ Try.func83 (by kernel_rfl) rfl #[.pointer (some ⟨g, 0, none⟩)] (by rfl) rfl rfl mA ?_
   with_reducible refine (spec_l4PairAny.calls g s0_0 t228 t229 t230 t231 t232 t233 t234 w0 _ ?side1 ?side2 A6.out).mono ?_
   (case side1 => repeat (first | (with_reducible first | exact HI0.out | apply IsS167.alloc | apply IsS167.drewN | apply IsS167.drew | apply IsS167.set_1 | apply IsS167.set_2 | refine IsS167.far ?_ NB0_220.out _ | refine IsS167.far ?_ NB0_226.out _) | exact HI0.out))
   (case side2 => repeat (first | (with_reducible first | exact HB.out | apply below_alloc | apply pw_below_drewN | apply below_drew1 | refine below_set ?_ (IsS167.ge HI0.out) | refine below_set ?_ GE220.out | refine below_set ?_ GE226.out) | exact HB.out))
   rintro e w18 ⟨rfl, hi, hb, hk⟩
   refine ⟨_, rfl, ?_⟩
   replace BK220 := mS (KeepBut.blk hk (g' := gb220) (o := .cells #[.slice none 0 0] 26 (0, 0)) (mK BK220.out) NB220_0.out (by simp))
   replace HO223 := mS (Kd.R_mono (Kd.R_keep (IsS167.apart (show IsS167 w0 _ g s0_0 t228 t229 from mI134_2 HI0.out NB0_220.out NB0_226.out) (mR HO223.out) (by decide)) hk (fun _ h => h.2)) (fun _ h => h.1))
   replace BK226 := mS (KeepBut.blk hk (g' := gb226) (o := .cells #[.slice Ao12 t221.length co12] 26 (0, 0)) (mK BK226.out) NB226_0.out (by simp))
   replace HK := mS (KeepBut.trans (mQ134_5 HK.out GW220.out GW226.out) hk (.inl rfl))
   replace HB := mS (hb)
   replace HI0 := mS (hi)
   (try clear hb)
   (try clear hb2)
   (try clear hk)
   (try clear hi)
   refine hK.out _ _ (mZ BK226.out 0) (fun hHeld => ?_)
   clear hK K
   refine mno 16 ?_
   refine mone 5 (some 18) HT_.out (mb 6 5) (fun K hK => ?_)
   refine goes_ Try.func82 (by kernel_rfl) rfl #[.pointer (some ⟨g, 0, none⟩), .int .i64 6] (by rfl) rfl rfl mA ?_
   with_reducible refine (spec_l1Below.calls g s0_0 t233 t234 6 t235 t236 t237 w0 _ ?side1 ?side2 A7.out).mono ?_
   (case side1 => repeat (first | (with_reducible first | exact HI0.out | apply IsS167.alloc | apply IsS167.drewN | apply IsS167.drew | apply IsS167.set_1 | apply IsS167.set_2 | refine IsS167.far ?_ NB0_220.out _ | refine IsS167.far ?_ NB0_226.out _) | exact HI0.out))
   (case side2 => repeat (first | (with_reducible first | exact HB.out | apply below_alloc | apply pw_below_drewN | apply below_drew1 | refine below_set ?_ (IsS167.ge HI0.out) | refine below_set ?_ GE220.out | refine below_set ?_ GE226.out) | exact HB.out))
   rintro e w19 ⟨rfl, hi, hb, hk⟩
   refine ⟨_, rfl, ?_⟩
   replace BK220 := mS (KeepBut.blk hk (g' := gb220) (o := .cells #[.slice none 0 0] 26 (0, 0)) (mK BK220.out) NB220_0.out (by simp))
   replace HO223 := mS (Kd.R_mono (Kd.R_keep (IsS167.apart (show IsS167 w0 _ g s0_0 t233 t234 from mI134_2 HI0.out NB0_220.out NB0_226.out) (mR HO223.out) (by decide)) hk (fun _ h => h.2)) (fun _ h => h.1))
   replace BK226 := mS (KeepBut.blk hk (g' := gb226) (o := .cells #[.slice Ao12 t221.length co12] 26 (0, 0)) (mK BK226.out) NB226_0.out (by simp))
   replace HK := mS (KeepBut.trans (mQ134_5 HK.out GW220.out GW226.out) hk (.inl rfl))
   replace HB := mS (hb)
   replace HI0 := mS (hi)
   (try clear hb)
   (try clear hb2)
   (try clear hk)
   (try clear hi)
   refine hK.out _ _ (mZ BK226.out 0) (fun hHeld => ?_)
   clear hK K
   refine mno 18 ?_
   refine mpu 6 19 HT_.out (mb 7 4) ?_
   refine mone 7 (some 20) HT_.out (mb 8 3) (fun K hK => ?_)
   refine value_ (w1 := ?_) (v := ?_) (by rfl) rfl ?_ ?_
   rotate_left 2
   ·go_simp
    constructor
    ·rfl
    ·rfl
   refine hK.out _ _ ((blk_cell (blk_alloc BK226.out _) 0).trans rfl) (fun hHeld => ?_)
   clear hK K
   refine mno 20 ?_
   refine mone 8 (some 21) HT_.out (mb 9 2) (fun K hK => ?_)
   refine Kd.R_append_step k35 w.heap.size (by rfl) (.tmp 14) (.tmp 20) 24 35 (.agg #[(.string ⟨#[]⟩), (.string ⟨#[]⟩), (.bool false), (.int .i64 0)]) 48 rfl Try.underlying24 info35 rfl (by decide) (by omega) (.slice Ao12 t221.length co12) t221 (⟨(⟨t230, t231, t232⟩ : S33), t235⟩ : S35) [.string t230, .string t231, .bool t232, .int .i64 t235] (fun _ => True) (fun _ => False) rfl rfl ?aP (fun _ hk => hk.elim) ?aF ?aO (Below.refl _ _) ?aS ?aL ?_
   (case aP => exact k35_mkM _ _ _ (⟨(⟨t230, t231, t232⟩ : S33), t235⟩ : S35))
   (case aF => exact (fun _ _ => trivial))
   (case aO => exact (mR HO223.out))
   (case aS => exact (keep_size (w := w) (g := g) (row := none) (mQ134_5 HK.out GW220.out GW226.out)))
   (case aL => have := LMc8.out; omega)
   intro v239 w20 ho hb hg hat
   rw [← Ny238.out] at ho
   replace BK220 := mS (blk_grown (g := gb220) (o := .cells #[.slice none 0 0] 26 (0, 0)) (mK BK220.out) hg (Kd.R_ne HO223.out BK220.out (by decide)))
   replace BK226 := mS (blk_grown (g := gb226) (o := .cells #[.slice Ao12 t221.length co12] 26 (0, 0)) (mK BK226.out) hg (Kd.R_ne HO223.out BK226.out (by decide)))
   replace HB := mS (below_weaken (mH134_8 HB.out (IsS167.ge HI0.out) GE220.out GE226.out) HL.out hb)
   replace HI0 := mS (IsS167.grown (mI134_2 HI0.out NB0_220.out NB0_226.out) hg (IsS167.own_ne HI0.out HO223.out (by decide)))
   replace HK := mS (KeepBut.trans (mQ134_5 HK.out GW220.out GW226.out) (KeepBut.of_grown hg g) (Kd.R_base2 HO223.out))
   have HO240 := mS (ho)
   clear HO223
   clear ho hb hg hat
   obtain ⟨Ao21, co21, eo21⟩ := Kd.R_slice HO240.out
   (first | subst eo21 | (injection eo21 with f1_ f2_ f3_; have f4_ := f1_.symm; have f5_ := f3_.symm; clear f1_ f2_ f3_; subst f4_; subst f5_))
   refine hK.out _ _ (mZ BK226.out 0) (fun hHeld => ?_)
   clear hK K
   refine mno 21 ?_
   refine mpu 9 22 HT_.out (mb 10 1) ?_
   refine last_ (i := 10) (N := none) (mb 11 0) rfl rfl (one_of HT_.out (by kernel_rfl)) (by decide) (fun K hK => ?_)
   have hs22 : w20.cell? ⟨gb226, 0, none⟩ = some (.slice Ao12 t221.length co12) := mZ BK226.out 0
   have hfs22 := blk_frozen BK226.out 0
   have hns22_0 := NB220_226.out
   have hms22_0 := NB226_220.out
   refine skip_ (w1 := ?_) (by rfl) rfl ?_ ?_
   rotate_left
   ·go_simp
    rfl
   refine hK.out _ _ ?_
   clear hK K
   refine done_ (done_of HT_.out (by kernel_rfl)) ?_
   have hcz23_0 := mZ BK226.out 0
   have hfz23_0 := blk_frozen BK226.out 0
   have hnb24 := NB220_0.out
   have hnc24 := NB0_220.out
   have hcz25_0 := mZ BK220.out 0
   have hfz25_0 := blk_frozen BK220.out 0
   try go_wp2
   refine bodyPost_ret (results_cell_row rfl _ _ gb220 26 #[.slice Ao21 y238.length co21] (0, 0) _ rfl (by refine mK ?_; refine blk_put (cs := #[.slice none 0 0]) ?_ 0 _ rfl; exact mKf NB220_226.out BK220.out) Try.underlying26 rfl (by kernel_rfl)) rfl ?_
   exact ⟨_, mEw, by refine mR ?_; exact Kd.R_mono (Kd.R_far (p := ⟨gb220, 0, none⟩) (Kd.R_far (p := ⟨gb226, 0, none⟩) (Kd.R_types (Kd.R_types HO240.out BK226.out (by decide)) BK220.out (by decide)) (fun _ hk => hk.1.2) (.slice Ao21 y238.length co21)) (fun _ hk => hk.2) (.slice Ao21 y238.length co21)) (fun _ hk => trivial), mI134_2 HI0.out NB0_220.out NB0_226.out, mH134_8 HB.out (IsS167.ge HI0.out) GE220.out GE226.out, mQ134_5 HK.out GW220.out GW226.out⟩
  ·rw [if_neg c8] at H
   exact absurd H (by simp)
 ·rw [if_neg c5] at H
  have c5b0 : (t227 == 0) = false := beq_eq_false_iff_ne.mpr c5
  have c5b1 : (t227 != 0) = true := bne_iff_ne.mpr c5
  simp only [Option.some.injEq, Prod.mk.injEq] at H
  obtain ⟨rfl, rfl, rfl⟩ := H
  go_enter Try.func79, Try.ntmps79
  go_wp2_with (first | ((with_reducible refine gate_dst (N := 4) rfl ?_); refine mBx 4 #[.slice none 0 0] 26 ?_; intro gb220 hg w26 hbox hb; replace HB := mS (below_step (mH134_6 HB.out (IsS167.ge HI0.out)) hb); have BK220 := mS (hbox); have GW220 := mS ((by rw [hg]; exact (keep_size (w := w) (g := g) (row := none) (mQ134_3 HK.out)) : w.heap.size ≤ gb220)); have GE220 := mS ((Nat.le_trans HW0.out (by rw [hg]; exact (keep_size (w := w) (g := g) (row := none) (mQ134_3 HK.out)) : w.heap.size ≤ gb220) : w0.heap.size ≤ gb220)); replace HK := mS (KeepBut.trans (mQ134_3 HK.out) (KeepBut.of_below hb g none) (.inl rfl)); have NB0_220 := mS ((by rw [hg]; exact Nat.ne_of_lt (IsS167.lt (show IsS167 w0 _ g s0_0 s0_1 s0_2 from mI134_0 HI0.out)) : g ≠ gb220)); have NB220_0 := mS ((by rw [hg]; exact Nat.ne_of_gt (IsS167.lt (show IsS167 w0 _ g s0_0 s0_1 s0_2 from mI134_0 HI0.out)) : gb220 ≠ g)); replace HI0 := mS (IsS167.below (mI134_0 HI0.out) hb); clear hb hbox hg) | ((with_reducible refine gate_callee (f := 134) rfl ?_); refine mGo 8 Try.func134 #[.pointer (some ⟨g, 0, none⟩), .int .i64 a1] ?_; (with_reducible refine (spec_l4Draw.calls k g s0_0 s0_1 s0_2 a1 t221 t224 t225 w0 _ ?side1 ?side2 A3.out).mono ?_); (case side1 => repeat (first | (with_reducible first | exact HI0.out | apply IsS167.alloc | apply IsS167.drewN | apply IsS167.drew | apply IsS167.set_1 | apply IsS167.set_2 | refine IsS167.far ?_ NB0_220.out _) | exact HI0.out)); (case side2 => repeat (first | (with_reducible first | exact HB.out | apply below_alloc | apply pw_below_drewN | apply below_drew1 | refine below_set ?_ (IsS167.ge HI0.out) | refine below_set ?_ GE220.out) | exact HB.out)); rintro e w27 ⟨v222, rfl, ho0, hi, hb, hk⟩; refine ⟨_, rfl, ?_⟩; replace BK220 := mS (KeepBut.blk hk (g' := gb220) (o := .cells #[.slice none 0 0] 26 (0, 0)) (mK BK220.out) NB220_0.out (by simp)); have HO223 := mS (Kd.R_lower ho0 (keep_size (w := w) (g := g) (row := none) (mQ134_4 HK.out GW220.out))); replace HK := mS (KeepBut.trans (mQ134_4 HK.out GW220.out) hk (.inl rfl)); replace HB := mS (hb); replace HI0 := mS (hi); (try clear hb); (try clear hk); (try clear hi); (try clear ho0)) | ((with_reducible refine gate_dst (N := 5) rfl ?_); refine mBx 5 #[.slice none 0 0] 26 ?_; intro gb226 hg w28 hbox hb; replace HO223 := mS (Kd.R_below (mR HO223.out) hb); replace HB := mS (below_step (mH134_7 HB.out (IsS167.ge HI0.out) GE220.out) hb); have BK226 := mS (hbox); have GW226 := mS ((by rw [hg]; exact (keep_size (w := w) (g := g) (row := none) (mQ134_4 HK.out GW220.out)) : w.heap.size ≤ gb226)); have GE226 := mS ((Nat.le_trans HW0.out (by rw [hg]; exact (keep_size (w := w) (g := g) (row := none) (mQ134_4 HK.out GW220.out)) : w.heap.size ≤ gb226) : w0.heap.size ≤ gb226)); replace HK := mS (KeepBut.trans (mQ134_4 HK.out GW220.out) (KeepBut.of_below hb g none) (.inl rfl)); have NB220_226 := mNl hg BK220.out; have NB226_220 := mNg hg BK220.out; replace BK220 := mB BK220 hb; have NB0_226 := mS ((by rw [hg]; exact Nat.ne_of_lt (IsS167.lt (show IsS167 w0 _ g s0_0 t224 t225 from mI134_1 HI0.out NB0_220.out)) : g ≠ gb226)); have NB226_0 := mS ((by rw [hg]; exact Nat.ne_of_gt (IsS167.lt (show IsS167 w0 _ g s0_0 t224 t225 from mI134_1 HI0.out NB0_220.out)) : gb226 ≠ g)); replace HI0 := mS (IsS167.below (mI134_1 HI0.out NB0_220.out) hb); clear hb hbox hg; obtain ⟨Ao29, co29, eo29⟩ := Kd.R_slice HO223.out; subst eo29; have hnb30 := NB226_220.out; have hnc30 := NB220_226.out; have hnb31 := NB226_0.out; have hnc31 := NB0_226.out; have hcz32_0 := mZ BK226.out 0; have hfz32_0 := blk_frozen BK226.out 0) | ((with_reducible refine gate_callee (f := 82) rfl ?_); refine mGo 10 Try.func82 #[.pointer (some ⟨g, 0, none⟩), .int .i64 12] ?_; (with_reducible refine (spec_l1Below.calls g s0_0 t224 t225 12 t227 t228 t229 w0 _ ?side1 ?side2 A4.out).mono ?_); (case side1 => repeat (first | (with_reducible first | exact HI0.out | apply IsS167.alloc | apply IsS167.drewN | apply IsS167.drew | apply IsS167.set_1 | apply IsS167.set_2 | refine IsS167.far ?_ NB0_220.out _ | refine IsS167.far ?_ NB0_226.out _) | exact HI0.out)); (case side2 => repeat (first | (with_reducible first | exact HB.out | apply below_alloc | apply pw_below_drewN | apply below_drew1 | refine below_set ?_ (IsS167.ge HI0.out) | refine below_set ?_ GE220.out | refine below_set ?_ GE226.out) | exact HB.out)); rintro e w33 ⟨rfl, hi, hb, hk⟩; refine ⟨_, rfl, ?_⟩; replace BK220 := mS (KeepBut.blk hk (g' := gb220) (o := .cells #[.slice none 0 0] 26 (0, 0)) (mKf NB220_226.out BK220.out) NB220_0.out (by simp)); replace HO223 := mS (Kd.R_mono (Kd.R_keep (IsS167.apart (show IsS167 w0 _ g s0_0 t224 t225 from mI134_2 HI0.out NB0_220.out NB0_226.out) (by refine mR ?_; exact (Kd.R_mono (Kd.R_far (p := ⟨gb226, 0, none⟩) (Kd.R_types HO223.out BK226.out (by decide)) (fun _ hk => hk.2) (.slice Ao29 t221.length co29)) (fun _ h_ => h_.1))) (by decide)) hk (fun _ h => h.2)) (fun _ h => h.1)); replace BK226 := mS (KeepBut.blk hk (g' := gb226) (o := .cells #[.slice Ao29 t221.length co29] 26 (0, 0)) (by refine mK ?_; refine blk_put (cs := #[.slice none 0 0]) ?_ 0 _ rfl; refine mK ?_; exact BK226.out) NB226_0.out (by simp)); replace HK := mS (KeepBut.trans (mQ134_5 HK.out GW220.out GW226.out) hk (.inl rfl)); replace HB := mS (hb); replace HI0 := mS (hi); (try clear hb); (try clear hk); (try clear hi); have hcz34_0 := mZ BK226.out 0; have hfz34_0 := blk_frozen BK226.out 0; have hnb35 := NB220_0.out; have hnc35 := NB0_220.out; have hcz36_0 := mZ BK220.out 0; have hfz36_0 := blk_frozen BK220.out 0))
  refine bodyPost_ret (results_cell_row rfl _ _ gb220 26 #[.slice Ao29 t221.length co29] (0, 0) _ rfl (by refine mK ?_; refine blk_put (cs := #[.slice none 0 0]) ?_ 0 _ rfl; refine mK ?_; exact BK220.out) Try.underlying26 rfl (by kernel_rfl)) rfl ?_
  exact ⟨_, mEw, by refine mR ?_; exact Kd.R_mono (Kd.R_far (p := ⟨gb220, 0, none⟩) (Kd.R_types HO223.out BK220.out (by decide)) (fun _ hk => hk.2) (.slice Ao29 t221.length co29)) (fun _ hk => trivial), mI134_2 HI0.out NB0_220.out NB0_226.out, mH134_8 HB.out (IsS167.ge HI0.out) GE220.out GE226.out, mQ134_5 HK.out GW220.out GW226.out⟩

/-! ### spec_l1Size: function 80 -/
def spec_l1Size.f (l0 : List Int) (a1 : Int) : Option (Int) := if (wrap64 (3 + (wrap64 ((l0.length : Int) / 12)))) > a1 then (some a1) else (some (wrap64 (3 + (wrap64 ((l0.length : Int) / 12)))))
set_option maxHeartbeats 8000000 in
set_option maxRecDepth 100000 in
theorem spec_l1Size.calls (A0 : Option Addr) (c0 : Nat) (l0 : List Int) (a1 : Int) (r : Int) (w : World) (hr0 : Kd.C (Kd.int .u8) w A0 l0.length l0) (hc0 : l0.length ≤ c0) (h : spec_l1Size.f l0 a1 = some r) :
  Calls Try.prog 80 #[.slice A0 l0.length c0, .int .i64 a1] w fun e w' => e = .returned (.int .i64 r) ∧ Drawn0 w w' := by
 have HR0 := mS hr0
 have HC0 := mS hc0
 clear hr0 hc0
 have H : (if (wrap64 (3 + (wrap64 ((l0.length : Int) / 12)))) > a1 then (some a1) else (some (wrap64 (3 + (wrap64 ((l0.length : Int) / 12)))))) = some r := h
 clear h
 by_cases c3 : (wrap64 (3 + (wrap64 ((l0.length : Int) / 12)))) > a1
 ·rw [if_pos c3] at H
  have c3b0 : decide (a1 < (wrap64 (3 + (wrap64 ((l0.length : Int) / 12))))) = true := decide_eq_true c3
  clear c3
  obtain rfl := Option.some.inj H
  go_enter Try.func80, Try.ntmps80
  go_wp2
  go_ret
  exact ⟨mE, by repeat (first | exact Drawn0.refl _ | apply Drawn0.step)⟩
 ·rw [if_neg c3] at H
  have c3b0 : decide (a1 < (wrap64 (3 + (wrap64 ((l0.length : Int) / 12))))) = false := decide_eq_false c3
  clear c3
  obtain rfl := Option.some.inj H
  go_enter Try.func80, Try.ntmps80
  go_wp2
  go_ret
  exact ⟨mE, by repeat (first | exact Drawn0.refl _ | apply Drawn0.step)⟩

/-! ### spec_DrawMemGet: function 73 -/
def spec_DrawMemGet.f (k : Nat) (l0 : List Int) : Option ((List (S35)) × ByteArray) := (spec_l1New.f k l0).bind fun bt242 => ((spec_l1Size.f l0 14).bind fun t246 => ((spec_l4DrawAny.f k bt242.1 bt242.2.1 bt242.2.2 t246).bind fun bt247 => ((spec_l4Key.f bt242.1 bt247.2.1 bt247.2.2).bind fun bt252 => (some (bt247.1, bt252.1)))))
theorem spec_DrawMemGet.mono : ∀ a0 k, LeO (spec_DrawMemGet.f k a0) (spec_DrawMemGet.f (k + 1) a0) := by
 intro a0 k
 unfold spec_DrawMemGet.f
 repeat' first
   | (with_reducible exact spec_l1New.mono _ _)
   | (with_reducible exact spec_l4DrawAny.mono _ _ _ _ _)
   | (with_reducible exact LeO.refl _)
   | (with_reducible exact LeO.none _)
   | (with_reducible refine LeO.ite ?_ ?_)
   | (with_reducible refine LeO.bind ?_ (fun _ => ?_))
   | exact spec_l1New.mono _ _
   | exact spec_l4DrawAny.mono _ _ _ _ _
   | exact LeO.none _
   | refine LeO.ite ?_ ?_
   | refine LeO.bind ?_ (fun _ => ?_)
set_option maxHeartbeats 8000000 in
set_option maxRecDepth 100000 in
theorem spec_DrawMemGet.calls (k : Nat) (A0 : Option Addr) (c0 : Nat) (l0 : List Int) (r1 : List (S35)) (r2 : ByteArray) (w : World) (hr0 : Kd.C (Kd.int .u8) w A0 l0.length l0) (hc0 : l0.length ≤ c0) (h : spec_DrawMemGet.f k l0 = some (r1, r2)) :
  Calls Try.prog 73 #[.slice A0 l0.length c0] w fun e w' => ∃ v0_ : Value, e = .returned (.tuple #[.agg #[v0_], .string r2]) ∧ Kd.R k35 35 w' w.heap.size (fun _ => True) v0_ r1 ∧ Below w.heap.size w w' := by
 have hu26 := Try.underlying26
 have HR0 := mS hr0
 have HC0 := mS hc0
 clear hr0 hc0
 have HB := mS (Below.refl w.heap.size w)
 have H : ((spec_l1New.f k l0).bind fun bt242 => ((spec_l1Size.f l0 14).bind fun t246 => ((spec_l4DrawAny.f k bt242.1 bt242.2.1 bt242.2.2 t246).bind fun bt247 => ((spec_l4Key.f bt242.1 bt247.2.1 bt247.2.2).bind fun bt252 => (some (bt247.1, bt252.1)))))) = some (r1, r2) := h
 clear h
 replace H := Option.bind_eq_some_iff.mp H
 obtain ⟨⟨t242, t243, t244⟩, A20, H⟩ := H
 replace H : ((spec_l1Size.f l0 14).bind fun t246 => ((spec_l4DrawAny.f k t242 t243 t244 t246).bind fun bt247 => ((spec_l4Key.f t242 bt247.2.1 bt247.2.2).bind fun bt252 => (some (bt247.1, bt252.1))))) = some (r1, r2) := H
 have A2 := mS A20
 clear A20
 replace H := Option.bind_eq_some_iff.mp H
 obtain ⟨t246, A30, H⟩ := H
 replace H : ((spec_l4DrawAny.f k t242 t243 t244 t246).bind fun bt247 => ((spec_l4Key.f t242 bt247.2.1 bt247.2.2).bind fun bt252 => (some (bt247.1, bt252.1)))) = some (r1, r2) := H
 have A3 := mS A30
 clear A30
 replace H := Option.bind_eq_some_iff.mp H
 obtain ⟨⟨t247, t250, t251⟩, A40, H⟩ := H
 replace H : ((spec_l4Key.f t242 t250 t251).bind fun bt252 => (some (t247, bt252.1))) = some (r1, r2) := H
 have A4 := mS A40
 clear A40
 replace H := Option.bind_eq_some_iff.mp H
 obtain ⟨⟨t252, t253, t254⟩, A50, H⟩ := H
 replace H : (some (t247, t252)) = some (r1, r2) := H
 have A5 := mS A50
 clear A50
 simp only [Option.some.injEq, Prod.mk.injEq] at H
 obtain ⟨rfl, rfl⟩ := H
 go_enter Try.func73, Try.ntmps73
 go_wp2_with (first | ((with_reducible refine gate_dst (N := 2) rfl ?_); refine mBx 2 #[.slice none 0 0] 26 ?_; intro gb241 hg w6 hbox hb; have BK241 := mS (hbox); have GW241 := mG hg (mH HB.out); have GE241 := mG hg (mH HB.out); replace HB := mS (below_step (mH HB.out) hb); clear hb hbox hg) | ((with_reducible refine gate_callee (f := 78) rfl ?_); refine mGo 6 Try.func78 #[.slice A0 l0.length c0] ?_; (with_reducible refine (spec_l1New.calls k _ _ l0 t242 t243 t244 w _ ?side1 ?side2 ?side3 A2.out).mono ?_); (case side1 => exact mH1 HB.out GE241.out); (case side2 => exact HR0.out); (case side3 => exact HC0.out); rintro e w7 ⟨g245, rfl, hi, hb, hb2⟩; refine ⟨_, rfl, ?_⟩; replace HB := mS (hb); have HI245 := mS (hi); have NB245_241 := mS (IsS167.ne_blk hi (mKb BK241.out hb2) (by decide)); have NB241_245 := mS (Ne.symm (IsS167.ne_blk hi (mKb BK241.out hb2) (by decide))); replace BK241 := mB BK241 hb2; (try clear hb); (try clear hb2); (try clear hi)) | ((with_reducible refine gate_callee (f := 80) rfl ?_); refine mGo 9 Try.func80 #[.slice A0 l0.length c0, .int .i64 14] ?_; (with_reducible refine (spec_l1Size.calls _ _ l0 14 t246 _ ?side1 ?side2 A3.out).mono ?_); (case side1 => exact mC (Kd.C_below HR0.out HB.out)); (case side2 => exact HC0.out); rintro e w' ⟨rfl, ⟨nd, rfl⟩⟩; refine ⟨_, rfl, ?_⟩; (try (rw [drewN_self w7]; generalize hq_ : World.drewN w7 _ = w7; have n0_ : Aside0 (w7.heap[gb241]? = some (.cells #[.slice none 0 0] 26 (0, 0))) := ⟨by rw [← hq_]; exact (mK BK241.out)⟩; have n1_ : Aside0 (IsS167 w w7 g245 t242 t243 t244) := ⟨by rw [← hq_]; exact (mI134_1 HI245.out NB245_241.out)⟩; have n2_ : Aside0 (Below w.heap.size w w7) := ⟨by rw [← hq_]; exact (mH134_7 HB.out (IsS167.ge HI245.out) GE241.out)⟩; clear BK241 HI245 HB hq_; have BK241 := n0_; have HI245 := n1_; have HB := n2_; clear n0_ n1_ n2_))) | ((with_reducible refine gate_callee (f := 79) rfl ?_); refine mGo 10 Try.func79 #[.pointer (some ⟨g245, 0, none⟩), .int .i64 t246] ?_; (with_reducible refine (spec_l4DrawAny.calls k g245 t242 t243 t244 t246 t247 t250 t251 w _ ?side1 ?side2 A4.out).mono ?_); (case side1 => repeat (first | (with_reducible first | exact HI245.out | apply IsS167.alloc | apply IsS167.drewN | apply IsS167.drew | apply IsS167.set_1 | apply IsS167.set_2 | refine IsS167.far ?_ NB245_241.out _) | exact HI245.out)); (case side2 => repeat (first | (with_reducible first | exact HB.out | apply below_alloc | apply pw_below_drewN | apply below_drew1 | refine below_set ?_ (IsS167.ge HI245.out) | refine below_set ?_ GE241.out) | exact HB.out)); rintro e w8 ⟨v248, rfl, ho0, hi, hb, hk⟩; refine ⟨_, rfl, ?_⟩; replace BK241 := mS (KeepBut.blk hk (g' := gb241) (o := .cells #[.slice none 0 0] 26 (0, 0)) (mK BK241.out) NB241_245.out (by simp)); have HO249 := mS (Kd.R_lower ho0 (below_size (mH134_7 HB.out (IsS167.ge HI245.out) GE241.out))); replace HB := mS (hb); replace HI245 := mS (hi); (try clear hb); (try clear hk); (try clear hi); (try clear ho0)) | ((with_reducible refine gate_callee (f := 133) rfl ?_); refine mGo 12 Try.func133 #[.pointer (some ⟨g245, 0, none⟩)] ?_; (with_reducible refine (spec_l4Key.calls g245 t242 t250 t251 t252 t253 t254 w _ ?side1 ?side2 A5.out).mono ?_); (case side1 => repeat (first | (with_reducible first | exact HI245.out | apply IsS167.alloc | apply IsS167.drewN | apply IsS167.drew | apply IsS167.set_1 | apply IsS167.set_2 | refine IsS167.far ?_ NB245_241.out _) | exact HI245.out)); (case side2 => repeat (first | (with_reducible first | exact HB.out | apply below_alloc | apply pw_below_drewN | apply below_drew1 | refine below_set ?_ (IsS167.ge HI245.out) | refine below_set ?_ GE241.out) | exact HB.out)); rintro e w9 ⟨rfl, hi, hb, hk⟩; refine ⟨_, rfl, ?_⟩; replace BK241 := mS (KeepBut.blk hk (g' := gb241) (o := .cells #[.slice none 0 0] 26 (0, 0)) (mK BK241.out) NB241_245.out (by simp)); replace HO249 := mS (Kd.R_mono (Kd.R_keep (IsS167.apart (show IsS167 w _ g245 t242 t250 t251 from mI134_1 HI245.out NB245_241.out) (mR HO249.out) (by decide)) hk (fun _ h => h.2)) (fun _ h => h.1)); replace HB := mS (hb); replace HI245 := mS (hi); (try clear hb); (try clear hk); (try clear hi); obtain ⟨Ao10, co10, eo10⟩ := Kd.R_slice HO249.out; subst eo10; have hnb11 := NB241_245.out; have hnc11 := NB245_241.out; have hcz12_0 := mZ BK241.out 0; have hfz12_0 := blk_frozen BK241.out 0))
 refine bodyPost_ret (results_ct rfl _ _ gb241 26 #[.slice Ao10 t247.length co10] (0, 0) _ rfl (by refine mK ?_; refine blk_put (cs := #[.slice none 0 0]) ?_ 0 _ rfl; refine mK ?_; exact BK241.out) Try.underlying26 rfl (by kernel_rfl)) rfl ?_
 exact ⟨_, mEw, by refine mR ?_; exact Kd.R_mono (Kd.R_far (p := ⟨gb241, 0, none⟩) (Kd.R_types HO249.out BK241.out (by decide)) (fun _ hk => hk.2) (.slice Ao10 t247.length co10)) (fun _ hk => trivial), mH134_7 HB.out (IsS167.ge HI245.out) GE241.out⟩

/-! ### spec_DrawLeaps: function 15 -/
def spec_DrawLeaps.f (k : Nat) (l0 : List Int) : Option ((List (S35)) × ByteArray) := (spec_DrawMemGet.f k l0).bind fun bt256 => (some (bt256.1, bt256.2))
theorem spec_DrawLeaps.mono : ∀ a0 k, LeO (spec_DrawLeaps.f k a0) (spec_DrawLeaps.f (k + 1) a0) := by
 intro a0 k
 unfold spec_DrawLeaps.f
 repeat' first
   | (with_reducible exact spec_DrawMemGet.mono _ _)
   | (with_reducible exact LeO.refl _)
   | (with_reducible exact LeO.none _)
   | (with_reducible refine LeO.ite ?_ ?_)
   | (with_reducible refine LeO.bind ?_ (fun _ => ?_))
   | exact spec_DrawMemGet.mono _ _
   | exact LeO.none _
   | refine LeO.ite ?_ ?_
   | refine LeO.bind ?_ (fun _ => ?_)
set_option maxHeartbeats 8000000 in
set_option maxRecDepth 100000 in
theorem spec_DrawLeaps.calls (k : Nat) (A0 : Option Addr) (c0 : Nat) (l0 : List Int) (r1 : List (S35)) (r2 : ByteArray) (w : World) (hr0 : Kd.C (Kd.int .u8) w A0 l0.length l0) (hc0 : l0.length ≤ c0) (h : spec_DrawLeaps.f k l0 = some (r1, r2)) :
  Calls Try.prog 15 #[.slice A0 l0.length c0] w fun e w' => ∃ v0_ : Value, e = .returned (.tuple #[.agg #[v0_], .string r2]) ∧ Kd.R k35 35 w' w.heap.size (fun _ => True) v0_ r1 ∧ Below w.heap.size w w' := by
 have hu26 := Try.underlying26
 have HR0 := mS hr0
 have HC0 := mS hc0
 clear hr0 hc0
 have HB := mS (Below.refl w.heap.size w)
 have H : ((spec_DrawMemGet.f k l0).bind fun bt256 => (some (bt256.1, bt256.2))) = some (r1, r2) := h
 clear h
 replace H := Option.bind_eq_some_iff.mp H
 obtain ⟨⟨t256, t259⟩, A20, H⟩ := H
 replace H : (some (t256, t259)) = some (r1, r2) := H
 have A2 := mS A20
 clear A20
 simp only [Option.some.injEq, Prod.mk.injEq] at H
 obtain ⟨rfl, rfl⟩ := H
 go_enter Try.func15, Try.ntmps15
 go_wp2_with (first | ((with_reducible refine gate_dst (N := 2) rfl ?_); refine mBx 2 #[.slice none 0 0] 26 ?_; intro gb255 hg w3 hbox hb; have BK255 := mS (hbox); have GW255 := mG hg (mH HB.out); have GE255 := mG hg (mH HB.out); replace HB := mS (below_step (mH HB.out) hb); clear hb hbox hg) | ((with_reducible refine gate_callee (f := 73) rfl ?_); refine mGo 5 Try.func73 #[.slice A0 l0.length c0] ?_; (with_reducible refine (spec_DrawMemGet.calls k _ _ l0 t256 t259 _ ?side1 ?side2 A2.out).mono ?_); (case side1 => exact mC (Kd.C_below HR0.out HB.out)); (case side2 => exact HC0.out); rintro e w4 ⟨v257, rfl, ho0, hb⟩; refine ⟨_, rfl, ?_⟩; have HO258 := mS (Kd.R_lower ho0 (below_size (mH1 HB.out GE255.out))); replace BK255 := mB BK255 hb; replace HB := mS (below_step (mH1 HB.out GE255.out) hb); (try clear hb); (try clear ho0); obtain ⟨Ao5, co5, eo5⟩ := Kd.R_slice HO258.out; subst eo5; have hcz6_0 := mZ BK255.out 0; have hfz6_0 := blk_frozen BK255.out 0))
 refine bodyPost_ret (results_ct rfl _ _ gb255 26 #[.slice Ao5 t256.length co5] (0, 0) _ rfl (by refine mK ?_; refine blk_put (cs := #[.slice none 0 0]) ?_ 0 _ rfl; refine mK ?_; exact BK255.out) Try.underlying26 rfl (by kernel_rfl)) rfl ?_
 exact ⟨_, mEw, by refine mR ?_; exact Kd.R_mono (Kd.R_far (p := ⟨gb255, 0, none⟩) (Kd.R_types HO258.out BK255.out (by decide)) (fun _ hk => hk.2) (.slice Ao5 t256.length co5)) (fun _ hk => trivial), (mH1 HB.out GE255.out)⟩

end Go.Proofs.Ytbepbgfkajnlbaa.MFnLeaps
