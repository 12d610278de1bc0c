-- Written by mp.py, this session's own printer (wip/mp.py).
import Derived.Test.YtgbejjeephipeaaVMShort
import Derived.Test.YtgbejjeephipeaaMFnStablex0
import Derived.Test.YtgbejjeephipeaaMFnStablex1
import Derived.Test.YtgbejjeephipeaaMFnStablex2
import Derived.Test.YtgbejjeephipeaaMFnStablex6
namespace Go.Proofs.Ytgbejjeephipeaa.MFnStable
open Go.RowKit Go.Proofs.YtgbejjeephipeaaW.PrintWords Go.Proofs.YtgbejjeephipeaaW.PrintLast Go.Proofs.YtgbejjeephipeaaW.PrintMore Go.Proofs.Ytgbejjeephipeaa.MWords
theorem mI125_0 {p q : Prop} (x : q) (h : q → p := by intro h_; repeat (first | (with_reducible first | exact h_ | apply IsS133.alloc | apply IsS133.drewN | apply IsS133.drew | apply IsS133.set_1 | apply IsS133.set_2) | exact h_)) : p := h x
theorem mI125_1 {p q a0 : Prop} (x : q) (g0 : a0) (h : q → a0 → p := by intro h_ g0_; repeat (first | (with_reducible first | exact h_ | apply IsS133.alloc | apply IsS133.drewN | apply IsS133.drew | apply IsS133.set_1 | apply IsS133.set_2 | refine IsS133.far ?_ g0_ _) | exact h_)) : p := h x g0
theorem mI125_2 {p q a0 a1 : Prop} (x : q) (g0 : a0) (g1 : a1) (h : q → a0 → a1 → p := by intro h_ g0_ g1_; repeat (first | (with_reducible first | exact h_ | apply IsS133.alloc | apply IsS133.drewN | apply IsS133.drew | apply IsS133.set_1 | apply IsS133.set_2 | refine IsS133.far ?_ g0_ _ | refine IsS133.far ?_ g1_ _) | exact h_)) : p := h x g0 g1
theorem mI125_3 {p q a0 a1 a2 : Prop} (x : q) (g0 : a0) (g1 : a1) (g2 : a2) (h : q → a0 → a1 → a2 → p := by intro h_ g0_ g1_ g2_; repeat (first | (with_reducible first | exact h_ | apply IsS133.alloc | apply IsS133.drewN | apply IsS133.drew | apply IsS133.set_1 | apply IsS133.set_2 | refine IsS133.far ?_ g0_ _ | refine IsS133.far ?_ g1_ _ | refine IsS133.far ?_ g2_ _) | exact h_)) : p := h x g0 g1 g2
theorem mI125_4 {p q a0 a1 a2 a3 : Prop} (x : q) (g0 : a0) (g1 : a1) (g2 : a2) (g3 : a3) (h : q → a0 → a1 → a2 → a3 → p := by intro h_ g0_ g1_ g2_ g3_; repeat (first | (with_reducible first | exact h_ | apply IsS133.alloc | apply IsS133.drewN | apply IsS133.drew | apply IsS133.set_1 | apply IsS133.set_2 | refine IsS133.far ?_ g0_ _ | refine IsS133.far ?_ g1_ _ | refine IsS133.far ?_ g2_ _ | refine IsS133.far ?_ g3_ _) | exact h_)) : p := h x g0 g1 g2 g3
theorem mQ125_5 {p q : Prop} (x : q) (h : q → p := by intro h_; repeat (first | (with_reducible first | exact h_ | apply KeepBut.set_ | apply keep_drewN | apply keep_drew | apply keep_alloc) | exact h_)) : p := h x
theorem mQ125_6 {p q a0 : Prop} (x : q) (g0 : a0) (h : q → a0 → p := by intro h_ g0_; repeat (first | (with_reducible first | exact h_ | apply KeepBut.set_ | apply keep_drewN | apply keep_drew | apply keep_alloc | refine keep_far ?_ g0_ _) | exact h_)) : p := h x g0
theorem mQ125_7 {p q a0 a1 : Prop} (x : q) (g0 : a0) (g1 : a1) (h : q → a0 → a1 → p := by intro h_ g0_ g1_; repeat (first | (with_reducible first | exact h_ | apply KeepBut.set_ | apply keep_drewN | apply keep_drew | apply keep_alloc | refine keep_far ?_ g0_ _ | refine keep_far ?_ g1_ _) | exact h_)) : p := h x g0 g1
theorem mQ125_8 {p q a0 a1 a2 : Prop} (x : q) (g0 : a0) (g1 : a1) (g2 : a2) (h : q → a0 → a1 → a2 → p := by intro h_ g0_ g1_ g2_; repeat (first | (with_reducible first | exact h_ | apply KeepBut.set_ | apply keep_drewN | apply keep_drew | apply keep_alloc | refine keep_far ?_ g0_ _ | refine keep_far ?_ g1_ _ | refine keep_far ?_ g2_ _) | exact h_)) : p := h x g0 g1 g2
theorem mQ125_9 {p q a0 a1 a2 a3 : Prop} (x : q) (g0 : a0) (g1 : a1) (g2 : a2) (g3 : a3) (h : q → a0 → a1 → a2 → a3 → p := by intro h_ g0_ g1_ g2_ g3_; repeat (first | (with_reducible first | exact h_ | apply KeepBut.set_ | apply keep_drewN | apply keep_drew | apply keep_alloc | refine keep_far ?_ g0_ _ | refine keep_far ?_ g1_ _ | refine keep_far ?_ g2_ _ | refine keep_far ?_ g3_ _) | exact h_)) : p := h x g0 g1 g2 g3
theorem mH125_10 {p q a0 : Prop} (x : q) (g0 : a0) (h : q → a0 → p := by intro h_ g0_; repeat (first | (with_reducible first | exact h_ | apply below_alloc | apply pw_below_drewN | apply below_drew1 | refine below_set ?_ g0_) | exact h_)) : p := h x g0
theorem mH125_11 {p q a0 a1 : Prop} (x : q) (g0 : a0) (g1 : a1) (h : q → a0 → a1 → p := by intro h_ g0_ g1_; repeat (first | (with_reducible first | exact h_ | apply below_alloc | apply pw_below_drewN | apply below_drew1 | refine below_set ?_ g0_ | refine below_set ?_ g1_) | exact h_)) : p := h x g0 g1
theorem mH125_12 {p q a0 a1 a2 : Prop} (x : q) (g0 : a0) (g1 : a1) (g2 : a2) (h : q → a0 → a1 → a2 → p := by intro h_ g0_ g1_ g2_; repeat (first | (with_reducible first | exact h_ | apply below_alloc | apply pw_below_drewN | apply below_drew1 | refine below_set ?_ g0_ | refine below_set ?_ g1_ | refine below_set ?_ g2_) | exact h_)) : p := h x g0 g1 g2
theorem mH125_13 {p q a0 a1 a2 a3 : Prop} (x : q) (g0 : a0) (g1 : a1) (g2 : a2) (g3 : a3) (h : q → a0 → a1 → a2 → a3 → p := by intro h_ g0_ g1_ g2_ g3_; repeat (first | (with_reducible first | exact h_ | apply below_alloc | apply pw_below_drewN | apply below_drew1 | refine below_set ?_ g0_ | refine below_set ?_ g1_ | refine below_set ?_ g2_ | refine below_set ?_ g3_) | exact h_)) : p := h x g0 g1 g2 g3
theorem mH125_14 {p q a0 a1 a2 a3 a4 : Prop} (x : q) (g0 : a0) (g1 : a1) (g2 : a2) (g3 : a3) (g4 : a4) (h : q → a0 → a1 → a2 → a3 → a4 → p := by intro h_ g0_ g1_ g2_ g3_ g4_; repeat (first | (with_reducible first | exact h_ | apply below_alloc | apply pw_below_drewN | apply below_drew1 | refine below_set ?_ g0_ | refine below_set ?_ g1_ | refine below_set ?_ g2_ | refine below_set ?_ g3_ | refine below_set ?_ g4_) | exact h_)) : p := h x g0 g1 g2 g3 g4
attribute [local go_sem] max2_int min2_int max_two min_two max_three min_three max_four min_four   -- for this text's walks alone
set_option linter.unusedVariables false
set_option linter.unusedSimpArgs false

attribute [local go_sem high] eqA31
/-! ### spec_l1Byte: function 125 -/
def spec_l1Byte.f (s0_0 : List Int) (s0_1 : Int) (s0_2 : Int) : Option (Int × Int × Int) := if s0_1 < (s0_0.length : Int) then (if 0 ≤ s0_1 then (some (Go.bits .and .i64 (wrap64 ((Go.bits .and .i64 (Go.bits .xor .i64 ((wrap64 ((wrap64 (s0_2 * 6364136223846793005)) + 1442695040888963407)) / 8589934592) ((wrap64 ((wrap64 (s0_2 * 6364136223846793005)) + 1442695040888963407)) / 140737488355328)) 255) + (wrap64 (rd s0_0 s0_1)))) 255, wrap64 (s0_1 + 1), wrap64 ((wrap64 (s0_2 * 6364136223846793005)) + 1442695040888963407))) else (none)) else (some (Go.bits .and .i64 (Go.bits .xor .i64 ((wrap64 ((wrap64 (s0_2 * 6364136223846793005)) + 1442695040888963407)) / 8589934592) ((wrap64 ((wrap64 (s0_2 * 6364136223846793005)) + 1442695040888963407)) / 140737488355328)) 255, s0_1, wrap64 ((wrap64 (s0_2 * 6364136223846793005)) + 1442695040888963407)))
set_option maxHeartbeats 8000000 in
set_option maxRecDepth 100000 in
theorem spec_l1Byte.calls (g : Nat) (s0_0 : List Int) (s0_1 : Int) (s0_2 : Int) (r1 : Int) (r2 : Int) (r3 : Int) (w0 w : World) (hI : IsS133 w0 w g s0_0 s0_1 s0_2) (hB : Below w0.heap.size w0 w) (h : spec_l1Byte.f s0_0 s0_1 s0_2 = some (r1, r2, r3)) :
  Calls Try.prog 125 #[.pointer (some ⟨g, 0, none⟩)] w fun e w' => e = .returned (.int .i64 r1) ∧ IsS133 w0 w' g s0_0 r2 r3 ∧ Below w0.heap.size w0 w' ∧ KeepBut w w' g none := by
 have HI0 := mS hI
 have HK := mS (KeepBut.refl w g none)
 have HL := mS hB.size
 clear hI
 have HW0 := mS hB.size
 have HB := mS hB
 clear hB
 have H : (if s0_1 < (s0_0.length : Int) then (if 0 ≤ s0_1 then (some (Go.bits .and .i64 (wrap64 ((Go.bits .and .i64 (Go.bits .xor .i64 ((wrap64 ((wrap64 (s0_2 * 6364136223846793005)) + 1442695040888963407)) / 8589934592) ((wrap64 ((wrap64 (s0_2 * 6364136223846793005)) + 1442695040888963407)) / 140737488355328)) 255) + (wrap64 (rd s0_0 s0_1)))) 255, wrap64 (s0_1 + 1), wrap64 ((wrap64 (s0_2 * 6364136223846793005)) + 1442695040888963407))) else (none)) else (some (Go.bits .and .i64 (Go.bits .xor .i64 ((wrap64 ((wrap64 (s0_2 * 6364136223846793005)) + 1442695040888963407)) / 8589934592) ((wrap64 ((wrap64 (s0_2 * 6364136223846793005)) + 1442695040888963407)) / 140737488355328)) 255, s0_1, wrap64 ((wrap64 (s0_2 * 6364136223846793005)) + 1442695040888963407)))) = some (r1, r2, r3) := h
 clear h
 by_cases c2 : s0_1 < (s0_0.length : Int)
 ·rw [if_pos c2] at H
  have c2b0 := decide_eq_true c2
  clear c2
  by_cases c3 : 0 ≤ s0_1
  ·rw [if_pos c3] at H
   have c3b0 := decide_eq_true c3
   clear c3
   simp only [Option.some.injEq, Prod.mk.injEq] at H
   obtain ⟨rfl, rfl, rfl⟩ := H
   obtain ⟨ASz4_0, cSz4_0, HGz4, hgz4, HSz4_0⟩ := HI0.out
   have hcz4_0 := cellS133_0 HGz4
   have hcz4_1 := cellS133_1 HGz4
   have hcz4_2 := cellS133_2 HGz4
   have hfz4_1 := blk_frozen HGz4 1
   have hfz4_2 := blk_frozen HGz4 2
   clear HGz4 hgz4
   have p193 : 0 ≤ (s0_1 : Int) := mD
   have q193 : s0_1 < (s0_0.length : Int) := mD
   obtain ⟨ad193, e193, hx193_0⟩ := Kd.at_int HSz4_0 s0_1 p193 q193
   cases e193
   have hn193_0 : ad193.block ≠ g := Nat.ne_of_lt (Nat.lt_of_lt_of_le (by have := World.block_lt_of_cell? _ _ hx193_0; first | rwa [add_block] at this | exact this) (IsS133.ge HI0.out))
   replace hx193_0 := pw_cell_below HB.out hx193_0
   replace hx193_0 := (cell_far (p := ⟨g, 2, none⟩) (by first | (rw [add_block]; exact hn193_0) | (show (Addr.add _ _).block ≠ _; rw [add_block]; exact hn193_0) | exact hn193_0) (.int .i64 (wrap64 ((wrap64 (s0_2 * 6364136223846793005)) + 1442695040888963407)))).trans hx193_0
   (try have hy193_0 := fun (n_ : Nat) => (show (((w.drewN n_).setCell ⟨g, 2, none⟩ (.int .i64 (wrap64 ((wrap64 (s0_2 * 6364136223846793005)) + 1442695040888963407))))).cell? _ = some _ from hx193_0))
   clear hn193_0
   replace p193 := eq_true p193
   replace q193 := eq_true q193
   go_enter Try.func125, Try.ntmps125
   go_wp2
   repeat (go_quiet (fail); try go_wp2)
   go_ret
   exact ⟨mEw, mI125_0 HI0.out, mH125_10 HB.out (IsS133.ge HI0.out), mQ125_5 HK.out⟩
  ·rw [if_neg c3] at H
   exact absurd H (by simp)
 ·rw [if_neg c2] at H
  have c2b0 := decide_eq_false c2
  clear c2
  simp only [Option.some.injEq, Prod.mk.injEq] at H
  obtain ⟨rfl, rfl, rfl⟩ := H
  obtain ⟨ASz5_0, cSz5_0, HGz5, hgz5, HSz5_0⟩ := HI0.out
  have hcz5_0 := cellS133_0 HGz5
  have hcz5_1 := cellS133_1 HGz5
  have hcz5_2 := cellS133_2 HGz5
  have hfz5_1 := blk_frozen HGz5 1
  have hfz5_2 := blk_frozen HGz5 2
  clear HGz5 hgz5
  go_enter Try.func125, Try.ntmps125
  go_wp2
  repeat (go_quiet (fail); try go_wp2)
  go_ret
  exact ⟨mEw, mI125_0 HI0.out, mH125_10 HB.out (IsS133.ge HI0.out), mQ125_5 HK.out⟩

/-! ### spec_l1Below: function 111 -/
def spec_l1Below.f (s0_0 : List Int) (s0_1 : Int) (s0_2 : Int) (a1 : Int) : Option (Int × Int × Int) := if a1 ≤ 0 then (some (0, s0_1, s0_2)) else (if a1 ≤ 256 then ((spec_l1Byte.f s0_0 s0_1 s0_2).bind fun bt194 => (if a1 = 0 then (none) else (some (Int.tmod bt194.1 a1, bt194.2.1, bt194.2.2)))) else ((spec_l1Byte.f s0_0 s0_1 s0_2).bind fun bt197 => ((spec_l1Byte.f s0_0 bt197.2.1 bt197.2.2).bind fun bt200 => ((spec_l1Byte.f s0_0 bt200.2.1 bt200.2.2).bind fun bt203 => (if a1 = 0 then (none) else (some (Int.tmod (wrap64 ((wrap64 ((wrap64 (bt197.1 * 65536)) + (wrap64 (bt200.1 * 256)))) + bt203.1)) a1, bt203.2.1, bt203.2.2)))))))
set_option maxHeartbeats 8000000 in
set_option maxRecDepth 100000 in
theorem spec_l1Below.calls (g : Nat) (s0_0 : List Int) (s0_1 : Int) (s0_2 : Int) (a1 : Int) (r1 : Int) (r2 : Int) (r3 : Int) (w0 w : World) (hI : IsS133 w0 w g s0_0 s0_1 s0_2) (hB : Below w0.heap.size w0 w) (h : spec_l1Below.f s0_0 s0_1 s0_2 a1 = some (r1, r2, r3)) :
  Calls Try.prog 111 #[.pointer (some ⟨g, 0, none⟩), .int .i64 a1] w fun e w' => e = .returned (.int .i64 r1) ∧ IsS133 w0 w' g s0_0 r2 r3 ∧ Below w0.heap.size w0 w' ∧ KeepBut w w' g none := by
 have HI0 := mS hI
 have HK := mS (KeepBut.refl w g none)
 have HL := mS hB.size
 clear hI
 have HW0 := mS hB.size
 have HB := mS hB
 clear hB
 have H : (if a1 ≤ 0 then (some (0, s0_1, s0_2)) else (if a1 ≤ 256 then ((spec_l1Byte.f s0_0 s0_1 s0_2).bind fun bt194 => (if a1 = 0 then (none) else (some (Int.tmod bt194.1 a1, bt194.2.1, bt194.2.2)))) else ((spec_l1Byte.f s0_0 s0_1 s0_2).bind fun bt197 => ((spec_l1Byte.f s0_0 bt197.2.1 bt197.2.2).bind fun bt200 => ((spec_l1Byte.f s0_0 bt200.2.1 bt200.2.2).bind fun bt203 => (if a1 = 0 then (none) else (some (Int.tmod (wrap64 ((wrap64 ((wrap64 (bt197.1 * 65536)) + (wrap64 (bt200.1 * 256)))) + bt203.1)) a1, bt203.2.1, bt203.2.2)))))))) = some (r1, r2, r3) := h
 clear h
 by_cases c3 : a1 ≤ 0
 ·rw [if_pos c3] at H
  have c3b0 := decide_eq_true c3
  clear c3
  simp only [Option.some.injEq, Prod.mk.injEq] at H
  obtain ⟨rfl, rfl, rfl⟩ := H
  go_enter Try.func111, Try.ntmps111
  go_wp2
  go_ret
  exact ⟨mEw, mI125_0 HI0.out, mH125_10 HB.out (IsS133.ge HI0.out), mQ125_5 HK.out⟩
 ·rw [if_neg c3] at H
  have c3b0 := decide_eq_false c3
  clear c3
  by_cases c4 : a1 ≤ 256
  ·rw [if_pos c4] at H
   have c4b0 := decide_eq_true c4
   clear c4
   replace H := Option.bind_eq_some_iff.mp H
   obtain ⟨⟨t194, t195, t196⟩, A50, H⟩ := H
   replace H : (if a1 = 0 then (none) else (some (Int.tmod t194 a1, t195, t196))) = some (r1, r2, r3) := H
   have A5 := mS A50
   clear A50
   by_cases c6 : a1 = 0
   ·rw [if_pos c6] at H
    exact absurd H (by simp)
   ·rw [if_neg c6] at H
    have c6b0 : (a1 == 0) = false := beq_eq_false_iff_ne.mpr c6
    have c6b1 : (a1 != 0) = true := bne_iff_ne.mpr c6
    simp only [Option.some.injEq, Prod.mk.injEq] at H
    obtain ⟨rfl, rfl, rfl⟩ := H
    go_enter Try.func111, Try.ntmps111
    go_wp2_with (first | ((with_reducible refine gate_callee (f := 125) rfl ?_); refine mGo 13 Try.func125 #[.pointer (some ⟨g, 0, none⟩)] ?_; (with_reducible refine (spec_l1Byte.calls g s0_0 s0_1 s0_2 t194 t195 t196 w0 _ ?side1 ?side2 A5.out).mono ?_); (case side1 => repeat (first | (with_reducible first | exact HI0.out | apply IsS133.alloc | apply IsS133.drewN | apply IsS133.drew | apply IsS133.set_1 | apply IsS133.set_2) | exact HI0.out)); (case side2 => repeat (first | (with_reducible first | exact HB.out | apply below_alloc | apply pw_below_drewN | apply below_drew1 | refine below_set ?_ (IsS133.ge HI0.out)) | exact HB.out)); rintro e w7 ⟨rfl, hi, hb, hk⟩; refine ⟨_, rfl, ?_⟩; replace HK := mS (KeepBut.trans (mQ125_5 HK.out) hk (.inl rfl)); replace HB := mS (hb); replace HI0 := mS (hi); (try clear hb); (try clear hk); (try clear hi)))
    go_ret
    exact ⟨mEw, mI125_0 HI0.out, mH125_10 HB.out (IsS133.ge HI0.out), mQ125_5 HK.out⟩
  ·rw [if_neg c4] at H
   have c4b0 := decide_eq_false c4
   clear c4
   replace H := Option.bind_eq_some_iff.mp H
   obtain ⟨⟨t197, t198, t199⟩, A80, H⟩ := H
   replace H : ((spec_l1Byte.f s0_0 t198 t199).bind fun bt200 => ((spec_l1Byte.f s0_0 bt200.2.1 bt200.2.2).bind fun bt203 => (if a1 = 0 then (none) else (some (Int.tmod (wrap64 ((wrap64 ((wrap64 (t197 * 65536)) + (wrap64 (bt200.1 * 256)))) + bt203.1)) a1, bt203.2.1, bt203.2.2))))) = some (r1, r2, r3) := H
   have A8 := mS A80
   clear A80
   replace H := Option.bind_eq_some_iff.mp H
   obtain ⟨⟨t200, t201, t202⟩, A90, H⟩ := H
   replace H : ((spec_l1Byte.f s0_0 t201 t202).bind fun bt203 => (if a1 = 0 then (none) else (some (Int.tmod (wrap64 ((wrap64 ((wrap64 (t197 * 65536)) + (wrap64 (t200 * 256)))) + bt203.1)) a1, bt203.2.1, bt203.2.2)))) = some (r1, r2, r3) := H
   have A9 := mS A90
   clear A90
   replace H := Option.bind_eq_some_iff.mp H
   obtain ⟨⟨t203, t204, t205⟩, A100, H⟩ := H
   replace H : (if a1 = 0 then (none) else (some (Int.tmod (wrap64 ((wrap64 ((wrap64 (t197 * 65536)) + (wrap64 (t200 * 256)))) + t203)) a1, t204, t205))) = some (r1, r2, r3) := H
   have A10 := mS A100
   clear A100
   by_cases c11 : a1 = 0
   ·rw [if_pos c11] at H
    exact absurd H (by simp)
   ·rw [if_neg c11] at H
    have c11b0 : (a1 == 0) = false := beq_eq_false_iff_ne.mpr c11
    have c11b1 : (a1 != 0) = true := bne_iff_ne.mpr c11
    simp only [Option.some.injEq, Prod.mk.injEq] at H
    obtain ⟨rfl, rfl, rfl⟩ := H
    go_enter Try.func111, Try.ntmps111
    go_wp2_with (first | ((with_reducible refine gate_callee (f := 125) rfl ?_); refine mGo 17 Try.func125 #[.pointer (some ⟨g, 0, none⟩)] ?_; (with_reducible refine (spec_l1Byte.calls g s0_0 s0_1 s0_2 t197 t198 t199 w0 _ ?side1 ?side2 A8.out).mono ?_); (case side1 => repeat (first | (with_reducible first | exact HI0.out | apply IsS133.alloc | apply IsS133.drewN | apply IsS133.drew | apply IsS133.set_1 | apply IsS133.set_2) | exact HI0.out)); (case side2 => repeat (first | (with_reducible first | exact HB.out | apply below_alloc | apply pw_below_drewN | apply below_drew1 | refine below_set ?_ (IsS133.ge HI0.out)) | exact HB.out)); rintro e w12 ⟨rfl, hi, hb, hk⟩; refine ⟨_, rfl, ?_⟩; replace HK := mS (KeepBut.trans (mQ125_5 HK.out) hk (.inl rfl)); replace HB := mS (hb); replace HI0 := mS (hi); (try clear hb); (try clear hk); (try clear hi)) | ((with_reducible refine gate_callee (f := 125) rfl ?_); refine mGo 19 Try.func125 #[.pointer (some ⟨g, 0, none⟩)] ?_; (with_reducible refine (spec_l1Byte.calls g s0_0 t198 t199 t200 t201 t202 w0 _ ?side1 ?side2 A9.out).mono ?_); (case side1 => repeat (first | (with_reducible first | exact HI0.out | apply IsS133.alloc | apply IsS133.drewN | apply IsS133.drew | apply IsS133.set_1 | apply IsS133.set_2) | exact HI0.out)); (case side2 => repeat (first | (with_reducible first | exact HB.out | apply below_alloc | apply pw_below_drewN | apply below_drew1 | refine below_set ?_ (IsS133.ge HI0.out)) | exact HB.out)); rintro e w13 ⟨rfl, hi, hb, hk⟩; refine ⟨_, rfl, ?_⟩; replace HK := mS (KeepBut.trans (mQ125_5 HK.out) hk (.inl rfl)); replace HB := mS (hb); replace HI0 := mS (hi); (try clear hb); (try clear hk); (try clear hi)) | ((with_reducible refine gate_callee (f := 125) rfl ?_); refine mGo 21 Try.func125 #[.pointer (some ⟨g, 0, none⟩)] ?_; (with_reducible refine (spec_l1Byte.calls g s0_0 t201 t202 t203 t204 t205 w0 _ ?side1 ?side2 A10.out).mono ?_); (case side1 => repeat (first | (with_reducible first | exact HI0.out | apply IsS133.alloc | apply IsS133.drewN | apply IsS133.drew | apply IsS133.set_1 | apply IsS133.set_2) | exact HI0.out)); (case side2 => repeat (first | (with_reducible first | exact HB.out | apply below_alloc | apply pw_below_drewN | apply below_drew1 | refine below_set ?_ (IsS133.ge HI0.out)) | exact HB.out)); rintro e w14 ⟨rfl, hi, hb, hk⟩; refine ⟨_, rfl, ?_⟩; replace HK := mS (KeepBut.trans (mQ125_5 HK.out) hk (.inl rfl)); replace HB := mS (hb); replace HI0 := mS (hi); (try clear hb); (try clear hk); (try clear hi)))
    go_ret
    exact ⟨mEw, mI125_0 HI0.out, mH125_10 HB.out (IsS133.ge HI0.out), mQ125_5 HK.out⟩

/-! ### spec_l1Once: function 112 -/
def spec_l1Once.f (s0_0 : List Int) (s0_1 : Int) (s0_2 : Int) (a1 : Int) : Option (Bool × Int × Int) := (spec_l1Below.f s0_0 s0_1 s0_2 a1).bind fun bt206 => (some ((bt206.1 == 0), bt206.2.1, bt206.2.2))
set_option maxHeartbeats 8000000 in
set_option maxRecDepth 100000 in
theorem spec_l1Once.calls (g : Nat) (s0_0 : List Int) (s0_1 : Int) (s0_2 : Int) (a1 : Int) (r1 : Bool) (r2 : Int) (r3 : Int) (w0 w : World) (hI : IsS133 w0 w g s0_0 s0_1 s0_2) (hB : Below w0.heap.size w0 w) (h : spec_l1Once.f s0_0 s0_1 s0_2 a1 = some (r1, r2, r3)) :
  Calls Try.prog 112 #[.pointer (some ⟨g, 0, none⟩), .int .i64 a1] w fun e w' => e = .returned (.bool r1) ∧ IsS133 w0 w' g s0_0 r2 r3 ∧ Below w0.heap.size w0 w' ∧ KeepBut w w' g none := by
 have HI0 := mS hI
 have HK := mS (KeepBut.refl w g none)
 have HL := mS hB.size
 clear hI
 have HW0 := mS hB.size
 have HB := mS hB
 clear hB
 have H : ((spec_l1Below.f s0_0 s0_1 s0_2 a1).bind fun bt206 => (some ((bt206.1 == 0), bt206.2.1, bt206.2.2))) = some (r1, r2, r3) := h
 clear h
 replace H := Option.bind_eq_some_iff.mp H
 obtain ⟨⟨t206, t207, t208⟩, A30, H⟩ := H
 replace H : (some ((t206 == 0), t207, t208)) = some (r1, r2, r3) := H
 have A3 := mS A30
 clear A30
 simp only [Option.some.injEq, Prod.mk.injEq] at H
 obtain ⟨rfl, rfl, rfl⟩ := H
 go_enter Try.func112, Try.ntmps112
 go_wp2_with (first | ((with_reducible refine gate_callee (f := 111) rfl ?_); refine mGo 7 Try.func111 #[.pointer (some ⟨g, 0, none⟩), .int .i64 a1] ?_; (with_reducible refine (spec_l1Below.calls g s0_0 s0_1 s0_2 a1 t206 t207 t208 w0 _ ?side1 ?side2 A3.out).mono ?_); (case side1 => repeat (first | (with_reducible first | exact HI0.out | apply IsS133.alloc | apply IsS133.drewN | apply IsS133.drew | apply IsS133.set_1 | apply IsS133.set_2) | exact HI0.out)); (case side2 => repeat (first | (with_reducible first | exact HB.out | apply below_alloc | apply pw_below_drewN | apply below_drew1 | refine below_set ?_ (IsS133.ge HI0.out)) | exact HB.out)); rintro e w4 ⟨rfl, hi, hb, hk⟩; refine ⟨_, rfl, ?_⟩; replace HK := mS (KeepBut.trans (mQ125_5 HK.out) hk (.inl rfl)); replace HB := mS (hb); replace HI0 := mS (hi); (try clear hb); (try clear hk); (try clear hi)))
 go_ret
 exact ⟨mEw, mI125_0 HI0.out, mH125_10 HB.out (IsS133.ge HI0.out), mQ125_5 HK.out⟩

/-! ### spec_l8Full: function 60 -/
mutual
def spec_l8Full.l0 : Nat → Int → Int → List Int → Int → Int → List (S33) → Option ((List (S33)) × Int × Int)
 | 0, _, _, _, _, _, _ => none
 | k + 1, x4, x5, x1000, x1001, x1002, x211000 => if x5 < 4 then (spec_l8Full.l1 k x4 x5 1 x1000 x1001 x1002 x211000) else (some (x211000, x1001, x1002))
def spec_l8Full.l1 : Nat → Int → Int → Int → List Int → Int → Int → List (S33) → Option ((List (S33)) × Int × Int)
 | 0, _, _, _, _, _, _, _ => none
 | k + 1, x4, x5, x6, x1000, x1001, x1002, x211000 => if x6 < 5 then (spec_l8Full.l2 k x4 x5 x6 1 x1000 x1001 x1002 x211000 x5 x6 ([] : List (S31))) else (spec_l8Full.l0 k x4 (wrap64 (x5 + 1)) x1000 x1001 x1002 x211000)
def spec_l8Full.l2 : Nat → Int → Int → Int → Int → List Int → Int → Int → List (S33) → Int → Int → List (S31) → Option ((List (S33)) × Int × Int)
 | 0, _, _, _, _, _, _, _, _, _, _, _ => none
 | k + 1, x4, x5, x6, x8, x1000, x1001, x1002, x211000, x215000, x215001, x215002 => if x8 < 4 then (spec_l8Full.l3 k x4 x5 x6 x8 1 x1000 x1001 x1002 x211000 x215000 x215001 x215002) else ((spec_GraphPut.f k x211000 x215000 x215001 x215002).bind fun bt215 => (spec_l8Full.l1 k x4 x5 (wrap64 (x6 + 1)) x1000 x1001 x1002 bt215.1))
def spec_l8Full.l3 : Nat → Int → Int → Int → Int → Int → List Int → Int → Int → List (S33) → Int → Int → List (S31) → Option ((List (S33)) × Int × Int)
 | 0, _, _, _, _, _, _, _, _, _, _, _, _ => none
 | k + 1, x4, x5, x6, x8, x9, x1000, x1001, x1002, x211000, x215000, x215001, x215002 => if x9 < 5 then (if (!(x8 == x215000) || (!(x9 == x215001))) = true then ((spec_l1Once.f x1000 x1001 x1002 x4).bind fun bt220 => (spec_l8Full.j4 k x4 x5 x6 x8 x9 bt220.1 x1000 bt220.2.1 bt220.2.2 x211000 x215000 x215001 x215002 x8 x9)) else (spec_l8Full.j4 k x4 x5 x6 x8 x9 false x1000 x1001 x1002 x211000 x215000 x215001 x215002 x8 x9)) else (spec_l8Full.l2 k x4 x5 x6 (wrap64 (x8 + 1)) x1000 x1001 x1002 x211000 x215000 x215001 x215002)
def spec_l8Full.j4 : Nat → Int → Int → Int → Int → Int → Bool → List Int → Int → Int → List (S33) → Int → Int → List (S31) → Int → Int → Option ((List (S33)) × Int × Int)
 | 0, _, _, _, _, _, _, _, _, _, _, _, _, _, _, _ => none
 | k + 1, x4, x5, x6, x8, x9, x46, x1000, x1001, x1002, x211000, x215000, x215001, x215002, x220000, x220001 => if x46 = true then (if x215002.length < 8796093022208 then (spec_l8Full.l3 k x4 x5 x6 x8 (wrap64 (x9 + 1)) x1000 x1001 x1002 x211000 x215000 x215001 (x215002 ++ [(⟨x220000, x220001⟩ : S31)])) else (none)) else (spec_l8Full.l3 k x4 x5 x6 x8 (wrap64 (x9 + 1)) x1000 x1001 x1002 x211000 x215000 x215001 x215002)
end
def spec_l8Full.f (k : Nat) (s0_0 : List Int) (s0_1 : Int) (s0_2 : Int) : Option ((List (S33)) × Int × Int) := (spec_l1Below.f s0_0 s0_1 s0_2 6).bind fun bt211 => (spec_l8Full.l0 k (wrap64 (2 + bt211.1)) 1 s0_0 bt211.2.1 bt211.2.2 ([] : List (S33)))
theorem spec_l8Full.mono_l : ∀ k, (∀ y0 y1 y2 y3 y4 y5, LeO (spec_l8Full.l0 k y0 y1 y2 y3 y4 y5) (spec_l8Full.l0 (k + 1) y0 y1 y2 y3 y4 y5)) ∧ (∀ y0 y1 y2 y3 y4 y5 y6, LeO (spec_l8Full.l1 k y0 y1 y2 y3 y4 y5 y6) (spec_l8Full.l1 (k + 1) y0 y1 y2 y3 y4 y5 y6)) ∧ (∀ y0 y1 y2 y3 y4 y5 y6 y7 y8 y9 y10, LeO (spec_l8Full.l2 k y0 y1 y2 y3 y4 y5 y6 y7 y8 y9 y10) (spec_l8Full.l2 (k + 1) y0 y1 y2 y3 y4 y5 y6 y7 y8 y9 y10)) ∧ (∀ y0 y1 y2 y3 y4 y5 y6 y7 y8 y9 y10 y11, LeO (spec_l8Full.l3 k y0 y1 y2 y3 y4 y5 y6 y7 y8 y9 y10 y11) (spec_l8Full.l3 (k + 1) y0 y1 y2 y3 y4 y5 y6 y7 y8 y9 y10 y11)) ∧ (∀ y0 y1 y2 y3 y4 y5 y6 y7 y8 y9 y10 y11 y12 y13 y14, LeO (spec_l8Full.j4 k y0 y1 y2 y3 y4 y5 y6 y7 y8 y9 y10 y11 y12 y13 y14) (spec_l8Full.j4 (k + 1) y0 y1 y2 y3 y4 y5 y6 y7 y8 y9 y10 y11 y12 y13 y14))
 | 0 => ⟨fun _ _ _ _ _ _ r h => by simp [spec_l8Full.l0] at h, fun _ _ _ _ _ _ _ r h => by simp [spec_l8Full.l1] at h, fun _ _ _ _ _ _ _ _ _ _ _ r h => by simp [spec_l8Full.l2] at h, fun _ _ _ _ _ _ _ _ _ _ _ _ r h => by simp [spec_l8Full.l3] at h, fun _ _ _ _ _ _ _ _ _ _ _ _ _ _ _ r h => by simp [spec_l8Full.j4] at h⟩
 | k + 1 => by
  obtain ⟨ih0, ih1, ih2, ih3, ih4⟩ := spec_l8Full.mono_l k
  refine ⟨?_, ?_, ?_, ?_, ?_⟩
  ·intro y0 y1 y2 y3 y4 y5
   unfold spec_l8Full.l0
   repeat' first
   | (with_reducible exact ih0 _ _ _ _ _ _)
   | (with_reducible exact ih1 _ _ _ _ _ _ _)
   | (with_reducible exact ih2 _ _ _ _ _ _ _ _ _ _ _)
   | (with_reducible exact ih3 _ _ _ _ _ _ _ _ _ _ _ _)
   | (with_reducible exact ih4 _ _ _ _ _ _ _ _ _ _ _ _ _ _ _)
   | (with_reducible exact spec_GraphPut.mono _ _ _ _ _)
   | (with_reducible exact LeO.refl _)
   | (with_reducible exact LeO.none _)
   | (with_reducible refine LeO.ite ?_ ?_)
   | (with_reducible refine LeO.bind ?_ (fun _ => ?_))
   | exact ih0 _ _ _ _ _ _
   | exact ih1 _ _ _ _ _ _ _
   | exact ih2 _ _ _ _ _ _ _ _ _ _ _
   | exact ih3 _ _ _ _ _ _ _ _ _ _ _ _
   | exact ih4 _ _ _ _ _ _ _ _ _ _ _ _ _ _ _
   | exact spec_GraphPut.mono _ _ _ _ _
   | exact LeO.none _
   | refine LeO.ite ?_ ?_
   | refine LeO.bind ?_ (fun _ => ?_)
  ·intro y0 y1 y2 y3 y4 y5 y6
   unfold spec_l8Full.l1
   repeat' first
   | (with_reducible exact ih0 _ _ _ _ _ _)
   | (with_reducible exact ih1 _ _ _ _ _ _ _)
   | (with_reducible exact ih2 _ _ _ _ _ _ _ _ _ _ _)
   | (with_reducible exact ih3 _ _ _ _ _ _ _ _ _ _ _ _)
   | (with_reducible exact ih4 _ _ _ _ _ _ _ _ _ _ _ _ _ _ _)
   | (with_reducible exact spec_GraphPut.mono _ _ _ _ _)
   | (with_reducible exact LeO.refl _)
   | (with_reducible exact LeO.none _)
   | (with_reducible refine LeO.ite ?_ ?_)
   | (with_reducible refine LeO.bind ?_ (fun _ => ?_))
   | exact ih0 _ _ _ _ _ _
   | exact ih1 _ _ _ _ _ _ _
   | exact ih2 _ _ _ _ _ _ _ _ _ _ _
   | exact ih3 _ _ _ _ _ _ _ _ _ _ _ _
   | exact ih4 _ _ _ _ _ _ _ _ _ _ _ _ _ _ _
   | exact spec_GraphPut.mono _ _ _ _ _
   | exact LeO.none _
   | refine LeO.ite ?_ ?_
   | refine LeO.bind ?_ (fun _ => ?_)
  ·intro y0 y1 y2 y3 y4 y5 y6 y7 y8 y9 y10
   unfold spec_l8Full.l2
   repeat' first
   | (with_reducible exact ih0 _ _ _ _ _ _)
   | (with_reducible exact ih1 _ _ _ _ _ _ _)
   | (with_reducible exact ih2 _ _ _ _ _ _ _ _ _ _ _)
   | (with_reducible exact ih3 _ _ _ _ _ _ _ _ _ _ _ _)
   | (with_reducible exact ih4 _ _ _ _ _ _ _ _ _ _ _ _ _ _ _)
   | (with_reducible exact spec_GraphPut.mono _ _ _ _ _)
   | (with_reducible exact LeO.refl _)
   | (with_reducible exact LeO.none _)
   | (with_reducible refine LeO.ite ?_ ?_)
   | (with_reducible refine LeO.bind ?_ (fun _ => ?_))
   | exact ih0 _ _ _ _ _ _
   | exact ih1 _ _ _ _ _ _ _
   | exact ih2 _ _ _ _ _ _ _ _ _ _ _
   | exact ih3 _ _ _ _ _ _ _ _ _ _ _ _
   | exact ih4 _ _ _ _ _ _ _ _ _ _ _ _ _ _ _
   | exact spec_GraphPut.mono _ _ _ _ _
   | exact LeO.none _
   | refine LeO.ite ?_ ?_
   | refine LeO.bind ?_ (fun _ => ?_)
  ·intro y0 y1 y2 y3 y4 y5 y6 y7 y8 y9 y10 y11
   unfold spec_l8Full.l3
   repeat' first
   | (with_reducible exact ih0 _ _ _ _ _ _)
   | (with_reducible exact ih1 _ _ _ _ _ _ _)
   | (with_reducible exact ih2 _ _ _ _ _ _ _ _ _ _ _)
   | (with_reducible exact ih3 _ _ _ _ _ _ _ _ _ _ _ _)
   | (with_reducible exact ih4 _ _ _ _ _ _ _ _ _ _ _ _ _ _ _)
   | (with_reducible exact spec_GraphPut.mono _ _ _ _ _)
   | (with_reducible exact LeO.refl _)
   | (with_reducible exact LeO.none _)
   | (with_reducible refine LeO.ite ?_ ?_)
   | (with_reducible refine LeO.bind ?_ (fun _ => ?_))
   | exact ih0 _ _ _ _ _ _
   | exact ih1 _ _ _ _ _ _ _
   | exact ih2 _ _ _ _ _ _ _ _ _ _ _
   | exact ih3 _ _ _ _ _ _ _ _ _ _ _ _
   | exact ih4 _ _ _ _ _ _ _ _ _ _ _ _ _ _ _
   | exact spec_GraphPut.mono _ _ _ _ _
   | exact LeO.none _
   | refine LeO.ite ?_ ?_
   | refine LeO.bind ?_ (fun _ => ?_)
  ·intro y0 y1 y2 y3 y4 y5 y6 y7 y8 y9 y10 y11 y12 y13 y14
   unfold spec_l8Full.j4
   repeat' first
   | (with_reducible exact ih0 _ _ _ _ _ _)
   | (with_reducible exact ih1 _ _ _ _ _ _ _)
   | (with_reducible exact ih2 _ _ _ _ _ _ _ _ _ _ _)
   | (with_reducible exact ih3 _ _ _ _ _ _ _ _ _ _ _ _)
   | (with_reducible exact ih4 _ _ _ _ _ _ _ _ _ _ _ _ _ _ _)
   | (with_reducible exact spec_GraphPut.mono _ _ _ _ _)
   | (with_reducible exact LeO.refl _)
   | (with_reducible exact LeO.none _)
   | (with_reducible refine LeO.ite ?_ ?_)
   | (with_reducible refine LeO.bind ?_ (fun _ => ?_))
   | exact ih0 _ _ _ _ _ _
   | exact ih1 _ _ _ _ _ _ _
   | exact ih2 _ _ _ _ _ _ _ _ _ _ _
   | exact ih3 _ _ _ _ _ _ _ _ _ _ _ _
   | exact ih4 _ _ _ _ _ _ _ _ _ _ _ _ _ _ _
   | exact spec_GraphPut.mono _ _ _ _ _
   | exact LeO.none _
   | refine LeO.ite ?_ ?_
   | refine LeO.bind ?_ (fun _ => ?_)
theorem spec_l8Full.mono : ∀ a0 a1 a2 k, LeO (spec_l8Full.f k a0 a1 a2) (spec_l8Full.f (k + 1) a0 a1 a2) := by
 intro a0 a1 a2 k
 obtain ⟨ih0, ih1, ih2, ih3, ih4⟩ := spec_l8Full.mono_l k
 unfold spec_l8Full.f
 repeat' first
   | (with_reducible exact ih0 _ _ _ _ _ _)
   | (with_reducible exact ih1 _ _ _ _ _ _ _)
   | (with_reducible exact ih2 _ _ _ _ _ _ _ _ _ _ _)
   | (with_reducible exact ih3 _ _ _ _ _ _ _ _ _ _ _ _)
   | (with_reducible exact ih4 _ _ _ _ _ _ _ _ _ _ _ _ _ _ _)
   | (with_reducible exact spec_GraphPut.mono _ _ _ _ _)
   | (with_reducible exact LeO.refl _)
   | (with_reducible exact LeO.none _)
   | (with_reducible refine LeO.ite ?_ ?_)
   | (with_reducible refine LeO.bind ?_ (fun _ => ?_))
   | exact ih0 _ _ _ _ _ _
   | exact ih1 _ _ _ _ _ _ _
   | exact ih2 _ _ _ _ _ _ _ _ _ _ _
   | exact ih3 _ _ _ _ _ _ _ _ _ _ _ _
   | exact ih4 _ _ _ _ _ _ _ _ _ _ _ _ _ _ _
   | exact spec_GraphPut.mono _ _ _ _ _
   | exact LeO.none _
   | refine LeO.ite ?_ ?_
   | refine LeO.bind ?_ (fun _ => ?_)
set_option maxHeartbeats 8000000 in
set_option maxRecDepth 100000 in
theorem spec_l8Full.calls (k : Nat) (g : Nat) (s0_0 : List Int) (s0_1 : Int) (s0_2 : Int) (r1 : List (S33)) (r2 : Int) (r3 : Int) (w0 w : World) (hI : IsS133 w0 w g s0_0 s0_1 s0_2) (hB : Below w0.heap.size w0 w) (h : spec_l8Full.f k s0_0 s0_1 s0_2 = some (r1, r2, r3)) :
  Calls Try.prog 60 #[.pointer (some ⟨g, 0, none⟩)] w fun e w' => ∃ v0_ : Value, e = .returned (.agg #[v0_]) ∧ Kd.S k33 33 w' w.heap.size (fun _ => True) v0_ r1 ∧ IsS133 w0 w' g s0_0 r2 r3 ∧ Below w0.heap.size w0 w' ∧ KeepBut w w' g none := by
 have hu26 := Try.underlying26
 have hfd26 : ∀ (v : Value) (w : World), (Instr.field 26 (.agg #[v]) 0).run Try.prog w = .ok v w := fun _ _ => by first | kernel_rfl | rfl
 have hu31 := Try.underlying31
 have hu33 := Try.underlying33
 have HI0 := mS hI
 have HK := mS (KeepBut.refl w g none)
 have HL := mS hB.size
 clear hI
 have HW0 := mS hB.size
 have HB := mS hB
 clear hB
 have H : ((spec_l1Below.f s0_0 s0_1 s0_2 6).bind fun bt211 => (spec_l8Full.l0 k (wrap64 (2 + bt211.1)) 1 s0_0 bt211.2.1 bt211.2.2 ([] : List (S33)))) = some (r1, r2, r3) := h
 clear h
 replace H := Option.bind_eq_some_iff.mp H
 obtain ⟨⟨t211, t212, t213⟩, A20, H⟩ := H
 replace H : (spec_l8Full.l0 k (wrap64 (2 + t211)) 1 s0_0 t212 t213 ([] : List (S33))) = some (r1, r2, r3) := H
 have A2 := mS A20
 clear A20
 have H' := mS H
 clear H
 go_enter Try.func60, Try.ntmps60
 go_wp2_with (first | ((with_reducible refine gate_dst (N := 2) rfl ?_); refine mBx 2 #[.slice none 0 0] 26 ?_; intro gb209 hg w3 hbox hb; replace HB := mS (below_step (mH125_10 HB.out (IsS133.ge HI0.out)) hb); have BK209 := mS (hbox); have GW209 := mS ((by rw [hg]; exact (keep_size (w := w) (g := g) (row := none) (mQ125_5 HK.out)) : w.heap.size ≤ gb209)); have GE209 := mS ((Nat.le_trans HW0.out (by rw [hg]; exact (keep_size (w := w) (g := g) (row := none) (mQ125_5 HK.out)) : w.heap.size ≤ gb209) : w0.heap.size ≤ gb209)); replace HK := mS (KeepBut.trans (mQ125_5 HK.out) (KeepBut.of_below hb g none) (.inl rfl)); have NB0_209 := mS ((by rw [hg]; exact Nat.ne_of_lt (IsS133.lt (show IsS133 w0 _ g s0_0 s0_1 s0_2 from mI125_0 HI0.out)) : g ≠ gb209)); have NB209_0 := mS ((by rw [hg]; exact Nat.ne_of_gt (IsS133.lt (show IsS133 w0 _ g s0_0 s0_1 s0_2 from mI125_0 HI0.out)) : gb209 ≠ g)); replace HI0 := mS (IsS133.below (mI125_0 HI0.out) hb); clear hb hbox hg) | ((with_reducible refine gate_dst (N := 3) rfl ?_); refine mBx 3 #[.slice none 0 0] 26 ?_; intro gb210 hg w4 hbox hb; replace HB := mS (below_step (mH125_11 HB.out (IsS133.ge HI0.out) GE209.out) hb); have BK210 := mS (hbox); have GW210 := mS ((by rw [hg]; exact (keep_size (w := w) (g := g) (row := none) (mQ125_6 HK.out GW209.out)) : w.heap.size ≤ gb210)); have GE210 := mS ((Nat.le_trans HW0.out (by rw [hg]; exact (keep_size (w := w) (g := g) (row := none) (mQ125_6 HK.out GW209.out)) : w.heap.size ≤ gb210) : w0.heap.size ≤ gb210)); replace HK := mS (KeepBut.trans (mQ125_6 HK.out GW209.out) (KeepBut.of_below hb g none) (.inl rfl)); have NB209_210 := mNl hg BK209.out; have NB210_209 := mNg hg BK209.out; replace BK209 := mB BK209 hb; have NB0_210 := mS ((by rw [hg]; exact Nat.ne_of_lt (IsS133.lt (show IsS133 w0 _ g s0_0 s0_1 s0_2 from mI125_1 HI0.out NB0_209.out)) : g ≠ gb210)); have NB210_0 := mS ((by rw [hg]; exact Nat.ne_of_gt (IsS133.lt (show IsS133 w0 _ g s0_0 s0_1 s0_2 from mI125_1 HI0.out NB0_209.out)) : gb210 ≠ g)); replace HI0 := mS (IsS133.below (mI125_1 HI0.out NB0_209.out) hb); clear hb hbox hg; have hnb5 := NB210_209.out; have hnc5 := NB209_210.out; have hnb6 := NB210_0.out; have hnc6 := NB0_210.out; have hcz7_0 := mZ BK210.out 0; have hfz7_0 := blk_frozen BK210.out 0) | ((with_reducible refine gate_callee (f := 111) rfl ?_); refine mGo 13 Try.func111 #[.pointer (some ⟨g, 0, none⟩), .int .i64 6] ?_; (with_reducible refine (spec_l1Below.calls g s0_0 s0_1 s0_2 6 t211 t212 t213 w0 _ ?side1 ?side2 A2.out).mono ?_); (case side1 => repeat (first | (with_reducible first | exact HI0.out | apply IsS133.alloc | apply IsS133.drewN | apply IsS133.drew | apply IsS133.set_1 | apply IsS133.set_2 | refine IsS133.far ?_ NB0_209.out _ | refine IsS133.far ?_ NB0_210.out _) | exact HI0.out)); (case side2 => repeat (first | (with_reducible first | exact HB.out | apply below_alloc | apply pw_below_drewN | apply below_drew1 | refine below_set ?_ (IsS133.ge HI0.out) | refine below_set ?_ GE209.out | refine below_set ?_ GE210.out) | exact HB.out)); rintro e w8 ⟨rfl, hi, hb, hk⟩; refine ⟨_, rfl, ?_⟩; replace BK209 := mS (KeepBut.blk hk (g' := gb209) (o := .cells #[.slice none 0 0] 26 (0, 0)) (mKf NB209_210.out BK209.out) NB209_0.out (by simp)); replace BK210 := mS (KeepBut.blk hk (g' := gb210) (o := .cells #[.slice none 0 0] 26 (0, 0)) (by refine mK ?_; refine blk_put (cs := #[.slice none 0 0]) ?_ 0 _ rfl; refine mK ?_; exact BK210.out) NB210_0.out (by simp)); replace HK := mS (KeepBut.trans (mQ125_7 HK.out GW209.out GW210.out) hk (.inl rfl)); replace HB := mS (hb); replace HI0 := mS (hi); (try clear hb); (try clear hk); (try clear hi)))
 go_loopg [5] k (fun kq v5 w' => ∃ (x5_1 : Int) (x1001_1 : Int) (x1002_1 : Int) (x211000_1 : List (S33)) (u211000 : Value), v5 = .int .i64 x5_1 ∧ Aside0 (spec_l8Full.l0 kq (wrap64 (2 + t211)) x5_1 s0_0 x1001_1 x1002_1 x211000_1 = some (r1, r2, r3)) ∧ Aside0 (kq ≤ k) ∧ Aside0 (Kd.S k33 33 w' w.heap.size (fun _ => True) u211000 x211000_1) ∧ Aside0 (w'.heap[gb209]? = some (.cells #[(.slice none 0 0)] 26 (0, 0))) ∧ Aside0 (w'.heap[gb210]? = some (.cells #[u211000] 26 (0, 0))) ∧ Aside0 (IsS133 w0 w' g s0_0 x1001_1 x1002_1) ∧ Aside0 (KeepBut w w' g none) ∧ Aside0 (Below w0.heap.size w0 w'))
 case atStart => exact ⟨(1), (t212), (t213), (([] : List (S33))), (.slice none 0 0), mE, H', ⟨Nat.le_refl _⟩, ⟨by first | exact Kd.S_nil _ _ _ _ _ | exact Kd.N_nil _ _ _ _ _ | exact Kd.V_nil _ _ _ _ _ | exact Kd.Q_nil _ _ _ _ _ | exact Kd.R_nil _ _ _ _ _⟩, ⟨mK BK209.out⟩, ⟨mK BK210.out⟩, ⟨mI125_2 HI0.out NB0_209.out NB0_210.out⟩, ⟨mQ125_7 HK.out GW209.out GW210.out⟩, ⟨mH125_12 HB.out (IsS133.ge HI0.out) GE209.out GE210.out⟩⟩
 case round =>
  clear H'
  try clear c1
  try clear p2
  try clear c5
  try clear c6
  try clear p6
  try clear hcz7_0
  try clear hfz7_0
  obtain ⟨x5_1, x1001_1, x1002_1, x211000_1, u211000, rfl, HA, HK1, HO_211000, BK209, BK210, HI0, HK, HB⟩ := hrel
  cases gk with
  | zero => exact absurd HA.out (by simp [spec_l8Full.l0])
  | succ k1 =>
   have H := HA.out
   clear HA
   simp only [spec_l8Full.l0] at H
   by_cases c9 : x5_1 < 4
   ·rw [if_pos c9] at H
    have c9b0 := decide_eq_true c9
    clear c9
    have H' := mS H
    clear H
    go_wp2
    go_loopg [6] k1 (fun kq v6 w' => ∃ (x6_2 : Int) (x1001_2 : Int) (x1002_2 : Int) (x211000_2 : List (S33)) (u211000 : Value), v6 = .int .i64 x6_2 ∧ Aside0 (spec_l8Full.l1 kq (wrap64 (2 + t211)) x5_1 x6_2 s0_0 x1001_2 x1002_2 x211000_2 = some (r1, r2, r3)) ∧ Aside0 (kq ≤ k1) ∧ Aside0 (Kd.S k33 33 w' w.heap.size (fun _ => True) u211000 x211000_2) ∧ Aside0 (w'.heap[gb209]? = some (.cells #[(.slice none 0 0)] 26 (0, 0))) ∧ Aside0 (w'.heap[gb210]? = some (.cells #[u211000] 26 (0, 0))) ∧ Aside0 (IsS133 w0 w' g s0_0 x1001_2 x1002_2) ∧ Aside0 (KeepBut w w' g none) ∧ Aside0 (Below w0.heap.size w0 w'))
    case atStart => exact ⟨(1), (x1001_1), (x1002_1), (x211000_1), (u211000), mE, H', ⟨Nat.le_refl _⟩, ⟨mSd HO_211000.out⟩, ⟨mK BK209.out⟩, ⟨mK BK210.out⟩, ⟨mI125_2 HI0.out NB0_209.out NB0_210.out⟩, ⟨mQ125_7 HK.out GW209.out GW210.out⟩, ⟨mH125_12 HB.out (IsS133.ge HI0.out) GE209.out GE210.out⟩⟩
    case round =>
     clear H'
     try clear c1
     try clear p2
     try clear c5
     try clear c6
     try clear p6
     try clear c9
     try clear c9b0
     try clear hcz7_0
     try clear hfz7_0
     try clear p2
     try clear p6
     obtain ⟨x6_2, x1001_2, x1002_2, x211000_2, u211000, rfl, HA, HK2, HO_211000, BK209, BK210, HI0, HK, HB⟩ := hrel
     cases gk with
     | zero => exact absurd HA.out (by simp [spec_l8Full.l1])
     | succ k2 =>
      have H := HA.out
      clear HA
      simp only [spec_l8Full.l1] at H
      by_cases c10 : x6_2 < 5
      ·rw [if_pos c10] at H
       have c10b0 := decide_eq_true c10
       clear c10
       have H' := mS H
       clear H
       go_wp2_with (first | ((with_reducible refine gate_dst (N := 7) rfl ?_); refine mBx 7 #[.int .i64 0, .int .i64 0, .slice none 0 0] 33 ?_; intro gb214 hg w11 hbox hb; replace HO_211000 := mS (Kd.S_below (Kd.S_elderB (mSd HO_211000.out) gb214 (Nat.le_of_eq hg.symm)) hb); replace HB := mS (below_step (mH125_12 HB.out (IsS133.ge HI0.out) GE209.out GE210.out) hb); have BK214 := mS (hbox); have GW214 := mS ((by rw [hg]; exact (keep_size (w := w) (g := g) (row := none) (mQ125_7 HK.out GW209.out GW210.out)) : w.heap.size ≤ gb214)); have GE214 := mS ((Nat.le_trans HW0.out (by rw [hg]; exact (keep_size (w := w) (g := g) (row := none) (mQ125_7 HK.out GW209.out GW210.out)) : w.heap.size ≤ gb214) : w0.heap.size ≤ gb214)); replace HK := mS (KeepBut.trans (mQ125_7 HK.out GW209.out GW210.out) (KeepBut.of_below hb g none) (.inl rfl)); have NB209_214 := mNl hg BK209.out; have NB214_209 := mNg hg BK209.out; replace BK209 := mB BK209 hb; have NB210_214 := mNl hg BK210.out; have NB214_210 := mNg hg BK210.out; replace BK210 := mB BK210 hb; have NB0_214 := mS ((by rw [hg]; exact Nat.ne_of_lt (IsS133.lt (show IsS133 w0 _ g s0_0 x1001_2 x1002_2 from mI125_2 HI0.out NB0_209.out NB0_210.out)) : g ≠ gb214)); have NB214_0 := mS ((by rw [hg]; exact Nat.ne_of_gt (IsS133.lt (show IsS133 w0 _ g s0_0 x1001_2 x1002_2 from mI125_2 HI0.out NB0_209.out NB0_210.out)) : gb214 ≠ g)); replace HI0 := mS (IsS133.below (mI125_2 HI0.out NB0_209.out NB0_210.out) hb); clear hb hbox hg; have hnb12 := NB214_209.out; have hnc12 := NB209_214.out; have hnb13 := NB214_210.out; have hnc13 := NB210_214.out; have hnb14 := NB214_0.out; have hnc14 := NB0_214.out; obtain ⟨hcz15_0, hcz15_1, hcz15_2, hfz15_0, hfz15_1, hfz15_2⟩ := mZ3 BK214.out))
       go_loopg [8] k2 (fun kq v8 w' => ∃ (x8_3 : Int) (x1001_3 : Int) (x1002_3 : Int) (x215002_3 : List (S31)) (u215002 : Value), v8 = .int .i64 x8_3 ∧ Aside0 (spec_l8Full.l2 kq (wrap64 (2 + t211)) x5_1 x6_2 x8_3 s0_0 x1001_3 x1002_3 x211000_2 x5_1 x6_2 x215002_3 = some (r1, r2, r3)) ∧ Aside0 (kq ≤ k2) ∧ Aside0 (Kd.S k33 33 w' w.heap.size (fun k_ => some k_ ≠ (u215002 : Value).ownBlock ∧ k_ ≠ gb214) u211000 x211000_2) ∧ Aside0 (Kd.R k31 31 w' w.heap.size (fun _ => True) u215002 x215002_3) ∧ Aside0 (w'.heap[gb209]? = some (.cells #[(.slice none 0 0)] 26 (0, 0))) ∧ Aside0 (w'.heap[gb210]? = some (.cells #[u211000] 26 (0, 0))) ∧ Aside0 (w'.heap[gb214]? = some (.cells #[.int .i64 x5_1, .int .i64 x6_2, u215002] 33 (0, 0))) ∧ Aside0 (IsS133 w0 w' g s0_0 x1001_3 x1002_3) ∧ Aside0 (KeepBut w w' g none) ∧ Aside0 (Below w0.heap.size w0 w'))
       case atStart => exact ⟨(1), (x1001_2), (x1002_2), (([] : List (S31))), (.slice none 0 0), mE, H', ⟨Nat.le_refl _⟩, ⟨by refine mSd ?_; exact Kd.S_mono (mSf3 (Kd.S_mono HO_211000.out (fun k_ hk => (⟨hk, hk.2⟩ : _ ∧ k_ ≠ gb214)))) (fun _ hk => ⟨(by simp [Value.ownBlock]), hk.1.2⟩)⟩, ⟨by first | exact Kd.R_nil _ _ _ _ _ | exact Kd.N_nil _ _ _ _ _ | exact Kd.V_nil _ _ _ _ _ | exact Kd.Q_nil _ _ _ _ _ | exact Kd.S_nil _ _ _ _ _⟩, ⟨mKf NB209_214.out BK209.out⟩, ⟨mKf NB210_214.out BK210.out⟩, ⟨by refine mK ?_; refine blk_put (cs := #[.int .i64 x5_1, .int .i64 x6_2, .slice none 0 0]) ?_ 2 _ rfl; refine mK ?_; refine blk_put (cs := #[.int .i64 x5_1, .int .i64 0, .slice none 0 0]) ?_ 1 _ rfl; refine mK ?_; refine blk_put (cs := #[.int .i64 0, .int .i64 0, .slice none 0 0]) ?_ 0 _ rfl; refine mK ?_; exact BK214.out⟩, ⟨mI125_3 HI0.out NB0_209.out NB0_210.out NB0_214.out⟩, ⟨mQ125_8 HK.out GW209.out GW210.out GW214.out⟩, ⟨mH125_13 HB.out (IsS133.ge HI0.out) GE209.out GE210.out GE214.out⟩⟩
       case round =>
        clear H'
        try clear c1
        try clear p2
        try clear c5
        try clear c6
        try clear p6
        try clear c9
        try clear c9b0
        try clear c10
        try clear c10b0
        try clear c11
        try clear c12
        try clear c13
        try clear c14
        try clear hcz15_0
        try clear hcz15_1
        try clear hcz15_2
        try clear hcz7_0
        try clear hfz15_0
        try clear hfz15_1
        try clear hfz15_2
        try clear hfz7_0
        try clear p2
        try clear p6
        obtain ⟨x8_3, x1001_3, x1002_3, x215002_3, u215002, rfl, HA, HK3, HO_211000, HO_215002, BK209, BK210, BK214, HI0, HK, HB⟩ := hrel
        cases gk with
        | zero => exact absurd HA.out (by simp [spec_l8Full.l2])
        | succ k3 =>
         have H := HA.out
         clear HA
         simp only [spec_l8Full.l2] at H
         by_cases c16 : x8_3 < 4
         ·rw [if_pos c16] at H
          have c16b0 := decide_eq_true c16
          clear c16
          have H' := mS H
          clear H
          go_wp2
          go_loopg [9] k3 (fun kq v9 w' => ∃ (x9_4 : Int) (x1001_4 : Int) (x1002_4 : Int) (x215002_4 : List (S31)) (u215002 : Value), v9 = .int .i64 x9_4 ∧ Aside0 (spec_l8Full.l3 kq (wrap64 (2 + t211)) x5_1 x6_2 x8_3 x9_4 s0_0 x1001_4 x1002_4 x211000_2 x5_1 x6_2 x215002_4 = some (r1, r2, r3)) ∧ Aside0 (kq ≤ k3) ∧ Aside0 (Kd.S k33 33 w' w.heap.size (fun k_ => some k_ ≠ (u215002 : Value).ownBlock ∧ k_ ≠ gb214) u211000 x211000_2) ∧ Aside0 (Kd.R k31 31 w' w.heap.size (fun _ => True) u215002 x215002_4) ∧ Aside0 (w'.heap[gb209]? = some (.cells #[(.slice none 0 0)] 26 (0, 0))) ∧ Aside0 (w'.heap[gb210]? = some (.cells #[u211000] 26 (0, 0))) ∧ Aside0 (w'.heap[gb214]? = some (.cells #[.int .i64 x5_1, .int .i64 x6_2, u215002] 33 (0, 0))) ∧ Aside0 (IsS133 w0 w' g s0_0 x1001_4 x1002_4) ∧ Aside0 (KeepBut w w' g none) ∧ Aside0 (Below w0.heap.size w0 w'))
          case atStart => exact ⟨(1), (x1001_3), (x1002_3), (x215002_3), (u215002), mE, H', ⟨Nat.le_refl _⟩, ⟨mSd HO_211000.out⟩, ⟨mR HO_215002.out⟩, ⟨mK BK209.out⟩, ⟨mK BK210.out⟩, ⟨mK BK214.out⟩, ⟨mI125_3 HI0.out NB0_209.out NB0_210.out NB0_214.out⟩, ⟨mQ125_8 HK.out GW209.out GW210.out GW214.out⟩, ⟨mH125_13 HB.out (IsS133.ge HI0.out) GE209.out GE210.out GE214.out⟩⟩
          case round =>
           clear H'
           try clear c1
           try clear p2
           try clear c5
           try clear c6
           try clear p6
           try clear c9
           try clear c9b0
           try clear c10
           try clear c10b0
           try clear c11
           try clear c12
           try clear c13
           try clear c14
           try clear c16
           try clear c16b0
           try clear hcz15_0
           try clear hcz15_1
           try clear hcz15_2
           try clear hcz7_0
           try clear hfz15_0
           try clear hfz15_1
           try clear hfz15_2
           try clear hfz7_0
           try clear p2
           try clear p6
           obtain ⟨x9_4, x1001_4, x1002_4, x215002_4, u215002, rfl, HA, HK4, HO_211000, HO_215002, BK209, BK210, BK214, HI0, HK, HB⟩ := hrel
           cases gk with
           | zero => exact absurd HA.out (by simp [spec_l8Full.l3])
           | succ k4 =>
            have H := HA.out
            clear HA
            simp only [spec_l8Full.l3] at H
            by_cases c17 : x9_4 < 5
            ·rw [if_pos c17] at H
             have c17b0 := decide_eq_true c17
             clear c17
             have HC18 := mS H
             clear H
             go_upto_region 17 with (first | ((with_reducible refine gate_dst (N := 10) rfl ?_); refine mBx 10 #[.int .i64 0, .int .i64 0] 31 ?_; intro gb219 hg w19 hbox hb; replace HO_211000 := mS (Kd.S_below (Kd.S_elderB (mSd HO_211000.out) gb219 (Nat.le_of_eq hg.symm)) hb); replace HO_215002 := mS (Kd.R_below (Kd.R_elderB (mR HO_215002.out) gb219 (Nat.le_of_eq hg.symm)) hb); replace HB := mS (below_step (mH125_13 HB.out (IsS133.ge HI0.out) GE209.out GE210.out GE214.out) hb); have BK219 := mS (hbox); have GW219 := mS ((by rw [hg]; exact (keep_size (w := w) (g := g) (row := none) (mQ125_8 HK.out GW209.out GW210.out GW214.out)) : w.heap.size ≤ gb219)); have GE219 := mS ((Nat.le_trans HW0.out (by rw [hg]; exact (keep_size (w := w) (g := g) (row := none) (mQ125_8 HK.out GW209.out GW210.out GW214.out)) : w.heap.size ≤ gb219) : w0.heap.size ≤ gb219)); replace HK := mS (KeepBut.trans (mQ125_8 HK.out GW209.out GW210.out GW214.out) (KeepBut.of_below hb g none) (.inl rfl)); have NB209_219 := mNl hg BK209.out; have NB219_209 := mNg hg BK209.out; replace BK209 := mB BK209 hb; have NB210_219 := mNl hg BK210.out; have NB219_210 := mNg hg BK210.out; replace BK210 := mB BK210 hb; have NB214_219 := mNl hg BK214.out; have NB219_214 := mNg hg BK214.out; replace BK214 := mB BK214 hb; have NB0_219 := mS ((by rw [hg]; exact Nat.ne_of_lt (IsS133.lt (show IsS133 w0 _ g s0_0 x1001_4 x1002_4 from mI125_3 HI0.out NB0_209.out NB0_210.out NB0_214.out)) : g ≠ gb219)); have NB219_0 := mS ((by rw [hg]; exact Nat.ne_of_gt (IsS133.lt (show IsS133 w0 _ g s0_0 x1001_4 x1002_4 from mI125_3 HI0.out NB0_209.out NB0_210.out NB0_214.out)) : gb219 ≠ g)); replace HI0 := mS (IsS133.below (mI125_3 HI0.out NB0_209.out NB0_210.out NB0_214.out) hb); clear hb hbox hg; have hnb20 := NB219_209.out; have hnc20 := NB209_219.out; have hnb21 := NB219_210.out; have hnc21 := NB210_219.out; have hnb22 := NB219_214.out; have hnc22 := NB214_219.out; have hnb23 := NB219_0.out; have hnc23 := NB0_219.out; obtain ⟨hcz24_0, hcz24_1, hfz24_0, hfz24_1⟩ := mZ2 BK219.out))
             (try simp only [Act.put, zA, zB, zC])
             go_cut [46] (fun v46 wc => ∃ (kq : Nat) (x46_17 : Bool) (x1001_17 : Int) (x1002_17 : Int), v46 = .bool x46_17 ∧ Aside0 (spec_l8Full.j4 kq (wrap64 (2 + t211)) x5_1 x6_2 x8_3 x9_4 x46_17 s0_0 x1001_17 x1002_17 x211000_2 x5_1 x6_2 x215002_4 x8_3 x9_4 = some (r1, r2, r3)) ∧ Aside0 (kq ≤ k4) ∧ Aside0 (Kd.S k33 33 wc w.heap.size (fun k_ => some k_ ≠ (u215002 : Value).ownBlock ∧ k_ ≠ gb214 ∧ k_ ≠ gb219) u211000 x211000_2) ∧ Aside0 (Kd.R k31 31 wc w.heap.size (fun k_ => k_ ≠ gb219) u215002 x215002_4) ∧ Aside0 (wc.heap[gb209]? = some (.cells #[(.slice none 0 0)] 26 (0, 0))) ∧ Aside0 (wc.heap[gb210]? = some (.cells #[u211000] 26 (0, 0))) ∧ Aside0 (wc.heap[gb214]? = some (.cells #[.int .i64 x5_1, .int .i64 x6_2, u215002] 33 (0, 0))) ∧ Aside0 (wc.heap[gb219]? = some (.cells #[.int .i64 x8_3, .int .i64 x9_4] 31 (0, 0))) ∧ Aside0 (IsS133 w0 wc g s0_0 x1001_17 x1002_17) ∧ Aside0 (KeepBut w wc g none) ∧ Aside0 (Below w0.heap.size w0 wc))
             case first =>
              have H := HC18.out
              clear HC18
              by_cases c25 : (!(x8_3 == x5_1) || (!(x9_4 == x6_2))) = true
              ·rw [if_pos c25] at H
               have c25b0 : (!(x8_3 == x5_1) || (!(x9_4 == x6_2))) = true := c25
               clear c25
               (first | rw [c25b0] | (simp only [i64_w, i32_w]; rw [c25b0]) | skip)
               replace H := Option.bind_eq_some_iff.mp H
               obtain ⟨⟨t220, t221, t222⟩, A260, H⟩ := H
               replace H : (spec_l8Full.j4 k4 (wrap64 (2 + t211)) x5_1 x6_2 x8_3 x9_4 t220 s0_0 t221 t222 x211000_2 x5_1 x6_2 x215002_4 x8_3 x9_4) = some (r1, r2, r3) := H
               have A26 := mS A260
               clear A260
               have H' := mS H
               clear H
               have hnb27 := NB219_209.out
               have hnc27 := NB209_219.out
               have hnb28 := NB219_210.out
               have hnc28 := NB210_219.out
               have hnb29 := NB219_214.out
               have hnc29 := NB214_219.out
               have hnb30 := NB219_0.out
               have hnc30 := NB0_219.out
               obtain ⟨hcz31_0, hcz31_1, hfz31_0, hfz31_1⟩ := mZ2 BK219.out
               have hnb32 := NB214_209.out
               have hnc32 := NB209_214.out
               have hnb33 := NB214_210.out
               have hnc33 := NB210_214.out
               have hnb34 := NB214_0.out
               have hnc34 := NB0_214.out
               obtain ⟨hcz35_0, hcz35_1, hcz35_2, hfz35_0, hfz35_1, hfz35_2⟩ := mZ3 BK214.out
               go_wp2_with (first | (go_at_call 112; (with_reducible refine (spec_l1Once.calls g s0_0 x1001_4 x1002_4 (wrap64 (2 + t211)) t220 t221 t222 w0 _ ?side1 ?side2 A26.out).mono ?_); (case side1 => repeat (first | (with_reducible first | exact HI0.out | apply IsS133.alloc | apply IsS133.drewN | apply IsS133.drew | apply IsS133.set_1 | apply IsS133.set_2 | refine IsS133.far ?_ NB0_209.out _ | refine IsS133.far ?_ NB0_210.out _ | refine IsS133.far ?_ NB0_214.out _ | refine IsS133.far ?_ NB0_219.out _) | exact HI0.out)); (case side2 => repeat (first | (with_reducible first | exact HB.out | apply below_alloc | apply pw_below_drewN | apply below_drew1 | refine below_set ?_ (IsS133.ge HI0.out) | refine below_set ?_ GE209.out | refine below_set ?_ GE210.out | refine below_set ?_ GE214.out | refine below_set ?_ GE219.out) | exact HB.out)); rintro e w36 ⟨rfl, hi, hb, hk⟩; replace HO_211000 := mS (Kd.S_mono (Kd.S_keep (IsS133.apartS (show IsS133 w0 _ g s0_0 x1001_4 x1002_4 from mI125_4 HI0.out NB0_209.out NB0_210.out NB0_214.out NB0_219.out) (by refine mSd ?_; exact (Kd.S_mono (mSf2 (Kd.S_mono HO_211000.out (fun k_ hk => (⟨hk, hk.2⟩ : _ ∧ k_ ≠ gb219)))) (fun _ h_ => h_.1))) (by decide)) hk (fun _ h => h.2)) (fun _ h => h.1)); replace HO_215002 := mS (Kd.R_mono (Kd.R_keep (IsS133.apart (show IsS133 w0 _ g s0_0 x1001_4 x1002_4 from mI125_4 HI0.out NB0_209.out NB0_210.out NB0_214.out NB0_219.out) (by refine mR ?_; exact (Kd.R_mono (mRf2 (Kd.R_mono HO_215002.out (fun k_ hk => (⟨hk, hk.2⟩ : _ ∧ k_ ≠ gb219)))) (fun _ h_ => h_.1))) (by decide)) hk (fun _ h => h.2)) (fun _ h => h.1)); replace BK209 := mS (KeepBut.blk hk (g' := gb209) (o := .cells #[.slice none 0 0] 26 (0, 0)) (mKf NB209_219.out BK209.out) NB209_0.out (by simp)); replace BK210 := mS (KeepBut.blk hk (g' := gb210) (o := .cells #[u211000] 26 (0, 0)) (mKf NB210_219.out BK210.out) NB210_0.out (by simp)); replace BK214 := mS (KeepBut.blk hk (g' := gb214) (o := .cells #[.int .i64 x5_1, .int .i64 x6_2, u215002] 33 (0, 0)) (mKf NB214_219.out BK214.out) NB214_0.out (by simp)); replace BK219 := mS (KeepBut.blk hk (g' := gb219) (o := .cells #[.int .i64 x8_3, .int .i64 x9_4] 31 (0, 0)) (by refine mK ?_; refine blk_put (cs := #[.int .i64 x8_3, .int .i64 0]) ?_ 1 _ rfl; refine mK ?_; refine blk_put (cs := #[.int .i64 0, .int .i64 0]) ?_ 0 _ rfl; refine mK ?_; exact BK219.out) NB219_0.out (by simp)); replace HK := mS (KeepBut.trans (mQ125_9 HK.out GW209.out GW210.out GW214.out GW219.out) hk (.inl rfl)); replace HB := mS (hb); replace HI0 := mS (hi); (try clear hb); (try clear hb2); (try clear hk); (try clear hi)))
               go_meet
               case rel => exact ⟨_, (t220), (t221), (t222), mE, H', ⟨by have := HK1.out; have := HK2.out; have := HK3.out; have := HK4.out; first | omega | exact Nat.le_refl _⟩, ⟨by refine mSd ?_; exact Kd.S_mono HO_211000.out (fun _ hk => ⟨hk.1.1, ⟨hk.1.2, hk.2⟩⟩)⟩, ⟨by refine mR ?_; exact Kd.R_mono HO_215002.out (fun _ hk => hk.2)⟩, ⟨mK BK209.out⟩, ⟨mK BK210.out⟩, ⟨mK BK214.out⟩, ⟨mK BK219.out⟩, ⟨mI125_4 HI0.out NB0_209.out NB0_210.out NB0_214.out NB0_219.out⟩, ⟨mQ125_9 HK.out GW209.out GW210.out GW214.out GW219.out⟩, ⟨mH125_14 HB.out (IsS133.ge HI0.out) GE209.out GE210.out GE214.out GE219.out⟩⟩
              ·rw [if_neg c25] at H
               have c25b0 : (!(x8_3 == x5_1) || (!(x9_4 == x6_2))) = false := by simpa using c25
               clear c25
               (first | rw [c25b0] | (simp only [i64_w, i32_w]; rw [c25b0]) | skip)
               have H' := mS H
               clear H
               have hnb37 := NB219_209.out
               have hnc37 := NB209_219.out
               have hnb38 := NB219_210.out
               have hnc38 := NB210_219.out
               have hnb39 := NB219_214.out
               have hnc39 := NB214_219.out
               have hnb40 := NB219_0.out
               have hnc40 := NB0_219.out
               obtain ⟨hcz41_0, hcz41_1, hfz41_0, hfz41_1⟩ := mZ2 BK219.out
               have hnb42 := NB214_209.out
               have hnc42 := NB209_214.out
               have hnb43 := NB214_210.out
               have hnc43 := NB210_214.out
               have hnb44 := NB214_0.out
               have hnc44 := NB0_214.out
               obtain ⟨hcz45_0, hcz45_1, hcz45_2, hfz45_0, hfz45_1, hfz45_2⟩ := mZ3 BK214.out
               go_wp2
               go_meet
               case rel => exact ⟨_, (false), (x1001_4), (x1002_4), mE, H', ⟨by have := HK1.out; have := HK2.out; have := HK3.out; have := HK4.out; first | omega | exact Nat.le_refl _⟩, ⟨by refine mSd ?_; exact Kd.S_mono (mSf2 (Kd.S_mono HO_211000.out (fun k_ hk => (⟨hk, hk.2⟩ : _ ∧ k_ ≠ gb219)))) (fun _ hk => ⟨hk.1.1.1, ⟨hk.1.1.2, hk.1.2⟩⟩)⟩, ⟨by refine mR ?_; exact Kd.R_mono (mRf2 (Kd.R_mono HO_215002.out (fun k_ hk => (⟨hk, hk.2⟩ : _ ∧ k_ ≠ gb219)))) (fun _ hk => hk.1.2)⟩, ⟨mKf NB209_219.out BK209.out⟩, ⟨mKf NB210_219.out BK210.out⟩, ⟨mKf NB214_219.out BK214.out⟩, ⟨by refine mK ?_; refine blk_put (cs := #[.int .i64 x8_3, .int .i64 0]) ?_ 1 _ rfl; refine mK ?_; refine blk_put (cs := #[.int .i64 0, .int .i64 0]) ?_ 0 _ rfl; refine mK ?_; exact BK219.out⟩, ⟨mI125_4 HI0.out NB0_209.out NB0_210.out NB0_214.out NB0_219.out⟩, ⟨mQ125_9 HK.out GW209.out GW210.out GW214.out GW219.out⟩, ⟨mH125_14 HB.out (IsS133.ge HI0.out) GE209.out GE210.out GE214.out GE219.out⟩⟩
             case rest =>
              clear HC18
              try clear c1
              try clear c2
              try clear p2
              try clear c3
              try clear c4
              try clear c5
              try clear c6
              try clear p6
              try clear c9
              try clear c9b0
              try clear c10
              try clear c10b0
              try clear c11
              try clear c12
              try clear c13
              try clear c14
              try clear c16
              try clear c16b0
              try clear c17
              try clear c17b0
              try clear c20
              try clear c21
              try clear c22
              try clear c23
              try clear c25
              try clear c25b0
              try clear c27
              try clear c28
              try clear c29
              try clear c30
              try clear c32
              try clear c33
              try clear c34
              try clear c37
              try clear c38
              try clear c39
              try clear c40
              try clear c42
              try clear c43
              try clear c44
              try clear hcz15_0
              try clear hcz15_1
              try clear hcz15_2
              try clear hcz24_0
              try clear hcz24_1
              try clear hcz31_0
              try clear hcz31_1
              try clear hcz35_0
              try clear hcz35_1
              try clear hcz35_2
              try clear hcz41_0
              try clear hcz41_1
              try clear hcz45_0
              try clear hcz45_1
              try clear hcz45_2
              try clear hcz7_0
              try clear hfz15_0
              try clear hfz15_1
              try clear hfz15_2
              try clear hfz24_0
              try clear hfz24_1
              try clear hfz31_0
              try clear hfz31_1
              try clear hfz35_0
              try clear hfz35_1
              try clear hfz35_2
              try clear hfz41_0
              try clear hfz41_1
              try clear hfz45_0
              try clear hfz45_1
              try clear hfz45_2
              try clear hfz7_0
              try clear p2
              try clear p6
              obtain ⟨kq, x46_17, x1001_17, x1002_17, rfl, HA, HJ17, HO_211000, HO_215002, BK209, BK210, BK214, BK219, HI0, HK, HB⟩ := hcut
              cases kq with
              | zero => exact absurd HA.out (by simp [spec_l8Full.j4])
              | succ kj17 =>
               have H := HA.out
               clear HA
               simp only [spec_l8Full.j4] at H
               by_cases c46 : x46_17 = true
               ·subst c46
                have H1 := H
                rw [if_pos rfl] at H1
                clear H
                have H := H1
                clear H1
                by_cases c47 : x215002_4.length < 8796093022208
                ·rw [if_pos c47] at H
                 have LMc47 := mS c47
                 clear c47
                 obtain ⟨y223, hy223⟩ : ∃ y_ : List (S31), y_ = (x215002_4 ++ [(⟨x8_3, x9_4⟩ : S31)]) := ⟨_, rfl⟩
                 replace H : (spec_l8Full.l3 kj17 (wrap64 (2 + t211)) x5_1 x6_2 x8_3 (wrap64 (x9_4 + 1)) s0_0 x1001_17 x1002_17 x211000_2 x5_1 x6_2 y223) = some (r1, r2, r3) := by first | (rw [hy223]; with_reducible exact H) | (have H2_ := (Option.bind_some _ _).symm.trans H; rw [hy223]; with_reducible exact H2_) | (have H2_ := (Option.bind_some _ _).symm.trans H; with_reducible exact H2_) | with_reducible exact H | (rw [hy223]; exact H) | exact H
                 have Ny223 := mS hy223
                 clear hy223
                 have H' := mS H
                 clear H
                 have hnb48 := NB214_209.out
                 have hnc48 := NB209_214.out
                 have hnb49 := NB214_210.out
                 have hnc49 := NB210_214.out
                 have hnb50 := NB214_219.out
                 have hnc50 := NB219_214.out
                 have hnb51 := NB214_0.out
                 have hnc51 := NB0_214.out
                 obtain ⟨hcz52_0, hcz52_1, hcz52_2, hfz52_0, hfz52_1, hfz52_2⟩ := mZ3 BK214.out
                 have hnb53 := NB219_209.out
                 have hnc53 := NB209_219.out
                 have hnb54 := NB219_210.out
                 have hnc54 := NB210_219.out
                 have hnb55 := NB219_0.out
                 have hnc55 := NB0_219.out
                 obtain ⟨hcz56_0, hcz56_1, hfz56_0, hfz56_1⟩ := mZ2 BK219.out
                 go_wp2_with (first | ((with_reducible refine gate_builtin (b := .append) (xs := #[.tmp 48, .tmp 50]) rfl ?_); at_builtin; refine Kd.R_append k31 w.heap.size rfl (.tmp 48) (.tmp 50) 28 31 (.agg #[(.int .i64 0), (.int .i64 0)]) 16 rfl Try.underlying28 info31 rfl (by decide) (by omega) u215002 x215002_4 (⟨x8_3, x9_4⟩ : S31) [.int .i64 x8_3, .int .i64 x9_4] (fun k_ => k_ ≠ gb219) (fun _ => False) rfl rfl ?aP (fun _ hk => hk.elim) ?aF ?aO (Below.refl _ _) ?aS ?aL ?_; (case aP => exact k31_mkM _ _ _ (⟨x8_3, x9_4⟩ : S31)); (case aF => exact (fun k_ hk => Kd.freshB (g := gb219) (o := .cells #[.int .i64 x8_3, .int .i64 x9_4] 31 (0, 0)) (mK BK219.out) k_ hk)); (case aO => exact (mR HO_215002.out)); (case aS => exact (keep_size (w := w) (g := g) (row := none) (mQ125_9 HK.out GW209.out GW210.out GW214.out GW219.out))); (case aL => have := LMc47.out; omega); intro v224 w57 ho hb hg hat; rw [← Ny223.out] at ho; replace HO_211000 := mS (Kd.S_after (ok := (fun k_ => k_ ≠ gb214 ∧ k_ ≠ gb219)) (by refine mSd ?_; exact Kd.S_mono HO_211000.out (fun _ hk => ⟨⟨hk.2.1, hk.2.2⟩, hk.1⟩)) hg hat); replace BK209 := mS (blk_grown (g := gb209) (o := .cells #[.slice none 0 0] 26 (0, 0)) (mK BK209.out) hg (Kd.R_ne HO_215002.out BK209.out (by decide))); replace BK210 := mS (blk_grown (g := gb210) (o := .cells #[u211000] 26 (0, 0)) (mK BK210.out) hg (Kd.R_ne HO_215002.out BK210.out (by decide))); replace BK214 := mS (blk_grown (g := gb214) (o := .cells #[.int .i64 x5_1, .int .i64 x6_2, u215002] 33 (0, 0)) (mK BK214.out) hg (Kd.R_ne HO_215002.out BK214.out (by decide))); replace BK219 := mS (blk_grown (g := gb219) (o := .cells #[.int .i64 x8_3, .int .i64 x9_4] 31 (0, 0)) (mK BK219.out) hg (Kd.R_away HO_215002.out (fun _ hk => hk))); replace HB := mS (below_weaken (mH125_14 HB.out (IsS133.ge HI0.out) GE209.out GE210.out GE214.out GE219.out) HL.out hb); replace HI0 := mS (IsS133.grown (mI125_4 HI0.out NB0_209.out NB0_210.out NB0_214.out NB0_219.out) hg (IsS133.own_ne HI0.out HO_215002.out (by decide))); replace HK := mS (KeepBut.trans (mQ125_9 HK.out GW209.out GW210.out GW214.out GW219.out) (KeepBut.of_grown hg g) (Kd.R_base2 HO_215002.out)); have HO225 := mS (ho); clear HO_215002; clear ho hb hg hat; obtain ⟨Ao58, co58, eo58⟩ := Kd.R_slice HO225.out; subst eo58; obtain ⟨hcz59_0, hcz59_1, hcz59_2, hfz59_0, hfz59_1, hfz59_2⟩ := mZ3 BK214.out))
                 go_roundg kj17
                 case measure => have := HK1.out; have := HK2.out; have := HK3.out; have := HK4.out; have := HJ17.out; omega
                 case rel => exact ⟨(wrap64 (x9_4 + 1)), (x1001_17), (x1002_17), (y223), (.slice Ao58 y223.length co58), mE, H', ⟨by have := HK1.out; have := HK2.out; have := HK3.out; have := HK4.out; have := HJ17.out; omega⟩, ⟨by refine mSd ?_; exact Kd.S_mono (Kd.S_far (p := ⟨gb214, 2, none⟩) (Kd.S_mono HO_211000.out (fun k_ hk => (⟨hk, hk.1.1⟩ : _ ∧ k_ ≠ gb214))) (fun _ hk => hk.2) (.slice Ao58 y223.length co58)) (fun _ hk => ⟨hk.1.2, hk.1.1.1⟩)⟩, ⟨by refine mR ?_; exact Kd.R_mono (Kd.R_far (p := ⟨gb214, 2, none⟩) (Kd.R_types HO225.out BK214.out (by decide)) (fun _ hk => hk.2) (.slice Ao58 y223.length co58)) (fun _ hk => trivial)⟩, ⟨mKf NB209_214.out BK209.out⟩, ⟨mKf NB210_214.out BK210.out⟩, ⟨by refine mK ?_; refine blk_put (cs := #[.int .i64 x5_1, .int .i64 x6_2, u215002]) ?_ 2 _ rfl; refine mK ?_; exact BK214.out⟩, ⟨mI125_4 HI0.out NB0_209.out NB0_210.out NB0_214.out NB0_219.out⟩, ⟨mQ125_9 HK.out GW209.out GW210.out GW214.out GW219.out⟩, ⟨mH125_14 HB.out (IsS133.ge HI0.out) GE209.out GE210.out GE214.out GE219.out⟩⟩
                ·rw [if_neg c47] at H
                 exact absurd H (by simp)
               ·replace c46 := Bool.eq_false_iff.mpr c46
                subst c46
                have H1 := H
                rw [if_neg (show ¬ (false = true) by decide)] at H1
                clear H
                have H := H1
                clear H1
                have H' := mS H
                clear H
                go_wp2
                go_roundg kj17
                case measure => have := HK1.out; have := HK2.out; have := HK3.out; have := HK4.out; have := HJ17.out; omega
                case rel => exact ⟨(wrap64 (x9_4 + 1)), (x1001_17), (x1002_17), (x215002_4), (u215002), mE, H', ⟨by have := HK1.out; have := HK2.out; have := HK3.out; have := HK4.out; have := HJ17.out; omega⟩, ⟨by refine mSd ?_; exact Kd.S_mono HO_211000.out (fun _ hk => ⟨hk.1, hk.2.1⟩)⟩, ⟨by refine mR ?_; exact Kd.R_mono HO_215002.out (fun _ hk => trivial)⟩, ⟨mK BK209.out⟩, ⟨mK BK210.out⟩, ⟨mK BK214.out⟩, ⟨mI125_4 HI0.out NB0_209.out NB0_210.out NB0_214.out NB0_219.out⟩, ⟨mQ125_9 HK.out GW209.out GW210.out GW214.out GW219.out⟩, ⟨mH125_14 HB.out (IsS133.ge HI0.out) GE209.out GE210.out GE214.out GE219.out⟩⟩
            ·rw [if_neg c17] at H
             have c17b0 := decide_eq_false c17
             clear c17
             have H' := mS H
             clear H
             go_wp2
             go_roundg k4
             case measure => have := HK1.out; have := HK2.out; have := HK3.out; have := HK4.out; omega
             case rel => exact ⟨(wrap64 (x8_3 + 1)), (x1001_4), (x1002_4), (x215002_4), (u215002), mE, H', ⟨by have := HK1.out; have := HK2.out; have := HK3.out; have := HK4.out; omega⟩, ⟨mSd HO_211000.out⟩, ⟨mR HO_215002.out⟩, ⟨mK BK209.out⟩, ⟨mK BK210.out⟩, ⟨mK BK214.out⟩, ⟨mI125_3 HI0.out NB0_209.out NB0_210.out NB0_214.out⟩, ⟨mQ125_8 HK.out GW209.out GW210.out GW214.out⟩, ⟨mH125_13 HB.out (IsS133.ge HI0.out) GE209.out GE210.out GE214.out⟩⟩
         ·rw [if_neg c16] at H
          have c16b0 := decide_eq_false c16
          clear c16
          replace H := Option.bind_eq_some_iff.mp H
          obtain ⟨⟨t215, t218⟩, A600, H⟩ := H
          replace H : (spec_l8Full.l1 k3 (wrap64 (2 + t211)) x5_1 (wrap64 (x6_2 + 1)) s0_0 x1001_3 x1002_3 t215) = some (r1, r2, r3) := H
          have A60 := mS A600
          clear A600
          have H' := mS H
          clear H
          have hnb61 := NB210_209.out
          have hnc61 := NB209_210.out
          have hnb62 := NB210_214.out
          have hnc62 := NB214_210.out
          have hnb63 := NB210_0.out
          have hnc63 := NB0_210.out
          have hcz64_0 := mZ BK210.out 0
          have hfz64_0 := blk_frozen BK210.out 0
          have hnb65 := NB214_209.out
          have hnc65 := NB209_214.out
          have hnb66 := NB214_0.out
          have hnc66 := NB0_214.out
          obtain ⟨hcz67_0, hcz67_1, hcz67_2, hfz67_0, hfz67_1, hfz67_2⟩ := mZ3 BK214.out
          obtain ⟨Ao68, co68, eo68⟩ := Kd.S_slice HO_211000.out
          subst eo68
          obtain ⟨Ao69, co69, eo69⟩ := Kd.R_slice HO_215002.out
          subst eo69
          go_wp2_with (first | ((with_reducible refine gate_callee (f := 21) rfl ?_); refine mGo 56 Try.func21 #[.agg #[.slice Ao68 x211000_2.length co68], .agg #[.int .i64 x5_1, .int .i64 x6_2, .slice Ao69 x215002_3.length co69]] ?_; (with_reducible refine (spec_GraphPut.calls k3 _ _ x211000_2 x5_1 x6_2 _ _ x215002_3 t215 t218 _ ?side1 ?side2 ?side3 ?side4 A60.out).mono ?_); (case side1 => exact mC (Kd.S_reads' HO_211000.out).2.2); (case side2 => exact (Kd.S_reads' HO_211000.out).2.1); (case side3 => exact mC (Kd.R_reads' HO_215002.out).2.2); (case side4 => exact (Kd.R_reads' HO_215002.out).2.1); rintro e w70 ⟨v216, rfl, ho0, hb⟩; refine ⟨_, rfl, ?_⟩; have HO217 := mS (Kd.S_lower (Kd.S_newB (Kd.S_new' (Kd.S_new' ho0 (Kd.S_lt (mSd HO_211000.out))) (Kd.R_lt (mR HO_215002.out))) (g := gb214) (o := .cells #[.int .i64 x5_1, .int .i64 x6_2, .slice Ao69 x215002_3.length co69] 33 (0, 0)) (mK BK214.out)) (keep_size (w := w) (g := g) (row := none) (mQ125_8 HK.out GW209.out GW210.out GW214.out))); replace HO_211000 := mS (Kd.S_elder' (mSd HO_211000.out) (Kd.S_base ho0) hb); replace HO_215002 := mS (Kd.R_below (mR HO_215002.out) hb); replace BK209 := mB BK209 hb; replace BK210 := mB BK210 hb; replace BK214 := mB BK214 hb; replace HK := mS (KeepBut.trans (mQ125_8 HK.out GW209.out GW210.out GW214.out) (KeepBut.of_below hb g none) (.inl rfl)); replace HB := mS (below_step (mH125_13 HB.out (IsS133.ge HI0.out) GE209.out GE210.out GE214.out) hb); replace HI0 := mS (IsS133.below (mI125_3 HI0.out NB0_209.out NB0_210.out NB0_214.out) hb); (try clear hb); (try clear ho0); obtain ⟨Ao71, co71, eo71⟩ := Kd.S_slice HO217.out; subst eo71; have hcz72_0 := mZ BK210.out 0; have hfz72_0 := blk_frozen BK210.out 0))
          go_roundg k3
          case measure => have := HK1.out; have := HK2.out; have := HK3.out; omega
          case rel => exact ⟨(wrap64 (x6_2 + 1)), (x1001_3), (x1002_3), (t215), (.slice Ao71 t215.length co71), mE, H', ⟨by have := HK1.out; have := HK2.out; have := HK3.out; omega⟩, ⟨by refine mSd ?_; exact Kd.S_mono (Kd.S_far (p := ⟨gb210, 0, none⟩) (Kd.S_types HO217.out BK210.out (by decide)) (fun _ hk => hk.2) (.slice Ao71 t215.length co71)) (fun _ hk => trivial)⟩, ⟨mKf NB209_210.out BK209.out⟩, ⟨by refine mK ?_; refine blk_put (cs := #[.slice Ao68 x211000_2.length co68]) ?_ 0 _ rfl; refine mK ?_; exact BK210.out⟩, ⟨mI125_3 HI0.out NB0_209.out NB0_210.out NB0_214.out⟩, ⟨mQ125_8 HK.out GW209.out GW210.out GW214.out⟩, ⟨mH125_13 HB.out (IsS133.ge HI0.out) GE209.out GE210.out GE214.out⟩⟩
      ·rw [if_neg c10] at H
       have c10b0 := decide_eq_false c10
       clear c10
       have H' := mS H
       clear H
       go_wp2
       go_roundg k2
       case measure => have := HK1.out; have := HK2.out; omega
       case rel => exact ⟨(wrap64 (x5_1 + 1)), (x1001_2), (x1002_2), (x211000_2), (u211000), mE, H', ⟨by have := HK1.out; have := HK2.out; omega⟩, ⟨mSd HO_211000.out⟩, ⟨mK BK209.out⟩, ⟨mK BK210.out⟩, ⟨mI125_2 HI0.out NB0_209.out NB0_210.out⟩, ⟨mQ125_7 HK.out GW209.out GW210.out⟩, ⟨mH125_12 HB.out (IsS133.ge HI0.out) GE209.out GE210.out⟩⟩
   ·rw [if_neg c9] at H
    have c9b0 := decide_eq_false c9
    clear c9
    simp only [Option.some.injEq, Prod.mk.injEq] at H
    obtain ⟨rfl, rfl, rfl⟩ := H
    have hnb73 := NB210_209.out
    have hnc73 := NB209_210.out
    have hnb74 := NB210_0.out
    have hnc74 := NB0_210.out
    have hcz75_0 := mZ BK210.out 0
    have hfz75_0 := blk_frozen BK210.out 0
    obtain ⟨Ao76, co76, eo76⟩ := Kd.S_slice HO_211000.out
    subst eo76
    have hnb77 := NB209_0.out
    have hnc77 := NB0_209.out
    have hcz78_0 := mZ BK209.out 0
    have hfz78_0 := blk_frozen BK209.out 0
    go_wp2
    refine bodyPost_ret (results_cell_row rfl _ _ gb209 26 #[.slice Ao76 x211000_1.length co76] (0, 0) _ rfl (by refine mK ?_; refine blk_put (cs := #[.slice none 0 0]) ?_ 0 _ rfl; refine mK ?_; exact BK209.out) Try.underlying26 rfl (by kernel_rfl)) rfl ?_
    exact ⟨_, mEw, by refine mSd ?_; exact Kd.S_mono (Kd.S_far (p := ⟨gb209, 0, none⟩) (Kd.S_types HO_211000.out BK209.out (by decide)) (fun _ hk => hk.2) (.slice Ao76 x211000_1.length co76)) (fun _ hk => trivial), mI125_2 HI0.out NB0_209.out NB0_210.out, mH125_12 HB.out (IsS133.ge HI0.out) GE209.out GE210.out, mQ125_7 HK.out GW209.out GW210.out⟩

/-! ### spec_DrawGraph: function 14 -/
def spec_DrawGraph.f (k : Nat) (l0 : List Int) : Option ((List (S33))) := (spec_l1New.f k l0).bind fun bt227 => ((spec_l8Full.f k bt227.1 bt227.2.1 bt227.2.2).bind fun bt231 => (some bt231.1))
theorem spec_DrawGraph.mono : ∀ a0 k, LeO (spec_DrawGraph.f k a0) (spec_DrawGraph.f (k + 1) a0) := by
 intro a0 k
 unfold spec_DrawGraph.f
 repeat' first
   | (with_reducible exact spec_l1New.mono _ _)
   | (with_reducible exact spec_l8Full.mono _ _ _ _)
   | (with_reducible exact LeO.refl _)
   | (with_reducible exact LeO.none _)
   | (with_reducible refine LeO.ite ?_ ?_)
   | (with_reducible refine LeO.bind ?_ (fun _ => ?_))
   | exact spec_l1New.mono _ _
   | exact spec_l8Full.mono _ _ _ _
   | exact LeO.none _
   | refine LeO.ite ?_ ?_
   | refine LeO.bind ?_ (fun _ => ?_)
set_option maxHeartbeats 8000000 in
set_option maxRecDepth 100000 in
theorem spec_DrawGraph.calls (k : Nat) (A0 : Option Addr) (c0 : Nat) (l0 : List Int) (r : List (S33)) (w : World) (hr0 : Kd.C (Kd.int .u8) w A0 l0.length l0) (hc0 : l0.length ≤ c0) (h : spec_DrawGraph.f k l0 = some r) :
  Calls Try.prog 14 #[.slice A0 l0.length c0] w fun e w' => ∃ v0_ : Value, e = .returned (.agg #[v0_]) ∧ Kd.S k33 33 w' w.heap.size (fun _ => True) v0_ r ∧ Below w.heap.size w w' := by
 have hu26 := Try.underlying26
 have hfd26 : ∀ (v : Value) (w : World), (Instr.field 26 (.agg #[v]) 0).run Try.prog w = .ok v w := fun _ _ => by first | kernel_rfl | rfl
 have HR0 := mS hr0
 have HC0 := mS hc0
 clear hr0 hc0
 have HB := mS (Below.refl w.heap.size w)
 have H : ((spec_l1New.f k l0).bind fun bt227 => ((spec_l8Full.f k bt227.1 bt227.2.1 bt227.2.2).bind fun bt231 => (some bt231.1))) = some r := h
 clear h
 replace H := Option.bind_eq_some_iff.mp H
 obtain ⟨⟨t227, t228, t229⟩, A20, H⟩ := H
 replace H : ((spec_l8Full.f k t227 t228 t229).bind fun bt231 => (some bt231.1)) = some r := H
 have A2 := mS A20
 clear A20
 replace H := Option.bind_eq_some_iff.mp H
 obtain ⟨⟨t231, t234, t235⟩, A30, H⟩ := H
 replace H : (some t231) = some r := H
 have A3 := mS A30
 clear A30
 obtain rfl := Option.some.inj H
 go_enter Try.func14, Try.ntmps14
 go_wp2_with (first | ((with_reducible refine gate_dst (N := 2) rfl ?_); refine mBx 2 #[.slice none 0 0] 26 ?_; intro gb226 hg w4 hbox hb; have BK226 := mS (hbox); have GW226 := mG hg (mH HB.out); have GE226 := mG hg (mH HB.out); replace HB := mS (below_step (mH HB.out) hb); clear hb hbox hg) | ((with_reducible refine gate_callee (f := 59) rfl ?_); refine mGo 5 Try.func59 #[.slice A0 l0.length c0] ?_; (with_reducible refine (spec_l1New.calls k _ _ l0 t227 t228 t229 w _ ?side1 ?side2 ?side3 A2.out).mono ?_); (case side1 => exact mH1 HB.out GE226.out); (case side2 => exact HR0.out); (case side3 => exact HC0.out); rintro e w5 ⟨g230, rfl, hi, hb, hb2⟩; refine ⟨_, rfl, ?_⟩; replace HB := mS (hb); have HI230 := mS (hi); have NB230_226 := mS (IsS133.ne_blk hi (mKb BK226.out hb2) (by decide)); have NB226_230 := mS (Ne.symm (IsS133.ne_blk hi (mKb BK226.out hb2) (by decide))); replace BK226 := mB BK226 hb2; (try clear hb); (try clear hb2); (try clear hi)) | ((with_reducible refine gate_callee (f := 60) rfl ?_); refine mGo 7 Try.func60 #[.pointer (some ⟨g230, 0, none⟩)] ?_; (with_reducible refine (spec_l8Full.calls k g230 t227 t228 t229 t231 t234 t235 w _ ?side1 ?side2 A3.out).mono ?_); (case side1 => repeat (first | (with_reducible first | exact HI230.out | apply IsS133.alloc | apply IsS133.drewN | apply IsS133.drew | apply IsS133.set_1 | apply IsS133.set_2 | refine IsS133.far ?_ NB230_226.out _) | exact HI230.out)); (case side2 => repeat (first | (with_reducible first | exact HB.out | apply below_alloc | apply pw_below_drewN | apply below_drew1 | refine below_set ?_ (IsS133.ge HI230.out) | refine below_set ?_ GE226.out) | exact HB.out)); rintro e w6 ⟨v232, rfl, ho0, hi, hb, hk⟩; refine ⟨_, rfl, ?_⟩; replace BK226 := mS (KeepBut.blk hk (g' := gb226) (o := .cells #[.slice none 0 0] 26 (0, 0)) (mK BK226.out) NB226_230.out (by simp)); have HO233 := mS (Kd.S_lower ho0 (below_size (mH125_11 HB.out (IsS133.ge HI230.out) GE226.out))); replace HB := mS (hb); replace HI230 := mS (hi); (try clear hb); (try clear hk); (try clear hi); (try clear ho0); obtain ⟨Ao7, co7, eo7⟩ := Kd.S_slice HO233.out; subst eo7; have hnb8 := NB226_230.out; have hnc8 := NB230_226.out; have hcz9_0 := mZ BK226.out 0; have hfz9_0 := blk_frozen BK226.out 0))
 refine bodyPost_ret (results_cell_row rfl _ _ gb226 26 #[.slice Ao7 t231.length co7] (0, 0) _ rfl (by refine mK ?_; refine blk_put (cs := #[.slice none 0 0]) ?_ 0 _ rfl; refine mK ?_; exact BK226.out) Try.underlying26 rfl (by kernel_rfl)) rfl ?_
 exact ⟨_, mEw, by refine mSd ?_; exact Kd.S_mono (Kd.S_far (p := ⟨gb226, 0, none⟩) (Kd.S_types HO233.out BK226.out (by decide)) (fun _ hk => hk.2) (.slice Ao7 t231.length co7)) (fun _ hk => trivial), mH125_11 HB.out (IsS133.ge HI230.out) GE226.out⟩

/-! ### impl_DotLess: function 64 -/
def impl_DotLess.f (a0_0 : Int) (a0_1 : Int) (a1_0 : Int) (a1_1 : Int) : Option (Bool) := if a0_0 < a1_0 then (some true) else (if a0_0 = a1_0 then (some (decide (a0_1 < a1_1))) else (some false))
set_option maxHeartbeats 8000000 in
set_option maxRecDepth 100000 in
theorem impl_DotLess.calls (a0_0 : Int) (a0_1 : Int) (a1_0 : Int) (a1_1 : Int) (r : Bool) (w : World) (h : impl_DotLess.f a0_0 a0_1 a1_0 a1_1 = some r) :
  Calls Try.prog 64 #[.agg #[.int .i64 a0_0, .int .i64 a0_1], .agg #[.int .i64 a1_0, .int .i64 a1_1]] w fun e w' => e = .returned (.bool r) ∧ Below w.heap.size w w' := by
 have hu31 := Try.underlying31
 have HB := mS (Below.refl w.heap.size w)
 have H : (if a0_0 < a1_0 then (some true) else (if a0_0 = a1_0 then (some (decide (a0_1 < a1_1))) else (some false))) = some r := h
 clear h
 by_cases c3 : a0_0 < a1_0
 ·rw [if_pos c3] at H
  have c3b0 := decide_eq_true c3
  clear c3
  obtain rfl := Option.some.inj H
  go_enter Try.func64, Try.ntmps64
  go_wp2_with (first | ((with_reducible refine gate_dst (N := 2) rfl ?_); refine mBx 2 #[.int .i64 a0_0, .int .i64 a0_1] 31 ?_; intro gb236 hg w4 hbox hb; have BK236 := mS (hbox); have GW236 := mG hg (mH HB.out); have GE236 := mG hg (mH HB.out); replace HB := mS (below_step (mH HB.out) hb); clear hb hbox hg) | ((with_reducible refine gate_dst (N := 3) rfl ?_); refine mBx 3 #[.int .i64 a1_0, .int .i64 a1_1] 31 ?_; intro gb237 hg w5 hbox hb; have BK237 := mS (hbox); have GW237 := mG hg (mH1 HB.out GE236.out); have GE237 := mG hg (mH1 HB.out GE236.out); replace HB := mS (below_step (mH1 HB.out GE236.out) hb); have NB236_237 := mNl hg BK236.out; have NB237_236 := mNg hg BK236.out; replace BK236 := mB BK236 hb; clear hb hbox hg; have hnb6 := NB236_237.out; have hnc6 := NB237_236.out; obtain ⟨hcz7_0, hcz7_1, hfz7_0, hfz7_1⟩ := mZ2 BK236.out; obtain ⟨hcz8_0, hcz8_1, hfz8_0, hfz8_1⟩ := mZ2 BK237.out))
  go_ret
  exact ⟨mEw, (mH2 HB.out GE236.out GE237.out)⟩
 ·rw [if_neg c3] at H
  have c3b0 := decide_eq_false c3
  clear c3
  by_cases c9 : a0_0 = a1_0
  ·rw [if_pos c9] at H
   have c9b0 : (a0_0 == a1_0) = true := beq_iff_eq.mpr c9
   have c9b1 : (a0_0 != a1_0) = false := bne_eq_false_iff_eq.mpr c9
   clear c9
   obtain rfl := Option.some.inj H
   go_enter Try.func64, Try.ntmps64
   go_wp2_with (first | ((with_reducible refine gate_dst (N := 2) rfl ?_); refine mBx 2 #[.int .i64 a0_0, .int .i64 a0_1] 31 ?_; intro gb236 hg w10 hbox hb; have BK236 := mS (hbox); have GW236 := mG hg (mH HB.out); have GE236 := mG hg (mH HB.out); replace HB := mS (below_step (mH HB.out) hb); clear hb hbox hg) | ((with_reducible refine gate_dst (N := 3) rfl ?_); refine mBx 3 #[.int .i64 a1_0, .int .i64 a1_1] 31 ?_; intro gb237 hg w11 hbox hb; have BK237 := mS (hbox); have GW237 := mG hg (mH1 HB.out GE236.out); have GE237 := mG hg (mH1 HB.out GE236.out); replace HB := mS (below_step (mH1 HB.out GE236.out) hb); have NB236_237 := mNl hg BK236.out; have NB237_236 := mNg hg BK236.out; replace BK236 := mB BK236 hb; clear hb hbox hg; have hnb12 := NB236_237.out; have hnc12 := NB237_236.out; obtain ⟨hcz13_0, hcz13_1, hfz13_0, hfz13_1⟩ := mZ2 BK236.out; obtain ⟨hcz14_0, hcz14_1, hfz14_0, hfz14_1⟩ := mZ2 BK237.out))
   go_ret
   exact ⟨mEw, (mH2 HB.out GE236.out GE237.out)⟩
  ·rw [if_neg c9] at H
   have c9b0 : (a0_0 == a1_0) = false := beq_eq_false_iff_ne.mpr c9
   have c9b1 : (a0_0 != a1_0) = true := bne_iff_ne.mpr c9
   obtain rfl := Option.some.inj H
   go_enter Try.func64, Try.ntmps64
   go_wp2_with (first | ((with_reducible refine gate_dst (N := 2) rfl ?_); refine mBx 2 #[.int .i64 a0_0, .int .i64 a0_1] 31 ?_; intro gb236 hg w15 hbox hb; have BK236 := mS (hbox); have GW236 := mG hg (mH HB.out); have GE236 := mG hg (mH HB.out); replace HB := mS (below_step (mH HB.out) hb); clear hb hbox hg) | ((with_reducible refine gate_dst (N := 3) rfl ?_); refine mBx 3 #[.int .i64 a1_0, .int .i64 a1_1] 31 ?_; intro gb237 hg w16 hbox hb; have BK237 := mS (hbox); have GW237 := mG hg (mH1 HB.out GE236.out); have GE237 := mG hg (mH1 HB.out GE236.out); replace HB := mS (below_step (mH1 HB.out GE236.out) hb); have NB236_237 := mNl hg BK236.out; have NB237_236 := mNg hg BK236.out; replace BK236 := mB BK236 hb; clear hb hbox hg; have hnb17 := NB236_237.out; have hnc17 := NB237_236.out; obtain ⟨hcz18_0, hcz18_1, hfz18_0, hfz18_1⟩ := mZ2 BK236.out; obtain ⟨hcz19_0, hcz19_1, hfz19_0, hfz19_1⟩ := mZ2 BK237.out))
   go_ret
   exact ⟨mEw, (mH2 HB.out GE236.out GE237.out)⟩

/-! ### impl_in: function 98 -/
def impl_in.f (a0 : Int) (a1 : Int) (a2 : Int) : Option (Bool) := if a0 ≥ a1 then (some (decide (a0 ≤ a2))) else (some false)
set_option maxHeartbeats 8000000 in
set_option maxRecDepth 100000 in
theorem impl_in.calls (a0 : Int) (a1 : Int) (a2 : Int) (r : Bool) (w : World) (h : impl_in.f a0 a1 a2 = some r) :
  Calls Try.prog 98 #[.int .i64 a0, .int .i64 a1, .int .i64 a2] w fun e w' => e = .returned (.bool r) ∧ Drawn0 w w' := by
 have H : (if a0 ≥ a1 then (some (decide (a0 ≤ a2))) else (some false)) = some r := h
 clear h
 by_cases c4 : a0 ≥ a1
 ·rw [if_pos c4] at H
  have c4b0 : decide (a1 ≤ a0) = true := decide_eq_true c4
  clear c4
  obtain rfl := Option.some.inj H
  go_enter Try.func98, Try.ntmps98
  go_wp2
  go_ret
  exact ⟨mE, by repeat (first | exact Drawn0.refl _ | apply Drawn0.step)⟩
 ·rw [if_neg c4] at H
  have c4b0 : decide (a1 ≤ a0) = false := decide_eq_false c4
  clear c4
  obtain rfl := Option.some.inj H
  go_enter Try.func98, Try.ntmps98
  go_wp2
  go_ret
  exact ⟨mE, by repeat (first | exact Drawn0.refl _ | apply Drawn0.step)⟩

end Go.Proofs.Ytgbejjeephipeaa.MFnStable
