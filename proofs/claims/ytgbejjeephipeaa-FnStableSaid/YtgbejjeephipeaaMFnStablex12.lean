-- Written by mp.py, this session's own printer (wip/mp.py).
import Derived.Test.YtgbejjeephipeaaVMShort
import Derived.Test.YtgbejjeephipeaaMFnStablex0
import Derived.Test.YtgbejjeephipeaaMFnStablex1
import Derived.Test.YtgbejjeephipeaaMFnStablex7
import Derived.Test.YtgbejjeephipeaaMFnStablex11
namespace Go.Proofs.Ytgbejjeephipeaa.MFnStable
open Go.RowKit Go.Proofs.YtgbejjeephipeaaW.PrintWords Go.Proofs.YtgbejjeephipeaaW.PrintLast Go.Proofs.YtgbejjeephipeaaW.PrintMore Go.Proofs.Ytgbejjeephipeaa.MWords
attribute [local go_sem] max2_int min2_int max_two min_two max_three min_three max_four min_four   -- for this text's walks alone
set_option linter.unusedVariables false
set_option linter.unusedSimpArgs false

attribute [local go_sem high] eqA31
/-! ### impl_withDot: function 83 -/
mutual
def impl_withDot.l0 : Nat → List (S31) → Int → Int → Int → Option ((List (S31)))
 | 0, _, _, _, _ => none
 | k + 1, x0, x5, x285000, x285001 => if x5 < (x0.length : Int) then (if 0 ≤ x5 then ((impl_DotLess.f ((rd_T31 x0 x5).f0) ((rd_T31 x0 x5).f1) x285000 x285001).bind fun t286 => (impl_withDot.j1 k x0 x5 t286 x285000 x285001)) else (none)) else (impl_withDot.j1 k x0 x5 false x285000 x285001)
def impl_withDot.j1 : Nat → List (S31) → Int → Bool → Int → Int → Option ((List (S31)))
 | 0, _, _, _, _, _ => none
 | k + 1, x0, x5, x17, x285000, x285001 => if x17 = true then (impl_withDot.l0 k x0 (wrap64 (x5 + 1)) x285000 x285001) else (if x5 < (x0.length : Int) then (if 0 ≤ x5 then (impl_withDot.j2 k x0 x5 (((rd_T31 x0 x5).f0) == x285000 && (((rd_T31 x0 x5).f1) == x285001)) x285000 x285001) else (none)) else (impl_withDot.j2 k x0 x5 false x285000 x285001))
def impl_withDot.j2 : Nat → List (S31) → Int → Bool → Int → Int → Option ((List (S31)))
 | 0, _, _, _, _, _ => none
 | k + 1, x0, x5, x31, x285000, x285001 => if x31 = true then (some x0) else (if 0 ≤ x5 then (if x5 ≤ (x0.length : Int) then ((impl_copyDots.f (x0.take (x5 : Int).toNat)).bind fun t292 => ((some (([(⟨x285000, x285001⟩ : S31)] : List (S31)) : List (S31))).bind fun y295 => (if t292.length + y295.length < 8796093022208 then ((some (t292 ++ y295 : List (S31))).bind fun y298 => ((some (x0.drop (x5 : Int).toNat : List (S31))).bind fun y301 => (if y298.length + y301.length < 8796093022208 then (some (y298 ++ y301)) else (none)))) else (none)))) else (none)) else (none))
end
def impl_withDot.f (k : Nat) (l0 : List (S31)) (a1_0 : Int) (a1_1 : Int) : Option ((List (S31))) := impl_withDot.l0 k l0 0 a1_0 a1_1
theorem impl_withDot.mono_l : ∀ k, (∀ y0 y1 y2 y3, LeO (impl_withDot.l0 k y0 y1 y2 y3) (impl_withDot.l0 (k + 1) y0 y1 y2 y3)) ∧ (∀ y0 y1 y2 y3 y4, LeO (impl_withDot.j1 k y0 y1 y2 y3 y4) (impl_withDot.j1 (k + 1) y0 y1 y2 y3 y4)) ∧ (∀ y0 y1 y2 y3 y4, LeO (impl_withDot.j2 k y0 y1 y2 y3 y4) (impl_withDot.j2 (k + 1) y0 y1 y2 y3 y4))
 | 0 => ⟨fun _ _ _ _ r h => by simp [impl_withDot.l0] at h, fun _ _ _ _ _ r h => by simp [impl_withDot.j1] at h, fun _ _ _ _ _ r h => by simp [impl_withDot.j2] at h⟩
 | k + 1 => by
  obtain ⟨ih0, ih1, ih2⟩ := impl_withDot.mono_l k
  refine ⟨?_, ?_, ?_⟩
  ·intro y0 y1 y2 y3
   unfold impl_withDot.l0
   repeat' first
   | (with_reducible exact ih0 _ _ _ _)
   | (with_reducible exact ih1 _ _ _ _ _)
   | (with_reducible exact ih2 _ _ _ _ _)
   | (with_reducible exact LeO.refl _)
   | (with_reducible exact LeO.none _)
   | (with_reducible refine LeO.ite ?_ ?_)
   | (with_reducible refine LeO.bind ?_ (fun _ => ?_))
   | exact ih0 _ _ _ _
   | exact ih1 _ _ _ _ _
   | exact ih2 _ _ _ _ _
   | exact LeO.none _
   | refine LeO.ite ?_ ?_
   | refine LeO.bind ?_ (fun _ => ?_)
  ·intro y0 y1 y2 y3 y4
   unfold impl_withDot.j1
   repeat' first
   | (with_reducible exact ih0 _ _ _ _)
   | (with_reducible exact ih1 _ _ _ _ _)
   | (with_reducible exact ih2 _ _ _ _ _)
   | (with_reducible exact LeO.refl _)
   | (with_reducible exact LeO.none _)
   | (with_reducible refine LeO.ite ?_ ?_)
   | (with_reducible refine LeO.bind ?_ (fun _ => ?_))
   | exact ih0 _ _ _ _
   | exact ih1 _ _ _ _ _
   | exact ih2 _ _ _ _ _
   | exact LeO.none _
   | refine LeO.ite ?_ ?_
   | refine LeO.bind ?_ (fun _ => ?_)
  ·intro y0 y1 y2 y3 y4
   unfold impl_withDot.j2
   repeat' first
   | (with_reducible exact ih0 _ _ _ _)
   | (with_reducible exact ih1 _ _ _ _ _)
   | (with_reducible exact ih2 _ _ _ _ _)
   | (with_reducible exact LeO.refl _)
   | (with_reducible exact LeO.none _)
   | (with_reducible refine LeO.ite ?_ ?_)
   | (with_reducible refine LeO.bind ?_ (fun _ => ?_))
   | exact ih0 _ _ _ _
   | exact ih1 _ _ _ _ _
   | exact ih2 _ _ _ _ _
   | exact LeO.none _
   | refine LeO.ite ?_ ?_
   | refine LeO.bind ?_ (fun _ => ?_)
theorem impl_withDot.mono : ∀ a0 a1 a2 k, LeO (impl_withDot.f k a0 a1 a2) (impl_withDot.f (k + 1) a0 a1 a2) := by
 intro a0 a1 a2 k
 obtain ⟨ih0, ih1, ih2⟩ := impl_withDot.mono_l k
 unfold impl_withDot.f
 repeat' first
   | (with_reducible exact ih0 _ _ _ _)
   | (with_reducible exact ih1 _ _ _ _ _)
   | (with_reducible exact ih2 _ _ _ _ _)
   | (with_reducible exact LeO.refl _)
   | (with_reducible exact LeO.none _)
   | (with_reducible refine LeO.ite ?_ ?_)
   | (with_reducible refine LeO.bind ?_ (fun _ => ?_))
   | exact ih0 _ _ _ _
   | exact ih1 _ _ _ _ _
   | exact ih2 _ _ _ _ _
   | exact LeO.none _
   | refine LeO.ite ?_ ?_
   | refine LeO.bind ?_ (fun _ => ?_)
def impl_withDot.T2 : Bool × List (List Nat × List Nat) := (true, [([], []), ([], []), ([1], [1]), ([0, 2], [0, 2]), ([3], [3]), ([4], [4]), ([4], [4]), ([5, 6, 4], [4, 5, 6]), ([7, 4], [4, 7]), ([4], [4]), ([8, 9, 4, 4], [4, 8, 9]), ([4, 10], [4, 10])])
def impl_withDot.B2 : List Nat := [0, 0, 2, 7, 15, 31, 31, 127, 255, 31, 1023, 2047]
theorem impl_withDot.tab2 : rtab .any (opsOf Try.f83 2) = impl_withDot.T2 := by kernel_rfl
theorem impl_withDot.bits2 : waitsOk impl_withDot.T2.2 impl_withDot.B2 = true := by kernel_rfl
def impl_withDot.T4 : Bool × List (List Nat × List Nat) := (true, [([], []), ([], []), ([1], [1]), ([0, 2], [0, 2]), ([3], [3]), ([4], [4]), ([4], [4]), ([5, 6, 4], [4, 5, 6]), ([7, 4], [4, 7]), ([4], [4]), ([8, 9, 4], [4, 8, 9]), ([4, 10], [4, 10])])
def impl_withDot.B4 : List Nat := [0, 0, 2, 7, 15, 31, 31, 127, 255, 31, 1023, 2047]
theorem impl_withDot.tab4 : rtab .any (opsOf Try.f83 4) = impl_withDot.T4 := by kernel_rfl
theorem impl_withDot.bits4 : waitsOk impl_withDot.T4.2 impl_withDot.B4 = true := by kernel_rfl
def impl_withDot.T6 : Bool × List (List Nat × List Nat) := (true, [([], []), ([], []), ([0, 1], [0, 1]), ([2], [2]), ([], []), ([4], [4]), ([3, 5, 3], [3, 5]), ([], []), ([], []), ([7, 8], [7, 8]), ([6, 9, 6], [6, 9]), ([10, 10, 0, 1, 2, 3, 4, 5, 6, 7, 8, 9, 10], [10])])
def impl_withDot.B6 : List Nat := [0, 0, 3, 7, 0, 16, 63, 0, 0, 384, 1023, 2047]
theorem impl_withDot.tab6 : rtab .any (opsOf Try.f83 6) = impl_withDot.T6 := by kernel_rfl
theorem impl_withDot.bits6 : waitsOk impl_withDot.T6.2 impl_withDot.B6 = true := by kernel_rfl
set_option maxHeartbeats 8000000 in
set_option maxRecDepth 100000 in
theorem impl_withDot.calls (k : Nat) (P0_ : Nat → Prop) (u9000_ : Value) (l0 : List (S31)) (a1_0 : Int) (a1_1 : Int) (r : List (S31)) (w0 w : World) (hB : Below w0.heap.size w0 w) (ho0 : Kd.R k31 31 w w0.heap.size P0_ u9000_ l0) (h : impl_withDot.f k l0 a1_0 a1_1 = some r) :
  Calls Try.prog 83 #[u9000_, .agg #[.int .i64 a1_0, .int .i64 a1_1]] w fun e w' => ∃ v0_ : Value, e = .returned (v0_) ∧ Kd.R k31 31 w' w0.heap.size (fun k_ => (P0_ k_ ∨ w.heap.size ≤ k_)) v0_ r ∧ Below w0.heap.size w0 w' ∧ Kept w w' (fun k_ => P0_ k_) := by
 have hu31 := Try.underlying31
 have HO0 := mS (show Kd.R k31 31 w w0.heap.size (fun k_ => (P0_ k_ ∨ w.heap.size ≤ k_)) u9000_ l0 from Kd.R_mono ho0 (fun k_ hk => (.inl hk)))
 have HK := mS (Kept.refl w (fun k_ => P0_ k_))
 have HW0 := mS hB.size
 have HB := mS hB
 clear hB
 have H : (impl_withDot.l0 k l0 0 a1_0 a1_1) = some r := h
 clear h
 have H' := mS H
 clear H
 go_enter Try.func83, Try.ntmps83
 go_wp2_with (first | ((with_reducible refine gate_dst (N := 3) rfl ?_); refine mBx 3 #[.int .i64 a1_0, .int .i64 a1_1] 31 ?_; intro gb284 hg w3 hbox hb; replace HO0 := mS (Kd.R_below (Kd.R_elderB (mR HO0.out) gb284 (Nat.le_of_eq hg.symm)) hb); have BK284 := mS (hbox); have GW284 := mS ((by rw [hg]; exact (by first | exact HK.out.1 | exact (show Kept w _ (fun k_ => P0_ k_) from by repeat (first | (with_reducible first | exact HK.out | apply Kept.alloc | apply Kept.drewN | apply Kept.drew) | exact HK.out)).1) : w.heap.size ≤ gb284)); replace HK := mS (Kept.below (S := (fun k_ => P0_ k_)) (mP HK.out) hb); have GE284 := mS ((by rw [hg]; exact (below_size (mH HB.out)) : w0.heap.size ≤ gb284)); replace HB := mS (below_step (mH HB.out) hb); clear hb hbox hg))
 go_loopg [5] k (fun kq v5 w' => ∃ (x5_1 : Int), v5 = .int .i64 x5_1 ∧ Aside0 (impl_withDot.l0 kq l0 x5_1 a1_0 a1_1 = some r) ∧ Aside0 (kq ≤ k) ∧ Aside0 (Kd.R k31 31 w' w0.heap.size (fun k_ => (P0_ k_ ∨ w.heap.size ≤ k_) ∧ k_ ≠ gb284) u9000_ l0) ∧ Aside0 (w'.heap[gb284]? = some (.cells #[.int .i64 a1_0, .int .i64 a1_1] 31 (0, 0))) ∧ Aside0 (Kept w w' (fun k_ => P0_ k_)) ∧ Aside0 (Below w0.heap.size w0 w'))
 case atStart => exact ⟨(0), mE, H', ⟨Nat.le_refl _⟩, ⟨mR HO0.out⟩, ⟨mK BK284.out⟩, ⟨mP1 HK.out GW284.out⟩, ⟨(mH1 HB.out GE284.out)⟩⟩
 case round =>
  clear H'
  try clear p2
  obtain ⟨x5_1, rfl, HA, HK1, HO_0, BK284, HK, HB⟩ := hrel
  cases gk with
  | zero => exact absurd HA.out (by simp [impl_withDot.l0])
  | succ k1 =>
   have H := HA.out
   clear HA
   simp only [impl_withDot.l0] at H
   have HC4 := mS H
   clear H
   go_upto_region 2 with (fail)
   go_cut [17] (fun v17 wc => ∃ (kq : Nat) (x17_3 : Bool), v17 = .bool x17_3 ∧ Aside0 (impl_withDot.j1 kq l0 x5_1 x17_3 a1_0 a1_1 = some r) ∧ Aside0 (kq ≤ k1) ∧ Aside0 (Kd.R k31 31 wc w0.heap.size (fun k_ => (P0_ k_ ∨ w.heap.size ≤ k_) ∧ k_ ≠ gb284) u9000_ l0) ∧ Aside0 (wc.heap[gb284]? = some (.cells #[.int .i64 a1_0, .int .i64 a1_1] 31 (0, 0))) ∧ Aside0 (Kept w wc (fun k_ => P0_ k_)) ∧ Aside0 (Below w0.heap.size w0 wc))
   case first =>
    have H := HC4.out
    clear HC4
    by_cases c5 : x5_1 < (l0.length : Int)
    ·rw [if_pos c5] at H
     have c5b0 := decide_eq_true c5
     clear c5
     (first | rw [c5b0] | (simp only [i64_w, i32_w]; rw [c5b0]) | skip)
     by_cases c6 : 0 ≤ x5_1
     ·rw [if_pos c6] at H
      have c6b0 := decide_eq_true c6
      clear c6
      replace H := Option.bind_eq_some_iff.mp H
      obtain ⟨t286, A70, H⟩ := H
      replace H : (impl_withDot.j1 k1 l0 x5_1 t286 a1_0 a1_1) = some r := H
      have A7 := mS A70
      clear A70
      have H' := mS H
      clear H
      try go_wp2
      replace HO_0 := mS (Kd.R_drew HO_0.out)
      replace BK284 := mS (blk_drew BK284.out)
      replace HK := mS (Kept.drew HK.out)
      replace HB := mS (below_drew1 HB.out)
      obtain ⟨Ao9, co9, eo9⟩ := Kd.R_slice HO_0.out
      (first | subst eo9 | (injection eo9 with f1_ f2_ f3_; have f4_ := f1_.symm; have f5_ := f3_.symm; clear f1_ f2_ f3_; subst f4_; subst f5_))
      have p285 : 0 ≤ (x5_1 : Int) := mD
      have q285 : x5_1 < (l0.length : Int) := mD
      obtain ⟨ad285, e285, hx285_0, hx285_1⟩ := at_T31 (Kd.R_reads' HO_0.out).2.2 x5_1 p285 q285
      cases e285
      replace p285 := eq_true p285
      replace q285 := eq_true q285
      refine start_ (n := 12) (S := fun w' => w'.cell? ⟨gb284, 0, none⟩ = some (.int .i64 a1_0) ∧ w'.cell? ⟨gb284, 1, none⟩ = some (.int .i64 a1_1) ∧ w'.cell? (ad285.add ((x5_1).toNat * 2)) = some (.int .i64 ((rd_T31 l0 x5_1).f0)) ∧ w'.cell? ⟨(ad285.add ((x5_1).toNat * 2)).block, (ad285.add ((x5_1).toNat * 2)).off + 1, none⟩ = some (.int .i64 ((rd_T31 l0 x5_1).f1))) (ds := []) (mb 0 12) (by kernel_rfl) rfl rfl ⟨mZ BK284.out 0, mZ BK284.out 1, hx285_0, hx285_1⟩ (fun hHeld => ?_); refine with_tabW impl_withDot.tab2 impl_withDot.bits2 (fun HT_ HW_ => ?_)
      generalize wr.drew = w8 at HO_0 BK284 HK HB hx285_0 hx285_1 hHeld ⊢
      refine mpu 0 6 HT_.out (mb 1 11) ?_
      refine mpu 1 7 HT_.out (mb 2 10) ?_
      refine mpu 2 8 HT_.out (mb 3 9) ?_
      refine mpu 3 9 HT_.out (mb 4 8) ?_
      refine mpu 4 10 HT_.out (mb 5 7) ?_
      refine mpu 5 11 HT_.out (mb 6 6) ?_
      refine mpu 6 12 HT_.out (mb 7 5) ?_
      refine mpu 7 13 HT_.out (mb 8 4) ?_
      refine mpt 8 14 HT_.out HW_.out (mb 9 3) hHeld ?_
      refine mpt 9 15 HT_.out HW_.out (mb 10 2) hHeld ?_
      refine mone 10 (some 16) HT_.out (mb 11 1) (fun K hK => ?_)
      refine goes_ Try.func64 (by kernel_rfl) rfl #[.agg #[.int .i64 ((rd_T31 l0 x5_1).f0), .int .i64 ((rd_T31 l0 x5_1).f1)], .agg #[.int .i64 a1_0, .int .i64 a1_1]] (by rfl) rfl rfl mA ?_
      with_reducible refine (impl_DotLess.calls ((rd_T31 l0 x5_1).f0) ((rd_T31 l0 x5_1).f1) a1_0 a1_1 t286 _ A7.out).mono ?_
      rintro e w10 ⟨rfl, hb⟩
      have HS2_ := (hb.cell (World.block_lt_of_cell? _ _ (hHeld.2.2.1))).trans (hHeld.2.2.1)
      have HS3_ := (hb.cell (World.block_lt_of_cell? _ _ (hHeld.2.2.2))).trans (hHeld.2.2.2)
      refine ⟨_, rfl, ?_⟩
      replace HO_0 := mS (Kd.R_below (mR HO_0.out) hb)
      replace BK284 := mB BK284 hb
      replace HK := mS (Kept.below (S := (fun k_ => P0_ k_)) (mP1 HK.out GW284.out) hb)
      replace HB := mS (below_step (mH1 HB.out GE284.out) hb)
      (try clear hb)
      (try clear hb2)
      (try clear hk)
      (try clear hi)
      refine hK.out _ _ ⟨mZ BK284.out 0, mZ BK284.out 1, HS2_, HS3_⟩ (fun hHeld => ?_)
      clear hK K
      refine mno 16 ?_
      refine mpu 11 17 HT_.out (mb 12 0) ?_
      refine done_ (done_of HT_.out (by kernel_rfl)) ?_
      try go_wp2
      go_meet
      case rel => exact ⟨_, (t286), mE, H', ⟨by have := HK1.out; first | omega | exact Nat.le_refl _⟩, ⟨mR HO_0.out⟩, ⟨mK BK284.out⟩, ⟨mP1 HK.out GW284.out⟩, ⟨(mH1 HB.out GE284.out)⟩⟩
     ·rw [if_neg c6] at H
      exact absurd H (by simp)
    ·rw [if_neg c5] at H
     have c5b0 := decide_eq_false c5
     clear c5
     (first | rw [c5b0] | (simp only [i64_w, i32_w]; rw [c5b0]) | skip)
     have H' := mS H
     clear H
     try go_wp2
     replace HO_0 := mS (Kd.R_drew HO_0.out)
     replace BK284 := mS (blk_drew BK284.out)
     replace HK := mS (Kept.drew HK.out)
     replace HB := mS (below_drew1 HB.out)
     obtain ⟨Ao12, co12, eo12⟩ := Kd.R_slice HO_0.out
     (first | subst eo12 | (injection eo12 with f1_ f2_ f3_; have f4_ := f1_.symm; have f5_ := f3_.symm; clear f1_ f2_ f3_; subst f4_; subst f5_))
     refine start_ (n := 12) (S := fun w' => True) (ds := []) (mb 0 12) (by kernel_rfl) rfl rfl trivial (fun hHeld => ?_); refine with_tabW impl_withDot.tab2 impl_withDot.bits2 (fun HT_ HW_ => ?_)
     generalize wr.drew = w11 at HO_0 BK284 HK HB hHeld ⊢
     refine mpu 0 6 HT_.out (mb 1 11) ?_
     refine mpu 1 7 HT_.out (mb 2 10) ?_
     refine mpu 2 8 HT_.out (mb 3 9) ?_
     refine mpu 3 9 HT_.out (mb 4 8) ?_
     refine mpu 4 10 HT_.out (mb 5 7) ?_
     refine mpf 5 11 HT_.out (mb 6 6) ?_
     refine mpf 6 12 HT_.out (mb 7 5) ?_
     refine mpf 7 13 HT_.out (mb 8 4) ?_
     refine mpf 8 14 HT_.out (mb 9 3) ?_
     refine mpf 9 15 HT_.out (mb 10 2) ?_
     refine mpf 10 16 HT_.out (mb 11 1) ?_
     refine mpu 11 17 HT_.out (mb 12 0) ?_
     refine done_ (done_of HT_.out (by kernel_rfl)) ?_
     try go_wp2
     go_meet
     case rel => exact ⟨_, (false), mE, H', ⟨by have := HK1.out; first | omega | exact Nat.le_refl _⟩, ⟨mR HO_0.out⟩, ⟨mK BK284.out⟩, ⟨mP1 HK.out GW284.out⟩, ⟨(mH1 HB.out GE284.out)⟩⟩
   case rest =>
    clear HC4
    try clear p2
    try clear q2
    try clear hx2
    try clear c5
    try clear c5b0
    try clear c6
    try clear c6b0
    try clear c8
    try clear hx285_0
    try clear hx285_1
    try clear p2
    try clear p285
    try clear q285
    obtain ⟨kq, x17_3, rfl, HA, HJ3, HO_0, BK284, HK, HB⟩ := hcut
    cases kq with
    | zero => exact absurd HA.out (by simp [impl_withDot.j1])
    | succ kj3 =>
     have H := HA.out
     clear HA
     simp only [impl_withDot.j1] at H
     by_cases c13 : x17_3 = true
     ·subst c13
      have H1 := H
      rw [if_pos rfl] at H1
      clear H
      have H := H1
      clear H1
      have H' := mS H
      clear H
      go_wp2
      go_roundg kj3
      case measure => have := HK1.out; have := HJ3.out; omega
      case rel => exact ⟨(wrap64 (x5_1 + 1)), mE, H', ⟨by have := HK1.out; have := HJ3.out; omega⟩, ⟨mR HO_0.out⟩, ⟨mK BK284.out⟩, ⟨mP1 HK.out GW284.out⟩, ⟨(mH1 HB.out GE284.out)⟩⟩
     ·replace c13 := Bool.eq_false_iff.mpr c13
      subst c13
      have H1 := H
      rw [if_neg (show ¬ (false = true) by decide)] at H1
      clear H
      have H := H1
      clear H1
      have HC14 := mS H
      clear H
      go_upto_region 4 with (fail)
      go_cut [31] (fun v31 wc => ∃ (kq : Nat) (x31_13 : Bool), v31 = .bool x31_13 ∧ Aside0 (impl_withDot.j2 kq l0 x5_1 x31_13 a1_0 a1_1 = some r) ∧ Aside0 (kq ≤ kj3) ∧ Aside0 (Kd.R k31 31 wc w0.heap.size (fun k_ => (P0_ k_ ∨ w.heap.size ≤ k_) ∧ k_ ≠ gb284) u9000_ l0) ∧ Aside0 (wc.heap[gb284]? = some (.cells #[.int .i64 a1_0, .int .i64 a1_1] 31 (0, 0))) ∧ Aside0 (Kept w wc (fun k_ => P0_ k_)) ∧ Aside0 (Below w0.heap.size w0 wc))
      case first =>
       have H := HC14.out
       clear HC14
       by_cases c15 : x5_1 < (l0.length : Int)
       ·rw [if_pos c15] at H
        have c15b0 := decide_eq_true c15
        clear c15
        (first | rw [c15b0] | (simp only [i64_w, i32_w]; rw [c15b0]) | skip)
        by_cases c16 : 0 ≤ x5_1
        ·rw [if_pos c16] at H
         have c16b0 := decide_eq_true c16
         clear c16
         have H' := mS H
         clear H
         try go_wp2
         replace HO_0 := mS (Kd.R_drew HO_0.out)
         replace BK284 := mS (blk_drew BK284.out)
         replace HK := mS (Kept.drew HK.out)
         replace HB := mS (below_drew1 HB.out)
         obtain ⟨Ao18, co18, eo18⟩ := Kd.R_slice HO_0.out
         (first | subst eo18 | (injection eo18 with f1_ f2_ f3_; have f4_ := f1_.symm; have f5_ := f3_.symm; clear f1_ f2_ f3_; subst f4_; subst f5_))
         have p287 : 0 ≤ (x5_1 : Int) := mD
         have q287 : x5_1 < (l0.length : Int) := mD
         obtain ⟨ad287, e287, hx287_0, hx287_1⟩ := at_T31 (Kd.R_reads' HO_0.out).2.2 x5_1 p287 q287
         cases e287
         replace p287 := eq_true p287
         replace q287 := eq_true q287
         refine start_ (n := 12) (S := fun w' => w'.cell? ⟨gb284, 0, none⟩ = some (.int .i64 a1_0) ∧ w'.cell? ⟨gb284, 1, none⟩ = some (.int .i64 a1_1) ∧ w'.cell? (ad287.add ((x5_1).toNat * 2)) = some (.int .i64 ((rd_T31 l0 x5_1).f0)) ∧ w'.cell? ⟨(ad287.add ((x5_1).toNat * 2)).block, (ad287.add ((x5_1).toNat * 2)).off + 1, none⟩ = some (.int .i64 ((rd_T31 l0 x5_1).f1))) (ds := []) (mb 0 12) (by kernel_rfl) rfl rfl ⟨mZ BK284.out 0, mZ BK284.out 1, hx287_0, hx287_1⟩ (fun hHeld => ?_); refine with_tabW impl_withDot.tab4 impl_withDot.bits4 (fun HT_ HW_ => ?_)
         generalize wc.drew = w17 at HO_0 BK284 HK HB hx287_0 hx287_1 hHeld ⊢
         refine mpu 0 20 HT_.out (mb 1 11) ?_
         refine mpu 1 21 HT_.out (mb 2 10) ?_
         refine mpu 2 22 HT_.out (mb 3 9) ?_
         refine mpu 3 23 HT_.out (mb 4 8) ?_
         refine mpu 4 24 HT_.out (mb 5 7) ?_
         refine mpu 5 25 HT_.out (mb 6 6) ?_
         refine mpu 6 26 HT_.out (mb 7 5) ?_
         refine mpu 7 27 HT_.out (mb 8 4) ?_
         refine mpt 8 28 HT_.out HW_.out (mb 9 3) hHeld ?_
         refine mpt 9 29 HT_.out HW_.out (mb 10 2) hHeld ?_
         refine mpu 10 30 HT_.out (mb 11 1) ?_
         refine mpu 11 31 HT_.out (mb 12 0) ?_
         refine done_ (done_of HT_.out (by kernel_rfl)) ?_
         try go_wp2
         go_meet
         case rel => exact ⟨_, ((((rd_T31 l0 x5_1).f0) == a1_0 && (((rd_T31 l0 x5_1).f1) == a1_1))), mE, H', ⟨by have := HK1.out; have := HJ3.out; first | omega | exact Nat.le_refl _⟩, ⟨mR HO_0.out⟩, ⟨mK BK284.out⟩, ⟨mP1 HK.out GW284.out⟩, ⟨(mH1 HB.out GE284.out)⟩⟩
        ·rw [if_neg c16] at H
         exact absurd H (by simp)
       ·rw [if_neg c15] at H
        have c15b0 := decide_eq_false c15
        clear c15
        (first | rw [c15b0] | (simp only [i64_w, i32_w]; rw [c15b0]) | skip)
        have H' := mS H
        clear H
        try go_wp2
        replace HO_0 := mS (Kd.R_drew HO_0.out)
        replace BK284 := mS (blk_drew BK284.out)
        replace HK := mS (Kept.drew HK.out)
        replace HB := mS (below_drew1 HB.out)
        obtain ⟨Ao20, co20, eo20⟩ := Kd.R_slice HO_0.out
        (first | subst eo20 | (injection eo20 with f1_ f2_ f3_; have f4_ := f1_.symm; have f5_ := f3_.symm; clear f1_ f2_ f3_; subst f4_; subst f5_))
        refine start_ (n := 12) (S := fun w' => True) (ds := []) (mb 0 12) (by kernel_rfl) rfl rfl trivial (fun hHeld => ?_); refine with_tabW impl_withDot.tab4 impl_withDot.bits4 (fun HT_ HW_ => ?_)
        generalize wc.drew = w19 at HO_0 BK284 HK HB hHeld ⊢
        refine mpu 0 20 HT_.out (mb 1 11) ?_
        refine mpu 1 21 HT_.out (mb 2 10) ?_
        refine mpu 2 22 HT_.out (mb 3 9) ?_
        refine mpu 3 23 HT_.out (mb 4 8) ?_
        refine mpu 4 24 HT_.out (mb 5 7) ?_
        refine mpf 5 25 HT_.out (mb 6 6) ?_
        refine mpf 6 26 HT_.out (mb 7 5) ?_
        refine mpf 7 27 HT_.out (mb 8 4) ?_
        refine mpf 8 28 HT_.out (mb 9 3) ?_
        refine mpf 9 29 HT_.out (mb 10 2) ?_
        refine mpf 10 30 HT_.out (mb 11 1) ?_
        refine mpu 11 31 HT_.out (mb 12 0) ?_
        refine done_ (done_of HT_.out (by kernel_rfl)) ?_
        try go_wp2
        go_meet
        case rel => exact ⟨_, (false), mE, H', ⟨by have := HK1.out; have := HJ3.out; first | omega | exact Nat.le_refl _⟩, ⟨mR HO_0.out⟩, ⟨mK BK284.out⟩, ⟨mP1 HK.out GW284.out⟩, ⟨(mH1 HB.out GE284.out)⟩⟩
      case rest =>
       clear HC14
       try clear c1
       try clear p2
       try clear q2
       try clear hx2
       try clear c5
       try clear c5b0
       try clear c6
       try clear c6b0
       try clear p6
       try clear c8
       try clear c13
       try clear c15
       try clear c15b0
       try clear c16
       try clear c16b0
       try clear hx285_0
       try clear hx285_1
       try clear hx287_0
       try clear hx287_1
       try clear p2
       try clear p285
       try clear p287
       try clear q2
       try clear q285
       try clear q287
       obtain ⟨kq, x31_13, rfl, HA, HJ13, HO_0, BK284, HK, HB⟩ := hcut
       cases kq with
       | zero => exact absurd HA.out (by simp [impl_withDot.j2])
       | succ kj13 =>
        have H := HA.out
        clear HA
        simp only [impl_withDot.j2] at H
        by_cases c21 : x31_13 = true
        ·subst c21
         have H1 := H
         rw [if_pos rfl] at H1
         clear H
         have H := H1
         clear H1
         obtain rfl := Option.some.inj H
         go_wp2
         go_ret
         exact ⟨_, mEw, by refine mR ?_; exact Kd.R_mono HO_0.out (fun _ hk => hk.1), (mH1 HB.out GE284.out), mP1 HK.out GW284.out⟩
        ·replace c21 := Bool.eq_false_iff.mpr c21
         subst c21
         have H1 := H
         rw [if_neg (show ¬ (false = true) by decide)] at H1
         clear H
         have H := H1
         clear H1
         by_cases c22 : 0 ≤ x5_1
         ·rw [if_pos c22] at H
          have c22b0 := eq_true c22
          have c22b1 := decide_eq_true c22
          clear c22
          by_cases c23 : x5_1 ≤ (l0.length : Int)
          ·rw [if_pos c23] at H
           have c23b0 := eq_true c23
           have c23b1 := decide_eq_true c23
           clear c23
           obtain ⟨y288, hy288⟩ : ∃ y_ : List (S31), y_ = (l0.take (x5_1 : Int).toNat) := ⟨_, rfl⟩
           replace H : ((impl_copyDots.f y288).bind fun t292 => ((some (([(⟨a1_0, a1_1⟩ : S31)] : List (S31)) : List (S31))).bind fun y295 => (if t292.length + y295.length < 8796093022208 then ((some (t292 ++ y295 : List (S31))).bind fun y298 => ((some (l0.drop (x5_1 : Int).toNat : List (S31))).bind fun y301 => (if y298.length + y301.length < 8796093022208 then (some (y298 ++ y301)) else (none)))) else (none)))) = some r := by first | (rw [hy288]; with_reducible exact H) | (have H2_ := (Option.bind_some _ _).symm.trans H; rw [hy288]; with_reducible exact H2_) | (have H2_ := (Option.bind_some _ _).symm.trans H; with_reducible exact H2_) | with_reducible exact H | (rw [hy288]; exact H) | exact H
           have Ny288 := mS hy288
           clear hy288
           replace H := Option.bind_eq_some_iff.mp H
           obtain ⟨t292, A240, H⟩ := H
           replace H : ((some (([(⟨a1_0, a1_1⟩ : S31)] : List (S31)) : List (S31))).bind fun y295 => (if t292.length + y295.length < 8796093022208 then ((some (t292 ++ y295 : List (S31))).bind fun y298 => ((some (l0.drop (x5_1 : Int).toNat : List (S31))).bind fun y301 => (if y298.length + y301.length < 8796093022208 then (some (y298 ++ y301)) else (none)))) else (none))) = some r := H
           have A24 := mS A240
           clear A240
           obtain ⟨y295, hy295⟩ : ∃ y_ : List (S31), y_ = (([(⟨a1_0, a1_1⟩ : S31)] : List (S31))) := ⟨_, rfl⟩
           replace H : (if t292.length + y295.length < 8796093022208 then ((some (t292 ++ y295 : List (S31))).bind fun y298 => ((some (l0.drop (x5_1 : Int).toNat : List (S31))).bind fun y301 => (if y298.length + y301.length < 8796093022208 then (some (y298 ++ y301)) else (none)))) else (none)) = some r := by first | (rw [hy295]; with_reducible exact H) | (have H2_ := (Option.bind_some _ _).symm.trans H; rw [hy295]; with_reducible exact H2_) | (have H2_ := (Option.bind_some _ _).symm.trans H; with_reducible exact H2_) | with_reducible exact H | (rw [hy295]; exact H) | exact H
           have Ny295 := mS hy295
           clear hy295
           by_cases c25 : t292.length + y295.length < 8796093022208
           ·rw [if_pos c25] at H
            have LMc25 := mS c25
            clear c25
            obtain ⟨y298, hy298⟩ : ∃ y_ : List (S31), y_ = (t292 ++ y295) := ⟨_, rfl⟩
            replace H : ((some (l0.drop (x5_1 : Int).toNat : List (S31))).bind fun y301 => (if y298.length + y301.length < 8796093022208 then (some (y298 ++ y301)) else (none))) = some r := by first | (rw [hy298]; with_reducible exact H) | (have H2_ := (Option.bind_some _ _).symm.trans H; rw [hy298]; with_reducible exact H2_) | (have H2_ := (Option.bind_some _ _).symm.trans H; with_reducible exact H2_) | with_reducible exact H | (rw [hy298]; exact H) | exact H
            have Ny298 := mS hy298
            clear hy298
            have c26b0 := eq_true (mD : 0 ≤ x5_1)
            have c27b0 := eq_true (mD : x5_1 ≤ (l0.length : Int))
            obtain ⟨y301, hy301⟩ : ∃ y_ : List (S31), y_ = (l0.drop (x5_1 : Int).toNat) := ⟨_, rfl⟩
            replace H : (if y298.length + y301.length < 8796093022208 then (some (y298 ++ y301)) else (none)) = some r := by first | (rw [hy301]; with_reducible exact H) | (have H2_ := (Option.bind_some _ _).symm.trans H; rw [hy301]; with_reducible exact H2_) | (have H2_ := (Option.bind_some _ _).symm.trans H; with_reducible exact H2_) | with_reducible exact H | (rw [hy301]; exact H) | exact H
            have Ny301 := mS hy301
            clear hy301
            by_cases c28 : y298.length + y301.length < 8796093022208
            ·rw [if_pos c28] at H
             have LMc28 := mS c28
             clear c28
             obtain ⟨y305, hy305⟩ : ∃ y_ : List (S31), y_ = (y298 ++ y301) := ⟨_, rfl⟩
             replace H : (some y305) = some r := by first | (rw [hy305]; with_reducible exact H) | (have H2_ := (Option.bind_some _ _).symm.trans H; rw [hy305]; with_reducible exact H2_) | (have H2_ := (Option.bind_some _ _).symm.trans H; with_reducible exact H2_) | with_reducible exact H | (rw [hy305]; exact H) | exact H
             have Ny305 := mS hy305
             clear hy305
             obtain rfl := Option.some.inj H
             try go_wp2
             replace HO_0 := mS (Kd.R_drew HO_0.out)
             replace BK284 := mS (blk_drew BK284.out)
             replace HK := mS (Kept.drew HK.out)
             replace HB := mS (below_drew1 HB.out)
             obtain ⟨Ao31, co31, eo31⟩ := Kd.R_slice HO_0.out
             (first | subst eo31 | (injection eo31 with f1_ f2_ f3_; have f4_ := f1_.symm; have f5_ := f3_.symm; clear f1_ f2_ f3_; subst f4_; subst f5_))
             have q30 : (x5_1 : Int) ≤ ((l0.length : Int) : Int) := mD
             obtain ⟨i030, hi030, _, hsz30, _⟩ := info_parts info31
             have hroom30 : l0.length ≤ co31 := (Kd.R_reads' HO_0.out).2.1
             have hC30 : Kd.C k31 _ Ao31 l0.length l0 := (Kd.R_reads' HO_0.out).2.2
             have hcut30 := cut_to (P := Try.prog) 28 31 .i64 Try.underlying28 hi030 Ao31 l0.length co31 x5_1 (mD) q30 hroom30
             have hr30 := Kd.C_take (m := (x5_1 : Int).toNat) hC30 (by omega)
             have hy30 : y288.length = (x5_1 : Int).toNat := (by rw [Ny288.out, List.length_take]; omega)
             rw [← Ny288.out] at hr30
             rw [← hy30] at hcut30
             have HR291 := mS hr30
             have HC291 := mS (show y288.length ≤ co31 from by omega)
             clear hr30 hC30 hroom30 hi030 hsz30
             have KY30 := mS hy30
             clear hy30
             have KL30 := mS (show (x5_1 : Int).toNat ≤ l0.length from by omega)
             replace q30 := eq_true q30
             have q32 : (x5_1 : Int) ≤ ((l0.length : Int) : Int) := mD
             obtain ⟨i032, hi032, _, hsz32, _⟩ := info_parts info31
             have hroom32 : l0.length ≤ co31 := (Kd.R_reads' HO_0.out).2.1
             have hC32 : Kd.C k31 _ Ao31 l0.length l0 := (Kd.R_reads' HO_0.out).2.2
             have q032 : (0 : Int) ≤ (x5_1 : Int) := mD
             have hcut32 := cut_from (P := Try.prog) 28 31 .i64 Try.underlying28 hi032 2 hsz32 Ao31 l0.length co31 x5_1 q032 q32
             have hr32 := Kd.C_drop (m := (x5_1 : Int).toNat) (c := co31) hC32 (by omega) hroom32
             obtain ⟨A32, hA32⟩ : ∃ A1, A1 = (if co31 = (x5_1 : Int).toNat then Ao31 else (Ao31 : Option Addr).map (·.add ((x5_1 : Int).toNat * 2))) := ⟨_, rfl⟩
             obtain ⟨c32, hc32⟩ : ∃ c1, c1 = co31 - (x5_1 : Int).toNat := ⟨_, rfl⟩
             have hy32 : y301.length = l0.length - (x5_1 : Int).toNat := (by rw [Ny301.out, List.length_drop] <;> omega)
             rw [show (l0).drop (x5_1 : Int).toNat = y301 from Ny301.out.symm] at hr32
             replace hr32 : Kd.C k31 _ A32 y301.length y301 := (by rw [hA32]; exact hr32)
             rw [← hy32, ← hA32, ← hc32] at hcut32
             have HR304 := mS hr32
             have HC304 := mS (show y301.length ≤ c32 from by rw [hy32, hc32]; exact Nat.sub_le_sub_right hroom32 _)
             clear hr32 hC32 hroom32 hi032 hsz32 hc32
             have KY32 := mS hy32
             have KA32 := mS hA32
             clear hy32 hA32
             have KL32 := mS (show (x5_1 : Int).toNat ≤ l0.length from by omega)
             replace q32 := eq_true q32
             refine start_ (n := 12) (S := fun w' => w'.cell? ⟨gb284, 0, none⟩ = some (.int .i64 a1_0) ∧ w'.cell? ⟨gb284, 1, none⟩ = some (.int .i64 a1_1)) (ds := []) (mb 0 12) (by kernel_rfl) rfl rfl (mc2 BK284.out) (fun hHeld => ?_); refine with_tabW impl_withDot.tab6 impl_withDot.bits6 (fun HT_ HW_ => ?_)
             generalize wc.drew = w29 at HO_0 BK284 HK HB HR291 HR304 hHeld ⊢
             refine mpu 0 33 HT_.out (mb 1 11) ?_
             refine mpu 1 34 HT_.out (mb 2 10) ?_
             refine mpu 2 35 HT_.out (mb 3 9) ?_
             refine mpu 7 40 HT_.out (mr [3,4,1,4]) ?_
             refine mpu 8 41 HT_.out (mr [3,4,2,3]) ?_
             refine mpu 9 42 HT_.out (mr [3,4,3,2]) ?_
             refine mpt 4 37 HT_.out HW_.out (mr [3,1,1,2,3,2]) hHeld ?_
             refine join_ (σ := Value × Value) 3 (mr [6,1,3,2]) (fun s_ => [(36, s_.1), (38, s_.2)]) (fun s_ w' => (w'.cell? ⟨gb284, 0, none⟩ = some (.int .i64 a1_0) ∧ w'.cell? ⟨gb284, 1, none⟩ = some (.int .i64 a1_1)) ∧ (Kd.R k31 31 w' w0.heap.size (fun k_ => (P0_ k_ ∨ w.heap.size ≤ k_) ∧ some k_ ≠ (s_.2 : Value).ownBlock ∧ some k_ ≠ (.slice Ao31 l0.length co31 : Value).ownBlock ∧ k_ ≠ gb284) s_.1 t292) ∧ (Kd.R k31 31 w' w0.heap.size (fun k_ => (P0_ k_ ∨ w.heap.size ≤ k_) ∧ some k_ ≠ (s_.1 : Value).ownBlock ∧ some k_ ≠ (.slice Ao31 l0.length co31 : Value).ownBlock ∧ k_ ≠ gb284) s_.2 y295) ∧ (Kd.R k31 31 w' w0.heap.size (fun k_ => (P0_ k_ ∨ w.heap.size ≤ k_) ∧ some k_ ≠ (s_.1 : Value).ownBlock ∧ some k_ ≠ (s_.2 : Value).ownBlock ∧ k_ ≠ gb284) (.slice Ao31 l0.length co31) l0) ∧ (w'.heap[gb284]? = some (.cells #[.int .i64 a1_0, .int .i64 a1_1] 31 (0, 0))) ∧ (Kept w w' (fun k_ => P0_ k_)) ∧ (Below w0.heap.size w0 w')) ?_ ?_
             rotate_left
             ·intro hCont
              refine two_ (i := 3) (j := 5) (Ni := some 36) (Nj := some 38) (mr [5,2,3,2]) (mr [3,1,2,1,3,2]) rfl rfl rfl rfl (two_of HT_.out (by kernel_rfl)) (by decide) (by decide) (fun K hK => ?_) (fun K hK => ?_)
              ·skip
               refine goes_ Try.func65 (by kernel_rfl) rfl #[.slice Ao31 y288.length co31] (by rfl) rfl rfl mA ?_
               with_reducible refine (impl_copyDots.calls _ _ y288 t292 _ ?side1 ?side2 A24.out).mono ?_
               (case side1 => exact mC (mC HR291.out))
               (case side2 => exact HC291.out)
               rintro e w33 ⟨v293, rfl, ho0, hb⟩
               refine ⟨_, rfl, ?_⟩
               have HO294 := mS (Kd.R_lower (Kd.R_newB (Kd.R_new' (Kd.R_newM (M := fun k_ => (P0_ k_ ∨ w.heap.size ≤ k_)) ho0 (by first | exact HK.out.1 | exact (show Kept w _ (fun k_ => P0_ k_) from mP1 HK.out GW284.out).1) (fun k_ h_ => .inr h_)) (Kd.R_lt (mR HO_0.out))) (g := gb284) (o := .cells #[.int .i64 a1_0, .int .i64 a1_1] 31 (0, 0)) (mK BK284.out)) (below_size (mH1 HB.out GE284.out)))
               replace HO_0 := mS (Kd.R_elder' (mR HO_0.out) (Kd.R_base ho0) hb)
               replace BK284 := mB BK284 hb
               replace HR291 := mS (Kd.C_below (mC HR291.out) hb)
               replace HR304 := mS (Kd.C_below (mC HR304.out) hb)
               replace HK := mS (Kept.below (S := (fun k_ => P0_ k_)) (mP1 HK.out GW284.out) hb)
               replace HB := mS (below_step (mH1 HB.out GE284.out) hb)
               (try clear hb)
               (try clear hb2)
               (try clear hk)
               (try clear hi)
               (try clear ho0)
               refine hK.out _ _ (mc2 BK284.out) (fun hHeld => ?_)
               clear hK K
               refine mno 36 ?_
               refine mone 5 (some 38) HT_.out (mr [6,1,3,2]) (fun K hK => ?_)
               refine Kd.R_lit_step k31 _ 31 ?hg (N := 38) ?hd (xs := ([(⟨a1_0, a1_1⟩ : S31)] : List (S31))) (inner := [.int .i64 a1_0, .int .i64 a1_1]) (ok := fun _ => True) (okp := fun _ => True) ?hr ?hp (fun _ hk => hk) trivial (Below.refl _ _) (Nat.le_refl _) (by simp) ?_; (case hd => rfl); (case hg => rfl); (case hr => first | (go_simp; done) | (go_simp; rfl)); (case hp => exact (Reps.c2 (show Kd.M k31 _ _ _ (⟨a1_0, a1_1⟩ : S31) [.int .i64 a1_0, .int .i64 a1_1] from (k31_mkM _ _ _ (⟨a1_0, a1_1⟩ : S31) )) (Reps.none _ _)))
               intro v296 w34 ho35 hb hg_ hnew_
               clear hg_ hnew_
               (first | rw [← Ny295.out] at ho35 | (simp only [Int.reduceToNat] at ho35; rw [← Ny295.out] at ho35))
               have HO297 := mS (Kd.R_lower (Kd.R_newB (Kd.R_new' (Kd.R_new' (Kd.R_newM (M := fun k_ => (P0_ k_ ∨ w.heap.size ≤ k_)) ho35 (by first | exact HK.out.1 | exact (show Kept w _ (fun k_ => P0_ k_) from mP1 HK.out GW284.out).1) (fun k_ h_ => .inr h_)) (Kd.R_lt (mR HO_0.out))) (Kd.R_lt (mR HO294.out))) (g := gb284) (o := .cells #[.int .i64 a1_0, .int .i64 a1_1] 31 (0, 0)) (mK BK284.out)) (below_size (mH1 HB.out GE284.out)))
               replace HO_0 := mS (Kd.R_elder' (mR HO_0.out) (Kd.R_base ho35) hb)
               replace HO294 := mS (Kd.R_elder' (mR HO294.out) (Kd.R_base ho35) hb)
               replace BK284 := mB BK284 hb
               replace HR291 := mS (Kd.C_below (mC HR291.out) hb)
               replace HR304 := mS (Kd.C_below (mC HR304.out) hb)
               replace HK := mS (Kept.below (S := (fun k_ => P0_ k_)) (mP1 HK.out GW284.out) hb)
               replace HB := mS (below_step (mH1 HB.out GE284.out) hb)
               clear hb ho35
               refine hK.out _ _ (mc2 BK284.out) (fun hHeld => ?_)
               clear hK K
               refine mno 38 ?_
               exact norm_ mU (hCont (v293, v296) _ ⟨hHeld, (by refine mR ?_; exact Kd.R_mono HO294.out (fun _ hk => ⟨hk.1.1.1.1, ⟨hk.2, ⟨hk.1.1.2, hk.1.2⟩⟩⟩)), (by refine mR ?_; exact Kd.R_mono HO297.out (fun _ hk => ⟨hk.1.1.1.1, ⟨hk.1.2, ⟨hk.1.1.2, hk.2⟩⟩⟩)), (by refine mR ?_; exact Kd.R_mono HO_0.out (fun _ hk => ⟨hk.1.1.1, ⟨hk.1.2, ⟨hk.2, hk.1.1.2⟩⟩⟩)), (mK BK284.out), (mP1 HK.out GW284.out), (mH1 HB.out GE284.out)⟩)
              ·skip
               refine Kd.R_lit_step k31 _ 31 ?hg (N := 38) ?hd (xs := ([(⟨a1_0, a1_1⟩ : S31)] : List (S31))) (inner := [.int .i64 a1_0, .int .i64 a1_1]) (ok := fun _ => True) (okp := fun _ => True) ?hr ?hp (fun _ hk => hk) trivial (Below.refl _ _) (Nat.le_refl _) (by simp) ?_; (case hd => rfl); (case hg => rfl); (case hr => first | (go_simp; done) | (go_simp; rfl)); (case hp => exact (Reps.c2 (show Kd.M k31 _ _ _ (⟨a1_0, a1_1⟩ : S31) [.int .i64 a1_0, .int .i64 a1_1] from (k31_mkM _ _ _ (⟨a1_0, a1_1⟩ : S31) )) (Reps.none _ _)))
               intro v296 w33 ho34 hb hg_ hnew_
               clear hg_ hnew_
               (first | rw [← Ny295.out] at ho34 | (simp only [Int.reduceToNat] at ho34; rw [← Ny295.out] at ho34))
               have HO297 := mS (Kd.R_lower (Kd.R_newB (Kd.R_new' (Kd.R_newM (M := fun k_ => (P0_ k_ ∨ w.heap.size ≤ k_)) ho34 (by first | exact HK.out.1 | exact (show Kept w _ (fun k_ => P0_ k_) from mP1 HK.out GW284.out).1) (fun k_ h_ => .inr h_)) (Kd.R_lt (mR HO_0.out))) (g := gb284) (o := .cells #[.int .i64 a1_0, .int .i64 a1_1] 31 (0, 0)) (mK BK284.out)) (below_size (mH1 HB.out GE284.out)))
               replace HO_0 := mS (Kd.R_elder' (mR HO_0.out) (Kd.R_base ho34) hb)
               replace BK284 := mB BK284 hb
               replace HR291 := mS (Kd.C_below (mC HR291.out) hb)
               replace HR304 := mS (Kd.C_below (mC HR304.out) hb)
               replace HK := mS (Kept.below (S := (fun k_ => P0_ k_)) (mP1 HK.out GW284.out) hb)
               replace HB := mS (below_step (mH1 HB.out GE284.out) hb)
               clear hb ho34
               refine hK.out _ _ (mc2 BK284.out) (fun hHeld => ?_)
               clear hK K
               refine mno 38 ?_
               refine mone 3 (some 36) HT_.out (mr [6,1,3,2]) (fun K hK => ?_)
               refine goes_ Try.func65 (by kernel_rfl) rfl #[.slice Ao31 y288.length co31] (by rfl) rfl rfl mA ?_
               with_reducible refine (impl_copyDots.calls _ _ y288 t292 _ ?side1 ?side2 A24.out).mono ?_
               (case side1 => exact mC (mC HR291.out))
               (case side2 => exact HC291.out)
               rintro e w35 ⟨v293, rfl, ho0, hb⟩
               refine ⟨_, rfl, ?_⟩
               have HO294 := mS (Kd.R_lower (Kd.R_newB (Kd.R_new' (Kd.R_new' (Kd.R_newM (M := fun k_ => (P0_ k_ ∨ w.heap.size ≤ k_)) ho0 (by first | exact HK.out.1 | exact (show Kept w _ (fun k_ => P0_ k_) from mP1 HK.out GW284.out).1) (fun k_ h_ => .inr h_)) (Kd.R_lt (mR HO_0.out))) (Kd.R_lt (mR HO297.out))) (g := gb284) (o := .cells #[.int .i64 a1_0, .int .i64 a1_1] 31 (0, 0)) (mK BK284.out)) (below_size (mH1 HB.out GE284.out)))
               replace HO_0 := mS (Kd.R_elder' (mR HO_0.out) (Kd.R_base ho0) hb)
               replace HO297 := mS (Kd.R_elder' (mR HO297.out) (Kd.R_base ho0) hb)
               replace BK284 := mB BK284 hb
               replace HR291 := mS (Kd.C_below (mC HR291.out) hb)
               replace HR304 := mS (Kd.C_below (mC HR304.out) hb)
               replace HK := mS (Kept.below (S := (fun k_ => P0_ k_)) (mP1 HK.out GW284.out) hb)
               replace HB := mS (below_step (mH1 HB.out GE284.out) hb)
               (try clear hb)
               (try clear hb2)
               (try clear hk)
               (try clear hi)
               (try clear ho0)
               refine hK.out _ _ (mc2 BK284.out) (fun hHeld => ?_)
               clear hK K
               refine mno 36 ?_
               exact norm_ mU (hCont (v293, v296) _ ⟨hHeld, (by refine mR ?_; exact Kd.R_mono HO294.out (fun _ hk => ⟨hk.1.1.1.1, ⟨hk.1.2, ⟨hk.1.1.2, hk.2⟩⟩⟩)), (by refine mR ?_; exact Kd.R_mono HO297.out (fun _ hk => ⟨hk.1.1.1.1, ⟨hk.2, ⟨hk.1.1.2, hk.1.2⟩⟩⟩)), (by refine mR ?_; exact Kd.R_mono HO_0.out (fun _ hk => ⟨hk.1.1.1, ⟨hk.2, ⟨hk.1.2, hk.1.1.2⟩⟩⟩)), (mK BK284.out), (mP1 HK.out GW284.out), (mH1 HB.out GE284.out)⟩)
             rintro ⟨v293, v296⟩ w36 ⟨hS_, h0_, h1_, h2_, h3_, h4_, h5_⟩
             have HO294 : Aside0 (Kd.R k31 31 w36 w0.heap.size (fun k_ => (P0_ k_ ∨ w.heap.size ≤ k_) ∧ some k_ ≠ (v296 : Value).ownBlock ∧ some k_ ≠ (.slice Ao31 l0.length co31 : Value).ownBlock ∧ k_ ≠ gb284) v293 t292) := ⟨h0_⟩
             have HO297 : Aside0 (Kd.R k31 31 w36 w0.heap.size (fun k_ => (P0_ k_ ∨ w.heap.size ≤ k_) ∧ some k_ ≠ (v293 : Value).ownBlock ∧ some k_ ≠ (.slice Ao31 l0.length co31 : Value).ownBlock ∧ k_ ≠ gb284) v296 y295) := ⟨h1_⟩
             replace HO_0 : Aside0 (Kd.R k31 31 w36 w0.heap.size (fun k_ => (P0_ k_ ∨ w.heap.size ≤ k_) ∧ some k_ ≠ (v293 : Value).ownBlock ∧ some k_ ≠ (v296 : Value).ownBlock ∧ k_ ≠ gb284) (.slice Ao31 l0.length co31) l0) := ⟨h2_⟩
             replace BK284 : Aside0 (w36.heap[gb284]? = some (.cells #[.int .i64 a1_0, .int .i64 a1_1] 31 (0, 0))) := ⟨h3_⟩
             replace HK : Aside0 (Kept w w36 (fun k_ => P0_ k_)) := ⟨h4_⟩
             replace HB : Aside0 (Below w0.heap.size w0 w36) := ⟨h5_⟩
             clear h0_ h1_ h2_ h3_ h4_ h5_
             have hHeld : w36.cell? ⟨gb284, 0, none⟩ = some (.int .i64 a1_0) ∧ w36.cell? ⟨gb284, 1, none⟩ = some (.int .i64 a1_1) := hS_
             obtain ⟨Ao38, co38, eo38⟩ := Kd.R_slice HO297.out
             (first | subst eo38 | (injection eo38 with f1_ f2_ f3_; have f4_ := f1_.symm; have f5_ := f3_.symm; clear f1_ f2_ f3_; subst f4_; subst f5_))
             refine mnp ?_
             refine mone 6 (some 39) HT_.out (mb 10 2) (fun K hK => ?_)
             refine Kd.R_append_rows_step k31 (w0 := w0) w0.heap.size (by rfl) (.tmp 36) (.tmp 38) 28 31 (.agg #[(.int .i64 0), (.int .i64 0)]) 16 rfl Try.underlying28 info31 rfl (by decide) (by omega) v293 t292 y295 _ _ _ (fun k_ => (P0_ k_ ∨ w.heap.size ≤ k_) ∧ some k_ ≠ (.slice Ao31 l0.length co31 : Value).ownBlock ∧ some k_ ≠ (.slice Ao38 y295.length co38 : Value).ownBlock ∧ k_ ≠ gb284) (fun _ => False) rfl rfl ?aO ?aR (fun _ _ h => h) (fun _ h => h.elim) ?aF ?aB ?aS ?aL ?_
             (case aR => exact mC (Kd.R_reads' HO297.out).2.2)
             (case aB => exact (mH1 HB.out GE284.out))
             (case aF => exact (fun k_ hk => ⟨(.inr (Nat.le_trans (by first | exact HK.out.1 | exact (show Kept w _ (fun k_ => P0_ k_) from mP1 HK.out GW284.out).1) hk)), Kd.fresh' (Kd.R_lt (mR HO_0.out)) k_ hk, Kd.fresh' (Kd.R_lt (mR HO297.out)) k_ hk, Kd.freshB (g := gb284) (o := .cells #[.int .i64 a1_0, .int .i64 a1_1] 31 (0, 0)) (mK BK284.out) k_ hk⟩))
             (case aO => exact (by refine mR ?_; exact Kd.R_mono HO294.out (fun _ hk => ⟨hk.1, ⟨hk.2.2.1, ⟨hk.2.1, hk.2.2.2⟩⟩⟩)))
             (case aS => exact (below_size (mH1 HB.out GE284.out)))
             (case aL => have := LMc25.out; omega)
             intro v299 w37 ho hb hg hat
             rw [← Ny298.out] at ho
             replace HO_0 := mS (Kd.R_after (ok := (fun k_ => (P0_ k_ ∨ w.heap.size ≤ k_) ∧ some k_ ≠ (.slice Ao38 y295.length co38 : Value).ownBlock ∧ k_ ≠ gb284)) (by refine mR ?_; exact Kd.R_mono HO_0.out (fun _ hk => ⟨⟨hk.1, ⟨hk.2.2.1, hk.2.2.2⟩⟩, hk.2.1⟩)) hg hat)
             replace BK284 := mS (blk_grown (g := gb284) (o := .cells #[.int .i64 a1_0, .int .i64 a1_1] 31 (0, 0)) (mK BK284.out) hg (Kd.R_away HO294.out (fun _ hk => hk.2.2.2)))
             replace HO297 := mS (Kd.R_after (ok := (fun k_ => (P0_ k_ ∨ w.heap.size ≤ k_) ∧ some k_ ≠ (.slice Ao31 l0.length co31 : Value).ownBlock ∧ k_ ≠ gb284)) (by refine mR ?_; exact Kd.R_mono HO297.out (fun _ hk => ⟨⟨hk.1, ⟨hk.2.2.1, hk.2.2.2⟩⟩, hk.2.1⟩)) hg hat)
             replace HB := mS (hb)
             replace HK := mS (Kept.of_grown (S := (fun k_ => P0_ k_)) hg (mP1 HK.out GW284.out) (fun k_ e_ => (HO294.out.1 k_ e_).1))
             have HO300 := mS (ho)
             clear HO294
             clear ho hb hg hat
             refine hK.out _ _ (mc2 BK284.out) (fun hHeld => ?_)
             clear hK K
             refine mno 39 ?_
             refine mone 10 (some 43) HT_.out (mb 11 1) (fun K hK => ?_)
             refine Kd.R_append_rows_step k31 (w0 := w0) w0.heap.size (by rfl) (.tmp 39) (.tmp 42) 28 31 (.agg #[(.int .i64 0), (.int .i64 0)]) 16 rfl Try.underlying28 info31 rfl (by decide) (by omega) v299 y298 y301 _ _ _ (fun k_ => (P0_ k_ ∨ w.heap.size ≤ k_) ∧ some k_ ≠ (.slice Ao31 l0.length co31 : Value).ownBlock ∧ some k_ ≠ (.slice Ao38 y295.length co38 : Value).ownBlock ∧ k_ ≠ gb284) (fun _ => False) rfl rfl ?aO ?aR (fun _ _ h => h) (fun _ h => h.elim) ?aF ?aB ?aS ?aL ?_
             (case aR => rw [Ny301.out, KA32.out]; repeat (first | exact Kd.C_drop (m := (x5_1 : Int).toNat) (c := co31) (Kd.R_reads' HO_0.out).2.2 KL32.out (Kd.R_reads' HO_0.out).2.1 | (with_reducible refine Kd.C_alloc ?_ _) | (with_reducible refine Kd.C_drewN ?_ _) | (with_reducible refine Kd.C_drew ?_)))
             (case aB => exact (mH1 HB.out GE284.out))
             (case aF => exact (fun k_ hk => ⟨(.inr (Nat.le_trans (by first | exact HK.out.1 | exact (show Kept w _ (fun k_ => P0_ k_) from mP1 HK.out GW284.out).1) hk)), Kd.fresh' (Kd.R_lt (mR HO_0.out)) k_ hk, Kd.fresh' (Kd.R_lt (mR HO297.out)) k_ hk, Kd.freshB (g := gb284) (o := .cells #[.int .i64 a1_0, .int .i64 a1_1] 31 (0, 0)) (mK BK284.out) k_ hk⟩))
             (case aO => exact (mR HO300.out))
             (case aS => exact (below_size (mH1 HB.out GE284.out)))
             (case aL => have := LMc28.out; omega)
             intro v306 w39 ho hb hg hat
             rw [← Ny305.out] at ho
             replace HO_0 := mS (Kd.R_after (ok := (fun k_ => (P0_ k_ ∨ w.heap.size ≤ k_) ∧ some k_ ≠ (.slice Ao38 y295.length co38 : Value).ownBlock ∧ k_ ≠ gb284)) (mR HO_0.out) hg hat)
             replace BK284 := mS (blk_grown (g := gb284) (o := .cells #[.int .i64 a1_0, .int .i64 a1_1] 31 (0, 0)) (mK BK284.out) hg (Kd.R_away HO300.out (fun _ hk => hk.2.2.2)))
             replace HO297 := mS (Kd.R_after (ok := (fun k_ => (P0_ k_ ∨ w.heap.size ≤ k_) ∧ some k_ ≠ (.slice Ao31 l0.length co31 : Value).ownBlock ∧ k_ ≠ gb284)) (mR HO297.out) hg hat)
             replace HB := mS (hb)
             replace HK := mS (Kept.of_grown (S := (fun k_ => P0_ k_)) hg (mP1 HK.out GW284.out) (fun k_ e_ => (HO300.out.1 k_ e_).1))
             have HO307 := mS (ho)
             clear HO300
             clear ho hb hg hat
             refine hK.out _ _ (mc2 BK284.out) (fun hHeld => ?_)
             clear hK K
             refine mno 43 ?_
             refine mpu 11 4 HT_.out (mb 12 0) ?_
             refine done_ (done_of HT_.out (by kernel_rfl)) ?_
             try go_wp2
             go_ret
             exact ⟨_, mEw, by refine mR ?_; exact Kd.R_mono HO307.out (fun _ hk => hk.1), (mH1 HB.out GE284.out), mP1 HK.out GW284.out⟩
            ·rw [if_neg c28] at H
             exact absurd H (by simp)
           ·rw [if_neg c25] at H
            exact absurd H (by simp)
          ·rw [if_neg c23] at H
           exact absurd H (by simp)
         ·rw [if_neg c22] at H
          exact absurd H (by simp)

end Go.Proofs.Ytgbejjeephipeaa.MFnStable
