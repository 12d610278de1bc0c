-- Written by mp.py, this session's own printer (wip/mp.py).
import Derived.Test.YtgncojbnejdplaaVMShort
import Derived.Test.YtgncojbnejdplaaMFnFramesx0
namespace Go.Proofs.Ytgncojbnejdplaa.MFnFrames
open Go.RowKit Go.Proofs.YtgncojbnejdplaaW.PrintWords Go.Proofs.YtgncojbnejdplaaW.PrintLast Go.Proofs.YtgncojbnejdplaaW.PrintMore Go.Proofs.Ytgncojbnejdplaa.MWords
attribute [local go_sem] max2_int min2_int max_two min_two max_three min_three max_four min_four   -- for this text's walks alone
set_option linter.unusedVariables false
set_option linter.unusedSimpArgs false

/-! ### laws_big: function 23 -/
def laws_big.f (l0 : List Int) : Option (Bool) := some (decide ((l0.length : Int) > 1048576))
set_option maxHeartbeats 8000000 in
set_option maxRecDepth 100000 in
theorem laws_big.calls (A0 : Option Addr) (c0 : Nat) (l0 : List Int) (r : Bool) (w : World) (hr0 : Kd.C (Kd.int .u8) w A0 l0.length l0) (hc0 : l0.length ≤ c0) (h : laws_big.f l0 = some r) :
  Calls Try.prog 23 #[.slice A0 l0.length c0] w fun e w' => e = .returned (.bool r) ∧ Drawn0 w w' := by
 have HR0 := mS hr0
 have HC0 := mS hc0
 clear hr0 hc0
 have H : (some (decide ((l0.length : Int) > 1048576))) = some r := h
 clear h
 obtain rfl := Option.some.inj H
 go_enter Try.func23, Try.ntmps23
 go_wp2
 go_ret
 exact ⟨mE, by repeat (first | exact Drawn0.refl _ | apply Drawn0.step)⟩

/-! ### impl_addNum: function 74 -/
mutual
def impl_addNum.l0 : Nat → List Int → Int → Int → Option (List Int)
 | 0, _, _, _ => none
 | k + 1, x0, x1, x5 => if 0 ≤ x5 then (if (shr .i64 x1 x5) > 127 then (impl_addNum.l0 k x0 x1 (wrap64 (x5 + 7))) else (impl_addNum.l1 k x0 x1 x5)) else (none)
def impl_addNum.l1 : Nat → List Int → Int → Int → Option (List Int)
 | 0, _, _, _ => none
 | k + 1, x0, x1, x5 => if x5 > 0 then (if 0 ≤ x5 then (if x0.length < 140737488355328 then (impl_addNum.l1 k (x0 ++ [(wrap64 ((Go.bits .and .i64 (shr .i64 x1 x5) 127) + 128)) % 256]) x1 (wrap64 (x5 - 7))) else (none)) else (none)) else (if x0.length < 140737488355328 then (some (x0 ++ [(Go.bits .and .i64 x1 127) % 256])) else (none))
end
def impl_addNum.f (k : Nat) (l0 : List Int) (a1 : Int) : Option (List Int) := impl_addNum.l0 k l0 (mx 0 (mn a1 1000000000)) 0
theorem impl_addNum.mono_l : ∀ k, (∀ y0 y1 y2, LeO (impl_addNum.l0 k y0 y1 y2) (impl_addNum.l0 (k + 1) y0 y1 y2)) ∧ (∀ y0 y1 y2, LeO (impl_addNum.l1 k y0 y1 y2) (impl_addNum.l1 (k + 1) y0 y1 y2))
 | 0 => ⟨fun _ _ _ r h => by simp [impl_addNum.l0] at h, fun _ _ _ r h => by simp [impl_addNum.l1] at h⟩
 | k + 1 => by
  obtain ⟨ih0, ih1⟩ := impl_addNum.mono_l k
  refine ⟨?_, ?_⟩
  ·intro y0 y1 y2
   unfold impl_addNum.l0
   repeat' first
   | (with_reducible exact ih0 _ _ _)
   | (with_reducible exact ih1 _ _ _)
   | (with_reducible exact LeO.refl _)
   | (with_reducible exact LeO.none _)
   | (with_reducible refine LeO.ite ?_ ?_)
   | (with_reducible refine LeO.bind ?_ (fun _ => ?_))
   | exact ih0 _ _ _
   | exact ih1 _ _ _
   | exact LeO.none _
   | refine LeO.ite ?_ ?_
   | refine LeO.bind ?_ (fun _ => ?_)
  ·intro y0 y1 y2
   unfold impl_addNum.l1
   repeat' first
   | (with_reducible exact ih0 _ _ _)
   | (with_reducible exact ih1 _ _ _)
   | (with_reducible exact LeO.refl _)
   | (with_reducible exact LeO.none _)
   | (with_reducible refine LeO.ite ?_ ?_)
   | (with_reducible refine LeO.bind ?_ (fun _ => ?_))
   | exact ih0 _ _ _
   | exact ih1 _ _ _
   | exact LeO.none _
   | refine LeO.ite ?_ ?_
   | refine LeO.bind ?_ (fun _ => ?_)
theorem impl_addNum.mono : ∀ a0 a1 k, LeO (impl_addNum.f k a0 a1) (impl_addNum.f (k + 1) a0 a1) := by
 intro a0 a1 k
 obtain ⟨ih0, ih1⟩ := impl_addNum.mono_l k
 unfold impl_addNum.f
 repeat' first
   | (with_reducible exact ih0 _ _ _)
   | (with_reducible exact ih1 _ _ _)
   | (with_reducible exact LeO.refl _)
   | (with_reducible exact LeO.none _)
   | (with_reducible refine LeO.ite ?_ ?_)
   | (with_reducible refine LeO.bind ?_ (fun _ => ?_))
   | exact ih0 _ _ _
   | exact ih1 _ _ _
   | exact LeO.none _
   | refine LeO.ite ?_ ?_
   | refine LeO.bind ?_ (fun _ => ?_)
set_option maxHeartbeats 8000000 in
set_option maxRecDepth 100000 in
theorem impl_addNum.calls (k : Nat) (P0_ : Nat → Prop) (u9000_ : Value) (l0 : List Int) (a1 : Int) (r : List Int) (w0 w : World) (hB : Below w0.heap.size w0 w) (ho0 : Kd.R (Kd.int .u8) 5 w w0.heap.size P0_ u9000_ l0) (h : impl_addNum.f k l0 a1 = some r) :
  Calls Try.prog 74 #[u9000_, .int .i64 a1] w fun e w' => ∃ v0_ : Value, e = .returned (v0_) ∧ Kd.R (Kd.int .u8) 5 w' w0.heap.size (fun k_ => (P0_ k_ ∨ w.heap.size ≤ k_)) v0_ r ∧ Below w0.heap.size w0 w' ∧ Kept w w' (fun k_ => P0_ k_) := by
 have HO0 := mS (show Kd.R (Kd.int .u8) 5 w w0.heap.size (fun k_ => (P0_ k_ ∨ w.heap.size ≤ k_)) u9000_ l0 from Kd.R_mono ho0 (fun k_ hk => (.inl hk)))
 have HK := mS (Kept.refl w (fun k_ => P0_ k_))
 have HW0 := mS hB.size
 have HB := mS hB
 clear hB
 have H : (impl_addNum.l0 k l0 (mx 0 (mn a1 1000000000)) 0) = some r := h
 clear h
 obtain ⟨ji3, hji3⟩ : ∃ j_ : Int, (mn a1 1000000000) = j_ := ⟨_, rfl⟩
 replace H : (impl_addNum.l0 k l0 (mx 0 (ji3)) 0) = some r := by first | (rw [hji3] at H; exact H) | (simp only [hji3] at H ⊢; exact H)
 (try (have hji3h : ji3 ≤ 1000000000 := by (rw [← hji3]; unfold mn; (repeat' split) <;> omega)))
 (try (have hji3g : ji3 ≤ 64 := by omega))
 have hji3_ : (if 1000000000 < a1 then 1000000000 else a1) = ji3 := hji3
 obtain ⟨ji4, hji4⟩ : ∃ j_ : Int, (mx 0 (ji3)) = j_ := ⟨_, rfl⟩
 replace H : (impl_addNum.l0 k l0 ji4 0) = some r := by first | (rw [hji4] at H; exact H) | (simp only [hji4] at H ⊢; exact H)
 have hji4_ : (if 0 < (ji3) then (ji3) else 0) = ji4 := hji4
 have H' := mS H
 clear H
 go_enter Try.func74, Try.ntmps74
 go_wp2
 go_loopg [5] k (fun kq v5 w' => ∃ (x5_1 : Int), v5 = .int .i64 x5_1 ∧ Aside0 (impl_addNum.l0 kq l0 ji4 x5_1 = some r) ∧ Aside0 (kq ≤ k) ∧ Aside0 (Kd.R (Kd.int .u8) 5 w' w0.heap.size (fun k_ => (P0_ k_ ∨ w.heap.size ≤ k_)) u9000_ l0) ∧ Aside0 (Kept w w' (fun k_ => P0_ k_)) ∧ Aside0 (Below w0.heap.size w0 w'))
 case atStart => exact ⟨(0), mE, H', ⟨Nat.le_refl _⟩, ⟨mR HO0.out⟩, ⟨(mP HK.out)⟩, ⟨(mH HB.out)⟩⟩
 case round =>
  clear H'
  try clear p2
  obtain ⟨x5_1, rfl, HA, HK1, HO_0, HK, HB⟩ := hrel
  cases gk with
  | zero => exact absurd HA.out (by simp [impl_addNum.l0])
  | succ k1 =>
   have H := HA.out
   clear HA
   simp only [impl_addNum.l0] at H
   by_cases c5 : 0 ≤ x5_1
   ·rw [if_pos c5] at H
    have c5b0 := eq_true c5
    have c5b1 := decide_eq_true c5
    clear c5
    obtain ⟨ji6, hji6⟩ : ∃ j_ : Int, (shr .i64 ji4 x5_1) = j_ := ⟨_, rfl⟩
    replace H : (if (ji6) > 127 then (impl_addNum.l0 k1 l0 ji4 (wrap64 (x5_1 + 7))) else (impl_addNum.l1 k1 l0 ji4 x5_1)) = some r := by first | (rw [hji6] at H; exact H) | (simp only [hji6] at H ⊢; exact H)
    have hji6_ : (ji4 / 2 ^ min x5_1.toNat 64) = ji6 := hji6
    have hji6z : x5_1 ≤ 64 → (ji4 / 2 ^ x5_1.toNat) = ji6 := shr_small hji6
    by_cases c7 : (ji6) > 127
    ·rw [if_pos c7] at H
     have c7b0 : decide (127 < (ji6)) = true := decide_eq_true c7
     clear c7
     have H' := mS H
     clear H
     go_wp2
     go_roundg k1
     case measure => have := HK1.out; omega
     case rel => exact ⟨(wrap64 (x5_1 + 7)), mE, H', ⟨by have := HK1.out; omega⟩, ⟨mR HO_0.out⟩, ⟨(mP HK.out)⟩, ⟨(mH HB.out)⟩⟩
    ·rw [if_neg c7] at H
     have c7b0 : decide (127 < (ji6)) = false := decide_eq_false c7
     clear c7
     have H' := mS H
     clear H
     go_wp2
     go_loopg [0, 5] k1 (fun kq v0 v5 w' => ∃ (x0_2 : List Int) (x5_2 : Int), v5 = .int .i64 x5_2 ∧ Aside0 (impl_addNum.l1 kq x0_2 ji4 x5_2 = some r) ∧ Aside0 (kq ≤ k1) ∧ Aside0 (Kd.R (Kd.int .u8) 5 w' w0.heap.size (fun k_ => (P0_ k_ ∨ w.heap.size ≤ k_)) v0 x0_2) ∧ Aside0 (Kept w w' (fun k_ => P0_ k_)) ∧ Aside0 (Below w0.heap.size w0 w'))
     case atStart => exact ⟨(l0), (x5_1), mE, H', ⟨Nat.le_refl _⟩, ⟨mR HO_0.out⟩, ⟨(mP HK.out)⟩, ⟨(mH HB.out)⟩⟩
     case round =>
      clear H'
      try clear p2
      try clear c5
      try clear c5b0
      try clear c5b1
      try clear p6
      try clear c7
      try clear c7b0
      try clear p2
      obtain ⟨x0_2, x5_2, rfl, HA, HK2, HO_0, HK, HB⟩ := hrel
      cases gk with
      | zero => exact absurd HA.out (by simp [impl_addNum.l1])
      | succ k2 =>
       have H := HA.out
       clear HA
       simp only [impl_addNum.l1] at H
       by_cases c8 : x5_2 > 0
       ·rw [if_pos c8] at H
        have c8b0 : decide (0 < x5_2) = true := decide_eq_true c8
        clear c8
        by_cases c9 : 0 ≤ x5_2
        ·rw [if_pos c9] at H
         have c9b0 := eq_true c9
         have c9b1 := decide_eq_true c9
         clear c9
         obtain ⟨ji10, hji10⟩ : ∃ j_ : Int, (shr .i64 ji4 x5_2) = j_ := ⟨_, rfl⟩
         replace H : (if x0_2.length < 140737488355328 then (impl_addNum.l1 k2 (x0_2 ++ [(wrap64 ((Go.bits .and .i64 (ji10) 127) + 128)) % 256]) ji4 (wrap64 (x5_2 - 7))) else (none)) = some r := by first | (rw [hji10] at H; exact H) | (simp only [hji10] at H ⊢; exact H)
         have hji10_ : (ji4 / 2 ^ min x5_2.toNat 64) = ji10 := hji10
         have hji10z : x5_2 ≤ 64 → (ji4 / 2 ^ x5_2.toNat) = ji10 := shr_small hji10
         by_cases c11 : x0_2.length < 140737488355328
         ·rw [if_pos c11] at H
          have LMc11 := mS c11
          clear c11
          obtain ⟨y101, hy101⟩ : ∃ y_ : List Int, y_ = (x0_2 ++ [(wrap64 ((Go.bits .and .i64 (ji10) 127) + 128)) % 256]) := ⟨_, rfl⟩
          replace H : (impl_addNum.l1 k2 y101 ji4 (wrap64 (x5_2 - 7))) = some r := by first | (rw [hy101]; with_reducible exact H) | (have H2_ := (Option.bind_some _ _).symm.trans H; rw [hy101]; with_reducible exact H2_) | (have H2_ := (Option.bind_some _ _).symm.trans H; with_reducible exact H2_) | with_reducible exact H | (rw [hy101]; exact H) | exact H
          have Ny101 := mS hy101
          clear hy101
          have H' := mS H
          clear H
          go_wp2_with (first | ((with_reducible refine gate_builtin (b := .append) (xs := #[.tmp 19, .tmp 26]) rfl ?_); at_builtin; refine Kd.R_append (Kd.int .u8) (w0 := w0) w0.heap.size rfl (.tmp 19) (.tmp 26) 22 5 (.int .u8 0) 1 rfl Try.underlying22 info5 rfl (by decide) (by omega) u0 x0_2 ((wrap64 ((Go.bits .and .i64 (ji10) 127) + 128)) % 256) [.int .u8 ((wrap64 ((Go.bits .and .i64 (ji10) 127) + 128)) % 256)] (fun k_ => (P0_ k_ ∨ w.heap.size ≤ k_)) (fun _ => False) rfl rfl ?aP (fun _ hk => hk.elim) ?aF ?aO ?aB ?aS ?aL ?_; (case aP => exact rfl); (case aB => exact (mH HB.out)); (case aF => exact (fun k_ hk => (.inr (Nat.le_trans (by first | exact HK.out.1 | exact (show Kept w _ (fun k_ => P0_ k_) from by repeat (first | (with_reducible first | exact HK.out | apply Kept.alloc | apply Kept.drewN | apply Kept.drew) | exact HK.out)).1) hk)))); (case aO => exact (mR HO_0.out)); (case aS => exact (below_size (mH HB.out))); (case aL => have := LMc11.out; omega); intro v102 w12 ho hb hg hat; rw [← Ny101.out] at ho; replace HB := mS (hb); replace HK := mS (Kept.of_grown (S := (fun k_ => P0_ k_)) hg (mP HK.out) (fun k_ e_ => (HO_0.out.1 k_ e_))); have HO103 := mS (ho); clear HO_0; clear ho hb hg hat))
          go_roundg k2
          case measure => have := HK1.out; have := HK2.out; omega
          case rel => exact ⟨(y101), (wrap64 (x5_2 - 7)), mE, H', ⟨by have := HK1.out; have := HK2.out; omega⟩, ⟨mR HO103.out⟩, ⟨(mP HK.out)⟩, ⟨(mH HB.out)⟩⟩
         ·rw [if_neg c11] at H
          exact absurd H (by simp)
        ·rw [if_neg c9] at H
         exact absurd H (by simp)
       ·rw [if_neg c8] at H
        have c8b0 : decide (0 < x5_2) = false := decide_eq_false c8
        clear c8
        by_cases c13 : x0_2.length < 140737488355328
        ·rw [if_pos c13] at H
         have LMc13 := mS c13
         clear c13
         obtain ⟨y104, hy104⟩ : ∃ y_ : List Int, y_ = (x0_2 ++ [(Go.bits .and .i64 ji4 127) % 256]) := ⟨_, rfl⟩
         replace H : (some y104) = some r := by first | (rw [hy104]; with_reducible exact H) | (have H2_ := (Option.bind_some _ _).symm.trans H; rw [hy104]; with_reducible exact H2_) | (have H2_ := (Option.bind_some _ _).symm.trans H; with_reducible exact H2_) | with_reducible exact H | (rw [hy104]; exact H) | exact H
         have Ny104 := mS hy104
         clear hy104
         obtain rfl := Option.some.inj H
         go_wp2_with (first | ((with_reducible refine gate_builtin (b := .append) (xs := #[.tmp 28, .tmp 32]) rfl ?_); at_builtin; refine Kd.R_append (Kd.int .u8) (w0 := w0) w0.heap.size rfl (.tmp 28) (.tmp 32) 22 5 (.int .u8 0) 1 rfl Try.underlying22 info5 rfl (by decide) (by omega) u0 x0_2 ((Go.bits .and .i64 ji4 127) % 256) [.int .u8 ((Go.bits .and .i64 ji4 127) % 256)] (fun k_ => (P0_ k_ ∨ w.heap.size ≤ k_)) (fun _ => False) rfl rfl ?aP (fun _ hk => hk.elim) ?aF ?aO ?aB ?aS ?aL ?_; (case aP => exact rfl); (case aB => exact (mH HB.out)); (case aF => exact (fun k_ hk => (.inr (Nat.le_trans (by first | exact HK.out.1 | exact (show Kept w _ (fun k_ => P0_ k_) from by repeat (first | (with_reducible first | exact HK.out | apply Kept.alloc | apply Kept.drewN | apply Kept.drew) | exact HK.out)).1) hk)))); (case aO => exact (mR HO_0.out)); (case aS => exact (below_size (mH HB.out))); (case aL => have := LMc13.out; omega); intro v105 w14 ho hb hg hat; rw [← Ny104.out] at ho; replace HB := mS (hb); replace HK := mS (Kept.of_grown (S := (fun k_ => P0_ k_)) hg (mP HK.out) (fun k_ e_ => (HO_0.out.1 k_ e_))); have HO106 := mS (ho); clear HO_0; clear ho hb hg hat))
         go_ret
         exact ⟨_, by first | rfl | (simp [errW_none, errW_some] <;> rfl) | (simp only [← hji3, ← hji4, ← hji6]; first | rfl | (simp [errW_none, errW_some] <;> rfl)) | (simp [*, errW_none, errW_some] <;> rfl), mR HO106.out, (mH HB.out), (mP HK.out)⟩
        ·rw [if_neg c13] at H
         exact absurd H (by simp)
   ·rw [if_neg c5] at H
    exact absurd H (by simp)

/-! ### impl_word: function 80 -/
def impl_word.f (a0 : Int) : Option (List Int) := some (([(a0 / 16777216) % 256, (a0 / 65536) % 256, (a0 / 256) % 256, (a0) % 256] : List Int))
set_option maxHeartbeats 8000000 in
set_option maxRecDepth 100000 in
theorem impl_word.calls (a0 : Int) (r : List Int) (w : World) (h : impl_word.f a0 = some r) :
  Calls Try.prog 80 #[.int .i64 a0] w fun e w' => ∃ v0_ : Value, e = .returned (v0_) ∧ Kd.R (Kd.int .u8) 5 w' w.heap.size (fun _ => True) v0_ r ∧ Below w.heap.size w w' := by
 have HB := mS (Below.refl w.heap.size w)
 have H : (some (([(a0 / 16777216) % 256, (a0 / 65536) % 256, (a0 / 256) % 256, (a0) % 256] : List Int))) = some r := h
 clear h
 obtain ⟨y107, hy107⟩ : ∃ y_ : List Int, y_ = (([(a0 / 16777216) % 256, (a0 / 65536) % 256, (a0 / 256) % 256, (a0) % 256] : List Int)) := ⟨_, rfl⟩
 replace H : (some y107) = some r := by first | (rw [hy107]; with_reducible exact H) | (have H2_ := (Option.bind_some _ _).symm.trans H; rw [hy107]; with_reducible exact H2_) | (have H2_ := (Option.bind_some _ _).symm.trans H; with_reducible exact H2_) | with_reducible exact H | (rw [hy107]; exact H) | exact H
 have Ny107 := mS hy107
 clear hy107
 obtain rfl := Option.some.inj H
 go_enter Try.func80, Try.ntmps80
 go_wp2_with (first | ((with_reducible refine gate_dst (N := 14) rfl ?_); refine Kd.R_lit (Kd.int .u8) _ 5 ?hg (N := 14) ?hd (xs := ([(a0 / 16777216) % 256, (a0 / 65536) % 256, (a0 / 256) % 256, (a0) % 256] : List Int)) (inner := [.int .u8 ((a0 / 16777216) % 256), .int .u8 ((a0 / 65536) % 256), .int .u8 ((a0 / 256) % 256), .int .u8 ((a0) % 256)]) (ok := fun _ => True) (okp := fun _ => True) ?hr ?hp (fun _ hk => hk) trivial (Below.refl _ _) (Nat.le_refl _) (by simp) ?_; (case hd => rfl); (case hg => rfl); (case hr => first | (go_simp; done) | (go_simp; rfl)); (case hp => exact (Reps.one (show Kd.M (Kd.int .u8) _ _ _ ((a0 / 16777216) % 256) [.int .u8 ((a0 / 16777216) % 256)] from rfl) (Reps.one (show Kd.M (Kd.int .u8) _ _ _ ((a0 / 65536) % 256) [.int .u8 ((a0 / 65536) % 256)] from rfl) (Reps.one (show Kd.M (Kd.int .u8) _ _ _ ((a0 / 256) % 256) [.int .u8 ((a0 / 256) % 256)] from rfl) (Reps.one (show Kd.M (Kd.int .u8) _ _ _ ((a0) % 256) [.int .u8 ((a0) % 256)] from rfl) (Reps.none _ _)))))); intro v108 w2 ho3 hb hg_ hnew_; clear hg_ hnew_; (first | rw [← Ny107.out] at ho3 | (simp only [Int.reduceToNat] at ho3; rw [← Ny107.out] at ho3)); have HO109 := mS (Kd.R_lower ho3 (below_size (mH HB.out))); replace HB := mS (below_step (mH HB.out) hb); clear hb ho3))
 go_ret
 exact ⟨_, mEw, mR HO109.out, (mH HB.out)⟩

/-! ### impl_Sum: function 81 -/
mutual
def impl_Sum.l0 : Nat → Int → List Int → Int → Int → Option (Int)
 | 0, _, _, _, _ => none
 | k + 1, x3, x7, x8, x9 => if x9 < x8 then (if 0 ≤ x9 then (if x9 < (x7.length : Int) then (impl_Sum.l1 k (Go.bits .xor .u32 x3 ((rd x7 x9) % 4294967296)) x7 x8 x9 0) else (none)) else (none)) else (some (wrap64 (Go.bits .xor .u32 4294967295 x3)))
def impl_Sum.l1 : Nat → Int → List Int → Int → Int → Int → Option (Int)
 | 0, _, _, _, _, _ => none
 | k + 1, x3, x7, x8, x9, x17 => if x17 < 8 then (if (Go.bits .and .u32 x3 1) = 1 then (impl_Sum.l1 k (Go.bits .xor .u32 (x3 / 2) 2197175160) x7 x8 x9 (wrap64 (x17 + 1))) else (impl_Sum.l1 k (x3 / 2) x7 x8 x9 (wrap64 (x17 + 1)))) else (impl_Sum.l0 k x3 x7 x8 (wrap64 (x9 + 1)))
end
def impl_Sum.f (k : Nat) (l0 : List Int) : Option (Int) := impl_Sum.l0 k 4294967295 l0 (l0.length : Int) 0
theorem impl_Sum.mono_l : ∀ k, (∀ y0 y1 y2 y3, LeO (impl_Sum.l0 k y0 y1 y2 y3) (impl_Sum.l0 (k + 1) y0 y1 y2 y3)) ∧ (∀ y0 y1 y2 y3 y4, LeO (impl_Sum.l1 k y0 y1 y2 y3 y4) (impl_Sum.l1 (k + 1) y0 y1 y2 y3 y4))
 | 0 => ⟨fun _ _ _ _ r h => by simp [impl_Sum.l0] at h, fun _ _ _ _ _ r h => by simp [impl_Sum.l1] at h⟩
 | k + 1 => by
  obtain ⟨ih0, ih1⟩ := impl_Sum.mono_l k
  refine ⟨?_, ?_⟩
  ·intro y0 y1 y2 y3
   unfold impl_Sum.l0
   repeat' first
   | (with_reducible exact ih0 _ _ _ _)
   | (with_reducible exact ih1 _ _ _ _ _)
   | (with_reducible exact LeO.refl _)
   | (with_reducible exact LeO.none _)
   | (with_reducible refine LeO.ite ?_ ?_)
   | (with_reducible refine LeO.bind ?_ (fun _ => ?_))
   | exact ih0 _ _ _ _
   | exact ih1 _ _ _ _ _
   | exact LeO.none _
   | refine LeO.ite ?_ ?_
   | refine LeO.bind ?_ (fun _ => ?_)
  ·intro y0 y1 y2 y3 y4
   unfold impl_Sum.l1
   repeat' first
   | (with_reducible exact ih0 _ _ _ _)
   | (with_reducible exact ih1 _ _ _ _ _)
   | (with_reducible exact LeO.refl _)
   | (with_reducible exact LeO.none _)
   | (with_reducible refine LeO.ite ?_ ?_)
   | (with_reducible refine LeO.bind ?_ (fun _ => ?_))
   | exact ih0 _ _ _ _
   | exact ih1 _ _ _ _ _
   | exact LeO.none _
   | refine LeO.ite ?_ ?_
   | refine LeO.bind ?_ (fun _ => ?_)
theorem impl_Sum.mono : ∀ a0 k, LeO (impl_Sum.f k a0) (impl_Sum.f (k + 1) a0) := by
 intro a0 k
 obtain ⟨ih0, ih1⟩ := impl_Sum.mono_l k
 unfold impl_Sum.f
 repeat' first
   | (with_reducible exact ih0 _ _ _ _)
   | (with_reducible exact ih1 _ _ _ _ _)
   | (with_reducible exact LeO.refl _)
   | (with_reducible exact LeO.none _)
   | (with_reducible refine LeO.ite ?_ ?_)
   | (with_reducible refine LeO.bind ?_ (fun _ => ?_))
   | exact ih0 _ _ _ _
   | exact ih1 _ _ _ _ _
   | exact LeO.none _
   | refine LeO.ite ?_ ?_
   | refine LeO.bind ?_ (fun _ => ?_)
set_option maxHeartbeats 8000000 in
set_option maxRecDepth 100000 in
theorem impl_Sum.calls (k : Nat) (A0 : Option Addr) (c0 : Nat) (l0 : List Int) (r : Int) (w : World) (hr0 : Kd.C (Kd.int .u8) w A0 l0.length l0) (hc0 : l0.length ≤ c0) (h : impl_Sum.f k l0 = some r) :
  Calls Try.prog 81 #[.slice A0 l0.length c0] w fun e w' => e = .returned (.int .i64 r) ∧ Drawn0 w w' := by
 have HR0 := mS hr0
 have HC0 := mS hc0
 clear hr0 hc0
 have H : (impl_Sum.l0 k 4294967295 l0 (l0.length : Int) 0) = some r := h
 clear h
 have H' := mS H
 clear H
 go_enter Try.func81, Try.ntmps81
 go_wp2
 go_loopg [3, 9] k (fun kq v3 v9 w' => ∃ (x3_1 : Int) (x9_1 : Int), v3 = .int .u32 x3_1 ∧ v9 = .int .i64 x9_1 ∧ Aside0 (impl_Sum.l0 kq x3_1 l0 (l0.length : Int) x9_1 = some r) ∧ Aside0 (kq ≤ k) ∧ Drawn0 w w')
 case atStart => exact ⟨(4294967295), (0), mE, mE, H', ⟨Nat.le_refl _⟩, by repeat (first | exact Drawn0.refl _ | apply Drawn0.step)⟩
 case round =>
  clear H'
  obtain ⟨x3_1, x9_1, rfl, rfl, HA, HK1, ⟨m1, rfl⟩⟩ := hrel
  cases gk with
  | zero => exact absurd HA.out (by simp [impl_Sum.l0])
  | succ k1 =>
   have H := HA.out
   clear HA
   simp only [impl_Sum.l0] at H
   by_cases c2 : x9_1 < (l0.length : Int)
   ·rw [if_pos c2] at H
    have c2b0 := decide_eq_true c2
    clear c2
    by_cases c3 : 0 ≤ x9_1
    ·rw [if_pos c3] at H
     have c3b0 := decide_eq_true c3
     clear c3
     by_cases c4 : x9_1 < (l0.length : Int)
     ·rw [if_pos c4] at H
      have c4b0 := decide_eq_true c4
      clear c4
      have H' := mS H
      clear H
      have p110 : 0 ≤ (x9_1 : Int) := mD
      have q110 : x9_1 < (l0.length : Int) := mD
      obtain ⟨ad110, e110, hx110_0⟩ := Kd.at_int HR0.out x9_1 p110 q110
      cases e110
      replace p110 := eq_true p110
      replace q110 := eq_true q110
      go_wp2
      go_loopg [3, 17] k1 (fun kq v3 v17 w' => ∃ (x3_2 : Int) (x17_2 : Int), v3 = .int .u32 x3_2 ∧ v17 = .int .i64 x17_2 ∧ Aside0 (impl_Sum.l1 kq x3_2 l0 (l0.length : Int) x9_1 x17_2 = some r) ∧ Aside0 (kq ≤ k1) ∧ Drawn0 w w')
      case atStart => exact ⟨(Go.bits .xor .u32 x3_1 ((rd l0 x9_1) % 4294967296)), (0), mE, mE, H', ⟨Nat.le_refl _⟩, by repeat (first | exact Drawn0.refl _ | apply Drawn0.step)⟩
      case round =>
       clear H'
       try clear p1
       try clear q1
       try clear hx1
       try clear c2
       try clear c2b0
       try clear p2
       try clear c3
       try clear c3b0
       try clear c4
       try clear c4b0
       try clear hx110_0
       try clear p110
       try clear q110
       obtain ⟨x3_2, x17_2, rfl, rfl, HA, HK2, ⟨m2, rfl⟩⟩ := hrel
       cases gk with
       | zero => exact absurd HA.out (by simp [impl_Sum.l1])
       | succ k2 =>
        have H := HA.out
        clear HA
        simp only [impl_Sum.l1] at H
        by_cases c5 : x17_2 < 8
        ·rw [if_pos c5] at H
         have c5b0 := decide_eq_true c5
         clear c5
         by_cases c6 : (Go.bits .and .u32 x3_2 1) = 1
         ·rw [if_pos c6] at H
          have c6b0 : ((Go.bits .and .u32 x3_2 1) == 1) = true := beq_iff_eq.mpr c6
          have c6b1 : ((Go.bits .and .u32 x3_2 1) != 1) = false := bne_eq_false_iff_eq.mpr c6
          clear c6
          have H' := mS H
          clear H
          go_wp2
          go_roundg k2
          case measure => have := HK1.out; have := HK2.out; omega
          case rel => exact ⟨(Go.bits .xor .u32 (x3_2 / 2) 2197175160), (wrap64 (x17_2 + 1)), mE, mE, H', ⟨by have := HK1.out; have := HK2.out; omega⟩, by repeat (first | exact Drawn0.refl _ | apply Drawn0.step)⟩
         ·rw [if_neg c6] at H
          have c6b0 : ((Go.bits .and .u32 x3_2 1) == 1) = false := beq_eq_false_iff_ne.mpr c6
          have c6b1 : ((Go.bits .and .u32 x3_2 1) != 1) = true := bne_iff_ne.mpr c6
          have H' := mS H
          clear H
          go_wp2
          go_roundg k2
          case measure => have := HK1.out; have := HK2.out; omega
          case rel => exact ⟨(x3_2 / 2), (wrap64 (x17_2 + 1)), mE, mE, H', ⟨by have := HK1.out; have := HK2.out; omega⟩, by repeat (first | exact Drawn0.refl _ | apply Drawn0.step)⟩
        ·rw [if_neg c5] at H
         have c5b0 := decide_eq_false c5
         clear c5
         have H' := mS H
         clear H
         go_wp2
         go_roundg k2
         case measure => have := HK1.out; have := HK2.out; omega
         case rel => exact ⟨(x3_2), (wrap64 (x9_1 + 1)), mE, mE, H', ⟨by have := HK1.out; have := HK2.out; omega⟩, by repeat (first | exact Drawn0.refl _ | apply Drawn0.step)⟩
     ·rw [if_neg c4] at H
      exact absurd H (by simp)
    ·rw [if_neg c3] at H
     exact absurd H (by simp)
   ·rw [if_neg c2] at H
    have c2b0 := decide_eq_false c2
    clear c2
    obtain rfl := Option.some.inj H
    go_wp2
    go_ret
    exact ⟨mE, by repeat (first | exact Drawn0.refl _ | apply Drawn0.step)⟩

/-! ### impl_Frame: function 32 -/
def impl_Frame.f (k : Nat) (l0 : List Int) : Option (List Int) := (impl_Sum.f k l0).bind fun t111 => ((impl_word.f t111).bind fun t112 => ((impl_addNum.f k t112 (l0.length : Int)).bind fun t115 => (if t115.length + l0.length < 140737488355328 then (some (t115 ++ l0)) else (none))))
theorem impl_Frame.mono : ∀ a0 k, LeO (impl_Frame.f k a0) (impl_Frame.f (k + 1) a0) := by
 intro a0 k
 unfold impl_Frame.f
 repeat' first
   | (with_reducible exact impl_Sum.mono _ _)
   | (with_reducible exact impl_addNum.mono _ _ _)
   | (with_reducible exact LeO.refl _)
   | (with_reducible exact LeO.none _)
   | (with_reducible refine LeO.ite ?_ ?_)
   | (with_reducible refine LeO.bind ?_ (fun _ => ?_))
   | exact impl_Sum.mono _ _
   | exact impl_addNum.mono _ _ _
   | exact LeO.none _
   | refine LeO.ite ?_ ?_
   | refine LeO.bind ?_ (fun _ => ?_)
set_option maxHeartbeats 8000000 in
set_option maxRecDepth 100000 in
theorem impl_Frame.calls (k : Nat) (A0 : Option Addr) (c0 : Nat) (l0 : List Int) (r : List Int) (w : World) (hr0 : Kd.C (Kd.int .u8) w A0 l0.length l0) (hc0 : l0.length ≤ c0) (h : impl_Frame.f k l0 = some r) :
  Calls Try.prog 32 #[.slice A0 l0.length c0] w fun e w' => ∃ v0_ : Value, e = .returned (v0_) ∧ Kd.R (Kd.int .u8) 5 w' w.heap.size (fun _ => True) v0_ r ∧ Below w.heap.size w w' := by
 have HR0 := mS hr0
 have HC0 := mS hc0
 clear hr0 hc0
 have HB := mS (Below.refl w.heap.size w)
 have H : ((impl_Sum.f k l0).bind fun t111 => ((impl_word.f t111).bind fun t112 => ((impl_addNum.f k t112 (l0.length : Int)).bind fun t115 => (if t115.length + l0.length < 140737488355328 then (some (t115 ++ l0)) else (none))))) = some r := h
 clear h
 replace H := Option.bind_eq_some_iff.mp H
 obtain ⟨t111, A20, H⟩ := H
 replace H : ((impl_word.f t111).bind fun t112 => ((impl_addNum.f k t112 (l0.length : Int)).bind fun t115 => (if t115.length + l0.length < 140737488355328 then (some (t115 ++ l0)) else (none)))) = some r := H
 have A2 := mS A20
 clear A20
 replace H := Option.bind_eq_some_iff.mp H
 obtain ⟨t112, A30, H⟩ := H
 replace H : ((impl_addNum.f k t112 (l0.length : Int)).bind fun t115 => (if t115.length + l0.length < 140737488355328 then (some (t115 ++ l0)) else (none))) = some r := H
 have A3 := mS A30
 clear A30
 replace H := Option.bind_eq_some_iff.mp H
 obtain ⟨t115, A40, H⟩ := H
 replace H : (if t115.length + l0.length < 140737488355328 then (some (t115 ++ l0)) else (none)) = some r := H
 have A4 := mS A40
 clear A40
 by_cases c5 : t115.length + l0.length < 140737488355328
 ·rw [if_pos c5] at H
  have LMc5 := mS c5
  clear c5
  obtain ⟨y118, hy118⟩ : ∃ y_ : List Int, y_ = (t115 ++ l0) := ⟨_, rfl⟩
  replace H : (some y118) = some r := by first | (rw [hy118]; with_reducible exact H) | (have H2_ := (Option.bind_some _ _).symm.trans H; rw [hy118]; with_reducible exact H2_) | (have H2_ := (Option.bind_some _ _).symm.trans H; with_reducible exact H2_) | with_reducible exact H | (rw [hy118]; exact H) | exact H
  have Ny118 := mS hy118
  clear hy118
  obtain rfl := Option.some.inj H
  go_enter Try.func32, Try.ntmps32
  go_wp2_with (first | ((with_reducible refine gate_callee (f := 81) rfl ?_); refine mGo 4 Try.func81 #[.slice A0 l0.length c0] ?_; (with_reducible refine (impl_Sum.calls k _ _ l0 t111 _ ?side1 ?side2 A2.out).mono ?_); (case side1 => exact mC HR0.out); (case side2 => exact HC0.out); rintro e w' ⟨rfl, ⟨nd, rfl⟩⟩; refine ⟨_, rfl, ?_⟩) | ((with_reducible refine gate_callee (f := 80) rfl ?_); refine mGo 5 Try.func80 #[.int .i64 t111] ?_; (with_reducible refine (impl_word.calls t111 t112 _ A3.out).mono ?_); rintro e w6 ⟨v113, rfl, ho0, hb⟩; refine ⟨_, rfl, ?_⟩; have HO114 := mS (Kd.R_lower ho0 (below_size (mH HB.out))); replace HB := mS (below_step (mH HB.out) hb); (try clear hb); (try clear ho0); obtain ⟨Ao7, co7, eo7⟩ := Kd.R_slice HO114.out; subst eo7) | ((with_reducible refine gate_callee (f := 74) rfl ?_); refine mGo 8 Try.func74 #[.slice Ao7 t112.length co7, .int .i64 (l0.length : Int)] ?_; (with_reducible refine (impl_addNum.calls k (fun k_ => some k_ = (.slice Ao7 t112.length co7 : Value).ownBlock) (.slice Ao7 t112.length co7) t112 (l0.length : Int) t115 w _ ?side1 ?side2 A4.out).mono ?_); (case side1 => exact mH HB.out); (case side2 => exact Kd.R_tight rfl HO114.out); rintro e w8 ⟨v116, rfl, ho0, hb, hkp⟩; refine ⟨_, rfl, ?_⟩; have HO117 := mS (Kd.R_mono (ok' := fun k_ => True) ho0 (fun k_ hk_ => trivial)); replace HB := mS (hb); clear HO114; (try clear hb); (try clear hkp); (try clear ho0)) | ((with_reducible refine gate_builtin (b := .append) (xs := #[.tmp 8, .tmp 9]) rfl ?_); at_builtin; refine Kd.R_append_rows (Kd.int .u8) (w0 := w) w.heap.size rfl (.tmp 8) (.tmp 9) 22 5 (.int .u8 0) 1 rfl Try.underlying22 info5 rfl (by decide) (by omega) v116 t115 l0 _ _ _ (fun _ => True) (fun _ => False) rfl rfl ?aO ?aR (fun _ _ h => h) (fun _ h => h.elim) ?aF ?aB ?aS ?aL ?_; (case aR => exact mC (Kd.C_below HR0.out HB.out)); (case aB => exact (mH HB.out)); (case aF => exact (fun _ _ => trivial)); (case aO => exact (mR HO117.out)); (case aS => exact (below_size (mH HB.out))); (case aL => have := LMc5.out; omega); intro v119 w9 ho hb hg hat; rw [← Ny118.out] at ho; replace HB := mS (hb); have HO120 := mS (ho); clear HO117; clear ho hb hg hat))
  go_ret
  exact ⟨_, mEw, mR HO120.out, (mH HB.out)⟩
 ·rw [if_neg c5] at H
  exact absurd H (by simp)

/-! ### impl_GetNum: function 26 -/
mutual
def impl_GetNum.l0 : Nat → List Int → Int → Int → Int → Option (Int × Int × Bool)
 | 0, _, _, _, _ => none
 | k + 1, x0, x1, x7, x8 => if x8 < 5 then (if x1 ≥ 0 then (impl_GetNum.j1 k x0 x1 x7 x8 (decide (x1 < (wrap64 ((x0.length : Int) - x8))))) else (impl_GetNum.j1 k x0 x1 x7 x8 false)) else (impl_GetNum.j1 k x0 x1 x7 x8 false)
def impl_GetNum.j1 : Nat → List Int → Int → Int → Int → Bool → Option (Int × Int × Bool)
 | 0, _, _, _, _, _ => none
 | k + 1, x0, x1, x7, x8, x23 => if x23 = true then (if 0 ≤ (wrap64 (x1 + x8)) then (if (wrap64 (x1 + x8)) < (x0.length : Int) then (if x8 = 0 then (impl_GetNum.j2 k x0 x1 x7 x8 (wrap64 (rd x0 (wrap64 (x1 + x8)))) ((wrap64 (rd x0 (wrap64 (x1 + x8)))) == 128)) else (impl_GetNum.j2 k x0 x1 x7 x8 (wrap64 (rd x0 (wrap64 (x1 + x8)))) false)) else (none)) else (none)) else (some (0, 0, false))
def impl_GetNum.j2 : Nat → List Int → Int → Int → Int → Int → Bool → Option (Int × Int × Bool)
 | 0, _, _, _, _, _, _ => none
 | k + 1, x0, x1, x7, x8, x9, x38 => if x38 = true then (some (0, 0, false)) else (if x9 ≥ 128 then (impl_GetNum.l0 k x0 x1 (wrap64 ((wrap64 (x7 * 128)) + (Int.tmod x9 128))) (wrap64 (x8 + 1))) else (if (wrap64 ((wrap64 (x7 * 128)) + (Int.tmod x9 128))) > 1000000000 then (some (0, 0, false)) else (some (wrap64 ((wrap64 (x7 * 128)) + (Int.tmod x9 128)), wrap64 ((wrap64 (x1 + x8)) + 1), true))))
end
def impl_GetNum.f (k : Nat) (l0 : List Int) (a1 : Int) : Option (Int × Int × Bool) := impl_GetNum.l0 k l0 a1 0 0
theorem impl_GetNum.mono_l : ∀ k, (∀ y0 y1 y2 y3, LeO (impl_GetNum.l0 k y0 y1 y2 y3) (impl_GetNum.l0 (k + 1) y0 y1 y2 y3)) ∧ (∀ y0 y1 y2 y3 y4, LeO (impl_GetNum.j1 k y0 y1 y2 y3 y4) (impl_GetNum.j1 (k + 1) y0 y1 y2 y3 y4)) ∧ (∀ y0 y1 y2 y3 y4 y5, LeO (impl_GetNum.j2 k y0 y1 y2 y3 y4 y5) (impl_GetNum.j2 (k + 1) y0 y1 y2 y3 y4 y5))
 | 0 => ⟨fun _ _ _ _ r h => by simp [impl_GetNum.l0] at h, fun _ _ _ _ _ r h => by simp [impl_GetNum.j1] at h, fun _ _ _ _ _ _ r h => by simp [impl_GetNum.j2] at h⟩
 | k + 1 => by
  obtain ⟨ih0, ih1, ih2⟩ := impl_GetNum.mono_l k
  refine ⟨?_, ?_, ?_⟩
  ·intro y0 y1 y2 y3
   unfold impl_GetNum.l0
   repeat' first
   | (with_reducible exact ih0 _ _ _ _)
   | (with_reducible exact ih1 _ _ _ _ _)
   | (with_reducible exact ih2 _ _ _ _ _ _)
   | (with_reducible exact LeO.refl _)
   | (with_reducible exact LeO.none _)
   | (with_reducible refine LeO.ite ?_ ?_)
   | (with_reducible refine LeO.bind ?_ (fun _ => ?_))
   | exact ih0 _ _ _ _
   | exact ih1 _ _ _ _ _
   | exact ih2 _ _ _ _ _ _
   | exact LeO.none _
   | refine LeO.ite ?_ ?_
   | refine LeO.bind ?_ (fun _ => ?_)
  ·intro y0 y1 y2 y3 y4
   unfold impl_GetNum.j1
   repeat' first
   | (with_reducible exact ih0 _ _ _ _)
   | (with_reducible exact ih1 _ _ _ _ _)
   | (with_reducible exact ih2 _ _ _ _ _ _)
   | (with_reducible exact LeO.refl _)
   | (with_reducible exact LeO.none _)
   | (with_reducible refine LeO.ite ?_ ?_)
   | (with_reducible refine LeO.bind ?_ (fun _ => ?_))
   | exact ih0 _ _ _ _
   | exact ih1 _ _ _ _ _
   | exact ih2 _ _ _ _ _ _
   | exact LeO.none _
   | refine LeO.ite ?_ ?_
   | refine LeO.bind ?_ (fun _ => ?_)
  ·intro y0 y1 y2 y3 y4 y5
   unfold impl_GetNum.j2
   repeat' first
   | (with_reducible exact ih0 _ _ _ _)
   | (with_reducible exact ih1 _ _ _ _ _)
   | (with_reducible exact ih2 _ _ _ _ _ _)
   | (with_reducible exact LeO.refl _)
   | (with_reducible exact LeO.none _)
   | (with_reducible refine LeO.ite ?_ ?_)
   | (with_reducible refine LeO.bind ?_ (fun _ => ?_))
   | exact ih0 _ _ _ _
   | exact ih1 _ _ _ _ _
   | exact ih2 _ _ _ _ _ _
   | exact LeO.none _
   | refine LeO.ite ?_ ?_
   | refine LeO.bind ?_ (fun _ => ?_)
theorem impl_GetNum.mono : ∀ a0 a1 k, LeO (impl_GetNum.f k a0 a1) (impl_GetNum.f (k + 1) a0 a1) := by
 intro a0 a1 k
 obtain ⟨ih0, ih1, ih2⟩ := impl_GetNum.mono_l k
 unfold impl_GetNum.f
 repeat' first
   | (with_reducible exact ih0 _ _ _ _)
   | (with_reducible exact ih1 _ _ _ _ _)
   | (with_reducible exact ih2 _ _ _ _ _ _)
   | (with_reducible exact LeO.refl _)
   | (with_reducible exact LeO.none _)
   | (with_reducible refine LeO.ite ?_ ?_)
   | (with_reducible refine LeO.bind ?_ (fun _ => ?_))
   | exact ih0 _ _ _ _
   | exact ih1 _ _ _ _ _
   | exact ih2 _ _ _ _ _ _
   | exact LeO.none _
   | refine LeO.ite ?_ ?_
   | refine LeO.bind ?_ (fun _ => ?_)
set_option maxHeartbeats 8000000 in
set_option maxRecDepth 100000 in
theorem impl_GetNum.calls (k : Nat) (A0 : Option Addr) (c0 : Nat) (l0 : List Int) (a1 : Int) (r1 : Int) (r2 : Int) (r3 : Bool) (w : World) (hr0 : Kd.C (Kd.int .u8) w A0 l0.length l0) (hc0 : l0.length ≤ c0) (h : impl_GetNum.f k l0 a1 = some (r1, r2, r3)) :
  Calls Try.prog 26 #[.slice A0 l0.length c0, .int .i64 a1] w fun e w' => e = .returned (.tuple #[.int .i64 r1, .int .i64 r2, .bool r3]) ∧ Drawn0 w w' := by
 have HR0 := mS hr0
 have HC0 := mS hc0
 clear hr0 hc0
 have H : (impl_GetNum.l0 k l0 a1 0 0) = some (r1, r2, r3) := h
 clear h
 have H' := mS H
 clear H
 go_enter Try.func26, Try.ntmps26
 go_wp2
 go_loopg [7, 8] k (fun kq v7 v8 w' => ∃ (x7_1 : Int) (x8_1 : Int), v7 = .int .i64 x7_1 ∧ v8 = .int .i64 x8_1 ∧ Aside0 (impl_GetNum.l0 kq l0 a1 x7_1 x8_1 = some (r1, r2, r3)) ∧ Aside0 (kq ≤ k) ∧ Drawn0 w w')
 case atStart => exact ⟨(0), (0), mE, mE, H', ⟨Nat.le_refl _⟩, by repeat (first | exact Drawn0.refl _ | apply Drawn0.step)⟩
 case round =>
  clear H'
  try clear c2
  try clear p2
  obtain ⟨x7_1, x8_1, rfl, rfl, HA, HK1, ⟨m1, rfl⟩⟩ := hrel
  cases gk with
  | zero => exact absurd HA.out (by simp [impl_GetNum.l0])
  | succ k1 =>
   have H := HA.out
   clear HA
   simp only [impl_GetNum.l0] at H
   have HC3 := mS H
   clear H
   go_upto_region 3 with (fail)
   go_cut [23] (fun v23 wc => ∃ (kq : Nat) (x23_2 : Bool), v23 = .bool x23_2 ∧ Aside0 (impl_GetNum.j1 kq l0 a1 x7_1 x8_1 x23_2 = some (r1, r2, r3)) ∧ Aside0 (kq ≤ k1) ∧ Drawn0 w wc)
   case first =>
    have H := HC3.out
    clear HC3
    by_cases c4 : x8_1 < 5
    ·rw [if_pos c4] at H
     have c4b0 := decide_eq_true c4
     clear c4
     (first | rw [c4b0] | (simp only [i64_w, i32_w]; rw [c4b0]) | skip)
     by_cases c5 : a1 ≥ 0
     ·rw [if_pos c5] at H
      have c5b0 : decide (0 ≤ a1) = true := decide_eq_true c5
      clear c5
      have H' := mS H
      clear H
      go_wp2
      go_meet
      case rel => exact ⟨_, (decide (a1 < (wrap64 ((l0.length : Int) - x8_1)))), mE, H', ⟨by have := HK1.out; first | omega | exact Nat.le_refl _⟩, by repeat (first | exact Drawn0.refl _ | apply Drawn0.step)⟩
     ·rw [if_neg c5] at H
      have c5b0 : decide (0 ≤ a1) = false := decide_eq_false c5
      clear c5
      have H' := mS H
      clear H
      go_wp2
      go_meet
      case rel => exact ⟨_, (false), mE, H', ⟨by have := HK1.out; first | omega | exact Nat.le_refl _⟩, by repeat (first | exact Drawn0.refl _ | apply Drawn0.step)⟩
    ·rw [if_neg c4] at H
     have c4b0 := decide_eq_false c4
     clear c4
     (first | rw [c4b0] | (simp only [i64_w, i32_w]; rw [c4b0]) | skip)
     have H' := mS H
     clear H
     go_wp2
     go_meet
     case rel => exact ⟨_, (false), mE, H', ⟨by have := HK1.out; first | omega | exact Nat.le_refl _⟩, by repeat (first | exact Drawn0.refl _ | apply Drawn0.step)⟩
   case rest =>
    clear HC3
    try clear c2
    try clear p2
    try clear c4
    try clear c4b0
    try clear c5
    try clear c5b0
    try clear p2
    obtain ⟨kq, x23_2, rfl, HA, HJ2, ⟨mc2, rfl⟩⟩ := hcut
    cases kq with
    | zero => exact absurd HA.out (by simp [impl_GetNum.j1])
    | succ kj2 =>
     have H := HA.out
     clear HA
     simp only [impl_GetNum.j1] at H
     by_cases c6 : x23_2 = true
     ·subst c6
      have H1 := H
      rw [if_pos rfl] at H1
      clear H
      have H := H1
      clear H1
      obtain ⟨ji7, hji7⟩ : ∃ j_ : Int, (wrap64 (a1 + x8_1)) = j_ := ⟨_, rfl⟩
      replace H : (if 0 ≤ (ji7) then (if (ji7) < (l0.length : Int) then (if x8_1 = 0 then (impl_GetNum.j2 kj2 l0 a1 x7_1 x8_1 (wrap64 (rd l0 (ji7))) ((wrap64 (rd l0 (ji7))) == 128)) else (impl_GetNum.j2 kj2 l0 a1 x7_1 x8_1 (wrap64 (rd l0 (ji7))) false)) else (none)) else (none)) = some (r1, r2, r3) := by first | (rw [hji7] at H; exact H) | (simp only [hji7] at H ⊢; exact H)
      have hji7w : (IntKind.i64.wrap (a1 + x8_1)) = ji7 := (i64_w _).trans hji7
      by_cases c8 : 0 ≤ (ji7)
      ·rw [if_pos c8] at H
       have c8b0 := decide_eq_true c8
       clear c8
       by_cases c9 : (ji7) < (l0.length : Int)
       ·rw [if_pos c9] at H
        have c9b0 := decide_eq_true c9
        clear c9
        have HC10 := mS H
        clear H
        have p121 : 0 ≤ ((ji7) : Int) := mD
        have q121 : (ji7) < (l0.length : Int) := mD
        obtain ⟨ad121, e121, hx121_0⟩ := Kd.at_int HR0.out (ji7) p121 q121
        cases e121
        replace p121 := eq_true p121
        replace q121 := eq_true q121
        go_upto_region 6 with (fail)
        go_cut [38] (fun v38 wc => ∃ (kq : Nat) (x38_9 : Bool), v38 = .bool x38_9 ∧ Aside0 (impl_GetNum.j2 kq l0 a1 x7_1 x8_1 (wrap64 (rd l0 (ji7))) x38_9 = some (r1, r2, r3)) ∧ Aside0 (kq ≤ kj2) ∧ Drawn0 w wc)
        case first =>
         have H := HC10.out
         clear HC10
         by_cases c11 : x8_1 = 0
         ·rw [if_pos c11] at H
          have c11b0 : (x8_1 == 0) = true := beq_iff_eq.mpr c11
          have c11b1 : (x8_1 != 0) = false := bne_eq_false_iff_eq.mpr c11
          clear c11
          (first | rw [c11b0] | (simp only [i64_w, i32_w]; rw [c11b0]) | skip)
          have H' := mS H
          clear H
          go_wp2
          go_meet
          case rel => exact ⟨_, (((wrap64 (rd l0 (ji7))) == 128)), (by first | rfl | (simp; done) | (simp only [← hji7] <;> (first | rfl | simp)) | (simp [*]; done)), H', ⟨by have := HK1.out; have := HJ2.out; first | omega | exact Nat.le_refl _⟩, by repeat (first | exact Drawn0.refl _ | apply Drawn0.step)⟩
         ·rw [if_neg c11] at H
          have c11b0 : (x8_1 == 0) = false := beq_eq_false_iff_ne.mpr c11
          have c11b1 : (x8_1 != 0) = true := bne_iff_ne.mpr c11
          (first | rw [c11b0] | (simp only [i64_w, i32_w]; rw [c11b0]) | skip)
          have H' := mS H
          clear H
          go_wp2
          go_meet
          case rel => exact ⟨_, (false), mE, H', ⟨by have := HK1.out; have := HJ2.out; first | omega | exact Nat.le_refl _⟩, by repeat (first | exact Drawn0.refl _ | apply Drawn0.step)⟩
        case rest =>
         clear HC10
         try clear c1
         try clear p1
         try clear q1
         try clear hx1
         try clear c2
         try clear p2
         try clear c4
         try clear c4b0
         try clear c5
         try clear c5b0
         try clear c6
         try clear p6
         try clear c8
         try clear c8b0
         try clear c9
         try clear c9b0
         try clear c11
         try clear c11b0
         try clear c11b1
         try clear hx121_0
         try clear p121
         try clear p2
         try clear q121
         obtain ⟨kq, x38_9, rfl, HA, HJ9, ⟨mc9, rfl⟩⟩ := hcut
         cases kq with
         | zero => exact absurd HA.out (by simp [impl_GetNum.j2])
         | succ kj9 =>
          have H := HA.out
          clear HA
          simp only [impl_GetNum.j2] at H
          by_cases c12 : x38_9 = true
          ·subst c12
           have H1 := H
           rw [if_pos rfl] at H1
           clear H
           have H := H1
           clear H1
           simp only [Option.some.injEq, Prod.mk.injEq] at H
           obtain ⟨rfl, rfl, rfl⟩ := H
           go_wp2
           go_ret3
           exact ⟨by first | rfl | (simp; done) | (simp only [← hji7] <;> (first | rfl | simp)) | (simp [*]; done), by repeat (first | exact Drawn0.refl _ | apply Drawn0.step)⟩
          ·replace c12 := Bool.eq_false_iff.mpr c12
           subst c12
           have H1 := H
           rw [if_neg (show ¬ (false = true) by decide)] at H1
           clear H
           have H := H1
           clear H1
           by_cases c13 : (wrap64 (rd l0 (ji7))) ≥ 128
           ·rw [if_pos c13] at H
            have c13b0 : decide (128 ≤ (wrap64 (rd l0 (ji7)))) = true := decide_eq_true c13
            clear c13
            have H' := mS H
            clear H
            go_wp2
            go_roundg kj9
            case measure => have := HK1.out; have := HJ2.out; have := HJ9.out; omega
            case rel => exact ⟨(wrap64 ((wrap64 (x7_1 * 128)) + (Int.tmod (wrap64 (rd l0 (ji7))) 128))), (wrap64 (x8_1 + 1)), (by first | rfl | (simp; done) | (simp only [← hji7] <;> (first | rfl | simp)) | (simp [*]; done)), mE, H', ⟨by have := HK1.out; have := HJ2.out; have := HJ9.out; omega⟩, by repeat (first | exact Drawn0.refl _ | apply Drawn0.step)⟩
           ·rw [if_neg c13] at H
            have c13b0 : decide (128 ≤ (wrap64 (rd l0 (ji7)))) = false := decide_eq_false c13
            clear c13
            by_cases c14 : (wrap64 ((wrap64 (x7_1 * 128)) + (Int.tmod (wrap64 (rd l0 (ji7))) 128))) > 1000000000
            ·rw [if_pos c14] at H
             have c14b0 : decide (1000000000 < (wrap64 ((wrap64 (x7_1 * 128)) + (Int.tmod (wrap64 (rd l0 (ji7))) 128)))) = true := decide_eq_true c14
             clear c14
             simp only [Option.some.injEq, Prod.mk.injEq] at H
             obtain ⟨rfl, rfl, rfl⟩ := H
             go_wp2
             go_ret3
             exact ⟨by first | rfl | (simp; done) | (simp only [← hji7] <;> (first | rfl | simp)) | (simp [*]; done), by repeat (first | exact Drawn0.refl _ | apply Drawn0.step)⟩
            ·rw [if_neg c14] at H
             have c14b0 : decide (1000000000 < (wrap64 ((wrap64 (x7_1 * 128)) + (Int.tmod (wrap64 (rd l0 (ji7))) 128)))) = false := decide_eq_false c14
             clear c14
             simp only [Option.some.injEq, Prod.mk.injEq] at H
             obtain ⟨rfl, rfl, rfl⟩ := H
             go_wp2
             go_ret3
             exact ⟨by first | rfl | (simp; done) | (simp only [← hji7] <;> (first | rfl | simp)) | (simp [*]; done), by repeat (first | exact Drawn0.refl _ | apply Drawn0.step)⟩
       ·rw [if_neg c9] at H
        exact absurd H (by simp)
      ·rw [if_neg c8] at H
       exact absurd H (by simp)
     ·replace c6 := Bool.eq_false_iff.mpr c6
      subst c6
      have H1 := H
      rw [if_neg (show ¬ (false = true) by decide)] at H1
      clear H
      have H := H1
      clear H1
      simp only [Option.some.injEq, Prod.mk.injEq] at H
      obtain ⟨rfl, rfl, rfl⟩ := H
      go_wp2
      go_ret3
      exact ⟨mE, by repeat (first | exact Drawn0.refl _ | apply Drawn0.step)⟩

/-! ### impl_GetText: function 28 -/
def impl_GetText.f (k : Nat) (l0 : List Int) (a1 : Int) : Option (ByteArray × Int × Bool) := (impl_GetNum.f k l0 a1).bind fun bt122 => (if bt122.2.2 = true then (if bt122.1 > (wrap64 ((l0.length : Int) - bt122.2.1)) then (some ((⟨#[]⟩ : ByteArray), 0, false)) else (if 0 ≤ bt122.2.1 then (if bt122.2.1 ≤ (wrap64 (bt122.2.1 + bt122.1)) then (if (wrap64 (bt122.2.1 + bt122.1)) ≤ (l0.length : Int) then (some (strOfNums ((l0.take ((wrap64 (bt122.2.1 + bt122.1)) : Int).toNat).drop (bt122.2.1 : Int).toNat), wrap64 (bt122.2.1 + bt122.1), true)) else (none)) else (none)) else (none))) else (some ((⟨#[]⟩ : ByteArray), 0, false)))
theorem impl_GetText.mono : ∀ a0 a1 k, LeO (impl_GetText.f k a0 a1) (impl_GetText.f (k + 1) a0 a1) := by
 intro a0 a1 k
 unfold impl_GetText.f
 repeat' first
   | (with_reducible exact impl_GetNum.mono _ _ _)
   | (with_reducible exact LeO.refl _)
   | (with_reducible exact LeO.none _)
   | (with_reducible refine LeO.ite ?_ ?_)
   | (with_reducible refine LeO.bind ?_ (fun _ => ?_))
   | exact impl_GetNum.mono _ _ _
   | exact LeO.none _
   | refine LeO.ite ?_ ?_
   | refine LeO.bind ?_ (fun _ => ?_)
set_option maxHeartbeats 8000000 in
set_option maxRecDepth 100000 in
theorem impl_GetText.calls (k : Nat) (A0 : Option Addr) (c0 : Nat) (l0 : List Int) (a1 : Int) (r1 : ByteArray) (r2 : Int) (r3 : Bool) (w : World) (hr0 : Kd.C (Kd.int .u8) w A0 l0.length l0) (hc0 : l0.length ≤ c0) (h : impl_GetText.f k l0 a1 = some (r1, r2, r3)) :
  Calls Try.prog 28 #[.slice A0 l0.length c0, .int .i64 a1] w fun e w' => e = .returned (.tuple #[.string r1, .int .i64 r2, .bool r3]) ∧ Drawn0 w w' := by
 have HR0 := mS hr0
 have HC0 := mS hc0
 clear hr0 hc0
 have H : ((impl_GetNum.f k l0 a1).bind fun bt122 => (if bt122.2.2 = true then (if bt122.1 > (wrap64 ((l0.length : Int) - bt122.2.1)) then (some ((⟨#[]⟩ : ByteArray), 0, false)) else (if 0 ≤ bt122.2.1 then (if bt122.2.1 ≤ (wrap64 (bt122.2.1 + bt122.1)) then (if (wrap64 (bt122.2.1 + bt122.1)) ≤ (l0.length : Int) then (some (strOfNums ((l0.take ((wrap64 (bt122.2.1 + bt122.1)) : Int).toNat).drop (bt122.2.1 : Int).toNat), wrap64 (bt122.2.1 + bt122.1), true)) else (none)) else (none)) else (none))) else (some ((⟨#[]⟩ : ByteArray), 0, false)))) = some (r1, r2, r3) := h
 clear h
 replace H := Option.bind_eq_some_iff.mp H
 obtain ⟨⟨t122, t123, t124⟩, A30, H⟩ := H
 replace H : (if t124 = true then (if t122 > (wrap64 ((l0.length : Int) - t123)) then (some ((⟨#[]⟩ : ByteArray), 0, false)) else (if 0 ≤ t123 then (if t123 ≤ (wrap64 (t123 + t122)) then (if (wrap64 (t123 + t122)) ≤ (l0.length : Int) then (some (strOfNums ((l0.take ((wrap64 (t123 + t122)) : Int).toNat).drop (t123 : Int).toNat), wrap64 (t123 + t122), true)) else (none)) else (none)) else (none))) else (some ((⟨#[]⟩ : ByteArray), 0, false))) = some (r1, r2, r3) := H
 have A3 := mS A30
 clear A30
 by_cases c4 : t124 = true
 ·subst c4
  have H1 := H
  rw [if_pos rfl] at H1
  clear H
  have H := H1
  clear H1
  by_cases c5 : t122 > (wrap64 ((l0.length : Int) - t123))
  ·rw [if_pos c5] at H
   have c5b0 : decide ((wrap64 ((l0.length : Int) - t123)) < t122) = true := decide_eq_true c5
   clear c5
   simp only [Option.some.injEq, Prod.mk.injEq] at H
   obtain ⟨rfl, rfl, rfl⟩ := H
   go_enter Try.func28, Try.ntmps28
   go_wp2_with (first | ((with_reducible refine gate_callee (f := 26) rfl ?_); refine mGo 13 Try.func26 #[.slice A0 l0.length c0, .int .i64 a1] ?_; (with_reducible refine (impl_GetNum.calls k _ _ l0 a1 t122 t123 true _ ?side1 ?side2 A3.out).mono ?_); (case side1 => exact mC HR0.out); (case side2 => exact HC0.out); rintro e w' ⟨rfl, ⟨nd, rfl⟩⟩; refine ⟨_, rfl, ?_⟩))
   go_ret3
   exact ⟨mE, by repeat (first | exact Drawn0.refl _ | apply Drawn0.step)⟩
  ·rw [if_neg c5] at H
   have c5b0 : decide ((wrap64 ((l0.length : Int) - t123)) < t122) = false := decide_eq_false c5
   clear c5
   by_cases c6 : 0 ≤ t123
   ·rw [if_pos c6] at H
    have c6b0 := eq_true c6
    have c6b1 := decide_eq_true c6
    clear c6
    by_cases c7 : t123 ≤ (wrap64 (t123 + t122))
    ·rw [if_pos c7] at H
     have c7b0 := eq_true c7
     have c7b1 := decide_eq_true c7
     by_cases c8 : (wrap64 (t123 + t122)) ≤ (l0.length : Int)
     ·rw [if_pos c8] at H
      have c8b0 := eq_true c8
      have c8b1 := decide_eq_true c8
      simp only [Option.some.injEq, Prod.mk.injEq] at H
      obtain ⟨rfl, rfl, rfl⟩ := H
      go_enter Try.func28, Try.ntmps28
      go_wp2_with (first | ((with_reducible refine gate_callee (f := 26) rfl ?_); refine mGo 13 Try.func26 #[.slice A0 l0.length c0, .int .i64 a1] ?_; (with_reducible refine (impl_GetNum.calls k _ _ l0 a1 t122 t123 true _ ?side1 ?side2 A3.out).mono ?_); (case side1 => exact mC HR0.out); (case side2 => exact HC0.out); rintro e w' ⟨rfl, ⟨nd, rfl⟩⟩; refine ⟨_, rfl, ?_⟩; obtain ⟨i09, hi09, _, hsz9, _⟩ := info_parts info5; obtain ⟨A9, hcut9, hA9, hC9⟩ := print_mid_of (P := Try.prog) (Value.int .u8) 0 22 5 .i64 .i64 Try.underlying22 hi09 hsz9 A0 c0 l0 t123 (wrap64 (t123 + t122)) (mD) (by first | omega | exact mD) (mD) HC0.out; have HR125 := mS (Kd.C_of_reads (h1 := fun _ => rfl) (hA9 _ (Kd.reads_of_C HR0.out))); have HC125 := mS hC9; clear hA9 hC9 hi09 hsz9; have hcv10 := Kd.C_string (P := Try.prog) (A := A9) (c := (c0 - t123.toNat)) Try.underlying22 Try.underlying5 Try.underlying9 HR125.out; have hcv11 := fun n_ : Nat => Kd.C_string (P := Try.prog) (A := A9) (c := (c0 - t123.toNat)) Try.underlying22 Try.underlying5 Try.underlying9 (Kd.C_drewN HR125.out n_); have hln12 := (show ((l0.take ((wrap64 (t123 + t122)) : Int).toNat).drop (t123 : Int).toNat).length = ((wrap64 (t123 + t122)) : Int).toNat - (t123 : Int).toNat from by rw [List.length_drop, List.length_take, Nat.min_eq_left (by omega)]); have hcv12 := Kd.C_string (P := Try.prog) (A := A9) (c := (c0 - t123.toNat)) Try.underlying22 Try.underlying5 Try.underlying9 HR125.out; rw [hln12] at hcv12; have hcw12 := fun n_ : Nat => (show _ from by have z_ := Kd.C_string (P := Try.prog) (A := A9) (c := (c0 - t123.toNat)) Try.underlying22 Try.underlying5 Try.underlying9 (Kd.C_drewN HR125.out n_); rw [hln12] at z_; exact z_); clear hln12))
      go_ret3
      exact ⟨mE, by repeat (first | exact Drawn0.refl _ | apply Drawn0.step)⟩
     ·rw [if_neg c8] at H
      exact absurd H (by simp)
    ·rw [if_neg c7] at H
     exact absurd H (by simp)
   ·rw [if_neg c6] at H
    exact absurd H (by simp)
 ·replace c4 := Bool.eq_false_iff.mpr c4
  subst c4
  have H1 := H
  rw [if_neg (show ¬ (false = true) by decide)] at H1
  clear H
  have H := H1
  clear H1
  simp only [Option.some.injEq, Prod.mk.injEq] at H
  obtain ⟨rfl, rfl, rfl⟩ := H
  go_enter Try.func28, Try.ntmps28
  go_wp2_with (first | ((with_reducible refine gate_callee (f := 26) rfl ?_); refine mGo 13 Try.func26 #[.slice A0 l0.length c0, .int .i64 a1] ?_; (with_reducible refine (impl_GetNum.calls k _ _ l0 a1 t122 t123 false _ ?side1 ?side2 A3.out).mono ?_); (case side1 => exact mC HR0.out); (case side2 => exact HC0.out); rintro e w' ⟨rfl, ⟨nd, rfl⟩⟩; refine ⟨_, rfl, ?_⟩))
  go_ret3
  exact ⟨mE, by repeat (first | exact Drawn0.refl _ | apply Drawn0.step)⟩

/-! ### impl_in: function 91 -/
def impl_in.f (a0 : Int) (a1 : Int) (a2 : Int) : Option (Bool) := if a0 ≥ a1 then (some (decide (a0 ≤ a2))) else (some false)
set_option maxHeartbeats 8000000 in
set_option maxRecDepth 100000 in
theorem impl_in.calls (a0 : Int) (a1 : Int) (a2 : Int) (r : Bool) (w : World) (h : impl_in.f a0 a1 a2 = some r) :
  Calls Try.prog 91 #[.int .i64 a0, .int .i64 a1, .int .i64 a2] w fun e w' => e = .returned (.bool r) ∧ Drawn0 w w' := by
 have H : (if a0 ≥ a1 then (some (decide (a0 ≤ a2))) else (some false)) = some r := h
 clear h
 by_cases c4 : a0 ≥ a1
 ·rw [if_pos c4] at H
  have c4b0 : decide (a1 ≤ a0) = true := decide_eq_true c4
  clear c4
  obtain rfl := Option.some.inj H
  go_enter Try.func91, Try.ntmps91
  go_wp2
  go_ret
  exact ⟨mE, by repeat (first | exact Drawn0.refl _ | apply Drawn0.step)⟩
 ·rw [if_neg c4] at H
  have c4b0 : decide (a1 ≤ a0) = false := decide_eq_false c4
  clear c4
  obtain rfl := Option.some.inj H
  go_enter Try.func91, Try.ntmps91
  go_wp2
  go_ret
  exact ⟨mE, by repeat (first | exact Drawn0.refl _ | apply Drawn0.step)⟩

end Go.Proofs.Ytgncojbnejdplaa.MFnFrames
