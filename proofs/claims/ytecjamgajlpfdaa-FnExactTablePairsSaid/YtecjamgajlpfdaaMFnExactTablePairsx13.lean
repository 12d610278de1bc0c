-- Written by mp.py, this session's own printer (wip/mp.py).
import Derived.Test.YtecjamgajlpfdaaVMShort
import Derived.Test.YtecjamgajlpfdaaMFnExactTablePairsx0
import Derived.Test.YtecjamgajlpfdaaMFnExactTablePairsx10
namespace Go.Proofs.Ytecjamgajlpfdaa.MFnExactTablePairs
open Go.RowKit Go.Proofs.YtecjamgajlpfdaaW.PrintWords Go.Proofs.YtecjamgajlpfdaaW.PrintLast Go.Proofs.YtecjamgajlpfdaaW.PrintMore Go.Proofs.Ytecjamgajlpfdaa.MWords
attribute [local go_sem] max2_int min2_int max_two min_two max_three min_three max_four min_four   -- for this text's walks alone
set_option linter.unusedVariables false
set_option linter.unusedSimpArgs false

/-! ### impl_addNum: function 85 -/
mutual
def impl_addNum.l0 : Nat → List Int → Int → Int → Option (List Int)
 | 0, _, _, _ => none
 | k + 1, x0, x1, x5 => if 0 ≤ x5 then (if (shr .i64 x1 x5) > 127 then (impl_addNum.l0 k x0 x1 (wrap64 (x5 + 7))) else (impl_addNum.l1 k x0 x1 x5)) else (none)
def impl_addNum.l1 : Nat → List Int → Int → Int → Option (List Int)
 | 0, _, _, _ => none
 | k + 1, x0, x1, x5 => if x5 > 0 then (if 0 ≤ x5 then (if x0.length < 140737488355328 then (impl_addNum.l1 k (x0 ++ [(wrap64 ((Go.bits .and .i64 (shr .i64 x1 x5) 127) + 128)) % 256]) x1 (wrap64 (x5 - 7))) else (none)) else (none)) else (if x0.length < 140737488355328 then (some (x0 ++ [(Go.bits .and .i64 x1 127) % 256])) else (none))
end
def impl_addNum.f (k : Nat) (l0 : List Int) (a1 : Int) : Option (List Int) := impl_addNum.l0 k l0 (mx 0 (mn a1 1000000000)) 0
theorem impl_addNum.mono_l : ∀ k, (∀ y0 y1 y2, LeO (impl_addNum.l0 k y0 y1 y2) (impl_addNum.l0 (k + 1) y0 y1 y2)) ∧ (∀ y0 y1 y2, LeO (impl_addNum.l1 k y0 y1 y2) (impl_addNum.l1 (k + 1) y0 y1 y2))
 | 0 => ⟨fun _ _ _ r h => by simp [impl_addNum.l0] at h, fun _ _ _ r h => by simp [impl_addNum.l1] at h⟩
 | k + 1 => by
  obtain ⟨ih0, ih1⟩ := impl_addNum.mono_l k
  refine ⟨?_, ?_⟩
  ·intro y0 y1 y2
   unfold impl_addNum.l0
   repeat' first
   | (with_reducible exact ih0 _ _ _)
   | (with_reducible exact ih1 _ _ _)
   | (with_reducible exact LeO.refl _)
   | (with_reducible exact LeO.none _)
   | (with_reducible refine LeO.ite ?_ ?_)
   | (with_reducible refine LeO.bind ?_ (fun _ => ?_))
   | exact ih0 _ _ _
   | exact ih1 _ _ _
   | exact LeO.none _
   | refine LeO.ite ?_ ?_
   | refine LeO.bind ?_ (fun _ => ?_)
  ·intro y0 y1 y2
   unfold impl_addNum.l1
   repeat' first
   | (with_reducible exact ih0 _ _ _)
   | (with_reducible exact ih1 _ _ _)
   | (with_reducible exact LeO.refl _)
   | (with_reducible exact LeO.none _)
   | (with_reducible refine LeO.ite ?_ ?_)
   | (with_reducible refine LeO.bind ?_ (fun _ => ?_))
   | exact ih0 _ _ _
   | exact ih1 _ _ _
   | exact LeO.none _
   | refine LeO.ite ?_ ?_
   | refine LeO.bind ?_ (fun _ => ?_)
theorem impl_addNum.mono : ∀ a0 a1 k, LeO (impl_addNum.f k a0 a1) (impl_addNum.f (k + 1) a0 a1) := by
 intro a0 a1 k
 obtain ⟨ih0, ih1⟩ := impl_addNum.mono_l k
 unfold impl_addNum.f
 repeat' first
   | (with_reducible exact ih0 _ _ _)
   | (with_reducible exact ih1 _ _ _)
   | (with_reducible exact LeO.refl _)
   | (with_reducible exact LeO.none _)
   | (with_reducible refine LeO.ite ?_ ?_)
   | (with_reducible refine LeO.bind ?_ (fun _ => ?_))
   | exact ih0 _ _ _
   | exact ih1 _ _ _
   | exact LeO.none _
   | refine LeO.ite ?_ ?_
   | refine LeO.bind ?_ (fun _ => ?_)
set_option maxHeartbeats 8000000 in
set_option maxRecDepth 100000 in
theorem impl_addNum.calls (k : Nat) (P0_ : Nat → Prop) (u9000_ : Value) (l0 : List Int) (a1 : Int) (r : List Int) (w0 w : World) (hB : Below w0.heap.size w0 w) (ho0 : Kd.R (Kd.int .u8) 5 w w0.heap.size P0_ u9000_ l0) (h : impl_addNum.f k l0 a1 = some r) :
  Calls Try.prog 85 #[u9000_, .int .i64 a1] w fun e w' => ∃ v0_ : Value, e = .returned (v0_) ∧ Kd.R (Kd.int .u8) 5 w' w0.heap.size (fun k_ => (P0_ k_ ∨ w.heap.size ≤ k_)) v0_ r ∧ Below w0.heap.size w0 w' ∧ Kept w w' (fun k_ => P0_ k_) := by
 have HO0 := mS (show Kd.R (Kd.int .u8) 5 w w0.heap.size (fun k_ => (P0_ k_ ∨ w.heap.size ≤ k_)) u9000_ l0 from Kd.R_mono ho0 (fun k_ hk => (.inl hk)))
 have HK := mS (Kept.refl w (fun k_ => P0_ k_))
 have HW0 := mS hB.size
 have HB := mS hB
 clear hB
 have H : (impl_addNum.l0 k l0 (mx 0 (mn a1 1000000000)) 0) = some r := h
 clear h
 obtain ⟨ji3, hji3⟩ : ∃ j_ : Int, (mn a1 1000000000) = j_ := ⟨_, rfl⟩
 replace H : (impl_addNum.l0 k l0 (mx 0 (ji3)) 0) = some r := by first | (rw [hji3] at H; exact H) | (simp only [hji3] at H ⊢; exact H)
 (try (have hji3h : ji3 ≤ 1000000000 := by (rw [← hji3]; unfold mn; (repeat' split) <;> omega)))
 (try (have hji3g : ji3 ≤ 64 := by omega))
 have hji3_ : (if 1000000000 < a1 then 1000000000 else a1) = ji3 := hji3
 obtain ⟨ji4, hji4⟩ : ∃ j_ : Int, (mx 0 (ji3)) = j_ := ⟨_, rfl⟩
 replace H : (impl_addNum.l0 k l0 ji4 0) = some r := by first | (rw [hji4] at H; exact H) | (simp only [hji4] at H ⊢; exact H)
 have hji4_ : (if 0 < (ji3) then (ji3) else 0) = ji4 := hji4
 have H' := mS H
 clear H
 go_enter Try.func85, Try.ntmps85
 go_wp2
 go_loopg [5] k (fun kq v5 w' => ∃ (x5_1 : Int), v5 = .int .i64 x5_1 ∧ Aside0 (impl_addNum.l0 kq l0 ji4 x5_1 = some r) ∧ Aside0 (kq ≤ k) ∧ Aside0 (Kd.R (Kd.int .u8) 5 w' w0.heap.size (fun k_ => (P0_ k_ ∨ w.heap.size ≤ k_)) u9000_ l0) ∧ Aside0 (Kept w w' (fun k_ => P0_ k_)) ∧ Aside0 (Below w0.heap.size w0 w'))
 case atStart => exact ⟨(0), mE, H', ⟨Nat.le_refl _⟩, ⟨mR HO0.out⟩, ⟨(mP HK.out)⟩, ⟨(mH HB.out)⟩⟩
 case round =>
  clear H'
  try clear p2
  obtain ⟨x5_1, rfl, HA, HK1, HO_0, HK, HB⟩ := hrel
  cases gk with
  | zero => exact absurd HA.out (by simp [impl_addNum.l0])
  | succ k1 =>
   have H := HA.out
   clear HA
   simp only [impl_addNum.l0] at H
   by_cases c5 : 0 ≤ x5_1
   ·rw [if_pos c5] at H
    have c5b0 := eq_true c5
    have c5b1 := decide_eq_true c5
    clear c5
    obtain ⟨ji6, hji6⟩ : ∃ j_ : Int, (shr .i64 ji4 x5_1) = j_ := ⟨_, rfl⟩
    replace H : (if (ji6) > 127 then (impl_addNum.l0 k1 l0 ji4 (wrap64 (x5_1 + 7))) else (impl_addNum.l1 k1 l0 ji4 x5_1)) = some r := by first | (rw [hji6] at H; exact H) | (simp only [hji6] at H ⊢; exact H)
    have hji6_ : (ji4 / 2 ^ min x5_1.toNat 64) = ji6 := hji6
    have hji6z : x5_1 ≤ 64 → (ji4 / 2 ^ x5_1.toNat) = ji6 := shr_small hji6
    by_cases c7 : (ji6) > 127
    ·rw [if_pos c7] at H
     have c7b0 : decide (127 < (ji6)) = true := decide_eq_true c7
     clear c7
     have H' := mS H
     clear H
     go_wp2
     go_roundg k1
     case measure => have := HK1.out; omega
     case rel => exact ⟨(wrap64 (x5_1 + 7)), mE, H', ⟨by have := HK1.out; omega⟩, ⟨mR HO_0.out⟩, ⟨(mP HK.out)⟩, ⟨(mH HB.out)⟩⟩
    ·rw [if_neg c7] at H
     have c7b0 : decide (127 < (ji6)) = false := decide_eq_false c7
     clear c7
     have H' := mS H
     clear H
     go_wp2
     go_loopg [0, 5] k1 (fun kq v0 v5 w' => ∃ (x0_2 : List Int) (x5_2 : Int), v5 = .int .i64 x5_2 ∧ Aside0 (impl_addNum.l1 kq x0_2 ji4 x5_2 = some r) ∧ Aside0 (kq ≤ k1) ∧ Aside0 (Kd.R (Kd.int .u8) 5 w' w0.heap.size (fun k_ => (P0_ k_ ∨ w.heap.size ≤ k_)) v0 x0_2) ∧ Aside0 (Kept w w' (fun k_ => P0_ k_)) ∧ Aside0 (Below w0.heap.size w0 w'))
     case atStart => exact ⟨(l0), (x5_1), mE, H', ⟨Nat.le_refl _⟩, ⟨mR HO_0.out⟩, ⟨(mP HK.out)⟩, ⟨(mH HB.out)⟩⟩
     case round =>
      clear H'
      try clear p2
      try clear c5
      try clear c5b0
      try clear c5b1
      try clear p6
      try clear c7
      try clear c7b0
      try clear p2
      obtain ⟨x0_2, x5_2, rfl, HA, HK2, HO_0, HK, HB⟩ := hrel
      cases gk with
      | zero => exact absurd HA.out (by simp [impl_addNum.l1])
      | succ k2 =>
       have H := HA.out
       clear HA
       simp only [impl_addNum.l1] at H
       by_cases c8 : x5_2 > 0
       ·rw [if_pos c8] at H
        have c8b0 : decide (0 < x5_2) = true := decide_eq_true c8
        clear c8
        by_cases c9 : 0 ≤ x5_2
        ·rw [if_pos c9] at H
         have c9b0 := eq_true c9
         have c9b1 := decide_eq_true c9
         clear c9
         obtain ⟨ji10, hji10⟩ : ∃ j_ : Int, (shr .i64 ji4 x5_2) = j_ := ⟨_, rfl⟩
         replace H : (if x0_2.length < 140737488355328 then (impl_addNum.l1 k2 (x0_2 ++ [(wrap64 ((Go.bits .and .i64 (ji10) 127) + 128)) % 256]) ji4 (wrap64 (x5_2 - 7))) else (none)) = some r := by first | (rw [hji10] at H; exact H) | (simp only [hji10] at H ⊢; exact H)
         have hji10_ : (ji4 / 2 ^ min x5_2.toNat 64) = ji10 := hji10
         have hji10z : x5_2 ≤ 64 → (ji4 / 2 ^ x5_2.toNat) = ji10 := shr_small hji10
         by_cases c11 : x0_2.length < 140737488355328
         ·rw [if_pos c11] at H
          have LMc11 := mS c11
          clear c11
          obtain ⟨y476, hy476⟩ : ∃ y_ : List Int, y_ = (x0_2 ++ [(wrap64 ((Go.bits .and .i64 (ji10) 127) + 128)) % 256]) := ⟨_, rfl⟩
          replace H : (impl_addNum.l1 k2 y476 ji4 (wrap64 (x5_2 - 7))) = some r := by first | (rw [hy476]; with_reducible exact H) | (have H2_ := (Option.bind_some _ _).symm.trans H; rw [hy476]; with_reducible exact H2_) | (have H2_ := (Option.bind_some _ _).symm.trans H; with_reducible exact H2_) | with_reducible exact H | (rw [hy476]; exact H) | exact H
          have Ny476 := mS hy476
          clear hy476
          have H' := mS H
          clear H
          go_wp2_with (first | ((with_reducible refine gate_builtin (b := .append) (xs := #[.tmp 19, .tmp 26]) rfl ?_); at_builtin; refine Kd.R_append (Kd.int .u8) (w0 := w0) w0.heap.size rfl (.tmp 19) (.tmp 26) 22 5 (.int .u8 0) 1 rfl Try.underlying22 info5 rfl (by decide) (by omega) u0 x0_2 ((wrap64 ((Go.bits .and .i64 (ji10) 127) + 128)) % 256) [.int .u8 ((wrap64 ((Go.bits .and .i64 (ji10) 127) + 128)) % 256)] (fun k_ => (P0_ k_ ∨ w.heap.size ≤ k_)) (fun _ => False) rfl rfl ?aP (fun _ hk => hk.elim) ?aF ?aO ?aB ?aS ?aL ?_; (case aP => exact rfl); (case aB => exact (mH HB.out)); (case aF => exact (fun k_ hk => (.inr (Nat.le_trans (by first | exact HK.out.1 | exact (show Kept w _ (fun k_ => P0_ k_) from by repeat (first | (with_reducible first | exact HK.out | apply Kept.alloc | apply Kept.drewN | apply Kept.drew) | exact HK.out)).1) hk)))); (case aO => exact (mR HO_0.out)); (case aS => exact (below_size (mH HB.out))); (case aL => have := LMc11.out; omega); intro v477 w12 ho hb hg hat; rw [← Ny476.out] at ho; replace HB := mS (hb); replace HK := mS (Kept.of_grown (S := (fun k_ => P0_ k_)) hg (mP HK.out) (fun k_ e_ => (HO_0.out.1 k_ e_))); have HO478 := mS (ho); clear HO_0; clear ho hb hg hat))
          go_roundg k2
          case measure => have := HK1.out; have := HK2.out; omega
          case rel => exact ⟨(y476), (wrap64 (x5_2 - 7)), mE, H', ⟨by have := HK1.out; have := HK2.out; omega⟩, ⟨mR HO478.out⟩, ⟨(mP HK.out)⟩, ⟨(mH HB.out)⟩⟩
         ·rw [if_neg c11] at H
          exact absurd H (by simp)
        ·rw [if_neg c9] at H
         exact absurd H (by simp)
       ·rw [if_neg c8] at H
        have c8b0 : decide (0 < x5_2) = false := decide_eq_false c8
        clear c8
        by_cases c13 : x0_2.length < 140737488355328
        ·rw [if_pos c13] at H
         have LMc13 := mS c13
         clear c13
         obtain ⟨y479, hy479⟩ : ∃ y_ : List Int, y_ = (x0_2 ++ [(Go.bits .and .i64 ji4 127) % 256]) := ⟨_, rfl⟩
         replace H : (some y479) = some r := by first | (rw [hy479]; with_reducible exact H) | (have H2_ := (Option.bind_some _ _).symm.trans H; rw [hy479]; with_reducible exact H2_) | (have H2_ := (Option.bind_some _ _).symm.trans H; with_reducible exact H2_) | with_reducible exact H | (rw [hy479]; exact H) | exact H
         have Ny479 := mS hy479
         clear hy479
         obtain rfl := Option.some.inj H
         go_wp2_with (first | ((with_reducible refine gate_builtin (b := .append) (xs := #[.tmp 28, .tmp 32]) rfl ?_); at_builtin; refine Kd.R_append (Kd.int .u8) (w0 := w0) w0.heap.size rfl (.tmp 28) (.tmp 32) 22 5 (.int .u8 0) 1 rfl Try.underlying22 info5 rfl (by decide) (by omega) u0 x0_2 ((Go.bits .and .i64 ji4 127) % 256) [.int .u8 ((Go.bits .and .i64 ji4 127) % 256)] (fun k_ => (P0_ k_ ∨ w.heap.size ≤ k_)) (fun _ => False) rfl rfl ?aP (fun _ hk => hk.elim) ?aF ?aO ?aB ?aS ?aL ?_; (case aP => exact rfl); (case aB => exact (mH HB.out)); (case aF => exact (fun k_ hk => (.inr (Nat.le_trans (by first | exact HK.out.1 | exact (show Kept w _ (fun k_ => P0_ k_) from by repeat (first | (with_reducible first | exact HK.out | apply Kept.alloc | apply Kept.drewN | apply Kept.drew) | exact HK.out)).1) hk)))); (case aO => exact (mR HO_0.out)); (case aS => exact (below_size (mH HB.out))); (case aL => have := LMc13.out; omega); intro v480 w14 ho hb hg hat; rw [← Ny479.out] at ho; replace HB := mS (hb); replace HK := mS (Kept.of_grown (S := (fun k_ => P0_ k_)) hg (mP HK.out) (fun k_ e_ => (HO_0.out.1 k_ e_))); have HO481 := mS (ho); clear HO_0; clear ho hb hg hat))
         go_ret
         exact ⟨_, by first | rfl | (simp [errW_none, errW_some] <;> rfl) | (simp only [← hji3, ← hji4, ← hji6]; first | rfl | (simp [errW_none, errW_some] <;> rfl)) | (simp [*, errW_none, errW_some] <;> rfl), mR HO481.out, (mH HB.out), (mP HK.out)⟩
        ·rw [if_neg c13] at H
         exact absurd H (by simp)
   ·rw [if_neg c5] at H
    exact absurd H (by simp)

/-! ### impl_addText: function 86 -/
def impl_addText.f (k : Nat) (l0 : List Int) (a1 : ByteArray) : Option (List Int) := (impl_addNum.f k l0 (a1.size : Int)).bind fun t482 => (if t482.length + a1.size < 140737488355328 then (some (t482 ++ bytesOf a1)) else (none))
theorem impl_addText.mono : ∀ a0 a1 k, LeO (impl_addText.f k a0 a1) (impl_addText.f (k + 1) a0 a1) := by
 intro a0 a1 k
 unfold impl_addText.f
 repeat' first
   | (with_reducible exact impl_addNum.mono _ _ _)
   | (with_reducible exact LeO.refl _)
   | (with_reducible exact LeO.none _)
   | (with_reducible refine LeO.ite ?_ ?_)
   | (with_reducible refine LeO.bind ?_ (fun _ => ?_))
   | exact impl_addNum.mono _ _ _
   | exact LeO.none _
   | refine LeO.ite ?_ ?_
   | refine LeO.bind ?_ (fun _ => ?_)
set_option maxHeartbeats 8000000 in
set_option maxRecDepth 100000 in
theorem impl_addText.calls (k : Nat) (P0_ : Nat → Prop) (u9000_ : Value) (l0 : List Int) (a1 : ByteArray) (r : List Int) (w0 w : World) (hB : Below w0.heap.size w0 w) (ho0 : Kd.R (Kd.int .u8) 5 w w0.heap.size P0_ u9000_ l0) (h : impl_addText.f k l0 a1 = some r) :
  Calls Try.prog 86 #[u9000_, .string a1] w fun e w' => ∃ v0_ : Value, e = .returned (v0_) ∧ Kd.R (Kd.int .u8) 5 w' w0.heap.size (fun k_ => (P0_ k_ ∨ w.heap.size ≤ k_)) v0_ r ∧ Below w0.heap.size w0 w' ∧ Kept w w' (fun k_ => P0_ k_) := by
 have HO0 := mS (show Kd.R (Kd.int .u8) 5 w w0.heap.size (fun k_ => (P0_ k_ ∨ w.heap.size ≤ k_)) u9000_ l0 from Kd.R_mono ho0 (fun k_ hk => (.inl hk)))
 have HK := mS (Kept.refl w (fun k_ => P0_ k_))
 have HW0 := mS hB.size
 have HB := mS hB
 clear hB
 have H : ((impl_addNum.f k l0 (a1.size : Int)).bind fun t482 => (if t482.length + a1.size < 140737488355328 then (some (t482 ++ bytesOf a1)) else (none))) = some r := h
 clear h
 replace H := Option.bind_eq_some_iff.mp H
 obtain ⟨t482, A30, H⟩ := H
 replace H : (if t482.length + a1.size < 140737488355328 then (some (t482 ++ bytesOf a1)) else (none)) = some r := H
 have A3 := mS A30
 clear A30
 by_cases c4 : t482.length + a1.size < 140737488355328
 ·rw [if_pos c4] at H
  have LMc4 := mS c4
  clear c4
  obtain ⟨y485, hy485⟩ : ∃ y_ : List Int, y_ = (t482 ++ bytesOf a1) := ⟨_, rfl⟩
  replace H : (some y485) = some r := by first | (rw [hy485]; with_reducible exact H) | (have H2_ := (Option.bind_some _ _).symm.trans H; rw [hy485]; with_reducible exact H2_) | (have H2_ := (Option.bind_some _ _).symm.trans H; with_reducible exact H2_) | with_reducible exact H | (rw [hy485]; exact H) | exact H
  have Ny485 := mS hy485
  clear hy485
  obtain rfl := Option.some.inj H
  obtain ⟨Ao5, co5, eo5⟩ := Kd.R_slice HO0.out
  subst eo5
  go_enter Try.func86, Try.ntmps86
  go_wp2_with (first | ((with_reducible refine gate_callee (f := 85) rfl ?_); refine mGo 8 Try.func85 #[.slice Ao5 l0.length co5, .int .i64 (a1.size : Int)] ?_; (with_reducible refine (impl_addNum.calls k (fun k_ => some k_ = (.slice Ao5 l0.length co5 : Value).ownBlock) (.slice Ao5 l0.length co5) l0 (a1.size : Int) t482 w0 _ ?side1 ?side2 A3.out).mono ?_); (case side1 => exact mH HB.out); (case side2 => exact Kd.R_tight rfl HO0.out); rintro e w6 ⟨v483, rfl, ho0, hb, hkp⟩; refine ⟨_, rfl, ?_⟩; have HO484 := mS (Kd.R_mono (ok' := fun k_ => (P0_ k_ ∨ w.heap.size ≤ k_)) ho0 (fun k_ hk_ => Or.elim hk_ (fun hs_ => (HO0.out.1 k_ (hs_).symm)) (fun hn_ => (.inr (Nat.le_trans (by first | exact HK.out.1 | exact (show Kept w _ (fun k_ => P0_ k_) from by repeat (first | (with_reducible first | exact HK.out | apply Kept.alloc | apply Kept.drewN | apply Kept.drew) | exact HK.out)).1) hn_))))); replace HK := mS (Kept.then_ (S := (fun k_ => P0_ k_)) (mP HK.out) hkp (fun k_ hs_ => (fun e_ => (HO0.out.1 k_ e_.symm)) hs_)); replace HB := mS (hb); clear HO0; (try clear hb); (try clear hkp); (try clear ho0)) | (at_builtin; refine MWords.mp_append_str (w0 := w0) w0.heap.size rfl (.tmp 8) _ 22 9 5 rfl Try.underlying22 Try.underlying9 info5 v483 t482 a1 rfl rfl ?aO ?aB ?aS ?aL ?_; (case aB => exact (mH HB.out)); (case aO => exact (Kd.own_of_R (mR HO484.out))); (case aS => exact (below_size (mH HB.out))); (case aL => have := LMc4.out; omega); intro v486 w7 ho0 hb hg hat; have ho := Kd.R_of_own (h1 := fun _ => rfl) (ok := (fun k_ => (P0_ k_ ∨ w.heap.size ≤ k_))) ho0 (fun k_ e_ => Or.elim hat (fun q_ => (HO484.out.1 k_ (q_.symm.trans e_))) (fun q_ => by obtain ⟨b_, hb_, hl_⟩ := q_; rw [hb_] at e_; injection e_ with e_; subst e_; exact (.inr (Nat.le_trans (by first | exact HK.out.1 | exact (show Kept w _ (fun b_ => P0_ b_) from by repeat (first | (with_reducible first | exact HK.out | apply Kept.alloc | apply Kept.drewN | apply Kept.drew) | exact HK.out)).1) hl_)))); clear ho0; rw [← Ny485.out] at ho; change Kd.R (Kd.int .u8) 5 w7 w0.heap.size (fun k_ => (P0_ k_ ∨ w.heap.size ≤ k_)) v486 y485 at ho; replace HB := mS (hb); replace HK := mS (Kept.of_grown (S := (fun k_ => P0_ k_)) hg (mP HK.out) (fun k_ e_ => (HO484.out.1 k_ e_))); have HO487 := mS (ho); clear HO484; clear ho hb hg hat))
  go_ret
  exact ⟨_, mEw, mR HO487.out, (mH HB.out), (mP HK.out)⟩
 ·rw [if_neg c4] at H
  exact absurd H (by simp)

/-! ### impl_word: function 90 -/
def impl_word.f (a0 : Int) : Option (List Int) := some (([(a0 / 16777216) % 256, (a0 / 65536) % 256, (a0 / 256) % 256, (a0) % 256] : List Int))
set_option maxHeartbeats 8000000 in
set_option maxRecDepth 100000 in
theorem impl_word.calls (a0 : Int) (r : List Int) (w : World) (h : impl_word.f a0 = some r) :
  Calls Try.prog 90 #[.int .i64 a0] w fun e w' => ∃ v0_ : Value, e = .returned (v0_) ∧ Kd.R (Kd.int .u8) 5 w' w.heap.size (fun _ => True) v0_ r ∧ Below w.heap.size w w' := by
 have HB := mS (Below.refl w.heap.size w)
 have H : (some (([(a0 / 16777216) % 256, (a0 / 65536) % 256, (a0 / 256) % 256, (a0) % 256] : List Int))) = some r := h
 clear h
 obtain ⟨y488, hy488⟩ : ∃ y_ : List Int, y_ = (([(a0 / 16777216) % 256, (a0 / 65536) % 256, (a0 / 256) % 256, (a0) % 256] : List Int)) := ⟨_, rfl⟩
 replace H : (some y488) = some r := by first | (rw [hy488]; with_reducible exact H) | (have H2_ := (Option.bind_some _ _).symm.trans H; rw [hy488]; with_reducible exact H2_) | (have H2_ := (Option.bind_some _ _).symm.trans H; with_reducible exact H2_) | with_reducible exact H | (rw [hy488]; exact H) | exact H
 have Ny488 := mS hy488
 clear hy488
 obtain rfl := Option.some.inj H
 go_enter Try.func90, Try.ntmps90
 go_wp2_with (first | ((with_reducible refine gate_dst (N := 14) rfl ?_); refine Kd.R_lit (Kd.int .u8) _ 5 ?hg (N := 14) ?hd (xs := ([(a0 / 16777216) % 256, (a0 / 65536) % 256, (a0 / 256) % 256, (a0) % 256] : List Int)) (inner := [.int .u8 ((a0 / 16777216) % 256), .int .u8 ((a0 / 65536) % 256), .int .u8 ((a0 / 256) % 256), .int .u8 ((a0) % 256)]) (ok := fun _ => True) (okp := fun _ => True) ?hr ?hp (fun _ hk => hk) trivial (Below.refl _ _) (Nat.le_refl _) (by simp) ?_; (case hd => rfl); (case hg => rfl); (case hr => first | (go_simp; done) | (go_simp; rfl)); (case hp => exact (Reps.one (show Kd.M (Kd.int .u8) _ _ _ ((a0 / 16777216) % 256) [.int .u8 ((a0 / 16777216) % 256)] from rfl) (Reps.one (show Kd.M (Kd.int .u8) _ _ _ ((a0 / 65536) % 256) [.int .u8 ((a0 / 65536) % 256)] from rfl) (Reps.one (show Kd.M (Kd.int .u8) _ _ _ ((a0 / 256) % 256) [.int .u8 ((a0 / 256) % 256)] from rfl) (Reps.one (show Kd.M (Kd.int .u8) _ _ _ ((a0) % 256) [.int .u8 ((a0) % 256)] from rfl) (Reps.none _ _)))))); intro v489 w2 ho3 hb hg_ hnew_; clear hg_ hnew_; (first | rw [← Ny488.out] at ho3 | (simp only [Int.reduceToNat] at ho3; rw [← Ny488.out] at ho3)); have HO490 := mS (Kd.R_lower ho3 (below_size (mH HB.out))); replace HB := mS (below_step (mH HB.out) hb); clear hb ho3))
 go_ret
 exact ⟨_, mEw, mR HO490.out, (mH HB.out)⟩

/-! ### impl_Frame: function 89 -/
def impl_Frame.f (k : Nat) (l0 : List Int) : Option (List Int) := (impl_Sum.f k l0).bind fun t491 => ((impl_word.f t491).bind fun t492 => ((impl_addNum.f k t492 (l0.length : Int)).bind fun t495 => (if t495.length + l0.length < 140737488355328 then (some (t495 ++ l0)) else (none))))
theorem impl_Frame.mono : ∀ a0 k, LeO (impl_Frame.f k a0) (impl_Frame.f (k + 1) a0) := by
 intro a0 k
 unfold impl_Frame.f
 repeat' first
   | (with_reducible exact impl_Sum.mono _ _)
   | (with_reducible exact impl_addNum.mono _ _ _)
   | (with_reducible exact LeO.refl _)
   | (with_reducible exact LeO.none _)
   | (with_reducible refine LeO.ite ?_ ?_)
   | (with_reducible refine LeO.bind ?_ (fun _ => ?_))
   | exact impl_Sum.mono _ _
   | exact impl_addNum.mono _ _ _
   | exact LeO.none _
   | refine LeO.ite ?_ ?_
   | refine LeO.bind ?_ (fun _ => ?_)
set_option maxHeartbeats 8000000 in
set_option maxRecDepth 100000 in
theorem impl_Frame.calls (k : Nat) (A0 : Option Addr) (c0 : Nat) (l0 : List Int) (r : List Int) (w : World) (hr0 : Kd.C (Kd.int .u8) w A0 l0.length l0) (hc0 : l0.length ≤ c0) (h : impl_Frame.f k l0 = some r) :
  Calls Try.prog 89 #[.slice A0 l0.length c0] w fun e w' => ∃ v0_ : Value, e = .returned (v0_) ∧ Kd.R (Kd.int .u8) 5 w' w.heap.size (fun _ => True) v0_ r ∧ Below w.heap.size w w' := by
 have HR0 := mS hr0
 have HC0 := mS hc0
 clear hr0 hc0
 have HB := mS (Below.refl w.heap.size w)
 have H : ((impl_Sum.f k l0).bind fun t491 => ((impl_word.f t491).bind fun t492 => ((impl_addNum.f k t492 (l0.length : Int)).bind fun t495 => (if t495.length + l0.length < 140737488355328 then (some (t495 ++ l0)) else (none))))) = some r := h
 clear h
 replace H := Option.bind_eq_some_iff.mp H
 obtain ⟨t491, A20, H⟩ := H
 replace H : ((impl_word.f t491).bind fun t492 => ((impl_addNum.f k t492 (l0.length : Int)).bind fun t495 => (if t495.length + l0.length < 140737488355328 then (some (t495 ++ l0)) else (none)))) = some r := H
 have A2 := mS A20
 clear A20
 replace H := Option.bind_eq_some_iff.mp H
 obtain ⟨t492, A30, H⟩ := H
 replace H : ((impl_addNum.f k t492 (l0.length : Int)).bind fun t495 => (if t495.length + l0.length < 140737488355328 then (some (t495 ++ l0)) else (none))) = some r := H
 have A3 := mS A30
 clear A30
 replace H := Option.bind_eq_some_iff.mp H
 obtain ⟨t495, A40, H⟩ := H
 replace H : (if t495.length + l0.length < 140737488355328 then (some (t495 ++ l0)) else (none)) = some r := H
 have A4 := mS A40
 clear A40
 by_cases c5 : t495.length + l0.length < 140737488355328
 ·rw [if_pos c5] at H
  have LMc5 := mS c5
  clear c5
  obtain ⟨y498, hy498⟩ : ∃ y_ : List Int, y_ = (t495 ++ l0) := ⟨_, rfl⟩
  replace H : (some y498) = some r := by first | (rw [hy498]; with_reducible exact H) | (have H2_ := (Option.bind_some _ _).symm.trans H; rw [hy498]; with_reducible exact H2_) | (have H2_ := (Option.bind_some _ _).symm.trans H; with_reducible exact H2_) | with_reducible exact H | (rw [hy498]; exact H) | exact H
  have Ny498 := mS hy498
  clear hy498
  obtain rfl := Option.some.inj H
  go_enter Try.func89, Try.ntmps89
  go_wp2_with (first | ((with_reducible refine gate_callee (f := 39) rfl ?_); refine mGo 4 Try.func39 #[.slice A0 l0.length c0] ?_; (with_reducible refine (impl_Sum.calls k _ _ l0 t491 _ ?side1 ?side2 A2.out).mono ?_); (case side1 => exact mC HR0.out); (case side2 => exact HC0.out); rintro e w' ⟨rfl, ⟨nd, rfl⟩⟩; refine ⟨_, rfl, ?_⟩) | ((with_reducible refine gate_callee (f := 90) rfl ?_); refine mGo 5 Try.func90 #[.int .i64 t491] ?_; (with_reducible refine (impl_word.calls t491 t492 _ A3.out).mono ?_); rintro e w6 ⟨v493, rfl, ho0, hb⟩; refine ⟨_, rfl, ?_⟩; have HO494 := mS (Kd.R_lower ho0 (below_size (mH HB.out))); replace HB := mS (below_step (mH HB.out) hb); (try clear hb); (try clear ho0); obtain ⟨Ao7, co7, eo7⟩ := Kd.R_slice HO494.out; subst eo7) | ((with_reducible refine gate_callee (f := 85) rfl ?_); refine mGo 8 Try.func85 #[.slice Ao7 t492.length co7, .int .i64 (l0.length : Int)] ?_; (with_reducible refine (impl_addNum.calls k (fun k_ => some k_ = (.slice Ao7 t492.length co7 : Value).ownBlock) (.slice Ao7 t492.length co7) t492 (l0.length : Int) t495 w _ ?side1 ?side2 A4.out).mono ?_); (case side1 => exact mH HB.out); (case side2 => exact Kd.R_tight rfl HO494.out); rintro e w8 ⟨v496, rfl, ho0, hb, hkp⟩; refine ⟨_, rfl, ?_⟩; have HO497 := mS (Kd.R_mono (ok' := fun k_ => True) ho0 (fun k_ hk_ => trivial)); replace HB := mS (hb); clear HO494; (try clear hb); (try clear hkp); (try clear ho0)) | ((with_reducible refine gate_builtin (b := .append) (xs := #[.tmp 8, .tmp 9]) rfl ?_); at_builtin; refine Kd.R_append_rows (Kd.int .u8) (w0 := w) w.heap.size rfl (.tmp 8) (.tmp 9) 22 5 (.int .u8 0) 1 rfl Try.underlying22 info5 rfl (by decide) (by omega) v496 t495 l0 _ _ _ (fun _ => True) (fun _ => False) rfl rfl ?aO ?aR (fun _ _ h => h) (fun _ h => h.elim) ?aF ?aB ?aS ?aL ?_; (case aR => exact mC (Kd.C_below HR0.out HB.out)); (case aB => exact (mH HB.out)); (case aF => exact (fun _ _ => trivial)); (case aO => exact (mR HO497.out)); (case aS => exact (below_size (mH HB.out))); (case aL => have := LMc5.out; omega); intro v499 w9 ho hb hg hat; rw [← Ny498.out] at ho; replace HB := mS (hb); have HO500 := mS (ho); clear HO497; clear ho hb hg hat))
  go_ret
  exact ⟨_, mEw, mR HO500.out, (mH HB.out)⟩
 ·rw [if_neg c5] at H
  exact absurd H (by simp)

/-! ### impl_common: function 100 -/
def impl_common.l0 : Nat → ByteArray → ByteArray → Int → Option (Int)
 | 0, _, _, _ => none
 | k + 1, x0, x1, x5 => if x5 < (x0.size : Int) then (if x5 < (x1.size : Int) then (if 0 ≤ x5 then (if (bt x0 x5) = (bt x1 x5) then (impl_common.l0 k x0 x1 (wrap64 (x5 + 1))) else (some x5)) else (none)) else (some x5)) else (some x5)
def impl_common.f (k : Nat) (a0 : ByteArray) (a1 : ByteArray) : Option (Int) := impl_common.l0 k a0 a1 0
theorem impl_common.mono_l : ∀ k, (∀ y0 y1 y2, LeO (impl_common.l0 k y0 y1 y2) (impl_common.l0 (k + 1) y0 y1 y2))
 | 0 => fun _ _ _ r h => by simp [impl_common.l0] at h
 | k + 1 => by
  have ih0 := impl_common.mono_l k
  ·intro y0 y1 y2
   unfold impl_common.l0
   repeat' first
   | (with_reducible exact ih0 _ _ _)
   | (with_reducible exact LeO.refl _)
   | (with_reducible exact LeO.none _)
   | (with_reducible refine LeO.ite ?_ ?_)
   | (with_reducible refine LeO.bind ?_ (fun _ => ?_))
   | exact ih0 _ _ _
   | exact LeO.none _
   | refine LeO.ite ?_ ?_
   | refine LeO.bind ?_ (fun _ => ?_)
theorem impl_common.mono : ∀ a0 a1 k, LeO (impl_common.f k a0 a1) (impl_common.f (k + 1) a0 a1) := by
 intro a0 a1 k
 have ih0 := impl_common.mono_l k
 unfold impl_common.f
 repeat' first
   | (with_reducible exact ih0 _ _ _)
   | (with_reducible exact LeO.refl _)
   | (with_reducible exact LeO.none _)
   | (with_reducible refine LeO.ite ?_ ?_)
   | (with_reducible refine LeO.bind ?_ (fun _ => ?_))
   | exact ih0 _ _ _
   | exact LeO.none _
   | refine LeO.ite ?_ ?_
   | refine LeO.bind ?_ (fun _ => ?_)
set_option maxHeartbeats 8000000 in
set_option maxRecDepth 100000 in
theorem impl_common.calls (k : Nat) (a0 : ByteArray) (a1 : ByteArray) (r : Int) (w : World) (h : impl_common.f k a0 a1 = some r) :
  Calls Try.prog 100 #[.string a0, .string a1] w fun e w' => e = .returned (.int .i64 r) ∧ Drawn0 w w' := by
 have H : (impl_common.l0 k a0 a1 0) = some r := h
 clear h
 have H' := mS H
 clear H
 go_enter Try.func100, Try.ntmps100
 go_wp2
 repeat (go_quiet (fail); try go_wp2)
 go_loopg [5] k (fun kq v5 w' => ∃ (x5_1 : Int), v5 = .int .i64 x5_1 ∧ Aside0 (impl_common.l0 kq a0 a1 x5_1 = some r) ∧ Aside0 (kq ≤ k) ∧ Drawn0 w w')
 case atStart => exact ⟨(0), mE, H', ⟨Nat.le_refl _⟩, by repeat (first | exact Drawn0.refl _ | apply Drawn0.step)⟩
 case round =>
  clear H'
  try clear c1
  try clear p2
  obtain ⟨x5_1, rfl, HA, HK1, ⟨m1, rfl⟩⟩ := hrel
  cases gk with
  | zero => exact absurd HA.out (by simp [impl_common.l0])
  | succ k1 =>
   have H := HA.out
   clear HA
   simp only [impl_common.l0] at H
   by_cases c3 : x5_1 < (a0.size : Int)
   ·rw [if_pos c3] at H
    have c3b0 := decide_eq_true c3
    clear c3
    by_cases c4 : x5_1 < (a1.size : Int)
    ·rw [if_pos c4] at H
     have c4b0 := decide_eq_true c4
     clear c4
     by_cases c5 : 0 ≤ x5_1
     ·rw [if_pos c5] at H
      have c5b0 := decide_eq_true c5
      clear c5
      by_cases c8 : (bt a0 x5_1) = (bt a1 x5_1)
      ·rw [if_pos c8] at H
       have c8b0 : ((bt a0 x5_1) == (bt a1 x5_1)) = true := beq_iff_eq.mpr c8
       have c8b1 : ((bt a0 x5_1) != (bt a1 x5_1)) = false := bne_eq_false_iff_eq.mpr c8
       clear c8
       have H' := mS H
       clear H
       have p6 : 0 ≤ (x5_1 : Int) := mD
       have q6 : x5_1 < (a0.size : Int) := mD
       have hx6 := bt_at a0 x5_1
       replace p6 := eq_true p6
       replace q6 := eq_true q6
       have p7 : 0 ≤ (x5_1 : Int) := mD
       have q7 : x5_1 < (a1.size : Int) := mD
       have hx7 := bt_at a1 x5_1
       replace p7 := eq_true p7
       replace q7 := eq_true q7
       go_wp2
       repeat (go_quiet (fail); try go_wp2)
       go_roundg k1
       case measure => have := HK1.out; omega
       case rel => exact ⟨(wrap64 (x5_1 + 1)), mE, H', ⟨by have := HK1.out; omega⟩, by repeat (first | exact Drawn0.refl _ | apply Drawn0.step)⟩
      ·rw [if_neg c8] at H
       have c8b0 : ((bt a0 x5_1) == (bt a1 x5_1)) = false := beq_eq_false_iff_ne.mpr c8
       have c8b1 : ((bt a0 x5_1) != (bt a1 x5_1)) = true := bne_iff_ne.mpr c8
       obtain rfl := Option.some.inj H
       have p6 : 0 ≤ (x5_1 : Int) := mD
       have q6 : x5_1 < (a0.size : Int) := mD
       have hx6 := bt_at a0 x5_1
       replace p6 := eq_true p6
       replace q6 := eq_true q6
       have p7 : 0 ≤ (x5_1 : Int) := mD
       have q7 : x5_1 < (a1.size : Int) := mD
       have hx7 := bt_at a1 x5_1
       replace p7 := eq_true p7
       replace q7 := eq_true q7
       go_wp2
       repeat (go_quiet (fail); try go_wp2)
       go_ret
       exact ⟨mE, by repeat (first | exact Drawn0.refl _ | apply Drawn0.step)⟩
     ·rw [if_neg c5] at H
      exact absurd H (by simp)
    ·rw [if_neg c4] at H
     have c4b0 := decide_eq_false c4
     clear c4
     obtain rfl := Option.some.inj H
     go_wp2
     repeat (go_quiet (fail); try go_wp2)
     go_ret
     exact ⟨mE, by repeat (first | exact Drawn0.refl _ | apply Drawn0.step)⟩
   ·rw [if_neg c3] at H
    have c3b0 := decide_eq_false c3
    clear c3
    obtain rfl := Option.some.inj H
    go_wp2
    repeat (go_quiet (fail); try go_wp2)
    go_ret
    exact ⟨mE, by repeat (first | exact Drawn0.refl _ | apply Drawn0.step)⟩

/-! ### impl_bit: function 101 -/
def impl_bit.f (a0 : Bool) : Option (Int) := if a0 = true then (some 1) else (some 0)
set_option maxHeartbeats 8000000 in
set_option maxRecDepth 100000 in
theorem impl_bit.calls (a0 : Bool) (r : Int) (w : World) (h : impl_bit.f a0 = some r) :
  Calls Try.prog 101 #[.bool a0] w fun e w' => e = .returned (.int .u8 r) ∧ Drawn0 w w' := by
 have H : (if a0 = true then (some 1) else (some 0)) = some r := h
 clear h
 by_cases c2 : a0 = true
 ·subst c2
  have H1 := H
  rw [if_pos rfl] at H1
  clear H
  have H := H1
  clear H1
  obtain rfl := Option.some.inj H
  go_enter Try.func101, Try.ntmps101
  go_wp2
  go_ret
  exact ⟨mE, by repeat (first | exact Drawn0.refl _ | apply Drawn0.step)⟩
 ·replace c2 := Bool.eq_false_iff.mpr c2
  subst c2
  have H1 := H
  rw [if_neg (show ¬ (false = true) by decide)] at H1
  clear H
  have H := H1
  clear H1
  obtain rfl := Option.some.inj H
  go_enter Try.func101, Try.ntmps101
  go_wp2
  go_ret
  exact ⟨mE, by repeat (first | exact Drawn0.refl _ | apply Drawn0.step)⟩

end Go.Proofs.Ytecjamgajlpfdaa.MFnExactTablePairs
