-- Written by mp.py, this session's own printer (wip/mp.py).
import Derived.Test.YtbepbgfkajnlbaaVMShort
import Derived.Test.YtbepbgfkajnlbaaMFnExactPutTablex0
import Derived.Test.YtbepbgfkajnlbaaMFnExactPutTablex9
namespace Go.Proofs.Ytbepbgfkajnlbaa.MFnExactPutTable
open Go.RowKit Go.Proofs.YtbepbgfkajnlbaaW.PrintWords Go.Proofs.YtbepbgfkajnlbaaW.PrintLast Go.Proofs.YtbepbgfkajnlbaaW.PrintMore Go.Proofs.Ytbepbgfkajnlbaa.MWords
attribute [local go_sem] max2_int min2_int max_two min_two max_three min_three max_four min_four   -- for this text's walks alone
set_option linter.unusedVariables false
set_option linter.unusedSimpArgs false

/-! ### impl_putBlock: function 124 -/
def impl_putBlock.l0 : Nat → List Int → ByteArray → List (S33) → Int → Int → Option (List Int)
 | 0, _, _, _, _, _ => none
 | k + 1, x3, x4, x8, x9, x10 => if x10 < x9 then (if 0 ≤ x10 then (if x10 < (x8.length : Int) then ((impl_common.f k x4 ((rd_T33 x8 x10).f0)).bind fun t328 => ((impl_addNum.f k x3 t328).bind fun t329 => (if 0 ≤ t328 then (if t328 ≤ (((rd_T33 x8 x10).f0).size : Int) then ((impl_addText.f k t329 (((rd_T33 x8 x10).f0).extract (t328 : Int).toNat ((rd_T33 x8 x10).f0).size)).bind fun t332 => ((impl_bit.f ((rd_T33 x8 x10).f2)).bind fun t335 => (if t332.length < 140737488355328 then ((impl_addText.f k (t332 ++ [t335]) ((rd_T33 x8 x10).f1)).bind fun t339 => (impl_putBlock.l0 k t339 ((rd_T33 x8 x10).f0) x8 x9 (wrap64 (x10 + 1)))) else (none)))) else (none)) else (none)))) else (none)) else (none)) else ((impl_Frame.f k x3).bind fun t323 => (some t323))
def impl_putBlock.f (k : Nat) (l0 : List (S33)) : Option (List Int) := impl_putBlock.l0 k ([] : List Int) (⟨#[]⟩ : ByteArray) l0 (l0.length : Int) 0
theorem impl_putBlock.mono_l : ∀ k, (∀ y0 y1 y2 y3 y4, LeO (impl_putBlock.l0 k y0 y1 y2 y3 y4) (impl_putBlock.l0 (k + 1) y0 y1 y2 y3 y4))
 | 0 => fun _ _ _ _ _ r h => by simp [impl_putBlock.l0] at h
 | k + 1 => by
  have ih0 := impl_putBlock.mono_l k
  ·intro y0 y1 y2 y3 y4
   unfold impl_putBlock.l0
   repeat' first
   | (with_reducible exact ih0 _ _ _ _ _)
   | (with_reducible exact impl_Frame.mono _ _)
   | (with_reducible exact impl_addNum.mono _ _ _)
   | (with_reducible exact impl_addText.mono _ _ _)
   | (with_reducible exact impl_common.mono _ _ _)
   | (with_reducible exact LeO.refl _)
   | (with_reducible exact LeO.none _)
   | (with_reducible refine LeO.ite ?_ ?_)
   | (with_reducible refine LeO.bind ?_ (fun _ => ?_))
   | exact ih0 _ _ _ _ _
   | exact impl_Frame.mono _ _
   | exact impl_addNum.mono _ _ _
   | exact impl_addText.mono _ _ _
   | exact impl_common.mono _ _ _
   | exact LeO.none _
   | refine LeO.ite ?_ ?_
   | refine LeO.bind ?_ (fun _ => ?_)
theorem impl_putBlock.mono : ∀ a0 k, LeO (impl_putBlock.f k a0) (impl_putBlock.f (k + 1) a0) := by
 intro a0 k
 have ih0 := impl_putBlock.mono_l k
 unfold impl_putBlock.f
 repeat' first
   | (with_reducible exact ih0 _ _ _ _ _)
   | (with_reducible exact impl_Frame.mono _ _)
   | (with_reducible exact impl_addNum.mono _ _ _)
   | (with_reducible exact impl_addText.mono _ _ _)
   | (with_reducible exact impl_common.mono _ _ _)
   | (with_reducible exact LeO.refl _)
   | (with_reducible exact LeO.none _)
   | (with_reducible refine LeO.ite ?_ ?_)
   | (with_reducible refine LeO.bind ?_ (fun _ => ?_))
   | exact ih0 _ _ _ _ _
   | exact impl_Frame.mono _ _
   | exact impl_addNum.mono _ _ _
   | exact impl_addText.mono _ _ _
   | exact impl_common.mono _ _ _
   | exact LeO.none _
   | refine LeO.ite ?_ ?_
   | refine LeO.bind ?_ (fun _ => ?_)
def impl_putBlock.T7 : Bool × List (List Nat × List Nat) := (true, [([], []), ([], []), ([0, 1], [0, 1]), ([], []), ([3], [3]), ([], []), ([4, 5], [4, 5]), ([2, 6, 2], [2, 6]), ([7, 7, 0, 1, 2, 3, 4, 5, 6, 7], [0, 7])])
def impl_putBlock.B7 : List Nat := [0, 0, 3, 0, 8, 0, 56, 127, 255]
theorem impl_putBlock.tab7 : rtab .any (opsOf Try.f124 7) = impl_putBlock.T7 := by kernel_rfl
theorem impl_putBlock.bits7 : waitsOk impl_putBlock.T7.2 impl_putBlock.B7 = true := by kernel_rfl
def impl_putBlock.T8 : Bool × List (List Nat × List Nat) := (true, [([], []), ([], []), ([1], [1]), ([2], [2]), ([3], [3]), ([0, 4, 3], [0, 4]), ([], []), ([6], [6]), ([5, 7, 5], [5, 7]), ([8, 8, 0, 1, 2, 3, 4, 5, 6, 7, 8], [0, 8])])
def impl_putBlock.B8 : List Nat := [0, 0, 2, 6, 14, 31, 0, 64, 255, 511]
theorem impl_putBlock.tab8 : rtab .any (opsOf Try.f124 8) = impl_putBlock.T8 := by kernel_rfl
theorem impl_putBlock.bits8 : waitsOk impl_putBlock.T8.2 impl_putBlock.B8 = true := by kernel_rfl
set_option maxHeartbeats 8000000 in
set_option maxRecDepth 100000 in
theorem impl_putBlock.calls (k : Nat) (A0 : Option Addr) (c0 : Nat) (l0 : List (S33)) (r : List Int) (w : World) (hr0 : Kd.C k33 w A0 l0.length l0) (hc0 : l0.length ≤ c0) (h : impl_putBlock.f k l0 = some r) :
  Calls Try.prog 124 #[.slice A0 l0.length c0] w fun e w' => ∃ v0_ : Value, e = .returned (v0_) ∧ Kd.R (Kd.int .u8) 5 w' w.heap.size (fun _ => True) v0_ r ∧ Below w.heap.size w w' := by
 have hu33 := Try.underlying33
 have HR0 := mS hr0
 have HC0 := mS hc0
 clear hr0 hc0
 have HB := mS (Below.refl w.heap.size w)
 have H : (impl_putBlock.l0 k ([] : List Int) (⟨#[]⟩ : ByteArray) l0 (l0.length : Int) 0) = some r := h
 clear h
 have H' := mS H
 clear H
 go_enter Try.func124, Try.ntmps124
 go_wp2
 go_loopg [3, 4, 10] k (fun kq v3 v4 v10 w' => ∃ (x3_1 : List Int) (x4_1 : ByteArray) (x10_1 : Int), v4 = .string x4_1 ∧ v10 = .int .i64 x10_1 ∧ Aside0 (impl_putBlock.l0 kq x3_1 x4_1 l0 (l0.length : Int) x10_1 = some r) ∧ Aside0 (kq ≤ k) ∧ Aside0 (Kd.R (Kd.int .u8) 5 w' w.heap.size (fun _ => True) v3 x3_1) ∧ Aside0 (Below w.heap.size w w'))
 case atStart => exact ⟨(([] : List Int)), ((⟨#[]⟩ : ByteArray)), (0), (by first | rfl | (simp; done) | (simp [*]; done)), (by first | rfl | (simp; done) | (simp [*]; done)), H', ⟨Nat.le_refl _⟩, ⟨by first | exact Kd.R_nil _ _ _ _ _ | exact Kd.N_nil _ _ _ _ _ | exact Kd.V_nil _ _ _ _ _ | exact Kd.Q_nil _ _ _ _ _ | exact Kd.S_nil _ _ _ _ _⟩, ⟨(mH HB.out)⟩⟩
 case round =>
  clear H'
  try clear c1
  obtain ⟨x3_1, x4_1, x10_1, rfl, rfl, HA, HK1, HO_3, HB⟩ := hrel
  cases gk with
  | zero => exact absurd HA.out (by simp [impl_putBlock.l0])
  | succ k1 =>
   have H := HA.out
   clear HA
   simp only [impl_putBlock.l0] at H
   by_cases c2 : x10_1 < (l0.length : Int)
   ·rw [if_pos c2] at H
    have c2b0 : decide (x10_1 < (l0.length : Int)) = true := decide_eq_true c2
    clear c2
    by_cases c3 : 0 ≤ x10_1
    ·rw [if_pos c3] at H
     have c3b0 : decide (0 ≤ x10_1) = true := decide_eq_true c3
     clear c3
     by_cases c4 : x10_1 < (l0.length : Int)
     ·rw [if_pos c4] at H
      have c4b0 : decide (x10_1 < (l0.length : Int)) = true := decide_eq_true c4
      clear c4
      replace H := Option.bind_eq_some_iff.mp H
      obtain ⟨t328, A50, H⟩ := H
      replace H : ((impl_addNum.f k1 x3_1 t328).bind fun t329 => (if 0 ≤ t328 then (if t328 ≤ (((rd_T33 l0 x10_1).f0).size : Int) then ((impl_addText.f k1 t329 (((rd_T33 l0 x10_1).f0).extract (t328 : Int).toNat ((rd_T33 l0 x10_1).f0).size)).bind fun t332 => ((impl_bit.f ((rd_T33 l0 x10_1).f2)).bind fun t335 => (if t332.length < 140737488355328 then ((impl_addText.f k1 (t332 ++ [t335]) ((rd_T33 l0 x10_1).f1)).bind fun t339 => (impl_putBlock.l0 k1 t339 ((rd_T33 l0 x10_1).f0) l0 (l0.length : Int) (wrap64 (x10_1 + 1)))) else (none)))) else (none)) else (none))) = some r := H
      have A5 := mS A50
      clear A50
      replace H := Option.bind_eq_some_iff.mp H
      obtain ⟨t329, A60, H⟩ := H
      replace H : (if 0 ≤ t328 then (if t328 ≤ (((rd_T33 l0 x10_1).f0).size : Int) then ((impl_addText.f k1 t329 (((rd_T33 l0 x10_1).f0).extract (t328 : Int).toNat ((rd_T33 l0 x10_1).f0).size)).bind fun t332 => ((impl_bit.f ((rd_T33 l0 x10_1).f2)).bind fun t335 => (if t332.length < 140737488355328 then ((impl_addText.f k1 (t332 ++ [t335]) ((rd_T33 l0 x10_1).f1)).bind fun t339 => (impl_putBlock.l0 k1 t339 ((rd_T33 l0 x10_1).f0) l0 (l0.length : Int) (wrap64 (x10_1 + 1)))) else (none)))) else (none)) else (none)) = some r := H
      have A6 := mS A60
      clear A60
      by_cases c7 : 0 ≤ t328
      ·rw [if_pos c7] at H
       have c7b0 := eq_true c7
       have c7b1 : decide (0 ≤ t328) = true := decide_eq_true c7
       clear c7
       by_cases c8 : t328 ≤ (((rd_T33 l0 x10_1).f0).size : Int)
       ·rw [if_pos c8] at H
        have c8b0 := eq_true c8
        have c8b1 : decide (t328 ≤ (((rd_T33 l0 x10_1).f0).size : Int)) = true := decide_eq_true c8
        clear c8
        replace H := Option.bind_eq_some_iff.mp H
        obtain ⟨t332, A90, H⟩ := H
        replace H : ((impl_bit.f ((rd_T33 l0 x10_1).f2)).bind fun t335 => (if t332.length < 140737488355328 then ((impl_addText.f k1 (t332 ++ [t335]) ((rd_T33 l0 x10_1).f1)).bind fun t339 => (impl_putBlock.l0 k1 t339 ((rd_T33 l0 x10_1).f0) l0 (l0.length : Int) (wrap64 (x10_1 + 1)))) else (none))) = some r := H
        have A9 := mS A90
        clear A90
        replace H := Option.bind_eq_some_iff.mp H
        obtain ⟨t335, A100, H⟩ := H
        replace H : (if t332.length < 140737488355328 then ((impl_addText.f k1 (t332 ++ [t335]) ((rd_T33 l0 x10_1).f1)).bind fun t339 => (impl_putBlock.l0 k1 t339 ((rd_T33 l0 x10_1).f0) l0 (l0.length : Int) (wrap64 (x10_1 + 1)))) else (none)) = some r := H
        have A10 := mS A100
        clear A100
        by_cases c11 : t332.length < 140737488355328
        ·rw [if_pos c11] at H
         have LMc11 := mS c11
         clear c11
         obtain ⟨y336, hy336⟩ : ∃ y_ : List Int, y_ = (t332 ++ [t335]) := ⟨_, rfl⟩
         replace H : ((impl_addText.f k1 y336 ((rd_T33 l0 x10_1).f1)).bind fun t339 => (impl_putBlock.l0 k1 t339 ((rd_T33 l0 x10_1).f0) l0 (l0.length : Int) (wrap64 (x10_1 + 1)))) = some r := by first | (rw [hy336]; with_reducible exact H) | (have H2_ := (Option.bind_some _ _).symm.trans H; rw [hy336]; with_reducible exact H2_) | (have H2_ := (Option.bind_some _ _).symm.trans H; with_reducible exact H2_) | with_reducible exact H | (rw [hy336]; exact H) | exact H
         have Ny336 := mS hy336
         clear hy336
         replace H := Option.bind_eq_some_iff.mp H
         obtain ⟨t339, A120, H⟩ := H
         replace H : (impl_putBlock.l0 k1 t339 ((rd_T33 l0 x10_1).f0) l0 (l0.length : Int) (wrap64 (x10_1 + 1))) = some r := H
         have A12 := mS A120
         clear A120
         have H' := mS H
         clear H
         have p326 : 0 ≤ (x10_1 : Int) := of_decide_eq_true (by first | (with_reducible assumption) | assumption)
         have q326 : x10_1 < (l0.length : Int) := of_decide_eq_true (by first | (with_reducible assumption) | assumption)
         obtain ⟨ad326, e326, hx326_0, hx326_1, hx326_2⟩ := at_T33 HR0.out x10_1 p326 q326
         cases e326
         replace hx326_0 := (HB.out.cell (World.block_lt_of_cell? w _ hx326_0)).trans hx326_0
         replace hx326_1 := (HB.out.cell (World.block_lt_of_cell? w _ hx326_1)).trans hx326_1
         replace hx326_2 := (HB.out.cell (World.block_lt_of_cell? w _ hx326_2)).trans hx326_2
         replace p326 := eq_true p326
         replace q326 := eq_true q326
         try go_wp2_with (first | ((with_reducible refine gate_dst (N := 6) rfl ?_); refine box_event ?hg (N := 6) ?hd (cs := #[.string (⟨#[]⟩ : ByteArray), .string (⟨#[]⟩ : ByteArray), .bool false]) (t := 33) ?hr ?_; (case hd => rfl); (case hg => rfl); (case hr => first | (go_simp; done) | (go_simp; rfl)); intro gb327 hg w13 hbox hb; replace HO_3 := mS (Kd.R_below (mR HO_3.out) hb); have BK327 := mS (hbox); have GW327 := mG hg (mH HB.out); have GE327 := mG hg (mH HB.out); replace HB := mS (below_step (mH HB.out) hb); clear hb hbox hg; have hcz14_0 : w13.cell? ⟨gb327, 0, none⟩ = some (.string (⟨#[]⟩ : ByteArray)) := (blk_cell BK327.out 0).trans rfl; have hcz14_1 : w13.cell? ⟨gb327, 1, none⟩ = some (.string (⟨#[]⟩ : ByteArray)) := (blk_cell BK327.out 1).trans rfl; have hcz14_2 : w13.cell? ⟨gb327, 2, none⟩ = some (.bool false) := (blk_cell BK327.out 2).trans rfl; have hfz14_0 := blk_frozen BK327.out 0; have hfz14_1 := blk_frozen BK327.out 1; have hfz14_2 := blk_frozen BK327.out 2) | ((with_reducible refine gate_callee (f := 157) rfl ?_); refine goesL_ (some 17) rfl rfl Try.func157 (by kernel_rfl) rfl #[.string x4_1, .string ((rd_T33 l0 x10_1).f0)] rfl mA ?_; (with_reducible refine (impl_common.calls k1 x4_1 ((rd_T33 l0 x10_1).f0) t328 _ A5.out).mono ?_); rintro e w' ⟨rfl, ⟨nd, rfl⟩⟩; refine ⟨_, rfl, ?_⟩))
         have n0_ : Aside0 (Kd.R (Kd.int .u8) 5 (((w13.setCell ⟨gb327, 0, none⟩ (.string ((rd_T33 l0 x10_1).f0))).setCell ⟨gb327, 1, none⟩ (.string ((rd_T33 l0 x10_1).f1))).setCell ⟨gb327, 2, none⟩ (.bool ((rd_T33 l0 x10_1).f2))) w.heap.size (fun _ => True) u3 x3_1) := ⟨by (with_reducible repeat (first | apply Kd.R_alloc | apply Kd.R_drewN | apply Kd.R_drew)); exact Kd.R_mono (Kd.R_far (p := ⟨gb327, 2, none⟩) (Kd.R_far (p := ⟨gb327, 1, none⟩) (Kd.R_far (p := ⟨gb327, 0, none⟩) (Kd.R_types HO_3.out BK327.out (by decide)) (fun _ hk => hk.2) (.string ((rd_T33 l0 x10_1).f0))) (fun _ hk => hk.2) (.string ((rd_T33 l0 x10_1).f1))) (fun _ hk => hk.2) (.bool ((rd_T33 l0 x10_1).f2))) (fun _ hk => trivial)⟩
         have n1_ : Aside0 ((((w13.setCell ⟨gb327, 0, none⟩ (.string ((rd_T33 l0 x10_1).f0))).setCell ⟨gb327, 1, none⟩ (.string ((rd_T33 l0 x10_1).f1))).setCell ⟨gb327, 2, none⟩ (.bool ((rd_T33 l0 x10_1).f2))).heap[gb327]? = some (.cells #[.string ((rd_T33 l0 x10_1).f0), .string ((rd_T33 l0 x10_1).f1), .bool ((rd_T33 l0 x10_1).f2)] 33 (0, 0))) := ⟨by (with_reducible repeat (first | refine blk_drewN ?_ _ | refine blk_drew ?_ | refine blk_alloc ?_ _)); refine blk_put (cs := #[.string ((rd_T33 l0 x10_1).f0), .string ((rd_T33 l0 x10_1).f1), .bool false]) ?_ 2 _ rfl; (with_reducible repeat (first | refine blk_drewN ?_ _ | refine blk_drew ?_ | refine blk_alloc ?_ _)); refine blk_put (cs := #[.string ((rd_T33 l0 x10_1).f0), .string (⟨#[]⟩ : ByteArray), .bool false]) ?_ 1 _ rfl; (with_reducible repeat (first | refine blk_drewN ?_ _ | refine blk_drew ?_ | refine blk_alloc ?_ _)); refine blk_put (cs := #[.string (⟨#[]⟩ : ByteArray), .string (⟨#[]⟩ : ByteArray), .bool false]) ?_ 0 _ rfl; (with_reducible repeat (first | refine blk_drewN ?_ _ | refine blk_drew ?_ | refine blk_alloc ?_ _)); exact BK327.out⟩
         have n2_ : Aside0 (Below w.heap.size w (((w13.setCell ⟨gb327, 0, none⟩ (.string ((rd_T33 l0 x10_1).f0))).setCell ⟨gb327, 1, none⟩ (.string ((rd_T33 l0 x10_1).f1))).setCell ⟨gb327, 2, none⟩ (.bool ((rd_T33 l0 x10_1).f2)))) := ⟨(mH1 HB.out GE327.out)⟩
         (try clear HO_3)
         (try clear BK327)
         (try clear HB)
         generalize (((w13.setCell ⟨gb327, 0, none⟩ (.string ((rd_T33 l0 x10_1).f0))).setCell ⟨gb327, 1, none⟩ (.string ((rd_T33 l0 x10_1).f1))).setCell ⟨gb327, 2, none⟩ (.bool ((rd_T33 l0 x10_1).f2))) = w15 at n0_ n1_ n2_ ⊢
         have HO_3 := n0_
         have BK327 := n1_
         have HB := n2_
         clear n0_ n1_ n2_
         (try (rw [drewN_self w15]; generalize hq_ : World.drewN w15 _ = w15; have n0_ : Aside0 (Kd.R (Kd.int .u8) 5 w15 w.heap.size (fun k_ => True) u3 x3_1) := ⟨by rw [← hq_]; exact (mR HO_3.out)⟩; have n1_ : Aside0 (w15.heap[gb327]? = some (.cells #[.string ((rd_T33 l0 x10_1).f0), .string ((rd_T33 l0 x10_1).f1), .bool ((rd_T33 l0 x10_1).f2)] 33 (0, 0))) := ⟨by rw [← hq_]; exact (mK BK327.out)⟩; have n2_ : Aside0 (Below w.heap.size w w15) := ⟨by rw [← hq_]; exact (mH1 HB.out GE327.out)⟩; clear HO_3 BK327 HB hq_; have HO_3 := n0_; have BK327 := n1_; have HB := n2_; clear n0_ n1_ n2_))
         have n0_ := mS (Kd.R_drew HO_3.out)
         have n1_ := mS (blk_drew BK327.out)
         have n2_ := mS (below_drew1 HB.out)
         clear HO_3
         clear BK327
         clear HB
         have HO_3 := n0_
         have BK327 := n1_
         have HB := n2_
         clear n0_ n1_ n2_
         obtain ⟨Ao17, co17, eo17⟩ := Kd.R_slice HO_3.out
         (first | subst eo17 | (injection eo17 with f1_ f2_ f3_; have f4_ := f1_.symm; have f5_ := f3_.symm; clear f1_ f2_ f3_; subst f4_; subst f5_))
         refine start_ (n := 9) (S := fun w' => w'.cell? ⟨gb327, 0, none⟩ = some (.string ((rd_T33 l0 x10_1).f0)) ∧ w'.cell? ⟨gb327, 1, none⟩ = some (.string ((rd_T33 l0 x10_1).f1)) ∧ w'.cell? ⟨gb327, 2, none⟩ = some (.bool ((rd_T33 l0 x10_1).f2))) (ds := []) #[false, false, false, false, false, false, false, false, false] (by kernel_rfl) rfl rfl ⟨(blk_cell BK327.out 0).trans rfl, (blk_cell BK327.out 1).trans rfl, (blk_cell BK327.out 2).trans rfl⟩ (fun hHeld => ?_); refine with_tabW impl_putBlock.tab7 impl_putBlock.bits7 (fun HT_ HW_ => ?_)
         generalize w15.drew = w16 at HO_3 BK327 HB hHeld ⊢
         refine pure_ (i := 0) (N := some 18) (v := ?_) (a' := ?_) #[true, false, false, false, false, false, false, false, false] rfl rfl (any_of HT_.out (by kernel_rfl)) (fun _ _ _ h => h) (Or.inl ⟨by rfl, ?_⟩) ?_ ?_
         rotate_left
         ·intro w'
          go_simp
          with_reducible rfl
         rotate_left
         ·simp only [Act.put, List.setIfInBounds_toArray, List.set_cons_zero, List.set_cons_succ, i64_w, i32_w]
          rfl
         refine pure_ (i := 1) (N := some 19) (v := ?_) (a' := ?_) #[true, true, false, false, false, false, false, false, false] rfl rfl (any_of HT_.out (by kernel_rfl)) (fun _ _ _ h => h) (Or.inl ⟨by rfl, ?_⟩) ?_ ?_
         rotate_left
         ·intro w'
          go_simp
          with_reducible rfl
         rotate_left
         ·simp only [Act.put, List.setIfInBounds_toArray, List.set_cons_zero, List.set_cons_succ, i64_w, i32_w]
          rfl
         refine pure_ (i := 3) (N := some 21) (v := ?_) (a' := ?_) #[true, true, false, true, false, false, false, false, false] rfl rfl (any_of HT_.out (by kernel_rfl)) (fun _ _ _ h => h) (Or.inl ⟨by rfl, ?_⟩) ?_ ?_
         rotate_left
         ·intro w'
          go_simp
          with_reducible rfl
         rotate_left
         ·simp only [Act.put, List.setIfInBounds_toArray, List.set_cons_zero, List.set_cons_succ, i64_w, i32_w]
          rfl
         refine pure_ (i := 5) (N := some 23) (v := ?_) (a' := ?_) #[true, true, false, true, false, true, false, false, false] rfl rfl (any_of HT_.out (by kernel_rfl)) (fun _ _ _ h => h) (Or.inl ⟨by rfl, ?_⟩) ?_ ?_
         rotate_left
         ·intro w'
          go_simp
          with_reducible rfl
         rotate_left
         ·simp only [Act.put, List.setIfInBounds_toArray, List.set_cons_zero, List.set_cons_succ, i64_w, i32_w]
          rfl
         refine take_ (i := 4) (N := some 22) (v := ?_) (a' := ?_) #[true, true, false, true, true, true, false, false, false] rfl rfl (take_ofW HT_.out HW_.out (by kernel_rfl)) (fun _ _ _ h => h) (Or.inl ⟨by rfl, ?_⟩) hHeld ?_ ?_
         rotate_left
         ·rintro w' ⟨s0, s1, s2⟩
          go_simp
          with_reducible rfl
         rotate_left
         ·simp only [Act.put, List.setIfInBounds_toArray, List.set_cons_zero, List.set_cons_succ, i64_w, i32_w]
          rfl
         refine pure_ (i := 6) (N := some 24) (v := ?_) (a' := ?_) #[true, true, false, true, true, true, true, false, false] rfl rfl (any_of HT_.out (by kernel_rfl)) (fun _ _ _ h => h) (Or.inl ⟨by rfl, ?_⟩) ?_ ?_
         rotate_left
         ·intro w'
          go_simp
          with_reducible rfl
         rotate_left
         ·simp only [Act.put, List.setIfInBounds_toArray, List.set_cons_zero, List.set_cons_succ, i64_w, i32_w]
          rfl
         refine one_ (i := 2) (N := some 20) #[true, true, true, true, true, true, true, false, false] rfl rfl (one_of HT_.out (by kernel_rfl)) (by decide) (fun K hK => ?_)
         refine goes_ Try.func122 (by kernel_rfl) rfl #[.slice Ao17 x3_1.length co17, .int .i64 t328] (by rfl) rfl rfl mA ?_
         with_reducible refine (impl_addNum.calls k1 (fun k_ => some k_ = (.slice Ao17 x3_1.length co17 : Value).ownBlock) (.slice Ao17 x3_1.length co17) x3_1 t328 t329 w _ ?side1 ?side2 A6.out).mono ?_
         (case side1 => repeat (first | (with_reducible first | exact HB.out | apply below_alloc | apply pw_below_drewN | apply below_drew1 | refine below_set ?_ GE327.out) | exact HB.out))
         (case side2 => exact Kd.R_tight rfl HO_3.out)
         rintro e w18 ⟨v330, rfl, ho0, hb, hkp⟩
         refine ⟨_, rfl, ?_⟩
         have n0_ := mS (blk_kept (mK BK327.out) hkp (fun hs_ => (fun e_ => (Kd.R_ne HO_3.out BK327.out (by decide)) e_) hs_))
         have n1_ := mS (Kd.R_mono (ok' := fun k_ => True) ho0 (fun k_ hk_ => trivial))
         have n2_ := mS (hb)
         clear BK327
         clear HB
         clear HO_3
         have BK327 := n0_
         have HO331 := n1_
         have HB := n2_
         clear n0_ n1_ n2_
         (try clear hb)
         (try clear hkp)
         (try clear ho0)
         obtain ⟨Ao19, co19, eo19⟩ := Kd.R_slice HO331.out
         (first | subst eo19 | (injection eo19 with f1_ f2_ f3_; have f4_ := f1_.symm; have f5_ := f3_.symm; clear f1_ f2_ f3_; subst f4_; subst f5_))
         refine hK.out _ _ ⟨(blk_cell BK327.out 0).trans rfl, (blk_cell BK327.out 1).trans rfl, (blk_cell BK327.out 2).trans rfl⟩ (fun hHeld => ?_)
         clear hK K
         refine norm_ (a' := ?_) ?_ ?_
         rotate_left
         ·show Act.put _ (some 20) _ = _
          simp only [Act.put, List.setIfInBounds_toArray, List.set_cons_zero, List.set_cons_succ, i64_w, i32_w]
          rfl
         refine one_ (i := 7) (N := some 25) #[true, true, true, true, true, true, true, true, false] rfl rfl (one_of HT_.out (by kernel_rfl)) (by decide) (fun K hK => ?_)
         refine goes_ Try.func123 (by kernel_rfl) rfl #[.slice Ao19 t329.length co19, .string (((rd_T33 l0 x10_1).f0).extract (t328 : Int).toNat ((rd_T33 l0 x10_1).f0).size)] (by rfl) rfl rfl mA ?_
         with_reducible refine (impl_addText.calls k1 (fun k_ => some k_ = (.slice Ao19 t329.length co19 : Value).ownBlock) (.slice Ao19 t329.length co19) t329 (((rd_T33 l0 x10_1).f0).extract (t328 : Int).toNat ((rd_T33 l0 x10_1).f0).size) t332 w _ ?side1 ?side2 A9.out).mono ?_
         (case side1 => repeat (first | (with_reducible first | exact HB.out | apply below_alloc | apply pw_below_drewN | apply below_drew1 | refine below_set ?_ GE327.out) | exact HB.out))
         (case side2 => exact Kd.R_tight rfl HO331.out)
         rintro e w20 ⟨v333, rfl, ho0, hb, hkp⟩
         refine ⟨_, rfl, ?_⟩
         have n0_ := mS (blk_kept (mK BK327.out) hkp (fun hs_ => (fun e_ => (Kd.R_ne HO331.out BK327.out (by decide)) e_) hs_))
         have n1_ := mS (Kd.R_mono (ok' := fun k_ => True) ho0 (fun k_ hk_ => trivial))
         have n2_ := mS (hb)
         clear BK327
         clear HB
         clear HO331
         have BK327 := n0_
         have HO334 := n1_
         have HB := n2_
         clear n0_ n1_ n2_
         (try clear hb)
         (try clear hkp)
         (try clear ho0)
         refine hK.out _ _ ⟨(blk_cell BK327.out 0).trans rfl, (blk_cell BK327.out 1).trans rfl, (blk_cell BK327.out 2).trans rfl⟩ (fun hHeld => ?_)
         clear hK K
         refine norm_ (a' := ?_) ?_ ?_
         rotate_left
         ·show Act.put _ (some 25) _ = _
          simp only [Act.put, List.setIfInBounds_toArray, List.set_cons_zero, List.set_cons_succ, i64_w, i32_w]
          rfl
         refine pure_ (i := 8) (N := some 3) (v := ?_) (a' := ?_) #[true, true, true, true, true, true, true, true, true] rfl rfl (any_of HT_.out (by kernel_rfl)) (fun _ _ _ h => h) (Or.inl ⟨by rfl, ?_⟩) ?_ ?_
         rotate_left
         ·intro w'
          go_simp
          with_reducible rfl
         rotate_left
         ·simp only [Act.put, List.setIfInBounds_toArray, List.set_cons_zero, List.set_cons_succ, i64_w, i32_w]
          rfl
         refine done_ (done_of HT_.out (by kernel_rfl)) ?_
         try go_wp2
         have n0_ := mS (Kd.R_drew HO334.out)
         have n1_ := mS (blk_drew BK327.out)
         have n2_ := mS (below_drew1 HB.out)
         clear HO334
         clear BK327
         clear HB
         have HO334 := n0_
         have BK327 := n1_
         have HB := n2_
         clear n0_ n1_ n2_
         refine start_ (n := 10) (S := fun w' => w'.cell? ⟨gb327, 0, none⟩ = some (.string ((rd_T33 l0 x10_1).f0)) ∧ w'.cell? ⟨gb327, 1, none⟩ = some (.string ((rd_T33 l0 x10_1).f1)) ∧ w'.cell? ⟨gb327, 2, none⟩ = some (.bool ((rd_T33 l0 x10_1).f2))) (ds := []) #[false, false, false, false, false, false, false, false, false, false] (by kernel_rfl) rfl rfl ⟨(blk_cell BK327.out 0).trans rfl, (blk_cell BK327.out 1).trans rfl, (blk_cell BK327.out 2).trans rfl⟩ (fun hHeld => ?_); refine with_tabW impl_putBlock.tab8 impl_putBlock.bits8 (fun HT_ HW_ => ?_)
         generalize w20.drew = w21 at HO334 BK327 HB hHeld ⊢
         refine pure_ (i := 0) (N := some 26) (v := ?_) (a' := ?_) #[true, false, false, false, false, false, false, false, false, false] rfl rfl (any_of HT_.out (by kernel_rfl)) (fun _ _ _ h => h) (Or.inl ⟨by rfl, ?_⟩) ?_ ?_
         rotate_left
         ·intro w'
          go_simp
          with_reducible rfl
         rotate_left
         ·simp only [Act.put, List.setIfInBounds_toArray, List.set_cons_zero, List.set_cons_succ, i64_w, i32_w]
          rfl
         refine pure_ (i := 1) (N := some 27) (v := ?_) (a' := ?_) #[true, true, false, false, false, false, false, false, false, false] rfl rfl (any_of HT_.out (by kernel_rfl)) (fun _ _ _ h => h) (Or.inl ⟨by rfl, ?_⟩) ?_ ?_
         rotate_left
         ·intro w'
          go_simp
          with_reducible rfl
         rotate_left
         ·simp only [Act.put, List.setIfInBounds_toArray, List.set_cons_zero, List.set_cons_succ, i64_w, i32_w]
          rfl
         refine pure_ (i := 6) (N := some 32) (v := ?_) (a' := ?_) #[true, true, false, false, false, false, true, false, false, false] rfl rfl (any_of HT_.out (by kernel_rfl)) (fun _ _ _ h => h) (Or.inl ⟨by rfl, ?_⟩) ?_ ?_
         rotate_left
         ·intro w'
          go_simp
          with_reducible rfl
         rotate_left
         ·simp only [Act.put, List.setIfInBounds_toArray, List.set_cons_zero, List.set_cons_succ, i64_w, i32_w]
          rfl
         refine take_ (i := 2) (N := some 28) (v := ?_) (a' := ?_) #[true, true, true, false, false, false, true, false, false, false] rfl rfl (take_ofW HT_.out HW_.out (by kernel_rfl)) (fun _ _ _ h => h) (Or.inl ⟨by rfl, ?_⟩) hHeld ?_ ?_
         rotate_left
         ·rintro w' ⟨s0, s1, s2⟩
          go_simp
          with_reducible rfl
         rotate_left
         ·simp only [Act.put, List.setIfInBounds_toArray, List.set_cons_zero, List.set_cons_succ, i64_w, i32_w]
          rfl
         refine take_ (i := 7) (N := some 33) (v := ?_) (a' := ?_) #[true, true, true, false, false, false, true, true, false, false] rfl rfl (take_ofW HT_.out HW_.out (by kernel_rfl)) (fun _ _ _ h => h) (Or.inl ⟨by rfl, ?_⟩) hHeld ?_ ?_
         rotate_left
         ·rintro w' ⟨s0, s1, s2⟩
          go_simp
          with_reducible rfl
         rotate_left
         ·simp only [Act.put, List.setIfInBounds_toArray, List.set_cons_zero, List.set_cons_succ, i64_w, i32_w]
          rfl
         refine one_ (i := 3) (N := some 29) #[true, true, true, true, false, false, true, true, false, false] rfl rfl (one_of HT_.out (by kernel_rfl)) (by decide) (fun K hK => ?_)
         refine goes_ Try.func158 (by kernel_rfl) rfl #[.bool ((rd_T33 l0 x10_1).f2)] (by rfl) rfl rfl mA ?_
         with_reducible refine (impl_bit.calls ((rd_T33 l0 x10_1).f2) t335 _ A10.out).mono ?_
         rintro e w' ⟨rfl, ⟨nd, rfl⟩⟩
         refine ⟨_, rfl, ?_⟩
         refine hK.out _ _ ⟨(blk_cell BK327.out 0).trans rfl, (blk_cell BK327.out 1).trans rfl, (blk_cell BK327.out 2).trans rfl⟩ (fun hHeld => ?_)
         clear hK K
         refine norm_ (a' := ?_) ?_ ?_
         rotate_left
         ·show Act.put _ (some 29) _ = _
          simp only [Act.put, List.setIfInBounds_toArray, List.set_cons_zero, List.set_cons_succ, i64_w, i32_w]
          rfl
         refine one_ (i := 4) (N := some 30) #[true, true, true, true, true, false, true, true, false, false] rfl rfl (one_of HT_.out (by kernel_rfl)) (by decide) (fun K hK => ?_)
         refine value_ (w1 := ?_) (v := ?_) (by rfl) rfl ?_ ?_
         rotate_left 2
         ·go_simp
          constructor
          ·rfl
          ·rfl
         refine hK.out _ _ ⟨(blk_cell (blk_alloc BK327.out _) 0).trans rfl, (blk_cell (blk_alloc BK327.out _) 1).trans rfl, (blk_cell (blk_alloc BK327.out _) 2).trans rfl⟩ (fun hHeld => ?_)
         clear hK K
         refine norm_ (a' := ?_) ?_ ?_
         rotate_left
         ·show Act.put _ (some 30) _ = _
          simp only [Act.put, List.setIfInBounds_toArray, List.set_cons_zero, List.set_cons_succ, i64_w, i32_w]
          rfl
         refine one_ (i := 5) (N := some 31) #[true, true, true, true, true, true, true, true, false, false] rfl rfl (one_of HT_.out (by kernel_rfl)) (by decide) (fun K hK => ?_)
         refine Kd.R_append_step (Kd.int .u8) (w0 := w) w.heap.size (by rfl) (.tmp 26) (.tmp 30) 22 5 (.int .u8 0) 1 rfl Try.underlying22 info5 rfl (by decide) (by omega) v333 t332 t335 [.int .u8 t335] (fun _ => True) (fun _ => False) rfl rfl ?aP (fun _ hk => hk.elim) ?aF ?aO ?aB ?aS ?aL ?_
         (case aP => exact rfl)
         (case aB => exact (mH1 HB.out GE327.out))
         (case aF => exact (fun _ _ => trivial))
         (case aO => exact (mR HO334.out))
         (case aS => exact (below_size (mH1 HB.out GE327.out)))
         (case aL => have := LMc11.out; omega)
         intro v337 w22 ho hb hg hat
         rw [← Ny336.out] at ho
         have n0_ := mS (blk_grown (g := gb327) (o := .cells #[.string ((rd_T33 l0 x10_1).f0), .string ((rd_T33 l0 x10_1).f1), .bool ((rd_T33 l0 x10_1).f2)] 33 (0, 0)) (mK BK327.out) hg (Kd.R_ne HO334.out BK327.out (by decide)))
         have n1_ := mS (hb)
         have n2_ := mS (ho)
         clear BK327
         clear HB
         clear HO334
         have BK327 := n0_
         have HB := n1_
         have HO338 := n2_
         clear n0_ n1_ n2_
         clear ho hb hg hat
         obtain ⟨Ao23, co23, eo23⟩ := Kd.R_slice HO338.out
         (first | subst eo23 | (injection eo23 with f1_ f2_ f3_; have f4_ := f1_.symm; have f5_ := f3_.symm; clear f1_ f2_ f3_; subst f4_; subst f5_))
         refine hK.out _ _ ⟨(blk_cell BK327.out 0).trans rfl, (blk_cell BK327.out 1).trans rfl, (blk_cell BK327.out 2).trans rfl⟩ (fun hHeld => ?_)
         clear hK K
         refine norm_ (a' := ?_) ?_ ?_
         rotate_left
         ·show Act.put _ (some 31) _ = _
          simp only [Act.put, List.setIfInBounds_toArray, List.set_cons_zero, List.set_cons_succ, i64_w, i32_w]
          rfl
         refine one_ (i := 8) (N := some 34) #[true, true, true, true, true, true, true, true, true, false] rfl rfl (one_of HT_.out (by kernel_rfl)) (by decide) (fun K hK => ?_)
         refine goes_ Try.func123 (by kernel_rfl) rfl #[.slice Ao23 y336.length co23, .string ((rd_T33 l0 x10_1).f1)] (by rfl) rfl rfl mA ?_
         with_reducible refine (impl_addText.calls k1 (fun k_ => some k_ = (.slice Ao23 y336.length co23 : Value).ownBlock) (.slice Ao23 y336.length co23) y336 ((rd_T33 l0 x10_1).f1) t339 w _ ?side1 ?side2 A12.out).mono ?_
         (case side1 => repeat (first | (with_reducible first | exact HB.out | apply below_alloc | apply pw_below_drewN | apply below_drew1 | refine below_set ?_ GE327.out) | exact HB.out))
         (case side2 => exact Kd.R_tight rfl HO338.out)
         rintro e w24 ⟨v340, rfl, ho0, hb, hkp⟩
         refine ⟨_, rfl, ?_⟩
         have n0_ := mS (blk_kept (mK BK327.out) hkp (fun hs_ => (fun e_ => (Kd.R_ne HO338.out BK327.out (by decide)) e_) hs_))
         have n1_ := mS (Kd.R_mono (ok' := fun k_ => True) ho0 (fun k_ hk_ => trivial))
         have n2_ := mS (hb)
         clear BK327
         clear HB
         clear HO338
         have BK327 := n0_
         have HO341 := n1_
         have HB := n2_
         clear n0_ n1_ n2_
         (try clear hb)
         (try clear hkp)
         (try clear ho0)
         refine hK.out _ _ ⟨(blk_cell BK327.out 0).trans rfl, (blk_cell BK327.out 1).trans rfl, (blk_cell BK327.out 2).trans rfl⟩ (fun hHeld => ?_)
         clear hK K
         refine norm_ (a' := ?_) ?_ ?_
         rotate_left
         ·show Act.put _ (some 34) _ = _
          simp only [Act.put, List.setIfInBounds_toArray, List.set_cons_zero, List.set_cons_succ, i64_w, i32_w]
          rfl
         refine pure_ (i := 9) (N := some 3) (v := ?_) (a' := ?_) #[true, true, true, true, true, true, true, true, true, true] rfl rfl (any_of HT_.out (by kernel_rfl)) (fun _ _ _ h => h) (Or.inl ⟨by rfl, ?_⟩) ?_ ?_
         rotate_left
         ·intro w'
          go_simp
          with_reducible rfl
         rotate_left
         ·simp only [Act.put, List.setIfInBounds_toArray, List.set_cons_zero, List.set_cons_succ, i64_w, i32_w]
          rfl
         refine done_ (done_of HT_.out (by kernel_rfl)) ?_
         have hcz25_0 : w24.cell? ⟨gb327, 0, none⟩ = some (.string ((rd_T33 l0 x10_1).f0)) := (blk_cell BK327.out 0).trans rfl
         have hcz25_1 : w24.cell? ⟨gb327, 1, none⟩ = some (.string ((rd_T33 l0 x10_1).f1)) := (blk_cell BK327.out 1).trans rfl
         have hcz25_2 : w24.cell? ⟨gb327, 2, none⟩ = some (.bool ((rd_T33 l0 x10_1).f2)) := (blk_cell BK327.out 2).trans rfl
         have hfz25_0 := blk_frozen BK327.out 0
         have hfz25_1 := blk_frozen BK327.out 1
         have hfz25_2 := blk_frozen BK327.out 2
         try go_wp2
         go_roundg k1
         case measure => have := HK1.out; omega
         case rel => exact ⟨(t339), ((rd_T33 l0 x10_1).f0), (wrap64 (x10_1 + 1)), (by first | rfl | (simp; done) | (simp [*]; done)), (by first | rfl | (simp; done) | (simp [*]; done)), H', ⟨by have := HK1.out; omega⟩, ⟨by (with_reducible repeat (first | apply Kd.R_alloc | apply Kd.R_drewN | apply Kd.R_drew)); exact HO341.out⟩, ⟨(mH1 HB.out GE327.out)⟩⟩
        ·rw [if_neg c11] at H
         exact absurd H (by simp)
       ·rw [if_neg c8] at H
        exact absurd H (by simp)
      ·rw [if_neg c7] at H
       exact absurd H (by simp)
     ·rw [if_neg c4] at H
      exact absurd H (by simp)
    ·rw [if_neg c3] at H
     exact absurd H (by simp)
   ·rw [if_neg c2] at H
    have c2b0 : decide (x10_1 < (l0.length : Int)) = false := decide_eq_false c2
    clear c2
    replace H := Option.bind_eq_some_iff.mp H
    obtain ⟨t323, A260, H⟩ := H
    replace H : (some t323) = some r := H
    have A26 := mS A260
    clear A260
    obtain rfl := Option.some.inj H
    obtain ⟨Ao27, co27, eo27⟩ := Kd.R_slice HO_3.out
    subst eo27
    go_wp2_with (first | ((with_reducible refine gate_callee (f := 126) rfl ?_); refine goesL_ (some 39) rfl rfl Try.func126 (by kernel_rfl) rfl #[.slice Ao27 x3_1.length co27] rfl mA ?_; (with_reducible refine (impl_Frame.calls k1 _ _ x3_1 t323 _ ?side1 ?side2 A26.out).mono ?_); (case side1 => repeat (first | exact (Kd.R_reads' HO_3.out).2.2 | (with_reducible refine Kd.C_alloc ?_ _) | (with_reducible refine Kd.C_drewN ?_ _) | (with_reducible refine Kd.C_drew ?_))); (case side2 => exact (Kd.R_reads' HO_3.out).2.1); rintro e w28 ⟨v324, rfl, ho0, hb⟩; refine ⟨_, rfl, ?_⟩; have HO325 := mS (Kd.R_lower (Kd.R_new' ho0 (Kd.R_lt (mR HO_3.out))) (below_size (mH HB.out))); replace HO_3 := mS (Kd.R_elder' (mR HO_3.out) (Kd.R_base ho0) hb); replace HB := mS (below_step (mH HB.out) hb); (try clear hb); (try clear hb2); (try clear hk); (try clear hi); (try clear ho0)))
    go_ret
    exact ⟨_, by first | rfl | (simp [errW_none, errW_some] <;> rfl) | (simp [*, errW_none, errW_some] <;> rfl), by (with_reducible repeat (first | apply Kd.R_alloc | apply Kd.R_drewN | apply Kd.R_drew)); exact Kd.R_mono HO325.out (fun _ hk => trivial), (mH HB.out)⟩

/-! ### impl_Mark: function 159 -/
def impl_Mark.f (k : Nat) (a0 : ByteArray) : Option (Int × Int) := if a0.size ≤ 9223372036854775807 then ((impl_Sum.f k (bytesOf a0)).bind fun t => (some (Int.tmod t 64, Int.tmod (wrap64 (Int.tdiv t 64)) 64))) else none
theorem impl_Mark.mono : ∀ a0 k, LeO (impl_Mark.f k a0) (impl_Mark.f (k + 1) a0) := by
 intro a0 k
 unfold impl_Mark.f
 exact LeO.ite (LeO.bind (impl_Sum.mono _ _) (fun _ => LeO.refl _)) (LeO.none _)
set_option maxHeartbeats 8000000 in
set_option maxRecDepth 100000 in
theorem impl_Mark.calls (k : Nat) (a0 : ByteArray) (r1 : Int) (r2 : Int) (w : World) (h : impl_Mark.f k a0 = some (r1, r2)) :
  Calls Try.prog 159 #[.string a0] w fun e w' => e = .returned (.tuple #[.int .i64 r1, .int .i64 r2]) ∧ Below w.heap.size w w' := by
 unfold impl_Mark.f at h
 by_cases hs : a0.size ≤ 9223372036854775807
 ·rw [if_pos hs] at h
  obtain ⟨t, ht, h⟩ := Option.bind_eq_some_iff.mp h
  simp only [Option.some.injEq, Prod.mk.injEq] at h
  obtain ⟨rfl, rfl⟩ := h
  have HT := mS ht
  clear ht
  have hcv : ∀ W : World, (convert 9 22 (.string a0)).run Try.prog W = .ok (.slice (some ⟨W.heap.size, 0, none⟩) (bytesOf a0).length (grownCap W a0.size 0 5)) (Lib.bytesWorld W 5 a0) := fun W => by
   rw [bytesOf_length]
   exact print_bytes 9 22 5 Try.underlying9 Try.underlying22 Try.underlying5 a0 W
  have HS := mS hs
  clear hs
  have HR := mS (show (Kd.int .u8).C (Lib.bytesWorld w 5 a0) (some ⟨w.heap.size, 0, none⟩) (bytesOf a0).length (bytesOf a0) from by
   have hr := bytes_reads w 5 a0 HS.out
   rw [← bytesOf_length] at hr
   exact Kd.C_of_reads (d := (0 : Int)) (h1 := fun _ => rfl) hr)
  have HC := mS (show (bytesOf a0).length ≤ grownCap w a0.size 0 5 from by rw [bytesOf_length]; exact grownCap_ge w a0.size 0 5)
  go_enter Try.func159, Try.ntmps159
  go_wp2_with fail
  refine (impl_Sum.calls k _ _ (bytesOf a0) t _ HR.out HC.out HT.out).mono ?_
  rintro e w' ⟨rfl, ⟨nd, rfl⟩⟩
  go_wp2
  go_ret2
  exact ⟨rfl, pw_below_drewN (bytes_below (Below.refl _ _) (Nat.le_refl _) 5 a0) nd⟩
 ·rw [if_neg hs] at h
  cases h

end Go.Proofs.Ytbepbgfkajnlbaa.MFnExactPutTable
