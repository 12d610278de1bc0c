-- Written by mp.py, this session's own printer (wip/mp.py).
import Derived.Test.YtecjamgajlpfdaaVMShort
import Derived.Test.YtecjamgajlpfdaaMFnExactTablePairsx0
import Derived.Test.YtecjamgajlpfdaaMFnExactTablePairsx10
import Derived.Test.YtecjamgajlpfdaaMFnExactTablePairsx13
namespace Go.Proofs.Ytecjamgajlpfdaa.MFnExactTablePairs
open Go.RowKit Go.Proofs.YtecjamgajlpfdaaW.PrintWords Go.Proofs.YtecjamgajlpfdaaW.PrintLast Go.Proofs.YtecjamgajlpfdaaW.PrintMore Go.Proofs.Ytecjamgajlpfdaa.MWords
attribute [local go_sem] max2_int min2_int max_two min_two max_three min_three max_four min_four   -- for this text's walks alone
set_option linter.unusedVariables false
set_option linter.unusedSimpArgs false

/-! ### impl_putBlock: function 87 -/
def impl_putBlock.l0 : Nat → List Int → ByteArray → List (S87) → Int → Int → Option (List Int)
 | 0, _, _, _, _, _ => none
 | k + 1, x3, x4, x8, x9, x10 => if x10 < x9 then (if 0 ≤ x10 then (if x10 < (x8.length : Int) then ((impl_common.f k x4 ((rd_T87 x8 x10).f0)).bind fun t506 => ((impl_addNum.f k x3 t506).bind fun t507 => (if 0 ≤ t506 then (if t506 ≤ (((rd_T87 x8 x10).f0).size : Int) then ((impl_addText.f k t507 (((rd_T87 x8 x10).f0).extract (t506 : Int).toNat ((rd_T87 x8 x10).f0).size)).bind fun t510 => ((impl_bit.f ((rd_T87 x8 x10).f2)).bind fun t513 => (if t510.length < 140737488355328 then ((impl_addText.f k (t510 ++ [t513]) ((rd_T87 x8 x10).f1)).bind fun t517 => (impl_putBlock.l0 k t517 ((rd_T87 x8 x10).f0) x8 x9 (wrap64 (x10 + 1)))) else (none)))) else (none)) else (none)))) else (none)) else (none)) else ((impl_Frame.f k x3).bind fun t501 => (some t501))
def impl_putBlock.f (k : Nat) (l0 : List (S87)) : Option (List Int) := impl_putBlock.l0 k ([] : List Int) (⟨#[]⟩ : ByteArray) l0 (l0.length : Int) 0
theorem impl_putBlock.mono_l : ∀ k, (∀ y0 y1 y2 y3 y4, LeO (impl_putBlock.l0 k y0 y1 y2 y3 y4) (impl_putBlock.l0 (k + 1) y0 y1 y2 y3 y4))
 | 0 => fun _ _ _ _ _ r h => by simp [impl_putBlock.l0] at h
 | k + 1 => by
  have ih0 := impl_putBlock.mono_l k
  ·intro y0 y1 y2 y3 y4
   unfold impl_putBlock.l0
   repeat' first
   | (with_reducible exact ih0 _ _ _ _ _)
   | (with_reducible exact impl_Frame.mono _ _)
   | (with_reducible exact impl_addNum.mono _ _ _)
   | (with_reducible exact impl_addText.mono _ _ _)
   | (with_reducible exact impl_common.mono _ _ _)
   | (with_reducible exact LeO.refl _)
   | (with_reducible exact LeO.none _)
   | (with_reducible refine LeO.ite ?_ ?_)
   | (with_reducible refine LeO.bind ?_ (fun _ => ?_))
   | exact ih0 _ _ _ _ _
   | exact impl_Frame.mono _ _
   | exact impl_addNum.mono _ _ _
   | exact impl_addText.mono _ _ _
   | exact impl_common.mono _ _ _
   | exact LeO.none _
   | refine LeO.ite ?_ ?_
   | refine LeO.bind ?_ (fun _ => ?_)
theorem impl_putBlock.mono : ∀ a0 k, LeO (impl_putBlock.f k a0) (impl_putBlock.f (k + 1) a0) := by
 intro a0 k
 have ih0 := impl_putBlock.mono_l k
 unfold impl_putBlock.f
 repeat' first
   | (with_reducible exact ih0 _ _ _ _ _)
   | (with_reducible exact impl_Frame.mono _ _)
   | (with_reducible exact impl_addNum.mono _ _ _)
   | (with_reducible exact impl_addText.mono _ _ _)
   | (with_reducible exact impl_common.mono _ _ _)
   | (with_reducible exact LeO.refl _)
   | (with_reducible exact LeO.none _)
   | (with_reducible refine LeO.ite ?_ ?_)
   | (with_reducible refine LeO.bind ?_ (fun _ => ?_))
   | exact ih0 _ _ _ _ _
   | exact impl_Frame.mono _ _
   | exact impl_addNum.mono _ _ _
   | exact impl_addText.mono _ _ _
   | exact impl_common.mono _ _ _
   | exact LeO.none _
   | refine LeO.ite ?_ ?_
   | refine LeO.bind ?_ (fun _ => ?_)
def impl_putBlock.T7 : Bool × List (List Nat × List Nat) := (true, [([], []), ([], []), ([0, 1], [0, 1]), ([], []), ([3], [3]), ([], []), ([4, 5], [4, 5]), ([2, 6, 2], [2, 6]), ([7, 7, 0, 1, 2, 3, 4, 5, 6, 7], [0, 7])])
def impl_putBlock.B7 : List Nat := [0, 0, 3, 0, 8, 0, 56, 127, 255]
theorem impl_putBlock.tab7 : rtab .any (opsOf Try.f87 7) = impl_putBlock.T7 := by kernel_rfl
theorem impl_putBlock.bits7 : waitsOk impl_putBlock.T7.2 impl_putBlock.B7 = true := by kernel_rfl
def impl_putBlock.T8 : Bool × List (List Nat × List Nat) := (true, [([], []), ([], []), ([1], [1]), ([2], [2]), ([3], [3]), ([0, 4, 3], [0, 4]), ([], []), ([6], [6]), ([5, 7, 5], [5, 7]), ([8, 8, 0, 1, 2, 3, 4, 5, 6, 7, 8], [0, 8])])
def impl_putBlock.B8 : List Nat := [0, 0, 2, 6, 14, 31, 0, 64, 255, 511]
theorem impl_putBlock.tab8 : rtab .any (opsOf Try.f87 8) = impl_putBlock.T8 := by kernel_rfl
theorem impl_putBlock.bits8 : waitsOk impl_putBlock.T8.2 impl_putBlock.B8 = true := by kernel_rfl
set_option maxHeartbeats 8000000 in
set_option maxRecDepth 100000 in
theorem impl_putBlock.calls (k : Nat) (A0 : Option Addr) (c0 : Nat) (l0 : List (S87)) (r : List Int) (w : World) (hr0 : Kd.C k87 w A0 l0.length l0) (hc0 : l0.length ≤ c0) (h : impl_putBlock.f k l0 = some r) :
  Calls Try.prog 87 #[.slice A0 l0.length c0] w fun e w' => ∃ v0_ : Value, e = .returned (v0_) ∧ Kd.R (Kd.int .u8) 5 w' w.heap.size (fun _ => True) v0_ r ∧ Below w.heap.size w w' := by
 have hu87 := Try.underlying87
 have HR0 := mS hr0
 have HC0 := mS hc0
 clear hr0 hc0
 have HB := mS (Below.refl w.heap.size w)
 have H : (impl_putBlock.l0 k ([] : List Int) (⟨#[]⟩ : ByteArray) l0 (l0.length : Int) 0) = some r := h
 clear h
 have H' := mS H
 clear H
 go_enter Try.func87, Try.ntmps87
 go_wp2
 go_loopg [3, 4, 10] k (fun kq v3 v4 v10 w' => ∃ (x3_1 : List Int) (x4_1 : ByteArray) (x10_1 : Int), v4 = .string x4_1 ∧ v10 = .int .i64 x10_1 ∧ Aside0 (impl_putBlock.l0 kq x3_1 x4_1 l0 (l0.length : Int) x10_1 = some r) ∧ Aside0 (kq ≤ k) ∧ Aside0 (Kd.R (Kd.int .u8) 5 w' w.heap.size (fun _ => True) v3 x3_1) ∧ Aside0 (Below w.heap.size w w'))
 case atStart => exact ⟨(([] : List Int)), ((⟨#[]⟩ : ByteArray)), (0), mE, mE, H', ⟨Nat.le_refl _⟩, ⟨by first | exact Kd.R_nil _ _ _ _ _ | exact Kd.N_nil _ _ _ _ _ | exact Kd.V_nil _ _ _ _ _ | exact Kd.Q_nil _ _ _ _ _ | exact Kd.S_nil _ _ _ _ _⟩, ⟨(mH HB.out)⟩⟩
 case round =>
  clear H'
  obtain ⟨x3_1, x4_1, x10_1, rfl, rfl, HA, HK1, HO_3, HB⟩ := hrel
  cases gk with
  | zero => exact absurd HA.out (by simp [impl_putBlock.l0])
  | succ k1 =>
   have H := HA.out
   clear HA
   simp only [impl_putBlock.l0] at H
   by_cases c2 : x10_1 < (l0.length : Int)
   ·rw [if_pos c2] at H
    have c2b0 := decide_eq_true c2
    clear c2
    by_cases c3 : 0 ≤ x10_1
    ·rw [if_pos c3] at H
     have c3b0 := decide_eq_true c3
     clear c3
     by_cases c4 : x10_1 < (l0.length : Int)
     ·rw [if_pos c4] at H
      have c4b0 := decide_eq_true c4
      clear c4
      replace H := Option.bind_eq_some_iff.mp H
      obtain ⟨t506, A50, H⟩ := H
      replace H : ((impl_addNum.f k1 x3_1 t506).bind fun t507 => (if 0 ≤ t506 then (if t506 ≤ (((rd_T87 l0 x10_1).f0).size : Int) then ((impl_addText.f k1 t507 (((rd_T87 l0 x10_1).f0).extract (t506 : Int).toNat ((rd_T87 l0 x10_1).f0).size)).bind fun t510 => ((impl_bit.f ((rd_T87 l0 x10_1).f2)).bind fun t513 => (if t510.length < 140737488355328 then ((impl_addText.f k1 (t510 ++ [t513]) ((rd_T87 l0 x10_1).f1)).bind fun t517 => (impl_putBlock.l0 k1 t517 ((rd_T87 l0 x10_1).f0) l0 (l0.length : Int) (wrap64 (x10_1 + 1)))) else (none)))) else (none)) else (none))) = some r := H
      have A5 := mS A50
      clear A50
      replace H := Option.bind_eq_some_iff.mp H
      obtain ⟨t507, A60, H⟩ := H
      replace H : (if 0 ≤ t506 then (if t506 ≤ (((rd_T87 l0 x10_1).f0).size : Int) then ((impl_addText.f k1 t507 (((rd_T87 l0 x10_1).f0).extract (t506 : Int).toNat ((rd_T87 l0 x10_1).f0).size)).bind fun t510 => ((impl_bit.f ((rd_T87 l0 x10_1).f2)).bind fun t513 => (if t510.length < 140737488355328 then ((impl_addText.f k1 (t510 ++ [t513]) ((rd_T87 l0 x10_1).f1)).bind fun t517 => (impl_putBlock.l0 k1 t517 ((rd_T87 l0 x10_1).f0) l0 (l0.length : Int) (wrap64 (x10_1 + 1)))) else (none)))) else (none)) else (none)) = some r := H
      have A6 := mS A60
      clear A60
      by_cases c7 : 0 ≤ t506
      ·rw [if_pos c7] at H
       have c7b0 := eq_true c7
       have c7b1 := decide_eq_true c7
       clear c7
       by_cases c8 : t506 ≤ (((rd_T87 l0 x10_1).f0).size : Int)
       ·rw [if_pos c8] at H
        have c8b0 := eq_true c8
        have c8b1 := decide_eq_true c8
        clear c8
        replace H := Option.bind_eq_some_iff.mp H
        obtain ⟨t510, A90, H⟩ := H
        replace H : ((impl_bit.f ((rd_T87 l0 x10_1).f2)).bind fun t513 => (if t510.length < 140737488355328 then ((impl_addText.f k1 (t510 ++ [t513]) ((rd_T87 l0 x10_1).f1)).bind fun t517 => (impl_putBlock.l0 k1 t517 ((rd_T87 l0 x10_1).f0) l0 (l0.length : Int) (wrap64 (x10_1 + 1)))) else (none))) = some r := H
        have A9 := mS A90
        clear A90
        replace H := Option.bind_eq_some_iff.mp H
        obtain ⟨t513, A100, H⟩ := H
        replace H : (if t510.length < 140737488355328 then ((impl_addText.f k1 (t510 ++ [t513]) ((rd_T87 l0 x10_1).f1)).bind fun t517 => (impl_putBlock.l0 k1 t517 ((rd_T87 l0 x10_1).f0) l0 (l0.length : Int) (wrap64 (x10_1 + 1)))) else (none)) = some r := H
        have A10 := mS A100
        clear A100
        by_cases c11 : t510.length < 140737488355328
        ·rw [if_pos c11] at H
         have LMc11 := mS c11
         clear c11
         obtain ⟨y514, hy514⟩ : ∃ y_ : List Int, y_ = (t510 ++ [t513]) := ⟨_, rfl⟩
         replace H : ((impl_addText.f k1 y514 ((rd_T87 l0 x10_1).f1)).bind fun t517 => (impl_putBlock.l0 k1 t517 ((rd_T87 l0 x10_1).f0) l0 (l0.length : Int) (wrap64 (x10_1 + 1)))) = some r := by first | (rw [hy514]; with_reducible exact H) | (have H2_ := (Option.bind_some _ _).symm.trans H; rw [hy514]; with_reducible exact H2_) | (have H2_ := (Option.bind_some _ _).symm.trans H; with_reducible exact H2_) | with_reducible exact H | (rw [hy514]; exact H) | exact H
         have Ny514 := mS hy514
         clear hy514
         replace H := Option.bind_eq_some_iff.mp H
         obtain ⟨t517, A120, H⟩ := H
         replace H : (impl_putBlock.l0 k1 t517 ((rd_T87 l0 x10_1).f0) l0 (l0.length : Int) (wrap64 (x10_1 + 1))) = some r := H
         have A12 := mS A120
         clear A120
         have H' := mS H
         clear H
         have p504 : 0 ≤ (x10_1 : Int) := mD
         have q504 : x10_1 < (l0.length : Int) := mD
         obtain ⟨ad504, e504, hx504_0, hx504_1, hx504_2⟩ := at_T87 HR0.out x10_1 p504 q504
         cases e504
         replace hx504_0 := mX HB.out hx504_0
         replace hx504_1 := mX HB.out hx504_1
         replace hx504_2 := mX HB.out hx504_2
         replace p504 := eq_true p504
         replace q504 := eq_true q504
         try go_wp2_with (first | ((with_reducible refine gate_dst (N := 6) rfl ?_); refine mBx 6 #[.string (⟨#[]⟩ : ByteArray), .string (⟨#[]⟩ : ByteArray), .bool false] 87 ?_; intro gb505 hg w13 hbox hb; replace HO_3 := mS (Kd.R_below (mR HO_3.out) hb); have BK505 := mS (hbox); have GW505 := mG hg (mH HB.out); have GE505 := mG hg (mH HB.out); replace HB := mS (below_step (mH HB.out) hb); clear hb hbox hg; obtain ⟨hcz14_0, hcz14_1, hcz14_2, hfz14_0, hfz14_1, hfz14_2⟩ := mZ3 BK505.out) | ((with_reducible refine gate_callee (f := 100) rfl ?_); refine mGo 17 Try.func100 #[.string x4_1, .string ((rd_T87 l0 x10_1).f0)] ?_; (with_reducible refine (impl_common.calls k1 x4_1 ((rd_T87 l0 x10_1).f0) t506 _ A5.out).mono ?_); rintro e w' ⟨rfl, ⟨nd, rfl⟩⟩; refine ⟨_, rfl, ?_⟩))
         generalize hW_ : (((w13.setCell ⟨gb505, 0, none⟩ (.string ((rd_T87 l0 x10_1).f0))).setCell ⟨gb505, 1, none⟩ (.string ((rd_T87 l0 x10_1).f1))).setCell ⟨gb505, 2, none⟩ (.bool ((rd_T87 l0 x10_1).f2))) = w15
         replace HO_3 : Aside0 (Kd.R (Kd.int .u8) 5 w15 w.heap.size (fun _ => True) u3 x3_1) := by rw [← hW_]; exact ⟨by refine mR ?_; exact Kd.R_mono (mRf3 (Kd.R_types HO_3.out BK505.out (by decide))) (fun _ hk => trivial)⟩
         replace BK505 : Aside0 (w15.heap[gb505]? = some (.cells #[.string ((rd_T87 l0 x10_1).f0), .string ((rd_T87 l0 x10_1).f1), .bool ((rd_T87 l0 x10_1).f2)] 87 (0, 0))) := by rw [← hW_]; exact ⟨by refine mK ?_; refine blk_put (cs := #[.string ((rd_T87 l0 x10_1).f0), .string ((rd_T87 l0 x10_1).f1), .bool false]) ?_ 2 _ rfl; refine mK ?_; refine blk_put (cs := #[.string ((rd_T87 l0 x10_1).f0), .string (⟨#[]⟩ : ByteArray), .bool false]) ?_ 1 _ rfl; refine mK ?_; refine blk_put (cs := #[.string (⟨#[]⟩ : ByteArray), .string (⟨#[]⟩ : ByteArray), .bool false]) ?_ 0 _ rfl; refine mK ?_; exact BK505.out⟩
         replace HB : Aside0 (Below w.heap.size w w15) := by rw [← hW_]; exact ⟨(mH1 HB.out GE505.out)⟩
         clear hW_
         (try (rw [drewN_self w15]; generalize hq_ : World.drewN w15 _ = w15; have n0_ : Aside0 (Kd.R (Kd.int .u8) 5 w15 w.heap.size (fun k_ => True) u3 x3_1) := ⟨by rw [← hq_]; exact (mR HO_3.out)⟩; have n1_ : Aside0 (w15.heap[gb505]? = some (.cells #[.string ((rd_T87 l0 x10_1).f0), .string ((rd_T87 l0 x10_1).f1), .bool ((rd_T87 l0 x10_1).f2)] 87 (0, 0))) := ⟨by rw [← hq_]; exact (mK BK505.out)⟩; have n2_ : Aside0 (Below w.heap.size w w15) := ⟨by rw [← hq_]; exact (mH1 HB.out GE505.out)⟩; clear HO_3 BK505 HB hq_; have HO_3 := n0_; have BK505 := n1_; have HB := n2_; clear n0_ n1_ n2_))
         replace HO_3 := mS (Kd.R_drew HO_3.out)
         replace BK505 := mS (blk_drew BK505.out)
         replace HB := mS (below_drew1 HB.out)
         obtain ⟨Ao17, co17, eo17⟩ := Kd.R_slice HO_3.out
         (first | subst eo17 | (injection eo17 with f1_ f2_ f3_; have f4_ := f1_.symm; have f5_ := f3_.symm; clear f1_ f2_ f3_; subst f4_; subst f5_))
         refine start_ (n := 9) (S := fun w' => w'.cell? ⟨gb505, 0, none⟩ = some (.string ((rd_T87 l0 x10_1).f0)) ∧ w'.cell? ⟨gb505, 1, none⟩ = some (.string ((rd_T87 l0 x10_1).f1)) ∧ w'.cell? ⟨gb505, 2, none⟩ = some (.bool ((rd_T87 l0 x10_1).f2))) (ds := []) (mb 0 9) (by kernel_rfl) rfl rfl (mc3 BK505.out) (fun hHeld => ?_); refine with_tabW impl_putBlock.tab7 impl_putBlock.bits7 (fun HT_ HW_ => ?_)
         generalize w15.drew = w16 at HO_3 BK505 HB hHeld ⊢
         refine mpu 0 18 HT_.out (mb 1 8) ?_
         refine mpu 1 19 HT_.out (mb 2 7) ?_
         refine mpu 3 21 HT_.out (mr [2,1,1,5]) ?_
         refine mpu 5 23 HT_.out (mr [2,1,1,1,1,3]) ?_
         refine mpt 4 22 HT_.out HW_.out (mr [2,1,3,3]) hHeld ?_
         refine mpu 6 24 HT_.out (mr [2,1,4,2]) ?_
         refine mone 2 (some 20) HT_.out (mb 7 2) (fun K hK => ?_)
         refine goes_ Try.func85 (by kernel_rfl) rfl #[.slice Ao17 x3_1.length co17, .int .i64 t506] (by rfl) rfl rfl mA ?_
         with_reducible refine (impl_addNum.calls k1 (fun k_ => some k_ = (.slice Ao17 x3_1.length co17 : Value).ownBlock) (.slice Ao17 x3_1.length co17) x3_1 t506 t507 w _ ?side1 ?side2 A6.out).mono ?_
         (case side1 => exact mH1 HB.out GE505.out)
         (case side2 => exact Kd.R_tight rfl HO_3.out)
         rintro e w18 ⟨v508, rfl, ho0, hb, hkp⟩
         refine ⟨_, rfl, ?_⟩
         replace BK505 := mS (blk_kept (mK BK505.out) hkp (fun hs_ => (fun e_ => (Kd.R_ne HO_3.out BK505.out (by decide)) e_) hs_))
         have HO509 := mS (Kd.R_mono (ok' := fun k_ => True) ho0 (fun k_ hk_ => trivial))
         replace HB := mS (hb)
         clear HO_3
         (try clear hb)
         (try clear hkp)
         (try clear ho0)
         obtain ⟨Ao19, co19, eo19⟩ := Kd.R_slice HO509.out
         (first | subst eo19 | (injection eo19 with f1_ f2_ f3_; have f4_ := f1_.symm; have f5_ := f3_.symm; clear f1_ f2_ f3_; subst f4_; subst f5_))
         refine hK.out _ _ (mc3 BK505.out) (fun hHeld => ?_)
         clear hK K
         refine mno 20 ?_
         refine mone 7 (some 25) HT_.out (mb 8 1) (fun K hK => ?_)
         refine goes_ Try.func86 (by kernel_rfl) rfl #[.slice Ao19 t507.length co19, .string (((rd_T87 l0 x10_1).f0).extract (t506 : Int).toNat ((rd_T87 l0 x10_1).f0).size)] (by rfl) rfl rfl mA ?_
         with_reducible refine (impl_addText.calls k1 (fun k_ => some k_ = (.slice Ao19 t507.length co19 : Value).ownBlock) (.slice Ao19 t507.length co19) t507 (((rd_T87 l0 x10_1).f0).extract (t506 : Int).toNat ((rd_T87 l0 x10_1).f0).size) t510 w _ ?side1 ?side2 A9.out).mono ?_
         (case side1 => exact mH1 HB.out GE505.out)
         (case side2 => exact Kd.R_tight rfl HO509.out)
         rintro e w20 ⟨v511, rfl, ho0, hb, hkp⟩
         refine ⟨_, rfl, ?_⟩
         replace BK505 := mS (blk_kept (mK BK505.out) hkp (fun hs_ => (fun e_ => (Kd.R_ne HO509.out BK505.out (by decide)) e_) hs_))
         have HO512 := mS (Kd.R_mono (ok' := fun k_ => True) ho0 (fun k_ hk_ => trivial))
         replace HB := mS (hb)
         clear HO509
         (try clear hb)
         (try clear hkp)
         (try clear ho0)
         refine hK.out _ _ (mc3 BK505.out) (fun hHeld => ?_)
         clear hK K
         refine mno 25 ?_
         refine mpu 8 3 HT_.out (mb 9 0) ?_
         refine done_ (done_of HT_.out (by kernel_rfl)) ?_
         try go_wp2
         replace HO512 := mS (Kd.R_drew HO512.out)
         replace BK505 := mS (blk_drew BK505.out)
         replace HB := mS (below_drew1 HB.out)
         refine start_ (n := 10) (S := fun w' => w'.cell? ⟨gb505, 0, none⟩ = some (.string ((rd_T87 l0 x10_1).f0)) ∧ w'.cell? ⟨gb505, 1, none⟩ = some (.string ((rd_T87 l0 x10_1).f1)) ∧ w'.cell? ⟨gb505, 2, none⟩ = some (.bool ((rd_T87 l0 x10_1).f2))) (ds := []) (mb 0 10) (by kernel_rfl) rfl rfl (mc3 BK505.out) (fun hHeld => ?_); refine with_tabW impl_putBlock.tab8 impl_putBlock.bits8 (fun HT_ HW_ => ?_)
         generalize w20.drew = w21 at HO512 BK505 HB hHeld ⊢
         refine mpu 0 26 HT_.out (mb 1 9) ?_
         refine mpu 1 27 HT_.out (mb 2 8) ?_
         refine mpu 6 32 HT_.out (mr [2,4,1,3]) ?_
         refine mpt 2 28 HT_.out HW_.out (mr [3,3,1,3]) hHeld ?_
         refine mpt 7 33 HT_.out HW_.out (mr [3,3,2,2]) hHeld ?_
         refine mone 3 (some 29) HT_.out (mr [4,2,2,2]) (fun K hK => ?_)
         refine goes_ Try.func101 (by kernel_rfl) rfl #[.bool ((rd_T87 l0 x10_1).f2)] (by rfl) rfl rfl mA ?_
         with_reducible refine (impl_bit.calls ((rd_T87 l0 x10_1).f2) t513 _ A10.out).mono ?_
         rintro e w' ⟨rfl, ⟨nd, rfl⟩⟩
         refine ⟨_, rfl, ?_⟩
         refine hK.out _ _ (mc3 BK505.out) (fun hHeld => ?_)
         clear hK K
         refine mno 29 ?_
         refine mone 4 (some 30) HT_.out (mr [5,1,2,2]) (fun K hK => ?_)
         refine value_ (w1 := ?_) (v := ?_) (by rfl) rfl ?_ ?_
         rotate_left 2
         ·go_simp
          constructor
          ·rfl
          ·rfl
         refine hK.out _ _ ⟨(blk_cell (blk_alloc BK505.out _) 0).trans rfl, (blk_cell (blk_alloc BK505.out _) 1).trans rfl, (blk_cell (blk_alloc BK505.out _) 2).trans rfl⟩ (fun hHeld => ?_)
         clear hK K
         refine mno 30 ?_
         refine mone 5 (some 31) HT_.out (mb 8 2) (fun K hK => ?_)
         refine Kd.R_append_step (Kd.int .u8) (w0 := w) w.heap.size (by rfl) (.tmp 26) (.tmp 30) 22 5 (.int .u8 0) 1 rfl Try.underlying22 info5 rfl (by decide) (by omega) v511 t510 t513 [.int .u8 t513] (fun _ => True) (fun _ => False) rfl rfl ?aP (fun _ hk => hk.elim) ?aF ?aO ?aB ?aS ?aL ?_
         (case aP => exact rfl)
         (case aB => exact (mH1 HB.out GE505.out))
         (case aF => exact (fun _ _ => trivial))
         (case aO => exact (mR HO512.out))
         (case aS => exact (below_size (mH1 HB.out GE505.out)))
         (case aL => have := LMc11.out; omega)
         intro v515 w22 ho hb hg hat
         rw [← Ny514.out] at ho
         replace BK505 := mS (blk_grown (g := gb505) (o := .cells #[.string ((rd_T87 l0 x10_1).f0), .string ((rd_T87 l0 x10_1).f1), .bool ((rd_T87 l0 x10_1).f2)] 87 (0, 0)) (mK BK505.out) hg (Kd.R_ne HO512.out BK505.out (by decide)))
         replace HB := mS (hb)
         have HO516 := mS (ho)
         clear HO512
         clear ho hb hg hat
         obtain ⟨Ao23, co23, eo23⟩ := Kd.R_slice HO516.out
         (first | subst eo23 | (injection eo23 with f1_ f2_ f3_; have f4_ := f1_.symm; have f5_ := f3_.symm; clear f1_ f2_ f3_; subst f4_; subst f5_))
         refine hK.out _ _ (mc3 BK505.out) (fun hHeld => ?_)
         clear hK K
         refine mno 31 ?_
         refine mone 8 (some 34) HT_.out (mb 9 1) (fun K hK => ?_)
         refine goes_ Try.func86 (by kernel_rfl) rfl #[.slice Ao23 y514.length co23, .string ((rd_T87 l0 x10_1).f1)] (by rfl) rfl rfl mA ?_
         with_reducible refine (impl_addText.calls k1 (fun k_ => some k_ = (.slice Ao23 y514.length co23 : Value).ownBlock) (.slice Ao23 y514.length co23) y514 ((rd_T87 l0 x10_1).f1) t517 w _ ?side1 ?side2 A12.out).mono ?_
         (case side1 => exact mH1 HB.out GE505.out)
         (case side2 => exact Kd.R_tight rfl HO516.out)
         rintro e w24 ⟨v518, rfl, ho0, hb, hkp⟩
         refine ⟨_, rfl, ?_⟩
         replace BK505 := mS (blk_kept (mK BK505.out) hkp (fun hs_ => (fun e_ => (Kd.R_ne HO516.out BK505.out (by decide)) e_) hs_))
         have HO519 := mS (Kd.R_mono (ok' := fun k_ => True) ho0 (fun k_ hk_ => trivial))
         replace HB := mS (hb)
         clear HO516
         (try clear hb)
         (try clear hkp)
         (try clear ho0)
         refine hK.out _ _ (mc3 BK505.out) (fun hHeld => ?_)
         clear hK K
         refine mno 34 ?_
         refine mpu 9 3 HT_.out (mb 10 0) ?_
         refine done_ (done_of HT_.out (by kernel_rfl)) ?_
         obtain ⟨hcz25_0, hcz25_1, hcz25_2, hfz25_0, hfz25_1, hfz25_2⟩ := mZ3 BK505.out
         try go_wp2
         go_roundg k1
         case measure => have := HK1.out; omega
         case rel => exact ⟨(t517), ((rd_T87 l0 x10_1).f0), (wrap64 (x10_1 + 1)), mE, mE, H', ⟨by have := HK1.out; omega⟩, ⟨mR HO519.out⟩, ⟨(mH1 HB.out GE505.out)⟩⟩
        ·rw [if_neg c11] at H
         exact absurd H (by simp)
       ·rw [if_neg c8] at H
        exact absurd H (by simp)
      ·rw [if_neg c7] at H
       exact absurd H (by simp)
     ·rw [if_neg c4] at H
      exact absurd H (by simp)
    ·rw [if_neg c3] at H
     exact absurd H (by simp)
   ·rw [if_neg c2] at H
    have c2b0 := decide_eq_false c2
    clear c2
    replace H := Option.bind_eq_some_iff.mp H
    obtain ⟨t501, A260, H⟩ := H
    replace H : (some t501) = some r := H
    have A26 := mS A260
    clear A260
    obtain rfl := Option.some.inj H
    obtain ⟨Ao27, co27, eo27⟩ := Kd.R_slice HO_3.out
    subst eo27
    go_wp2_with (first | ((with_reducible refine gate_callee (f := 89) rfl ?_); refine mGo 39 Try.func89 #[.slice Ao27 x3_1.length co27] ?_; (with_reducible refine (impl_Frame.calls k1 _ _ x3_1 t501 _ ?side1 ?side2 A26.out).mono ?_); (case side1 => exact mC (Kd.R_reads' HO_3.out).2.2); (case side2 => exact (Kd.R_reads' HO_3.out).2.1); rintro e w28 ⟨v502, rfl, ho0, hb⟩; refine ⟨_, rfl, ?_⟩; have HO503 := mS (Kd.R_lower (Kd.R_new' ho0 (Kd.R_lt (mR HO_3.out))) (below_size (mH HB.out))); replace HO_3 := mS (Kd.R_elder' (mR HO_3.out) (Kd.R_base ho0) hb); replace HB := mS (below_step (mH HB.out) hb); (try clear hb); (try clear ho0)))
    go_ret
    exact ⟨_, mEw, by refine mR ?_; exact Kd.R_mono HO503.out (fun _ hk => trivial), (mH HB.out)⟩

/-! ### impl_Mark: function 102 -/
def impl_Mark.f (k : Nat) (a0 : ByteArray) : Option (Int × Int) := if a0.size ≤ 9223372036854775807 then ((impl_Sum.f k (bytesOf a0)).bind fun t => (some (Int.tmod t 64, Int.tmod (wrap64 (Int.tdiv t 64)) 64))) else none
theorem impl_Mark.mono : ∀ a0 k, LeO (impl_Mark.f k a0) (impl_Mark.f (k + 1) a0) := by
 intro a0 k
 unfold impl_Mark.f
 exact LeO.ite (LeO.bind (impl_Sum.mono _ _) (fun _ => LeO.refl _)) (LeO.none _)
set_option maxHeartbeats 8000000 in
set_option maxRecDepth 100000 in
theorem impl_Mark.calls (k : Nat) (a0 : ByteArray) (r1 : Int) (r2 : Int) (w : World) (h : impl_Mark.f k a0 = some (r1, r2)) :
  Calls Try.prog 102 #[.string a0] w fun e w' => e = .returned (.tuple #[.int .i64 r1, .int .i64 r2]) ∧ Below w.heap.size w w' := by
 unfold impl_Mark.f at h
 by_cases hs : a0.size ≤ 9223372036854775807
 ·rw [if_pos hs] at h
  obtain ⟨t, ht, h⟩ := Option.bind_eq_some_iff.mp h
  simp only [Option.some.injEq, Prod.mk.injEq] at h
  obtain ⟨rfl, rfl⟩ := h
  have HT := mS ht
  clear ht
  have hcv : ∀ W : World, (convert 9 22 (.string a0)).run Try.prog W = .ok (.slice (some ⟨W.heap.size, 0, none⟩) (bytesOf a0).length (grownCap W a0.size 0 5)) (Lib.bytesWorld W 5 a0) := fun W => by
   rw [bytesOf_length]
   exact print_bytes 9 22 5 Try.underlying9 Try.underlying22 Try.underlying5 a0 W
  have HS := mS hs
  clear hs
  have HR := mS (show (Kd.int .u8).C (Lib.bytesWorld w 5 a0) (some ⟨w.heap.size, 0, none⟩) (bytesOf a0).length (bytesOf a0) from by
   have hr := bytes_reads w 5 a0 HS.out
   rw [← bytesOf_length] at hr
   exact Kd.C_of_reads (d := (0 : Int)) (h1 := fun _ => rfl) hr)
  have HC := mS (show (bytesOf a0).length ≤ grownCap w a0.size 0 5 from by rw [bytesOf_length]; exact grownCap_ge w a0.size 0 5)
  go_enter Try.func102, Try.ntmps102
  go_wp2_with fail
  refine (impl_Sum.calls k _ _ (bytesOf a0) t _ HR.out HC.out HT.out).mono ?_
  rintro e w' ⟨rfl, ⟨nd, rfl⟩⟩
  go_wp2
  go_ret2
  exact ⟨rfl, pw_below_drewN (bytes_below (Below.refl _ _) (Nat.le_refl _) 5 a0) nd⟩
 ·rw [if_neg hs] at h
  cases h

end Go.Proofs.Ytecjamgajlpfdaa.MFnExactTablePairs
