-- Written by mp.py, this session's own printer (wip/mp.py).
import Derived.Test.YtecjamgajlpfdaaVMShort
import Derived.Test.YtecjamgajlpfdaaMFnExactTablePairsx0
import Derived.Test.YtecjamgajlpfdaaMFnExactTablePairsx6
namespace Go.Proofs.Ytecjamgajlpfdaa.MFnExactTablePairs
open Go.RowKit Go.Proofs.YtecjamgajlpfdaaW.PrintWords Go.Proofs.YtecjamgajlpfdaaW.PrintLast Go.Proofs.YtecjamgajlpfdaaW.PrintMore Go.Proofs.Ytecjamgajlpfdaa.MWords
attribute [local go_sem] max2_int min2_int max_two min_two max_three min_three max_four min_four   -- for this text's walks alone
set_option linter.unusedVariables false
set_option linter.unusedSimpArgs false

/-! ### spec_l5Block: function 77 -/
def spec_l5Block.l0 : Nat → List (S87) → List Int → ByteArray → Int → Option (List Int)
 | 0, _, _, _, _ => none
 | k + 1, x0, x3, x4, x5 => if x5 < (x0.length : Int) then (if 0 ≤ x5 then ((spec_l5Common.f k x4 ((rd_T87 x0 x5).f0)).bind fun t260 => ((spec_PutNum.f k x3 t260).bind fun t261 => (if 0 ≤ t260 then (if t260 ≤ (((rd_T87 x0 x5).f0).size : Int) then ((spec_PutText.f k t261 (((rd_T87 x0 x5).f0).extract (t260 : Int).toNat ((rd_T87 x0 x5).f0).size)).bind fun t265 => (if (rd_T87 x0 x5).f2 = true then (if t265.length < 140737488355328 then ((spec_PutText.f k (t265 ++ [1]) ((rd_T87 x0 x5).f1)).bind fun t273 => (spec_l5Block.l0 k x0 t273 ((rd_T87 x0 x5).f0) (wrap64 (x5 + 1)))) else (none)) else (if t265.length < 140737488355328 then ((spec_PutText.f k (t265 ++ [0]) ((rd_T87 x0 x5).f1)).bind fun t281 => (spec_l5Block.l0 k x0 t281 ((rd_T87 x0 x5).f0) (wrap64 (x5 + 1)))) else (none)))) else (none)) else (none)))) else (none)) else ((spec_Frame.f k x3).bind fun t256 => (some t256))
def spec_l5Block.f (k : Nat) (l0 : List (S87)) : Option (List Int) := spec_l5Block.l0 k l0 (([] : List Int)) (⟨#[]⟩ : ByteArray) 0
theorem spec_l5Block.mono_l : ∀ k, (∀ y0 y1 y2 y3, LeO (spec_l5Block.l0 k y0 y1 y2 y3) (spec_l5Block.l0 (k + 1) y0 y1 y2 y3))
 | 0 => fun _ _ _ _ r h => by simp [spec_l5Block.l0] at h
 | k + 1 => by
  have ih0 := spec_l5Block.mono_l k
  ·intro y0 y1 y2 y3
   unfold spec_l5Block.l0
   repeat' first
   | (with_reducible exact ih0 _ _ _ _)
   | (with_reducible exact spec_Frame.mono _ _)
   | (with_reducible exact spec_PutNum.mono _ _ _)
   | (with_reducible exact spec_PutText.mono _ _ _)
   | (with_reducible exact spec_l5Common.mono _ _ _)
   | (with_reducible exact LeO.refl _)
   | (with_reducible exact LeO.none _)
   | (with_reducible refine LeO.ite ?_ ?_)
   | (with_reducible refine LeO.bind ?_ (fun _ => ?_))
   | exact ih0 _ _ _ _
   | exact spec_Frame.mono _ _
   | exact spec_PutNum.mono _ _ _
   | exact spec_PutText.mono _ _ _
   | exact spec_l5Common.mono _ _ _
   | exact LeO.none _
   | refine LeO.ite ?_ ?_
   | refine LeO.bind ?_ (fun _ => ?_)
theorem spec_l5Block.mono : ∀ a0 k, LeO (spec_l5Block.f k a0) (spec_l5Block.f (k + 1) a0) := by
 intro a0 k
 have ih0 := spec_l5Block.mono_l k
 unfold spec_l5Block.f
 repeat' first
   | (with_reducible exact ih0 _ _ _ _)
   | (with_reducible exact spec_Frame.mono _ _)
   | (with_reducible exact spec_PutNum.mono _ _ _)
   | (with_reducible exact spec_PutText.mono _ _ _)
   | (with_reducible exact spec_l5Common.mono _ _ _)
   | (with_reducible exact LeO.refl _)
   | (with_reducible exact LeO.none _)
   | (with_reducible refine LeO.ite ?_ ?_)
   | (with_reducible refine LeO.bind ?_ (fun _ => ?_))
   | exact ih0 _ _ _ _
   | exact spec_Frame.mono _ _
   | exact spec_PutNum.mono _ _ _
   | exact spec_PutText.mono _ _ _
   | exact spec_l5Common.mono _ _ _
   | exact LeO.none _
   | refine LeO.ite ?_ ?_
   | refine LeO.bind ?_ (fun _ => ?_)
def spec_l5Block.T7 : Bool × List (List Nat × List Nat) := (true, [([], []), ([], []), ([0, 1], [0, 1]), ([], []), ([], []), ([3, 4], [3, 4]), ([5], [5]), ([6], [6]), ([], []), ([7, 8], [7, 8]), ([2, 9, 2], [2, 9]), ([10, 10, 0, 1, 2, 3, 4, 5, 6, 7, 8, 9, 10], [0, 10])])
def spec_l5Block.B7 : List Nat := [0, 0, 3, 0, 0, 24, 56, 120, 0, 504, 1023, 2047]
theorem spec_l5Block.tab7 : rtab .any (opsOf Try.f77 7) = spec_l5Block.T7 := by kernel_rfl
theorem spec_l5Block.bits7 : waitsOk spec_l5Block.T7.2 spec_l5Block.B7 = true := by kernel_rfl
def spec_l5Block.T11 : Bool × List (List Nat × List Nat) := (true, [([], []), ([], []), ([1], [1]), ([0, 2], [0, 2]), ([], []), ([], []), ([4, 5], [4, 5]), ([6], [6]), ([7], [7]), ([3, 8, 3], [3, 8]), ([9, 9, 0, 1, 2, 3, 4, 5, 6, 7, 8, 9], [0, 9])])
def spec_l5Block.B11 : List Nat := [0, 0, 2, 7, 0, 0, 48, 112, 240, 511, 1023]
theorem spec_l5Block.tab11 : rtab .any (opsOf Try.f77 11) = spec_l5Block.T11 := by kernel_rfl
theorem spec_l5Block.bits11 : waitsOk spec_l5Block.T11.2 spec_l5Block.B11 = true := by kernel_rfl
set_option maxHeartbeats 8000000 in
set_option maxRecDepth 100000 in
theorem spec_l5Block.calls (k : Nat) (A0 : Option Addr) (c0 : Nat) (l0 : List (S87)) (r : List Int) (w : World) (hr0 : Kd.C k87 w A0 l0.length l0) (hc0 : l0.length ≤ c0) (h : spec_l5Block.f k l0 = some r) :
  Calls Try.prog 77 #[.slice A0 l0.length c0] w fun e w' => ∃ v0_ : Value, e = .returned (v0_) ∧ Kd.R (Kd.int .u8) 5 w' w.heap.size (fun _ => True) v0_ r ∧ Below w.heap.size w w' := by
 have HR0 := mS hr0
 have HC0 := mS hc0
 clear hr0 hc0
 have HB := mS (Below.refl w.heap.size w)
 have H : (spec_l5Block.l0 k l0 (([] : List Int)) (⟨#[]⟩ : ByteArray) 0) = some r := h
 clear h
 obtain ⟨y253, hy253⟩ : ∃ y_ : List Int, y_ = (([] : List Int)) := ⟨_, rfl⟩
 replace H : (spec_l5Block.l0 k l0 y253 (⟨#[]⟩ : ByteArray) 0) = some r := by first | (rw [hy253]; with_reducible exact H) | (have H2_ := (Option.bind_some _ _).symm.trans H; rw [hy253]; with_reducible exact H2_) | (have H2_ := (Option.bind_some _ _).symm.trans H; with_reducible exact H2_) | with_reducible exact H | (rw [hy253]; exact H) | exact H
 have Ny253 := mS hy253
 clear hy253
 have H' := mS H
 clear H
 go_enter Try.func77, Try.ntmps77
 go_wp2_with (first | ((with_reducible refine gate_dst (N := 8) rfl ?_); refine Kd.R_lit (Kd.int .u8) _ 5 ?hg (N := 8) ?hd (xs := ([] : List Int)) (inner := []) (ok := fun _ => True) (okp := fun _ => True) ?hr ?hp (fun _ hk => hk) trivial (Below.refl _ _) (Nat.le_refl _) (by simp) ?_; (case hd => rfl); (case hg => rfl); (case hr => first | (go_simp; done) | (go_simp; rfl)); (case hp => exact (Reps.none _ _)); intro v254 w2 ho3 hb hg_ hnew_; clear hg_ hnew_; (first | rw [← Ny253.out] at ho3 | (simp only [Int.reduceToNat] at ho3; rw [← Ny253.out] at ho3)); have HO255 := mS (Kd.R_lower ho3 (below_size (mH HB.out))); replace HB := mS (below_step (mH HB.out) hb); clear hb ho3))
 go_loopg [3, 4, 5] k (fun kq v3 v4 v5 w' => ∃ (x3_1 : List Int) (x4_1 : ByteArray) (x5_1 : Int), v4 = .string x4_1 ∧ v5 = .int .i64 x5_1 ∧ Aside0 (spec_l5Block.l0 kq l0 x3_1 x4_1 x5_1 = some r) ∧ Aside0 (kq ≤ k) ∧ Aside0 (Kd.R (Kd.int .u8) 5 w' w.heap.size (fun _ => True) v3 x3_1) ∧ Aside0 (Below w.heap.size w w'))
 case atStart => exact ⟨(y253), ((⟨#[]⟩ : ByteArray)), (0), mE, mE, H', ⟨Nat.le_refl _⟩, ⟨mR HO255.out⟩, ⟨(mH HB.out)⟩⟩
 case round =>
  clear H'
  try clear p2
  obtain ⟨x3_1, x4_1, x5_1, rfl, rfl, HA, HK1, HO_3, HB⟩ := hrel
  cases gk with
  | zero => exact absurd HA.out (by simp [spec_l5Block.l0])
  | succ k1 =>
   have H := HA.out
   clear HA
   simp only [spec_l5Block.l0] at H
   by_cases c4 : x5_1 < (l0.length : Int)
   ·rw [if_pos c4] at H
    have c4b0 := decide_eq_true c4
    clear c4
    by_cases c5 : 0 ≤ x5_1
    ·rw [if_pos c5] at H
     have c5b0 := decide_eq_true c5
     clear c5
     replace H := Option.bind_eq_some_iff.mp H
     obtain ⟨t260, A60, H⟩ := H
     replace H : ((spec_PutNum.f k1 x3_1 t260).bind fun t261 => (if 0 ≤ t260 then (if t260 ≤ (((rd_T87 l0 x5_1).f0).size : Int) then ((spec_PutText.f k1 t261 (((rd_T87 l0 x5_1).f0).extract (t260 : Int).toNat ((rd_T87 l0 x5_1).f0).size)).bind fun t265 => (if (rd_T87 l0 x5_1).f2 = true then (if t265.length < 140737488355328 then ((spec_PutText.f k1 (t265 ++ [1]) ((rd_T87 l0 x5_1).f1)).bind fun t273 => (spec_l5Block.l0 k1 l0 t273 ((rd_T87 l0 x5_1).f0) (wrap64 (x5_1 + 1)))) else (none)) else (if t265.length < 140737488355328 then ((spec_PutText.f k1 (t265 ++ [0]) ((rd_T87 l0 x5_1).f1)).bind fun t281 => (spec_l5Block.l0 k1 l0 t281 ((rd_T87 l0 x5_1).f0) (wrap64 (x5_1 + 1)))) else (none)))) else (none)) else (none))) = some r := H
     have A6 := mS A60
     clear A60
     replace H := Option.bind_eq_some_iff.mp H
     obtain ⟨t261, A70, H⟩ := H
     replace H : (if 0 ≤ t260 then (if t260 ≤ (((rd_T87 l0 x5_1).f0).size : Int) then ((spec_PutText.f k1 t261 (((rd_T87 l0 x5_1).f0).extract (t260 : Int).toNat ((rd_T87 l0 x5_1).f0).size)).bind fun t265 => (if (rd_T87 l0 x5_1).f2 = true then (if t265.length < 140737488355328 then ((spec_PutText.f k1 (t265 ++ [1]) ((rd_T87 l0 x5_1).f1)).bind fun t273 => (spec_l5Block.l0 k1 l0 t273 ((rd_T87 l0 x5_1).f0) (wrap64 (x5_1 + 1)))) else (none)) else (if t265.length < 140737488355328 then ((spec_PutText.f k1 (t265 ++ [0]) ((rd_T87 l0 x5_1).f1)).bind fun t281 => (spec_l5Block.l0 k1 l0 t281 ((rd_T87 l0 x5_1).f0) (wrap64 (x5_1 + 1)))) else (none)))) else (none)) else (none)) = some r := H
     have A7 := mS A70
     clear A70
     by_cases c8 : 0 ≤ t260
     ·rw [if_pos c8] at H
      have c8b0 := eq_true c8
      have c8b1 := decide_eq_true c8
      clear c8
      by_cases c9 : t260 ≤ (((rd_T87 l0 x5_1).f0).size : Int)
      ·rw [if_pos c9] at H
       have c9b0 := eq_true c9
       have c9b1 := decide_eq_true c9
       clear c9
       replace H := Option.bind_eq_some_iff.mp H
       obtain ⟨t265, A100, H⟩ := H
       replace H : (if (rd_T87 l0 x5_1).f2 = true then (if t265.length < 140737488355328 then ((spec_PutText.f k1 (t265 ++ [1]) ((rd_T87 l0 x5_1).f1)).bind fun t273 => (spec_l5Block.l0 k1 l0 t273 ((rd_T87 l0 x5_1).f0) (wrap64 (x5_1 + 1)))) else (none)) else (if t265.length < 140737488355328 then ((spec_PutText.f k1 (t265 ++ [0]) ((rd_T87 l0 x5_1).f1)).bind fun t281 => (spec_l5Block.l0 k1 l0 t281 ((rd_T87 l0 x5_1).f0) (wrap64 (x5_1 + 1)))) else (none))) = some r := H
       have A10 := mS A100
       clear A100
       obtain ⟨bq11, hbq11⟩ : ∃ b_ : Bool, b_ = ((rd_T87 l0 x5_1).f2) := ⟨_, rfl⟩
       replace H : (if bq11 = true then (if t265.length < 140737488355328 then ((spec_PutText.f k1 (t265 ++ [1]) ((rd_T87 l0 x5_1).f1)).bind fun t273 => (spec_l5Block.l0 k1 l0 t273 ((rd_T87 l0 x5_1).f0) (wrap64 (x5_1 + 1)))) else (none)) else (if t265.length < 140737488355328 then ((spec_PutText.f k1 (t265 ++ [0]) ((rd_T87 l0 x5_1).f1)).bind fun t281 => (spec_l5Block.l0 k1 l0 t281 ((rd_T87 l0 x5_1).f0) (wrap64 (x5_1 + 1)))) else (none))) = some r := by rw [← hbq11] at H; exact H
       have Nbq11 := mS hbq11
       clear hbq11
       by_cases c12 : bq11 = true
       ·subst c12
        have H1 := H
        rw [if_pos rfl] at H1
        clear H
        have H := H1
        clear H1
        by_cases c13 : t265.length < 140737488355328
        ·rw [if_pos c13] at H
         have LMc13 := mS c13
         clear c13
         obtain ⟨y269, hy269⟩ : ∃ y_ : List Int, y_ = (t265 ++ [1]) := ⟨_, rfl⟩
         replace H : ((spec_PutText.f k1 y269 ((rd_T87 l0 x5_1).f1)).bind fun t273 => (spec_l5Block.l0 k1 l0 t273 ((rd_T87 l0 x5_1).f0) (wrap64 (x5_1 + 1)))) = some r := by first | (rw [hy269]; with_reducible exact H) | (have H2_ := (Option.bind_some _ _).symm.trans H; rw [hy269]; with_reducible exact H2_) | (have H2_ := (Option.bind_some _ _).symm.trans H; with_reducible exact H2_) | with_reducible exact H | (rw [hy269]; exact H) | exact H
         have Ny269 := mS hy269
         clear hy269
         replace H := Option.bind_eq_some_iff.mp H
         obtain ⟨t273, A140, H⟩ := H
         replace H : (spec_l5Block.l0 k1 l0 t273 ((rd_T87 l0 x5_1).f0) (wrap64 (x5_1 + 1))) = some r := H
         have A14 := mS A140
         clear A140
         have H' := mS H
         clear H
         have p259 : 0 ≤ (x5_1 : Int) := mD
         have q259 : x5_1 < (l0.length : Int) := mD
         obtain ⟨ad259, e259, hx259_0, hx259_1, hx259_2⟩ := at_T87 HR0.out x5_1 p259 q259
         (try rw [← Nbq11.out] at hx259_2); (try rw [← Nbq11.out] at hw259_2)
         cases e259
         replace hx259_0 := mX HB.out hx259_0
         replace hx259_1 := mX HB.out hx259_1
         replace hx259_2 := mX HB.out hx259_2
         replace p259 := eq_true p259
         replace q259 := eq_true q259
         try go_wp2_with (first | ((with_reducible refine gate_callee (f := 96) rfl ?_); refine mGo 21 Try.func96 #[.string x4_1, .string ((rd_T87 l0 x5_1).f0)] ?_; (with_reducible refine (spec_l5Common.calls k1 x4_1 ((rd_T87 l0 x5_1).f0) t260 _ A6.out).mono ?_); rintro e w' ⟨rfl, ⟨nd, rfl⟩⟩; refine ⟨_, rfl, ?_⟩))
         (try (rw [drewN_self wr]; generalize hq_ : World.drewN wr _ = wr; have n0_ : Aside0 (Kd.R (Kd.int .u8) 5 wr w.heap.size (fun k_ => True) u3 x3_1) := ⟨by rw [← hq_]; exact (mR HO_3.out)⟩; have n1_ : Aside0 (Below w.heap.size w wr) := ⟨by rw [← hq_]; exact (mH HB.out)⟩; clear HO_3 HB hq_; have HO_3 := n0_; have HB := n1_; clear n0_ n1_))
         replace HO_3 := mS (Kd.R_drew HO_3.out)
         replace HB := mS (below_drew1 HB.out)
         have p264 : 0 ≤ (x5_1 : Int) := mD
         have q264 : x5_1 < (l0.length : Int) := mD
         obtain ⟨ad264, e264, hx264_0, hx264_1, hx264_2⟩ := at_T87 HR0.out x5_1 p264 q264
         have hw264_2 := hx264_2
         have hw264_1 := hx264_1
         have hw264_0 := hx264_0
         (try rw [← Nbq11.out] at hx264_2); (try rw [← Nbq11.out] at hw264_2)
         obtain rfl : ad259 = ad264 := (by injection e264)
         replace hx264_0 := mX HB.out hx264_0
         replace hx264_1 := mX HB.out hx264_1
         replace hx264_2 := mX HB.out hx264_2
         replace p264 := eq_true p264
         replace q264 := eq_true q264
         obtain ⟨Ao16, co16, eo16⟩ := Kd.R_slice HO_3.out
         (first | subst eo16 | (injection eo16 with f1_ f2_ f3_; have f4_ := f1_.symm; have f5_ := f3_.symm; clear f1_ f2_ f3_; subst f4_; subst f5_))
         refine start_ (n := 12) (S := fun w' => w'.cell? (ad259.add ((x5_1).toNat * 3)) = some (.string ((rd_T87 l0 x5_1).f0)) ∧ w'.cell? ⟨(ad259.add ((x5_1).toNat * 3)).block, (ad259.add ((x5_1).toNat * 3)).off + 1, none⟩ = some (.string ((rd_T87 l0 x5_1).f1)) ∧ w'.cell? ⟨(ad259.add ((x5_1).toNat * 3)).block, (ad259.add ((x5_1).toNat * 3)).off + 2, none⟩ = some (.bool true)) (ds := []) (mb 0 12) (by kernel_rfl) rfl rfl ⟨(mX HB.out hw264_0 :), (mX HB.out hw264_1 :), (mX HB.out hw264_2 :)⟩ (fun hHeld => ?_); refine with_tabW spec_l5Block.tab7 spec_l5Block.bits7 (fun HT_ HW_ => ?_)
         generalize wr.drew = w15 at HO_3 HB hx264_0 hx264_1 hx264_2 hHeld ⊢
         refine mpu 0 22 HT_.out (mb 1 11) ?_
         refine mpu 1 23 HT_.out (mb 2 10) ?_
         refine mpu 3 25 HT_.out (mr [2,1,1,8]) ?_
         refine mpu 4 26 HT_.out (mr [2,1,2,7]) ?_
         refine mpu 5 27 HT_.out (mr [2,1,3,6]) ?_
         refine mpu 6 28 HT_.out (mr [2,1,4,5]) ?_
         refine mpu 8 30 HT_.out (mr [2,1,4,1,1,3]) ?_
         refine mpt 7 29 HT_.out HW_.out (mr [2,1,6,3]) hHeld ?_
         refine mpu 9 31 HT_.out (mr [2,1,7,2]) ?_
         refine mone 2 (some 24) HT_.out (mb 10 2) (fun K hK => ?_)
         refine goes_ Try.func75 (by kernel_rfl) rfl #[.slice Ao16 x3_1.length co16, .int .i64 t260] (by rfl) rfl rfl mA ?_
         with_reducible refine (spec_PutNum.calls k1 _ _ x3_1 t260 t261 _ ?side1 ?side2 A7.out).mono ?_
         (case side1 => exact mC (Kd.R_reads' HO_3.out).2.2)
         (case side2 => exact (Kd.R_reads' HO_3.out).2.1)
         rintro e w17 ⟨v262, rfl, ho0, hb⟩
         refine ⟨_, rfl, ?_⟩
         have HO263 := mS (Kd.R_lower (Kd.R_new' ho0 (Kd.R_lt (mR HO_3.out))) (below_size (mH HB.out)))
         replace HO_3 := mS (Kd.R_elder' (mR HO_3.out) (Kd.R_base ho0) hb)
         replace HB := mS (below_step (mH HB.out) hb)
         (try clear hb)
         (try clear hb2)
         (try clear hk)
         (try clear hi)
         (try clear ho0)
         obtain ⟨Ao18, co18, eo18⟩ := Kd.R_slice HO263.out
         (first | subst eo18 | (injection eo18 with f1_ f2_ f3_; have f4_ := f1_.symm; have f5_ := f3_.symm; clear f1_ f2_ f3_; subst f4_; subst f5_))
         refine hK.out _ _ ⟨(mX HB.out hw264_0 :), (mX HB.out hw264_1 :), (mX HB.out hw264_2 :)⟩ (fun hHeld => ?_)
         clear hK K
         refine mno 24 ?_
         refine mone 10 (some 32) HT_.out (mb 11 1) (fun K hK => ?_)
         refine goes_ Try.func76 (by kernel_rfl) rfl #[.slice Ao18 t261.length co18, .string (((rd_T87 l0 x5_1).f0).extract (t260 : Int).toNat ((rd_T87 l0 x5_1).f0).size)] (by rfl) rfl rfl mA ?_
         with_reducible refine (spec_PutText.calls k1 _ _ t261 (((rd_T87 l0 x5_1).f0).extract (t260 : Int).toNat ((rd_T87 l0 x5_1).f0).size) t265 _ ?side1 ?side2 A10.out).mono ?_
         (case side1 => exact mC (Kd.R_reads' HO263.out).2.2)
         (case side2 => exact (Kd.R_reads' HO263.out).2.1)
         rintro e w19 ⟨v266, rfl, ho0, hb⟩
         refine ⟨_, rfl, ?_⟩
         have HO267 := mS (Kd.R_lower (Kd.R_new' (Kd.R_new' ho0 (Kd.R_lt (mR HO_3.out))) (Kd.R_lt (mR HO263.out))) (below_size (mH HB.out)))
         replace HO_3 := mS (Kd.R_elder' (mR HO_3.out) (Kd.R_base ho0) hb)
         replace HO263 := mS (Kd.R_elder' (mR HO263.out) (Kd.R_base ho0) hb)
         replace HB := mS (below_step (mH HB.out) hb)
         (try clear hb)
         (try clear hb2)
         (try clear hk)
         (try clear hi)
         (try clear ho0)
         refine hK.out _ _ ⟨(mX HB.out hw264_0 :), (mX HB.out hw264_1 :), (mX HB.out hw264_2 :)⟩ (fun hHeld => ?_)
         clear hK K
         refine mno 32 ?_
         refine mpu 11 3 HT_.out (mb 12 0) ?_
         refine done_ (done_of HT_.out (by kernel_rfl)) ?_
         have p268 : 0 ≤ (x5_1 : Int) := mD
         have q268 : x5_1 < (l0.length : Int) := mD
         obtain ⟨ad268, e268, hx268_0, hx268_1, hx268_2⟩ := at_T87 HR0.out x5_1 p268 q268
         (try rw [← Nbq11.out] at hx268_2); (try rw [← Nbq11.out] at hw268_2)
         obtain rfl : ad259 = ad268 := (by injection e268)
         replace hx268_0 := mX HB.out hx268_0
         replace hx268_1 := mX HB.out hx268_1
         replace hx268_2 := mX HB.out hx268_2
         replace p268 := eq_true p268
         replace q268 := eq_true q268
         try go_wp2
         replace HO_3 := mS (Kd.R_drew HO_3.out)
         replace HO263 := mS (Kd.R_drew HO263.out)
         replace HO267 := mS (Kd.R_drew HO267.out)
         replace HB := mS (below_drew1 HB.out)
         have p272 : 0 ≤ (x5_1 : Int) := mD
         have q272 : x5_1 < (l0.length : Int) := mD
         obtain ⟨ad272, e272, hx272_0, hx272_1, hx272_2⟩ := at_T87 HR0.out x5_1 p272 q272
         have hw272_2 := hx272_2
         have hw272_1 := hx272_1
         have hw272_0 := hx272_0
         (try rw [← Nbq11.out] at hx272_2); (try rw [← Nbq11.out] at hw272_2)
         obtain rfl : ad259 = ad272 := (by injection e272)
         replace hx272_0 := mX HB.out hx272_0
         replace hx272_1 := mX HB.out hx272_1
         replace hx272_2 := mX HB.out hx272_2
         replace p272 := eq_true p272
         replace q272 := eq_true q272
         refine start_ (n := 11) (S := fun w' => w'.cell? (ad259.add ((x5_1).toNat * 3)) = some (.string ((rd_T87 l0 x5_1).f0)) ∧ w'.cell? ⟨(ad259.add ((x5_1).toNat * 3)).block, (ad259.add ((x5_1).toNat * 3)).off + 1, none⟩ = some (.string ((rd_T87 l0 x5_1).f1)) ∧ w'.cell? ⟨(ad259.add ((x5_1).toNat * 3)).block, (ad259.add ((x5_1).toNat * 3)).off + 2, none⟩ = some (.bool (true))) (ds := []) (mb 0 11) (by kernel_rfl) rfl rfl ⟨(mX HB.out hw272_0 :), (mX HB.out hw272_1 :), (mX HB.out hw272_2 :)⟩ (fun hHeld => ?_); refine with_tabW spec_l5Block.tab11 spec_l5Block.bits11 (fun HT_ HW_ => ?_)
         generalize w19.drew = w20 at HO_3 HO263 HO267 HB hx272_0 hx272_1 hx272_2 hHeld ⊢
         refine mpu 0 38 HT_.out (mb 1 10) ?_
         refine mpu 1 39 HT_.out (mb 2 9) ?_
         refine mpu 4 42 HT_.out (mr [2,2,1,6]) ?_
         refine mpu 5 43 HT_.out (mr [2,2,2,5]) ?_
         refine mpu 6 44 HT_.out (mr [2,2,3,4]) ?_
         refine mpu 7 45 HT_.out (mr [2,2,4,3]) ?_
         refine mpt 8 46 HT_.out HW_.out (mr [2,2,5,2]) hHeld ?_
         refine mone 2 (some 40) HT_.out (mr [3,1,5,2]) (fun K hK => ?_)
         refine value_ (w1 := ?_) (v := ?_) (by rfl) rfl ?_ ?_
         rotate_left 2
         ·go_simp
          constructor
          ·rfl
          ·rfl
         refine hK.out _ _ ⟨(World.cell?_alloc_lt _ _ _ (World.block_lt_of_cell? _ _ ((mX HB.out hw272_0 :)))).trans ((mX HB.out hw272_0 :)), (World.cell?_alloc_lt _ _ _ (World.block_lt_of_cell? _ _ ((mX HB.out hw272_1 :)))).trans ((mX HB.out hw272_1 :)), (World.cell?_alloc_lt _ _ _ (World.block_lt_of_cell? _ _ ((mX HB.out hw272_2 :)))).trans ((mX HB.out hw272_2 :))⟩ (fun hHeld => ?_)
         clear hK K
         refine mno 40 ?_
         refine mone 3 (some 41) HT_.out (mb 9 2) (fun K hK => ?_)
         refine Kd.R_append_step (Kd.int .u8) (w0 := w) w.heap.size (by rfl) (.tmp 38) (.tmp 40) 22 5 (.int .u8 0) 1 rfl Try.underlying22 info5 rfl (by decide) (by omega) v266 t265 1 [.int .u8 1] (fun k_ => some k_ ≠ (.slice Ao16 x3_1.length co16 : Value).ownBlock ∧ some k_ ≠ (.slice Ao18 t261.length co18 : Value).ownBlock) (fun _ => False) rfl rfl ?aP (fun _ hk => hk.elim) ?aF ?aO ?aB ?aS ?aL ?_
         (case aP => exact rfl)
         (case aB => exact (mH HB.out))
         (case aF => exact (fun k_ hk => ⟨Kd.fresh' (Kd.R_lt (mR HO_3.out)) k_ hk, Kd.fresh' (Kd.R_lt (mR HO263.out)) k_ hk⟩))
         (case aO => exact (by refine mR ?_; exact Kd.R_mono HO267.out (fun _ hk => ⟨hk.1.2, hk.2⟩)))
         (case aS => exact (below_size (mH HB.out)))
         (case aL => have := LMc13.out; omega)
         intro v270 w21 ho hb hg hat
         rw [← Ny269.out] at ho
         replace HO_3 := mS (Kd.R_after (ok := (fun k_ => some k_ ≠ (.slice Ao18 t261.length co18 : Value).ownBlock)) (by refine mR ?_; exact Kd.R_mono HO_3.out (fun _ hk => ⟨hk.1.2, hk.2⟩)) hg hat)
         replace HO263 := mS (Kd.R_after (ok := (fun k_ => some k_ ≠ (.slice Ao16 x3_1.length co16 : Value).ownBlock)) (by refine mR ?_; exact Kd.R_mono HO263.out (fun _ hk => ⟨hk.1.2, hk.2⟩)) hg hat)
         replace HB := mS (hb)
         have HO271 := mS (ho)
         clear HO267
         clear ho hb hg hat
         obtain ⟨Ao22, co22, eo22⟩ := Kd.R_slice HO271.out
         (first | subst eo22 | (injection eo22 with f1_ f2_ f3_; have f4_ := f1_.symm; have f5_ := f3_.symm; clear f1_ f2_ f3_; subst f4_; subst f5_))
         refine hK.out _ _ ⟨(mX HB.out hw272_0 :), (mX HB.out hw272_1 :), (mX HB.out hw272_2 :)⟩ (fun hHeld => ?_)
         clear hK K
         refine mno 41 ?_
         refine mone 9 (some 47) HT_.out (mb 10 1) (fun K hK => ?_)
         refine goes_ Try.func76 (by kernel_rfl) rfl #[.slice Ao22 y269.length co22, .string ((rd_T87 l0 x5_1).f1)] (by rfl) rfl rfl mA ?_
         with_reducible refine (spec_PutText.calls k1 _ _ y269 ((rd_T87 l0 x5_1).f1) t273 _ ?side1 ?side2 A14.out).mono ?_
         (case side1 => exact mC (Kd.R_reads' HO271.out).2.2)
         (case side2 => exact (Kd.R_reads' HO271.out).2.1)
         rintro e w23 ⟨v274, rfl, ho0, hb⟩
         refine ⟨_, rfl, ?_⟩
         have HO275 := mS (Kd.R_lower (Kd.R_new' (Kd.R_new' (Kd.R_new' ho0 (Kd.R_lt (mR HO_3.out))) (Kd.R_lt (mR HO263.out))) (Kd.R_lt (mR HO271.out))) (below_size (mH HB.out)))
         replace HO_3 := mS (Kd.R_elder' (mR HO_3.out) (Kd.R_base ho0) hb)
         replace HO263 := mS (Kd.R_elder' (mR HO263.out) (Kd.R_base ho0) hb)
         replace HO271 := mS (Kd.R_elder' (mR HO271.out) (Kd.R_base ho0) hb)
         replace HB := mS (below_step (mH HB.out) hb)
         (try clear hb)
         (try clear hb2)
         (try clear hk)
         (try clear hi)
         (try clear ho0)
         refine hK.out _ _ ⟨(mX HB.out hw272_0 :), (mX HB.out hw272_1 :), (mX HB.out hw272_2 :)⟩ (fun hHeld => ?_)
         clear hK K
         refine mno 47 ?_
         refine mpu 10 3 HT_.out (mb 11 0) ?_
         refine done_ (done_of HT_.out (by kernel_rfl)) ?_
         have p276 : 0 ≤ (x5_1 : Int) := mD
         have q276 : x5_1 < (l0.length : Int) := mD
         obtain ⟨ad276, e276, hx276_0, hx276_1, hx276_2⟩ := at_T87 HR0.out x5_1 p276 q276
         (try rw [← Nbq11.out] at hx276_2); (try rw [← Nbq11.out] at hw276_2)
         obtain rfl : ad259 = ad276 := (by injection e276)
         replace hx276_0 := mX HB.out hx276_0
         replace hx276_1 := mX HB.out hx276_1
         replace hx276_2 := mX HB.out hx276_2
         replace p276 := eq_true p276
         replace q276 := eq_true q276
         try go_wp2
         go_roundg k1
         case measure => have := HK1.out; omega
         case rel => exact ⟨(t273), ((rd_T87 l0 x5_1).f0), (wrap64 (x5_1 + 1)), mE, mE, H', ⟨by have := HK1.out; omega⟩, ⟨by refine mR ?_; exact Kd.R_mono HO275.out (fun _ hk => trivial)⟩, ⟨(mH HB.out)⟩⟩
        ·rw [if_neg c13] at H
         exact absurd H (by simp)
       ·replace c12 := Bool.eq_false_iff.mpr c12
        subst c12
        have H1 := H
        rw [if_neg (show ¬ (false = true) by decide)] at H1
        clear H
        have H := H1
        clear H1
        by_cases c24 : t265.length < 140737488355328
        ·rw [if_pos c24] at H
         have LMc24 := mS c24
         clear c24
         obtain ⟨y277, hy277⟩ : ∃ y_ : List Int, y_ = (t265 ++ [0]) := ⟨_, rfl⟩
         replace H : ((spec_PutText.f k1 y277 ((rd_T87 l0 x5_1).f1)).bind fun t281 => (spec_l5Block.l0 k1 l0 t281 ((rd_T87 l0 x5_1).f0) (wrap64 (x5_1 + 1)))) = some r := by first | (rw [hy277]; with_reducible exact H) | (have H2_ := (Option.bind_some _ _).symm.trans H; rw [hy277]; with_reducible exact H2_) | (have H2_ := (Option.bind_some _ _).symm.trans H; with_reducible exact H2_) | with_reducible exact H | (rw [hy277]; exact H) | exact H
         have Ny277 := mS hy277
         clear hy277
         replace H := Option.bind_eq_some_iff.mp H
         obtain ⟨t281, A250, H⟩ := H
         replace H : (spec_l5Block.l0 k1 l0 t281 ((rd_T87 l0 x5_1).f0) (wrap64 (x5_1 + 1))) = some r := H
         have A25 := mS A250
         clear A250
         have H' := mS H
         clear H
         have p259 : 0 ≤ (x5_1 : Int) := mD
         have q259 : x5_1 < (l0.length : Int) := mD
         obtain ⟨ad259, e259, hx259_0, hx259_1, hx259_2⟩ := at_T87 HR0.out x5_1 p259 q259
         (try rw [← Nbq11.out] at hx259_2); (try rw [← Nbq11.out] at hw259_2)
         cases e259
         replace hx259_0 := mX HB.out hx259_0
         replace hx259_1 := mX HB.out hx259_1
         replace hx259_2 := mX HB.out hx259_2
         replace p259 := eq_true p259
         replace q259 := eq_true q259
         try go_wp2_with (first | ((with_reducible refine gate_callee (f := 96) rfl ?_); refine mGo 21 Try.func96 #[.string x4_1, .string ((rd_T87 l0 x5_1).f0)] ?_; (with_reducible refine (spec_l5Common.calls k1 x4_1 ((rd_T87 l0 x5_1).f0) t260 _ A6.out).mono ?_); rintro e w' ⟨rfl, ⟨nd, rfl⟩⟩; refine ⟨_, rfl, ?_⟩))
         (try (rw [drewN_self wr]; generalize hq_ : World.drewN wr _ = wr; have n0_ : Aside0 (Kd.R (Kd.int .u8) 5 wr w.heap.size (fun k_ => True) u3 x3_1) := ⟨by rw [← hq_]; exact (mR HO_3.out)⟩; have n1_ : Aside0 (Below w.heap.size w wr) := ⟨by rw [← hq_]; exact (mH HB.out)⟩; clear HO_3 HB hq_; have HO_3 := n0_; have HB := n1_; clear n0_ n1_))
         replace HO_3 := mS (Kd.R_drew HO_3.out)
         replace HB := mS (below_drew1 HB.out)
         have p264 : 0 ≤ (x5_1 : Int) := mD
         have q264 : x5_1 < (l0.length : Int) := mD
         obtain ⟨ad264, e264, hx264_0, hx264_1, hx264_2⟩ := at_T87 HR0.out x5_1 p264 q264
         have hw264_2 := hx264_2
         have hw264_1 := hx264_1
         have hw264_0 := hx264_0
         (try rw [← Nbq11.out] at hx264_2); (try rw [← Nbq11.out] at hw264_2)
         obtain rfl : ad259 = ad264 := (by injection e264)
         replace hx264_0 := mX HB.out hx264_0
         replace hx264_1 := mX HB.out hx264_1
         replace hx264_2 := mX HB.out hx264_2
         replace p264 := eq_true p264
         replace q264 := eq_true q264
         obtain ⟨Ao27, co27, eo27⟩ := Kd.R_slice HO_3.out
         (first | subst eo27 | (injection eo27 with f1_ f2_ f3_; have f4_ := f1_.symm; have f5_ := f3_.symm; clear f1_ f2_ f3_; subst f4_; subst f5_))
         refine start_ (n := 12) (S := fun w' => w'.cell? (ad259.add ((x5_1).toNat * 3)) = some (.string ((rd_T87 l0 x5_1).f0)) ∧ w'.cell? ⟨(ad259.add ((x5_1).toNat * 3)).block, (ad259.add ((x5_1).toNat * 3)).off + 1, none⟩ = some (.string ((rd_T87 l0 x5_1).f1)) ∧ w'.cell? ⟨(ad259.add ((x5_1).toNat * 3)).block, (ad259.add ((x5_1).toNat * 3)).off + 2, none⟩ = some (.bool false)) (ds := []) (mb 0 12) (by kernel_rfl) rfl rfl ⟨(mX HB.out hw264_0 :), (mX HB.out hw264_1 :), (mX HB.out hw264_2 :)⟩ (fun hHeld => ?_); refine with_tabW spec_l5Block.tab7 spec_l5Block.bits7 (fun HT_ HW_ => ?_)
         generalize wr.drew = w26 at HO_3 HB hx264_0 hx264_1 hx264_2 hHeld ⊢
         refine mpu 0 22 HT_.out (mb 1 11) ?_
         refine mpu 1 23 HT_.out (mb 2 10) ?_
         refine mpu 3 25 HT_.out (mr [2,1,1,8]) ?_
         refine mpu 4 26 HT_.out (mr [2,1,2,7]) ?_
         refine mpu 5 27 HT_.out (mr [2,1,3,6]) ?_
         refine mpu 6 28 HT_.out (mr [2,1,4,5]) ?_
         refine mpu 8 30 HT_.out (mr [2,1,4,1,1,3]) ?_
         refine mpt 7 29 HT_.out HW_.out (mr [2,1,6,3]) hHeld ?_
         refine mpu 9 31 HT_.out (mr [2,1,7,2]) ?_
         refine mone 2 (some 24) HT_.out (mb 10 2) (fun K hK => ?_)
         refine goes_ Try.func75 (by kernel_rfl) rfl #[.slice Ao27 x3_1.length co27, .int .i64 t260] (by rfl) rfl rfl mA ?_
         with_reducible refine (spec_PutNum.calls k1 _ _ x3_1 t260 t261 _ ?side1 ?side2 A7.out).mono ?_
         (case side1 => exact mC (Kd.R_reads' HO_3.out).2.2)
         (case side2 => exact (Kd.R_reads' HO_3.out).2.1)
         rintro e w28 ⟨v262, rfl, ho0, hb⟩
         refine ⟨_, rfl, ?_⟩
         have HO263 := mS (Kd.R_lower (Kd.R_new' ho0 (Kd.R_lt (mR HO_3.out))) (below_size (mH HB.out)))
         replace HO_3 := mS (Kd.R_elder' (mR HO_3.out) (Kd.R_base ho0) hb)
         replace HB := mS (below_step (mH HB.out) hb)
         (try clear hb)
         (try clear hb2)
         (try clear hk)
         (try clear hi)
         (try clear ho0)
         obtain ⟨Ao29, co29, eo29⟩ := Kd.R_slice HO263.out
         (first | subst eo29 | (injection eo29 with f1_ f2_ f3_; have f4_ := f1_.symm; have f5_ := f3_.symm; clear f1_ f2_ f3_; subst f4_; subst f5_))
         refine hK.out _ _ ⟨(mX HB.out hw264_0 :), (mX HB.out hw264_1 :), (mX HB.out hw264_2 :)⟩ (fun hHeld => ?_)
         clear hK K
         refine mno 24 ?_
         refine mone 10 (some 32) HT_.out (mb 11 1) (fun K hK => ?_)
         refine goes_ Try.func76 (by kernel_rfl) rfl #[.slice Ao29 t261.length co29, .string (((rd_T87 l0 x5_1).f0).extract (t260 : Int).toNat ((rd_T87 l0 x5_1).f0).size)] (by rfl) rfl rfl mA ?_
         with_reducible refine (spec_PutText.calls k1 _ _ t261 (((rd_T87 l0 x5_1).f0).extract (t260 : Int).toNat ((rd_T87 l0 x5_1).f0).size) t265 _ ?side1 ?side2 A10.out).mono ?_
         (case side1 => exact mC (Kd.R_reads' HO263.out).2.2)
         (case side2 => exact (Kd.R_reads' HO263.out).2.1)
         rintro e w30 ⟨v266, rfl, ho0, hb⟩
         refine ⟨_, rfl, ?_⟩
         have HO267 := mS (Kd.R_lower (Kd.R_new' (Kd.R_new' ho0 (Kd.R_lt (mR HO_3.out))) (Kd.R_lt (mR HO263.out))) (below_size (mH HB.out)))
         replace HO_3 := mS (Kd.R_elder' (mR HO_3.out) (Kd.R_base ho0) hb)
         replace HO263 := mS (Kd.R_elder' (mR HO263.out) (Kd.R_base ho0) hb)
         replace HB := mS (below_step (mH HB.out) hb)
         (try clear hb)
         (try clear hb2)
         (try clear hk)
         (try clear hi)
         (try clear ho0)
         refine hK.out _ _ ⟨(mX HB.out hw264_0 :), (mX HB.out hw264_1 :), (mX HB.out hw264_2 :)⟩ (fun hHeld => ?_)
         clear hK K
         refine mno 32 ?_
         refine mpu 11 3 HT_.out (mb 12 0) ?_
         refine done_ (done_of HT_.out (by kernel_rfl)) ?_
         have p268 : 0 ≤ (x5_1 : Int) := mD
         have q268 : x5_1 < (l0.length : Int) := mD
         obtain ⟨ad268, e268, hx268_0, hx268_1, hx268_2⟩ := at_T87 HR0.out x5_1 p268 q268
         (try rw [← Nbq11.out] at hx268_2); (try rw [← Nbq11.out] at hw268_2)
         obtain rfl : ad259 = ad268 := (by injection e268)
         replace hx268_0 := mX HB.out hx268_0
         replace hx268_1 := mX HB.out hx268_1
         replace hx268_2 := mX HB.out hx268_2
         replace p268 := eq_true p268
         replace q268 := eq_true q268
         try go_wp2
         replace HO_3 := mS (Kd.R_drew HO_3.out)
         replace HO263 := mS (Kd.R_drew HO263.out)
         replace HO267 := mS (Kd.R_drew HO267.out)
         replace HB := mS (below_drew1 HB.out)
         have p280 : 0 ≤ (x5_1 : Int) := mD
         have q280 : x5_1 < (l0.length : Int) := mD
         obtain ⟨ad280, e280, hx280_0, hx280_1, hx280_2⟩ := at_T87 HR0.out x5_1 p280 q280
         have hw280_2 := hx280_2
         have hw280_1 := hx280_1
         have hw280_0 := hx280_0
         (try rw [← Nbq11.out] at hx280_2); (try rw [← Nbq11.out] at hw280_2)
         obtain rfl : ad259 = ad280 := (by injection e280)
         replace hx280_0 := mX HB.out hx280_0
         replace hx280_1 := mX HB.out hx280_1
         replace hx280_2 := mX HB.out hx280_2
         replace p280 := eq_true p280
         replace q280 := eq_true q280
         refine start_ (n := 11) (S := fun w' => w'.cell? (ad259.add ((x5_1).toNat * 3)) = some (.string ((rd_T87 l0 x5_1).f0)) ∧ w'.cell? ⟨(ad259.add ((x5_1).toNat * 3)).block, (ad259.add ((x5_1).toNat * 3)).off + 1, none⟩ = some (.string ((rd_T87 l0 x5_1).f1)) ∧ w'.cell? ⟨(ad259.add ((x5_1).toNat * 3)).block, (ad259.add ((x5_1).toNat * 3)).off + 2, none⟩ = some (.bool (false))) (ds := []) (mb 0 11) (by kernel_rfl) rfl rfl ⟨(mX HB.out hw280_0 :), (mX HB.out hw280_1 :), (mX HB.out hw280_2 :)⟩ (fun hHeld => ?_); refine with_tabW spec_l5Block.tab11 spec_l5Block.bits11 (fun HT_ HW_ => ?_)
         generalize w30.drew = w31 at HO_3 HO263 HO267 HB hx280_0 hx280_1 hx280_2 hHeld ⊢
         refine mpu 0 38 HT_.out (mb 1 10) ?_
         refine mpu 1 39 HT_.out (mb 2 9) ?_
         refine mpu 4 42 HT_.out (mr [2,2,1,6]) ?_
         refine mpu 5 43 HT_.out (mr [2,2,2,5]) ?_
         refine mpu 6 44 HT_.out (mr [2,2,3,4]) ?_
         refine mpu 7 45 HT_.out (mr [2,2,4,3]) ?_
         refine mpt 8 46 HT_.out HW_.out (mr [2,2,5,2]) hHeld ?_
         refine mone 2 (some 40) HT_.out (mr [3,1,5,2]) (fun K hK => ?_)
         refine value_ (w1 := ?_) (v := ?_) (by rfl) rfl ?_ ?_
         rotate_left 2
         ·go_simp
          constructor
          ·rfl
          ·rfl
         refine hK.out _ _ ⟨(World.cell?_alloc_lt _ _ _ (World.block_lt_of_cell? _ _ ((mX HB.out hw280_0 :)))).trans ((mX HB.out hw280_0 :)), (World.cell?_alloc_lt _ _ _ (World.block_lt_of_cell? _ _ ((mX HB.out hw280_1 :)))).trans ((mX HB.out hw280_1 :)), (World.cell?_alloc_lt _ _ _ (World.block_lt_of_cell? _ _ ((mX HB.out hw280_2 :)))).trans ((mX HB.out hw280_2 :))⟩ (fun hHeld => ?_)
         clear hK K
         refine mno 40 ?_
         refine mone 3 (some 41) HT_.out (mb 9 2) (fun K hK => ?_)
         refine Kd.R_append_step (Kd.int .u8) (w0 := w) w.heap.size (by rfl) (.tmp 38) (.tmp 40) 22 5 (.int .u8 0) 1 rfl Try.underlying22 info5 rfl (by decide) (by omega) v266 t265 0 [.int .u8 0] (fun k_ => some k_ ≠ (.slice Ao27 x3_1.length co27 : Value).ownBlock ∧ some k_ ≠ (.slice Ao29 t261.length co29 : Value).ownBlock) (fun _ => False) rfl rfl ?aP (fun _ hk => hk.elim) ?aF ?aO ?aB ?aS ?aL ?_
         (case aP => exact rfl)
         (case aB => exact (mH HB.out))
         (case aF => exact (fun k_ hk => ⟨Kd.fresh' (Kd.R_lt (mR HO_3.out)) k_ hk, Kd.fresh' (Kd.R_lt (mR HO263.out)) k_ hk⟩))
         (case aO => exact (by refine mR ?_; exact Kd.R_mono HO267.out (fun _ hk => ⟨hk.1.2, hk.2⟩)))
         (case aS => exact (below_size (mH HB.out)))
         (case aL => have := LMc24.out; omega)
         intro v278 w32 ho hb hg hat
         rw [← Ny277.out] at ho
         replace HO_3 := mS (Kd.R_after (ok := (fun k_ => some k_ ≠ (.slice Ao29 t261.length co29 : Value).ownBlock)) (by refine mR ?_; exact Kd.R_mono HO_3.out (fun _ hk => ⟨hk.1.2, hk.2⟩)) hg hat)
         replace HO263 := mS (Kd.R_after (ok := (fun k_ => some k_ ≠ (.slice Ao27 x3_1.length co27 : Value).ownBlock)) (by refine mR ?_; exact Kd.R_mono HO263.out (fun _ hk => ⟨hk.1.2, hk.2⟩)) hg hat)
         replace HB := mS (hb)
         have HO279 := mS (ho)
         clear HO267
         clear ho hb hg hat
         obtain ⟨Ao33, co33, eo33⟩ := Kd.R_slice HO279.out
         (first | subst eo33 | (injection eo33 with f1_ f2_ f3_; have f4_ := f1_.symm; have f5_ := f3_.symm; clear f1_ f2_ f3_; subst f4_; subst f5_))
         refine hK.out _ _ ⟨(mX HB.out hw280_0 :), (mX HB.out hw280_1 :), (mX HB.out hw280_2 :)⟩ (fun hHeld => ?_)
         clear hK K
         refine mno 41 ?_
         refine mone 9 (some 47) HT_.out (mb 10 1) (fun K hK => ?_)
         refine goes_ Try.func76 (by kernel_rfl) rfl #[.slice Ao33 y277.length co33, .string ((rd_T87 l0 x5_1).f1)] (by rfl) rfl rfl mA ?_
         with_reducible refine (spec_PutText.calls k1 _ _ y277 ((rd_T87 l0 x5_1).f1) t281 _ ?side1 ?side2 A25.out).mono ?_
         (case side1 => exact mC (Kd.R_reads' HO279.out).2.2)
         (case side2 => exact (Kd.R_reads' HO279.out).2.1)
         rintro e w34 ⟨v282, rfl, ho0, hb⟩
         refine ⟨_, rfl, ?_⟩
         have HO283 := mS (Kd.R_lower (Kd.R_new' (Kd.R_new' (Kd.R_new' ho0 (Kd.R_lt (mR HO_3.out))) (Kd.R_lt (mR HO263.out))) (Kd.R_lt (mR HO279.out))) (below_size (mH HB.out)))
         replace HO_3 := mS (Kd.R_elder' (mR HO_3.out) (Kd.R_base ho0) hb)
         replace HO263 := mS (Kd.R_elder' (mR HO263.out) (Kd.R_base ho0) hb)
         replace HO279 := mS (Kd.R_elder' (mR HO279.out) (Kd.R_base ho0) hb)
         replace HB := mS (below_step (mH HB.out) hb)
         (try clear hb)
         (try clear hb2)
         (try clear hk)
         (try clear hi)
         (try clear ho0)
         refine hK.out _ _ ⟨(mX HB.out hw280_0 :), (mX HB.out hw280_1 :), (mX HB.out hw280_2 :)⟩ (fun hHeld => ?_)
         clear hK K
         refine mno 47 ?_
         refine mpu 10 3 HT_.out (mb 11 0) ?_
         refine done_ (done_of HT_.out (by kernel_rfl)) ?_
         have p284 : 0 ≤ (x5_1 : Int) := mD
         have q284 : x5_1 < (l0.length : Int) := mD
         obtain ⟨ad284, e284, hx284_0, hx284_1, hx284_2⟩ := at_T87 HR0.out x5_1 p284 q284
         (try rw [← Nbq11.out] at hx284_2); (try rw [← Nbq11.out] at hw284_2)
         obtain rfl : ad259 = ad284 := (by injection e284)
         replace hx284_0 := mX HB.out hx284_0
         replace hx284_1 := mX HB.out hx284_1
         replace hx284_2 := mX HB.out hx284_2
         replace p284 := eq_true p284
         replace q284 := eq_true q284
         try go_wp2
         go_roundg k1
         case measure => have := HK1.out; omega
         case rel => exact ⟨(t281), ((rd_T87 l0 x5_1).f0), (wrap64 (x5_1 + 1)), mE, mE, H', ⟨by have := HK1.out; omega⟩, ⟨by refine mR ?_; exact Kd.R_mono HO283.out (fun _ hk => trivial)⟩, ⟨(mH HB.out)⟩⟩
        ·rw [if_neg c24] at H
         exact absurd H (by simp)
      ·rw [if_neg c9] at H
       exact absurd H (by simp)
     ·rw [if_neg c8] at H
      exact absurd H (by simp)
    ·rw [if_neg c5] at H
     exact absurd H (by simp)
   ·rw [if_neg c4] at H
    have c4b0 := decide_eq_false c4
    clear c4
    replace H := Option.bind_eq_some_iff.mp H
    obtain ⟨t256, A350, H⟩ := H
    replace H : (some t256) = some r := H
    have A35 := mS A350
    clear A350
    obtain rfl := Option.some.inj H
    obtain ⟨Ao36, co36, eo36⟩ := Kd.R_slice HO_3.out
    subst eo36
    go_wp2_with (first | ((with_reducible refine gate_callee (f := 79) rfl ?_); refine mGo 54 Try.func79 #[.slice Ao36 x3_1.length co36] ?_; (with_reducible refine (spec_Frame.calls k1 _ _ x3_1 t256 _ ?side1 ?side2 A35.out).mono ?_); (case side1 => exact mC (Kd.R_reads' HO_3.out).2.2); (case side2 => exact (Kd.R_reads' HO_3.out).2.1); rintro e w37 ⟨v257, rfl, ho0, hb⟩; refine ⟨_, rfl, ?_⟩; have HO258 := mS (Kd.R_lower (Kd.R_new' ho0 (Kd.R_lt (mR HO_3.out))) (below_size (mH HB.out))); replace HO_3 := mS (Kd.R_elder' (mR HO_3.out) (Kd.R_base ho0) hb); replace HB := mS (below_step (mH HB.out) hb); (try clear hb); (try clear ho0)))
    go_ret
    exact ⟨_, mEw, by refine mR ?_; exact Kd.R_mono HO258.out (fun _ hk => trivial), (mH HB.out)⟩

end Go.Proofs.Ytecjamgajlpfdaa.MFnExactTablePairs
