-- Written by mp.py, this session's own printer (wip/mp.py).
import Derived.Test.YtgbejjeephipeaaVMShort
import Derived.Test.YtgbejjeephipeaaMFnExactOrderOfx0
import Derived.Test.YtgbejjeephipeaaMFnExactOrderOfx14
namespace Go.Proofs.Ytgbejjeephipeaa.MFnExactOrderOf
open Go.RowKit Go.Proofs.YtgbejjeephipeaaW.PrintWords Go.Proofs.YtgbejjeephipeaaW.PrintLast Go.Proofs.YtgbejjeephipeaaW.PrintMore Go.Proofs.Ytgbejjeephipeaa.MWords
attribute [local go_sem] max2_int min2_int max_two min_two max_three min_three max_four min_four   -- for this text's walks alone
set_option linter.unusedVariables false
set_option linter.unusedSimpArgs false

/-! ### spec_l8Reach: function 116 -/
mutual
def spec_l8Reach.l0 : Nat → List Bool → Bool → List Int → Int → List (S33) → Option (List Bool × Bool)
 | 0, _, _, _, _, _ => none
 | k + 1, x6, x7, x8, x9, x311000 => if x9 < (x8.length : Int) then (if 0 ≤ x9 then (if 0 ≤ (rd x8 x9) then (if (rd x8 x9) < (x311000.length : Int) then (spec_l8Reach.l1 k x6 x7 x8 x9 ((rd_T33 x311000 (rd x8 x9)).f1) 0 x311000) else (none)) else (none)) else (none)) else (some (x6, x7))
def spec_l8Reach.l1 : Nat → List Bool → Bool → List Int → Int → List (S31) → Int → List (S33) → Option (List Bool × Bool)
 | 0, _, _, _, _, _, _, _ => none
 | k + 1, x6, x7, x8, x9, x10, x11, x311000 => if x11 < (x10.length : Int) then (if 0 ≤ x11 then ((spec_l8At.f k x311000 ((rd_T31 x10 x11).f0) ((rd_T31 x10 x11).f1)).bind fun t320 => (if t320 < 0 then (spec_l8Reach.l1 k x6 false x8 x9 x10 (wrap64 (x11 + 1)) x311000) else (if 0 ≤ t320 then (if t320 < (x6.length : Int) then (if rdOf false x6 t320 = true then (spec_l8Reach.l1 k x6 x7 x8 x9 x10 (wrap64 (x11 + 1)) x311000) else (if x8.length < 17592186044416 then (spec_l8Reach.l1 k (x6.set (t320 : Int).toNat true) x7 (x8 ++ [t320]) x9 x10 (wrap64 (x11 + 1)) x311000) else (none))) else (none)) else (none)))) else (none)) else (spec_l8Reach.l0 k x6 x7 x8 (wrap64 (x9 + 1)) x311000)
end
def spec_l8Reach.f (k : Nat) (l0_0 : List (S33)) (a1 : Int) : Option (List Bool × Bool) := if 0 ≤ (l0_0.length : Int) then (if ((l0_0.length : Int) : Int).toNat ≤ 281474976710656 then (spec_l8Reach.l0 k (List.replicate ((l0_0.length : Int) : Int).toNat false) true (([a1] : List Int)) 0 l0_0) else (none)) else (none)
theorem spec_l8Reach.mono_l : ∀ k, (∀ y0 y1 y2 y3 y4, LeO (spec_l8Reach.l0 k y0 y1 y2 y3 y4) (spec_l8Reach.l0 (k + 1) y0 y1 y2 y3 y4)) ∧ (∀ y0 y1 y2 y3 y4 y5 y6, LeO (spec_l8Reach.l1 k y0 y1 y2 y3 y4 y5 y6) (spec_l8Reach.l1 (k + 1) y0 y1 y2 y3 y4 y5 y6))
 | 0 => ⟨fun _ _ _ _ _ r h => by simp [spec_l8Reach.l0] at h, fun _ _ _ _ _ _ _ r h => by simp [spec_l8Reach.l1] at h⟩
 | k + 1 => by
  obtain ⟨ih0, ih1⟩ := spec_l8Reach.mono_l k
  refine ⟨?_, ?_⟩
  ·intro y0 y1 y2 y3 y4
   unfold spec_l8Reach.l0
   repeat' first
   | (with_reducible exact ih0 _ _ _ _ _)
   | (with_reducible exact ih1 _ _ _ _ _ _ _)
   | (with_reducible exact spec_l8At.mono _ _ _ _)
   | (with_reducible exact LeO.refl _)
   | (with_reducible exact LeO.none _)
   | (with_reducible refine LeO.ite ?_ ?_)
   | (with_reducible refine LeO.bind ?_ (fun _ => ?_))
   | exact ih0 _ _ _ _ _
   | exact ih1 _ _ _ _ _ _ _
   | exact spec_l8At.mono _ _ _ _
   | exact LeO.none _
   | refine LeO.ite ?_ ?_
   | refine LeO.bind ?_ (fun _ => ?_)
  ·intro y0 y1 y2 y3 y4 y5 y6
   unfold spec_l8Reach.l1
   repeat' first
   | (with_reducible exact ih0 _ _ _ _ _)
   | (with_reducible exact ih1 _ _ _ _ _ _ _)
   | (with_reducible exact spec_l8At.mono _ _ _ _)
   | (with_reducible exact LeO.refl _)
   | (with_reducible exact LeO.none _)
   | (with_reducible refine LeO.ite ?_ ?_)
   | (with_reducible refine LeO.bind ?_ (fun _ => ?_))
   | exact ih0 _ _ _ _ _
   | exact ih1 _ _ _ _ _ _ _
   | exact spec_l8At.mono _ _ _ _
   | exact LeO.none _
   | refine LeO.ite ?_ ?_
   | refine LeO.bind ?_ (fun _ => ?_)
theorem spec_l8Reach.mono : ∀ a0 a1 k, LeO (spec_l8Reach.f k a0 a1) (spec_l8Reach.f (k + 1) a0 a1) := by
 intro a0 a1 k
 obtain ⟨ih0, ih1⟩ := spec_l8Reach.mono_l k
 unfold spec_l8Reach.f
 repeat' first
   | (with_reducible exact ih0 _ _ _ _ _)
   | (with_reducible exact ih1 _ _ _ _ _ _ _)
   | (with_reducible exact spec_l8At.mono _ _ _ _)
   | (with_reducible exact LeO.refl _)
   | (with_reducible exact LeO.none _)
   | (with_reducible refine LeO.ite ?_ ?_)
   | (with_reducible refine LeO.bind ?_ (fun _ => ?_))
   | exact ih0 _ _ _ _ _
   | exact ih1 _ _ _ _ _ _ _
   | exact spec_l8At.mono _ _ _ _
   | exact LeO.none _
   | refine LeO.ite ?_ ?_
   | refine LeO.bind ?_ (fun _ => ?_)
def spec_l8Reach.T7 : Bool × List (List Nat × List Nat) := (true, [([], []), ([0], [0]), ([], []), ([], []), ([2, 3], [2, 3]), ([4], [4]), ([1, 5], [1, 5]), ([6], [6]), ([7], [7]), ([8, 0, 1, 2, 3, 4, 5, 6, 7, 8], [8])])
def spec_l8Reach.B7 : List Nat := [0, 1, 0, 0, 12, 28, 63, 127, 255, 511]
theorem spec_l8Reach.tab7 : rtab .any (opsOf Try.f116 7) = spec_l8Reach.T7 := by kernel_rfl
theorem spec_l8Reach.bits7 : waitsOk spec_l8Reach.T7.2 spec_l8Reach.B7 = true := by kernel_rfl
set_option maxHeartbeats 8000000 in
set_option maxRecDepth 100000 in
theorem spec_l8Reach.calls (k : Nat) (A0_0 : Option Addr) (c0_0 : Nat) (l0_0 : List (S33)) (a1 : Int) (r1 : List Bool) (r2 : Bool) (w : World) (hr0_0 : Kd.C k33 w A0_0 l0_0.length l0_0) (hc0_0 : l0_0.length ≤ c0_0) (h : spec_l8Reach.f k l0_0 a1 = some (r1, r2)) :
  Calls Try.prog 116 #[.agg #[.slice A0_0 l0_0.length c0_0], .int .i64 a1] w fun e w' => ∃ v0_ : Value, e = .returned (.tuple #[v0_, .bool r2]) ∧ Kd.R Kd.bool 4 w' w.heap.size (fun _ => True) v0_ r1 ∧ Below w.heap.size w w' := by
 have hu26 := Try.underlying26
 have hu31 := Try.underlying31
 have HR0_0 := mS hr0_0
 have HC0_0 := mS hc0_0
 clear hr0_0 hc0_0
 have HB := mS (Below.refl w.heap.size w)
 have H : (if 0 ≤ (l0_0.length : Int) then (if ((l0_0.length : Int) : Int).toNat ≤ 281474976710656 then (spec_l8Reach.l0 k (List.replicate ((l0_0.length : Int) : Int).toNat false) true (([a1] : List Int)) 0 l0_0) else (none)) else (none)) = some (r1, r2) := h
 clear h
 by_cases c3 : 0 ≤ (l0_0.length : Int)
 ·rw [if_pos c3] at H
  have c3b0 := eq_true c3
  have c3b1 := decide_eq_true c3
  clear c3
  by_cases c4 : ((l0_0.length : Int) : Int).toNat ≤ 281474976710656
  ·rw [if_pos c4] at H
   have c4b0 := eq_true c4
   have c4b1 := decide_eq_true c4
   clear c4
   obtain ⟨y311, hy311⟩ : ∃ y_ : List Bool, y_ = (List.replicate ((l0_0.length : Int) : Int).toNat false) := ⟨_, rfl⟩
   replace H : (spec_l8Reach.l0 k y311 true (([a1] : List Int)) 0 l0_0) = some (r1, r2) := by first | (rw [hy311]; with_reducible exact H) | (have H2_ := (Option.bind_some _ _).symm.trans H; rw [hy311]; with_reducible exact H2_) | (have H2_ := (Option.bind_some _ _).symm.trans H; with_reducible exact H2_) | with_reducible exact H | (rw [hy311]; exact H) | exact H
   have Ny311 := mS hy311
   clear hy311
   obtain ⟨y314, hy314⟩ : ∃ y_ : List Int, y_ = (([a1] : List Int)) := ⟨_, rfl⟩
   replace H : (spec_l8Reach.l0 k y311 true y314 0 l0_0) = some (r1, r2) := by first | (rw [hy314]; with_reducible exact H) | (have H2_ := (Option.bind_some _ _).symm.trans H; rw [hy314]; with_reducible exact H2_) | (have H2_ := (Option.bind_some _ _).symm.trans H; with_reducible exact H2_) | with_reducible exact H | (rw [hy314]; exact H) | exact H
   have Ny314 := mS hy314
   clear hy314
   have H' := mS H
   clear H
   go_enter Try.func116, Try.ntmps116
   go_wp2_with (first | ((with_reducible refine gate_dst (N := 2) rfl ?_); refine mBx 2 #[.slice A0_0 l0_0.length c0_0] 26 ?_; intro gb310 hg w5 hbox hb; have BK310 := mS (hbox); have GW310 := mG hg (mH HB.out); have GE310 := mG hg (mH HB.out); replace HB := mS (below_step (mH HB.out) hb); clear hb hbox hg; have hcz6_0 := mZ BK310.out 0; have hfz6_0 := blk_frozen BK310.out 0) | ((with_reducible refine gate_dst (N := 16) rfl ?_); refine Kd.R_make Kd.bool _ 4 rfl (N := 16) rfl 105 _ _ rfl (l0_0.length : Int) rfl rfl Try.underlying105 (.bool false) 1 info4 rfl (by decide) (by omega) false (ok := fun _ => True) (okp := fun _ => True) rfl (fun _ hk => hk) trivial (mD) (Nat.le_trans (Nat.mul_le_mul_right _ (mD : (l0_0.length : Int).toNat ≤ 281474976710656)) (by omega)) (Below.refl _ _) (Nat.le_refl _) ?_; intro v312 w7 ho8 hb hg_ hnew_; clear hg_ hnew_; (first | rw [← Ny311.out] at ho8 | (simp only [Int.reduceToNat] at ho8; rw [← Ny311.out] at ho8)); have HO313 := mS (Kd.R_lower ho8 (below_size (mH1 HB.out GE310.out))); replace BK310 := mB BK310 hb; replace HB := mS (below_step (mH1 HB.out GE310.out) hb); clear hb ho8) | ((with_reducible refine gate_dst (N := 18) rfl ?_); refine Kd.R_lit (Kd.int .i64) _ 3 ?hg (N := 18) ?hd (xs := ([a1] : List Int)) (inner := [.int .i64 a1]) (ok := fun _ => True) (okp := fun _ => True) ?hr ?hp (fun _ hk => hk) trivial (Below.refl _ _) (Nat.le_refl _) (by simp) ?_; (case hd => rfl); (case hg => rfl); (case hr => first | (go_simp; done) | (go_simp; rfl)); (case hp => exact (Reps.one (show Kd.M (Kd.int .i64) _ _ _ a1 [.int .i64 a1] from rfl) (Reps.none _ _))); intro v315 w9 ho10 hb hg_ hnew_; clear hg_ hnew_; (first | rw [← Ny314.out] at ho10 | (simp only [Int.reduceToNat] at ho10; rw [← Ny314.out] at ho10)); replace HO313 := mS (Kd.R_below (mR HO313.out) hb); have HO316 := mS (Kd.R_lower ho10 (below_size (mH1 HB.out GE310.out))); replace BK310 := mB BK310 hb; replace HB := mS (below_step (mH1 HB.out GE310.out) hb); clear hb ho10))
   go_loopg [7, 8, 9] k (fun kq v7 v8 v9 w' => ∃ (x6_1 : List Bool) (x7_1 : Bool) (x8_1 : List Int) (x9_1 : Int), v7 = .bool x7_1 ∧ v9 = .int .i64 x9_1 ∧ Aside0 (spec_l8Reach.l0 kq x6_1 x7_1 x8_1 x9_1 l0_0 = some (r1, r2)) ∧ Aside0 (kq ≤ k) ∧ Aside0 (Kd.R Kd.bool 4 w' w.heap.size (fun _ => True) v312 x6_1) ∧ Aside0 (Kd.R (Kd.int .i64) 3 w' w.heap.size (fun _ => True) v8 x8_1) ∧ Aside0 (w'.heap[gb310]? = some (.cells #[(.slice A0_0 l0_0.length c0_0)] 26 (0, 0))) ∧ Aside0 (Below w.heap.size w w'))
   case atStart => exact ⟨(y311), (true), (y314), (0), mE, mE, H', ⟨Nat.le_refl _⟩, ⟨mR HO313.out⟩, ⟨mR HO316.out⟩, ⟨mK BK310.out⟩, ⟨(mH1 HB.out GE310.out)⟩⟩
   case round =>
    clear H'
    try clear c1
    try clear p2
    try clear c3
    try clear c3b0
    try clear c3b1
    try clear c4
    try clear c4b0
    try clear c4b1
    try clear hcz6_0
    try clear hfz6_0
    obtain ⟨x6_1, x7_1, x8_1, x9_1, rfl, rfl, HA, HK1, HO_6, HO_8, BK310, HB⟩ := hrel
    cases gk with
    | zero => exact absurd HA.out (by simp [spec_l8Reach.l0])
    | succ k1 =>
     have H := HA.out
     clear HA
     simp only [spec_l8Reach.l0] at H
     by_cases c11 : x9_1 < (x8_1.length : Int)
     ·rw [if_pos c11] at H
      have c11b0 := decide_eq_true c11
      clear c11
      by_cases c12 : 0 ≤ x9_1
      ·rw [if_pos c12] at H
       have c12b0 := decide_eq_true c12
       clear c12
       by_cases c13 : 0 ≤ (rd x8_1 x9_1)
       ·rw [if_pos c13] at H
        have c13b0 := decide_eq_true c13
        clear c13
        by_cases c14 : (rd x8_1 x9_1) < (l0_0.length : Int)
        ·rw [if_pos c14] at H
         have c14b0 := decide_eq_true c14
         clear c14
         have H' := mS H
         clear H
         obtain ⟨Ao15, co15, eo15⟩ := Kd.R_slice HO_8.out
         subst eo15
         try go_wp2
         replace HO_6 := mS (Kd.R_drew HO_6.out)
         replace HO_8 := mS (Kd.R_drew HO_8.out)
         replace BK310 := mS (blk_drew BK310.out)
         replace HB := mS (below_drew1 HB.out)
         have p317 : 0 ≤ (x9_1 : Int) := mD
         have q317 : x9_1 < (x8_1.length : Int) := mD
         obtain ⟨ad317, e317, hx317_0⟩ := Kd.at_int (Kd.R_reads' HO_8.out).2.2 x9_1 p317 q317
         cases e317
         replace p317 := eq_true p317
         replace q317 := eq_true q317
         have p318 : 0 ≤ ((rd x8_1 x9_1) : Int) := mD
         have q318 : (rd x8_1 x9_1) < (l0_0.length : Int) := mD
         obtain ⟨ad318, A318_2, c318_2, e318, hx318_0, hx318_1, hx318_2, hl318_2, hi318_2⟩ := at_T33 HR0_0.out (rd x8_1 x9_1) p318 q318
         have hw318_2 := hx318_2
         have hw318_1 := hx318_1
         have hw318_0 := hx318_0
         cases e318
         replace hx318_0 := mX HB.out hx318_0
         replace hx318_1 := mX HB.out hx318_1
         replace hx318_2 := mX HB.out hx318_2
         have HR318_2 := mS hi318_2
         have HC318_2 := mS hl318_2
         clear hi318_2 hl318_2
         replace p318 := eq_true p318
         replace q318 := eq_true q318
         refine start_ (n := 10) (S := fun w' => w'.cell? ⟨gb310, 0, none⟩ = some (.slice (some ad318) l0_0.length c0_0) ∧ w'.cell? (ad317.add (x9_1).toNat) = some (.int .i64 (rd x8_1 x9_1)) ∧ w'.cell? (ad318.add (((rd x8_1 x9_1)).toNat * 3)) = some (.int .i64 ((rd_T33 l0_0 (rd x8_1 x9_1)).f0.f0)) ∧ w'.cell? ⟨(ad318.add (((rd x8_1 x9_1)).toNat * 3)).block, (ad318.add (((rd x8_1 x9_1)).toNat * 3)).off + 1, none⟩ = some (.int .i64 ((rd_T33 l0_0 (rd x8_1 x9_1)).f0.f1)) ∧ w'.cell? ⟨(ad318.add (((rd x8_1 x9_1)).toNat * 3)).block, (ad318.add (((rd x8_1 x9_1)).toNat * 3)).off + 2, none⟩ = some (.slice A318_2 ((rd_T33 l0_0 (rd x8_1 x9_1)).f1).length c318_2)) (ds := []) (mb 0 10) (by kernel_rfl) rfl rfl ⟨mZ BK310.out 0, hx317_0, (mX HB.out hw318_0 :), (mX HB.out hw318_1 :), (mX HB.out hw318_2 :)⟩ (fun hHeld => ?_); refine with_tabW spec_l8Reach.tab7 spec_l8Reach.bits7 (fun HT_ HW_ => ?_)
         generalize wr.drew = w16 at HO_6 HO_8 BK310 HB HR318_2 hx317_0 hx318_0 hx318_1 hx318_2 hHeld ⊢
         refine mpu 0 25 HT_.out (mb 1 9) ?_
         refine mpu 2 27 HT_.out (mr [1,1,1,7]) ?_
         refine mpu 3 28 HT_.out (mr [1,1,2,6]) ?_
         refine mpu 4 29 HT_.out (mr [1,1,3,5]) ?_
         refine mpt 1 26 HT_.out HW_.out (mb 5 5) hHeld ?_
         refine mpt 5 30 HT_.out HW_.out (mb 6 4) hHeld ?_
         refine mpu 6 31 HT_.out (mb 7 3) ?_
         refine mpu 7 32 HT_.out (mb 8 2) ?_
         refine mpt 8 33 HT_.out HW_.out (mb 9 1) hHeld ?_
         refine mpu 9 10 HT_.out (mb 10 0) ?_
         refine done_ (done_of HT_.out (by kernel_rfl)) ?_
         try go_wp2
         go_loopg [7, 8, 11] k1 (fun kq v7 v8 v11 w' => ∃ (x6_2 : List Bool) (x7_2 : Bool) (x8_2 : List Int) (x11_2 : Int), v7 = .bool x7_2 ∧ v11 = .int .i64 x11_2 ∧ Aside0 (spec_l8Reach.l1 kq x6_2 x7_2 x8_2 x9_1 ((rd_T33 l0_0 (rd x8_1 x9_1)).f1) x11_2 l0_0 = some (r1, r2)) ∧ Aside0 (kq ≤ k1) ∧ Aside0 (Kd.R Kd.bool 4 w' w.heap.size (fun _ => True) v312 x6_2) ∧ Aside0 (Kd.R (Kd.int .i64) 3 w' w.heap.size (fun _ => True) v8 x8_2) ∧ Aside0 (w'.heap[gb310]? = some (.cells #[(.slice (some ad318) l0_0.length c0_0)] 26 (0, 0))) ∧ Aside0 (Below w.heap.size w w'))
         case atStart => exact ⟨(x6_1), (x7_1), (x8_1), (0), mE, mE, H', ⟨Nat.le_refl _⟩, ⟨mR HO_6.out⟩, ⟨mR HO_8.out⟩, ⟨mK BK310.out⟩, ⟨(mH1 HB.out GE310.out)⟩⟩
         case round =>
          clear H'
          try clear c1
          try clear p2
          try clear c3
          try clear c3b0
          try clear c3b1
          try clear p3
          try clear q3
          try clear hx3
          try clear c4
          try clear c4b0
          try clear c4b1
          try clear c11
          try clear c11b0
          try clear c12
          try clear c12b0
          try clear c13
          try clear c13b0
          try clear c14
          try clear c14b0
          try clear hcz6_0
          try clear hfz6_0
          try clear hx317_0
          try clear hx318_0
          try clear hx318_1
          try clear hx318_2
          try clear p2
          try clear p317
          try clear p318
          try clear q317
          try clear q318
          obtain ⟨x6_2, x7_2, x8_2, x11_2, rfl, rfl, HA, HK2, HO_6, HO_8, BK310, HB⟩ := hrel
          cases gk with
          | zero => exact absurd HA.out (by simp [spec_l8Reach.l1])
          | succ k2 =>
           have H := HA.out
           clear HA
           simp only [spec_l8Reach.l1] at H
           by_cases c17 : x11_2 < (((rd_T33 l0_0 (rd x8_1 x9_1)).f1).length : Int)
           ·rw [if_pos c17] at H
            have c17b0 := decide_eq_true c17
            clear c17
            by_cases c18 : 0 ≤ x11_2
            ·rw [if_pos c18] at H
             have c18b0 := decide_eq_true c18
             clear c18
             replace H := Option.bind_eq_some_iff.mp H
             obtain ⟨t320, A190, H⟩ := H
             replace H : (if t320 < 0 then (spec_l8Reach.l1 k2 x6_2 false x8_2 x9_1 ((rd_T33 l0_0 (rd x8_1 x9_1)).f1) (wrap64 (x11_2 + 1)) l0_0) else (if 0 ≤ t320 then (if t320 < (x6_2.length : Int) then (if rdOf false x6_2 t320 = true then (spec_l8Reach.l1 k2 x6_2 x7_2 x8_2 x9_1 ((rd_T33 l0_0 (rd x8_1 x9_1)).f1) (wrap64 (x11_2 + 1)) l0_0) else (if x8_2.length < 17592186044416 then (spec_l8Reach.l1 k2 (x6_2.set (t320 : Int).toNat true) x7_2 (x8_2 ++ [t320]) x9_1 ((rd_T33 l0_0 (rd x8_1 x9_1)).f1) (wrap64 (x11_2 + 1)) l0_0) else (none))) else (none)) else (none))) = some (r1, r2) := H
             have A19 := mS A190
             clear A190
             by_cases c20 : t320 < 0
             ·rw [if_pos c20] at H
              have c20b0 := decide_eq_true c20
              clear c20
              have H' := mS H
              clear H
              try go_wp2
              replace HO_6 := mS (Kd.R_drew HO_6.out)
              replace HO_8 := mS (Kd.R_drew HO_8.out)
              replace BK310 := mS (blk_drew BK310.out)
              replace HB := mS (below_drew1 HB.out)
              have p319 : 0 ≤ (x11_2 : Int) := mD
              have q319 : x11_2 < (((rd_T33 l0_0 (rd x8_1 x9_1)).f1).length : Int) := mD
              obtain ⟨ad319, e319, hx319_0, hx319_1⟩ := at_T31 HR318_2.out x11_2 p319 q319
              have hw319_1 := hx319_1
              have hw319_0 := hx319_0
              cases e319
              replace hx319_0 := mX HB.out hx319_0
              replace hx319_1 := mX HB.out hx319_1
              replace p319 := eq_true p319
              replace q319 := eq_true q319
              refine start_ (n := 7) (S := fun w' => w'.cell? ⟨gb310, 0, none⟩ = some (.slice (some ad318) l0_0.length c0_0) ∧ w'.cell? (ad319.add ((x11_2).toNat * 2)) = some (.int .i64 ((rd_T31 ((rd_T33 l0_0 (rd x8_1 x9_1)).f1) x11_2).f0)) ∧ w'.cell? ⟨(ad319.add ((x11_2).toNat * 2)).block, (ad319.add ((x11_2).toNat * 2)).off + 1, none⟩ = some (.int .i64 ((rd_T31 ((rd_T33 l0_0 (rd x8_1 x9_1)).f1) x11_2).f1))) (ds := []) (mb 0 7) (by kernel_rfl) rfl rfl ⟨mZ BK310.out 0, (mX HB.out hw319_0 :), (mX HB.out hw319_1 :)⟩ (fun hHeld => ?_)
              generalize wr.drew = w21 at HO_6 HO_8 BK310 HB hx319_0 hx319_1 hHeld ⊢
              refine pure_ (i := 1) (N := some 41) (v := ?_) (a' := ?_) (mr [0,1,1,5]) rfl rfl (by kernel_rfl) (fun _ _ _ h => h) (Or.inl ⟨by rfl, ?_⟩) ?_ ?_
              rotate_left
              ·intro w'
               go_simp
               with_reducible rfl
              rotate_left
              ·simp only [Act.put, zA, zB, zC, i64_w, i32_w]
               rfl
              refine pure_ (i := 2) (N := some 42) (v := ?_) (a' := ?_) (mr [0,1,2,4]) rfl rfl (by kernel_rfl) (fun _ _ _ h => h) (Or.inl ⟨by rfl, ?_⟩) ?_ ?_
              rotate_left
              ·intro w'
               go_simp
               with_reducible rfl
              rotate_left
              ·simp only [Act.put, zA, zB, zC, i64_w, i32_w]
               rfl
              refine pure_ (i := 3) (N := some 43) (v := ?_) (a' := ?_) (mr [0,1,3,3]) rfl rfl (by kernel_rfl) (fun _ _ _ h => h) (Or.inl ⟨by rfl, ?_⟩) ?_ ?_
              rotate_left
              ·intro w'
               go_simp
               with_reducible rfl
              rotate_left
              ·simp only [Act.put, zA, zB, zC, i64_w, i32_w]
               rfl
              refine take_ (i := 0) (N := some 40) (v := ?_) (a' := ?_) (mb 4 3) rfl rfl (by kernel_rfl) (fun _ _ _ h => h) (Or.inl ⟨by rfl, ?_⟩) hHeld ?_ ?_
              rotate_left
              ·rintro w' ⟨s0, s1, s2⟩
               go_simp
               with_reducible rfl
              rotate_left
              ·simp only [Act.put, zA, zB, zC, i64_w, i32_w]
               rfl
              refine take_ (i := 4) (N := some 44) (v := ?_) (a' := ?_) (mb 5 2) rfl rfl (by kernel_rfl) (fun _ _ _ h => h) (Or.inl ⟨by rfl, ?_⟩) hHeld ?_ ?_
              rotate_left
              ·rintro w' ⟨s0, s1, s2⟩
               go_simp
               with_reducible rfl
              rotate_left
              ·simp only [Act.put, zA, zB, zC, i64_w, i32_w]
               rfl
              refine one_ (i := 5) (N := some 45) (mb 6 1) rfl rfl (by kernel_rfl) (by decide) (fun K hK => ?_)
              refine goes_ Try.func72 (by kernel_rfl) rfl #[.agg #[.slice (some ad318) l0_0.length c0_0], .agg #[.int .i64 ((rd_T31 ((rd_T33 l0_0 (rd x8_1 x9_1)).f1) x11_2).f0), .int .i64 ((rd_T31 ((rd_T33 l0_0 (rd x8_1 x9_1)).f1) x11_2).f1)]] (by rfl) rfl rfl mA ?_
              with_reducible refine (spec_l8At.calls k2 _ _ l0_0 ((rd_T31 ((rd_T33 l0_0 (rd x8_1 x9_1)).f1) x11_2).f0) ((rd_T31 ((rd_T33 l0_0 (rd x8_1 x9_1)).f1) x11_2).f1) t320 _ ?side1 ?side2 A19.out).mono ?_
              (case side1 => exact mC (Kd.C_below HR0_0.out HB.out))
              (case side2 => exact HC0_0.out)
              rintro e w22 ⟨rfl, hb⟩
              refine ⟨_, rfl, ?_⟩
              replace HO_6 := mS (Kd.R_below (mR HO_6.out) hb)
              replace HO_8 := mS (Kd.R_below (mR HO_8.out) hb)
              replace BK310 := mB BK310 hb
              replace HB := mS (below_step (mH1 HB.out GE310.out) hb)
              (try clear hb)
              (try clear hb2)
              (try clear hk)
              (try clear hi)
              refine hK.out _ _ ⟨mZ BK310.out 0, (mX HB.out hw319_0 :), (mX HB.out hw319_1 :)⟩ (fun hHeld => ?_)
              clear hK K
              refine mno 45 ?_
              refine pure_ (i := 6) (N := some 12) (v := ?_) (a' := ?_) (mb 7 0) rfl rfl (by kernel_rfl) (fun _ _ _ h => h) (Or.inl ⟨by rfl, ?_⟩) ?_ ?_
              rotate_left
              ·intro w'
               go_simp
               with_reducible rfl
              rotate_left
              ·simp only [Act.put, zA, zB, zC, i64_w, i32_w]
               rfl
              refine done_ (by kernel_rfl) ?_
              try go_wp2
              go_roundg k2
              case measure => have := HK1.out; have := HK2.out; omega
              case rel => exact ⟨(x6_2), (false), (x8_2), (wrap64 (x11_2 + 1)), mE, mE, H', ⟨by have := HK1.out; have := HK2.out; omega⟩, ⟨mR HO_6.out⟩, ⟨mR HO_8.out⟩, ⟨mK BK310.out⟩, ⟨(mH1 HB.out GE310.out)⟩⟩
             ·rw [if_neg c20] at H
              have c20b0 := decide_eq_false c20
              clear c20
              by_cases c23 : 0 ≤ t320
              ·rw [if_pos c23] at H
               have c23b0 := decide_eq_true c23
               clear c23
               by_cases c24 : t320 < (x6_2.length : Int)
               ·rw [if_pos c24] at H
                have c24b0 := decide_eq_true c24
                clear c24
                obtain ⟨bq25, hbq25⟩ : ∃ b_ : Bool, b_ = (rdOf false x6_2 t320) := ⟨_, rfl⟩
                replace H : (if bq25 = true then (spec_l8Reach.l1 k2 x6_2 x7_2 x8_2 x9_1 ((rd_T33 l0_0 (rd x8_1 x9_1)).f1) (wrap64 (x11_2 + 1)) l0_0) else (if x8_2.length < 17592186044416 then (spec_l8Reach.l1 k2 (x6_2.set (t320 : Int).toNat true) x7_2 (x8_2 ++ [t320]) x9_1 ((rd_T33 l0_0 (rd x8_1 x9_1)).f1) (wrap64 (x11_2 + 1)) l0_0) else (none))) = some (r1, r2) := by rw [← hbq25] at H; exact H
                have Nbq25 := mS hbq25
                clear hbq25
                by_cases c26 : bq25 = true
                ·subst c26
                 have H1 := H
                 rw [if_pos rfl] at H1
                 clear H
                 have H := H1
                 clear H1
                 have H' := mS H
                 clear H
                 try go_wp2
                 replace HO_6 := mS (Kd.R_drew HO_6.out)
                 replace HO_8 := mS (Kd.R_drew HO_8.out)
                 replace BK310 := mS (blk_drew BK310.out)
                 replace HB := mS (below_drew1 HB.out)
                 have p319 : 0 ≤ (x11_2 : Int) := mD
                 have q319 : x11_2 < (((rd_T33 l0_0 (rd x8_1 x9_1)).f1).length : Int) := mD
                 obtain ⟨ad319, e319, hx319_0, hx319_1⟩ := at_T31 HR318_2.out x11_2 p319 q319
                 have hw319_1 := hx319_1
                 have hw319_0 := hx319_0
                 cases e319
                 replace hx319_0 := mX HB.out hx319_0
                 replace hx319_1 := mX HB.out hx319_1
                 replace p319 := eq_true p319
                 replace q319 := eq_true q319
                 refine start_ (n := 7) (S := fun w' => w'.cell? ⟨gb310, 0, none⟩ = some (.slice (some ad318) l0_0.length c0_0) ∧ w'.cell? (ad319.add ((x11_2).toNat * 2)) = some (.int .i64 ((rd_T31 ((rd_T33 l0_0 (rd x8_1 x9_1)).f1) x11_2).f0)) ∧ w'.cell? ⟨(ad319.add ((x11_2).toNat * 2)).block, (ad319.add ((x11_2).toNat * 2)).off + 1, none⟩ = some (.int .i64 ((rd_T31 ((rd_T33 l0_0 (rd x8_1 x9_1)).f1) x11_2).f1))) (ds := []) (mb 0 7) (by kernel_rfl) rfl rfl ⟨mZ BK310.out 0, (mX HB.out hw319_0 :), (mX HB.out hw319_1 :)⟩ (fun hHeld => ?_)
                 generalize wr.drew = w27 at HO_6 HO_8 BK310 HB hx319_0 hx319_1 hHeld ⊢
                 refine pure_ (i := 1) (N := some 41) (v := ?_) (a' := ?_) (mr [0,1,1,5]) rfl rfl (by kernel_rfl) (fun _ _ _ h => h) (Or.inl ⟨by rfl, ?_⟩) ?_ ?_
                 rotate_left
                 ·intro w'
                  go_simp
                  with_reducible rfl
                 rotate_left
                 ·simp only [Act.put, zA, zB, zC, i64_w, i32_w]
                  rfl
                 refine pure_ (i := 2) (N := some 42) (v := ?_) (a' := ?_) (mr [0,1,2,4]) rfl rfl (by kernel_rfl) (fun _ _ _ h => h) (Or.inl ⟨by rfl, ?_⟩) ?_ ?_
                 rotate_left
                 ·intro w'
                  go_simp
                  with_reducible rfl
                 rotate_left
                 ·simp only [Act.put, zA, zB, zC, i64_w, i32_w]
                  rfl
                 refine pure_ (i := 3) (N := some 43) (v := ?_) (a' := ?_) (mr [0,1,3,3]) rfl rfl (by kernel_rfl) (fun _ _ _ h => h) (Or.inl ⟨by rfl, ?_⟩) ?_ ?_
                 rotate_left
                 ·intro w'
                  go_simp
                  with_reducible rfl
                 rotate_left
                 ·simp only [Act.put, zA, zB, zC, i64_w, i32_w]
                  rfl
                 refine take_ (i := 0) (N := some 40) (v := ?_) (a' := ?_) (mb 4 3) rfl rfl (by kernel_rfl) (fun _ _ _ h => h) (Or.inl ⟨by rfl, ?_⟩) hHeld ?_ ?_
                 rotate_left
                 ·rintro w' ⟨s0, s1, s2⟩
                  go_simp
                  with_reducible rfl
                 rotate_left
                 ·simp only [Act.put, zA, zB, zC, i64_w, i32_w]
                  rfl
                 refine take_ (i := 4) (N := some 44) (v := ?_) (a' := ?_) (mb 5 2) rfl rfl (by kernel_rfl) (fun _ _ _ h => h) (Or.inl ⟨by rfl, ?_⟩) hHeld ?_ ?_
                 rotate_left
                 ·rintro w' ⟨s0, s1, s2⟩
                  go_simp
                  with_reducible rfl
                 rotate_left
                 ·simp only [Act.put, zA, zB, zC, i64_w, i32_w]
                  rfl
                 refine one_ (i := 5) (N := some 45) (mb 6 1) rfl rfl (by kernel_rfl) (by decide) (fun K hK => ?_)
                 refine goes_ Try.func72 (by kernel_rfl) rfl #[.agg #[.slice (some ad318) l0_0.length c0_0], .agg #[.int .i64 ((rd_T31 ((rd_T33 l0_0 (rd x8_1 x9_1)).f1) x11_2).f0), .int .i64 ((rd_T31 ((rd_T33 l0_0 (rd x8_1 x9_1)).f1) x11_2).f1)]] (by rfl) rfl rfl mA ?_
                 with_reducible refine (spec_l8At.calls k2 _ _ l0_0 ((rd_T31 ((rd_T33 l0_0 (rd x8_1 x9_1)).f1) x11_2).f0) ((rd_T31 ((rd_T33 l0_0 (rd x8_1 x9_1)).f1) x11_2).f1) t320 _ ?side1 ?side2 A19.out).mono ?_
                 (case side1 => exact mC (Kd.C_below HR0_0.out HB.out))
                 (case side2 => exact HC0_0.out)
                 rintro e w28 ⟨rfl, hb⟩
                 refine ⟨_, rfl, ?_⟩
                 replace HO_6 := mS (Kd.R_below (mR HO_6.out) hb)
                 replace HO_8 := mS (Kd.R_below (mR HO_8.out) hb)
                 replace BK310 := mB BK310 hb
                 replace HB := mS (below_step (mH1 HB.out GE310.out) hb)
                 (try clear hb)
                 (try clear hb2)
                 (try clear hk)
                 (try clear hi)
                 refine hK.out _ _ ⟨mZ BK310.out 0, (mX HB.out hw319_0 :), (mX HB.out hw319_1 :)⟩ (fun hHeld => ?_)
                 clear hK K
                 refine mno 45 ?_
                 refine pure_ (i := 6) (N := some 12) (v := ?_) (a' := ?_) (mb 7 0) rfl rfl (by kernel_rfl) (fun _ _ _ h => h) (Or.inl ⟨by rfl, ?_⟩) ?_ ?_
                 rotate_left
                 ·intro w'
                  go_simp
                  with_reducible rfl
                 rotate_left
                 ·simp only [Act.put, zA, zB, zC, i64_w, i32_w]
                  rfl
                 refine done_ (by kernel_rfl) ?_
                 obtain ⟨Ao29, co29, eo29⟩ := Kd.R_slice HO_6.out
                 subst eo29
                 have p321 : 0 ≤ (t320 : Int) := mD
                 have q321 : t320 < (x6_2.length : Int) := mD
                 obtain ⟨ad321, e321, hx321_0⟩ := Kd.at_bool (Kd.R_reads' HO_6.out).2.2 t320 p321 q321
                 (try rw [← Nbq25.out] at hx321_0); (try rw [← Nbq25.out] at hw321_0)
                 cases e321
                 replace p321 := eq_true p321
                 replace q321 := eq_true q321
                 try go_wp2
                 go_roundg k2
                 case measure => have := HK1.out; have := HK2.out; omega
                 case rel => exact ⟨(x6_2), (x7_2), (x8_2), (wrap64 (x11_2 + 1)), mE, mE, H', ⟨by have := HK1.out; have := HK2.out; omega⟩, ⟨mR HO_6.out⟩, ⟨mR HO_8.out⟩, ⟨mK BK310.out⟩, ⟨(mH1 HB.out GE310.out)⟩⟩
                ·replace c26 := Bool.eq_false_iff.mpr c26
                 subst c26
                 have H1 := H
                 rw [if_neg (show ¬ (false = true) by decide)] at H1
                 clear H
                 have H := H1
                 clear H1
                 obtain ⟨y322, hy322⟩ : ∃ y_ : List Bool, y_ = (x6_2.set (t320 : Int).toNat true) := ⟨_, rfl⟩
                 replace H : (if x8_2.length < 17592186044416 then (spec_l8Reach.l1 k2 y322 x7_2 (x8_2 ++ [t320]) x9_1 ((rd_T33 l0_0 (rd x8_1 x9_1)).f1) (wrap64 (x11_2 + 1)) l0_0) else (none)) = some (r1, r2) := by first | (rw [hy322]; with_reducible exact H) | (have H2_ := (Option.bind_some _ _).symm.trans H; rw [hy322]; with_reducible exact H2_) | (have H2_ := (Option.bind_some _ _).symm.trans H; with_reducible exact H2_) | with_reducible exact H | (rw [hy322]; exact H) | exact H
                 have Ny322 := mS hy322
                 clear hy322
                 by_cases c31 : x8_2.length < 17592186044416
                 ·rw [if_pos c31] at H
                  have LMc31 := mS c31
                  clear c31
                  obtain ⟨y323, hy323⟩ : ∃ y_ : List Int, y_ = (x8_2 ++ [t320]) := ⟨_, rfl⟩
                  replace H : (spec_l8Reach.l1 k2 y322 x7_2 y323 x9_1 ((rd_T33 l0_0 (rd x8_1 x9_1)).f1) (wrap64 (x11_2 + 1)) l0_0) = some (r1, r2) := by first | (rw [hy323]; with_reducible exact H) | (have H2_ := (Option.bind_some _ _).symm.trans H; rw [hy323]; with_reducible exact H2_) | (have H2_ := (Option.bind_some _ _).symm.trans H; with_reducible exact H2_) | with_reducible exact H | (rw [hy323]; exact H) | exact H
                  have Ny323 := mS hy323
                  clear hy323
                  have H' := mS H
                  clear H
                  try go_wp2
                  replace HO_6 := mS (Kd.R_drew HO_6.out)
                  replace HO_8 := mS (Kd.R_drew HO_8.out)
                  replace BK310 := mS (blk_drew BK310.out)
                  replace HB := mS (below_drew1 HB.out)
                  have p319 : 0 ≤ (x11_2 : Int) := mD
                  have q319 : x11_2 < (((rd_T33 l0_0 (rd x8_1 x9_1)).f1).length : Int) := mD
                  obtain ⟨ad319, e319, hx319_0, hx319_1⟩ := at_T31 HR318_2.out x11_2 p319 q319
                  have hw319_1 := hx319_1
                  have hw319_0 := hx319_0
                  cases e319
                  replace hx319_0 := mX HB.out hx319_0
                  replace hx319_1 := mX HB.out hx319_1
                  replace p319 := eq_true p319
                  replace q319 := eq_true q319
                  refine start_ (n := 7) (S := fun w' => w'.cell? ⟨gb310, 0, none⟩ = some (.slice (some ad318) l0_0.length c0_0) ∧ w'.cell? (ad319.add ((x11_2).toNat * 2)) = some (.int .i64 ((rd_T31 ((rd_T33 l0_0 (rd x8_1 x9_1)).f1) x11_2).f0)) ∧ w'.cell? ⟨(ad319.add ((x11_2).toNat * 2)).block, (ad319.add ((x11_2).toNat * 2)).off + 1, none⟩ = some (.int .i64 ((rd_T31 ((rd_T33 l0_0 (rd x8_1 x9_1)).f1) x11_2).f1))) (ds := []) (mb 0 7) (by kernel_rfl) rfl rfl ⟨mZ BK310.out 0, (mX HB.out hw319_0 :), (mX HB.out hw319_1 :)⟩ (fun hHeld => ?_)
                  generalize wr.drew = w32 at HO_6 HO_8 BK310 HB hx319_0 hx319_1 hHeld ⊢
                  refine pure_ (i := 1) (N := some 41) (v := ?_) (a' := ?_) (mr [0,1,1,5]) rfl rfl (by kernel_rfl) (fun _ _ _ h => h) (Or.inl ⟨by rfl, ?_⟩) ?_ ?_
                  rotate_left
                  ·intro w'
                   go_simp
                   with_reducible rfl
                  rotate_left
                  ·simp only [Act.put, zA, zB, zC, i64_w, i32_w]
                   rfl
                  refine pure_ (i := 2) (N := some 42) (v := ?_) (a' := ?_) (mr [0,1,2,4]) rfl rfl (by kernel_rfl) (fun _ _ _ h => h) (Or.inl ⟨by rfl, ?_⟩) ?_ ?_
                  rotate_left
                  ·intro w'
                   go_simp
                   with_reducible rfl
                  rotate_left
                  ·simp only [Act.put, zA, zB, zC, i64_w, i32_w]
                   rfl
                  refine pure_ (i := 3) (N := some 43) (v := ?_) (a' := ?_) (mr [0,1,3,3]) rfl rfl (by kernel_rfl) (fun _ _ _ h => h) (Or.inl ⟨by rfl, ?_⟩) ?_ ?_
                  rotate_left
                  ·intro w'
                   go_simp
                   with_reducible rfl
                  rotate_left
                  ·simp only [Act.put, zA, zB, zC, i64_w, i32_w]
                   rfl
                  refine take_ (i := 0) (N := some 40) (v := ?_) (a' := ?_) (mb 4 3) rfl rfl (by kernel_rfl) (fun _ _ _ h => h) (Or.inl ⟨by rfl, ?_⟩) hHeld ?_ ?_
                  rotate_left
                  ·rintro w' ⟨s0, s1, s2⟩
                   go_simp
                   with_reducible rfl
                  rotate_left
                  ·simp only [Act.put, zA, zB, zC, i64_w, i32_w]
                   rfl
                  refine take_ (i := 4) (N := some 44) (v := ?_) (a' := ?_) (mb 5 2) rfl rfl (by kernel_rfl) (fun _ _ _ h => h) (Or.inl ⟨by rfl, ?_⟩) hHeld ?_ ?_
                  rotate_left
                  ·rintro w' ⟨s0, s1, s2⟩
                   go_simp
                   with_reducible rfl
                  rotate_left
                  ·simp only [Act.put, zA, zB, zC, i64_w, i32_w]
                   rfl
                  refine one_ (i := 5) (N := some 45) (mb 6 1) rfl rfl (by kernel_rfl) (by decide) (fun K hK => ?_)
                  refine goes_ Try.func72 (by kernel_rfl) rfl #[.agg #[.slice (some ad318) l0_0.length c0_0], .agg #[.int .i64 ((rd_T31 ((rd_T33 l0_0 (rd x8_1 x9_1)).f1) x11_2).f0), .int .i64 ((rd_T31 ((rd_T33 l0_0 (rd x8_1 x9_1)).f1) x11_2).f1)]] (by rfl) rfl rfl mA ?_
                  with_reducible refine (spec_l8At.calls k2 _ _ l0_0 ((rd_T31 ((rd_T33 l0_0 (rd x8_1 x9_1)).f1) x11_2).f0) ((rd_T31 ((rd_T33 l0_0 (rd x8_1 x9_1)).f1) x11_2).f1) t320 _ ?side1 ?side2 A19.out).mono ?_
                  (case side1 => exact mC (Kd.C_below HR0_0.out HB.out))
                  (case side2 => exact HC0_0.out)
                  rintro e w33 ⟨rfl, hb⟩
                  refine ⟨_, rfl, ?_⟩
                  replace HO_6 := mS (Kd.R_below (mR HO_6.out) hb)
                  replace HO_8 := mS (Kd.R_below (mR HO_8.out) hb)
                  replace BK310 := mB BK310 hb
                  replace HB := mS (below_step (mH1 HB.out GE310.out) hb)
                  (try clear hb)
                  (try clear hb2)
                  (try clear hk)
                  (try clear hi)
                  refine hK.out _ _ ⟨mZ BK310.out 0, (mX HB.out hw319_0 :), (mX HB.out hw319_1 :)⟩ (fun hHeld => ?_)
                  clear hK K
                  refine mno 45 ?_
                  refine pure_ (i := 6) (N := some 12) (v := ?_) (a' := ?_) (mb 7 0) rfl rfl (by kernel_rfl) (fun _ _ _ h => h) (Or.inl ⟨by rfl, ?_⟩) ?_ ?_
                  rotate_left
                  ·intro w'
                   go_simp
                   with_reducible rfl
                  rotate_left
                  ·simp only [Act.put, zA, zB, zC, i64_w, i32_w]
                   rfl
                  refine done_ (by kernel_rfl) ?_
                  obtain ⟨Ao34, co34, eo34⟩ := Kd.R_slice HO_6.out
                  subst eo34
                  have p321 : 0 ≤ (t320 : Int) := mD
                  have q321 : t320 < (x6_2.length : Int) := mD
                  obtain ⟨ad321, e321, hx321_0⟩ := Kd.at_bool (Kd.R_reads' HO_6.out).2.2 t320 p321 q321
                  (try rw [← Nbq25.out] at hx321_0); (try rw [← Nbq25.out] at hw321_0)
                  cases e321
                  replace p321 := eq_true p321
                  replace q321 := eq_true q321
                  have p30 : 0 ≤ (t320 : Int) := mD
                  have q30 : (t320 : Int) < ((x6_2.length : Int) : Int) := mD
                  obtain ⟨go30, co30, eo30, gb30, gl30, cl30, HG30⟩ := Kd.R_form HO_6.out (by omega)
                  (first | cases eo30 | (injection eo30 with ea_ en_ ec_; (first | subst ea_ | (injection ea_ with ea_; subst ea_)); subst ec_; clear en_))
                  have GB30 := mS gb30
                  have GG30 := mS HG30
                  clear gb30 gl30 HG30
                  (first | simp only [add_plain] at hx321_0 | skip)
                  obtain ⟨hx30_0, hf30_0⟩ := Kd.R_celln false HO_6.out (t320 : Int) p30 q30
                  replace p30 := eq_true p30
                  replace q30 := eq_true q30
                  obtain ⟨hy35_, hz35_⟩ := Kd.R_celln false HO_6.out (t320 : Int) (mD) (mD)
                  have HP35 := Kd.R_putg HO_6.out (t320 : Int) true
                  try go_wp2_with (first | ((with_reducible refine gate_store (t := 4) (p := 55) rfl ?_); refine store_event (t := 4) (p := 55) (v := ?vo_w36) (w1 := (w33.setCell ⟨go30, (t320 : Int).toNat, none⟩ (.bool true))) ?hg ?ho ?hn ?hr ?_; (case ho => rfl); (case hg => rfl); (case hn => rfl); (case hr => first | (go_simp; done) | (go_simp; rfl)); intro w36 hw; have hg : w33.grownBy w36 (some go30) := (by rw [hw]; exact HP35.2); have hp_ : Kd.R Kd.bool 4 w36 w.heap.size (fun _ => True) (.slice (some ⟨go30, 0, none⟩) x6_2.length co34) y322 := (by rw [hw, Ny322.out]; exact HP35.1); clear HP35; replace HO_8 := mS (Kd.R_over' (v := (.slice (some ⟨go30, 0, none⟩) x6_2.length co34)) (mR HO_8.out) (Kd.R_typed HO_6.out) (by decide) hg); replace BK310 := mS (blk_grown (g := gb310) (o := .cells #[.slice (some ad318) l0_0.length c0_0] 26 (0, 0)) (mK BK310.out) hg (Kd.R_ne HO_6.out BK310.out (by decide))); replace HO_6 := mS (hp_); replace HB := mS ((by rw [hw]; exact below_set (HB.out) GB30.out : Below w.heap.size w w36)); clear hg hw hp_) | ((with_reducible refine gate_builtin (b := .append) (xs := #[.tmp 56, .tmp 58]) rfl ?_); at_builtin; refine Kd.R_append (Kd.int .i64) (w0 := w) w.heap.size rfl (.tmp 56) (.tmp 58) 151 3 (.int .i64 0) 8 rfl Try.underlying151 info3 rfl (by decide) (by omega) u8 x8_2 t320 [.int .i64 t320] (fun _ => True) (fun _ => False) rfl rfl ?aP (fun _ hk => hk.elim) ?aF ?aO ?aB ?aS ?aL ?_; (case aP => exact rfl); (case aB => exact (mH1 HB.out GE310.out)); (case aF => exact (fun _ _ => trivial)); (case aO => exact (mR HO_8.out)); (case aS => exact (below_size (mH1 HB.out GE310.out))); (case aL => have := LMc31.out; omega); intro v324 w37 ho hb hg hat; rw [← Ny323.out] at ho; replace HO_6 := mS (Kd.R_over' (mR HO_6.out) (Kd.R_typed (mR HO_8.out)) (by decide) hg); replace BK310 := mS (blk_grown (g := gb310) (o := .cells #[.slice (some ad318) l0_0.length c0_0] 26 (0, 0)) (mK BK310.out) hg (Kd.R_ne HO_8.out BK310.out (by decide))); replace HB := mS (hb); have HO325 := mS (ho); clear HO_8; clear ho hb hg hat))
                  go_roundg k2
                  case measure => have := HK1.out; have := HK2.out; omega
                  case rel => exact ⟨(y322), (x7_2), (y323), (wrap64 (x11_2 + 1)), mE, mE, H', ⟨by have := HK1.out; have := HK2.out; omega⟩, ⟨mR HO_6.out⟩, ⟨mR HO325.out⟩, ⟨mK BK310.out⟩, ⟨(mH1 HB.out GE310.out)⟩⟩
                 ·rw [if_neg c31] at H
                  exact absurd H (by simp)
               ·rw [if_neg c24] at H
                exact absurd H (by simp)
              ·rw [if_neg c23] at H
               exact absurd H (by simp)
            ·rw [if_neg c18] at H
             exact absurd H (by simp)
           ·rw [if_neg c17] at H
            have c17b0 := decide_eq_false c17
            clear c17
            have H' := mS H
            clear H
            go_wp2
            go_roundg k2
            case measure => have := HK1.out; have := HK2.out; omega
            case rel => exact ⟨(x6_2), (x7_2), (x8_2), (wrap64 (x9_1 + 1)), mE, mE, H', ⟨by have := HK1.out; have := HK2.out; omega⟩, ⟨mR HO_6.out⟩, ⟨mR HO_8.out⟩, ⟨mK BK310.out⟩, ⟨(mH1 HB.out GE310.out)⟩⟩
        ·rw [if_neg c14] at H
         exact absurd H (by simp)
       ·rw [if_neg c13] at H
        exact absurd H (by simp)
      ·rw [if_neg c12] at H
       exact absurd H (by simp)
     ·rw [if_neg c11] at H
      have c11b0 := decide_eq_false c11
      clear c11
      simp only [Option.some.injEq, Prod.mk.injEq] at H
      obtain ⟨rfl, rfl⟩ := H
      obtain ⟨Ao38, co38, eo38⟩ := Kd.R_slice HO_8.out
      subst eo38
      go_wp2
      go_ret2
      exact ⟨_, mEw, mR HO_6.out, (mH1 HB.out GE310.out)⟩
  ·rw [if_neg c4] at H
   exact absurd H (by simp)
 ·rw [if_neg c3] at H
  exact absurd H (by simp)

/-! ### spec_l8All: function 81 -/
def spec_l8All.l0 : Nat → List (List Bool) → List Bool → Int → List (S33) → Option ((List (List Bool)) × List Bool)
 | 0, _, _, _, _ => none
 | k + 1, x4, x5, x6, x327000 => if x6 < (x327000.length : Int) then ((spec_l8Reach.f k x327000 x6).bind fun bt333 => (if x4.length < 5864062014805 then (if x5.length < 140737488355328 then (spec_l8All.l0 k (x4 ++ [bt333.1]) (x5 ++ [bt333.2]) (wrap64 (x6 + 1)) x327000) else (none)) else (none))) else (some (x4, x5))
def spec_l8All.f (k : Nat) (l0_0 : List (S33)) : Option ((List (List Bool)) × List Bool) := spec_l8All.l0 k (([] : List (List Bool))) (([] : List Bool)) 0 l0_0
theorem spec_l8All.mono_l : ∀ k, (∀ y0 y1 y2 y3, LeO (spec_l8All.l0 k y0 y1 y2 y3) (spec_l8All.l0 (k + 1) y0 y1 y2 y3))
 | 0 => fun _ _ _ _ r h => by simp [spec_l8All.l0] at h
 | k + 1 => by
  have ih0 := spec_l8All.mono_l k
  ·intro y0 y1 y2 y3
   unfold spec_l8All.l0
   repeat' first
   | (with_reducible exact ih0 _ _ _ _)
   | (with_reducible exact spec_l8Reach.mono _ _ _)
   | (with_reducible exact LeO.refl _)
   | (with_reducible exact LeO.none _)
   | (with_reducible refine LeO.ite ?_ ?_)
   | (with_reducible refine LeO.bind ?_ (fun _ => ?_))
   | exact ih0 _ _ _ _
   | exact spec_l8Reach.mono _ _ _
   | exact LeO.none _
   | refine LeO.ite ?_ ?_
   | refine LeO.bind ?_ (fun _ => ?_)
theorem spec_l8All.mono : ∀ a0 k, LeO (spec_l8All.f k a0) (spec_l8All.f (k + 1) a0) := by
 intro a0 k
 have ih0 := spec_l8All.mono_l k
 unfold spec_l8All.f
 repeat' first
   | (with_reducible exact ih0 _ _ _ _)
   | (with_reducible exact spec_l8Reach.mono _ _ _)
   | (with_reducible exact LeO.refl _)
   | (with_reducible exact LeO.none _)
   | (with_reducible refine LeO.ite ?_ ?_)
   | (with_reducible refine LeO.bind ?_ (fun _ => ?_))
   | exact ih0 _ _ _ _
   | exact spec_l8Reach.mono _ _ _
   | exact LeO.none _
   | refine LeO.ite ?_ ?_
   | refine LeO.bind ?_ (fun _ => ?_)
set_option maxHeartbeats 8000000 in
set_option maxRecDepth 100000 in
theorem spec_l8All.calls (k : Nat) (A0_0 : Option Addr) (c0_0 : Nat) (l0_0 : List (S33)) (r1 : List (List Bool)) (r2 : List Bool) (w : World) (hr0_0 : Kd.C k33 w A0_0 l0_0.length l0_0) (hc0_0 : l0_0.length ≤ c0_0) (h : spec_l8All.f k l0_0 = some (r1, r2)) :
  Calls Try.prog 81 #[.agg #[.slice A0_0 l0_0.length c0_0]] w fun e w' => ∃ v0_ v1_ : Value, e = .returned (.tuple #[v0_, v1_]) ∧ Kd.S (Kd.slice 4 Kd.bool) 105 w' w.heap.size (fun k_ => some k_ ≠ (v1_ : Value).ownBlock) v0_ r1 ∧ Kd.R Kd.bool 4 w' w.heap.size (fun _ => True) v1_ r2 ∧ Below w.heap.size w w' := by
 have hu26 := Try.underlying26
 have HR0_0 := mS hr0_0
 have HC0_0 := mS hc0_0
 clear hr0_0 hc0_0
 have HB := mS (Below.refl w.heap.size w)
 have H : (spec_l8All.l0 k (([] : List (List Bool))) (([] : List Bool)) 0 l0_0) = some (r1, r2) := h
 clear h
 obtain ⟨y327, hy327⟩ : ∃ y_ : List (List Bool), y_ = (([] : List (List Bool))) := ⟨_, rfl⟩
 replace H : (spec_l8All.l0 k y327 (([] : List Bool)) 0 l0_0) = some (r1, r2) := by first | (rw [hy327]; with_reducible exact H) | (have H2_ := (Option.bind_some _ _).symm.trans H; rw [hy327]; with_reducible exact H2_) | (have H2_ := (Option.bind_some _ _).symm.trans H; with_reducible exact H2_) | with_reducible exact H | (rw [hy327]; exact H) | exact H
 have Ny327 := mS hy327
 clear hy327
 obtain ⟨y330, hy330⟩ : ∃ y_ : List Bool, y_ = (([] : List Bool)) := ⟨_, rfl⟩
 replace H : (spec_l8All.l0 k y327 y330 0 l0_0) = some (r1, r2) := by first | (rw [hy330]; with_reducible exact H) | (have H2_ := (Option.bind_some _ _).symm.trans H; rw [hy330]; with_reducible exact H2_) | (have H2_ := (Option.bind_some _ _).symm.trans H; with_reducible exact H2_) | with_reducible exact H | (rw [hy330]; exact H) | exact H
 have Ny330 := mS hy330
 clear hy330
 have H' := mS H
 clear H
 go_enter Try.func81, Try.ntmps81
 go_wp2_with (first | ((with_reducible refine gate_dst (N := 1) rfl ?_); refine mBx 1 #[.slice A0_0 l0_0.length c0_0] 26 ?_; intro gb326 hg w2 hbox hb; have BK326 := mS (hbox); have GW326 := mG hg (mH HB.out); have GE326 := mG hg (mH HB.out); replace HB := mS (below_step (mH HB.out) hb); clear hb hbox hg) | ((with_reducible refine gate_dst (N := 9) rfl ?_); refine Kd.S_lit (Kd.slice 4 Kd.bool) _ 105 ?hg (N := 9) ?hd (xs := ([] : List (List Bool))) (inner := []) (ok := fun _ => True) (okp := fun _ => True) ?hr ?hp (fun _ hk => hk) trivial (Below.refl _ _) (Nat.le_refl _) (by simp) ?_; (case hd => rfl); (case hg => rfl); (case hr => first | (go_simp; done) | (go_simp; rfl)); (case hp => exact (Reps.none _ _)); intro v328 w3 ho4 hb hg_ hnew_; clear hg_ hnew_; (first | rw [← Ny327.out] at ho4 | (simp only [Int.reduceToNat] at ho4; rw [← Ny327.out] at ho4)); have HO329 := mS (Kd.S_lower ho4 (below_size (mH1 HB.out GE326.out))); replace BK326 := mB BK326 hb; replace HB := mS (below_step (mH1 HB.out GE326.out) hb); clear hb ho4) | ((with_reducible refine gate_dst (N := 10) rfl ?_); refine Kd.R_lit Kd.bool _ 4 ?hg (N := 10) ?hd (xs := ([] : List Bool)) (inner := []) (ok := fun _ => True) (okp := fun _ => True) ?hr ?hp (fun _ hk => hk) trivial (Below.refl _ _) (Nat.le_refl _) (by simp) ?_; (case hd => rfl); (case hg => rfl); (case hr => first | (go_simp; done) | (go_simp; rfl)); (case hp => exact (Reps.none _ _)); intro v331 w5 ho6 hb hg_ hnew_; clear hg_ hnew_; (first | rw [← Ny330.out] at ho6 | (simp only [Int.reduceToNat] at ho6; rw [← Ny330.out] at ho6)); replace HO329 := mS (Kd.S_elder' (mSd HO329.out) (Kd.R_base ho6) hb); have HO332 := mS (Kd.R_lower ho6 (below_size (mH1 HB.out GE326.out))); replace BK326 := mB BK326 hb; replace HB := mS (below_step (mH1 HB.out GE326.out) hb); clear hb ho6))
 go_loopg [4, 5, 6] k (fun kq v4 v5 v6 w' => ∃ (x4_1 : List (List Bool)) (x5_1 : List Bool) (x6_1 : Int), v6 = .int .i64 x6_1 ∧ Aside0 (spec_l8All.l0 kq x4_1 x5_1 x6_1 l0_0 = some (r1, r2)) ∧ Aside0 (kq ≤ k) ∧ Aside0 (Kd.S (Kd.slice 4 Kd.bool) 105 w' w.heap.size (fun k_ => some k_ ≠ (v5 : Value).ownBlock) v4 x4_1) ∧ Aside0 (Kd.R Kd.bool 4 w' w.heap.size (fun _ => True) v5 x5_1) ∧ Aside0 (w'.heap[gb326]? = some (.cells #[(.slice A0_0 l0_0.length c0_0)] 26 (0, 0))) ∧ Aside0 (Below w.heap.size w w'))
 case atStart => exact ⟨(y327), (y330), (0), mE, H', ⟨Nat.le_refl _⟩, ⟨by refine mSd ?_; exact Kd.S_mono HO329.out (fun _ hk => hk.2)⟩, ⟨mR HO332.out⟩, ⟨mK BK326.out⟩, ⟨(mH1 HB.out GE326.out)⟩⟩
 case round =>
  clear H'
  try clear p2
  obtain ⟨x4_1, x5_1, x6_1, rfl, HA, HK1, HO_4, HO_5, BK326, HB⟩ := hrel
  cases gk with
  | zero => exact absurd HA.out (by simp [spec_l8All.l0])
  | succ k1 =>
   have H := HA.out
   clear HA
   simp only [spec_l8All.l0] at H
   by_cases c7 : x6_1 < (l0_0.length : Int)
   ·rw [if_pos c7] at H
    have c7b0 := decide_eq_true c7
    clear c7
    replace H := Option.bind_eq_some_iff.mp H
    obtain ⟨⟨t333, t336⟩, A80, H⟩ := H
    replace H : (if x4_1.length < 5864062014805 then (if x5_1.length < 140737488355328 then (spec_l8All.l0 k1 (x4_1 ++ [t333]) (x5_1 ++ [t336]) (wrap64 (x6_1 + 1)) l0_0) else (none)) else (none)) = some (r1, r2) := H
    have A8 := mS A80
    clear A80
    by_cases c9 : x4_1.length < 5864062014805
    ·rw [if_pos c9] at H
     have LMc9 := mS c9
     clear c9
     obtain ⟨y337, hy337⟩ : ∃ y_ : List (List Bool), y_ = (x4_1 ++ [t333]) := ⟨_, rfl⟩
     replace H : (if x5_1.length < 140737488355328 then (spec_l8All.l0 k1 y337 (x5_1 ++ [t336]) (wrap64 (x6_1 + 1)) l0_0) else (none)) = some (r1, r2) := by first | (rw [hy337]; with_reducible exact H) | (have H2_ := (Option.bind_some _ _).symm.trans H; rw [hy337]; with_reducible exact H2_) | (have H2_ := (Option.bind_some _ _).symm.trans H; with_reducible exact H2_) | with_reducible exact H | (rw [hy337]; exact H) | exact H
     have Ny337 := mS hy337
     clear hy337
     by_cases c10 : x5_1.length < 140737488355328
     ·rw [if_pos c10] at H
      have LMc10 := mS c10
      clear c10
      obtain ⟨y340, hy340⟩ : ∃ y_ : List Bool, y_ = (x5_1 ++ [t336]) := ⟨_, rfl⟩
      replace H : (spec_l8All.l0 k1 y337 y340 (wrap64 (x6_1 + 1)) l0_0) = some (r1, r2) := by first | (rw [hy340]; with_reducible exact H) | (have H2_ := (Option.bind_some _ _).symm.trans H; rw [hy340]; with_reducible exact H2_) | (have H2_ := (Option.bind_some _ _).symm.trans H; with_reducible exact H2_) | with_reducible exact H | (rw [hy340]; exact H) | exact H
      have Ny340 := mS hy340
      clear hy340
      have H' := mS H
      clear H
      have hcz11_0 := mZ BK326.out 0
      have hfz11_0 := blk_frozen BK326.out 0
      go_wp2_with (first | ((with_reducible refine gate_callee (f := 116) rfl ?_); refine mGo 21 Try.func116 #[.agg #[.slice A0_0 l0_0.length c0_0], .int .i64 x6_1] ?_; (with_reducible refine (spec_l8Reach.calls k1 _ _ l0_0 x6_1 t333 t336 _ ?side1 ?side2 A8.out).mono ?_); (case side1 => exact mC (Kd.C_below HR0_0.out HB.out)); (case side2 => exact HC0_0.out); rintro e w12 ⟨v334, rfl, ho0, hb⟩; refine ⟨_, rfl, ?_⟩; replace HO_4 := mS (Kd.S_elder' (mSd HO_4.out) (Kd.R_base ho0) hb); have HO335 := mS (Kd.R_lower (Kd.R_new' ho0 (Kd.R_lt (mR HO_5.out))) (below_size (mH1 HB.out GE326.out))); replace HO_5 := mS (Kd.R_elder' (mR HO_5.out) (Kd.R_base ho0) hb); replace BK326 := mB BK326 hb; replace HB := mS (below_step (mH1 HB.out GE326.out) hb); (try clear hb); (try clear ho0); obtain ⟨Ao14, co14, eo14⟩ := Kd.R_slice HO335.out; subst eo14) | ((with_reducible refine gate_builtin (b := .append) (xs := #[.tmp 24, .tmp 26]) rfl ?_); at_builtin; refine Kd.S_append (Kd.slice 4 Kd.bool) (w0 := w) w.heap.size rfl (.tmp 24) (.tmp 26) 104 105 (.slice none 0 0) 24 rfl Try.underlying104 info105 rfl (by decide) (by omega) u4 x4_1 t333 [.slice Ao14 t333.length co14] (fun k_ => some k_ ≠ (u5 : Value).ownBlock) (fun k_ => some k_ = (.slice Ao14 t333.length co14 : Value).ownBlock) rfl rfl ?aP (fun k_ hk_ => ((Kd.R_mono (ok' := fun k_ => ((fun k_ => some k_ ≠ (u5 : Value).ownBlock)) k_ ∧ some k_ ≠ (u4 : Value).ownBlock) (Kd.R_apart' (HO335.out) (Kd.S_typed HO_4.out) (by decide)) (fun k_ hk => ⟨hk.1.2, hk.2⟩))).1 k_ hk_.symm) ?aF ?aO ?aB ?aS ?aL ?_; (case aP => exact Kd.M_row (Kd.R_mono (Kd.R_tight rfl (Kd.R_mono (ok' := fun k_ => ((fun k_ => some k_ ≠ (u5 : Value).ownBlock)) k_ ∧ some k_ ≠ (u4 : Value).ownBlock) (Kd.R_apart' (HO335.out) (Kd.S_typed HO_4.out) (by decide)) (fun k_ hk => ⟨hk.1.2, hk.2⟩))) (fun _ h_ => h_))); (case aB => exact (mH1 HB.out GE326.out)); (case aF => exact (fun k_ hk => Kd.fresh' (Kd.R_lt (mR HO_5.out)) k_ hk)); (case aO => exact (by refine mSd ?_; exact Kd.S_mono HO_4.out (fun k_ hk => ⟨hk.1, fun e_ => hk.2 e_⟩))); (case aS => exact (below_size (mH1 HB.out GE326.out))); (case aL => have := LMc9.out; omega); intro v338 w13 ho hb hg hat; rw [← Ny337.out] at ho; replace HO_5 := mS (Kd.R_over' (mR HO_5.out) (Kd.S_typed (mSd HO_4.out)) (by decide) hg); replace BK326 := mS (blk_grown (g := gb326) (o := .cells #[.slice A0_0 l0_0.length c0_0] 26 (0, 0)) (mK BK326.out) hg (Kd.S_ne HO_4.out BK326.out (by decide))); replace HB := mS (hb); have HO339 := mS (ho); clear HO_4; clear HO335; clear ho hb hg hat) | ((with_reducible refine gate_builtin (b := .append) (xs := #[.tmp 28, .tmp 30]) rfl ?_); at_builtin; refine Kd.R_append Kd.bool (w0 := w) w.heap.size rfl (.tmp 28) (.tmp 30) 105 4 (.bool false) 1 rfl Try.underlying105 info4 rfl (by decide) (by omega) u5 x5_1 t336 [.bool t336] (fun _ => True) (fun _ => False) rfl rfl ?aP (fun _ hk => hk.elim) ?aF ?aO ?aB ?aS ?aL ?_; (case aP => exact rfl); (case aB => exact (mH1 HB.out GE326.out)); (case aF => exact (fun _ _ => trivial)); (case aO => exact (by refine mR ?_; exact Kd.R_mono HO_5.out (fun _ hk => trivial))); (case aS => exact (below_size (mH1 HB.out GE326.out))); (case aL => have := LMc10.out; omega); intro v341 w15 ho hb hg hat; rw [← Ny340.out] at ho; replace BK326 := mS (blk_grown (g := gb326) (o := .cells #[.slice A0_0 l0_0.length c0_0] 26 (0, 0)) (mK BK326.out) hg (Kd.R_ne HO_5.out BK326.out (by decide))); replace HO339 := mS (Kd.S_after (ok := (fun _ => True)) (by refine mSd ?_; exact Kd.S_mono HO339.out (fun _ hk => ⟨trivial, hk⟩)) hg hat); replace HB := mS (hb); have HO342 := mS (ho); clear HO_5; clear ho hb hg hat))
      go_roundg k1
      case measure => have := HK1.out; omega
      case rel => exact ⟨(y337), (y340), (wrap64 (x6_1 + 1)), mE, H', ⟨by have := HK1.out; omega⟩, ⟨by refine mSd ?_; exact Kd.S_mono HO339.out (fun _ hk => hk.2)⟩, ⟨mR HO342.out⟩, ⟨mK BK326.out⟩, ⟨(mH1 HB.out GE326.out)⟩⟩
     ·rw [if_neg c10] at H
      exact absurd H (by simp)
    ·rw [if_neg c9] at H
     exact absurd H (by simp)
   ·rw [if_neg c7] at H
    have c7b0 := decide_eq_false c7
    clear c7
    simp only [Option.some.injEq, Prod.mk.injEq] at H
    obtain ⟨rfl, rfl⟩ := H
    have hcz16_0 := mZ BK326.out 0
    have hfz16_0 := blk_frozen BK326.out 0
    go_wp2
    go_ret2
    exact ⟨_, _, mEw, mSd HO_4.out, mR HO_5.out, (mH1 HB.out GE326.out)⟩

end Go.Proofs.Ytgbejjeephipeaa.MFnExactOrderOf
