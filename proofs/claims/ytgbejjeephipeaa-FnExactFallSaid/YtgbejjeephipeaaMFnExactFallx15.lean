-- Written by mp.py, our own printer (wip/mp.py), and made shorter by wip/mp_shrink*.py.
import Derived.Test.YtgbejjeephipeaaVMShort
import Derived.Test.YtgbejjeephipeaaMFnExactFallx0
import Derived.Test.YtgbejjeephipeaaMFnExactFallx11
import Derived.Test.YtgbejjeephipeaaMFnExactFallx13
import Derived.Test.YtgbejjeephipeaaMFnExactFallx14
namespace Go.Proofs.Ytgbejjeephipeaa.MFnExactFall
open Go.RowKit Go.Proofs.YtgbejjeephipeaaW.PrintWords Go.Proofs.YtgbejjeephipeaaW.PrintLast Go.Proofs.YtgbejjeephipeaaW.PrintMore Go.Proofs.Ytgbejjeephipeaa.MWords
attribute [local go_sem] max2_int min2_int max_two min_two max_three min_three max_four min_four
set_option linter.unusedVariables false
set_option linter.unusedSimpArgs false
mutual
def impl_Fall.j0 : Nat → Int → Bool → List (S120) → List (S126) → List (S126) → Int → Option ((List (S120)) × (List (S126)) × (List (S126)) × Int)
 | 0, _, _, _, _, _, _ => none
 | k + 1, x1, x15, x358000, x358001, x358002, x358003 => if x15 = true then ((impl_copyDisk.f k x358000 x358001 x358002 x358003).bind fun bt360 => (some (bt360.1, bt360.2.1, bt360.2.2.1, bt360.2.2.2))) else (if ([] : List (S126)).length + x358002.length < 5864062014805 then (impl_Fall.l0 k x1 x358000 (x358000.length : Int) 0 x358000 x358001 x358002 x358003 ([] : List (S120)) (([] : List (S126)) ++ x358002) (([] : List (S126)) ++ x358002) x358003) else (none))
def impl_Fall.l0 : Nat → Int → List (S120) → Int → Int → List (S120) → List (S126) → List (S126) → Int → List (S120) → List (S126) → List (S126) → Int → Option ((List (S120)) × (List (S126)) × (List (S126)) × Int)
 | 0, _, _, _, _, _, _, _, _, _, _, _, _ => none
 | k + 1, x1, x28, x29, x30, x358000, x358001, x358002, x358003, x377000, x377001, x377002, x377003 => if x30 < x29 then (if 0 ≤ x30 then (if x30 < (x28.length : Int) then ((impl_hasId.f k x358002 ((rd_T120 x28 x30).f0)).bind fun t379 => (if t379 = true then (if 0 ≤ (wrap64 (((rd_T120 x28 x30).f2) + (mn x1 (wrap64 ((((rd_T120 x28 x30).f1).length : Int) - ((rd_T120 x28 x30).f2)))))) then (if (wrap64 (((rd_T120 x28 x30).f2) + (mn x1 (wrap64 ((((rd_T120 x28 x30).f1).length : Int) - ((rd_T120 x28 x30).f2)))))) ≤ (((rd_T120 x28 x30).f1).length : Int) then ((impl_copyBytes.f (((rd_T120 x28 x30).f1).take ((wrap64 (((rd_T120 x28 x30).f2) + (mn x1 (wrap64 ((((rd_T120 x28 x30).f1).length : Int) - ((rd_T120 x28 x30).f2)))))) : Int).toNat)).bind fun t381 => (if x377000.length < 3518437208883 then (impl_Fall.l0 k x1 x28 x29 (wrap64 (x30 + 1)) x358000 x358001 x358002 x358003 (x377000 ++ [(⟨(rd_T120 x28 x30).f0, t381, wrap64 (((rd_T120 x28 x30).f2) + (mn x1 (wrap64 ((((rd_T120 x28 x30).f1).length : Int) - ((rd_T120 x28 x30).f2)))))⟩ : S120)]) x377001 x377002 x377003) else (none))) else (none)) else (none)) else (impl_Fall.l0 k x1 x28 x29 (wrap64 (x30 + 1)) x358000 x358001 x358002 x358003 x377000 x377001 x377002 x377003))) else (none)) else (none)) else (some (x377000, x377001, x377002, x377003))
end
def impl_Fall.f (k : Nat) (l0_0 : List (S120)) (l0_1 : List (S126)) (l0_2 : List (S126)) (a0_3 : Int) (a1 : Int) : Option ((List (S120)) × (List (S126)) × (List (S126)) × Int) := (impl_DiskOk.f k l0_0 l0_1 l0_2 a0_3).bind fun t359 => (if t359 = true then (impl_Fall.j0 k a1 (decide (a1 < 0)) l0_0 l0_1 l0_2 a0_3) else (impl_Fall.j0 k a1 true l0_0 l0_1 l0_2 a0_3))
def impl_Fall.T3 : Bool × List (List Nat × List Nat) := (true, [([], []), ([0], [0]), ([1], [1]), ([], []), ([3], [3]), ([4, 2], [4]), ([], []), ([6], [6]), ([2, 5, 7], [2, 5, 7]), ([], []), ([9, 8, 5, 0, 1, 2, 3, 4, 5, 6, 7, 8, 9], [8, 9])])
def impl_Fall.B3 : List Nat := [0, 1, 3, 0, 8, 31, 0, 64, 255, 0, 1023]
theorem impl_Fall.tab3 : rtab .any (opsOf Try.f58 3) = impl_Fall.T3 := by kernel_rfl
theorem impl_Fall.bits3 : waitsOk impl_Fall.T3.2 impl_Fall.B3 = true := by kernel_rfl
def impl_Fall.T9 : Bool × List (List Nat × List Nat) := (true, [([], []), ([0], [0]), ([], []), ([2], [2]), ([], []), ([4], [4]), ([], []), ([5, 6], [5, 6]), ([7], [7]), ([], []), ([3, 8, 9], [3, 8, 9]), ([10], [10]), ([1, 11, 8], [1, 11]), ([0, 1, 2, 3, 4, 5, 6, 7, 8, 9, 10, 11, 12], []), ([13, 12, 12, 0, 1, 2, 3, 4, 5, 6, 7, 8, 9, 10, 11, 12], [12, 13])])
def impl_Fall.B9 : List Nat := [0, 1, 0, 4, 0, 16, 0, 112, 240, 0, 1020, 2044, 4095, 8191, 16383]
theorem impl_Fall.tab9 : rtab .any (opsOf Try.f58 9) = impl_Fall.T9 := by kernel_rfl
theorem impl_Fall.bits9 : waitsOk impl_Fall.T9.2 impl_Fall.B9 = true := by kernel_rfl
set_option maxHeartbeats 8000000 in
set_option maxRecDepth 100000 in
theorem impl_Fall.calls (k : Nat) (A0_0 : Option Addr) (c0_0 : Nat) (l0_0 : List (S120)) (A0_1 : Option Addr) (c0_1 : Nat) (l0_1 : List (S126)) (A0_2 : Option Addr) (c0_2 : Nat) (l0_2 : List (S126)) (a0_3 : Int) (a1 : Int) (r1 : List (S120)) (r2 : List (S126)) (r3 : List (S126)) (r4 : Int) (w : World) (hr0_0 : Kd.C k120 w A0_0 l0_0.length l0_0) (hc0_0 : l0_0.length ≤ c0_0) (hr0_1 : Kd.C k126 w A0_1 l0_1.length l0_1) (hc0_1 : l0_1.length ≤ c0_1) (hr0_2 : Kd.C k126 w A0_2 l0_2.length l0_2) (hc0_2 : l0_2.length ≤ c0_2) (h : impl_Fall.f k l0_0 l0_1 l0_2 a0_3 a1 = some (r1, r2, r3, r4)) :
  Calls Try.prog 58 #[.agg #[.slice A0_0 l0_0.length c0_0, .slice A0_1 l0_1.length c0_1, .slice A0_2 l0_2.length c0_2, .int .i64 a0_3], .int .i64 a1] w fun e w' => ∃ v0_ v1_ v2_ : Value, e = .returned (.agg #[v0_, v1_, v2_, .int .i64 r4]) ∧ Kd.S k120 120 w' w.heap.size (fun _ => True) v0_ r1 ∧ Kd.R k126 126 w' w.heap.size (fun k_ => some k_ ≠ (v2_ : Value).ownBlock) v1_ r2 ∧ Kd.R k126 126 w' w.heap.size (fun k_ => some k_ ≠ (v1_ : Value).ownBlock) v2_ r3 ∧ Below w.heap.size w w' := by
 have hu63 := Try.underlying63
 have hu120 := Try.underlying120
 have HR0_0 := mS hr0_0
 have HC0_0 := mS hc0_0
 clear hr0_0 hc0_0
 have HR0_1 := mS hr0_1
 have HC0_1 := mS hc0_1
 clear hr0_1 hc0_1
 have HR0_2 := mS hr0_2
 have HC0_2 := mS hc0_2
 clear hr0_2 hc0_2
 have HB := mS (Below.refl w.heap.size w)
 have H : ((impl_DiskOk.f k l0_0 l0_1 l0_2 a0_3).bind fun t359 => (if t359 = true then (impl_Fall.j0 k a1 (decide (a1 < 0)) l0_0 l0_1 l0_2 a0_3) else (impl_Fall.j0 k a1 true l0_0 l0_1 l0_2 a0_3))) = some (r1, r2, r3, r4) := h
 clear h
 have HC3 := mS H
 clear H
 go_enter Try.func58, Try.ntmps58
 go_upto_region 1 with (first | ((with_reducible refine gate_dst (N := 2) rfl ?_); refine mBx 2 #[.slice A0_0 l0_0.length c0_0, .slice A0_1 l0_1.length c0_1, .slice A0_2 l0_2.length c0_2, .int .i64 a0_3] 63 ?_; intro gb357 hg w4 hbox hb; have BK357 := mS (hbox); have GW357 := mG hg (mH HB.out); have GE357 := mG hg (mH HB.out); replace HB := mS (below_step (mH HB.out) hb); clear hb hbox hg) | ((with_reducible refine gate_dst (N := 4) rfl ?_); refine mBx 4 #[.slice none 0 0, .slice none 0 0, .slice none 0 0, .int .i64 0] 63 ?_; intro gb358 hg w5 hbox hb; have BK358 := mS (hbox); have GW358 := mG hg (mH1 HB.out GE357.out); have GE358 := mG hg (mH1 HB.out GE357.out); replace HB := mS (below_step (mH1 HB.out GE357.out) hb); have NB357_358 := mNl hg BK357.out; have NB358_357 := mNg hg BK357.out; replace BK357 := mB BK357 hb; clear hb hbox hg))
 (try simp only [Act.put, zA, zB, zC])
 go_cut [15] (fun v15 wc => ∃ (kq : Nat) (x15_2 : Bool), v15 = .bool x15_2 ∧ Aside0 (impl_Fall.j0 kq a1 x15_2 l0_0 l0_1 l0_2 a0_3 = some (r1, r2, r3, r4)) ∧ Aside0 (kq ≤ k) ∧ Aside0 (wc.heap[gb357]? = some (.cells #[(.slice A0_0 l0_0.length c0_0), (.slice A0_1 l0_1.length c0_1), (.slice A0_2 l0_2.length c0_2), .int .i64 a0_3] 63 (0, 0))) ∧ Aside0 (wc.heap[gb358]? = some (.cells #[(.slice none 0 0), (.slice none 0 0), (.slice none 0 0), .int .i64 0] 63 (0, 0))) ∧ Aside0 (Below w.heap.size w wc))
 case first =>
  have H := HC3.out
  clear HC3
  replace H := Option.bind_eq_some_iff.mp H
  obtain ⟨t359, A60, H⟩ := H
  replace H : (if t359 = true then (impl_Fall.j0 k a1 (decide (a1 < 0)) l0_0 l0_1 l0_2 a0_3) else (impl_Fall.j0 k a1 true l0_0 l0_1 l0_2 a0_3)) = some (r1, r2, r3, r4) := H
  have A6 := mS A60
  clear A60
  by_cases c7 : t359 = true
  ·subst c7
   have H1 := H
   rw [if_pos rfl] at H1
   clear H
   have H := H1
   clear H1
   have H' := mS H
   clear H
   have hnb8 := NB357_358.out
   have hnc8 := NB358_357.out
   obtain ⟨hcz9_0, hcz9_1, hcz9_2, hcz9_3, hfz9_0, hfz9_1, hfz9_2, hfz9_3⟩ := mZ4 BK357.out
   go_wp2_with (first | ((with_reducible refine gate_callee (f := 46) rfl ?_); refine mGo 10 Try.func46 #[.agg #[.slice A0_0 l0_0.length c0_0, .slice A0_1 l0_1.length c0_1, .slice A0_2 l0_2.length c0_2, .int .i64 a0_3]] ?_; (with_reducible refine (impl_DiskOk.calls k _ _ l0_0 _ _ l0_1 _ _ l0_2 a0_3 true _ ?side1 ?side2 ?side3 ?side4 ?side5 ?side6 A6.out).mono ?_); (case side1 => exact mC (Kd.C_below HR0_0.out HB.out)); (case side2 => exact HC0_0.out); (case side3 => exact mC (Kd.C_below HR0_1.out HB.out)); (case side4 => exact HC0_1.out); (case side5 => exact mC (Kd.C_below HR0_2.out HB.out)); (case side6 => exact HC0_2.out); rintro e w10 ⟨rfl, hb⟩; refine ⟨_, rfl, ?_⟩; replace BK357 := mB BK357 hb; replace BK358 := mB BK358 hb; replace HB := mS (below_step (mH2 HB.out GE357.out GE358.out) hb); (try clear hb)))
   go_meet
   case rel => exact ⟨_, (decide (a1 < 0)), mE, H', ⟨by first | omega | exact Nat.le_refl _⟩, ⟨mK BK357.out⟩, ⟨mK BK358.out⟩, ⟨(mH2 HB.out GE357.out GE358.out)⟩⟩
  ·replace c7 := Bool.eq_false_iff.mpr c7
   subst c7
   have H1 := H
   rw [if_neg (show ¬ (false = true) by decide)] at H1
   clear H
   have H := H1
   clear H1
   have H' := mS H
   clear H
   have hnb11 := NB357_358.out
   have hnc11 := NB358_357.out
   obtain ⟨hcz12_0, hcz12_1, hcz12_2, hcz12_3, hfz12_0, hfz12_1, hfz12_2, hfz12_3⟩ := mZ4 BK357.out
   go_wp2_with (first | ((with_reducible refine gate_callee (f := 46) rfl ?_); refine mGo 10 Try.func46 #[.agg #[.slice A0_0 l0_0.length c0_0, .slice A0_1 l0_1.length c0_1, .slice A0_2 l0_2.length c0_2, .int .i64 a0_3]] ?_; (with_reducible refine (impl_DiskOk.calls k _ _ l0_0 _ _ l0_1 _ _ l0_2 a0_3 false _ ?side1 ?side2 ?side3 ?side4 ?side5 ?side6 A6.out).mono ?_); (case side1 => exact mC (Kd.C_below HR0_0.out HB.out)); (case side2 => exact HC0_0.out); (case side3 => exact mC (Kd.C_below HR0_1.out HB.out)); (case side4 => exact HC0_1.out); (case side5 => exact mC (Kd.C_below HR0_2.out HB.out)); (case side6 => exact HC0_2.out); rintro e w13 ⟨rfl, hb⟩; refine ⟨_, rfl, ?_⟩; replace BK357 := mB BK357 hb; replace BK358 := mB BK358 hb; replace HB := mS (below_step (mH2 HB.out GE357.out GE358.out) hb); (try clear hb)))
   go_meet
   case rel => exact ⟨_, (true), mE, H', ⟨by first | omega | exact Nat.le_refl _⟩, ⟨mK BK357.out⟩, ⟨mK BK358.out⟩, ⟨(mH2 HB.out GE357.out GE358.out)⟩⟩
 case rest =>
  clear HC3
  try clear c1
  try clear p2
  try clear c4
  try clear c5
  try clear c7
  try clear c8
  try clear c11
  try clear hcz12_0
  try clear hcz12_1
  try clear hcz12_2
  try clear hcz12_3
  try clear hcz9_0
  try clear hcz9_1
  try clear hcz9_2
  try clear hcz9_3
  try clear hfz12_0
  try clear hfz12_1
  try clear hfz12_2
  try clear hfz12_3
  try clear hfz9_0
  try clear hfz9_1
  try clear hfz9_2
  try clear hfz9_3
  obtain ⟨kq, x15_2, rfl, HA, HJ2, BK357, BK358, HB⟩ := hcut
  cases kq with
  | zero => exact absurd HA.out (by simp [impl_Fall.j0])
  | succ kj2 =>
   have H := HA.out
   clear HA
   simp only [impl_Fall.j0] at H
   by_cases c14 : x15_2 = true
   ·subst c14
    have H1 := H
    rw [if_pos rfl] at H1
    clear H
    have H := H1
    clear H1
    replace H := Option.bind_eq_some_iff.mp H
    obtain ⟨⟨t360, t363, t366, t369⟩, A150, H⟩ := H
    replace H : (some (t360, t363, t366, t369)) = some (r1, r2, r3, r4) := H
    have A15 := mS A150
    clear A150
    simp only [Option.some.injEq, Prod.mk.injEq] at H
    obtain ⟨rfl, rfl, rfl, rfl⟩ := H
    have hnb16 := NB357_358.out
    have hnc16 := NB358_357.out
    obtain ⟨hcz17_0, hcz17_1, hcz17_2, hcz17_3, hfz17_0, hfz17_1, hfz17_2, hfz17_3⟩ := mZ4 BK357.out
    go_wp2_with (first | ((with_reducible refine gate_callee (f := 110) rfl ?_); refine mGo 17 Try.func110 #[.agg #[.slice A0_0 l0_0.length c0_0, .slice A0_1 l0_1.length c0_1, .slice A0_2 l0_2.length c0_2, .int .i64 a0_3]] ?_; (with_reducible refine (impl_copyDisk.calls kj2 _ _ l0_0 _ _ l0_1 _ _ l0_2 a0_3 t360 t363 t366 t369 _ ?side1 ?side2 ?side3 ?side4 ?side5 ?side6 A15.out).mono ?_); (case side1 => exact mC (Kd.C_below HR0_0.out HB.out)); (case side2 => exact HC0_0.out); (case side3 => exact mC (Kd.C_below HR0_1.out HB.out)); (case side4 => exact HC0_1.out); (case side5 => exact mC (Kd.C_below HR0_2.out HB.out)); (case side6 => exact HC0_2.out); rintro e w18 ⟨v361, v364, v367, rfl, ho0, ho1, ho2, hb⟩; refine ⟨_, rfl, ?_⟩; have HO362 := mS (Kd.S_lower ho0 (below_size (mH2 HB.out GE357.out GE358.out))); have HO365 := mS (Kd.R_lower ho1 (below_size (mH2 HB.out GE357.out GE358.out))); have HO368 := mS (Kd.R_lower ho2 (below_size (mH2 HB.out GE357.out GE358.out))); replace BK357 := mB BK357 hb; replace BK358 := mB BK358 hb; replace HB := mS (below_step (mH2 HB.out GE357.out GE358.out) hb); (try clear hb); (try clear ho0); (try clear ho1); (try clear ho2); obtain ⟨Ao19, co19, eo19⟩ := Kd.S_slice HO362.out; subst eo19; obtain ⟨hcz20_0, hcz20_1, hcz20_2, hcz20_3, hfz20_0, hfz20_1, hfz20_2, hfz20_3⟩ := mZ4 BK358.out; obtain ⟨Ao21, co21, eo21⟩ := Kd.R_slice HO365.out; subst eo21; obtain ⟨Ao22, co22, eo22⟩ := Kd.R_slice HO368.out; subst eo22))
    refine bodyPost_ret (results_cell_row rfl _ _ gb358 63 #[.slice Ao19 t360.length co19, .slice Ao21 t363.length co21, .slice Ao22 t366.length co22, .int .i64 t369] (0, 0) _ rfl (by refine mK ?_; refine blk_put (cs := #[.slice Ao19 t360.length co19, .slice Ao21 t363.length co21, .slice Ao22 t366.length co22, .int .i64 0]) ?_ 3 _ rfl; refine mK ?_; refine blk_put (cs := #[.slice Ao19 t360.length co19, .slice Ao21 t363.length co21, .slice none 0 0, .int .i64 0]) ?_ 2 _ rfl; refine mK ?_; refine blk_put (cs := #[.slice Ao19 t360.length co19, .slice none 0 0, .slice none 0 0, .int .i64 0]) ?_ 1 _ rfl; refine mK ?_; refine blk_put (cs := #[.slice none 0 0, .slice none 0 0, .slice none 0 0, .int .i64 0]) ?_ 0 _ rfl; refine mK ?_; exact BK358.out) Try.underlying63 rfl (by kernel_rfl)) rfl ?_
    exact ⟨_, _, _, mEw, by refine mSd ?_; exact Kd.S_mono (mSf4 (Kd.S_types HO362.out BK358.out (by decide))) (fun _ hk => trivial), by refine mR ?_; exact Kd.R_mono (mRf4 (Kd.R_types HO365.out BK358.out (by decide))) (fun _ hk => hk.1), by refine mR ?_; exact Kd.R_mono (mRf4 (Kd.R_types HO368.out BK358.out (by decide))) (fun _ hk => hk.1), (mH2 HB.out GE357.out GE358.out)⟩
   ·replace c14 := Bool.eq_false_iff.mpr c14
    subst c14
    have H1 := H
    rw [if_neg (show ¬ (false = true) by decide)] at H1
    clear H
    have H := H1
    clear H1
    by_cases c23 : ([] : List (S126)).length + l0_2.length < 5864062014805
    ·rw [if_pos c23] at H
     have LMc23 := mS c23
     clear c23
     obtain ⟨y370, hy370⟩ : ∃ y_ : List (S126), y_ = (([] : List (S126)) ++ l0_2) := ⟨_, rfl⟩
     replace H : (impl_Fall.l0 kj2 a1 l0_0 (l0_0.length : Int) 0 l0_0 l0_1 l0_2 a0_3 ([] : List (S120)) y370 (([] : List (S126)) ++ l0_2) a0_3) = some (r1, r2, r3, r4) := by first | (rw [hy370]; with_reducible exact H) | (have H2_ := (Option.bind_some _ _).symm.trans H; rw [hy370]; with_reducible exact H2_) | (have H2_ := (Option.bind_some _ _).symm.trans H; with_reducible exact H2_) | with_reducible exact H | (rw [hy370]; exact H) | exact H
     have Ny370 := mS hy370
     clear hy370
     obtain ⟨y373, hy373⟩ : ∃ y_ : List (S126), y_ = (([] : List (S126)) ++ l0_2) := ⟨_, rfl⟩
     replace H : (impl_Fall.l0 kj2 a1 l0_0 (l0_0.length : Int) 0 l0_0 l0_1 l0_2 a0_3 ([] : List (S120)) y370 y373 a0_3) = some (r1, r2, r3, r4) := by first | (rw [hy373]; with_reducible exact H) | (have H2_ := (Option.bind_some _ _).symm.trans H; rw [hy373]; with_reducible exact H2_) | (have H2_ := (Option.bind_some _ _).symm.trans H; with_reducible exact H2_) | with_reducible exact H | (rw [hy373]; exact H) | exact H
     have Ny373 := mS hy373
     clear hy373
     have H' := mS H
     clear H
     try go_wp2
     replace BK357 := mS (blk_drew BK357.out)
     replace BK358 := mS (blk_drew BK358.out)
     replace HB := mS (below_drew1 HB.out)
     refine start_ (n := 11) (S := fun w' => w'.cell? ⟨gb357, 0, none⟩ = some (.slice A0_0 l0_0.length c0_0) ∧ w'.cell? ⟨gb357, 1, none⟩ = some (.slice A0_1 l0_1.length c0_1) ∧ w'.cell? ⟨gb357, 2, none⟩ = some (.slice A0_2 l0_2.length c0_2) ∧ w'.cell? ⟨gb357, 3, none⟩ = some (.int .i64 a0_3)) (ds := []) (mb 0 11) (by kernel_rfl) rfl rfl (mc4 BK357.out) (fun hHeld => ?_); refine with_tabW impl_Fall.tab3 impl_Fall.bits3 (fun HT_ HW_ => ?_)
     generalize wc.drew = w24 at BK357 BK358 HB hHeld ⊢
     refine mpu 0 18 HT_.out (mb 1 10) ?_
     refine mpu 3 21 HT_.out (mr [1,2,1,7]) ?_
     refine mpu 6 24 HT_.out (mr [1,2,1,2,1,4]) ?_
     refine mpt 1 19 HT_.out HW_.out (mr [2,1,1,2,1,4]) hHeld ?_
     refine mpt 4 22 HT_.out HW_.out (mr [2,1,2,1,1,4]) hHeld ?_
     refine mpt 7 25 HT_.out HW_.out (mr [2,1,2,1,2,3]) hHeld ?_
     refine join_ (σ := Value × Value × Nat) 1 (mb 10 1) (fun s_ => [(20, s_.1), (23, s_.2.1), (5, .pointer (some ⟨s_.2.2, 0, none⟩)), (26, .agg #[.slice none 0 0, s_.1, s_.2.1, .int .i64 a0_3])]) (fun s_ w' => (w'.cell? ⟨gb357, 0, none⟩ = some (.slice A0_0 l0_0.length c0_0) ∧ w'.cell? ⟨gb357, 1, none⟩ = some (.slice A0_1 l0_1.length c0_1) ∧ w'.cell? ⟨gb357, 2, none⟩ = some (.slice A0_2 l0_2.length c0_2) ∧ w'.cell? ⟨gb357, 3, none⟩ = some (.int .i64 a0_3)) ∧ (Kd.R k126 126 w' w.heap.size (fun k_ => some k_ ≠ (s_.2.1 : Value).ownBlock) s_.1 y370) ∧ (Kd.R k126 126 w' w.heap.size (fun k_ => some k_ ≠ (s_.1 : Value).ownBlock) s_.2.1 y373) ∧ (w'.heap[gb357]? = some (.cells #[.slice A0_0 l0_0.length c0_0, .slice A0_1 l0_1.length c0_1, .slice A0_2 l0_2.length c0_2, .int .i64 a0_3] 63 (0, 0))) ∧ (w'.heap[gb358]? = some (.cells #[.slice none 0 0, .slice none 0 0, .slice none 0 0, .int .i64 0] 63 (0, 0))) ∧ (w'.heap[s_.2.2]? = some (.cells #[.slice none 0 0, .slice none 0 0, .slice none 0 0, .int .i64 0] 63 (0, 0))) ∧ (w.heap.size ≤ s_.2.2) ∧ (w.heap.size ≤ s_.2.2) ∧ (gb357 ≠ s_.2.2) ∧ (s_.2.2 ≠ gb357) ∧ (gb358 ≠ s_.2.2) ∧ (s_.2.2 ≠ gb358) ∧ (Below w.heap.size w w')) ?_ ?_
     rotate_left
     ·intro hCont
      refine two_ (i := 2) (j := 9) (Ni := some 20) (Nj := some 5) (mr [5,1,2,3]) (mr [2,1,2,1,2,1,1,1]) rfl rfl rfl rfl (two_of HT_.out (by kernel_rfl)) (by decide) (by decide) (fun K hK => ?_) (fun K hK => ?_)
      ·skip
       refine Kd.R_append_rows_step k126 (w0 := w) w.heap.size rfl (.const (.slice none 0 0)) (.tmp 19) 61 126 (.agg #[(.string ⟨#[]⟩), (.int .i64 0)]) 24 rfl Try.underlying61 info126 rfl (by decide) (by omega) (.slice none 0 0) ([] : List (S126)) l0_2 _ _ _ (fun _ => True) (fun _ => False) rfl rfl ?aO ?aR (fun _ _ h => h) (fun _ h => h.elim) ?aF ?aB ?aS ?aL ?_
       (case aR => exact mC (Kd.C_below HR0_2.out HB.out))
       (case aB => exact (mH2 HB.out GE357.out GE358.out))
       (case aF => exact (fun _ _ => trivial))
       (case aO => exact ((Kd.R_nil _ _ _ _ (fun _ => True))))
       (case aS => exact (below_size (mH2 HB.out GE357.out GE358.out)))
       (case aL => have := LMc23.out; omega)
       intro v371 w25 ho hb hg hat
       rw [← Ny370.out] at ho
       replace BK357 := mS (blk_grown (g := gb357) (o := .cells #[.slice A0_0 l0_0.length c0_0, .slice A0_1 l0_1.length c0_1, .slice A0_2 l0_2.length c0_2, .int .i64 a0_3] 63 (0, 0)) (mK BK357.out) hg (by simp [Value.ownBlock]))
       replace BK358 := mS (blk_grown (g := gb358) (o := .cells #[.slice none 0 0, .slice none 0 0, .slice none 0 0, .int .i64 0] 63 (0, 0)) (mK BK358.out) hg (by simp [Value.ownBlock]))
       replace HB := mS (hb)
       have HO372 := mS (ho)
       clear ho hb hg hat
       refine hK.out _ _ (mc4 BK357.out) (fun hHeld => ?_)
       clear hK K
       refine mno 20 ?_
       refine two_ (i := 5) (j := 9) (Ni := some 23) (Nj := some 5) (mb 8 3) (mr [5,1,2,1,1,1]) rfl rfl rfl rfl (two_of HT_.out (by kernel_rfl)) (by decide) (by decide) (fun K hK => ?_) (fun K hK => ?_)
       ·skip
        refine Kd.R_append_rows_step k126 (w0 := w) w.heap.size rfl (.const (.slice none 0 0)) (.tmp 22) 61 126 (.agg #[(.string ⟨#[]⟩), (.int .i64 0)]) 24 rfl Try.underlying61 info126 rfl (by decide) (by omega) (.slice none 0 0) ([] : List (S126)) l0_2 _ _ _ (fun k_ => some k_ ≠ (v371 : Value).ownBlock) (fun _ => False) rfl rfl ?aO ?aR (fun _ _ h => h) (fun _ h => h.elim) ?aF ?aB ?aS ?aL ?_
        (case aR => exact mC (Kd.C_below HR0_2.out HB.out))
        (case aB => exact (mH2 HB.out GE357.out GE358.out))
        (case aF => exact (fun k_ hk => Kd.fresh' (Kd.R_lt (mR HO372.out)) k_ hk))
        (case aO => exact ((Kd.R_nil _ _ _ _ (fun k_ => some k_ ≠ (v371 : Value).ownBlock))))
        (case aS => exact (below_size (mH2 HB.out GE357.out GE358.out)))
        (case aL => have := LMc23.out; omega)
        intro v374 w26 ho hb hg hat
        rw [← Ny373.out] at ho
        replace BK357 := mS (blk_grown (g := gb357) (o := .cells #[.slice A0_0 l0_0.length c0_0, .slice A0_1 l0_1.length c0_1, .slice A0_2 l0_2.length c0_2, .int .i64 a0_3] 63 (0, 0)) (mK BK357.out) hg (by simp [Value.ownBlock]))
        replace BK358 := mS (blk_grown (g := gb358) (o := .cells #[.slice none 0 0, .slice none 0 0, .slice none 0 0, .int .i64 0] 63 (0, 0)) (mK BK358.out) hg (by simp [Value.ownBlock]))
        replace HO372 := mS (Kd.R_after (Kd.R_apart_nil (mR HO372.out)) hg hat)
        replace HB := mS (hb)
        have HO375 := mS (ho)
        clear ho hb hg hat
        obtain ⟨Ao27, co27, eo27⟩ := Kd.R_slice HO375.out
        (first | subst eo27 | (injection eo27 with f1_ f2_ f3_; have f4_ := f1_.symm; have f5_ := f3_.symm; clear f1_ f2_ f3_; subst f4_; subst f5_))
        obtain ⟨Ao28, co28, eo28⟩ := Kd.R_slice HO372.out
        (first | subst eo28 | (injection eo28 with f1_ f2_ f3_; have f4_ := f1_.symm; have f5_ := f3_.symm; clear f1_ f2_ f3_; subst f4_; subst f5_))
        refine hK.out _ _ (mc4 BK357.out) (fun hHeld => ?_)
        clear hK K
        refine mno 23 ?_
        refine mpu 8 26 HT_.out (mb 9 2) ?_
        refine mone 9 (some 5) HT_.out (mb 10 1) (fun K hK => ?_)
        refine box_step ?hg (N := 5) ?hd (cs := #[.slice none 0 0, .slice none 0 0, .slice none 0 0, .int .i64 0]) (t := 63) ?hr ?_; (case hd => rfl); (case hg => rfl); (case hr => first | (go_simp; done) | (go_simp; rfl))
        intro gb376 hg w29 hbox hb
        replace HO372 := mS (Kd.R_below (mR HO372.out) hb)
        replace HO375 := mS (Kd.R_below (mR HO375.out) hb)
        have BK376 := mS (hbox)
        have GW376 := mG hg (mH2 HB.out GE357.out GE358.out)
        have GE376 := mG hg (mH2 HB.out GE357.out GE358.out)
        replace HB := mS (below_step (mH2 HB.out GE357.out GE358.out) hb)
        have NB357_376 := mNl hg BK357.out
        have NB376_357 := mNg hg BK357.out
        replace BK357 := mB BK357 hb
        have NB358_376 := mNl hg BK358.out
        have NB376_358 := mNg hg BK358.out
        replace BK358 := mB BK358 hb
        clear hb hbox hg
        refine hK.out _ _ (mc4 BK357.out) (fun hHeld => ?_)
        clear hK K
        refine mno 5 ?_
        exact norm_ mU (hCont (.slice Ao28 y370.length co28, .slice Ao27 y373.length co27, gb376) _ ⟨hHeld, (by refine mR ?_; exact Kd.R_mono HO372.out (fun _ hk => hk.2)), (mR HO375.out), (mK BK357.out), (mK BK358.out), (mK BK376.out), GW376.out, GE376.out, NB357_376.out, NB376_357.out, NB358_376.out, NB376_358.out, (mH3 HB.out GE357.out GE358.out GE376.out)⟩)
       ·skip
        refine box_step ?hg (N := 5) ?hd (cs := #[.slice none 0 0, .slice none 0 0, .slice none 0 0, .int .i64 0]) (t := 63) ?hr ?_; (case hd => rfl); (case hg => rfl); (case hr => first | (go_simp; done) | (go_simp; rfl))
        intro gb376 hg w26 hbox hb
        replace HO372 := mS (Kd.R_below (mR HO372.out) hb)
        have BK376 := mS (hbox)
        have GW376 := mG hg (mH2 HB.out GE357.out GE358.out)
        have GE376 := mG hg (mH2 HB.out GE357.out GE358.out)
        replace HB := mS (below_step (mH2 HB.out GE357.out GE358.out) hb)
        have NB357_376 := mNl hg BK357.out
        have NB376_357 := mNg hg BK357.out
        replace BK357 := mB BK357 hb
        have NB358_376 := mNl hg BK358.out
        have NB376_358 := mNg hg BK358.out
        replace BK358 := mB BK358 hb
        clear hb hbox hg
        refine hK.out _ _ (mc4 BK357.out) (fun hHeld => ?_)
        clear hK K
        refine mno 5 ?_
        refine mone 5 (some 23) HT_.out (mr [8,1,1,1]) (fun K hK => ?_)
        refine Kd.R_append_rows_step k126 (w0 := w) w.heap.size rfl (.const (.slice none 0 0)) (.tmp 22) 61 126 (.agg #[(.string ⟨#[]⟩), (.int .i64 0)]) 24 rfl Try.underlying61 info126 rfl (by decide) (by omega) (.slice none 0 0) ([] : List (S126)) l0_2 _ _ _ (fun k_ => some k_ ≠ (v371 : Value).ownBlock) (fun _ => False) rfl rfl ?aO ?aR (fun _ _ h => h) (fun _ h => h.elim) ?aF ?aB ?aS ?aL ?_
        (case aR => exact mC (Kd.C_below HR0_2.out HB.out))
        (case aB => exact (mH3 HB.out GE357.out GE358.out GE376.out))
        (case aF => exact (fun k_ hk => Kd.fresh' (Kd.R_lt (mR HO372.out)) k_ hk))
        (case aO => exact ((Kd.R_nil _ _ _ _ (fun k_ => some k_ ≠ (v371 : Value).ownBlock))))
        (case aS => exact (below_size (mH3 HB.out GE357.out GE358.out GE376.out)))
        (case aL => have := LMc23.out; omega)
        intro v374 w27 ho hb hg hat
        rw [← Ny373.out] at ho
        replace BK357 := mS (blk_grown (g := gb357) (o := .cells #[.slice A0_0 l0_0.length c0_0, .slice A0_1 l0_1.length c0_1, .slice A0_2 l0_2.length c0_2, .int .i64 a0_3] 63 (0, 0)) (mK BK357.out) hg (by simp [Value.ownBlock]))
        replace BK358 := mS (blk_grown (g := gb358) (o := .cells #[.slice none 0 0, .slice none 0 0, .slice none 0 0, .int .i64 0] 63 (0, 0)) (mK BK358.out) hg (by simp [Value.ownBlock]))
        replace HO372 := mS (Kd.R_after (Kd.R_apart_nil (mR HO372.out)) hg hat)
        replace BK376 := mS (blk_grown (g := gb376) (o := .cells #[.slice none 0 0, .slice none 0 0, .slice none 0 0, .int .i64 0] 63 (0, 0)) (mK BK376.out) hg (by simp [Value.ownBlock]))
        replace HB := mS (hb)
        have HO375 := mS (ho)
        clear ho hb hg hat
        obtain ⟨Ao28, co28, eo28⟩ := Kd.R_slice HO375.out
        (first | subst eo28 | (injection eo28 with f1_ f2_ f3_; have f4_ := f1_.symm; have f5_ := f3_.symm; clear f1_ f2_ f3_; subst f4_; subst f5_))
        obtain ⟨Ao29, co29, eo29⟩ := Kd.R_slice HO372.out
        (first | subst eo29 | (injection eo29 with f1_ f2_ f3_; have f4_ := f1_.symm; have f5_ := f3_.symm; clear f1_ f2_ f3_; subst f4_; subst f5_))
        refine hK.out _ _ (mc4 BK357.out) (fun hHeld => ?_)
        clear hK K
        refine mno 23 ?_
        refine mpu 8 26 HT_.out (mb 10 1) ?_
        exact norm_ mU (hCont (.slice Ao29 y370.length co29, .slice Ao28 y373.length co28, gb376) _ ⟨hHeld, (by refine mR ?_; exact Kd.R_mono HO372.out (fun _ hk => hk.2)), (mR HO375.out), (mK BK357.out), (mK BK358.out), (mK BK376.out), GW376.out, GE376.out, NB357_376.out, NB376_357.out, NB358_376.out, NB376_358.out, (mH3 HB.out GE357.out GE358.out GE376.out)⟩)
      ·skip
       refine box_step ?hg (N := 5) ?hd (cs := #[.slice none 0 0, .slice none 0 0, .slice none 0 0, .int .i64 0]) (t := 63) ?hr ?_; (case hd => rfl); (case hg => rfl); (case hr => first | (go_simp; done) | (go_simp; rfl))
       intro gb376 hg w25 hbox hb
       have BK376 := mS (hbox)
       have GW376 := mG hg (mH2 HB.out GE357.out GE358.out)
       have GE376 := mG hg (mH2 HB.out GE357.out GE358.out)
       replace HB := mS (below_step (mH2 HB.out GE357.out GE358.out) hb)
       have NB357_376 := mNl hg BK357.out
       have NB376_357 := mNg hg BK357.out
       replace BK357 := mB BK357 hb
       have NB358_376 := mNl hg BK358.out
       have NB376_358 := mNg hg BK358.out
       replace BK358 := mB BK358 hb
       clear hb hbox hg
       refine hK.out _ _ (mc4 BK357.out) (fun hHeld => ?_)
       clear hK K
       refine mno 5 ?_
       refine mone 2 (some 20) HT_.out (mr [5,1,2,1,1,1]) (fun K hK => ?_)
       refine Kd.R_append_rows_step k126 (w0 := w) w.heap.size rfl (.const (.slice none 0 0)) (.tmp 19) 61 126 (.agg #[(.string ⟨#[]⟩), (.int .i64 0)]) 24 rfl Try.underlying61 info126 rfl (by decide) (by omega) (.slice none 0 0) ([] : List (S126)) l0_2 _ _ _ (fun _ => True) (fun _ => False) rfl rfl ?aO ?aR (fun _ _ h => h) (fun _ h => h.elim) ?aF ?aB ?aS ?aL ?_
       (case aR => exact mC (Kd.C_below HR0_2.out HB.out))
       (case aB => exact (mH3 HB.out GE357.out GE358.out GE376.out))
       (case aF => exact (fun _ _ => trivial))
       (case aO => exact ((Kd.R_nil _ _ _ _ (fun _ => True))))
       (case aS => exact (below_size (mH3 HB.out GE357.out GE358.out GE376.out)))
       (case aL => have := LMc23.out; omega)
       intro v371 w26 ho hb hg hat
       rw [← Ny370.out] at ho
       replace BK357 := mS (blk_grown (g := gb357) (o := .cells #[.slice A0_0 l0_0.length c0_0, .slice A0_1 l0_1.length c0_1, .slice A0_2 l0_2.length c0_2, .int .i64 a0_3] 63 (0, 0)) (mK BK357.out) hg (by simp [Value.ownBlock]))
       replace BK358 := mS (blk_grown (g := gb358) (o := .cells #[.slice none 0 0, .slice none 0 0, .slice none 0 0, .int .i64 0] 63 (0, 0)) (mK BK358.out) hg (by simp [Value.ownBlock]))
       replace BK376 := mS (blk_grown (g := gb376) (o := .cells #[.slice none 0 0, .slice none 0 0, .slice none 0 0, .int .i64 0] 63 (0, 0)) (mK BK376.out) hg (by simp [Value.ownBlock]))
       replace HB := mS (hb)
       have HO372 := mS (ho)
       clear ho hb hg hat
       refine hK.out _ _ (mc4 BK357.out) (fun hHeld => ?_)
       clear hK K
       refine mno 20 ?_
       refine mone 5 (some 23) HT_.out (mr [8,1,1,1]) (fun K hK => ?_)
       refine Kd.R_append_rows_step k126 (w0 := w) w.heap.size rfl (.const (.slice none 0 0)) (.tmp 22) 61 126 (.agg #[(.string ⟨#[]⟩), (.int .i64 0)]) 24 rfl Try.underlying61 info126 rfl (by decide) (by omega) (.slice none 0 0) ([] : List (S126)) l0_2 _ _ _ (fun k_ => some k_ ≠ (v371 : Value).ownBlock) (fun _ => False) rfl rfl ?aO ?aR (fun _ _ h => h) (fun _ h => h.elim) ?aF ?aB ?aS ?aL ?_
       (case aR => exact mC (Kd.C_below HR0_2.out HB.out))
       (case aB => exact (mH3 HB.out GE357.out GE358.out GE376.out))
       (case aF => exact (fun k_ hk => Kd.fresh' (Kd.R_lt (mR HO372.out)) k_ hk))
       (case aO => exact ((Kd.R_nil _ _ _ _ (fun k_ => some k_ ≠ (v371 : Value).ownBlock))))
       (case aS => exact (below_size (mH3 HB.out GE357.out GE358.out GE376.out)))
       (case aL => have := LMc23.out; omega)
       intro v374 w27 ho hb hg hat
       rw [← Ny373.out] at ho
       replace BK357 := mS (blk_grown (g := gb357) (o := .cells #[.slice A0_0 l0_0.length c0_0, .slice A0_1 l0_1.length c0_1, .slice A0_2 l0_2.length c0_2, .int .i64 a0_3] 63 (0, 0)) (mK BK357.out) hg (by simp [Value.ownBlock]))
       replace BK358 := mS (blk_grown (g := gb358) (o := .cells #[.slice none 0 0, .slice none 0 0, .slice none 0 0, .int .i64 0] 63 (0, 0)) (mK BK358.out) hg (by simp [Value.ownBlock]))
       replace BK376 := mS (blk_grown (g := gb376) (o := .cells #[.slice none 0 0, .slice none 0 0, .slice none 0 0, .int .i64 0] 63 (0, 0)) (mK BK376.out) hg (by simp [Value.ownBlock]))
       replace HO372 := mS (Kd.R_after (Kd.R_apart_nil (mR HO372.out)) hg hat)
       replace HB := mS (hb)
       have HO375 := mS (ho)
       clear ho hb hg hat
       obtain ⟨Ao28, co28, eo28⟩ := Kd.R_slice HO375.out
       (first | subst eo28 | (injection eo28 with f1_ f2_ f3_; have f4_ := f1_.symm; have f5_ := f3_.symm; clear f1_ f2_ f3_; subst f4_; subst f5_))
       obtain ⟨Ao29, co29, eo29⟩ := Kd.R_slice HO372.out
       (first | subst eo29 | (injection eo29 with f1_ f2_ f3_; have f4_ := f1_.symm; have f5_ := f3_.symm; clear f1_ f2_ f3_; subst f4_; subst f5_))
       refine hK.out _ _ (mc4 BK357.out) (fun hHeld => ?_)
       clear hK K
       refine mno 23 ?_
       refine mpu 8 26 HT_.out (mb 10 1) ?_
       exact norm_ mU (hCont (.slice Ao29 y370.length co29, .slice Ao28 y373.length co28, gb376) _ ⟨hHeld, (by refine mR ?_; exact Kd.R_mono HO372.out (fun _ hk => hk.2)), (mR HO375.out), (mK BK357.out), (mK BK358.out), (mK BK376.out), GW376.out, GE376.out, NB357_376.out, NB376_357.out, NB358_376.out, NB376_358.out, (mH3 HB.out GE357.out GE358.out GE376.out)⟩)
     rintro ⟨v371, v374, gb376⟩ w30 ⟨hS_, h0_, h1_, h2_, h3_, h4_, h5_, h6_, h7_, h8_, h9_, h10_, h11_⟩
     have HO372 : Aside0 (Kd.R k126 126 w30 w.heap.size (fun k_ => some k_ ≠ (v374 : Value).ownBlock) v371 y370) := ⟨h0_⟩
     have HO375 : Aside0 (Kd.R k126 126 w30 w.heap.size (fun k_ => some k_ ≠ (v371 : Value).ownBlock) v374 y373) := ⟨h1_⟩
     replace BK357 : Aside0 (w30.heap[gb357]? = some (.cells #[.slice A0_0 l0_0.length c0_0, .slice A0_1 l0_1.length c0_1, .slice A0_2 l0_2.length c0_2, .int .i64 a0_3] 63 (0, 0))) := ⟨h2_⟩
     replace BK358 : Aside0 (w30.heap[gb358]? = some (.cells #[.slice none 0 0, .slice none 0 0, .slice none 0 0, .int .i64 0] 63 (0, 0))) := ⟨h3_⟩
     have BK376 : Aside0 (w30.heap[gb376]? = some (.cells #[.slice none 0 0, .slice none 0 0, .slice none 0 0, .int .i64 0] 63 (0, 0))) := ⟨h4_⟩
     have GW376 : Aside0 (w.heap.size ≤ gb376) := ⟨h5_⟩
     have GE376 : Aside0 (w.heap.size ≤ gb376) := ⟨h6_⟩
     have NB357_376 : Aside0 (gb357 ≠ gb376) := ⟨h7_⟩
     have NB376_357 : Aside0 (gb376 ≠ gb357) := ⟨h8_⟩
     have NB358_376 : Aside0 (gb358 ≠ gb376) := ⟨h9_⟩
     have NB376_358 : Aside0 (gb376 ≠ gb358) := ⟨h10_⟩
     replace HB : Aside0 (Below w.heap.size w w30) := ⟨h11_⟩
     clear h0_ h1_ h2_ h3_ h4_ h5_ h6_ h7_ h8_ h9_ h10_ h11_
     have hHeld : w30.cell? ⟨gb357, 0, none⟩ = some (.slice A0_0 l0_0.length c0_0) ∧ w30.cell? ⟨gb357, 1, none⟩ = some (.slice A0_1 l0_1.length c0_1) ∧ w30.cell? ⟨gb357, 2, none⟩ = some (.slice A0_2 l0_2.length c0_2) ∧ w30.cell? ⟨gb357, 3, none⟩ = some (.int .i64 a0_3) := hS_
     obtain ⟨Ao31, co31, eo31⟩ := Kd.R_slice HO375.out
     (first | subst eo31 | (injection eo31 with f1_ f2_ f3_; have f4_ := f1_.symm; have f5_ := f3_.symm; clear f1_ f2_ f3_; subst f4_; subst f5_))
     obtain ⟨Ao32, co32, eo32⟩ := Kd.R_slice HO372.out
     (first | subst eo32 | (injection eo32 with f1_ f2_ f3_; have f4_ := f1_.symm; have f5_ := f3_.symm; clear f1_ f2_ f3_; subst f4_; subst f5_))
     refine mnp ?_
     refine mone 10 none HT_.out (mb 11 0) (fun K hK => ?_)
     have hs33 : w30.cell? ⟨gb376, 0, none⟩ = some (.slice none 0 0) := mZ BK376.out 0
     have hfs33 := blk_frozen BK376.out 0
     have hns33_0 := NB357_376.out
     have hns33_1 := NB358_376.out
     have hms33_0 := NB376_357.out
     have hms33_1 := NB376_358.out
     have hs34 : w30.cell? ⟨gb376, 1, none⟩ = some (.slice none 0 0) := mZ BK376.out 1
     have hfs34 := blk_frozen BK376.out 1
     have hns34_0 := NB357_376.out
     have hns34_1 := NB358_376.out
     have hms34_0 := NB376_357.out
     have hms34_1 := NB376_358.out
     have hs35 : w30.cell? ⟨gb376, 2, none⟩ = some (.slice none 0 0) := mZ BK376.out 2
     have hfs35 := blk_frozen BK376.out 2
     have hns35_0 := NB357_376.out
     have hns35_1 := NB358_376.out
     have hms35_0 := NB376_357.out
     have hms35_1 := NB376_358.out
     have hs36 : w30.cell? ⟨gb376, 3, none⟩ = some (.int .i64 0) := mZ BK376.out 3
     have hfs36 := blk_frozen BK376.out 3
     have hns36_0 := NB357_376.out
     have hns36_1 := NB358_376.out
     have hms36_0 := NB376_357.out
     have hms36_1 := NB376_358.out
     refine skip_ (w1 := ?_) (by rfl) rfl ?_ ?_
     rotate_left
     ·go_simp
      rfl
     refine hK.out _ _ ⟨((cell_far (p := ⟨gb376, _, none⟩) NB357_376.out _).trans (((cell_far (p := ⟨gb376, _, none⟩) NB357_376.out _).trans (((cell_far (p := ⟨gb376, _, none⟩) NB357_376.out _).trans (((cell_far (p := ⟨gb376, _, none⟩) NB357_376.out _).trans (hHeld.1)))))))), ((cell_far (p := ⟨gb376, _, none⟩) NB357_376.out _).trans (((cell_far (p := ⟨gb376, _, none⟩) NB357_376.out _).trans (((cell_far (p := ⟨gb376, _, none⟩) NB357_376.out _).trans (((cell_far (p := ⟨gb376, _, none⟩) NB357_376.out _).trans (hHeld.2.1)))))))), ((cell_far (p := ⟨gb376, _, none⟩) NB357_376.out _).trans (((cell_far (p := ⟨gb376, _, none⟩) NB357_376.out _).trans (((cell_far (p := ⟨gb376, _, none⟩) NB357_376.out _).trans (((cell_far (p := ⟨gb376, _, none⟩) NB357_376.out _).trans (hHeld.2.2.1)))))))), ((cell_far (p := ⟨gb376, _, none⟩) NB357_376.out _).trans (((cell_far (p := ⟨gb376, _, none⟩) NB357_376.out _).trans (((cell_far (p := ⟨gb376, _, none⟩) NB357_376.out _).trans (((cell_far (p := ⟨gb376, _, none⟩) NB357_376.out _).trans (hHeld.2.2.2))))))))⟩ (fun hHeld => ?_)
     clear hK K
     refine done_ (done_of HT_.out (by kernel_rfl)) ?_
     have hnb37 := NB357_358.out
     have hnc37 := NB358_357.out
     have hnb38 := NB357_376.out
     have hnc38 := NB376_357.out
     obtain ⟨hcz39_0, hcz39_1, hcz39_2, hcz39_3, hfz39_0, hfz39_1, hfz39_2, hfz39_3⟩ := mZ4 BK357.out
     try go_wp2
     go_loopg [30] kj2 (fun kq v30 w' => ∃ (x30_2 : Int) (x377000_2 : List (S120)) (u377000 : Value), v30 = .int .i64 x30_2 ∧ Aside0 (impl_Fall.l0 kq a1 l0_0 (l0_0.length : Int) x30_2 l0_0 l0_1 l0_2 a0_3 x377000_2 y370 y373 a0_3 = some (r1, r2, r3, r4)) ∧ Aside0 (kq ≤ kj2) ∧ Aside0 (Kd.S k120 120 w' w.heap.size (fun _ => True) u377000 x377000_2) ∧ Aside0 (Kd.R k126 126 w' w.heap.size (fun k_ => some k_ ≠ ((.slice Ao31 y373.length co31) : Value).ownBlock) (.slice Ao32 y370.length co32) y370) ∧ Aside0 (Kd.R k126 126 w' w.heap.size (fun k_ => some k_ ≠ ((.slice Ao32 y370.length co32) : Value).ownBlock) (.slice Ao31 y373.length co31) y373) ∧ Aside0 (w'.heap[gb357]? = some (.cells #[(.slice A0_0 l0_0.length c0_0), (.slice A0_1 l0_1.length c0_1), (.slice A0_2 l0_2.length c0_2), .int .i64 a0_3] 63 (0, 0))) ∧ Aside0 (w'.heap[gb358]? = some (.cells #[(.slice none 0 0), (.slice none 0 0), (.slice none 0 0), .int .i64 0] 63 (0, 0))) ∧ Aside0 (w'.heap[gb376]? = some (.cells #[u377000, (.slice Ao32 y370.length co32), (.slice Ao31 y373.length co31), .int .i64 a0_3] 63 (0, 0))) ∧ Aside0 (Below w.heap.size w w'))
     case atStart => exact ⟨(0), (([] : List (S120))), (.slice none 0 0), mE, H', ⟨Nat.le_refl _⟩, ⟨by first | exact Kd.S_nil _ _ _ _ _ | exact Kd.N_nil _ _ _ _ _ | exact Kd.V_nil _ _ _ _ _ | exact Kd.Q_nil _ _ _ _ _ | exact Kd.R_nil _ _ _ _ _⟩, ⟨by refine mR ?_; exact Kd.R_mono (mRf4 (Kd.R_types HO372.out BK376.out (by decide))) (fun _ hk => hk.1)⟩, ⟨by refine mR ?_; exact Kd.R_mono (mRf4 (Kd.R_types HO375.out BK376.out (by decide))) (fun _ hk => hk.1)⟩, ⟨mKf NB357_376.out BK357.out⟩, ⟨mKf NB358_376.out BK358.out⟩, ⟨by refine mK ?_; refine blk_put (cs := #[.slice none 0 0, .slice Ao32 y370.length co32, .slice Ao31 y373.length co31, .int .i64 0]) ?_ 3 _ rfl; refine mK ?_; refine blk_put (cs := #[.slice none 0 0, .slice Ao32 y370.length co32, .slice none 0 0, .int .i64 0]) ?_ 2 _ rfl; refine mK ?_; refine blk_put (cs := #[.slice none 0 0, .slice none 0 0, .slice none 0 0, .int .i64 0]) ?_ 1 _ rfl; refine mK ?_; refine blk_put (cs := #[.slice none 0 0, .slice none 0 0, .slice none 0 0, .int .i64 0]) ?_ 0 _ rfl; refine mK ?_; exact BK376.out⟩, ⟨(mH3 HB.out GE357.out GE358.out GE376.out)⟩⟩
     case round =>
      clear H'
      try clear c1
      try clear c2
      try clear p2
      try clear c3
      try clear c4
      try clear c5
      try clear c7
      try clear c8
      try clear c11
      try clear c14
      try clear c16
      try clear c23
      try clear c37
      try clear c38
      try clear hcz12_0
      try clear hcz12_1
      try clear hcz12_2
      try clear hcz12_3
      try clear hcz17_0
      try clear hcz17_1
      try clear hcz17_2
      try clear hcz17_3
      try clear hcz20_0
      try clear hcz20_1
      try clear hcz20_2
      try clear hcz20_3
      try clear hcz39_0
      try clear hcz39_1
      try clear hcz39_2
      try clear hcz39_3
      try clear hcz9_0
      try clear hcz9_1
      try clear hcz9_2
      try clear hcz9_3
      try clear hfz12_0
      try clear hfz12_1
      try clear hfz12_2
      try clear hfz12_3
      try clear hfz17_0
      try clear hfz17_1
      try clear hfz17_2
      try clear hfz17_3
      try clear hfz20_0
      try clear hfz20_1
      try clear hfz20_2
      try clear hfz20_3
      try clear hfz39_0
      try clear hfz39_1
      try clear hfz39_2
      try clear hfz39_3
      try clear hfz9_0
      try clear hfz9_1
      try clear hfz9_2
      try clear hfz9_3
      try clear p2
      obtain ⟨x30_2, x377000_2, u377000, rfl, HA, HK2, HO_377000, HO_377001, HO_377002, BK357, BK358, BK376, HB⟩ := hrel
      cases gk with
      | zero => exact absurd HA.out (by simp [impl_Fall.l0])
      | succ k2 =>
       have H := HA.out
       clear HA
       simp only [impl_Fall.l0] at H
       by_cases c40 : x30_2 < (l0_0.length : Int)
       ·rw [if_pos c40] at H
        have c40b0 := decide_eq_true c40
        clear c40
        by_cases c41 : 0 ≤ x30_2
        ·rw [if_pos c41] at H
         have c41b0 := decide_eq_true c41
         clear c41
         by_cases c42 : x30_2 < (l0_0.length : Int)
         ·rw [if_pos c42] at H
          have c42b0 := decide_eq_true c42
          clear c42
          replace H := Option.bind_eq_some_iff.mp H
          obtain ⟨t379, A430, H⟩ := H
          replace H : (if t379 = true then (if 0 ≤ (wrap64 (((rd_T120 l0_0 x30_2).f2) + (mn a1 (wrap64 ((((rd_T120 l0_0 x30_2).f1).length : Int) - ((rd_T120 l0_0 x30_2).f2)))))) then (if (wrap64 (((rd_T120 l0_0 x30_2).f2) + (mn a1 (wrap64 ((((rd_T120 l0_0 x30_2).f1).length : Int) - ((rd_T120 l0_0 x30_2).f2)))))) ≤ (((rd_T120 l0_0 x30_2).f1).length : Int) then ((impl_copyBytes.f (((rd_T120 l0_0 x30_2).f1).take ((wrap64 (((rd_T120 l0_0 x30_2).f2) + (mn a1 (wrap64 ((((rd_T120 l0_0 x30_2).f1).length : Int) - ((rd_T120 l0_0 x30_2).f2)))))) : Int).toNat)).bind fun t381 => (if x377000_2.length < 3518437208883 then (impl_Fall.l0 k2 a1 l0_0 (l0_0.length : Int) (wrap64 (x30_2 + 1)) l0_0 l0_1 l0_2 a0_3 (x377000_2 ++ [(⟨(rd_T120 l0_0 x30_2).f0, t381, wrap64 (((rd_T120 l0_0 x30_2).f2) + (mn a1 (wrap64 ((((rd_T120 l0_0 x30_2).f1).length : Int) - ((rd_T120 l0_0 x30_2).f2)))))⟩ : S120)]) y370 y373 a0_3) else (none))) else (none)) else (none)) else (impl_Fall.l0 k2 a1 l0_0 (l0_0.length : Int) (wrap64 (x30_2 + 1)) l0_0 l0_1 l0_2 a0_3 x377000_2 y370 y373 a0_3)) = some (r1, r2, r3, r4) := H
          have A43 := mS A430
          clear A430
          by_cases c44 : t379 = true
          ·subst c44
           have H1 := H
           rw [if_pos rfl] at H1
           clear H
           have H := H1
           clear H1
           obtain ⟨ji45, hji45⟩ : ∃ j_ : Int, (mn a1 (wrap64 ((((rd_T120 l0_0 x30_2).f1).length : Int) - ((rd_T120 l0_0 x30_2).f2)))) = j_ := ⟨_, rfl⟩
           replace H : (if 0 ≤ (wrap64 (((rd_T120 l0_0 x30_2).f2) + (ji45))) then (if (wrap64 (((rd_T120 l0_0 x30_2).f2) + (ji45))) ≤ (((rd_T120 l0_0 x30_2).f1).length : Int) then ((impl_copyBytes.f (((rd_T120 l0_0 x30_2).f1).take ((wrap64 (((rd_T120 l0_0 x30_2).f2) + (ji45))) : Int).toNat)).bind fun t381 => (if x377000_2.length < 3518437208883 then (impl_Fall.l0 k2 a1 l0_0 (l0_0.length : Int) (wrap64 (x30_2 + 1)) l0_0 l0_1 l0_2 a0_3 (x377000_2 ++ [(⟨(rd_T120 l0_0 x30_2).f0, t381, wrap64 (((rd_T120 l0_0 x30_2).f2) + (ji45))⟩ : S120)]) y370 y373 a0_3) else (none))) else (none)) else (none)) = some (r1, r2, r3, r4) := by first | (rw [hji45] at H; exact H) | (simp only [hji45] at H ⊢; exact H)
           (try rw [hji45] at A43)
           have hji45_ : (if (wrap64 ((((rd_T120 l0_0 x30_2).f1).length : Int) - ((rd_T120 l0_0 x30_2).f2))) < a1 then (wrap64 ((((rd_T120 l0_0 x30_2).f1).length : Int) - ((rd_T120 l0_0 x30_2).f2))) else a1) = ji45 := hji45
           obtain ⟨ji46, hji46⟩ : ∃ j_ : Int, (wrap64 (((rd_T120 l0_0 x30_2).f2) + (ji45))) = j_ := ⟨_, rfl⟩
           replace H : (if 0 ≤ (ji46) then (if (ji46) ≤ (((rd_T120 l0_0 x30_2).f1).length : Int) then ((impl_copyBytes.f (((rd_T120 l0_0 x30_2).f1).take ((ji46) : Int).toNat)).bind fun t381 => (if x377000_2.length < 3518437208883 then (impl_Fall.l0 k2 a1 l0_0 (l0_0.length : Int) (wrap64 (x30_2 + 1)) l0_0 l0_1 l0_2 a0_3 (x377000_2 ++ [(⟨(rd_T120 l0_0 x30_2).f0, t381, ji46⟩ : S120)]) y370 y373 a0_3) else (none))) else (none)) else (none)) = some (r1, r2, r3, r4) := by first | (rw [hji46] at H; exact H) | (simp only [hji46] at H ⊢; exact H)
           (try rw [hji46] at A43)
           have hji46w : (IntKind.i64.wrap (((rd_T120 l0_0 x30_2).f2) + (ji45))) = ji46 := (i64_w _).trans hji46
           by_cases c47 : 0 ≤ (ji46)
           ·rw [if_pos c47] at H
            have c47b0 := eq_true c47
            have c47b1 := decide_eq_true c47
            clear c47
            by_cases c48 : (ji46) ≤ (((rd_T120 l0_0 x30_2).f1).length : Int)
            ·rw [if_pos c48] at H
             have c48b0 := eq_true c48
             have c48b1 := decide_eq_true c48
             clear c48
             replace H := Option.bind_eq_some_iff.mp H
             obtain ⟨t381, A490, H⟩ := H
             replace H : (if x377000_2.length < 3518437208883 then (impl_Fall.l0 k2 a1 l0_0 (l0_0.length : Int) (wrap64 (x30_2 + 1)) l0_0 l0_1 l0_2 a0_3 (x377000_2 ++ [(⟨(rd_T120 l0_0 x30_2).f0, t381, ji46⟩ : S120)]) y370 y373 a0_3) else (none)) = some (r1, r2, r3, r4) := H
             have A49 := mS A490
             clear A490
             by_cases c50 : x377000_2.length < 3518437208883
             ·rw [if_pos c50] at H
              have LMc50 := mS c50
              clear c50
              obtain ⟨y384, hy384⟩ : ∃ y_ : List (S120), y_ = (x377000_2 ++ [(⟨(rd_T120 l0_0 x30_2).f0, t381, ji46⟩ : S120)]) := ⟨_, rfl⟩
              replace H : (impl_Fall.l0 k2 a1 l0_0 (l0_0.length : Int) (wrap64 (x30_2 + 1)) l0_0 l0_1 l0_2 a0_3 y384 y370 y373 a0_3) = some (r1, r2, r3, r4) := by first | (rw [hy384]; with_reducible exact H) | (have H2_ := (Option.bind_some _ _).symm.trans H; rw [hy384]; with_reducible exact H2_) | (have H2_ := (Option.bind_some _ _).symm.trans H; with_reducible exact H2_) | with_reducible exact H | (rw [hy384]; exact H) | exact H
              have Ny384 := mS hy384
              clear hy384
              have H' := mS H
              clear H
              have p377 : 0 ≤ (x30_2 : Int) := mD
              have q377 : x30_2 < (l0_0.length : Int) := mD
              obtain ⟨ad377, A377_1, c377_1, e377, hx377_0, hx377_1, hx377_2, hl377_1, hi377_1⟩ := at_T120 HR0_0.out x30_2 p377 q377
              cases e377
              replace hx377_0 := mX HB.out hx377_0
              replace hx377_1 := mX HB.out hx377_1
              replace hx377_2 := mX HB.out hx377_2
              have HR377_1 := mS hi377_1
              have HC377_1 := mS hl377_1
              clear hi377_1 hl377_1
              replace p377 := eq_true p377
              replace q377 := eq_true q377
              try go_wp2_with (first | ((with_reducible refine gate_dst (N := 7) rfl ?_); refine mBx 7 #[.int .i64 0, .slice none 0 0, .int .i64 0] 120 ?_; intro gb378 hg w51 hbox hb; replace HO_377000 := mS (Kd.S_below (Kd.S_elderB (mSd HO_377000.out) gb378 (Nat.le_of_eq hg.symm)) hb); replace HO_377001 := mS (Kd.R_below (mR HO_377001.out) hb); replace HO_377002 := mS (Kd.R_below (mR HO_377002.out) hb); have BK378 := mS (hbox); have GW378 := mG hg (mH3 HB.out GE357.out GE358.out GE376.out); have GE378 := mG hg (mH3 HB.out GE357.out GE358.out GE376.out); replace HB := mS (below_step (mH3 HB.out GE357.out GE358.out GE376.out) hb); have NB357_378 := mNl hg BK357.out; have NB378_357 := mNg hg BK357.out; replace BK357 := mB BK357 hb; have NB358_378 := mNl hg BK358.out; have NB378_358 := mNg hg BK358.out; replace BK358 := mB BK358 hb; have NB376_378 := mNl hg BK376.out; have NB378_376 := mNg hg BK376.out; replace BK376 := mB BK376 hb; clear hb hbox hg; have hnb52 := NB378_357.out; have hnc52 := NB357_378.out; have hnb53 := NB378_358.out; have hnc53 := NB358_378.out; have hnb54 := NB378_376.out; have hnc54 := NB376_378.out; obtain ⟨hcz55_0, hcz55_1, hcz55_2, hfz55_0, hfz55_1, hfz55_2⟩ := mZ3 BK378.out; have hnb56 := NB357_358.out; have hnc56 := NB358_357.out; have hnb57 := NB357_376.out; have hnc57 := NB376_357.out; obtain ⟨hcz58_0, hcz58_1, hcz58_2, hcz58_3, hfz58_0, hfz58_1, hfz58_2, hfz58_3⟩ := mZ4 BK357.out) | ((with_reducible refine gate_callee (f := 99) rfl ?_); refine mGo 38 Try.func99 #[.slice A0_2 l0_2.length c0_2, .int .i64 ((rd_T120 l0_0 x30_2).f0)] ?_; (with_reducible refine (impl_hasId.calls k2 _ _ l0_2 ((rd_T120 l0_0 x30_2).f0) true _ ?side1 ?side2 A43.out).mono ?_); (case side1 => exact Kd.C_below HR0_2.out (mH4 HB.out GE357.out GE358.out GE376.out GE378.out)); (case side2 => exact HC0_2.out); rintro e w59 ⟨rfl, hb⟩; refine ⟨_, rfl, ?_⟩; replace HO_377000 := mS (Kd.S_below (by refine mSd ?_; exact (Kd.S_mono (mSf3 (Kd.S_mono HO_377000.out (fun k_ hk => (⟨hk, hk.2⟩ : _ ∧ k_ ≠ gb378)))) (fun _ h_ => h_.1))) hb); replace HO_377001 := mS (Kd.R_below (by refine mR ?_; exact (Kd.R_mono (mRf3 (Kd.R_types HO_377001.out BK378.out (by decide))) (fun _ h_ => h_.1))) hb); replace HO_377002 := mS (Kd.R_below (by refine mR ?_; exact (Kd.R_mono (mRf3 (Kd.R_types HO_377002.out BK378.out (by decide))) (fun _ h_ => h_.1))) hb); replace BK357 := mS (blk_below (g := gb357) (o := .cells #[.slice (some ad377) l0_0.length c0_0, .slice A0_1 l0_1.length c0_1, .slice A0_2 l0_2.length c0_2, .int .i64 a0_3] 63 (0, 0)) (mKf NB357_378.out BK357.out) hb); replace BK358 := mS (blk_below (g := gb358) (o := .cells #[.slice none 0 0, .slice none 0 0, .slice none 0 0, .int .i64 0] 63 (0, 0)) (mKf NB358_378.out BK358.out) hb); replace BK376 := mS (blk_below (g := gb376) (o := .cells #[u377000, .slice Ao32 y370.length co32, .slice Ao31 y373.length co31, .int .i64 a0_3] 63 (0, 0)) (mKf NB376_378.out BK376.out) hb); replace BK378 := mS (blk_below (g := gb378) (o := .cells #[.int .i64 ((rd_T120 l0_0 x30_2).f0), .slice A377_1 ((rd_T120 l0_0 x30_2).f1).length c377_1, .int .i64 ((rd_T120 l0_0 x30_2).f2)] 120 (0, 0)) (by refine mK ?_; refine blk_put (cs := #[.int .i64 ((rd_T120 l0_0 x30_2).f0), .slice A377_1 ((rd_T120 l0_0 x30_2).f1).length c377_1, .int .i64 0]) ?_ 2 _ rfl; refine mK ?_; refine blk_put (cs := #[.int .i64 ((rd_T120 l0_0 x30_2).f0), .slice none 0 0, .int .i64 0]) ?_ 1 _ rfl; refine mK ?_; refine blk_put (cs := #[.int .i64 0, .slice none 0 0, .int .i64 0]) ?_ 0 _ rfl; refine mK ?_; exact BK378.out) hb); replace HB := mS (below_step (mH4 HB.out GE357.out GE358.out GE376.out GE378.out) hb); (try clear hb); obtain ⟨hcz60_0, hcz60_1, hcz60_2, hfz60_0, hfz60_1, hfz60_2⟩ := mZ3 BK378.out))
              replace HO_377000 := mS (Kd.S_drew HO_377000.out)
              replace HO_377001 := mS (Kd.R_drew HO_377001.out)
              replace HO_377002 := mS (Kd.R_drew HO_377002.out)
              replace BK357 := mS (blk_drew BK357.out)
              replace BK358 := mS (blk_drew BK358.out)
              replace BK376 := mS (blk_drew BK376.out)
              replace BK378 := mS (blk_drew BK378.out)
              replace HB := mS (below_drew1 HB.out)
              obtain ⟨i062, hi062, _, hsz62, _⟩ := info_parts info5
              obtain ⟨hcut62, hA62, hC62⟩ := print_take_of (P := Try.prog) (Value.int .u8) 0 22 5 .i64 Try.underlying22 hi062 hsz62 A377_1 c377_1 ((rd_T120 l0_0 x30_2).f1) (ji46) (mD) (mD) HC377_1.out
              have HR380 := mS (Kd.C_of_reads (h1 := fun _ => rfl) (hA62 _ (Kd.reads_of_C HR377_1.out)))
              have HC380 := mS hC62
              clear hA62 hC62 hi062 hsz62
              refine start_ (n := 15) (S := fun w' => w'.cell? ⟨gb376, 0, none⟩ = some (u377000) ∧ w'.cell? ⟨gb376, 1, none⟩ = some (.slice Ao32 y370.length co32) ∧ w'.cell? ⟨gb376, 2, none⟩ = some (.slice Ao31 y373.length co31) ∧ w'.cell? ⟨gb376, 3, none⟩ = some (.int .i64 a0_3) ∧ w'.cell? ⟨gb378, 0, none⟩ = some (.int .i64 ((rd_T120 l0_0 x30_2).f0)) ∧ w'.cell? ⟨gb378, 1, none⟩ = some (.slice A377_1 ((rd_T120 l0_0 x30_2).f1).length c377_1) ∧ w'.cell? ⟨gb378, 2, none⟩ = some (.int .i64 ((rd_T120 l0_0 x30_2).f2))) (ds := [14]) (mb 0 15) (by kernel_rfl) rfl rfl (mb4 BK376.out (mc3 BK378.out)) (fun hHeld => ?_); refine with_tabW impl_Fall.tab9 impl_Fall.bits9 (fun HT_ HW_ => ?_)
              generalize w59.drew = w61 at HO_377000 HO_377001 HO_377002 BK357 BK358 BK376 BK378 HB HR380 hHeld ⊢
              refine mpu 0 51 HT_.out (mb 1 14) ?_
              refine mpu 2 53 HT_.out (mr [1,1,1,12]) ?_
              refine mpu 4 55 HT_.out (mr [1,1,1,1,1,10]) ?_
              refine mpu 6 57 HT_.out (mr [1,1,1,1,1,1,1,8]) ?_
              refine mpu 9 60 HT_.out (mr [1,1,1,1,1,1,1,2,1,5]) ?_
              refine mpt 1 52 HT_.out HW_.out (mr [3,1,1,1,1,2,1,5]) hHeld ?_
              refine mpt 3 54 HT_.out HW_.out (mr [5,1,1,2,1,5]) hHeld ?_
              refine mpt 5 56 HT_.out HW_.out (mr [7,2,1,5]) hHeld ?_
              refine mpu 7 58 HT_.out (mr [8,1,1,5]) ?_
              refine mone 8 (some 59) HT_.out (mb 10 5) (fun K hK => ?_)
              refine goes_ Try.func107 (by kernel_rfl) rfl #[.slice A377_1 (((rd_T120 l0_0 x30_2).f1).take ((ji46) : Int).toNat).length c377_1] (by rfl) rfl rfl (by (try simp only [List.map_toArray, List.map_cons, List.map_nil]); first | done | (rw [show (((rd_T120 l0_0 x30_2).f1).take ((ji46) : Int).toNat).length = (ji46).toNat from (by rw [List.length_take]; have h_ : ((ji46) : Int) ≤ (((rd_T120 l0_0 x30_2).f1).length : Int) := mD; omega)] <;> rfl) | (simp only [hji46]; rfl) | rfl | (simp only [List.length_drop, List.length_take]; rfl)) ?_
              with_reducible refine (impl_copyBytes.calls _ _ (((rd_T120 l0_0 x30_2).f1).take ((ji46) : Int).toNat) t381 _ ?side1 ?side2 A49.out).mono ?_
              (case side1 => exact mC (Kd.C_below HR380.out HB.out))
              (case side2 => exact HC380.out)
              rintro e w63 ⟨v382, rfl, ho0, hb⟩
              refine ⟨_, rfl, ?_⟩
              replace HO_377000 := mS (Kd.S_elder' (mSd HO_377000.out) (Kd.R_base ho0) hb)
              replace HO_377001 := mS (Kd.R_below (mR HO_377001.out) hb)
              replace HO_377002 := mS (Kd.R_below (mR HO_377002.out) hb)
              have HO383 := mS (Kd.R_lower ho0 (below_size (mH4 HB.out GE357.out GE358.out GE376.out GE378.out)))
              replace BK357 := mB BK357 hb
              replace BK358 := mB BK358 hb
              replace BK376 := mB BK376 hb
              replace BK378 := mB BK378 hb
              replace HB := mS (below_step (mH4 HB.out GE357.out GE358.out GE376.out GE378.out) hb)
              (try clear hb)
              (try clear hb2)
              (try clear hk)
              (try clear hi)
              (try clear ho0)
              obtain ⟨Ao64, co64, eo64⟩ := Kd.R_slice HO383.out
              (first | subst eo64 | (injection eo64 with f1_ f2_ f3_; have f4_ := f1_.symm; have f5_ := f3_.symm; clear f1_ f2_ f3_; subst f4_; subst f5_))
              refine hK.out _ _ (mb4 BK376.out (mc3 BK378.out)) (fun hHeld => ?_)
              clear hK K
              refine mno 59 ?_
              refine mpu 10 61 HT_.out (mb 11 4) ?_
              refine mone 11 (some 62) HT_.out (mb 12 3) (fun K hK => ?_)
              refine value_ (w1 := ?_) (v := ?_) (by rfl) rfl ?_ ?_
              rotate_left 2
              ·go_simp
               constructor
               ·rfl
               ·rfl
              refine hK.out _ _ ⟨(blk_cell (blk_alloc BK376.out _) 0).trans rfl, (blk_cell (blk_alloc BK376.out _) 1).trans rfl, (blk_cell (blk_alloc BK376.out _) 2).trans rfl, (blk_cell (blk_alloc BK376.out _) 3).trans rfl, (blk_cell (blk_alloc BK378.out _) 0).trans rfl, (blk_cell (blk_alloc BK378.out _) 1).trans rfl, (blk_cell (blk_alloc BK378.out _) 2).trans rfl⟩ (fun hHeld => ?_)
              clear hK K
              refine mno 62 ?_
              refine mone 12 (some 63) HT_.out (mb 13 2) (fun K hK => ?_)
              refine Kd.S_append_step k120 (w0 := w) w.heap.size (by rfl) (.tmp 52) (.tmp 62) 60 120 (.agg #[(.int .i64 0), (.slice none 0 0), (.int .i64 0)]) 40 rfl Try.underlying60 info120 rfl (by decide) (by omega) u377000 x377000_2 (⟨(rd_T120 l0_0 x30_2).f0, t381, ji46⟩ : S120) [.int .i64 ((rd_T120 l0_0 x30_2).f0), .slice Ao64 t381.length co64, .int .i64 ji46] (fun k_ => k_ ≠ gb378) (fun k_ => some k_ = (.slice Ao64 t381.length co64 : Value).ownBlock) rfl rfl ?aP (fun k_ hk_ => ((Kd.R_mono (ok' := fun k_ => ((fun k_ => k_ ≠ gb378)) k_ ∧ some k_ ≠ (u377000 : Value).ownBlock) (Kd.R_types (Kd.R_apart' (HO383.out) (Kd.S_typed HO_377000.out) (by decide)) BK378.out (by decide)) (fun k_ hk => ⟨hk.2, hk.1.2⟩))).1 k_ hk_.symm) ?aF ?aO ?aB ?aS ?aL ?_
              (case aP => exact k120_mkM _ _ _ (⟨(rd_T120 l0_0 x30_2).f0, t381, ji46⟩ : S120) (Kd.R_mono (Kd.R_tight rfl (Kd.R_mono (ok' := fun k_ => ((fun k_ => k_ ≠ gb378)) k_ ∧ some k_ ≠ (u377000 : Value).ownBlock) (Kd.R_types (Kd.R_apart' (HO383.out) (Kd.S_typed HO_377000.out) (by decide)) BK378.out (by decide)) (fun k_ hk => ⟨hk.2, hk.1.2⟩))) (fun _ h_ => h_)))
              (case aB => exact (mH4 HB.out GE357.out GE358.out GE376.out GE378.out))
              (case aF => exact (fun k_ hk => Kd.freshB (g := gb378) (o := .cells #[.int .i64 ((rd_T120 l0_0 x30_2).f0), .slice A377_1 ((rd_T120 l0_0 x30_2).f1).length c377_1, .int .i64 ((rd_T120 l0_0 x30_2).f2)] 120 (0, 0)) (mK BK378.out) k_ hk))
              (case aO => exact (by refine mSd ?_; exact Kd.S_mono HO_377000.out (fun k_ hk => ⟨hk.1.2, fun e_ => hk.2 e_⟩)))
              (case aS => exact (below_size (mH4 HB.out GE357.out GE358.out GE376.out GE378.out)))
              (case aL => have := LMc50.out; omega)
              intro v385 w65 ho hb hg hat
              rw [← Ny384.out] at ho
              replace HO_377001 := mS (Kd.R_over' (mR HO_377001.out) (Kd.S_typed (mSd HO_377000.out)) (by decide) hg)
              replace HO_377002 := mS (Kd.R_over' (mR HO_377002.out) (Kd.S_typed (mSd HO_377000.out)) (by decide) hg)
              replace BK357 := mS (blk_grown (g := gb357) (o := .cells #[.slice (some ad377) l0_0.length c0_0, .slice A0_1 l0_1.length c0_1, .slice A0_2 l0_2.length c0_2, .int .i64 a0_3] 63 (0, 0)) (mK BK357.out) hg (Kd.S_ne HO_377000.out BK357.out (by decide)))
              replace BK358 := mS (blk_grown (g := gb358) (o := .cells #[.slice none 0 0, .slice none 0 0, .slice none 0 0, .int .i64 0] 63 (0, 0)) (mK BK358.out) hg (Kd.S_ne HO_377000.out BK358.out (by decide)))
              replace BK376 := mS (blk_grown (g := gb376) (o := .cells #[u377000, .slice Ao32 y370.length co32, .slice Ao31 y373.length co31, .int .i64 a0_3] 63 (0, 0)) (mK BK376.out) hg (Kd.S_ne HO_377000.out BK376.out (by decide)))
              replace BK378 := mS (blk_grown (g := gb378) (o := .cells #[.int .i64 ((rd_T120 l0_0 x30_2).f0), .slice A377_1 ((rd_T120 l0_0 x30_2).f1).length c377_1, .int .i64 ((rd_T120 l0_0 x30_2).f2)] 120 (0, 0)) (mK BK378.out) hg (Kd.S_away HO_377000.out (fun _ hk => hk.1.2)))
              replace HB := mS (hb)
              have HO386 := mS (ho)
              clear HO_377000
              clear HO383
              clear ho hb hg hat
              obtain ⟨Ao66, co66, eo66⟩ := Kd.S_slice HO386.out
              (first | subst eo66 | (injection eo66 with f1_ f2_ f3_; have f4_ := f1_.symm; have f5_ := f3_.symm; clear f1_ f2_ f3_; subst f4_; subst f5_))
              refine hK.out _ _ (mb4 BK376.out (mc3 BK378.out)) (fun hHeld => ?_)
              clear hK K
              refine mno 63 ?_
              refine mpu 13 64 HT_.out (mb 14 1) ?_
              refine last_ (i := 14) (N := none) (mb 15 0) rfl rfl (one_of HT_.out (by kernel_rfl)) (by decide) (fun K hK => ?_)
              have hs67 : w65.cell? ⟨gb376, 0, none⟩ = some (u377000) := mZ BK376.out 0
              have hfs67 := blk_frozen BK376.out 0
              have hns67_0 := NB357_376.out
              have hns67_1 := NB358_376.out
              have hns67_3 := NB378_376.out
              have hms67_0 := NB376_357.out
              have hms67_1 := NB376_358.out
              have hms67_3 := NB376_378.out
              refine skip_ (w1 := ?_) (by rfl) rfl ?_ ?_
              rotate_left
              ·go_simp
               rfl
              refine hK.out _ _ ?_
              clear hK K
              refine done_ (done_of HT_.out (by kernel_rfl)) ?_
              try go_wp2
              go_roundg k2
              case measure => have := HJ2.out; have := HK2.out; omega
              case rel => exact ⟨(wrap64 (x30_2 + 1)), (y384), (.slice Ao66 y384.length co66), mE, H', ⟨by have := HJ2.out; have := HK2.out; omega⟩, ⟨by refine mSd ?_; exact Kd.S_mono (Kd.S_far (p := ⟨gb376, 0, none⟩) (Kd.S_types HO386.out BK376.out (by decide)) (fun _ hk => hk.2) (.slice Ao66 y384.length co66)) (fun _ hk => trivial)⟩, ⟨by refine mR ?_; exact Kd.R_mono (Kd.R_far (p := ⟨gb376, 0, none⟩) (Kd.R_types HO_377001.out BK376.out (by decide)) (fun _ hk => hk.2) (.slice Ao66 y384.length co66)) (fun _ hk => hk.1)⟩, ⟨by refine mR ?_; exact Kd.R_mono (Kd.R_far (p := ⟨gb376, 0, none⟩) (Kd.R_types HO_377002.out BK376.out (by decide)) (fun _ hk => hk.2) (.slice Ao66 y384.length co66)) (fun _ hk => hk.1)⟩, ⟨mKf NB357_376.out BK357.out⟩, ⟨mKf NB358_376.out BK358.out⟩, ⟨by refine mK ?_; refine blk_put (cs := #[u377000, .slice Ao32 y370.length co32, .slice Ao31 y373.length co31, .int .i64 a0_3]) ?_ 0 _ rfl; refine mK ?_; exact BK376.out⟩, ⟨(mH4 HB.out GE357.out GE358.out GE376.out GE378.out)⟩⟩
             ·rw [if_neg c50] at H
              exact absurd H (by simp)
            ·rw [if_neg c48] at H
             exact absurd H (by simp)
           ·rw [if_neg c47] at H
            exact absurd H (by simp)
          ·replace c44 := Bool.eq_false_iff.mpr c44
           subst c44
           have H1 := H
           rw [if_neg (show ¬ (false = true) by decide)] at H1
           clear H
           have H := H1
           clear H1
           have H' := mS H
           clear H
           have p377 : 0 ≤ (x30_2 : Int) := mD
           have q377 : x30_2 < (l0_0.length : Int) := mD
           obtain ⟨ad377, A377_1, c377_1, e377, hx377_0, hx377_1, hx377_2, hl377_1, hi377_1⟩ := at_T120 HR0_0.out x30_2 p377 q377
           cases e377
           replace hx377_0 := mX HB.out hx377_0
           replace hx377_1 := mX HB.out hx377_1
           replace hx377_2 := mX HB.out hx377_2
           have HR377_1 := mS hi377_1
           have HC377_1 := mS hl377_1
           clear hi377_1 hl377_1
           replace p377 := eq_true p377
           replace q377 := eq_true q377
           go_wp2_with (first | ((with_reducible refine gate_dst (N := 7) rfl ?_); refine mBx 7 #[.int .i64 0, .slice none 0 0, .int .i64 0] 120 ?_; intro gb378 hg w68 hbox hb; replace HO_377000 := mS (Kd.S_below (Kd.S_elderB (mSd HO_377000.out) gb378 (Nat.le_of_eq hg.symm)) hb); replace HO_377001 := mS (Kd.R_below (mR HO_377001.out) hb); replace HO_377002 := mS (Kd.R_below (mR HO_377002.out) hb); have BK378 := mS (hbox); have GW378 := mG hg (mH3 HB.out GE357.out GE358.out GE376.out); have GE378 := mG hg (mH3 HB.out GE357.out GE358.out GE376.out); replace HB := mS (below_step (mH3 HB.out GE357.out GE358.out GE376.out) hb); have NB357_378 := mNl hg BK357.out; have NB378_357 := mNg hg BK357.out; replace BK357 := mB BK357 hb; have NB358_378 := mNl hg BK358.out; have NB378_358 := mNg hg BK358.out; replace BK358 := mB BK358 hb; have NB376_378 := mNl hg BK376.out; have NB378_376 := mNg hg BK376.out; replace BK376 := mB BK376 hb; clear hb hbox hg; have hnb69 := NB378_357.out; have hnc69 := NB357_378.out; have hnb70 := NB378_358.out; have hnc70 := NB358_378.out; have hnb71 := NB378_376.out; have hnc71 := NB376_378.out; obtain ⟨hcz72_0, hcz72_1, hcz72_2, hfz72_0, hfz72_1, hfz72_2⟩ := mZ3 BK378.out; have hnb73 := NB357_358.out; have hnc73 := NB358_357.out; have hnb74 := NB357_376.out; have hnc74 := NB376_357.out; obtain ⟨hcz75_0, hcz75_1, hcz75_2, hcz75_3, hfz75_0, hfz75_1, hfz75_2, hfz75_3⟩ := mZ4 BK357.out) | ((with_reducible refine gate_callee (f := 99) rfl ?_); refine mGo 38 Try.func99 #[.slice A0_2 l0_2.length c0_2, .int .i64 ((rd_T120 l0_0 x30_2).f0)] ?_; (with_reducible refine (impl_hasId.calls k2 _ _ l0_2 ((rd_T120 l0_0 x30_2).f0) false _ ?side1 ?side2 A43.out).mono ?_); (case side1 => exact Kd.C_below HR0_2.out (mH4 HB.out GE357.out GE358.out GE376.out GE378.out)); (case side2 => exact HC0_2.out); rintro e w76 ⟨rfl, hb⟩; refine ⟨_, rfl, ?_⟩; replace HO_377000 := mS (Kd.S_below (by refine mSd ?_; exact (Kd.S_mono (mSf3 (Kd.S_mono HO_377000.out (fun k_ hk => (⟨hk, hk.2⟩ : _ ∧ k_ ≠ gb378)))) (fun _ h_ => h_.1))) hb); replace HO_377001 := mS (Kd.R_below (by refine mR ?_; exact (Kd.R_mono (mRf3 (Kd.R_types HO_377001.out BK378.out (by decide))) (fun _ h_ => h_.1))) hb); replace HO_377002 := mS (Kd.R_below (by refine mR ?_; exact (Kd.R_mono (mRf3 (Kd.R_types HO_377002.out BK378.out (by decide))) (fun _ h_ => h_.1))) hb); replace BK357 := mS (blk_below (g := gb357) (o := .cells #[.slice (some ad377) l0_0.length c0_0, .slice A0_1 l0_1.length c0_1, .slice A0_2 l0_2.length c0_2, .int .i64 a0_3] 63 (0, 0)) (mKf NB357_378.out BK357.out) hb); replace BK358 := mS (blk_below (g := gb358) (o := .cells #[.slice none 0 0, .slice none 0 0, .slice none 0 0, .int .i64 0] 63 (0, 0)) (mKf NB358_378.out BK358.out) hb); replace BK376 := mS (blk_below (g := gb376) (o := .cells #[u377000, .slice Ao32 y370.length co32, .slice Ao31 y373.length co31, .int .i64 a0_3] 63 (0, 0)) (mKf NB376_378.out BK376.out) hb); replace BK378 := mS (blk_below (g := gb378) (o := .cells #[.int .i64 ((rd_T120 l0_0 x30_2).f0), .slice A377_1 ((rd_T120 l0_0 x30_2).f1).length c377_1, .int .i64 ((rd_T120 l0_0 x30_2).f2)] 120 (0, 0)) (by refine mK ?_; refine blk_put (cs := #[.int .i64 ((rd_T120 l0_0 x30_2).f0), .slice A377_1 ((rd_T120 l0_0 x30_2).f1).length c377_1, .int .i64 0]) ?_ 2 _ rfl; refine mK ?_; refine blk_put (cs := #[.int .i64 ((rd_T120 l0_0 x30_2).f0), .slice none 0 0, .int .i64 0]) ?_ 1 _ rfl; refine mK ?_; refine blk_put (cs := #[.int .i64 0, .slice none 0 0, .int .i64 0]) ?_ 0 _ rfl; refine mK ?_; exact BK378.out) hb); replace HB := mS (below_step (mH4 HB.out GE357.out GE358.out GE376.out GE378.out) hb); (try clear hb)))
           go_roundg k2
           case measure => have := HJ2.out; have := HK2.out; omega
           case rel => exact ⟨(wrap64 (x30_2 + 1)), (x377000_2), (u377000), mE, H', ⟨by have := HJ2.out; have := HK2.out; omega⟩, ⟨by refine mSd ?_; exact Kd.S_mono HO_377000.out (fun _ hk => trivial)⟩, ⟨mR HO_377001.out⟩, ⟨mR HO_377002.out⟩, ⟨mK BK357.out⟩, ⟨mK BK358.out⟩, ⟨mK BK376.out⟩, ⟨(mH4 HB.out GE357.out GE358.out GE376.out GE378.out)⟩⟩
         ·rw [if_neg c42] at H
          exact absurd H (by simp)
        ·rw [if_neg c41] at H
         exact absurd H (by simp)
       ·rw [if_neg c40] at H
        have c40b0 := decide_eq_false c40
        clear c40
        simp only [Option.some.injEq, Prod.mk.injEq] at H
        obtain ⟨rfl, rfl, rfl, rfl⟩ := H
        have hnb77 := NB376_357.out
        have hnc77 := NB357_376.out
        have hnb78 := NB376_358.out
        have hnc78 := NB358_376.out
        obtain ⟨hcz79_0, hcz79_1, hcz79_2, hcz79_3, hfz79_0, hfz79_1, hfz79_2, hfz79_3⟩ := mZ4 BK376.out
        obtain ⟨Ao80, co80, eo80⟩ := Kd.S_slice HO_377000.out
        subst eo80
        have hnb81 := NB358_357.out
        have hnc81 := NB357_358.out
        obtain ⟨hcz82_0, hcz82_1, hcz82_2, hcz82_3, hfz82_0, hfz82_1, hfz82_2, hfz82_3⟩ := mZ4 BK358.out
        go_wp2
        refine bodyPost_ret (results_cell_row rfl _ _ gb358 63 #[.slice Ao80 x377000_2.length co80, .slice Ao32 y370.length co32, .slice Ao31 y373.length co31, .int .i64 a0_3] (0, 0) _ rfl (by refine mK ?_; refine blk_put (cs := #[.slice Ao80 x377000_2.length co80, .slice Ao32 y370.length co32, .slice Ao31 y373.length co31, .int .i64 0]) ?_ 3 _ rfl; refine mK ?_; refine blk_put (cs := #[.slice Ao80 x377000_2.length co80, .slice Ao32 y370.length co32, .slice none 0 0, .int .i64 0]) ?_ 2 _ rfl; refine mK ?_; refine blk_put (cs := #[.slice Ao80 x377000_2.length co80, .slice none 0 0, .slice none 0 0, .int .i64 0]) ?_ 1 _ rfl; refine mK ?_; refine blk_put (cs := #[.slice none 0 0, .slice none 0 0, .slice none 0 0, .int .i64 0]) ?_ 0 _ rfl; refine mK ?_; exact BK358.out) Try.underlying63 rfl (by kernel_rfl)) rfl ?_
        exact ⟨_, _, _, mEw, by refine mSd ?_; exact Kd.S_mono (mSf4 (Kd.S_types HO_377000.out BK358.out (by decide))) (fun _ hk => trivial), by refine mR ?_; exact Kd.R_mono (mRf4 (Kd.R_types HO_377001.out BK358.out (by decide))) (fun _ hk => hk.1), by refine mR ?_; exact Kd.R_mono (mRf4 (Kd.R_types HO_377002.out BK358.out (by decide))) (fun _ hk => hk.1), (mH3 HB.out GE357.out GE358.out GE376.out)⟩
    ·rw [if_neg c23] at H
     exact absurd H (by simp)
end Go.Proofs.Ytgbejjeephipeaa.MFnExactFall
