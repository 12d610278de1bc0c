-- Written by mp.py, our own printer (wip/mp.py), and made shorter by wip/mp_shrink*.py.
import Derived.Test.YtgbejjeephipeaaVMShort
import Derived.Test.YtgbejjeephipeaaMFnExactFallx0
import Derived.Test.YtgbejjeephipeaaMFnExactFallx7
import Derived.Test.YtgbejjeephipeaaMFnExactFallx8
import Derived.Test.YtgbejjeephipeaaMFnExactFallx9
namespace Go.Proofs.Ytgbejjeephipeaa.MFnExactFall
open Go.RowKit Go.Proofs.YtgbejjeephipeaaW.PrintWords Go.Proofs.YtgbejjeephipeaaW.PrintLast Go.Proofs.YtgbejjeephipeaaW.PrintMore Go.Proofs.Ytgbejjeephipeaa.MWords
attribute [local go_sem] max2_int min2_int max_two min_two max_three min_three max_four min_four
set_option linter.unusedVariables false
set_option linter.unusedSimpArgs false
mutual
def spec_Fall.j0 : Nat → Int → Bool → List (S120) → List (S126) → List (S126) → Int → Option ((List (S120)) × (List (S126)) × (List (S126)) × Int)
 | 0, _, _, _, _, _, _ => none
 | k + 1, x1, x16, x273000, x273001, x273002, x273003 => if x16 = true then (some (x273000, x273001, x273002, x273003)) else ((some (([] : List (S126)) : List (S126))).bind fun y274 => (if y274.length + x273002.length < 5864062014805 then ((spec_l2Keep.f k x273000 (y274 ++ x273002) x273002 x273003).bind fun bt280 => (spec_Fall.l0 k x1 0 bt280.1 bt280.2.1 bt280.2.2.1 bt280.2.2.2)) else (none)))
def spec_Fall.l0 : Nat → Int → Int → List (S120) → List (S126) → List (S126) → Int → Option ((List (S120)) × (List (S126)) × (List (S126)) × Int)
 | 0, _, _, _, _, _, _ => none
 | k + 1, x1, x6, x273000, x273001, x273002, x273003 => if x6 < (x273000.length : Int) then (if 0 ≤ x6 then (if x1 < (wrap64 ((((rd_T120 x273000 x6).f1).length : Int) - ((rd_T120 x273000 x6).f2))) then (if 0 ≤ (wrap64 (((rd_T120 x273000 x6).f2) + x1)) then (if (wrap64 (((rd_T120 x273000 x6).f2) + x1)) ≤ (((rd_T120 x273000 x6).f1).length : Int) then ((some (x273000.set (x6 : Int).toNat (⟨(rd_T120 x273000 x6).f0, (((rd_T120 x273000 x6).f1).take ((wrap64 (((rd_T120 x273000 x6).f2) + x1)) : Int).toNat), (rd_T120 x273000 x6).f2⟩ : S120) : List (S120))).bind fun y297 => (spec_Fall.l0 k x1 (wrap64 (x6 + 1)) (y297.set (x6 : Int).toNat (⟨(rd_T120 y297 x6).f0, (rd_T120 y297 x6).f1, (((rd_T120 y297 x6).f1).length : Int)⟩ : S120)) x273001 x273002 x273003)) else (none)) else (none)) else (spec_Fall.l0 k x1 (wrap64 (x6 + 1)) (x273000.set (x6 : Int).toNat (⟨(rd_T120 x273000 x6).f0, (rd_T120 x273000 x6).f1, (((rd_T120 x273000 x6).f1).length : Int)⟩ : S120)) x273001 x273002 x273003)) else (none)) else (some (x273000, x273001, x273002, x273003))
end
def spec_Fall.f (k : Nat) (l0_0 : List (S120)) (l0_1 : List (S126)) (l0_2 : List (S126)) (a0_3 : Int) (a1 : Int) : Option ((List (S120)) × (List (S126)) × (List (S126)) × Int) := (spec_l2Copy.f k l0_0 l0_1 l0_2 a0_3).bind fun bt262 => ((spec_DiskOk.f k l0_0 l0_1 l0_2 a0_3).bind fun t273 => (if t273 = true then (spec_Fall.j0 k a1 (decide (a1 < 0)) bt262.1 bt262.2.1 bt262.2.2.1 bt262.2.2.2) else (spec_Fall.j0 k a1 true bt262.1 bt262.2.1 bt262.2.2.1 bt262.2.2.2)))
def spec_Fall.T11 : Bool × List (List Nat × List Nat) := (true, [([], []), ([0], [0]), ([], []), ([], []), ([3], [3]), ([], []), ([5], [5]), ([], []), ([6, 7], [6, 7]), ([4, 8], [4, 8]), ([1, 2, 0, 1, 2, 3, 4, 5, 6, 7, 8, 9], [1, 2]), ([10, 0, 1, 2, 3, 4, 5, 6, 7, 8, 9], [10]), ([11, 9, 0, 1, 2, 3, 4, 5, 6, 7, 8, 9], [9, 11])])
def spec_Fall.B11 : List Nat := [0, 1, 0, 0, 8, 0, 32, 0, 224, 504, 1023, 2047, 4095]
theorem spec_Fall.tab11 : rtab .any (opsOf Try.f57 11) = spec_Fall.T11 := by kernel_rfl
theorem spec_Fall.bits11 : waitsOk spec_Fall.T11.2 spec_Fall.B11 = true := by kernel_rfl
def spec_Fall.T12 : Bool × List (List Nat × List Nat) := (true, [([], []), ([0], [0]), ([], []), ([], []), ([3], [3]), ([], []), ([4, 5], [4, 5]), ([6], [6]), ([7], [7]), ([8], [8]), ([1, 2, 0, 1, 2, 3, 4, 5, 6, 7, 8, 9], [1, 2]), ([10, 0, 1, 2, 3, 4, 5, 6, 7, 8, 9], [10]), ([11, 9, 0, 1, 2, 3, 4, 5, 6, 7, 8, 9], [9, 11])])
def spec_Fall.B12 : List Nat := [0, 1, 0, 0, 8, 0, 56, 120, 248, 504, 1023, 2047, 4095]
theorem spec_Fall.tab12 : rtab .any (opsOf Try.f57 12) = spec_Fall.T12 := by kernel_rfl
theorem spec_Fall.bits12 : waitsOk spec_Fall.T12.2 spec_Fall.B12 = true := by kernel_rfl
set_option maxHeartbeats 8000000 in
set_option maxRecDepth 100000 in
theorem spec_Fall.calls (k : Nat) (A0_0 : Option Addr) (c0_0 : Nat) (l0_0 : List (S120)) (A0_1 : Option Addr) (c0_1 : Nat) (l0_1 : List (S126)) (A0_2 : Option Addr) (c0_2 : Nat) (l0_2 : List (S126)) (a0_3 : Int) (a1 : Int) (r1 : List (S120)) (r2 : List (S126)) (r3 : List (S126)) (r4 : Int) (w : World) (hr0_0 : Kd.C k120 w A0_0 l0_0.length l0_0) (hc0_0 : l0_0.length ≤ c0_0) (hr0_1 : Kd.C k126 w A0_1 l0_1.length l0_1) (hc0_1 : l0_1.length ≤ c0_1) (hr0_2 : Kd.C k126 w A0_2 l0_2.length l0_2) (hc0_2 : l0_2.length ≤ c0_2) (h : spec_Fall.f k l0_0 l0_1 l0_2 a0_3 a1 = some (r1, r2, r3, r4)) :
  Calls Try.prog 57 #[.agg #[.slice A0_0 l0_0.length c0_0, .slice A0_1 l0_1.length c0_1, .slice A0_2 l0_2.length c0_2, .int .i64 a0_3], .int .i64 a1] w fun e w' => ∃ v0_ v1_ v2_ : Value, e = .returned (.agg #[v0_, v1_, v2_, .int .i64 r4]) ∧ Kd.N k120 120 w' w.heap.size (fun k_ => (w.heap.size ≤ k_) ∧ some k_ ≠ (v1_ : Value).ownBlock ∧ some k_ ≠ (v2_ : Value).ownBlock) v0_ r1 ∧ Kd.R k126 126 w' w.heap.size (fun k_ => (w.heap.size ≤ k_) ∧ some k_ ≠ (v2_ : Value).ownBlock) v1_ r2 ∧ Kd.R k126 126 w' w.heap.size (fun k_ => (w.heap.size ≤ k_) ∧ some k_ ≠ (v1_ : Value).ownBlock) v2_ r3 ∧ Below w.heap.size w w' := by
 have hu63 := Try.underlying63
 have hu120 := Try.underlying120
 have HR0_0 := mS hr0_0
 have HC0_0 := mS hc0_0
 clear hr0_0 hc0_0
 have HR0_1 := mS hr0_1
 have HC0_1 := mS hc0_1
 clear hr0_1 hc0_1
 have HR0_2 := mS hr0_2
 have HC0_2 := mS hc0_2
 clear hr0_2 hc0_2
 have HB := mS (Below.refl w.heap.size w)
 have H : ((spec_l2Copy.f k l0_0 l0_1 l0_2 a0_3).bind fun bt262 => ((spec_DiskOk.f k l0_0 l0_1 l0_2 a0_3).bind fun t273 => (if t273 = true then (spec_Fall.j0 k a1 (decide (a1 < 0)) bt262.1 bt262.2.1 bt262.2.2.1 bt262.2.2.2) else (spec_Fall.j0 k a1 true bt262.1 bt262.2.1 bt262.2.2.1 bt262.2.2.2)))) = some (r1, r2, r3, r4) := h
 clear h
 replace H := Option.bind_eq_some_iff.mp H
 obtain ⟨⟨t262, t265, t268, t271⟩, A30, H⟩ := H
 replace H : ((spec_DiskOk.f k l0_0 l0_1 l0_2 a0_3).bind fun t273 => (if t273 = true then (spec_Fall.j0 k a1 (decide (a1 < 0)) t262 t265 t268 t271) else (spec_Fall.j0 k a1 true t262 t265 t268 t271))) = some (r1, r2, r3, r4) := H
 have A3 := mS A30
 clear A30
 have HC4 := mS H
 clear H
 go_enter Try.func57, Try.ntmps57
 go_upto_region 2 with (first | ((with_reducible refine gate_dst (N := 2) rfl ?_); refine mBx 2 #[.slice A0_0 l0_0.length c0_0, .slice A0_1 l0_1.length c0_1, .slice A0_2 l0_2.length c0_2, .int .i64 a0_3] 63 ?_; intro gb260 hg w5 hbox hb; have BK260 := mS (hbox); have GW260 := mG hg (mH HB.out); have GE260 := mG hg (mH HB.out); replace HB := mS (below_step (mH HB.out) hb); clear hb hbox hg) | ((with_reducible refine gate_dst (N := 4) rfl ?_); refine mBx 4 #[.slice none 0 0, .slice none 0 0, .slice none 0 0, .int .i64 0] 63 ?_; intro gb261 hg w6 hbox hb; have BK261 := mS (hbox); have GW261 := mG hg (mH1 HB.out GE260.out); have GE261 := mG hg (mH1 HB.out GE260.out); replace HB := mS (below_step (mH1 HB.out GE260.out) hb); have NB260_261 := mNl hg BK260.out; have NB261_260 := mNg hg BK260.out; replace BK260 := mB BK260 hb; clear hb hbox hg; have hnb7 := NB260_261.out; have hnc7 := NB261_260.out; obtain ⟨hcz8_0, hcz8_1, hcz8_2, hcz8_3, hfz8_0, hfz8_1, hfz8_2, hfz8_3⟩ := mZ4 BK260.out) | ((with_reducible refine gate_callee (f := 108) rfl ?_); refine mGo 9 Try.func108 #[.agg #[.slice A0_0 l0_0.length c0_0, .slice A0_1 l0_1.length c0_1, .slice A0_2 l0_2.length c0_2, .int .i64 a0_3]] ?_; (with_reducible refine (spec_l2Copy.calls k _ _ l0_0 _ _ l0_1 _ _ l0_2 a0_3 t262 t265 t268 t271 _ ?side1 ?side2 ?side3 ?side4 ?side5 ?side6 A3.out).mono ?_); (case side1 => exact mC (Kd.C_below HR0_0.out HB.out)); (case side2 => exact HC0_0.out); (case side3 => exact mC (Kd.C_below HR0_1.out HB.out)); (case side4 => exact HC0_1.out); (case side5 => exact mC (Kd.C_below HR0_2.out HB.out)); (case side6 => exact HC0_2.out); rintro e w9 ⟨v263, v266, v269, rfl, ho0, ho1, ho2, hb⟩; refine ⟨_, rfl, ?_⟩; have HO264 := mS (Kd.N_lower (Kd.N_mono (ok' := fun k_ => (w.heap.size ≤ k_) ∧ some k_ ≠ (v266 : Value).ownBlock ∧ some k_ ≠ (v269 : Value).ownBlock ∧ k_ ≠ gb260 ∧ k_ ≠ gb261) (Kd.S_N (Kd.S_bound (Kd.S_apart' (Kd.S_apart' ho0 (Kd.R_typed ho1) (by decide)) (Kd.R_typed ho2) (by decide)))) (fun k_ hk_ => ⟨(Nat.le_trans (below_size (mH2 HB.out GE260.out GE261.out)) hk_.2.1), hk_.1.1.2, hk_.1.2, (Kd.freshB (g := gb260) (o := .cells #[.slice A0_0 l0_0.length c0_0, .slice A0_1 l0_1.length c0_1, .slice A0_2 l0_2.length c0_2, .int .i64 a0_3] 63 (0, 0)) (mK BK260.out) k_ hk_.2.1), (Kd.freshB (g := gb261) (o := .cells #[.slice none 0 0, .slice none 0 0, .slice none 0 0, .int .i64 0] 63 (0, 0)) (mK BK261.out) k_ hk_.2.1)⟩)) (below_size (mH2 HB.out GE260.out GE261.out))); have HO267 := mS (Kd.R_lower (Kd.R_newM (M := fun k_ => (w.heap.size ≤ k_)) ho1 (below_size (mH2 HB.out GE260.out GE261.out)) (fun k_ h_ => h_)) (below_size (mH2 HB.out GE260.out GE261.out))); have HO270 := mS (Kd.R_lower (Kd.R_newM (M := fun k_ => (w.heap.size ≤ k_)) ho2 (below_size (mH2 HB.out GE260.out GE261.out)) (fun k_ h_ => h_)) (below_size (mH2 HB.out GE260.out GE261.out))); replace BK260 := mB BK260 hb; replace BK261 := mB BK261 hb; replace HB := mS (below_step (mH2 HB.out GE260.out GE261.out) hb); (try clear hb); (try clear ho0); (try clear ho1); (try clear ho2)) | ((with_reducible refine gate_dst (N := 5) rfl ?_); refine mBx 5 #[.slice none 0 0, .slice none 0 0, .slice none 0 0, .int .i64 0] 63 ?_; intro gb272 hg w10 hbox hb; replace HO264 := mS (Kd.N_below (Kd.N_elderB (mNd HO264.out) gb272 (Nat.le_of_eq hg.symm)) hb); replace HO267 := mS (Kd.R_below (mR HO267.out) hb); replace HO270 := mS (Kd.R_below (mR HO270.out) hb); have BK272 := mS (hbox); have GW272 := mG hg (mH2 HB.out GE260.out GE261.out); have GE272 := mG hg (mH2 HB.out GE260.out GE261.out); replace HB := mS (below_step (mH2 HB.out GE260.out GE261.out) hb); have NB260_272 := mNl hg BK260.out; have NB272_260 := mNg hg BK260.out; replace BK260 := mB BK260 hb; have NB261_272 := mNl hg BK261.out; have NB272_261 := mNg hg BK261.out; replace BK261 := mB BK261 hb; clear hb hbox hg; obtain ⟨Ao11, co11, eo11⟩ := Kd.N_slice HO264.out; subst eo11; have hnb12 := NB272_260.out; have hnc12 := NB260_272.out; have hnb13 := NB272_261.out; have hnc13 := NB261_272.out; obtain ⟨hcz14_0, hcz14_1, hcz14_2, hcz14_3, hfz14_0, hfz14_1, hfz14_2, hfz14_3⟩ := mZ4 BK272.out; obtain ⟨Ao15, co15, eo15⟩ := Kd.R_slice HO267.out; subst eo15; obtain ⟨Ao16, co16, eo16⟩ := Kd.R_slice HO270.out; subst eo16))
 (try simp only [Act.put, zA, zB, zC])
 go_cut [16] (fun v16 wc => ∃ (kq : Nat) (x16_3 : Bool), v16 = .bool x16_3 ∧ Aside0 (spec_Fall.j0 kq a1 x16_3 t262 t265 t268 t271 = some (r1, r2, r3, r4)) ∧ Aside0 (kq ≤ k) ∧ Aside0 (Kd.N k120 120 wc w.heap.size (fun k_ => (w.heap.size ≤ k_) ∧ some k_ ≠ ((.slice Ao15 t265.length co15) : Value).ownBlock ∧ some k_ ≠ ((.slice Ao16 t268.length co16) : Value).ownBlock ∧ k_ ≠ gb260 ∧ k_ ≠ gb261 ∧ k_ ≠ gb272) (.slice Ao11 t262.length co11) t262) ∧ Aside0 (Kd.R k126 126 wc w.heap.size (fun k_ => (w.heap.size ≤ k_) ∧ some k_ ≠ ((.slice Ao16 t268.length co16) : Value).ownBlock) (.slice Ao15 t265.length co15) t265) ∧ Aside0 (Kd.R k126 126 wc w.heap.size (fun k_ => (w.heap.size ≤ k_) ∧ some k_ ≠ ((.slice Ao15 t265.length co15) : Value).ownBlock) (.slice Ao16 t268.length co16) t268) ∧ Aside0 (wc.heap[gb260]? = some (.cells #[(.slice A0_0 l0_0.length c0_0), (.slice A0_1 l0_1.length c0_1), (.slice A0_2 l0_2.length c0_2), .int .i64 a0_3] 63 (0, 0))) ∧ Aside0 (wc.heap[gb261]? = some (.cells #[(.slice none 0 0), (.slice none 0 0), (.slice none 0 0), .int .i64 0] 63 (0, 0))) ∧ Aside0 (wc.heap[gb272]? = some (.cells #[(.slice Ao11 t262.length co11), (.slice Ao15 t265.length co15), (.slice Ao16 t268.length co16), .int .i64 t271] 63 (0, 0))) ∧ Aside0 (Below w.heap.size w wc))
 case first =>
  have H := HC4.out
  clear HC4
  replace H := Option.bind_eq_some_iff.mp H
  obtain ⟨t273, A170, H⟩ := H
  replace H : (if t273 = true then (spec_Fall.j0 k a1 (decide (a1 < 0)) t262 t265 t268 t271) else (spec_Fall.j0 k a1 true t262 t265 t268 t271)) = some (r1, r2, r3, r4) := H
  have A17 := mS A170
  clear A170
  by_cases c18 : t273 = true
  ·subst c18
   have H1 := H
   rw [if_pos rfl] at H1
   clear H
   have H := H1
   clear H1
   have H' := mS H
   clear H
   have hnb19 := NB260_261.out
   have hnc19 := NB261_260.out
   have hnb20 := NB260_272.out
   have hnc20 := NB272_260.out
   obtain ⟨hcz21_0, hcz21_1, hcz21_2, hcz21_3, hfz21_0, hfz21_1, hfz21_2, hfz21_3⟩ := mZ4 BK260.out
   go_wp2_with (first | ((with_reducible refine gate_callee (f := 44) rfl ?_); refine mGo 11 Try.func44 #[.agg #[.slice A0_0 l0_0.length c0_0, .slice A0_1 l0_1.length c0_1, .slice A0_2 l0_2.length c0_2, .int .i64 a0_3]] ?_; (with_reducible refine (spec_DiskOk.calls k _ _ l0_0 _ _ l0_1 _ _ l0_2 a0_3 true _ ?side1 ?side2 ?side3 ?side4 ?side5 ?side6 A17.out).mono ?_); (case side1 => exact Kd.C_below HR0_0.out (mH3 HB.out GE260.out GE261.out GE272.out)); (case side2 => exact HC0_0.out); (case side3 => exact Kd.C_below HR0_1.out (mH3 HB.out GE260.out GE261.out GE272.out)); (case side4 => exact HC0_1.out); (case side5 => exact Kd.C_below HR0_2.out (mH3 HB.out GE260.out GE261.out GE272.out)); (case side6 => exact HC0_2.out); rintro e w22 ⟨rfl, hb⟩; refine ⟨_, rfl, ?_⟩; replace HO264 := mS (Kd.N_below (by refine mNd ?_; exact (Kd.N_mono (mNf4 (Kd.N_mono HO264.out (fun k_ hk => (⟨hk, hk.2⟩ : _ ∧ k_ ≠ gb272)))) (fun _ h_ => h_.1))) hb); replace HO267 := mS (Kd.R_below (by refine mR ?_; exact (Kd.R_mono (mRf4 (Kd.R_types HO267.out BK272.out (by decide))) (fun _ h_ => h_.1))) hb); replace HO270 := mS (Kd.R_below (by refine mR ?_; exact (Kd.R_mono (mRf4 (Kd.R_types HO270.out BK272.out (by decide))) (fun _ h_ => h_.1))) hb); replace BK260 := mS (blk_below (g := gb260) (o := .cells #[.slice A0_0 l0_0.length c0_0, .slice A0_1 l0_1.length c0_1, .slice A0_2 l0_2.length c0_2, .int .i64 a0_3] 63 (0, 0)) (mKf NB260_272.out BK260.out) hb); replace BK261 := mS (blk_below (g := gb261) (o := .cells #[.slice none 0 0, .slice none 0 0, .slice none 0 0, .int .i64 0] 63 (0, 0)) (mKf NB261_272.out BK261.out) hb); replace BK272 := mS (blk_below (g := gb272) (o := .cells #[.slice Ao11 t262.length co11, .slice Ao15 t265.length co15, .slice Ao16 t268.length co16, .int .i64 t271] 63 (0, 0)) (by refine mK ?_; refine blk_put (cs := #[.slice Ao11 t262.length co11, .slice Ao15 t265.length co15, .slice Ao16 t268.length co16, .int .i64 0]) ?_ 3 _ rfl; refine mK ?_; refine blk_put (cs := #[.slice Ao11 t262.length co11, .slice Ao15 t265.length co15, .slice none 0 0, .int .i64 0]) ?_ 2 _ rfl; refine mK ?_; refine blk_put (cs := #[.slice Ao11 t262.length co11, .slice none 0 0, .slice none 0 0, .int .i64 0]) ?_ 1 _ rfl; refine mK ?_; refine blk_put (cs := #[.slice none 0 0, .slice none 0 0, .slice none 0 0, .int .i64 0]) ?_ 0 _ rfl; refine mK ?_; exact BK272.out) hb); replace HB := mS (below_step (mH3 HB.out GE260.out GE261.out GE272.out) hb); (try clear hb)))
   go_meet
   case rel => exact ⟨_, (decide (a1 < 0)), mE, H', ⟨by first | omega | exact Nat.le_refl _⟩, ⟨by refine mNd ?_; exact Kd.N_mono HO264.out (fun _ hk => ⟨hk.1.1, ⟨hk.1.2.1, ⟨hk.1.2.2.1, ⟨hk.1.2.2.2.1, ⟨hk.1.2.2.2.2, hk.2⟩⟩⟩⟩⟩)⟩, ⟨mR HO267.out⟩, ⟨mR HO270.out⟩, ⟨mK BK260.out⟩, ⟨mK BK261.out⟩, ⟨mK BK272.out⟩, ⟨(mH3 HB.out GE260.out GE261.out GE272.out)⟩⟩
  ·replace c18 := Bool.eq_false_iff.mpr c18
   subst c18
   have H1 := H
   rw [if_neg (show ¬ (false = true) by decide)] at H1
   clear H
   have H := H1
   clear H1
   have H' := mS H
   clear H
   have hnb23 := NB260_261.out
   have hnc23 := NB261_260.out
   have hnb24 := NB260_272.out
   have hnc24 := NB272_260.out
   obtain ⟨hcz25_0, hcz25_1, hcz25_2, hcz25_3, hfz25_0, hfz25_1, hfz25_2, hfz25_3⟩ := mZ4 BK260.out
   go_wp2_with (first | ((with_reducible refine gate_callee (f := 44) rfl ?_); refine mGo 11 Try.func44 #[.agg #[.slice A0_0 l0_0.length c0_0, .slice A0_1 l0_1.length c0_1, .slice A0_2 l0_2.length c0_2, .int .i64 a0_3]] ?_; (with_reducible refine (spec_DiskOk.calls k _ _ l0_0 _ _ l0_1 _ _ l0_2 a0_3 false _ ?side1 ?side2 ?side3 ?side4 ?side5 ?side6 A17.out).mono ?_); (case side1 => exact Kd.C_below HR0_0.out (mH3 HB.out GE260.out GE261.out GE272.out)); (case side2 => exact HC0_0.out); (case side3 => exact Kd.C_below HR0_1.out (mH3 HB.out GE260.out GE261.out GE272.out)); (case side4 => exact HC0_1.out); (case side5 => exact Kd.C_below HR0_2.out (mH3 HB.out GE260.out GE261.out GE272.out)); (case side6 => exact HC0_2.out); rintro e w26 ⟨rfl, hb⟩; refine ⟨_, rfl, ?_⟩; replace HO264 := mS (Kd.N_below (by refine mNd ?_; exact (Kd.N_mono (mNf4 (Kd.N_mono HO264.out (fun k_ hk => (⟨hk, hk.2⟩ : _ ∧ k_ ≠ gb272)))) (fun _ h_ => h_.1))) hb); replace HO267 := mS (Kd.R_below (by refine mR ?_; exact (Kd.R_mono (mRf4 (Kd.R_types HO267.out BK272.out (by decide))) (fun _ h_ => h_.1))) hb); replace HO270 := mS (Kd.R_below (by refine mR ?_; exact (Kd.R_mono (mRf4 (Kd.R_types HO270.out BK272.out (by decide))) (fun _ h_ => h_.1))) hb); replace BK260 := mS (blk_below (g := gb260) (o := .cells #[.slice A0_0 l0_0.length c0_0, .slice A0_1 l0_1.length c0_1, .slice A0_2 l0_2.length c0_2, .int .i64 a0_3] 63 (0, 0)) (mKf NB260_272.out BK260.out) hb); replace BK261 := mS (blk_below (g := gb261) (o := .cells #[.slice none 0 0, .slice none 0 0, .slice none 0 0, .int .i64 0] 63 (0, 0)) (mKf NB261_272.out BK261.out) hb); replace BK272 := mS (blk_below (g := gb272) (o := .cells #[.slice Ao11 t262.length co11, .slice Ao15 t265.length co15, .slice Ao16 t268.length co16, .int .i64 t271] 63 (0, 0)) (by refine mK ?_; refine blk_put (cs := #[.slice Ao11 t262.length co11, .slice Ao15 t265.length co15, .slice Ao16 t268.length co16, .int .i64 0]) ?_ 3 _ rfl; refine mK ?_; refine blk_put (cs := #[.slice Ao11 t262.length co11, .slice Ao15 t265.length co15, .slice none 0 0, .int .i64 0]) ?_ 2 _ rfl; refine mK ?_; refine blk_put (cs := #[.slice Ao11 t262.length co11, .slice none 0 0, .slice none 0 0, .int .i64 0]) ?_ 1 _ rfl; refine mK ?_; refine blk_put (cs := #[.slice none 0 0, .slice none 0 0, .slice none 0 0, .int .i64 0]) ?_ 0 _ rfl; refine mK ?_; exact BK272.out) hb); replace HB := mS (below_step (mH3 HB.out GE260.out GE261.out GE272.out) hb); (try clear hb)))
   go_meet
   case rel => exact ⟨_, (true), mE, H', ⟨by first | omega | exact Nat.le_refl _⟩, ⟨by refine mNd ?_; exact Kd.N_mono HO264.out (fun _ hk => ⟨hk.1.1, ⟨hk.1.2.1, ⟨hk.1.2.2.1, ⟨hk.1.2.2.2.1, ⟨hk.1.2.2.2.2, hk.2⟩⟩⟩⟩⟩)⟩, ⟨mR HO267.out⟩, ⟨mR HO270.out⟩, ⟨mK BK260.out⟩, ⟨mK BK261.out⟩, ⟨mK BK272.out⟩, ⟨(mH3 HB.out GE260.out GE261.out GE272.out)⟩⟩
 case rest =>
  clear HC4
  try clear c1
  try clear c2
  try clear p2
  try clear c4
  try clear c5
  try clear c7
  try clear c10
  try clear c12
  try clear c13
  try clear c18
  try clear c19
  try clear c20
  try clear c23
  try clear c24
  try clear hcz14_0
  try clear hcz14_1
  try clear hcz14_2
  try clear hcz14_3
  try clear hcz21_0
  try clear hcz21_1
  try clear hcz21_2
  try clear hcz21_3
  try clear hcz25_0
  try clear hcz25_1
  try clear hcz25_2
  try clear hcz25_3
  try clear hcz8_0
  try clear hcz8_1
  try clear hcz8_2
  try clear hcz8_3
  try clear hfz14_0
  try clear hfz14_1
  try clear hfz14_2
  try clear hfz14_3
  try clear hfz21_0
  try clear hfz21_1
  try clear hfz21_2
  try clear hfz21_3
  try clear hfz25_0
  try clear hfz25_1
  try clear hfz25_2
  try clear hfz25_3
  try clear hfz8_0
  try clear hfz8_1
  try clear hfz8_2
  try clear hfz8_3
  obtain ⟨kq, x16_3, rfl, HA, HJ3, HO_273000, HO_273001, HO_273002, BK260, BK261, BK272, HB⟩ := hcut
  cases kq with
  | zero => exact absurd HA.out (by simp [spec_Fall.j0])
  | succ kj3 =>
   have H := HA.out
   clear HA
   simp only [spec_Fall.j0] at H
   by_cases c27 : x16_3 = true
   ·subst c27
    have H1 := H
    rw [if_pos rfl] at H1
    clear H
    have H := H1
    clear H1
    simp only [Option.some.injEq, Prod.mk.injEq] at H
    obtain ⟨rfl, rfl, rfl, rfl⟩ := H
    have hnb28 := NB272_260.out
    have hnc28 := NB260_272.out
    have hnb29 := NB272_261.out
    have hnc29 := NB261_272.out
    obtain ⟨hcz30_0, hcz30_1, hcz30_2, hcz30_3, hfz30_0, hfz30_1, hfz30_2, hfz30_3⟩ := mZ4 BK272.out
    have hnb31 := NB261_260.out
    have hnc31 := NB260_261.out
    obtain ⟨hcz32_0, hcz32_1, hcz32_2, hcz32_3, hfz32_0, hfz32_1, hfz32_2, hfz32_3⟩ := mZ4 BK261.out
    go_wp2
    refine bodyPost_ret (results_cell_row rfl _ _ gb261 63 #[.slice Ao11 t262.length co11, .slice Ao15 t265.length co15, .slice Ao16 t268.length co16, .int .i64 t271] (0, 0) _ rfl (by refine mK ?_; refine blk_put (cs := #[.slice Ao11 t262.length co11, .slice Ao15 t265.length co15, .slice Ao16 t268.length co16, .int .i64 0]) ?_ 3 _ rfl; refine mK ?_; refine blk_put (cs := #[.slice Ao11 t262.length co11, .slice Ao15 t265.length co15, .slice none 0 0, .int .i64 0]) ?_ 2 _ rfl; refine mK ?_; refine blk_put (cs := #[.slice Ao11 t262.length co11, .slice none 0 0, .slice none 0 0, .int .i64 0]) ?_ 1 _ rfl; refine mK ?_; refine blk_put (cs := #[.slice none 0 0, .slice none 0 0, .slice none 0 0, .int .i64 0]) ?_ 0 _ rfl; refine mK ?_; exact BK261.out) Try.underlying63 rfl (by kernel_rfl)) rfl ?_
    exact ⟨_, _, _, mEw, by refine mNd ?_; exact Kd.N_mono (mNf4 (Kd.N_mono HO_273000.out (fun k_ hk => (⟨hk, hk.2.2.2.2.1⟩ : _ ∧ k_ ≠ gb261)))) (fun _ hk => ⟨hk.1.1, ⟨hk.1.2.1, hk.1.2.2.1⟩⟩), by refine mR ?_; exact Kd.R_mono (mRf4 (Kd.R_types HO_273001.out BK261.out (by decide))) (fun _ hk => ⟨hk.1.1, hk.1.2⟩), by refine mR ?_; exact Kd.R_mono (mRf4 (Kd.R_types HO_273002.out BK261.out (by decide))) (fun _ hk => ⟨hk.1.1, hk.1.2⟩), (mH3 HB.out GE260.out GE261.out GE272.out)⟩
   ·replace c27 := Bool.eq_false_iff.mpr c27
    subst c27
    have H1 := H
    rw [if_neg (show ¬ (false = true) by decide)] at H1
    clear H
    have H := H1
    clear H1
    obtain ⟨y274, hy274⟩ : ∃ y_ : List (S126), y_ = (([] : List (S126))) := ⟨_, rfl⟩
    replace H : (if y274.length + t268.length < 5864062014805 then ((spec_l2Keep.f kj3 t262 (y274 ++ t268) t268 t271).bind fun bt280 => (spec_Fall.l0 kj3 a1 0 bt280.1 bt280.2.1 bt280.2.2.1 bt280.2.2.2)) else (none)) = some (r1, r2, r3, r4) := by first | (rw [hy274]; with_reducible exact H) | (have H2_ := (Option.bind_some _ _).symm.trans H; rw [hy274]; with_reducible exact H2_) | (have H2_ := (Option.bind_some _ _).symm.trans H; with_reducible exact H2_) | with_reducible exact H | (rw [hy274]; exact H) | exact H
    have Ny274 := mS hy274
    clear hy274
    by_cases c33 : y274.length + t268.length < 5864062014805
    ·rw [if_pos c33] at H
     have LMc33 := mS c33
     clear c33
     obtain ⟨y277, hy277⟩ : ∃ y_ : List (S126), y_ = (y274 ++ t268) := ⟨_, rfl⟩
     replace H : ((spec_l2Keep.f kj3 t262 y277 t268 t271).bind fun bt280 => (spec_Fall.l0 kj3 a1 0 bt280.1 bt280.2.1 bt280.2.2.1 bt280.2.2.2)) = some (r1, r2, r3, r4) := by first | (rw [hy277]; with_reducible exact H) | (have H2_ := (Option.bind_some _ _).symm.trans H; rw [hy277]; with_reducible exact H2_) | (have H2_ := (Option.bind_some _ _).symm.trans H; with_reducible exact H2_) | with_reducible exact H | (rw [hy277]; exact H) | exact H
     have Ny277 := mS hy277
     clear hy277
     replace H := Option.bind_eq_some_iff.mp H
     obtain ⟨⟨t280, t283, t286, t289⟩, A340, H⟩ := H
     replace H : (spec_Fall.l0 kj3 a1 0 t280 t283 t286 t289) = some (r1, r2, r3, r4) := H
     have A34 := mS A340
     clear A340
     have H' := mS H
     clear H
     go_wp2_with (first | ((with_reducible refine gate_dst (N := 18) rfl ?_); refine Kd.R_lit k126 _ 126 ?hg (N := 18) ?hd (xs := ([] : List (S126))) (inner := []) (ok := fun _ => True) (okp := fun _ => True) ?hr ?hp (fun _ hk => hk) trivial (Below.refl _ _) (Nat.le_refl _) (by simp) ?_; (case hd => rfl); (case hg => rfl); (case hr => first | (go_simp; done) | (go_simp; rfl)); (case hp => exact (Reps.none _ _)); intro v275 w35 ho36 hb hg_ hnew_; clear hg_ hnew_; (first | rw [← Ny274.out] at ho36 | (simp only [Int.reduceToNat] at ho36; rw [← Ny274.out] at ho36)); replace HO_273000 := mS (Kd.N_elder' (mNd HO_273000.out) (Kd.R_base ho36) hb); have HO276 := mS (Kd.R_lower (Kd.R_new' (Kd.R_new' (Kd.R_newM (M := fun k_ => (w.heap.size ≤ k_)) ho36 (below_size (mH3 HB.out GE260.out GE261.out GE272.out)) (fun k_ h_ => h_)) (Kd.R_lt (mR HO_273001.out))) (Kd.R_lt (mR HO_273002.out))) (below_size (mH3 HB.out GE260.out GE261.out GE272.out))); replace HO_273001 := mS (Kd.R_elder' (mR HO_273001.out) (Kd.R_base ho36) hb); replace HO_273002 := mS (Kd.R_elder' (mR HO_273002.out) (Kd.R_base ho36) hb); replace BK260 := mB BK260 hb; replace BK261 := mB BK261 hb; replace BK272 := mB BK272 hb; replace HB := mS (below_step (mH3 HB.out GE260.out GE261.out GE272.out) hb); clear hb ho36; have hnb37 := NB272_260.out; have hnc37 := NB260_272.out; have hnb38 := NB272_261.out; have hnc38 := NB261_272.out; obtain ⟨hcz39_0, hcz39_1, hcz39_2, hcz39_3, hfz39_0, hfz39_1, hfz39_2, hfz39_3⟩ := mZ4 BK272.out) | ((with_reducible refine gate_builtin (b := .append) (xs := #[.tmp 18, .tmp 20]) rfl ?_); at_builtin; refine Kd.R_append_rows k126 (w0 := w) w.heap.size rfl (.tmp 18) (.tmp 20) 61 126 (.agg #[(.string ⟨#[]⟩), (.int .i64 0)]) 24 rfl Try.underlying61 info126 rfl (by decide) (by omega) v275 y274 t268 _ _ _ (fun k_ => (w.heap.size ≤ k_) ∧ some k_ ≠ (.slice Ao15 t265.length co15 : Value).ownBlock ∧ some k_ ≠ (.slice Ao16 t268.length co16 : Value).ownBlock) (fun _ => False) rfl rfl ?aO ?aR (fun _ _ h => h) (fun _ h => h.elim) ?aF ?aB ?aS ?aL ?_; (case aR => exact mC (Kd.R_reads' HO_273002.out).2.2); (case aB => exact (mH3 HB.out GE260.out GE261.out GE272.out)); (case aF => exact (fun k_ hk => ⟨(Nat.le_trans (below_size (mH3 HB.out GE260.out GE261.out GE272.out)) hk), Kd.fresh' (Kd.R_lt (mR HO_273001.out)) k_ hk, Kd.fresh' (Kd.R_lt (mR HO_273002.out)) k_ hk⟩)); (case aO => exact (by refine mR ?_; exact Kd.R_mono HO276.out (fun _ hk => ⟨hk.1.1.1, ⟨hk.1.2, hk.2⟩⟩))); (case aS => exact (below_size (mH3 HB.out GE260.out GE261.out GE272.out))); (case aL => have := LMc33.out; omega); intro v278 w40 ho hb hg hat; rw [← Ny277.out] at ho; replace HO_273000 := mS (Kd.N_afterv (ok := (fun k_ => (w.heap.size ≤ k_) ∧ some k_ ≠ (.slice Ao15 t265.length co15 : Value).ownBlock ∧ some k_ ≠ (.slice Ao16 t268.length co16 : Value).ownBlock ∧ k_ ≠ gb260 ∧ k_ ≠ gb261 ∧ k_ ≠ gb272)) (mNd HO_273000.out) hg hat); replace HO_273001 := mS (Kd.R_after (ok := (fun k_ => (w.heap.size ≤ k_) ∧ some k_ ≠ (.slice Ao16 t268.length co16 : Value).ownBlock)) (mR HO_273001.out) hg hat); replace HO_273002 := mS (Kd.R_after (ok := (fun k_ => (w.heap.size ≤ k_) ∧ some k_ ≠ (.slice Ao15 t265.length co15 : Value).ownBlock)) (mR HO_273002.out) hg hat); replace BK260 := mS (blk_grown (g := gb260) (o := .cells #[.slice A0_0 l0_0.length c0_0, .slice A0_1 l0_1.length c0_1, .slice A0_2 l0_2.length c0_2, .int .i64 a0_3] 63 (0, 0)) (mK BK260.out) hg (Kd.R_ne HO276.out BK260.out (by decide))); replace BK261 := mS (blk_grown (g := gb261) (o := .cells #[.slice none 0 0, .slice none 0 0, .slice none 0 0, .int .i64 0] 63 (0, 0)) (mK BK261.out) hg (Kd.R_ne HO276.out BK261.out (by decide))); replace BK272 := mS (blk_grown (g := gb272) (o := .cells #[.slice Ao11 t262.length co11, .slice Ao15 t265.length co15, .slice Ao16 t268.length co16, .int .i64 t271] 63 (0, 0)) (mK BK272.out) hg (Kd.R_ne HO276.out BK272.out (by decide))); replace HB := mS (hb); have HO279 := mS (ho); clear HO276; clear ho hb hg hat; obtain ⟨Ao41, co41, eo41⟩ := Kd.R_slice HO279.out; subst eo41; obtain ⟨hcz42_0, hcz42_1, hcz42_2, hcz42_3, hfz42_0, hfz42_1, hfz42_2, hfz42_3⟩ := mZ4 BK272.out) | ((with_reducible refine gate_store (t := 61) (p := 22) rfl ?_); refine store_event (t := 61) (p := 22) (v := ?vo_w43) (w1 := (w40.setCell ⟨gb272, 1, none⟩ (.slice Ao41 y277.length co41))) ?hg ?ho ?hn ?hr ?_; (case ho => rfl); (case hg => rfl); (case hn => rfl); (case hr => first | (go_simp; done) | (go_simp; rfl)); intro w43 hw; have n0_ : Aside0 (Kd.N k120 120 w43 w.heap.size (fun k_ => (w.heap.size ≤ k_) ∧ some k_ ≠ (.slice Ao15 t265.length co15 : Value).ownBlock ∧ some k_ ≠ (.slice Ao16 t268.length co16 : Value).ownBlock ∧ some k_ ≠ (.slice Ao41 y277.length co41 : Value).ownBlock ∧ k_ ≠ gb260 ∧ k_ ≠ gb261 ∧ k_ ≠ gb272) (.slice Ao11 t262.length co11) t262) := ⟨(by rw [hw]; exact (by refine mNd ?_; exact Kd.N_mono (Kd.N_far (p := ⟨gb272, 1, none⟩) (Kd.N_mono HO_273000.out (fun k_ hk => (⟨hk, hk.1.2.2.2.2.2⟩ : _ ∧ k_ ≠ gb272))) (fun _ hk => hk.2) (.slice Ao41 y277.length co41)) (fun _ hk => ⟨hk.1.1.1, ⟨hk.1.1.2.1, ⟨hk.1.1.2.2.1, ⟨hk.1.2, ⟨hk.1.1.2.2.2.1, ⟨hk.1.1.2.2.2.2.1, hk.1.1.2.2.2.2.2⟩⟩⟩⟩⟩⟩)))⟩; have n1_ : Aside0 (Kd.R k126 126 w43 w.heap.size (fun k_ => (w.heap.size ≤ k_) ∧ some k_ ≠ (.slice Ao16 t268.length co16 : Value).ownBlock ∧ some k_ ≠ (.slice Ao41 y277.length co41 : Value).ownBlock) (.slice Ao15 t265.length co15) t265) := ⟨(by rw [hw]; exact (by refine mR ?_; exact Kd.R_mono (Kd.R_far (p := ⟨gb272, 1, none⟩) (Kd.R_types HO_273001.out BK272.out (by decide)) (fun _ hk => hk.2) (.slice Ao41 y277.length co41)) (fun _ hk => ⟨hk.1.1.1, ⟨hk.1.1.2, hk.1.2⟩⟩)))⟩; have n2_ : Aside0 (Kd.R k126 126 w43 w.heap.size (fun k_ => (w.heap.size ≤ k_) ∧ some k_ ≠ (.slice Ao15 t265.length co15 : Value).ownBlock ∧ some k_ ≠ (.slice Ao41 y277.length co41 : Value).ownBlock) (.slice Ao16 t268.length co16) t268) := ⟨(by rw [hw]; exact (by refine mR ?_; exact Kd.R_mono (Kd.R_far (p := ⟨gb272, 1, none⟩) (Kd.R_types HO_273002.out BK272.out (by decide)) (fun _ hk => hk.2) (.slice Ao41 y277.length co41)) (fun _ hk => ⟨hk.1.1.1, ⟨hk.1.1.2, hk.1.2⟩⟩)))⟩; have n3_ : Aside0 (Kd.R k126 126 w43 w.heap.size (fun k_ => (w.heap.size ≤ k_) ∧ some k_ ≠ (.slice Ao15 t265.length co15 : Value).ownBlock ∧ some k_ ≠ (.slice Ao16 t268.length co16 : Value).ownBlock) (.slice Ao41 y277.length co41) y277) := ⟨(by rw [hw]; exact (by refine mR ?_; exact Kd.R_mono (Kd.R_far (p := ⟨gb272, 1, none⟩) (Kd.R_types HO279.out BK272.out (by decide)) (fun _ hk => hk.2) (.slice Ao41 y277.length co41)) (fun _ hk => ⟨hk.1.1, ⟨hk.1.2.1, hk.1.2.2⟩⟩)))⟩; have n4_ : Aside0 (w43.heap[gb260]? = some (.cells #[.slice A0_0 l0_0.length c0_0, .slice A0_1 l0_1.length c0_1, .slice A0_2 l0_2.length c0_2, .int .i64 a0_3] 63 (0, 0))) := ⟨(by rw [hw]; exact (mKf NB260_272.out BK260.out))⟩; have n5_ : Aside0 (w43.heap[gb261]? = some (.cells #[.slice none 0 0, .slice none 0 0, .slice none 0 0, .int .i64 0] 63 (0, 0))) := ⟨(by rw [hw]; exact (mKf NB261_272.out BK261.out))⟩; have n6_ : Aside0 (w43.heap[gb272]? = some (.cells #[.slice Ao11 t262.length co11, .slice Ao41 y277.length co41, .slice Ao16 t268.length co16, .int .i64 t271] 63 (0, 0))) := ⟨(by rw [hw]; exact (by refine mK ?_; refine blk_put (cs := #[.slice Ao11 t262.length co11, .slice Ao15 t265.length co15, .slice Ao16 t268.length co16, .int .i64 t271]) ?_ 1 _ rfl; refine mK ?_; exact BK272.out))⟩; have n7_ : Aside0 (Below w.heap.size w w43) := ⟨(by rw [hw]; exact (mH3 HB.out GE260.out GE261.out GE272.out))⟩; clear hw; clear HO_273000; clear HO_273001; clear HO_273002; clear HO279; clear BK260; clear BK261; clear BK272; clear HB; have HO_273000 := n0_; have HO_273001 := n1_; have HO_273002 := n2_; have HO279 := n3_; have BK260 := n4_; have BK261 := n5_; have BK272 := n6_; have HB := n7_; clear n0_ n1_ n2_ n3_ n4_ n5_ n6_ n7_; obtain ⟨hcz44_0, hcz44_1, hcz44_2, hcz44_3, hfz44_0, hfz44_1, hfz44_2, hfz44_3⟩ := mZ4 BK272.out) | ((with_reducible refine gate_callee (f := 109) rfl ?_); refine mGo 24 Try.func109 #[.agg #[.slice Ao11 t262.length co11, .slice Ao41 y277.length co41, .slice Ao16 t268.length co16, .int .i64 t271]] ?_; (with_reducible refine (spec_l2Keep.calls kj3 (fun k_ => ((w.heap.size ≤ k_) ∧ (some k_ ≠ (.slice Ao15 t265.length co15 : Value).ownBlock ∧ (some k_ ≠ (.slice Ao16 t268.length co16 : Value).ownBlock ∧ (some k_ ≠ (.slice Ao41 y277.length co41 : Value).ownBlock ∧ (k_ ≠ gb260 ∧ (k_ ≠ gb261 ∧ k_ ≠ gb272))))))) _ _ t262 (fun k_ => some k_ = (.slice Ao41 y277.length co41 : Value).ownBlock) (.slice Ao41 y277.length co41) y277 (fun k_ => some k_ = (.slice Ao16 t268.length co16 : Value).ownBlock) (.slice Ao16 t268.length co16) t268 t271 t280 t283 t286 t289 w _ ?side1 ?side2 ?side3 ?side4 ?side5 ?side6 A34.out).mono ?_); (case side1 => exact mH3 HB.out GE260.out GE261.out GE272.out); (case side2 => exact Kd.V_mono (Kd.N_V (HO_273000.out)) (fun k_ hk_ => ⟨hk_, hk_.2.2.2.1, hk_.2.2.1⟩)); (case side3 => exact Kd.R_tight rfl HO279.out); (case side4 => exact fun k_ e_ => (HO279.out.1 k_ e_.symm).2.2); (case side5 => exact Kd.R_tight rfl HO_273002.out); (case side6 => exact fun k_ e_ => (HO_273002.out.1 k_ e_.symm).2.2); rintro e w45 ⟨v281, v284, v287, rfl, ho0, ho1, ho2, hb, hkp⟩; refine ⟨_, rfl, ?_⟩; replace HO_273000 := mS (Kd.N_mono (ok' := fun k_ => (w.heap.size ≤ k_) ∧ some k_ ≠ (.slice Ao15 t265.length co15 : Value).ownBlock ∧ k_ ≠ gb260 ∧ k_ ≠ gb261 ∧ k_ ≠ gb272 ∧ some k_ ≠ (v281 : Value).ownBlock ∧ some k_ ≠ (v284 : Value).ownBlock ∧ some k_ ≠ (v287 : Value).ownBlock) (Kd.N_keptB (HO_273000.out) hkp (fun k_ hk_ hs_ => Or.elim hs_ (fun e_ => (hk_.2.2.2.1) e_) (fun e_ => (hk_.2.2.1) e_))) (fun k_ hk_ => ⟨hk_.1.1, hk_.1.2.1, hk_.1.2.2.2.2.1, hk_.1.2.2.2.2.2.1, hk_.1.2.2.2.2.2.2, fun e_ => Nat.not_le.2 hk_.2.2 (Kd.N_base ho0 k_ e_.symm), fun e_ => Or.elim (ho1.1 k_ e_.symm).1 (fun hs_ => hk_.2.1 hs_) (fun hn_ => Nat.not_le.2 hk_.2.2 hn_), fun e_ => Or.elim (ho2.1 k_ e_.symm).1 (fun hs_ => hk_.2.1 hs_) (fun hn_ => Nat.not_le.2 hk_.2.2 hn_)⟩)); have HO282 := mS (Kd.N_lower (Kd.N_mono (ok' := fun k_ => (w.heap.size ≤ k_) ∧ some k_ ≠ (v284 : Value).ownBlock ∧ some k_ ≠ (v287 : Value).ownBlock ∧ some k_ ≠ (.slice Ao15 t265.length co15 : Value).ownBlock ∧ k_ ≠ gb260 ∧ k_ ≠ gb261 ∧ k_ ≠ gb272) ho0 (fun k_ hk_ => ⟨Or.elim hk_.1 (fun hs_ => Or.elim hs_ (fun hs_ => (HO279.out.1 k_ (hs_).symm).1) (fun hs_ => Or.elim hs_ (fun hs_ => (HO_273002.out.1 k_ (hs_).symm).1) (fun hs_ => hs_.1))) (fun hn_ => (Nat.le_trans (below_size (mH3 HB.out GE260.out GE261.out GE272.out)) hn_)), hk_.2.1, hk_.2.2, Or.elim hk_.1 (fun hs_ => Or.elim hs_ (fun hs_ => fun e_ => (((HO_273001.out).1 k_ e_.symm).2.2) hs_) (fun hs_ => Or.elim hs_ (fun hs_ => fun e_ => (((HO_273001.out).1 k_ e_.symm).2.1) hs_) (fun hs_ => hs_.2.1))) (fun hn_ => (Kd.fresh' (Kd.R_lt (mR HO_273001.out)) k_ hn_)), Or.elim hk_.1 (fun hs_ => Or.elim hs_ (fun hs_ => fun e_ => (Kd.R_ne HO279.out BK260.out (by decide)) (by rw [← e_]; exact hs_)) (fun hs_ => Or.elim hs_ (fun hs_ => fun e_ => (Kd.R_ne HO_273002.out BK260.out (by decide)) (by rw [← e_]; exact hs_)) (fun hs_ => hs_.2.2.2.2.1))) (fun hn_ => (Kd.freshB (g := gb260) (o := .cells #[.slice A0_0 l0_0.length c0_0, .slice A0_1 l0_1.length c0_1, .slice A0_2 l0_2.length c0_2, .int .i64 a0_3] 63 (0, 0)) (mK BK260.out) k_ hn_)), Or.elim hk_.1 (fun hs_ => Or.elim hs_ (fun hs_ => fun e_ => (Kd.R_ne HO279.out BK261.out (by decide)) (by rw [← e_]; exact hs_)) (fun hs_ => Or.elim hs_ (fun hs_ => fun e_ => (Kd.R_ne HO_273002.out BK261.out (by decide)) (by rw [← e_]; exact hs_)) (fun hs_ => hs_.2.2.2.2.2.1))) (fun hn_ => (Kd.freshB (g := gb261) (o := .cells #[.slice none 0 0, .slice none 0 0, .slice none 0 0, .int .i64 0] 63 (0, 0)) (mK BK261.out) k_ hn_)), Or.elim hk_.1 (fun hs_ => Or.elim hs_ (fun hs_ => fun e_ => (Kd.R_ne HO279.out BK272.out (by decide)) (by rw [← e_]; exact hs_)) (fun hs_ => Or.elim hs_ (fun hs_ => fun e_ => (Kd.R_ne HO_273002.out BK272.out (by decide)) (by rw [← e_]; exact hs_)) (fun hs_ => hs_.2.2.2.2.2.2))) (fun hn_ => (Kd.freshB (g := gb272) (o := .cells #[.slice Ao11 t262.length co11, .slice Ao41 y277.length co41, .slice Ao16 t268.length co16, .int .i64 t271] 63 (0, 0)) (mK BK272.out) k_ hn_))⟩)) (below_size (mH3 HB.out GE260.out GE261.out GE272.out))); replace BK260 := mS (blk_kept (mK BK260.out) hkp (fun hs_ => Or.elim hs_ (fun e_ => (fun e_ => (Kd.R_ne HO279.out BK260.out (by decide)) e_) e_) (fun e_ => (fun e_ => (Kd.R_ne HO_273002.out BK260.out (by decide)) e_) e_))); replace BK261 := mS (blk_kept (mK BK261.out) hkp (fun hs_ => Or.elim hs_ (fun e_ => (fun e_ => (Kd.R_ne HO279.out BK261.out (by decide)) e_) e_) (fun e_ => (fun e_ => (Kd.R_ne HO_273002.out BK261.out (by decide)) e_) e_))); replace BK272 := mS (blk_kept (mK BK272.out) hkp (fun hs_ => Or.elim hs_ (fun e_ => (fun e_ => (Kd.R_ne HO279.out BK272.out (by decide)) e_) e_) (fun e_ => (fun e_ => (Kd.R_ne HO_273002.out BK272.out (by decide)) e_) e_))); have HO285 := mS (Kd.R_mono (ok' := fun k_ => (w.heap.size ≤ k_) ∧ some k_ ≠ (v287 : Value).ownBlock ∧ some k_ ≠ (.slice Ao15 t265.length co15 : Value).ownBlock) ho1 (fun k_ hk_ => ⟨Or.elim hk_.1 (fun hs_ => Or.elim hs_ (fun hs_ => (HO279.out.1 k_ (hs_).symm).1) (fun hs_ => (HO_273002.out.1 k_ (hs_).symm).1)) (fun hn_ => (Nat.le_trans (below_size (mH3 HB.out GE260.out GE261.out GE272.out)) hn_)), hk_.2, Or.elim hk_.1 (fun hs_ => Or.elim hs_ (fun hs_ => fun e_ => (((HO_273001.out).1 k_ e_.symm).2.2) hs_) (fun hs_ => fun e_ => (((HO_273001.out).1 k_ e_.symm).2.1) hs_)) (fun hn_ => (Kd.fresh' (Kd.R_lt (mR HO_273001.out)) k_ hn_))⟩)); have HO288 := mS (Kd.R_mono (ok' := fun k_ => (w.heap.size ≤ k_) ∧ some k_ ≠ (v284 : Value).ownBlock ∧ some k_ ≠ (.slice Ao15 t265.length co15 : Value).ownBlock) ho2 (fun k_ hk_ => ⟨Or.elim hk_.1 (fun hs_ => Or.elim hs_ (fun hs_ => (HO279.out.1 k_ (hs_).symm).1) (fun hs_ => (HO_273002.out.1 k_ (hs_).symm).1)) (fun hn_ => (Nat.le_trans (below_size (mH3 HB.out GE260.out GE261.out GE272.out)) hn_)), hk_.2, Or.elim hk_.1 (fun hs_ => Or.elim hs_ (fun hs_ => fun e_ => (((HO_273001.out).1 k_ e_.symm).2.2) hs_) (fun hs_ => fun e_ => (((HO_273001.out).1 k_ e_.symm).2.1) hs_)) (fun hn_ => (Kd.fresh' (Kd.R_lt (mR HO_273001.out)) k_ hn_))⟩)); replace HO_273001 := mS (Kd.R_mono (ok' := fun k_ => (w.heap.size ≤ k_) ∧ some k_ ≠ (v284 : Value).ownBlock ∧ some k_ ≠ (v287 : Value).ownBlock) (Kd.R_keptB (HO_273001.out) hkp (fun k_ hk_ hs_ => Or.elim hs_ (fun e_ => (hk_.2.2) e_) (fun e_ => (hk_.2.1) e_))) (fun k_ hk_ => ⟨hk_.1.1, fun e_ => Or.elim (ho1.1 k_ e_.symm).1 (fun hs_ => hk_.2.1 hs_) (fun hn_ => Nat.not_le.2 hk_.2.2 hn_), fun e_ => Or.elim (ho2.1 k_ e_.symm).1 (fun hs_ => hk_.2.1 hs_) (fun hn_ => Nat.not_le.2 hk_.2.2 hn_)⟩)); replace HB := mS (hb); clear HO279; clear HO_273002; (try clear hb); (try clear hkp); (try clear ho0); (try clear ho1); (try clear ho2); obtain ⟨Ao46, co46, eo46⟩ := Kd.N_slice HO282.out; subst eo46; obtain ⟨hcz47_0, hcz47_1, hcz47_2, hcz47_3, hfz47_0, hfz47_1, hfz47_2, hfz47_3⟩ := mZ4 BK272.out; obtain ⟨Ao48, co48, eo48⟩ := Kd.R_slice HO285.out; subst eo48; obtain ⟨Ao49, co49, eo49⟩ := Kd.R_slice HO288.out; subst eo49))
     go_loopg [6] kj3 (fun kq v6 w' => ∃ (x6_2 : Int) (x273000_2 : List (S120)) (u273000 : Value), v6 = .int .i64 x6_2 ∧ Aside0 (spec_Fall.l0 kq a1 x6_2 x273000_2 t283 t286 t289 = some (r1, r2, r3, r4)) ∧ Aside0 (kq ≤ kj3) ∧ Aside0 (Kd.N k120 120 w' w.heap.size (fun k_ => (w.heap.size ≤ k_) ∧ some k_ ≠ ((.slice Ao48 t283.length co48) : Value).ownBlock ∧ some k_ ≠ ((.slice Ao49 t286.length co49) : Value).ownBlock ∧ k_ ≠ gb260 ∧ k_ ≠ gb261 ∧ k_ ≠ gb272) u273000 x273000_2) ∧ Aside0 (Kd.R k126 126 w' w.heap.size (fun k_ => (w.heap.size ≤ k_) ∧ some k_ ≠ ((.slice Ao49 t286.length co49) : Value).ownBlock) (.slice Ao48 t283.length co48) t283) ∧ Aside0 (Kd.R k126 126 w' w.heap.size (fun k_ => (w.heap.size ≤ k_) ∧ some k_ ≠ ((.slice Ao48 t283.length co48) : Value).ownBlock) (.slice Ao49 t286.length co49) t286) ∧ Aside0 (w'.heap[gb260]? = some (.cells #[(.slice A0_0 l0_0.length c0_0), (.slice A0_1 l0_1.length c0_1), (.slice A0_2 l0_2.length c0_2), .int .i64 a0_3] 63 (0, 0))) ∧ Aside0 (w'.heap[gb261]? = some (.cells #[(.slice none 0 0), (.slice none 0 0), (.slice none 0 0), .int .i64 0] 63 (0, 0))) ∧ Aside0 (w'.heap[gb272]? = some (.cells #[u273000, (.slice Ao48 t283.length co48), (.slice Ao49 t286.length co49), .int .i64 t289] 63 (0, 0))) ∧ Aside0 (Below w.heap.size w w'))
     case atStart => exact ⟨(0), (t280), (.slice Ao46 t280.length co46), mE, H', ⟨Nat.le_refl _⟩, ⟨by refine mNd ?_; exact Kd.N_mono (mNf4 (Kd.N_mono HO282.out (fun k_ hk => (⟨hk, hk.2.2.2.2.2.2⟩ : _ ∧ k_ ≠ gb272)))) (fun _ hk => ⟨hk.1.1, ⟨hk.1.2.1, ⟨hk.1.2.2.1, ⟨hk.1.2.2.2.2.1, ⟨hk.1.2.2.2.2.2.1, hk.1.2.2.2.2.2.2⟩⟩⟩⟩⟩)⟩, ⟨by refine mR ?_; exact Kd.R_mono (mRf4 (Kd.R_types HO285.out BK272.out (by decide))) (fun _ hk => ⟨hk.1.1, hk.1.2.1⟩)⟩, ⟨by refine mR ?_; exact Kd.R_mono (mRf4 (Kd.R_types HO288.out BK272.out (by decide))) (fun _ hk => ⟨hk.1.1, hk.1.2.1⟩)⟩, ⟨mKf NB260_272.out BK260.out⟩, ⟨mKf NB261_272.out BK261.out⟩, ⟨by refine mK ?_; refine blk_put (cs := #[.slice Ao46 t280.length co46, .slice Ao48 t283.length co48, .slice Ao49 t286.length co49, .int .i64 t271]) ?_ 3 _ rfl; refine mK ?_; refine blk_put (cs := #[.slice Ao46 t280.length co46, .slice Ao48 t283.length co48, .slice Ao16 t268.length co16, .int .i64 t271]) ?_ 2 _ rfl; refine mK ?_; refine blk_put (cs := #[.slice Ao46 t280.length co46, .slice Ao41 y277.length co41, .slice Ao16 t268.length co16, .int .i64 t271]) ?_ 1 _ rfl; refine mK ?_; refine blk_put (cs := #[.slice Ao11 t262.length co11, .slice Ao41 y277.length co41, .slice Ao16 t268.length co16, .int .i64 t271]) ?_ 0 _ rfl; refine mK ?_; exact BK272.out⟩, ⟨(mH3 HB.out GE260.out GE261.out GE272.out)⟩⟩
     case round =>
      clear H'
      try clear c1
      try clear c2
      try clear p2
      try clear c3
      try clear c4
      try clear c5
      try clear c7
      try clear c10
      try clear c12
      try clear c13
      try clear c18
      try clear c19
      try clear c20
      try clear c23
      try clear c24
      try clear c27
      try clear c28
      try clear c29
      try clear c31
      try clear c33
      try clear c37
      try clear c38
      try clear c44
      try clear hcz14_0
      try clear hcz14_1
      try clear hcz14_2
      try clear hcz14_3
      try clear hcz21_0
      try clear hcz21_1
      try clear hcz21_2
      try clear hcz21_3
      try clear hcz25_0
      try clear hcz25_1
      try clear hcz25_2
      try clear hcz25_3
      try clear hcz30_0
      try clear hcz30_1
      try clear hcz30_2
      try clear hcz30_3
      try clear hcz32_0
      try clear hcz32_1
      try clear hcz32_2
      try clear hcz32_3
      try clear hcz39_0
      try clear hcz39_1
      try clear hcz39_2
      try clear hcz39_3
      try clear hcz42_0
      try clear hcz42_1
      try clear hcz42_2
      try clear hcz42_3
      try clear hcz44_0
      try clear hcz44_1
      try clear hcz44_2
      try clear hcz44_3
      try clear hcz47_0
      try clear hcz47_1
      try clear hcz47_2
      try clear hcz47_3
      try clear hcz8_0
      try clear hcz8_1
      try clear hcz8_2
      try clear hcz8_3
      try clear hfz14_0
      try clear hfz14_1
      try clear hfz14_2
      try clear hfz14_3
      try clear hfz21_0
      try clear hfz21_1
      try clear hfz21_2
      try clear hfz21_3
      try clear hfz25_0
      try clear hfz25_1
      try clear hfz25_2
      try clear hfz25_3
      try clear hfz30_0
      try clear hfz30_1
      try clear hfz30_2
      try clear hfz30_3
      try clear hfz32_0
      try clear hfz32_1
      try clear hfz32_2
      try clear hfz32_3
      try clear hfz39_0
      try clear hfz39_1
      try clear hfz39_2
      try clear hfz39_3
      try clear hfz42_0
      try clear hfz42_1
      try clear hfz42_2
      try clear hfz42_3
      try clear hfz44_0
      try clear hfz44_1
      try clear hfz44_2
      try clear hfz44_3
      try clear hfz47_0
      try clear hfz47_1
      try clear hfz47_2
      try clear hfz47_3
      try clear hfz8_0
      try clear hfz8_1
      try clear hfz8_2
      try clear hfz8_3
      try clear p2
      obtain ⟨x6_2, x273000_2, u273000, rfl, HA, HK2, HO_273000, HO_273001, HO_273002, BK260, BK261, BK272, HB⟩ := hrel
      cases gk with
      | zero => exact absurd HA.out (by simp [spec_Fall.l0])
      | succ k2 =>
       have H := HA.out
       clear HA
       simp only [spec_Fall.l0] at H
       by_cases c50 : x6_2 < (x273000_2.length : Int)
       ·rw [if_pos c50] at H
        have c50b0 := decide_eq_true c50
        clear c50
        by_cases c51 : 0 ≤ x6_2
        ·rw [if_pos c51] at H
         have c51b0 := decide_eq_true c51
         clear c51
         by_cases c52 : a1 < (wrap64 ((((rd_T120 x273000_2 x6_2).f1).length : Int) - ((rd_T120 x273000_2 x6_2).f2)))
         ·rw [if_pos c52] at H
          have c52b0 := decide_eq_true c52
          clear c52
          obtain ⟨ji53, hji53⟩ : ∃ j_ : Int, (wrap64 (((rd_T120 x273000_2 x6_2).f2) + a1)) = j_ := ⟨_, rfl⟩
          replace H : (if 0 ≤ (ji53) then (if (ji53) ≤ (((rd_T120 x273000_2 x6_2).f1).length : Int) then ((some (x273000_2.set (x6_2 : Int).toNat (⟨(rd_T120 x273000_2 x6_2).f0, (((rd_T120 x273000_2 x6_2).f1).take ((ji53) : Int).toNat), (rd_T120 x273000_2 x6_2).f2⟩ : S120) : List (S120))).bind fun y297 => (spec_Fall.l0 k2 a1 (wrap64 (x6_2 + 1)) (y297.set (x6_2 : Int).toNat (⟨(rd_T120 y297 x6_2).f0, (rd_T120 y297 x6_2).f1, (((rd_T120 y297 x6_2).f1).length : Int)⟩ : S120)) t283 t286 t289)) else (none)) else (none)) = some (r1, r2, r3, r4) := by first | (rw [hji53] at H; exact H) | (simp only [hji53] at H ⊢; exact H)
          have hji53w : (IntKind.i64.wrap (((rd_T120 x273000_2 x6_2).f2) + a1)) = ji53 := (i64_w _).trans hji53
          by_cases c54 : 0 ≤ (ji53)
          ·rw [if_pos c54] at H
           have c54b0 := eq_true c54
           have c54b1 := decide_eq_true c54
           clear c54
           by_cases c55 : (ji53) ≤ (((rd_T120 x273000_2 x6_2).f1).length : Int)
           ·rw [if_pos c55] at H
            have c55b0 := eq_true c55
            have c55b1 := decide_eq_true c55
            clear c55
            obtain ⟨y292, hy292⟩ : ∃ y_ : List Int, y_ = (((rd_T120 x273000_2 x6_2).f1).take ((ji53) : Int).toNat) := ⟨_, rfl⟩
            replace H : ((some (x273000_2.set (x6_2 : Int).toNat (⟨(rd_T120 x273000_2 x6_2).f0, y292, (rd_T120 x273000_2 x6_2).f2⟩ : S120) : List (S120))).bind fun y297 => (spec_Fall.l0 k2 a1 (wrap64 (x6_2 + 1)) (y297.set (x6_2 : Int).toNat (⟨(rd_T120 y297 x6_2).f0, (rd_T120 y297 x6_2).f1, (((rd_T120 y297 x6_2).f1).length : Int)⟩ : S120)) t283 t286 t289)) = some (r1, r2, r3, r4) := by first | (rw [hy292]; with_reducible exact H) | (have H2_ := (Option.bind_some _ _).symm.trans H; rw [hy292]; with_reducible exact H2_) | (have H2_ := (Option.bind_some _ _).symm.trans H; with_reducible exact H2_) | with_reducible exact H | (rw [hy292]; exact H) | exact H
            have Ny292 := mS hy292
            clear hy292
            obtain ⟨y297, hy297⟩ : ∃ y_ : List (S120), y_ = (x273000_2.set (x6_2 : Int).toNat (⟨(rd_T120 x273000_2 x6_2).f0, y292, (rd_T120 x273000_2 x6_2).f2⟩ : S120)) := ⟨_, rfl⟩
            replace H : (spec_Fall.l0 k2 a1 (wrap64 (x6_2 + 1)) (y297.set (x6_2 : Int).toNat (⟨(rd_T120 y297 x6_2).f0, (rd_T120 y297 x6_2).f1, (((rd_T120 y297 x6_2).f1).length : Int)⟩ : S120)) t283 t286 t289) = some (r1, r2, r3, r4) := by first | (rw [hy297]; with_reducible exact H) | (have H2_ := (Option.bind_some _ _).symm.trans H; rw [hy297]; with_reducible exact H2_) | (have H2_ := (Option.bind_some _ _).symm.trans H; with_reducible exact H2_) | with_reducible exact H | (rw [hy297]; exact H) | exact H
            have Ny297 := mS hy297
            clear hy297
            obtain ⟨y299, hy299⟩ : ∃ y_ : List (S120), y_ = (y297.set (x6_2 : Int).toNat (⟨(rd_T120 y297 x6_2).f0, (rd_T120 y297 x6_2).f1, (((rd_T120 y297 x6_2).f1).length : Int)⟩ : S120)) := ⟨_, rfl⟩
            replace H : (spec_Fall.l0 k2 a1 (wrap64 (x6_2 + 1)) y299 t283 t286 t289) = some (r1, r2, r3, r4) := by first | (rw [hy299]; with_reducible exact H) | (have H2_ := (Option.bind_some _ _).symm.trans H; rw [hy299]; with_reducible exact H2_) | (have H2_ := (Option.bind_some _ _).symm.trans H; with_reducible exact H2_) | with_reducible exact H | (rw [hy299]; exact H) | exact H
            have Ny299 := mS hy299
            clear hy299
            have H' := mS H
            clear H
            have hnb58 := NB272_260.out
            have hnc58 := NB260_272.out
            have hnb59 := NB272_261.out
            have hnc59 := NB261_272.out
            obtain ⟨hcz60_0, hcz60_1, hcz60_2, hcz60_3, hfz60_0, hfz60_1, hfz60_2, hfz60_3⟩ := mZ4 BK272.out
            obtain ⟨Ao61, co61, eo61⟩ := Kd.N_slice HO_273000.out
            subst eo61
            have p290 : 0 ≤ (x6_2 : Int) := mD
            have q290 : x6_2 < (x273000_2.length : Int) := mD
            obtain ⟨ad290, A290_1, c290_1, e290, hx290_0, hx290_1, hx290_2, hl290_1, hi290_1⟩ := at_T120 (Kd.N_reads' HO_273000.out).2.2 x6_2 p290 q290
            cases e290
            obtain ⟨ce290, hce290, hMe290, hcc290⟩ := Kd.N_get HO_273000.out z120 x6_2 p290 (by first | exact q290 | exact mD | (have e_ := (Kd.N_reads' HO_273000.out).1; omega))
            obtain ⟨ua290_1, uc290_1, rfl, ul290_1, ge290_1⟩ := k120_openF hMe290
            have hv290_1 := hcc290 1 _ rfl
            rw [add_field _ _ 1 (by omega)] at hv290_1
            replace hv290_1 := Option.some.inj (hv290_1.symm.trans hx290_1)
            injection hv290_1 with hva_ hvn_ hvc_
            rw [hva_] at ge290_1
            rw [hvc_] at ul290_1
            have HL290_1 := mS (show Kd.V (Kd.int .u8) 5 _ w.heap.size _ _ ((rd_T120 x273000_2 x6_2).f1) from Kd.V_mk ul290_1 ge290_1)
            clear hva_ hvn_ hvc_ ge290_1 ul290_1
            clear hcc290 hce290
            have HR290_1 := mS hi290_1
            have HC290_1 := mS hl290_1
            clear hi290_1 hl290_1
            replace p290 := eq_true p290
            replace q290 := eq_true q290
            try go_wp2_with (first | ((with_reducible refine gate_dst (N := 7) rfl ?_); refine mBx 7 #[.int .i64 0, .slice none 0 0, .int .i64 0] 120 ?_; intro gb291 hg w62 hbox hb; replace HO_273000 := mS (Kd.N_below (Kd.N_elderB (mNd HO_273000.out) gb291 (Nat.le_of_eq hg.symm)) hb); replace HO_273001 := mS (Kd.R_below (mR HO_273001.out) hb); replace HO_273002 := mS (Kd.R_below (mR HO_273002.out) hb); replace HL290_1 := mS (Kd.V_below (Kd.V_elderB (mVd HL290_1.out) gb291 (Nat.le_of_eq hg.symm)) hb); replace HR290_1 := mS (Kd.C_below (by repeat (first | (with_reducible exact HR290_1.out) | (with_reducible refine Kd.C_alloc ?_ _) | (with_reducible refine Kd.C_drewN ?_ _) | (with_reducible refine Kd.C_drew ?_) | exact HR290_1.out)) hb); have BK291 := mS (hbox); have GW291 := mG hg (mH3 HB.out GE260.out GE261.out GE272.out); have GE291 := mG hg (mH3 HB.out GE260.out GE261.out GE272.out); replace HB := mS (below_step (mH3 HB.out GE260.out GE261.out GE272.out) hb); have NB260_291 := mNl hg BK260.out; have NB291_260 := mNg hg BK260.out; replace BK260 := mB BK260 hb; have NB261_291 := mNl hg BK261.out; have NB291_261 := mNg hg BK261.out; replace BK261 := mB BK261 hb; have NB272_291 := mNl hg BK272.out; have NB291_272 := mNg hg BK272.out; replace BK272 := mB BK272 hb; clear hb hbox hg; have hnb63 := NB291_260.out; have hnc63 := NB260_291.out; have hnb64 := NB291_261.out; have hnc64 := NB261_291.out; have hnb65 := NB291_272.out; have hnc65 := NB272_291.out; obtain ⟨hcz66_0, hcz66_1, hcz66_2, hfz66_0, hfz66_1, hfz66_2⟩ := mZ3 BK291.out))
            generalize hW_ : (((w62.setCell ⟨gb291, 0, none⟩ (.int .i64 ((rd_T120 x273000_2 x6_2).f0))).setCell ⟨gb291, 1, none⟩ (.slice A290_1 ((rd_T120 x273000_2 x6_2).f1).length c290_1)).setCell ⟨gb291, 2, none⟩ (.int .i64 ((rd_T120 x273000_2 x6_2).f2))) = w67
            replace HO_273000 : Aside0 (Kd.N k120 120 w67 w.heap.size (fun k_ => (w.heap.size ≤ k_) ∧ some k_ ≠ (.slice Ao48 t283.length co48 : Value).ownBlock ∧ some k_ ≠ (.slice Ao49 t286.length co49 : Value).ownBlock ∧ k_ ≠ gb260 ∧ k_ ≠ gb261 ∧ k_ ≠ gb272 ∧ k_ ≠ gb291) (.slice (some ad290) x273000_2.length co61) x273000_2) := by rw [← hW_]; exact ⟨by refine mNd ?_; exact Kd.N_mono (mNf3 (Kd.N_mono HO_273000.out (fun k_ hk => (⟨hk, hk.2⟩ : _ ∧ k_ ≠ gb291)))) (fun _ hk => ⟨hk.1.1.1, ⟨hk.1.1.2.1, ⟨hk.1.1.2.2.1, ⟨hk.1.1.2.2.2.1, ⟨hk.1.1.2.2.2.2.1, ⟨hk.1.1.2.2.2.2.2, hk.1.2⟩⟩⟩⟩⟩⟩)⟩
            replace HO_273001 : Aside0 (Kd.R k126 126 w67 w.heap.size (fun k_ => (w.heap.size ≤ k_) ∧ some k_ ≠ (.slice Ao49 t286.length co49 : Value).ownBlock) (.slice Ao48 t283.length co48) t283) := by rw [← hW_]; exact ⟨by refine mR ?_; exact Kd.R_mono (mRf3 (Kd.R_types HO_273001.out BK291.out (by decide))) (fun _ hk => ⟨hk.1.1, hk.1.2⟩)⟩
            replace HO_273002 : Aside0 (Kd.R k126 126 w67 w.heap.size (fun k_ => (w.heap.size ≤ k_) ∧ some k_ ≠ (.slice Ao48 t283.length co48 : Value).ownBlock) (.slice Ao49 t286.length co49) t286) := by rw [← hW_]; exact ⟨by refine mR ?_; exact Kd.R_mono (mRf3 (Kd.R_types HO_273002.out BK291.out (by decide))) (fun _ hk => ⟨hk.1.1, hk.1.2⟩)⟩
            replace HL290_1 : Aside0 (Kd.V (Kd.int .u8) 5 w67 w.heap.size (fun k_ => (w.heap.size ≤ k_) ∧ some k_ ≠ (.slice (some ad290) x273000_2.length co61 : Value).ownBlock ∧ some k_ ≠ (.slice Ao48 t283.length co48 : Value).ownBlock ∧ some k_ ≠ (.slice Ao49 t286.length co49 : Value).ownBlock ∧ k_ ≠ gb260 ∧ k_ ≠ gb261 ∧ k_ ≠ gb272 ∧ k_ ≠ gb291) (.slice A290_1 ((rd_T120 x273000_2 x6_2).f1).length c290_1) ((rd_T120 x273000_2 x6_2).f1)) := by rw [← hW_]; exact ⟨by refine mVd ?_; exact Kd.V_mono (Kd.V_far (p := ⟨gb291, 2, none⟩) (Kd.V_far (p := ⟨gb291, 1, none⟩) (Kd.V_far (p := ⟨gb291, 0, none⟩) (Kd.V_mono HL290_1.out (fun k_ hk => (⟨hk, hk.2⟩ : _ ∧ k_ ≠ gb291))) (fun _ hk => hk.2) (.int .i64 ((rd_T120 x273000_2 x6_2).f0))) (fun _ hk => hk.2) (.slice A290_1 ((rd_T120 x273000_2 x6_2).f1).length c290_1)) (fun _ hk => hk.2) (.int .i64 ((rd_T120 x273000_2 x6_2).f2))) (fun _ hk => ⟨hk.1.1.1.1, ⟨hk.1.1.2, ⟨hk.1.1.1.2.1, ⟨hk.1.1.1.2.2.1, ⟨hk.1.1.1.2.2.2.1, ⟨hk.1.1.1.2.2.2.2.1, ⟨hk.1.1.1.2.2.2.2.2, hk.1.2⟩⟩⟩⟩⟩⟩⟩)⟩
            replace BK260 : Aside0 (w67.heap[gb260]? = some (.cells #[.slice A0_0 l0_0.length c0_0, .slice A0_1 l0_1.length c0_1, .slice A0_2 l0_2.length c0_2, .int .i64 a0_3] 63 (0, 0))) := by rw [← hW_]; exact ⟨mKf NB260_291.out BK260.out⟩
            replace BK261 : Aside0 (w67.heap[gb261]? = some (.cells #[.slice none 0 0, .slice none 0 0, .slice none 0 0, .int .i64 0] 63 (0, 0))) := by rw [← hW_]; exact ⟨mKf NB261_291.out BK261.out⟩
            replace BK272 : Aside0 (w67.heap[gb272]? = some (.cells #[.slice (some ad290) x273000_2.length co61, .slice Ao48 t283.length co48, .slice Ao49 t286.length co49, .int .i64 t289] 63 (0, 0))) := by rw [← hW_]; exact ⟨mKf NB272_291.out BK272.out⟩
            replace BK291 : Aside0 (w67.heap[gb291]? = some (.cells #[.int .i64 ((rd_T120 x273000_2 x6_2).f0), .slice A290_1 ((rd_T120 x273000_2 x6_2).f1).length c290_1, .int .i64 ((rd_T120 x273000_2 x6_2).f2)] 120 (0, 0))) := by rw [← hW_]; exact ⟨by refine mK ?_; refine blk_put (cs := #[.int .i64 ((rd_T120 x273000_2 x6_2).f0), .slice A290_1 ((rd_T120 x273000_2 x6_2).f1).length c290_1, .int .i64 0]) ?_ 2 _ rfl; refine mK ?_; refine blk_put (cs := #[.int .i64 ((rd_T120 x273000_2 x6_2).f0), .slice none 0 0, .int .i64 0]) ?_ 1 _ rfl; refine mK ?_; refine blk_put (cs := #[.int .i64 0, .slice none 0 0, .int .i64 0]) ?_ 0 _ rfl; refine mK ?_; exact BK291.out⟩
            replace HB : Aside0 (Below w.heap.size w w67) := by rw [← hW_]; exact ⟨(mH4 HB.out GE260.out GE261.out GE272.out GE291.out)⟩
            clear hW_
            replace HO_273000 := mS (Kd.N_drew HO_273000.out)
            replace HO_273001 := mS (Kd.R_drew HO_273001.out)
            replace HO_273002 := mS (Kd.R_drew HO_273002.out)
            replace HL290_1 := mS (Kd.V_drew HL290_1.out)
            replace BK260 := mS (blk_drew BK260.out)
            replace BK261 := mS (blk_drew BK261.out)
            replace BK272 := mS (blk_drew BK272.out)
            replace BK291 := mS (blk_drew BK291.out)
            replace HB := mS (below_drew1 HB.out)
            have q69 : ((ji53) : Int) ≤ ((((rd_T120 x273000_2 x6_2).f1).length : Int) : Int) := mD
            obtain ⟨i069, hi069, _, hsz69, _⟩ := info_parts info5
            have hroom69 : ((rd_T120 x273000_2 x6_2).f1).length ≤ c290_1 := HC290_1.out
            have hC69 : Kd.F (Kd.int .u8) _ _ A290_1 ((rd_T120 x273000_2 x6_2).f1).length ((rd_T120 x273000_2 x6_2).f1) := (Kd.V_at (base := w.heap.size) HL290_1.out).2.2
            have hcut69 := cut_to (P := Try.prog) 22 5 .i64 Try.underlying22 hi069 A290_1 ((rd_T120 x273000_2 x6_2).f1).length c290_1 (ji53) (mD) q69 hroom69
            have hr69 := Kd.F_take (m := ((ji53) : Int).toNat) hC69 (by omega)
            have hy69 : y292.length = ((ji53) : Int).toNat := (by rw [Ny292.out, List.length_take]; omega)
            rw [← Ny292.out] at hr69
            rw [← hy69] at hcut69
            have HO296 := mS (show Kd.V (Kd.int .u8) 5 _ w.heap.size _ (.slice A290_1 y292.length c290_1) y292 from Kd.V_mk (by omega) hr69)
            have HC296 := mS (show y292.length ≤ c290_1 from by omega)
            clear hr69 hC69 hroom69 hi069 hsz69
            have KY69 := mS hy69
            clear hy69
            replace q69 := eq_true q69
            have p56 : 0 ≤ (x6_2 : Int) := mD
            have q56 : (x6_2 : Int) < ((x273000_2.length : Int) : Int) := mD
            obtain ⟨go56, co56, eo56, gb56, gl56, cl56, HG56⟩ := Kd.N_form HO_273000.out (by omega)
            (first | cases eo56 | (injection eo56 with ea_ en_ ec_; (first | subst ea_ | (injection ea_ with ea_; subst ea_)); subst ec_; clear en_))
            have GB56 := mS gb56
            have GG56 := mS HG56
            clear gb56 gl56 HG56
            (first | simp only [add_plain] at hx290_0 | skip)
            (first | simp only [add_plain] at hx290_1 | skip)
            (first | simp only [add_plain] at hx290_2 | skip)
            obtain ⟨ce56, hcl56, hM56, hcc56, hfr56⟩ := Kd.N_elem HO_273000.out z120 (x6_2 : Int) p56 q56
            obtain ⟨ua56_1, uc56_1, rfl, ul56_1, ge56_1⟩ := k120_openF hM56
            have hx56_0 : World.cell? _ ⟨go56, (x6_2 : Int).toNat * 3, none⟩ = some (.int .i64 ((rd_T120 x273000_2 x6_2).f0)) := hcc56 0 _ rfl
            have hx56_1 : World.cell? _ ⟨go56, (x6_2 : Int).toNat * 3 + 1, none⟩ = some (.slice ua56_1 ((rd_T120 x273000_2 x6_2).f1).length uc56_1) := hcc56 1 _ rfl
            have hx56_2 : World.cell? _ ⟨go56, (x6_2 : Int).toNat * 3 + 2, none⟩ = some (.int .i64 ((rd_T120 x273000_2 x6_2).f2)) := hcc56 2 _ rfl
            have hf56_0 : World.frozen? _ ⟨go56, (x6_2 : Int).toNat * 3, none⟩ = false := hfr56 0
            have hf56_1 : World.frozen? _ ⟨go56, (x6_2 : Int).toNat * 3 + 1, none⟩ = false := hfr56 1
            have hf56_2 : World.frozen? _ ⟨go56, (x6_2 : Int).toNat * 3 + 2, none⟩ = false := hfr56 2
            clear hcl56 hcc56 hfr56 hM56
            replace p56 := eq_true p56
            replace q56 := eq_true q56
            have HX70 := mS (show Kd.N k120 120 _ w.heap.size (fun k_ => (w.heap.size ≤ k_) ∧ some k_ ≠ (.slice Ao48 t283.length co48 : Value).ownBlock ∧ some k_ ≠ (.slice Ao49 t286.length co49 : Value).ownBlock ∧ k_ ≠ gb260 ∧ k_ ≠ gb261 ∧ k_ ≠ gb272 ∧ k_ ≠ gb291) (.slice (some ⟨go56, 0, none⟩) x273000_2.length co61) x273000_2 from (Kd.N_mono (HO_273000.out) (fun k_ hk => ⟨hk.1, ⟨hk.2.1, ⟨hk.2.2.1, ⟨hk.2.2.2.1, ⟨hk.2.2.2.2.1, ⟨hk.2.2.2.2.2.1, hk.2.2.2.2.2.2⟩⟩⟩⟩⟩⟩)))
            obtain ⟨ce70, hcl70, hM70, hcc70, hfr70⟩ := Kd.N_elem HX70.out z120 (x6_2 : Int) (mD) (by have h_ : (x6_2 : Int) < ((x273000_2.length : Int) : Int) := mD; first | exact h_ | (have e_ := (Kd.N_reads' HO_273000.out).1; omega) | simpa using h_)
            obtain ⟨ua70_1, uc70_1, rfl, ul70_1, ge70_1⟩ := k120_openF hM70
            have HP70 := (Kd.N_seg HX70.out (x6_2 : Int) (mD) (by have h_ : (x6_2 : Int) < ((x273000_2.length : Int) : Int) := mD; first | exact h_ | (have e_ := (Kd.N_reads' HO_273000.out).1; omega) | simpa using h_) (seg := [.slice A290_1 y292.length c290_1]) (j := 1) hcl70 hcc70 (show 2 ≤ 3 from by decide) (x' := (⟨(rd_T120 x273000_2 x6_2).f0, y292, (rd_T120 x273000_2 x6_2).f2⟩ : S120)) (k120_mkF _ _ (⟨(rd_T120 x273000_2 x6_2).f0, y292, (rd_T120 x273000_2 x6_2).f2⟩ : S120) (Kd.V_reads' (Kd.V_mono (ok' := (fun k_ => ((fun k_ => (w.heap.size ≤ k_) ∧ some k_ ≠ (.slice Ao48 t283.length co48 : Value).ownBlock ∧ some k_ ≠ (.slice Ao49 t286.length co49 : Value).ownBlock ∧ k_ ≠ gb260 ∧ k_ ≠ gb261 ∧ k_ ≠ gb272 ∧ k_ ≠ gb291)) k_ ∧ k_ ≠ go56)) (HO296.out) (fun k_ hk => ⟨⟨hk.1, ⟨hk.2.2.1, ⟨hk.2.2.2.1, ⟨hk.2.2.2.2.1, ⟨hk.2.2.2.2.2.1, ⟨hk.2.2.2.2.2.2.1, hk.2.2.2.2.2.2.2⟩⟩⟩⟩⟩⟩, fun e_ => (hk.2.1) (by rw [e_]; rfl)⟩))).2.1 (Kd.V_F (Kd.V_mono (ok' := (fun k_ => ((fun k_ => (w.heap.size ≤ k_) ∧ some k_ ≠ (.slice Ao48 t283.length co48 : Value).ownBlock ∧ some k_ ≠ (.slice Ao49 t286.length co49 : Value).ownBlock ∧ k_ ≠ gb260 ∧ k_ ≠ gb261 ∧ k_ ≠ gb272 ∧ k_ ≠ gb291)) k_ ∧ k_ ≠ go56)) (HO296.out) (fun k_ hk => ⟨⟨hk.1, ⟨hk.2.2.1, ⟨hk.2.2.2.1, ⟨hk.2.2.2.2.1, ⟨hk.2.2.2.2.2.1, ⟨hk.2.2.2.2.2.2.1, hk.2.2.2.2.2.2.2⟩⟩⟩⟩⟩⟩, fun e_ => (hk.2.1) (by rw [e_]; rfl)⟩)))) (fun _ hk => hk)).1
            rw [← Ny297.out] at HP70
            have HQ70 := mS HP70
            clear hcl70 hcc70 hfr70 hM70 HP70
            refine start_ (n := 13) (S := fun w' => w'.cell? ⟨gb272, 0, none⟩ = some (.slice (some ⟨go56, 0, none⟩) x273000_2.length co61) ∧ w'.cell? ⟨gb272, 1, none⟩ = some (.slice Ao48 t283.length co48) ∧ w'.cell? ⟨gb272, 2, none⟩ = some (.slice Ao49 t286.length co49) ∧ w'.cell? ⟨gb272, 3, none⟩ = some (.int .i64 t289) ∧ w'.cell? ⟨gb291, 0, none⟩ = some (.int .i64 ((rd_T120 x273000_2 x6_2).f0)) ∧ w'.cell? ⟨gb291, 1, none⟩ = some (.slice A290_1 ((rd_T120 x273000_2 x6_2).f1).length c290_1) ∧ w'.cell? ⟨gb291, 2, none⟩ = some (.int .i64 ((rd_T120 x273000_2 x6_2).f2))) (ds := [12]) (mb 0 13) (by kernel_rfl) rfl rfl (mb4 BK272.out (mc3 BK291.out)) (fun hHeld => ?_); refine with_tabW spec_Fall.tab11 spec_Fall.bits11 (fun HT_ HW_ => ?_)
            generalize w67.drew = w68 at HO_273000 HO_273001 HO_273002 HL290_1 BK260 BK261 BK272 BK291 HB GG56 HO296 HQ70 hf56_0 hf56_1 hf56_2 hx290_0 hx290_1 hx290_2 hx56_0 hx56_1 hx56_2 hHeld ⊢
            refine mpu 0 45 HT_.out (mb 1 12) ?_
            refine mpu 2 47 HT_.out (mr [1,1,1,10]) ?_
            refine mpu 3 48 HT_.out (mr [1,1,2,9]) ?_
            refine mpu 5 50 HT_.out (mr [1,1,2,1,1,7]) ?_
            refine mpu 7 52 HT_.out (mr [1,1,2,1,1,1,1,5]) ?_
            refine mpt 1 46 HT_.out HW_.out (mr [4,1,1,1,1,5]) hHeld ?_
            refine mpt 4 49 HT_.out HW_.out (mr [6,1,1,5]) hHeld ?_
            refine mpt 6 51 HT_.out HW_.out (mb 8 5) hHeld ?_
            refine mpu 8 53 HT_.out (mb 9 4) ?_
            refine mpu 9 54 HT_.out (mb 10 3) ?_
            refine mpu 10 55 HT_.out (mb 11 2) ?_
            refine mpu 11 56 HT_.out (mb 12 1) ?_
            refine last_ (i := 12) (N := none) (mb 13 0) rfl rfl (one_of HT_.out (by kernel_rfl)) (by decide) (fun K hK => ?_)
            refine skip_ (w1 := ?_) (by rfl) rfl ?_ ?_
            rotate_left
            ·go_simp
             rfl
            refine hK.out _ _ ?_
            clear hK K
            refine done_ (done_of HT_.out (by kernel_rfl)) ?_
            try go_wp2
            generalize hW_ : (w68.setCell ⟨go56, (x6_2 : Int).toNat * 3 + 1, none⟩ (.slice A290_1 y292.length c290_1)) = w71
            replace HO_273001 : Aside0 (Kd.R k126 126 w71 w.heap.size (fun k_ => (w.heap.size ≤ k_) ∧ some k_ ≠ (.slice Ao49 t286.length co49 : Value).ownBlock) (.slice Ao48 t283.length co48) t283) := by rw [← hW_]; exact ⟨by refine mR ?_; exact Kd.R_mono (Kd.R_far (p := ⟨go56, (x6_2 : Int).toNat * 3 + 1, none⟩) (Kd.R_types HO_273001.out GG56.out (by decide)) (fun _ hk => hk.2) (.slice A290_1 y292.length c290_1)) (fun _ hk => ⟨hk.1.1, hk.1.2⟩)⟩
            replace HO_273002 : Aside0 (Kd.R k126 126 w71 w.heap.size (fun k_ => (w.heap.size ≤ k_) ∧ some k_ ≠ (.slice Ao48 t283.length co48 : Value).ownBlock) (.slice Ao49 t286.length co49) t286) := by rw [← hW_]; exact ⟨by refine mR ?_; exact Kd.R_mono (Kd.R_far (p := ⟨go56, (x6_2 : Int).toNat * 3 + 1, none⟩) (Kd.R_types HO_273002.out GG56.out (by decide)) (fun _ hk => hk.2) (.slice A290_1 y292.length c290_1)) (fun _ hk => ⟨hk.1.1, hk.1.2⟩)⟩
            replace HL290_1 : Aside0 (Kd.V (Kd.int .u8) 5 w71 w.heap.size (fun k_ => (w.heap.size ≤ k_) ∧ some k_ ≠ (.slice (some ⟨go56, 0, none⟩) x273000_2.length co61 : Value).ownBlock ∧ some k_ ≠ (.slice Ao48 t283.length co48 : Value).ownBlock ∧ some k_ ≠ (.slice Ao49 t286.length co49 : Value).ownBlock ∧ k_ ≠ gb260 ∧ k_ ≠ gb261 ∧ k_ ≠ gb272 ∧ k_ ≠ gb291) (.slice A290_1 ((rd_T120 x273000_2 x6_2).f1).length c290_1) ((rd_T120 x273000_2 x6_2).f1)) := by rw [← hW_]; exact ⟨by refine mVd ?_; exact Kd.V_mono (Kd.V_far (p := ⟨go56, (x6_2 : Int).toNat * 3 + 1, none⟩) (Kd.V_mono HL290_1.out (fun k_ hk => (⟨hk, fun e_ => hk.2.1 (by rw [e_]; rfl)⟩ : _ ∧ k_ ≠ go56))) (fun _ hk => hk.2) (.slice A290_1 y292.length c290_1)) (fun _ hk => ⟨hk.1.1, ⟨hk.1.2.1, ⟨hk.1.2.2.1, ⟨hk.1.2.2.2.1, ⟨hk.1.2.2.2.2.1, ⟨hk.1.2.2.2.2.2.1, ⟨hk.1.2.2.2.2.2.2.1, hk.1.2.2.2.2.2.2.2⟩⟩⟩⟩⟩⟩⟩)⟩
            replace HO296 : Aside0 (Kd.V (Kd.int .u8) 5 w71 w.heap.size (fun k_ => (w.heap.size ≤ k_) ∧ some k_ ≠ (.slice (some ⟨go56, 0, none⟩) x273000_2.length co61 : Value).ownBlock ∧ some k_ ≠ (.slice Ao48 t283.length co48 : Value).ownBlock ∧ some k_ ≠ (.slice Ao49 t286.length co49 : Value).ownBlock ∧ k_ ≠ gb260 ∧ k_ ≠ gb261 ∧ k_ ≠ gb272 ∧ k_ ≠ gb291) (.slice A290_1 y292.length c290_1) y292) := by rw [← hW_]; exact ⟨by refine mVd ?_; exact Kd.V_mono (Kd.V_far (p := ⟨go56, (x6_2 : Int).toNat * 3 + 1, none⟩) (Kd.V_mono HO296.out (fun k_ hk => (⟨hk, fun e_ => hk.2.1 (by rw [e_]; rfl)⟩ : _ ∧ k_ ≠ go56))) (fun _ hk => hk.2) (.slice A290_1 y292.length c290_1)) (fun _ hk => ⟨hk.1.1, ⟨hk.1.2.1, ⟨hk.1.2.2.1, ⟨hk.1.2.2.2.1, ⟨hk.1.2.2.2.2.1, ⟨hk.1.2.2.2.2.2.1, ⟨hk.1.2.2.2.2.2.2.1, hk.1.2.2.2.2.2.2.2⟩⟩⟩⟩⟩⟩⟩)⟩
            replace BK260 : Aside0 (w71.heap[gb260]? = some (.cells #[.slice A0_0 l0_0.length c0_0, .slice A0_1 l0_1.length c0_1, .slice A0_2 l0_2.length c0_2, .int .i64 a0_3] 63 (0, 0))) := by rw [← hW_]; exact ⟨by refine mK ?_; refine blk_far ?_ (by have h_ := Kd.N_away HO_273000.out (fun _ hk => hk.2.2.2.1); intro e_; exact h_ (by rw [e_]; rfl)) _; refine mK ?_; exact BK260.out⟩
            replace BK261 : Aside0 (w71.heap[gb261]? = some (.cells #[.slice none 0 0, .slice none 0 0, .slice none 0 0, .int .i64 0] 63 (0, 0))) := by rw [← hW_]; exact ⟨by refine mK ?_; refine blk_far ?_ (by have h_ := Kd.N_away HO_273000.out (fun _ hk => hk.2.2.2.2.1); intro e_; exact h_ (by rw [e_]; rfl)) _; refine mK ?_; exact BK261.out⟩
            replace BK272 : Aside0 (w71.heap[gb272]? = some (.cells #[.slice (some ⟨go56, 0, none⟩) x273000_2.length co61, .slice Ao48 t283.length co48, .slice Ao49 t286.length co49, .int .i64 t289] 63 (0, 0))) := by rw [← hW_]; exact ⟨by refine mK ?_; refine blk_far ?_ (by have h_ := Kd.N_away HO_273000.out (fun _ hk => hk.2.2.2.2.2.1); intro e_; exact h_ (by rw [e_]; rfl)) _; refine mK ?_; exact BK272.out⟩
            replace BK291 : Aside0 (w71.heap[gb291]? = some (.cells #[.int .i64 ((rd_T120 x273000_2 x6_2).f0), .slice A290_1 ((rd_T120 x273000_2 x6_2).f1).length c290_1, .int .i64 ((rd_T120 x273000_2 x6_2).f2)] 120 (0, 0))) := by rw [← hW_]; exact ⟨by refine mK ?_; refine blk_far ?_ (by have h_ := Kd.N_away HO_273000.out (fun _ hk => hk.2.2.2.2.2.2); intro e_; exact h_ (by rw [e_]; rfl)) _; refine mK ?_; exact BK291.out⟩
            replace HO_273000 : Aside0 (Kd.N k120 120 w71 w.heap.size (fun k_ => (w.heap.size ≤ k_) ∧ some k_ ≠ (.slice Ao48 t283.length co48 : Value).ownBlock ∧ some k_ ≠ (.slice Ao49 t286.length co49 : Value).ownBlock ∧ k_ ≠ gb260 ∧ k_ ≠ gb261 ∧ k_ ≠ gb272 ∧ k_ ≠ gb291) (.slice (some ⟨go56, 0, none⟩) x273000_2.length co61) y297) := by rw [← hW_]; exact ⟨mNd HQ70.out⟩
            replace HB : Aside0 (Below w.heap.size w w71) := by rw [← hW_]; exact ⟨mH5 HB.out GB56.out GE260.out GE261.out GE272.out GE291.out⟩
            clear hW_
            replace HO_273000 := mS (Kd.N_drew HO_273000.out)
            replace HO_273001 := mS (Kd.R_drew HO_273001.out)
            replace HO_273002 := mS (Kd.R_drew HO_273002.out)
            replace HL290_1 := mS (Kd.V_drew HL290_1.out)
            replace HO296 := mS (Kd.V_drew HO296.out)
            replace BK260 := mS (blk_drew BK260.out)
            replace BK261 := mS (blk_drew BK261.out)
            replace BK272 := mS (blk_drew BK272.out)
            replace BK291 := mS (blk_drew BK291.out)
            replace HB := mS (below_drew1 HB.out)
            have p298 : 0 ≤ (x6_2 : Int) := mD
            have q298 : x6_2 < (y297.length : Int) := (by have h_ : (x6_2 : Int) < ((x273000_2.length : Int) : Int) := mD; first | (have e_ := (Kd.N_reads' HO_273000.out).1; omega) | simpa only [Ny297.out, List.length_set] using h_)
            have ql298 : ((x6_2 : Int) < ((x273000_2.length : Int) : Int)) = True := eq_true (mD)
            obtain ⟨ad298, A298_1, c298_1, e298, hx298_0, hx298_1, hx298_2, hl298_1, hi298_1⟩ := at_T120 (Kd.N_reads' HO_273000.out).2.2 x6_2 p298 q298
            obtain rfl : (⟨go56, 0, none⟩ : Addr) = ad298 := (by injection e298)
            obtain ⟨ce298, hce298, hMe298, hcc298⟩ := Kd.N_get HO_273000.out z120 x6_2 p298 (by first | exact q298 | exact mD | (have e_ := (Kd.N_reads' HO_273000.out).1; omega))
            obtain ⟨ua298_1, uc298_1, rfl, ul298_1, ge298_1⟩ := k120_openF hMe298
            have hv298_1 := hcc298 1 _ rfl
            rw [add_field _ _ 1 (by omega)] at hv298_1
            replace hv298_1 := Option.some.inj (hv298_1.symm.trans hx298_1)
            injection hv298_1 with hva_ hvn_ hvc_
            rw [hva_] at ge298_1
            rw [hvc_] at ul298_1
            have HL298_1 := mS (show Kd.V (Kd.int .u8) 5 _ w.heap.size _ _ ((rd_T120 y297 x6_2).f1) from Kd.V_mk ul298_1 ge298_1)
            clear hva_ hvn_ hvc_ ge298_1 ul298_1
            clear hcc298 hce298
            (first | simp only [add_plain] at hx298_0 | simp only [add_at] at hx298_0 | simp only [Addr.add, Nat.zero_add] at hx298_0 | skip)
            (first | simp only [add_plain] at hx298_1 | simp only [add_at] at hx298_1 | simp only [Addr.add, Nat.zero_add] at hx298_1 | skip)
            (first | simp only [add_plain] at hx298_2 | simp only [add_at] at hx298_2 | simp only [Addr.add, Nat.zero_add] at hx298_2 | skip)
            have HR298_1 := mS hi298_1
            have HC298_1 := mS hl298_1
            clear hi298_1 hl298_1
            replace p298 := eq_true p298
            replace q298 := eq_true q298
            have p57 : 0 ≤ (x6_2 : Int) := mD
            have q57 : (x6_2 : Int) < ((x273000_2.length : Int) : Int) := mD
            obtain ⟨ce57, hcl57, hM57, hcc57, hfr57⟩ := Kd.N_elem HO_273000.out z120 (x6_2 : Int) p57 q57
            obtain ⟨ua57_1, uc57_1, rfl, ul57_1, ge57_1⟩ := k120_openF hM57
            have hx57_0 : World.cell? _ ⟨go56, (x6_2 : Int).toNat * 3, none⟩ = some (.int .i64 ((rd_T120 y297 x6_2).f0)) := hcc57 0 _ rfl
            have hx57_1 : World.cell? _ ⟨go56, (x6_2 : Int).toNat * 3 + 1, none⟩ = some (.slice ua57_1 ((rd_T120 y297 x6_2).f1).length uc57_1) := hcc57 1 _ rfl
            have hx57_2 : World.cell? _ ⟨go56, (x6_2 : Int).toNat * 3 + 2, none⟩ = some (.int .i64 ((rd_T120 y297 x6_2).f2)) := hcc57 2 _ rfl
            have hf57_0 : World.frozen? _ ⟨go56, (x6_2 : Int).toNat * 3, none⟩ = false := hfr57 0
            have hf57_1 : World.frozen? _ ⟨go56, (x6_2 : Int).toNat * 3 + 1, none⟩ = false := hfr57 1
            have hf57_2 : World.frozen? _ ⟨go56, (x6_2 : Int).toNat * 3 + 2, none⟩ = false := hfr57 2
            clear hcl57 hcc57 hfr57 hM57
            replace p57 := eq_true p57
            replace q57 := eq_true q57
            have HX73 := mS (show Kd.N k120 120 _ w.heap.size (fun k_ => (w.heap.size ≤ k_) ∧ some k_ ≠ (.slice Ao48 t283.length co48 : Value).ownBlock ∧ some k_ ≠ (.slice Ao49 t286.length co49 : Value).ownBlock ∧ k_ ≠ gb260 ∧ k_ ≠ gb261 ∧ k_ ≠ gb272 ∧ k_ ≠ gb291) (.slice (some ⟨go56, 0, none⟩) x273000_2.length co61) y297 from (Kd.N_mono (HO_273000.out) (fun k_ hk => ⟨hk.1, ⟨hk.2.1, ⟨hk.2.2.1, ⟨hk.2.2.2.1, ⟨hk.2.2.2.2.1, ⟨hk.2.2.2.2.2.1, hk.2.2.2.2.2.2⟩⟩⟩⟩⟩⟩)))
            obtain ⟨ce73, hcl73, hM73, hcc73, hfr73⟩ := Kd.N_elem HX73.out z120 (x6_2 : Int) (mD) (by have h_ : (x6_2 : Int) < ((x273000_2.length : Int) : Int) := mD; first | exact h_ | (have e_ := (Kd.N_reads' HO_273000.out).1; omega) | simpa using h_)
            obtain ⟨ua73_1, uc73_1, rfl, ul73_1, ge73_1⟩ := k120_openF hM73
            have HP73 := (Kd.N_seg HX73.out (x6_2 : Int) (mD) (by have h_ : (x6_2 : Int) < ((x273000_2.length : Int) : Int) := mD; first | exact h_ | (have e_ := (Kd.N_reads' HO_273000.out).1; omega) | simpa using h_) (seg := [.int .i64 (((rd_T120 y297 x6_2).f1).length : Int)]) (j := 2) hcl73 hcc73 (show 3 ≤ 3 from by decide) (x' := (⟨(rd_T120 y297 x6_2).f0, (rd_T120 y297 x6_2).f1, (((rd_T120 y297 x6_2).f1).length : Int)⟩ : S120)) (k120_mkF _ _ (⟨(rd_T120 y297 x6_2).f0, (rd_T120 y297 x6_2).f1, (((rd_T120 y297 x6_2).f1).length : Int)⟩ : S120) ul73_1 ge73_1) (fun _ hk => hk)).1
            rw [← Ny299.out] at HP73
            have HQ73 := mS HP73
            clear hcl73 hcc73 hfr73 hM73 HP73
            refine start_ (n := 13) (S := fun w' => w'.cell? ⟨gb272, 0, none⟩ = some (.slice (some ⟨go56, 0, none⟩) x273000_2.length co61) ∧ w'.cell? ⟨gb272, 1, none⟩ = some (.slice Ao48 t283.length co48) ∧ w'.cell? ⟨gb272, 2, none⟩ = some (.slice Ao49 t286.length co49) ∧ w'.cell? ⟨gb272, 3, none⟩ = some (.int .i64 t289) ∧ w'.cell? ⟨go56, (x6_2).toNat * 3, none⟩ = some (.int .i64 ((rd_T120 y297 x6_2).f0)) ∧ w'.cell? ⟨go56, (x6_2).toNat * 3 + 1, none⟩ = some (.slice A298_1 ((rd_T120 y297 x6_2).f1).length c298_1) ∧ w'.cell? ⟨go56, (x6_2).toNat * 3 + 2, none⟩ = some (.int .i64 ((rd_T120 y297 x6_2).f2))) (ds := [12]) (mb 0 13) (by kernel_rfl) rfl rfl ⟨mZ BK272.out 0, mZ BK272.out 1, mZ BK272.out 2, mZ BK272.out 3, hx298_0, hx298_1, hx298_2⟩ (fun hHeld => ?_); refine with_tabW spec_Fall.tab12 spec_Fall.bits12 (fun HT_ HW_ => ?_)
            generalize w71.drew = w72 at HO_273000 HO_273001 HO_273002 HL290_1 HO296 BK260 BK261 BK272 BK291 HB HL298_1 HQ70 HQ73 HR298_1 hf57_0 hf57_1 hf57_2 hx298_0 hx298_1 hx298_2 hx57_0 hx57_1 hx57_2 hHeld ⊢
            obtain ⟨go_, co_, eo_, _, _, _, HG_⟩ := Kd.N_form HO_273000.out (by have e_ := (Kd.N_reads' HO_273000.out).1; have h_ := of_eq_true p57; have i_ := of_eq_true q57; omega)
            injection eo_ with ea_ en_ ec_
            injection ea_ with ea_
            injection ea_ with ea_
            subst ea_
            have GG56 := mS HG_
            clear HG_ en_ ec_
            refine mpu 0 57 HT_.out (mb 1 12) ?_
            refine mpu 2 59 HT_.out (mr [1,1,1,10]) ?_
            refine mpu 3 60 HT_.out (mr [1,1,2,9]) ?_
            refine mpu 5 62 HT_.out (mr [1,1,2,1,1,7]) ?_
            refine mpt 1 58 HT_.out HW_.out (mr [4,1,1,7]) hHeld ?_
            refine mpt 4 61 HT_.out HW_.out (mb 6 7) hHeld ?_
            refine mpu 6 63 HT_.out (mb 7 6) ?_
            refine mpu 7 64 HT_.out (mb 8 5) ?_
            refine mpt 8 65 HT_.out HW_.out (mb 9 4) hHeld ?_
            refine mpu 9 66 HT_.out (mb 10 3) ?_
            refine mpu 10 67 HT_.out (mb 11 2) ?_
            refine mpu 11 68 HT_.out (mb 12 1) ?_
            refine last_ (i := 12) (N := none) (mb 13 0) rfl rfl (one_of HT_.out (by kernel_rfl)) (by decide) (fun K hK => ?_)
            refine skip_ (w1 := ?_) (by rfl) rfl ?_ ?_
            rotate_left
            ·go_simp
             rfl
            refine hK.out _ _ ?_
            clear hK K
            refine done_ (done_of HT_.out (by kernel_rfl)) ?_
            try go_wp2
            go_roundg k2
            case measure => have := HJ3.out; have := HK2.out; omega
            case rel => exact ⟨(wrap64 (x6_2 + 1)), (y299), (.slice (some ⟨go56, 0, none⟩) x273000_2.length co61), mE, H', ⟨by have := HJ3.out; have := HK2.out; omega⟩, ⟨by refine mNd ?_; exact Kd.N_mono HQ73.out (fun _ hk => ⟨hk.1, ⟨hk.2.1, ⟨hk.2.2.1, ⟨hk.2.2.2.1, ⟨hk.2.2.2.2.1, hk.2.2.2.2.2.1⟩⟩⟩⟩⟩)⟩, ⟨by refine mR ?_; exact Kd.R_mono (Kd.R_far (p := ⟨go56, (x6_2 : Int).toNat * 3 + 2, none⟩) (Kd.R_types HO_273001.out GG56.out (by decide)) (fun _ hk => hk.2) (.int .i64 (((rd_T120 y297 x6_2).f1).length : Int))) (fun _ hk => ⟨hk.1.1, hk.1.2⟩)⟩, ⟨by refine mR ?_; exact Kd.R_mono (Kd.R_far (p := ⟨go56, (x6_2 : Int).toNat * 3 + 2, none⟩) (Kd.R_types HO_273002.out GG56.out (by decide)) (fun _ hk => hk.2) (.int .i64 (((rd_T120 y297 x6_2).f1).length : Int))) (fun _ hk => ⟨hk.1.1, hk.1.2⟩)⟩, ⟨by refine mK ?_; refine blk_far ?_ (by have h_ := Kd.N_away HO_273000.out (fun _ hk => hk.2.2.2.1); intro e_; exact h_ (by rw [e_]; rfl)) _; refine mK ?_; exact BK260.out⟩, ⟨by refine mK ?_; refine blk_far ?_ (by have h_ := Kd.N_away HO_273000.out (fun _ hk => hk.2.2.2.2.1); intro e_; exact h_ (by rw [e_]; rfl)) _; refine mK ?_; exact BK261.out⟩, ⟨by refine mK ?_; refine blk_far ?_ (by have h_ := Kd.N_away HO_273000.out (fun _ hk => hk.2.2.2.2.2.1); intro e_; exact h_ (by rw [e_]; rfl)) _; refine mK ?_; exact BK272.out⟩, ⟨mH5 HB.out GB56.out GE260.out GE261.out GE272.out GE291.out⟩⟩
           ·rw [if_neg c55] at H
            exact absurd H (by simp)
          ·rw [if_neg c54] at H
           exact absurd H (by simp)
         ·rw [if_neg c52] at H
          have c52b0 := decide_eq_false c52
          clear c52
          obtain ⟨y301, hy301⟩ : ∃ y_ : List (S120), y_ = (x273000_2.set (x6_2 : Int).toNat (⟨(rd_T120 x273000_2 x6_2).f0, (rd_T120 x273000_2 x6_2).f1, (((rd_T120 x273000_2 x6_2).f1).length : Int)⟩ : S120)) := ⟨_, rfl⟩
          replace H : (spec_Fall.l0 k2 a1 (wrap64 (x6_2 + 1)) y301 t283 t286 t289) = some (r1, r2, r3, r4) := by first | (rw [hy301]; with_reducible exact H) | (have H2_ := (Option.bind_some _ _).symm.trans H; rw [hy301]; with_reducible exact H2_) | (have H2_ := (Option.bind_some _ _).symm.trans H; with_reducible exact H2_) | with_reducible exact H | (rw [hy301]; exact H) | exact H
          have Ny301 := mS hy301
          clear hy301
          have H' := mS H
          clear H
          have hnb75 := NB272_260.out
          have hnc75 := NB260_272.out
          have hnb76 := NB272_261.out
          have hnc76 := NB261_272.out
          obtain ⟨hcz77_0, hcz77_1, hcz77_2, hcz77_3, hfz77_0, hfz77_1, hfz77_2, hfz77_3⟩ := mZ4 BK272.out
          obtain ⟨Ao78, co78, eo78⟩ := Kd.N_slice HO_273000.out
          subst eo78
          have p290 : 0 ≤ (x6_2 : Int) := mD
          have q290 : x6_2 < (x273000_2.length : Int) := mD
          obtain ⟨ad290, A290_1, c290_1, e290, hx290_0, hx290_1, hx290_2, hl290_1, hi290_1⟩ := at_T120 (Kd.N_reads' HO_273000.out).2.2 x6_2 p290 q290
          cases e290
          obtain ⟨ce290, hce290, hMe290, hcc290⟩ := Kd.N_get HO_273000.out z120 x6_2 p290 (by first | exact q290 | exact mD | (have e_ := (Kd.N_reads' HO_273000.out).1; omega))
          obtain ⟨ua290_1, uc290_1, rfl, ul290_1, ge290_1⟩ := k120_openF hMe290
          have hv290_1 := hcc290 1 _ rfl
          rw [add_field _ _ 1 (by omega)] at hv290_1
          replace hv290_1 := Option.some.inj (hv290_1.symm.trans hx290_1)
          injection hv290_1 with hva_ hvn_ hvc_
          rw [hva_] at ge290_1
          rw [hvc_] at ul290_1
          have HL290_1 := mS (show Kd.V (Kd.int .u8) 5 _ w.heap.size _ _ ((rd_T120 x273000_2 x6_2).f1) from Kd.V_mk ul290_1 ge290_1)
          clear hva_ hvn_ hvc_ ge290_1 ul290_1
          clear hcc290 hce290
          have HR290_1 := mS hi290_1
          have HC290_1 := mS hl290_1
          clear hi290_1 hl290_1
          replace p290 := eq_true p290
          replace q290 := eq_true q290
          try go_wp2_with (first | ((with_reducible refine gate_dst (N := 7) rfl ?_); refine mBx 7 #[.int .i64 0, .slice none 0 0, .int .i64 0] 120 ?_; intro gb291 hg w79 hbox hb; replace HO_273000 := mS (Kd.N_below (Kd.N_elderB (mNd HO_273000.out) gb291 (Nat.le_of_eq hg.symm)) hb); replace HO_273001 := mS (Kd.R_below (mR HO_273001.out) hb); replace HO_273002 := mS (Kd.R_below (mR HO_273002.out) hb); replace HL290_1 := mS (Kd.V_below (Kd.V_elderB (mVd HL290_1.out) gb291 (Nat.le_of_eq hg.symm)) hb); replace HR290_1 := mS (Kd.C_below (by repeat (first | (with_reducible exact HR290_1.out) | (with_reducible refine Kd.C_alloc ?_ _) | (with_reducible refine Kd.C_drewN ?_ _) | (with_reducible refine Kd.C_drew ?_) | exact HR290_1.out)) hb); have BK291 := mS (hbox); have GW291 := mG hg (mH3 HB.out GE260.out GE261.out GE272.out); have GE291 := mG hg (mH3 HB.out GE260.out GE261.out GE272.out); replace HB := mS (below_step (mH3 HB.out GE260.out GE261.out GE272.out) hb); have NB260_291 := mNl hg BK260.out; have NB291_260 := mNg hg BK260.out; replace BK260 := mB BK260 hb; have NB261_291 := mNl hg BK261.out; have NB291_261 := mNg hg BK261.out; replace BK261 := mB BK261 hb; have NB272_291 := mNl hg BK272.out; have NB291_272 := mNg hg BK272.out; replace BK272 := mB BK272 hb; clear hb hbox hg; have hnb80 := NB291_260.out; have hnc80 := NB260_291.out; have hnb81 := NB291_261.out; have hnc81 := NB261_291.out; have hnb82 := NB291_272.out; have hnc82 := NB272_291.out; obtain ⟨hcz83_0, hcz83_1, hcz83_2, hfz83_0, hfz83_1, hfz83_2⟩ := mZ3 BK291.out))
          generalize hW_ : (((w79.setCell ⟨gb291, 0, none⟩ (.int .i64 ((rd_T120 x273000_2 x6_2).f0))).setCell ⟨gb291, 1, none⟩ (.slice A290_1 ((rd_T120 x273000_2 x6_2).f1).length c290_1)).setCell ⟨gb291, 2, none⟩ (.int .i64 ((rd_T120 x273000_2 x6_2).f2))) = w84
          replace HO_273000 : Aside0 (Kd.N k120 120 w84 w.heap.size (fun k_ => (w.heap.size ≤ k_) ∧ some k_ ≠ (.slice Ao48 t283.length co48 : Value).ownBlock ∧ some k_ ≠ (.slice Ao49 t286.length co49 : Value).ownBlock ∧ k_ ≠ gb260 ∧ k_ ≠ gb261 ∧ k_ ≠ gb272 ∧ k_ ≠ gb291) (.slice (some ad290) x273000_2.length co78) x273000_2) := by rw [← hW_]; exact ⟨by refine mNd ?_; exact Kd.N_mono (mNf3 (Kd.N_mono HO_273000.out (fun k_ hk => (⟨hk, hk.2⟩ : _ ∧ k_ ≠ gb291)))) (fun _ hk => ⟨hk.1.1.1, ⟨hk.1.1.2.1, ⟨hk.1.1.2.2.1, ⟨hk.1.1.2.2.2.1, ⟨hk.1.1.2.2.2.2.1, ⟨hk.1.1.2.2.2.2.2, hk.1.2⟩⟩⟩⟩⟩⟩)⟩
          replace HO_273001 : Aside0 (Kd.R k126 126 w84 w.heap.size (fun k_ => (w.heap.size ≤ k_) ∧ some k_ ≠ (.slice Ao49 t286.length co49 : Value).ownBlock) (.slice Ao48 t283.length co48) t283) := by rw [← hW_]; exact ⟨by refine mR ?_; exact Kd.R_mono (mRf3 (Kd.R_types HO_273001.out BK291.out (by decide))) (fun _ hk => ⟨hk.1.1, hk.1.2⟩)⟩
          replace HO_273002 : Aside0 (Kd.R k126 126 w84 w.heap.size (fun k_ => (w.heap.size ≤ k_) ∧ some k_ ≠ (.slice Ao48 t283.length co48 : Value).ownBlock) (.slice Ao49 t286.length co49) t286) := by rw [← hW_]; exact ⟨by refine mR ?_; exact Kd.R_mono (mRf3 (Kd.R_types HO_273002.out BK291.out (by decide))) (fun _ hk => ⟨hk.1.1, hk.1.2⟩)⟩
          replace HL290_1 : Aside0 (Kd.V (Kd.int .u8) 5 w84 w.heap.size (fun k_ => (w.heap.size ≤ k_) ∧ some k_ ≠ (.slice (some ad290) x273000_2.length co78 : Value).ownBlock ∧ some k_ ≠ (.slice Ao48 t283.length co48 : Value).ownBlock ∧ some k_ ≠ (.slice Ao49 t286.length co49 : Value).ownBlock ∧ k_ ≠ gb260 ∧ k_ ≠ gb261 ∧ k_ ≠ gb272 ∧ k_ ≠ gb291) (.slice A290_1 ((rd_T120 x273000_2 x6_2).f1).length c290_1) ((rd_T120 x273000_2 x6_2).f1)) := by rw [← hW_]; exact ⟨by refine mVd ?_; exact Kd.V_mono (Kd.V_far (p := ⟨gb291, 2, none⟩) (Kd.V_far (p := ⟨gb291, 1, none⟩) (Kd.V_far (p := ⟨gb291, 0, none⟩) (Kd.V_mono HL290_1.out (fun k_ hk => (⟨hk, hk.2⟩ : _ ∧ k_ ≠ gb291))) (fun _ hk => hk.2) (.int .i64 ((rd_T120 x273000_2 x6_2).f0))) (fun _ hk => hk.2) (.slice A290_1 ((rd_T120 x273000_2 x6_2).f1).length c290_1)) (fun _ hk => hk.2) (.int .i64 ((rd_T120 x273000_2 x6_2).f2))) (fun _ hk => ⟨hk.1.1.1.1, ⟨hk.1.1.2, ⟨hk.1.1.1.2.1, ⟨hk.1.1.1.2.2.1, ⟨hk.1.1.1.2.2.2.1, ⟨hk.1.1.1.2.2.2.2.1, ⟨hk.1.1.1.2.2.2.2.2, hk.1.2⟩⟩⟩⟩⟩⟩⟩)⟩
          replace BK260 : Aside0 (w84.heap[gb260]? = some (.cells #[.slice A0_0 l0_0.length c0_0, .slice A0_1 l0_1.length c0_1, .slice A0_2 l0_2.length c0_2, .int .i64 a0_3] 63 (0, 0))) := by rw [← hW_]; exact ⟨mKf NB260_291.out BK260.out⟩
          replace BK261 : Aside0 (w84.heap[gb261]? = some (.cells #[.slice none 0 0, .slice none 0 0, .slice none 0 0, .int .i64 0] 63 (0, 0))) := by rw [← hW_]; exact ⟨mKf NB261_291.out BK261.out⟩
          replace BK272 : Aside0 (w84.heap[gb272]? = some (.cells #[.slice (some ad290) x273000_2.length co78, .slice Ao48 t283.length co48, .slice Ao49 t286.length co49, .int .i64 t289] 63 (0, 0))) := by rw [← hW_]; exact ⟨mKf NB272_291.out BK272.out⟩
          replace BK291 : Aside0 (w84.heap[gb291]? = some (.cells #[.int .i64 ((rd_T120 x273000_2 x6_2).f0), .slice A290_1 ((rd_T120 x273000_2 x6_2).f1).length c290_1, .int .i64 ((rd_T120 x273000_2 x6_2).f2)] 120 (0, 0))) := by rw [← hW_]; exact ⟨by refine mK ?_; refine blk_put (cs := #[.int .i64 ((rd_T120 x273000_2 x6_2).f0), .slice A290_1 ((rd_T120 x273000_2 x6_2).f1).length c290_1, .int .i64 0]) ?_ 2 _ rfl; refine mK ?_; refine blk_put (cs := #[.int .i64 ((rd_T120 x273000_2 x6_2).f0), .slice none 0 0, .int .i64 0]) ?_ 1 _ rfl; refine mK ?_; refine blk_put (cs := #[.int .i64 0, .slice none 0 0, .int .i64 0]) ?_ 0 _ rfl; refine mK ?_; exact BK291.out⟩
          replace HB : Aside0 (Below w.heap.size w w84) := by rw [← hW_]; exact ⟨(mH4 HB.out GE260.out GE261.out GE272.out GE291.out)⟩
          clear hW_
          replace HO_273000 := mS (Kd.N_drew HO_273000.out)
          replace HO_273001 := mS (Kd.R_drew HO_273001.out)
          replace HO_273002 := mS (Kd.R_drew HO_273002.out)
          replace HL290_1 := mS (Kd.V_drew HL290_1.out)
          replace BK260 := mS (blk_drew BK260.out)
          replace BK261 := mS (blk_drew BK261.out)
          replace BK272 := mS (blk_drew BK272.out)
          replace BK291 := mS (blk_drew BK291.out)
          replace HB := mS (below_drew1 HB.out)
          have p300 : 0 ≤ (x6_2 : Int) := mD
          have q300 : x6_2 < (x273000_2.length : Int) := mD
          obtain ⟨ad300, A300_1, c300_1, e300, hx300_0, hx300_1, hx300_2, hl300_1, hi300_1⟩ := at_T120 (Kd.N_reads' HO_273000.out).2.2 x6_2 p300 q300
          obtain rfl : ad290 = ad300 := (by injection e300)
          obtain ⟨ce300, hce300, hMe300, hcc300⟩ := Kd.N_get HO_273000.out z120 x6_2 p300 (by first | exact q300 | exact mD | (have e_ := (Kd.N_reads' HO_273000.out).1; omega))
          obtain ⟨ua300_1, uc300_1, rfl, ul300_1, ge300_1⟩ := k120_openF hMe300
          have hv300_1 := hcc300 1 _ rfl
          rw [add_field _ _ 1 (by omega)] at hv300_1
          replace hv300_1 := Option.some.inj (hv300_1.symm.trans hx300_1)
          injection hv300_1 with hva_ hvn_ hvc_
          rw [hva_] at ge300_1
          rw [hvc_] at ul300_1
          have HL300_1 := mS (show Kd.V (Kd.int .u8) 5 _ w.heap.size _ _ ((rd_T120 x273000_2 x6_2).f1) from Kd.V_mk ul300_1 ge300_1)
          clear hva_ hvn_ hvc_ ge300_1 ul300_1
          clear hcc300 hce300
          have HR300_1 := mS hi300_1
          have HC300_1 := mS hl300_1
          clear hi300_1 hl300_1
          replace p300 := eq_true p300
          replace q300 := eq_true q300
          have p74 : 0 ≤ (x6_2 : Int) := mD
          have q74 : (x6_2 : Int) < ((x273000_2.length : Int) : Int) := mD
          obtain ⟨go74, co74, eo74, gb74, gl74, cl74, HG74⟩ := Kd.N_form HO_273000.out (by omega)
          (first | cases eo74 | (injection eo74 with ea_ en_ ec_; (first | subst ea_ | (injection ea_ with ea_; subst ea_)); subst ec_; clear en_))
          have GB74 := mS gb74
          have GG74 := mS HG74
          clear gb74 gl74 HG74
          (first | simp only [add_plain] at hx290_0 | skip)
          (first | simp only [add_plain] at hx290_1 | skip)
          (first | simp only [add_plain] at hx290_2 | skip)
          (first | simp only [add_plain] at hx300_0 | skip)
          (first | simp only [add_plain] at hx300_1 | skip)
          (first | simp only [add_plain] at hx300_2 | skip)
          obtain ⟨ce74, hcl74, hM74, hcc74, hfr74⟩ := Kd.N_elem HO_273000.out z120 (x6_2 : Int) p74 q74
          obtain ⟨ua74_1, uc74_1, rfl, ul74_1, ge74_1⟩ := k120_openF hM74
          have hx74_0 : World.cell? _ ⟨go74, (x6_2 : Int).toNat * 3, none⟩ = some (.int .i64 ((rd_T120 x273000_2 x6_2).f0)) := hcc74 0 _ rfl
          have hx74_1 : World.cell? _ ⟨go74, (x6_2 : Int).toNat * 3 + 1, none⟩ = some (.slice ua74_1 ((rd_T120 x273000_2 x6_2).f1).length uc74_1) := hcc74 1 _ rfl
          have hx74_2 : World.cell? _ ⟨go74, (x6_2 : Int).toNat * 3 + 2, none⟩ = some (.int .i64 ((rd_T120 x273000_2 x6_2).f2)) := hcc74 2 _ rfl
          have hf74_0 : World.frozen? _ ⟨go74, (x6_2 : Int).toNat * 3, none⟩ = false := hfr74 0
          have hf74_1 : World.frozen? _ ⟨go74, (x6_2 : Int).toNat * 3 + 1, none⟩ = false := hfr74 1
          have hf74_2 : World.frozen? _ ⟨go74, (x6_2 : Int).toNat * 3 + 2, none⟩ = false := hfr74 2
          clear hcl74 hcc74 hfr74 hM74
          replace p74 := eq_true p74
          replace q74 := eq_true q74
          have HX86 := mS (show Kd.N k120 120 _ w.heap.size (fun k_ => (w.heap.size ≤ k_) ∧ some k_ ≠ (.slice Ao48 t283.length co48 : Value).ownBlock ∧ some k_ ≠ (.slice Ao49 t286.length co49 : Value).ownBlock ∧ k_ ≠ gb260 ∧ k_ ≠ gb261 ∧ k_ ≠ gb272 ∧ k_ ≠ gb291) (.slice (some ⟨go74, 0, none⟩) x273000_2.length co78) x273000_2 from (Kd.N_mono (HO_273000.out) (fun k_ hk => ⟨hk.1, ⟨hk.2.1, ⟨hk.2.2.1, ⟨hk.2.2.2.1, ⟨hk.2.2.2.2.1, ⟨hk.2.2.2.2.2.1, hk.2.2.2.2.2.2⟩⟩⟩⟩⟩⟩)))
          obtain ⟨ce86, hcl86, hM86, hcc86, hfr86⟩ := Kd.N_elem HX86.out z120 (x6_2 : Int) (mD) (by have h_ : (x6_2 : Int) < ((x273000_2.length : Int) : Int) := mD; first | exact h_ | (have e_ := (Kd.N_reads' HO_273000.out).1; omega) | simpa using h_)
          obtain ⟨ua86_1, uc86_1, rfl, ul86_1, ge86_1⟩ := k120_openF hM86
          have HP86 := (Kd.N_seg HX86.out (x6_2 : Int) (mD) (by have h_ : (x6_2 : Int) < ((x273000_2.length : Int) : Int) := mD; first | exact h_ | (have e_ := (Kd.N_reads' HO_273000.out).1; omega) | simpa using h_) (seg := [.int .i64 (((rd_T120 x273000_2 x6_2).f1).length : Int)]) (j := 2) hcl86 hcc86 (show 3 ≤ 3 from by decide) (x' := (⟨(rd_T120 x273000_2 x6_2).f0, (rd_T120 x273000_2 x6_2).f1, (((rd_T120 x273000_2 x6_2).f1).length : Int)⟩ : S120)) (k120_mkF _ _ (⟨(rd_T120 x273000_2 x6_2).f0, (rd_T120 x273000_2 x6_2).f1, (((rd_T120 x273000_2 x6_2).f1).length : Int)⟩ : S120) ul86_1 ge86_1) (fun _ hk => hk)).1
          rw [← Ny301.out] at HP86
          have HQ86 := mS HP86
          clear hcl86 hcc86 hfr86 hM86 HP86
          refine start_ (n := 13) (S := fun w' => w'.cell? ⟨gb272, 0, none⟩ = some (.slice (some ⟨go74, 0, none⟩) x273000_2.length co78) ∧ w'.cell? ⟨gb272, 1, none⟩ = some (.slice Ao48 t283.length co48) ∧ w'.cell? ⟨gb272, 2, none⟩ = some (.slice Ao49 t286.length co49) ∧ w'.cell? ⟨gb272, 3, none⟩ = some (.int .i64 t289) ∧ w'.cell? ⟨go74, ((x6_2).toNat * 3), none⟩ = some (.int .i64 ((rd_T120 x273000_2 x6_2).f0)) ∧ w'.cell? ⟨go74, ((x6_2).toNat * 3) + 1, none⟩ = some (.slice A300_1 ((rd_T120 x273000_2 x6_2).f1).length c300_1) ∧ w'.cell? ⟨go74, ((x6_2).toNat * 3) + 2, none⟩ = some (.int .i64 ((rd_T120 x273000_2 x6_2).f2))) (ds := [12]) (mb 0 13) (by kernel_rfl) rfl rfl ⟨mZ BK272.out 0, mZ BK272.out 1, mZ BK272.out 2, mZ BK272.out 3, hx300_0, hx300_1, hx300_2⟩ (fun hHeld => ?_); refine with_tabW spec_Fall.tab12 spec_Fall.bits12 (fun HT_ HW_ => ?_)
          generalize w84.drew = w85 at HO_273000 HO_273001 HO_273002 HL290_1 BK260 BK261 BK272 BK291 HB GG74 HL300_1 HQ86 HR300_1 hf74_0 hf74_1 hf74_2 hx290_0 hx290_1 hx290_2 hx300_0 hx300_1 hx300_2 hx74_0 hx74_1 hx74_2 hHeld ⊢
          refine mpu 0 57 HT_.out (mb 1 12) ?_
          refine mpu 2 59 HT_.out (mr [1,1,1,10]) ?_
          refine mpu 3 60 HT_.out (mr [1,1,2,9]) ?_
          refine mpu 5 62 HT_.out (mr [1,1,2,1,1,7]) ?_
          refine mpt 1 58 HT_.out HW_.out (mr [4,1,1,7]) hHeld ?_
          refine mpt 4 61 HT_.out HW_.out (mb 6 7) hHeld ?_
          refine mpu 6 63 HT_.out (mb 7 6) ?_
          refine mpu 7 64 HT_.out (mb 8 5) ?_
          refine mpt 8 65 HT_.out HW_.out (mb 9 4) hHeld ?_
          refine mpu 9 66 HT_.out (mb 10 3) ?_
          refine mpu 10 67 HT_.out (mb 11 2) ?_
          refine mpu 11 68 HT_.out (mb 12 1) ?_
          refine last_ (i := 12) (N := none) (mb 13 0) rfl rfl (one_of HT_.out (by kernel_rfl)) (by decide) (fun K hK => ?_)
          refine skip_ (w1 := ?_) (by rfl) rfl ?_ ?_
          rotate_left
          ·go_simp
           rfl
          refine hK.out _ _ ?_
          clear hK K
          refine done_ (done_of HT_.out (by kernel_rfl)) ?_
          try go_wp2
          go_roundg k2
          case measure => have := HJ3.out; have := HK2.out; omega
          case rel => exact ⟨(wrap64 (x6_2 + 1)), (y301), (.slice (some ⟨go74, 0, none⟩) x273000_2.length co78), mE, H', ⟨by have := HJ3.out; have := HK2.out; omega⟩, ⟨by refine mNd ?_; exact Kd.N_mono HQ86.out (fun _ hk => ⟨hk.1, ⟨hk.2.1, ⟨hk.2.2.1, ⟨hk.2.2.2.1, ⟨hk.2.2.2.2.1, hk.2.2.2.2.2.1⟩⟩⟩⟩⟩)⟩, ⟨by refine mR ?_; exact Kd.R_mono (Kd.R_far (p := ⟨go74, (x6_2 : Int).toNat * 3 + 2, none⟩) (Kd.R_types HO_273001.out GG74.out (by decide)) (fun _ hk => hk.2) (.int .i64 (((rd_T120 x273000_2 x6_2).f1).length : Int))) (fun _ hk => ⟨hk.1.1, hk.1.2⟩)⟩, ⟨by refine mR ?_; exact Kd.R_mono (Kd.R_far (p := ⟨go74, (x6_2 : Int).toNat * 3 + 2, none⟩) (Kd.R_types HO_273002.out GG74.out (by decide)) (fun _ hk => hk.2) (.int .i64 (((rd_T120 x273000_2 x6_2).f1).length : Int))) (fun _ hk => ⟨hk.1.1, hk.1.2⟩)⟩, ⟨by refine mK ?_; refine blk_far ?_ (by have h_ := Kd.N_away HO_273000.out (fun _ hk => hk.2.2.2.1); intro e_; exact h_ (by rw [e_]; rfl)) _; refine mK ?_; exact BK260.out⟩, ⟨by refine mK ?_; refine blk_far ?_ (by have h_ := Kd.N_away HO_273000.out (fun _ hk => hk.2.2.2.2.1); intro e_; exact h_ (by rw [e_]; rfl)) _; refine mK ?_; exact BK261.out⟩, ⟨by refine mK ?_; refine blk_far ?_ (by have h_ := Kd.N_away HO_273000.out (fun _ hk => hk.2.2.2.2.2.1); intro e_; exact h_ (by rw [e_]; rfl)) _; refine mK ?_; exact BK272.out⟩, ⟨mH5 HB.out GB74.out GE260.out GE261.out GE272.out GE291.out⟩⟩
        ·rw [if_neg c51] at H
         exact absurd H (by simp)
       ·rw [if_neg c50] at H
        have c50b0 := decide_eq_false c50
        clear c50
        simp only [Option.some.injEq, Prod.mk.injEq] at H
        obtain ⟨rfl, rfl, rfl, rfl⟩ := H
        have hnb87 := NB272_260.out
        have hnc87 := NB260_272.out
        have hnb88 := NB272_261.out
        have hnc88 := NB261_272.out
        obtain ⟨hcz89_0, hcz89_1, hcz89_2, hcz89_3, hfz89_0, hfz89_1, hfz89_2, hfz89_3⟩ := mZ4 BK272.out
        obtain ⟨Ao90, co90, eo90⟩ := Kd.N_slice HO_273000.out
        subst eo90
        have hnb91 := NB261_260.out
        have hnc91 := NB260_261.out
        obtain ⟨hcz92_0, hcz92_1, hcz92_2, hcz92_3, hfz92_0, hfz92_1, hfz92_2, hfz92_3⟩ := mZ4 BK261.out
        go_wp2
        refine bodyPost_ret (results_cell_row rfl _ _ gb261 63 #[.slice Ao90 x273000_2.length co90, .slice Ao48 t283.length co48, .slice Ao49 t286.length co49, .int .i64 t289] (0, 0) _ rfl (by refine mK ?_; refine blk_put (cs := #[.slice Ao90 x273000_2.length co90, .slice Ao48 t283.length co48, .slice Ao49 t286.length co49, .int .i64 0]) ?_ 3 _ rfl; refine mK ?_; refine blk_put (cs := #[.slice Ao90 x273000_2.length co90, .slice Ao48 t283.length co48, .slice none 0 0, .int .i64 0]) ?_ 2 _ rfl; refine mK ?_; refine blk_put (cs := #[.slice Ao90 x273000_2.length co90, .slice none 0 0, .slice none 0 0, .int .i64 0]) ?_ 1 _ rfl; refine mK ?_; refine blk_put (cs := #[.slice none 0 0, .slice none 0 0, .slice none 0 0, .int .i64 0]) ?_ 0 _ rfl; refine mK ?_; exact BK261.out) Try.underlying63 rfl (by kernel_rfl)) rfl ?_
        exact ⟨_, _, _, mEw, by refine mNd ?_; exact Kd.N_mono (mNf4 (Kd.N_mono HO_273000.out (fun k_ hk => (⟨hk, hk.2.2.2.2.1⟩ : _ ∧ k_ ≠ gb261)))) (fun _ hk => ⟨hk.1.1, ⟨hk.1.2.1, hk.1.2.2.1⟩⟩), by refine mR ?_; exact Kd.R_mono (mRf4 (Kd.R_types HO_273001.out BK261.out (by decide))) (fun _ hk => ⟨hk.1.1, hk.1.2⟩), by refine mR ?_; exact Kd.R_mono (mRf4 (Kd.R_types HO_273002.out BK261.out (by decide))) (fun _ hk => ⟨hk.1.1, hk.1.2⟩), (mH3 HB.out GE260.out GE261.out GE272.out)⟩
    ·rw [if_neg c33] at H
     exact absurd H (by simp)
end Go.Proofs.Ytgbejjeephipeaa.MFnExactFall
