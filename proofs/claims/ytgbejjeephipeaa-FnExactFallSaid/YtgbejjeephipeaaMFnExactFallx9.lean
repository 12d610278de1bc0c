-- Written by mp.py, our own printer (wip/mp.py), and made shorter by wip/mp_shrink*.py.
import Derived.Test.YtgbejjeephipeaaVMShort
import Derived.Test.YtgbejjeephipeaaMFnExactFallx0
import Derived.Test.YtgbejjeephipeaaMFnExactFallx5
namespace Go.Proofs.Ytgbejjeephipeaa.MFnExactFall
open Go.RowKit Go.Proofs.YtgbejjeephipeaaW.PrintWords Go.Proofs.YtgbejjeephipeaaW.PrintLast Go.Proofs.YtgbejjeephipeaaW.PrintMore Go.Proofs.Ytgbejjeephipeaa.MWords
attribute [local go_sem] max2_int min2_int max_two min_two max_three min_three max_four min_four
set_option linter.unusedVariables false
set_option linter.unusedSimpArgs false
mutual
def spec_l2Keep.l0 : Nat → List (S120) → Int → List (S120) → List (S126) → List (S126) → Int → Option ((List (S120)) × (List (S126)) × (List (S126)) × Int)
 | 0, _, _, _, _, _, _ => none
 | k + 1, x3, x4, x248000, x248001, x248002, x248003 => if x4 < (x248000.length : Int) then (if 0 ≤ x4 then ((spec_l2Named.f k x248001 ((rd_T120 x248000 x4).f0)).bind fun t253 => (if t253 = true then (spec_l2Keep.j1 k x3 x4 true x248000 x248001 x248002 x248003) else ((spec_l2Named.f k x248002 ((rd_T120 x248000 x4).f0)).bind fun t255 => (spec_l2Keep.j1 k x3 x4 t255 x248000 x248001 x248002 x248003)))) else (none)) else (some (x3, x248001, x248002, x248003))
def spec_l2Keep.j1 : Nat → List (S120) → Int → Bool → List (S120) → List (S126) → List (S126) → Int → Option ((List (S120)) × (List (S126)) × (List (S126)) × Int)
 | 0, _, _, _, _, _, _, _ => none
 | k + 1, x3, x4, x32, x248000, x248001, x248002, x248003 => if x32 = true then (if 0 ≤ x4 then (if x4 < (x248000.length : Int) then (if x3.length < 3518437208883 then (spec_l2Keep.l0 k (x3 ++ [(⟨(rd_T120 x248000 x4).f0, (rd_T120 x248000 x4).f1, (rd_T120 x248000 x4).f2⟩ : S120)]) (wrap64 (x4 + 1)) x248000 x248001 x248002 x248003) else (none)) else (none)) else (none)) else (spec_l2Keep.l0 k x3 (wrap64 (x4 + 1)) x248000 x248001 x248002 x248003)
end
def spec_l2Keep.f (k : Nat) (l0_0 : List (S120)) (l0_1 : List (S126)) (l0_2 : List (S126)) (a0_3 : Int) : Option ((List (S120)) × (List (S126)) × (List (S126)) × Int) := spec_l2Keep.l0 k (([] : List (S120))) 0 l0_0 l0_1 l0_2 a0_3
set_option maxHeartbeats 8000000 in
set_option maxRecDepth 100000 in
theorem spec_l2Keep.calls (k : Nat) (P0_0_ : Nat → Prop) (A0_0 : Option Addr) (c0_0 : Nat) (l0_0 : List (S120)) (P0_1_ : Nat → Prop) (u9000_ : Value) (l0_1 : List (S126)) (P0_2_ : Nat → Prop) (u9001_ : Value) (l0_2 : List (S126)) (a0_3 : Int) (r1 : List (S120)) (r2 : List (S126)) (r3 : List (S126)) (r4 : Int) (w0 w : World) (hB : Below w0.heap.size w0 w) (hs0_0 : Kd.V k120 120 w w0.heap.size (fun k_ => P0_0_ k_ ∧ some k_ ≠ (u9000_ : Value).ownBlock ∧ some k_ ≠ (u9001_ : Value).ownBlock) (.slice A0_0 l0_0.length c0_0) l0_0) (ho0_1 : Kd.R k126 126 w w0.heap.size P0_1_ u9000_ l0_1) (hp0_1_0_2 : ∀ k_, P0_1_ k_ → ¬ P0_2_ k_) (ho0_2 : Kd.R k126 126 w w0.heap.size P0_2_ u9001_ l0_2) (hp0_2_0_1 : ∀ k_, P0_2_ k_ → ¬ P0_1_ k_) (h : spec_l2Keep.f k l0_0 l0_1 l0_2 a0_3 = some (r1, r2, r3, r4)) :
  Calls Try.prog 109 #[.agg #[.slice A0_0 l0_0.length c0_0, u9000_, u9001_, .int .i64 a0_3]] w fun e w' => ∃ v0_ v1_ v2_ : Value, e = .returned (.agg #[v0_, v1_, v2_, .int .i64 r4]) ∧ Kd.N k120 120 w' w.heap.size (fun k_ => ((P0_1_ k_ ∨ P0_2_ k_ ∨ P0_0_ k_) ∨ w.heap.size ≤ k_) ∧ some k_ ≠ (v1_ : Value).ownBlock ∧ some k_ ≠ (v2_ : Value).ownBlock) v0_ r1 ∧ Kd.R k126 126 w' w0.heap.size (fun k_ => ((P0_1_ k_ ∨ P0_2_ k_) ∨ w.heap.size ≤ k_) ∧ some k_ ≠ (v2_ : Value).ownBlock) v1_ r2 ∧ Kd.R k126 126 w' w0.heap.size (fun k_ => ((P0_1_ k_ ∨ P0_2_ k_) ∨ w.heap.size ≤ k_) ∧ some k_ ≠ (v1_ : Value).ownBlock) v2_ r3 ∧ Below w0.heap.size w0 w' ∧ Kept w w' (fun k_ => P0_1_ k_ ∨ P0_2_ k_) := by
 have hu63 := Try.underlying63
 have hu120 := Try.underlying120
 have HO0_0 := mS (show Kd.V k120 120 w w0.heap.size (fun k_ => ((P0_1_ k_ ∨ P0_2_ k_ ∨ P0_0_ k_) ∨ w.heap.size ≤ k_) ∧ some k_ ≠ (u9000_ : Value).ownBlock ∧ some k_ ≠ (u9001_ : Value).ownBlock) (.slice A0_0 l0_0.length c0_0) l0_0 from Kd.V_mono hs0_0 (fun k_ hk => ⟨.inl (.inr (.inr hk.1)), hk.2⟩))
 have HO0_1 := mS (show Kd.R k126 126 w w0.heap.size (fun k_ => ((P0_1_ k_ ∨ P0_2_ k_) ∨ w.heap.size ≤ k_) ∧ some k_ ≠ (u9001_ : Value).ownBlock) u9000_ l0_1 from Kd.R_mono ho0_1 (fun k_ hk => ⟨(.inl (.inl hk)), fun e_ => hp0_1_0_2 k_ hk (ho0_2.1 k_ e_.symm)⟩))
 have HO0_2 := mS (show Kd.R k126 126 w w0.heap.size (fun k_ => ((P0_1_ k_ ∨ P0_2_ k_) ∨ w.heap.size ≤ k_) ∧ some k_ ≠ (u9000_ : Value).ownBlock) u9001_ l0_2 from Kd.R_mono ho0_2 (fun k_ hk => ⟨(.inl (.inr hk)), fun e_ => hp0_2_0_1 k_ hk (ho0_1.1 k_ e_.symm)⟩))
 have HK := mS (Kept.refl w (fun k_ => P0_1_ k_ ∨ P0_2_ k_))
 have HW0 := mS hB.size
 have HB := mS hB
 clear hB
 have H : (spec_l2Keep.l0 k (([] : List (S120))) 0 l0_0 l0_1 l0_2 a0_3) = some (r1, r2, r3, r4) := h
 clear h
 obtain ⟨y249, hy249⟩ : ∃ y_ : List (S120), y_ = (([] : List (S120))) := ⟨_, rfl⟩
 replace H : (spec_l2Keep.l0 k y249 0 l0_0 l0_1 l0_2 a0_3) = some (r1, r2, r3, r4) := by first | (rw [hy249]; with_reducible exact H) | (have H2_ := (Option.bind_some _ _).symm.trans H; rw [hy249]; with_reducible exact H2_) | (have H2_ := (Option.bind_some _ _).symm.trans H; with_reducible exact H2_) | with_reducible exact H | (rw [hy249]; exact H) | exact H
 have Ny249 := mS hy249
 clear hy249
 have H' := mS H
 clear H
 obtain ⟨Ao2, co2, eo2⟩ := Kd.R_slice HO0_1.out
 subst eo2
 obtain ⟨Ao3, co3, eo3⟩ := Kd.R_slice HO0_2.out
 subst eo3
 go_enter Try.func109, Try.ntmps109
 go_wp2_with (first | ((with_reducible refine gate_dst (N := 1) rfl ?_); refine mBx 1 #[.slice A0_0 l0_0.length c0_0, .slice Ao2 l0_1.length co2, .slice Ao3 l0_2.length co3, .int .i64 a0_3] 63 ?_; intro gb247 hg w4 hbox hb; replace HO0_1 := mS (Kd.R_below (mR HO0_1.out) hb); replace HO0_2 := mS (Kd.R_below (mR HO0_2.out) hb); replace HO0_0 := mS (Kd.V_below (Kd.V_elderB (mVd HO0_0.out) gb247 (Nat.le_of_eq hg.symm)) hb); have BK247 := mS (hbox); have GW247 := mS ((by rw [hg]; exact (by first | exact HK.out.1 | exact (show Kept w _ (fun k_ => P0_1_ k_ ∨ P0_2_ k_) from by repeat (first | (with_reducible first | exact HK.out | apply Kept.alloc | apply Kept.drewN | apply Kept.drew) | exact HK.out)).1) : w.heap.size ≤ gb247)); replace HK := mS (Kept.below (S := (fun k_ => P0_1_ k_ ∨ P0_2_ k_)) (mP HK.out) hb); have GE247 := mS ((by rw [hg]; exact (below_size (mH HB.out)) : w0.heap.size ≤ gb247)); replace HB := mS (below_step (mH HB.out) hb); clear hb hbox hg) | ((with_reducible refine gate_dst (N := 2) rfl ?_); refine mBx 2 #[.slice none 0 0, .slice none 0 0, .slice none 0 0, .int .i64 0] 63 ?_; intro gb248 hg w5 hbox hb; replace HO0_1 := mS (Kd.R_below (mR HO0_1.out) hb); replace HO0_2 := mS (Kd.R_below (mR HO0_2.out) hb); replace HO0_0 := mS (Kd.V_below (Kd.V_elderB (mVd HO0_0.out) gb248 (Nat.le_of_eq hg.symm)) hb); have BK248 := mS (hbox); have GW248 := mS ((by rw [hg]; exact (by first | exact HK.out.1 | exact (show Kept w _ (fun k_ => P0_1_ k_ ∨ P0_2_ k_) from mP1 HK.out GW247.out).1) : w.heap.size ≤ gb248)); replace HK := mS (Kept.below (S := (fun k_ => P0_1_ k_ ∨ P0_2_ k_)) (mP1 HK.out GW247.out) hb); have GE248 := mS ((by rw [hg]; exact (below_size (mH1 HB.out GE247.out)) : w0.heap.size ≤ gb248)); replace HB := mS (below_step (mH1 HB.out GE247.out) hb); have NB247_248 := mNl hg BK247.out; have NB248_247 := mNg hg BK247.out; replace BK247 := mB BK247 hb; clear hb hbox hg) | ((with_reducible refine gate_dst (N := 5) rfl ?_); refine Kd.N_lit k120 _ 120 ?hg (N' := 5) ?hd (xs := ([] : List (S120))) (inner := []) (ok := (fun k_ => ((P0_1_ k_ ∨ P0_2_ k_ ∨ P0_0_ k_) ∨ w.heap.size ≤ k_) ∧ some k_ ≠ (.slice Ao2 l0_1.length co2 : Value).ownBlock ∧ some k_ ≠ (.slice Ao3 l0_2.length co3 : Value).ownBlock ∧ k_ ≠ gb247 ∧ k_ ≠ gb248)) (okp := (fun k_ => ((P0_1_ k_ ∨ P0_2_ k_ ∨ P0_0_ k_) ∨ w.heap.size ≤ k_) ∧ some k_ ≠ (.slice Ao2 l0_1.length co2 : Value).ownBlock ∧ some k_ ≠ (.slice Ao3 l0_2.length co3 : Value).ownBlock ∧ k_ ≠ gb247 ∧ k_ ≠ gb248)) ?hr ?hp (fun _ hk => hk) ((show ∀ k_, w5.heap.size ≤ k_ → (fun k_ => ((P0_1_ k_ ∨ P0_2_ k_ ∨ P0_0_ k_) ∨ w.heap.size ≤ k_) ∧ some k_ ≠ (.slice Ao2 l0_1.length co2 : Value).ownBlock ∧ some k_ ≠ (.slice Ao3 l0_2.length co3 : Value).ownBlock ∧ k_ ≠ gb247 ∧ k_ ≠ gb248) k_ from fun k_ hk => ⟨(.inr (Nat.le_trans (by first | exact HK.out.1 | exact (show Kept w _ (fun k_ => P0_1_ k_ ∨ P0_2_ k_) from mP2 HK.out GW247.out GW248.out).1) hk)), Kd.fresh' (Kd.R_lt (mR HO0_1.out)) k_ hk, Kd.fresh' (Kd.R_lt (mR HO0_2.out)) k_ hk, Kd.freshB (g := gb247) (o := .cells #[.slice A0_0 l0_0.length c0_0, .slice Ao2 l0_1.length co2, .slice Ao3 l0_2.length co3, .int .i64 a0_3] 63 (0, 0)) (mK BK247.out) k_ hk, Kd.freshB (g := gb248) (o := .cells #[.slice none 0 0, .slice none 0 0, .slice none 0 0, .int .i64 0] 63 (0, 0)) (mK BK248.out) k_ hk⟩) _ (Nat.le_refl _)) (Below.refl _ _) (Nat.le_refl _) (by simp) ?_; (case hd => rfl); (case hg => rfl); (case hr => first | (go_simp; done) | (go_simp; rfl)); (case hp => exact (Reps.none _ _)); intro v250 w6 ho7 hb hg_ hnew_; clear hg_ hnew_; (first | rw [← Ny249.out] at ho7 | (simp only [Int.reduceToNat] at ho7; rw [← Ny249.out] at ho7)); replace HO0_1 := mS (Kd.R_below (mR HO0_1.out) hb); replace HO0_2 := mS (Kd.R_below (mR HO0_2.out) hb); replace HO0_0 := mS (Kd.V_elder' (mVd HO0_0.out) (Kd.N_base ho7) hb); have HO251 := mS (Kd.N_lower ho7 (by first | exact HK.out.1 | exact (show Kept w _ (fun k_ => P0_1_ k_ ∨ P0_2_ k_) from mP2 HK.out GW247.out GW248.out).1)); replace BK247 := mB BK247 hb; replace BK248 := mB BK248 hb; replace HK := mS (Kept.below (S := (fun k_ => P0_1_ k_ ∨ P0_2_ k_)) (mP2 HK.out GW247.out GW248.out) hb); replace HB := mS (below_step (mH2 HB.out GE247.out GE248.out) hb); clear hb ho7))
 repeat (go_quiet (first | ((with_reducible refine gate_dst (N := 1) rfl ?_); refine mBx 1 #[.slice A0_0 l0_0.length c0_0, .slice Ao2 l0_1.length co2, .slice Ao3 l0_2.length co3, .int .i64 a0_3] 63 ?_; intro gb247 hg w4 hbox hb; replace HO0_1 := mS (Kd.R_below (mR HO0_1.out) hb); replace HO0_2 := mS (Kd.R_below (mR HO0_2.out) hb); replace HO0_0 := mS (Kd.V_below (Kd.V_elderB (mVd HO0_0.out) gb247 (Nat.le_of_eq hg.symm)) hb); have BK247 := mS (hbox); have GW247 := mS ((by rw [hg]; exact (by first | exact HK.out.1 | exact (show Kept w _ (fun k_ => P0_1_ k_ ∨ P0_2_ k_) from by repeat (first | (with_reducible first | exact HK.out | apply Kept.alloc | apply Kept.drewN | apply Kept.drew) | exact HK.out)).1) : w.heap.size ≤ gb247)); replace HK := mS (Kept.below (S := (fun k_ => P0_1_ k_ ∨ P0_2_ k_)) (mP HK.out) hb); have GE247 := mS ((by rw [hg]; exact (below_size (mH HB.out)) : w0.heap.size ≤ gb247)); replace HB := mS (below_step (mH HB.out) hb); clear hb hbox hg) | ((with_reducible refine gate_dst (N := 2) rfl ?_); refine mBx 2 #[.slice none 0 0, .slice none 0 0, .slice none 0 0, .int .i64 0] 63 ?_; intro gb248 hg w5 hbox hb; replace HO0_1 := mS (Kd.R_below (mR HO0_1.out) hb); replace HO0_2 := mS (Kd.R_below (mR HO0_2.out) hb); replace HO0_0 := mS (Kd.V_below (Kd.V_elderB (mVd HO0_0.out) gb248 (Nat.le_of_eq hg.symm)) hb); have BK248 := mS (hbox); have GW248 := mS ((by rw [hg]; exact (by first | exact HK.out.1 | exact (show Kept w _ (fun k_ => P0_1_ k_ ∨ P0_2_ k_) from mP1 HK.out GW247.out).1) : w.heap.size ≤ gb248)); replace HK := mS (Kept.below (S := (fun k_ => P0_1_ k_ ∨ P0_2_ k_)) (mP1 HK.out GW247.out) hb); have GE248 := mS ((by rw [hg]; exact (below_size (mH1 HB.out GE247.out)) : w0.heap.size ≤ gb248)); replace HB := mS (below_step (mH1 HB.out GE247.out) hb); have NB247_248 := mNl hg BK247.out; have NB248_247 := mNg hg BK247.out; replace BK247 := mB BK247 hb; clear hb hbox hg) | ((with_reducible refine gate_dst (N := 5) rfl ?_); refine Kd.N_lit k120 _ 120 ?hg (N' := 5) ?hd (xs := ([] : List (S120))) (inner := []) (ok := (fun k_ => ((P0_1_ k_ ∨ P0_2_ k_ ∨ P0_0_ k_) ∨ w.heap.size ≤ k_) ∧ some k_ ≠ (.slice Ao2 l0_1.length co2 : Value).ownBlock ∧ some k_ ≠ (.slice Ao3 l0_2.length co3 : Value).ownBlock ∧ k_ ≠ gb247 ∧ k_ ≠ gb248)) (okp := (fun k_ => ((P0_1_ k_ ∨ P0_2_ k_ ∨ P0_0_ k_) ∨ w.heap.size ≤ k_) ∧ some k_ ≠ (.slice Ao2 l0_1.length co2 : Value).ownBlock ∧ some k_ ≠ (.slice Ao3 l0_2.length co3 : Value).ownBlock ∧ k_ ≠ gb247 ∧ k_ ≠ gb248)) ?hr ?hp (fun _ hk => hk) ((show ∀ k_, w5.heap.size ≤ k_ → (fun k_ => ((P0_1_ k_ ∨ P0_2_ k_ ∨ P0_0_ k_) ∨ w.heap.size ≤ k_) ∧ some k_ ≠ (.slice Ao2 l0_1.length co2 : Value).ownBlock ∧ some k_ ≠ (.slice Ao3 l0_2.length co3 : Value).ownBlock ∧ k_ ≠ gb247 ∧ k_ ≠ gb248) k_ from fun k_ hk => ⟨(.inr (Nat.le_trans (by first | exact HK.out.1 | exact (show Kept w _ (fun k_ => P0_1_ k_ ∨ P0_2_ k_) from mP2 HK.out GW247.out GW248.out).1) hk)), Kd.fresh' (Kd.R_lt (mR HO0_1.out)) k_ hk, Kd.fresh' (Kd.R_lt (mR HO0_2.out)) k_ hk, Kd.freshB (g := gb247) (o := .cells #[.slice A0_0 l0_0.length c0_0, .slice Ao2 l0_1.length co2, .slice Ao3 l0_2.length co3, .int .i64 a0_3] 63 (0, 0)) (mK BK247.out) k_ hk, Kd.freshB (g := gb248) (o := .cells #[.slice none 0 0, .slice none 0 0, .slice none 0 0, .int .i64 0] 63 (0, 0)) (mK BK248.out) k_ hk⟩) _ (Nat.le_refl _)) (Below.refl _ _) (Nat.le_refl _) (by simp) ?_; (case hd => rfl); (case hg => rfl); (case hr => first | (go_simp; done) | (go_simp; rfl)); (case hp => exact (Reps.none _ _)); intro v250 w6 ho7 hb hg_ hnew_; clear hg_ hnew_; (first | rw [← Ny249.out] at ho7 | (simp only [Int.reduceToNat] at ho7; rw [← Ny249.out] at ho7)); replace HO0_1 := mS (Kd.R_below (mR HO0_1.out) hb); replace HO0_2 := mS (Kd.R_below (mR HO0_2.out) hb); replace HO0_0 := mS (Kd.V_elder' (mVd HO0_0.out) (Kd.N_base ho7) hb); have HO251 := mS (Kd.N_lower ho7 (by first | exact HK.out.1 | exact (show Kept w _ (fun k_ => P0_1_ k_ ∨ P0_2_ k_) from mP2 HK.out GW247.out GW248.out).1)); replace BK247 := mB BK247 hb; replace BK248 := mB BK248 hb; replace HK := mS (Kept.below (S := (fun k_ => P0_1_ k_ ∨ P0_2_ k_)) (mP2 HK.out GW247.out GW248.out) hb); replace HB := mS (below_step (mH2 HB.out GE247.out GE248.out) hb); clear hb ho7)); try go_wp2_with (first | ((with_reducible refine gate_dst (N := 1) rfl ?_); refine mBx 1 #[.slice A0_0 l0_0.length c0_0, .slice Ao2 l0_1.length co2, .slice Ao3 l0_2.length co3, .int .i64 a0_3] 63 ?_; intro gb247 hg w4 hbox hb; replace HO0_1 := mS (Kd.R_below (mR HO0_1.out) hb); replace HO0_2 := mS (Kd.R_below (mR HO0_2.out) hb); replace HO0_0 := mS (Kd.V_below (Kd.V_elderB (mVd HO0_0.out) gb247 (Nat.le_of_eq hg.symm)) hb); have BK247 := mS (hbox); have GW247 := mS ((by rw [hg]; exact (by first | exact HK.out.1 | exact (show Kept w _ (fun k_ => P0_1_ k_ ∨ P0_2_ k_) from by repeat (first | (with_reducible first | exact HK.out | apply Kept.alloc | apply Kept.drewN | apply Kept.drew) | exact HK.out)).1) : w.heap.size ≤ gb247)); replace HK := mS (Kept.below (S := (fun k_ => P0_1_ k_ ∨ P0_2_ k_)) (mP HK.out) hb); have GE247 := mS ((by rw [hg]; exact (below_size (mH HB.out)) : w0.heap.size ≤ gb247)); replace HB := mS (below_step (mH HB.out) hb); clear hb hbox hg) | ((with_reducible refine gate_dst (N := 2) rfl ?_); refine mBx 2 #[.slice none 0 0, .slice none 0 0, .slice none 0 0, .int .i64 0] 63 ?_; intro gb248 hg w5 hbox hb; replace HO0_1 := mS (Kd.R_below (mR HO0_1.out) hb); replace HO0_2 := mS (Kd.R_below (mR HO0_2.out) hb); replace HO0_0 := mS (Kd.V_below (Kd.V_elderB (mVd HO0_0.out) gb248 (Nat.le_of_eq hg.symm)) hb); have BK248 := mS (hbox); have GW248 := mS ((by rw [hg]; exact (by first | exact HK.out.1 | exact (show Kept w _ (fun k_ => P0_1_ k_ ∨ P0_2_ k_) from mP1 HK.out GW247.out).1) : w.heap.size ≤ gb248)); replace HK := mS (Kept.below (S := (fun k_ => P0_1_ k_ ∨ P0_2_ k_)) (mP1 HK.out GW247.out) hb); have GE248 := mS ((by rw [hg]; exact (below_size (mH1 HB.out GE247.out)) : w0.heap.size ≤ gb248)); replace HB := mS (below_step (mH1 HB.out GE247.out) hb); have NB247_248 := mNl hg BK247.out; have NB248_247 := mNg hg BK247.out; replace BK247 := mB BK247 hb; clear hb hbox hg) | ((with_reducible refine gate_dst (N := 5) rfl ?_); refine Kd.N_lit k120 _ 120 ?hg (N' := 5) ?hd (xs := ([] : List (S120))) (inner := []) (ok := (fun k_ => ((P0_1_ k_ ∨ P0_2_ k_ ∨ P0_0_ k_) ∨ w.heap.size ≤ k_) ∧ some k_ ≠ (.slice Ao2 l0_1.length co2 : Value).ownBlock ∧ some k_ ≠ (.slice Ao3 l0_2.length co3 : Value).ownBlock ∧ k_ ≠ gb247 ∧ k_ ≠ gb248)) (okp := (fun k_ => ((P0_1_ k_ ∨ P0_2_ k_ ∨ P0_0_ k_) ∨ w.heap.size ≤ k_) ∧ some k_ ≠ (.slice Ao2 l0_1.length co2 : Value).ownBlock ∧ some k_ ≠ (.slice Ao3 l0_2.length co3 : Value).ownBlock ∧ k_ ≠ gb247 ∧ k_ ≠ gb248)) ?hr ?hp (fun _ hk => hk) ((show ∀ k_, w5.heap.size ≤ k_ → (fun k_ => ((P0_1_ k_ ∨ P0_2_ k_ ∨ P0_0_ k_) ∨ w.heap.size ≤ k_) ∧ some k_ ≠ (.slice Ao2 l0_1.length co2 : Value).ownBlock ∧ some k_ ≠ (.slice Ao3 l0_2.length co3 : Value).ownBlock ∧ k_ ≠ gb247 ∧ k_ ≠ gb248) k_ from fun k_ hk => ⟨(.inr (Nat.le_trans (by first | exact HK.out.1 | exact (show Kept w _ (fun k_ => P0_1_ k_ ∨ P0_2_ k_) from mP2 HK.out GW247.out GW248.out).1) hk)), Kd.fresh' (Kd.R_lt (mR HO0_1.out)) k_ hk, Kd.fresh' (Kd.R_lt (mR HO0_2.out)) k_ hk, Kd.freshB (g := gb247) (o := .cells #[.slice A0_0 l0_0.length c0_0, .slice Ao2 l0_1.length co2, .slice Ao3 l0_2.length co3, .int .i64 a0_3] 63 (0, 0)) (mK BK247.out) k_ hk, Kd.freshB (g := gb248) (o := .cells #[.slice none 0 0, .slice none 0 0, .slice none 0 0, .int .i64 0] 63 (0, 0)) (mK BK248.out) k_ hk⟩) _ (Nat.le_refl _)) (Below.refl _ _) (Nat.le_refl _) (by simp) ?_; (case hd => rfl); (case hg => rfl); (case hr => first | (go_simp; done) | (go_simp; rfl)); (case hp => exact (Reps.none _ _)); intro v250 w6 ho7 hb hg_ hnew_; clear hg_ hnew_; (first | rw [← Ny249.out] at ho7 | (simp only [Int.reduceToNat] at ho7; rw [← Ny249.out] at ho7)); replace HO0_1 := mS (Kd.R_below (mR HO0_1.out) hb); replace HO0_2 := mS (Kd.R_below (mR HO0_2.out) hb); replace HO0_0 := mS (Kd.V_elder' (mVd HO0_0.out) (Kd.N_base ho7) hb); have HO251 := mS (Kd.N_lower ho7 (by first | exact HK.out.1 | exact (show Kept w _ (fun k_ => P0_1_ k_ ∨ P0_2_ k_) from mP2 HK.out GW247.out GW248.out).1)); replace BK247 := mB BK247 hb; replace BK248 := mB BK248 hb; replace HK := mS (Kept.below (S := (fun k_ => P0_1_ k_ ∨ P0_2_ k_)) (mP2 HK.out GW247.out GW248.out) hb); replace HB := mS (below_step (mH2 HB.out GE247.out GE248.out) hb); clear hb ho7)))
 go_loopg [3, 4] k (fun kq v3 v4 w' => ∃ (x3_1 : List (S120)) (x4_1 : Int), v4 = .int .i64 x4_1 ∧ Aside0 (spec_l2Keep.l0 kq x3_1 x4_1 l0_0 l0_1 l0_2 a0_3 = some (r1, r2, r3, r4)) ∧ Aside0 (kq ≤ k) ∧ Aside0 (Kd.N k120 120 w' w.heap.size (fun k_ => ((P0_1_ k_ ∨ P0_2_ k_ ∨ P0_0_ k_) ∨ w.heap.size ≤ k_) ∧ some k_ ≠ ((.slice Ao2 l0_1.length co2) : Value).ownBlock ∧ some k_ ≠ ((.slice Ao3 l0_2.length co3) : Value).ownBlock ∧ k_ ≠ gb247 ∧ k_ ≠ gb248) v3 x3_1) ∧ Aside0 (Kd.V k120 120 w' w0.heap.size (fun k_ => ((P0_1_ k_ ∨ P0_2_ k_ ∨ P0_0_ k_) ∨ w.heap.size ≤ k_) ∧ some k_ ≠ (v3 : Value).ownBlock ∧ some k_ ≠ ((.slice Ao2 l0_1.length co2) : Value).ownBlock ∧ some k_ ≠ ((.slice Ao3 l0_2.length co3) : Value).ownBlock ∧ k_ ≠ gb247 ∧ k_ ≠ gb248) (.slice A0_0 l0_0.length c0_0) l0_0) ∧ Aside0 (Kd.R k126 126 w' w0.heap.size (fun k_ => ((P0_1_ k_ ∨ P0_2_ k_) ∨ w.heap.size ≤ k_) ∧ some k_ ≠ ((.slice Ao3 l0_2.length co3) : Value).ownBlock) (.slice Ao2 l0_1.length co2) l0_1) ∧ Aside0 (Kd.R k126 126 w' w0.heap.size (fun k_ => ((P0_1_ k_ ∨ P0_2_ k_) ∨ w.heap.size ≤ k_) ∧ some k_ ≠ ((.slice Ao2 l0_1.length co2) : Value).ownBlock) (.slice Ao3 l0_2.length co3) l0_2) ∧ Aside0 (w'.heap[gb247]? = some (.cells #[(.slice A0_0 l0_0.length c0_0), (.slice Ao2 l0_1.length co2), (.slice Ao3 l0_2.length co3), .int .i64 a0_3] 63 (0, 0))) ∧ Aside0 (w'.heap[gb248]? = some (.cells #[(.slice none 0 0), (.slice none 0 0), (.slice none 0 0), .int .i64 0] 63 (0, 0))) ∧ Aside0 (Kept w w' (fun k_ => P0_1_ k_ ∨ P0_2_ k_)) ∧ Aside0 (Below w0.heap.size w0 w'))
 case atStart => exact ⟨(y249), (0), mE, H', ⟨Nat.le_refl _⟩, ⟨mNd HO251.out⟩, ⟨by refine mVd ?_; exact Kd.V_mono HO0_0.out (fun _ hk => ⟨hk.1.1.1.1, ⟨hk.2, ⟨hk.1.1.1.2.1, ⟨hk.1.1.1.2.2, ⟨hk.1.1.2, hk.1.2⟩⟩⟩⟩⟩)⟩, ⟨mR HO0_1.out⟩, ⟨mR HO0_2.out⟩, ⟨mK BK247.out⟩, ⟨mK BK248.out⟩, ⟨mP2 HK.out GW247.out GW248.out⟩, ⟨(mH2 HB.out GE247.out GE248.out)⟩⟩
 case round =>
  clear H'
  try clear c1
  try clear p2
  obtain ⟨x3_1, x4_1, rfl, HA, HK1, HO_3, HO_248000, HO_248001, HO_248002, BK247, BK248, HK, HB⟩ := hrel
  cases gk with
  | zero => exact absurd HA.out (by simp [spec_l2Keep.l0])
  | succ k1 =>
   have H := HA.out
   clear HA
   simp only [spec_l2Keep.l0] at H
   by_cases c8 : x4_1 < (l0_0.length : Int)
   ·rw [if_pos c8] at H
    have c8b0 := decide_eq_true c8
    clear c8
    have HC9 := mS H
    clear H
    have hnb10 := NB247_248.out
    have hnc10 := NB248_247.out
    obtain ⟨hcz11_0, hcz11_1, hcz11_2, hcz11_3, hfz11_0, hfz11_1, hfz11_2, hfz11_3⟩ := mZ4 BK247.out
    go_upto_region 5 with (fail)
    repeat (go_quiet (fail); go_upto_region 5 with (fail))
    go_cut [32] (fun v32 wc => ∃ (kq : Nat) (x32_8 : Bool), v32 = .bool x32_8 ∧ Aside0 (spec_l2Keep.j1 kq x3_1 x4_1 x32_8 l0_0 l0_1 l0_2 a0_3 = some (r1, r2, r3, r4)) ∧ Aside0 (kq ≤ k1) ∧ Aside0 (Kd.N k120 120 wc w.heap.size (fun k_ => ((P0_1_ k_ ∨ P0_2_ k_ ∨ P0_0_ k_) ∨ w.heap.size ≤ k_) ∧ some k_ ≠ ((.slice Ao2 l0_1.length co2) : Value).ownBlock ∧ some k_ ≠ ((.slice Ao3 l0_2.length co3) : Value).ownBlock ∧ k_ ≠ gb247 ∧ k_ ≠ gb248) u3 x3_1) ∧ Aside0 (Kd.V k120 120 wc w0.heap.size (fun k_ => ((P0_1_ k_ ∨ P0_2_ k_ ∨ P0_0_ k_) ∨ w.heap.size ≤ k_) ∧ some k_ ≠ (u3 : Value).ownBlock ∧ some k_ ≠ ((.slice Ao2 l0_1.length co2) : Value).ownBlock ∧ some k_ ≠ ((.slice Ao3 l0_2.length co3) : Value).ownBlock ∧ k_ ≠ gb247 ∧ k_ ≠ gb248) (.slice A0_0 l0_0.length c0_0) l0_0) ∧ Aside0 (Kd.R k126 126 wc w0.heap.size (fun k_ => ((P0_1_ k_ ∨ P0_2_ k_) ∨ w.heap.size ≤ k_) ∧ some k_ ≠ ((.slice Ao3 l0_2.length co3) : Value).ownBlock) (.slice Ao2 l0_1.length co2) l0_1) ∧ Aside0 (Kd.R k126 126 wc w0.heap.size (fun k_ => ((P0_1_ k_ ∨ P0_2_ k_) ∨ w.heap.size ≤ k_) ∧ some k_ ≠ ((.slice Ao2 l0_1.length co2) : Value).ownBlock) (.slice Ao3 l0_2.length co3) l0_2) ∧ Aside0 (wc.heap[gb247]? = some (.cells #[(.slice A0_0 l0_0.length c0_0), (.slice Ao2 l0_1.length co2), (.slice Ao3 l0_2.length co3), .int .i64 a0_3] 63 (0, 0))) ∧ Aside0 (wc.heap[gb248]? = some (.cells #[(.slice none 0 0), (.slice none 0 0), (.slice none 0 0), .int .i64 0] 63 (0, 0))) ∧ Aside0 (Kept w wc (fun k_ => P0_1_ k_ ∨ P0_2_ k_)) ∧ Aside0 (Below w0.heap.size w0 wc))
    case first =>
     have H := HC9.out
     clear HC9
     by_cases c12 : 0 ≤ x4_1
     ·rw [if_pos c12] at H
      have c12b0 := decide_eq_true c12
      clear c12
      (first | rw [c12b0] | (simp only [i64_w, i32_w]; rw [c12b0]) | skip)
      replace H := Option.bind_eq_some_iff.mp H
      obtain ⟨t253, A130, H⟩ := H
      replace H : (if t253 = true then (spec_l2Keep.j1 k1 x3_1 x4_1 true l0_0 l0_1 l0_2 a0_3) else ((spec_l2Named.f k1 l0_2 ((rd_T120 l0_0 x4_1).f0)).bind fun t255 => (spec_l2Keep.j1 k1 x3_1 x4_1 t255 l0_0 l0_1 l0_2 a0_3))) = some (r1, r2, r3, r4) := H
      have A13 := mS A130
      clear A130
      by_cases c14 : t253 = true
      ·subst c14
       have H1 := H
       rw [if_pos rfl] at H1
       clear H
       have H := H1
       clear H1
       have H' := mS H
       clear H
       have hnb15 := NB247_248.out
       have hnc15 := NB248_247.out
       obtain ⟨hcz16_0, hcz16_1, hcz16_2, hcz16_3, hfz16_0, hfz16_1, hfz16_2, hfz16_3⟩ := mZ4 BK247.out
       have p252 : 0 ≤ (x4_1 : Int) := mD
       have q252 : x4_1 < (l0_0.length : Int) := mD
       obtain ⟨ad252, A252_1, c252_1, e252, hx252_0, hx252_1, hx252_2, hl252_1, hi252_1⟩ := at_T120 (Kd.V_reads' HO_248000.out).2.2 x4_1 p252 q252
       cases e252
       obtain ⟨ce252, hce252, hMe252, hcc252⟩ := Kd.V_get HO_248000.out z120 x4_1 p252 (by first | exact q252 | exact mD | (have e_ := (Kd.V_reads' HO_248000.out).1; omega))
       obtain ⟨ua252_1, uc252_1, rfl, ul252_1, ge252_1⟩ := k120_openF hMe252
       have hv252_1 := hcc252 1 _ rfl
       rw [add_field _ _ 1 (by omega)] at hv252_1
       replace hv252_1 := Option.some.inj (hv252_1.symm.trans hx252_1)
       injection hv252_1 with hva_ hvn_ hvc_
       rw [hva_] at ge252_1
       rw [hvc_] at ul252_1
       have HL252_1 := mS (show Kd.V (Kd.int .u8) 5 _ w0.heap.size _ _ ((rd_T120 l0_0 x4_1).f1) from Kd.V_mk ul252_1 ge252_1)
       clear hva_ hvn_ hvc_ ge252_1 ul252_1
       clear hcc252 hce252
       have HR252_1 := mS hi252_1
       have HC252_1 := mS hl252_1
       clear hi252_1 hl252_1
       replace p252 := eq_true p252
       replace q252 := eq_true q252
       go_wp2_with (first | (go_at_call 94; (with_reducible refine (spec_l2Named.calls k1 _ _ l0_1 ((rd_T120 l0_0 x4_1).f0) true _ ?side1 ?side2 A13.out).mono ?_); (case side1 => exact mC (Kd.R_reads' HO_248001.out).2.2); (case side2 => exact (Kd.R_reads' HO_248001.out).2.1); rintro e w' ⟨rfl, ⟨nd, rfl⟩⟩; (try first | exact ⟨rfl, _, World.drewN_drewN _ _ _⟩ | exact ⟨rfl, _, Eq.trans (World.drewN_drewN _ _ _) (congrArg (World.drewN _) (Nat.add_assoc _ _ _))⟩)))
       repeat (go_quiet (first | (go_at_call 94; (with_reducible refine (spec_l2Named.calls k1 _ _ l0_1 ((rd_T120 l0_0 x4_1).f0) true _ ?side1 ?side2 A13.out).mono ?_); (case side1 => exact mC (Kd.R_reads' HO_248001.out).2.2); (case side2 => exact (Kd.R_reads' HO_248001.out).2.1); rintro e w' ⟨rfl, ⟨nd, rfl⟩⟩; (try first | exact ⟨rfl, _, World.drewN_drewN _ _ _⟩ | exact ⟨rfl, _, Eq.trans (World.drewN_drewN _ _ _) (congrArg (World.drewN _) (Nat.add_assoc _ _ _))⟩))); try go_wp2_with (first | (go_at_call 94; (with_reducible refine (spec_l2Named.calls k1 _ _ l0_1 ((rd_T120 l0_0 x4_1).f0) true _ ?side1 ?side2 A13.out).mono ?_); (case side1 => exact mC (Kd.R_reads' HO_248001.out).2.2); (case side2 => exact (Kd.R_reads' HO_248001.out).2.1); rintro e w' ⟨rfl, ⟨nd, rfl⟩⟩; (try first | exact ⟨rfl, _, World.drewN_drewN _ _ _⟩ | exact ⟨rfl, _, Eq.trans (World.drewN_drewN _ _ _) (congrArg (World.drewN _) (Nat.add_assoc _ _ _))⟩))))
       go_meet
       case rel => exact ⟨_, (true), mE, H', ⟨by have := HK1.out; first | omega | exact Nat.le_refl _⟩, ⟨mNd HO_3.out⟩, ⟨mVd HO_248000.out⟩, ⟨mR HO_248001.out⟩, ⟨mR HO_248002.out⟩, ⟨mK BK247.out⟩, ⟨mK BK248.out⟩, ⟨mP2 HK.out GW247.out GW248.out⟩, ⟨(mH2 HB.out GE247.out GE248.out)⟩⟩
      ·replace c14 := Bool.eq_false_iff.mpr c14
       subst c14
       have H1 := H
       rw [if_neg (show ¬ (false = true) by decide)] at H1
       clear H
       have H := H1
       clear H1
       replace H := Option.bind_eq_some_iff.mp H
       obtain ⟨t255, A170, H⟩ := H
       replace H : (spec_l2Keep.j1 k1 x3_1 x4_1 t255 l0_0 l0_1 l0_2 a0_3) = some (r1, r2, r3, r4) := H
       have A17 := mS A170
       clear A170
       have H' := mS H
       clear H
       have hnb18 := NB247_248.out
       have hnc18 := NB248_247.out
       obtain ⟨hcz19_0, hcz19_1, hcz19_2, hcz19_3, hfz19_0, hfz19_1, hfz19_2, hfz19_3⟩ := mZ4 BK247.out
       have p252 : 0 ≤ (x4_1 : Int) := mD
       have q252 : x4_1 < (l0_0.length : Int) := mD
       obtain ⟨ad252, A252_1, c252_1, e252, hx252_0, hx252_1, hx252_2, hl252_1, hi252_1⟩ := at_T120 (Kd.V_reads' HO_248000.out).2.2 x4_1 p252 q252
       cases e252
       obtain ⟨ce252, hce252, hMe252, hcc252⟩ := Kd.V_get HO_248000.out z120 x4_1 p252 (by first | exact q252 | exact mD | (have e_ := (Kd.V_reads' HO_248000.out).1; omega))
       obtain ⟨ua252_1, uc252_1, rfl, ul252_1, ge252_1⟩ := k120_openF hMe252
       have hv252_1 := hcc252 1 _ rfl
       rw [add_field _ _ 1 (by omega)] at hv252_1
       replace hv252_1 := Option.some.inj (hv252_1.symm.trans hx252_1)
       injection hv252_1 with hva_ hvn_ hvc_
       rw [hva_] at ge252_1
       rw [hvc_] at ul252_1
       have HL252_1 := mS (show Kd.V (Kd.int .u8) 5 _ w0.heap.size _ _ ((rd_T120 l0_0 x4_1).f1) from Kd.V_mk ul252_1 ge252_1)
       clear hva_ hvn_ hvc_ ge252_1 ul252_1
       clear hcc252 hce252
       have HR252_1 := mS hi252_1
       have HC252_1 := mS hl252_1
       clear hi252_1 hl252_1
       replace p252 := eq_true p252
       replace q252 := eq_true q252
       go_wp2_with (first | (go_at_call 94; (with_reducible refine (spec_l2Named.calls k1 _ _ l0_1 ((rd_T120 l0_0 x4_1).f0) false _ ?side1 ?side2 A13.out).mono ?_); (case side1 => exact mC (Kd.R_reads' HO_248001.out).2.2); (case side2 => exact (Kd.R_reads' HO_248001.out).2.1); rintro e w' ⟨rfl, ⟨nd, rfl⟩⟩; (try first | exact ⟨rfl, _, World.drewN_drewN _ _ _⟩ | exact ⟨rfl, _, Eq.trans (World.drewN_drewN _ _ _) (congrArg (World.drewN _) (Nat.add_assoc _ _ _))⟩); have p254 : 0 ≤ (x4_1 : Int) := mD; have q254 : x4_1 < (l0_0.length : Int) := mD; obtain ⟨ad254, A254_1, c254_1, e254, hx254_0, hx254_1, hx254_2, hl254_1, hi254_1⟩ := at_T120 (Kd.V_reads' HO_248000.out).2.2 x4_1 p254 q254; obtain rfl : ad252 = ad254 := (by injection e254); obtain ⟨ce254, hce254, hMe254, hcc254⟩ := Kd.V_get HO_248000.out z120 x4_1 p254 (by first | exact q254 | exact mD | (have e_ := (Kd.V_reads' HO_248000.out).1; omega)); obtain ⟨ua254_1, uc254_1, rfl, ul254_1, ge254_1⟩ := k120_openF hMe254; have hv254_1 := hcc254 1 _ rfl; rw [add_field _ _ 1 (by omega)] at hv254_1; replace hv254_1 := Option.some.inj (hv254_1.symm.trans hx254_1); injection hv254_1 with hva_ hvn_ hvc_; rw [hva_] at ge254_1; rw [hvc_] at ul254_1; have HL254_1 := mS (show Kd.V (Kd.int .u8) 5 _ w0.heap.size _ _ ((rd_T120 l0_0 x4_1).f1) from Kd.V_mk ul254_1 ge254_1); clear hva_ hvn_ hvc_ ge254_1 ul254_1; clear hcc254 hce254; have HR254_1 := mS hi254_1; have HC254_1 := mS hl254_1; clear hi254_1 hl254_1; replace p254 := eq_true p254; replace q254 := eq_true q254; have ea_ := Option.some.inj (hx252_1.symm.trans hx254_1); injection ea_ with ea_ en_ ec_; subst ea_; subst ec_; clear en_) | (go_at_call 94; (with_reducible refine (spec_l2Named.calls k1 _ _ l0_2 ((rd_T120 l0_0 x4_1).f0) t255 _ ?side1 ?side2 A17.out).mono ?_); (case side1 => exact mC (Kd.R_reads' HO_248002.out).2.2); (case side2 => exact (Kd.R_reads' HO_248002.out).2.1); rintro e w' ⟨rfl, ⟨nd, rfl⟩⟩; (try first | exact ⟨rfl, _, World.drewN_drewN _ _ _⟩ | exact ⟨rfl, _, Eq.trans (World.drewN_drewN _ _ _) (congrArg (World.drewN _) (Nat.add_assoc _ _ _))⟩)))
       repeat (go_quiet (first | (go_at_call 94; (with_reducible refine (spec_l2Named.calls k1 _ _ l0_1 ((rd_T120 l0_0 x4_1).f0) false _ ?side1 ?side2 A13.out).mono ?_); (case side1 => exact mC (Kd.R_reads' HO_248001.out).2.2); (case side2 => exact (Kd.R_reads' HO_248001.out).2.1); rintro e w' ⟨rfl, ⟨nd, rfl⟩⟩; (try first | exact ⟨rfl, _, World.drewN_drewN _ _ _⟩ | exact ⟨rfl, _, Eq.trans (World.drewN_drewN _ _ _) (congrArg (World.drewN _) (Nat.add_assoc _ _ _))⟩); have p254 : 0 ≤ (x4_1 : Int) := mD; have q254 : x4_1 < (l0_0.length : Int) := mD; obtain ⟨ad254, A254_1, c254_1, e254, hx254_0, hx254_1, hx254_2, hl254_1, hi254_1⟩ := at_T120 (Kd.V_reads' HO_248000.out).2.2 x4_1 p254 q254; obtain rfl : ad252 = ad254 := (by injection e254); obtain ⟨ce254, hce254, hMe254, hcc254⟩ := Kd.V_get HO_248000.out z120 x4_1 p254 (by first | exact q254 | exact mD | (have e_ := (Kd.V_reads' HO_248000.out).1; omega)); obtain ⟨ua254_1, uc254_1, rfl, ul254_1, ge254_1⟩ := k120_openF hMe254; have hv254_1 := hcc254 1 _ rfl; rw [add_field _ _ 1 (by omega)] at hv254_1; replace hv254_1 := Option.some.inj (hv254_1.symm.trans hx254_1); injection hv254_1 with hva_ hvn_ hvc_; rw [hva_] at ge254_1; rw [hvc_] at ul254_1; have HL254_1 := mS (show Kd.V (Kd.int .u8) 5 _ w0.heap.size _ _ ((rd_T120 l0_0 x4_1).f1) from Kd.V_mk ul254_1 ge254_1); clear hva_ hvn_ hvc_ ge254_1 ul254_1; clear hcc254 hce254; have HR254_1 := mS hi254_1; have HC254_1 := mS hl254_1; clear hi254_1 hl254_1; replace p254 := eq_true p254; replace q254 := eq_true q254; have ea_ := Option.some.inj (hx252_1.symm.trans hx254_1); injection ea_ with ea_ en_ ec_; subst ea_; subst ec_; clear en_) | (go_at_call 94; (with_reducible refine (spec_l2Named.calls k1 _ _ l0_2 ((rd_T120 l0_0 x4_1).f0) t255 _ ?side1 ?side2 A17.out).mono ?_); (case side1 => exact mC (Kd.R_reads' HO_248002.out).2.2); (case side2 => exact (Kd.R_reads' HO_248002.out).2.1); rintro e w' ⟨rfl, ⟨nd, rfl⟩⟩; (try first | exact ⟨rfl, _, World.drewN_drewN _ _ _⟩ | exact ⟨rfl, _, Eq.trans (World.drewN_drewN _ _ _) (congrArg (World.drewN _) (Nat.add_assoc _ _ _))⟩))); try go_wp2_with (first | (go_at_call 94; (with_reducible refine (spec_l2Named.calls k1 _ _ l0_1 ((rd_T120 l0_0 x4_1).f0) false _ ?side1 ?side2 A13.out).mono ?_); (case side1 => exact mC (Kd.R_reads' HO_248001.out).2.2); (case side2 => exact (Kd.R_reads' HO_248001.out).2.1); rintro e w' ⟨rfl, ⟨nd, rfl⟩⟩; (try first | exact ⟨rfl, _, World.drewN_drewN _ _ _⟩ | exact ⟨rfl, _, Eq.trans (World.drewN_drewN _ _ _) (congrArg (World.drewN _) (Nat.add_assoc _ _ _))⟩); have p254 : 0 ≤ (x4_1 : Int) := mD; have q254 : x4_1 < (l0_0.length : Int) := mD; obtain ⟨ad254, A254_1, c254_1, e254, hx254_0, hx254_1, hx254_2, hl254_1, hi254_1⟩ := at_T120 (Kd.V_reads' HO_248000.out).2.2 x4_1 p254 q254; obtain rfl : ad252 = ad254 := (by injection e254); obtain ⟨ce254, hce254, hMe254, hcc254⟩ := Kd.V_get HO_248000.out z120 x4_1 p254 (by first | exact q254 | exact mD | (have e_ := (Kd.V_reads' HO_248000.out).1; omega)); obtain ⟨ua254_1, uc254_1, rfl, ul254_1, ge254_1⟩ := k120_openF hMe254; have hv254_1 := hcc254 1 _ rfl; rw [add_field _ _ 1 (by omega)] at hv254_1; replace hv254_1 := Option.some.inj (hv254_1.symm.trans hx254_1); injection hv254_1 with hva_ hvn_ hvc_; rw [hva_] at ge254_1; rw [hvc_] at ul254_1; have HL254_1 := mS (show Kd.V (Kd.int .u8) 5 _ w0.heap.size _ _ ((rd_T120 l0_0 x4_1).f1) from Kd.V_mk ul254_1 ge254_1); clear hva_ hvn_ hvc_ ge254_1 ul254_1; clear hcc254 hce254; have HR254_1 := mS hi254_1; have HC254_1 := mS hl254_1; clear hi254_1 hl254_1; replace p254 := eq_true p254; replace q254 := eq_true q254; have ea_ := Option.some.inj (hx252_1.symm.trans hx254_1); injection ea_ with ea_ en_ ec_; subst ea_; subst ec_; clear en_) | (go_at_call 94; (with_reducible refine (spec_l2Named.calls k1 _ _ l0_2 ((rd_T120 l0_0 x4_1).f0) t255 _ ?side1 ?side2 A17.out).mono ?_); (case side1 => exact mC (Kd.R_reads' HO_248002.out).2.2); (case side2 => exact (Kd.R_reads' HO_248002.out).2.1); rintro e w' ⟨rfl, ⟨nd, rfl⟩⟩; (try first | exact ⟨rfl, _, World.drewN_drewN _ _ _⟩ | exact ⟨rfl, _, Eq.trans (World.drewN_drewN _ _ _) (congrArg (World.drewN _) (Nat.add_assoc _ _ _))⟩))))
       go_meet
       case rel => exact ⟨_, (t255), mE, H', ⟨by have := HK1.out; first | omega | exact Nat.le_refl _⟩, ⟨mNd HO_3.out⟩, ⟨mVd HO_248000.out⟩, ⟨mR HO_248001.out⟩, ⟨mR HO_248002.out⟩, ⟨mK BK247.out⟩, ⟨mK BK248.out⟩, ⟨mP2 HK.out GW247.out GW248.out⟩, ⟨(mH2 HB.out GE247.out GE248.out)⟩⟩
     ·rw [if_neg c12] at H
      exact absurd H (by simp)
    case rest =>
     clear HC9
     try clear c1
     try clear c2
     try clear p2
     try clear q2
     try clear hx2
     try clear c8
     try clear c8b0
     try clear c10
     try clear c12
     try clear c12b0
     try clear c14
     try clear c15
     try clear c18
     try clear hcz11_0
     try clear hcz11_1
     try clear hcz11_2
     try clear hcz11_3
     try clear hcz16_0
     try clear hcz16_1
     try clear hcz16_2
     try clear hcz16_3
     try clear hcz19_0
     try clear hcz19_1
     try clear hcz19_2
     try clear hcz19_3
     try clear hfz11_0
     try clear hfz11_1
     try clear hfz11_2
     try clear hfz11_3
     try clear hfz16_0
     try clear hfz16_1
     try clear hfz16_2
     try clear hfz16_3
     try clear hfz19_0
     try clear hfz19_1
     try clear hfz19_2
     try clear hfz19_3
     try clear hx252_0
     try clear hx252_1
     try clear hx252_2
     try clear hx254_0
     try clear hx254_1
     try clear hx254_2
     try clear p2
     try clear p252
     try clear p254
     try clear q252
     try clear q254
     obtain ⟨kq, x32_8, rfl, HA, HJ8, HO_3, HO_248000, HO_248001, HO_248002, BK247, BK248, HK, HB⟩ := hcut
     cases kq with
     | zero => exact absurd HA.out (by simp [spec_l2Keep.j1])
     | succ kj8 =>
      have H := HA.out
      clear HA
      simp only [spec_l2Keep.j1] at H
      by_cases c20 : x32_8 = true
      ·subst c20
       have H1 := H
       rw [if_pos rfl] at H1
       clear H
       have H := H1
       clear H1
       by_cases c21 : 0 ≤ x4_1
       ·rw [if_pos c21] at H
        have c21b0 := decide_eq_true c21
        clear c21
        by_cases c22 : x4_1 < (l0_0.length : Int)
        ·rw [if_pos c22] at H
         have c22b0 := decide_eq_true c22
         clear c22
         by_cases c23 : x3_1.length < 3518437208883
         ·rw [if_pos c23] at H
          have LMc23 := mS c23
          clear c23
          obtain ⟨y257, hy257⟩ : ∃ y_ : List (S120), y_ = (x3_1 ++ [(⟨(rd_T120 l0_0 x4_1).f0, (rd_T120 l0_0 x4_1).f1, (rd_T120 l0_0 x4_1).f2⟩ : S120)]) := ⟨_, rfl⟩
          replace H : (spec_l2Keep.l0 kj8 y257 (wrap64 (x4_1 + 1)) l0_0 l0_1 l0_2 a0_3) = some (r1, r2, r3, r4) := by first | (rw [hy257]; with_reducible exact H) | (have H2_ := (Option.bind_some _ _).symm.trans H; rw [hy257]; with_reducible exact H2_) | (have H2_ := (Option.bind_some _ _).symm.trans H; with_reducible exact H2_) | with_reducible exact H | (rw [hy257]; exact H) | exact H
          have Ny257 := mS hy257
          clear hy257
          have H' := mS H
          clear H
          have hnb24 := NB247_248.out
          have hnc24 := NB248_247.out
          obtain ⟨hcz25_0, hcz25_1, hcz25_2, hcz25_3, hfz25_0, hfz25_1, hfz25_2, hfz25_3⟩ := mZ4 BK247.out
          have p256 : 0 ≤ (x4_1 : Int) := mD
          have q256 : x4_1 < (l0_0.length : Int) := mD
          obtain ⟨ad256, A256_1, c256_1, e256, hx256_0, hx256_1, hx256_2, hl256_1, hi256_1⟩ := at_T120 (Kd.V_reads' HO_248000.out).2.2 x4_1 p256 q256
          cases e256
          obtain ⟨ce256, hce256, hMe256, hcc256⟩ := Kd.V_get HO_248000.out z120 x4_1 p256 (by first | exact q256 | exact mD | (have e_ := (Kd.V_reads' HO_248000.out).1; omega))
          obtain ⟨ua256_1, uc256_1, rfl, ul256_1, ge256_1⟩ := k120_openF hMe256
          have hv256_1 := hcc256 1 _ rfl
          rw [add_field _ _ 1 (by omega)] at hv256_1
          replace hv256_1 := Option.some.inj (hv256_1.symm.trans hx256_1)
          injection hv256_1 with hva_ hvn_ hvc_
          rw [hva_] at ge256_1
          rw [hvc_] at ul256_1
          have HL256_1 := mS (show Kd.V (Kd.int .u8) 5 _ w0.heap.size _ _ ((rd_T120 l0_0 x4_1).f1) from Kd.V_mk ul256_1 ge256_1)
          clear hva_ hvn_ hvc_ ge256_1 ul256_1
          clear hcc256 hce256
          have HR256_1 := mS hi256_1
          have HC256_1 := mS hl256_1
          clear hi256_1 hl256_1
          replace p256 := eq_true p256
          replace q256 := eq_true q256
          go_wp2_with (first | ((with_reducible refine gate_builtin (b := .append) (xs := #[.tmp 33, .tmp 39]) rfl ?_); at_builtin; refine Kd.N_append k120 w.heap.size rfl (.tmp 33) (.tmp 39) 60 120 (.agg #[(.int .i64 0), (.slice none 0 0), (.int .i64 0)]) 40 rfl Try.underlying60 info120 rfl (by decide) (by omega) u3 x3_1 (⟨(rd_T120 l0_0 x4_1).f0, (rd_T120 l0_0 x4_1).f1, (rd_T120 l0_0 x4_1).f2⟩ : S120) [.int .i64 ((rd_T120 l0_0 x4_1).f0), .slice A256_1 ((rd_T120 l0_0 x4_1).f1).length c256_1, .int .i64 ((rd_T120 l0_0 x4_1).f2)] (fun k_ => ((P0_1_ k_ ∨ P0_2_ k_ ∨ P0_0_ k_) ∨ w.heap.size ≤ k_) ∧ some k_ ≠ (.slice Ao2 l0_1.length co2 : Value).ownBlock ∧ some k_ ≠ (.slice Ao3 l0_2.length co3 : Value).ownBlock ∧ k_ ≠ gb247 ∧ k_ ≠ gb248) (fun k_ => ((fun k_ => ((P0_1_ k_ ∨ P0_2_ k_ ∨ P0_0_ k_) ∨ w.heap.size ≤ k_) ∧ some k_ ≠ (.slice Ao2 l0_1.length co2 : Value).ownBlock ∧ some k_ ≠ (.slice Ao3 l0_2.length co3 : Value).ownBlock ∧ k_ ≠ gb247 ∧ k_ ≠ gb248)) k_ ∧ some k_ ≠ (u3 : Value).ownBlock) rfl rfl ?aP (fun _ hk => hk) ?aF ?aO (Below.refl _ _) ?aS ?aL ?_; (case aP => exact (k120_mkF _ _ (⟨(rd_T120 l0_0 x4_1).f0, (rd_T120 l0_0 x4_1).f1, (rd_T120 l0_0 x4_1).f2⟩ : S120) (Kd.V_reads' (Kd.V_mono (ok' := (fun k_ => ((fun k_ => ((P0_1_ k_ ∨ P0_2_ k_ ∨ P0_0_ k_) ∨ w.heap.size ≤ k_) ∧ some k_ ≠ (.slice Ao2 l0_1.length co2 : Value).ownBlock ∧ some k_ ≠ (.slice Ao3 l0_2.length co3 : Value).ownBlock ∧ k_ ≠ gb247 ∧ k_ ≠ gb248)) k_ ∧ some k_ ≠ (u3 : Value).ownBlock)) (HL256_1.out) (fun k_ hk => ⟨⟨hk.1, ⟨hk.2.2.1, ⟨hk.2.2.2.1, ⟨hk.2.2.2.2.1, hk.2.2.2.2.2⟩⟩⟩⟩, hk.2.1⟩))).2.1 (Kd.V_F (Kd.V_mono (ok' := (fun k_ => ((fun k_ => ((P0_1_ k_ ∨ P0_2_ k_ ∨ P0_0_ k_) ∨ w.heap.size ≤ k_) ∧ some k_ ≠ (.slice Ao2 l0_1.length co2 : Value).ownBlock ∧ some k_ ≠ (.slice Ao3 l0_2.length co3 : Value).ownBlock ∧ k_ ≠ gb247 ∧ k_ ≠ gb248)) k_ ∧ some k_ ≠ (u3 : Value).ownBlock)) (HL256_1.out) (fun k_ hk => ⟨⟨hk.1, ⟨hk.2.2.1, ⟨hk.2.2.2.1, ⟨hk.2.2.2.2.1, hk.2.2.2.2.2⟩⟩⟩⟩, hk.2.1⟩))))); (case aF => exact (fun k_ hk => ⟨(.inr (Nat.le_trans (by first | exact HK.out.1 | exact (show Kept w _ (fun k_ => P0_1_ k_ ∨ P0_2_ k_) from mP2 HK.out GW247.out GW248.out).1) hk)), Kd.fresh' (Kd.R_lt (mR HO_248001.out)) k_ hk, Kd.fresh' (Kd.R_lt (mR HO_248002.out)) k_ hk, Kd.freshB (g := gb247) (o := .cells #[.slice (some ad256) l0_0.length c0_0, .slice Ao2 l0_1.length co2, .slice Ao3 l0_2.length co3, .int .i64 a0_3] 63 (0, 0)) (mK BK247.out) k_ hk, Kd.freshB (g := gb248) (o := .cells #[.slice none 0 0, .slice none 0 0, .slice none 0 0, .int .i64 0] 63 (0, 0)) (mK BK248.out) k_ hk⟩)); (case aO => exact (mNd HO_3.out)); (case aS => exact (by first | exact HK.out.1 | exact (show Kept w _ (fun k_ => P0_1_ k_ ∨ P0_2_ k_) from mP2 HK.out GW247.out GW248.out).1)); (case aL => have := LMc23.out; omega); intro v258 w26 ho hb hg hat; rw [← Ny257.out] at ho; replace HO_248000 := mS (Kd.V_afterv (ok := (fun k_ => ((P0_1_ k_ ∨ P0_2_ k_ ∨ P0_0_ k_) ∨ w.heap.size ≤ k_) ∧ some k_ ≠ (.slice Ao2 l0_1.length co2 : Value).ownBlock ∧ some k_ ≠ (.slice Ao3 l0_2.length co3 : Value).ownBlock ∧ k_ ≠ gb247 ∧ k_ ≠ gb248)) (by refine mVd ?_; exact Kd.V_mono HO_248000.out (fun _ hk => ⟨⟨hk.1, ⟨hk.2.2.1, ⟨hk.2.2.2.1, ⟨hk.2.2.2.2.1, hk.2.2.2.2.2⟩⟩⟩⟩, hk.2.1⟩)) hg hat); replace HO_248001 := mS (Kd.R_over' (mR HO_248001.out) (Kd.N_typed (mNd HO_3.out)) (by decide) hg); replace HO_248002 := mS (Kd.R_over' (mR HO_248002.out) (Kd.N_typed (mNd HO_3.out)) (by decide) hg); replace BK247 := mS (blk_grown (g := gb247) (o := .cells #[.slice (some ad256) l0_0.length c0_0, .slice Ao2 l0_1.length co2, .slice Ao3 l0_2.length co3, .int .i64 a0_3] 63 (0, 0)) (mK BK247.out) hg (Kd.N_ne HO_3.out BK247.out (by decide))); replace BK248 := mS (blk_grown (g := gb248) (o := .cells #[.slice none 0 0, .slice none 0 0, .slice none 0 0, .int .i64 0] 63 (0, 0)) (mK BK248.out) hg (Kd.N_ne HO_3.out BK248.out (by decide))); replace HL256_1 := mS (Kd.V_afterv (ok := (fun k_ => ((P0_1_ k_ ∨ P0_2_ k_ ∨ P0_0_ k_) ∨ w.heap.size ≤ k_) ∧ some k_ ≠ (.slice Ao2 l0_1.length co2 : Value).ownBlock ∧ some k_ ≠ (.slice Ao3 l0_2.length co3 : Value).ownBlock ∧ k_ ≠ gb247 ∧ k_ ≠ gb248)) (by refine mVd ?_; exact Kd.V_mono HL256_1.out (fun _ hk => ⟨⟨hk.1, ⟨hk.2.2.1, ⟨hk.2.2.2.1, ⟨hk.2.2.2.2.1, hk.2.2.2.2.2⟩⟩⟩⟩, hk.2.1⟩)) hg hat); replace HB := mS (below_weaken (mH2 HB.out GE247.out GE248.out) HW0.out hb); replace HK := mS (Kept.of_grown (S := (fun k_ => P0_1_ k_ ∨ P0_2_ k_)) hg (mP2 HK.out GW247.out GW248.out) (fun k_ e_ => .inr (Kd.N_base HO_3.out k_ e_))); have HO259 := mS (ho); clear HO_3; clear ho hb hg hat))
          repeat (go_quiet (first | ((with_reducible refine gate_builtin (b := .append) (xs := #[.tmp 33, .tmp 39]) rfl ?_); at_builtin; refine Kd.N_append k120 w.heap.size rfl (.tmp 33) (.tmp 39) 60 120 (.agg #[(.int .i64 0), (.slice none 0 0), (.int .i64 0)]) 40 rfl Try.underlying60 info120 rfl (by decide) (by omega) u3 x3_1 (⟨(rd_T120 l0_0 x4_1).f0, (rd_T120 l0_0 x4_1).f1, (rd_T120 l0_0 x4_1).f2⟩ : S120) [.int .i64 ((rd_T120 l0_0 x4_1).f0), .slice A256_1 ((rd_T120 l0_0 x4_1).f1).length c256_1, .int .i64 ((rd_T120 l0_0 x4_1).f2)] (fun k_ => ((P0_1_ k_ ∨ P0_2_ k_ ∨ P0_0_ k_) ∨ w.heap.size ≤ k_) ∧ some k_ ≠ (.slice Ao2 l0_1.length co2 : Value).ownBlock ∧ some k_ ≠ (.slice Ao3 l0_2.length co3 : Value).ownBlock ∧ k_ ≠ gb247 ∧ k_ ≠ gb248) (fun k_ => ((fun k_ => ((P0_1_ k_ ∨ P0_2_ k_ ∨ P0_0_ k_) ∨ w.heap.size ≤ k_) ∧ some k_ ≠ (.slice Ao2 l0_1.length co2 : Value).ownBlock ∧ some k_ ≠ (.slice Ao3 l0_2.length co3 : Value).ownBlock ∧ k_ ≠ gb247 ∧ k_ ≠ gb248)) k_ ∧ some k_ ≠ (u3 : Value).ownBlock) rfl rfl ?aP (fun _ hk => hk) ?aF ?aO (Below.refl _ _) ?aS ?aL ?_; (case aP => exact (k120_mkF _ _ (⟨(rd_T120 l0_0 x4_1).f0, (rd_T120 l0_0 x4_1).f1, (rd_T120 l0_0 x4_1).f2⟩ : S120) (Kd.V_reads' (Kd.V_mono (ok' := (fun k_ => ((fun k_ => ((P0_1_ k_ ∨ P0_2_ k_ ∨ P0_0_ k_) ∨ w.heap.size ≤ k_) ∧ some k_ ≠ (.slice Ao2 l0_1.length co2 : Value).ownBlock ∧ some k_ ≠ (.slice Ao3 l0_2.length co3 : Value).ownBlock ∧ k_ ≠ gb247 ∧ k_ ≠ gb248)) k_ ∧ some k_ ≠ (u3 : Value).ownBlock)) (HL256_1.out) (fun k_ hk => ⟨⟨hk.1, ⟨hk.2.2.1, ⟨hk.2.2.2.1, ⟨hk.2.2.2.2.1, hk.2.2.2.2.2⟩⟩⟩⟩, hk.2.1⟩))).2.1 (Kd.V_F (Kd.V_mono (ok' := (fun k_ => ((fun k_ => ((P0_1_ k_ ∨ P0_2_ k_ ∨ P0_0_ k_) ∨ w.heap.size ≤ k_) ∧ some k_ ≠ (.slice Ao2 l0_1.length co2 : Value).ownBlock ∧ some k_ ≠ (.slice Ao3 l0_2.length co3 : Value).ownBlock ∧ k_ ≠ gb247 ∧ k_ ≠ gb248)) k_ ∧ some k_ ≠ (u3 : Value).ownBlock)) (HL256_1.out) (fun k_ hk => ⟨⟨hk.1, ⟨hk.2.2.1, ⟨hk.2.2.2.1, ⟨hk.2.2.2.2.1, hk.2.2.2.2.2⟩⟩⟩⟩, hk.2.1⟩))))); (case aF => exact (fun k_ hk => ⟨(.inr (Nat.le_trans (by first | exact HK.out.1 | exact (show Kept w _ (fun k_ => P0_1_ k_ ∨ P0_2_ k_) from mP2 HK.out GW247.out GW248.out).1) hk)), Kd.fresh' (Kd.R_lt (mR HO_248001.out)) k_ hk, Kd.fresh' (Kd.R_lt (mR HO_248002.out)) k_ hk, Kd.freshB (g := gb247) (o := .cells #[.slice (some ad256) l0_0.length c0_0, .slice Ao2 l0_1.length co2, .slice Ao3 l0_2.length co3, .int .i64 a0_3] 63 (0, 0)) (mK BK247.out) k_ hk, Kd.freshB (g := gb248) (o := .cells #[.slice none 0 0, .slice none 0 0, .slice none 0 0, .int .i64 0] 63 (0, 0)) (mK BK248.out) k_ hk⟩)); (case aO => exact (mNd HO_3.out)); (case aS => exact (by first | exact HK.out.1 | exact (show Kept w _ (fun k_ => P0_1_ k_ ∨ P0_2_ k_) from mP2 HK.out GW247.out GW248.out).1)); (case aL => have := LMc23.out; omega); intro v258 w26 ho hb hg hat; rw [← Ny257.out] at ho; replace HO_248000 := mS (Kd.V_afterv (ok := (fun k_ => ((P0_1_ k_ ∨ P0_2_ k_ ∨ P0_0_ k_) ∨ w.heap.size ≤ k_) ∧ some k_ ≠ (.slice Ao2 l0_1.length co2 : Value).ownBlock ∧ some k_ ≠ (.slice Ao3 l0_2.length co3 : Value).ownBlock ∧ k_ ≠ gb247 ∧ k_ ≠ gb248)) (by refine mVd ?_; exact Kd.V_mono HO_248000.out (fun _ hk => ⟨⟨hk.1, ⟨hk.2.2.1, ⟨hk.2.2.2.1, ⟨hk.2.2.2.2.1, hk.2.2.2.2.2⟩⟩⟩⟩, hk.2.1⟩)) hg hat); replace HO_248001 := mS (Kd.R_over' (mR HO_248001.out) (Kd.N_typed (mNd HO_3.out)) (by decide) hg); replace HO_248002 := mS (Kd.R_over' (mR HO_248002.out) (Kd.N_typed (mNd HO_3.out)) (by decide) hg); replace BK247 := mS (blk_grown (g := gb247) (o := .cells #[.slice (some ad256) l0_0.length c0_0, .slice Ao2 l0_1.length co2, .slice Ao3 l0_2.length co3, .int .i64 a0_3] 63 (0, 0)) (mK BK247.out) hg (Kd.N_ne HO_3.out BK247.out (by decide))); replace BK248 := mS (blk_grown (g := gb248) (o := .cells #[.slice none 0 0, .slice none 0 0, .slice none 0 0, .int .i64 0] 63 (0, 0)) (mK BK248.out) hg (Kd.N_ne HO_3.out BK248.out (by decide))); replace HL256_1 := mS (Kd.V_afterv (ok := (fun k_ => ((P0_1_ k_ ∨ P0_2_ k_ ∨ P0_0_ k_) ∨ w.heap.size ≤ k_) ∧ some k_ ≠ (.slice Ao2 l0_1.length co2 : Value).ownBlock ∧ some k_ ≠ (.slice Ao3 l0_2.length co3 : Value).ownBlock ∧ k_ ≠ gb247 ∧ k_ ≠ gb248)) (by refine mVd ?_; exact Kd.V_mono HL256_1.out (fun _ hk => ⟨⟨hk.1, ⟨hk.2.2.1, ⟨hk.2.2.2.1, ⟨hk.2.2.2.2.1, hk.2.2.2.2.2⟩⟩⟩⟩, hk.2.1⟩)) hg hat); replace HB := mS (below_weaken (mH2 HB.out GE247.out GE248.out) HW0.out hb); replace HK := mS (Kept.of_grown (S := (fun k_ => P0_1_ k_ ∨ P0_2_ k_)) hg (mP2 HK.out GW247.out GW248.out) (fun k_ e_ => .inr (Kd.N_base HO_3.out k_ e_))); have HO259 := mS (ho); clear HO_3; clear ho hb hg hat)); try go_wp2_with (first | ((with_reducible refine gate_builtin (b := .append) (xs := #[.tmp 33, .tmp 39]) rfl ?_); at_builtin; refine Kd.N_append k120 w.heap.size rfl (.tmp 33) (.tmp 39) 60 120 (.agg #[(.int .i64 0), (.slice none 0 0), (.int .i64 0)]) 40 rfl Try.underlying60 info120 rfl (by decide) (by omega) u3 x3_1 (⟨(rd_T120 l0_0 x4_1).f0, (rd_T120 l0_0 x4_1).f1, (rd_T120 l0_0 x4_1).f2⟩ : S120) [.int .i64 ((rd_T120 l0_0 x4_1).f0), .slice A256_1 ((rd_T120 l0_0 x4_1).f1).length c256_1, .int .i64 ((rd_T120 l0_0 x4_1).f2)] (fun k_ => ((P0_1_ k_ ∨ P0_2_ k_ ∨ P0_0_ k_) ∨ w.heap.size ≤ k_) ∧ some k_ ≠ (.slice Ao2 l0_1.length co2 : Value).ownBlock ∧ some k_ ≠ (.slice Ao3 l0_2.length co3 : Value).ownBlock ∧ k_ ≠ gb247 ∧ k_ ≠ gb248) (fun k_ => ((fun k_ => ((P0_1_ k_ ∨ P0_2_ k_ ∨ P0_0_ k_) ∨ w.heap.size ≤ k_) ∧ some k_ ≠ (.slice Ao2 l0_1.length co2 : Value).ownBlock ∧ some k_ ≠ (.slice Ao3 l0_2.length co3 : Value).ownBlock ∧ k_ ≠ gb247 ∧ k_ ≠ gb248)) k_ ∧ some k_ ≠ (u3 : Value).ownBlock) rfl rfl ?aP (fun _ hk => hk) ?aF ?aO (Below.refl _ _) ?aS ?aL ?_; (case aP => exact (k120_mkF _ _ (⟨(rd_T120 l0_0 x4_1).f0, (rd_T120 l0_0 x4_1).f1, (rd_T120 l0_0 x4_1).f2⟩ : S120) (Kd.V_reads' (Kd.V_mono (ok' := (fun k_ => ((fun k_ => ((P0_1_ k_ ∨ P0_2_ k_ ∨ P0_0_ k_) ∨ w.heap.size ≤ k_) ∧ some k_ ≠ (.slice Ao2 l0_1.length co2 : Value).ownBlock ∧ some k_ ≠ (.slice Ao3 l0_2.length co3 : Value).ownBlock ∧ k_ ≠ gb247 ∧ k_ ≠ gb248)) k_ ∧ some k_ ≠ (u3 : Value).ownBlock)) (HL256_1.out) (fun k_ hk => ⟨⟨hk.1, ⟨hk.2.2.1, ⟨hk.2.2.2.1, ⟨hk.2.2.2.2.1, hk.2.2.2.2.2⟩⟩⟩⟩, hk.2.1⟩))).2.1 (Kd.V_F (Kd.V_mono (ok' := (fun k_ => ((fun k_ => ((P0_1_ k_ ∨ P0_2_ k_ ∨ P0_0_ k_) ∨ w.heap.size ≤ k_) ∧ some k_ ≠ (.slice Ao2 l0_1.length co2 : Value).ownBlock ∧ some k_ ≠ (.slice Ao3 l0_2.length co3 : Value).ownBlock ∧ k_ ≠ gb247 ∧ k_ ≠ gb248)) k_ ∧ some k_ ≠ (u3 : Value).ownBlock)) (HL256_1.out) (fun k_ hk => ⟨⟨hk.1, ⟨hk.2.2.1, ⟨hk.2.2.2.1, ⟨hk.2.2.2.2.1, hk.2.2.2.2.2⟩⟩⟩⟩, hk.2.1⟩))))); (case aF => exact (fun k_ hk => ⟨(.inr (Nat.le_trans (by first | exact HK.out.1 | exact (show Kept w _ (fun k_ => P0_1_ k_ ∨ P0_2_ k_) from mP2 HK.out GW247.out GW248.out).1) hk)), Kd.fresh' (Kd.R_lt (mR HO_248001.out)) k_ hk, Kd.fresh' (Kd.R_lt (mR HO_248002.out)) k_ hk, Kd.freshB (g := gb247) (o := .cells #[.slice (some ad256) l0_0.length c0_0, .slice Ao2 l0_1.length co2, .slice Ao3 l0_2.length co3, .int .i64 a0_3] 63 (0, 0)) (mK BK247.out) k_ hk, Kd.freshB (g := gb248) (o := .cells #[.slice none 0 0, .slice none 0 0, .slice none 0 0, .int .i64 0] 63 (0, 0)) (mK BK248.out) k_ hk⟩)); (case aO => exact (mNd HO_3.out)); (case aS => exact (by first | exact HK.out.1 | exact (show Kept w _ (fun k_ => P0_1_ k_ ∨ P0_2_ k_) from mP2 HK.out GW247.out GW248.out).1)); (case aL => have := LMc23.out; omega); intro v258 w26 ho hb hg hat; rw [← Ny257.out] at ho; replace HO_248000 := mS (Kd.V_afterv (ok := (fun k_ => ((P0_1_ k_ ∨ P0_2_ k_ ∨ P0_0_ k_) ∨ w.heap.size ≤ k_) ∧ some k_ ≠ (.slice Ao2 l0_1.length co2 : Value).ownBlock ∧ some k_ ≠ (.slice Ao3 l0_2.length co3 : Value).ownBlock ∧ k_ ≠ gb247 ∧ k_ ≠ gb248)) (by refine mVd ?_; exact Kd.V_mono HO_248000.out (fun _ hk => ⟨⟨hk.1, ⟨hk.2.2.1, ⟨hk.2.2.2.1, ⟨hk.2.2.2.2.1, hk.2.2.2.2.2⟩⟩⟩⟩, hk.2.1⟩)) hg hat); replace HO_248001 := mS (Kd.R_over' (mR HO_248001.out) (Kd.N_typed (mNd HO_3.out)) (by decide) hg); replace HO_248002 := mS (Kd.R_over' (mR HO_248002.out) (Kd.N_typed (mNd HO_3.out)) (by decide) hg); replace BK247 := mS (blk_grown (g := gb247) (o := .cells #[.slice (some ad256) l0_0.length c0_0, .slice Ao2 l0_1.length co2, .slice Ao3 l0_2.length co3, .int .i64 a0_3] 63 (0, 0)) (mK BK247.out) hg (Kd.N_ne HO_3.out BK247.out (by decide))); replace BK248 := mS (blk_grown (g := gb248) (o := .cells #[.slice none 0 0, .slice none 0 0, .slice none 0 0, .int .i64 0] 63 (0, 0)) (mK BK248.out) hg (Kd.N_ne HO_3.out BK248.out (by decide))); replace HL256_1 := mS (Kd.V_afterv (ok := (fun k_ => ((P0_1_ k_ ∨ P0_2_ k_ ∨ P0_0_ k_) ∨ w.heap.size ≤ k_) ∧ some k_ ≠ (.slice Ao2 l0_1.length co2 : Value).ownBlock ∧ some k_ ≠ (.slice Ao3 l0_2.length co3 : Value).ownBlock ∧ k_ ≠ gb247 ∧ k_ ≠ gb248)) (by refine mVd ?_; exact Kd.V_mono HL256_1.out (fun _ hk => ⟨⟨hk.1, ⟨hk.2.2.1, ⟨hk.2.2.2.1, ⟨hk.2.2.2.2.1, hk.2.2.2.2.2⟩⟩⟩⟩, hk.2.1⟩)) hg hat); replace HB := mS (below_weaken (mH2 HB.out GE247.out GE248.out) HW0.out hb); replace HK := mS (Kept.of_grown (S := (fun k_ => P0_1_ k_ ∨ P0_2_ k_)) hg (mP2 HK.out GW247.out GW248.out) (fun k_ e_ => .inr (Kd.N_base HO_3.out k_ e_))); have HO259 := mS (ho); clear HO_3; clear ho hb hg hat)))
          go_roundg kj8
          case measure => have := HK1.out; have := HJ8.out; omega
          case rel => exact ⟨(y257), (wrap64 (x4_1 + 1)), mE, H', ⟨by have := HK1.out; have := HJ8.out; omega⟩, ⟨mNd HO259.out⟩, ⟨by refine mVd ?_; exact Kd.V_mono HO_248000.out (fun _ hk => ⟨hk.1.1, ⟨hk.2, ⟨hk.1.2.1, ⟨hk.1.2.2.1, ⟨hk.1.2.2.2.1, hk.1.2.2.2.2⟩⟩⟩⟩⟩)⟩, ⟨mR HO_248001.out⟩, ⟨mR HO_248002.out⟩, ⟨mK BK247.out⟩, ⟨mK BK248.out⟩, ⟨mP2 HK.out GW247.out GW248.out⟩, ⟨(mH2 HB.out GE247.out GE248.out)⟩⟩
         ·rw [if_neg c23] at H
          exact absurd H (by simp)
        ·rw [if_neg c22] at H
         exact absurd H (by simp)
       ·rw [if_neg c21] at H
        exact absurd H (by simp)
      ·replace c20 := Bool.eq_false_iff.mpr c20
       subst c20
       have H1 := H
       rw [if_neg (show ¬ (false = true) by decide)] at H1
       clear H
       have H := H1
       clear H1
       have H' := mS H
       clear H
       go_wp2
       repeat (go_quiet (fail); try go_wp2)
       go_roundg kj8
       case measure => have := HK1.out; have := HJ8.out; omega
       case rel => exact ⟨(x3_1), (wrap64 (x4_1 + 1)), mE, H', ⟨by have := HK1.out; have := HJ8.out; omega⟩, ⟨mNd HO_3.out⟩, ⟨mVd HO_248000.out⟩, ⟨mR HO_248001.out⟩, ⟨mR HO_248002.out⟩, ⟨mK BK247.out⟩, ⟨mK BK248.out⟩, ⟨mP2 HK.out GW247.out GW248.out⟩, ⟨(mH2 HB.out GE247.out GE248.out)⟩⟩
   ·rw [if_neg c8] at H
    have c8b0 := decide_eq_false c8
    clear c8
    simp only [Option.some.injEq, Prod.mk.injEq] at H
    obtain ⟨rfl, rfl, rfl, rfl⟩ := H
    have hnb27 := NB247_248.out
    have hnc27 := NB248_247.out
    obtain ⟨hcz28_0, hcz28_1, hcz28_2, hcz28_3, hfz28_0, hfz28_1, hfz28_2, hfz28_3⟩ := mZ4 BK247.out
    obtain ⟨Ao29, co29, eo29⟩ := Kd.N_slice HO_3.out
    subst eo29
    obtain ⟨hcz30_0, hcz30_1, hcz30_2, hcz30_3, hfz30_0, hfz30_1, hfz30_2, hfz30_3⟩ := mZ4 BK248.out
    go_wp2
    repeat (go_quiet (fail); try go_wp2)
    refine bodyPost_ret (results_cell_row rfl _ _ gb248 63 #[.slice Ao29 x3_1.length co29, .slice Ao2 l0_1.length co2, .slice Ao3 l0_2.length co3, .int .i64 a0_3] (0, 0) _ rfl (by refine mK ?_; refine blk_put (cs := #[.slice Ao29 x3_1.length co29, .slice Ao2 l0_1.length co2, .slice Ao3 l0_2.length co3, .int .i64 0]) ?_ 3 _ rfl; refine mK ?_; refine blk_put (cs := #[.slice Ao29 x3_1.length co29, .slice Ao2 l0_1.length co2, .slice none 0 0, .int .i64 0]) ?_ 2 _ rfl; refine mK ?_; refine blk_put (cs := #[.slice Ao29 x3_1.length co29, .slice none 0 0, .slice none 0 0, .int .i64 0]) ?_ 1 _ rfl; refine mK ?_; refine blk_put (cs := #[.slice none 0 0, .slice none 0 0, .slice none 0 0, .int .i64 0]) ?_ 0 _ rfl; exact mKf NB248_247.out BK248.out) Try.underlying63 rfl (by kernel_rfl)) rfl ?_
    exact ⟨_, _, _, mEw, by refine mNd ?_; exact Kd.N_mono (mNf4 (Kd.N_far (p := ⟨gb247, 0, none⟩) (Kd.N_mono (Kd.N_mono HO_3.out (fun k_ hk => (⟨hk, hk.2.2.2.1⟩ : _ ∧ k_ ≠ gb247))) (fun k_ hk => (⟨hk, hk.1.2.2.2.2⟩ : _ ∧ k_ ≠ gb248))) (fun _ hk => hk.1.2) (.slice Ao29 x3_1.length co29))) (fun _ hk => ⟨hk.1.1.1, ⟨hk.1.1.2.1, hk.1.1.2.2.1⟩⟩), by refine mR ?_; exact Kd.R_mono (mRf4 (Kd.R_far (p := ⟨gb247, 0, none⟩) (Kd.R_types (Kd.R_types HO_248001.out BK247.out (by decide)) BK248.out (by decide)) (fun _ hk => hk.1.2) (.slice Ao29 x3_1.length co29))) (fun _ hk => ⟨hk.1.1.1, hk.1.1.2⟩), by refine mR ?_; exact Kd.R_mono (mRf4 (Kd.R_far (p := ⟨gb247, 0, none⟩) (Kd.R_types (Kd.R_types HO_248002.out BK247.out (by decide)) BK248.out (by decide)) (fun _ hk => hk.1.2) (.slice Ao29 x3_1.length co29))) (fun _ hk => ⟨hk.1.1.1, hk.1.1.2⟩), (mH2 HB.out GE247.out GE248.out), mP2 HK.out GW247.out GW248.out⟩
end Go.Proofs.Ytgbejjeephipeaa.MFnExactFall
