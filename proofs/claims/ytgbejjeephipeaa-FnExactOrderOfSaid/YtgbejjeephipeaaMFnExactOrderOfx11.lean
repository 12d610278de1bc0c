-- Written by mp.py, this session's own printer (wip/mp.py).
import Derived.Test.YtgbejjeephipeaaVMShort
import Derived.Test.YtgbejjeephipeaaMFnExactOrderOfx0
import Derived.Test.YtgbejjeephipeaaMFnExactOrderOfx1
import Derived.Test.YtgbejjeephipeaaMFnExactOrderOfx10
namespace Go.Proofs.Ytgbejjeephipeaa.MFnExactOrderOf
open Go.RowKit Go.Proofs.YtgbejjeephipeaaW.PrintWords Go.Proofs.YtgbejjeephipeaaW.PrintLast Go.Proofs.YtgbejjeephipeaaW.PrintMore Go.Proofs.Ytgbejjeephipeaa.MWords
attribute [local go_sem] max2_int min2_int max_two min_two max_three min_three max_four min_four   -- for this text's walks alone
set_option linter.unusedVariables false
set_option linter.unusedSimpArgs false

attribute [local go_sem high] eqA31
/-! ### laws_eqGraph: function 24 -/
def laws_eqGraph.f (k : Nat) (l0_0 : List (S33)) (l1_0 : List (S33)) : Option (Bool) := (laws_eqItemS.f k l0_0 l1_0).bind fun t281 => (if t281 = true then (some true) else (some false))
theorem laws_eqGraph.mono : ∀ a0 a1 k, LeO (laws_eqGraph.f k a0 a1) (laws_eqGraph.f (k + 1) a0 a1) := by
 intro a0 a1 k
 unfold laws_eqGraph.f
 repeat' first
   | (with_reducible exact laws_eqItemS.mono _ _ _)
   | (with_reducible exact LeO.refl _)
   | (with_reducible exact LeO.none _)
   | (with_reducible refine LeO.ite ?_ ?_)
   | (with_reducible refine LeO.bind ?_ (fun _ => ?_))
   | exact laws_eqItemS.mono _ _ _
   | exact LeO.none _
   | refine LeO.ite ?_ ?_
   | refine LeO.bind ?_ (fun _ => ?_)
set_option maxHeartbeats 8000000 in
set_option maxRecDepth 100000 in
theorem laws_eqGraph.calls (k : Nat) (A0_0 : Option Addr) (c0_0 : Nat) (l0_0 : List (S33)) (A1_0 : Option Addr) (c1_0 : Nat) (l1_0 : List (S33)) (r : Bool) (w : World) (hr0_0 : Kd.C k33 w A0_0 l0_0.length l0_0) (hc0_0 : l0_0.length ≤ c0_0) (hr1_0 : Kd.C k33 w A1_0 l1_0.length l1_0) (hc1_0 : l1_0.length ≤ c1_0) (h : laws_eqGraph.f k l0_0 l1_0 = some r) :
  Calls Try.prog 24 #[.agg #[.slice A0_0 l0_0.length c0_0], .agg #[.slice A1_0 l1_0.length c1_0]] w fun e w' => e = .returned (.bool r) ∧ Below w.heap.size w w' := by
 have hu26 := Try.underlying26
 have HR0_0 := mS hr0_0
 have HC0_0 := mS hc0_0
 clear hr0_0 hc0_0
 have HR1_0 := mS hr1_0
 have HC1_0 := mS hc1_0
 clear hr1_0 hc1_0
 have HB := mS (Below.refl w.heap.size w)
 have H : ((laws_eqItemS.f k l0_0 l1_0).bind fun t281 => (if t281 = true then (some true) else (some false))) = some r := h
 clear h
 replace H := Option.bind_eq_some_iff.mp H
 obtain ⟨t281, A30, H⟩ := H
 replace H : (if t281 = true then (some true) else (some false)) = some r := H
 have A3 := mS A30
 clear A30
 by_cases c4 : t281 = true
 ·subst c4
  have H1 := H
  rw [if_pos rfl] at H1
  clear H
  have H := H1
  clear H1
  obtain rfl := Option.some.inj H
  go_enter Try.func24, Try.ntmps24
  go_wp2_with (first | ((with_reducible refine gate_dst (N := 2) rfl ?_); refine mBx 2 #[.slice A0_0 l0_0.length c0_0] 26 ?_; intro gb279 hg w5 hbox hb; have BK279 := mS (hbox); have GW279 := mG hg (mH HB.out); have GE279 := mG hg (mH HB.out); replace HB := mS (below_step (mH HB.out) hb); clear hb hbox hg) | ((with_reducible refine gate_dst (N := 3) rfl ?_); refine mBx 3 #[.slice A1_0 l1_0.length c1_0] 26 ?_; intro gb280 hg w6 hbox hb; have BK280 := mS (hbox); have GW280 := mG hg (mH1 HB.out GE279.out); have GE280 := mG hg (mH1 HB.out GE279.out); replace HB := mS (below_step (mH1 HB.out GE279.out) hb); have NB279_280 := mNl hg BK279.out; have NB280_279 := mNg hg BK279.out; replace BK279 := mB BK279 hb; clear hb hbox hg; have hnb7 := NB279_280.out; have hnc7 := NB280_279.out; have hcz8_0 := mZ BK279.out 0; have hfz8_0 := blk_frozen BK279.out 0; have hcz9_0 := mZ BK280.out 0; have hfz9_0 := blk_frozen BK280.out 0) | ((with_reducible refine gate_callee (f := 77) rfl ?_); refine mGo 9 Try.func77 #[.slice A0_0 l0_0.length c0_0, .slice A1_0 l1_0.length c1_0] ?_; (with_reducible refine (laws_eqItemS.calls k _ _ l0_0 _ _ l1_0 true _ ?side1 ?side2 ?side3 ?side4 A3.out).mono ?_); (case side1 => exact mC (Kd.C_below HR0_0.out HB.out)); (case side2 => exact HC0_0.out); (case side3 => exact mC (Kd.C_below HR1_0.out HB.out)); (case side4 => exact HC1_0.out); rintro e w10 ⟨rfl, hb⟩; refine ⟨_, rfl, ?_⟩; replace BK279 := mB BK279 hb; replace BK280 := mB BK280 hb; replace HB := mS (below_step (mH2 HB.out GE279.out GE280.out) hb); (try clear hb)))
  go_ret
  exact ⟨mEw, (mH2 HB.out GE279.out GE280.out)⟩
 ·replace c4 := Bool.eq_false_iff.mpr c4
  subst c4
  have H1 := H
  rw [if_neg (show ¬ (false = true) by decide)] at H1
  clear H
  have H := H1
  clear H1
  obtain rfl := Option.some.inj H
  go_enter Try.func24, Try.ntmps24
  go_wp2_with (first | ((with_reducible refine gate_dst (N := 2) rfl ?_); refine mBx 2 #[.slice A0_0 l0_0.length c0_0] 26 ?_; intro gb279 hg w11 hbox hb; have BK279 := mS (hbox); have GW279 := mG hg (mH HB.out); have GE279 := mG hg (mH HB.out); replace HB := mS (below_step (mH HB.out) hb); clear hb hbox hg) | ((with_reducible refine gate_dst (N := 3) rfl ?_); refine mBx 3 #[.slice A1_0 l1_0.length c1_0] 26 ?_; intro gb280 hg w12 hbox hb; have BK280 := mS (hbox); have GW280 := mG hg (mH1 HB.out GE279.out); have GE280 := mG hg (mH1 HB.out GE279.out); replace HB := mS (below_step (mH1 HB.out GE279.out) hb); have NB279_280 := mNl hg BK279.out; have NB280_279 := mNg hg BK279.out; replace BK279 := mB BK279 hb; clear hb hbox hg; have hnb13 := NB279_280.out; have hnc13 := NB280_279.out; have hcz14_0 := mZ BK279.out 0; have hfz14_0 := blk_frozen BK279.out 0; have hcz15_0 := mZ BK280.out 0; have hfz15_0 := blk_frozen BK280.out 0) | ((with_reducible refine gate_callee (f := 77) rfl ?_); refine mGo 9 Try.func77 #[.slice A0_0 l0_0.length c0_0, .slice A1_0 l1_0.length c1_0] ?_; (with_reducible refine (laws_eqItemS.calls k _ _ l0_0 _ _ l1_0 false _ ?side1 ?side2 ?side3 ?side4 A3.out).mono ?_); (case side1 => exact mC (Kd.C_below HR0_0.out HB.out)); (case side2 => exact HC0_0.out); (case side3 => exact mC (Kd.C_below HR1_0.out HB.out)); (case side4 => exact HC1_0.out); rintro e w16 ⟨rfl, hb⟩; refine ⟨_, rfl, ?_⟩; replace BK279 := mB BK279 hb; replace BK280 := mB BK280 hb; replace HB := mS (below_step (mH2 HB.out GE279.out GE280.out) hb); (try clear hb)))
  go_ret
  exact ⟨mEw, (mH2 HB.out GE279.out GE280.out)⟩

/-! ### laws_markDotS: function 32 -/
def laws_markDotS.l0 : Nat → List (S31) → Int → Int → Option (Int × (List (S31)))
 | 0, _, _, _ => none
 | k + 1, x0, x1, x5 => if x5 < (x0.length : Int) then (if 0 ≤ x5 then ((some (x0.set (x5 : Int).toNat (⟨x1, (rd_T31 x0 x5).f1⟩ : S31) : List (S31))).bind fun y282 => (laws_markDotS.l0 k (y282.set (x5 : Int).toNat (⟨(rd_T31 y282 x5).f0, wrap64 (x1 + 1)⟩ : S31)) (wrap64 ((wrap64 (x1 + 1)) + 1)) (wrap64 (x5 + 1)))) else (none)) else (some (x1, x0))
def laws_markDotS.f (k : Nat) (l0 : List (S31)) (a1 : Int) : Option (Int × (List (S31))) := laws_markDotS.l0 k l0 a1 0
theorem laws_markDotS.mono_l : ∀ k, (∀ y0 y1 y2, LeO (laws_markDotS.l0 k y0 y1 y2) (laws_markDotS.l0 (k + 1) y0 y1 y2))
 | 0 => fun _ _ _ r h => by simp [laws_markDotS.l0] at h
 | k + 1 => by
  have ih0 := laws_markDotS.mono_l k
  ·intro y0 y1 y2
   unfold laws_markDotS.l0
   repeat' first
   | (with_reducible exact ih0 _ _ _)
   | (with_reducible exact LeO.refl _)
   | (with_reducible exact LeO.none _)
   | (with_reducible refine LeO.ite ?_ ?_)
   | (with_reducible refine LeO.bind ?_ (fun _ => ?_))
   | exact ih0 _ _ _
   | exact LeO.none _
   | refine LeO.ite ?_ ?_
   | refine LeO.bind ?_ (fun _ => ?_)
theorem laws_markDotS.mono : ∀ a0 a1 k, LeO (laws_markDotS.f k a0 a1) (laws_markDotS.f (k + 1) a0 a1) := by
 intro a0 a1 k
 have ih0 := laws_markDotS.mono_l k
 unfold laws_markDotS.f
 repeat' first
   | (with_reducible exact ih0 _ _ _)
   | (with_reducible exact LeO.refl _)
   | (with_reducible exact LeO.none _)
   | (with_reducible refine LeO.ite ?_ ?_)
   | (with_reducible refine LeO.bind ?_ (fun _ => ?_))
   | exact ih0 _ _ _
   | exact LeO.none _
   | refine LeO.ite ?_ ?_
   | refine LeO.bind ?_ (fun _ => ?_)
set_option maxHeartbeats 8000000 in
set_option maxRecDepth 100000 in
theorem laws_markDotS.calls (k : Nat) (P0_ : Nat → Prop) (u9000_ : Value) (l0 : List (S31)) (a1 : Int) (r1 : Int) (r2 : List (S31)) (w0 w : World) (hB : Below w0.heap.size w0 w) (ho0 : Kd.R k31 31 w w0.heap.size P0_ u9000_ l0) (h : laws_markDotS.f k l0 a1 = some (r1, r2)) :
  Calls Try.prog 32 #[u9000_, .int .i64 a1] w fun e w' => e = .returned (.int .i64 r1) ∧ Kd.R k31 31 w' w0.heap.size (fun k_ => (P0_ k_ ∨ w.heap.size ≤ k_)) u9000_ r2 ∧ Below w0.heap.size w0 w' ∧ Kept w w' (fun k_ => P0_ k_) := by
 have HO0 := mS (show Kd.R k31 31 w w0.heap.size (fun k_ => (P0_ k_ ∨ w.heap.size ≤ k_)) u9000_ l0 from Kd.R_mono ho0 (fun k_ hk => (.inl hk)))
 have HK := mS (Kept.refl w (fun k_ => P0_ k_))
 have HW0 := mS hB.size
 have HB := mS hB
 clear hB
 have H : (laws_markDotS.l0 k l0 a1 0) = some (r1, r2) := h
 clear h
 have H' := mS H
 clear H
 go_enter Try.func32, Try.ntmps32
 go_wp2
 go_loopg [1, 5] k (fun kq v1 v5 w' => ∃ (x0_1 : List (S31)) (x1_1 : Int) (x5_1 : Int), v1 = .int .i64 x1_1 ∧ v5 = .int .i64 x5_1 ∧ Aside0 (laws_markDotS.l0 kq x0_1 x1_1 x5_1 = some (r1, r2)) ∧ Aside0 (kq ≤ k) ∧ Aside0 (Kd.R k31 31 w' w0.heap.size (fun k_ => (P0_ k_ ∨ w.heap.size ≤ k_)) u9000_ x0_1) ∧ Aside0 (Kept w w' (fun k_ => P0_ k_)) ∧ Aside0 (Below w0.heap.size w0 w'))
 case atStart => exact ⟨(l0), (a1), (0), mE, mE, H', ⟨Nat.le_refl _⟩, ⟨mR HO0.out⟩, ⟨(mP HK.out)⟩, ⟨(mH HB.out)⟩⟩
 case round =>
  clear H'
  try clear p2
  obtain ⟨x0_1, x1_1, x5_1, rfl, rfl, HA, HK1, HO_0, HK, HB⟩ := hrel
  cases gk with
  | zero => exact absurd HA.out (by simp [laws_markDotS.l0])
  | succ k1 =>
   have H := HA.out
   clear HA
   simp only [laws_markDotS.l0] at H
   by_cases c3 : x5_1 < (x0_1.length : Int)
   ·rw [if_pos c3] at H
    have c3b0 := decide_eq_true c3
    clear c3
    by_cases c4 : 0 ≤ x5_1
    ·rw [if_pos c4] at H
     have c4b0 := decide_eq_true c4
     clear c4
     obtain ⟨y282, hy282⟩ : ∃ y_ : List (S31), y_ = (x0_1.set (x5_1 : Int).toNat (⟨x1_1, (rd_T31 x0_1 x5_1).f1⟩ : S31)) := ⟨_, rfl⟩
     replace H : (laws_markDotS.l0 k1 (y282.set (x5_1 : Int).toNat (⟨(rd_T31 y282 x5_1).f0, wrap64 (x1_1 + 1)⟩ : S31)) (wrap64 ((wrap64 (x1_1 + 1)) + 1)) (wrap64 (x5_1 + 1))) = some (r1, r2) := by first | (rw [hy282]; with_reducible exact H) | (have H2_ := (Option.bind_some _ _).symm.trans H; rw [hy282]; with_reducible exact H2_) | (have H2_ := (Option.bind_some _ _).symm.trans H; with_reducible exact H2_) | with_reducible exact H | (rw [hy282]; exact H) | exact H
     have Ny282 := mS hy282
     clear hy282
     obtain ⟨y283, hy283⟩ : ∃ y_ : List (S31), y_ = (y282.set (x5_1 : Int).toNat (⟨(rd_T31 y282 x5_1).f0, wrap64 (x1_1 + 1)⟩ : S31)) := ⟨_, rfl⟩
     replace H : (laws_markDotS.l0 k1 y283 (wrap64 ((wrap64 (x1_1 + 1)) + 1)) (wrap64 (x5_1 + 1))) = some (r1, r2) := by first | (rw [hy283]; with_reducible exact H) | (have H2_ := (Option.bind_some _ _).symm.trans H; rw [hy283]; with_reducible exact H2_) | (have H2_ := (Option.bind_some _ _).symm.trans H; with_reducible exact H2_) | with_reducible exact H | (rw [hy283]; exact H) | exact H
     have Ny283 := mS hy283
     clear hy283
     have H' := mS H
     clear H
     obtain ⟨Ao7, co7, eo7⟩ := Kd.R_slice HO_0.out
     subst eo7
     have p5 : 0 ≤ (x5_1 : Int) := mD
     have q5 : (x5_1 : Int) < ((x0_1.length : Int) : Int) := mD
     obtain ⟨go5, co5, eo5, gb5, gl5, cl5, HG5⟩ := Kd.R_form HO_0.out (by omega)
     (first | cases eo5 | (injection eo5 with ea_ en_ ec_; (first | subst ea_ | (injection ea_ with ea_; subst ea_)); subst ec_; clear en_))
     have GB5 := mS gb5
     have GG5 := mS HG5
     clear gb5 gl5 HG5
     have HMgo5 := mS (show (P0_ go5 ∨ w.heap.size ≤ go5) from (HO_0.out.1 _ rfl))
     obtain ⟨ce5, hcl5, hM5, hcc5, hfr5⟩ := Kd.R_elem HO_0.out z31 (x5_1 : Int) p5 q5
     obtain rfl := k31_openM hM5
     have hx5_0 : wr.cell? ⟨go5, (x5_1 : Int).toNat * 2, none⟩ = some (.int .i64 ((rd_T31 x0_1 x5_1).f0)) := hcc5 0 _ rfl
     have hx5_1 : wr.cell? ⟨go5, (x5_1 : Int).toNat * 2 + 1, none⟩ = some (.int .i64 ((rd_T31 x0_1 x5_1).f1)) := hcc5 1 _ rfl
     have hf5_0 : wr.frozen? ⟨go5, (x5_1 : Int).toNat * 2, none⟩ = false := hfr5 0
     have hf5_1 : wr.frozen? ⟨go5, (x5_1 : Int).toNat * 2 + 1, none⟩ = false := hfr5 1
     clear hcl5 hcc5 hfr5 hM5
     replace p5 := eq_true p5
     replace q5 := eq_true q5
     have HX8 := mS (show Kd.R k31 31 wr w0.heap.size (fun k_ => (P0_ k_ ∨ w.heap.size ≤ k_)) (.slice (some ⟨go5, 0, none⟩) x0_1.length co7) x0_1 from (mR HO_0.out))
     obtain ⟨ce8, hcl8, hM8, hcc8, hfr8⟩ := Kd.R_elem HX8.out z31 (x5_1 : Int) (mD) (by have h_ : (x5_1 : Int) < ((x0_1.length : Int) : Int) := mD; first | exact h_ | (have e_ := (Kd.R_reads' HO_0.out).1; omega) | simpa using h_)
     obtain rfl := k31_openM hM8
     have HP8 := Kd.R_seg HX8.out (x5_1 : Int) (mD) (by have h_ : (x5_1 : Int) < ((x0_1.length : Int) : Int) := mD; first | exact h_ | (have e_ := (Kd.R_reads' HO_0.out).1; omega) | simpa using h_) (seg := [.int .i64 x1_1]) (j := 0) hcl8 hcc8 (show 1 ≤ 2 from by decide) (x' := (⟨x1_1, (rd_T31 x0_1 x5_1).f1⟩ : S31)) (k31_mkM _ _ _ (⟨x1_1, (rd_T31 x0_1 x5_1).f1⟩ : S31) ) (fun _ hk => hk)
     have hx8_0 := hcc8 0 _ rfl
     (try simp only [show (k31).sz = 2 from rfl, Nat.mul_one, Nat.add_zero] at hx8_0)
     have hf8_0 := hfr8 0
     (try simp only [show (k31).sz = 2 from rfl, Nat.mul_one, Nat.add_zero] at hf8_0)
     clear hcl8 hcc8 hfr8 hM8
     go_wp2_with (first | ((with_reducible refine gate_store (t := 3) (p := 16) rfl ?_); refine store_event (t := 3) (p := 16) (v := ?vo_w9) (w1 := (wr.setCell ⟨go5, (x5_1 : Int).toNat * 2, none⟩ (.int .i64 x1_1))) ?hg ?ho ?hn ?hr ?_; (case ho => rfl); (case hg => rfl); (case hn => rfl); (case hr => first | (go_simp; done) | (go_simp; rfl)); intro w9 hw; have hg : wr.grownBy w9 (some go5) := (by rw [hw]; exact HP8.2); have hp_ : Kd.R k31 31 w9 w0.heap.size (fun k_ => (P0_ k_ ∨ w.heap.size ≤ k_)) (.slice (some ⟨go5, 0, none⟩) x0_1.length co7) y282 := (by rw [hw, Ny282.out]; exact HP8.1); clear HP8; replace HB := mS ((by rw [hw]; exact below_set (HB.out) GB5.out : Below w0.heap.size w0 w9)); replace HK := mS (Kept.of_grown (S := (fun k_ => P0_ k_)) hg (mP HK.out) (fun k_ e_ => (HO_0.out.1 k_ e_))); replace HO_0 := mS (hp_); clear hg hw hp_; have p6 : 0 ≤ (x5_1 : Int) := mD; have q6 : (x5_1 : Int) < ((x0_1.length : Int) : Int) := mD; obtain ⟨ce6, hcl6, hM6, hcc6, hfr6⟩ := Kd.R_elem HO_0.out z31 (x5_1 : Int) p6 q6; obtain rfl := k31_openM hM6; have hx6_0 : w9.cell? ⟨go5, (x5_1 : Int).toNat * 2, none⟩ = some (.int .i64 ((rd_T31 y282 x5_1).f0)) := hcc6 0 _ rfl; have hx6_1 : w9.cell? ⟨go5, (x5_1 : Int).toNat * 2 + 1, none⟩ = some (.int .i64 ((rd_T31 y282 x5_1).f1)) := hcc6 1 _ rfl; have hf6_0 : w9.frozen? ⟨go5, (x5_1 : Int).toNat * 2, none⟩ = false := hfr6 0; have hf6_1 : w9.frozen? ⟨go5, (x5_1 : Int).toNat * 2 + 1, none⟩ = false := hfr6 1; clear hcl6 hcc6 hfr6; (try clear hM6); replace p6 := eq_true p6; replace q6 := eq_true q6; have HX10 := mS (show Kd.R k31 31 w9 w0.heap.size (fun k_ => (P0_ k_ ∨ w.heap.size ≤ k_)) (.slice (some ⟨go5, 0, none⟩) x0_1.length co7) y282 from (mR HO_0.out)); obtain ⟨ce10, hcl10, hM10, hcc10, hfr10⟩ := Kd.R_elem HX10.out z31 (x5_1 : Int) (mD) (by have h_ : (x5_1 : Int) < ((x0_1.length : Int) : Int) := mD; first | exact h_ | (have e_ := (Kd.R_reads' HO_0.out).1; omega) | simpa using h_); obtain rfl := k31_openM hM10; have HP10 := Kd.R_seg HX10.out (x5_1 : Int) (mD) (by have h_ : (x5_1 : Int) < ((x0_1.length : Int) : Int) := mD; first | exact h_ | (have e_ := (Kd.R_reads' HO_0.out).1; omega) | simpa using h_) (seg := [.int .i64 (wrap64 (x1_1 + 1))]) (j := 1) hcl10 hcc10 (show 2 ≤ 2 from by decide) (x' := (⟨(rd_T31 y282 x5_1).f0, wrap64 (x1_1 + 1)⟩ : S31)) (k31_mkM _ _ _ (⟨(rd_T31 y282 x5_1).f0, wrap64 (x1_1 + 1)⟩ : S31) ) (fun _ hk => hk); have hx10_1 := hcc10 1 _ rfl; (try simp only [show (k31).sz = 2 from rfl, Nat.mul_one, Nat.add_zero] at hx10_1); have hf10_1 := hfr10 1; (try simp only [show (k31).sz = 2 from rfl, Nat.mul_one, Nat.add_zero] at hf10_1); clear hcl10 hcc10 hfr10 hM10) | ((with_reducible refine gate_store (t := 3) (p := 23) rfl ?_); refine store_event (t := 3) (p := 23) (v := ?vo_w11) (w1 := (w9.setCell ⟨go5, (x5_1 : Int).toNat * 2 + 1, none⟩ (.int .i64 (wrap64 (x1_1 + 1))))) ?hg ?ho ?hn ?hr ?_; (case ho => rfl); (case hg => rfl); (case hn => rfl); (case hr => first | (go_simp; done) | (go_simp; rfl)); intro w11 hw; have hg : w9.grownBy w11 (some go5) := (by rw [hw]; exact HP10.2); have hp_ : Kd.R k31 31 w11 w0.heap.size (fun k_ => (P0_ k_ ∨ w.heap.size ≤ k_)) (.slice (some ⟨go5, 0, none⟩) x0_1.length co7) y283 := (by rw [hw, Ny283.out]; exact HP10.1); clear HP10; replace HB := mS ((by rw [hw]; exact below_set (HB.out) GB5.out : Below w0.heap.size w0 w11)); replace HK := mS (Kept.of_grown (S := (fun k_ => P0_ k_)) hg (mP HK.out) (fun k_ e_ => (HO_0.out.1 k_ e_))); replace HO_0 := mS (hp_); clear hg hw hp_))
     go_roundg k1
     case measure => have := HK1.out; omega
     case rel => exact ⟨(y283), (wrap64 ((wrap64 (x1_1 + 1)) + 1)), (wrap64 (x5_1 + 1)), mE, mE, H', ⟨by have := HK1.out; omega⟩, ⟨mR HO_0.out⟩, ⟨(mP HK.out)⟩, ⟨(mH HB.out)⟩⟩
    ·rw [if_neg c4] at H
     exact absurd H (by simp)
   ·rw [if_neg c3] at H
    have c3b0 := decide_eq_false c3
    clear c3
    simp only [Option.some.injEq, Prod.mk.injEq] at H
    obtain ⟨rfl, rfl⟩ := H
    obtain ⟨Ao12, co12, eo12⟩ := Kd.R_slice HO_0.out
    subst eo12
    go_wp2
    go_ret
    exact ⟨mEw, mR HO_0.out, (mH HB.out), (mP HK.out)⟩

/-! ### laws_markItemS: function 79: marks in rows whose elements hold a row (a proof by hand; the loop's shape is the kit's) -/
def laws_markItemS.l0 : Nat → List S33 → Int → Int → Option (Int × List S33)
 | 0, _, _, _ => none
 | k + 1, x0, x1, x5 => if x5 < (x0.length : Int) then (if 0 ≤ x5 then ((laws_markDotS.f k (rd_T33 x0 x5).f1 (wrap64 ((wrap64 (x1 + 1)) + 1))).bind fun bt => laws_markItemS.l0 k (x0.set x5.toNat (⟨(⟨x1, wrap64 (x1 + 1)⟩ : S31), bt.2⟩ : S33)) bt.1 (wrap64 (x5 + 1))) else none) else some (x1, x0)
def laws_markItemS.f (k : Nat) (l0 : List S33) (a1 : Int) : Option (Int × List S33) := laws_markItemS.l0 k l0 a1 0
theorem laws_markItemS.mono_l : ∀ k, (∀ y0 y1 y2, LeO (laws_markItemS.l0 k y0 y1 y2) (laws_markItemS.l0 (k + 1) y0 y1 y2))
 | 0 => fun _ _ _ r h => by simp [laws_markItemS.l0] at h
 | k + 1 => by
  have ih0 := laws_markItemS.mono_l k
  intro y0 y1 y2
  unfold laws_markItemS.l0
  exact LeO.ite (LeO.ite (LeO.bind (laws_markDotS.mono _ _ _) (fun _ => ih0 _ _ _)) (LeO.none _)) (LeO.refl _)
theorem laws_markItemS.mono : ∀ a0 a1 k, LeO (laws_markItemS.f k a0 a1) (laws_markItemS.f (k + 1) a0 a1) := fun a0 a1 k => laws_markItemS.mono_l k a0 a1 0
set_option maxHeartbeats 8000000 in
set_option maxRecDepth 100000 in
theorem laws_markItemS.calls (k : Nat) (P0_ : Nat → Prop) (u9000_ : Value) (l0 : List S33) (a1 : Int) (r1 : Int) (r2 : List S33) (w0 w : World) (hB : Below w0.heap.size w0 w) (ho0 : Kd.S k33 33 w w0.heap.size P0_ u9000_ l0) (h : laws_markItemS.f k l0 a1 = some (r1, r2)) :
  Calls Try.prog 79 #[u9000_, .int .i64 a1] w fun e w' => e = .returned (.int .i64 r1) ∧ Kd.S k33 33 w' w0.heap.size P0_ u9000_ r2 ∧ Below w0.heap.size w0 w' ∧ Kept w w' (fun k_ => P0_ k_) := by
 have HO0 := mS ho0
 have HK := mS (Kept.refl w (fun k_ => P0_ k_))
 have HB := mS hB
 clear hB
 have H' := mS (show laws_markItemS.l0 k l0 a1 0 = some (r1, r2) from h)
 clear h
 obtain ⟨Au, cu, eu⟩ := Kd.S_slice HO0.out
 subst eu
 go_enter Try.func79, Try.ntmps79
 go_wp2
 go_loopg [1, 5] k (fun kq v1 v5 w' => ∃ (x0_1 : List S33) (x1_1 : Int) (x5_1 : Int), v1 = .int .i64 x1_1 ∧ v5 = .int .i64 x5_1 ∧ Aside0 (x0_1.length = l0.length) ∧ Aside0 (laws_markItemS.l0 kq x0_1 x1_1 x5_1 = some (r1, r2)) ∧ Aside0 (kq ≤ k) ∧ Aside0 (Kd.S k33 33 w' w0.heap.size P0_ (.slice Au l0.length cu) x0_1) ∧ Aside0 (Kept w w' (fun k_ => P0_ k_)) ∧ Aside0 (Below w0.heap.size w0 w'))
 case atStart => exact ⟨l0, a1, 0, (by first | rfl | (simp; done)), (by first | rfl | (simp; done)), ⟨rfl⟩, H', ⟨Nat.le_refl _⟩, ⟨mSd HO0.out⟩, ⟨(mP HK.out)⟩, ⟨(mH HB.out)⟩⟩
 case round =>
  clear H'
  obtain ⟨x0_1, x1_1, x5_1, rfl, rfl, HL, HA, HK1, HO_0, HK, HB⟩ := hrel
  cases gk with
  | zero => exact absurd HA.out (by simp [laws_markItemS.l0])
  | succ k1 =>
   have H := HA.out
   clear HA
   simp only [laws_markItemS.l0, HL.out] at H
   by_cases c3 : x5_1 < (l0.length : Int)
   ·rw [if_pos c3] at H
    have c3b0 := decide_eq_true c3
    by_cases c5 : 0 ≤ x5_1
    ·rw [if_pos c5] at H
     have c5b0 := decide_eq_true c5
     replace H := Option.bind_eq_some_iff.mp H
     obtain ⟨⟨t1, t2⟩, A40, H⟩ := H
     have A4 := mS A40
     clear A40
     have H' := mS H
     clear H
     have hL := HL.out
     obtain ⟨go, co, eo, gb, gl, cl, HG⟩ := Kd.S_form HO_0.out (by omega)
     injection eo with ea en ec
     subst ea
     subst ec
     have hP0 : P0_ go := (Kd.S_R HO_0.out).1 go (by simp [Value.ownBlock])
     obtain ⟨oki, ce, hcl, hM, hcc, hfr, hoki, hH⟩ := Kd.S_elem HO_0.out z33 x5_1 c5 (by omega)
     obtain ⟨ve, rfl, gve⟩ := k33_openM hM
     obtain ⟨Ai, ci, ei⟩ := Kd.R_slice gve
     subst ei
     obtain ⟨hH1, hg1⟩ := Kd.H_seg hH c5 (by omega) (seg := [.int .i64 x1_1, .int .i64 (wrap64 (x1_1 + 1))]) (j := 0) (Nat.le_of_ble_eq_true rfl) (by simp [Value.oneCell'])
     have HP0 := mS hP0
     have HGB := mS gb
     have HOK := mS hoki
     have HB1 : Aside0 (Below w0.heap.size w0 ((wr.setCell ⟨go, (x5_1 : Int).toNat * 3, none⟩ (.int .i64 x1_1)).setCell ⟨go, (x5_1 : Int).toNat * 3 + 1, none⟩ (.int .i64 (wrap64 (x1_1 + 1))))) := ⟨below_set (below_set HB.out gb) gb⟩
     have HG1 : Aside0 (wr.grownBy ((wr.setCell ⟨go, (x5_1 : Int).toNat * 3, none⟩ (.int .i64 x1_1)).setCell ⟨go, (x5_1 : Int).toNat * 3 + 1, none⟩ (.int .i64 (wrap64 (x1_1 + 1)))) (some go)) := ⟨hg1⟩
     have HH1 : Aside0 (Kd.H k33 33 ((wr.setCell ⟨go, (x5_1 : Int).toNat * 3, none⟩ (.int .i64 x1_1)).setCell ⟨go, (x5_1 : Int).toNat * 3 + 1, none⟩ (.int .i64 (wrap64 (x1_1 + 1)))) w0.heap.size P0_ (.slice (some ⟨go, 0, none⟩) l0.length cu) x0_1 x5_1 oki [.int .i64 x1_1, .int .i64 (wrap64 (x1_1 + 1)), .slice Ai (rd_T33 x0_1 x5_1).f1.length ci]) := ⟨hH1⟩
     have HR1 : Aside0 (Kd.R k31 31 ((wr.setCell ⟨go, (x5_1 : Int).toNat * 3, none⟩ (.int .i64 x1_1)).setCell ⟨go, (x5_1 : Int).toNat * 3 + 1, none⟩ (.int .i64 (wrap64 (x1_1 + 1)))) w0.heap.size oki (.slice Ai (rd_T33 x0_1 x5_1).f1.length ci) (rd_T33 x0_1 x5_1).f1) := ⟨Kd.R_step gve (fun k_ hk hlt => hg1.block k_ hlt (fun e_ => (hoki k_ hk).2 (by injection e_)))⟩
     have HK2 : Aside0 (Kept w ((wr.setCell ⟨go, (x5_1 : Int).toNat * 3, none⟩ (.int .i64 x1_1)).setCell ⟨go, (x5_1 : Int).toNat * 3 + 1, none⟩ (.int .i64 (wrap64 (x1_1 + 1)))) (fun k_ => P0_ k_)) := ⟨Kept.of_grown hg1 HK.out (fun k_ e_ => .inl (by injection e_ with e_; subst e_; exact hP0))⟩
     have p5 := eq_true c5
     have q5 := eq_true c3
     have hx0 : wr.cell? ⟨go, (x5_1 : Int).toNat * 3, none⟩ = some (.int .i64 (rd_T33 x0_1 x5_1).f0.f0) := hcc 0 _ rfl
     have hx1 : wr.cell? ⟨go, (x5_1 : Int).toNat * 3 + 1, none⟩ = some (.int .i64 (rd_T33 x0_1 x5_1).f0.f1) := hcc 1 _ rfl
     have hx2 : wr.cell? ⟨go, (x5_1 : Int).toNat * 3 + 2, none⟩ = some (.slice Ai (rd_T33 x0_1 x5_1).f1.length ci) := hcc 2 _ rfl
     have hf0 : wr.frozen? ⟨go, (x5_1 : Int).toNat * 3, none⟩ = false := hfr 0
     have hf1 : wr.frozen? ⟨go, (x5_1 : Int).toNat * 3 + 1, none⟩ = false := hfr 1
     clear hH hH1 hg1 hP0 hoki gve hcc hfr hcl hM HO_0 en hL gb gl cl HG
     go_wp2_with (first | ((with_reducible refine gate_callee (f := 32) rfl ?_); refine goesL_ (some 34) rfl rfl Try.func32 (by kernel_rfl) rfl #[.slice Ai (rd_T33 x0_1 x5_1).f1.length ci, .int .i64 (wrap64 ((wrap64 (x1_1 + 1)) + 1))] rfl (by (try simp only [List.map_toArray, List.map_cons, List.map_nil]); first | done | rfl) ?_; (refine (laws_markDotS.calls k1 oki (.slice Ai (rd_T33 x0_1 x5_1).f1.length ci) (rd_T33 x0_1 x5_1).f1 (wrap64 ((wrap64 (x1_1 + 1)) + 1)) t1 t2 w0 _ HB1.out HR1.out A4.out).mono ?_); rintro e w20 ⟨rfl, hy0, hb, hkp⟩; refine ⟨_, rfl, ?_⟩; have HY := mS hy0; have HB2 := mS hb; have HP := mS hkp; clear hy0 hb hkp))
     go_roundg k1
     case measure => have := HK1.out; omega
     case rel =>
      have hR2 : Kd.R k31 31 w20 w0.heap.size oki (.slice Ai (rd_T33 x0_1 x5_1).f1.length ci) t2 := Kd.R_reok rfl HY.out (fun k_ e_ => HR1.out.1 k_ e_)
      have hS := Kd.H_back (Kd.H_kept HH1.out HP.out (fun _ _ hn hs => hn hs)) (x' := (⟨(⟨x1_1, wrap64 (x1_1 + 1)⟩ : S31), t2⟩ : S33)) (okp := oki) (k33_mkM _ _ _ (⟨(⟨x1_1, wrap64 (x1_1 + 1)⟩ : S31), t2⟩ : S33) hR2) (fun _ h_ => h_)
      exact ⟨x0_1.set x5_1.toNat (⟨(⟨x1_1, wrap64 (x1_1 + 1)⟩ : S31), t2⟩ : S33), t1, wrap64 (x5_1 + 1), (by first | rfl | (simp; done)), (by first | rfl | (simp; done)), ⟨by rw [List.length_set]; exact HL.out⟩, H', ⟨by have := HK1.out; omega⟩, ⟨hS⟩, ⟨HK2.out.then_ HP.out (fun k_ h_ => .inl (HOK.out k_ h_).1)⟩, ⟨HB2.out⟩⟩
    ·rw [if_neg c5] at H
     exact absurd H (by simp)
   ·rw [if_neg c3] at H
    have c3b0 := decide_eq_false c3
    simp only [Option.some.injEq, Prod.mk.injEq] at H
    obtain ⟨rfl, rfl⟩ := H
    go_wp2
    go_ret
    exact ⟨rfl, mSd HO_0.out, (mH HB.out), (mP HK.out)⟩

/-! ### laws_markGraph: function 26: marks in a struct of one row whose elements hold rows (a proof by hand; the form is the kit's) -/
def laws_markGraph.f (k : Nat) (l0_0 : List S33) (a1 : Int) : Option (Int × List S33) := (laws_markItemS.f k l0_0 a1).bind fun bt => (some (bt.1, bt.2))
theorem laws_markGraph.mono : ∀ a0 a1 k, LeO (laws_markGraph.f k a0 a1) (laws_markGraph.f (k + 1) a0 a1) := by
 intro a0 a1 k
 unfold laws_markGraph.f
 exact LeO.bind (laws_markItemS.mono _ _ _) (fun _ => LeO.refl _)
set_option maxHeartbeats 8000000 in
set_option maxRecDepth 100000 in
theorem laws_markGraph.calls (k : Nat) (P0_0_ : Nat → Prop) (u9000_ : Value) (l0_0 : List S33) (a1 : Int) (r1 : Int) (r2 : List S33) (w0 w : World) (hB : Below w0.heap.size w0 w) (ho0_0 : Kd.S k33 33 w w0.heap.size P0_0_ u9000_ l0_0) (h : laws_markGraph.f k l0_0 a1 = some (r1, r2)) :
  Calls Try.prog 26 #[.agg #[u9000_], .int .i64 a1] w fun e w' => e = .returned (.int .i64 r1) ∧ Kd.S k33 33 w' w0.heap.size P0_0_ u9000_ r2 ∧ Below w0.heap.size w0 w' ∧ Kept w w' (fun k_ => P0_0_ k_) := by
 have hu26 := Try.underlying26
 have HO0_0 := mS ho0_0
 have HS0 := mS (Kd.S_lt ho0_0)
 have HK := mS (Kept.refl w (fun k_ => P0_0_ k_))
 have HB := mS hB
 clear hB ho0_0
 have H : ((laws_markItemS.f k l0_0 a1).bind fun bt => (some (bt.1, bt.2))) = some (r1, r2) := h
 clear h
 replace H := Option.bind_eq_some_iff.mp H
 obtain ⟨⟨t244, t245⟩, A30, H⟩ := H
 have A3 := mS A30
 clear A30
 simp only [Option.some.injEq, Prod.mk.injEq] at H
 obtain ⟨rfl, rfl⟩ := H
 obtain ⟨Ao4, co4, eo4⟩ := Kd.S_slice HO0_0.out
 subst eo4
 go_enter Try.func26, Try.ntmps26
 go_wp2_with (first | ((with_reducible refine gate_dst (N := 2) rfl ?_); refine mBx 2 #[.slice Ao4 l0_0.length co4] 26 ?_; intro gb243 hg w5 hbox hb; have HO5 := mS (Kd.S_bound (Kd.S_below (mSd HO0_0.out) hb)); have BK243 := mS (hbox); replace HK := mS (Kept.below (S := (fun k_ => P0_0_ k_)) (mP HK.out) hb); have GE243 := mS ((by rw [hg]; exact (below_size (mH HB.out)) : w0.heap.size ≤ gb243)); replace HB := mS (below_step (mH HB.out) hb); clear hb hbox hg; have hcz6_0 := mZ BK243.out 0; have hfz6_0 := blk_frozen BK243.out 0) | ((with_reducible refine gate_callee (f := 79) rfl ?_); refine goesL_ (some 8) rfl rfl Try.func79 (by kernel_rfl) rfl #[.slice Ao4 l0_0.length co4, .int .i64 a1] rfl (by (try simp only [List.map_toArray, List.map_cons, List.map_nil]); first | done | rfl) ?_; (refine (laws_markItemS.calls k _ (.slice Ao4 l0_0.length co4) l0_0 a1 t244 t245 w0 _ HB.out HO5.out A3.out).mono ?_); rintro e w7 ⟨rfl, hy0, hb, hkp⟩; refine ⟨_, rfl, ?_⟩; replace HK := mS (Kept.then_ (S := (fun k_ => P0_0_ k_)) (mP HK.out) hkp (fun k_ hs_ => .inl hs_.1)); have HY := mS (Kd.S_mono (ok' := P0_0_) hy0 (fun k_ hk => hk.1)); replace HB := mS (hb); (try clear hb); (try clear hkp); (try clear hy0); clear hcz6_0 hfz6_0))
 go_ret
 exact ⟨rfl, mSd HY.out, (mH HB.out), (mP HK.out)⟩

/-! ### laws_heldDotS: function 33 -/
def laws_heldDotS.l0 : Nat → List (S31) → Int → Int → Option (Int)
 | 0, _, _, _ => none
 | k + 1, x0, x1, x5 => if x5 < (x0.length : Int) then (if 0 ≤ x5 then (if ((rd_T31 x0 x5).f0) = x1 then (if ((rd_T31 x0 x5).f1) = (wrap64 (x1 + 1)) then (laws_heldDotS.l0 k x0 (wrap64 ((wrap64 (x1 + 1)) + 1)) (wrap64 (x5 + 1))) else (some (-1))) else (some (-1))) else (none)) else (some x1)
def laws_heldDotS.f (k : Nat) (l0 : List (S31)) (a1 : Int) : Option (Int) := laws_heldDotS.l0 k l0 a1 0
theorem laws_heldDotS.mono_l : ∀ k, (∀ y0 y1 y2, LeO (laws_heldDotS.l0 k y0 y1 y2) (laws_heldDotS.l0 (k + 1) y0 y1 y2))
 | 0 => fun _ _ _ r h => by simp [laws_heldDotS.l0] at h
 | k + 1 => by
  have ih0 := laws_heldDotS.mono_l k
  ·intro y0 y1 y2
   unfold laws_heldDotS.l0
   repeat' first
   | (with_reducible exact ih0 _ _ _)
   | (with_reducible exact LeO.refl _)
   | (with_reducible exact LeO.none _)
   | (with_reducible refine LeO.ite ?_ ?_)
   | (with_reducible refine LeO.bind ?_ (fun _ => ?_))
   | exact ih0 _ _ _
   | exact LeO.none _
   | refine LeO.ite ?_ ?_
   | refine LeO.bind ?_ (fun _ => ?_)
theorem laws_heldDotS.mono : ∀ a0 a1 k, LeO (laws_heldDotS.f k a0 a1) (laws_heldDotS.f (k + 1) a0 a1) := by
 intro a0 a1 k
 have ih0 := laws_heldDotS.mono_l k
 unfold laws_heldDotS.f
 repeat' first
   | (with_reducible exact ih0 _ _ _)
   | (with_reducible exact LeO.refl _)
   | (with_reducible exact LeO.none _)
   | (with_reducible refine LeO.ite ?_ ?_)
   | (with_reducible refine LeO.bind ?_ (fun _ => ?_))
   | exact ih0 _ _ _
   | exact LeO.none _
   | refine LeO.ite ?_ ?_
   | refine LeO.bind ?_ (fun _ => ?_)
set_option maxHeartbeats 8000000 in
set_option maxRecDepth 100000 in
theorem laws_heldDotS.calls (k : Nat) (A0 : Option Addr) (c0 : Nat) (l0 : List (S31)) (a1 : Int) (r : Int) (w : World) (hr0 : Kd.C k31 w A0 l0.length l0) (hc0 : l0.length ≤ c0) (h : laws_heldDotS.f k l0 a1 = some r) :
  Calls Try.prog 33 #[.slice A0 l0.length c0, .int .i64 a1] w fun e w' => e = .returned (.int .i64 r) ∧ Drawn0 w w' := by
 have HR0 := mS hr0
 have HC0 := mS hc0
 clear hr0 hc0
 have H : (laws_heldDotS.l0 k l0 a1 0) = some r := h
 clear h
 have H' := mS H
 clear H
 go_enter Try.func33, Try.ntmps33
 go_wp2
 go_loopg [1, 5] k (fun kq v1 v5 w' => ∃ (x1_1 : Int) (x5_1 : Int), v1 = .int .i64 x1_1 ∧ v5 = .int .i64 x5_1 ∧ Aside0 (laws_heldDotS.l0 kq l0 x1_1 x5_1 = some r) ∧ Aside0 (kq ≤ k) ∧ Drawn0 w w')
 case atStart => exact ⟨(a1), (0), mE, mE, H', ⟨Nat.le_refl _⟩, by repeat (first | exact Drawn0.refl _ | apply Drawn0.step)⟩
 case round =>
  clear H'
  try clear p2
  obtain ⟨x1_1, x5_1, rfl, rfl, HA, HK1, ⟨m1, rfl⟩⟩ := hrel
  cases gk with
  | zero => exact absurd HA.out (by simp [laws_heldDotS.l0])
  | succ k1 =>
   have H := HA.out
   clear HA
   simp only [laws_heldDotS.l0] at H
   by_cases c3 : x5_1 < (l0.length : Int)
   ·rw [if_pos c3] at H
    have c3b0 := decide_eq_true c3
    clear c3
    by_cases c4 : 0 ≤ x5_1
    ·rw [if_pos c4] at H
     have c4b0 := decide_eq_true c4
     clear c4
     by_cases c5 : ((rd_T31 l0 x5_1).f0) = x1_1
     ·rw [if_pos c5] at H
      have c5b0 : (((rd_T31 l0 x5_1).f0) == x1_1) = true := beq_iff_eq.mpr c5
      have c5b1 : (((rd_T31 l0 x5_1).f0) != x1_1) = false := bne_eq_false_iff_eq.mpr c5
      clear c5
      by_cases c6 : ((rd_T31 l0 x5_1).f1) = (wrap64 (x1_1 + 1))
      ·rw [if_pos c6] at H
       have c6b0 : (((rd_T31 l0 x5_1).f1) == (wrap64 (x1_1 + 1))) = true := beq_iff_eq.mpr c6
       have c6b1 : (((rd_T31 l0 x5_1).f1) != (wrap64 (x1_1 + 1))) = false := bne_eq_false_iff_eq.mpr c6
       clear c6
       have H' := mS H
       clear H
       have p284 : 0 ≤ (x5_1 : Int) := mD
       have q284 : x5_1 < (l0.length : Int) := mD
       obtain ⟨ad284, e284, hx284_0, hx284_1⟩ := at_T31 HR0.out x5_1 p284 q284
       cases e284
       replace p284 := eq_true p284
       replace q284 := eq_true q284
       have p285 : 0 ≤ (x5_1 : Int) := mD
       have q285 : x5_1 < (l0.length : Int) := mD
       obtain ⟨ad285, e285, hx285_0, hx285_1⟩ := at_T31 HR0.out x5_1 p285 q285
       obtain rfl : ad284 = ad285 := (by injection e285)
       replace p285 := eq_true p285
       replace q285 := eq_true q285
       go_wp2
       go_roundg k1
       case measure => have := HK1.out; omega
       case rel => exact ⟨(wrap64 ((wrap64 (x1_1 + 1)) + 1)), (wrap64 (x5_1 + 1)), mE, mE, H', ⟨by have := HK1.out; omega⟩, by repeat (first | exact Drawn0.refl _ | apply Drawn0.step)⟩
      ·rw [if_neg c6] at H
       have c6b0 : (((rd_T31 l0 x5_1).f1) == (wrap64 (x1_1 + 1))) = false := beq_eq_false_iff_ne.mpr c6
       have c6b1 : (((rd_T31 l0 x5_1).f1) != (wrap64 (x1_1 + 1))) = true := bne_iff_ne.mpr c6
       obtain rfl := Option.some.inj H
       have p284 : 0 ≤ (x5_1 : Int) := mD
       have q284 : x5_1 < (l0.length : Int) := mD
       obtain ⟨ad284, e284, hx284_0, hx284_1⟩ := at_T31 HR0.out x5_1 p284 q284
       cases e284
       replace p284 := eq_true p284
       replace q284 := eq_true q284
       have p285 : 0 ≤ (x5_1 : Int) := mD
       have q285 : x5_1 < (l0.length : Int) := mD
       obtain ⟨ad285, e285, hx285_0, hx285_1⟩ := at_T31 HR0.out x5_1 p285 q285
       obtain rfl : ad284 = ad285 := (by injection e285)
       replace p285 := eq_true p285
       replace q285 := eq_true q285
       go_wp2
       go_ret
       exact ⟨mE, by repeat (first | exact Drawn0.refl _ | apply Drawn0.step)⟩
     ·rw [if_neg c5] at H
      have c5b0 : (((rd_T31 l0 x5_1).f0) == x1_1) = false := beq_eq_false_iff_ne.mpr c5
      have c5b1 : (((rd_T31 l0 x5_1).f0) != x1_1) = true := bne_iff_ne.mpr c5
      obtain rfl := Option.some.inj H
      have p284 : 0 ≤ (x5_1 : Int) := mD
      have q284 : x5_1 < (l0.length : Int) := mD
      obtain ⟨ad284, e284, hx284_0, hx284_1⟩ := at_T31 HR0.out x5_1 p284 q284
      cases e284
      replace p284 := eq_true p284
      replace q284 := eq_true q284
      go_wp2
      go_ret
      exact ⟨mE, by repeat (first | exact Drawn0.refl _ | apply Drawn0.step)⟩
    ·rw [if_neg c4] at H
     exact absurd H (by simp)
   ·rw [if_neg c3] at H
    have c3b0 := decide_eq_false c3
    clear c3
    obtain rfl := Option.some.inj H
    go_wp2
    go_ret
    exact ⟨mE, by repeat (first | exact Drawn0.refl _ | apply Drawn0.step)⟩

/-! ### spec_DotLess: function 70 -/
def spec_DotLess.f (a0_0 : Int) (a0_1 : Int) (a1_0 : Int) (a1_1 : Int) : Option (Bool) := if a0_0 < a1_0 then (some true) else (if a0_0 = a1_0 then (some (decide (a0_1 < a1_1))) else (some false))
set_option maxHeartbeats 8000000 in
set_option maxRecDepth 100000 in
theorem spec_DotLess.calls (a0_0 : Int) (a0_1 : Int) (a1_0 : Int) (a1_1 : Int) (r : Bool) (w : World) (h : spec_DotLess.f a0_0 a0_1 a1_0 a1_1 = some r) :
  Calls Try.prog 70 #[.agg #[.int .i64 a0_0, .int .i64 a0_1], .agg #[.int .i64 a1_0, .int .i64 a1_1]] w fun e w' => e = .returned (.bool r) ∧ Below w.heap.size w w' := by
 have hu31 := Try.underlying31
 have HB := mS (Below.refl w.heap.size w)
 have H : (if a0_0 < a1_0 then (some true) else (if a0_0 = a1_0 then (some (decide (a0_1 < a1_1))) else (some false))) = some r := h
 clear h
 by_cases c3 : a0_0 < a1_0
 ·rw [if_pos c3] at H
  have c3b0 := decide_eq_true c3
  clear c3
  obtain rfl := Option.some.inj H
  go_enter Try.func70, Try.ntmps70
  go_wp2_with (first | ((with_reducible refine gate_dst (N := 2) rfl ?_); refine mBx 2 #[.int .i64 a0_0, .int .i64 a0_1] 31 ?_; intro gb286 hg w4 hbox hb; have BK286 := mS (hbox); have GW286 := mG hg (mH HB.out); have GE286 := mG hg (mH HB.out); replace HB := mS (below_step (mH HB.out) hb); clear hb hbox hg) | ((with_reducible refine gate_dst (N := 3) rfl ?_); refine mBx 3 #[.int .i64 a1_0, .int .i64 a1_1] 31 ?_; intro gb287 hg w5 hbox hb; have BK287 := mS (hbox); have GW287 := mG hg (mH1 HB.out GE286.out); have GE287 := mG hg (mH1 HB.out GE286.out); replace HB := mS (below_step (mH1 HB.out GE286.out) hb); have NB286_287 := mNl hg BK286.out; have NB287_286 := mNg hg BK286.out; replace BK286 := mB BK286 hb; clear hb hbox hg; have hnb6 := NB286_287.out; have hnc6 := NB287_286.out; obtain ⟨hcz7_0, hcz7_1, hfz7_0, hfz7_1⟩ := mZ2 BK286.out; obtain ⟨hcz8_0, hcz8_1, hfz8_0, hfz8_1⟩ := mZ2 BK287.out))
  go_ret
  exact ⟨mEw, (mH2 HB.out GE286.out GE287.out)⟩
 ·rw [if_neg c3] at H
  have c3b0 := decide_eq_false c3
  clear c3
  by_cases c9 : a0_0 = a1_0
  ·rw [if_pos c9] at H
   have c9b0 : (a0_0 == a1_0) = true := beq_iff_eq.mpr c9
   have c9b1 : (a0_0 != a1_0) = false := bne_eq_false_iff_eq.mpr c9
   clear c9
   obtain rfl := Option.some.inj H
   go_enter Try.func70, Try.ntmps70
   go_wp2_with (first | ((with_reducible refine gate_dst (N := 2) rfl ?_); refine mBx 2 #[.int .i64 a0_0, .int .i64 a0_1] 31 ?_; intro gb286 hg w10 hbox hb; have BK286 := mS (hbox); have GW286 := mG hg (mH HB.out); have GE286 := mG hg (mH HB.out); replace HB := mS (below_step (mH HB.out) hb); clear hb hbox hg) | ((with_reducible refine gate_dst (N := 3) rfl ?_); refine mBx 3 #[.int .i64 a1_0, .int .i64 a1_1] 31 ?_; intro gb287 hg w11 hbox hb; have BK287 := mS (hbox); have GW287 := mG hg (mH1 HB.out GE286.out); have GE287 := mG hg (mH1 HB.out GE286.out); replace HB := mS (below_step (mH1 HB.out GE286.out) hb); have NB286_287 := mNl hg BK286.out; have NB287_286 := mNg hg BK286.out; replace BK286 := mB BK286 hb; clear hb hbox hg; have hnb12 := NB286_287.out; have hnc12 := NB287_286.out; obtain ⟨hcz13_0, hcz13_1, hfz13_0, hfz13_1⟩ := mZ2 BK286.out; obtain ⟨hcz14_0, hcz14_1, hfz14_0, hfz14_1⟩ := mZ2 BK287.out))
   go_ret
   exact ⟨mEw, (mH2 HB.out GE286.out GE287.out)⟩
  ·rw [if_neg c9] at H
   have c9b0 : (a0_0 == a1_0) = false := beq_eq_false_iff_ne.mpr c9
   have c9b1 : (a0_0 != a1_0) = true := bne_iff_ne.mpr c9
   obtain rfl := Option.some.inj H
   go_enter Try.func70, Try.ntmps70
   go_wp2_with (first | ((with_reducible refine gate_dst (N := 2) rfl ?_); refine mBx 2 #[.int .i64 a0_0, .int .i64 a0_1] 31 ?_; intro gb286 hg w15 hbox hb; have BK286 := mS (hbox); have GW286 := mG hg (mH HB.out); have GE286 := mG hg (mH HB.out); replace HB := mS (below_step (mH HB.out) hb); clear hb hbox hg) | ((with_reducible refine gate_dst (N := 3) rfl ?_); refine mBx 3 #[.int .i64 a1_0, .int .i64 a1_1] 31 ?_; intro gb287 hg w16 hbox hb; have BK287 := mS (hbox); have GW287 := mG hg (mH1 HB.out GE286.out); have GE287 := mG hg (mH1 HB.out GE286.out); replace HB := mS (below_step (mH1 HB.out GE286.out) hb); have NB286_287 := mNl hg BK286.out; have NB287_286 := mNg hg BK286.out; replace BK286 := mB BK286 hb; clear hb hbox hg; have hnb17 := NB286_287.out; have hnc17 := NB287_286.out; obtain ⟨hcz18_0, hcz18_1, hfz18_0, hfz18_1⟩ := mZ2 BK286.out; obtain ⟨hcz19_0, hcz19_1, hfz19_0, hfz19_1⟩ := mZ2 BK287.out))
   go_ret
   exact ⟨mEw, (mH2 HB.out GE286.out GE287.out)⟩

/-! ### spec_l1In: function 93 -/
def spec_l1In.f (a0 : Int) (a1 : Int) (a2 : Int) : Option (Bool) := if a0 ≥ a1 then (some (decide (a0 ≤ a2))) else (some false)
set_option maxHeartbeats 8000000 in
set_option maxRecDepth 100000 in
theorem spec_l1In.calls (a0 : Int) (a1 : Int) (a2 : Int) (r : Bool) (w : World) (h : spec_l1In.f a0 a1 a2 = some r) :
  Calls Try.prog 93 #[.int .i64 a0, .int .i64 a1, .int .i64 a2] w fun e w' => e = .returned (.bool r) ∧ Drawn0 w w' := by
 have H : (if a0 ≥ a1 then (some (decide (a0 ≤ a2))) else (some false)) = some r := h
 clear h
 by_cases c4 : a0 ≥ a1
 ·rw [if_pos c4] at H
  have c4b0 : decide (a1 ≤ a0) = true := decide_eq_true c4
  clear c4
  obtain rfl := Option.some.inj H
  go_enter Try.func93, Try.ntmps93
  go_wp2
  go_ret
  exact ⟨mE, by repeat (first | exact Drawn0.refl _ | apply Drawn0.step)⟩
 ·rw [if_neg c4] at H
  have c4b0 : decide (a1 ≤ a0) = false := decide_eq_false c4
  clear c4
  obtain rfl := Option.some.inj H
  go_enter Try.func93, Try.ntmps93
  go_wp2
  go_ret
  exact ⟨mE, by repeat (first | exact Drawn0.refl _ | apply Drawn0.step)⟩

/-! ### spec_DotOk: function 126 -/
def spec_DotOk.f (a0_0 : Int) (a0_1 : Int) : Option (Bool) := (spec_l1In.f a0_0 1 7).bind fun t289 => (if t289 = true then ((spec_l1In.f a0_1 1 999).bind fun t290 => (some t290)) else (some false))
set_option maxHeartbeats 8000000 in
set_option maxRecDepth 100000 in
theorem spec_DotOk.calls (a0_0 : Int) (a0_1 : Int) (r : Bool) (w : World) (h : spec_DotOk.f a0_0 a0_1 = some r) :
  Calls Try.prog 126 #[.agg #[.int .i64 a0_0, .int .i64 a0_1]] w fun e w' => e = .returned (.bool r) ∧ Below w.heap.size w w' := by
 have hu31 := Try.underlying31
 have HB := mS (Below.refl w.heap.size w)
 have H : ((spec_l1In.f a0_0 1 7).bind fun t289 => (if t289 = true then ((spec_l1In.f a0_1 1 999).bind fun t290 => (some t290)) else (some false))) = some r := h
 clear h
 replace H := Option.bind_eq_some_iff.mp H
 obtain ⟨t289, A20, H⟩ := H
 replace H : (if t289 = true then ((spec_l1In.f a0_1 1 999).bind fun t290 => (some t290)) else (some false)) = some r := H
 have A2 := mS A20
 clear A20
 by_cases c3 : t289 = true
 ·subst c3
  have H1 := H
  rw [if_pos rfl] at H1
  clear H
  have H := H1
  clear H1
  replace H := Option.bind_eq_some_iff.mp H
  obtain ⟨t290, A40, H⟩ := H
  replace H : (some t290) = some r := H
  have A4 := mS A40
  clear A40
  obtain rfl := Option.some.inj H
  go_enter Try.func126, Try.ntmps126
  go_wp2_with (first | ((with_reducible refine gate_dst (N := 1) rfl ?_); refine mBx 1 #[.int .i64 a0_0, .int .i64 a0_1] 31 ?_; intro gb288 hg w5 hbox hb; have BK288 := mS (hbox); have GW288 := mG hg (mH HB.out); have GE288 := mG hg (mH HB.out); replace HB := mS (below_step (mH HB.out) hb); clear hb hbox hg; obtain ⟨hcz6_0, hcz6_1, hfz6_0, hfz6_1⟩ := mZ2 BK288.out) | ((with_reducible refine gate_callee (f := 93) rfl ?_); refine mGo 5 Try.func93 #[.int .i64 a0_0, .int .i64 1, .int .i64 7] ?_; (with_reducible refine (spec_l1In.calls a0_0 1 7 true _ A2.out).mono ?_); rintro e w' ⟨rfl, ⟨nd, rfl⟩⟩; refine ⟨_, rfl, ?_⟩) | (go_at_call 93; (with_reducible refine (spec_l1In.calls a0_1 1 999 t290 _ A4.out).mono ?_); rintro e w' ⟨rfl, ⟨nd, rfl⟩⟩))
  go_ret
  exact ⟨mEw, (mH1 HB.out GE288.out)⟩
 ·replace c3 := Bool.eq_false_iff.mpr c3
  subst c3
  have H1 := H
  rw [if_neg (show ¬ (false = true) by decide)] at H1
  clear H
  have H := H1
  clear H1
  obtain rfl := Option.some.inj H
  go_enter Try.func126, Try.ntmps126
  go_wp2_with (first | ((with_reducible refine gate_dst (N := 1) rfl ?_); refine mBx 1 #[.int .i64 a0_0, .int .i64 a0_1] 31 ?_; intro gb288 hg w7 hbox hb; have BK288 := mS (hbox); have GW288 := mG hg (mH HB.out); have GE288 := mG hg (mH HB.out); replace HB := mS (below_step (mH HB.out) hb); clear hb hbox hg; obtain ⟨hcz8_0, hcz8_1, hfz8_0, hfz8_1⟩ := mZ2 BK288.out) | ((with_reducible refine gate_callee (f := 93) rfl ?_); refine mGo 5 Try.func93 #[.int .i64 a0_0, .int .i64 1, .int .i64 7] ?_; (with_reducible refine (spec_l1In.calls a0_0 1 7 false _ A2.out).mono ?_); rintro e w' ⟨rfl, ⟨nd, rfl⟩⟩; refine ⟨_, rfl, ?_⟩))
  go_ret
  exact ⟨mEw, (mH1 HB.out GE288.out)⟩

/-! ### spec_l8Has: function 127 -/
def spec_l8Has.l0 : Nat → List (S31) → Int → Int → Int → Option (Bool)
 | 0, _, _, _, _ => none
 | k + 1, x0, x5, x292000, x292001 => if x5 < (x0.length : Int) then (if 0 ≤ x5 then (if (((rd_T31 x0 x5).f0) == x292000 && (((rd_T31 x0 x5).f1) == x292001)) = true then (some true) else (spec_l8Has.l0 k x0 (wrap64 (x5 + 1)) x292000 x292001)) else (none)) else (some false)
def spec_l8Has.f (k : Nat) (l0 : List (S31)) (a1_0 : Int) (a1_1 : Int) : Option (Bool) := spec_l8Has.l0 k l0 0 a1_0 a1_1
theorem spec_l8Has.mono_l : ∀ k, (∀ y0 y1 y2 y3, LeO (spec_l8Has.l0 k y0 y1 y2 y3) (spec_l8Has.l0 (k + 1) y0 y1 y2 y3))
 | 0 => fun _ _ _ _ r h => by simp [spec_l8Has.l0] at h
 | k + 1 => by
  have ih0 := spec_l8Has.mono_l k
  ·intro y0 y1 y2 y3
   unfold spec_l8Has.l0
   repeat' first
   | (with_reducible exact ih0 _ _ _ _)
   | (with_reducible exact LeO.refl _)
   | (with_reducible exact LeO.none _)
   | (with_reducible refine LeO.ite ?_ ?_)
   | (with_reducible refine LeO.bind ?_ (fun _ => ?_))
   | exact ih0 _ _ _ _
   | exact LeO.none _
   | refine LeO.ite ?_ ?_
   | refine LeO.bind ?_ (fun _ => ?_)
theorem spec_l8Has.mono : ∀ a0 a1 a2 k, LeO (spec_l8Has.f k a0 a1 a2) (spec_l8Has.f (k + 1) a0 a1 a2) := by
 intro a0 a1 a2 k
 have ih0 := spec_l8Has.mono_l k
 unfold spec_l8Has.f
 repeat' first
   | (with_reducible exact ih0 _ _ _ _)
   | (with_reducible exact LeO.refl _)
   | (with_reducible exact LeO.none _)
   | (with_reducible refine LeO.ite ?_ ?_)
   | (with_reducible refine LeO.bind ?_ (fun _ => ?_))
   | exact ih0 _ _ _ _
   | exact LeO.none _
   | refine LeO.ite ?_ ?_
   | refine LeO.bind ?_ (fun _ => ?_)
set_option maxHeartbeats 8000000 in
set_option maxRecDepth 100000 in
theorem spec_l8Has.calls (k : Nat) (A0 : Option Addr) (c0 : Nat) (l0 : List (S31)) (a1_0 : Int) (a1_1 : Int) (r : Bool) (w : World) (hr0 : Kd.C k31 w A0 l0.length l0) (hc0 : l0.length ≤ c0) (h : spec_l8Has.f k l0 a1_0 a1_1 = some r) :
  Calls Try.prog 127 #[.slice A0 l0.length c0, .agg #[.int .i64 a1_0, .int .i64 a1_1]] w fun e w' => e = .returned (.bool r) ∧ Below w.heap.size w w' := by
 have hu31 := Try.underlying31
 have HR0 := mS hr0
 have HC0 := mS hc0
 clear hr0 hc0
 have HB := mS (Below.refl w.heap.size w)
 have H : (spec_l8Has.l0 k l0 0 a1_0 a1_1) = some r := h
 clear h
 have H' := mS H
 clear H
 go_enter Try.func127, Try.ntmps127
 go_wp2_with (first | ((with_reducible refine gate_dst (N := 3) rfl ?_); refine mBx 3 #[.int .i64 a1_0, .int .i64 a1_1] 31 ?_; intro gb291 hg w3 hbox hb; have BK291 := mS (hbox); have GW291 := mG hg (mH HB.out); have GE291 := mG hg (mH HB.out); replace HB := mS (below_step (mH HB.out) hb); clear hb hbox hg))
 repeat (go_quiet (first | ((with_reducible refine gate_dst (N := 3) rfl ?_); refine mBx 3 #[.int .i64 a1_0, .int .i64 a1_1] 31 ?_; intro gb291 hg w3 hbox hb; have BK291 := mS (hbox); have GW291 := mG hg (mH HB.out); have GE291 := mG hg (mH HB.out); replace HB := mS (below_step (mH HB.out) hb); clear hb hbox hg)); try go_wp2_with (first | ((with_reducible refine gate_dst (N := 3) rfl ?_); refine mBx 3 #[.int .i64 a1_0, .int .i64 a1_1] 31 ?_; intro gb291 hg w3 hbox hb; have BK291 := mS (hbox); have GW291 := mG hg (mH HB.out); have GE291 := mG hg (mH HB.out); replace HB := mS (below_step (mH HB.out) hb); clear hb hbox hg)))
 go_loopg [5] k (fun kq v5 w' => ∃ (x5_1 : Int), v5 = .int .i64 x5_1 ∧ Aside0 (spec_l8Has.l0 kq l0 x5_1 a1_0 a1_1 = some r) ∧ Aside0 (kq ≤ k) ∧ Aside0 (w'.heap[gb291]? = some (.cells #[.int .i64 a1_0, .int .i64 a1_1] 31 (0, 0))) ∧ Aside0 (Below w.heap.size w w'))
 case atStart => exact ⟨(0), mE, H', ⟨Nat.le_refl _⟩, ⟨mK BK291.out⟩, ⟨(mH1 HB.out GE291.out)⟩⟩
 case round =>
  clear H'
  try clear c1
  try clear p2
  obtain ⟨x5_1, rfl, HA, HK1, BK291, HB⟩ := hrel
  cases gk with
  | zero => exact absurd HA.out (by simp [spec_l8Has.l0])
  | succ k1 =>
   have H := HA.out
   clear HA
   simp only [spec_l8Has.l0] at H
   by_cases c4 : x5_1 < (l0.length : Int)
   ·rw [if_pos c4] at H
    have c4b0 := decide_eq_true c4
    clear c4
    by_cases c5 : 0 ≤ x5_1
    ·rw [if_pos c5] at H
     have c5b0 := decide_eq_true c5
     clear c5
     by_cases c6 : (((rd_T31 l0 x5_1).f0) == a1_0 && (((rd_T31 l0 x5_1).f1) == a1_1)) = true
     ·rw [if_pos c6] at H
      have c6b0 : (((rd_T31 l0 x5_1).f0) == a1_0 && (((rd_T31 l0 x5_1).f1) == a1_1)) = true := c6
      (try (have c6b1 : decide (((rd_T31 l0 x5_1).f0) = a1_0 && (((rd_T31 l0 x5_1).f1) == a1_1)) = true := by simpa using c6))
      (try (have c6b2 : (((rd_T31 l0 x5_1).f0) == a1_0 && (((rd_T31 l0 x5_1).f1) == a1_1)) = true := by simpa using c6))
      clear c6
      obtain rfl := Option.some.inj H
      have p292 : 0 ≤ (x5_1 : Int) := mD
      have q292 : x5_1 < (l0.length : Int) := mD
      obtain ⟨ad292, e292, hx292_0, hx292_1⟩ := at_T31 HR0.out x5_1 p292 q292
      cases e292
      replace hx292_0 := mX HB.out hx292_0
      replace hx292_1 := mX HB.out hx292_1
      replace p292 := eq_true p292
      replace q292 := eq_true q292
      obtain ⟨hcz7_0, hcz7_1, hfz7_0, hfz7_1⟩ := mZ2 BK291.out
      go_wp2
      repeat (go_quiet (fail); try go_wp2)
      go_ret
      exact ⟨mEw, (mH1 HB.out GE291.out)⟩
     ·rw [if_neg c6] at H
      have c6b0 : (((rd_T31 l0 x5_1).f0) == a1_0 && (((rd_T31 l0 x5_1).f1) == a1_1)) = false := by simpa using c6
      (try (have c6b1 : decide (((rd_T31 l0 x5_1).f0) = a1_0 && (((rd_T31 l0 x5_1).f1) == a1_1)) = false := by simpa using c6))
      (try (have c6b2 : (((rd_T31 l0 x5_1).f0) == a1_0 && (((rd_T31 l0 x5_1).f1) == a1_1)) = false := by simpa using c6))
      (try (have c6b3 : ¬ (((rd_T31 l0 x5_1).f0) = a1_0 && (((rd_T31 l0 x5_1).f1) == a1_1)) := by simpa using c6))
      clear c6
      have H' := mS H
      clear H
      have p292 : 0 ≤ (x5_1 : Int) := mD
      have q292 : x5_1 < (l0.length : Int) := mD
      obtain ⟨ad292, e292, hx292_0, hx292_1⟩ := at_T31 HR0.out x5_1 p292 q292
      cases e292
      replace hx292_0 := mX HB.out hx292_0
      replace hx292_1 := mX HB.out hx292_1
      replace p292 := eq_true p292
      replace q292 := eq_true q292
      obtain ⟨hcz8_0, hcz8_1, hfz8_0, hfz8_1⟩ := mZ2 BK291.out
      go_wp2
      repeat (go_quiet (fail); try go_wp2)
      go_roundg k1
      case measure => have := HK1.out; omega
      case rel => exact ⟨(wrap64 (x5_1 + 1)), mE, H', ⟨by have := HK1.out; omega⟩, ⟨mK BK291.out⟩, ⟨(mH1 HB.out GE291.out)⟩⟩
    ·rw [if_neg c5] at H
     exact absurd H (by simp)
   ·rw [if_neg c4] at H
    have c4b0 := decide_eq_false c4
    clear c4
    obtain rfl := Option.some.inj H
    go_wp2
    repeat (go_quiet (fail); try go_wp2)
    go_ret
    exact ⟨mEw, (mH1 HB.out GE291.out)⟩

end Go.Proofs.Ytgbejjeephipeaa.MFnExactOrderOf
