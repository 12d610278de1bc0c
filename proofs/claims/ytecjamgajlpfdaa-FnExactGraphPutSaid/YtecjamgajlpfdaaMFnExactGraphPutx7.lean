-- Written by mp.py, this session's own printer (wip/mp.py).
import Derived.Test.YtecjamgajlpfdaaVMShort
import Derived.Test.YtecjamgajlpfdaaMFnExactGraphPutx0
namespace Go.Proofs.Ytecjamgajlpfdaa.MFnExactGraphPut
open Go.RowKit Go.Proofs.YtecjamgajlpfdaaW.PrintWords Go.Proofs.YtecjamgajlpfdaaW.PrintLast Go.Proofs.YtecjamgajlpfdaaW.PrintMore Go.Proofs.Ytecjamgajlpfdaa.MWords
attribute [local go_sem] max2_int min2_int max_two min_two max_three min_three max_four min_four   -- for this text's walks alone
set_option linter.unusedVariables false
set_option linter.unusedSimpArgs false

/-! ### laws_toDot: function 58 -/
def laws_toDot.f (a0_0 : Int) (a0_1 : Int) : Option (Int × Int) := some (a0_0, a0_1)
set_option maxHeartbeats 8000000 in
set_option maxRecDepth 100000 in
theorem laws_toDot.calls (a0_0 : Int) (a0_1 : Int) (r1 : Int) (r2 : Int) (w : World) (h : laws_toDot.f a0_0 a0_1 = some (r1, r2)) :
  Calls Try.prog 58 #[.agg #[.int .i64 a0_0, .int .i64 a0_1]] w fun e w' => e = .returned (.agg #[.int .i64 r1, .int .i64 r2]) ∧ Below w.heap.size w w' := by
 have hu44 := Try.underlying44
 have hu56 := Try.underlying56
 have HB := mS (Below.refl w.heap.size w)
 have H : (some (a0_0, a0_1)) = some (r1, r2) := h
 clear h
 simp only [Option.some.injEq, Prod.mk.injEq] at H
 obtain ⟨rfl, rfl⟩ := H
 go_enter Try.func58, Try.ntmps58
 go_wp2_with (first | ((with_reducible refine gate_dst (N := 1) rfl ?_); refine mBx 1 #[.int .i64 a0_0, .int .i64 a0_1] 44 ?_; intro gb197 hg w2 hbox hb; have BK197 := mS (hbox); have GW197 := mG hg (mH HB.out); have GE197 := mG hg (mH HB.out); replace HB := mS (below_step (mH HB.out) hb); clear hb hbox hg) | ((with_reducible refine gate_dst (N := 2) rfl ?_); refine mBx 2 #[.int .i64 0, .int .i64 0] 56 ?_; intro gb198 hg w3 hbox hb; have BK198 := mS (hbox); have GW198 := mG hg (mH1 HB.out GE197.out); have GE198 := mG hg (mH1 HB.out GE197.out); replace HB := mS (below_step (mH1 HB.out GE197.out) hb); have NB197_198 := mNl hg BK197.out; have NB198_197 := mNg hg BK197.out; replace BK197 := mB BK197 hb; clear hb hbox hg) | ((with_reducible refine gate_dst (N := 3) rfl ?_); refine mBx 3 #[.int .i64 0, .int .i64 0] 56 ?_; intro gb199 hg w4 hbox hb; have BK199 := mS (hbox); have GW199 := mG hg (mH2 HB.out GE197.out GE198.out); have GE199 := mG hg (mH2 HB.out GE197.out GE198.out); replace HB := mS (below_step (mH2 HB.out GE197.out GE198.out) hb); have NB197_199 := mNl hg BK197.out; have NB199_197 := mNg hg BK197.out; replace BK197 := mB BK197 hb; have NB198_199 := mNl hg BK198.out; have NB199_198 := mNg hg BK198.out; replace BK198 := mB BK198 hb; clear hb hbox hg; have hnb5 := NB197_198.out; have hnc5 := NB198_197.out; have hnb6 := NB197_199.out; have hnc6 := NB199_197.out; obtain ⟨hcz7_0, hcz7_1, hfz7_0, hfz7_1⟩ := mZ2 BK197.out; have hnb8 := NB199_198.out; have hnc8 := NB198_199.out; obtain ⟨hcz9_0, hcz9_1, hfz9_0, hfz9_1⟩ := mZ2 BK199.out; obtain ⟨hcz10_0, hcz10_1, hfz10_0, hfz10_1⟩ := mZ2 BK198.out))
 refine bodyPost_ret (results_cell_row rfl _ _ gb198 56 #[.int .i64 a0_0, .int .i64 a0_1] (0, 0) _ rfl (by refine mK ?_; refine blk_put (cs := #[.int .i64 a0_0, .int .i64 0]) ?_ 1 _ rfl; refine mK ?_; refine blk_put (cs := #[.int .i64 0, .int .i64 0]) ?_ 0 _ rfl; exact mKf NB198_199.out BK198.out) Try.underlying56 rfl (by kernel_rfl)) rfl ?_
 exact ⟨mEw, (mH3 HB.out GE197.out GE198.out GE199.out)⟩

/-! ### laws_toDotS: function 59 -/
def laws_toDotS.l0 : Nat → List (S44) → List (S56) → Int → Option ((List (S56)))
 | 0, _, _, _ => none
 | k + 1, x0, x3, x4 => if x4 < (x0.length : Int) then (if 0 ≤ x4 then ((laws_toDot.f ((rd_T44 x0 x4).f0) ((rd_T44 x0 x4).f1)).bind fun bt204 => (if x4 < (x3.length : Int) then (laws_toDotS.l0 k x0 (x3.set (x4 : Int).toNat (⟨bt204.1, bt204.2⟩ : S56)) (wrap64 (x4 + 1))) else (none))) else (none)) else (some x3)
def laws_toDotS.f (k : Nat) (l0 : List (S44)) : Option ((List (S56))) := if 0 ≤ (l0.length : Int) then (if ((l0.length : Int) : Int).toNat ≤ 17592186044416 then (laws_toDotS.l0 k l0 (List.replicate ((l0.length : Int) : Int).toNat z56) 0) else (none)) else (none)
theorem laws_toDotS.mono_l : ∀ k, (∀ y0 y1 y2, LeO (laws_toDotS.l0 k y0 y1 y2) (laws_toDotS.l0 (k + 1) y0 y1 y2))
 | 0 => fun _ _ _ r h => by simp [laws_toDotS.l0] at h
 | k + 1 => by
  have ih0 := laws_toDotS.mono_l k
  ·intro y0 y1 y2
   unfold laws_toDotS.l0
   repeat' first
   | (with_reducible exact ih0 _ _ _)
   | (with_reducible exact LeO.refl _)
   | (with_reducible exact LeO.none _)
   | (with_reducible refine LeO.ite ?_ ?_)
   | (with_reducible refine LeO.bind ?_ (fun _ => ?_))
   | exact ih0 _ _ _
   | exact LeO.none _
   | refine LeO.ite ?_ ?_
   | refine LeO.bind ?_ (fun _ => ?_)
theorem laws_toDotS.mono : ∀ a0 k, LeO (laws_toDotS.f k a0) (laws_toDotS.f (k + 1) a0) := by
 intro a0 k
 have ih0 := laws_toDotS.mono_l k
 unfold laws_toDotS.f
 repeat' first
   | (with_reducible exact ih0 _ _ _)
   | (with_reducible exact LeO.refl _)
   | (with_reducible exact LeO.none _)
   | (with_reducible refine LeO.ite ?_ ?_)
   | (with_reducible refine LeO.bind ?_ (fun _ => ?_))
   | exact ih0 _ _ _
   | exact LeO.none _
   | refine LeO.ite ?_ ?_
   | refine LeO.bind ?_ (fun _ => ?_)
set_option maxHeartbeats 8000000 in
set_option maxRecDepth 100000 in
theorem laws_toDotS.calls (k : Nat) (A0 : Option Addr) (c0 : Nat) (l0 : List (S44)) (r : List (S56)) (w : World) (hr0 : Kd.C k44 w A0 l0.length l0) (hc0 : l0.length ≤ c0) (h : laws_toDotS.f k l0 = some r) :
  Calls Try.prog 59 #[.slice A0 l0.length c0] w fun e w' => ∃ v0_ : Value, e = .returned (v0_) ∧ Kd.R k56 56 w' w.heap.size (fun _ => True) v0_ r ∧ Below w.heap.size w w' := by
 have hu44 := Try.underlying44
 have hu56 := Try.underlying56
 have HR0 := mS hr0
 have HC0 := mS hc0
 clear hr0 hc0
 have HB := mS (Below.refl w.heap.size w)
 have H : (if 0 ≤ (l0.length : Int) then (if ((l0.length : Int) : Int).toNat ≤ 17592186044416 then (laws_toDotS.l0 k l0 (List.replicate ((l0.length : Int) : Int).toNat z56) 0) else (none)) else (none)) = some r := h
 clear h
 by_cases c2 : 0 ≤ (l0.length : Int)
 ·rw [if_pos c2] at H
  have c2b0 := eq_true c2
  have c2b1 := decide_eq_true c2
  clear c2
  by_cases c3 : ((l0.length : Int) : Int).toNat ≤ 17592186044416
  ·rw [if_pos c3] at H
   have c3b0 := eq_true c3
   have c3b1 := decide_eq_true c3
   clear c3
   obtain ⟨y200, hy200⟩ : ∃ y_ : List (S56), y_ = (List.replicate ((l0.length : Int) : Int).toNat z56) := ⟨_, rfl⟩
   replace H : (laws_toDotS.l0 k l0 y200 0) = some r := by first | (rw [hy200]; with_reducible exact H) | (have H2_ := (Option.bind_some _ _).symm.trans H; rw [hy200]; with_reducible exact H2_) | (have H2_ := (Option.bind_some _ _).symm.trans H; with_reducible exact H2_) | with_reducible exact H | (rw [hy200]; exact H) | exact H
   have Ny200 := mS hy200
   clear hy200
   have H' := mS H
   clear H
   go_enter Try.func59, Try.ntmps59
   go_wp2_with (first | ((with_reducible refine gate_dst (N := 7) rfl ?_); refine Kd.R_make k56 _ 56 rfl (N := 7) rfl 57 _ _ rfl (l0.length : Int) rfl rfl Try.underlying57 (.agg #[(.int .i64 0), (.int .i64 0)]) 16 info56 rfl (by decide) (by omega) z56 (ok := fun _ => True) (okp := fun _ => True) (k56_mkM _ _ _ z56 ) (fun _ hk => hk) trivial (mD) (Nat.le_trans (Nat.mul_le_mul_right _ (mD : (l0.length : Int).toNat ≤ 17592186044416)) (by omega)) (Below.refl _ _) (Nat.le_refl _) ?_; intro v201 w4 ho5 hb hg_ hnew_; clear hg_ hnew_; (first | rw [← Ny200.out] at ho5 | (simp only [Int.reduceToNat] at ho5; rw [← Ny200.out] at ho5)); have HO202 := mS (Kd.R_lower ho5 (below_size (mH HB.out))); replace HB := mS (below_step (mH HB.out) hb); clear hb ho5))
   go_loopg [4] k (fun kq v4 w' => ∃ (x3_1 : List (S56)) (x4_1 : Int), v4 = .int .i64 x4_1 ∧ Aside0 (laws_toDotS.l0 kq l0 x3_1 x4_1 = some r) ∧ Aside0 (kq ≤ k) ∧ Aside0 (Kd.R k56 56 w' w.heap.size (fun _ => True) v201 x3_1) ∧ Aside0 (Below w.heap.size w w'))
   case atStart => exact ⟨(y200), (0), mE, H', ⟨Nat.le_refl _⟩, ⟨mR HO202.out⟩, ⟨(mH HB.out)⟩⟩
   case round =>
    clear H'
    try clear c2
    try clear c2b0
    try clear c2b1
    try clear p2
    try clear c3
    try clear c3b0
    try clear c3b1
    try clear c5
    obtain ⟨x3_1, x4_1, rfl, HA, HK1, HO_3, HB⟩ := hrel
    cases gk with
    | zero => exact absurd HA.out (by simp [laws_toDotS.l0])
    | succ k1 =>
     have H := HA.out
     clear HA
     simp only [laws_toDotS.l0] at H
     by_cases c6 : x4_1 < (l0.length : Int)
     ·rw [if_pos c6] at H
      have c6b0 := decide_eq_true c6
      clear c6
      by_cases c7 : 0 ≤ x4_1
      ·rw [if_pos c7] at H
       have c7b0 := decide_eq_true c7
       clear c7
       replace H := Option.bind_eq_some_iff.mp H
       obtain ⟨⟨t204, t205⟩, A80, H⟩ := H
       replace H : (if x4_1 < (x3_1.length : Int) then (laws_toDotS.l0 k1 l0 (x3_1.set (x4_1 : Int).toNat (⟨t204, t205⟩ : S56)) (wrap64 (x4_1 + 1))) else (none)) = some r := H
       have A8 := mS A80
       clear A80
       by_cases c9 : x4_1 < (x3_1.length : Int)
       ·rw [if_pos c9] at H
        have c9b0 := decide_eq_true c9
        clear c9
        obtain ⟨y206, hy206⟩ : ∃ y_ : List (S56), y_ = (x3_1.set (x4_1 : Int).toNat (⟨t204, t205⟩ : S56)) := ⟨_, rfl⟩
        replace H : (laws_toDotS.l0 k1 l0 y206 (wrap64 (x4_1 + 1))) = some r := by first | (rw [hy206]; with_reducible exact H) | (have H2_ := (Option.bind_some _ _).symm.trans H; rw [hy206]; with_reducible exact H2_) | (have H2_ := (Option.bind_some _ _).symm.trans H; with_reducible exact H2_) | with_reducible exact H | (rw [hy206]; exact H) | exact H
        have Ny206 := mS hy206
        clear hy206
        have H' := mS H
        clear H
        have p203 : 0 ≤ (x4_1 : Int) := mD
        have q203 : x4_1 < (l0.length : Int) := mD
        obtain ⟨ad203, e203, hx203_0, hx203_1⟩ := at_T44 HR0.out x4_1 p203 q203
        cases e203
        replace hx203_0 := mX HB.out hx203_0
        replace hx203_1 := mX HB.out hx203_1
        replace p203 := eq_true p203
        replace q203 := eq_true q203
        go_wp2_with (first | ((with_reducible refine gate_callee (f := 58) rfl ?_); refine mGo 20 Try.func58 #[.agg #[.int .i64 ((rd_T44 l0 x4_1).f0), .int .i64 ((rd_T44 l0 x4_1).f1)]] ?_; (with_reducible refine (laws_toDot.calls ((rd_T44 l0 x4_1).f0) ((rd_T44 l0 x4_1).f1) t204 t205 _ A8.out).mono ?_); rintro e w11 ⟨rfl, hb⟩; refine ⟨_, rfl, ?_⟩; replace HO_3 := mS (Kd.R_below (mR HO_3.out) hb); replace HB := mS (below_step (mH HB.out) hb); (try clear hb); have p10 : 0 ≤ (x4_1 : Int) := mD; have q10 : (x4_1 : Int) < ((x3_1.length : Int) : Int) := mD; obtain ⟨go10, co10, eo10, gb10, gl10, cl10, HG10⟩ := Kd.R_form HO_3.out (by omega); (first | cases eo10 | (injection eo10 with ea_ en_ ec_; (first | subst ea_ | (injection ea_ with ea_; subst ea_)); subst ec_; clear en_)); have GB10 := mS gb10; have GG10 := mS HG10; clear gb10 gl10 HG10; obtain ⟨ce10, hcl10, hM10, hcc10, hfr10⟩ := Kd.R_elem HO_3.out z56 (x4_1 : Int) p10 q10; obtain rfl := k56_openM hM10; have hx10_0 : w11.cell? ⟨go10, (x4_1 : Int).toNat * 2, none⟩ = some (.int .i64 ((rd_T56 x3_1 x4_1).f0)) := hcc10 0 _ rfl; have hx10_1 : w11.cell? ⟨go10, (x4_1 : Int).toNat * 2 + 1, none⟩ = some (.int .i64 ((rd_T56 x3_1 x4_1).f1)) := hcc10 1 _ rfl; have hf10_0 : w11.frozen? ⟨go10, (x4_1 : Int).toNat * 2, none⟩ = false := hfr10 0; have hf10_1 : w11.frozen? ⟨go10, (x4_1 : Int).toNat * 2 + 1, none⟩ = false := hfr10 1; clear hcl10 hcc10 hfr10; (try clear hM10); replace p10 := eq_true p10; replace q10 := eq_true q10; have HX12 := mS (show Kd.R k56 56 w11 w.heap.size (fun _ => True) (.slice (some ⟨go10, 0, none⟩) x3_1.length co10) x3_1 from (mR HO_3.out)); obtain ⟨ce12, hcl12, hM12, hcc12, hfr12⟩ := Kd.R_elem HX12.out z56 (x4_1 : Int) (mD) (by have h_ : (x4_1 : Int) < ((x3_1.length : Int) : Int) := mD; first | exact h_ | (have e_ := (Kd.R_reads' HO_3.out).1; omega) | simpa using h_); obtain rfl := k56_openM hM12; have HP12 := Kd.R_seg HX12.out (x4_1 : Int) (mD) (by have h_ : (x4_1 : Int) < ((x3_1.length : Int) : Int) := mD; first | exact h_ | (have e_ := (Kd.R_reads' HO_3.out).1; omega) | simpa using h_) (seg := [.int .i64 t204, .int .i64 t205]) (j := 0) hcl12 hcc12 (show 2 ≤ 2 from by decide) (x' := (⟨t204, t205⟩ : S56)) (k56_mkM _ _ _ (⟨t204, t205⟩ : S56) ) (fun _ hk => hk); have hx12_0 := hcc12 0 _ rfl; (try simp only [show (k56).sz = 2 from rfl, Nat.mul_one, Nat.add_zero] at hx12_0); have hf12_0 := hfr12 0; (try simp only [show (k56).sz = 2 from rfl, Nat.mul_one, Nat.add_zero] at hf12_0); have hx12_1 := hcc12 1 _ rfl; (try simp only [show (k56).sz = 2 from rfl, Nat.mul_one, Nat.add_zero] at hx12_1); have hf12_1 := hfr12 1; (try simp only [show (k56).sz = 2 from rfl, Nat.mul_one, Nat.add_zero] at hf12_1); clear hcl12 hcc12 hfr12 hM12) | ((with_reducible refine gate_store (t := 56) (p := 21) rfl ?_); refine store_event (t := 56) (p := 21) (v := ?vo_w13) (w1 := ((w11.setCell ⟨go10, (x4_1 : Int).toNat * 2, none⟩ (.int .i64 t204)).setCell ⟨go10, (x4_1 : Int).toNat * 2 + 1, none⟩ (.int .i64 t205))) ?hg ?ho ?hn ?hr ?_; (case ho => rfl); (case hg => rfl); (case hn => rfl); (case hr => first | (go_simp; done) | (go_simp; rfl)); intro w13 hw; have hg : w11.grownBy w13 (some go10) := (by rw [hw]; exact HP12.2); have hp_ : Kd.R k56 56 w13 w.heap.size (fun _ => True) (.slice (some ⟨go10, 0, none⟩) x3_1.length co10) y206 := (by rw [hw, Ny206.out]; exact HP12.1); clear HP12; replace HO_3 := mS (hp_); replace HB := mS ((by rw [hw]; exact below_set (below_set (HB.out) GB10.out) GB10.out : Below w.heap.size w w13)); clear hg hw hp_))
        go_roundg k1
        case measure => have := HK1.out; omega
        case rel => exact ⟨(y206), (wrap64 (x4_1 + 1)), mE, H', ⟨by have := HK1.out; omega⟩, ⟨mR HO_3.out⟩, ⟨(mH HB.out)⟩⟩
       ·rw [if_neg c9] at H
        exact absurd H (by simp)
      ·rw [if_neg c7] at H
       exact absurd H (by simp)
     ·rw [if_neg c6] at H
      have c6b0 := decide_eq_false c6
      clear c6
      obtain rfl := Option.some.inj H
      go_wp2
      go_ret
      exact ⟨_, mEw, mR HO_3.out, (mH HB.out)⟩
  ·rw [if_neg c3] at H
   exact absurd H (by simp)
 ·rw [if_neg c2] at H
  exact absurd H (by simp)

/-! ### laws_toItem: function 27 -/
def laws_toItem.f (k : Nat) (a0_0 : Int) (a0_1 : Int) (l0_2 : List (S44)) : Option (Int × Int × (List (S56))) := (laws_toDot.f a0_0 a0_1).bind fun bt210 => ((laws_toDotS.f k l0_2).bind fun t212 => (some (bt210.1, bt210.2, t212)))
theorem laws_toItem.mono : ∀ a0 a1 a2 k, LeO (laws_toItem.f k a0 a1 a2) (laws_toItem.f (k + 1) a0 a1 a2) := by
 intro a0 a1 a2 k
 unfold laws_toItem.f
 repeat' first
   | (with_reducible exact laws_toDotS.mono _ _)
   | (with_reducible exact LeO.refl _)
   | (with_reducible exact LeO.none _)
   | (with_reducible refine LeO.ite ?_ ?_)
   | (with_reducible refine LeO.bind ?_ (fun _ => ?_))
   | exact laws_toDotS.mono _ _
   | exact LeO.none _
   | refine LeO.ite ?_ ?_
   | refine LeO.bind ?_ (fun _ => ?_)
set_option maxHeartbeats 8000000 in
set_option maxRecDepth 100000 in
theorem laws_toItem.calls (k : Nat) (a0_0 : Int) (a0_1 : Int) (A0_2 : Option Addr) (c0_2 : Nat) (l0_2 : List (S44)) (r1 : Int) (r2 : Int) (r3 : List (S56)) (w : World) (hr0_2 : Kd.C k44 w A0_2 l0_2.length l0_2) (hc0_2 : l0_2.length ≤ c0_2) (h : laws_toItem.f k a0_0 a0_1 l0_2 = some (r1, r2, r3)) :
  Calls Try.prog 27 #[.agg #[.int .i64 a0_0, .int .i64 a0_1, .slice A0_2 l0_2.length c0_2]] w fun e w' => ∃ v2_ : Value, e = .returned (.agg #[.int .i64 r1, .int .i64 r2, v2_]) ∧ Kd.R k56 56 w' w.heap.size (fun _ => True) v2_ r3 ∧ Below w.heap.size w w' := by
 have hu47 := Try.underlying47
 have hu59 := Try.underlying59
 have hu44 := Try.underlying44
 have hu56 := Try.underlying56
 have HR0_2 := mS hr0_2
 have HC0_2 := mS hc0_2
 clear hr0_2 hc0_2
 have HB := mS (Below.refl w.heap.size w)
 have H : ((laws_toDot.f a0_0 a0_1).bind fun bt210 => ((laws_toDotS.f k l0_2).bind fun t212 => (some (bt210.1, bt210.2, t212)))) = some (r1, r2, r3) := h
 clear h
 replace H := Option.bind_eq_some_iff.mp H
 obtain ⟨⟨t210, t211⟩, A20, H⟩ := H
 replace H : ((laws_toDotS.f k l0_2).bind fun t212 => (some (t210, t211, t212))) = some (r1, r2, r3) := H
 have A2 := mS A20
 clear A20
 replace H := Option.bind_eq_some_iff.mp H
 obtain ⟨t212, A30, H⟩ := H
 replace H : (some (t210, t211, t212)) = some (r1, r2, r3) := H
 have A3 := mS A30
 clear A30
 simp only [Option.some.injEq, Prod.mk.injEq] at H
 obtain ⟨rfl, rfl, rfl⟩ := H
 go_enter Try.func27, Try.ntmps27
 go_wp2_with (first | ((with_reducible refine gate_dst (N := 1) rfl ?_); refine mBx 1 #[.int .i64 a0_0, .int .i64 a0_1, .slice A0_2 l0_2.length c0_2] 47 ?_; intro gb207 hg w4 hbox hb; have BK207 := mS (hbox); have GW207 := mG hg (mH HB.out); have GE207 := mG hg (mH HB.out); replace HB := mS (below_step (mH HB.out) hb); clear hb hbox hg) | ((with_reducible refine gate_dst (N := 2) rfl ?_); refine mBx 2 #[.int .i64 0, .int .i64 0, .slice none 0 0] 59 ?_; intro gb208 hg w5 hbox hb; have BK208 := mS (hbox); have GW208 := mG hg (mH1 HB.out GE207.out); have GE208 := mG hg (mH1 HB.out GE207.out); replace HB := mS (below_step (mH1 HB.out GE207.out) hb); have NB207_208 := mNl hg BK207.out; have NB208_207 := mNg hg BK207.out; replace BK207 := mB BK207 hb; clear hb hbox hg) | ((with_reducible refine gate_dst (N := 3) rfl ?_); refine mBx 3 #[.int .i64 0, .int .i64 0, .slice none 0 0] 59 ?_; intro gb209 hg w6 hbox hb; have BK209 := mS (hbox); have GW209 := mG hg (mH2 HB.out GE207.out GE208.out); have GE209 := mG hg (mH2 HB.out GE207.out GE208.out); replace HB := mS (below_step (mH2 HB.out GE207.out GE208.out) hb); have NB207_209 := mNl hg BK207.out; have NB209_207 := mNg hg BK207.out; replace BK207 := mB BK207 hb; have NB208_209 := mNl hg BK208.out; have NB209_208 := mNg hg BK208.out; replace BK208 := mB BK208 hb; clear hb hbox hg; have hnb7 := NB207_208.out; have hnc7 := NB208_207.out; have hnb8 := NB207_209.out; have hnc8 := NB209_207.out; obtain ⟨hcz9_0, hcz9_1, hcz9_2, hfz9_0, hfz9_1, hfz9_2⟩ := mZ3 BK207.out) | ((with_reducible refine gate_callee (f := 58) rfl ?_); refine mGo 6 Try.func58 #[.agg #[.int .i64 a0_0, .int .i64 a0_1]] ?_; (with_reducible refine (laws_toDot.calls a0_0 a0_1 t210 t211 _ A2.out).mono ?_); rintro e w10 ⟨rfl, hb⟩; refine ⟨_, rfl, ?_⟩; replace BK207 := mB BK207 hb; replace BK208 := mB BK208 hb; replace BK209 := mB BK209 hb; replace HB := mS (below_step (mH3 HB.out GE207.out GE208.out GE209.out) hb); (try clear hb); have hnb11 := NB209_208.out; have hnc11 := NB208_209.out; obtain ⟨hcz12_0, hcz12_1, hcz12_2, hfz12_0, hfz12_1, hfz12_2⟩ := mZ3 BK209.out; obtain ⟨hcz13_0, hcz13_1, hcz13_2, hfz13_0, hfz13_1, hfz13_2⟩ := mZ3 BK207.out) | ((with_reducible refine gate_callee (f := 59) rfl ?_); refine mGo 10 Try.func59 #[.slice A0_2 l0_2.length c0_2] ?_; (with_reducible refine (laws_toDotS.calls k _ _ l0_2 t212 _ ?side1 ?side2 A3.out).mono ?_); (case side1 => exact Kd.C_below HR0_2.out (mH3 HB.out GE207.out GE208.out GE209.out)); (case side2 => exact HC0_2.out); rintro e w14 ⟨v213, rfl, ho0, hb⟩; refine ⟨_, rfl, ?_⟩; have HO214 := mS (Kd.R_lower ho0 (below_size (mH3 HB.out GE207.out GE208.out GE209.out))); replace BK207 := mS (blk_below (g := gb207) (o := .cells #[.int .i64 a0_0, .int .i64 a0_1, .slice A0_2 l0_2.length c0_2] 47 (0, 0)) (mKf NB207_209.out BK207.out) hb); replace BK208 := mS (blk_below (g := gb208) (o := .cells #[.int .i64 0, .int .i64 0, .slice none 0 0] 59 (0, 0)) (mKf NB208_209.out BK208.out) hb); replace BK209 := mS (blk_below (g := gb209) (o := .cells #[.int .i64 t210, .int .i64 t211, .slice none 0 0] 59 (0, 0)) (by refine mK ?_; refine blk_put (cs := #[.int .i64 t210, .int .i64 0, .slice none 0 0]) ?_ 1 _ rfl; refine mK ?_; refine blk_put (cs := #[.int .i64 0, .int .i64 0, .slice none 0 0]) ?_ 0 _ rfl; refine mK ?_; exact BK209.out) hb); replace HB := mS (below_step (mH3 HB.out GE207.out GE208.out GE209.out) hb); (try clear hb); (try clear ho0); obtain ⟨Ao15, co15, eo15⟩ := Kd.R_slice HO214.out; subst eo15; obtain ⟨hcz16_0, hcz16_1, hcz16_2, hfz16_0, hfz16_1, hfz16_2⟩ := mZ3 BK209.out; obtain ⟨hcz17_0, hcz17_1, hcz17_2, hfz17_0, hfz17_1, hfz17_2⟩ := mZ3 BK208.out))
 refine bodyPost_ret (results_cell_row rfl _ _ gb208 59 #[.int .i64 t210, .int .i64 t211, .slice Ao15 t212.length co15] (0, 0) _ rfl (by refine mK ?_; refine blk_put (cs := #[.int .i64 t210, .int .i64 t211, .slice none 0 0]) ?_ 2 _ rfl; refine mK ?_; refine blk_put (cs := #[.int .i64 t210, .int .i64 0, .slice none 0 0]) ?_ 1 _ rfl; refine mK ?_; refine blk_put (cs := #[.int .i64 0, .int .i64 0, .slice none 0 0]) ?_ 0 _ rfl; exact mKf NB208_209.out BK208.out) Try.underlying59 rfl (by kernel_rfl)) rfl ?_
 exact ⟨_, mEw, by refine mR ?_; exact Kd.R_mono (mRf3 (Kd.R_far (p := ⟨gb209, 2, none⟩) (Kd.R_types (Kd.R_types HO214.out BK209.out (by decide)) BK208.out (by decide)) (fun _ hk => hk.1.2) (.slice Ao15 t212.length co15))) (fun _ hk => trivial), (mH3 HB.out GE207.out GE208.out GE209.out)⟩

/-! ### laws_toItemS: function 57 -/
def laws_toItemS.l0 : Nat → List (S47) → List (S59) → Int → Option ((List (S59)))
 | 0, _, _, _ => none
 | k + 1, x0, x3, x4 => if x4 < (x0.length : Int) then (if 0 ≤ x4 then ((laws_toItem.f k ((rd_T47 x0 x4).f0.f0) ((rd_T47 x0 x4).f0.f1) ((rd_T47 x0 x4).f1)).bind fun bt219 => (if x4 < (x3.length : Int) then (laws_toItemS.l0 k x0 (x3.set (x4 : Int).toNat (⟨(⟨bt219.1, bt219.2.1⟩ : S56), bt219.2.2⟩ : S59)) (wrap64 (x4 + 1))) else (none))) else (none)) else (some x3)
def laws_toItemS.f (k : Nat) (l0 : List (S47)) : Option ((List (S59))) := if 0 ≤ (l0.length : Int) then (if ((l0.length : Int) : Int).toNat ≤ 7036874417766 then (laws_toItemS.l0 k l0 (List.replicate ((l0.length : Int) : Int).toNat z59) 0) else (none)) else (none)
theorem laws_toItemS.mono_l : ∀ k, (∀ y0 y1 y2, LeO (laws_toItemS.l0 k y0 y1 y2) (laws_toItemS.l0 (k + 1) y0 y1 y2))
 | 0 => fun _ _ _ r h => by simp [laws_toItemS.l0] at h
 | k + 1 => by
  have ih0 := laws_toItemS.mono_l k
  ·intro y0 y1 y2
   unfold laws_toItemS.l0
   repeat' first
   | (with_reducible exact ih0 _ _ _)
   | (with_reducible exact laws_toItem.mono _ _ _ _)
   | (with_reducible exact LeO.refl _)
   | (with_reducible exact LeO.none _)
   | (with_reducible refine LeO.ite ?_ ?_)
   | (with_reducible refine LeO.bind ?_ (fun _ => ?_))
   | exact ih0 _ _ _
   | exact laws_toItem.mono _ _ _ _
   | exact LeO.none _
   | refine LeO.ite ?_ ?_
   | refine LeO.bind ?_ (fun _ => ?_)
theorem laws_toItemS.mono : ∀ a0 k, LeO (laws_toItemS.f k a0) (laws_toItemS.f (k + 1) a0) := by
 intro a0 k
 have ih0 := laws_toItemS.mono_l k
 unfold laws_toItemS.f
 repeat' first
   | (with_reducible exact ih0 _ _ _)
   | (with_reducible exact laws_toItem.mono _ _ _ _)
   | (with_reducible exact LeO.refl _)
   | (with_reducible exact LeO.none _)
   | (with_reducible refine LeO.ite ?_ ?_)
   | (with_reducible refine LeO.bind ?_ (fun _ => ?_))
   | exact ih0 _ _ _
   | exact laws_toItem.mono _ _ _ _
   | exact LeO.none _
   | refine LeO.ite ?_ ?_
   | refine LeO.bind ?_ (fun _ => ?_)
set_option maxHeartbeats 8000000 in
set_option maxRecDepth 100000 in
theorem laws_toItemS.calls (k : Nat) (A0 : Option Addr) (c0 : Nat) (l0 : List (S47)) (r : List (S59)) (w : World) (hr0 : Kd.C k47 w A0 l0.length l0) (hc0 : l0.length ≤ c0) (h : laws_toItemS.f k l0 = some r) :
  Calls Try.prog 57 #[.slice A0 l0.length c0] w fun e w' => ∃ v0_ : Value, e = .returned (v0_) ∧ Kd.S k59 59 w' w.heap.size (fun _ => True) v0_ r ∧ Below w.heap.size w w' := by
 have hu47 := Try.underlying47
 have hu59 := Try.underlying59
 have HR0 := mS hr0
 have HC0 := mS hc0
 clear hr0 hc0
 have HB := mS (Below.refl w.heap.size w)
 have H : (if 0 ≤ (l0.length : Int) then (if ((l0.length : Int) : Int).toNat ≤ 7036874417766 then (laws_toItemS.l0 k l0 (List.replicate ((l0.length : Int) : Int).toNat z59) 0) else (none)) else (none)) = some r := h
 clear h
 by_cases c2 : 0 ≤ (l0.length : Int)
 ·rw [if_pos c2] at H
  have c2b0 := eq_true c2
  have c2b1 := decide_eq_true c2
  clear c2
  by_cases c3 : ((l0.length : Int) : Int).toNat ≤ 7036874417766
  ·rw [if_pos c3] at H
   have c3b0 := eq_true c3
   have c3b1 := decide_eq_true c3
   clear c3
   obtain ⟨y215, hy215⟩ : ∃ y_ : List (S59), y_ = (List.replicate ((l0.length : Int) : Int).toNat z59) := ⟨_, rfl⟩
   replace H : (laws_toItemS.l0 k l0 y215 0) = some r := by first | (rw [hy215]; with_reducible exact H) | (have H2_ := (Option.bind_some _ _).symm.trans H; rw [hy215]; with_reducible exact H2_) | (have H2_ := (Option.bind_some _ _).symm.trans H; with_reducible exact H2_) | with_reducible exact H | (rw [hy215]; exact H) | exact H
   have Ny215 := mS hy215
   clear hy215
   have H' := mS H
   clear H
   go_enter Try.func57, Try.ntmps57
   go_wp2_with (first | ((with_reducible refine gate_dst (N := 7) rfl ?_); refine Kd.S_make k59 _ 59 rfl (N := 7) rfl 50 _ _ rfl (l0.length : Int) rfl rfl Try.underlying50 (.agg #[(.int .i64 0), (.int .i64 0), (.slice none 0 0)]) 40 info59 rfl (by decide) (by omega) z59 (ok := fun _ => True) (okp := fun _ => True) (k59_mkM _ _ _ z59 (Kd.R_nil _ _ _ _ _)) (fun _ hk => hk) trivial (mD) (Nat.le_trans (Nat.mul_le_mul_right _ (mD : (l0.length : Int).toNat ≤ 7036874417766)) (by omega)) (Below.refl _ _) (Nat.le_refl _) ?_; intro v216 w4 ho5 hb hg_ hnew_; clear hg_ hnew_; (first | rw [← Ny215.out] at ho5 | (simp only [Int.reduceToNat] at ho5; rw [← Ny215.out] at ho5)); have HO217 := mS (Kd.S_lower ho5 (below_size (mH HB.out))); replace HB := mS (below_step (mH HB.out) hb); clear hb ho5))
   go_loopg [4] k (fun kq v4 w' => ∃ (x3_1 : List (S59)) (x4_1 : Int), v4 = .int .i64 x4_1 ∧ Aside0 (laws_toItemS.l0 kq l0 x3_1 x4_1 = some r) ∧ Aside0 (kq ≤ k) ∧ Aside0 (Kd.S k59 59 w' w.heap.size (fun _ => True) v216 x3_1) ∧ Aside0 (Below w.heap.size w w'))
   case atStart => exact ⟨(y215), (0), mE, H', ⟨Nat.le_refl _⟩, ⟨mSd HO217.out⟩, ⟨(mH HB.out)⟩⟩
   case round =>
    clear H'
    try clear c2
    try clear c2b0
    try clear c2b1
    try clear p2
    try clear c3
    try clear c3b0
    try clear c3b1
    try clear c5
    obtain ⟨x3_1, x4_1, rfl, HA, HK1, HO_3, HB⟩ := hrel
    cases gk with
    | zero => exact absurd HA.out (by simp [laws_toItemS.l0])
    | succ k1 =>
     have H := HA.out
     clear HA
     simp only [laws_toItemS.l0] at H
     by_cases c6 : x4_1 < (l0.length : Int)
     ·rw [if_pos c6] at H
      have c6b0 := decide_eq_true c6
      clear c6
      by_cases c7 : 0 ≤ x4_1
      ·rw [if_pos c7] at H
       have c7b0 := decide_eq_true c7
       clear c7
       replace H := Option.bind_eq_some_iff.mp H
       obtain ⟨⟨t219, t220, t221⟩, A80, H⟩ := H
       replace H : (if x4_1 < (x3_1.length : Int) then (laws_toItemS.l0 k1 l0 (x3_1.set (x4_1 : Int).toNat (⟨(⟨t219, t220⟩ : S56), t221⟩ : S59)) (wrap64 (x4_1 + 1))) else (none)) = some r := H
       have A8 := mS A80
       clear A80
       by_cases c9 : x4_1 < (x3_1.length : Int)
       ·rw [if_pos c9] at H
        have c9b0 := decide_eq_true c9
        clear c9
        obtain ⟨y224, hy224⟩ : ∃ y_ : List (S59), y_ = (x3_1.set (x4_1 : Int).toNat (⟨(⟨t219, t220⟩ : S56), t221⟩ : S59)) := ⟨_, rfl⟩
        replace H : (laws_toItemS.l0 k1 l0 y224 (wrap64 (x4_1 + 1))) = some r := by first | (rw [hy224]; with_reducible exact H) | (have H2_ := (Option.bind_some _ _).symm.trans H; rw [hy224]; with_reducible exact H2_) | (have H2_ := (Option.bind_some _ _).symm.trans H; with_reducible exact H2_) | with_reducible exact H | (rw [hy224]; exact H) | exact H
        have Ny224 := mS hy224
        clear hy224
        have H' := mS H
        clear H
        have p218 : 0 ≤ (x4_1 : Int) := mD
        have q218 : x4_1 < (l0.length : Int) := mD
        obtain ⟨ad218, A218_2, c218_2, e218, hx218_0, hx218_1, hx218_2, hl218_2, hi218_2⟩ := at_T47 HR0.out x4_1 p218 q218
        cases e218
        replace hx218_0 := mX HB.out hx218_0
        replace hx218_1 := mX HB.out hx218_1
        replace hx218_2 := mX HB.out hx218_2
        have HR218_2 := mS hi218_2
        have HC218_2 := mS hl218_2
        clear hi218_2 hl218_2
        replace p218 := eq_true p218
        replace q218 := eq_true q218
        go_wp2_with (first | ((with_reducible refine gate_callee (f := 27) rfl ?_); refine mGo 20 Try.func27 #[.agg #[.int .i64 ((rd_T47 l0 x4_1).f0.f0), .int .i64 ((rd_T47 l0 x4_1).f0.f1), .slice A218_2 ((rd_T47 l0 x4_1).f1).length c218_2]] ?_; (with_reducible refine (laws_toItem.calls k1 ((rd_T47 l0 x4_1).f0.f0) ((rd_T47 l0 x4_1).f0.f1) _ _ ((rd_T47 l0 x4_1).f1) t219 t220 t221 _ ?side1 ?side2 A8.out).mono ?_); (case side1 => exact mC (Kd.C_below HR218_2.out HB.out)); (case side2 => exact HC218_2.out); rintro e w11 ⟨v222, rfl, ho0, hb⟩; refine ⟨_, rfl, ?_⟩; replace HO_3 := mS (Kd.S_elder' (mSd HO_3.out) (Kd.R_base ho0) hb); have HO223 := mS (Kd.R_lower ho0 (below_size (mH HB.out))); replace HB := mS (below_step (mH HB.out) hb); (try clear hb); (try clear ho0); have p10 : 0 ≤ (x4_1 : Int) := mD; have q10 : (x4_1 : Int) < ((x3_1.length : Int) : Int) := mD; obtain ⟨go10, co10, eo10, gb10, gl10, cl10, HG10⟩ := Kd.S_form HO_3.out (by omega); (first | cases eo10 | (injection eo10 with ea_ en_ ec_; (first | subst ea_ | (injection ea_ with ea_; subst ea_)); subst ec_; clear en_)); have GB10 := mS gb10; have GG10 := mS HG10; clear gb10 gl10 HG10; obtain ⟨_, ce10, hcl10, hM10, hcc10, hfr10, _, _⟩ := Kd.S_elem HO_3.out z59 (x4_1 : Int) p10 q10; obtain ⟨ve10_2, rfl, ge10_2⟩ := k59_openM hM10; have hx10_0 : w11.cell? ⟨go10, (x4_1 : Int).toNat * 3, none⟩ = some (.int .i64 ((rd_T59 x3_1 x4_1).f0.f0)) := hcc10 0 _ rfl; have hx10_1 : w11.cell? ⟨go10, (x4_1 : Int).toNat * 3 + 1, none⟩ = some (.int .i64 ((rd_T59 x3_1 x4_1).f0.f1)) := hcc10 1 _ rfl; have hx10_2 : w11.cell? ⟨go10, (x4_1 : Int).toNat * 3 + 2, none⟩ = some (ve10_2) := hcc10 2 _ rfl; have hf10_0 : w11.frozen? ⟨go10, (x4_1 : Int).toNat * 3, none⟩ = false := hfr10 0; have hf10_1 : w11.frozen? ⟨go10, (x4_1 : Int).toNat * 3 + 1, none⟩ = false := hfr10 1; have hf10_2 : w11.frozen? ⟨go10, (x4_1 : Int).toNat * 3 + 2, none⟩ = false := hfr10 2; clear hcl10 hcc10 hfr10; (try clear hM10); replace p10 := eq_true p10; replace q10 := eq_true q10; have n_ := mS (Kd.S_mono (ok' := (fun k_ => some k_ ≠ (v222 : Value).ownBlock)) HO_3.out (fun k_ hk => hk.2)); clear HO_3; have HO_3 := n_; clear n_; have HX12 := mS (show Kd.S k59 59 w11 w.heap.size (fun k_ => ((fun _ => True)) k_ ∧ ¬ ((fun k_ => some k_ = (v222 : Value).ownBlock)) k_) (.slice (some ⟨go10, 0, none⟩) x3_1.length co10) x3_1 from (by refine mSd ?_; exact Kd.S_mono HO_3.out (fun k_ hk => ⟨trivial, fun e_ => hk e_⟩))); obtain ⟨oki12, ce12, hcl12, hM12, hcc12, hfr12, hoki12, hH12⟩ := Kd.S_elem HX12.out z59 (x4_1 : Int) (mD) (by have h_ : (x4_1 : Int) < ((x3_1.length : Int) : Int) := mD; first | exact h_ | (have e_ := (Kd.S_reads' HO_3.out).1; omega) | simpa using h_); obtain ⟨ve12_2, rfl, ge12_2⟩ := k59_openM hM12; have HP12 := Kd.S_seg hH12 (mD) (by have h_ : (x4_1 : Int) < ((x3_1.length : Int) : Int) := mD; first | exact h_ | (have e_ := (Kd.S_reads' HO_3.out).1; omega) | simpa using h_) (seg := [.int .i64 t219, .int .i64 t220, v222]) (j := 0) (show 3 ≤ 3 from by decide) (x' := (⟨(⟨t219, t220⟩ : S56), t221⟩ : S59)) (k59_mkM _ _ _ (⟨(⟨t219, t220⟩ : S56), t221⟩ : S59) (Kd.R_mono (Kd.R_tight rfl (Kd.R_mono (ok' := fun k_ => ((fun _ => True)) k_ ∧ k_ ≠ go10) (Kd.R_apart' (HO223.out) (Kd.S_typed HO_3.out) (by decide)) (fun k_ hk => ⟨trivial, fun e_ => (hk.2) (by rw [e_]; rfl)⟩))) (fun _ h_ => Or.inr (h_)))) (fun _ hk => hk) (fun k_ hk_ => ((Kd.R_mono (ok' := fun k_ => ((fun _ => True)) k_ ∧ k_ ≠ go10) (Kd.R_apart' (HO223.out) (Kd.S_typed HO_3.out) (by decide)) (fun k_ hk => ⟨trivial, fun e_ => (hk.2) (by rw [e_]; rfl)⟩))).1 k_ hk_.symm); have hx12_0 := hcc12 0 _ rfl; (try simp only [show (k59).sz = 3 from rfl, Nat.mul_one, Nat.add_zero] at hx12_0); have hf12_0 := hfr12 0; (try simp only [show (k59).sz = 3 from rfl, Nat.mul_one, Nat.add_zero] at hf12_0); have hx12_1 := hcc12 1 _ rfl; (try simp only [show (k59).sz = 3 from rfl, Nat.mul_one, Nat.add_zero] at hx12_1); have hf12_1 := hfr12 1; (try simp only [show (k59).sz = 3 from rfl, Nat.mul_one, Nat.add_zero] at hf12_1); have hx12_2 := hcc12 2 _ rfl; (try simp only [show (k59).sz = 3 from rfl, Nat.mul_one, Nat.add_zero] at hx12_2); have hf12_2 := hfr12 2; (try simp only [show (k59).sz = 3 from rfl, Nat.mul_one, Nat.add_zero] at hf12_2); clear hcl12 hcc12 hfr12 hM12 hoki12 hH12) | ((with_reducible refine gate_store (t := 59) (p := 21) rfl ?_); refine store_event (t := 59) (p := 21) (v := ?vo_w13) (w1 := (((w11.setCell ⟨go10, (x4_1 : Int).toNat * 3, none⟩ (.int .i64 t219)).setCell ⟨go10, (x4_1 : Int).toNat * 3 + 1, none⟩ (.int .i64 t220)).setCell ⟨go10, (x4_1 : Int).toNat * 3 + 2, none⟩ (v222))) ?hg ?ho ?hn ?hr ?_; (case ho => rfl); (case hg => rfl); (case hn => rfl); (case hr => first | (go_simp; done) | (go_simp; rfl) | (obtain ⟨Aq0_, cq0_, eq0_⟩ := Kd.R_slice (v := v222) (Aside0.out (by assumption)); rw [eq0_]; first | (go_simp; done) | (go_simp; rfl))); intro w13 hw; have hg : w11.grownBy w13 (some go10) := (by rw [hw]; exact HP12.2); have hp_ : Kd.S k59 59 w13 w.heap.size (fun _ => True) (.slice (some ⟨go10, 0, none⟩) x3_1.length co10) y224 := (by rw [hw, Ny224.out]; exact HP12.1); clear HP12; replace HO_3 := mS (hp_); replace HB := mS ((by rw [hw]; exact below_set (below_set (below_set (HB.out) GB10.out) GB10.out) GB10.out : Below w.heap.size w w13)); clear HO223; clear hg hw hp_))
        go_roundg k1
        case measure => have := HK1.out; omega
        case rel => exact ⟨(y224), (wrap64 (x4_1 + 1)), mE, H', ⟨by have := HK1.out; omega⟩, ⟨mSd HO_3.out⟩, ⟨(mH HB.out)⟩⟩
       ·rw [if_neg c9] at H
        exact absurd H (by simp)
      ·rw [if_neg c7] at H
       exact absurd H (by simp)
     ·rw [if_neg c6] at H
      have c6b0 := decide_eq_false c6
      clear c6
      obtain rfl := Option.some.inj H
      go_wp2
      go_ret
      exact ⟨_, mEw, mSd HO_3.out, (mH HB.out)⟩
  ·rw [if_neg c3] at H
   exact absurd H (by simp)
 ·rw [if_neg c2] at H
  exact absurd H (by simp)

/-! ### laws_toGraph: function 26 -/
def laws_toGraph.f (k : Nat) (l0_0 : List (S47)) : Option ((List (S59))) := (laws_toItemS.f k l0_0).bind fun t228 => (some t228)
theorem laws_toGraph.mono : ∀ a0 k, LeO (laws_toGraph.f k a0) (laws_toGraph.f (k + 1) a0) := by
 intro a0 k
 unfold laws_toGraph.f
 repeat' first
   | (with_reducible exact laws_toItemS.mono _ _)
   | (with_reducible exact LeO.refl _)
   | (with_reducible exact LeO.none _)
   | (with_reducible refine LeO.ite ?_ ?_)
   | (with_reducible refine LeO.bind ?_ (fun _ => ?_))
   | exact laws_toItemS.mono _ _
   | exact LeO.none _
   | refine LeO.ite ?_ ?_
   | refine LeO.bind ?_ (fun _ => ?_)
set_option maxHeartbeats 8000000 in
set_option maxRecDepth 100000 in
theorem laws_toGraph.calls (k : Nat) (A0_0 : Option Addr) (c0_0 : Nat) (l0_0 : List (S47)) (r : List (S59)) (w : World) (hr0_0 : Kd.C k47 w A0_0 l0_0.length l0_0) (hc0_0 : l0_0.length ≤ c0_0) (h : laws_toGraph.f k l0_0 = some r) :
  Calls Try.prog 26 #[.agg #[.slice A0_0 l0_0.length c0_0]] w fun e w' => ∃ v0_ : Value, e = .returned (.agg #[v0_]) ∧ Kd.S k59 59 w' w.heap.size (fun _ => True) v0_ r ∧ Below w.heap.size w w' := by
 have hu42 := Try.underlying42
 have hu52 := Try.underlying52
 have HR0_0 := mS hr0_0
 have HC0_0 := mS hc0_0
 clear hr0_0 hc0_0
 have HB := mS (Below.refl w.heap.size w)
 have H : ((laws_toItemS.f k l0_0).bind fun t228 => (some t228)) = some r := h
 clear h
 replace H := Option.bind_eq_some_iff.mp H
 obtain ⟨t228, A20, H⟩ := H
 replace H : (some t228) = some r := H
 have A2 := mS A20
 clear A20
 obtain rfl := Option.some.inj H
 go_enter Try.func26, Try.ntmps26
 go_wp2_with (first | ((with_reducible refine gate_dst (N := 1) rfl ?_); refine mBx 1 #[.slice A0_0 l0_0.length c0_0] 42 ?_; intro gb225 hg w3 hbox hb; have BK225 := mS (hbox); have GW225 := mG hg (mH HB.out); have GE225 := mG hg (mH HB.out); replace HB := mS (below_step (mH HB.out) hb); clear hb hbox hg) | ((with_reducible refine gate_dst (N := 2) rfl ?_); refine mBx 2 #[.slice none 0 0] 52 ?_; intro gb226 hg w4 hbox hb; have BK226 := mS (hbox); have GW226 := mG hg (mH1 HB.out GE225.out); have GE226 := mG hg (mH1 HB.out GE225.out); replace HB := mS (below_step (mH1 HB.out GE225.out) hb); have NB225_226 := mNl hg BK225.out; have NB226_225 := mNg hg BK225.out; replace BK225 := mB BK225 hb; clear hb hbox hg) | ((with_reducible refine gate_dst (N := 3) rfl ?_); refine mBx 3 #[.slice none 0 0] 52 ?_; intro gb227 hg w5 hbox hb; have BK227 := mS (hbox); have GW227 := mG hg (mH2 HB.out GE225.out GE226.out); have GE227 := mG hg (mH2 HB.out GE225.out GE226.out); replace HB := mS (below_step (mH2 HB.out GE225.out GE226.out) hb); have NB225_227 := mNl hg BK225.out; have NB227_225 := mNg hg BK225.out; replace BK225 := mB BK225 hb; have NB226_227 := mNl hg BK226.out; have NB227_226 := mNg hg BK226.out; replace BK226 := mB BK226 hb; clear hb hbox hg; have hnb6 := NB225_226.out; have hnc6 := NB226_225.out; have hnb7 := NB225_227.out; have hnc7 := NB227_225.out; have hcz8_0 := mZ BK225.out 0; have hfz8_0 := blk_frozen BK225.out 0) | ((with_reducible refine gate_callee (f := 57) rfl ?_); refine mGo 6 Try.func57 #[.slice A0_0 l0_0.length c0_0] ?_; (with_reducible refine (laws_toItemS.calls k _ _ l0_0 t228 _ ?side1 ?side2 A2.out).mono ?_); (case side1 => exact mC (Kd.C_below HR0_0.out HB.out)); (case side2 => exact HC0_0.out); rintro e w9 ⟨v229, rfl, ho0, hb⟩; refine ⟨_, rfl, ?_⟩; have HO230 := mS (Kd.S_lower ho0 (below_size (mH3 HB.out GE225.out GE226.out GE227.out))); replace BK225 := mB BK225 hb; replace BK226 := mB BK226 hb; replace BK227 := mB BK227 hb; replace HB := mS (below_step (mH3 HB.out GE225.out GE226.out GE227.out) hb); (try clear hb); (try clear ho0); obtain ⟨Ao10, co10, eo10⟩ := Kd.S_slice HO230.out; subst eo10; have hnb11 := NB227_226.out; have hnc11 := NB226_227.out; have hcz12_0 := mZ BK227.out 0; have hfz12_0 := blk_frozen BK227.out 0; have hcz13_0 := mZ BK226.out 0; have hfz13_0 := blk_frozen BK226.out 0))
 refine bodyPost_ret (results_cell_row rfl _ _ gb226 52 #[.slice Ao10 t228.length co10] (0, 0) _ rfl (by refine mK ?_; refine blk_put (cs := #[.slice none 0 0]) ?_ 0 _ rfl; exact mKf NB226_227.out BK226.out) Try.underlying52 rfl (by kernel_rfl)) rfl ?_
 exact ⟨_, mEw, by refine mSd ?_; exact Kd.S_mono (Kd.S_far (p := ⟨gb226, 0, none⟩) (Kd.S_far (p := ⟨gb227, 0, none⟩) (Kd.S_types (Kd.S_types HO230.out BK227.out (by decide)) BK226.out (by decide)) (fun _ hk => hk.1.2) (.slice Ao10 t228.length co10)) (fun _ hk => hk.2) (.slice Ao10 t228.length co10)) (fun _ hk => trivial), (mH3 HB.out GE225.out GE226.out GE227.out)⟩

/-! ### impl_copyDots: function 62 -/
def impl_copyDots.f (l0 : List (S56)) : Option ((List (S56))) := if ([] : List (S56)).length + l0.length < 8796093022208 then (some (([] : List (S56)) ++ l0)) else (none)
set_option maxHeartbeats 8000000 in
set_option maxRecDepth 100000 in
theorem impl_copyDots.calls (A0 : Option Addr) (c0 : Nat) (l0 : List (S56)) (r : List (S56)) (w : World) (hr0 : Kd.C k56 w A0 l0.length l0) (hc0 : l0.length ≤ c0) (h : impl_copyDots.f l0 = some r) :
  Calls Try.prog 62 #[.slice A0 l0.length c0] w fun e w' => ∃ v0_ : Value, e = .returned (v0_) ∧ Kd.R k56 56 w' w.heap.size (fun _ => True) v0_ r ∧ Below w.heap.size w w' := by
 have HR0 := mS hr0
 have HC0 := mS hc0
 clear hr0 hc0
 have HB := mS (Below.refl w.heap.size w)
 have H : (if ([] : List (S56)).length + l0.length < 8796093022208 then (some (([] : List (S56)) ++ l0)) else (none)) = some r := h
 clear h
 by_cases c2 : ([] : List (S56)).length + l0.length < 8796093022208
 ·rw [if_pos c2] at H
  have LMc2 := mS c2
  clear c2
  obtain ⟨y231, hy231⟩ : ∃ y_ : List (S56), y_ = (([] : List (S56)) ++ l0) := ⟨_, rfl⟩
  replace H : (some y231) = some r := by first | (rw [hy231]; with_reducible exact H) | (have H2_ := (Option.bind_some _ _).symm.trans H; rw [hy231]; with_reducible exact H2_) | (have H2_ := (Option.bind_some _ _).symm.trans H; with_reducible exact H2_) | with_reducible exact H | (rw [hy231]; exact H) | exact H
  have Ny231 := mS hy231
  clear hy231
  obtain rfl := Option.some.inj H
  go_enter Try.func62, Try.ntmps62
  go_wp2_with (first | ((with_reducible refine gate_builtin (b := .append) (xs := #[.const (.slice none 0 0), .tmp 3]) rfl ?_); at_builtin; refine Kd.R_append_rows k56 (w0 := w) w.heap.size rfl (.const (.slice none 0 0)) (.tmp 3) 57 56 (.agg #[(.int .i64 0), (.int .i64 0)]) 16 rfl Try.underlying57 info56 rfl (by decide) (by omega) (.slice none 0 0) ([] : List (S56)) l0 _ _ _ (fun _ => True) (fun _ => False) rfl rfl ?aO ?aR (fun _ _ h => h) (fun _ h => h.elim) ?aF ?aB ?aS ?aL ?_; (case aR => exact mC HR0.out); (case aB => exact (mH HB.out)); (case aF => exact (fun _ _ => trivial)); (case aO => exact ((Kd.R_nil _ _ _ _ (fun _ => True)))); (case aS => exact (below_size (mH HB.out))); (case aL => have := LMc2.out; omega); intro v232 w3 ho hb hg hat; rw [← Ny231.out] at ho; replace HB := mS (hb); have HO233 := mS (ho); clear ho hb hg hat))
  go_ret
  exact ⟨_, mEw, mR HO233.out, (mH HB.out)⟩
 ·rw [if_neg c2] at H
  exact absurd H (by simp)

/-! ### impl_copyGraph: function 60 -/
def impl_copyGraph.l0 : Nat → List (S59) → Int → Int → List (S59) → Option ((List (S59)))
 | 0, _, _, _, _ => none
 | k + 1, x7, x8, x9, x237000 => if x9 < x8 then (if 0 ≤ x9 then (if x9 < (x7.length : Int) then ((impl_copyDots.f ((rd_T59 x7 x9).f1)).bind fun t239 => (if x237000.length < 3518437208883 then (impl_copyGraph.l0 k x7 x8 (wrap64 (x9 + 1)) (x237000 ++ [(⟨(⟨(rd_T59 x7 x9).f0.f0, (rd_T59 x7 x9).f0.f1⟩ : S56), t239⟩ : S59)])) else (none))) else (none)) else (none)) else (some x237000)
def impl_copyGraph.f (k : Nat) (l0_0 : List (S59)) : Option ((List (S59))) := impl_copyGraph.l0 k l0_0 (l0_0.length : Int) 0 ([] : List (S59))
theorem impl_copyGraph.mono_l : ∀ k, (∀ y0 y1 y2 y3, LeO (impl_copyGraph.l0 k y0 y1 y2 y3) (impl_copyGraph.l0 (k + 1) y0 y1 y2 y3))
 | 0 => fun _ _ _ _ r h => by simp [impl_copyGraph.l0] at h
 | k + 1 => by
  have ih0 := impl_copyGraph.mono_l k
  ·intro y0 y1 y2 y3
   unfold impl_copyGraph.l0
   repeat' first
   | (with_reducible exact ih0 _ _ _ _)
   | (with_reducible exact LeO.refl _)
   | (with_reducible exact LeO.none _)
   | (with_reducible refine LeO.ite ?_ ?_)
   | (with_reducible refine LeO.bind ?_ (fun _ => ?_))
   | exact ih0 _ _ _ _
   | exact LeO.none _
   | refine LeO.ite ?_ ?_
   | refine LeO.bind ?_ (fun _ => ?_)
theorem impl_copyGraph.mono : ∀ a0 k, LeO (impl_copyGraph.f k a0) (impl_copyGraph.f (k + 1) a0) := by
 intro a0 k
 have ih0 := impl_copyGraph.mono_l k
 unfold impl_copyGraph.f
 repeat' first
   | (with_reducible exact ih0 _ _ _ _)
   | (with_reducible exact LeO.refl _)
   | (with_reducible exact LeO.none _)
   | (with_reducible refine LeO.ite ?_ ?_)
   | (with_reducible refine LeO.bind ?_ (fun _ => ?_))
   | exact ih0 _ _ _ _
   | exact LeO.none _
   | refine LeO.ite ?_ ?_
   | refine LeO.bind ?_ (fun _ => ?_)
def impl_copyGraph.T5 : Bool × List (List Nat × List Nat) := (true, [([], []), ([0], [0]), ([], []), ([2], [2]), ([], []), ([4], [4]), ([5], [5]), ([3, 6], [3, 6]), ([7], [7]), ([1, 8, 6], [1, 8]), ([0, 1, 2, 3, 4, 5, 6, 7, 8, 9], []), ([10, 9, 9, 0, 1, 2, 3, 4, 5, 6, 7, 8, 9], [9, 10])])
def impl_copyGraph.B5 : List Nat := [0, 1, 0, 4, 0, 16, 48, 124, 252, 511, 1023, 2047]
theorem impl_copyGraph.tab5 : rtab .any (opsOf Try.f60 5) = impl_copyGraph.T5 := by kernel_rfl
theorem impl_copyGraph.bits5 : waitsOk impl_copyGraph.T5.2 impl_copyGraph.B5 = true := by kernel_rfl
set_option maxHeartbeats 8000000 in
set_option maxRecDepth 100000 in
theorem impl_copyGraph.calls (k : Nat) (A0_0 : Option Addr) (c0_0 : Nat) (l0_0 : List (S59)) (r : List (S59)) (w : World) (hr0_0 : Kd.C k59 w A0_0 l0_0.length l0_0) (hc0_0 : l0_0.length ≤ c0_0) (h : impl_copyGraph.f k l0_0 = some r) :
  Calls Try.prog 60 #[.agg #[.slice A0_0 l0_0.length c0_0]] w fun e w' => ∃ v0_ : Value, e = .returned (.agg #[v0_]) ∧ Kd.S k59 59 w' w.heap.size (fun _ => True) v0_ r ∧ Below w.heap.size w w' := by
 have hu52 := Try.underlying52
 have hu59 := Try.underlying59
 have hu56 := Try.underlying56
 have HR0_0 := mS hr0_0
 have HC0_0 := mS hc0_0
 clear hr0_0 hc0_0
 have HB := mS (Below.refl w.heap.size w)
 have H : (impl_copyGraph.l0 k l0_0 (l0_0.length : Int) 0 ([] : List (S59))) = some r := h
 clear h
 have H' := mS H
 clear H
 go_enter Try.func60, Try.ntmps60
 go_wp2_with (first | ((with_reducible refine gate_dst (N := 1) rfl ?_); refine mBx 1 #[.slice A0_0 l0_0.length c0_0] 52 ?_; intro gb234 hg w2 hbox hb; have BK234 := mS (hbox); have GW234 := mG hg (mH HB.out); have GE234 := mG hg (mH HB.out); replace HB := mS (below_step (mH HB.out) hb); clear hb hbox hg) | ((with_reducible refine gate_dst (N := 2) rfl ?_); refine mBx 2 #[.slice none 0 0] 52 ?_; intro gb235 hg w3 hbox hb; have BK235 := mS (hbox); have GW235 := mG hg (mH1 HB.out GE234.out); have GE235 := mG hg (mH1 HB.out GE234.out); replace HB := mS (below_step (mH1 HB.out GE234.out) hb); have NB234_235 := mNl hg BK234.out; have NB235_234 := mNg hg BK234.out; replace BK234 := mB BK234 hb; clear hb hbox hg) | ((with_reducible refine gate_dst (N := 3) rfl ?_); refine mBx 3 #[.slice none 0 0] 52 ?_; intro gb236 hg w4 hbox hb; have BK236 := mS (hbox); have GW236 := mG hg (mH2 HB.out GE234.out GE235.out); have GE236 := mG hg (mH2 HB.out GE234.out GE235.out); replace HB := mS (below_step (mH2 HB.out GE234.out GE235.out) hb); have NB234_236 := mNl hg BK234.out; have NB236_234 := mNg hg BK234.out; replace BK234 := mB BK234 hb; have NB235_236 := mNl hg BK235.out; have NB236_235 := mNg hg BK235.out; replace BK235 := mB BK235 hb; clear hb hbox hg; have hnb5 := NB234_235.out; have hnc5 := NB235_234.out; have hnb6 := NB234_236.out; have hnc6 := NB236_234.out; have hcz7_0 := mZ BK234.out 0; have hfz7_0 := blk_frozen BK234.out 0))
 go_loopg [9] k (fun kq v9 w' => ∃ (x9_1 : Int) (x237000_1 : List (S59)) (u237000 : Value), v9 = .int .i64 x9_1 ∧ Aside0 (impl_copyGraph.l0 kq l0_0 (l0_0.length : Int) x9_1 x237000_1 = some r) ∧ Aside0 (kq ≤ k) ∧ Aside0 (Kd.S k59 59 w' w.heap.size (fun _ => True) u237000 x237000_1) ∧ Aside0 (w'.heap[gb234]? = some (.cells #[(.slice A0_0 l0_0.length c0_0)] 52 (0, 0))) ∧ Aside0 (w'.heap[gb235]? = some (.cells #[(.slice none 0 0)] 52 (0, 0))) ∧ Aside0 (w'.heap[gb236]? = some (.cells #[u237000] 52 (0, 0))) ∧ Aside0 (Below w.heap.size w w'))
 case atStart => exact ⟨(0), (([] : List (S59))), (.slice none 0 0), mE, H', ⟨Nat.le_refl _⟩, ⟨by first | exact Kd.S_nil _ _ _ _ _ | exact Kd.N_nil _ _ _ _ _ | exact Kd.V_nil _ _ _ _ _ | exact Kd.Q_nil _ _ _ _ _ | exact Kd.R_nil _ _ _ _ _⟩, ⟨mK BK234.out⟩, ⟨mK BK235.out⟩, ⟨mK BK236.out⟩, ⟨(mH3 HB.out GE234.out GE235.out GE236.out)⟩⟩
 case round =>
  clear H'
  try clear p2
  try clear c5
  try clear c6
  try clear hcz7_0
  try clear hfz7_0
  obtain ⟨x9_1, x237000_1, u237000, rfl, HA, HK1, HO_237000, BK234, BK235, BK236, HB⟩ := hrel
  cases gk with
  | zero => exact absurd HA.out (by simp [impl_copyGraph.l0])
  | succ k1 =>
   have H := HA.out
   clear HA
   simp only [impl_copyGraph.l0] at H
   by_cases c8 : x9_1 < (l0_0.length : Int)
   ·rw [if_pos c8] at H
    have c8b0 := decide_eq_true c8
    clear c8
    by_cases c9 : 0 ≤ x9_1
    ·rw [if_pos c9] at H
     have c9b0 := decide_eq_true c9
     clear c9
     by_cases c10 : x9_1 < (l0_0.length : Int)
     ·rw [if_pos c10] at H
      have c10b0 := decide_eq_true c10
      clear c10
      replace H := Option.bind_eq_some_iff.mp H
      obtain ⟨t239, A110, H⟩ := H
      replace H : (if x237000_1.length < 3518437208883 then (impl_copyGraph.l0 k1 l0_0 (l0_0.length : Int) (wrap64 (x9_1 + 1)) (x237000_1 ++ [(⟨(⟨(rd_T59 l0_0 x9_1).f0.f0, (rd_T59 l0_0 x9_1).f0.f1⟩ : S56), t239⟩ : S59)])) else (none)) = some r := H
      have A11 := mS A110
      clear A110
      by_cases c12 : x237000_1.length < 3518437208883
      ·rw [if_pos c12] at H
       have LMc12 := mS c12
       clear c12
       obtain ⟨y242, hy242⟩ : ∃ y_ : List (S59), y_ = (x237000_1 ++ [(⟨(⟨(rd_T59 l0_0 x9_1).f0.f0, (rd_T59 l0_0 x9_1).f0.f1⟩ : S56), t239⟩ : S59)]) := ⟨_, rfl⟩
       replace H : (impl_copyGraph.l0 k1 l0_0 (l0_0.length : Int) (wrap64 (x9_1 + 1)) y242) = some r := by first | (rw [hy242]; with_reducible exact H) | (have H2_ := (Option.bind_some _ _).symm.trans H; rw [hy242]; with_reducible exact H2_) | (have H2_ := (Option.bind_some _ _).symm.trans H; with_reducible exact H2_) | with_reducible exact H | (rw [hy242]; exact H) | exact H
       have Ny242 := mS hy242
       clear hy242
       have H' := mS H
       clear H
       have p237 : 0 ≤ (x9_1 : Int) := mD
       have q237 : x9_1 < (l0_0.length : Int) := mD
       obtain ⟨ad237, A237_2, c237_2, e237, hx237_0, hx237_1, hx237_2, hl237_2, hi237_2⟩ := at_T59 HR0_0.out x9_1 p237 q237
       cases e237
       replace hx237_0 := mX HB.out hx237_0
       replace hx237_1 := mX HB.out hx237_1
       replace hx237_2 := mX HB.out hx237_2
       have HR237_2 := mS hi237_2
       have HC237_2 := mS hl237_2
       clear hi237_2 hl237_2
       replace p237 := eq_true p237
       replace q237 := eq_true q237
       try go_wp2_with (first | ((with_reducible refine gate_dst (N := 5) rfl ?_); refine mBx 5 #[.int .i64 0, .int .i64 0, .slice none 0 0] 59 ?_; intro gb238 hg w13 hbox hb; replace HO_237000 := mS (Kd.S_below (Kd.S_elderB (mSd HO_237000.out) gb238 (Nat.le_of_eq hg.symm)) hb); have BK238 := mS (hbox); have GW238 := mG hg (mH3 HB.out GE234.out GE235.out GE236.out); have GE238 := mG hg (mH3 HB.out GE234.out GE235.out GE236.out); replace HB := mS (below_step (mH3 HB.out GE234.out GE235.out GE236.out) hb); have NB234_238 := mNl hg BK234.out; have NB238_234 := mNg hg BK234.out; replace BK234 := mB BK234 hb; have NB235_238 := mNl hg BK235.out; have NB238_235 := mNg hg BK235.out; replace BK235 := mB BK235 hb; have NB236_238 := mNl hg BK236.out; have NB238_236 := mNg hg BK236.out; replace BK236 := mB BK236 hb; clear hb hbox hg; have hnb14 := NB238_234.out; have hnc14 := NB234_238.out; have hnb15 := NB238_235.out; have hnc15 := NB235_238.out; have hnb16 := NB238_236.out; have hnc16 := NB236_238.out; obtain ⟨hcz17_0, hcz17_1, hcz17_2, hfz17_0, hfz17_1, hfz17_2⟩ := mZ3 BK238.out))
       generalize hW_ : (((w13.setCell ⟨gb238, 0, none⟩ (.int .i64 ((rd_T59 l0_0 x9_1).f0.f0))).setCell ⟨gb238, 1, none⟩ (.int .i64 ((rd_T59 l0_0 x9_1).f0.f1))).setCell ⟨gb238, 2, none⟩ (.slice A237_2 ((rd_T59 l0_0 x9_1).f1).length c237_2)) = w18
       replace HO_237000 : Aside0 (Kd.S k59 59 w18 w.heap.size (fun k_ => k_ ≠ gb238) u237000 x237000_1) := by rw [← hW_]; exact ⟨by refine mSd ?_; exact Kd.S_mono (mSf3 (Kd.S_mono HO_237000.out (fun k_ hk => (⟨hk, hk.2⟩ : _ ∧ k_ ≠ gb238)))) (fun _ hk => hk.1.2)⟩
       replace BK234 : Aside0 (w18.heap[gb234]? = some (.cells #[.slice (some ad237) l0_0.length c0_0] 52 (0, 0))) := by rw [← hW_]; exact ⟨mKf NB234_238.out BK234.out⟩
       replace BK235 : Aside0 (w18.heap[gb235]? = some (.cells #[.slice none 0 0] 52 (0, 0))) := by rw [← hW_]; exact ⟨mKf NB235_238.out BK235.out⟩
       replace BK236 : Aside0 (w18.heap[gb236]? = some (.cells #[u237000] 52 (0, 0))) := by rw [← hW_]; exact ⟨mKf NB236_238.out BK236.out⟩
       replace BK238 : Aside0 (w18.heap[gb238]? = some (.cells #[.int .i64 ((rd_T59 l0_0 x9_1).f0.f0), .int .i64 ((rd_T59 l0_0 x9_1).f0.f1), .slice A237_2 ((rd_T59 l0_0 x9_1).f1).length c237_2] 59 (0, 0))) := by rw [← hW_]; exact ⟨by refine mK ?_; refine blk_put (cs := #[.int .i64 ((rd_T59 l0_0 x9_1).f0.f0), .int .i64 ((rd_T59 l0_0 x9_1).f0.f1), .slice none 0 0]) ?_ 2 _ rfl; refine mK ?_; refine blk_put (cs := #[.int .i64 ((rd_T59 l0_0 x9_1).f0.f0), .int .i64 0, .slice none 0 0]) ?_ 1 _ rfl; refine mK ?_; refine blk_put (cs := #[.int .i64 0, .int .i64 0, .slice none 0 0]) ?_ 0 _ rfl; refine mK ?_; exact BK238.out⟩
       replace HB : Aside0 (Below w.heap.size w w18) := by rw [← hW_]; exact ⟨(mH4 HB.out GE234.out GE235.out GE236.out GE238.out)⟩
       clear hW_
       replace HO_237000 := mS (Kd.S_drew HO_237000.out)
       replace BK234 := mS (blk_drew BK234.out)
       replace BK235 := mS (blk_drew BK235.out)
       replace BK236 := mS (blk_drew BK236.out)
       replace BK238 := mS (blk_drew BK238.out)
       replace HB := mS (below_drew1 HB.out)
       refine start_ (n := 12) (S := fun w' => w'.cell? ⟨gb236, 0, none⟩ = some (u237000) ∧ w'.cell? ⟨gb238, 0, none⟩ = some (.int .i64 ((rd_T59 l0_0 x9_1).f0.f0)) ∧ w'.cell? ⟨gb238, 1, none⟩ = some (.int .i64 ((rd_T59 l0_0 x9_1).f0.f1)) ∧ w'.cell? ⟨gb238, 2, none⟩ = some (.slice A237_2 ((rd_T59 l0_0 x9_1).f1).length c237_2)) (ds := [11]) (mb 0 12) (by kernel_rfl) rfl rfl ⟨mZ BK236.out 0, mc3 BK238.out⟩ (fun hHeld => ?_); refine with_tabW impl_copyGraph.tab5 impl_copyGraph.bits5 (fun HT_ HW_ => ?_)
       generalize w18.drew = w19 at HO_237000 BK234 BK235 BK236 BK238 HB hHeld ⊢
       refine mpu 0 13 HT_.out (mb 1 11) ?_
       refine mpu 2 15 HT_.out (mr [1,1,1,9]) ?_
       refine mpu 4 17 HT_.out (mr [1,1,1,1,1,7]) ?_
       refine mpt 1 14 HT_.out HW_.out (mr [3,1,1,7]) hHeld ?_
       refine mpt 3 16 HT_.out HW_.out (mb 5 7) hHeld ?_
       refine mpt 5 18 HT_.out HW_.out (mb 6 6) hHeld ?_
       refine mone 6 (some 19) HT_.out (mb 7 5) (fun K hK => ?_)
       refine goes_ Try.func62 (by kernel_rfl) rfl #[.slice A237_2 ((rd_T59 l0_0 x9_1).f1).length c237_2] (by rfl) rfl rfl mA ?_
       with_reducible refine (impl_copyDots.calls _ _ ((rd_T59 l0_0 x9_1).f1) t239 _ ?side1 ?side2 A11.out).mono ?_
       (case side1 => exact mC (Kd.C_below HR237_2.out HB.out))
       (case side2 => exact HC237_2.out)
       rintro e w20 ⟨v240, rfl, ho0, hb⟩
       refine ⟨_, rfl, ?_⟩
       replace HO_237000 := mS (Kd.S_elder' (mSd HO_237000.out) (Kd.R_base ho0) hb)
       have HO241 := mS (Kd.R_lower ho0 (below_size (mH4 HB.out GE234.out GE235.out GE236.out GE238.out)))
       replace BK234 := mB BK234 hb
       replace BK235 := mB BK235 hb
       replace BK236 := mB BK236 hb
       replace BK238 := mB BK238 hb
       replace HB := mS (below_step (mH4 HB.out GE234.out GE235.out GE236.out GE238.out) hb)
       (try clear hb)
       (try clear hb2)
       (try clear hk)
       (try clear hi)
       (try clear ho0)
       obtain ⟨Ao21, co21, eo21⟩ := Kd.R_slice HO241.out
       (first | subst eo21 | (injection eo21 with f1_ f2_ f3_; have f4_ := f1_.symm; have f5_ := f3_.symm; clear f1_ f2_ f3_; subst f4_; subst f5_))
       refine hK.out _ _ ⟨mZ BK236.out 0, mc3 BK238.out⟩ (fun hHeld => ?_)
       clear hK K
       refine mno 19 ?_
       refine mpu 7 20 HT_.out (mb 8 4) ?_
       refine mone 8 (some 21) HT_.out (mb 9 3) (fun K hK => ?_)
       refine value_ (w1 := ?_) (v := ?_) (by rfl) rfl ?_ ?_
       rotate_left 2
       ·go_simp
        constructor
        ·rfl
        ·rfl
       refine hK.out _ _ ⟨(blk_cell (blk_alloc BK236.out _) 0).trans rfl, (blk_cell (blk_alloc BK238.out _) 0).trans rfl, (blk_cell (blk_alloc BK238.out _) 1).trans rfl, (blk_cell (blk_alloc BK238.out _) 2).trans rfl⟩ (fun hHeld => ?_)
       clear hK K
       refine mno 21 ?_
       refine mone 9 (some 22) HT_.out (mb 10 2) (fun K hK => ?_)
       refine Kd.S_append_step k59 (w0 := w) w.heap.size (by rfl) (.tmp 14) (.tmp 21) 50 59 (.agg #[(.int .i64 0), (.int .i64 0), (.slice none 0 0)]) 40 rfl Try.underlying50 info59 rfl (by decide) (by omega) u237000 x237000_1 (⟨(⟨(rd_T59 l0_0 x9_1).f0.f0, (rd_T59 l0_0 x9_1).f0.f1⟩ : S56), t239⟩ : S59) [.int .i64 ((rd_T59 l0_0 x9_1).f0.f0), .int .i64 ((rd_T59 l0_0 x9_1).f0.f1), .slice Ao21 t239.length co21] (fun k_ => k_ ≠ gb238) (fun k_ => some k_ = (.slice Ao21 t239.length co21 : Value).ownBlock) rfl rfl ?aP (fun k_ hk_ => ((Kd.R_mono (ok' := fun k_ => ((fun k_ => k_ ≠ gb238)) k_ ∧ some k_ ≠ (u237000 : Value).ownBlock) (Kd.R_types (Kd.R_apart' (HO241.out) (Kd.S_typed HO_237000.out) (by decide)) BK238.out (by decide)) (fun k_ hk => ⟨hk.2, hk.1.2⟩))).1 k_ hk_.symm) ?aF ?aO ?aB ?aS ?aL ?_
       (case aP => exact k59_mkM _ _ _ (⟨(⟨(rd_T59 l0_0 x9_1).f0.f0, (rd_T59 l0_0 x9_1).f0.f1⟩ : S56), t239⟩ : S59) (Kd.R_mono (Kd.R_tight rfl (Kd.R_mono (ok' := fun k_ => ((fun k_ => k_ ≠ gb238)) k_ ∧ some k_ ≠ (u237000 : Value).ownBlock) (Kd.R_types (Kd.R_apart' (HO241.out) (Kd.S_typed HO_237000.out) (by decide)) BK238.out (by decide)) (fun k_ hk => ⟨hk.2, hk.1.2⟩))) (fun _ h_ => h_)))
       (case aB => exact (mH4 HB.out GE234.out GE235.out GE236.out GE238.out))
       (case aF => exact (fun k_ hk => Kd.freshB (g := gb238) (o := .cells #[.int .i64 ((rd_T59 l0_0 x9_1).f0.f0), .int .i64 ((rd_T59 l0_0 x9_1).f0.f1), .slice A237_2 ((rd_T59 l0_0 x9_1).f1).length c237_2] 59 (0, 0)) (mK BK238.out) k_ hk))
       (case aO => exact (by refine mSd ?_; exact Kd.S_mono HO_237000.out (fun k_ hk => ⟨hk.1, fun e_ => hk.2 e_⟩)))
       (case aS => exact (below_size (mH4 HB.out GE234.out GE235.out GE236.out GE238.out)))
       (case aL => have := LMc12.out; omega)
       intro v243 w22 ho hb hg hat
       rw [← Ny242.out] at ho
       replace BK234 := mS (blk_grown (g := gb234) (o := .cells #[.slice (some ad237) l0_0.length c0_0] 52 (0, 0)) (mK BK234.out) hg (Kd.S_ne HO_237000.out BK234.out (by decide)))
       replace BK235 := mS (blk_grown (g := gb235) (o := .cells #[.slice none 0 0] 52 (0, 0)) (mK BK235.out) hg (Kd.S_ne HO_237000.out BK235.out (by decide)))
       replace BK236 := mS (blk_grown (g := gb236) (o := .cells #[u237000] 52 (0, 0)) (mK BK236.out) hg (Kd.S_ne HO_237000.out BK236.out (by decide)))
       replace BK238 := mS (blk_grown (g := gb238) (o := .cells #[.int .i64 ((rd_T59 l0_0 x9_1).f0.f0), .int .i64 ((rd_T59 l0_0 x9_1).f0.f1), .slice A237_2 ((rd_T59 l0_0 x9_1).f1).length c237_2] 59 (0, 0)) (mK BK238.out) hg (Kd.S_away HO_237000.out (fun _ hk => hk.1)))
       replace HB := mS (hb)
       have HO244 := mS (ho)
       clear HO_237000
       clear HO241
       clear ho hb hg hat
       obtain ⟨Ao23, co23, eo23⟩ := Kd.S_slice HO244.out
       (first | subst eo23 | (injection eo23 with f1_ f2_ f3_; have f4_ := f1_.symm; have f5_ := f3_.symm; clear f1_ f2_ f3_; subst f4_; subst f5_))
       refine hK.out _ _ ⟨mZ BK236.out 0, mc3 BK238.out⟩ (fun hHeld => ?_)
       clear hK K
       refine mno 22 ?_
       refine mpu 10 23 HT_.out (mb 11 1) ?_
       refine last_ (i := 11) (N := none) (mb 12 0) rfl rfl (one_of HT_.out (by kernel_rfl)) (by decide) (fun K hK => ?_)
       have hs24 : w22.cell? ⟨gb236, 0, none⟩ = some (u237000) := mZ BK236.out 0
       have hfs24 := blk_frozen BK236.out 0
       have hns24_0 := NB234_236.out
       have hns24_1 := NB235_236.out
       have hns24_3 := NB238_236.out
       have hms24_0 := NB236_234.out
       have hms24_1 := NB236_235.out
       have hms24_3 := NB236_238.out
       refine skip_ (w1 := ?_) (by rfl) rfl ?_ ?_
       rotate_left
       ·go_simp
        rfl
       refine hK.out _ _ ?_
       clear hK K
       refine done_ (done_of HT_.out (by kernel_rfl)) ?_
       try go_wp2
       go_roundg k1
       case measure => have := HK1.out; omega
       case rel => exact ⟨(wrap64 (x9_1 + 1)), (y242), (.slice Ao23 y242.length co23), mE, H', ⟨by have := HK1.out; omega⟩, ⟨by refine mSd ?_; exact Kd.S_mono (Kd.S_far (p := ⟨gb236, 0, none⟩) (Kd.S_types HO244.out BK236.out (by decide)) (fun _ hk => hk.2) (.slice Ao23 y242.length co23)) (fun _ hk => trivial)⟩, ⟨mKf NB234_236.out BK234.out⟩, ⟨mKf NB235_236.out BK235.out⟩, ⟨by refine mK ?_; refine blk_put (cs := #[u237000]) ?_ 0 _ rfl; refine mK ?_; exact BK236.out⟩, ⟨(mH4 HB.out GE234.out GE235.out GE236.out GE238.out)⟩⟩
      ·rw [if_neg c12] at H
       exact absurd H (by simp)
     ·rw [if_neg c10] at H
      exact absurd H (by simp)
    ·rw [if_neg c9] at H
     exact absurd H (by simp)
   ·rw [if_neg c8] at H
    have c8b0 := decide_eq_false c8
    clear c8
    obtain rfl := Option.some.inj H
    have hnb25 := NB236_234.out
    have hnc25 := NB234_236.out
    have hnb26 := NB236_235.out
    have hnc26 := NB235_236.out
    have hcz27_0 := mZ BK236.out 0
    have hfz27_0 := blk_frozen BK236.out 0
    obtain ⟨Ao28, co28, eo28⟩ := Kd.S_slice HO_237000.out
    subst eo28
    have hnb29 := NB235_234.out
    have hnc29 := NB234_235.out
    have hcz30_0 := mZ BK235.out 0
    have hfz30_0 := blk_frozen BK235.out 0
    go_wp2
    refine bodyPost_ret (results_cell_row rfl _ _ gb235 52 #[.slice Ao28 x237000_1.length co28] (0, 0) _ rfl (by refine mK ?_; refine blk_put (cs := #[.slice none 0 0]) ?_ 0 _ rfl; refine mK ?_; exact BK235.out) Try.underlying52 rfl (by kernel_rfl)) rfl ?_
    exact ⟨_, mEw, by refine mSd ?_; exact Kd.S_mono (Kd.S_far (p := ⟨gb235, 0, none⟩) (Kd.S_types HO_237000.out BK235.out (by decide)) (fun _ hk => hk.2) (.slice Ao28 x237000_1.length co28)) (fun _ hk => trivial), (mH3 HB.out GE234.out GE235.out GE236.out)⟩

/-! ### impl_DotLess: function 61 -/
def impl_DotLess.f (a0_0 : Int) (a0_1 : Int) (a1_0 : Int) (a1_1 : Int) : Option (Bool) := if a0_0 < a1_0 then (some true) else (if a0_0 = a1_0 then (some (decide (a0_1 < a1_1))) else (some false))
set_option maxHeartbeats 8000000 in
set_option maxRecDepth 100000 in
theorem impl_DotLess.calls (a0_0 : Int) (a0_1 : Int) (a1_0 : Int) (a1_1 : Int) (r : Bool) (w : World) (h : impl_DotLess.f a0_0 a0_1 a1_0 a1_1 = some r) :
  Calls Try.prog 61 #[.agg #[.int .i64 a0_0, .int .i64 a0_1], .agg #[.int .i64 a1_0, .int .i64 a1_1]] w fun e w' => e = .returned (.bool r) ∧ Below w.heap.size w w' := by
 have hu56 := Try.underlying56
 have HB := mS (Below.refl w.heap.size w)
 have H : (if a0_0 < a1_0 then (some true) else (if a0_0 = a1_0 then (some (decide (a0_1 < a1_1))) else (some false))) = some r := h
 clear h
 by_cases c3 : a0_0 < a1_0
 ·rw [if_pos c3] at H
  have c3b0 := decide_eq_true c3
  clear c3
  obtain rfl := Option.some.inj H
  go_enter Try.func61, Try.ntmps61
  go_wp2_with (first | ((with_reducible refine gate_dst (N := 2) rfl ?_); refine mBx 2 #[.int .i64 a0_0, .int .i64 a0_1] 56 ?_; intro gb245 hg w4 hbox hb; have BK245 := mS (hbox); have GW245 := mG hg (mH HB.out); have GE245 := mG hg (mH HB.out); replace HB := mS (below_step (mH HB.out) hb); clear hb hbox hg) | ((with_reducible refine gate_dst (N := 3) rfl ?_); refine mBx 3 #[.int .i64 a1_0, .int .i64 a1_1] 56 ?_; intro gb246 hg w5 hbox hb; have BK246 := mS (hbox); have GW246 := mG hg (mH1 HB.out GE245.out); have GE246 := mG hg (mH1 HB.out GE245.out); replace HB := mS (below_step (mH1 HB.out GE245.out) hb); have NB245_246 := mNl hg BK245.out; have NB246_245 := mNg hg BK245.out; replace BK245 := mB BK245 hb; clear hb hbox hg; have hnb6 := NB245_246.out; have hnc6 := NB246_245.out; obtain ⟨hcz7_0, hcz7_1, hfz7_0, hfz7_1⟩ := mZ2 BK245.out; obtain ⟨hcz8_0, hcz8_1, hfz8_0, hfz8_1⟩ := mZ2 BK246.out))
  go_ret
  exact ⟨mEw, (mH2 HB.out GE245.out GE246.out)⟩
 ·rw [if_neg c3] at H
  have c3b0 := decide_eq_false c3
  clear c3
  by_cases c9 : a0_0 = a1_0
  ·rw [if_pos c9] at H
   have c9b0 : (a0_0 == a1_0) = true := beq_iff_eq.mpr c9
   have c9b1 : (a0_0 != a1_0) = false := bne_eq_false_iff_eq.mpr c9
   clear c9
   obtain rfl := Option.some.inj H
   go_enter Try.func61, Try.ntmps61
   go_wp2_with (first | ((with_reducible refine gate_dst (N := 2) rfl ?_); refine mBx 2 #[.int .i64 a0_0, .int .i64 a0_1] 56 ?_; intro gb245 hg w10 hbox hb; have BK245 := mS (hbox); have GW245 := mG hg (mH HB.out); have GE245 := mG hg (mH HB.out); replace HB := mS (below_step (mH HB.out) hb); clear hb hbox hg) | ((with_reducible refine gate_dst (N := 3) rfl ?_); refine mBx 3 #[.int .i64 a1_0, .int .i64 a1_1] 56 ?_; intro gb246 hg w11 hbox hb; have BK246 := mS (hbox); have GW246 := mG hg (mH1 HB.out GE245.out); have GE246 := mG hg (mH1 HB.out GE245.out); replace HB := mS (below_step (mH1 HB.out GE245.out) hb); have NB245_246 := mNl hg BK245.out; have NB246_245 := mNg hg BK245.out; replace BK245 := mB BK245 hb; clear hb hbox hg; have hnb12 := NB245_246.out; have hnc12 := NB246_245.out; obtain ⟨hcz13_0, hcz13_1, hfz13_0, hfz13_1⟩ := mZ2 BK245.out; obtain ⟨hcz14_0, hcz14_1, hfz14_0, hfz14_1⟩ := mZ2 BK246.out))
   go_ret
   exact ⟨mEw, (mH2 HB.out GE245.out GE246.out)⟩
  ·rw [if_neg c9] at H
   have c9b0 : (a0_0 == a1_0) = false := beq_eq_false_iff_ne.mpr c9
   have c9b1 : (a0_0 != a1_0) = true := bne_iff_ne.mpr c9
   obtain rfl := Option.some.inj H
   go_enter Try.func61, Try.ntmps61
   go_wp2_with (first | ((with_reducible refine gate_dst (N := 2) rfl ?_); refine mBx 2 #[.int .i64 a0_0, .int .i64 a0_1] 56 ?_; intro gb245 hg w15 hbox hb; have BK245 := mS (hbox); have GW245 := mG hg (mH HB.out); have GE245 := mG hg (mH HB.out); replace HB := mS (below_step (mH HB.out) hb); clear hb hbox hg) | ((with_reducible refine gate_dst (N := 3) rfl ?_); refine mBx 3 #[.int .i64 a1_0, .int .i64 a1_1] 56 ?_; intro gb246 hg w16 hbox hb; have BK246 := mS (hbox); have GW246 := mG hg (mH1 HB.out GE245.out); have GE246 := mG hg (mH1 HB.out GE245.out); replace HB := mS (below_step (mH1 HB.out GE245.out) hb); have NB245_246 := mNl hg BK245.out; have NB246_245 := mNg hg BK245.out; replace BK245 := mB BK245 hb; clear hb hbox hg; have hnb17 := NB245_246.out; have hnc17 := NB246_245.out; obtain ⟨hcz18_0, hcz18_1, hfz18_0, hfz18_1⟩ := mZ2 BK245.out; obtain ⟨hcz19_0, hcz19_1, hfz19_0, hfz19_1⟩ := mZ2 BK246.out))
   go_ret
   exact ⟨mEw, (mH2 HB.out GE245.out GE246.out)⟩

end Go.Proofs.Ytecjamgajlpfdaa.MFnExactGraphPut
