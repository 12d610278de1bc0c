-- Written by mp.py, this session's own printer (wip/mp.py).
import Derived.Test.YtecjamgajlpfdaaVMShort
import Derived.Test.YtecjamgajlpfdaaMFnExactGraphPutx0
import Derived.Test.YtecjamgajlpfdaaMFnExactGraphPutx2
namespace Go.Proofs.Ytecjamgajlpfdaa.MFnExactGraphPut
open Go.RowKit Go.Proofs.YtecjamgajlpfdaaW.PrintWords Go.Proofs.YtecjamgajlpfdaaW.PrintLast Go.Proofs.YtecjamgajlpfdaaW.PrintMore Go.Proofs.Ytecjamgajlpfdaa.MWords
attribute [local go_sem] max2_int min2_int max_two min_two max_three min_three max_four min_four   -- for this text's walks alone
set_option linter.unusedVariables false
set_option linter.unusedSimpArgs false

/-! ### spec_l8Copy: function 56 -/
def spec_l8Copy.l0 : Nat → List (S59) → Int → List (S59) → Option ((List (S59)))
 | 0, _, _, _ => none
 | k + 1, x3, x4, x140000 => if x4 < (x140000.length : Int) then (if 0 ≤ x4 then ((spec_l8CopyItem.f ((rd_T59 x140000 x4).f0.f0) ((rd_T59 x140000 x4).f0.f1) ((rd_T59 x140000 x4).f1)).bind fun bt144 => (if x3.length < 3518437208883 then (spec_l8Copy.l0 k (x3 ++ [(⟨(⟨bt144.1, bt144.2.1⟩ : S56), bt144.2.2⟩ : S59)]) (wrap64 (x4 + 1)) x140000) else (none))) else (none)) else (some x3)
def spec_l8Copy.f (k : Nat) (l0_0 : List (S59)) : Option ((List (S59))) := spec_l8Copy.l0 k (([] : List (S59))) 0 l0_0
theorem spec_l8Copy.mono_l : ∀ k, (∀ y0 y1 y2, LeO (spec_l8Copy.l0 k y0 y1 y2) (spec_l8Copy.l0 (k + 1) y0 y1 y2))
 | 0 => fun _ _ _ r h => by simp [spec_l8Copy.l0] at h
 | k + 1 => by
  have ih0 := spec_l8Copy.mono_l k
  ·intro y0 y1 y2
   unfold spec_l8Copy.l0
   repeat' first
   | (with_reducible exact ih0 _ _ _)
   | (with_reducible exact LeO.refl _)
   | (with_reducible exact LeO.none _)
   | (with_reducible refine LeO.ite ?_ ?_)
   | (with_reducible refine LeO.bind ?_ (fun _ => ?_))
   | exact ih0 _ _ _
   | exact LeO.none _
   | refine LeO.ite ?_ ?_
   | refine LeO.bind ?_ (fun _ => ?_)
theorem spec_l8Copy.mono : ∀ a0 k, LeO (spec_l8Copy.f k a0) (spec_l8Copy.f (k + 1) a0) := by
 intro a0 k
 have ih0 := spec_l8Copy.mono_l k
 unfold spec_l8Copy.f
 repeat' first
   | (with_reducible exact ih0 _ _ _)
   | (with_reducible exact LeO.refl _)
   | (with_reducible exact LeO.none _)
   | (with_reducible refine LeO.ite ?_ ?_)
   | (with_reducible refine LeO.bind ?_ (fun _ => ?_))
   | exact ih0 _ _ _
   | exact LeO.none _
   | refine LeO.ite ?_ ?_
   | refine LeO.bind ?_ (fun _ => ?_)
set_option maxHeartbeats 8000000 in
set_option maxRecDepth 100000 in
theorem spec_l8Copy.calls (k : Nat) (A0_0 : Option Addr) (c0_0 : Nat) (l0_0 : List (S59)) (r : List (S59)) (w : World) (hr0_0 : Kd.C k59 w A0_0 l0_0.length l0_0) (hc0_0 : l0_0.length ≤ c0_0) (h : spec_l8Copy.f k l0_0 = some r) :
  Calls Try.prog 56 #[.agg #[.slice A0_0 l0_0.length c0_0]] w fun e w' => ∃ v0_ : Value, e = .returned (v0_) ∧ Kd.S k59 59 w' w.heap.size (fun _ => True) v0_ r ∧ Below w.heap.size w w' := by
 have hu52 := Try.underlying52
 have hu59 := Try.underlying59
 have HR0_0 := mS hr0_0
 have HC0_0 := mS hc0_0
 clear hr0_0 hc0_0
 have HB := mS (Below.refl w.heap.size w)
 have H : (spec_l8Copy.l0 k (([] : List (S59))) 0 l0_0) = some r := h
 clear h
 obtain ⟨y140, hy140⟩ : ∃ y_ : List (S59), y_ = (([] : List (S59))) := ⟨_, rfl⟩
 replace H : (spec_l8Copy.l0 k y140 0 l0_0) = some r := by first | (rw [hy140]; with_reducible exact H) | (have H2_ := (Option.bind_some _ _).symm.trans H; rw [hy140]; with_reducible exact H2_) | (have H2_ := (Option.bind_some _ _).symm.trans H; with_reducible exact H2_) | with_reducible exact H | (rw [hy140]; exact H) | exact H
 have Ny140 := mS hy140
 clear hy140
 have H' := mS H
 clear H
 go_enter Try.func56, Try.ntmps56
 go_wp2_with (first | ((with_reducible refine gate_dst (N := 1) rfl ?_); refine mBx 1 #[.slice A0_0 l0_0.length c0_0] 52 ?_; intro gb139 hg w2 hbox hb; have BK139 := mS (hbox); have GW139 := mG hg (mH HB.out); have GE139 := mG hg (mH HB.out); replace HB := mS (below_step (mH HB.out) hb); clear hb hbox hg) | ((with_reducible refine gate_dst (N := 5) rfl ?_); refine Kd.S_lit k59 _ 59 ?hg (N := 5) ?hd (xs := ([] : List (S59))) (inner := []) (ok := fun _ => True) (okp := fun _ => True) ?hr ?hp (fun _ hk => hk) trivial (Below.refl _ _) (Nat.le_refl _) (by simp) ?_; (case hd => rfl); (case hg => rfl); (case hr => first | (go_simp; done) | (go_simp; rfl)); (case hp => exact (Reps.none _ _)); intro v141 w3 ho4 hb hg_ hnew_; clear hg_ hnew_; (first | rw [← Ny140.out] at ho4 | (simp only [Int.reduceToNat] at ho4; rw [← Ny140.out] at ho4)); have HO142 := mS (Kd.S_lower ho4 (below_size (mH1 HB.out GE139.out))); replace BK139 := mB BK139 hb; replace HB := mS (below_step (mH1 HB.out GE139.out) hb); clear hb ho4))
 go_loopg [3, 4] k (fun kq v3 v4 w' => ∃ (x3_1 : List (S59)) (x4_1 : Int), v4 = .int .i64 x4_1 ∧ Aside0 (spec_l8Copy.l0 kq x3_1 x4_1 l0_0 = some r) ∧ Aside0 (kq ≤ k) ∧ Aside0 (Kd.S k59 59 w' w.heap.size (fun _ => True) v3 x3_1) ∧ Aside0 (w'.heap[gb139]? = some (.cells #[(.slice A0_0 l0_0.length c0_0)] 52 (0, 0))) ∧ Aside0 (Below w.heap.size w w'))
 case atStart => exact ⟨(y140), (0), mE, H', ⟨Nat.le_refl _⟩, ⟨mSd HO142.out⟩, ⟨mK BK139.out⟩, ⟨(mH1 HB.out GE139.out)⟩⟩
 case round =>
  clear H'
  try clear p2
  obtain ⟨x3_1, x4_1, rfl, HA, HK1, HO_3, BK139, HB⟩ := hrel
  cases gk with
  | zero => exact absurd HA.out (by simp [spec_l8Copy.l0])
  | succ k1 =>
   have H := HA.out
   clear HA
   simp only [spec_l8Copy.l0] at H
   by_cases c5 : x4_1 < (l0_0.length : Int)
   ·rw [if_pos c5] at H
    have c5b0 := decide_eq_true c5
    clear c5
    by_cases c6 : 0 ≤ x4_1
    ·rw [if_pos c6] at H
     have c6b0 := decide_eq_true c6
     clear c6
     replace H := Option.bind_eq_some_iff.mp H
     obtain ⟨⟨t144, t145, t146⟩, A70, H⟩ := H
     replace H : (if x3_1.length < 3518437208883 then (spec_l8Copy.l0 k1 (x3_1 ++ [(⟨(⟨t144, t145⟩ : S56), t146⟩ : S59)]) (wrap64 (x4_1 + 1)) l0_0) else (none)) = some r := H
     have A7 := mS A70
     clear A70
     by_cases c8 : x3_1.length < 3518437208883
     ·rw [if_pos c8] at H
      have LMc8 := mS c8
      clear c8
      obtain ⟨y149, hy149⟩ : ∃ y_ : List (S59), y_ = (x3_1 ++ [(⟨(⟨t144, t145⟩ : S56), t146⟩ : S59)]) := ⟨_, rfl⟩
      replace H : (spec_l8Copy.l0 k1 y149 (wrap64 (x4_1 + 1)) l0_0) = some r := by first | (rw [hy149]; with_reducible exact H) | (have H2_ := (Option.bind_some _ _).symm.trans H; rw [hy149]; with_reducible exact H2_) | (have H2_ := (Option.bind_some _ _).symm.trans H; with_reducible exact H2_) | with_reducible exact H | (rw [hy149]; exact H) | exact H
      have Ny149 := mS hy149
      clear hy149
      have H' := mS H
      clear H
      have hcz9_0 := mZ BK139.out 0
      have hfz9_0 := blk_frozen BK139.out 0
      have p143 : 0 ≤ (x4_1 : Int) := mD
      have q143 : x4_1 < (l0_0.length : Int) := mD
      obtain ⟨ad143, A143_2, c143_2, e143, hx143_0, hx143_1, hx143_2, hl143_2, hi143_2⟩ := at_T59 HR0_0.out x4_1 p143 q143
      cases e143
      replace hx143_0 := mX HB.out hx143_0
      replace hx143_1 := mX HB.out hx143_1
      replace hx143_2 := mX HB.out hx143_2
      have HR143_2 := mS hi143_2
      have HC143_2 := mS hl143_2
      clear hi143_2 hl143_2
      replace p143 := eq_true p143
      replace q143 := eq_true q143
      go_wp2_with (first | ((with_reducible refine gate_callee (f := 53) rfl ?_); refine mGo 19 Try.func53 #[.agg #[.int .i64 ((rd_T59 l0_0 x4_1).f0.f0), .int .i64 ((rd_T59 l0_0 x4_1).f0.f1), .slice A143_2 ((rd_T59 l0_0 x4_1).f1).length c143_2]] ?_; (with_reducible refine (spec_l8CopyItem.calls ((rd_T59 l0_0 x4_1).f0.f0) ((rd_T59 l0_0 x4_1).f0.f1) _ _ ((rd_T59 l0_0 x4_1).f1) t144 t145 t146 _ ?side1 ?side2 A7.out).mono ?_); (case side1 => exact mC (Kd.C_below HR143_2.out HB.out)); (case side2 => exact HC143_2.out); rintro e w10 ⟨v147, rfl, ho0, hb⟩; refine ⟨_, rfl, ?_⟩; replace HO_3 := mS (Kd.S_elder' (mSd HO_3.out) (Kd.R_base ho0) hb); have HO148 := mS (Kd.R_lower ho0 (below_size (mH1 HB.out GE139.out))); replace BK139 := mB BK139 hb; replace HB := mS (below_step (mH1 HB.out GE139.out) hb); (try clear hb); (try clear ho0); obtain ⟨Ao12, co12, eo12⟩ := Kd.R_slice HO148.out; subst eo12) | ((with_reducible refine gate_builtin (b := .append) (xs := #[.tmp 13, .tmp 20]) rfl ?_); at_builtin; refine Kd.S_append k59 (w0 := w) w.heap.size rfl (.tmp 13) (.tmp 20) 50 59 (.agg #[(.int .i64 0), (.int .i64 0), (.slice none 0 0)]) 40 rfl Try.underlying50 info59 rfl (by decide) (by omega) u3 x3_1 (⟨(⟨t144, t145⟩ : S56), t146⟩ : S59) [.int .i64 t144, .int .i64 t145, .slice Ao12 t146.length co12] (fun _ => True) (fun k_ => some k_ = (.slice Ao12 t146.length co12 : Value).ownBlock) rfl rfl ?aP (fun k_ hk_ => ((Kd.R_mono (ok' := fun k_ => ((fun _ => True)) k_ ∧ some k_ ≠ (u3 : Value).ownBlock) (Kd.R_apart' (HO148.out) (Kd.S_typed HO_3.out) (by decide)) (fun k_ hk => ⟨trivial, hk.2⟩))).1 k_ hk_.symm) ?aF ?aO ?aB ?aS ?aL ?_; (case aP => exact k59_mkM _ _ _ (⟨(⟨t144, t145⟩ : S56), t146⟩ : S59) (Kd.R_mono (Kd.R_tight rfl (Kd.R_mono (ok' := fun k_ => ((fun _ => True)) k_ ∧ some k_ ≠ (u3 : Value).ownBlock) (Kd.R_apart' (HO148.out) (Kd.S_typed HO_3.out) (by decide)) (fun k_ hk => ⟨trivial, hk.2⟩))) (fun _ h_ => h_))); (case aB => exact (mH1 HB.out GE139.out)); (case aF => exact (fun _ _ => trivial)); (case aO => exact (by refine mSd ?_; exact Kd.S_mono HO_3.out (fun k_ hk => ⟨trivial, fun e_ => hk.2 e_⟩))); (case aS => exact (below_size (mH1 HB.out GE139.out))); (case aL => have := LMc8.out; omega); intro v150 w11 ho hb hg hat; rw [← Ny149.out] at ho; replace BK139 := mS (blk_grown (g := gb139) (o := .cells #[.slice (some ad143) l0_0.length c0_0] 52 (0, 0)) (mK BK139.out) hg (Kd.S_ne HO_3.out BK139.out (by decide))); replace HB := mS (hb); have HO151 := mS (ho); clear HO_3; clear HO148; clear ho hb hg hat))
      go_roundg k1
      case measure => have := HK1.out; omega
      case rel => exact ⟨(y149), (wrap64 (x4_1 + 1)), mE, H', ⟨by have := HK1.out; omega⟩, ⟨mSd HO151.out⟩, ⟨mK BK139.out⟩, ⟨(mH1 HB.out GE139.out)⟩⟩
     ·rw [if_neg c8] at H
      exact absurd H (by simp)
    ·rw [if_neg c6] at H
     exact absurd H (by simp)
   ·rw [if_neg c5] at H
    have c5b0 := decide_eq_false c5
    clear c5
    obtain rfl := Option.some.inj H
    have hcz13_0 := mZ BK139.out 0
    have hfz13_0 := blk_frozen BK139.out 0
    go_wp2
    go_ret
    exact ⟨_, mEw, mSd HO_3.out, (mH1 HB.out GE139.out)⟩

end Go.Proofs.Ytecjamgajlpfdaa.MFnExactGraphPut
