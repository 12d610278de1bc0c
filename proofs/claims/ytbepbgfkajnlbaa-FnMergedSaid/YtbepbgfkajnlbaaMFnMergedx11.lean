-- Written by mp.py, this session's own printer (wip/mp.py).
import Derived.Test.YtbepbgfkajnlbaaVMShort
import Derived.Test.YtbepbgfkajnlbaaMFnMergedx0
import Derived.Test.YtbepbgfkajnlbaaMFnMergedx8
import Derived.Test.YtbepbgfkajnlbaaMFnMergedx10
namespace Go.Proofs.Ytbepbgfkajnlbaa.MFnMerged
open Go.RowKit Go.Proofs.YtbepbgfkajnlbaaW.PrintWords Go.Proofs.YtbepbgfkajnlbaaW.PrintLast Go.Proofs.YtbepbgfkajnlbaaW.PrintMore Go.Proofs.Ytbepbgfkajnlbaa.MWords
theorem mI137_0 {p q : Prop} (x : q) (h : q → p := by intro h_; repeat (first | (with_reducible first | exact h_ | apply IsS167.alloc | apply IsS167.drewN | apply IsS167.drew | apply IsS167.set_1 | apply IsS167.set_2) | exact h_)) : p := h x
theorem mI137_1 {p q a0 : Prop} (x : q) (g0 : a0) (h : q → a0 → p := by intro h_ g0_; repeat (first | (with_reducible first | exact h_ | apply IsS167.alloc | apply IsS167.drewN | apply IsS167.drew | apply IsS167.set_1 | apply IsS167.set_2 | refine IsS167.far ?_ g0_ _) | exact h_)) : p := h x g0
theorem mI137_2 {p q a0 a1 : Prop} (x : q) (g0 : a0) (g1 : a1) (h : q → a0 → a1 → p := by intro h_ g0_ g1_; repeat (first | (with_reducible first | exact h_ | apply IsS167.alloc | apply IsS167.drewN | apply IsS167.drew | apply IsS167.set_1 | apply IsS167.set_2 | refine IsS167.far ?_ g0_ _ | refine IsS167.far ?_ g1_ _) | exact h_)) : p := h x g0 g1
theorem mQ137_3 {p q : Prop} (x : q) (h : q → p := by intro h_; repeat (first | (with_reducible first | exact h_ | apply KeepBut.set_ | apply keep_drewN | apply keep_drew | apply keep_alloc) | exact h_)) : p := h x
theorem mQ137_4 {p q a0 : Prop} (x : q) (g0 : a0) (h : q → a0 → p := by intro h_ g0_; repeat (first | (with_reducible first | exact h_ | apply KeepBut.set_ | apply keep_drewN | apply keep_drew | apply keep_alloc | refine keep_far ?_ g0_ _) | exact h_)) : p := h x g0
theorem mQ137_5 {p q a0 a1 : Prop} (x : q) (g0 : a0) (g1 : a1) (h : q → a0 → a1 → p := by intro h_ g0_ g1_; repeat (first | (with_reducible first | exact h_ | apply KeepBut.set_ | apply keep_drewN | apply keep_drew | apply keep_alloc | refine keep_far ?_ g0_ _ | refine keep_far ?_ g1_ _) | exact h_)) : p := h x g0 g1
theorem mH137_6 {p q a0 : Prop} (x : q) (g0 : a0) (h : q → a0 → p := by intro h_ g0_; repeat (first | (with_reducible first | exact h_ | apply below_alloc | apply pw_below_drewN | apply below_drew1 | refine below_set ?_ g0_) | exact h_)) : p := h x g0
theorem mH137_7 {p q a0 a1 : Prop} (x : q) (g0 : a0) (g1 : a1) (h : q → a0 → a1 → p := by intro h_ g0_ g1_; repeat (first | (with_reducible first | exact h_ | apply below_alloc | apply pw_below_drewN | apply below_drew1 | refine below_set ?_ g0_ | refine below_set ?_ g1_) | exact h_)) : p := h x g0 g1
theorem mH137_8 {p q a0 a1 a2 : Prop} (x : q) (g0 : a0) (g1 : a1) (g2 : a2) (h : q → a0 → a1 → a2 → p := by intro h_ g0_ g1_ g2_; repeat (first | (with_reducible first | exact h_ | apply below_alloc | apply pw_below_drewN | apply below_drew1 | refine below_set ?_ g0_ | refine below_set ?_ g1_ | refine below_set ?_ g2_) | exact h_)) : p := h x g0 g1 g2
attribute [local go_sem] max2_int min2_int max_two min_two max_three min_three max_four min_four   -- for this text's walks alone
set_option linter.unusedVariables false
set_option linter.unusedSimpArgs false

/-! ### spec_l1Str: function 137 -/
def spec_l1Str.f (s0_0 : List Int) (s0_1 : Int) (s0_2 : Int) (l1 : List ByteArray) : Option (ByteArray × Int × Int) := (spec_l1Below.f s0_0 s0_1 s0_2 (l1.length : Int)).bind fun bt244 => (if 0 ≤ bt244.1 then (if bt244.1 < (l1.length : Int) then (some (rdOf ByteArray.empty l1 bt244.1, bt244.2.1, bt244.2.2)) else (none)) else (none))
set_option maxHeartbeats 8000000 in
set_option maxRecDepth 100000 in
theorem spec_l1Str.calls (g : Nat) (s0_0 : List Int) (s0_1 : Int) (s0_2 : Int) (A1 : Option Addr) (c1 : Nat) (l1 : List ByteArray) (r1 : ByteArray) (r2 : Int) (r3 : Int) (w0 w : World) (hI : IsS167 w0 w g s0_0 s0_1 s0_2) (hB : Below w0.heap.size w0 w) (hr1 : Kd.C Kd.string w A1 l1.length l1) (hc1 : l1.length ≤ c1) (hf1 : ∀ ad, A1 = some ad → 0 < l1.length → ad.block ≠ g) (h : spec_l1Str.f s0_0 s0_1 s0_2 l1 = some (r1, r2, r3)) :
  Calls Try.prog 137 #[.pointer (some ⟨g, 0, none⟩), .slice A1 l1.length c1] w fun e w' => e = .returned (.string r1) ∧ IsS167 w0 w' g s0_0 r2 r3 ∧ Below w0.heap.size w0 w' ∧ KeepBut w w' g none := by
 have HR1 := mS hr1
 have HC1 := mS hc1
 clear hr1 hc1
 have HI0 := mS hI
 have HK := mS (KeepBut.refl w g none)
 have HL := mS hB.size
 clear hI
 have HW0 := mS hB.size
 have HB := mS hB
 clear hB
 have H : ((spec_l1Below.f s0_0 s0_1 s0_2 (l1.length : Int)).bind fun bt244 => (if 0 ≤ bt244.1 then (if bt244.1 < (l1.length : Int) then (some (rdOf ByteArray.empty l1 bt244.1, bt244.2.1, bt244.2.2)) else (none)) else (none))) = some (r1, r2, r3) := h
 clear h
 replace H := Option.bind_eq_some_iff.mp H
 obtain ⟨⟨t244, t245, t246⟩, A30, H⟩ := H
 replace H : (if 0 ≤ t244 then (if t244 < (l1.length : Int) then (some (rdOf ByteArray.empty l1 t244, t245, t246)) else (none)) else (none)) = some (r1, r2, r3) := H
 have A3 := mS A30
 clear A30
 by_cases c4 : 0 ≤ t244
 ·rw [if_pos c4] at H
  have c4b0 : decide (0 ≤ t244) = true := decide_eq_true c4
  clear c4
  by_cases c5 : t244 < (l1.length : Int)
  ·rw [if_pos c5] at H
   have c5b0 : decide (t244 < (l1.length : Int)) = true := decide_eq_true c5
   clear c5
   simp only [Option.some.injEq, Prod.mk.injEq] at H
   obtain ⟨rfl, rfl, rfl⟩ := H
   go_enter Try.func137, Try.ntmps137
   go_wp2_with (first | ((with_reducible refine gate_callee (f := 82) rfl ?_); refine goesL_ (some 9) rfl rfl Try.func82 (by kernel_rfl) rfl #[.pointer (some ⟨g, 0, none⟩), .int .i64 (l1.length : Int)] rfl mA ?_; (with_reducible refine (spec_l1Below.calls g s0_0 s0_1 s0_2 (l1.length : Int) t244 t245 t246 w0 _ ?side1 ?side2 A3.out).mono ?_); (case side1 => repeat (first | (with_reducible first | exact HI0.out | apply IsS167.alloc | apply IsS167.drewN | apply IsS167.drew | apply IsS167.set_1 | apply IsS167.set_2) | exact HI0.out)); (case side2 => repeat (first | (with_reducible first | exact HB.out | apply below_alloc | apply pw_below_drewN | apply below_drew1 | refine below_set ?_ (IsS167.ge HI0.out)) | exact HB.out)); rintro e w6 ⟨rfl, hi, hb, hk⟩; refine ⟨_, rfl, ?_⟩; replace HK := mS (KeepBut.trans (mQ137_3 HK.out) hk (.inl rfl)); replace HB := mS (hb); replace HI0 := mS (hi); (try clear hb); (try clear hb2); (try clear hk); (try clear hi); have p247 : 0 ≤ (t244 : Int) := of_decide_eq_true (by first | (with_reducible assumption) | assumption); have q247 : t244 < (l1.length : Int) := of_decide_eq_true (by first | (with_reducible assumption) | assumption); obtain ⟨ad247, e247, hx247_0⟩ := Kd.at_string HR1.out t244 p247 q247; cases e247; replace hx247_0 := keep_cell HK.out hx247_0 (by first | (rw [add_block]; exact hf1 _ rfl (by omega)) | exact hf1 _ rfl (by omega) | exact hf1 ad247 rfl (by omega)); replace p247 := eq_true p247; replace q247 := eq_true q247))
   go_ret
   exact ⟨by first | rfl | (simp [errW_none, errW_some] <;> rfl) | (simp [*, errW_none, errW_some] <;> rfl), mI137_0 HI0.out, mH137_6 HB.out (IsS167.ge HI0.out), mQ137_3 HK.out⟩
  ·rw [if_neg c5] at H
   exact absurd H (by simp)
 ·rw [if_neg c4] at H
  exact absurd H (by simp)

/-! ### spec_l4Key: function 133 -/
def spec_l4Key.f (s0_0 : List Int) (s0_1 : Int) (s0_2 : Int) : Option (ByteArray × Int × Int) := (spec_l1Str.f s0_0 s0_1 s0_2 (([(⟨#[97]⟩ : ByteArray), (⟨#[97, 98]⟩ : ByteArray), (⟨#[97, 98, 99]⟩ : ByteArray), (⟨#[98]⟩ : ByteArray), (⟨#[98, 97]⟩ : ByteArray), (⟨#[99]⟩ : ByteArray), (⟨#[100]⟩ : ByteArray), (⟨#[107, 101, 121, 49]⟩ : ByteArray), (⟨#[107, 101, 121, 49, 48]⟩ : ByteArray), (⟨#[107, 101, 121, 50]⟩ : ByteArray), (⟨#[122]⟩ : ByteArray)] : List ByteArray))).bind fun bt251 => (some (bt251.1, bt251.2.1, bt251.2.2))
set_option maxHeartbeats 8000000 in
set_option maxRecDepth 100000 in
theorem spec_l4Key.calls (g : Nat) (s0_0 : List Int) (s0_1 : Int) (s0_2 : Int) (r1 : ByteArray) (r2 : Int) (r3 : Int) (w0 w : World) (hI : IsS167 w0 w g s0_0 s0_1 s0_2) (hB : Below w0.heap.size w0 w) (h : spec_l4Key.f s0_0 s0_1 s0_2 = some (r1, r2, r3)) :
  Calls Try.prog 133 #[.pointer (some ⟨g, 0, none⟩)] w fun e w' => e = .returned (.string r1) ∧ IsS167 w0 w' g s0_0 r2 r3 ∧ Below w0.heap.size w0 w' ∧ KeepBut w w' g none := by
 have HI0 := mS hI
 have HK := mS (KeepBut.refl w g none)
 have HL := mS hB.size
 clear hI
 have HW0 := mS hB.size
 have HB := mS hB
 clear hB
 have H : ((spec_l1Str.f s0_0 s0_1 s0_2 (([(⟨#[97]⟩ : ByteArray), (⟨#[97, 98]⟩ : ByteArray), (⟨#[97, 98, 99]⟩ : ByteArray), (⟨#[98]⟩ : ByteArray), (⟨#[98, 97]⟩ : ByteArray), (⟨#[99]⟩ : ByteArray), (⟨#[100]⟩ : ByteArray), (⟨#[107, 101, 121, 49]⟩ : ByteArray), (⟨#[107, 101, 121, 49, 48]⟩ : ByteArray), (⟨#[107, 101, 121, 50]⟩ : ByteArray), (⟨#[122]⟩ : ByteArray)] : List ByteArray))).bind fun bt251 => (some (bt251.1, bt251.2.1, bt251.2.2))) = some (r1, r2, r3) := h
 clear h
 obtain ⟨y248, hy248⟩ : ∃ y_ : List ByteArray, y_ = (([(⟨#[97]⟩ : ByteArray), (⟨#[97, 98]⟩ : ByteArray), (⟨#[97, 98, 99]⟩ : ByteArray), (⟨#[98]⟩ : ByteArray), (⟨#[98, 97]⟩ : ByteArray), (⟨#[99]⟩ : ByteArray), (⟨#[100]⟩ : ByteArray), (⟨#[107, 101, 121, 49]⟩ : ByteArray), (⟨#[107, 101, 121, 49, 48]⟩ : ByteArray), (⟨#[107, 101, 121, 50]⟩ : ByteArray), (⟨#[122]⟩ : ByteArray)] : List ByteArray)) := ⟨_, rfl⟩
 replace H : ((spec_l1Str.f s0_0 s0_1 s0_2 y248).bind fun bt251 => (some (bt251.1, bt251.2.1, bt251.2.2))) = some (r1, r2, r3) := by first | (rw [hy248]; with_reducible exact H) | (have H2_ := (Option.bind_some _ _).symm.trans H; rw [hy248]; with_reducible exact H2_) | (have H2_ := (Option.bind_some _ _).symm.trans H; with_reducible exact H2_) | with_reducible exact H | (rw [hy248]; exact H) | exact H
 have Ny248 := mS hy248
 clear hy248
 replace H := Option.bind_eq_some_iff.mp H
 obtain ⟨⟨t251, t252, t253⟩, A20, H⟩ := H
 replace H : (some (t251, t252, t253)) = some (r1, r2, r3) := H
 have A2 := mS A20
 clear A20
 simp only [Option.some.injEq, Prod.mk.injEq] at H
 obtain ⟨rfl, rfl, rfl⟩ := H
 go_enter Try.func133, Try.ntmps133
 go_wp2_with (first | ((with_reducible refine gate_dst (N := 4) rfl ?_); refine Kd.R_lit Kd.string _ 9 ?hg (N := 4) ?hd (xs := ([(⟨#[97]⟩ : ByteArray), (⟨#[97, 98]⟩ : ByteArray), (⟨#[97, 98, 99]⟩ : ByteArray), (⟨#[98]⟩ : ByteArray), (⟨#[98, 97]⟩ : ByteArray), (⟨#[99]⟩ : ByteArray), (⟨#[100]⟩ : ByteArray), (⟨#[107, 101, 121, 49]⟩ : ByteArray), (⟨#[107, 101, 121, 49, 48]⟩ : ByteArray), (⟨#[107, 101, 121, 50]⟩ : ByteArray), (⟨#[122]⟩ : ByteArray)] : List ByteArray)) (inner := [.string (⟨#[97]⟩ : ByteArray), .string (⟨#[97, 98]⟩ : ByteArray), .string (⟨#[97, 98, 99]⟩ : ByteArray), .string (⟨#[98]⟩ : ByteArray), .string (⟨#[98, 97]⟩ : ByteArray), .string (⟨#[99]⟩ : ByteArray), .string (⟨#[100]⟩ : ByteArray), .string (⟨#[107, 101, 121, 49]⟩ : ByteArray), .string (⟨#[107, 101, 121, 49, 48]⟩ : ByteArray), .string (⟨#[107, 101, 121, 50]⟩ : ByteArray), .string (⟨#[122]⟩ : ByteArray)]) (ok := fun _ => True) (okp := fun _ => True) ?hr ?hp (fun _ hk => hk) trivial (Below.refl _ _) (Nat.le_refl _) (by simp) ?_; (case hd => rfl); (case hg => rfl); (case hr => first | (go_simp; done) | (go_simp; rfl)); (case hp => exact (Reps.one (show Kd.M Kd.string _ _ _ (⟨#[97]⟩ : ByteArray) [.string (⟨#[97]⟩ : ByteArray)] from rfl) (Reps.one (show Kd.M Kd.string _ _ _ (⟨#[97, 98]⟩ : ByteArray) [.string (⟨#[97, 98]⟩ : ByteArray)] from rfl) (Reps.one (show Kd.M Kd.string _ _ _ (⟨#[97, 98, 99]⟩ : ByteArray) [.string (⟨#[97, 98, 99]⟩ : ByteArray)] from rfl) (Reps.one (show Kd.M Kd.string _ _ _ (⟨#[98]⟩ : ByteArray) [.string (⟨#[98]⟩ : ByteArray)] from rfl) (Reps.one (show Kd.M Kd.string _ _ _ (⟨#[98, 97]⟩ : ByteArray) [.string (⟨#[98, 97]⟩ : ByteArray)] from rfl) (Reps.one (show Kd.M Kd.string _ _ _ (⟨#[99]⟩ : ByteArray) [.string (⟨#[99]⟩ : ByteArray)] from rfl) (Reps.one (show Kd.M Kd.string _ _ _ (⟨#[100]⟩ : ByteArray) [.string (⟨#[100]⟩ : ByteArray)] from rfl) (Reps.one (show Kd.M Kd.string _ _ _ (⟨#[107, 101, 121, 49]⟩ : ByteArray) [.string (⟨#[107, 101, 121, 49]⟩ : ByteArray)] from rfl) (Reps.one (show Kd.M Kd.string _ _ _ (⟨#[107, 101, 121, 49, 48]⟩ : ByteArray) [.string (⟨#[107, 101, 121, 49, 48]⟩ : ByteArray)] from rfl) (Reps.one (show Kd.M Kd.string _ _ _ (⟨#[107, 101, 121, 50]⟩ : ByteArray) [.string (⟨#[107, 101, 121, 50]⟩ : ByteArray)] from rfl) (Reps.one (show Kd.M Kd.string _ _ _ (⟨#[122]⟩ : ByteArray) [.string (⟨#[122]⟩ : ByteArray)] from rfl) (Reps.none _ _))))))))))))); intro v249 w3 ho4 hb hg_ hnew_; clear hg_ hnew_; (first | rw [← Ny248.out] at ho4 | (simp only [Int.reduceToNat] at ho4; rw [← Ny248.out] at ho4)); have HO250 := mS (Kd.R_lower ho4 (keep_size (w := w) (g := g) (row := none) (mQ137_3 HK.out))); replace HK := mS (KeepBut.trans (mQ137_3 HK.out) (KeepBut.of_below hb g none) (.inl rfl)); replace HB := mS (below_step (mH137_6 HB.out (IsS167.ge HI0.out)) hb); replace HI0 := mS (IsS167.below (mI137_0 HI0.out) hb); clear hb ho4; obtain ⟨Ao5, co5, eo5⟩ := Kd.R_slice HO250.out; subst eo5) | ((with_reducible refine gate_callee (f := 137) rfl ?_); refine goesL_ (some 5) rfl rfl Try.func137 (by kernel_rfl) rfl #[.pointer (some ⟨g, 0, none⟩), .slice Ao5 y248.length co5] rfl mA ?_; (with_reducible refine (spec_l1Str.calls g s0_0 s0_1 s0_2 _ _ y248 t251 t252 t253 w0 _ ?side1 ?side2 ?side3 ?side4 ?side5 A2.out).mono ?_); (case side1 => repeat (first | (with_reducible first | exact HI0.out | apply IsS167.alloc | apply IsS167.drewN | apply IsS167.drew | apply IsS167.set_1 | apply IsS167.set_2) | exact HI0.out)); (case side2 => repeat (first | (with_reducible first | exact HB.out | apply below_alloc | apply pw_below_drewN | apply below_drew1 | refine below_set ?_ (IsS167.ge HI0.out)) | exact HB.out)); (case side3 => repeat (first | exact (Kd.R_reads' HO250.out).2.2 | (with_reducible refine Kd.C_alloc ?_ _) | (with_reducible refine Kd.C_drewN ?_ _) | (with_reducible refine Kd.C_drew ?_))); (case side4 => exact (Kd.R_reads' HO250.out).2.1); (case side5 => exact far_slice (IsS167.own_ne HI0.out HO250.out (by decide))); rintro e w6 ⟨rfl, hi, hb, hk⟩; refine ⟨_, rfl, ?_⟩; replace HO250 := mS (Kd.R_mono (Kd.R_keep (IsS167.apart (show IsS167 w0 _ g s0_0 s0_1 s0_2 from mI137_0 HI0.out) (mR HO250.out) (by decide)) hk (fun _ h => h.2)) (fun _ h => h.1)); replace HK := mS (KeepBut.trans (mQ137_3 HK.out) hk (.inl rfl)); replace HB := mS (hb); replace HI0 := mS (hi); (try clear hb); (try clear hb2); (try clear hk); (try clear hi)))
 go_ret
 exact ⟨by first | rfl | (simp [errW_none, errW_some] <;> rfl) | (simp [*, errW_none, errW_some] <;> rfl), mI137_0 HI0.out, mH137_6 HB.out (IsS167.ge HI0.out), mQ137_3 HK.out⟩

/-! ### spec_l4Pair: function 136 -/
def spec_l4Pair.f (s0_0 : List Int) (s0_1 : Int) (s0_2 : Int) : Option (ByteArray × ByteArray × Bool × Int × Int) := (spec_l4Key.f s0_0 s0_1 s0_2).bind fun bt255 => ((spec_l1Once.f s0_0 bt255.2.1 bt255.2.2 5).bind fun bt258 => (if bt258.1 = true then (some (bt255.1, (⟨#[]⟩ : ByteArray), bt258.1, bt258.2.1, bt258.2.2)) else ((spec_l1Str.f s0_0 bt258.2.1 bt258.2.2 (([(⟨#[]⟩ : ByteArray), (⟨#[49]⟩ : ByteArray), (⟨#[50]⟩ : ByteArray), (⟨#[120, 121, 122]⟩ : ByteArray), (⟨#[0]⟩ : ByteArray)] : List ByteArray))).bind fun bt265 => (some (bt255.1, bt265.1, bt258.1, bt265.2.1, bt265.2.2)))))
set_option maxHeartbeats 8000000 in
set_option maxRecDepth 100000 in
theorem spec_l4Pair.calls (g : Nat) (s0_0 : List Int) (s0_1 : Int) (s0_2 : Int) (r1 : ByteArray) (r2 : ByteArray) (r3 : Bool) (r4 : Int) (r5 : Int) (w0 w : World) (hI : IsS167 w0 w g s0_0 s0_1 s0_2) (hB : Below w0.heap.size w0 w) (h : spec_l4Pair.f s0_0 s0_1 s0_2 = some (r1, r2, r3, r4, r5)) :
  Calls Try.prog 136 #[.pointer (some ⟨g, 0, none⟩)] w fun e w' => e = .returned (.agg #[.string r1, .string r2, .bool r3]) ∧ IsS167 w0 w' g s0_0 r4 r5 ∧ Below w0.heap.size w0 w' ∧ KeepBut w w' g none := by
 have hu33 := Try.underlying33
 have HI0 := mS hI
 have HK := mS (KeepBut.refl w g none)
 have HL := mS hB.size
 clear hI
 have HW0 := mS hB.size
 have HB := mS hB
 clear hB
 have H : ((spec_l4Key.f s0_0 s0_1 s0_2).bind fun bt255 => ((spec_l1Once.f s0_0 bt255.2.1 bt255.2.2 5).bind fun bt258 => (if bt258.1 = true then (some (bt255.1, (⟨#[]⟩ : ByteArray), bt258.1, bt258.2.1, bt258.2.2)) else ((spec_l1Str.f s0_0 bt258.2.1 bt258.2.2 (([(⟨#[]⟩ : ByteArray), (⟨#[49]⟩ : ByteArray), (⟨#[50]⟩ : ByteArray), (⟨#[120, 121, 122]⟩ : ByteArray), (⟨#[0]⟩ : ByteArray)] : List ByteArray))).bind fun bt265 => (some (bt255.1, bt265.1, bt258.1, bt265.2.1, bt265.2.2)))))) = some (r1, r2, r3, r4, r5) := h
 clear h
 replace H := Option.bind_eq_some_iff.mp H
 obtain ⟨⟨t255, t256, t257⟩, A20, H⟩ := H
 replace H : ((spec_l1Once.f s0_0 t256 t257 5).bind fun bt258 => (if bt258.1 = true then (some (t255, (⟨#[]⟩ : ByteArray), bt258.1, bt258.2.1, bt258.2.2)) else ((spec_l1Str.f s0_0 bt258.2.1 bt258.2.2 (([(⟨#[]⟩ : ByteArray), (⟨#[49]⟩ : ByteArray), (⟨#[50]⟩ : ByteArray), (⟨#[120, 121, 122]⟩ : ByteArray), (⟨#[0]⟩ : ByteArray)] : List ByteArray))).bind fun bt265 => (some (t255, bt265.1, bt258.1, bt265.2.1, bt265.2.2))))) = some (r1, r2, r3, r4, r5) := H
 have A2 := mS A20
 clear A20
 replace H := Option.bind_eq_some_iff.mp H
 obtain ⟨⟨t258, t259, t260⟩, A30, H⟩ := H
 replace H : (if t258 = true then (some (t255, (⟨#[]⟩ : ByteArray), t258, t259, t260)) else ((spec_l1Str.f s0_0 t259 t260 (([(⟨#[]⟩ : ByteArray), (⟨#[49]⟩ : ByteArray), (⟨#[50]⟩ : ByteArray), (⟨#[120, 121, 122]⟩ : ByteArray), (⟨#[0]⟩ : ByteArray)] : List ByteArray))).bind fun bt265 => (some (t255, bt265.1, t258, bt265.2.1, bt265.2.2)))) = some (r1, r2, r3, r4, r5) := H
 have A3 := mS A30
 clear A30
 by_cases c4 : t258 = true
 ·subst c4
  have H1 : (some (t255, (⟨#[]⟩ : ByteArray), true, t259, t260)) = some (r1, r2, r3, r4, r5) := by rw [if_pos rfl] at H; exact H
  clear H
  have H := H1
  clear H1
  simp only [Option.some.injEq, Prod.mk.injEq] at H
  obtain ⟨rfl, rfl, rfl, rfl, rfl⟩ := H
  go_enter Try.func136, Try.ntmps136
  go_wp2_with (first | ((with_reducible refine gate_dst (N := 2) rfl ?_); refine box_event ?hg (N := 2) ?hd (cs := #[.string (⟨#[]⟩ : ByteArray), .string (⟨#[]⟩ : ByteArray), .bool false]) (t := 33) ?hr ?_; (case hd => rfl); (case hg => rfl); (case hr => first | (go_simp; done) | (go_simp; rfl)); intro gb254 hg w5 hbox hb; replace HB := mS (below_step (mH137_6 HB.out (IsS167.ge HI0.out)) hb); have BK254 := mS (hbox); have GW254 := mS ((by rw [hg]; exact (keep_size (w := w) (g := g) (row := none) (mQ137_3 HK.out)) : w.heap.size ≤ gb254)); have GE254 := mS ((Nat.le_trans HW0.out (by rw [hg]; exact (keep_size (w := w) (g := g) (row := none) (mQ137_3 HK.out)) : w.heap.size ≤ gb254) : w0.heap.size ≤ gb254)); replace HK := mS (KeepBut.trans (mQ137_3 HK.out) (KeepBut.of_below hb g none) (.inl rfl)); have NB0_254 := mS ((by rw [hg]; exact Nat.ne_of_lt (IsS167.lt (show IsS167 w0 _ g s0_0 s0_1 s0_2 from mI137_0 HI0.out)) : g ≠ gb254)); have NB254_0 := mS ((by rw [hg]; exact Nat.ne_of_gt (IsS167.lt (show IsS167 w0 _ g s0_0 s0_1 s0_2 from mI137_0 HI0.out)) : gb254 ≠ g)); replace HI0 := mS (IsS167.below (mI137_0 HI0.out) hb); clear hb hbox hg) | ((with_reducible refine gate_callee (f := 133) rfl ?_); refine goesL_ (some 5) rfl rfl Try.func133 (by kernel_rfl) rfl #[.pointer (some ⟨g, 0, none⟩)] rfl mA ?_; (with_reducible refine (spec_l4Key.calls g s0_0 s0_1 s0_2 t255 t256 t257 w0 _ ?side1 ?side2 A2.out).mono ?_); (case side1 => repeat (first | (with_reducible first | exact HI0.out | apply IsS167.alloc | apply IsS167.drewN | apply IsS167.drew | apply IsS167.set_1 | apply IsS167.set_2 | refine IsS167.far ?_ NB0_254.out _) | exact HI0.out)); (case side2 => repeat (first | (with_reducible first | exact HB.out | apply below_alloc | apply pw_below_drewN | apply below_drew1 | refine below_set ?_ (IsS167.ge HI0.out) | refine below_set ?_ GE254.out) | exact HB.out)); rintro e w6 ⟨rfl, hi, hb, hk⟩; refine ⟨_, rfl, ?_⟩; replace BK254 := mS (KeepBut.blk hk (g' := gb254) (o := .cells #[.string (⟨#[]⟩ : ByteArray), .string (⟨#[]⟩ : ByteArray), .bool false] 33 (0, 0)) (mK BK254.out) NB254_0.out (by simp)); replace HK := mS (KeepBut.trans (mQ137_4 HK.out GW254.out) hk (.inl rfl)); replace HB := mS (hb); replace HI0 := mS (hi); (try clear hb); (try clear hb2); (try clear hk); (try clear hi)) | ((with_reducible refine gate_callee (f := 81) rfl ?_); refine goesL_ (some 7) rfl rfl Try.func81 (by kernel_rfl) rfl #[.pointer (some ⟨g, 0, none⟩), .int .i64 5] rfl mA ?_; (with_reducible refine (spec_l1Once.calls g s0_0 t256 t257 5 true t259 t260 w0 _ ?side1 ?side2 A3.out).mono ?_); (case side1 => repeat (first | (with_reducible first | exact HI0.out | apply IsS167.alloc | apply IsS167.drewN | apply IsS167.drew | apply IsS167.set_1 | apply IsS167.set_2 | refine IsS167.far ?_ NB0_254.out _) | exact HI0.out)); (case side2 => repeat (first | (with_reducible first | exact HB.out | apply below_alloc | apply pw_below_drewN | apply below_drew1 | refine below_set ?_ (IsS167.ge HI0.out) | refine below_set ?_ GE254.out) | exact HB.out)); rintro e w7 ⟨rfl, hi, hb, hk⟩; refine ⟨_, rfl, ?_⟩; replace BK254 := mS (KeepBut.blk hk (g' := gb254) (o := .cells #[.string (⟨#[]⟩ : ByteArray), .string (⟨#[]⟩ : ByteArray), .bool false] 33 (0, 0)) (mK BK254.out) NB254_0.out (by simp)); replace HK := mS (KeepBut.trans (mQ137_4 HK.out GW254.out) hk (.inl rfl)); replace HB := mS (hb); replace HI0 := mS (hi); (try clear hb); (try clear hb2); (try clear hk); (try clear hi)) | ((with_reducible refine gate_dst (N := 3) rfl ?_); refine box_event ?hg (N := 3) ?hd (cs := #[.string (⟨#[]⟩ : ByteArray), .string (⟨#[]⟩ : ByteArray), .bool false]) (t := 33) ?hr ?_; (case hd => rfl); (case hg => rfl); (case hr => first | (go_simp; done) | (go_simp; rfl)); intro gb261 hg w8 hbox hb; replace HB := mS (below_step (mH137_7 HB.out (IsS167.ge HI0.out) GE254.out) hb); have BK261 := mS (hbox); have GW261 := mS ((by rw [hg]; exact (keep_size (w := w) (g := g) (row := none) (mQ137_4 HK.out GW254.out)) : w.heap.size ≤ gb261)); have GE261 := mS ((Nat.le_trans HW0.out (by rw [hg]; exact (keep_size (w := w) (g := g) (row := none) (mQ137_4 HK.out GW254.out)) : w.heap.size ≤ gb261) : w0.heap.size ≤ gb261)); replace HK := mS (KeepBut.trans (mQ137_4 HK.out GW254.out) (KeepBut.of_below hb g none) (.inl rfl)); have NB254_261 := mNl hg BK254.out; have NB261_254 := mNg hg BK254.out; replace BK254 := mB BK254 hb; have NB0_261 := mS ((by rw [hg]; exact Nat.ne_of_lt (IsS167.lt (show IsS167 w0 _ g s0_0 t259 t260 from mI137_1 HI0.out NB0_254.out)) : g ≠ gb261)); have NB261_0 := mS ((by rw [hg]; exact Nat.ne_of_gt (IsS167.lt (show IsS167 w0 _ g s0_0 t259 t260 from mI137_1 HI0.out NB0_254.out)) : gb261 ≠ g)); replace HI0 := mS (IsS167.below (mI137_1 HI0.out NB0_254.out) hb); clear hb hbox hg; have hnb9 := NB261_254.out; have hnc9 := NB254_261.out; have hnb10 := NB261_0.out; have hnc10 := NB0_261.out; have hcz11_0 := mZ BK261.out 0; have hcz11_1 := mZ BK261.out 1; have hcz11_2 := mZ BK261.out 2; have hfz11_0 := blk_frozen BK261.out 0; have hfz11_1 := blk_frozen BK261.out 1; have hfz11_2 := blk_frozen BK261.out 2; have hnb12 := NB254_0.out; have hnc12 := NB0_254.out; have hcz13_0 := mZ BK254.out 0; have hcz13_1 := mZ BK254.out 1; have hcz13_2 := mZ BK254.out 2; have hfz13_0 := blk_frozen BK254.out 0; have hfz13_1 := blk_frozen BK254.out 1; have hfz13_2 := blk_frozen BK254.out 2))
  refine bodyPost_ret (results_cell_row rfl _ _ gb254 33 #[.string t255, .string (⟨#[]⟩ : ByteArray), .bool true] (0, 0) _ rfl (by (with_reducible repeat (first | refine blk_drewN ?_ _ | refine blk_drew ?_ | refine blk_alloc ?_ _)); refine blk_put (cs := #[.string t255, .string (⟨#[]⟩ : ByteArray), .bool false]) ?_ 2 _ rfl; (with_reducible repeat (first | refine blk_drewN ?_ _ | refine blk_drew ?_ | refine blk_alloc ?_ _)); refine blk_put (cs := #[.string t255, .string (⟨#[]⟩ : ByteArray), .bool false]) ?_ 1 _ rfl; (with_reducible repeat (first | refine blk_drewN ?_ _ | refine blk_drew ?_ | refine blk_alloc ?_ _)); refine blk_put (cs := #[.string (⟨#[]⟩ : ByteArray), .string (⟨#[]⟩ : ByteArray), .bool false]) ?_ 0 _ rfl; (with_reducible repeat (first | refine blk_drewN ?_ _ | refine blk_drew ?_ | refine blk_alloc ?_ _)); refine blk_far ?_ NB254_261.out _; (with_reducible repeat (first | refine blk_drewN ?_ _ | refine blk_drew ?_ | refine blk_alloc ?_ _)); refine blk_far ?_ NB254_261.out _; (with_reducible repeat (first | refine blk_drewN ?_ _ | refine blk_drew ?_ | refine blk_alloc ?_ _)); refine blk_far ?_ NB254_261.out _; (with_reducible repeat (first | refine blk_drewN ?_ _ | refine blk_drew ?_ | refine blk_alloc ?_ _)); exact BK254.out) Try.underlying33 rfl (by kernel_rfl)) rfl ?_
  exact ⟨by first | rfl | (simp [errW_none, errW_some] <;> rfl) | (simp [*, errW_none, errW_some] <;> rfl), mI137_2 HI0.out NB0_254.out NB0_261.out, mH137_8 HB.out (IsS167.ge HI0.out) GE254.out GE261.out, mQ137_5 HK.out GW254.out GW261.out⟩
 ·replace c4 := Bool.eq_false_iff.mpr c4
  subst c4
  have H1 : ((spec_l1Str.f s0_0 t259 t260 (([(⟨#[]⟩ : ByteArray), (⟨#[49]⟩ : ByteArray), (⟨#[50]⟩ : ByteArray), (⟨#[120, 121, 122]⟩ : ByteArray), (⟨#[0]⟩ : ByteArray)] : List ByteArray))).bind fun bt265 => (some (t255, bt265.1, false, bt265.2.1, bt265.2.2))) = some (r1, r2, r3, r4, r5) := by rw [if_neg (show ¬ (false = true) by decide)] at H; exact H
  clear H
  have H := H1
  clear H1
  obtain ⟨y262, hy262⟩ : ∃ y_ : List ByteArray, y_ = (([(⟨#[]⟩ : ByteArray), (⟨#[49]⟩ : ByteArray), (⟨#[50]⟩ : ByteArray), (⟨#[120, 121, 122]⟩ : ByteArray), (⟨#[0]⟩ : ByteArray)] : List ByteArray)) := ⟨_, rfl⟩
  replace H : ((spec_l1Str.f s0_0 t259 t260 y262).bind fun bt265 => (some (t255, bt265.1, false, bt265.2.1, bt265.2.2))) = some (r1, r2, r3, r4, r5) := by first | (rw [hy262]; with_reducible exact H) | (have H2_ := (Option.bind_some _ _).symm.trans H; rw [hy262]; with_reducible exact H2_) | (have H2_ := (Option.bind_some _ _).symm.trans H; with_reducible exact H2_) | with_reducible exact H | (rw [hy262]; exact H) | exact H
  have Ny262 := mS hy262
  clear hy262
  replace H := Option.bind_eq_some_iff.mp H
  obtain ⟨⟨t265, t266, t267⟩, A140, H⟩ := H
  replace H : (some (t255, t265, false, t266, t267)) = some (r1, r2, r3, r4, r5) := H
  have A14 := mS A140
  clear A140
  simp only [Option.some.injEq, Prod.mk.injEq] at H
  obtain ⟨rfl, rfl, rfl, rfl, rfl⟩ := H
  go_enter Try.func136, Try.ntmps136
  go_wp2_with (first | ((with_reducible refine gate_dst (N := 2) rfl ?_); refine box_event ?hg (N := 2) ?hd (cs := #[.string (⟨#[]⟩ : ByteArray), .string (⟨#[]⟩ : ByteArray), .bool false]) (t := 33) ?hr ?_; (case hd => rfl); (case hg => rfl); (case hr => first | (go_simp; done) | (go_simp; rfl)); intro gb254 hg w15 hbox hb; replace HB := mS (below_step (mH137_6 HB.out (IsS167.ge HI0.out)) hb); have BK254 := mS (hbox); have GW254 := mS ((by rw [hg]; exact (keep_size (w := w) (g := g) (row := none) (mQ137_3 HK.out)) : w.heap.size ≤ gb254)); have GE254 := mS ((Nat.le_trans HW0.out (by rw [hg]; exact (keep_size (w := w) (g := g) (row := none) (mQ137_3 HK.out)) : w.heap.size ≤ gb254) : w0.heap.size ≤ gb254)); replace HK := mS (KeepBut.trans (mQ137_3 HK.out) (KeepBut.of_below hb g none) (.inl rfl)); have NB0_254 := mS ((by rw [hg]; exact Nat.ne_of_lt (IsS167.lt (show IsS167 w0 _ g s0_0 s0_1 s0_2 from mI137_0 HI0.out)) : g ≠ gb254)); have NB254_0 := mS ((by rw [hg]; exact Nat.ne_of_gt (IsS167.lt (show IsS167 w0 _ g s0_0 s0_1 s0_2 from mI137_0 HI0.out)) : gb254 ≠ g)); replace HI0 := mS (IsS167.below (mI137_0 HI0.out) hb); clear hb hbox hg) | ((with_reducible refine gate_callee (f := 133) rfl ?_); refine goesL_ (some 5) rfl rfl Try.func133 (by kernel_rfl) rfl #[.pointer (some ⟨g, 0, none⟩)] rfl mA ?_; (with_reducible refine (spec_l4Key.calls g s0_0 s0_1 s0_2 t255 t256 t257 w0 _ ?side1 ?side2 A2.out).mono ?_); (case side1 => repeat (first | (with_reducible first | exact HI0.out | apply IsS167.alloc | apply IsS167.drewN | apply IsS167.drew | apply IsS167.set_1 | apply IsS167.set_2 | refine IsS167.far ?_ NB0_254.out _) | exact HI0.out)); (case side2 => repeat (first | (with_reducible first | exact HB.out | apply below_alloc | apply pw_below_drewN | apply below_drew1 | refine below_set ?_ (IsS167.ge HI0.out) | refine below_set ?_ GE254.out) | exact HB.out)); rintro e w16 ⟨rfl, hi, hb, hk⟩; refine ⟨_, rfl, ?_⟩; replace BK254 := mS (KeepBut.blk hk (g' := gb254) (o := .cells #[.string (⟨#[]⟩ : ByteArray), .string (⟨#[]⟩ : ByteArray), .bool false] 33 (0, 0)) (mK BK254.out) NB254_0.out (by simp)); replace HK := mS (KeepBut.trans (mQ137_4 HK.out GW254.out) hk (.inl rfl)); replace HB := mS (hb); replace HI0 := mS (hi); (try clear hb); (try clear hb2); (try clear hk); (try clear hi)) | ((with_reducible refine gate_callee (f := 81) rfl ?_); refine goesL_ (some 7) rfl rfl Try.func81 (by kernel_rfl) rfl #[.pointer (some ⟨g, 0, none⟩), .int .i64 5] rfl mA ?_; (with_reducible refine (spec_l1Once.calls g s0_0 t256 t257 5 false t259 t260 w0 _ ?side1 ?side2 A3.out).mono ?_); (case side1 => repeat (first | (with_reducible first | exact HI0.out | apply IsS167.alloc | apply IsS167.drewN | apply IsS167.drew | apply IsS167.set_1 | apply IsS167.set_2 | refine IsS167.far ?_ NB0_254.out _) | exact HI0.out)); (case side2 => repeat (first | (with_reducible first | exact HB.out | apply below_alloc | apply pw_below_drewN | apply below_drew1 | refine below_set ?_ (IsS167.ge HI0.out) | refine below_set ?_ GE254.out) | exact HB.out)); rintro e w17 ⟨rfl, hi, hb, hk⟩; refine ⟨_, rfl, ?_⟩; replace BK254 := mS (KeepBut.blk hk (g' := gb254) (o := .cells #[.string (⟨#[]⟩ : ByteArray), .string (⟨#[]⟩ : ByteArray), .bool false] 33 (0, 0)) (mK BK254.out) NB254_0.out (by simp)); replace HK := mS (KeepBut.trans (mQ137_4 HK.out GW254.out) hk (.inl rfl)); replace HB := mS (hb); replace HI0 := mS (hi); (try clear hb); (try clear hb2); (try clear hk); (try clear hi)) | ((with_reducible refine gate_dst (N := 3) rfl ?_); refine box_event ?hg (N := 3) ?hd (cs := #[.string (⟨#[]⟩ : ByteArray), .string (⟨#[]⟩ : ByteArray), .bool false]) (t := 33) ?hr ?_; (case hd => rfl); (case hg => rfl); (case hr => first | (go_simp; done) | (go_simp; rfl)); intro gb261 hg w18 hbox hb; replace HB := mS (below_step (mH137_7 HB.out (IsS167.ge HI0.out) GE254.out) hb); have BK261 := mS (hbox); have GW261 := mS ((by rw [hg]; exact (keep_size (w := w) (g := g) (row := none) (mQ137_4 HK.out GW254.out)) : w.heap.size ≤ gb261)); have GE261 := mS ((Nat.le_trans HW0.out (by rw [hg]; exact (keep_size (w := w) (g := g) (row := none) (mQ137_4 HK.out GW254.out)) : w.heap.size ≤ gb261) : w0.heap.size ≤ gb261)); replace HK := mS (KeepBut.trans (mQ137_4 HK.out GW254.out) (KeepBut.of_below hb g none) (.inl rfl)); have NB254_261 := mNl hg BK254.out; have NB261_254 := mNg hg BK254.out; replace BK254 := mB BK254 hb; have NB0_261 := mS ((by rw [hg]; exact Nat.ne_of_lt (IsS167.lt (show IsS167 w0 _ g s0_0 t259 t260 from mI137_1 HI0.out NB0_254.out)) : g ≠ gb261)); have NB261_0 := mS ((by rw [hg]; exact Nat.ne_of_gt (IsS167.lt (show IsS167 w0 _ g s0_0 t259 t260 from mI137_1 HI0.out NB0_254.out)) : gb261 ≠ g)); replace HI0 := mS (IsS167.below (mI137_1 HI0.out NB0_254.out) hb); clear hb hbox hg; have hnb19 := NB261_254.out; have hnc19 := NB254_261.out; have hnb20 := NB261_0.out; have hnc20 := NB0_261.out; have hcz21_0 := mZ BK261.out 0; have hcz21_1 := mZ BK261.out 1; have hcz21_2 := mZ BK261.out 2; have hfz21_0 := blk_frozen BK261.out 0; have hfz21_1 := blk_frozen BK261.out 1; have hfz21_2 := blk_frozen BK261.out 2) | ((with_reducible refine gate_dst (N := 13) rfl ?_); refine Kd.R_lit Kd.string _ 9 ?hg (N := 13) ?hd (xs := ([(⟨#[]⟩ : ByteArray), (⟨#[49]⟩ : ByteArray), (⟨#[50]⟩ : ByteArray), (⟨#[120, 121, 122]⟩ : ByteArray), (⟨#[0]⟩ : ByteArray)] : List ByteArray)) (inner := [.string (⟨#[]⟩ : ByteArray), .string (⟨#[49]⟩ : ByteArray), .string (⟨#[50]⟩ : ByteArray), .string (⟨#[120, 121, 122]⟩ : ByteArray), .string (⟨#[0]⟩ : ByteArray)]) (ok := fun _ => True) (okp := fun _ => True) ?hr ?hp (fun _ hk => hk) trivial (Below.refl _ _) (Nat.le_refl _) (by simp) ?_; (case hd => rfl); (case hg => rfl); (case hr => first | (go_simp; done) | (go_simp; rfl)); (case hp => exact (Reps.one (show Kd.M Kd.string _ _ _ (⟨#[]⟩ : ByteArray) [.string (⟨#[]⟩ : ByteArray)] from rfl) (Reps.one (show Kd.M Kd.string _ _ _ (⟨#[49]⟩ : ByteArray) [.string (⟨#[49]⟩ : ByteArray)] from rfl) (Reps.one (show Kd.M Kd.string _ _ _ (⟨#[50]⟩ : ByteArray) [.string (⟨#[50]⟩ : ByteArray)] from rfl) (Reps.one (show Kd.M Kd.string _ _ _ (⟨#[120, 121, 122]⟩ : ByteArray) [.string (⟨#[120, 121, 122]⟩ : ByteArray)] from rfl) (Reps.one (show Kd.M Kd.string _ _ _ (⟨#[0]⟩ : ByteArray) [.string (⟨#[0]⟩ : ByteArray)] from rfl) (Reps.none _ _))))))); intro v263 w22 ho23 hb hg_ hnew_; clear hg_ hnew_; (first | rw [← Ny262.out] at ho23 | (simp only [Int.reduceToNat] at ho23; rw [← Ny262.out] at ho23)); have HO264 := mS (Kd.R_lower ho23 (keep_size (w := w) (g := g) (row := none) (mQ137_5 HK.out GW254.out GW261.out))); replace BK254 := mS (blk_below (g := gb254) (o := .cells #[.string (⟨#[]⟩ : ByteArray), .string (⟨#[]⟩ : ByteArray), .bool false] 33 (0, 0)) (by (with_reducible repeat (first | refine blk_drewN ?_ _ | refine blk_drew ?_ | refine blk_alloc ?_ _)); refine blk_far ?_ NB254_261.out _; (with_reducible repeat (first | refine blk_drewN ?_ _ | refine blk_drew ?_ | refine blk_alloc ?_ _)); refine blk_far ?_ NB254_261.out _; (with_reducible repeat (first | refine blk_drewN ?_ _ | refine blk_drew ?_ | refine blk_alloc ?_ _)); refine blk_far ?_ NB254_261.out _; (with_reducible repeat (first | refine blk_drewN ?_ _ | refine blk_drew ?_ | refine blk_alloc ?_ _)); exact BK254.out) hb); replace BK261 := mS (blk_below (g := gb261) (o := .cells #[.string t255, .string (⟨#[]⟩ : ByteArray), .bool false] 33 (0, 0)) (by (with_reducible repeat (first | refine blk_drewN ?_ _ | refine blk_drew ?_ | refine blk_alloc ?_ _)); refine blk_put (cs := #[.string t255, .string (⟨#[]⟩ : ByteArray), .bool false]) ?_ 2 _ rfl; (with_reducible repeat (first | refine blk_drewN ?_ _ | refine blk_drew ?_ | refine blk_alloc ?_ _)); refine blk_put (cs := #[.string t255, .string (⟨#[]⟩ : ByteArray), .bool false]) ?_ 1 _ rfl; (with_reducible repeat (first | refine blk_drewN ?_ _ | refine blk_drew ?_ | refine blk_alloc ?_ _)); refine blk_put (cs := #[.string (⟨#[]⟩ : ByteArray), .string (⟨#[]⟩ : ByteArray), .bool false]) ?_ 0 _ rfl; (with_reducible repeat (first | refine blk_drewN ?_ _ | refine blk_drew ?_ | refine blk_alloc ?_ _)); exact BK261.out) hb); replace HK := mS (KeepBut.trans (mQ137_5 HK.out GW254.out GW261.out) (KeepBut.of_below hb g none) (.inl rfl)); replace HB := mS (below_step (mH137_8 HB.out (IsS167.ge HI0.out) GE254.out GE261.out) hb); replace HI0 := mS (IsS167.below (show IsS167 w0 (((w18.setCell ⟨gb261, 0, none⟩ (.string t255)).setCell ⟨gb261, 1, none⟩ (.string (⟨#[]⟩ : ByteArray))).setCell ⟨gb261, 2, none⟩ (.bool false)) g s0_0 t259 t260 from mI137_2 HI0.out NB0_254.out NB0_261.out) hb); clear hb ho23; obtain ⟨Ao24, co24, eo24⟩ := Kd.R_slice HO264.out; subst eo24) | ((with_reducible refine gate_callee (f := 137) rfl ?_); refine goesL_ (some 14) rfl rfl Try.func137 (by kernel_rfl) rfl #[.pointer (some ⟨g, 0, none⟩), .slice Ao24 y262.length co24] rfl mA ?_; (with_reducible refine (spec_l1Str.calls g s0_0 t259 t260 _ _ y262 t265 t266 t267 w0 _ ?side1 ?side2 ?side3 ?side4 ?side5 A14.out).mono ?_); (case side1 => repeat (first | (with_reducible first | exact HI0.out | apply IsS167.alloc | apply IsS167.drewN | apply IsS167.drew | apply IsS167.set_1 | apply IsS167.set_2 | refine IsS167.far ?_ NB0_254.out _ | refine IsS167.far ?_ NB0_261.out _) | exact HI0.out)); (case side2 => repeat (first | (with_reducible first | exact HB.out | apply below_alloc | apply pw_below_drewN | apply below_drew1 | refine below_set ?_ (IsS167.ge HI0.out) | refine below_set ?_ GE254.out | refine below_set ?_ GE261.out) | exact HB.out)); (case side3 => repeat (first | exact (Kd.R_reads' HO264.out).2.2 | (with_reducible refine Kd.C_alloc ?_ _) | (with_reducible refine Kd.C_drewN ?_ _) | (with_reducible refine Kd.C_drew ?_))); (case side4 => exact (Kd.R_reads' HO264.out).2.1); (case side5 => exact far_slice (IsS167.own_ne HI0.out HO264.out (by decide))); rintro e w25 ⟨rfl, hi, hb, hk⟩; refine ⟨_, rfl, ?_⟩; replace BK254 := mS (KeepBut.blk hk (g' := gb254) (o := .cells #[.string (⟨#[]⟩ : ByteArray), .string (⟨#[]⟩ : ByteArray), .bool false] 33 (0, 0)) (mK BK254.out) NB254_0.out (by simp)); replace BK261 := mS (KeepBut.blk hk (g' := gb261) (o := .cells #[.string t255, .string (⟨#[]⟩ : ByteArray), .bool false] 33 (0, 0)) (mK BK261.out) NB261_0.out (by simp)); replace HO264 := mS (Kd.R_mono (Kd.R_keep (IsS167.apart (show IsS167 w0 _ g s0_0 t259 t260 from mI137_2 HI0.out NB0_254.out NB0_261.out) (mR HO264.out) (by decide)) hk (fun _ h => h.2)) (fun _ h => h.1)); replace HK := mS (KeepBut.trans (mQ137_5 HK.out GW254.out GW261.out) hk (.inl rfl)); replace HB := mS (hb); replace HI0 := mS (hi); (try clear hb); (try clear hb2); (try clear hk); (try clear hi); have hcz26_0 := mZ BK261.out 0; have hcz26_1 := mZ BK261.out 1; have hcz26_2 := mZ BK261.out 2; have hfz26_0 := blk_frozen BK261.out 0; have hfz26_1 := blk_frozen BK261.out 1; have hfz26_2 := blk_frozen BK261.out 2; have hnb27 := NB254_0.out; have hnc27 := NB0_254.out; have hcz28_0 := mZ BK254.out 0; have hcz28_1 := mZ BK254.out 1; have hcz28_2 := mZ BK254.out 2; have hfz28_0 := blk_frozen BK254.out 0; have hfz28_1 := blk_frozen BK254.out 1; have hfz28_2 := blk_frozen BK254.out 2))
  refine bodyPost_ret (results_cell_row rfl _ _ gb254 33 #[.string t255, .string t265, .bool false] (0, 0) _ rfl (by (with_reducible repeat (first | refine blk_drewN ?_ _ | refine blk_drew ?_ | refine blk_alloc ?_ _)); refine blk_put (cs := #[.string t255, .string t265, .bool false]) ?_ 2 _ rfl; (with_reducible repeat (first | refine blk_drewN ?_ _ | refine blk_drew ?_ | refine blk_alloc ?_ _)); refine blk_put (cs := #[.string t255, .string (⟨#[]⟩ : ByteArray), .bool false]) ?_ 1 _ rfl; (with_reducible repeat (first | refine blk_drewN ?_ _ | refine blk_drew ?_ | refine blk_alloc ?_ _)); refine blk_put (cs := #[.string (⟨#[]⟩ : ByteArray), .string (⟨#[]⟩ : ByteArray), .bool false]) ?_ 0 _ rfl; (with_reducible repeat (first | refine blk_drewN ?_ _ | refine blk_drew ?_ | refine blk_alloc ?_ _)); refine blk_far ?_ NB254_261.out _; (with_reducible repeat (first | refine blk_drewN ?_ _ | refine blk_drew ?_ | refine blk_alloc ?_ _)); exact BK254.out) Try.underlying33 rfl (by kernel_rfl)) rfl ?_
  exact ⟨by first | rfl | (simp [errW_none, errW_some] <;> rfl) | (simp [*, errW_none, errW_some] <;> rfl), mI137_2 HI0.out NB0_254.out NB0_261.out, mH137_8 HB.out (IsS167.ge HI0.out) GE254.out GE261.out, mQ137_5 HK.out GW254.out GW261.out⟩

/-! ### spec_l4Draw: function 134 -/
def spec_l4Draw.l0 : Nat → Int → List Int → Int → Int → List (S35) → Option ((List (S35)) × Int × Int)
 | 0, _, _, _, _, _ => none
 | k + 1, x6, x1000, x1001, x1002, x270000 => if x6 > 0 then ((spec_l4Pair.f x1000 x1001 x1002).bind fun bt273 => ((spec_l1Below.f x1000 bt273.2.2.2.1 bt273.2.2.2.2 4).bind fun bt278 => ((spec_MemPut.f k x270000 bt273.1 bt273.2.1 bt273.2.2.1 (wrap64 (1 + bt278.1))).bind fun bt281 => (spec_l4Draw.l0 k (wrap64 (x6 - 1)) x1000 bt278.2.1 bt278.2.2 bt281.1)))) else (some (x270000, x1001, x1002))
def spec_l4Draw.f (k : Nat) (s0_0 : List Int) (s0_1 : Int) (s0_2 : Int) (a1 : Int) : Option ((List (S35)) × Int × Int) := (spec_l1Below.f s0_0 s0_1 s0_2 a1).bind fun bt270 => (spec_l4Draw.l0 k bt270.1 s0_0 bt270.2.1 bt270.2.2 ([] : List (S35)))
theorem spec_l4Draw.mono_l : ∀ k, (∀ y0 y1 y2 y3 y4, LeO (spec_l4Draw.l0 k y0 y1 y2 y3 y4) (spec_l4Draw.l0 (k + 1) y0 y1 y2 y3 y4))
 | 0 => fun _ _ _ _ _ r h => by simp [spec_l4Draw.l0] at h
 | k + 1 => by
  have ih0 := spec_l4Draw.mono_l k
  ·intro y0 y1 y2 y3 y4
   unfold spec_l4Draw.l0
   repeat' first
   | (with_reducible exact ih0 _ _ _ _ _)
   | (with_reducible exact spec_MemPut.mono _ _ _ _ _ _)
   | (with_reducible exact LeO.refl _)
   | (with_reducible exact LeO.none _)
   | (with_reducible refine LeO.ite ?_ ?_)
   | (with_reducible refine LeO.bind ?_ (fun _ => ?_))
   | exact ih0 _ _ _ _ _
   | exact spec_MemPut.mono _ _ _ _ _ _
   | exact LeO.none _
   | refine LeO.ite ?_ ?_
   | refine LeO.bind ?_ (fun _ => ?_)
theorem spec_l4Draw.mono : ∀ a0 a1 a2 a3 k, LeO (spec_l4Draw.f k a0 a1 a2 a3) (spec_l4Draw.f (k + 1) a0 a1 a2 a3) := by
 intro a0 a1 a2 a3 k
 have ih0 := spec_l4Draw.mono_l k
 unfold spec_l4Draw.f
 repeat' first
   | (with_reducible exact ih0 _ _ _ _ _)
   | (with_reducible exact spec_MemPut.mono _ _ _ _ _ _)
   | (with_reducible exact LeO.refl _)
   | (with_reducible exact LeO.none _)
   | (with_reducible refine LeO.ite ?_ ?_)
   | (with_reducible refine LeO.bind ?_ (fun _ => ?_))
   | exact ih0 _ _ _ _ _
   | exact spec_MemPut.mono _ _ _ _ _ _
   | exact LeO.none _
   | refine LeO.ite ?_ ?_
   | refine LeO.bind ?_ (fun _ => ?_)
def spec_l4Draw.T5 : Bool × List (List Nat × List Nat) := (true, [([], []), ([], []), ([1], [1]), ([], []), ([3, 2], [3]), ([4], [4]), ([0, 2, 5, 4], [0, 2, 5]), ([6], [6]), ([7], [7]), ([7], [7]), ([8, 6, 0, 1, 2, 3, 4, 5, 6, 7, 8], [8])])
def spec_l4Draw.B5 : List Nat := [0, 0, 2, 0, 14, 30, 63, 127, 255, 255, 511]
theorem spec_l4Draw.tab5 : rtab .any (opsOf Try.f134 5) = spec_l4Draw.T5 := by kernel_rfl
theorem spec_l4Draw.bits5 : waitsOk spec_l4Draw.T5.2 spec_l4Draw.B5 = true := by kernel_rfl
set_option maxHeartbeats 8000000 in
set_option maxRecDepth 100000 in
theorem spec_l4Draw.calls (k : Nat) (g : Nat) (s0_0 : List Int) (s0_1 : Int) (s0_2 : Int) (a1 : Int) (r1 : List (S35)) (r2 : Int) (r3 : Int) (w0 w : World) (hI : IsS167 w0 w g s0_0 s0_1 s0_2) (hB : Below w0.heap.size w0 w) (h : spec_l4Draw.f k s0_0 s0_1 s0_2 a1 = some (r1, r2, r3)) :
  Calls Try.prog 134 #[.pointer (some ⟨g, 0, none⟩), .int .i64 a1] w fun e w' => ∃ v0_ : Value, e = .returned (.agg #[v0_]) ∧ Kd.R k35 35 w' w.heap.size (fun _ => True) v0_ r1 ∧ IsS167 w0 w' g s0_0 r2 r3 ∧ Below w0.heap.size w0 w' ∧ KeepBut w w' g none := by
 have hu26 := Try.underlying26
 have HI0 := mS hI
 have HK := mS (KeepBut.refl w g none)
 have HL := mS hB.size
 clear hI
 have HW0 := mS hB.size
 have HB := mS hB
 clear hB
 have H : ((spec_l1Below.f s0_0 s0_1 s0_2 a1).bind fun bt270 => (spec_l4Draw.l0 k bt270.1 s0_0 bt270.2.1 bt270.2.2 ([] : List (S35)))) = some (r1, r2, r3) := h
 clear h
 replace H := Option.bind_eq_some_iff.mp H
 obtain ⟨⟨t270, t271, t272⟩, A30, H⟩ := H
 replace H : (spec_l4Draw.l0 k t270 s0_0 t271 t272 ([] : List (S35))) = some (r1, r2, r3) := H
 have A3 := mS A30
 clear A30
 have H' := mS H
 clear H
 go_enter Try.func134, Try.ntmps134
 go_wp2_with (first | ((with_reducible refine gate_dst (N := 4) rfl ?_); refine box_event ?hg (N := 4) ?hd (cs := #[.slice none 0 0]) (t := 26) ?hr ?_; (case hd => rfl); (case hg => rfl); (case hr => first | (go_simp; done) | (go_simp; rfl)); intro gb268 hg w4 hbox hb; replace HB := mS (below_step (mH137_6 HB.out (IsS167.ge HI0.out)) hb); have BK268 := mS (hbox); have GW268 := mS ((by rw [hg]; exact (keep_size (w := w) (g := g) (row := none) (mQ137_3 HK.out)) : w.heap.size ≤ gb268)); have GE268 := mS ((Nat.le_trans HW0.out (by rw [hg]; exact (keep_size (w := w) (g := g) (row := none) (mQ137_3 HK.out)) : w.heap.size ≤ gb268) : w0.heap.size ≤ gb268)); replace HK := mS (KeepBut.trans (mQ137_3 HK.out) (KeepBut.of_below hb g none) (.inl rfl)); have NB0_268 := mS ((by rw [hg]; exact Nat.ne_of_lt (IsS167.lt (show IsS167 w0 _ g s0_0 s0_1 s0_2 from mI137_0 HI0.out)) : g ≠ gb268)); have NB268_0 := mS ((by rw [hg]; exact Nat.ne_of_gt (IsS167.lt (show IsS167 w0 _ g s0_0 s0_1 s0_2 from mI137_0 HI0.out)) : gb268 ≠ g)); replace HI0 := mS (IsS167.below (mI137_0 HI0.out) hb); clear hb hbox hg) | ((with_reducible refine gate_dst (N := 5) rfl ?_); refine box_event ?hg (N := 5) ?hd (cs := #[.slice none 0 0]) (t := 26) ?hr ?_; (case hd => rfl); (case hg => rfl); (case hr => first | (go_simp; done) | (go_simp; rfl)); intro gb269 hg w5 hbox hb; replace HB := mS (below_step (mH137_7 HB.out (IsS167.ge HI0.out) GE268.out) hb); have BK269 := mS (hbox); have GW269 := mS ((by rw [hg]; exact (keep_size (w := w) (g := g) (row := none) (mQ137_4 HK.out GW268.out)) : w.heap.size ≤ gb269)); have GE269 := mS ((Nat.le_trans HW0.out (by rw [hg]; exact (keep_size (w := w) (g := g) (row := none) (mQ137_4 HK.out GW268.out)) : w.heap.size ≤ gb269) : w0.heap.size ≤ gb269)); replace HK := mS (KeepBut.trans (mQ137_4 HK.out GW268.out) (KeepBut.of_below hb g none) (.inl rfl)); have NB268_269 := mNl hg BK268.out; have NB269_268 := mNg hg BK268.out; replace BK268 := mB BK268 hb; have NB0_269 := mS ((by rw [hg]; exact Nat.ne_of_lt (IsS167.lt (show IsS167 w0 _ g s0_0 s0_1 s0_2 from mI137_1 HI0.out NB0_268.out)) : g ≠ gb269)); have NB269_0 := mS ((by rw [hg]; exact Nat.ne_of_gt (IsS167.lt (show IsS167 w0 _ g s0_0 s0_1 s0_2 from mI137_1 HI0.out NB0_268.out)) : gb269 ≠ g)); replace HI0 := mS (IsS167.below (mI137_1 HI0.out NB0_268.out) hb); clear hb hbox hg; have hnb6 := NB269_268.out; have hnc6 := NB268_269.out; have hnb7 := NB269_0.out; have hnc7 := NB0_269.out; have hcz8_0 := mZ BK269.out 0; have hfz8_0 := blk_frozen BK269.out 0) | ((with_reducible refine gate_callee (f := 82) rfl ?_); refine goesL_ (some 10) rfl rfl Try.func82 (by kernel_rfl) rfl #[.pointer (some ⟨g, 0, none⟩), .int .i64 a1] rfl mA ?_; (with_reducible refine (spec_l1Below.calls g s0_0 s0_1 s0_2 a1 t270 t271 t272 w0 _ ?side1 ?side2 A3.out).mono ?_); (case side1 => repeat (first | (with_reducible first | exact HI0.out | apply IsS167.alloc | apply IsS167.drewN | apply IsS167.drew | apply IsS167.set_1 | apply IsS167.set_2 | refine IsS167.far ?_ NB0_268.out _ | refine IsS167.far ?_ NB0_269.out _) | exact HI0.out)); (case side2 => repeat (first | (with_reducible first | exact HB.out | apply below_alloc | apply pw_below_drewN | apply below_drew1 | refine below_set ?_ (IsS167.ge HI0.out) | refine below_set ?_ GE268.out | refine below_set ?_ GE269.out) | exact HB.out)); rintro e w9 ⟨rfl, hi, hb, hk⟩; refine ⟨_, rfl, ?_⟩; replace BK268 := mS (KeepBut.blk hk (g' := gb268) (o := .cells #[.slice none 0 0] 26 (0, 0)) (by (with_reducible repeat (first | refine blk_drewN ?_ _ | refine blk_drew ?_ | refine blk_alloc ?_ _)); refine blk_far ?_ NB268_269.out _; (with_reducible repeat (first | refine blk_drewN ?_ _ | refine blk_drew ?_ | refine blk_alloc ?_ _)); exact BK268.out) NB268_0.out (by simp)); replace BK269 := mS (KeepBut.blk hk (g' := gb269) (o := .cells #[.slice none 0 0] 26 (0, 0)) (by (with_reducible repeat (first | refine blk_drewN ?_ _ | refine blk_drew ?_ | refine blk_alloc ?_ _)); refine blk_put (cs := #[.slice none 0 0]) ?_ 0 _ rfl; (with_reducible repeat (first | refine blk_drewN ?_ _ | refine blk_drew ?_ | refine blk_alloc ?_ _)); exact BK269.out) NB269_0.out (by simp)); replace HK := mS (KeepBut.trans (mQ137_5 HK.out GW268.out GW269.out) hk (.inl rfl)); replace HB := mS (hb); replace HI0 := mS (hi); (try clear hb); (try clear hb2); (try clear hk); (try clear hi)))
 go_loopg [6] k (fun kq v6 w' => ∃ (x6_1 : Int) (x1001_1 : Int) (x1002_1 : Int) (x270000_1 : List (S35)) (u270000 : Value), v6 = .int .i64 x6_1 ∧ Aside0 (spec_l4Draw.l0 kq x6_1 s0_0 x1001_1 x1002_1 x270000_1 = some (r1, r2, r3)) ∧ Aside0 (kq ≤ k) ∧ Aside0 (Kd.R k35 35 w' w.heap.size (fun _ => True) u270000 x270000_1) ∧ Aside0 (w'.heap[gb268]? = some (.cells #[(.slice none 0 0)] 26 (0, 0))) ∧ Aside0 (w'.heap[gb269]? = some (.cells #[u270000] 26 (0, 0))) ∧ Aside0 (IsS167 w0 w' g s0_0 x1001_1 x1002_1) ∧ Aside0 (KeepBut w w' g none) ∧ Aside0 (Below w0.heap.size w0 w'))
 case atStart => exact ⟨(t270), (t271), (t272), (([] : List (S35))), (.slice none 0 0), (by first | rfl | (simp; done) | (simp [*]; done)), H', ⟨Nat.le_refl _⟩, ⟨by first | exact Kd.R_nil _ _ _ _ _ | exact Kd.N_nil _ _ _ _ _ | exact Kd.V_nil _ _ _ _ _ | exact Kd.Q_nil _ _ _ _ _ | exact Kd.S_nil _ _ _ _ _⟩, ⟨by (with_reducible repeat (first | refine blk_drewN ?_ _ | refine blk_drew ?_ | refine blk_alloc ?_ _)); exact BK268.out⟩, ⟨by (with_reducible repeat (first | refine blk_drewN ?_ _ | refine blk_drew ?_ | refine blk_alloc ?_ _)); exact BK269.out⟩, ⟨mI137_2 HI0.out NB0_268.out NB0_269.out⟩, ⟨mQ137_5 HK.out GW268.out GW269.out⟩, ⟨mH137_8 HB.out (IsS167.ge HI0.out) GE268.out GE269.out⟩⟩
 case round =>
  clear H'
  try clear c1
  try clear p2
  try clear c6
  try clear c7
  try clear c8
  try clear hcz8_0
  try clear hfz8_0
  obtain ⟨x6_1, x1001_1, x1002_1, x270000_1, u270000, rfl, HA, HK1, HO_270000, BK268, BK269, HI0, HK, HB⟩ := hrel
  cases gk with
  | zero => exact absurd HA.out (by simp [spec_l4Draw.l0])
  | succ k1 =>
   have H := HA.out
   clear HA
   simp only [spec_l4Draw.l0] at H
   by_cases c10 : x6_1 > 0
   ·rw [if_pos c10] at H
    have c10b0 : decide (0 < x6_1) = true := decide_eq_true c10
    clear c10
    replace H := Option.bind_eq_some_iff.mp H
    obtain ⟨⟨t273, t274, t275, t276, t277⟩, A110, H⟩ := H
    replace H : ((spec_l1Below.f s0_0 t276 t277 4).bind fun bt278 => ((spec_MemPut.f k1 x270000_1 t273 t274 t275 (wrap64 (1 + bt278.1))).bind fun bt281 => (spec_l4Draw.l0 k1 (wrap64 (x6_1 - 1)) s0_0 bt278.2.1 bt278.2.2 bt281.1))) = some (r1, r2, r3) := H
    have A11 := mS A110
    clear A110
    replace H := Option.bind_eq_some_iff.mp H
    obtain ⟨⟨t278, t279, t280⟩, A120, H⟩ := H
    replace H : ((spec_MemPut.f k1 x270000_1 t273 t274 t275 (wrap64 (1 + t278))).bind fun bt281 => (spec_l4Draw.l0 k1 (wrap64 (x6_1 - 1)) s0_0 t279 t280 bt281.1)) = some (r1, r2, r3) := H
    have A12 := mS A120
    clear A120
    replace H := Option.bind_eq_some_iff.mp H
    obtain ⟨⟨t281, t284⟩, A130, H⟩ := H
    replace H : (spec_l4Draw.l0 k1 (wrap64 (x6_1 - 1)) s0_0 t279 t280 t281) = some (r1, r2, r3) := H
    have A13 := mS A130
    clear A130
    have H' := mS H
    clear H
    try go_wp2
    have n0_ := mS (Kd.R_drew HO_270000.out)
    have n1_ := mS (blk_drew BK268.out)
    have n2_ := mS (blk_drew BK269.out)
    have n3_ := mS (IsS167.drew HI0.out)
    have n4_ := mS (keep_drew HK.out)
    have n5_ := mS (below_drew1 HB.out)
    clear HO_270000
    clear BK268
    clear BK269
    clear HI0
    clear HK
    clear HB
    have HO_270000 := n0_
    have BK268 := n1_
    have BK269 := n2_
    have HI0 := n3_
    have HK := n4_
    have HB := n5_
    clear n0_ n1_ n2_ n3_ n4_ n5_
    refine start_ (n := 11) (S := fun w' => w'.cell? ⟨gb269, 0, none⟩ = some (u270000)) (ds := [10]) (mb 0 11) (by kernel_rfl) rfl rfl (mZ BK269.out 0) (fun hHeld => ?_); refine with_tabW spec_l4Draw.tab5 spec_l4Draw.bits5 (fun HT_ HW_ => ?_)
    generalize wr.drew = w14 at HO_270000 BK268 BK269 HI0 HK HB hHeld ⊢
    refine mpu 1 17 HT_.out #[false, true, false, false, false, false, false, false, false, false, false] ?_
    refine mpu 3 19 HT_.out #[false, true, false, true, false, false, false, false, false, false, false] ?_
    refine take_ (i := 0) (N := some 16) (v := ?_) (a' := ?_) #[true, true, false, true, false, false, false, false, false, false, false] rfl rfl (take_ofW HT_.out HW_.out (by kernel_rfl)) (fun _ _ _ h => h) (Or.inl ⟨by rfl, ?_⟩) hHeld ?_ ?_
    rotate_left
    ·intro w' s0
     go_simp
     with_reducible rfl
    rotate_left
    ·simp only [Act.put, zA, zB, zC, i64_w, i32_w]
     rfl
    refine one_ (i := 2) (N := some 18) (mb 4 7) rfl rfl (one_of HT_.out (by kernel_rfl)) (by decide) (fun K hK => ?_)
    refine goes_ Try.func136 (by kernel_rfl) rfl #[.pointer (some ⟨g, 0, none⟩)] (by rfl) rfl rfl mA ?_
    with_reducible refine (spec_l4Pair.calls g s0_0 x1001_1 x1002_1 t273 t274 t275 t276 t277 w0 _ ?side1 ?side2 A11.out).mono ?_
    (case side1 => repeat (first | (with_reducible first | exact HI0.out | apply IsS167.alloc | apply IsS167.drewN | apply IsS167.drew | apply IsS167.set_1 | apply IsS167.set_2 | refine IsS167.far ?_ NB0_268.out _ | refine IsS167.far ?_ NB0_269.out _) | exact HI0.out))
    (case side2 => repeat (first | (with_reducible first | exact HB.out | apply below_alloc | apply pw_below_drewN | apply below_drew1 | refine below_set ?_ (IsS167.ge HI0.out) | refine below_set ?_ GE268.out | refine below_set ?_ GE269.out) | exact HB.out))
    rintro e w15 ⟨rfl, hi, hb, hk⟩
    refine ⟨_, rfl, ?_⟩
    have n0_ := mS (Kd.R_mono (Kd.R_keep (IsS167.apart (show IsS167 w0 _ g s0_0 x1001_1 x1002_1 from mI137_2 HI0.out NB0_268.out NB0_269.out) (mR HO_270000.out) (by decide)) hk (fun _ h => h.2)) (fun _ h => h.1))
    have n1_ := mS (KeepBut.blk hk (g' := gb268) (o := .cells #[.slice none 0 0] 26 (0, 0)) (mK BK268.out) NB268_0.out (by simp))
    have n2_ := mS (KeepBut.blk hk (g' := gb269) (o := .cells #[u270000] 26 (0, 0)) (mK BK269.out) NB269_0.out (by simp))
    have n3_ := mS (KeepBut.trans (mQ137_5 HK.out GW268.out GW269.out) hk (.inl rfl))
    have n4_ := mS (hb)
    have n5_ := mS (hi)
    clear HO_270000
    clear BK268
    clear BK269
    clear HK
    clear HB
    clear HI0
    have HO_270000 := n0_
    have BK268 := n1_
    have BK269 := n2_
    have HK := n3_
    have HB := n4_
    have HI0 := n5_
    clear n0_ n1_ n2_ n3_ n4_ n5_
    (try clear hb)
    (try clear hb2)
    (try clear hk)
    (try clear hi)
    refine hK.out _ _ (mZ BK269.out 0) (fun hHeld => ?_)
    clear hK K
    refine norm_ (a' := ?_) ?_ ?_
    rotate_left
    ·show Act.put _ (some 18) _ = _
     simp only [Act.put, zA, zB, zC, i64_w, i32_w]
     rfl
    refine one_ (i := 4) (N := some 20) (mb 5 6) rfl rfl (one_of HT_.out (by kernel_rfl)) (by decide) (fun K hK => ?_)
    refine goes_ Try.func82 (by kernel_rfl) rfl #[.pointer (some ⟨g, 0, none⟩), .int .i64 4] (by rfl) rfl rfl mA ?_
    with_reducible refine (spec_l1Below.calls g s0_0 t276 t277 4 t278 t279 t280 w0 _ ?side1 ?side2 A12.out).mono ?_
    (case side1 => repeat (first | (with_reducible first | exact HI0.out | apply IsS167.alloc | apply IsS167.drewN | apply IsS167.drew | apply IsS167.set_1 | apply IsS167.set_2 | refine IsS167.far ?_ NB0_268.out _ | refine IsS167.far ?_ NB0_269.out _) | exact HI0.out))
    (case side2 => repeat (first | (with_reducible first | exact HB.out | apply below_alloc | apply pw_below_drewN | apply below_drew1 | refine below_set ?_ (IsS167.ge HI0.out) | refine below_set ?_ GE268.out | refine below_set ?_ GE269.out) | exact HB.out))
    rintro e w16 ⟨rfl, hi, hb, hk⟩
    refine ⟨_, rfl, ?_⟩
    have n0_ := mS (Kd.R_mono (Kd.R_keep (IsS167.apart (show IsS167 w0 _ g s0_0 t276 t277 from mI137_2 HI0.out NB0_268.out NB0_269.out) (mR HO_270000.out) (by decide)) hk (fun _ h => h.2)) (fun _ h => h.1))
    have n1_ := mS (KeepBut.blk hk (g' := gb268) (o := .cells #[.slice none 0 0] 26 (0, 0)) (mK BK268.out) NB268_0.out (by simp))
    have n2_ := mS (KeepBut.blk hk (g' := gb269) (o := .cells #[u270000] 26 (0, 0)) (mK BK269.out) NB269_0.out (by simp))
    have n3_ := mS (KeepBut.trans (mQ137_5 HK.out GW268.out GW269.out) hk (.inl rfl))
    have n4_ := mS (hb)
    have n5_ := mS (hi)
    clear HO_270000
    clear BK268
    clear BK269
    clear HK
    clear HB
    clear HI0
    have HO_270000 := n0_
    have BK268 := n1_
    have BK269 := n2_
    have HK := n3_
    have HB := n4_
    have HI0 := n5_
    clear n0_ n1_ n2_ n3_ n4_ n5_
    (try clear hb)
    (try clear hb2)
    (try clear hk)
    (try clear hi)
    obtain ⟨Ao17, co17, eo17⟩ := Kd.R_slice HO_270000.out
    (first | subst eo17 | (injection eo17 with f1_ f2_ f3_; have f4_ := f1_.symm; have f5_ := f3_.symm; clear f1_ f2_ f3_; subst f4_; subst f5_))
    refine hK.out _ _ (mZ BK269.out 0) (fun hHeld => ?_)
    clear hK K
    refine norm_ (a' := ?_) ?_ ?_
    rotate_left
    ·show Act.put _ (some 20) _ = _
     simp only [Act.put, zA, zB, zC, i64_w, i32_w]
     rfl
    refine mpu 5 21 HT_.out (mb 6 5) ?_
    refine one_ (i := 6) (N := some 22) (mb 7 4) rfl rfl (one_of HT_.out (by kernel_rfl)) (by decide) (fun K hK => ?_)
    refine goes_ Try.func21 (by kernel_rfl) rfl #[.agg #[.slice Ao17 x270000_1.length co17], .agg #[.string t273, .string t274, .bool t275], .int .i64 (wrap64 (1 + t278))] (by rfl) rfl rfl mA ?_
    with_reducible refine (spec_MemPut.calls k1 _ _ x270000_1 t273 t274 t275 (wrap64 (1 + t278)) t281 t284 _ ?side1 ?side2 A13.out).mono ?_
    (case side1 => repeat (first | exact (Kd.R_reads' HO_270000.out).2.2 | (with_reducible refine Kd.C_alloc ?_ _) | (with_reducible refine Kd.C_drewN ?_ _) | (with_reducible refine Kd.C_drew ?_)))
    (case side2 => exact (Kd.R_reads' HO_270000.out).2.1)
    rintro e w18 ⟨v282, rfl, ho0, hb⟩
    refine ⟨_, rfl, ?_⟩
    have n0_ := mS (Kd.R_elder' (mR HO_270000.out) (Kd.R_base ho0) hb)
    have n1_ := mS (Kd.R_lower (Kd.R_new' ho0 (Kd.R_lt (mR HO_270000.out))) (keep_size (w := w) (g := g) (row := none) (mQ137_5 HK.out GW268.out GW269.out)))
    have n2_ := mB BK268 hb
    have n3_ := mB BK269 hb
    have n4_ := mS (IsS167.below (mI137_2 HI0.out NB0_268.out NB0_269.out) hb)
    have n5_ := mS (KeepBut.trans (mQ137_5 HK.out GW268.out GW269.out) (KeepBut.of_below hb g none) (.inl rfl))
    have n6_ := mS (below_step (mH137_8 HB.out (IsS167.ge HI0.out) GE268.out GE269.out) hb)
    clear HO_270000
    clear BK268
    clear BK269
    clear HI0
    clear HK
    clear HB
    have HO_270000 := n0_
    have HO283 := n1_
    have BK268 := n2_
    have BK269 := n3_
    have HI0 := n4_
    have HK := n5_
    have HB := n6_
    clear n0_ n1_ n2_ n3_ n4_ n5_ n6_
    (try clear hb)
    (try clear hb2)
    (try clear hk)
    (try clear hi)
    (try clear ho0)
    obtain ⟨Ao19, co19, eo19⟩ := Kd.R_slice HO283.out
    (first | subst eo19 | (injection eo19 with f1_ f2_ f3_; have f4_ := f1_.symm; have f5_ := f3_.symm; clear f1_ f2_ f3_; subst f4_; subst f5_))
    refine hK.out _ _ (mZ BK269.out 0) (fun hHeld => ?_)
    clear hK K
    refine norm_ (a' := ?_) ?_ ?_
    rotate_left
    ·show Act.put _ (some 22) _ = _
     simp only [Act.put, zA, zB, zC, i64_w, i32_w]
     rfl
    refine mpu 7 15 HT_.out (mb 8 3) ?_
    refine mpu 8 23 HT_.out (mb 9 2) ?_
    refine mpu 9 24 HT_.out (mb 10 1) ?_
    refine last_ (i := 10) (N := none) (mb 11 0) rfl rfl (one_of HT_.out (by kernel_rfl)) (by decide) (fun K hK => ?_)
    have hs20 : w18.cell? ⟨gb269, 0, none⟩ = some (.slice Ao17 x270000_1.length co17) := mZ BK269.out 0
    have hfs20 := blk_frozen BK269.out 0
    have hns20_0 := NB268_269.out
    have hms20_0 := NB269_268.out
    refine skip_ (w1 := ?_) (by rfl) rfl ?_ ?_
    rotate_left
    ·go_simp
     rfl
    refine hK.out _ _ ?_
    clear hK K
    refine done_ (done_of HT_.out (by kernel_rfl)) ?_
    try go_wp2
    go_roundg k1
    case measure => have := HK1.out; omega
    case rel => exact ⟨(wrap64 (x6_1 - 1)), (t279), (t280), (t281), (.slice Ao19 t281.length co19), (by first | rfl | (simp; done) | (simp [*]; done)), H', ⟨by have := HK1.out; omega⟩, ⟨by (with_reducible repeat (first | apply Kd.R_alloc | apply Kd.R_drewN | apply Kd.R_drew)); exact Kd.R_mono (Kd.R_far (p := ⟨gb269, 0, none⟩) (Kd.R_types HO283.out BK269.out (by decide)) (fun _ hk => hk.2) (.slice Ao19 t281.length co19)) (fun _ hk => trivial)⟩, ⟨by (with_reducible repeat (first | refine blk_drewN ?_ _ | refine blk_drew ?_ | refine blk_alloc ?_ _)); refine blk_far ?_ NB268_269.out _; (with_reducible repeat (first | refine blk_drewN ?_ _ | refine blk_drew ?_ | refine blk_alloc ?_ _)); exact BK268.out⟩, ⟨by (with_reducible repeat (first | refine blk_drewN ?_ _ | refine blk_drew ?_ | refine blk_alloc ?_ _)); refine blk_put (cs := #[.slice Ao17 x270000_1.length co17]) ?_ 0 _ rfl; (with_reducible repeat (first | refine blk_drewN ?_ _ | refine blk_drew ?_ | refine blk_alloc ?_ _)); exact BK269.out⟩, ⟨mI137_2 HI0.out NB0_268.out NB0_269.out⟩, ⟨mQ137_5 HK.out GW268.out GW269.out⟩, ⟨mH137_8 HB.out (IsS167.ge HI0.out) GE268.out GE269.out⟩⟩
   ·rw [if_neg c10] at H
    have c10b0 : decide (0 < x6_1) = false := decide_eq_false c10
    clear c10
    simp only [Option.some.injEq, Prod.mk.injEq] at H
    obtain ⟨rfl, rfl, rfl⟩ := H
    have hnb21 := NB269_268.out
    have hnc21 := NB268_269.out
    have hnb22 := NB269_0.out
    have hnc22 := NB0_269.out
    have hcz23_0 := mZ BK269.out 0
    have hfz23_0 := blk_frozen BK269.out 0
    obtain ⟨Ao24, co24, eo24⟩ := Kd.R_slice HO_270000.out
    subst eo24
    have hnb25 := NB268_0.out
    have hnc25 := NB0_268.out
    have hcz26_0 := mZ BK268.out 0
    have hfz26_0 := blk_frozen BK268.out 0
    go_wp2
    refine bodyPost_ret (results_cell_row rfl _ _ gb268 26 #[.slice Ao24 x270000_1.length co24] (0, 0) _ rfl (by (with_reducible repeat (first | refine blk_drewN ?_ _ | refine blk_drew ?_ | refine blk_alloc ?_ _)); refine blk_put (cs := #[.slice none 0 0]) ?_ 0 _ rfl; (with_reducible repeat (first | refine blk_drewN ?_ _ | refine blk_drew ?_ | refine blk_alloc ?_ _)); exact BK268.out) Try.underlying26 rfl (by kernel_rfl)) rfl ?_
    exact ⟨_, by first | rfl | (simp [errW_none, errW_some] <;> rfl) | (simp [*, errW_none, errW_some] <;> rfl), by (with_reducible repeat (first | apply Kd.R_alloc | apply Kd.R_drewN | apply Kd.R_drew)); exact Kd.R_mono (Kd.R_far (p := ⟨gb268, 0, none⟩) (Kd.R_types HO_270000.out BK268.out (by decide)) (fun _ hk => hk.2) (.slice Ao24 x270000_1.length co24)) (fun _ hk => trivial), mI137_2 HI0.out NB0_268.out NB0_269.out, mH137_8 HB.out (IsS167.ge HI0.out) GE268.out GE269.out, mQ137_5 HK.out GW268.out GW269.out⟩

/-! ### spec_l4List: function 114 -/
def spec_l4List.l0 : Nat → List (S33) → Int → List Int → Int → Int → List (S35) → Option ((List (S33)) × Int × Int)
 | 0, _, _, _, _, _, _ => none
 | k + 1, x5, x7, x1000, x1001, x1002, x294000 => if x7 < (x294000.length : Int) then (if 0 ≤ x7 then (if x5.length < 3518437208883 then (spec_l4List.l0 k (x5 ++ [(⟨(rd_T35 x294000 x7).f0.f0, (rd_T35 x294000 x7).f0.f1, (rd_T35 x294000 x7).f0.f2⟩ : S33)]) (wrap64 (x7 + 1)) x1000 x1001 x1002 x294000) else (none)) else (none)) else (some (x5, x1001, x1002))
def spec_l4List.f (k : Nat) (s0_0 : List Int) (s0_1 : Int) (s0_2 : Int) (a1 : Int) : Option ((List (S33)) × Int × Int) := (spec_l4Draw.f k s0_0 s0_1 s0_2 a1).bind fun bt288 => (spec_l4List.l0 k (([] : List (S33))) 0 s0_0 bt288.2.1 bt288.2.2 bt288.1)
theorem spec_l4List.mono_l : ∀ k, (∀ y0 y1 y2 y3 y4 y5, LeO (spec_l4List.l0 k y0 y1 y2 y3 y4 y5) (spec_l4List.l0 (k + 1) y0 y1 y2 y3 y4 y5))
 | 0 => fun _ _ _ _ _ _ r h => by simp [spec_l4List.l0] at h
 | k + 1 => by
  have ih0 := spec_l4List.mono_l k
  ·intro y0 y1 y2 y3 y4 y5
   unfold spec_l4List.l0
   repeat' first
   | (with_reducible exact ih0 _ _ _ _ _ _)
   | (with_reducible exact spec_l4Draw.mono _ _ _ _ _)
   | (with_reducible exact LeO.refl _)
   | (with_reducible exact LeO.none _)
   | (with_reducible refine LeO.ite ?_ ?_)
   | (with_reducible refine LeO.bind ?_ (fun _ => ?_))
   | exact ih0 _ _ _ _ _ _
   | exact spec_l4Draw.mono _ _ _ _ _
   | exact LeO.none _
   | refine LeO.ite ?_ ?_
   | refine LeO.bind ?_ (fun _ => ?_)
theorem spec_l4List.mono : ∀ a0 a1 a2 a3 k, LeO (spec_l4List.f k a0 a1 a2 a3) (spec_l4List.f (k + 1) a0 a1 a2 a3) := by
 intro a0 a1 a2 a3 k
 have ih0 := spec_l4List.mono_l k
 unfold spec_l4List.f
 repeat' first
   | (with_reducible exact ih0 _ _ _ _ _ _)
   | (with_reducible exact spec_l4Draw.mono _ _ _ _ _)
   | (with_reducible exact LeO.refl _)
   | (with_reducible exact LeO.none _)
   | (with_reducible refine LeO.ite ?_ ?_)
   | (with_reducible refine LeO.bind ?_ (fun _ => ?_))
   | exact ih0 _ _ _ _ _ _
   | exact spec_l4Draw.mono _ _ _ _ _
   | exact LeO.none _
   | refine LeO.ite ?_ ?_
   | refine LeO.bind ?_ (fun _ => ?_)
set_option maxHeartbeats 8000000 in
set_option maxRecDepth 100000 in
theorem spec_l4List.calls (k : Nat) (g : Nat) (s0_0 : List Int) (s0_1 : Int) (s0_2 : Int) (a1 : Int) (r1 : List (S33)) (r2 : Int) (r3 : Int) (w0 w : World) (hI : IsS167 w0 w g s0_0 s0_1 s0_2) (hB : Below w0.heap.size w0 w) (h : spec_l4List.f k s0_0 s0_1 s0_2 a1 = some (r1, r2, r3)) :
  Calls Try.prog 114 #[.pointer (some ⟨g, 0, none⟩), .int .i64 a1] w fun e w' => ∃ v0_ : Value, e = .returned (v0_) ∧ Kd.R k33 33 w' w.heap.size (fun _ => True) v0_ r1 ∧ IsS167 w0 w' g s0_0 r2 r3 ∧ Below w0.heap.size w0 w' ∧ KeepBut w w' g none := by
 have hu26 := Try.underlying26
 have hu33 := Try.underlying33
 have HI0 := mS hI
 have HK := mS (KeepBut.refl w g none)
 have HL := mS hB.size
 clear hI
 have HW0 := mS hB.size
 have HB := mS hB
 clear hB
 have H : ((spec_l4Draw.f k s0_0 s0_1 s0_2 a1).bind fun bt288 => (spec_l4List.l0 k (([] : List (S33))) 0 s0_0 bt288.2.1 bt288.2.2 bt288.1)) = some (r1, r2, r3) := h
 clear h
 obtain ⟨y285, hy285⟩ : ∃ y_ : List (S33), y_ = (([] : List (S33))) := ⟨_, rfl⟩
 replace H : ((spec_l4Draw.f k s0_0 s0_1 s0_2 a1).bind fun bt288 => (spec_l4List.l0 k y285 0 s0_0 bt288.2.1 bt288.2.2 bt288.1)) = some (r1, r2, r3) := by first | (rw [hy285]; with_reducible exact H) | (have H2_ := (Option.bind_some _ _).symm.trans H; rw [hy285]; with_reducible exact H2_) | (have H2_ := (Option.bind_some _ _).symm.trans H; with_reducible exact H2_) | with_reducible exact H | (rw [hy285]; exact H) | exact H
 have Ny285 := mS hy285
 clear hy285
 replace H := Option.bind_eq_some_iff.mp H
 obtain ⟨⟨t288, t291, t292⟩, A30, H⟩ := H
 replace H : (spec_l4List.l0 k y285 0 s0_0 t291 t292 t288) = some (r1, r2, r3) := H
 have A3 := mS A30
 clear A30
 have H' := mS H
 clear H
 go_enter Try.func114, Try.ntmps114
 go_wp2_with (first | ((with_reducible refine gate_dst (N := 8) rfl ?_); refine Kd.R_lit k33 _ 33 ?hg (N := 8) ?hd (xs := ([] : List (S33))) (inner := []) (ok := fun _ => True) (okp := fun _ => True) ?hr ?hp (fun _ hk => hk) trivial (Below.refl _ _) (Nat.le_refl _) (by simp) ?_; (case hd => rfl); (case hg => rfl); (case hr => first | (go_simp; done) | (go_simp; rfl)); (case hp => exact (Reps.none _ _)); intro v286 w4 ho5 hb hg_ hnew_; clear hg_ hnew_; (first | rw [← Ny285.out] at ho5 | (simp only [Int.reduceToNat] at ho5; rw [← Ny285.out] at ho5)); have HO287 := mS (Kd.R_lower ho5 (keep_size (w := w) (g := g) (row := none) (mQ137_3 HK.out))); replace HK := mS (KeepBut.trans (mQ137_3 HK.out) (KeepBut.of_below hb g none) (.inl rfl)); replace HB := mS (below_step (mH137_6 HB.out (IsS167.ge HI0.out)) hb); replace HI0 := mS (IsS167.below (mI137_0 HI0.out) hb); clear hb ho5) | ((with_reducible refine gate_callee (f := 134) rfl ?_); refine goesL_ (some 11) rfl rfl Try.func134 (by kernel_rfl) rfl #[.pointer (some ⟨g, 0, none⟩), .int .i64 a1] rfl mA ?_; (with_reducible refine (spec_l4Draw.calls k g s0_0 s0_1 s0_2 a1 t288 t291 t292 w0 _ ?side1 ?side2 A3.out).mono ?_); (case side1 => repeat (first | (with_reducible first | exact HI0.out | apply IsS167.alloc | apply IsS167.drewN | apply IsS167.drew | apply IsS167.set_1 | apply IsS167.set_2) | exact HI0.out)); (case side2 => repeat (first | (with_reducible first | exact HB.out | apply below_alloc | apply pw_below_drewN | apply below_drew1 | refine below_set ?_ (IsS167.ge HI0.out)) | exact HB.out)); rintro e w6 ⟨v289, rfl, ho0, hi, hb, hk⟩; refine ⟨_, rfl, ?_⟩; replace HO287 := mS (Kd.R_mono (Kd.R_keep (IsS167.apart (show IsS167 w0 _ g s0_0 s0_1 s0_2 from mI137_0 HI0.out) (mR HO287.out) (by decide)) hk (fun _ h => h.2)) (fun _ h => h.1)); have HO290 := mS (Kd.R_lower ho0 (keep_size (w := w) (g := g) (row := none) (mQ137_3 HK.out))); replace HK := mS (KeepBut.trans (mQ137_3 HK.out) hk (.inl rfl)); replace HB := mS (hb); replace HI0 := mS (hi); (try clear hb); (try clear hb2); (try clear hk); (try clear hi); (try clear ho0)) | ((with_reducible refine gate_dst (N := 6) rfl ?_); refine box_event ?hg (N := 6) ?hd (cs := #[.slice none 0 0]) (t := 26) ?hr ?_; (case hd => rfl); (case hg => rfl); (case hr => first | (go_simp; done) | (go_simp; rfl)); intro gb293 hg w7 hbox hb; replace HO287 := mS (Kd.R_below (mR HO287.out) hb); replace HO290 := mS (Kd.R_below (mR HO290.out) hb); replace HB := mS (below_step (mH137_6 HB.out (IsS167.ge HI0.out)) hb); have BK293 := mS (hbox); have GW293 := mS ((by rw [hg]; exact (keep_size (w := w) (g := g) (row := none) (mQ137_3 HK.out)) : w.heap.size ≤ gb293)); have GE293 := mS ((Nat.le_trans HW0.out (by rw [hg]; exact (keep_size (w := w) (g := g) (row := none) (mQ137_3 HK.out)) : w.heap.size ≤ gb293) : w0.heap.size ≤ gb293)); replace HK := mS (KeepBut.trans (mQ137_3 HK.out) (KeepBut.of_below hb g none) (.inl rfl)); have NB0_293 := mS ((by rw [hg]; exact Nat.ne_of_lt (IsS167.lt (show IsS167 w0 _ g s0_0 t291 t292 from mI137_0 HI0.out)) : g ≠ gb293)); have NB293_0 := mS ((by rw [hg]; exact Nat.ne_of_gt (IsS167.lt (show IsS167 w0 _ g s0_0 t291 t292 from mI137_0 HI0.out)) : gb293 ≠ g)); replace HI0 := mS (IsS167.below (mI137_0 HI0.out) hb); clear hb hbox hg; obtain ⟨Ao8, co8, eo8⟩ := Kd.R_slice HO290.out; subst eo8; have hnb9 := NB293_0.out; have hnc9 := NB0_293.out; have hcz10_0 := mZ BK293.out 0; have hfz10_0 := blk_frozen BK293.out 0))
 go_loopg [5, 7] k (fun kq v5 v7 w' => ∃ (x5_1 : List (S33)) (x7_1 : Int), v7 = .int .i64 x7_1 ∧ Aside0 (spec_l4List.l0 kq x5_1 x7_1 s0_0 t291 t292 t288 = some (r1, r2, r3)) ∧ Aside0 (kq ≤ k) ∧ Aside0 (Kd.R k33 33 w' w.heap.size (fun _ => True) v5 x5_1) ∧ Aside0 (Kd.R k35 35 w' w.heap.size (fun _ => True) (.slice Ao8 t288.length co8) t288) ∧ Aside0 (w'.heap[gb293]? = some (.cells #[(.slice Ao8 t288.length co8)] 26 (0, 0))) ∧ Aside0 (IsS167 w0 w' g s0_0 t291 t292) ∧ Aside0 (KeepBut w w' g none) ∧ Aside0 (Below w0.heap.size w0 w'))
 case atStart => exact ⟨(y285), (0), (by first | rfl | (simp; done) | (simp [*]; done)), H', ⟨Nat.le_refl _⟩, ⟨by (with_reducible repeat (first | apply Kd.R_alloc | apply Kd.R_drewN | apply Kd.R_drew)); exact Kd.R_mono (Kd.R_far (p := ⟨gb293, 0, none⟩) (Kd.R_types HO287.out BK293.out (by decide)) (fun _ hk => hk.2) (.slice Ao8 t288.length co8)) (fun _ hk => trivial)⟩, ⟨by (with_reducible repeat (first | apply Kd.R_alloc | apply Kd.R_drewN | apply Kd.R_drew)); exact Kd.R_mono (Kd.R_far (p := ⟨gb293, 0, none⟩) (Kd.R_types HO290.out BK293.out (by decide)) (fun _ hk => hk.2) (.slice Ao8 t288.length co8)) (fun _ hk => trivial)⟩, ⟨by (with_reducible repeat (first | refine blk_drewN ?_ _ | refine blk_drew ?_ | refine blk_alloc ?_ _)); refine blk_put (cs := #[.slice none 0 0]) ?_ 0 _ rfl; (with_reducible repeat (first | refine blk_drewN ?_ _ | refine blk_drew ?_ | refine blk_alloc ?_ _)); exact BK293.out⟩, ⟨mI137_1 HI0.out NB0_293.out⟩, ⟨mQ137_4 HK.out GW293.out⟩, ⟨mH137_7 HB.out (IsS167.ge HI0.out) GE293.out⟩⟩
 case round =>
  clear H'
  try clear c1
  try clear p2
  try clear c9
  try clear hcz10_0
  try clear hfz10_0
  obtain ⟨x5_1, x7_1, rfl, HA, HK1, HO_5, HO_294000, BK293, HI0, HK, HB⟩ := hrel
  cases gk with
  | zero => exact absurd HA.out (by simp [spec_l4List.l0])
  | succ k1 =>
   have H := HA.out
   clear HA
   simp only [spec_l4List.l0] at H
   by_cases c11 : x7_1 < (t288.length : Int)
   ·rw [if_pos c11] at H
    have c11b0 : decide (x7_1 < (t288.length : Int)) = true := decide_eq_true c11
    clear c11
    by_cases c12 : 0 ≤ x7_1
    ·rw [if_pos c12] at H
     have c12b0 : decide (0 ≤ x7_1) = true := decide_eq_true c12
     clear c12
     by_cases c13 : x5_1.length < 3518437208883
     ·rw [if_pos c13] at H
      have LMc13 := mS c13
      clear c13
      obtain ⟨y295, hy295⟩ : ∃ y_ : List (S33), y_ = (x5_1 ++ [(⟨(rd_T35 t288 x7_1).f0.f0, (rd_T35 t288 x7_1).f0.f1, (rd_T35 t288 x7_1).f0.f2⟩ : S33)]) := ⟨_, rfl⟩
      replace H : (spec_l4List.l0 k1 y295 (wrap64 (x7_1 + 1)) s0_0 t291 t292 t288) = some (r1, r2, r3) := by first | (rw [hy295]; with_reducible exact H) | (have H2_ := (Option.bind_some _ _).symm.trans H; rw [hy295]; with_reducible exact H2_) | (have H2_ := (Option.bind_some _ _).symm.trans H; with_reducible exact H2_) | with_reducible exact H | (rw [hy295]; exact H) | exact H
      have Ny295 := mS hy295
      clear hy295
      have H' := mS H
      clear H
      have hnb14 := NB293_0.out
      have hnc14 := NB0_293.out
      have hcz15_0 := mZ BK293.out 0
      have hfz15_0 := blk_frozen BK293.out 0
      have p294 : 0 ≤ (x7_1 : Int) := of_decide_eq_true (by first | (with_reducible assumption) | assumption)
      have q294 : x7_1 < (t288.length : Int) := of_decide_eq_true (by first | (with_reducible assumption) | assumption)
      obtain ⟨ad294, e294, hx294_0, hx294_1, hx294_2, hx294_3⟩ := at_T35 (Kd.R_reads' HO_294000.out).2.2 x7_1 p294 q294
      cases e294
      replace p294 := eq_true p294
      replace q294 := eq_true q294
      go_wp2_with (first | ((with_reducible refine gate_builtin (b := .append) (xs := #[.tmp 19, .tmp 26]) rfl ?_); at_builtin; refine Kd.R_append k33 w.heap.size rfl (.tmp 19) (.tmp 26) 90 33 (.agg #[(.string ⟨#[]⟩), (.string ⟨#[]⟩), (.bool false)]) 40 rfl Try.underlying90 info33 rfl (by decide) (by omega) u5 x5_1 (⟨(rd_T35 t288 x7_1).f0.f0, (rd_T35 t288 x7_1).f0.f1, (rd_T35 t288 x7_1).f0.f2⟩ : S33) [.string ((rd_T35 t288 x7_1).f0.f0), .string ((rd_T35 t288 x7_1).f0.f1), .bool ((rd_T35 t288 x7_1).f0.f2)] (fun _ => True) (fun _ => False) rfl rfl ?aP (fun _ hk => hk.elim) ?aF ?aO (Below.refl _ _) ?aS ?aL ?_; (case aP => exact k33_mkM _ _ _ (⟨(rd_T35 t288 x7_1).f0.f0, (rd_T35 t288 x7_1).f0.f1, (rd_T35 t288 x7_1).f0.f2⟩ : S33)); (case aF => exact (fun _ _ => trivial)); (case aO => exact (mR HO_5.out)); (case aS => exact (keep_size (w := w) (g := g) (row := none) (mQ137_4 HK.out GW293.out))); (case aL => have := LMc13.out; omega); intro v296 w16 ho hb hg hat; rw [← Ny295.out] at ho; replace HO_294000 := mS (Kd.R_over' (mR HO_294000.out) (Kd.R_typed (mR HO_5.out)) (by decide) hg); replace BK293 := mS (blk_grown (g := gb293) (o := .cells #[.slice (some ad294) t288.length co8] 26 (0, 0)) (mK BK293.out) hg (Kd.R_ne HO_5.out BK293.out (by decide))); replace HB := mS (below_weaken (mH137_7 HB.out (IsS167.ge HI0.out) GE293.out) HL.out hb); replace HI0 := mS (IsS167.grown (mI137_1 HI0.out NB0_293.out) hg (IsS167.own_ne HI0.out HO_5.out (by decide))); replace HK := mS (KeepBut.trans (mQ137_4 HK.out GW293.out) (KeepBut.of_grown hg g) (Kd.R_base2 HO_5.out)); have HO297 := mS (ho); clear HO_5; clear ho hb hg hat))
      go_roundg k1
      case measure => have := HK1.out; omega
      case rel => exact ⟨(y295), (wrap64 (x7_1 + 1)), (by first | rfl | (simp; done) | (simp [*]; done)), H', ⟨by have := HK1.out; omega⟩, ⟨by (with_reducible repeat (first | apply Kd.R_alloc | apply Kd.R_drewN | apply Kd.R_drew)); exact HO297.out⟩, ⟨by (with_reducible repeat (first | apply Kd.R_alloc | apply Kd.R_drewN | apply Kd.R_drew)); exact HO_294000.out⟩, ⟨by (with_reducible repeat (first | refine blk_drewN ?_ _ | refine blk_drew ?_ | refine blk_alloc ?_ _)); exact BK293.out⟩, ⟨mI137_1 HI0.out NB0_293.out⟩, ⟨mQ137_4 HK.out GW293.out⟩, ⟨mH137_7 HB.out (IsS167.ge HI0.out) GE293.out⟩⟩
     ·rw [if_neg c13] at H
      exact absurd H (by simp)
    ·rw [if_neg c12] at H
     exact absurd H (by simp)
   ·rw [if_neg c11] at H
    have c11b0 : decide (x7_1 < (t288.length : Int)) = false := decide_eq_false c11
    clear c11
    simp only [Option.some.injEq, Prod.mk.injEq] at H
    obtain ⟨rfl, rfl, rfl⟩ := H
    have hnb17 := NB293_0.out
    have hnc17 := NB0_293.out
    have hcz18_0 := mZ BK293.out 0
    have hfz18_0 := blk_frozen BK293.out 0
    go_wp2
    go_ret
    exact ⟨_, by first | rfl | (simp [errW_none, errW_some] <;> rfl) | (simp [*, errW_none, errW_some] <;> rfl), by (with_reducible repeat (first | apply Kd.R_alloc | apply Kd.R_drewN | apply Kd.R_drew)); exact HO_5.out, mI137_1 HI0.out NB0_293.out, mH137_7 HB.out (IsS167.ge HI0.out) GE293.out, mQ137_4 HK.out GW293.out⟩

/-! ### spec_l4PairAny: function 83 -/
def spec_l4PairAny.f (s0_0 : List Int) (s0_1 : Int) (s0_2 : Int) : Option (ByteArray × ByteArray × Bool × Int × Int) := (spec_l4Pair.f s0_0 s0_1 s0_2).bind fun bt299 => ((spec_l1Below.f s0_0 bt299.2.2.2.1 bt299.2.2.2.2 14).bind fun bt305 => (if bt305.1 = 0 then ((spec_l1Str.f s0_0 bt305.2.1 bt305.2.2 (([(⟨#[]⟩ : ByteArray), (⟨#[116, 119, 101, 110, 116, 121, 45, 111, 110, 101, 45, 98, 121, 116, 101, 115, 45, 108, 111, 110, 103]⟩ : ByteArray), (⟨#[116, 119, 101, 110, 116, 121, 45, 98, 121, 116, 101, 115, 45, 108, 111, 110, 103, 45, 50, 48]⟩ : ByteArray)] : List ByteArray))).bind fun bt311 => (some (bt311.1, bt299.2.1, bt299.2.2.1, bt311.2.1, bt311.2.2))) else (if bt305.1 = 1 then (some (bt299.1, (⟨#[116, 119, 101, 110, 116, 121, 45, 111, 110, 101, 45, 98, 121, 116, 101, 115, 45, 108, 111, 110, 103]⟩ : ByteArray), bt299.2.2.1, bt305.2.1, bt305.2.2)) else (if bt305.1 = 2 then (some (bt299.1, bt299.2.1, !bt299.2.2.1, bt305.2.1, bt305.2.2)) else (some (bt299.1, bt299.2.1, bt299.2.2.1, bt305.2.1, bt305.2.2))))))
set_option maxHeartbeats 8000000 in
set_option maxRecDepth 100000 in
theorem spec_l4PairAny.calls (g : Nat) (s0_0 : List Int) (s0_1 : Int) (s0_2 : Int) (r1 : ByteArray) (r2 : ByteArray) (r3 : Bool) (r4 : Int) (r5 : Int) (w0 w : World) (hI : IsS167 w0 w g s0_0 s0_1 s0_2) (hB : Below w0.heap.size w0 w) (h : spec_l4PairAny.f s0_0 s0_1 s0_2 = some (r1, r2, r3, r4, r5)) :
  Calls Try.prog 83 #[.pointer (some ⟨g, 0, none⟩)] w fun e w' => e = .returned (.agg #[.string r1, .string r2, .bool r3]) ∧ IsS167 w0 w' g s0_0 r4 r5 ∧ Below w0.heap.size w0 w' ∧ KeepBut w w' g none := by
 have hu33 := Try.underlying33
 have HI0 := mS hI
 have HK := mS (KeepBut.refl w g none)
 have HL := mS hB.size
 clear hI
 have HW0 := mS hB.size
 have HB := mS hB
 clear hB
 have H : ((spec_l4Pair.f s0_0 s0_1 s0_2).bind fun bt299 => ((spec_l1Below.f s0_0 bt299.2.2.2.1 bt299.2.2.2.2 14).bind fun bt305 => (if bt305.1 = 0 then ((spec_l1Str.f s0_0 bt305.2.1 bt305.2.2 (([(⟨#[]⟩ : ByteArray), (⟨#[116, 119, 101, 110, 116, 121, 45, 111, 110, 101, 45, 98, 121, 116, 101, 115, 45, 108, 111, 110, 103]⟩ : ByteArray), (⟨#[116, 119, 101, 110, 116, 121, 45, 98, 121, 116, 101, 115, 45, 108, 111, 110, 103, 45, 50, 48]⟩ : ByteArray)] : List ByteArray))).bind fun bt311 => (some (bt311.1, bt299.2.1, bt299.2.2.1, bt311.2.1, bt311.2.2))) else (if bt305.1 = 1 then (some (bt299.1, (⟨#[116, 119, 101, 110, 116, 121, 45, 111, 110, 101, 45, 98, 121, 116, 101, 115, 45, 108, 111, 110, 103]⟩ : ByteArray), bt299.2.2.1, bt305.2.1, bt305.2.2)) else (if bt305.1 = 2 then (some (bt299.1, bt299.2.1, !bt299.2.2.1, bt305.2.1, bt305.2.2)) else (some (bt299.1, bt299.2.1, bt299.2.2.1, bt305.2.1, bt305.2.2))))))) = some (r1, r2, r3, r4, r5) := h
 clear h
 replace H := Option.bind_eq_some_iff.mp H
 obtain ⟨⟨t299, t300, t301, t302, t303⟩, A20, H⟩ := H
 replace H : ((spec_l1Below.f s0_0 t302 t303 14).bind fun bt305 => (if bt305.1 = 0 then ((spec_l1Str.f s0_0 bt305.2.1 bt305.2.2 (([(⟨#[]⟩ : ByteArray), (⟨#[116, 119, 101, 110, 116, 121, 45, 111, 110, 101, 45, 98, 121, 116, 101, 115, 45, 108, 111, 110, 103]⟩ : ByteArray), (⟨#[116, 119, 101, 110, 116, 121, 45, 98, 121, 116, 101, 115, 45, 108, 111, 110, 103, 45, 50, 48]⟩ : ByteArray)] : List ByteArray))).bind fun bt311 => (some (bt311.1, t300, t301, bt311.2.1, bt311.2.2))) else (if bt305.1 = 1 then (some (t299, (⟨#[116, 119, 101, 110, 116, 121, 45, 111, 110, 101, 45, 98, 121, 116, 101, 115, 45, 108, 111, 110, 103]⟩ : ByteArray), t301, bt305.2.1, bt305.2.2)) else (if bt305.1 = 2 then (some (t299, t300, !t301, bt305.2.1, bt305.2.2)) else (some (t299, t300, t301, bt305.2.1, bt305.2.2)))))) = some (r1, r2, r3, r4, r5) := H
 have A2 := mS A20
 clear A20
 replace H := Option.bind_eq_some_iff.mp H
 obtain ⟨⟨t305, t306, t307⟩, A30, H⟩ := H
 replace H : (if t305 = 0 then ((spec_l1Str.f s0_0 t306 t307 (([(⟨#[]⟩ : ByteArray), (⟨#[116, 119, 101, 110, 116, 121, 45, 111, 110, 101, 45, 98, 121, 116, 101, 115, 45, 108, 111, 110, 103]⟩ : ByteArray), (⟨#[116, 119, 101, 110, 116, 121, 45, 98, 121, 116, 101, 115, 45, 108, 111, 110, 103, 45, 50, 48]⟩ : ByteArray)] : List ByteArray))).bind fun bt311 => (some (bt311.1, t300, t301, bt311.2.1, bt311.2.2))) else (if t305 = 1 then (some (t299, (⟨#[116, 119, 101, 110, 116, 121, 45, 111, 110, 101, 45, 98, 121, 116, 101, 115, 45, 108, 111, 110, 103]⟩ : ByteArray), t301, t306, t307)) else (if t305 = 2 then (some (t299, t300, !t301, t306, t307)) else (some (t299, t300, t301, t306, t307))))) = some (r1, r2, r3, r4, r5) := H
 have A3 := mS A30
 clear A30
 by_cases c4 : t305 = 0
 ·rw [if_pos c4] at H
  have c4b0 : (t305 == 0) = true := beq_iff_eq.mpr c4
  have c4b1 : (t305 != 0) = false := bne_eq_false_iff_eq.mpr c4
  clear c4
  obtain ⟨y308, hy308⟩ : ∃ y_ : List ByteArray, y_ = (([(⟨#[]⟩ : ByteArray), (⟨#[116, 119, 101, 110, 116, 121, 45, 111, 110, 101, 45, 98, 121, 116, 101, 115, 45, 108, 111, 110, 103]⟩ : ByteArray), (⟨#[116, 119, 101, 110, 116, 121, 45, 98, 121, 116, 101, 115, 45, 108, 111, 110, 103, 45, 50, 48]⟩ : ByteArray)] : List ByteArray)) := ⟨_, rfl⟩
  replace H : ((spec_l1Str.f s0_0 t306 t307 y308).bind fun bt311 => (some (bt311.1, t300, t301, bt311.2.1, bt311.2.2))) = some (r1, r2, r3, r4, r5) := by first | (rw [hy308]; with_reducible exact H) | (have H2_ := (Option.bind_some _ _).symm.trans H; rw [hy308]; with_reducible exact H2_) | (have H2_ := (Option.bind_some _ _).symm.trans H; with_reducible exact H2_) | with_reducible exact H | (rw [hy308]; exact H) | exact H
  have Ny308 := mS hy308
  clear hy308
  replace H := Option.bind_eq_some_iff.mp H
  obtain ⟨⟨t311, t312, t313⟩, A50, H⟩ := H
  replace H : (some (t311, t300, t301, t312, t313)) = some (r1, r2, r3, r4, r5) := H
  have A5 := mS A50
  clear A50
  simp only [Option.some.injEq, Prod.mk.injEq] at H
  obtain ⟨rfl, rfl, rfl, rfl, rfl⟩ := H
  go_enter Try.func83, Try.ntmps83
  go_wp2_with (first | ((with_reducible refine gate_dst (N := 2) rfl ?_); refine box_event ?hg (N := 2) ?hd (cs := #[.string (⟨#[]⟩ : ByteArray), .string (⟨#[]⟩ : ByteArray), .bool false]) (t := 33) ?hr ?_; (case hd => rfl); (case hg => rfl); (case hr => first | (go_simp; done) | (go_simp; rfl)); intro gb298 hg w6 hbox hb; replace HB := mS (below_step (mH137_6 HB.out (IsS167.ge HI0.out)) hb); have BK298 := mS (hbox); have GW298 := mS ((by rw [hg]; exact (keep_size (w := w) (g := g) (row := none) (mQ137_3 HK.out)) : w.heap.size ≤ gb298)); have GE298 := mS ((Nat.le_trans HW0.out (by rw [hg]; exact (keep_size (w := w) (g := g) (row := none) (mQ137_3 HK.out)) : w.heap.size ≤ gb298) : w0.heap.size ≤ gb298)); replace HK := mS (KeepBut.trans (mQ137_3 HK.out) (KeepBut.of_below hb g none) (.inl rfl)); have NB0_298 := mS ((by rw [hg]; exact Nat.ne_of_lt (IsS167.lt (show IsS167 w0 _ g s0_0 s0_1 s0_2 from mI137_0 HI0.out)) : g ≠ gb298)); have NB298_0 := mS ((by rw [hg]; exact Nat.ne_of_gt (IsS167.lt (show IsS167 w0 _ g s0_0 s0_1 s0_2 from mI137_0 HI0.out)) : gb298 ≠ g)); replace HI0 := mS (IsS167.below (mI137_0 HI0.out) hb); clear hb hbox hg) | ((with_reducible refine gate_callee (f := 136) rfl ?_); refine goesL_ (some 5) rfl rfl Try.func136 (by kernel_rfl) rfl #[.pointer (some ⟨g, 0, none⟩)] rfl mA ?_; (with_reducible refine (spec_l4Pair.calls g s0_0 s0_1 s0_2 t299 t300 t301 t302 t303 w0 _ ?side1 ?side2 A2.out).mono ?_); (case side1 => repeat (first | (with_reducible first | exact HI0.out | apply IsS167.alloc | apply IsS167.drewN | apply IsS167.drew | apply IsS167.set_1 | apply IsS167.set_2 | refine IsS167.far ?_ NB0_298.out _) | exact HI0.out)); (case side2 => repeat (first | (with_reducible first | exact HB.out | apply below_alloc | apply pw_below_drewN | apply below_drew1 | refine below_set ?_ (IsS167.ge HI0.out) | refine below_set ?_ GE298.out) | exact HB.out)); rintro e w7 ⟨rfl, hi, hb, hk⟩; refine ⟨_, rfl, ?_⟩; replace BK298 := mS (KeepBut.blk hk (g' := gb298) (o := .cells #[.string (⟨#[]⟩ : ByteArray), .string (⟨#[]⟩ : ByteArray), .bool false] 33 (0, 0)) (mK BK298.out) NB298_0.out (by simp)); replace HK := mS (KeepBut.trans (mQ137_4 HK.out GW298.out) hk (.inl rfl)); replace HB := mS (hb); replace HI0 := mS (hi); (try clear hb); (try clear hb2); (try clear hk); (try clear hi)) | ((with_reducible refine gate_dst (N := 3) rfl ?_); refine box_event ?hg (N := 3) ?hd (cs := #[.string (⟨#[]⟩ : ByteArray), .string (⟨#[]⟩ : ByteArray), .bool false]) (t := 33) ?hr ?_; (case hd => rfl); (case hg => rfl); (case hr => first | (go_simp; done) | (go_simp; rfl)); intro gb304 hg w8 hbox hb; replace HB := mS (below_step (mH137_7 HB.out (IsS167.ge HI0.out) GE298.out) hb); have BK304 := mS (hbox); have GW304 := mS ((by rw [hg]; exact (keep_size (w := w) (g := g) (row := none) (mQ137_4 HK.out GW298.out)) : w.heap.size ≤ gb304)); have GE304 := mS ((Nat.le_trans HW0.out (by rw [hg]; exact (keep_size (w := w) (g := g) (row := none) (mQ137_4 HK.out GW298.out)) : w.heap.size ≤ gb304) : w0.heap.size ≤ gb304)); replace HK := mS (KeepBut.trans (mQ137_4 HK.out GW298.out) (KeepBut.of_below hb g none) (.inl rfl)); have NB298_304 := mNl hg BK298.out; have NB304_298 := mNg hg BK298.out; replace BK298 := mB BK298 hb; have NB0_304 := mS ((by rw [hg]; exact Nat.ne_of_lt (IsS167.lt (show IsS167 w0 _ g s0_0 t302 t303 from mI137_1 HI0.out NB0_298.out)) : g ≠ gb304)); have NB304_0 := mS ((by rw [hg]; exact Nat.ne_of_gt (IsS167.lt (show IsS167 w0 _ g s0_0 t302 t303 from mI137_1 HI0.out NB0_298.out)) : gb304 ≠ g)); replace HI0 := mS (IsS167.below (mI137_1 HI0.out NB0_298.out) hb); clear hb hbox hg; have hnb9 := NB304_298.out; have hnc9 := NB298_304.out; have hnb10 := NB304_0.out; have hnc10 := NB0_304.out; have hcz11_0 := mZ BK304.out 0; have hcz11_1 := mZ BK304.out 1; have hcz11_2 := mZ BK304.out 2; have hfz11_0 := blk_frozen BK304.out 0; have hfz11_1 := blk_frozen BK304.out 1; have hfz11_2 := blk_frozen BK304.out 2) | ((with_reducible refine gate_callee (f := 82) rfl ?_); refine goesL_ (some 7) rfl rfl Try.func82 (by kernel_rfl) rfl #[.pointer (some ⟨g, 0, none⟩), .int .i64 14] rfl mA ?_; (with_reducible refine (spec_l1Below.calls g s0_0 t302 t303 14 t305 t306 t307 w0 _ ?side1 ?side2 A3.out).mono ?_); (case side1 => repeat (first | (with_reducible first | exact HI0.out | apply IsS167.alloc | apply IsS167.drewN | apply IsS167.drew | apply IsS167.set_1 | apply IsS167.set_2 | refine IsS167.far ?_ NB0_298.out _ | refine IsS167.far ?_ NB0_304.out _) | exact HI0.out)); (case side2 => repeat (first | (with_reducible first | exact HB.out | apply below_alloc | apply pw_below_drewN | apply below_drew1 | refine below_set ?_ (IsS167.ge HI0.out) | refine below_set ?_ GE298.out | refine below_set ?_ GE304.out) | exact HB.out)); rintro e w12 ⟨rfl, hi, hb, hk⟩; refine ⟨_, rfl, ?_⟩; replace BK298 := mS (KeepBut.blk hk (g' := gb298) (o := .cells #[.string (⟨#[]⟩ : ByteArray), .string (⟨#[]⟩ : ByteArray), .bool false] 33 (0, 0)) (by (with_reducible repeat (first | refine blk_drewN ?_ _ | refine blk_drew ?_ | refine blk_alloc ?_ _)); refine blk_far ?_ NB298_304.out _; (with_reducible repeat (first | refine blk_drewN ?_ _ | refine blk_drew ?_ | refine blk_alloc ?_ _)); refine blk_far ?_ NB298_304.out _; (with_reducible repeat (first | refine blk_drewN ?_ _ | refine blk_drew ?_ | refine blk_alloc ?_ _)); refine blk_far ?_ NB298_304.out _; (with_reducible repeat (first | refine blk_drewN ?_ _ | refine blk_drew ?_ | refine blk_alloc ?_ _)); exact BK298.out) NB298_0.out (by simp)); replace BK304 := mS (KeepBut.blk hk (g' := gb304) (o := .cells #[.string t299, .string t300, .bool t301] 33 (0, 0)) (by (with_reducible repeat (first | refine blk_drewN ?_ _ | refine blk_drew ?_ | refine blk_alloc ?_ _)); refine blk_put (cs := #[.string t299, .string t300, .bool false]) ?_ 2 _ rfl; (with_reducible repeat (first | refine blk_drewN ?_ _ | refine blk_drew ?_ | refine blk_alloc ?_ _)); refine blk_put (cs := #[.string t299, .string (⟨#[]⟩ : ByteArray), .bool false]) ?_ 1 _ rfl; (with_reducible repeat (first | refine blk_drewN ?_ _ | refine blk_drew ?_ | refine blk_alloc ?_ _)); refine blk_put (cs := #[.string (⟨#[]⟩ : ByteArray), .string (⟨#[]⟩ : ByteArray), .bool false]) ?_ 0 _ rfl; (with_reducible repeat (first | refine blk_drewN ?_ _ | refine blk_drew ?_ | refine blk_alloc ?_ _)); exact BK304.out) NB304_0.out (by simp)); replace HK := mS (KeepBut.trans (mQ137_5 HK.out GW298.out GW304.out) hk (.inl rfl)); replace HB := mS (hb); replace HI0 := mS (hi); (try clear hb); (try clear hb2); (try clear hk); (try clear hi)) | ((with_reducible refine gate_dst (N := 11) rfl ?_); refine Kd.R_lit Kd.string _ 9 ?hg (N := 11) ?hd (xs := ([(⟨#[]⟩ : ByteArray), (⟨#[116, 119, 101, 110, 116, 121, 45, 111, 110, 101, 45, 98, 121, 116, 101, 115, 45, 108, 111, 110, 103]⟩ : ByteArray), (⟨#[116, 119, 101, 110, 116, 121, 45, 98, 121, 116, 101, 115, 45, 108, 111, 110, 103, 45, 50, 48]⟩ : ByteArray)] : List ByteArray)) (inner := [.string (⟨#[]⟩ : ByteArray), .string (⟨#[116, 119, 101, 110, 116, 121, 45, 111, 110, 101, 45, 98, 121, 116, 101, 115, 45, 108, 111, 110, 103]⟩ : ByteArray), .string (⟨#[116, 119, 101, 110, 116, 121, 45, 98, 121, 116, 101, 115, 45, 108, 111, 110, 103, 45, 50, 48]⟩ : ByteArray)]) (ok := fun _ => True) (okp := fun _ => True) ?hr ?hp (fun _ hk => hk) trivial (Below.refl _ _) (Nat.le_refl _) (by simp) ?_; (case hd => rfl); (case hg => rfl); (case hr => first | (go_simp; done) | (go_simp; rfl)); (case hp => exact (Reps.one (show Kd.M Kd.string _ _ _ (⟨#[]⟩ : ByteArray) [.string (⟨#[]⟩ : ByteArray)] from rfl) (Reps.one (show Kd.M Kd.string _ _ _ (⟨#[116, 119, 101, 110, 116, 121, 45, 111, 110, 101, 45, 98, 121, 116, 101, 115, 45, 108, 111, 110, 103]⟩ : ByteArray) [.string (⟨#[116, 119, 101, 110, 116, 121, 45, 111, 110, 101, 45, 98, 121, 116, 101, 115, 45, 108, 111, 110, 103]⟩ : ByteArray)] from rfl) (Reps.one (show Kd.M Kd.string _ _ _ (⟨#[116, 119, 101, 110, 116, 121, 45, 98, 121, 116, 101, 115, 45, 108, 111, 110, 103, 45, 50, 48]⟩ : ByteArray) [.string (⟨#[116, 119, 101, 110, 116, 121, 45, 98, 121, 116, 101, 115, 45, 108, 111, 110, 103, 45, 50, 48]⟩ : ByteArray)] from rfl) (Reps.none _ _))))); intro v309 w13 ho14 hb hg_ hnew_; clear hg_ hnew_; (first | rw [← Ny308.out] at ho14 | (simp only [Int.reduceToNat] at ho14; rw [← Ny308.out] at ho14)); have HO310 := mS (Kd.R_lower ho14 (keep_size (w := w) (g := g) (row := none) (mQ137_5 HK.out GW298.out GW304.out))); replace BK298 := mB BK298 hb; replace BK304 := mB BK304 hb; replace HK := mS (KeepBut.trans (mQ137_5 HK.out GW298.out GW304.out) (KeepBut.of_below hb g none) (.inl rfl)); replace HB := mS (below_step (mH137_8 HB.out (IsS167.ge HI0.out) GE298.out GE304.out) hb); replace HI0 := mS (IsS167.below (mI137_2 HI0.out NB0_298.out NB0_304.out) hb); clear hb ho14; obtain ⟨Ao15, co15, eo15⟩ := Kd.R_slice HO310.out; subst eo15) | ((with_reducible refine gate_callee (f := 137) rfl ?_); refine goesL_ (some 12) rfl rfl Try.func137 (by kernel_rfl) rfl #[.pointer (some ⟨g, 0, none⟩), .slice Ao15 y308.length co15] rfl mA ?_; (with_reducible refine (spec_l1Str.calls g s0_0 t306 t307 _ _ y308 t311 t312 t313 w0 _ ?side1 ?side2 ?side3 ?side4 ?side5 A5.out).mono ?_); (case side1 => repeat (first | (with_reducible first | exact HI0.out | apply IsS167.alloc | apply IsS167.drewN | apply IsS167.drew | apply IsS167.set_1 | apply IsS167.set_2 | refine IsS167.far ?_ NB0_298.out _ | refine IsS167.far ?_ NB0_304.out _) | exact HI0.out)); (case side2 => repeat (first | (with_reducible first | exact HB.out | apply below_alloc | apply pw_below_drewN | apply below_drew1 | refine below_set ?_ (IsS167.ge HI0.out) | refine below_set ?_ GE298.out | refine below_set ?_ GE304.out) | exact HB.out)); (case side3 => repeat (first | exact (Kd.R_reads' HO310.out).2.2 | (with_reducible refine Kd.C_alloc ?_ _) | (with_reducible refine Kd.C_drewN ?_ _) | (with_reducible refine Kd.C_drew ?_))); (case side4 => exact (Kd.R_reads' HO310.out).2.1); (case side5 => exact far_slice (IsS167.own_ne HI0.out HO310.out (by decide))); rintro e w16 ⟨rfl, hi, hb, hk⟩; refine ⟨_, rfl, ?_⟩; replace BK298 := mS (KeepBut.blk hk (g' := gb298) (o := .cells #[.string (⟨#[]⟩ : ByteArray), .string (⟨#[]⟩ : ByteArray), .bool false] 33 (0, 0)) (mK BK298.out) NB298_0.out (by simp)); replace BK304 := mS (KeepBut.blk hk (g' := gb304) (o := .cells #[.string t299, .string t300, .bool t301] 33 (0, 0)) (mK BK304.out) NB304_0.out (by simp)); replace HO310 := mS (Kd.R_mono (Kd.R_keep (IsS167.apart (show IsS167 w0 _ g s0_0 t306 t307 from mI137_2 HI0.out NB0_298.out NB0_304.out) (mR HO310.out) (by decide)) hk (fun _ h => h.2)) (fun _ h => h.1)); replace HK := mS (KeepBut.trans (mQ137_5 HK.out GW298.out GW304.out) hk (.inl rfl)); replace HB := mS (hb); replace HI0 := mS (hi); (try clear hb); (try clear hb2); (try clear hk); (try clear hi); have hcz17_0 := mZ BK304.out 0; have hcz17_1 := mZ BK304.out 1; have hcz17_2 := mZ BK304.out 2; have hfz17_0 := blk_frozen BK304.out 0; have hfz17_1 := blk_frozen BK304.out 1; have hfz17_2 := blk_frozen BK304.out 2; have hnb18 := NB298_0.out; have hnc18 := NB0_298.out; have hcz19_0 := mZ BK298.out 0; have hcz19_1 := mZ BK298.out 1; have hcz19_2 := mZ BK298.out 2; have hfz19_0 := blk_frozen BK298.out 0; have hfz19_1 := blk_frozen BK298.out 1; have hfz19_2 := blk_frozen BK298.out 2))
  refine bodyPost_ret (results_cell_row rfl _ _ gb298 33 #[.string t311, .string t300, .bool t301] (0, 0) _ rfl (by (with_reducible repeat (first | refine blk_drewN ?_ _ | refine blk_drew ?_ | refine blk_alloc ?_ _)); refine blk_put (cs := #[.string t311, .string t300, .bool false]) ?_ 2 _ rfl; (with_reducible repeat (first | refine blk_drewN ?_ _ | refine blk_drew ?_ | refine blk_alloc ?_ _)); refine blk_put (cs := #[.string t311, .string (⟨#[]⟩ : ByteArray), .bool false]) ?_ 1 _ rfl; (with_reducible repeat (first | refine blk_drewN ?_ _ | refine blk_drew ?_ | refine blk_alloc ?_ _)); refine blk_put (cs := #[.string (⟨#[]⟩ : ByteArray), .string (⟨#[]⟩ : ByteArray), .bool false]) ?_ 0 _ rfl; (with_reducible repeat (first | refine blk_drewN ?_ _ | refine blk_drew ?_ | refine blk_alloc ?_ _)); refine blk_far ?_ NB298_304.out _; (with_reducible repeat (first | refine blk_drewN ?_ _ | refine blk_drew ?_ | refine blk_alloc ?_ _)); exact BK298.out) Try.underlying33 rfl (by kernel_rfl)) rfl ?_
  exact ⟨by first | rfl | (simp [errW_none, errW_some] <;> rfl) | (simp [*, errW_none, errW_some] <;> rfl), mI137_2 HI0.out NB0_298.out NB0_304.out, mH137_8 HB.out (IsS167.ge HI0.out) GE298.out GE304.out, mQ137_5 HK.out GW298.out GW304.out⟩
 ·rw [if_neg c4] at H
  have c4b0 : (t305 == 0) = false := beq_eq_false_iff_ne.mpr c4
  have c4b1 : (t305 != 0) = true := bne_iff_ne.mpr c4
  by_cases c20 : t305 = 1
  ·rw [if_pos c20] at H
   have c20b0 : (t305 == 1) = true := beq_iff_eq.mpr c20
   have c20b1 : (t305 != 1) = false := bne_eq_false_iff_eq.mpr c20
   clear c20
   simp only [Option.some.injEq, Prod.mk.injEq] at H
   obtain ⟨rfl, rfl, rfl, rfl, rfl⟩ := H
   go_enter Try.func83, Try.ntmps83
   go_wp2_with (first | ((with_reducible refine gate_dst (N := 2) rfl ?_); refine box_event ?hg (N := 2) ?hd (cs := #[.string (⟨#[]⟩ : ByteArray), .string (⟨#[]⟩ : ByteArray), .bool false]) (t := 33) ?hr ?_; (case hd => rfl); (case hg => rfl); (case hr => first | (go_simp; done) | (go_simp; rfl)); intro gb298 hg w21 hbox hb; replace HB := mS (below_step (mH137_6 HB.out (IsS167.ge HI0.out)) hb); have BK298 := mS (hbox); have GW298 := mS ((by rw [hg]; exact (keep_size (w := w) (g := g) (row := none) (mQ137_3 HK.out)) : w.heap.size ≤ gb298)); have GE298 := mS ((Nat.le_trans HW0.out (by rw [hg]; exact (keep_size (w := w) (g := g) (row := none) (mQ137_3 HK.out)) : w.heap.size ≤ gb298) : w0.heap.size ≤ gb298)); replace HK := mS (KeepBut.trans (mQ137_3 HK.out) (KeepBut.of_below hb g none) (.inl rfl)); have NB0_298 := mS ((by rw [hg]; exact Nat.ne_of_lt (IsS167.lt (show IsS167 w0 _ g s0_0 s0_1 s0_2 from mI137_0 HI0.out)) : g ≠ gb298)); have NB298_0 := mS ((by rw [hg]; exact Nat.ne_of_gt (IsS167.lt (show IsS167 w0 _ g s0_0 s0_1 s0_2 from mI137_0 HI0.out)) : gb298 ≠ g)); replace HI0 := mS (IsS167.below (mI137_0 HI0.out) hb); clear hb hbox hg) | ((with_reducible refine gate_callee (f := 136) rfl ?_); refine goesL_ (some 5) rfl rfl Try.func136 (by kernel_rfl) rfl #[.pointer (some ⟨g, 0, none⟩)] rfl mA ?_; (with_reducible refine (spec_l4Pair.calls g s0_0 s0_1 s0_2 t299 t300 t301 t302 t303 w0 _ ?side1 ?side2 A2.out).mono ?_); (case side1 => repeat (first | (with_reducible first | exact HI0.out | apply IsS167.alloc | apply IsS167.drewN | apply IsS167.drew | apply IsS167.set_1 | apply IsS167.set_2 | refine IsS167.far ?_ NB0_298.out _) | exact HI0.out)); (case side2 => repeat (first | (with_reducible first | exact HB.out | apply below_alloc | apply pw_below_drewN | apply below_drew1 | refine below_set ?_ (IsS167.ge HI0.out) | refine below_set ?_ GE298.out) | exact HB.out)); rintro e w22 ⟨rfl, hi, hb, hk⟩; refine ⟨_, rfl, ?_⟩; replace BK298 := mS (KeepBut.blk hk (g' := gb298) (o := .cells #[.string (⟨#[]⟩ : ByteArray), .string (⟨#[]⟩ : ByteArray), .bool false] 33 (0, 0)) (mK BK298.out) NB298_0.out (by simp)); replace HK := mS (KeepBut.trans (mQ137_4 HK.out GW298.out) hk (.inl rfl)); replace HB := mS (hb); replace HI0 := mS (hi); (try clear hb); (try clear hb2); (try clear hk); (try clear hi)) | ((with_reducible refine gate_dst (N := 3) rfl ?_); refine box_event ?hg (N := 3) ?hd (cs := #[.string (⟨#[]⟩ : ByteArray), .string (⟨#[]⟩ : ByteArray), .bool false]) (t := 33) ?hr ?_; (case hd => rfl); (case hg => rfl); (case hr => first | (go_simp; done) | (go_simp; rfl)); intro gb304 hg w23 hbox hb; replace HB := mS (below_step (mH137_7 HB.out (IsS167.ge HI0.out) GE298.out) hb); have BK304 := mS (hbox); have GW304 := mS ((by rw [hg]; exact (keep_size (w := w) (g := g) (row := none) (mQ137_4 HK.out GW298.out)) : w.heap.size ≤ gb304)); have GE304 := mS ((Nat.le_trans HW0.out (by rw [hg]; exact (keep_size (w := w) (g := g) (row := none) (mQ137_4 HK.out GW298.out)) : w.heap.size ≤ gb304) : w0.heap.size ≤ gb304)); replace HK := mS (KeepBut.trans (mQ137_4 HK.out GW298.out) (KeepBut.of_below hb g none) (.inl rfl)); have NB298_304 := mNl hg BK298.out; have NB304_298 := mNg hg BK298.out; replace BK298 := mB BK298 hb; have NB0_304 := mS ((by rw [hg]; exact Nat.ne_of_lt (IsS167.lt (show IsS167 w0 _ g s0_0 t302 t303 from mI137_1 HI0.out NB0_298.out)) : g ≠ gb304)); have NB304_0 := mS ((by rw [hg]; exact Nat.ne_of_gt (IsS167.lt (show IsS167 w0 _ g s0_0 t302 t303 from mI137_1 HI0.out NB0_298.out)) : gb304 ≠ g)); replace HI0 := mS (IsS167.below (mI137_1 HI0.out NB0_298.out) hb); clear hb hbox hg; have hnb24 := NB304_298.out; have hnc24 := NB298_304.out; have hnb25 := NB304_0.out; have hnc25 := NB0_304.out; have hcz26_0 := mZ BK304.out 0; have hcz26_1 := mZ BK304.out 1; have hcz26_2 := mZ BK304.out 2; have hfz26_0 := blk_frozen BK304.out 0; have hfz26_1 := blk_frozen BK304.out 1; have hfz26_2 := blk_frozen BK304.out 2) | ((with_reducible refine gate_callee (f := 82) rfl ?_); refine goesL_ (some 7) rfl rfl Try.func82 (by kernel_rfl) rfl #[.pointer (some ⟨g, 0, none⟩), .int .i64 14] rfl mA ?_; (with_reducible refine (spec_l1Below.calls g s0_0 t302 t303 14 t305 t306 t307 w0 _ ?side1 ?side2 A3.out).mono ?_); (case side1 => repeat (first | (with_reducible first | exact HI0.out | apply IsS167.alloc | apply IsS167.drewN | apply IsS167.drew | apply IsS167.set_1 | apply IsS167.set_2 | refine IsS167.far ?_ NB0_298.out _ | refine IsS167.far ?_ NB0_304.out _) | exact HI0.out)); (case side2 => repeat (first | (with_reducible first | exact HB.out | apply below_alloc | apply pw_below_drewN | apply below_drew1 | refine below_set ?_ (IsS167.ge HI0.out) | refine below_set ?_ GE298.out | refine below_set ?_ GE304.out) | exact HB.out)); rintro e w27 ⟨rfl, hi, hb, hk⟩; refine ⟨_, rfl, ?_⟩; replace BK298 := mS (KeepBut.blk hk (g' := gb298) (o := .cells #[.string (⟨#[]⟩ : ByteArray), .string (⟨#[]⟩ : ByteArray), .bool false] 33 (0, 0)) (by (with_reducible repeat (first | refine blk_drewN ?_ _ | refine blk_drew ?_ | refine blk_alloc ?_ _)); refine blk_far ?_ NB298_304.out _; (with_reducible repeat (first | refine blk_drewN ?_ _ | refine blk_drew ?_ | refine blk_alloc ?_ _)); refine blk_far ?_ NB298_304.out _; (with_reducible repeat (first | refine blk_drewN ?_ _ | refine blk_drew ?_ | refine blk_alloc ?_ _)); refine blk_far ?_ NB298_304.out _; (with_reducible repeat (first | refine blk_drewN ?_ _ | refine blk_drew ?_ | refine blk_alloc ?_ _)); exact BK298.out) NB298_0.out (by simp)); replace BK304 := mS (KeepBut.blk hk (g' := gb304) (o := .cells #[.string t299, .string t300, .bool t301] 33 (0, 0)) (by (with_reducible repeat (first | refine blk_drewN ?_ _ | refine blk_drew ?_ | refine blk_alloc ?_ _)); refine blk_put (cs := #[.string t299, .string t300, .bool false]) ?_ 2 _ rfl; (with_reducible repeat (first | refine blk_drewN ?_ _ | refine blk_drew ?_ | refine blk_alloc ?_ _)); refine blk_put (cs := #[.string t299, .string (⟨#[]⟩ : ByteArray), .bool false]) ?_ 1 _ rfl; (with_reducible repeat (first | refine blk_drewN ?_ _ | refine blk_drew ?_ | refine blk_alloc ?_ _)); refine blk_put (cs := #[.string (⟨#[]⟩ : ByteArray), .string (⟨#[]⟩ : ByteArray), .bool false]) ?_ 0 _ rfl; (with_reducible repeat (first | refine blk_drewN ?_ _ | refine blk_drew ?_ | refine blk_alloc ?_ _)); exact BK304.out) NB304_0.out (by simp)); replace HK := mS (KeepBut.trans (mQ137_5 HK.out GW298.out GW304.out) hk (.inl rfl)); replace HB := mS (hb); replace HI0 := mS (hi); (try clear hb); (try clear hb2); (try clear hk); (try clear hi); have hcz28_0 := mZ BK304.out 0; have hcz28_1 := mZ BK304.out 1; have hcz28_2 := mZ BK304.out 2; have hfz28_0 := blk_frozen BK304.out 0; have hfz28_1 := blk_frozen BK304.out 1; have hfz28_2 := blk_frozen BK304.out 2; have hnb29 := NB298_0.out; have hnc29 := NB0_298.out; have hcz30_0 := mZ BK298.out 0; have hcz30_1 := mZ BK298.out 1; have hcz30_2 := mZ BK298.out 2; have hfz30_0 := blk_frozen BK298.out 0; have hfz30_1 := blk_frozen BK298.out 1; have hfz30_2 := blk_frozen BK298.out 2))
   refine bodyPost_ret (results_cell_row rfl _ _ gb298 33 #[.string t299, .string (⟨#[116, 119, 101, 110, 116, 121, 45, 111, 110, 101, 45, 98, 121, 116, 101, 115, 45, 108, 111, 110, 103]⟩ : ByteArray), .bool t301] (0, 0) _ rfl (by (with_reducible repeat (first | refine blk_drewN ?_ _ | refine blk_drew ?_ | refine blk_alloc ?_ _)); refine blk_put (cs := #[.string t299, .string (⟨#[116, 119, 101, 110, 116, 121, 45, 111, 110, 101, 45, 98, 121, 116, 101, 115, 45, 108, 111, 110, 103]⟩ : ByteArray), .bool false]) ?_ 2 _ rfl; (with_reducible repeat (first | refine blk_drewN ?_ _ | refine blk_drew ?_ | refine blk_alloc ?_ _)); refine blk_put (cs := #[.string t299, .string (⟨#[]⟩ : ByteArray), .bool false]) ?_ 1 _ rfl; (with_reducible repeat (first | refine blk_drewN ?_ _ | refine blk_drew ?_ | refine blk_alloc ?_ _)); refine blk_put (cs := #[.string (⟨#[]⟩ : ByteArray), .string (⟨#[]⟩ : ByteArray), .bool false]) ?_ 0 _ rfl; (with_reducible repeat (first | refine blk_drewN ?_ _ | refine blk_drew ?_ | refine blk_alloc ?_ _)); refine blk_far ?_ NB298_304.out _; (with_reducible repeat (first | refine blk_drewN ?_ _ | refine blk_drew ?_ | refine blk_alloc ?_ _)); exact BK298.out) Try.underlying33 rfl (by kernel_rfl)) rfl ?_
   exact ⟨by first | rfl | (simp [errW_none, errW_some] <;> rfl) | (simp [*, errW_none, errW_some] <;> rfl), mI137_2 HI0.out NB0_298.out NB0_304.out, mH137_8 HB.out (IsS167.ge HI0.out) GE298.out GE304.out, mQ137_5 HK.out GW298.out GW304.out⟩
  ·rw [if_neg c20] at H
   have c20b0 : (t305 == 1) = false := beq_eq_false_iff_ne.mpr c20
   have c20b1 : (t305 != 1) = true := bne_iff_ne.mpr c20
   by_cases c31 : t305 = 2
   ·rw [if_pos c31] at H
    have c31b0 : (t305 == 2) = true := beq_iff_eq.mpr c31
    have c31b1 : (t305 != 2) = false := bne_eq_false_iff_eq.mpr c31
    clear c31
    simp only [Option.some.injEq, Prod.mk.injEq] at H
    obtain ⟨rfl, rfl, rfl, rfl, rfl⟩ := H
    go_enter Try.func83, Try.ntmps83
    go_wp2_with (first | ((with_reducible refine gate_dst (N := 2) rfl ?_); refine box_event ?hg (N := 2) ?hd (cs := #[.string (⟨#[]⟩ : ByteArray), .string (⟨#[]⟩ : ByteArray), .bool false]) (t := 33) ?hr ?_; (case hd => rfl); (case hg => rfl); (case hr => first | (go_simp; done) | (go_simp; rfl)); intro gb298 hg w32 hbox hb; replace HB := mS (below_step (mH137_6 HB.out (IsS167.ge HI0.out)) hb); have BK298 := mS (hbox); have GW298 := mS ((by rw [hg]; exact (keep_size (w := w) (g := g) (row := none) (mQ137_3 HK.out)) : w.heap.size ≤ gb298)); have GE298 := mS ((Nat.le_trans HW0.out (by rw [hg]; exact (keep_size (w := w) (g := g) (row := none) (mQ137_3 HK.out)) : w.heap.size ≤ gb298) : w0.heap.size ≤ gb298)); replace HK := mS (KeepBut.trans (mQ137_3 HK.out) (KeepBut.of_below hb g none) (.inl rfl)); have NB0_298 := mS ((by rw [hg]; exact Nat.ne_of_lt (IsS167.lt (show IsS167 w0 _ g s0_0 s0_1 s0_2 from mI137_0 HI0.out)) : g ≠ gb298)); have NB298_0 := mS ((by rw [hg]; exact Nat.ne_of_gt (IsS167.lt (show IsS167 w0 _ g s0_0 s0_1 s0_2 from mI137_0 HI0.out)) : gb298 ≠ g)); replace HI0 := mS (IsS167.below (mI137_0 HI0.out) hb); clear hb hbox hg) | ((with_reducible refine gate_callee (f := 136) rfl ?_); refine goesL_ (some 5) rfl rfl Try.func136 (by kernel_rfl) rfl #[.pointer (some ⟨g, 0, none⟩)] rfl mA ?_; (with_reducible refine (spec_l4Pair.calls g s0_0 s0_1 s0_2 t299 t300 t301 t302 t303 w0 _ ?side1 ?side2 A2.out).mono ?_); (case side1 => repeat (first | (with_reducible first | exact HI0.out | apply IsS167.alloc | apply IsS167.drewN | apply IsS167.drew | apply IsS167.set_1 | apply IsS167.set_2 | refine IsS167.far ?_ NB0_298.out _) | exact HI0.out)); (case side2 => repeat (first | (with_reducible first | exact HB.out | apply below_alloc | apply pw_below_drewN | apply below_drew1 | refine below_set ?_ (IsS167.ge HI0.out) | refine below_set ?_ GE298.out) | exact HB.out)); rintro e w33 ⟨rfl, hi, hb, hk⟩; refine ⟨_, rfl, ?_⟩; replace BK298 := mS (KeepBut.blk hk (g' := gb298) (o := .cells #[.string (⟨#[]⟩ : ByteArray), .string (⟨#[]⟩ : ByteArray), .bool false] 33 (0, 0)) (mK BK298.out) NB298_0.out (by simp)); replace HK := mS (KeepBut.trans (mQ137_4 HK.out GW298.out) hk (.inl rfl)); replace HB := mS (hb); replace HI0 := mS (hi); (try clear hb); (try clear hb2); (try clear hk); (try clear hi)) | ((with_reducible refine gate_dst (N := 3) rfl ?_); refine box_event ?hg (N := 3) ?hd (cs := #[.string (⟨#[]⟩ : ByteArray), .string (⟨#[]⟩ : ByteArray), .bool false]) (t := 33) ?hr ?_; (case hd => rfl); (case hg => rfl); (case hr => first | (go_simp; done) | (go_simp; rfl)); intro gb304 hg w34 hbox hb; replace HB := mS (below_step (mH137_7 HB.out (IsS167.ge HI0.out) GE298.out) hb); have BK304 := mS (hbox); have GW304 := mS ((by rw [hg]; exact (keep_size (w := w) (g := g) (row := none) (mQ137_4 HK.out GW298.out)) : w.heap.size ≤ gb304)); have GE304 := mS ((Nat.le_trans HW0.out (by rw [hg]; exact (keep_size (w := w) (g := g) (row := none) (mQ137_4 HK.out GW298.out)) : w.heap.size ≤ gb304) : w0.heap.size ≤ gb304)); replace HK := mS (KeepBut.trans (mQ137_4 HK.out GW298.out) (KeepBut.of_below hb g none) (.inl rfl)); have NB298_304 := mNl hg BK298.out; have NB304_298 := mNg hg BK298.out; replace BK298 := mB BK298 hb; have NB0_304 := mS ((by rw [hg]; exact Nat.ne_of_lt (IsS167.lt (show IsS167 w0 _ g s0_0 t302 t303 from mI137_1 HI0.out NB0_298.out)) : g ≠ gb304)); have NB304_0 := mS ((by rw [hg]; exact Nat.ne_of_gt (IsS167.lt (show IsS167 w0 _ g s0_0 t302 t303 from mI137_1 HI0.out NB0_298.out)) : gb304 ≠ g)); replace HI0 := mS (IsS167.below (mI137_1 HI0.out NB0_298.out) hb); clear hb hbox hg; have hnb35 := NB304_298.out; have hnc35 := NB298_304.out; have hnb36 := NB304_0.out; have hnc36 := NB0_304.out; have hcz37_0 := mZ BK304.out 0; have hcz37_1 := mZ BK304.out 1; have hcz37_2 := mZ BK304.out 2; have hfz37_0 := blk_frozen BK304.out 0; have hfz37_1 := blk_frozen BK304.out 1; have hfz37_2 := blk_frozen BK304.out 2) | ((with_reducible refine gate_callee (f := 82) rfl ?_); refine goesL_ (some 7) rfl rfl Try.func82 (by kernel_rfl) rfl #[.pointer (some ⟨g, 0, none⟩), .int .i64 14] rfl mA ?_; (with_reducible refine (spec_l1Below.calls g s0_0 t302 t303 14 t305 t306 t307 w0 _ ?side1 ?side2 A3.out).mono ?_); (case side1 => repeat (first | (with_reducible first | exact HI0.out | apply IsS167.alloc | apply IsS167.drewN | apply IsS167.drew | apply IsS167.set_1 | apply IsS167.set_2 | refine IsS167.far ?_ NB0_298.out _ | refine IsS167.far ?_ NB0_304.out _) | exact HI0.out)); (case side2 => repeat (first | (with_reducible first | exact HB.out | apply below_alloc | apply pw_below_drewN | apply below_drew1 | refine below_set ?_ (IsS167.ge HI0.out) | refine below_set ?_ GE298.out | refine below_set ?_ GE304.out) | exact HB.out)); rintro e w38 ⟨rfl, hi, hb, hk⟩; refine ⟨_, rfl, ?_⟩; replace BK298 := mS (KeepBut.blk hk (g' := gb298) (o := .cells #[.string (⟨#[]⟩ : ByteArray), .string (⟨#[]⟩ : ByteArray), .bool false] 33 (0, 0)) (by (with_reducible repeat (first | refine blk_drewN ?_ _ | refine blk_drew ?_ | refine blk_alloc ?_ _)); refine blk_far ?_ NB298_304.out _; (with_reducible repeat (first | refine blk_drewN ?_ _ | refine blk_drew ?_ | refine blk_alloc ?_ _)); refine blk_far ?_ NB298_304.out _; (with_reducible repeat (first | refine blk_drewN ?_ _ | refine blk_drew ?_ | refine blk_alloc ?_ _)); refine blk_far ?_ NB298_304.out _; (with_reducible repeat (first | refine blk_drewN ?_ _ | refine blk_drew ?_ | refine blk_alloc ?_ _)); exact BK298.out) NB298_0.out (by simp)); replace BK304 := mS (KeepBut.blk hk (g' := gb304) (o := .cells #[.string t299, .string t300, .bool t301] 33 (0, 0)) (by (with_reducible repeat (first | refine blk_drewN ?_ _ | refine blk_drew ?_ | refine blk_alloc ?_ _)); refine blk_put (cs := #[.string t299, .string t300, .bool false]) ?_ 2 _ rfl; (with_reducible repeat (first | refine blk_drewN ?_ _ | refine blk_drew ?_ | refine blk_alloc ?_ _)); refine blk_put (cs := #[.string t299, .string (⟨#[]⟩ : ByteArray), .bool false]) ?_ 1 _ rfl; (with_reducible repeat (first | refine blk_drewN ?_ _ | refine blk_drew ?_ | refine blk_alloc ?_ _)); refine blk_put (cs := #[.string (⟨#[]⟩ : ByteArray), .string (⟨#[]⟩ : ByteArray), .bool false]) ?_ 0 _ rfl; (with_reducible repeat (first | refine blk_drewN ?_ _ | refine blk_drew ?_ | refine blk_alloc ?_ _)); exact BK304.out) NB304_0.out (by simp)); replace HK := mS (KeepBut.trans (mQ137_5 HK.out GW298.out GW304.out) hk (.inl rfl)); replace HB := mS (hb); replace HI0 := mS (hi); (try clear hb); (try clear hb2); (try clear hk); (try clear hi); have hcz39_0 := mZ BK304.out 0; have hcz39_1 := mZ BK304.out 1; have hcz39_2 := mZ BK304.out 2; have hfz39_0 := blk_frozen BK304.out 0; have hfz39_1 := blk_frozen BK304.out 1; have hfz39_2 := blk_frozen BK304.out 2; have hnb40 := NB298_0.out; have hnc40 := NB0_298.out; have hcz41_0 := mZ BK298.out 0; have hcz41_1 := mZ BK298.out 1; have hcz41_2 := mZ BK298.out 2; have hfz41_0 := blk_frozen BK298.out 0; have hfz41_1 := blk_frozen BK298.out 1; have hfz41_2 := blk_frozen BK298.out 2))
    refine bodyPost_ret (results_cell_row rfl _ _ gb298 33 #[.string t299, .string t300, .bool (!t301)] (0, 0) _ rfl (by (with_reducible repeat (first | refine blk_drewN ?_ _ | refine blk_drew ?_ | refine blk_alloc ?_ _)); refine blk_put (cs := #[.string t299, .string t300, .bool false]) ?_ 2 _ rfl; (with_reducible repeat (first | refine blk_drewN ?_ _ | refine blk_drew ?_ | refine blk_alloc ?_ _)); refine blk_put (cs := #[.string t299, .string (⟨#[]⟩ : ByteArray), .bool false]) ?_ 1 _ rfl; (with_reducible repeat (first | refine blk_drewN ?_ _ | refine blk_drew ?_ | refine blk_alloc ?_ _)); refine blk_put (cs := #[.string (⟨#[]⟩ : ByteArray), .string (⟨#[]⟩ : ByteArray), .bool false]) ?_ 0 _ rfl; (with_reducible repeat (first | refine blk_drewN ?_ _ | refine blk_drew ?_ | refine blk_alloc ?_ _)); refine blk_far ?_ NB298_304.out _; (with_reducible repeat (first | refine blk_drewN ?_ _ | refine blk_drew ?_ | refine blk_alloc ?_ _)); exact BK298.out) Try.underlying33 rfl (by kernel_rfl)) rfl ?_
    exact ⟨by first | rfl | (simp [errW_none, errW_some] <;> rfl) | (simp [*, errW_none, errW_some] <;> rfl), mI137_2 HI0.out NB0_298.out NB0_304.out, mH137_8 HB.out (IsS167.ge HI0.out) GE298.out GE304.out, mQ137_5 HK.out GW298.out GW304.out⟩
   ·rw [if_neg c31] at H
    have c31b0 : (t305 == 2) = false := beq_eq_false_iff_ne.mpr c31
    have c31b1 : (t305 != 2) = true := bne_iff_ne.mpr c31
    simp only [Option.some.injEq, Prod.mk.injEq] at H
    obtain ⟨rfl, rfl, rfl, rfl, rfl⟩ := H
    go_enter Try.func83, Try.ntmps83
    go_wp2_with (first | ((with_reducible refine gate_dst (N := 2) rfl ?_); refine box_event ?hg (N := 2) ?hd (cs := #[.string (⟨#[]⟩ : ByteArray), .string (⟨#[]⟩ : ByteArray), .bool false]) (t := 33) ?hr ?_; (case hd => rfl); (case hg => rfl); (case hr => first | (go_simp; done) | (go_simp; rfl)); intro gb298 hg w42 hbox hb; replace HB := mS (below_step (mH137_6 HB.out (IsS167.ge HI0.out)) hb); have BK298 := mS (hbox); have GW298 := mS ((by rw [hg]; exact (keep_size (w := w) (g := g) (row := none) (mQ137_3 HK.out)) : w.heap.size ≤ gb298)); have GE298 := mS ((Nat.le_trans HW0.out (by rw [hg]; exact (keep_size (w := w) (g := g) (row := none) (mQ137_3 HK.out)) : w.heap.size ≤ gb298) : w0.heap.size ≤ gb298)); replace HK := mS (KeepBut.trans (mQ137_3 HK.out) (KeepBut.of_below hb g none) (.inl rfl)); have NB0_298 := mS ((by rw [hg]; exact Nat.ne_of_lt (IsS167.lt (show IsS167 w0 _ g s0_0 s0_1 s0_2 from mI137_0 HI0.out)) : g ≠ gb298)); have NB298_0 := mS ((by rw [hg]; exact Nat.ne_of_gt (IsS167.lt (show IsS167 w0 _ g s0_0 s0_1 s0_2 from mI137_0 HI0.out)) : gb298 ≠ g)); replace HI0 := mS (IsS167.below (mI137_0 HI0.out) hb); clear hb hbox hg) | ((with_reducible refine gate_callee (f := 136) rfl ?_); refine goesL_ (some 5) rfl rfl Try.func136 (by kernel_rfl) rfl #[.pointer (some ⟨g, 0, none⟩)] rfl mA ?_; (with_reducible refine (spec_l4Pair.calls g s0_0 s0_1 s0_2 t299 t300 t301 t302 t303 w0 _ ?side1 ?side2 A2.out).mono ?_); (case side1 => repeat (first | (with_reducible first | exact HI0.out | apply IsS167.alloc | apply IsS167.drewN | apply IsS167.drew | apply IsS167.set_1 | apply IsS167.set_2 | refine IsS167.far ?_ NB0_298.out _) | exact HI0.out)); (case side2 => repeat (first | (with_reducible first | exact HB.out | apply below_alloc | apply pw_below_drewN | apply below_drew1 | refine below_set ?_ (IsS167.ge HI0.out) | refine below_set ?_ GE298.out) | exact HB.out)); rintro e w43 ⟨rfl, hi, hb, hk⟩; refine ⟨_, rfl, ?_⟩; replace BK298 := mS (KeepBut.blk hk (g' := gb298) (o := .cells #[.string (⟨#[]⟩ : ByteArray), .string (⟨#[]⟩ : ByteArray), .bool false] 33 (0, 0)) (mK BK298.out) NB298_0.out (by simp)); replace HK := mS (KeepBut.trans (mQ137_4 HK.out GW298.out) hk (.inl rfl)); replace HB := mS (hb); replace HI0 := mS (hi); (try clear hb); (try clear hb2); (try clear hk); (try clear hi)) | ((with_reducible refine gate_dst (N := 3) rfl ?_); refine box_event ?hg (N := 3) ?hd (cs := #[.string (⟨#[]⟩ : ByteArray), .string (⟨#[]⟩ : ByteArray), .bool false]) (t := 33) ?hr ?_; (case hd => rfl); (case hg => rfl); (case hr => first | (go_simp; done) | (go_simp; rfl)); intro gb304 hg w44 hbox hb; replace HB := mS (below_step (mH137_7 HB.out (IsS167.ge HI0.out) GE298.out) hb); have BK304 := mS (hbox); have GW304 := mS ((by rw [hg]; exact (keep_size (w := w) (g := g) (row := none) (mQ137_4 HK.out GW298.out)) : w.heap.size ≤ gb304)); have GE304 := mS ((Nat.le_trans HW0.out (by rw [hg]; exact (keep_size (w := w) (g := g) (row := none) (mQ137_4 HK.out GW298.out)) : w.heap.size ≤ gb304) : w0.heap.size ≤ gb304)); replace HK := mS (KeepBut.trans (mQ137_4 HK.out GW298.out) (KeepBut.of_below hb g none) (.inl rfl)); have NB298_304 := mNl hg BK298.out; have NB304_298 := mNg hg BK298.out; replace BK298 := mB BK298 hb; have NB0_304 := mS ((by rw [hg]; exact Nat.ne_of_lt (IsS167.lt (show IsS167 w0 _ g s0_0 t302 t303 from mI137_1 HI0.out NB0_298.out)) : g ≠ gb304)); have NB304_0 := mS ((by rw [hg]; exact Nat.ne_of_gt (IsS167.lt (show IsS167 w0 _ g s0_0 t302 t303 from mI137_1 HI0.out NB0_298.out)) : gb304 ≠ g)); replace HI0 := mS (IsS167.below (mI137_1 HI0.out NB0_298.out) hb); clear hb hbox hg; have hnb45 := NB304_298.out; have hnc45 := NB298_304.out; have hnb46 := NB304_0.out; have hnc46 := NB0_304.out; have hcz47_0 := mZ BK304.out 0; have hcz47_1 := mZ BK304.out 1; have hcz47_2 := mZ BK304.out 2; have hfz47_0 := blk_frozen BK304.out 0; have hfz47_1 := blk_frozen BK304.out 1; have hfz47_2 := blk_frozen BK304.out 2) | ((with_reducible refine gate_callee (f := 82) rfl ?_); refine goesL_ (some 7) rfl rfl Try.func82 (by kernel_rfl) rfl #[.pointer (some ⟨g, 0, none⟩), .int .i64 14] rfl mA ?_; (with_reducible refine (spec_l1Below.calls g s0_0 t302 t303 14 t305 t306 t307 w0 _ ?side1 ?side2 A3.out).mono ?_); (case side1 => repeat (first | (with_reducible first | exact HI0.out | apply IsS167.alloc | apply IsS167.drewN | apply IsS167.drew | apply IsS167.set_1 | apply IsS167.set_2 | refine IsS167.far ?_ NB0_298.out _ | refine IsS167.far ?_ NB0_304.out _) | exact HI0.out)); (case side2 => repeat (first | (with_reducible first | exact HB.out | apply below_alloc | apply pw_below_drewN | apply below_drew1 | refine below_set ?_ (IsS167.ge HI0.out) | refine below_set ?_ GE298.out | refine below_set ?_ GE304.out) | exact HB.out)); rintro e w48 ⟨rfl, hi, hb, hk⟩; refine ⟨_, rfl, ?_⟩; replace BK298 := mS (KeepBut.blk hk (g' := gb298) (o := .cells #[.string (⟨#[]⟩ : ByteArray), .string (⟨#[]⟩ : ByteArray), .bool false] 33 (0, 0)) (by (with_reducible repeat (first | refine blk_drewN ?_ _ | refine blk_drew ?_ | refine blk_alloc ?_ _)); refine blk_far ?_ NB298_304.out _; (with_reducible repeat (first | refine blk_drewN ?_ _ | refine blk_drew ?_ | refine blk_alloc ?_ _)); refine blk_far ?_ NB298_304.out _; (with_reducible repeat (first | refine blk_drewN ?_ _ | refine blk_drew ?_ | refine blk_alloc ?_ _)); refine blk_far ?_ NB298_304.out _; (with_reducible repeat (first | refine blk_drewN ?_ _ | refine blk_drew ?_ | refine blk_alloc ?_ _)); exact BK298.out) NB298_0.out (by simp)); replace BK304 := mS (KeepBut.blk hk (g' := gb304) (o := .cells #[.string t299, .string t300, .bool t301] 33 (0, 0)) (by (with_reducible repeat (first | refine blk_drewN ?_ _ | refine blk_drew ?_ | refine blk_alloc ?_ _)); refine blk_put (cs := #[.string t299, .string t300, .bool false]) ?_ 2 _ rfl; (with_reducible repeat (first | refine blk_drewN ?_ _ | refine blk_drew ?_ | refine blk_alloc ?_ _)); refine blk_put (cs := #[.string t299, .string (⟨#[]⟩ : ByteArray), .bool false]) ?_ 1 _ rfl; (with_reducible repeat (first | refine blk_drewN ?_ _ | refine blk_drew ?_ | refine blk_alloc ?_ _)); refine blk_put (cs := #[.string (⟨#[]⟩ : ByteArray), .string (⟨#[]⟩ : ByteArray), .bool false]) ?_ 0 _ rfl; (with_reducible repeat (first | refine blk_drewN ?_ _ | refine blk_drew ?_ | refine blk_alloc ?_ _)); exact BK304.out) NB304_0.out (by simp)); replace HK := mS (KeepBut.trans (mQ137_5 HK.out GW298.out GW304.out) hk (.inl rfl)); replace HB := mS (hb); replace HI0 := mS (hi); (try clear hb); (try clear hb2); (try clear hk); (try clear hi); have hcz49_0 := mZ BK304.out 0; have hcz49_1 := mZ BK304.out 1; have hcz49_2 := mZ BK304.out 2; have hfz49_0 := blk_frozen BK304.out 0; have hfz49_1 := blk_frozen BK304.out 1; have hfz49_2 := blk_frozen BK304.out 2; have hnb50 := NB298_0.out; have hnc50 := NB0_298.out; have hcz51_0 := mZ BK298.out 0; have hcz51_1 := mZ BK298.out 1; have hcz51_2 := mZ BK298.out 2; have hfz51_0 := blk_frozen BK298.out 0; have hfz51_1 := blk_frozen BK298.out 1; have hfz51_2 := blk_frozen BK298.out 2))
    refine bodyPost_ret (results_cell_row rfl _ _ gb298 33 #[.string t299, .string t300, .bool t301] (0, 0) _ rfl (by (with_reducible repeat (first | refine blk_drewN ?_ _ | refine blk_drew ?_ | refine blk_alloc ?_ _)); refine blk_put (cs := #[.string t299, .string t300, .bool false]) ?_ 2 _ rfl; (with_reducible repeat (first | refine blk_drewN ?_ _ | refine blk_drew ?_ | refine blk_alloc ?_ _)); refine blk_put (cs := #[.string t299, .string (⟨#[]⟩ : ByteArray), .bool false]) ?_ 1 _ rfl; (with_reducible repeat (first | refine blk_drewN ?_ _ | refine blk_drew ?_ | refine blk_alloc ?_ _)); refine blk_put (cs := #[.string (⟨#[]⟩ : ByteArray), .string (⟨#[]⟩ : ByteArray), .bool false]) ?_ 0 _ rfl; (with_reducible repeat (first | refine blk_drewN ?_ _ | refine blk_drew ?_ | refine blk_alloc ?_ _)); exact BK298.out) Try.underlying33 rfl (by kernel_rfl)) rfl ?_
    exact ⟨by first | rfl | (simp [errW_none, errW_some] <;> rfl) | (simp [*, errW_none, errW_some] <;> rfl), mI137_2 HI0.out NB0_298.out NB0_304.out, mH137_8 HB.out (IsS167.ge HI0.out) GE298.out GE304.out, mQ137_5 HK.out GW298.out GW304.out⟩

/-! ### spec_l4ListAny: function 115 -/
def spec_l4ListAny.f (k : Nat) (s0_0 : List Int) (s0_1 : Int) (s0_2 : Int) (a1 : Int) : Option ((List (S33)) × Int × Int) := (spec_l4List.f k s0_0 s0_1 s0_2 a1).bind fun bt314 => ((spec_l1Once.f s0_0 bt314.2.1 bt314.2.2 12).bind fun bt319 => (if bt319.1 = true then ((spec_l4PairAny.f s0_0 bt319.2.1 bt319.2.2).bind fun bt322 => (if bt314.1.length < 3518437208883 then (some ((bt314.1 ++ [(⟨bt322.1, bt322.2.1, bt322.2.2.1⟩ : S33)]), bt322.2.2.2.1, bt322.2.2.2.2)) else (none))) else (some (bt314.1, bt319.2.1, bt319.2.2))))
theorem spec_l4ListAny.mono : ∀ a0 a1 a2 a3 k, LeO (spec_l4ListAny.f k a0 a1 a2 a3) (spec_l4ListAny.f (k + 1) a0 a1 a2 a3) := by
 intro a0 a1 a2 a3 k
 unfold spec_l4ListAny.f
 repeat' first
   | (with_reducible exact spec_l4List.mono _ _ _ _ _)
   | (with_reducible exact LeO.refl _)
   | (with_reducible exact LeO.none _)
   | (with_reducible refine LeO.ite ?_ ?_)
   | (with_reducible refine LeO.bind ?_ (fun _ => ?_))
   | exact spec_l4List.mono _ _ _ _ _
   | exact LeO.none _
   | refine LeO.ite ?_ ?_
   | refine LeO.bind ?_ (fun _ => ?_)
set_option maxHeartbeats 8000000 in
set_option maxRecDepth 100000 in
theorem spec_l4ListAny.calls (k : Nat) (g : Nat) (s0_0 : List Int) (s0_1 : Int) (s0_2 : Int) (a1 : Int) (r1 : List (S33)) (r2 : Int) (r3 : Int) (w0 w : World) (hI : IsS167 w0 w g s0_0 s0_1 s0_2) (hB : Below w0.heap.size w0 w) (h : spec_l4ListAny.f k s0_0 s0_1 s0_2 a1 = some (r1, r2, r3)) :
  Calls Try.prog 115 #[.pointer (some ⟨g, 0, none⟩), .int .i64 a1] w fun e w' => ∃ v0_ : Value, e = .returned (v0_) ∧ Kd.R k33 33 w' w.heap.size (fun _ => True) v0_ r1 ∧ IsS167 w0 w' g s0_0 r2 r3 ∧ Below w0.heap.size w0 w' ∧ KeepBut w w' g none := by
 have HI0 := mS hI
 have HK := mS (KeepBut.refl w g none)
 have HL := mS hB.size
 clear hI
 have HW0 := mS hB.size
 have HB := mS hB
 clear hB
 have H : ((spec_l4List.f k s0_0 s0_1 s0_2 a1).bind fun bt314 => ((spec_l1Once.f s0_0 bt314.2.1 bt314.2.2 12).bind fun bt319 => (if bt319.1 = true then ((spec_l4PairAny.f s0_0 bt319.2.1 bt319.2.2).bind fun bt322 => (if bt314.1.length < 3518437208883 then (some ((bt314.1 ++ [(⟨bt322.1, bt322.2.1, bt322.2.2.1⟩ : S33)]), bt322.2.2.2.1, bt322.2.2.2.2)) else (none))) else (some (bt314.1, bt319.2.1, bt319.2.2))))) = some (r1, r2, r3) := h
 clear h
 replace H := Option.bind_eq_some_iff.mp H
 obtain ⟨⟨t314, t317, t318⟩, A30, H⟩ := H
 replace H : ((spec_l1Once.f s0_0 t317 t318 12).bind fun bt319 => (if bt319.1 = true then ((spec_l4PairAny.f s0_0 bt319.2.1 bt319.2.2).bind fun bt322 => (if t314.length < 3518437208883 then (some ((t314 ++ [(⟨bt322.1, bt322.2.1, bt322.2.2.1⟩ : S33)]), bt322.2.2.2.1, bt322.2.2.2.2)) else (none))) else (some (t314, bt319.2.1, bt319.2.2)))) = some (r1, r2, r3) := H
 have A3 := mS A30
 clear A30
 replace H := Option.bind_eq_some_iff.mp H
 obtain ⟨⟨t319, t320, t321⟩, A40, H⟩ := H
 replace H : (if t319 = true then ((spec_l4PairAny.f s0_0 t320 t321).bind fun bt322 => (if t314.length < 3518437208883 then (some ((t314 ++ [(⟨bt322.1, bt322.2.1, bt322.2.2.1⟩ : S33)]), bt322.2.2.2.1, bt322.2.2.2.2)) else (none))) else (some (t314, t320, t321))) = some (r1, r2, r3) := H
 have A4 := mS A40
 clear A40
 by_cases c5 : t319 = true
 ·subst c5
  have H1 : ((spec_l4PairAny.f s0_0 t320 t321).bind fun bt322 => (if t314.length < 3518437208883 then (some ((t314 ++ [(⟨bt322.1, bt322.2.1, bt322.2.2.1⟩ : S33)]), bt322.2.2.2.1, bt322.2.2.2.2)) else (none))) = some (r1, r2, r3) := by rw [if_pos rfl] at H; exact H
  clear H
  have H := H1
  clear H1
  replace H := Option.bind_eq_some_iff.mp H
  obtain ⟨⟨t322, t323, t324, t325, t326⟩, A60, H⟩ := H
  replace H : (if t314.length < 3518437208883 then (some ((t314 ++ [(⟨t322, t323, t324⟩ : S33)]), t325, t326)) else (none)) = some (r1, r2, r3) := H
  have A6 := mS A60
  clear A60
  by_cases c7 : t314.length < 3518437208883
  ·rw [if_pos c7] at H
   have LMc7 := mS c7
   clear c7
   obtain ⟨y327, hy327⟩ : ∃ y_ : List (S33), y_ = (t314 ++ [(⟨t322, t323, t324⟩ : S33)]) := ⟨_, rfl⟩
   replace H : (some (y327, t325, t326)) = some (r1, r2, r3) := by first | (rw [hy327]; with_reducible exact H) | (have H2_ := (Option.bind_some _ _).symm.trans H; rw [hy327]; with_reducible exact H2_) | (have H2_ := (Option.bind_some _ _).symm.trans H; with_reducible exact H2_) | with_reducible exact H | (rw [hy327]; exact H) | exact H
   have Ny327 := mS hy327
   clear hy327
   simp only [Option.some.injEq, Prod.mk.injEq] at H
   obtain ⟨rfl, rfl, rfl⟩ := H
   go_enter Try.func115, Try.ntmps115
   go_wp2_with (first | ((with_reducible refine gate_callee (f := 114) rfl ?_); refine goesL_ (some 8) rfl rfl Try.func114 (by kernel_rfl) rfl #[.pointer (some ⟨g, 0, none⟩), .int .i64 a1] rfl mA ?_; (with_reducible refine (spec_l4List.calls k g s0_0 s0_1 s0_2 a1 t314 t317 t318 w0 _ ?side1 ?side2 A3.out).mono ?_); (case side1 => repeat (first | (with_reducible first | exact HI0.out | apply IsS167.alloc | apply IsS167.drewN | apply IsS167.drew | apply IsS167.set_1 | apply IsS167.set_2) | exact HI0.out)); (case side2 => repeat (first | (with_reducible first | exact HB.out | apply below_alloc | apply pw_below_drewN | apply below_drew1 | refine below_set ?_ (IsS167.ge HI0.out)) | exact HB.out)); rintro e w8 ⟨v315, rfl, ho0, hi, hb, hk⟩; refine ⟨_, rfl, ?_⟩; have HO316 := mS (Kd.R_lower ho0 (keep_size (w := w) (g := g) (row := none) (mQ137_3 HK.out))); replace HK := mS (KeepBut.trans (mQ137_3 HK.out) hk (.inl rfl)); replace HB := mS (hb); replace HI0 := mS (hi); (try clear hb); (try clear hb2); (try clear hk); (try clear hi); (try clear ho0)) | ((with_reducible refine gate_callee (f := 81) rfl ?_); refine goesL_ (some 10) rfl rfl Try.func81 (by kernel_rfl) rfl #[.pointer (some ⟨g, 0, none⟩), .int .i64 12] rfl mA ?_; (with_reducible refine (spec_l1Once.calls g s0_0 t317 t318 12 true t320 t321 w0 _ ?side1 ?side2 A4.out).mono ?_); (case side1 => repeat (first | (with_reducible first | exact HI0.out | apply IsS167.alloc | apply IsS167.drewN | apply IsS167.drew | apply IsS167.set_1 | apply IsS167.set_2) | exact HI0.out)); (case side2 => repeat (first | (with_reducible first | exact HB.out | apply below_alloc | apply pw_below_drewN | apply below_drew1 | refine below_set ?_ (IsS167.ge HI0.out)) | exact HB.out)); rintro e w9 ⟨rfl, hi, hb, hk⟩; refine ⟨_, rfl, ?_⟩; replace HO316 := mS (Kd.R_mono (Kd.R_keep (IsS167.apart (show IsS167 w0 _ g s0_0 t317 t318 from mI137_0 HI0.out) (mR HO316.out) (by decide)) hk (fun _ h => h.2)) (fun _ h => h.1)); replace HK := mS (KeepBut.trans (mQ137_3 HK.out) hk (.inl rfl)); replace HB := mS (hb); replace HI0 := mS (hi); (try clear hb); (try clear hb2); (try clear hk); (try clear hi)) | ((with_reducible refine gate_callee (f := 83) rfl ?_); refine goesL_ (some 13) rfl rfl Try.func83 (by kernel_rfl) rfl #[.pointer (some ⟨g, 0, none⟩)] rfl mA ?_; (with_reducible refine (spec_l4PairAny.calls g s0_0 t320 t321 t322 t323 t324 t325 t326 w0 _ ?side1 ?side2 A6.out).mono ?_); (case side1 => repeat (first | (with_reducible first | exact HI0.out | apply IsS167.alloc | apply IsS167.drewN | apply IsS167.drew | apply IsS167.set_1 | apply IsS167.set_2) | exact HI0.out)); (case side2 => repeat (first | (with_reducible first | exact HB.out | apply below_alloc | apply pw_below_drewN | apply below_drew1 | refine below_set ?_ (IsS167.ge HI0.out)) | exact HB.out)); rintro e w10 ⟨rfl, hi, hb, hk⟩; refine ⟨_, rfl, ?_⟩; replace HO316 := mS (Kd.R_mono (Kd.R_keep (IsS167.apart (show IsS167 w0 _ g s0_0 t320 t321 from mI137_0 HI0.out) (mR HO316.out) (by decide)) hk (fun _ h => h.2)) (fun _ h => h.1)); replace HK := mS (KeepBut.trans (mQ137_3 HK.out) hk (.inl rfl)); replace HB := mS (hb); replace HI0 := mS (hi); (try clear hb); (try clear hb2); (try clear hk); (try clear hi)) | ((with_reducible refine gate_builtin (b := .append) (xs := #[.tmp 11, .tmp 14]) rfl ?_); at_builtin; refine Kd.R_append k33 w.heap.size rfl (.tmp 11) (.tmp 14) 90 33 (.agg #[(.string ⟨#[]⟩), (.string ⟨#[]⟩), (.bool false)]) 40 rfl Try.underlying90 info33 rfl (by decide) (by omega) v315 t314 (⟨t322, t323, t324⟩ : S33) [.string t322, .string t323, .bool t324] (fun _ => True) (fun _ => False) rfl rfl ?aP (fun _ hk => hk.elim) ?aF ?aO (Below.refl _ _) ?aS ?aL ?_; (case aP => exact k33_mkM _ _ _ (⟨t322, t323, t324⟩ : S33)); (case aF => exact (fun _ _ => trivial)); (case aO => exact (mR HO316.out)); (case aS => exact (keep_size (w := w) (g := g) (row := none) (mQ137_3 HK.out))); (case aL => have := LMc7.out; omega); intro v328 w11 ho hb hg hat; rw [← Ny327.out] at ho; replace HB := mS (below_weaken (mH137_6 HB.out (IsS167.ge HI0.out)) HL.out hb); replace HI0 := mS (IsS167.grown (mI137_0 HI0.out) hg (IsS167.own_ne HI0.out HO316.out (by decide))); replace HK := mS (KeepBut.trans (mQ137_3 HK.out) (KeepBut.of_grown hg g) (Kd.R_base2 HO316.out)); have HO329 := mS (ho); clear HO316; clear ho hb hg hat))
   go_ret
   exact ⟨_, by first | rfl | (simp [errW_none, errW_some] <;> rfl) | (simp [*, errW_none, errW_some] <;> rfl), by (with_reducible repeat (first | apply Kd.R_alloc | apply Kd.R_drewN | apply Kd.R_drew)); exact HO329.out, mI137_0 HI0.out, mH137_6 HB.out (IsS167.ge HI0.out), mQ137_3 HK.out⟩
  ·rw [if_neg c7] at H
   exact absurd H (by simp)
 ·replace c5 := Bool.eq_false_iff.mpr c5
  subst c5
  have H1 : (some (t314, t320, t321)) = some (r1, r2, r3) := by rw [if_neg (show ¬ (false = true) by decide)] at H; exact H
  clear H
  have H := H1
  clear H1
  simp only [Option.some.injEq, Prod.mk.injEq] at H
  obtain ⟨rfl, rfl, rfl⟩ := H
  go_enter Try.func115, Try.ntmps115
  go_wp2_with (first | ((with_reducible refine gate_callee (f := 114) rfl ?_); refine goesL_ (some 8) rfl rfl Try.func114 (by kernel_rfl) rfl #[.pointer (some ⟨g, 0, none⟩), .int .i64 a1] rfl mA ?_; (with_reducible refine (spec_l4List.calls k g s0_0 s0_1 s0_2 a1 t314 t317 t318 w0 _ ?side1 ?side2 A3.out).mono ?_); (case side1 => repeat (first | (with_reducible first | exact HI0.out | apply IsS167.alloc | apply IsS167.drewN | apply IsS167.drew | apply IsS167.set_1 | apply IsS167.set_2) | exact HI0.out)); (case side2 => repeat (first | (with_reducible first | exact HB.out | apply below_alloc | apply pw_below_drewN | apply below_drew1 | refine below_set ?_ (IsS167.ge HI0.out)) | exact HB.out)); rintro e w12 ⟨v315, rfl, ho0, hi, hb, hk⟩; refine ⟨_, rfl, ?_⟩; have HO316 := mS (Kd.R_lower ho0 (keep_size (w := w) (g := g) (row := none) (mQ137_3 HK.out))); replace HK := mS (KeepBut.trans (mQ137_3 HK.out) hk (.inl rfl)); replace HB := mS (hb); replace HI0 := mS (hi); (try clear hb); (try clear hb2); (try clear hk); (try clear hi); (try clear ho0)) | ((with_reducible refine gate_callee (f := 81) rfl ?_); refine goesL_ (some 10) rfl rfl Try.func81 (by kernel_rfl) rfl #[.pointer (some ⟨g, 0, none⟩), .int .i64 12] rfl mA ?_; (with_reducible refine (spec_l1Once.calls g s0_0 t317 t318 12 false t320 t321 w0 _ ?side1 ?side2 A4.out).mono ?_); (case side1 => repeat (first | (with_reducible first | exact HI0.out | apply IsS167.alloc | apply IsS167.drewN | apply IsS167.drew | apply IsS167.set_1 | apply IsS167.set_2) | exact HI0.out)); (case side2 => repeat (first | (with_reducible first | exact HB.out | apply below_alloc | apply pw_below_drewN | apply below_drew1 | refine below_set ?_ (IsS167.ge HI0.out)) | exact HB.out)); rintro e w13 ⟨rfl, hi, hb, hk⟩; refine ⟨_, rfl, ?_⟩; replace HO316 := mS (Kd.R_mono (Kd.R_keep (IsS167.apart (show IsS167 w0 _ g s0_0 t317 t318 from mI137_0 HI0.out) (mR HO316.out) (by decide)) hk (fun _ h => h.2)) (fun _ h => h.1)); replace HK := mS (KeepBut.trans (mQ137_3 HK.out) hk (.inl rfl)); replace HB := mS (hb); replace HI0 := mS (hi); (try clear hb); (try clear hb2); (try clear hk); (try clear hi)))
  go_ret
  exact ⟨_, by first | rfl | (simp [errW_none, errW_some] <;> rfl) | (simp [*, errW_none, errW_some] <;> rfl), by (with_reducible repeat (first | apply Kd.R_alloc | apply Kd.R_drewN | apply Kd.R_drew)); exact HO316.out, mI137_0 HI0.out, mH137_6 HB.out (IsS167.ge HI0.out), mQ137_3 HK.out⟩

end Go.Proofs.Ytbepbgfkajnlbaa.MFnMerged
