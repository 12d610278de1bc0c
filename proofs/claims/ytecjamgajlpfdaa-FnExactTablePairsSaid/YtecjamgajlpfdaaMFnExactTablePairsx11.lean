-- Written by mp.py, this session's own printer (wip/mp.py).
import Derived.Test.YtecjamgajlpfdaaVMShort
import Derived.Test.YtecjamgajlpfdaaMFnExactTablePairsx1
import Derived.Test.YtecjamgajlpfdaaMFnExactTablePairsx2
import Derived.Test.YtecjamgajlpfdaaMFnExactTablePairsx3
import Derived.Test.YtecjamgajlpfdaaMFnExactTablePairsx4
import Derived.Test.YtecjamgajlpfdaaMFnExactTablePairsx5
import Derived.Test.YtecjamgajlpfdaaMFnExactTablePairsx6
import Derived.Test.YtecjamgajlpfdaaMFnExactTablePairsx7
import Derived.Test.YtecjamgajlpfdaaMFnExactTablePairsx8
import Derived.Test.YtecjamgajlpfdaaMFnExactTablePairsx0
import Derived.Test.YtecjamgajlpfdaaMFnExactTablePairsx9
import Derived.Test.YtecjamgajlpfdaaMFnExactTablePairsx10
namespace Go.Proofs.Ytecjamgajlpfdaa.MFnExactTablePairs
open Go.RowKit Go.Proofs.YtecjamgajlpfdaaW.PrintWords Go.Proofs.YtecjamgajlpfdaaW.PrintLast Go.Proofs.YtecjamgajlpfdaaW.PrintMore Go.Proofs.Ytecjamgajlpfdaa.MWords
theorem mI45_0 {p q : Prop} (x : q) (h : q → p := by intro h_; repeat (first | (with_reducible first | exact h_ | apply IsS114.alloc | apply IsS114.drewN | apply IsS114.drew | apply IsS114.set_1 | apply IsS114.set_2) | exact h_)) : p := h x
theorem mI45_1 {p q a0 : Prop} (x : q) (g0 : a0) (h : q → a0 → p := by intro h_ g0_; repeat (first | (with_reducible first | exact h_ | apply IsS114.alloc | apply IsS114.drewN | apply IsS114.drew | apply IsS114.set_1 | apply IsS114.set_2 | refine IsS114.far ?_ g0_ _) | exact h_)) : p := h x g0
theorem mQ45_2 {p q : Prop} (x : q) (h : q → p := by intro h_; repeat (first | (with_reducible first | exact h_ | apply KeepBut.set_ | apply keep_drewN | apply keep_drew | apply keep_alloc) | exact h_)) : p := h x
theorem mQ45_3 {p q a0 : Prop} (x : q) (g0 : a0) (h : q → a0 → p := by intro h_ g0_; repeat (first | (with_reducible first | exact h_ | apply KeepBut.set_ | apply keep_drewN | apply keep_drew | apply keep_alloc | refine keep_far ?_ g0_ _) | exact h_)) : p := h x g0
theorem mH45_4 {p q a0 : Prop} (x : q) (g0 : a0) (h : q → a0 → p := by intro h_ g0_; repeat (first | (with_reducible first | exact h_ | apply below_alloc | apply pw_below_drewN | apply below_drew1 | refine below_set ?_ g0_) | exact h_)) : p := h x g0
theorem mH45_5 {p q a0 a1 : Prop} (x : q) (g0 : a0) (g1 : a1) (h : q → a0 → a1 → p := by intro h_ g0_ g1_; repeat (first | (with_reducible first | exact h_ | apply below_alloc | apply pw_below_drewN | apply below_drew1 | refine below_set ?_ g0_ | refine below_set ?_ g1_) | exact h_)) : p := h x g0 g1
attribute [local go_sem] max2_int min2_int max_two min_two max_three min_three max_four min_four   -- for this text's walks alone
set_option linter.unusedVariables false
set_option linter.unusedSimpArgs false

/-! ### impl_indexOfR: the code behind the reader's making, as a function of its own -/
mutual
def impl_indexOfR.l0 : Nat → List Int → Int → List (S84) → Int → List Int → Int → Bool → Option ((List (S84)) × List Int × Bool × Int × Bool)
 | 0, _, _, _, _, _, _, _ => none
 | k + 1, x5, x9, x10, x11, x2000, x2001, x2002 => if x11 < x9 then (impl_indexOfR.j1 k x5 x9 x10 x11 (!x2002) x2000 x2001 x2002) else (impl_indexOfR.j1 k x5 x9 x10 x11 false x2000 x2001 x2002)
def impl_indexOfR.j1 : Nat → List Int → Int → List (S84) → Int → Bool → List Int → Int → Bool → Option ((List (S84)) × List Int × Bool × Int × Bool)
 | 0, _, _, _, _, _, _, _, _ => none
 | k + 1, x5, x9, x10, x11, x50, x2000, x2001, x2002 => if x50 = true then ((impl_reader_text.f k x2000 x2001 x2002).bind fun bt430 => ((impl_reader_num.f k x2000 bt430.2.1 bt430.2.2).bind fun bt433 => (if x10.length < 5864062014805 then (impl_indexOfR.l0 k x5 x9 (x10 ++ [(⟨bt430.1, bt433.1⟩ : S84)]) (wrap64 (x11 + 1)) x2000 bt433.2.1 bt433.2.2) else (none)))) else (if x2002 = true then (impl_indexOfR.j2 k x5 x10 true x2000 x2001 x2002) else (impl_indexOfR.j2 k x5 x10 (x2001 != (wrap64 ((x5.length : Int) - 8))) x2000 x2001 x2002))
def impl_indexOfR.j2 : Nat → List Int → List (S84) → Bool → List Int → Int → Bool → Option ((List (S84)) × List Int × Bool × Int × Bool)
 | 0, _, _, _, _, _, _ => none
 | k + 1, x5, x10, x75, x2000, x2001, x2002 => if x75 = true then (some (([] : List (S84)), ([] : List Int), false, x2001, x2002)) else (if 0 ≤ x2001 then (if x2001 ≤ (x5.length : Int) then (some (x10, ([] : List Int), true, x2001, x2002)) else (none)) else (none))
end
def impl_indexOfR.f (k : Nat) (l0 : List Int) (s1_0 : List Int) (s1_1 : Int) (s1_2 : Bool) : Option ((List (S84)) × List Int × Bool × Int × Bool) := (impl_reader_num.f k s1_0 s1_1 s1_2).bind fun bt427 => (impl_indexOfR.l0 k l0 bt427.1 ([] : List (S84)) 0 s1_0 bt427.2.1 bt427.2.2)
theorem impl_indexOfR.mono_l : ∀ k, (∀ y0 y1 y2 y3 y4 y5 y6, LeO (impl_indexOfR.l0 k y0 y1 y2 y3 y4 y5 y6) (impl_indexOfR.l0 (k + 1) y0 y1 y2 y3 y4 y5 y6)) ∧ (∀ y0 y1 y2 y3 y4 y5 y6 y7, LeO (impl_indexOfR.j1 k y0 y1 y2 y3 y4 y5 y6 y7) (impl_indexOfR.j1 (k + 1) y0 y1 y2 y3 y4 y5 y6 y7)) ∧ (∀ y0 y1 y2 y3 y4 y5, LeO (impl_indexOfR.j2 k y0 y1 y2 y3 y4 y5) (impl_indexOfR.j2 (k + 1) y0 y1 y2 y3 y4 y5))
 | 0 => ⟨fun _ _ _ _ _ _ _ r h => by simp [impl_indexOfR.l0] at h, fun _ _ _ _ _ _ _ _ r h => by simp [impl_indexOfR.j1] at h, fun _ _ _ _ _ _ r h => by simp [impl_indexOfR.j2] at h⟩
 | k + 1 => by
  obtain ⟨ih0, ih1, ih2⟩ := impl_indexOfR.mono_l k
  refine ⟨?_, ?_, ?_⟩
  ·intro y0 y1 y2 y3 y4 y5 y6
   unfold impl_indexOfR.l0
   repeat' first
   | (with_reducible exact ih0 _ _ _ _ _ _ _)
   | (with_reducible exact ih1 _ _ _ _ _ _ _ _)
   | (with_reducible exact ih2 _ _ _ _ _ _)
   | (with_reducible exact impl_reader_num.mono _ _ _ _)
   | (with_reducible exact impl_reader_text.mono _ _ _ _)
   | (with_reducible exact LeO.refl _)
   | (with_reducible exact LeO.none _)
   | (with_reducible refine LeO.ite ?_ ?_)
   | (with_reducible refine LeO.bind ?_ (fun _ => ?_))
   | exact ih0 _ _ _ _ _ _ _
   | exact ih1 _ _ _ _ _ _ _ _
   | exact ih2 _ _ _ _ _ _
   | exact impl_reader_num.mono _ _ _ _
   | exact impl_reader_text.mono _ _ _ _
   | exact LeO.none _
   | refine LeO.ite ?_ ?_
   | refine LeO.bind ?_ (fun _ => ?_)
  ·intro y0 y1 y2 y3 y4 y5 y6 y7
   unfold impl_indexOfR.j1
   repeat' first
   | (with_reducible exact ih0 _ _ _ _ _ _ _)
   | (with_reducible exact ih1 _ _ _ _ _ _ _ _)
   | (with_reducible exact ih2 _ _ _ _ _ _)
   | (with_reducible exact impl_reader_num.mono _ _ _ _)
   | (with_reducible exact impl_reader_text.mono _ _ _ _)
   | (with_reducible exact LeO.refl _)
   | (with_reducible exact LeO.none _)
   | (with_reducible refine LeO.ite ?_ ?_)
   | (with_reducible refine LeO.bind ?_ (fun _ => ?_))
   | exact ih0 _ _ _ _ _ _ _
   | exact ih1 _ _ _ _ _ _ _ _
   | exact ih2 _ _ _ _ _ _
   | exact impl_reader_num.mono _ _ _ _
   | exact impl_reader_text.mono _ _ _ _
   | exact LeO.none _
   | refine LeO.ite ?_ ?_
   | refine LeO.bind ?_ (fun _ => ?_)
  ·intro y0 y1 y2 y3 y4 y5
   unfold impl_indexOfR.j2
   repeat' first
   | (with_reducible exact ih0 _ _ _ _ _ _ _)
   | (with_reducible exact ih1 _ _ _ _ _ _ _ _)
   | (with_reducible exact ih2 _ _ _ _ _ _)
   | (with_reducible exact impl_reader_num.mono _ _ _ _)
   | (with_reducible exact impl_reader_text.mono _ _ _ _)
   | (with_reducible exact LeO.refl _)
   | (with_reducible exact LeO.none _)
   | (with_reducible refine LeO.ite ?_ ?_)
   | (with_reducible refine LeO.bind ?_ (fun _ => ?_))
   | exact ih0 _ _ _ _ _ _ _
   | exact ih1 _ _ _ _ _ _ _ _
   | exact ih2 _ _ _ _ _ _
   | exact impl_reader_num.mono _ _ _ _
   | exact impl_reader_text.mono _ _ _ _
   | exact LeO.none _
   | refine LeO.ite ?_ ?_
   | refine LeO.bind ?_ (fun _ => ?_)
theorem impl_indexOfR.mono : ∀ a0 a1 a2 a3 k, LeO (impl_indexOfR.f k a0 a1 a2 a3) (impl_indexOfR.f (k + 1) a0 a1 a2 a3) := by
 intro a0 a1 a2 a3 k
 obtain ⟨ih0, ih1, ih2⟩ := impl_indexOfR.mono_l k
 unfold impl_indexOfR.f
 repeat' first
   | (with_reducible exact ih0 _ _ _ _ _ _ _)
   | (with_reducible exact ih1 _ _ _ _ _ _ _ _)
   | (with_reducible exact ih2 _ _ _ _ _ _)
   | (with_reducible exact impl_reader_num.mono _ _ _ _)
   | (with_reducible exact impl_reader_text.mono _ _ _ _)
   | (with_reducible exact LeO.refl _)
   | (with_reducible exact LeO.none _)
   | (with_reducible refine LeO.ite ?_ ?_)
   | (with_reducible refine LeO.bind ?_ (fun _ => ?_))
   | exact ih0 _ _ _ _ _ _ _
   | exact ih1 _ _ _ _ _ _ _ _
   | exact ih2 _ _ _ _ _ _
   | exact impl_reader_num.mono _ _ _ _
   | exact impl_reader_text.mono _ _ _ _
   | exact LeO.none _
   | refine LeO.ite ?_ ?_
   | refine LeO.bind ?_ (fun _ => ?_)

/-! ### impl_fkI: what the rest answers -/
def impl_fkI.f (k : Nat) (l0 : List Int) : Option ((List (S84)) × List Int × Bool) := (impl_indexOfR.f k l0 l0 0 false).bind fun q => some (q.1, (if q.2.2.1 = true then l0.drop q.2.2.2.1.toNat else []), q.2.2.1)
theorem impl_fkI.mono : ∀ a0 k, LeO (impl_fkI.f k a0) (impl_fkI.f (k + 1) a0) := fun a0 k => by
 unfold impl_fkI.f
 exact LeO.bind (impl_indexOfR.mono _ _ _ _ _) (fun _ => LeO.refl _)

/-! ### impl_indexOf: function 45 -/
def impl_indexOf.j0 : Nat → List Int → Bool → Option ((List (S84)) × List Int × Bool)
 | 0, _, _ => none
 | k + 1, x5, x35 => if x35 = true then (some (([] : List (S84)), ([] : List Int), false)) else ((impl_fkI.f k x5).bind fun bt441 => (some (bt441.1, bt441.2.1, bt441.2.2)))
def impl_indexOf.f (k : Nat) (l0 : List Int) : Option ((List (S84)) × List Int × Bool) := if (l0.length : Int) < 4 then (some (([] : List (S84)), ([] : List Int), false)) else ((impl_wordAt.f l0 (wrap64 ((l0.length : Int) - 4))).bind fun t435 => ((impl_Unframe.f k l0 t435).bind fun bt436 => (if bt436.2.2 = true then (impl_indexOf.j0 k bt436.1 (bt436.2.1 != (wrap64 ((l0.length : Int) - 4)))) else (impl_indexOf.j0 k bt436.1 true))))
theorem impl_indexOf.mono_l : ∀ k, (∀ y0 y1, LeO (impl_indexOf.j0 k y0 y1) (impl_indexOf.j0 (k + 1) y0 y1))
 | 0 => fun _ _ r h => by simp [impl_indexOf.j0] at h
 | k + 1 => by
  have ih0 := impl_indexOf.mono_l k
  ·intro y0 y1
   unfold impl_indexOf.j0
   repeat' first
   | (with_reducible exact ih0 _ _)
   | (with_reducible exact impl_Unframe.mono _ _ _)
   | (with_reducible exact impl_fkI.mono _ _)
   | (with_reducible exact LeO.refl _)
   | (with_reducible exact LeO.none _)
   | (with_reducible refine LeO.ite ?_ ?_)
   | (with_reducible refine LeO.bind ?_ (fun _ => ?_))
   | exact ih0 _ _
   | exact impl_Unframe.mono _ _ _
   | exact impl_fkI.mono _ _
   | exact LeO.none _
   | refine LeO.ite ?_ ?_
   | refine LeO.bind ?_ (fun _ => ?_)
theorem impl_indexOf.mono : ∀ a0 k, LeO (impl_indexOf.f k a0) (impl_indexOf.f (k + 1) a0) := by
 intro a0 k
 have ih0 := impl_indexOf.mono_l k
 unfold impl_indexOf.f
 repeat' first
   | (with_reducible exact ih0 _ _)
   | (with_reducible exact impl_Unframe.mono _ _ _)
   | (with_reducible exact impl_fkI.mono _ _)
   | (with_reducible exact LeO.refl _)
   | (with_reducible exact LeO.none _)
   | (with_reducible refine LeO.ite ?_ ?_)
   | (with_reducible refine LeO.bind ?_ (fun _ => ?_))
   | exact ih0 _ _
   | exact impl_Unframe.mono _ _ _
   | exact impl_fkI.mono _ _
   | exact LeO.none _
   | refine LeO.ite ?_ ?_
   | refine LeO.bind ?_ (fun _ => ?_)
set_option maxHeartbeats 8000000 in
set_option maxRecDepth 100000 in
theorem impl_indexOf.calls (k : Nat) (A0 : Option Addr) (c0 : Nat) (l0 : List Int) (r1 : List (S84)) (r2 : List Int) (r3 : Bool) (w : World) (hr0 : Kd.C (Kd.int .u8) w A0 l0.length l0) (hc0 : l0.length ≤ c0) (h : impl_indexOf.f k l0 = some (r1, r2, r3)) :
  Calls Try.prog 45 #[.slice A0 l0.length c0] w fun e w' => ∃ v0_ v1_ : Value, e = .returned (.tuple #[v0_, v1_, .bool r3]) ∧ Kd.R k84 84 w' w.heap.size (fun k_ => (w.heap.size ≤ k_)) v0_ r1 ∧ Kd.V (Kd.int .u8) 5 w' w.heap.size (fun k_ => (w.heap.size ≤ k_) ∧ some k_ ≠ (v0_ : Value).ownBlock) v1_ r2 ∧ Below w.heap.size w w' := by
 have HR0 := mS hr0
 have HC0 := mS hc0
 clear hr0 hc0
 have HB := mS (Below.refl w.heap.size w)
 have H : (if (l0.length : Int) < 4 then (some (([] : List (S84)), ([] : List Int), false)) else ((impl_wordAt.f l0 (wrap64 ((l0.length : Int) - 4))).bind fun t435 => ((impl_Unframe.f k l0 t435).bind fun bt436 => (if bt436.2.2 = true then (impl_indexOf.j0 k bt436.1 (bt436.2.1 != (wrap64 ((l0.length : Int) - 4)))) else (impl_indexOf.j0 k bt436.1 true))))) = some (r1, r2, r3) := h
 clear h
 by_cases c2 : (l0.length : Int) < 4
 ·rw [if_pos c2] at H
  have c2b0 := decide_eq_true c2
  have c2b1 : decide (l0.length < 4) = true := decide_eq_true (by omega)
  clear c2
  simp only [Option.some.injEq, Prod.mk.injEq] at H
  obtain ⟨rfl, rfl, rfl⟩ := H
  go_enter Try.func45, Try.ntmps45
  go_wp2
  go_ret3
  exact ⟨_, _, mEw, by first | exact Kd.R_nil _ _ _ _ _ | exact Kd.N_nil _ _ _ _ _ | exact Kd.V_nil _ _ _ _ _ | exact Kd.Q_nil _ _ _ _ _ | exact Kd.S_nil _ _ _ _ _, (by first | exact Kd.V_nil _ _ _ _ _ | exact Kd.R_V (Kd.R_nil _ _ _ _ _)), (mH HB.out)⟩
 ·rw [if_neg c2] at H
  have c2b0 := decide_eq_false c2
  have c2b1 : decide (l0.length < 4) = false := decide_eq_false (by omega)
  clear c2
  replace H := Option.bind_eq_some_iff.mp H
  obtain ⟨t435, A30, H⟩ := H
  replace H : ((impl_Unframe.f k l0 t435).bind fun bt436 => (if bt436.2.2 = true then (impl_indexOf.j0 k bt436.1 (bt436.2.1 != (wrap64 ((l0.length : Int) - 4)))) else (impl_indexOf.j0 k bt436.1 true))) = some (r1, r2, r3) := H
  have A3 := mS A30
  clear A30
  replace H := Option.bind_eq_some_iff.mp H
  obtain ⟨⟨t436, t439, t440⟩, A40, H⟩ := H
  replace H : (if t440 = true then (impl_indexOf.j0 k t436 (t439 != (wrap64 ((l0.length : Int) - 4)))) else (impl_indexOf.j0 k t436 true)) = some (r1, r2, r3) := H
  have A4 := mS A40
  clear A40
  have HC5 := mS H
  clear H
  go_enter Try.func45, Try.ntmps45
  go_upto_region 4 with (first | ((with_reducible refine gate_callee (f := 40) rfl ?_); refine mGo 22 Try.func40 #[.slice A0 l0.length c0, .int .i64 (wrap64 ((l0.length : Int) - 4))] ?_; (with_reducible refine (impl_wordAt.calls _ _ l0 (wrap64 ((l0.length : Int) - 4)) t435 _ ?side1 ?side2 A3.out).mono ?_); (case side1 => exact mC HR0.out); (case side2 => exact HC0.out); rintro e w' ⟨rfl, ⟨nd, rfl⟩⟩; refine ⟨_, rfl, ?_⟩) | ((with_reducible refine gate_callee (f := 9) rfl ?_); refine mGo 23 Try.func9 #[.slice A0 l0.length c0, .int .i64 t435] ?_; (with_reducible refine (impl_Unframe.calls k _ _ l0 t435 t436 t439 t440 _ ?side1 ?side2 A4.out).mono ?_); (case side1 => exact mC HR0.out); (case side2 => exact HC0.out); rintro e w6 ⟨v437, rfl, ho0, hb⟩; refine ⟨_, rfl, ?_⟩; have HO438 := mS (Kd.V_lower (Kd.V_mono (ok' := fun k_ => (w.heap.size ≤ k_)) ho0 (fun k_ hk_ => (Nat.le_trans (below_size (mH HB.out)) hk_))) (below_size (mH HB.out))); replace HB := mS (below_step (mH HB.out) hb); (try clear hb); (try clear ho0)))
  (try simp only [Act.put, zA, zB, zC])
  go_cut [35] (fun v35 wc => ∃ (kq : Nat) (x35_4 : Bool), v35 = .bool x35_4 ∧ Aside0 (impl_indexOf.j0 kq t436 x35_4 = some (r1, r2, r3)) ∧ Aside0 (kq ≤ k) ∧ Aside0 (Kd.V (Kd.int .u8) 5 wc w.heap.size (fun k_ => (w.heap.size ≤ k_)) v437 t436) ∧ Aside0 (Below w.heap.size w wc))
  case first =>
   have H := HC5.out
   clear HC5
   by_cases c7 : t440 = true
   ·subst c7
    have H1 := H
    rw [if_pos rfl] at H1
    clear H
    have H := H1
    clear H1
    have H' := mS H
    clear H
    go_wp2
    go_meet
    case rel => exact ⟨_, ((t439 != (wrap64 ((l0.length : Int) - 4)))), mE, H', ⟨by first | omega | exact Nat.le_refl _⟩, ⟨mVd HO438.out⟩, ⟨(mH HB.out)⟩⟩
   ·replace c7 := Bool.eq_false_iff.mpr c7
    subst c7
    have H1 := H
    rw [if_neg (show ¬ (false = true) by decide)] at H1
    clear H
    have H := H1
    clear H1
    have H' := mS H
    clear H
    go_wp2
    go_meet
    case rel => exact ⟨_, (true), mE, H', ⟨by first | omega | exact Nat.le_refl _⟩, ⟨mVd HO438.out⟩, ⟨(mH HB.out)⟩⟩
  case rest =>
   clear HC5
   try clear c2
   try clear c2b0
   try clear c2b1
   try clear p2
   try clear c4
   try clear p6
   try clear c7
   obtain ⟨kq, x35_4, rfl, HA, HJ4, HO_5, HB⟩ := hcut
   cases kq with
   | zero => exact absurd HA.out (by simp [impl_indexOf.j0])
   | succ kj4 =>
    have H := HA.out
    clear HA
    simp only [impl_indexOf.j0] at H
    by_cases c8 : x35_4 = true
    ·subst c8
     have H1 := H
     rw [if_pos rfl] at H1
     clear H
     have H := H1
     clear H1
     simp only [Option.some.injEq, Prod.mk.injEq] at H
     obtain ⟨rfl, rfl, rfl⟩ := H
     go_wp2
     go_ret3
     exact ⟨_, _, mEw, by first | exact Kd.R_nil _ _ _ _ _ | exact Kd.N_nil _ _ _ _ _ | exact Kd.V_nil _ _ _ _ _ | exact Kd.Q_nil _ _ _ _ _ | exact Kd.S_nil _ _ _ _ _, (by first | exact Kd.V_nil _ _ _ _ _ | exact Kd.R_V (Kd.R_nil _ _ _ _ _)), (mH HB.out)⟩
    ·replace c8 := Bool.eq_false_iff.mpr c8
     subst c8
     have H1 := H
     rw [if_neg (show ¬ (false = true) by decide)] at H1
     clear H
     have H := H1
     clear H1
     replace H := Option.bind_eq_some_iff.mp H
     obtain ⟨⟨t441, t444, t447⟩, A90, H⟩ := H
     replace H : (some (t441, t444, t447)) = some (r1, r2, r3) := H
     have A9 := mS A90
     clear A90
     simp only [Option.some.injEq, Prod.mk.injEq] at H
     obtain ⟨rfl, rfl, rfl⟩ := H
     obtain ⟨Ao10, co10, eo10⟩ := Kd.V_slice HO_5.out
     subst eo10
     obtain ⟨kU, hkU_⟩ : ∃ x_, x_ = kj4 := ⟨_, rfl⟩
     subst hkU_
     obtain ⟨lU, hlU_⟩ : ∃ x_, x_ = t436 := ⟨_, rfl⟩
     subst hlU_
     obtain ⟨AU, hAU_⟩ : ∃ x_, x_ = Ao10 := ⟨_, rfl⟩
     subst hAU_
     obtain ⟨cU, hcU_⟩ : ∃ x_, x_ = co10 := ⟨_, rfl⟩
     subst hcU_
     obtain ⟨wU, hwU_⟩ : ∃ x_, x_ = wc := ⟨_, rfl⟩
     subst hwU_
     obtain ⟨qU, aU, bU⟩ := Option.bind_eq_some_iff.mp (show ((impl_indexOfR.f kU lU lU 0 false).bind fun q => some (q.1, (if q.2.2.1 = true then lU.drop q.2.2.2.1.toNat else []), q.2.2.1)) = some (t441, t444, t447) from A9.out)
     clear A9
     obtain ⟨rU1, rU2, rU3, rU4, rU5⟩ := qU
     simp only [Option.some.injEq, Prod.mk.injEq] at bU
     obtain ⟨bU1, bU2, bU3⟩ := bU
     subst bU1
     subst bU3
     go_upto_region 7 with (first | ((with_reducible refine gate_dst (N := 38) rfl ?_); refine mBx 38 #[.slice AU lU.length cU, .int .i64 0, .bool false] 114 ?_; intro gU hgU wB hbox hbU; have HgU := mS hgU; have HbxU := mS hbox; have HbU := mS hbU; clear hgU hbox hbU))
     (try simp only [Act.put, zA, zB, zC])
     have HBA := HB
     clear HB
     have HLE : Aside0 (w.heap.size ≤ wB.heap.size) := ⟨Nat.le_trans HBA.out.size HbU.out.size⟩
     have HVU := HO_5
     have hI : IsS114 wU wB gU lU 0 false := ⟨AU, cU, HbxU.out, by rw [HgU.out]; exact Nat.le_refl _, (Kd.V_reads' HVU.out).2.2, (Kd.V_reads' HVU.out).2.1⟩
     have hB : Below wU.heap.size wU wB := HbU.out
     have hr0 : Kd.C (Kd.int .u8) wB AU lU.length lU := Kd.C_below (Kd.V_reads' HVU.out).2.2 HbU.out
     have hc0 : lU.length ≤ cU := (Kd.V_reads' HVU.out).2.1
     have hf0 : ∀ ad, AU = some ad → 0 < lU.length → ad.block ≠ gU := Kd.far_C (0 : Int) (Kd.V_reads' HVU.out).2.2 (IsS114.ge hI)
     have h : impl_indexOfR.f kU lU lU 0 false = some (rU1, rU2, rU3, rU4, rU5) := aU
     clear aU HbxU HgU
     have hu84 := Try.underlying84
     have HR0 := mS hr0
     have HC0 := mS hc0
     clear hr0 hc0
     have HI1 := mS hI
     have HK := mS (KeepBut.refl wB gU none)
     have HL := mS hB.size
     clear hI
     have HW0 := mS hB.size
     have HB := mS hB
     clear hB
     have H : ((impl_reader_num.f kU lU (0 : Int) false).bind fun bt427 => (impl_indexOfR.l0 kU lU bt427.1 ([] : List (S84)) 0 lU bt427.2.1 bt427.2.2)) = some (rU1, rU2, rU3, rU4, rU5) := h
     clear h
     replace H := Option.bind_eq_some_iff.mp H
     obtain ⟨⟨t427, t428, t429⟩, A30, H⟩ := H
     replace H : (impl_indexOfR.l0 kU lU t427 ([] : List (S84)) 0 lU t428 t429) = some (rU1, rU2, rU3, rU4, rU5) := H
     have A3 := mS A30
     clear A30
     have H' := mS H
     clear H
     go_wp2_with (first | (go_at_call 81; (with_reducible refine (impl_reader_num.calls kU gU lU (0 : Int) false t427 t428 t429 wU _ ?side1 ?side2 A3.out).mono ?_); (case side1 => repeat (first | (with_reducible first | exact HI1.out | apply IsS114.alloc | apply IsS114.drewN | apply IsS114.drew | apply IsS114.set_1 | apply IsS114.set_2) | exact HI1.out)); (case side2 => repeat (first | (with_reducible first | exact HB.out | apply below_alloc | apply pw_below_drewN | apply below_drew1 | refine below_set ?_ (IsS114.ge HI1.out)) | exact HB.out)); rintro e w4 ⟨rfl, hi, hb, hk⟩; replace HK := mS (KeepBut.trans (mQ45_2 HK.out) hk (.inl rfl)); replace HB := mS (hb); replace HI1 := mS (hi); (try clear hb); (try clear hb2); (try clear hk); (try clear hi)))
     repeat (go_quiet (first | (go_at_call 81; (with_reducible refine (impl_reader_num.calls kU gU lU (0 : Int) false t427 t428 t429 wU _ ?side1 ?side2 A3.out).mono ?_); (case side1 => repeat (first | (with_reducible first | exact HI1.out | apply IsS114.alloc | apply IsS114.drewN | apply IsS114.drew | apply IsS114.set_1 | apply IsS114.set_2) | exact HI1.out)); (case side2 => repeat (first | (with_reducible first | exact HB.out | apply below_alloc | apply pw_below_drewN | apply below_drew1 | refine below_set ?_ (IsS114.ge HI1.out)) | exact HB.out)); rintro e w4 ⟨rfl, hi, hb, hk⟩; replace HK := mS (KeepBut.trans (mQ45_2 HK.out) hk (.inl rfl)); replace HB := mS (hb); replace HI1 := mS (hi); (try clear hb); (try clear hb2); (try clear hk); (try clear hi))); try go_wp2_with (first | (go_at_call 81; (with_reducible refine (impl_reader_num.calls kU gU lU (0 : Int) false t427 t428 t429 wU _ ?side1 ?side2 A3.out).mono ?_); (case side1 => repeat (first | (with_reducible first | exact HI1.out | apply IsS114.alloc | apply IsS114.drewN | apply IsS114.drew | apply IsS114.set_1 | apply IsS114.set_2) | exact HI1.out)); (case side2 => repeat (first | (with_reducible first | exact HB.out | apply below_alloc | apply pw_below_drewN | apply below_drew1 | refine below_set ?_ (IsS114.ge HI1.out)) | exact HB.out)); rintro e w4 ⟨rfl, hi, hb, hk⟩; replace HK := mS (KeepBut.trans (mQ45_2 HK.out) hk (.inl rfl)); replace HB := mS (hb); replace HI1 := mS (hi); (try clear hb); (try clear hb2); (try clear hk); (try clear hi))))
     go_loopg [10, 11] kU (fun kq v10 v11 w' => ∃ (x10_1 : List (S84)) (x11_1 : Int) (x2001_1 : Int) (x2002_1 : Bool), v11 = .int .i64 x11_1 ∧ Aside0 (impl_indexOfR.l0 kq lU t427 x10_1 x11_1 lU x2001_1 x2002_1 = some (rU1, rU2, rU3, rU4, rU5)) ∧ Aside0 (kq ≤ kU) ∧ Aside0 (Kd.R k84 84 w' wB.heap.size (fun _ => True) v10 x10_1) ∧ Aside0 (IsS114 wU w' gU lU x2001_1 x2002_1) ∧ Aside0 (KeepBut wB w' gU none) ∧ Aside0 (Below wU.heap.size wU w'))
     case atStart => exact ⟨(([] : List (S84))), (0), (t428), (t429), mE, H', ⟨Nat.le_refl _⟩, ⟨by first | exact Kd.R_nil _ _ _ _ _ | exact Kd.N_nil _ _ _ _ _ | exact Kd.V_nil _ _ _ _ _ | exact Kd.Q_nil _ _ _ _ _ | exact Kd.S_nil _ _ _ _ _⟩, ⟨mI45_0 HI1.out⟩, ⟨mQ45_2 HK.out⟩, ⟨mH45_4 HB.out (IsS114.ge HI1.out)⟩⟩
     case round =>
      clear H'
      try clear p2
      try clear c4
      obtain ⟨x10_1, x11_1, x2001_1, x2002_1, rfl, HA, HK1, HO_10, HI1, HK, HB⟩ := hrel
      cases gk with
      | zero => exact absurd HA.out (by simp [impl_indexOfR.l0])
      | succ k1 =>
       have H := HA.out
       clear HA
       simp only [impl_indexOfR.l0] at H
       have HC5 := mS H
       clear H
       go_upto_region 10 with (fail)
       repeat (go_quiet (fail); go_upto_region 10 with (fail))
       go_cut [50] (fun v50 wc => ∃ (kq : Nat) (x50_4 : Bool), v50 = .bool x50_4 ∧ Aside0 (impl_indexOfR.j1 kq lU t427 x10_1 x11_1 x50_4 lU x2001_1 x2002_1 = some (rU1, rU2, rU3, rU4, rU5)) ∧ Aside0 (kq ≤ k1) ∧ Aside0 (Kd.R k84 84 wc wB.heap.size (fun _ => True) u10 x10_1) ∧ Aside0 (IsS114 wU wc gU lU x2001_1 x2002_1) ∧ Aside0 (KeepBut wB wc gU none) ∧ Aside0 (Below wU.heap.size wU wc))
       case first =>
        have H := HC5.out
        clear HC5
        by_cases c6 : x11_1 < t427
        ·rw [if_pos c6] at H
         have c6b0 := decide_eq_true c6
         clear c6
         (first | rw [c6b0] | (simp only [i64_w, i32_w]; rw [c6b0]) | skip)
         have H' := mS H
         clear H
         obtain ⟨ASz7_0, cSz7_0, HGz7, hgz7, HSz7_0, HLz7_0⟩ := HI1.out
         have hcz7_0 := cellS114_0 HGz7
         have hcz7_1 := cellS114_1 HGz7
         have hcz7_2 := cellS114_2 HGz7
         have hfz7_1 := blk_frozen HGz7 1
         have hfz7_2 := blk_frozen HGz7 2
         clear HGz7 hgz7
         go_wp2
         repeat (go_quiet (fail); try go_wp2)
         go_meet
         case rel => exact ⟨_, (!x2002_1), mE, H', ⟨by have := HK1.out; first | omega | exact Nat.le_refl _⟩, ⟨mR HO_10.out⟩, ⟨mI45_0 HI1.out⟩, ⟨mQ45_2 HK.out⟩, ⟨mH45_4 HB.out (IsS114.ge HI1.out)⟩⟩
        ·rw [if_neg c6] at H
         have c6b0 := decide_eq_false c6
         clear c6
         (first | rw [c6b0] | (simp only [i64_w, i32_w]; rw [c6b0]) | skip)
         have H' := mS H
         clear H
         go_wp2
         repeat (go_quiet (fail); try go_wp2)
         go_meet
         case rel => exact ⟨_, (false), mE, H', ⟨by have := HK1.out; first | omega | exact Nat.le_refl _⟩, ⟨mR HO_10.out⟩, ⟨mI45_0 HI1.out⟩, ⟨mQ45_2 HK.out⟩, ⟨mH45_4 HB.out (IsS114.ge HI1.out)⟩⟩
       case rest =>
        clear HC5
        try clear p2
        try clear c4
        try clear c6
        try clear c6b0
        try clear hcz7_0
        try clear hcz7_1
        try clear hcz7_2
        try clear hfz7_1
        try clear hfz7_2
        try clear p2
        obtain ⟨kq, x50_4, rfl, HA, HJ4, HO_10, HI1, HK, HB⟩ := hcut
        cases kq with
        | zero => exact absurd HA.out (by simp [impl_indexOfR.j1])
        | succ kj4 =>
         have H := HA.out
         clear HA
         simp only [impl_indexOfR.j1] at H
         by_cases c8 : x50_4 = true
         ·subst c8
          have H1 := H
          rw [if_pos rfl] at H1
          clear H
          have H := H1
          clear H1
          replace H := Option.bind_eq_some_iff.mp H
          obtain ⟨⟨t430, t431, t432⟩, A90, H⟩ := H
          replace H : ((impl_reader_num.f kj4 lU t431 t432).bind fun bt433 => (if x10_1.length < 5864062014805 then (impl_indexOfR.l0 kj4 lU t427 (x10_1 ++ [(⟨t430, bt433.1⟩ : S84)]) (wrap64 (x11_1 + 1)) lU bt433.2.1 bt433.2.2) else (none))) = some (rU1, rU2, rU3, rU4, rU5) := H
          have A9 := mS A90
          clear A90
          replace H := Option.bind_eq_some_iff.mp H
          obtain ⟨⟨t433, t434, t435⟩, A100, H⟩ := H
          replace H : (if x10_1.length < 5864062014805 then (impl_indexOfR.l0 kj4 lU t427 (x10_1 ++ [(⟨t430, t433⟩ : S84)]) (wrap64 (x11_1 + 1)) lU t434 t435) else (none)) = some (rU1, rU2, rU3, rU4, rU5) := H
          have A10 := mS A100
          clear A100
          by_cases c11 : x10_1.length < 5864062014805
          ·rw [if_pos c11] at H
           have LMc11 := mS c11
           clear c11
           obtain ⟨y436, hy436⟩ : ∃ y_ : List (S84), y_ = (x10_1 ++ [(⟨t430, t433⟩ : S84)]) := ⟨_, rfl⟩
           replace H : (impl_indexOfR.l0 kj4 lU t427 y436 (wrap64 (x11_1 + 1)) lU t434 t435) = some (rU1, rU2, rU3, rU4, rU5) := by first | (rw [hy436]; with_reducible exact H) | (have H2_ := (Option.bind_some _ _).symm.trans H; rw [hy436]; with_reducible exact H2_) | (have H2_ := (Option.bind_some _ _).symm.trans H; with_reducible exact H2_) | with_reducible exact H | (rw [hy436]; exact H) | exact H
           have Ny436 := mS hy436
           clear hy436
           have H' := mS H
           clear H
           go_wp2_with (first | (go_at_call 82; (with_reducible refine (impl_reader_text.calls kj4 gU lU x2001_1 x2002_1 t430 t431 t432 wU _ ?side1 ?side2 A9.out).mono ?_); (case side1 => repeat (first | (with_reducible first | exact HI1.out | apply IsS114.alloc | apply IsS114.drewN | apply IsS114.drew | apply IsS114.set_1 | apply IsS114.set_2) | exact HI1.out)); (case side2 => repeat (first | (with_reducible first | exact HB.out | apply below_alloc | apply pw_below_drewN | apply below_drew1 | refine below_set ?_ (IsS114.ge HI1.out)) | exact HB.out)); rintro e w12 ⟨rfl, hi, hb, hk⟩; replace HO_10 := mS (Kd.R_mono (Kd.R_keep (IsS114.apart (show IsS114 wU _ gU lU x2001_1 x2002_1 from mI45_0 HI1.out) (mR HO_10.out) (by decide)) hk (fun _ h => h.2)) (fun _ h => h.1)); replace HK := mS (KeepBut.trans (mQ45_2 HK.out) hk (.inl rfl)); replace HB := mS (hb); replace HI1 := mS (hi); (try clear hb); (try clear hb2); (try clear hk); (try clear hi)) | (go_at_call 81; (with_reducible refine (impl_reader_num.calls kj4 gU lU t431 t432 t433 t434 t435 wU _ ?side1 ?side2 A10.out).mono ?_); (case side1 => repeat (first | (with_reducible first | exact HI1.out | apply IsS114.alloc | apply IsS114.drewN | apply IsS114.drew | apply IsS114.set_1 | apply IsS114.set_2) | exact HI1.out)); (case side2 => repeat (first | (with_reducible first | exact HB.out | apply below_alloc | apply pw_below_drewN | apply below_drew1 | refine below_set ?_ (IsS114.ge HI1.out)) | exact HB.out)); rintro e w13 ⟨rfl, hi, hb, hk⟩; replace HO_10 := mS (Kd.R_mono (Kd.R_keep (IsS114.apart (show IsS114 wU _ gU lU t431 t432 from mI45_0 HI1.out) (mR HO_10.out) (by decide)) hk (fun _ h => h.2)) (fun _ h => h.1)); replace HK := mS (KeepBut.trans (mQ45_2 HK.out) hk (.inl rfl)); replace HB := mS (hb); replace HI1 := mS (hi); (try clear hb); (try clear hb2); (try clear hk); (try clear hi)) | ((with_reducible refine gate_builtin (b := .append) (xs := #[.tmp 55, .tmp 60]) rfl ?_); (try (refine gate_guard (by rfl) ?_; dsimp only)); at_builtin; refine Kd.R_append k84 wB.heap.size rfl (.tmp 55) (.tmp 60) 80 84 (.agg #[(.string ⟨#[]⟩), (.int .i64 0)]) 24 rfl Try.underlying80 info84 rfl (by decide) (by omega) u10 x10_1 (⟨t430, t433⟩ : S84) [.string t430, .int .i64 t433] (fun _ => True) (fun _ => False) rfl rfl ?aP (fun _ hk => hk.elim) ?aF ?aO (Below.refl _ _) ?aS ?aL ?_; (case aP => exact k84_mkM _ _ _ (⟨t430, t433⟩ : S84)); (case aF => exact (fun _ _ => trivial)); (case aO => exact (mR HO_10.out)); (case aS => exact (keep_size (w := wB) (g := gU) (row := none) (mQ45_2 HK.out))); (case aL => have := LMc11.out; omega); intro v437 w14 ho hb hg hat; rw [← Ny436.out] at ho; replace HB := mS (below_weaken (mH45_4 HB.out (IsS114.ge HI1.out)) HL.out hb); replace HI1 := mS (IsS114.grown (mI45_0 HI1.out) hg (IsS114.own_ne HI1.out HO_10.out (by decide))); replace HK := mS (KeepBut.trans (mQ45_2 HK.out) (KeepBut.of_grown hg gU) (Kd.R_base2 HO_10.out)); have HO438 := mS (ho); clear HO_10; clear ho hb hg hat))
           repeat (go_quiet (first | (go_at_call 82; (with_reducible refine (impl_reader_text.calls kj4 gU lU x2001_1 x2002_1 t430 t431 t432 wU _ ?side1 ?side2 A9.out).mono ?_); (case side1 => repeat (first | (with_reducible first | exact HI1.out | apply IsS114.alloc | apply IsS114.drewN | apply IsS114.drew | apply IsS114.set_1 | apply IsS114.set_2) | exact HI1.out)); (case side2 => repeat (first | (with_reducible first | exact HB.out | apply below_alloc | apply pw_below_drewN | apply below_drew1 | refine below_set ?_ (IsS114.ge HI1.out)) | exact HB.out)); rintro e w12 ⟨rfl, hi, hb, hk⟩; replace HO_10 := mS (Kd.R_mono (Kd.R_keep (IsS114.apart (show IsS114 wU _ gU lU x2001_1 x2002_1 from mI45_0 HI1.out) (mR HO_10.out) (by decide)) hk (fun _ h => h.2)) (fun _ h => h.1)); replace HK := mS (KeepBut.trans (mQ45_2 HK.out) hk (.inl rfl)); replace HB := mS (hb); replace HI1 := mS (hi); (try clear hb); (try clear hb2); (try clear hk); (try clear hi)) | (go_at_call 81; (with_reducible refine (impl_reader_num.calls kj4 gU lU t431 t432 t433 t434 t435 wU _ ?side1 ?side2 A10.out).mono ?_); (case side1 => repeat (first | (with_reducible first | exact HI1.out | apply IsS114.alloc | apply IsS114.drewN | apply IsS114.drew | apply IsS114.set_1 | apply IsS114.set_2) | exact HI1.out)); (case side2 => repeat (first | (with_reducible first | exact HB.out | apply below_alloc | apply pw_below_drewN | apply below_drew1 | refine below_set ?_ (IsS114.ge HI1.out)) | exact HB.out)); rintro e w13 ⟨rfl, hi, hb, hk⟩; replace HO_10 := mS (Kd.R_mono (Kd.R_keep (IsS114.apart (show IsS114 wU _ gU lU t431 t432 from mI45_0 HI1.out) (mR HO_10.out) (by decide)) hk (fun _ h => h.2)) (fun _ h => h.1)); replace HK := mS (KeepBut.trans (mQ45_2 HK.out) hk (.inl rfl)); replace HB := mS (hb); replace HI1 := mS (hi); (try clear hb); (try clear hb2); (try clear hk); (try clear hi)) | ((with_reducible refine gate_builtin (b := .append) (xs := #[.tmp 55, .tmp 60]) rfl ?_); (try (refine gate_guard (by rfl) ?_; dsimp only)); at_builtin; refine Kd.R_append k84 wB.heap.size rfl (.tmp 55) (.tmp 60) 80 84 (.agg #[(.string ⟨#[]⟩), (.int .i64 0)]) 24 rfl Try.underlying80 info84 rfl (by decide) (by omega) u10 x10_1 (⟨t430, t433⟩ : S84) [.string t430, .int .i64 t433] (fun _ => True) (fun _ => False) rfl rfl ?aP (fun _ hk => hk.elim) ?aF ?aO (Below.refl _ _) ?aS ?aL ?_; (case aP => exact k84_mkM _ _ _ (⟨t430, t433⟩ : S84)); (case aF => exact (fun _ _ => trivial)); (case aO => exact (mR HO_10.out)); (case aS => exact (keep_size (w := wB) (g := gU) (row := none) (mQ45_2 HK.out))); (case aL => have := LMc11.out; omega); intro v437 w14 ho hb hg hat; rw [← Ny436.out] at ho; replace HB := mS (below_weaken (mH45_4 HB.out (IsS114.ge HI1.out)) HL.out hb); replace HI1 := mS (IsS114.grown (mI45_0 HI1.out) hg (IsS114.own_ne HI1.out HO_10.out (by decide))); replace HK := mS (KeepBut.trans (mQ45_2 HK.out) (KeepBut.of_grown hg gU) (Kd.R_base2 HO_10.out)); have HO438 := mS (ho); clear HO_10; clear ho hb hg hat)); try go_wp2_with (first | (go_at_call 82; (with_reducible refine (impl_reader_text.calls kj4 gU lU x2001_1 x2002_1 t430 t431 t432 wU _ ?side1 ?side2 A9.out).mono ?_); (case side1 => repeat (first | (with_reducible first | exact HI1.out | apply IsS114.alloc | apply IsS114.drewN | apply IsS114.drew | apply IsS114.set_1 | apply IsS114.set_2) | exact HI1.out)); (case side2 => repeat (first | (with_reducible first | exact HB.out | apply below_alloc | apply pw_below_drewN | apply below_drew1 | refine below_set ?_ (IsS114.ge HI1.out)) | exact HB.out)); rintro e w12 ⟨rfl, hi, hb, hk⟩; replace HO_10 := mS (Kd.R_mono (Kd.R_keep (IsS114.apart (show IsS114 wU _ gU lU x2001_1 x2002_1 from mI45_0 HI1.out) (mR HO_10.out) (by decide)) hk (fun _ h => h.2)) (fun _ h => h.1)); replace HK := mS (KeepBut.trans (mQ45_2 HK.out) hk (.inl rfl)); replace HB := mS (hb); replace HI1 := mS (hi); (try clear hb); (try clear hb2); (try clear hk); (try clear hi)) | (go_at_call 81; (with_reducible refine (impl_reader_num.calls kj4 gU lU t431 t432 t433 t434 t435 wU _ ?side1 ?side2 A10.out).mono ?_); (case side1 => repeat (first | (with_reducible first | exact HI1.out | apply IsS114.alloc | apply IsS114.drewN | apply IsS114.drew | apply IsS114.set_1 | apply IsS114.set_2) | exact HI1.out)); (case side2 => repeat (first | (with_reducible first | exact HB.out | apply below_alloc | apply pw_below_drewN | apply below_drew1 | refine below_set ?_ (IsS114.ge HI1.out)) | exact HB.out)); rintro e w13 ⟨rfl, hi, hb, hk⟩; replace HO_10 := mS (Kd.R_mono (Kd.R_keep (IsS114.apart (show IsS114 wU _ gU lU t431 t432 from mI45_0 HI1.out) (mR HO_10.out) (by decide)) hk (fun _ h => h.2)) (fun _ h => h.1)); replace HK := mS (KeepBut.trans (mQ45_2 HK.out) hk (.inl rfl)); replace HB := mS (hb); replace HI1 := mS (hi); (try clear hb); (try clear hb2); (try clear hk); (try clear hi)) | ((with_reducible refine gate_builtin (b := .append) (xs := #[.tmp 55, .tmp 60]) rfl ?_); (try (refine gate_guard (by rfl) ?_; dsimp only)); at_builtin; refine Kd.R_append k84 wB.heap.size rfl (.tmp 55) (.tmp 60) 80 84 (.agg #[(.string ⟨#[]⟩), (.int .i64 0)]) 24 rfl Try.underlying80 info84 rfl (by decide) (by omega) u10 x10_1 (⟨t430, t433⟩ : S84) [.string t430, .int .i64 t433] (fun _ => True) (fun _ => False) rfl rfl ?aP (fun _ hk => hk.elim) ?aF ?aO (Below.refl _ _) ?aS ?aL ?_; (case aP => exact k84_mkM _ _ _ (⟨t430, t433⟩ : S84)); (case aF => exact (fun _ _ => trivial)); (case aO => exact (mR HO_10.out)); (case aS => exact (keep_size (w := wB) (g := gU) (row := none) (mQ45_2 HK.out))); (case aL => have := LMc11.out; omega); intro v437 w14 ho hb hg hat; rw [← Ny436.out] at ho; replace HB := mS (below_weaken (mH45_4 HB.out (IsS114.ge HI1.out)) HL.out hb); replace HI1 := mS (IsS114.grown (mI45_0 HI1.out) hg (IsS114.own_ne HI1.out HO_10.out (by decide))); replace HK := mS (KeepBut.trans (mQ45_2 HK.out) (KeepBut.of_grown hg gU) (Kd.R_base2 HO_10.out)); have HO438 := mS (ho); clear HO_10; clear ho hb hg hat)))
           go_roundg kj4
           case measure => have := HK1.out; have := HJ4.out; omega
           case rel => exact ⟨(y436), (wrap64 (x11_1 + 1)), (t434), (t435), mE, H', ⟨by have := HK1.out; have := HJ4.out; omega⟩, ⟨mR HO438.out⟩, ⟨mI45_0 HI1.out⟩, ⟨mQ45_2 HK.out⟩, ⟨mH45_4 HB.out (IsS114.ge HI1.out)⟩⟩
          ·rw [if_neg c11] at H
           exact absurd H (by simp)
         ·replace c8 := Bool.eq_false_iff.mpr c8
          subst c8
          have H1 := H
          rw [if_neg (show ¬ (false = true) by decide)] at H1
          clear H
          have H := H1
          clear H1
          have HC15 := mS H
          clear H
          go_upto_region 14 with (fail)
          repeat (go_quiet (fail); go_upto_region 14 with (fail))
          go_cut [75] (fun v75 wc => ∃ (kq : Nat) (x75_14 : Bool), v75 = .bool x75_14 ∧ Aside0 (impl_indexOfR.j2 kq lU x10_1 x75_14 lU x2001_1 x2002_1 = some (rU1, rU2, rU3, rU4, rU5)) ∧ Aside0 (kq ≤ kj4) ∧ Aside0 (Kd.R k84 84 wc wB.heap.size (fun _ => True) u10 x10_1) ∧ Aside0 (IsS114 wU wc gU lU x2001_1 x2002_1) ∧ Aside0 (KeepBut wB wc gU none) ∧ Aside0 (Below wU.heap.size wU wc))
          case first =>
           have H := HC15.out
           clear HC15
           by_cases c16 : x2002_1 = true
           ·subst c16
            have H1 := H
            rw [if_pos rfl] at H1
            clear H
            have H := H1
            clear H1
            have H' := mS H
            clear H
            obtain ⟨ASz17_0, cSz17_0, HGz17, hgz17, HSz17_0, HLz17_0⟩ := HI1.out
            have hcz17_0 := cellS114_0 HGz17
            have hcz17_1 := cellS114_1 HGz17
            have hcz17_2 := cellS114_2 HGz17
            have hfz17_1 := blk_frozen HGz17 1
            have hfz17_2 := blk_frozen HGz17 2
            clear HGz17 hgz17
            go_wp2
            repeat (go_quiet (fail); try go_wp2)
            go_meet
            case rel => exact ⟨_, (true), mE, H', ⟨by have := HK1.out; have := HJ4.out; first | omega | exact Nat.le_refl _⟩, ⟨mR HO_10.out⟩, ⟨mI45_0 HI1.out⟩, ⟨mQ45_2 HK.out⟩, ⟨mH45_4 HB.out (IsS114.ge HI1.out)⟩⟩
           ·replace c16 := Bool.eq_false_iff.mpr c16
            subst c16
            have H1 := H
            rw [if_neg (show ¬ (false = true) by decide)] at H1
            clear H
            have H := H1
            clear H1
            have H' := mS H
            clear H
            obtain ⟨ASz18_0, cSz18_0, HGz18, hgz18, HSz18_0, HLz18_0⟩ := HI1.out
            have hcz18_0 := cellS114_0 HGz18
            have hcz18_1 := cellS114_1 HGz18
            have hcz18_2 := cellS114_2 HGz18
            have hfz18_1 := blk_frozen HGz18 1
            have hfz18_2 := blk_frozen HGz18 2
            clear HGz18 hgz18
            go_wp2
            repeat (go_quiet (fail); try go_wp2)
            go_meet
            case rel => exact ⟨_, ((x2001_1 != (wrap64 ((lU.length : Int) - 8)))), mE, H', ⟨by have := HK1.out; have := HJ4.out; first | omega | exact Nat.le_refl _⟩, ⟨mR HO_10.out⟩, ⟨mI45_0 HI1.out⟩, ⟨mQ45_2 HK.out⟩, ⟨mH45_4 HB.out (IsS114.ge HI1.out)⟩⟩
          case rest =>
           clear HC15
           try clear c1
           try clear p2
           try clear c4
           try clear c6
           try clear c6b0
           try clear p6
           try clear c8
           try clear c11
           try clear c16
           try clear hcz17_0
           try clear hcz17_1
           try clear hcz17_2
           try clear hcz18_0
           try clear hcz18_1
           try clear hcz18_2
           try clear hcz7_0
           try clear hcz7_1
           try clear hcz7_2
           try clear hfz17_1
           try clear hfz17_2
           try clear hfz18_1
           try clear hfz18_2
           try clear hfz7_1
           try clear hfz7_2
           try clear p2
           obtain ⟨kq, x75_14, rfl, HA, HJ14, HO_10, HI1, HK, HB⟩ := hcut
           cases kq with
           | zero => exact absurd HA.out (by simp [impl_indexOfR.j2])
           | succ kj14 =>
            have H := HA.out
            clear HA
            simp only [impl_indexOfR.j2] at H
            by_cases c19 : x75_14 = true
            ·subst c19
             have H1 := H
             rw [if_pos rfl] at H1
             clear H
             have H := H1
             clear H1
             simp only [Option.some.injEq, Prod.mk.injEq] at H
             obtain ⟨rfl, rfl, rfl, rfl, rfl⟩ := H
             go_wp2
             repeat (go_quiet (fail); try go_wp2)
             go_ret3
             exact ⟨_, _, mEw, Kd.R_mono (Kd.R_lower (Kd.R_newM (M := fun k_ => w.heap.size ≤ k_) (ok := fun _ => True) (by first | exact Kd.R_nil _ _ _ _ _ | exact Kd.N_nil _ _ _ _ _ | exact Kd.V_nil _ _ _ _ _ | exact Kd.Q_nil _ _ _ _ _ | exact Kd.S_nil _ _ _ _ _) HLE.out (fun _ h_ => h_)) HLE.out) (fun _ hk => hk.1), (by have z_ := bU2; simp only [Bool.false_eq_true, if_false] at z_; rw [← z_]; exact Kd.V_nil _ _ _ _ _), below_step HBA.out (mH45_4 HB.out (IsS114.ge HI1.out))⟩
            ·replace c19 := Bool.eq_false_iff.mpr c19
             subst c19
             have H1 := H
             rw [if_neg (show ¬ (false = true) by decide)] at H1
             clear H
             have H := H1
             clear H1
             by_cases c20 : 0 ≤ x2001_1
             ·rw [if_pos c20] at H
              have c20b0 := eq_true c20
              have c20b1 := decide_eq_true c20
              clear c20
              by_cases c21 : x2001_1 ≤ (lU.length : Int)
              ·rw [if_pos c21] at H
               have c21b0 := eq_true c21
               have c21b1 := decide_eq_true c21
               clear c21
               simp only [Option.some.injEq, Prod.mk.injEq] at H
               obtain ⟨rfl, rfl, rfl, rfl, rfl⟩ := H
               obtain ⟨ASz22_0, cSz22_0, HGz22, hgz22, HSz22_0, HLz22_0⟩ := HI1.out
               have hcz22_0 := cellS114_0 HGz22
               have hcz22_1 := cellS114_1 HGz22
               have hcz22_2 := cellS114_2 HGz22
               have hfz22_1 := blk_frozen HGz22 1
               have hfz22_2 := blk_frozen HGz22 2
               clear HGz22 hgz22
               obtain ⟨i023, hi023, _, hsz23, _⟩ := info_parts info5
               obtain ⟨A23, hcut23, hA23, hC23⟩ := print_drop_of (P := Try.prog) (Value.int .u8) 0 22 5 .i64 Try.underlying22 hi023 hsz23 AU cU lU x2001_1 (mD) (mD) HC0.out
               have HR439 := mS (Kd.C_of_reads (h1 := fun _ => rfl) (hA23 _ (Kd.reads_of_C HR0.out)))
               have HC439 := mS hC23
               have hf439 : ∀ ad : Addr, A23 = some ad → 0 < (lU.drop (x2001_1 : Int).toNat).length → ad.block ≠ gU := fun ad he h_ => by cases he; exact Kd.foot_ne (fun W_ hk_ => Kd.C_of_reads (h1 := fun _ => rfl) (hA23 _ (Kd.reads_of_C (Kd.C_foot_ne (fun h => h) HR0.out hf0 W_ hk_)))) h_ (by decide)
               have HVD := mS (show Kd.V (Kd.int .u8) 5 wU w.heap.size (fun k_ => (w.heap.size ≤ k_)) (.slice A23 (lU.length - (x2001_1 : Int).toNat) (cU - (x2001_1 : Int).toNat)) (lU.drop (x2001_1 : Int).toNat) from by rw [← List.length_drop]; exact ⟨A23, _, rfl, hC23, Kd.F_imp (Kd.V_at HVU.out).2.2 (fun W_ hC_ => Kd.C_of_reads (h1 := fun _ => rfl) (hA23 W_ (Kd.reads_of_C hC_)))⟩)
               clear hA23 hC23 hi023 hsz23
               go_wp2
               repeat (go_quiet (fail); try go_wp2)
               go_ret3
               exact ⟨_, _, mEw, Kd.R_mono (Kd.R_lower (Kd.R_newM (M := fun k_ => w.heap.size ≤ k_) (ok := fun _ => True) (mR HO_10.out) HLE.out (fun _ h_ => h_)) HLE.out) (fun _ hk => hk.1), (by have z_ := bU2; simp only [if_true] at z_; rw [← z_]; exact Kd.V_elder' HVD.out (fun k_ e_ => Nat.le_trans HbU.out.size (Kd.R_base HO_10.out k_ e_)) (mH45_4 HB.out (IsS114.ge HI1.out))), below_step HBA.out (mH45_4 HB.out (IsS114.ge HI1.out))⟩
              ·rw [if_neg c21] at H
               exact absurd H (by simp)
             ·rw [if_neg c20] at H
              exact absurd H (by simp)

/-! ### impl_reader_one: function 98 -/
def impl_reader_one.j0 : Nat → Bool → List Int → Int → Bool → Option (Int × Int × Bool)
 | 0, _, _, _, _ => none
 | k + 1, x18, x1000, x1001, x1002 => if x18 = true then (some (0, x1001, true)) else (if 0 ≤ (wrap64 ((wrap64 (x1001 + 1)) - 1)) then (if (wrap64 ((wrap64 (x1001 + 1)) - 1)) < (x1000.length : Int) then (some (wrap64 (rd x1000 (wrap64 ((wrap64 (x1001 + 1)) - 1))), wrap64 (x1001 + 1), x1002)) else (none)) else (none))
def impl_reader_one.f (k : Nat) (s0_0 : List Int) (s0_1 : Int) (s0_2 : Bool) : Option (Int × Int × Bool) := if s0_2 = true then (impl_reader_one.j0 k true s0_0 s0_1 s0_2) else (impl_reader_one.j0 k (decide (s0_1 ≥ (s0_0.length : Int))) s0_0 s0_1 s0_2)
theorem impl_reader_one.mono_l : ∀ k, (∀ y0 y1 y2 y3, LeO (impl_reader_one.j0 k y0 y1 y2 y3) (impl_reader_one.j0 (k + 1) y0 y1 y2 y3))
 | 0 => fun _ _ _ _ r h => by simp [impl_reader_one.j0] at h
 | k + 1 => by
  have ih0 := impl_reader_one.mono_l k
  ·intro y0 y1 y2 y3
   unfold impl_reader_one.j0
   repeat' first
   | (with_reducible exact ih0 _ _ _ _)
   | (with_reducible exact LeO.refl _)
   | (with_reducible exact LeO.none _)
   | (with_reducible refine LeO.ite ?_ ?_)
   | (with_reducible refine LeO.bind ?_ (fun _ => ?_))
   | exact ih0 _ _ _ _
   | exact LeO.none _
   | refine LeO.ite ?_ ?_
   | refine LeO.bind ?_ (fun _ => ?_)
theorem impl_reader_one.mono : ∀ a0 a1 a2 k, LeO (impl_reader_one.f k a0 a1 a2) (impl_reader_one.f (k + 1) a0 a1 a2) := by
 intro a0 a1 a2 k
 have ih0 := impl_reader_one.mono_l k
 unfold impl_reader_one.f
 repeat' first
   | (with_reducible exact ih0 _ _ _ _)
   | (with_reducible exact LeO.refl _)
   | (with_reducible exact LeO.none _)
   | (with_reducible refine LeO.ite ?_ ?_)
   | (with_reducible refine LeO.bind ?_ (fun _ => ?_))
   | exact ih0 _ _ _ _
   | exact LeO.none _
   | refine LeO.ite ?_ ?_
   | refine LeO.bind ?_ (fun _ => ?_)
set_option maxHeartbeats 8000000 in
set_option maxRecDepth 100000 in
theorem impl_reader_one.calls (k : Nat) (g : Nat) (s0_0 : List Int) (s0_1 : Int) (s0_2 : Bool) (r1 : Int) (r2 : Int) (r3 : Bool) (w0 w : World) (hI : IsS114 w0 w g s0_0 s0_1 s0_2) (hB : Below w0.heap.size w0 w) (h : impl_reader_one.f k s0_0 s0_1 s0_2 = some (r1, r2, r3)) :
  Calls Try.prog 98 #[.pointer (some ⟨g, 0, none⟩)] w fun e w' => e = .returned (.int .i64 r1) ∧ IsS114 w0 w' g s0_0 r2 r3 ∧ Below w0.heap.size w0 w' ∧ KeepBut w w' g none := by
 have HI0 := mS hI
 have HK := mS (KeepBut.refl w g none)
 have HL := mS hB.size
 clear hI
 have HW0 := mS hB.size
 have HB := mS hB
 clear hB
 have H : (if s0_2 = true then (impl_reader_one.j0 k true s0_0 s0_1 s0_2) else (impl_reader_one.j0 k (decide (s0_1 ≥ (s0_0.length : Int))) s0_0 s0_1 s0_2)) = some (r1, r2, r3) := h
 clear h
 have HC2 := mS H
 clear H
 go_enter Try.func98, Try.ntmps98
 go_upto_region 1 with (fail)
 repeat (go_quiet (fail); go_upto_region 1 with (fail))
 go_cut [18] (fun v18 wc => ∃ (kq : Nat) (x18_1 : Bool), v18 = .bool x18_1 ∧ Aside0 (impl_reader_one.j0 kq x18_1 s0_0 s0_1 s0_2 = some (r1, r2, r3)) ∧ Aside0 (kq ≤ k) ∧ Aside0 (IsS114 w0 wc g s0_0 s0_1 s0_2) ∧ Aside0 (KeepBut w wc g none) ∧ Aside0 (Below w0.heap.size w0 wc))
 case first =>
  have H := HC2.out
  clear HC2
  by_cases c3 : s0_2 = true
  ·subst c3
   have H1 := H
   rw [if_pos rfl] at H1
   clear H
   have H := H1
   clear H1
   have H' := mS H
   clear H
   obtain ⟨ASz4_0, cSz4_0, HGz4, hgz4, HSz4_0, HLz4_0⟩ := HI0.out
   have hcz4_0 := cellS114_0 HGz4
   have hcz4_1 := cellS114_1 HGz4
   have hcz4_2 := cellS114_2 HGz4
   have hfz4_1 := blk_frozen HGz4 1
   have hfz4_2 := blk_frozen HGz4 2
   clear HGz4 hgz4
   go_wp2
   repeat (go_quiet (fail); try go_wp2)
   go_meet
   case rel => exact ⟨_, (true), mE, H', ⟨by first | omega | exact Nat.le_refl _⟩, ⟨mI45_0 HI0.out⟩, ⟨mQ45_2 HK.out⟩, ⟨mH45_4 HB.out (IsS114.ge HI0.out)⟩⟩
  ·replace c3 := Bool.eq_false_iff.mpr c3
   subst c3
   have H1 := H
   rw [if_neg (show ¬ (false = true) by decide)] at H1
   clear H
   have H := H1
   clear H1
   have H' := mS H
   clear H
   obtain ⟨ASz5_0, cSz5_0, HGz5, hgz5, HSz5_0, HLz5_0⟩ := HI0.out
   have hcz5_0 := cellS114_0 HGz5
   have hcz5_1 := cellS114_1 HGz5
   have hcz5_2 := cellS114_2 HGz5
   have hfz5_1 := blk_frozen HGz5 1
   have hfz5_2 := blk_frozen HGz5 2
   clear HGz5 hgz5
   go_wp2
   repeat (go_quiet (fail); try go_wp2)
   go_meet
   case rel => exact ⟨_, (decide (s0_1 ≥ (s0_0.length : Int))), mE, H', ⟨by first | omega | exact Nat.le_refl _⟩, ⟨mI45_0 HI0.out⟩, ⟨mQ45_2 HK.out⟩, ⟨mH45_4 HB.out (IsS114.ge HI0.out)⟩⟩
 case rest =>
  clear HC2
  try clear p2
  try clear c3
  try clear hcz4_0
  try clear hcz4_1
  try clear hcz4_2
  try clear hcz5_0
  try clear hcz5_1
  try clear hcz5_2
  try clear hfz4_1
  try clear hfz4_2
  try clear hfz5_1
  try clear hfz5_2
  obtain ⟨kq, x18_1, rfl, HA, HJ1, HI0, HK, HB⟩ := hcut
  cases kq with
  | zero => exact absurd HA.out (by simp [impl_reader_one.j0])
  | succ kj1 =>
   have H := HA.out
   clear HA
   simp only [impl_reader_one.j0] at H
   by_cases c6 : x18_1 = true
   ·subst c6
    have H1 := H
    rw [if_pos rfl] at H1
    clear H
    have H := H1
    clear H1
    simp only [Option.some.injEq, Prod.mk.injEq] at H
    obtain ⟨rfl, rfl, rfl⟩ := H
    obtain ⟨ASz7_0, cSz7_0, HGz7, hgz7, HSz7_0, HLz7_0⟩ := HI0.out
    have hcz7_0 := cellS114_0 HGz7
    have hcz7_1 := cellS114_1 HGz7
    have hcz7_2 := cellS114_2 HGz7
    have hfz7_1 := blk_frozen HGz7 1
    have hfz7_2 := blk_frozen HGz7 2
    clear HGz7 hgz7
    go_wp2
    repeat (go_quiet (fail); try go_wp2)
    go_ret
    exact ⟨mEw, mI45_0 HI0.out, mH45_4 HB.out (IsS114.ge HI0.out), mQ45_2 HK.out⟩
   ·replace c6 := Bool.eq_false_iff.mpr c6
    subst c6
    have H1 := H
    rw [if_neg (show ¬ (false = true) by decide)] at H1
    clear H
    have H := H1
    clear H1
    obtain ⟨ji8, hji8⟩ : ∃ j_ : Int, (wrap64 ((wrap64 (s0_1 + 1)) - 1)) = j_ := ⟨_, rfl⟩
    replace H : (if 0 ≤ (ji8) then (if (ji8) < (s0_0.length : Int) then (some (wrap64 (rd s0_0 (ji8)), wrap64 (s0_1 + 1), s0_2)) else (none)) else (none)) = some (r1, r2, r3) := by first | (rw [hji8] at H; exact H) | (simp only [hji8] at H ⊢; exact H)
    have hji8w : (IntKind.i64.wrap ((wrap64 (s0_1 + 1)) - 1)) = ji8 := (i64_w _).trans hji8
    by_cases c9 : 0 ≤ (ji8)
    ·rw [if_pos c9] at H
     have c9b0 := decide_eq_true c9
     clear c9
     by_cases c10 : (ji8) < (s0_0.length : Int)
     ·rw [if_pos c10] at H
      have c10b0 := decide_eq_true c10
      clear c10
      simp only [Option.some.injEq, Prod.mk.injEq] at H
      obtain ⟨rfl, rfl, rfl⟩ := H
      obtain ⟨ASz11_0, cSz11_0, HGz11, hgz11, HSz11_0, HLz11_0⟩ := HI0.out
      have hcz11_0 := cellS114_0 HGz11
      have hcz11_1 := cellS114_1 HGz11
      have hcz11_2 := cellS114_2 HGz11
      have hfz11_1 := blk_frozen HGz11 1
      have hfz11_2 := blk_frozen HGz11 2
      clear HGz11 hgz11
      have p448 : 0 ≤ ((ji8) : Int) := mD
      have q448 : (ji8) < (s0_0.length : Int) := mD
      obtain ⟨ad448, e448, hx448_0⟩ := Kd.at_int HSz11_0 (ji8) p448 q448
      cases e448
      have hn448_0 : ad448.block ≠ g := Nat.ne_of_lt (Nat.lt_of_lt_of_le (by have := World.block_lt_of_cell? _ _ hx448_0; first | rwa [add_block] at this | exact this) (IsS114.ge HI0.out))
      replace hx448_0 := pw_cell_below HB.out hx448_0
      replace hx448_0 := (cell_far (p := ⟨g, 1, none⟩) (by first | (rw [add_block]; exact hn448_0) | (show (Addr.add _ _).block ≠ _; rw [add_block]; exact hn448_0) | exact hn448_0) (.int .i64 (wrap64 (s0_1 + 1)))).trans hx448_0
      (try have hy448_0 := fun (n_ : Nat) => (show (((wc.drewN n_).setCell ⟨g, 1, none⟩ (.int .i64 (wrap64 (s0_1 + 1))))).cell? _ = some _ from hx448_0))
      clear hn448_0
      replace p448 := eq_true p448
      replace q448 := eq_true q448
      go_wp2
      repeat (go_quiet (fail); try go_wp2)
      go_ret
      exact ⟨by first | rfl | (simp [errW_none, errW_some] <;> rfl) | (simp only [← hji8]; first | rfl | (simp [errW_none, errW_some] <;> rfl)) | (simp [*, errW_none, errW_some] <;> rfl), mI45_0 HI0.out, mH45_4 HB.out (IsS114.ge HI0.out), mQ45_2 HK.out⟩
     ·rw [if_neg c10] at H
      exact absurd H (by simp)
    ·rw [if_neg c9] at H
     exact absurd H (by simp)

/-! ### impl_reader_flag: function 83 -/
def impl_reader_flag.f (k : Nat) (s0_0 : List Int) (s0_1 : Int) (s0_2 : Bool) : Option (Bool × Int × Bool) := (impl_reader_one.f k s0_0 s0_1 s0_2).bind fun bt449 => (if bt449.2.2 = true then (some ((bt449.1 == 1), bt449.2.1, true)) else (some ((bt449.1 == 1), bt449.2.1, decide (bt449.1 > 1))))
theorem impl_reader_flag.mono : ∀ a0 a1 a2 k, LeO (impl_reader_flag.f k a0 a1 a2) (impl_reader_flag.f (k + 1) a0 a1 a2) := by
 intro a0 a1 a2 k
 unfold impl_reader_flag.f
 repeat' first
   | (with_reducible exact impl_reader_one.mono _ _ _ _)
   | (with_reducible exact LeO.refl _)
   | (with_reducible exact LeO.none _)
   | (with_reducible refine LeO.ite ?_ ?_)
   | (with_reducible refine LeO.bind ?_ (fun _ => ?_))
   | exact impl_reader_one.mono _ _ _ _
   | exact LeO.none _
   | refine LeO.ite ?_ ?_
   | refine LeO.bind ?_ (fun _ => ?_)
set_option maxHeartbeats 8000000 in
set_option maxRecDepth 100000 in
theorem impl_reader_flag.calls (k : Nat) (g : Nat) (s0_0 : List Int) (s0_1 : Int) (s0_2 : Bool) (r1 : Bool) (r2 : Int) (r3 : Bool) (w0 w : World) (hI : IsS114 w0 w g s0_0 s0_1 s0_2) (hB : Below w0.heap.size w0 w) (h : impl_reader_flag.f k s0_0 s0_1 s0_2 = some (r1, r2, r3)) :
  Calls Try.prog 83 #[.pointer (some ⟨g, 0, none⟩)] w fun e w' => e = .returned (.bool r1) ∧ IsS114 w0 w' g s0_0 r2 r3 ∧ Below w0.heap.size w0 w' ∧ KeepBut w w' g none := by
 have HI0 := mS hI
 have HK := mS (KeepBut.refl w g none)
 have HL := mS hB.size
 clear hI
 have HW0 := mS hB.size
 have HB := mS hB
 clear hB
 have H : ((impl_reader_one.f k s0_0 s0_1 s0_2).bind fun bt449 => (if bt449.2.2 = true then (some ((bt449.1 == 1), bt449.2.1, true)) else (some ((bt449.1 == 1), bt449.2.1, decide (bt449.1 > 1))))) = some (r1, r2, r3) := h
 clear h
 replace H := Option.bind_eq_some_iff.mp H
 obtain ⟨⟨t449, t450, t451⟩, A20, H⟩ := H
 replace H : (if t451 = true then (some ((t449 == 1), t450, true)) else (some ((t449 == 1), t450, decide (t449 > 1)))) = some (r1, r2, r3) := H
 have A2 := mS A20
 clear A20
 by_cases c3 : t451 = true
 ·subst c3
  have H1 := H
  rw [if_pos rfl] at H1
  clear H
  have H := H1
  clear H1
  simp only [Option.some.injEq, Prod.mk.injEq] at H
  obtain ⟨rfl, rfl, rfl⟩ := H
  go_enter Try.func83, Try.ntmps83
  go_wp2_with (first | ((with_reducible refine gate_callee (f := 98) rfl ?_); refine mGo 5 Try.func98 #[.pointer (some ⟨g, 0, none⟩)] ?_; (with_reducible refine (impl_reader_one.calls k g s0_0 s0_1 s0_2 t449 t450 true w0 _ ?side1 ?side2 A2.out).mono ?_); (case side1 => repeat (first | (with_reducible first | exact HI0.out | apply IsS114.alloc | apply IsS114.drewN | apply IsS114.drew | apply IsS114.set_1 | apply IsS114.set_2) | exact HI0.out)); (case side2 => repeat (first | (with_reducible first | exact HB.out | apply below_alloc | apply pw_below_drewN | apply below_drew1 | refine below_set ?_ (IsS114.ge HI0.out)) | exact HB.out)); rintro e w4 ⟨rfl, hi, hb, hk⟩; refine ⟨_, rfl, ?_⟩; replace HK := mS (KeepBut.trans (mQ45_2 HK.out) hk (.inl rfl)); replace HB := mS (hb); replace HI0 := mS (hi); (try clear hb); (try clear hk); (try clear hi); obtain ⟨ASz5_0, cSz5_0, HGz5, hgz5, HSz5_0, HLz5_0⟩ := HI0.out; have hcz5_0 := cellS114_0 HGz5; have hcz5_1 := cellS114_1 HGz5; have hcz5_2 := cellS114_2 HGz5; have hfz5_1 := blk_frozen HGz5 1; have hfz5_2 := blk_frozen HGz5 2; clear HGz5 hgz5))
  go_ret
  exact ⟨mEw, mI45_0 HI0.out, mH45_4 HB.out (IsS114.ge HI0.out), mQ45_2 HK.out⟩
 ·replace c3 := Bool.eq_false_iff.mpr c3
  subst c3
  have H1 := H
  rw [if_neg (show ¬ (false = true) by decide)] at H1
  clear H
  have H := H1
  clear H1
  simp only [Option.some.injEq, Prod.mk.injEq] at H
  obtain ⟨rfl, rfl, rfl⟩ := H
  go_enter Try.func83, Try.ntmps83
  go_wp2_with (first | ((with_reducible refine gate_callee (f := 98) rfl ?_); refine mGo 5 Try.func98 #[.pointer (some ⟨g, 0, none⟩)] ?_; (with_reducible refine (impl_reader_one.calls k g s0_0 s0_1 s0_2 t449 t450 false w0 _ ?side1 ?side2 A2.out).mono ?_); (case side1 => repeat (first | (with_reducible first | exact HI0.out | apply IsS114.alloc | apply IsS114.drewN | apply IsS114.drew | apply IsS114.set_1 | apply IsS114.set_2) | exact HI0.out)); (case side2 => repeat (first | (with_reducible first | exact HB.out | apply below_alloc | apply pw_below_drewN | apply below_drew1 | refine below_set ?_ (IsS114.ge HI0.out)) | exact HB.out)); rintro e w6 ⟨rfl, hi, hb, hk⟩; refine ⟨_, rfl, ?_⟩; replace HK := mS (KeepBut.trans (mQ45_2 HK.out) hk (.inl rfl)); replace HB := mS (hb); replace HI0 := mS (hi); (try clear hb); (try clear hk); (try clear hi); obtain ⟨ASz7_0, cSz7_0, HGz7, hgz7, HSz7_0, HLz7_0⟩ := HI0.out; have hcz7_0 := cellS114_0 HGz7; have hcz7_1 := cellS114_1 HGz7; have hcz7_2 := cellS114_2 HGz7; have hfz7_1 := blk_frozen HGz7 1; have hfz7_2 := blk_frozen HGz7 2; clear HGz7 hgz7))
  go_ret
  exact ⟨mEw, mI45_0 HI0.out, mH45_4 HB.out (IsS114.ge HI0.out), mQ45_2 HK.out⟩

/-! ### impl_pairsAtR: the code behind the reader's making, as a function of its own -/
mutual
def impl_pairsAtR.l0 : Nat → List Int → List (S87) → ByteArray → List Int → Int → Bool → Option ((List (S87)) × Bool × Int × Bool)
 | 0, _, _, _, _, _, _ => none
 | k + 1, x6, x10, x11, x2000, x2001, x2002 => if x2001 < (x6.length : Int) then (impl_pairsAtR.j1 k x6 x10 x11 (!x2002) x2000 x2001 x2002) else (impl_pairsAtR.j1 k x6 x10 x11 false x2000 x2001 x2002)
def impl_pairsAtR.j1 : Nat → List Int → List (S87) → ByteArray → Bool → List Int → Int → Bool → Option ((List (S87)) × Bool × Int × Bool)
 | 0, _, _, _, _, _, _, _ => none
 | k + 1, x6, x10, x11, x41, x2000, x2001, x2002 => if x41 = true then ((impl_reader_num.f k x2000 x2001 x2002).bind fun bt444 => ((impl_reader_text.f k x2000 bt444.2.1 bt444.2.2).bind fun bt447 => ((impl_reader_flag.f k x2000 bt447.2.1 bt447.2.2).bind fun bt450 => (if 0 ≤ (mn bt444.1 (x11.size : Int)) then (if (mn bt444.1 (x11.size : Int)) ≤ (x11.size : Int) then (if (x11.extract 0 ((mn bt444.1 (x11.size : Int)) : Int).toNat).size + bt447.1.size ≤ 9223372036854775807 then ((impl_reader_text.f k x2000 bt450.2.1 bt450.2.2).bind fun bt453 => (if bt444.1 > (x11.size : Int) then (some (([] : List (S87)), false, bt453.2.1, bt453.2.2)) else (if x10.length < 3518437208883 then (impl_pairsAtR.l0 k x6 (x10 ++ [(⟨(x11.extract 0 ((mn bt444.1 (x11.size : Int)) : Int).toNat) ++ bt447.1, bt453.1, bt450.1⟩ : S87)]) ((x11.extract 0 ((mn bt444.1 (x11.size : Int)) : Int).toNat) ++ bt447.1) x2000 bt453.2.1 bt453.2.2) else (none)))) else (none)) else (none)) else (none))))) else (some (x10, !x2002, x2001, x2002))
end
def impl_pairsAtR.f (k : Nat) (l0 : List Int) (s1_0 : List Int) (s1_1 : Int) (s1_2 : Bool) : Option ((List (S87)) × Bool × Int × Bool) := impl_pairsAtR.l0 k l0 ([] : List (S87)) (⟨#[]⟩ : ByteArray) s1_0 s1_1 s1_2
theorem impl_pairsAtR.mono_l : ∀ k, (∀ y0 y1 y2 y3 y4 y5, LeO (impl_pairsAtR.l0 k y0 y1 y2 y3 y4 y5) (impl_pairsAtR.l0 (k + 1) y0 y1 y2 y3 y4 y5)) ∧ (∀ y0 y1 y2 y3 y4 y5 y6, LeO (impl_pairsAtR.j1 k y0 y1 y2 y3 y4 y5 y6) (impl_pairsAtR.j1 (k + 1) y0 y1 y2 y3 y4 y5 y6))
 | 0 => ⟨fun _ _ _ _ _ _ r h => by simp [impl_pairsAtR.l0] at h, fun _ _ _ _ _ _ _ r h => by simp [impl_pairsAtR.j1] at h⟩
 | k + 1 => by
  obtain ⟨ih0, ih1⟩ := impl_pairsAtR.mono_l k
  refine ⟨?_, ?_⟩
  ·intro y0 y1 y2 y3 y4 y5
   unfold impl_pairsAtR.l0
   repeat' first
   | (with_reducible exact ih0 _ _ _ _ _ _)
   | (with_reducible exact ih1 _ _ _ _ _ _ _)
   | (with_reducible exact impl_reader_flag.mono _ _ _ _)
   | (with_reducible exact impl_reader_num.mono _ _ _ _)
   | (with_reducible exact impl_reader_text.mono _ _ _ _)
   | (with_reducible exact LeO.refl _)
   | (with_reducible exact LeO.none _)
   | (with_reducible refine LeO.ite ?_ ?_)
   | (with_reducible refine LeO.bind ?_ (fun _ => ?_))
   | exact ih0 _ _ _ _ _ _
   | exact ih1 _ _ _ _ _ _ _
   | exact impl_reader_flag.mono _ _ _ _
   | exact impl_reader_num.mono _ _ _ _
   | exact impl_reader_text.mono _ _ _ _
   | exact LeO.none _
   | refine LeO.ite ?_ ?_
   | refine LeO.bind ?_ (fun _ => ?_)
  ·intro y0 y1 y2 y3 y4 y5 y6
   unfold impl_pairsAtR.j1
   repeat' first
   | (with_reducible exact ih0 _ _ _ _ _ _)
   | (with_reducible exact ih1 _ _ _ _ _ _ _)
   | (with_reducible exact impl_reader_flag.mono _ _ _ _)
   | (with_reducible exact impl_reader_num.mono _ _ _ _)
   | (with_reducible exact impl_reader_text.mono _ _ _ _)
   | (with_reducible exact LeO.refl _)
   | (with_reducible exact LeO.none _)
   | (with_reducible refine LeO.ite ?_ ?_)
   | (with_reducible refine LeO.bind ?_ (fun _ => ?_))
   | exact ih0 _ _ _ _ _ _
   | exact ih1 _ _ _ _ _ _ _
   | exact impl_reader_flag.mono _ _ _ _
   | exact impl_reader_num.mono _ _ _ _
   | exact impl_reader_text.mono _ _ _ _
   | exact LeO.none _
   | refine LeO.ite ?_ ?_
   | refine LeO.bind ?_ (fun _ => ?_)
theorem impl_pairsAtR.mono : ∀ a0 a1 a2 a3 k, LeO (impl_pairsAtR.f k a0 a1 a2 a3) (impl_pairsAtR.f (k + 1) a0 a1 a2 a3) := by
 intro a0 a1 a2 a3 k
 obtain ⟨ih0, ih1⟩ := impl_pairsAtR.mono_l k
 unfold impl_pairsAtR.f
 repeat' first
   | (with_reducible exact ih0 _ _ _ _ _ _)
   | (with_reducible exact ih1 _ _ _ _ _ _ _)
   | (with_reducible exact impl_reader_flag.mono _ _ _ _)
   | (with_reducible exact impl_reader_num.mono _ _ _ _)
   | (with_reducible exact impl_reader_text.mono _ _ _ _)
   | (with_reducible exact LeO.refl _)
   | (with_reducible exact LeO.none _)
   | (with_reducible refine LeO.ite ?_ ?_)
   | (with_reducible refine LeO.bind ?_ (fun _ => ?_))
   | exact ih0 _ _ _ _ _ _
   | exact ih1 _ _ _ _ _ _ _
   | exact impl_reader_flag.mono _ _ _ _
   | exact impl_reader_num.mono _ _ _ _
   | exact impl_reader_text.mono _ _ _ _
   | exact LeO.none _
   | refine LeO.ite ?_ ?_
   | refine LeO.bind ?_ (fun _ => ?_)
def impl_pairsAtR.T11 : Bool × List (List Nat × List Nat) := (true, [([], []), ([], []), ([], []), ([2], [2]), ([1, 3], [1, 3]), ([0, 4], [0, 4]), ([], []), ([5, 6], [5, 6]), ([], []), ([8], [8]), ([], []), ([7, 9, 10], [7, 9, 10]), ([], []), ([12, 11, 9, 0, 1, 2, 3, 4, 5, 6, 7, 8, 9, 10, 11, 12], [11, 12])])
def impl_pairsAtR.B11 : List Nat := [0, 0, 0, 4, 14, 31, 0, 127, 0, 256, 0, 2047, 0, 8191]
theorem impl_pairsAtR.tab11 : rtab .any (opsOf Try.f46 11) = impl_pairsAtR.T11 := by kernel_rfl
theorem impl_pairsAtR.bits11 : waitsOk impl_pairsAtR.T11.2 impl_pairsAtR.B11 = true := by kernel_rfl
def impl_pairsAtR.T16 : Bool × List (List Nat × List Nat) := (true, [([], []), ([], []), ([1], [1]), ([2], [2]), ([3], [3]), ([4], [4]), ([0, 0], [0]), ([5, 6, 0, 1, 2, 3, 4, 5, 6], [5])])
def impl_pairsAtR.B16 : List Nat := [0, 0, 2, 6, 14, 30, 1, 127]
theorem impl_pairsAtR.tab16 : rtab .any (opsOf Try.f46 16) = impl_pairsAtR.T16 := by kernel_rfl
theorem impl_pairsAtR.bits16 : waitsOk impl_pairsAtR.T16.2 impl_pairsAtR.B16 = true := by kernel_rfl

/-! ### impl_fkP: what the rest answers -/
def impl_fkP.f (k : Nat) (l0 : List Int) : Option ((List (S87)) × Bool) := (impl_pairsAtR.f k l0 l0 0 false).bind fun q => some (q.1, q.2.1)
theorem impl_fkP.mono : ∀ a0 k, LeO (impl_fkP.f k a0) (impl_fkP.f (k + 1) a0) := fun a0 k => by
 unfold impl_fkP.f
 exact LeO.bind (impl_pairsAtR.mono _ _ _ _ _) (fun _ => LeO.refl _)

/-! ### impl_pairsAt: function 46 -/
def impl_pairsAt.f (k : Nat) (l0 : List Int) (a1 : Int) : Option ((List (S87)) × Bool) := (impl_Unframe.f k l0 a1).bind fun bt460 => (if bt460.2.2 = true then ((impl_fkP.f k bt460.1).bind fun bt465 => (some (bt465.1, bt465.2))) else (some (([] : List (S87)), false)))
theorem impl_pairsAt.mono : ∀ a0 a1 k, LeO (impl_pairsAt.f k a0 a1) (impl_pairsAt.f (k + 1) a0 a1) := by
 intro a0 a1 k
 unfold impl_pairsAt.f
 repeat' first
   | (with_reducible exact impl_Unframe.mono _ _ _)
   | (with_reducible exact impl_fkP.mono _ _)
   | (with_reducible exact LeO.refl _)
   | (with_reducible exact LeO.none _)
   | (with_reducible refine LeO.ite ?_ ?_)
   | (with_reducible refine LeO.bind ?_ (fun _ => ?_))
   | exact impl_Unframe.mono _ _ _
   | exact impl_fkP.mono _ _
   | exact LeO.none _
   | refine LeO.ite ?_ ?_
   | refine LeO.bind ?_ (fun _ => ?_)
set_option maxHeartbeats 8000000 in
set_option maxRecDepth 100000 in
theorem impl_pairsAt.calls (k : Nat) (A0 : Option Addr) (c0 : Nat) (l0 : List Int) (a1 : Int) (r1 : List (S87)) (r2 : Bool) (w : World) (hr0 : Kd.C (Kd.int .u8) w A0 l0.length l0) (hc0 : l0.length ≤ c0) (h : impl_pairsAt.f k l0 a1 = some (r1, r2)) :
  Calls Try.prog 46 #[.slice A0 l0.length c0, .int .i64 a1] w fun e w' => ∃ v0_ : Value, e = .returned (.tuple #[v0_, .bool r2]) ∧ Kd.R k87 87 w' w.heap.size (fun _ => True) v0_ r1 ∧ Below w.heap.size w w' := by
 have HR0 := mS hr0
 have HC0 := mS hc0
 clear hr0 hc0
 have HB := mS (Below.refl w.heap.size w)
 have H : ((impl_Unframe.f k l0 a1).bind fun bt460 => (if bt460.2.2 = true then ((impl_fkP.f k bt460.1).bind fun bt465 => (some (bt465.1, bt465.2))) else (some (([] : List (S87)), false)))) = some (r1, r2) := h
 clear h
 replace H := Option.bind_eq_some_iff.mp H
 obtain ⟨⟨t460, t463, t464⟩, A30, H⟩ := H
 replace H : (if t464 = true then ((impl_fkP.f k t460).bind fun bt465 => (some (bt465.1, bt465.2))) else (some (([] : List (S87)), false))) = some (r1, r2) := H
 have A3 := mS A30
 clear A30
 by_cases c4 : t464 = true
 ·subst c4
  have H1 := H
  rw [if_pos rfl] at H1
  clear H
  have H := H1
  clear H1
  replace H := Option.bind_eq_some_iff.mp H
  obtain ⟨⟨t465, t466⟩, A50, H⟩ := H
  replace H : (some (t465, t466)) = some (r1, r2) := H
  have A5 := mS A50
  clear A50
  simp only [Option.some.injEq, Prod.mk.injEq] at H
  obtain ⟨rfl, rfl⟩ := H
  go_enter Try.func46, Try.ntmps46
  go_upto_region 4 with (first | ((with_reducible refine gate_callee (f := 9) rfl ?_); refine mGo 19 Try.func9 #[.slice A0 l0.length c0, .int .i64 a1] ?_; (with_reducible refine (impl_Unframe.calls k _ _ l0 a1 t460 t463 true _ ?side1 ?side2 A3.out).mono ?_); (case side1 => exact mC HR0.out); (case side2 => exact HC0.out); rintro e w6 ⟨v461, rfl, ho0, hb⟩; refine ⟨_, rfl, ?_⟩; have HO462 := mS (Kd.V_lower (Kd.V_mono (ok' := fun k_ => True) ho0 (fun k_ hk_ => trivial)) (below_size (mH HB.out))); replace HB := mS (below_step (mH HB.out) hb); (try clear hb); (try clear ho0); obtain ⟨Ao7, co7, eo7⟩ := Kd.V_slice HO462.out; subst eo7))
  (try simp only [Act.put, zA, zB, zC])
  obtain ⟨kU, hkU_⟩ : ∃ x_, x_ = k := ⟨_, rfl⟩
  subst hkU_
  obtain ⟨lU, hlU_⟩ : ∃ x_, x_ = t460 := ⟨_, rfl⟩
  subst hlU_
  obtain ⟨AU, hAU_⟩ : ∃ x_, x_ = Ao7 := ⟨_, rfl⟩
  subst hAU_
  obtain ⟨cU, hcU_⟩ : ∃ x_, x_ = co7 := ⟨_, rfl⟩
  subst hcU_
  obtain ⟨wU, hwU_⟩ : ∃ x_, x_ = w6 := ⟨_, rfl⟩
  subst hwU_
  obtain ⟨qU, aU, bU⟩ := Option.bind_eq_some_iff.mp (show ((impl_pairsAtR.f kU lU lU 0 false).bind fun q => some (q.1, q.2.1)) = some (t465, t466) from A5.out)
  clear A5
  obtain ⟨rU1, rU2, rU3, rU4⟩ := qU
  simp only [Option.some.injEq, Prod.mk.injEq] at bU
  obtain ⟨bU1, bU3⟩ := bU
  subst bU1
  subst bU3
  go_upto_region 5 with (first | ((with_reducible refine gate_dst (N := 27) rfl ?_); refine mBx 27 #[.slice AU lU.length cU, .int .i64 0, .bool false] 114 ?_; intro gU hgU wB hbox hbU; have HgU := mS hgU; have HbxU := mS hbox; have HbU := mS hbU; clear hgU hbox hbU))
  (try simp only [Act.put, zA, zB, zC])
  have HBA := HB
  clear HB
  have HLE : Aside0 (w.heap.size ≤ wB.heap.size) := ⟨Nat.le_trans HBA.out.size HbU.out.size⟩
  have HVU := HO462
  have hI : IsS114 wU wB gU lU 0 false := ⟨AU, cU, HbxU.out, by rw [HgU.out]; exact Nat.le_refl _, (Kd.V_reads' HVU.out).2.2, (Kd.V_reads' HVU.out).2.1⟩
  have hB : Below wU.heap.size wU wB := HbU.out
  have hr0 : Kd.C (Kd.int .u8) wB AU lU.length lU := Kd.C_below (Kd.V_reads' HVU.out).2.2 HbU.out
  have hc0 : lU.length ≤ cU := (Kd.V_reads' HVU.out).2.1
  have hf0 : ∀ ad, AU = some ad → 0 < lU.length → ad.block ≠ gU := Kd.far_C (0 : Int) (Kd.V_reads' HVU.out).2.2 (IsS114.ge hI)
  have h : impl_pairsAtR.f kU lU lU 0 false = some (rU1, rU2, rU3, rU4) := aU
  clear aU HbxU HgU
  have hu87 := Try.underlying87
  have HR0 := mS hr0
  have HC0 := mS hc0
  clear hr0 hc0
  have HI1 := mS hI
  have HK := mS (KeepBut.refl wB gU none)
  have HL := mS hB.size
  clear hI
  have HW0 := mS hB.size
  have HB := mS hB
  clear hB
  have H : (impl_pairsAtR.l0 kU lU ([] : List (S87)) (⟨#[]⟩ : ByteArray) lU (0 : Int) false) = some (rU1, rU2, rU3, rU4) := h
  clear h
  have H' := mS H
  clear H
  go_wp2
  go_loopg [10, 11] kU (fun kq v10 v11 w' => ∃ (x10_1 : List (S87)) (x11_1 : ByteArray) (x2001_1 : Int) (x2002_1 : Bool), v11 = .string x11_1 ∧ Aside0 (impl_pairsAtR.l0 kq lU x10_1 x11_1 lU x2001_1 x2002_1 = some (rU1, rU2, rU3, rU4)) ∧ Aside0 (kq ≤ kU) ∧ Aside0 (Kd.R k87 87 w' wB.heap.size (fun _ => True) v10 x10_1) ∧ Aside0 (IsS114 wU w' gU lU x2001_1 x2002_1) ∧ Aside0 (KeepBut wB w' gU none) ∧ Aside0 (Below wU.heap.size wU w'))
  case atStart => exact ⟨(([] : List (S87))), ((⟨#[]⟩ : ByteArray)), ((0 : Int)), (false), mE, H', ⟨Nat.le_refl _⟩, ⟨by first | exact Kd.R_nil _ _ _ _ _ | exact Kd.N_nil _ _ _ _ _ | exact Kd.V_nil _ _ _ _ _ | exact Kd.Q_nil _ _ _ _ _ | exact Kd.S_nil _ _ _ _ _⟩, ⟨mI45_0 HI1.out⟩, ⟨mQ45_2 HK.out⟩, ⟨mH45_4 HB.out (IsS114.ge HI1.out)⟩⟩
  case round =>
   clear H'
   try clear p2
   obtain ⟨x10_1, x11_1, x2001_1, x2002_1, rfl, HA, HK1, HO_10, HI1, HK, HB⟩ := hrel
   cases gk with
   | zero => exact absurd HA.out (by simp [impl_pairsAtR.l0])
   | succ k1 =>
    have H := HA.out
    clear HA
    simp only [impl_pairsAtR.l0] at H
    have HC3 := mS H
    clear H
    go_upto_region 7 with (fail)
    go_cut [41] (fun v41 wc => ∃ (kq : Nat) (x41_2 : Bool), v41 = .bool x41_2 ∧ Aside0 (impl_pairsAtR.j1 kq lU x10_1 x11_1 x41_2 lU x2001_1 x2002_1 = some (rU1, rU2, rU3, rU4)) ∧ Aside0 (kq ≤ k1) ∧ Aside0 (Kd.R k87 87 wc wB.heap.size (fun _ => True) u10 x10_1) ∧ Aside0 (IsS114 wU wc gU lU x2001_1 x2002_1) ∧ Aside0 (KeepBut wB wc gU none) ∧ Aside0 (Below wU.heap.size wU wc))
    case first =>
     have H := HC3.out
     clear HC3
     by_cases c4 : x2001_1 < (lU.length : Int)
     ·rw [if_pos c4] at H
      have c4b0 := decide_eq_true c4
      clear c4
      (first | rw [c4b0] | (simp only [i64_w, i32_w]; rw [c4b0]) | skip)
      have H' := mS H
      clear H
      obtain ⟨ASz5_0, cSz5_0, HGz5, hgz5, HSz5_0, HLz5_0⟩ := HI1.out
      have hcz5_0 := cellS114_0 HGz5
      have hcz5_1 := cellS114_1 HGz5
      have hcz5_2 := cellS114_2 HGz5
      have hfz5_1 := blk_frozen HGz5 1
      have hfz5_2 := blk_frozen HGz5 2
      clear HGz5 hgz5
      go_wp2
      go_meet
      case rel => exact ⟨_, (!x2002_1), mE, H', ⟨by have := HK1.out; first | omega | exact Nat.le_refl _⟩, ⟨mR HO_10.out⟩, ⟨mI45_0 HI1.out⟩, ⟨mQ45_2 HK.out⟩, ⟨mH45_4 HB.out (IsS114.ge HI1.out)⟩⟩
     ·rw [if_neg c4] at H
      have c4b0 := decide_eq_false c4
      clear c4
      (first | rw [c4b0] | (simp only [i64_w, i32_w]; rw [c4b0]) | skip)
      have H' := mS H
      clear H
      obtain ⟨ASz6_0, cSz6_0, HGz6, hgz6, HSz6_0, HLz6_0⟩ := HI1.out
      have hcz6_0 := cellS114_0 HGz6
      have hcz6_1 := cellS114_1 HGz6
      have hcz6_2 := cellS114_2 HGz6
      have hfz6_1 := blk_frozen HGz6 1
      have hfz6_2 := blk_frozen HGz6 2
      clear HGz6 hgz6
      go_wp2
      go_meet
      case rel => exact ⟨_, (false), mE, H', ⟨by have := HK1.out; first | omega | exact Nat.le_refl _⟩, ⟨mR HO_10.out⟩, ⟨mI45_0 HI1.out⟩, ⟨mQ45_2 HK.out⟩, ⟨mH45_4 HB.out (IsS114.ge HI1.out)⟩⟩
    case rest =>
     clear HC3
     try clear p2
     try clear c4
     try clear c4b0
     try clear hcz5_0
     try clear hcz5_1
     try clear hcz5_2
     try clear hcz6_0
     try clear hcz6_1
     try clear hcz6_2
     try clear hfz5_1
     try clear hfz5_2
     try clear hfz6_1
     try clear hfz6_2
     try clear p2
     obtain ⟨kq, x41_2, rfl, HA, HJ2, HO_10, HI1, HK, HB⟩ := hcut
     cases kq with
     | zero => exact absurd HA.out (by simp [impl_pairsAtR.j1])
     | succ kj2 =>
      have H := HA.out
      clear HA
      simp only [impl_pairsAtR.j1] at H
      by_cases c7 : x41_2 = true
      ·subst c7
       have H1 := H
       rw [if_pos rfl] at H1
       clear H
       have H := H1
       clear H1
       replace H := Option.bind_eq_some_iff.mp H
       obtain ⟨⟨t444, t445, t446⟩, A80, H⟩ := H
       replace H : ((impl_reader_text.f kj2 lU t445 t446).bind fun bt447 => ((impl_reader_flag.f kj2 lU bt447.2.1 bt447.2.2).bind fun bt450 => (if 0 ≤ (mn t444 (x11_1.size : Int)) then (if (mn t444 (x11_1.size : Int)) ≤ (x11_1.size : Int) then (if (x11_1.extract 0 ((mn t444 (x11_1.size : Int)) : Int).toNat).size + bt447.1.size ≤ 9223372036854775807 then ((impl_reader_text.f kj2 lU bt450.2.1 bt450.2.2).bind fun bt453 => (if t444 > (x11_1.size : Int) then (some (([] : List (S87)), false, bt453.2.1, bt453.2.2)) else (if x10_1.length < 3518437208883 then (impl_pairsAtR.l0 kj2 lU (x10_1 ++ [(⟨(x11_1.extract 0 ((mn t444 (x11_1.size : Int)) : Int).toNat) ++ bt447.1, bt453.1, bt450.1⟩ : S87)]) ((x11_1.extract 0 ((mn t444 (x11_1.size : Int)) : Int).toNat) ++ bt447.1) lU bt453.2.1 bt453.2.2) else (none)))) else (none)) else (none)) else (none)))) = some (rU1, rU2, rU3, rU4) := H
       have A8 := mS A80
       clear A80
       replace H := Option.bind_eq_some_iff.mp H
       obtain ⟨⟨t447, t448, t449⟩, A90, H⟩ := H
       replace H : ((impl_reader_flag.f kj2 lU t448 t449).bind fun bt450 => (if 0 ≤ (mn t444 (x11_1.size : Int)) then (if (mn t444 (x11_1.size : Int)) ≤ (x11_1.size : Int) then (if (x11_1.extract 0 ((mn t444 (x11_1.size : Int)) : Int).toNat).size + t447.size ≤ 9223372036854775807 then ((impl_reader_text.f kj2 lU bt450.2.1 bt450.2.2).bind fun bt453 => (if t444 > (x11_1.size : Int) then (some (([] : List (S87)), false, bt453.2.1, bt453.2.2)) else (if x10_1.length < 3518437208883 then (impl_pairsAtR.l0 kj2 lU (x10_1 ++ [(⟨(x11_1.extract 0 ((mn t444 (x11_1.size : Int)) : Int).toNat) ++ t447, bt453.1, bt450.1⟩ : S87)]) ((x11_1.extract 0 ((mn t444 (x11_1.size : Int)) : Int).toNat) ++ t447) lU bt453.2.1 bt453.2.2) else (none)))) else (none)) else (none)) else (none))) = some (rU1, rU2, rU3, rU4) := H
       have A9 := mS A90
       clear A90
       replace H := Option.bind_eq_some_iff.mp H
       obtain ⟨⟨t450, t451, t452⟩, A100, H⟩ := H
       replace H : (if 0 ≤ (mn t444 (x11_1.size : Int)) then (if (mn t444 (x11_1.size : Int)) ≤ (x11_1.size : Int) then (if (x11_1.extract 0 ((mn t444 (x11_1.size : Int)) : Int).toNat).size + t447.size ≤ 9223372036854775807 then ((impl_reader_text.f kj2 lU t451 t452).bind fun bt453 => (if t444 > (x11_1.size : Int) then (some (([] : List (S87)), false, bt453.2.1, bt453.2.2)) else (if x10_1.length < 3518437208883 then (impl_pairsAtR.l0 kj2 lU (x10_1 ++ [(⟨(x11_1.extract 0 ((mn t444 (x11_1.size : Int)) : Int).toNat) ++ t447, bt453.1, t450⟩ : S87)]) ((x11_1.extract 0 ((mn t444 (x11_1.size : Int)) : Int).toNat) ++ t447) lU bt453.2.1 bt453.2.2) else (none)))) else (none)) else (none)) else (none)) = some (rU1, rU2, rU3, rU4) := H
       have A10 := mS A100
       clear A100
       obtain ⟨ji11, hji11⟩ : ∃ j_ : Int, (mn t444 (x11_1.size : Int)) = j_ := ⟨_, rfl⟩
       replace H : (if 0 ≤ (ji11) then (if (ji11) ≤ (x11_1.size : Int) then (if (x11_1.extract 0 ((ji11) : Int).toNat).size + t447.size ≤ 9223372036854775807 then ((impl_reader_text.f kj2 lU t451 t452).bind fun bt453 => (if t444 > (x11_1.size : Int) then (some (([] : List (S87)), false, bt453.2.1, bt453.2.2)) else (if x10_1.length < 3518437208883 then (impl_pairsAtR.l0 kj2 lU (x10_1 ++ [(⟨(x11_1.extract 0 ((ji11) : Int).toNat) ++ t447, bt453.1, t450⟩ : S87)]) ((x11_1.extract 0 ((ji11) : Int).toNat) ++ t447) lU bt453.2.1 bt453.2.2) else (none)))) else (none)) else (none)) else (none)) = some (rU1, rU2, rU3, rU4) := by first | (rw [hji11] at H; exact H) | (simp only [hji11] at H ⊢; exact H)
       (try rw [hji11] at A8)
       (try rw [hji11] at A9)
       (try rw [hji11] at A10)
       have hji11_ : (if (x11_1.size : Int) < t444 then (x11_1.size : Int) else t444) = ji11 := hji11
       by_cases c12 : 0 ≤ (ji11)
       ·rw [if_pos c12] at H
        have c12b0 := eq_true c12
        have c12b1 := decide_eq_true c12
        clear c12
        by_cases c13 : (ji11) ≤ (x11_1.size : Int)
        ·rw [if_pos c13] at H
         have c13b0 := eq_true c13
         have c13b1 := decide_eq_true c13
         clear c13
         by_cases c14 : (x11_1.extract 0 ((ji11) : Int).toNat).size + t447.size ≤ 9223372036854775807
         ·rw [if_pos c14] at H
          have c14b0 := eq_true c14
          have c14b1 := decide_eq_true c14
          try have c14b2 : (9223372036854775807 < (x11_1.extract 0 ((ji11) : Int).toNat).size + t447.size) = False := eq_false (Nat.not_lt.2 c14)
          try have c14b3 : (9223372036854775807 < (ji11 : Int).toNat + t447.size) = False := eq_false (Nat.not_lt.2 (by have z_ := of_eq_false c14b2; have y_ := of_eq_true c13b0; rw [ByteArray.size_extract] at z_; omega))
          replace H := Option.bind_eq_some_iff.mp H
          obtain ⟨⟨t453, t454, t455⟩, A150, H⟩ := H
          replace H : (if t444 > (x11_1.size : Int) then (some (([] : List (S87)), false, t454, t455)) else (if x10_1.length < 3518437208883 then (impl_pairsAtR.l0 kj2 lU (x10_1 ++ [(⟨(x11_1.extract 0 ((ji11) : Int).toNat) ++ t447, t453, t450⟩ : S87)]) ((x11_1.extract 0 ((ji11) : Int).toNat) ++ t447) lU t454 t455) else (none))) = some (rU1, rU2, rU3, rU4) := H
          have A15 := mS A150
          clear A150
          by_cases c16 : t444 > (x11_1.size : Int)
          ·rw [if_pos c16] at H
           have c16b0 : decide ((x11_1.size : Int) < t444) = true := decide_eq_true c16
           clear c16
           simp only [Option.some.injEq, Prod.mk.injEq] at H
           obtain ⟨rfl, rfl, rfl, rfl⟩ := H
           try go_wp2_with (first | ((with_reducible refine gate_callee (f := 81) rfl ?_); refine mGo 43 Try.func81 #[.pointer (some ⟨gU, 0, none⟩)] ?_; (with_reducible refine (impl_reader_num.calls kj2 gU lU x2001_1 x2002_1 t444 t445 t446 wU _ ?side1 ?side2 A8.out).mono ?_); (case side1 => repeat (first | (with_reducible first | exact HI1.out | apply IsS114.alloc | apply IsS114.drewN | apply IsS114.drew | apply IsS114.set_1 | apply IsS114.set_2) | exact HI1.out)); (case side2 => repeat (first | (with_reducible first | exact HB.out | apply below_alloc | apply pw_below_drewN | apply below_drew1 | refine below_set ?_ (IsS114.ge HI1.out)) | exact HB.out)); rintro e w17 ⟨rfl, hi, hb, hk⟩; refine ⟨_, rfl, ?_⟩; replace HO_10 := mS (Kd.R_mono (Kd.R_keep (IsS114.apart (show IsS114 wU _ gU lU x2001_1 x2002_1 from mI45_0 HI1.out) (mR HO_10.out) (by decide)) hk (fun _ h => h.2)) (fun _ h => h.1)); replace HK := mS (KeepBut.trans (mQ45_2 HK.out) hk (.inl rfl)); replace HB := mS (hb); replace HI1 := mS (hi); (try clear hb); (try clear hk); (try clear hi)) | ((with_reducible refine gate_callee (f := 82) rfl ?_); refine mGo 45 Try.func82 #[.pointer (some ⟨gU, 0, none⟩)] ?_; (with_reducible refine (impl_reader_text.calls kj2 gU lU t445 t446 t447 t448 t449 wU _ ?side1 ?side2 A9.out).mono ?_); (case side1 => repeat (first | (with_reducible first | exact HI1.out | apply IsS114.alloc | apply IsS114.drewN | apply IsS114.drew | apply IsS114.set_1 | apply IsS114.set_2) | exact HI1.out)); (case side2 => repeat (first | (with_reducible first | exact HB.out | apply below_alloc | apply pw_below_drewN | apply below_drew1 | refine below_set ?_ (IsS114.ge HI1.out)) | exact HB.out)); rintro e w18 ⟨rfl, hi, hb, hk⟩; refine ⟨_, rfl, ?_⟩; replace HO_10 := mS (Kd.R_mono (Kd.R_keep (IsS114.apart (show IsS114 wU _ gU lU t445 t446 from mI45_0 HI1.out) (mR HO_10.out) (by decide)) hk (fun _ h => h.2)) (fun _ h => h.1)); replace HK := mS (KeepBut.trans (mQ45_2 HK.out) hk (.inl rfl)); replace HB := mS (hb); replace HI1 := mS (hi); (try clear hb); (try clear hk); (try clear hi)) | ((with_reducible refine gate_callee (f := 83) rfl ?_); refine mGo 47 Try.func83 #[.pointer (some ⟨gU, 0, none⟩)] ?_; (with_reducible refine (impl_reader_flag.calls kj2 gU lU t448 t449 t450 t451 t452 wU _ ?side1 ?side2 A10.out).mono ?_); (case side1 => repeat (first | (with_reducible first | exact HI1.out | apply IsS114.alloc | apply IsS114.drewN | apply IsS114.drew | apply IsS114.set_1 | apply IsS114.set_2) | exact HI1.out)); (case side2 => repeat (first | (with_reducible first | exact HB.out | apply below_alloc | apply pw_below_drewN | apply below_drew1 | refine below_set ?_ (IsS114.ge HI1.out)) | exact HB.out)); rintro e w19 ⟨rfl, hi, hb, hk⟩; refine ⟨_, rfl, ?_⟩; replace HO_10 := mS (Kd.R_mono (Kd.R_keep (IsS114.apart (show IsS114 wU _ gU lU t448 t449 from mI45_0 HI1.out) (mR HO_10.out) (by decide)) hk (fun _ h => h.2)) (fun _ h => h.1)); replace HK := mS (KeepBut.trans (mQ45_2 HK.out) hk (.inl rfl)); replace HB := mS (hb); replace HI1 := mS (hi); (try clear hb); (try clear hk); (try clear hi)))
           replace HO_10 := mS (Kd.R_drew HO_10.out)
           replace HI1 := mS (IsS114.drew HI1.out)
           replace HK := mS (keep_drew HK.out)
           replace HB := mS (below_drew1 HB.out)
           refine start_ (n := 14) (S := fun w' => True) (ds := []) (mb 0 14) (by kernel_rfl) rfl rfl trivial (fun hHeld => ?_); refine with_tabW impl_pairsAtR.tab11 impl_pairsAtR.bits11 (fun HT_ HW_ => ?_)
           generalize w19.drew = w20 at HO_10 HI1 HK HB hHeld ⊢
           refine mpu 0 48 HT_.out (mb 1 13) ?_
           refine mpu 1 49 HT_.out (mb 2 12) ?_
           refine mpu 2 50 HT_.out (mb 3 11) ?_
           refine mpu 3 51 HT_.out (mb 4 10) ?_
           refine mpu 4 52 HT_.out (mb 5 9) ?_
           refine mpu 5 53 HT_.out (mb 6 8) ?_
           refine mpu 6 54 HT_.out (mb 7 7) ?_
           refine mpu 7 55 HT_.out (mb 8 6) ?_
           refine mpu 8 56 HT_.out (mb 9 5) ?_
           refine mpu 10 58 HT_.out (mr [9,1,1,3]) ?_
           refine join_ (σ := Nat) 1 (mb 13 1) (fun s_ => [(57, .string t453), (15, .pointer (some ⟨s_, 0, none⟩)), (59, .agg #[.string ((x11_1.extract 0 ((ji11) : Int).toNat) ++ t447), .string t453, .bool t450])]) (fun s_ w' => (Kd.R k87 87 w' wB.heap.size (fun k_ => k_ ≠ s_) u10 x10_1) ∧ (w'.heap[s_]? = some (.cells #[.string (⟨#[]⟩ : ByteArray), .string (⟨#[]⟩ : ByteArray), .bool false] 87 (0, 0))) ∧ (wB.heap.size ≤ s_) ∧ (wU.heap.size ≤ s_) ∧ (gU ≠ s_) ∧ (s_ ≠ gU) ∧ (IsS114 wU w' gU lU t454 t455) ∧ (KeepBut wB w' gU none) ∧ (Below wU.heap.size wU w')) ?_ ?_
           rotate_left
           ·intro hCont
            refine two_ (i := 9) (j := 12) (Ni := some 57) (Nj := some 15) (mb 11 3) (mr [9,1,1,1,1,1]) rfl rfl rfl rfl (two_of HT_.out (by kernel_rfl)) (by decide) (by decide) (fun K hK => ?_) (fun K hK => ?_)
            ·skip
             refine goes_ Try.func82 (by kernel_rfl) rfl #[.pointer (some ⟨gU, 0, none⟩)] (by rfl) rfl rfl mA ?_
             with_reducible refine (impl_reader_text.calls kj2 gU lU t451 t452 t453 t454 t455 wU _ ?side1 ?side2 A15.out).mono ?_
             (case side1 => repeat (first | (with_reducible first | exact HI1.out | apply IsS114.alloc | apply IsS114.drewN | apply IsS114.drew | apply IsS114.set_1 | apply IsS114.set_2) | exact HI1.out))
             (case side2 => repeat (first | (with_reducible first | exact HB.out | apply below_alloc | apply pw_below_drewN | apply below_drew1 | refine below_set ?_ (IsS114.ge HI1.out)) | exact HB.out))
             rintro e w21 ⟨rfl, hi, hb, hk⟩
             refine ⟨_, rfl, ?_⟩
             replace HO_10 := mS (Kd.R_mono (Kd.R_keep (IsS114.apart (show IsS114 wU _ gU lU t451 t452 from mI45_0 HI1.out) (mR HO_10.out) (by decide)) hk (fun _ h => h.2)) (fun _ h => h.1))
             replace HK := mS (KeepBut.trans (mQ45_2 HK.out) hk (.inl rfl))
             replace HB := mS (hb)
             replace HI1 := mS (hi)
             (try clear hb)
             (try clear hb2)
             (try clear hk)
             (try clear hi)
             refine hK.out _ _ trivial (fun hHeld => ?_)
             clear hK K
             refine mno 57 ?_
             refine mpu 11 59 HT_.out (mb 12 2) ?_
             refine mone 12 (some 15) HT_.out (mb 13 1) (fun K hK => ?_)
             refine box_step ?hg (N := 15) ?hd (cs := #[.string (⟨#[]⟩ : ByteArray), .string (⟨#[]⟩ : ByteArray), .bool false]) (t := 87) ?hr ?_; (case hd => rfl); (case hg => rfl); (case hr => first | (go_simp; done) | (go_simp; rfl))
             intro gb456 hg w22 hbox hb
             replace HO_10 := mS (Kd.R_below (Kd.R_elderB (mR HO_10.out) gb456 (Nat.le_of_eq hg.symm)) hb)
             replace HB := mS (below_step (mH45_4 HB.out (IsS114.ge HI1.out)) hb)
             have BK456 := mS (hbox)
             have GW456 := mS ((by rw [hg]; exact (keep_size (w := wB) (g := gU) (row := none) (mQ45_2 HK.out)) : wB.heap.size ≤ gb456))
             have GE456 := mS ((Nat.le_trans HW0.out (by rw [hg]; exact (keep_size (w := wB) (g := gU) (row := none) (mQ45_2 HK.out)) : wB.heap.size ≤ gb456) : wU.heap.size ≤ gb456))
             replace HK := mS (KeepBut.trans (mQ45_2 HK.out) (KeepBut.of_below hb gU none) (.inl rfl))
             have NB1_456 := mS ((by rw [hg]; exact Nat.ne_of_lt (IsS114.lt (show IsS114 wU _ gU lU t454 t455 from mI45_0 HI1.out)) : gU ≠ gb456))
             have NB456_1 := mS ((by rw [hg]; exact Nat.ne_of_gt (IsS114.lt (show IsS114 wU _ gU lU t454 t455 from mI45_0 HI1.out)) : gb456 ≠ gU))
             replace HI1 := mS (IsS114.below (mI45_0 HI1.out) hb)
             clear hb hbox hg
             refine hK.out _ _ trivial (fun hHeld => ?_)
             clear hK K
             refine mno 15 ?_
             exact norm_ mU (hCont (gb456) _ ⟨(by refine mR ?_; exact Kd.R_mono HO_10.out (fun _ hk => hk.2)), (mK BK456.out), GW456.out, GE456.out, NB1_456.out, NB456_1.out, (mI45_1 HI1.out NB1_456.out), (mQ45_3 HK.out GW456.out), (mH45_5 HB.out (IsS114.ge HI1.out) GE456.out)⟩)
            ·skip
             refine box_step ?hg (N := 15) ?hd (cs := #[.string (⟨#[]⟩ : ByteArray), .string (⟨#[]⟩ : ByteArray), .bool false]) (t := 87) ?hr ?_; (case hd => rfl); (case hg => rfl); (case hr => first | (go_simp; done) | (go_simp; rfl))
             intro gb456 hg w21 hbox hb
             replace HO_10 := mS (Kd.R_below (Kd.R_elderB (mR HO_10.out) gb456 (Nat.le_of_eq hg.symm)) hb)
             replace HB := mS (below_step (mH45_4 HB.out (IsS114.ge HI1.out)) hb)
             have BK456 := mS (hbox)
             have GW456 := mS ((by rw [hg]; exact (keep_size (w := wB) (g := gU) (row := none) (mQ45_2 HK.out)) : wB.heap.size ≤ gb456))
             have GE456 := mS ((Nat.le_trans HW0.out (by rw [hg]; exact (keep_size (w := wB) (g := gU) (row := none) (mQ45_2 HK.out)) : wB.heap.size ≤ gb456) : wU.heap.size ≤ gb456))
             replace HK := mS (KeepBut.trans (mQ45_2 HK.out) (KeepBut.of_below hb gU none) (.inl rfl))
             have NB1_456 := mS ((by rw [hg]; exact Nat.ne_of_lt (IsS114.lt (show IsS114 wU _ gU lU t451 t452 from mI45_0 HI1.out)) : gU ≠ gb456))
             have NB456_1 := mS ((by rw [hg]; exact Nat.ne_of_gt (IsS114.lt (show IsS114 wU _ gU lU t451 t452 from mI45_0 HI1.out)) : gb456 ≠ gU))
             replace HI1 := mS (IsS114.below (mI45_0 HI1.out) hb)
             clear hb hbox hg
             refine hK.out _ _ trivial (fun hHeld => ?_)
             clear hK K
             refine mno 15 ?_
             refine mone 9 (some 57) HT_.out (mr [11,1,1,1]) (fun K hK => ?_)
             refine goes_ Try.func82 (by kernel_rfl) rfl #[.pointer (some ⟨gU, 0, none⟩)] (by rfl) rfl rfl mA ?_
             with_reducible refine (impl_reader_text.calls kj2 gU lU t451 t452 t453 t454 t455 wU _ ?side1 ?side2 A15.out).mono ?_
             (case side1 => repeat (first | (with_reducible first | exact HI1.out | apply IsS114.alloc | apply IsS114.drewN | apply IsS114.drew | apply IsS114.set_1 | apply IsS114.set_2 | refine IsS114.far ?_ NB1_456.out _) | exact HI1.out))
             (case side2 => repeat (first | (with_reducible first | exact HB.out | apply below_alloc | apply pw_below_drewN | apply below_drew1 | refine below_set ?_ (IsS114.ge HI1.out) | refine below_set ?_ GE456.out) | exact HB.out))
             rintro e w22 ⟨rfl, hi, hb, hk⟩
             refine ⟨_, rfl, ?_⟩
             replace HO_10 := mS (Kd.R_mono (Kd.R_keep (IsS114.apart (show IsS114 wU _ gU lU t451 t452 from mI45_1 HI1.out NB1_456.out) (mR HO_10.out) (by decide)) hk (fun _ h => h.2)) (fun _ h => h.1))
             replace BK456 := mS (KeepBut.blk hk (g' := gb456) (o := .cells #[.string (⟨#[]⟩ : ByteArray), .string (⟨#[]⟩ : ByteArray), .bool false] 87 (0, 0)) (mK BK456.out) NB456_1.out (by simp))
             replace HK := mS (KeepBut.trans (mQ45_3 HK.out GW456.out) hk (.inl rfl))
             replace HB := mS (hb)
             replace HI1 := mS (hi)
             (try clear hb)
             (try clear hb2)
             (try clear hk)
             (try clear hi)
             refine hK.out _ _ trivial (fun hHeld => ?_)
             clear hK K
             refine mno 57 ?_
             refine mpu 11 59 HT_.out (mb 13 1) ?_
             exact norm_ mU (hCont (gb456) _ ⟨(by refine mR ?_; exact Kd.R_mono HO_10.out (fun _ hk => hk.2)), (mK BK456.out), GW456.out, GE456.out, NB1_456.out, NB456_1.out, (mI45_1 HI1.out NB1_456.out), (mQ45_3 HK.out GW456.out), (mH45_5 HB.out (IsS114.ge HI1.out) GE456.out)⟩)
           rintro gb456 w23 ⟨h0_, h1_, h2_, h3_, h4_, h5_, h6_, h7_, h8_⟩
           replace HO_10 : Aside0 (Kd.R k87 87 w23 wB.heap.size (fun k_ => k_ ≠ gb456) u10 x10_1) := ⟨h0_⟩
           have BK456 : Aside0 (w23.heap[gb456]? = some (.cells #[.string (⟨#[]⟩ : ByteArray), .string (⟨#[]⟩ : ByteArray), .bool false] 87 (0, 0))) := ⟨h1_⟩
           have GW456 : Aside0 (wB.heap.size ≤ gb456) := ⟨h2_⟩
           have GE456 : Aside0 (wU.heap.size ≤ gb456) := ⟨h3_⟩
           have NB1_456 : Aside0 (gU ≠ gb456) := ⟨h4_⟩
           have NB456_1 : Aside0 (gb456 ≠ gU) := ⟨h5_⟩
           replace HI1 : Aside0 (IsS114 wU w23 gU lU t454 t455) := ⟨h6_⟩
           replace HK : Aside0 (KeepBut wB w23 gU none) := ⟨h7_⟩
           replace HB : Aside0 (Below wU.heap.size wU w23) := ⟨h8_⟩
           clear h0_ h1_ h2_ h3_ h4_ h5_ h6_ h7_ h8_
           have hHeld := trivial
           refine mnp ?_
           refine mone 13 none HT_.out (mb 14 0) (fun K hK => ?_)
           have hs24 : w23.cell? ⟨gb456, 0, none⟩ = some (.string (⟨#[]⟩ : ByteArray)) := mZ BK456.out 0
           have hfs24 := blk_frozen BK456.out 0
           have hs25 : w23.cell? ⟨gb456, 1, none⟩ = some (.string (⟨#[]⟩ : ByteArray)) := mZ BK456.out 1
           have hfs25 := blk_frozen BK456.out 1
           have hs26 : w23.cell? ⟨gb456, 2, none⟩ = some (.bool false) := mZ BK456.out 2
           have hfs26 := blk_frozen BK456.out 2
           refine skip_ (w1 := ?_) (by rfl) rfl ?_ ?_
           rotate_left
           ·go_simp
            rfl
           refine hK.out _ _ trivial (fun hHeld => ?_)
           clear hK K
           refine done_ (done_of HT_.out (by kernel_rfl)) ?_
           try go_wp2
           go_ret2
           exact ⟨_, by first | rfl | (simp [errW_none, errW_some] <;> rfl) | (simp only [← hji11]; first | rfl | (simp [errW_none, errW_some] <;> rfl)) | (simp [*, errW_none, errW_some] <;> rfl), Kd.R_lower (by first | exact Kd.R_nil _ _ _ _ _ | exact Kd.N_nil _ _ _ _ _ | exact Kd.V_nil _ _ _ _ _ | exact Kd.Q_nil _ _ _ _ _ | exact Kd.S_nil _ _ _ _ _) HLE.out, below_step HBA.out (mH45_5 HB.out (IsS114.ge HI1.out) GE456.out)⟩
          ·rw [if_neg c16] at H
           have c16b0 : decide ((x11_1.size : Int) < t444) = false := decide_eq_false c16
           clear c16
           by_cases c27 : x10_1.length < 3518437208883
           ·rw [if_pos c27] at H
            have LMc27 := mS c27
            clear c27
            obtain ⟨y457, hy457⟩ : ∃ y_ : List (S87), y_ = (x10_1 ++ [(⟨(x11_1.extract 0 ((ji11) : Int).toNat) ++ t447, t453, t450⟩ : S87)]) := ⟨_, rfl⟩
            replace H : (impl_pairsAtR.l0 kj2 lU y457 ((x11_1.extract 0 ((ji11) : Int).toNat) ++ t447) lU t454 t455) = some (rU1, rU2, rU3, rU4) := by first | (rw [hy457]; with_reducible exact H) | (have H2_ := (Option.bind_some _ _).symm.trans H; rw [hy457]; with_reducible exact H2_) | (have H2_ := (Option.bind_some _ _).symm.trans H; with_reducible exact H2_) | with_reducible exact H | (rw [hy457]; exact H) | exact H
            have Ny457 := mS hy457
            clear hy457
            have H' := mS H
            clear H
            try go_wp2_with (first | ((with_reducible refine gate_callee (f := 81) rfl ?_); refine mGo 43 Try.func81 #[.pointer (some ⟨gU, 0, none⟩)] ?_; (with_reducible refine (impl_reader_num.calls kj2 gU lU x2001_1 x2002_1 t444 t445 t446 wU _ ?side1 ?side2 A8.out).mono ?_); (case side1 => repeat (first | (with_reducible first | exact HI1.out | apply IsS114.alloc | apply IsS114.drewN | apply IsS114.drew | apply IsS114.set_1 | apply IsS114.set_2) | exact HI1.out)); (case side2 => repeat (first | (with_reducible first | exact HB.out | apply below_alloc | apply pw_below_drewN | apply below_drew1 | refine below_set ?_ (IsS114.ge HI1.out)) | exact HB.out)); rintro e w28 ⟨rfl, hi, hb, hk⟩; refine ⟨_, rfl, ?_⟩; replace HO_10 := mS (Kd.R_mono (Kd.R_keep (IsS114.apart (show IsS114 wU _ gU lU x2001_1 x2002_1 from mI45_0 HI1.out) (mR HO_10.out) (by decide)) hk (fun _ h => h.2)) (fun _ h => h.1)); replace HK := mS (KeepBut.trans (mQ45_2 HK.out) hk (.inl rfl)); replace HB := mS (hb); replace HI1 := mS (hi); (try clear hb); (try clear hk); (try clear hi)) | ((with_reducible refine gate_callee (f := 82) rfl ?_); refine mGo 45 Try.func82 #[.pointer (some ⟨gU, 0, none⟩)] ?_; (with_reducible refine (impl_reader_text.calls kj2 gU lU t445 t446 t447 t448 t449 wU _ ?side1 ?side2 A9.out).mono ?_); (case side1 => repeat (first | (with_reducible first | exact HI1.out | apply IsS114.alloc | apply IsS114.drewN | apply IsS114.drew | apply IsS114.set_1 | apply IsS114.set_2) | exact HI1.out)); (case side2 => repeat (first | (with_reducible first | exact HB.out | apply below_alloc | apply pw_below_drewN | apply below_drew1 | refine below_set ?_ (IsS114.ge HI1.out)) | exact HB.out)); rintro e w29 ⟨rfl, hi, hb, hk⟩; refine ⟨_, rfl, ?_⟩; replace HO_10 := mS (Kd.R_mono (Kd.R_keep (IsS114.apart (show IsS114 wU _ gU lU t445 t446 from mI45_0 HI1.out) (mR HO_10.out) (by decide)) hk (fun _ h => h.2)) (fun _ h => h.1)); replace HK := mS (KeepBut.trans (mQ45_2 HK.out) hk (.inl rfl)); replace HB := mS (hb); replace HI1 := mS (hi); (try clear hb); (try clear hk); (try clear hi)) | ((with_reducible refine gate_callee (f := 83) rfl ?_); refine mGo 47 Try.func83 #[.pointer (some ⟨gU, 0, none⟩)] ?_; (with_reducible refine (impl_reader_flag.calls kj2 gU lU t448 t449 t450 t451 t452 wU _ ?side1 ?side2 A10.out).mono ?_); (case side1 => repeat (first | (with_reducible first | exact HI1.out | apply IsS114.alloc | apply IsS114.drewN | apply IsS114.drew | apply IsS114.set_1 | apply IsS114.set_2) | exact HI1.out)); (case side2 => repeat (first | (with_reducible first | exact HB.out | apply below_alloc | apply pw_below_drewN | apply below_drew1 | refine below_set ?_ (IsS114.ge HI1.out)) | exact HB.out)); rintro e w30 ⟨rfl, hi, hb, hk⟩; refine ⟨_, rfl, ?_⟩; replace HO_10 := mS (Kd.R_mono (Kd.R_keep (IsS114.apart (show IsS114 wU _ gU lU t448 t449 from mI45_0 HI1.out) (mR HO_10.out) (by decide)) hk (fun _ h => h.2)) (fun _ h => h.1)); replace HK := mS (KeepBut.trans (mQ45_2 HK.out) hk (.inl rfl)); replace HB := mS (hb); replace HI1 := mS (hi); (try clear hb); (try clear hk); (try clear hi)))
            replace HO_10 := mS (Kd.R_drew HO_10.out)
            replace HI1 := mS (IsS114.drew HI1.out)
            replace HK := mS (keep_drew HK.out)
            replace HB := mS (below_drew1 HB.out)
            refine start_ (n := 14) (S := fun w' => True) (ds := []) (mb 0 14) (by kernel_rfl) rfl rfl trivial (fun hHeld => ?_); refine with_tabW impl_pairsAtR.tab11 impl_pairsAtR.bits11 (fun HT_ HW_ => ?_)
            generalize w30.drew = w31 at HO_10 HI1 HK HB hHeld ⊢
            refine mpu 0 48 HT_.out (mb 1 13) ?_
            refine mpu 1 49 HT_.out (mb 2 12) ?_
            refine mpu 2 50 HT_.out (mb 3 11) ?_
            refine mpu 3 51 HT_.out (mb 4 10) ?_
            refine mpu 4 52 HT_.out (mb 5 9) ?_
            refine mpu 5 53 HT_.out (mb 6 8) ?_
            refine mpu 6 54 HT_.out (mb 7 7) ?_
            refine mpu 7 55 HT_.out (mb 8 6) ?_
            refine mpu 8 56 HT_.out (mb 9 5) ?_
            refine mpu 10 58 HT_.out (mr [9,1,1,3]) ?_
            refine join_ (σ := Nat) 1 (mb 13 1) (fun s_ => [(57, .string t453), (15, .pointer (some ⟨s_, 0, none⟩)), (59, .agg #[.string ((x11_1.extract 0 ((ji11) : Int).toNat) ++ t447), .string t453, .bool t450])]) (fun s_ w' => (Kd.R k87 87 w' wB.heap.size (fun k_ => k_ ≠ s_) u10 x10_1) ∧ (w'.heap[s_]? = some (.cells #[.string (⟨#[]⟩ : ByteArray), .string (⟨#[]⟩ : ByteArray), .bool false] 87 (0, 0))) ∧ (wB.heap.size ≤ s_) ∧ (wU.heap.size ≤ s_) ∧ (gU ≠ s_) ∧ (s_ ≠ gU) ∧ (IsS114 wU w' gU lU t454 t455) ∧ (KeepBut wB w' gU none) ∧ (Below wU.heap.size wU w')) ?_ ?_
            rotate_left
            ·intro hCont
             refine two_ (i := 9) (j := 12) (Ni := some 57) (Nj := some 15) (mb 11 3) (mr [9,1,1,1,1,1]) rfl rfl rfl rfl (two_of HT_.out (by kernel_rfl)) (by decide) (by decide) (fun K hK => ?_) (fun K hK => ?_)
             ·skip
              refine goes_ Try.func82 (by kernel_rfl) rfl #[.pointer (some ⟨gU, 0, none⟩)] (by rfl) rfl rfl mA ?_
              with_reducible refine (impl_reader_text.calls kj2 gU lU t451 t452 t453 t454 t455 wU _ ?side1 ?side2 A15.out).mono ?_
              (case side1 => repeat (first | (with_reducible first | exact HI1.out | apply IsS114.alloc | apply IsS114.drewN | apply IsS114.drew | apply IsS114.set_1 | apply IsS114.set_2) | exact HI1.out))
              (case side2 => repeat (first | (with_reducible first | exact HB.out | apply below_alloc | apply pw_below_drewN | apply below_drew1 | refine below_set ?_ (IsS114.ge HI1.out)) | exact HB.out))
              rintro e w32 ⟨rfl, hi, hb, hk⟩
              refine ⟨_, rfl, ?_⟩
              replace HO_10 := mS (Kd.R_mono (Kd.R_keep (IsS114.apart (show IsS114 wU _ gU lU t451 t452 from mI45_0 HI1.out) (mR HO_10.out) (by decide)) hk (fun _ h => h.2)) (fun _ h => h.1))
              replace HK := mS (KeepBut.trans (mQ45_2 HK.out) hk (.inl rfl))
              replace HB := mS (hb)
              replace HI1 := mS (hi)
              (try clear hb)
              (try clear hb2)
              (try clear hk)
              (try clear hi)
              refine hK.out _ _ trivial (fun hHeld => ?_)
              clear hK K
              refine mno 57 ?_
              refine mpu 11 59 HT_.out (mb 12 2) ?_
              refine mone 12 (some 15) HT_.out (mb 13 1) (fun K hK => ?_)
              refine box_step ?hg (N := 15) ?hd (cs := #[.string (⟨#[]⟩ : ByteArray), .string (⟨#[]⟩ : ByteArray), .bool false]) (t := 87) ?hr ?_; (case hd => rfl); (case hg => rfl); (case hr => first | (go_simp; done) | (go_simp; rfl))
              intro gb456 hg w33 hbox hb
              replace HO_10 := mS (Kd.R_below (Kd.R_elderB (mR HO_10.out) gb456 (Nat.le_of_eq hg.symm)) hb)
              replace HB := mS (below_step (mH45_4 HB.out (IsS114.ge HI1.out)) hb)
              have BK456 := mS (hbox)
              have GW456 := mS ((by rw [hg]; exact (keep_size (w := wB) (g := gU) (row := none) (mQ45_2 HK.out)) : wB.heap.size ≤ gb456))
              have GE456 := mS ((Nat.le_trans HW0.out (by rw [hg]; exact (keep_size (w := wB) (g := gU) (row := none) (mQ45_2 HK.out)) : wB.heap.size ≤ gb456) : wU.heap.size ≤ gb456))
              replace HK := mS (KeepBut.trans (mQ45_2 HK.out) (KeepBut.of_below hb gU none) (.inl rfl))
              have NB1_456 := mS ((by rw [hg]; exact Nat.ne_of_lt (IsS114.lt (show IsS114 wU _ gU lU t454 t455 from mI45_0 HI1.out)) : gU ≠ gb456))
              have NB456_1 := mS ((by rw [hg]; exact Nat.ne_of_gt (IsS114.lt (show IsS114 wU _ gU lU t454 t455 from mI45_0 HI1.out)) : gb456 ≠ gU))
              replace HI1 := mS (IsS114.below (mI45_0 HI1.out) hb)
              clear hb hbox hg
              refine hK.out _ _ trivial (fun hHeld => ?_)
              clear hK K
              refine mno 15 ?_
              exact norm_ mU (hCont (gb456) _ ⟨(by refine mR ?_; exact Kd.R_mono HO_10.out (fun _ hk => hk.2)), (mK BK456.out), GW456.out, GE456.out, NB1_456.out, NB456_1.out, (mI45_1 HI1.out NB1_456.out), (mQ45_3 HK.out GW456.out), (mH45_5 HB.out (IsS114.ge HI1.out) GE456.out)⟩)
             ·skip
              refine box_step ?hg (N := 15) ?hd (cs := #[.string (⟨#[]⟩ : ByteArray), .string (⟨#[]⟩ : ByteArray), .bool false]) (t := 87) ?hr ?_; (case hd => rfl); (case hg => rfl); (case hr => first | (go_simp; done) | (go_simp; rfl))
              intro gb456 hg w32 hbox hb
              replace HO_10 := mS (Kd.R_below (Kd.R_elderB (mR HO_10.out) gb456 (Nat.le_of_eq hg.symm)) hb)
              replace HB := mS (below_step (mH45_4 HB.out (IsS114.ge HI1.out)) hb)
              have BK456 := mS (hbox)
              have GW456 := mS ((by rw [hg]; exact (keep_size (w := wB) (g := gU) (row := none) (mQ45_2 HK.out)) : wB.heap.size ≤ gb456))
              have GE456 := mS ((Nat.le_trans HW0.out (by rw [hg]; exact (keep_size (w := wB) (g := gU) (row := none) (mQ45_2 HK.out)) : wB.heap.size ≤ gb456) : wU.heap.size ≤ gb456))
              replace HK := mS (KeepBut.trans (mQ45_2 HK.out) (KeepBut.of_below hb gU none) (.inl rfl))
              have NB1_456 := mS ((by rw [hg]; exact Nat.ne_of_lt (IsS114.lt (show IsS114 wU _ gU lU t451 t452 from mI45_0 HI1.out)) : gU ≠ gb456))
              have NB456_1 := mS ((by rw [hg]; exact Nat.ne_of_gt (IsS114.lt (show IsS114 wU _ gU lU t451 t452 from mI45_0 HI1.out)) : gb456 ≠ gU))
              replace HI1 := mS (IsS114.below (mI45_0 HI1.out) hb)
              clear hb hbox hg
              refine hK.out _ _ trivial (fun hHeld => ?_)
              clear hK K
              refine mno 15 ?_
              refine mone 9 (some 57) HT_.out (mr [11,1,1,1]) (fun K hK => ?_)
              refine goes_ Try.func82 (by kernel_rfl) rfl #[.pointer (some ⟨gU, 0, none⟩)] (by rfl) rfl rfl mA ?_
              with_reducible refine (impl_reader_text.calls kj2 gU lU t451 t452 t453 t454 t455 wU _ ?side1 ?side2 A15.out).mono ?_
              (case side1 => repeat (first | (with_reducible first | exact HI1.out | apply IsS114.alloc | apply IsS114.drewN | apply IsS114.drew | apply IsS114.set_1 | apply IsS114.set_2 | refine IsS114.far ?_ NB1_456.out _) | exact HI1.out))
              (case side2 => repeat (first | (with_reducible first | exact HB.out | apply below_alloc | apply pw_below_drewN | apply below_drew1 | refine below_set ?_ (IsS114.ge HI1.out) | refine below_set ?_ GE456.out) | exact HB.out))
              rintro e w33 ⟨rfl, hi, hb, hk⟩
              refine ⟨_, rfl, ?_⟩
              replace HO_10 := mS (Kd.R_mono (Kd.R_keep (IsS114.apart (show IsS114 wU _ gU lU t451 t452 from mI45_1 HI1.out NB1_456.out) (mR HO_10.out) (by decide)) hk (fun _ h => h.2)) (fun _ h => h.1))
              replace BK456 := mS (KeepBut.blk hk (g' := gb456) (o := .cells #[.string (⟨#[]⟩ : ByteArray), .string (⟨#[]⟩ : ByteArray), .bool false] 87 (0, 0)) (mK BK456.out) NB456_1.out (by simp))
              replace HK := mS (KeepBut.trans (mQ45_3 HK.out GW456.out) hk (.inl rfl))
              replace HB := mS (hb)
              replace HI1 := mS (hi)
              (try clear hb)
              (try clear hb2)
              (try clear hk)
              (try clear hi)
              refine hK.out _ _ trivial (fun hHeld => ?_)
              clear hK K
              refine mno 57 ?_
              refine mpu 11 59 HT_.out (mb 13 1) ?_
              exact norm_ mU (hCont (gb456) _ ⟨(by refine mR ?_; exact Kd.R_mono HO_10.out (fun _ hk => hk.2)), (mK BK456.out), GW456.out, GE456.out, NB1_456.out, NB456_1.out, (mI45_1 HI1.out NB1_456.out), (mQ45_3 HK.out GW456.out), (mH45_5 HB.out (IsS114.ge HI1.out) GE456.out)⟩)
            rintro gb456 w34 ⟨h0_, h1_, h2_, h3_, h4_, h5_, h6_, h7_, h8_⟩
            replace HO_10 : Aside0 (Kd.R k87 87 w34 wB.heap.size (fun k_ => k_ ≠ gb456) u10 x10_1) := ⟨h0_⟩
            have BK456 : Aside0 (w34.heap[gb456]? = some (.cells #[.string (⟨#[]⟩ : ByteArray), .string (⟨#[]⟩ : ByteArray), .bool false] 87 (0, 0))) := ⟨h1_⟩
            have GW456 : Aside0 (wB.heap.size ≤ gb456) := ⟨h2_⟩
            have GE456 : Aside0 (wU.heap.size ≤ gb456) := ⟨h3_⟩
            have NB1_456 : Aside0 (gU ≠ gb456) := ⟨h4_⟩
            have NB456_1 : Aside0 (gb456 ≠ gU) := ⟨h5_⟩
            replace HI1 : Aside0 (IsS114 wU w34 gU lU t454 t455) := ⟨h6_⟩
            replace HK : Aside0 (KeepBut wB w34 gU none) := ⟨h7_⟩
            replace HB : Aside0 (Below wU.heap.size wU w34) := ⟨h8_⟩
            clear h0_ h1_ h2_ h3_ h4_ h5_ h6_ h7_ h8_
            have hHeld := trivial
            refine mnp ?_
            refine mone 13 none HT_.out (mb 14 0) (fun K hK => ?_)
            have hs35 : w34.cell? ⟨gb456, 0, none⟩ = some (.string (⟨#[]⟩ : ByteArray)) := mZ BK456.out 0
            have hfs35 := blk_frozen BK456.out 0
            have hs36 : w34.cell? ⟨gb456, 1, none⟩ = some (.string (⟨#[]⟩ : ByteArray)) := mZ BK456.out 1
            have hfs36 := blk_frozen BK456.out 1
            have hs37 : w34.cell? ⟨gb456, 2, none⟩ = some (.bool false) := mZ BK456.out 2
            have hfs37 := blk_frozen BK456.out 2
            refine skip_ (w1 := ?_) (by rfl) rfl ?_ ?_
            rotate_left
            ·go_simp
             rfl
            refine hK.out _ _ trivial (fun hHeld => ?_)
            clear hK K
            refine done_ (done_of HT_.out (by kernel_rfl)) ?_
            have hnb38 := NB456_1.out
            have hnc38 := NB1_456.out
            obtain ⟨hcz39_0, hcz39_1, hcz39_2, hfz39_0, hfz39_1, hfz39_2⟩ := mZ3 BK456.out
            try go_wp2_with (first | ((with_reducible refine gate_builtin (b := .append) (xs := #[.tmp 64, .tmp 66]) rfl ?_); at_builtin; refine Kd.R_append k87 wB.heap.size rfl (.tmp 64) (.tmp 66) 35 87 (.agg #[(.string ⟨#[]⟩), (.string ⟨#[]⟩), (.bool false)]) 40 rfl Try.underlying35 info87 rfl (by decide) (by omega) u10 x10_1 (⟨(x11_1.extract 0 ((ji11) : Int).toNat) ++ t447, t453, t450⟩ : S87) [.string ((x11_1.extract 0 ((ji11) : Int).toNat) ++ t447), .string t453, .bool t450] (fun k_ => k_ ≠ gb456) (fun _ => False) rfl (by first | (go_simp; done) | (go_simp; rfl)) ?aP (fun _ hk => hk.elim) ?aF ?aO (Below.refl _ _) ?aS ?aL ?_; (case aP => exact k87_mkM _ _ _ (⟨(x11_1.extract 0 ((ji11) : Int).toNat) ++ t447, t453, t450⟩ : S87)); (case aF => exact (fun k_ hk => Kd.freshB (g := gb456) (o := .cells #[.string ((x11_1.extract 0 ((ji11) : Int).toNat) ++ t447), .string t453, .bool t450] 87 (0, 0)) (by refine mK ?_; refine blk_put (cs := #[.string ((x11_1.extract 0 ((ji11) : Int).toNat) ++ t447), .string t453, .bool false]) ?_ 2 _ rfl; refine mK ?_; refine blk_put (cs := #[.string ((x11_1.extract 0 ((ji11) : Int).toNat) ++ t447), .string (⟨#[]⟩ : ByteArray), .bool false]) ?_ 1 _ rfl; refine mK ?_; refine blk_put (cs := #[.string (⟨#[]⟩ : ByteArray), .string (⟨#[]⟩ : ByteArray), .bool false]) ?_ 0 _ rfl; refine mK ?_; exact BK456.out) k_ hk)); (case aO => exact (by refine mR ?_; exact Kd.R_mono (mRf3 (Kd.R_mono HO_10.out (fun k_ hk => (⟨hk, hk⟩ : _ ∧ k_ ≠ gb456)))) (fun _ hk => hk.1))); (case aS => exact (keep_size (w := wB) (g := gU) (row := none) (mQ45_3 HK.out GW456.out))); (case aL => have := LMc27.out; omega); intro v458 w40 ho hb hg hat; rw [← Ny457.out] at ho; replace BK456 := mS (blk_grown (g := gb456) (o := .cells #[.string ((x11_1.extract 0 ((ji11) : Int).toNat) ++ t447), .string t453, .bool t450] 87 (0, 0)) (by refine mK ?_; refine blk_put (cs := #[.string ((x11_1.extract 0 ((ji11) : Int).toNat) ++ t447), .string t453, .bool false]) ?_ 2 _ rfl; refine mK ?_; refine blk_put (cs := #[.string ((x11_1.extract 0 ((ji11) : Int).toNat) ++ t447), .string (⟨#[]⟩ : ByteArray), .bool false]) ?_ 1 _ rfl; refine mK ?_; refine blk_put (cs := #[.string (⟨#[]⟩ : ByteArray), .string (⟨#[]⟩ : ByteArray), .bool false]) ?_ 0 _ rfl; refine mK ?_; exact BK456.out) hg (Kd.R_away HO_10.out (fun _ hk => hk))); replace HB := mS (below_weaken (mH45_5 HB.out (IsS114.ge HI1.out) GE456.out) HL.out hb); replace HI1 := mS (IsS114.grown (IsS114.far (IsS114.far (IsS114.far HI1.out NB1_456.out _) NB1_456.out _) NB1_456.out _) hg (IsS114.own_ne HI1.out HO_10.out (by decide))); replace HK := mS (KeepBut.trans (mQ45_3 HK.out GW456.out) (KeepBut.of_grown hg gU) (Kd.R_base2 HO_10.out)); have HO459 := mS (ho); clear HO_10; clear ho hb hg hat; obtain ⟨hcz41_0, hcz41_1, hcz41_2, hfz41_0, hfz41_1, hfz41_2⟩ := mZ3 BK456.out))
            go_roundg kj2
            case measure => have := HK1.out; have := HJ2.out; omega
            case rel => exact ⟨(y457), ((x11_1.extract 0 ((ji11) : Int).toNat) ++ t447), (t454), (t455), (by first | rfl | (simp; done) | (simp only [← hji11] <;> (first | rfl | simp)) | (simp [*]; done)), H', ⟨by have := HK1.out; have := HJ2.out; omega⟩, ⟨by refine mR ?_; exact Kd.R_mono HO459.out (fun _ hk => trivial)⟩, ⟨mI45_1 HI1.out NB1_456.out⟩, ⟨mQ45_3 HK.out GW456.out⟩, ⟨mH45_5 HB.out (IsS114.ge HI1.out) GE456.out⟩⟩
           ·rw [if_neg c27] at H
            exact absurd H (by simp)
         ·rw [if_neg c14] at H
          exact absurd H (by simp)
        ·rw [if_neg c13] at H
         exact absurd H (by simp)
       ·rw [if_neg c12] at H
        exact absurd H (by simp)
      ·replace c7 := Bool.eq_false_iff.mpr c7
       subst c7
       have H1 := H
       rw [if_neg (show ¬ (false = true) by decide)] at H1
       clear H
       have H := H1
       clear H1
       simp only [Option.some.injEq, Prod.mk.injEq] at H
       obtain ⟨rfl, rfl, rfl, rfl⟩ := H
       try go_wp2
       replace HO_10 := mS (Kd.R_drew HO_10.out)
       replace HI1 := mS (IsS114.drew HI1.out)
       replace HK := mS (keep_drew HK.out)
       replace HB := mS (below_drew1 HB.out)
       obtain ⟨ASz43_0, cSz43_0, HGz43, hgz43, HSz43_0, HLz43_0⟩ := HI1.out
       have hcz43_0 := cellS114_0 HGz43
       have hcz43_1 := cellS114_1 HGz43
       have hcz43_2 := cellS114_2 HGz43
       have hfz43_1 := blk_frozen HGz43 1
       have hfz43_2 := blk_frozen HGz43 2
       clear HGz43 hgz43
       refine start_ (n := 8) (S := fun w' => w'.cell? ⟨gU, 0, none⟩ = some (.slice ASz43_0 lU.length cSz43_0) ∧ w'.cell? ⟨gU, 1, none⟩ = some (.int .i64 x2001_1) ∧ w'.cell? ⟨gU, 2, none⟩ = some (.bool x2002_1)) (ds := []) (mb 0 8) (by kernel_rfl) rfl rfl ⟨hcz43_0, hcz43_1, hcz43_2⟩ (fun hHeld => ?_); refine with_tabW impl_pairsAtR.tab16 impl_pairsAtR.bits16 (fun HT_ HW_ => ?_)
       generalize wc.drew = w42 at HO_10 HI1 HK HB hHeld ⊢
       refine mpu 0 70 HT_.out (mb 1 7) ?_
       refine mpu 1 71 HT_.out (mb 2 6) ?_
       refine mpu 2 72 HT_.out (mb 3 5) ?_
       refine mpu 3 73 HT_.out (mb 4 4) ?_
       refine mpu 6 4 HT_.out (mr [4,2,1,1]) ?_
       refine mpt 4 74 HT_.out HW_.out (mr [5,1,1,1]) hHeld ?_
       refine mpu 5 75 HT_.out (mb 7 1) ?_
       refine mpu 7 5 HT_.out (mb 8 0) ?_
       refine done_ (done_of HT_.out (by kernel_rfl)) ?_
       try go_wp2
       go_ret2
       exact ⟨_, mEw, Kd.R_lower (mR HO_10.out) HLE.out, below_step HBA.out (mH45_4 HB.out (IsS114.ge HI1.out))⟩
 ·replace c4 := Bool.eq_false_iff.mpr c4
  subst c4
  have H1 := H
  rw [if_neg (show ¬ (false = true) by decide)] at H1
  clear H
  have H := H1
  clear H1
  simp only [Option.some.injEq, Prod.mk.injEq] at H
  obtain ⟨rfl, rfl⟩ := H
  go_enter Try.func46, Try.ntmps46
  go_wp2_with (first | ((with_reducible refine gate_callee (f := 9) rfl ?_); refine mGo 19 Try.func9 #[.slice A0 l0.length c0, .int .i64 a1] ?_; (with_reducible refine (impl_Unframe.calls k _ _ l0 a1 t460 t463 false _ ?side1 ?side2 A3.out).mono ?_); (case side1 => exact mC HR0.out); (case side2 => exact HC0.out); rintro e w9 ⟨v461, rfl, ho0, hb⟩; refine ⟨_, rfl, ?_⟩; have HO462 := mS (Kd.V_lower (Kd.V_mono (ok' := fun k_ => True) ho0 (fun k_ hk_ => trivial)) (below_size (mH HB.out))); replace HB := mS (below_step (mH HB.out) hb); (try clear hb); (try clear ho0)))
  go_ret2
  exact ⟨_, mEw, by first | exact Kd.R_nil _ _ _ _ _ | exact Kd.N_nil _ _ _ _ _ | exact Kd.V_nil _ _ _ _ _ | exact Kd.Q_nil _ _ _ _ _ | exact Kd.S_nil _ _ _ _ _, (mH HB.out)⟩

/-! ### impl_keyOk: function 105 -/
def impl_keyOk.f (a0 : ByteArray) : Option (Bool) := (impl_in.f (a0.size : Int) 1 20).bind fun t469 => (some t469)
set_option maxHeartbeats 8000000 in
set_option maxRecDepth 100000 in
theorem impl_keyOk.calls (a0 : ByteArray) (r : Bool) (w : World) (h : impl_keyOk.f a0 = some r) :
  Calls Try.prog 105 #[.string a0] w fun e w' => e = .returned (.bool r) ∧ Drawn0 w w' := by
 have H : ((impl_in.f (a0.size : Int) 1 20).bind fun t469 => (some t469)) = some r := h
 clear h
 replace H := Option.bind_eq_some_iff.mp H
 obtain ⟨t469, A20, H⟩ := H
 replace H : (some t469) = some r := H
 have A2 := mS A20
 clear A20
 obtain rfl := Option.some.inj H
 go_enter Try.func105, Try.ntmps105
 go_wp2_with (first | ((with_reducible refine gate_callee (f := 37) rfl ?_); refine mGo 5 Try.func37 #[.int .i64 (a0.size : Int), .int .i64 1, .int .i64 20] ?_; (with_reducible refine (impl_in.calls (a0.size : Int) 1 20 t469 _ A2.out).mono ?_); rintro e w' ⟨rfl, ⟨nd, rfl⟩⟩; refine ⟨_, rfl, ?_⟩))
 go_ret
 exact ⟨mE, by repeat (first | exact Drawn0.refl _ | apply Drawn0.step)⟩

/-! ### impl_PairOk: function 99 -/
def impl_PairOk.f (a0_0 : ByteArray) (a0_1 : ByteArray) (a0_2 : Bool) : Option (Bool) := (impl_keyOk.f a0_0).bind fun t471 => (if t471 = true then (if (a0_1.size : Int) ≤ 20 then (if a0_2 = true then (some (a0_1.toList == ([] : List UInt8))) else (some true)) else (some false)) else (some false))
set_option maxHeartbeats 8000000 in
set_option maxRecDepth 100000 in
theorem impl_PairOk.calls (a0_0 : ByteArray) (a0_1 : ByteArray) (a0_2 : Bool) (r : Bool) (w : World) (h : impl_PairOk.f a0_0 a0_1 a0_2 = some r) :
  Calls Try.prog 99 #[.agg #[.string a0_0, .string a0_1, .bool a0_2]] w fun e w' => e = .returned (.bool r) ∧ Below w.heap.size w w' := by
 have hu87 := Try.underlying87
 have HB := mS (Below.refl w.heap.size w)
 have H : ((impl_keyOk.f a0_0).bind fun t471 => (if t471 = true then (if (a0_1.size : Int) ≤ 20 then (if a0_2 = true then (some (a0_1.toList == ([] : List UInt8))) else (some true)) else (some false)) else (some false))) = some r := h
 clear h
 replace H := Option.bind_eq_some_iff.mp H
 obtain ⟨t471, A20, H⟩ := H
 replace H : (if t471 = true then (if (a0_1.size : Int) ≤ 20 then (if a0_2 = true then (some (a0_1.toList == ([] : List UInt8))) else (some true)) else (some false)) else (some false)) = some r := H
 have A2 := mS A20
 clear A20
 by_cases c3 : t471 = true
 ·subst c3
  have H1 := H
  rw [if_pos rfl] at H1
  clear H
  have H := H1
  clear H1
  by_cases c4 : (a0_1.size : Int) ≤ 20
  ·rw [if_pos c4] at H
   have c4b0 := decide_eq_true c4
   have c4b1 : decide (a0_1.size ≤ 20) = true := decide_eq_true (by omega)
   clear c4
   by_cases c5 : a0_2 = true
   ·subst c5
    have H1 := H
    rw [if_pos rfl] at H1
    clear H
    have H := H1
    clear H1
    obtain rfl := Option.some.inj H
    go_enter Try.func99, Try.ntmps99
    go_wp2_with (first | ((with_reducible refine gate_dst (N := 1) rfl ?_); (try (refine gate_guard (by rfl) ?_; dsimp only)); refine mBx 1 #[.string a0_0, .string a0_1, .bool true] 87 ?_; intro gb470 hg w6 hbox hb; have BK470 := mS (hbox); have GW470 := mG hg (mH HB.out); have GE470 := mG hg (mH HB.out); replace HB := mS (below_step (mH HB.out) hb); clear hb hbox hg; obtain ⟨hcz7_0, hcz7_1, hcz7_2, hfz7_0, hfz7_1, hfz7_2⟩ := mZ3 BK470.out) | ((with_reducible refine gate_callee (f := 105) rfl ?_); refine mGo 5 Try.func105 #[.string a0_0] ?_; (with_reducible refine (impl_keyOk.calls a0_0 true _ A2.out).mono ?_); rintro e w' ⟨rfl, ⟨nd, rfl⟩⟩; refine ⟨_, rfl, ?_⟩))
    go_ret
    exact ⟨mEw, (mH1 HB.out GE470.out)⟩
   ·replace c5 := Bool.eq_false_iff.mpr c5
    subst c5
    have H1 := H
    rw [if_neg (show ¬ (false = true) by decide)] at H1
    clear H
    have H := H1
    clear H1
    obtain rfl := Option.some.inj H
    go_enter Try.func99, Try.ntmps99
    go_wp2_with (first | ((with_reducible refine gate_dst (N := 1) rfl ?_); (try (refine gate_guard (by rfl) ?_; dsimp only)); refine mBx 1 #[.string a0_0, .string a0_1, .bool false] 87 ?_; intro gb470 hg w8 hbox hb; have BK470 := mS (hbox); have GW470 := mG hg (mH HB.out); have GE470 := mG hg (mH HB.out); replace HB := mS (below_step (mH HB.out) hb); clear hb hbox hg; obtain ⟨hcz9_0, hcz9_1, hcz9_2, hfz9_0, hfz9_1, hfz9_2⟩ := mZ3 BK470.out) | ((with_reducible refine gate_callee (f := 105) rfl ?_); refine mGo 5 Try.func105 #[.string a0_0] ?_; (with_reducible refine (impl_keyOk.calls a0_0 true _ A2.out).mono ?_); rintro e w' ⟨rfl, ⟨nd, rfl⟩⟩; refine ⟨_, rfl, ?_⟩))
    go_ret
    exact ⟨mEw, (mH1 HB.out GE470.out)⟩
  ·rw [if_neg c4] at H
   have c4b0 := decide_eq_false c4
   have c4b1 : decide (a0_1.size ≤ 20) = false := decide_eq_false (by omega)
   clear c4
   obtain rfl := Option.some.inj H
   go_enter Try.func99, Try.ntmps99
   go_wp2_with (first | ((with_reducible refine gate_dst (N := 1) rfl ?_); (try (refine gate_guard (by rfl) ?_; dsimp only)); refine mBx 1 #[.string a0_0, .string a0_1, .bool a0_2] 87 ?_; intro gb470 hg w10 hbox hb; have BK470 := mS (hbox); have GW470 := mG hg (mH HB.out); have GE470 := mG hg (mH HB.out); replace HB := mS (below_step (mH HB.out) hb); clear hb hbox hg; obtain ⟨hcz11_0, hcz11_1, hcz11_2, hfz11_0, hfz11_1, hfz11_2⟩ := mZ3 BK470.out) | ((with_reducible refine gate_callee (f := 105) rfl ?_); refine mGo 5 Try.func105 #[.string a0_0] ?_; (with_reducible refine (impl_keyOk.calls a0_0 true _ A2.out).mono ?_); rintro e w' ⟨rfl, ⟨nd, rfl⟩⟩; refine ⟨_, rfl, ?_⟩))
   go_ret
   exact ⟨mEw, (mH1 HB.out GE470.out)⟩
 ·replace c3 := Bool.eq_false_iff.mpr c3
  subst c3
  have H1 := H
  rw [if_neg (show ¬ (false = true) by decide)] at H1
  clear H
  have H := H1
  clear H1
  obtain rfl := Option.some.inj H
  go_enter Try.func99, Try.ntmps99
  go_wp2_with (first | ((with_reducible refine gate_dst (N := 1) rfl ?_); (try (refine gate_guard (by rfl) ?_; dsimp only)); refine mBx 1 #[.string a0_0, .string a0_1, .bool a0_2] 87 ?_; intro gb470 hg w12 hbox hb; have BK470 := mS (hbox); have GW470 := mG hg (mH HB.out); have GE470 := mG hg (mH HB.out); replace HB := mS (below_step (mH HB.out) hb); clear hb hbox hg; obtain ⟨hcz13_0, hcz13_1, hcz13_2, hfz13_0, hfz13_1, hfz13_2⟩ := mZ3 BK470.out) | ((with_reducible refine gate_callee (f := 105) rfl ?_); refine mGo 5 Try.func105 #[.string a0_0] ?_; (with_reducible refine (impl_keyOk.calls a0_0 false _ A2.out).mono ?_); rintro e w' ⟨rfl, ⟨nd, rfl⟩⟩; refine ⟨_, rfl, ?_⟩))
  go_ret
  exact ⟨mEw, (mH1 HB.out GE470.out)⟩

end Go.Proofs.Ytecjamgajlpfdaa.MFnExactTablePairs
