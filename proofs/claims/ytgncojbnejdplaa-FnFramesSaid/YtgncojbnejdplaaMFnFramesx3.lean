-- Written by mp.py, this session's own printer (wip/mp.py).
import Derived.Test.YtgncojbnejdplaaVMShort
import Derived.Test.YtgncojbnejdplaaMFnFramesx0
import Derived.Test.YtgncojbnejdplaaMFnFramesx1
import Derived.Test.YtgncojbnejdplaaMFnFramesx2
namespace Go.Proofs.Ytgncojbnejdplaa.MFnFrames
open Go.RowKit Go.Proofs.YtgncojbnejdplaaW.PrintWords Go.Proofs.YtgncojbnejdplaaW.PrintLast Go.Proofs.YtgncojbnejdplaaW.PrintMore Go.Proofs.Ytgncojbnejdplaa.MWords
theorem mH61_0 {p q a0 : Prop} (x : q) (g0 : a0) (h : q → a0 → p := by intro h_ g0_; repeat (first | (with_reducible first | exact h_ | apply below_alloc | apply pw_below_drewN | apply below_drew1 | refine below_set ?_ g0_) | exact h_)) : p := h x g0
attribute [local go_sem] max2_int min2_int max_two min_two max_three min_three max_four min_four   -- for this text's walks alone
set_option linter.unusedVariables false
set_option linter.unusedSimpArgs false

/-! ### spec_DrawFrame: function 61 -/
def spec_DrawFrame.f (k : Nat) (l0 : List Int) : Option (List Int) := (spec_l1New.f k l0).bind fun bt181 => ((spec_l1Some.f k bt181.1 bt181.2.1 bt181.2.2).bind fun bt185 => (some bt185.1))
theorem spec_DrawFrame.mono : ∀ a0 k, LeO (spec_DrawFrame.f k a0) (spec_DrawFrame.f (k + 1) a0) := by
 intro a0 k
 unfold spec_DrawFrame.f
 repeat' first
   | (with_reducible exact spec_l1New.mono _ _)
   | (with_reducible exact spec_l1Some.mono _ _ _ _)
   | (with_reducible exact LeO.refl _)
   | (with_reducible exact LeO.none _)
   | (with_reducible refine LeO.ite ?_ ?_)
   | (with_reducible refine LeO.bind ?_ (fun _ => ?_))
   | exact spec_l1New.mono _ _
   | exact spec_l1Some.mono _ _ _ _
   | exact LeO.none _
   | refine LeO.ite ?_ ?_
   | refine LeO.bind ?_ (fun _ => ?_)
set_option maxHeartbeats 8000000 in
set_option maxRecDepth 100000 in
theorem spec_DrawFrame.calls (k : Nat) (A0 : Option Addr) (c0 : Nat) (l0 : List Int) (r : List Int) (w : World) (hr0 : Kd.C (Kd.int .u8) w A0 l0.length l0) (hc0 : l0.length ≤ c0) (h : spec_DrawFrame.f k l0 = some r) :
  Calls Try.prog 61 #[.slice A0 l0.length c0] w fun e w' => ∃ v0_ : Value, e = .returned (v0_) ∧ Kd.R (Kd.int .u8) 5 w' w.heap.size (fun _ => True) v0_ r ∧ Below w.heap.size w w' := by
 have HR0 := mS hr0
 have HC0 := mS hc0
 clear hr0 hc0
 have HB := mS (Below.refl w.heap.size w)
 have H : ((spec_l1New.f k l0).bind fun bt181 => ((spec_l1Some.f k bt181.1 bt181.2.1 bt181.2.2).bind fun bt185 => (some bt185.1))) = some r := h
 clear h
 replace H := Option.bind_eq_some_iff.mp H
 obtain ⟨⟨t181, t182, t183⟩, A20, H⟩ := H
 replace H : ((spec_l1Some.f k t181 t182 t183).bind fun bt185 => (some bt185.1)) = some r := H
 have A2 := mS A20
 clear A20
 replace H := Option.bind_eq_some_iff.mp H
 obtain ⟨⟨t185, t188, t189⟩, A30, H⟩ := H
 replace H : (some t185) = some r := H
 have A3 := mS A30
 clear A30
 obtain rfl := Option.some.inj H
 go_enter Try.func61, Try.ntmps61
 go_wp2_with (first | ((with_reducible refine gate_callee (f := 70) rfl ?_); refine mGo 5 Try.func70 #[.slice A0 l0.length c0] ?_; (with_reducible refine (spec_l1New.calls k _ _ l0 t181 t182 t183 w _ ?side1 ?side2 ?side3 A2.out).mono ?_); (case side1 => exact mH HB.out); (case side2 => exact HR0.out); (case side3 => exact HC0.out); rintro e w4 ⟨g184, rfl, hi, hb, hb2⟩; refine ⟨_, rfl, ?_⟩; replace HB := mS (hb); have HI184 := mS (hi); (try clear hb); (try clear hb2); (try clear hi)) | ((with_reducible refine gate_callee (f := 71) rfl ?_); refine mGo 7 Try.func71 #[.pointer (some ⟨g184, 0, none⟩)] ?_; (with_reducible refine (spec_l1Some.calls k g184 t181 t182 t183 t185 t188 t189 w _ ?side1 ?side2 A3.out).mono ?_); (case side1 => repeat (first | (with_reducible first | exact HI184.out | apply IsS123.alloc | apply IsS123.drewN | apply IsS123.drew | apply IsS123.set_1 | apply IsS123.set_2) | exact HI184.out)); (case side2 => repeat (first | (with_reducible first | exact HB.out | apply below_alloc | apply pw_below_drewN | apply below_drew1 | refine below_set ?_ (IsS123.ge HI184.out)) | exact HB.out)); rintro e w5 ⟨v186, rfl, ho0, hi, hb, hk⟩; refine ⟨_, rfl, ?_⟩; have HO187 := mS (Kd.R_lower ho0 (below_size (mH61_0 HB.out (IsS123.ge HI184.out)))); replace HB := mS (hb); replace HI184 := mS (hi); (try clear hb); (try clear hk); (try clear hi); (try clear ho0)))
 go_ret
 exact ⟨_, mEw, mR HO187.out, mH61_0 HB.out (IsS123.ge HI184.out)⟩

/-! ### laws_sameBytes: function 62 -/
def laws_sameBytes.l0 : Nat → List Int → List Int → Int → Option (Bool)
 | 0, _, _, _ => none
 | k + 1, x0, x1, x5 => if x5 < (x0.length : Int) then (if 0 ≤ x5 then (if x5 < (x1.length : Int) then (if (rd x0 x5) = (rd x1 x5) then (laws_sameBytes.l0 k x0 x1 (wrap64 (x5 + 1))) else (some false)) else (none)) else (none)) else (some true)
def laws_sameBytes.f (k : Nat) (l0 : List Int) (l1 : List Int) : Option (Bool) := if (l0.length : Int) = (l1.length : Int) then (laws_sameBytes.l0 k l0 l1 0) else (some false)
theorem laws_sameBytes.mono_l : ∀ k, (∀ y0 y1 y2, LeO (laws_sameBytes.l0 k y0 y1 y2) (laws_sameBytes.l0 (k + 1) y0 y1 y2))
 | 0 => fun _ _ _ r h => by simp [laws_sameBytes.l0] at h
 | k + 1 => by
  have ih0 := laws_sameBytes.mono_l k
  ·intro y0 y1 y2
   unfold laws_sameBytes.l0
   repeat' first
   | (with_reducible exact ih0 _ _ _)
   | (with_reducible exact LeO.refl _)
   | (with_reducible exact LeO.none _)
   | (with_reducible refine LeO.ite ?_ ?_)
   | (with_reducible refine LeO.bind ?_ (fun _ => ?_))
   | exact ih0 _ _ _
   | exact LeO.none _
   | refine LeO.ite ?_ ?_
   | refine LeO.bind ?_ (fun _ => ?_)
theorem laws_sameBytes.mono : ∀ a0 a1 k, LeO (laws_sameBytes.f k a0 a1) (laws_sameBytes.f (k + 1) a0 a1) := by
 intro a0 a1 k
 have ih0 := laws_sameBytes.mono_l k
 unfold laws_sameBytes.f
 repeat' first
   | (with_reducible exact ih0 _ _ _)
   | (with_reducible exact LeO.refl _)
   | (with_reducible exact LeO.none _)
   | (with_reducible refine LeO.ite ?_ ?_)
   | (with_reducible refine LeO.bind ?_ (fun _ => ?_))
   | exact ih0 _ _ _
   | exact LeO.none _
   | refine LeO.ite ?_ ?_
   | refine LeO.bind ?_ (fun _ => ?_)
set_option maxHeartbeats 8000000 in
set_option maxRecDepth 100000 in
theorem laws_sameBytes.calls (k : Nat) (A0 : Option Addr) (c0 : Nat) (l0 : List Int) (A1 : Option Addr) (c1 : Nat) (l1 : List Int) (r : Bool) (w : World) (hr0 : Kd.C (Kd.int .u8) w A0 l0.length l0) (hc0 : l0.length ≤ c0) (hr1 : Kd.C (Kd.int .u8) w A1 l1.length l1) (hc1 : l1.length ≤ c1) (h : laws_sameBytes.f k l0 l1 = some r) :
  Calls Try.prog 62 #[.slice A0 l0.length c0, .slice A1 l1.length c1] w fun e w' => e = .returned (.bool r) ∧ Drawn0 w w' := by
 have HR0 := mS hr0
 have HC0 := mS hc0
 clear hr0 hc0
 have HR1 := mS hr1
 have HC1 := mS hc1
 clear hr1 hc1
 have H : (if (l0.length : Int) = (l1.length : Int) then (laws_sameBytes.l0 k l0 l1 0) else (some false)) = some r := h
 clear h
 by_cases c3 : (l0.length : Int) = (l1.length : Int)
 ·rw [if_pos c3] at H
  have c3b0 : ((l0.length : Int) == (l1.length : Int)) = true := beq_iff_eq.mpr c3
  have c3b1 : ((l0.length : Int) != (l1.length : Int)) = false := bne_eq_false_iff_eq.mpr c3
  have c3b2 : (l0.length == l1.length) = true := by first | simpa using c3 | (simp at c3 ⊢; omega)
  clear c3
  have H' := mS H
  clear H
  go_enter Try.func62, Try.ntmps62
  go_wp2
  repeat (go_quiet (fail); try go_wp2)
  go_loopg [5] k (fun kq v5 w' => ∃ (x5_1 : Int), v5 = .int .i64 x5_1 ∧ Aside0 (laws_sameBytes.l0 kq l0 l1 x5_1 = some r) ∧ Aside0 (kq ≤ k) ∧ Drawn0 w w')
  case atStart => exact ⟨(0), mE, H', ⟨Nat.le_refl _⟩, by repeat (first | exact Drawn0.refl _ | apply Drawn0.step)⟩
  case round =>
   clear H'
   try clear c1
   try clear p2
   try clear c3
   try clear c3b0
   try clear c3b1
   try clear c3b2
   obtain ⟨x5_1, rfl, HA, HK1, ⟨m1, rfl⟩⟩ := hrel
   cases gk with
   | zero => exact absurd HA.out (by simp [laws_sameBytes.l0])
   | succ k1 =>
    have H := HA.out
    clear HA
    simp only [laws_sameBytes.l0] at H
    by_cases c4 : x5_1 < (l0.length : Int)
    ·rw [if_pos c4] at H
     have c4b0 := decide_eq_true c4
     clear c4
     by_cases c5 : 0 ≤ x5_1
     ·rw [if_pos c5] at H
      have c5b0 := decide_eq_true c5
      clear c5
      by_cases c6 : x5_1 < (l1.length : Int)
      ·rw [if_pos c6] at H
       have c6b0 := decide_eq_true c6
       clear c6
       by_cases c7 : (rd l0 x5_1) = (rd l1 x5_1)
       ·rw [if_pos c7] at H
        have c7b0 : ((rd l0 x5_1) == (rd l1 x5_1)) = true := beq_iff_eq.mpr c7
        have c7b1 : ((rd l0 x5_1) != (rd l1 x5_1)) = false := bne_eq_false_iff_eq.mpr c7
        clear c7
        have H' := mS H
        clear H
        have p190 : 0 ≤ (x5_1 : Int) := mD
        have q190 : x5_1 < (l0.length : Int) := mD
        obtain ⟨ad190, e190, hx190_0⟩ := Kd.at_int HR0.out x5_1 p190 q190
        cases e190
        replace p190 := eq_true p190
        replace q190 := eq_true q190
        have p191 : 0 ≤ (x5_1 : Int) := mD
        have q191 : x5_1 < (l1.length : Int) := mD
        obtain ⟨ad191, e191, hx191_0⟩ := Kd.at_int HR1.out x5_1 p191 q191
        cases e191
        replace p191 := eq_true p191
        replace q191 := eq_true q191
        go_wp2
        repeat (go_quiet (fail); try go_wp2)
        go_roundg k1
        case measure => have := HK1.out; omega
        case rel => exact ⟨(wrap64 (x5_1 + 1)), mE, H', ⟨by have := HK1.out; omega⟩, by repeat (first | exact Drawn0.refl _ | apply Drawn0.step)⟩
       ·rw [if_neg c7] at H
        have c7b0 : ((rd l0 x5_1) == (rd l1 x5_1)) = false := beq_eq_false_iff_ne.mpr c7
        have c7b1 : ((rd l0 x5_1) != (rd l1 x5_1)) = true := bne_iff_ne.mpr c7
        obtain rfl := Option.some.inj H
        have p190 : 0 ≤ (x5_1 : Int) := mD
        have q190 : x5_1 < (l0.length : Int) := mD
        obtain ⟨ad190, e190, hx190_0⟩ := Kd.at_int HR0.out x5_1 p190 q190
        cases e190
        replace p190 := eq_true p190
        replace q190 := eq_true q190
        have p191 : 0 ≤ (x5_1 : Int) := mD
        have q191 : x5_1 < (l1.length : Int) := mD
        obtain ⟨ad191, e191, hx191_0⟩ := Kd.at_int HR1.out x5_1 p191 q191
        cases e191
        replace p191 := eq_true p191
        replace q191 := eq_true q191
        go_wp2
        repeat (go_quiet (fail); try go_wp2)
        go_ret
        exact ⟨mE, by repeat (first | exact Drawn0.refl _ | apply Drawn0.step)⟩
      ·rw [if_neg c6] at H
       exact absurd H (by simp)
     ·rw [if_neg c5] at H
      exact absurd H (by simp)
    ·rw [if_neg c4] at H
     have c4b0 := decide_eq_false c4
     clear c4
     obtain rfl := Option.some.inj H
     go_wp2
     repeat (go_quiet (fail); try go_wp2)
     go_ret
     exact ⟨mE, by repeat (first | exact Drawn0.refl _ | apply Drawn0.step)⟩
 ·rw [if_neg c3] at H
  have c3b0 : ((l0.length : Int) == (l1.length : Int)) = false := beq_eq_false_iff_ne.mpr c3
  have c3b1 : ((l0.length : Int) != (l1.length : Int)) = true := bne_iff_ne.mpr c3
  have c3b2 : (l0.length == l1.length) = false := by first | simpa using c3 | (simp at c3 ⊢; omega)
  obtain rfl := Option.some.inj H
  go_enter Try.func62, Try.ntmps62
  go_wp2
  repeat (go_quiet (fail); try go_wp2)
  go_ret
  exact ⟨mE, by repeat (first | exact Drawn0.refl _ | apply Drawn0.step)⟩

/-! ### laws_at: function 63 -/
def laws_at.f (l0 : List Int) (a1 : Int) : Option (Int) := if a1 < (l0.length : Int) then (if 0 ≤ a1 then (some (wrap64 (rd l0 a1))) else (none)) else (some (Int.tmod (wrap64 ((wrap64 (a1 * 31)) + (wrap64 ((l0.length : Int) * 7)))) 256))
set_option maxHeartbeats 8000000 in
set_option maxRecDepth 100000 in
theorem laws_at.calls (A0 : Option Addr) (c0 : Nat) (l0 : List Int) (a1 : Int) (r : Int) (w : World) (hr0 : Kd.C (Kd.int .u8) w A0 l0.length l0) (hc0 : l0.length ≤ c0) (h : laws_at.f l0 a1 = some r) :
  Calls Try.prog 63 #[.slice A0 l0.length c0, .int .i64 a1] w fun e w' => e = .returned (.int .i64 r) ∧ Drawn0 w w' := by
 have HR0 := mS hr0
 have HC0 := mS hc0
 clear hr0 hc0
 have H : (if a1 < (l0.length : Int) then (if 0 ≤ a1 then (some (wrap64 (rd l0 a1))) else (none)) else (some (Int.tmod (wrap64 ((wrap64 (a1 * 31)) + (wrap64 ((l0.length : Int) * 7)))) 256))) = some r := h
 clear h
 by_cases c3 : a1 < (l0.length : Int)
 ·rw [if_pos c3] at H
  have c3b0 := decide_eq_true c3
  clear c3
  by_cases c4 : 0 ≤ a1
  ·rw [if_pos c4] at H
   have c4b0 := decide_eq_true c4
   clear c4
   obtain rfl := Option.some.inj H
   have p192 : 0 ≤ (a1 : Int) := mD
   have q192 : a1 < (l0.length : Int) := mD
   obtain ⟨ad192, e192, hx192_0⟩ := Kd.at_int HR0.out a1 p192 q192
   cases e192
   replace p192 := eq_true p192
   replace q192 := eq_true q192
   go_enter Try.func63, Try.ntmps63
   go_wp2
   go_ret
   exact ⟨mE, by repeat (first | exact Drawn0.refl _ | apply Drawn0.step)⟩
  ·rw [if_neg c4] at H
   exact absurd H (by simp)
 ·rw [if_neg c3] at H
  have c3b0 := decide_eq_false c3
  clear c3
  obtain rfl := Option.some.inj H
  go_enter Try.func63, Try.ntmps63
  go_wp2
  go_ret
  exact ⟨mE, by repeat (first | exact Drawn0.refl _ | apply Drawn0.step)⟩

/-! ### impl_Records: function 64 -/
def impl_Records.l0 : Nat → List Int → List (List Int) → Int → Option ((List (List Int)) × Int)
 | 0, _, _, _ => none
 | k + 1, x0, x4, x5 => (impl_Unframe.f k x0 x5).bind fun bt193 => (if bt193.2.2 = true then (if x4.length < 5864062014805 then (impl_Records.l0 k x0 (x4 ++ [bt193.1]) bt193.2.1) else (none)) else (some (x4, x5)))
def impl_Records.f (k : Nat) (l0 : List Int) : Option ((List (List Int)) × Int) := impl_Records.l0 k l0 ([] : List (List Int)) 0
theorem impl_Records.mono_l : ∀ k, (∀ y0 y1 y2, LeO (impl_Records.l0 k y0 y1 y2) (impl_Records.l0 (k + 1) y0 y1 y2))
 | 0 => fun _ _ _ r h => by simp [impl_Records.l0] at h
 | k + 1 => by
  have ih0 := impl_Records.mono_l k
  ·intro y0 y1 y2
   unfold impl_Records.l0
   repeat' first
   | (with_reducible exact ih0 _ _ _)
   | (with_reducible exact impl_Unframe.mono _ _ _)
   | (with_reducible exact LeO.refl _)
   | (with_reducible exact LeO.none _)
   | (with_reducible refine LeO.ite ?_ ?_)
   | (with_reducible refine LeO.bind ?_ (fun _ => ?_))
   | exact ih0 _ _ _
   | exact impl_Unframe.mono _ _ _
   | exact LeO.none _
   | refine LeO.ite ?_ ?_
   | refine LeO.bind ?_ (fun _ => ?_)
theorem impl_Records.mono : ∀ a0 k, LeO (impl_Records.f k a0) (impl_Records.f (k + 1) a0) := by
 intro a0 k
 have ih0 := impl_Records.mono_l k
 unfold impl_Records.f
 repeat' first
   | (with_reducible exact ih0 _ _ _)
   | (with_reducible exact impl_Unframe.mono _ _ _)
   | (with_reducible exact LeO.refl _)
   | (with_reducible exact LeO.none _)
   | (with_reducible refine LeO.ite ?_ ?_)
   | (with_reducible refine LeO.bind ?_ (fun _ => ?_))
   | exact ih0 _ _ _
   | exact impl_Unframe.mono _ _ _
   | exact LeO.none _
   | refine LeO.ite ?_ ?_
   | refine LeO.bind ?_ (fun _ => ?_)
set_option maxHeartbeats 8000000 in
set_option maxRecDepth 100000 in
theorem impl_Records.calls (k : Nat) (A0 : Option Addr) (c0 : Nat) (l0 : List Int) (r1 : List (List Int)) (r2 : Int) (w : World) (hr0 : Kd.C (Kd.int .u8) w A0 l0.length l0) (hc0 : l0.length ≤ c0) (h : impl_Records.f k l0 = some (r1, r2)) :
  Calls Try.prog 64 #[.slice A0 l0.length c0] w fun e w' => ∃ v0_ : Value, e = .returned (.tuple #[v0_, .int .i64 r2]) ∧ Kd.N (Kd.slice 5 (Kd.int .u8)) 22 w' w.heap.size (fun k_ => (w.heap.size ≤ k_)) v0_ r1 ∧ Below w.heap.size w w' := by
 have HR0 := mS hr0
 have HC0 := mS hc0
 clear hr0 hc0
 have HB := mS (Below.refl w.heap.size w)
 have H : (impl_Records.l0 k l0 ([] : List (List Int)) 0) = some (r1, r2) := h
 clear h
 have H' := mS H
 clear H
 go_enter Try.func64, Try.ntmps64
 go_wp2
 go_loopg [4, 5] k (fun kq v4 v5 w' => ∃ (x4_1 : List (List Int)) (x5_1 : Int), v5 = .int .i64 x5_1 ∧ Aside0 (impl_Records.l0 kq l0 x4_1 x5_1 = some (r1, r2)) ∧ Aside0 (kq ≤ k) ∧ Aside0 (Kd.N (Kd.slice 5 (Kd.int .u8)) 22 w' w.heap.size (fun k_ => (w.heap.size ≤ k_)) v4 x4_1) ∧ Aside0 (Below w.heap.size w w'))
 case atStart => exact ⟨(([] : List (List Int))), (0), mE, H', ⟨Nat.le_refl _⟩, ⟨by first | exact Kd.S_nil _ _ _ _ _ | exact Kd.N_nil _ _ _ _ _ | exact Kd.V_nil _ _ _ _ _ | exact Kd.Q_nil _ _ _ _ _ | exact Kd.R_nil _ _ _ _ _⟩, ⟨(mH HB.out)⟩⟩
 case round =>
  clear H'
  obtain ⟨x4_1, x5_1, rfl, HA, HK1, HO_4, HB⟩ := hrel
  cases gk with
  | zero => exact absurd HA.out (by simp [impl_Records.l0])
  | succ k1 =>
   have H := HA.out
   clear HA
   simp only [impl_Records.l0] at H
   replace H := Option.bind_eq_some_iff.mp H
   obtain ⟨⟨t193, t196, t197⟩, A20, H⟩ := H
   replace H : (if t197 = true then (if x4_1.length < 5864062014805 then (impl_Records.l0 k1 l0 (x4_1 ++ [t193]) t196) else (none)) else (some (x4_1, x5_1))) = some (r1, r2) := H
   have A2 := mS A20
   clear A20
   by_cases c3 : t197 = true
   ·subst c3
    have H1 := H
    rw [if_pos rfl] at H1
    clear H
    have H := H1
    clear H1
    by_cases c4 : x4_1.length < 5864062014805
    ·rw [if_pos c4] at H
     have LMc4 := mS c4
     clear c4
     obtain ⟨y198, hy198⟩ : ∃ y_ : List (List Int), y_ = (x4_1 ++ [t193]) := ⟨_, rfl⟩
     replace H : (impl_Records.l0 k1 l0 y198 t196) = some (r1, r2) := by first | (rw [hy198]; with_reducible exact H) | (have H2_ := (Option.bind_some _ _).symm.trans H; rw [hy198]; with_reducible exact H2_) | (have H2_ := (Option.bind_some _ _).symm.trans H; with_reducible exact H2_) | with_reducible exact H | (rw [hy198]; exact H) | exact H
     have Ny198 := mS hy198
     clear hy198
     have H' := mS H
     clear H
     go_wp2_with (first | ((with_reducible refine gate_callee (f := 60) rfl ?_); refine mGo 12 Try.func60 #[.slice A0 l0.length c0, .int .i64 x5_1] ?_; (with_reducible refine (impl_Unframe.calls k1 _ _ l0 x5_1 t193 t196 true _ ?side1 ?side2 A2.out).mono ?_); (case side1 => exact mC (Kd.C_below HR0.out HB.out)); (case side2 => exact HC0.out); rintro e w5 ⟨v194, rfl, ho0, hb⟩; refine ⟨_, rfl, ?_⟩; have HO195 := mS (Kd.V_lower (Kd.V_mono (ok' := fun k_ => (w.heap.size ≤ k_) ∧ some k_ ≠ (u4 : Value).ownBlock) ho0 (fun k_ hk_ => ⟨(Nat.le_trans (below_size (mH HB.out)) hk_), (Kd.fresh' (Kd.N_lt (mNd HO_4.out)) k_ hk_)⟩)) (below_size (mH HB.out))); replace HO_4 := mS (Kd.N_below (mNd HO_4.out) hb); replace HB := mS (below_step (mH HB.out) hb); (try clear hb); (try clear ho0); obtain ⟨Ao7, co7, eo7⟩ := Kd.V_slice HO195.out; subst eo7) | ((with_reducible refine gate_builtin (b := .append) (xs := #[.tmp 20, .tmp 22]) rfl ?_); at_builtin; refine Kd.N_append (Kd.slice 5 (Kd.int .u8)) (w0 := w) w.heap.size rfl (.tmp 20) (.tmp 22) 90 22 (.slice none 0 0) 24 rfl Try.underlying90 info22 rfl (by decide) (by omega) u4 x4_1 t193 [.slice Ao7 t193.length co7] (fun k_ => (w.heap.size ≤ k_)) (fun k_ => ((fun k_ => (w.heap.size ≤ k_))) k_ ∧ some k_ ≠ (u4 : Value).ownBlock) rfl rfl ?aP (fun _ hk => hk) ?aF ?aO ?aB ?aS ?aL ?_; (case aP => exact (Kd.FK_slice_mk (Kd.V_reads' (Kd.V_mono (ok' := (fun k_ => ((fun k_ => (w.heap.size ≤ k_))) k_ ∧ some k_ ≠ (u4 : Value).ownBlock)) (HO195.out) (fun k_ hk => ⟨hk.1, hk.2⟩))).2.1 (Kd.V_F (Kd.V_mono (ok' := (fun k_ => ((fun k_ => (w.heap.size ≤ k_))) k_ ∧ some k_ ≠ (u4 : Value).ownBlock)) (HO195.out) (fun k_ hk => ⟨hk.1, hk.2⟩))))); (case aB => exact (mH HB.out)); (case aF => exact (fun k_ hk => (Nat.le_trans (below_size (mH HB.out)) hk))); (case aO => exact (mNd HO_4.out)); (case aS => exact (below_size (mH HB.out))); (case aL => have := LMc4.out; omega); intro v199 w6 ho hb hg hat; rw [← Ny198.out] at ho; replace HO195 := mS (Kd.V_afterv (ok := (fun k_ => (w.heap.size ≤ k_))) (mVd HO195.out) hg hat); replace HB := mS (hb); have HO200 := mS (ho); clear HO_4; clear ho hb hg hat))
     go_roundg k1
     case measure => have := HK1.out; omega
     case rel => exact ⟨(y198), (t196), mE, H', ⟨by have := HK1.out; omega⟩, ⟨mNd HO200.out⟩, ⟨(mH HB.out)⟩⟩
    ·rw [if_neg c4] at H
     exact absurd H (by simp)
   ·replace c3 := Bool.eq_false_iff.mpr c3
    subst c3
    have H1 := H
    rw [if_neg (show ¬ (false = true) by decide)] at H1
    clear H
    have H := H1
    clear H1
    simp only [Option.some.injEq, Prod.mk.injEq] at H
    obtain ⟨rfl, rfl⟩ := H
    go_wp2_with (first | ((with_reducible refine gate_callee (f := 60) rfl ?_); refine mGo 12 Try.func60 #[.slice A0 l0.length c0, .int .i64 x5_1] ?_; (with_reducible refine (impl_Unframe.calls k1 _ _ l0 x5_1 t193 t196 false _ ?side1 ?side2 A2.out).mono ?_); (case side1 => exact mC (Kd.C_below HR0.out HB.out)); (case side2 => exact HC0.out); rintro e w8 ⟨v194, rfl, ho0, hb⟩; refine ⟨_, rfl, ?_⟩; have HO195 := mS (Kd.V_lower (Kd.V_mono (ok' := fun k_ => (w.heap.size ≤ k_) ∧ some k_ ≠ (u4 : Value).ownBlock) ho0 (fun k_ hk_ => ⟨(Nat.le_trans (below_size (mH HB.out)) hk_), (Kd.fresh' (Kd.N_lt (mNd HO_4.out)) k_ hk_)⟩)) (below_size (mH HB.out))); replace HO_4 := mS (Kd.N_below (mNd HO_4.out) hb); replace HB := mS (below_step (mH HB.out) hb); (try clear hb); (try clear ho0)))
    go_ret2
    exact ⟨_, mEw, mNd HO_4.out, (mH HB.out)⟩

/-! ### laws_FnFrames: function 14 -/
mutual
def laws_FnFrames.j0 : Nat → List Int → List Int → List Int → Bool → Option (Bool)
 | 0, _, _, _, _ => none
 | k + 1, x0, x3, x4, x52 => if x52 = true then (some false) else ((laws_at.f x0 2).bind fun t226 => ((laws_at.f x0 3).bind fun t227 => (if (wrap64 (8 * (x4.length : Int))) = 0 then (none) else (if (wrap64 (Int.tdiv (Int.tmod (wrap64 ((wrap64 (t226 * 256)) + t227)) (wrap64 (8 * (x4.length : Int)))) 8)) = 4 then (laws_FnFrames.j1 k x0 x3 x4 (wrap64 ((Int.tmod (wrap64 ((wrap64 (t226 * 256)) + t227)) (wrap64 (8 * (x4.length : Int)))) - 8))) else (laws_FnFrames.j1 k x0 x3 x4 (Int.tmod (wrap64 ((wrap64 (t226 * 256)) + t227)) (wrap64 (8 * (x4.length : Int)))))))))
def laws_FnFrames.j1 : Nat → List Int → List Int → List Int → Int → Option (Bool)
 | 0, _, _, _, _ => none
 | k + 1, x0, x3, x4, x8 => (some (([] : List Int) : List Int)).bind fun y228 => (if y228.length + x4.length < 140737488355328 then ((some (y228 ++ x4 : List Int)).bind fun y231 => (if 0 ≤ (wrap64 (Int.tdiv x8 8)) then (if (wrap64 (Int.tdiv x8 8)) < (y231.length : Int) then (if 0 ≤ (IntKind.u64.wrap (Int.tmod x8 8)) then ((impl_Unframe.f k (y231.set ((wrap64 (Int.tdiv x8 8)) : Int).toNat (Go.bits .xor .u8 (rd y231 (wrap64 (Int.tdiv x8 8))) (shl .u8 1 (IntKind.u64.wrap (Int.tmod x8 8))))) 0).bind fun bt236 => ((laws_at.f x0 4).bind fun t241 => (if (x4.length : Int) = 0 then (none) else (if 0 ≤ (Int.tmod t241 (x4.length : Int)) then (if (Int.tmod t241 (x4.length : Int)) ≤ (x4.length : Int) then ((impl_Unframe.f k (x4.take ((Int.tmod t241 (x4.length : Int)) : Int).toNat) 0).bind fun bt247 => ((some (([] : List Int) : List Int)).bind fun y252 => (if y252.length + x4.length < 140737488355328 then ((some (y252 ++ x4 : List Int)).bind fun y255 => (if y255.length + x4.length < 140737488355328 then ((impl_Records.f k (y255 ++ x4)).bind fun bt261 => (if bt236.2.2 = true then (some false) else (if bt247.2.2 = true then (some false) else (if (bt261.1.length : Int) = 2 then (if bt261.2 = (wrap64 (2 * (x4.length : Int))) then (if 1 < (bt261.1.length : Int) then ((laws_sameBytes.f k (rd_L2 bt261.1 1) x3).bind fun t266 => (some t266)) else (none)) else (some false)) else (some false))))) else (none))) else (none)))) else (none)) else (none))))) else (none)) else (none)) else (none))) else (none))
end
def laws_FnFrames.f (k : Nat) (l0 : List Int) : Option (Bool) := (laws_big.f l0).bind fun t201 => (if t201 = true then (some true) else ((spec_DrawFrame.f k l0).bind fun t202 => ((impl_Frame.f k t202).bind fun t205 => ((some (([] : List Int) : List Int)).bind fun y208 => (if y208.length + t205.length < 140737488355328 then ((some (y208 ++ t205 : List Int)).bind fun y211 => ((some (([7, 7] : List Int) : List Int)).bind fun y214 => (if y211.length + y214.length < 140737488355328 then ((impl_Unframe.f k (y211 ++ y214) 0).bind fun bt220 => (if bt220.2.2 = true then (if bt220.2.1 = (t205.length : Int) then ((laws_sameBytes.f k bt220.1 t202).bind fun t225 => (if t225 = true then (laws_FnFrames.j0 k l0 t202 t205 (decide ((t205.length : Int) < 5))) else (laws_FnFrames.j0 k l0 t202 t205 true))) else (laws_FnFrames.j0 k l0 t202 t205 true)) else (laws_FnFrames.j0 k l0 t202 t205 true))) else (none)))) else (none))))))
theorem laws_FnFrames.mono_l : ∀ k, (∀ y0 y1 y2 y3, LeO (laws_FnFrames.j0 k y0 y1 y2 y3) (laws_FnFrames.j0 (k + 1) y0 y1 y2 y3)) ∧ (∀ y0 y1 y2 y3, LeO (laws_FnFrames.j1 k y0 y1 y2 y3) (laws_FnFrames.j1 (k + 1) y0 y1 y2 y3))
 | 0 => ⟨fun _ _ _ _ r h => by simp [laws_FnFrames.j0] at h, fun _ _ _ _ r h => by simp [laws_FnFrames.j1] at h⟩
 | k + 1 => by
  obtain ⟨ih0, ih1⟩ := laws_FnFrames.mono_l k
  refine ⟨?_, ?_⟩
  ·intro y0 y1 y2 y3
   unfold laws_FnFrames.j0
   repeat' first
   | (with_reducible exact ih0 _ _ _ _)
   | (with_reducible exact ih1 _ _ _ _)
   | (with_reducible exact impl_Frame.mono _ _)
   | (with_reducible exact impl_Records.mono _ _)
   | (with_reducible exact impl_Unframe.mono _ _ _)
   | (with_reducible exact laws_sameBytes.mono _ _ _)
   | (with_reducible exact spec_DrawFrame.mono _ _)
   | (with_reducible exact LeO.refl _)
   | (with_reducible exact LeO.none _)
   | (with_reducible refine LeO.ite ?_ ?_)
   | (with_reducible refine LeO.bind ?_ (fun _ => ?_))
   | exact ih0 _ _ _ _
   | exact ih1 _ _ _ _
   | exact impl_Frame.mono _ _
   | exact impl_Records.mono _ _
   | exact impl_Unframe.mono _ _ _
   | exact laws_sameBytes.mono _ _ _
   | exact spec_DrawFrame.mono _ _
   | exact LeO.none _
   | refine LeO.ite ?_ ?_
   | refine LeO.bind ?_ (fun _ => ?_)
  ·intro y0 y1 y2 y3
   unfold laws_FnFrames.j1
   repeat' first
   | (with_reducible exact ih0 _ _ _ _)
   | (with_reducible exact ih1 _ _ _ _)
   | (with_reducible exact impl_Frame.mono _ _)
   | (with_reducible exact impl_Records.mono _ _)
   | (with_reducible exact impl_Unframe.mono _ _ _)
   | (with_reducible exact laws_sameBytes.mono _ _ _)
   | (with_reducible exact spec_DrawFrame.mono _ _)
   | (with_reducible exact LeO.refl _)
   | (with_reducible exact LeO.none _)
   | (with_reducible refine LeO.ite ?_ ?_)
   | (with_reducible refine LeO.bind ?_ (fun _ => ?_))
   | exact ih0 _ _ _ _
   | exact ih1 _ _ _ _
   | exact impl_Frame.mono _ _
   | exact impl_Records.mono _ _
   | exact impl_Unframe.mono _ _ _
   | exact laws_sameBytes.mono _ _ _
   | exact spec_DrawFrame.mono _ _
   | exact LeO.none _
   | refine LeO.ite ?_ ?_
   | refine LeO.bind ?_ (fun _ => ?_)
theorem laws_FnFrames.mono : ∀ a0 k, LeO (laws_FnFrames.f k a0) (laws_FnFrames.f (k + 1) a0) := by
 intro a0 k
 obtain ⟨ih0, ih1⟩ := laws_FnFrames.mono_l k
 unfold laws_FnFrames.f
 repeat' first
   | (with_reducible exact ih0 _ _ _ _)
   | (with_reducible exact ih1 _ _ _ _)
   | (with_reducible exact impl_Frame.mono _ _)
   | (with_reducible exact impl_Records.mono _ _)
   | (with_reducible exact impl_Unframe.mono _ _ _)
   | (with_reducible exact laws_sameBytes.mono _ _ _)
   | (with_reducible exact spec_DrawFrame.mono _ _)
   | (with_reducible exact LeO.refl _)
   | (with_reducible exact LeO.none _)
   | (with_reducible refine LeO.ite ?_ ?_)
   | (with_reducible refine LeO.bind ?_ (fun _ => ?_))
   | exact ih0 _ _ _ _
   | exact ih1 _ _ _ _
   | exact impl_Frame.mono _ _
   | exact impl_Records.mono _ _
   | exact impl_Unframe.mono _ _ _
   | exact laws_sameBytes.mono _ _ _
   | exact spec_DrawFrame.mono _ _
   | exact LeO.none _
   | refine LeO.ite ?_ ?_
   | refine LeO.bind ?_ (fun _ => ?_)
set_option maxHeartbeats 8000000 in
set_option maxRecDepth 100000 in
theorem laws_FnFrames.calls (k : Nat) (A0 : Option Addr) (c0 : Nat) (l0 : List Int) (r : Bool) (w : World) (hr0 : Kd.C (Kd.int .u8) w A0 l0.length l0) (hc0 : l0.length ≤ c0) (ht_ : r = true) (h : laws_FnFrames.f k l0 = some r) :
  Calls Try.prog 14 #[.slice A0 l0.length c0] w fun e w' => e = .returned (.bool r) ∧ Below w.heap.size w w' := by
 have HR0 := mS hr0
 have HC0 := mS hc0
 clear hr0 hc0
 have HB := mS (Below.refl w.heap.size w)
 have H : ((laws_big.f l0).bind fun t201 => (if t201 = true then (some true) else ((spec_DrawFrame.f k l0).bind fun t202 => ((impl_Frame.f k t202).bind fun t205 => ((some (([] : List Int) : List Int)).bind fun y208 => (if y208.length + t205.length < 140737488355328 then ((some (y208 ++ t205 : List Int)).bind fun y211 => ((some (([7, 7] : List Int) : List Int)).bind fun y214 => (if y211.length + y214.length < 140737488355328 then ((impl_Unframe.f k (y211 ++ y214) 0).bind fun bt220 => (if bt220.2.2 = true then (if bt220.2.1 = (t205.length : Int) then ((laws_sameBytes.f k bt220.1 t202).bind fun t225 => (if t225 = true then (laws_FnFrames.j0 k l0 t202 t205 (decide ((t205.length : Int) < 5))) else (laws_FnFrames.j0 k l0 t202 t205 true))) else (laws_FnFrames.j0 k l0 t202 t205 true)) else (laws_FnFrames.j0 k l0 t202 t205 true))) else (none)))) else (none))))))) = some r := h
 clear h
 replace H := Option.bind_eq_some_iff.mp H
 obtain ⟨t201, A20, H⟩ := H
 replace H : (if t201 = true then (some true) else ((spec_DrawFrame.f k l0).bind fun t202 => ((impl_Frame.f k t202).bind fun t205 => ((some (([] : List Int) : List Int)).bind fun y208 => (if y208.length + t205.length < 140737488355328 then ((some (y208 ++ t205 : List Int)).bind fun y211 => ((some (([7, 7] : List Int) : List Int)).bind fun y214 => (if y211.length + y214.length < 140737488355328 then ((impl_Unframe.f k (y211 ++ y214) 0).bind fun bt220 => (if bt220.2.2 = true then (if bt220.2.1 = (t205.length : Int) then ((laws_sameBytes.f k bt220.1 t202).bind fun t225 => (if t225 = true then (laws_FnFrames.j0 k l0 t202 t205 (decide ((t205.length : Int) < 5))) else (laws_FnFrames.j0 k l0 t202 t205 true))) else (laws_FnFrames.j0 k l0 t202 t205 true)) else (laws_FnFrames.j0 k l0 t202 t205 true))) else (none)))) else (none)))))) = some r := H
 have A2 := mS A20
 clear A20
 by_cases c3 : t201 = true
 ·subst c3
  have H1 := H
  rw [if_pos rfl] at H1
  clear H
  have H := H1
  clear H1
  obtain rfl := Option.some.inj H
  go_enter Try.func14, Try.ntmps14
  go_wp2_with (first | ((with_reducible refine gate_callee (f := 23) rfl ?_); refine mGo 19 Try.func23 #[.slice A0 l0.length c0] ?_; (with_reducible refine (laws_big.calls _ _ l0 true _ ?side1 ?side2 A2.out).mono ?_); (case side1 => exact mC HR0.out); (case side2 => exact HC0.out); rintro e w' ⟨rfl, ⟨nd, rfl⟩⟩; refine ⟨_, rfl, ?_⟩))
  go_ret
  exact ⟨mEw, (mH HB.out)⟩
 ·replace c3 := Bool.eq_false_iff.mpr c3
  subst c3
  have H1 := H
  rw [if_neg (show ¬ (false = true) by decide)] at H1
  clear H
  have H := H1
  clear H1
  replace H := Option.bind_eq_some_iff.mp H
  obtain ⟨t202, A40, H⟩ := H
  replace H : ((impl_Frame.f k t202).bind fun t205 => ((some (([] : List Int) : List Int)).bind fun y208 => (if y208.length + t205.length < 140737488355328 then ((some (y208 ++ t205 : List Int)).bind fun y211 => ((some (([7, 7] : List Int) : List Int)).bind fun y214 => (if y211.length + y214.length < 140737488355328 then ((impl_Unframe.f k (y211 ++ y214) 0).bind fun bt220 => (if bt220.2.2 = true then (if bt220.2.1 = (t205.length : Int) then ((laws_sameBytes.f k bt220.1 t202).bind fun t225 => (if t225 = true then (laws_FnFrames.j0 k l0 t202 t205 (decide ((t205.length : Int) < 5))) else (laws_FnFrames.j0 k l0 t202 t205 true))) else (laws_FnFrames.j0 k l0 t202 t205 true)) else (laws_FnFrames.j0 k l0 t202 t205 true))) else (none)))) else (none)))) = some r := H
  have A4 := mS A40
  clear A40
  replace H := Option.bind_eq_some_iff.mp H
  obtain ⟨t205, A50, H⟩ := H
  replace H : ((some (([] : List Int) : List Int)).bind fun y208 => (if y208.length + t205.length < 140737488355328 then ((some (y208 ++ t205 : List Int)).bind fun y211 => ((some (([7, 7] : List Int) : List Int)).bind fun y214 => (if y211.length + y214.length < 140737488355328 then ((impl_Unframe.f k (y211 ++ y214) 0).bind fun bt220 => (if bt220.2.2 = true then (if bt220.2.1 = (t205.length : Int) then ((laws_sameBytes.f k bt220.1 t202).bind fun t225 => (if t225 = true then (laws_FnFrames.j0 k l0 t202 t205 (decide ((t205.length : Int) < 5))) else (laws_FnFrames.j0 k l0 t202 t205 true))) else (laws_FnFrames.j0 k l0 t202 t205 true)) else (laws_FnFrames.j0 k l0 t202 t205 true))) else (none)))) else (none))) = some r := H
  have A5 := mS A50
  clear A50
  obtain ⟨y208, hy208⟩ : ∃ y_ : List Int, y_ = (([] : List Int)) := ⟨_, rfl⟩
  replace H : (if y208.length + t205.length < 140737488355328 then ((some (y208 ++ t205 : List Int)).bind fun y211 => ((some (([7, 7] : List Int) : List Int)).bind fun y214 => (if y211.length + y214.length < 140737488355328 then ((impl_Unframe.f k (y211 ++ y214) 0).bind fun bt220 => (if bt220.2.2 = true then (if bt220.2.1 = (t205.length : Int) then ((laws_sameBytes.f k bt220.1 t202).bind fun t225 => (if t225 = true then (laws_FnFrames.j0 k l0 t202 t205 (decide ((t205.length : Int) < 5))) else (laws_FnFrames.j0 k l0 t202 t205 true))) else (laws_FnFrames.j0 k l0 t202 t205 true)) else (laws_FnFrames.j0 k l0 t202 t205 true))) else (none)))) else (none)) = some r := by first | (rw [hy208]; with_reducible exact H) | (have H2_ := (Option.bind_some _ _).symm.trans H; rw [hy208]; with_reducible exact H2_) | (have H2_ := (Option.bind_some _ _).symm.trans H; with_reducible exact H2_) | with_reducible exact H | (rw [hy208]; exact H) | exact H
  have Ny208 := mS hy208
  clear hy208
  by_cases c6 : y208.length + t205.length < 140737488355328
  ·rw [if_pos c6] at H
   have LMc6 := mS c6
   clear c6
   obtain ⟨y211, hy211⟩ : ∃ y_ : List Int, y_ = (y208 ++ t205) := ⟨_, rfl⟩
   replace H : ((some (([7, 7] : List Int) : List Int)).bind fun y214 => (if y211.length + y214.length < 140737488355328 then ((impl_Unframe.f k (y211 ++ y214) 0).bind fun bt220 => (if bt220.2.2 = true then (if bt220.2.1 = (t205.length : Int) then ((laws_sameBytes.f k bt220.1 t202).bind fun t225 => (if t225 = true then (laws_FnFrames.j0 k l0 t202 t205 (decide ((t205.length : Int) < 5))) else (laws_FnFrames.j0 k l0 t202 t205 true))) else (laws_FnFrames.j0 k l0 t202 t205 true)) else (laws_FnFrames.j0 k l0 t202 t205 true))) else (none))) = some r := by first | (rw [hy211]; with_reducible exact H) | (have H2_ := (Option.bind_some _ _).symm.trans H; rw [hy211]; with_reducible exact H2_) | (have H2_ := (Option.bind_some _ _).symm.trans H; with_reducible exact H2_) | with_reducible exact H | (rw [hy211]; exact H) | exact H
   have Ny211 := mS hy211
   clear hy211
   obtain ⟨y214, hy214⟩ : ∃ y_ : List Int, y_ = (([7, 7] : List Int)) := ⟨_, rfl⟩
   replace H : (if y211.length + y214.length < 140737488355328 then ((impl_Unframe.f k (y211 ++ y214) 0).bind fun bt220 => (if bt220.2.2 = true then (if bt220.2.1 = (t205.length : Int) then ((laws_sameBytes.f k bt220.1 t202).bind fun t225 => (if t225 = true then (laws_FnFrames.j0 k l0 t202 t205 (decide ((t205.length : Int) < 5))) else (laws_FnFrames.j0 k l0 t202 t205 true))) else (laws_FnFrames.j0 k l0 t202 t205 true)) else (laws_FnFrames.j0 k l0 t202 t205 true))) else (none)) = some r := by first | (rw [hy214]; with_reducible exact H) | (have H2_ := (Option.bind_some _ _).symm.trans H; rw [hy214]; with_reducible exact H2_) | (have H2_ := (Option.bind_some _ _).symm.trans H; with_reducible exact H2_) | with_reducible exact H | (rw [hy214]; exact H) | exact H
   have Ny214 := mS hy214
   clear hy214
   by_cases c7 : y211.length + y214.length < 140737488355328
   ·rw [if_pos c7] at H
    have LMc7 := mS c7
    clear c7
    obtain ⟨y217, hy217⟩ : ∃ y_ : List Int, y_ = (y211 ++ y214) := ⟨_, rfl⟩
    replace H : ((impl_Unframe.f k y217 0).bind fun bt220 => (if bt220.2.2 = true then (if bt220.2.1 = (t205.length : Int) then ((laws_sameBytes.f k bt220.1 t202).bind fun t225 => (if t225 = true then (laws_FnFrames.j0 k l0 t202 t205 (decide ((t205.length : Int) < 5))) else (laws_FnFrames.j0 k l0 t202 t205 true))) else (laws_FnFrames.j0 k l0 t202 t205 true)) else (laws_FnFrames.j0 k l0 t202 t205 true))) = some r := by first | (rw [hy217]; with_reducible exact H) | (have H2_ := (Option.bind_some _ _).symm.trans H; rw [hy217]; with_reducible exact H2_) | (have H2_ := (Option.bind_some _ _).symm.trans H; with_reducible exact H2_) | with_reducible exact H | (rw [hy217]; exact H) | exact H
    have Ny217 := mS hy217
    clear hy217
    replace H := Option.bind_eq_some_iff.mp H
    obtain ⟨⟨t220, t223, t224⟩, A80, H⟩ := H
    replace H : (if t224 = true then (if t223 = (t205.length : Int) then ((laws_sameBytes.f k t220 t202).bind fun t225 => (if t225 = true then (laws_FnFrames.j0 k l0 t202 t205 (decide ((t205.length : Int) < 5))) else (laws_FnFrames.j0 k l0 t202 t205 true))) else (laws_FnFrames.j0 k l0 t202 t205 true)) else (laws_FnFrames.j0 k l0 t202 t205 true)) = some r := H
    have A8 := mS A80
    clear A80
    have HC9 := mS H
    clear H
    go_enter Try.func14, Try.ntmps14
    go_upto_region 6 with (first | ((with_reducible refine gate_callee (f := 23) rfl ?_); refine mGo 19 Try.func23 #[.slice A0 l0.length c0] ?_; (with_reducible refine (laws_big.calls _ _ l0 false _ ?side1 ?side2 A2.out).mono ?_); (case side1 => exact mC HR0.out); (case side2 => exact HC0.out); rintro e w' ⟨rfl, ⟨nd, rfl⟩⟩; refine ⟨_, rfl, ?_⟩) | ((with_reducible refine gate_callee (f := 61) rfl ?_); refine mGo 21 Try.func61 #[.slice A0 l0.length c0] ?_; (with_reducible refine (spec_DrawFrame.calls k _ _ l0 t202 _ ?side1 ?side2 A4.out).mono ?_); (case side1 => exact mC HR0.out); (case side2 => exact HC0.out); rintro e w10 ⟨v203, rfl, ho0, hb⟩; refine ⟨_, rfl, ?_⟩; have HO204 := mS (Kd.R_lower ho0 (below_size (mH HB.out))); replace HB := mS (below_step (mH HB.out) hb); (try clear hb); (try clear ho0); obtain ⟨Ao11, co11, eo11⟩ := Kd.R_slice HO204.out; subst eo11) | ((with_reducible refine gate_callee (f := 32) rfl ?_); refine mGo 23 Try.func32 #[.slice Ao11 t202.length co11] ?_; (with_reducible refine (impl_Frame.calls k _ _ t202 t205 _ ?side1 ?side2 A5.out).mono ?_); (case side1 => exact mC (Kd.R_reads' HO204.out).2.2); (case side2 => exact (Kd.R_reads' HO204.out).2.1); rintro e w12 ⟨v206, rfl, ho0, hb⟩; refine ⟨_, rfl, ?_⟩; have HO207 := mS (Kd.R_lower (Kd.R_new' ho0 (Kd.R_lt (mR HO204.out))) (below_size (mH HB.out))); replace HO204 := mS (Kd.R_elder' (mR HO204.out) (Kd.R_base ho0) hb); replace HB := mS (below_step (mH HB.out) hb); (try clear hb); (try clear ho0)) | ((with_reducible refine gate_dst (N := 25) rfl ?_); (try (refine gate_guard (by rfl) ?_; dsimp only)); refine Kd.R_lit (Kd.int .u8) _ 5 ?hg (N := 25) ?hd (xs := ([] : List Int)) (inner := []) (ok := fun _ => True) (okp := fun _ => True) ?hr ?hp (fun _ hk => hk) trivial (Below.refl _ _) (Nat.le_refl _) (by simp) ?_; (case hd => rfl); (case hg => rfl); (case hr => first | (go_simp; done) | (go_simp; rfl)); (case hp => exact (Reps.none _ _)); intro v209 w13 ho14 hb hg_ hnew_; clear hg_ hnew_; (first | rw [← Ny208.out] at ho14 | (simp only [Int.reduceToNat] at ho14; rw [← Ny208.out] at ho14)); have HO210 := mS (Kd.R_lower (Kd.R_new' (Kd.R_new' ho14 (Kd.R_lt (mR HO204.out))) (Kd.R_lt (mR HO207.out))) (below_size (mH HB.out))); replace HO204 := mS (Kd.R_elder' (mR HO204.out) (Kd.R_base ho14) hb); replace HO207 := mS (Kd.R_elder' (mR HO207.out) (Kd.R_base ho14) hb); replace HB := mS (below_step (mH HB.out) hb); clear hb ho14; obtain ⟨Ao16, co16, eo16⟩ := Kd.R_slice HO207.out; subst eo16) | ((with_reducible refine gate_builtin (b := .append) (xs := #[.tmp 25, .tmp 26]) rfl ?_); (try (refine gate_guard (by rfl) ?_; dsimp only)); at_builtin; refine Kd.R_append_rows (Kd.int .u8) (w0 := w) w.heap.size rfl (.tmp 25) (.tmp 26) 22 5 (.int .u8 0) 1 rfl Try.underlying22 info5 rfl (by decide) (by omega) v209 y208 t205 _ _ _ (fun k_ => some k_ ≠ (.slice Ao11 t202.length co11 : Value).ownBlock ∧ some k_ ≠ (.slice Ao16 t205.length co16 : Value).ownBlock) (fun _ => False) rfl rfl ?aO ?aR (fun _ _ h => h) (fun _ h => h.elim) ?aF ?aB ?aS ?aL ?_; (case aR => exact mC (Kd.R_reads' HO207.out).2.2); (case aB => exact (mH HB.out)); (case aF => exact (fun k_ hk => ⟨Kd.fresh' (Kd.R_lt (mR HO204.out)) k_ hk, Kd.fresh' (Kd.R_lt (mR HO207.out)) k_ hk⟩)); (case aO => exact (by refine mR ?_; exact Kd.R_mono HO210.out (fun _ hk => ⟨hk.1.2, hk.2⟩))); (case aS => exact (below_size (mH HB.out))); (case aL => have := LMc6.out; omega); intro v212 w15 ho hb hg hat; rw [← Ny211.out] at ho; replace HO204 := mS (Kd.R_after (ok := (fun k_ => some k_ ≠ (.slice Ao16 t205.length co16 : Value).ownBlock)) (by refine mR ?_; exact Kd.R_mono HO204.out (fun _ hk => ⟨hk.1.2, hk.2⟩)) hg hat); replace HO207 := mS (Kd.R_after (ok := (fun k_ => some k_ ≠ (.slice Ao11 t202.length co11 : Value).ownBlock)) (by refine mR ?_; exact Kd.R_mono HO207.out (fun _ hk => ⟨hk.1.2, hk.2⟩)) hg hat); replace HB := mS (hb); have HO213 := mS (ho); clear HO210; clear ho hb hg hat) | ((with_reducible refine gate_dst (N := 28) rfl ?_); (try (refine gate_guard (by rfl) ?_; dsimp only)); refine Kd.R_lit (Kd.int .u8) _ 5 ?hg (N := 28) ?hd (xs := ([7, 7] : List Int)) (inner := [.int .u8 7, .int .u8 7]) (ok := fun _ => True) (okp := fun _ => True) ?hr ?hp (fun _ hk => hk) trivial (Below.refl _ _) (Nat.le_refl _) (by simp) ?_; (case hd => rfl); (case hg => rfl); (case hr => first | (go_simp; done) | (go_simp; rfl)); (case hp => exact (Reps.one (show Kd.M (Kd.int .u8) _ _ _ 7 [.int .u8 7] from rfl) (Reps.one (show Kd.M (Kd.int .u8) _ _ _ 7 [.int .u8 7] from rfl) (Reps.none _ _)))); intro v215 w17 ho18 hb hg_ hnew_; clear hg_ hnew_; (first | rw [← Ny214.out] at ho18 | (simp only [Int.reduceToNat] at ho18; rw [← Ny214.out] at ho18)); have HO216 := mS (Kd.R_lower (Kd.R_new' (Kd.R_new' (Kd.R_new' ho18 (Kd.R_lt (mR HO204.out))) (Kd.R_lt (mR HO207.out))) (Kd.R_lt (mR HO213.out))) (below_size (mH HB.out))); replace HO204 := mS (Kd.R_elder' (mR HO204.out) (Kd.R_base ho18) hb); replace HO207 := mS (Kd.R_elder' (mR HO207.out) (Kd.R_base ho18) hb); replace HO213 := mS (Kd.R_elder' (mR HO213.out) (Kd.R_base ho18) hb); replace HB := mS (below_step (mH HB.out) hb); clear hb ho18; obtain ⟨Ao20, co20, eo20⟩ := Kd.R_slice HO216.out; subst eo20) | ((with_reducible refine gate_builtin (b := .append) (xs := #[.tmp 27, .tmp 28]) rfl ?_); (try (refine gate_guard (by rfl) ?_; dsimp only)); at_builtin; refine Kd.R_append_rows (Kd.int .u8) (w0 := w) w.heap.size rfl (.tmp 27) (.tmp 28) 22 5 (.int .u8 0) 1 rfl Try.underlying22 info5 rfl (by decide) (by omega) v212 y211 y214 _ _ _ (fun k_ => some k_ ≠ (.slice Ao11 t202.length co11 : Value).ownBlock ∧ some k_ ≠ (.slice Ao16 t205.length co16 : Value).ownBlock ∧ some k_ ≠ (.slice Ao20 y214.length co20 : Value).ownBlock) (fun _ => False) rfl rfl ?aO ?aR (fun _ _ h => h) (fun _ h => h.elim) ?aF ?aB ?aS ?aL ?_; (case aR => exact mC (Kd.R_reads' HO216.out).2.2); (case aB => exact (mH HB.out)); (case aF => exact (fun k_ hk => ⟨Kd.fresh' (Kd.R_lt (mR HO204.out)) k_ hk, Kd.fresh' (Kd.R_lt (mR HO207.out)) k_ hk, Kd.fresh' (Kd.R_lt (mR HO216.out)) k_ hk⟩)); (case aO => exact (by refine mR ?_; exact Kd.R_mono HO213.out (fun _ hk => ⟨hk.1.1, ⟨hk.1.2, hk.2⟩⟩))); (case aS => exact (below_size (mH HB.out))); (case aL => have := LMc7.out; omega); intro v218 w19 ho hb hg hat; rw [← Ny217.out] at ho; replace HO204 := mS (Kd.R_after (ok := (fun k_ => some k_ ≠ (.slice Ao16 t205.length co16 : Value).ownBlock ∧ some k_ ≠ (.slice Ao20 y214.length co20 : Value).ownBlock)) (by refine mR ?_; exact Kd.R_mono HO204.out (fun _ hk => ⟨⟨hk.1.1, hk.2⟩, hk.1.2⟩)) hg hat); replace HO207 := mS (Kd.R_after (ok := (fun k_ => some k_ ≠ (.slice Ao11 t202.length co11 : Value).ownBlock ∧ some k_ ≠ (.slice Ao20 y214.length co20 : Value).ownBlock)) (by refine mR ?_; exact Kd.R_mono HO207.out (fun _ hk => ⟨⟨hk.1.1, hk.2⟩, hk.1.2⟩)) hg hat); replace HO216 := mS (Kd.R_after (ok := (fun k_ => some k_ ≠ (.slice Ao11 t202.length co11 : Value).ownBlock ∧ some k_ ≠ (.slice Ao16 t205.length co16 : Value).ownBlock)) (by refine mR ?_; exact Kd.R_mono HO216.out (fun _ hk => ⟨⟨hk.1.1.2, hk.1.2⟩, hk.2⟩)) hg hat); replace HB := mS (hb); have HO219 := mS (ho); clear HO213; clear ho hb hg hat; obtain ⟨Ao21, co21, eo21⟩ := Kd.R_slice HO219.out; subst eo21) | ((with_reducible refine gate_callee (f := 60) rfl ?_); refine mGo 30 Try.func60 #[.slice Ao21 y217.length co21, .int .i64 0] ?_; (with_reducible refine (impl_Unframe.calls k _ _ y217 0 t220 t223 t224 _ ?side1 ?side2 A8.out).mono ?_); (case side1 => exact mC (Kd.R_reads' HO219.out).2.2); (case side2 => exact (Kd.R_reads' HO219.out).2.1); rintro e w22 ⟨v221, rfl, ho0, hb⟩; refine ⟨_, rfl, ?_⟩; have HO222 := mS (Kd.V_lower (Kd.V_mono (ok' := fun k_ => some k_ ≠ (.slice Ao11 t202.length co11 : Value).ownBlock ∧ some k_ ≠ (.slice Ao16 t205.length co16 : Value).ownBlock ∧ some k_ ≠ (.slice Ao20 y214.length co20 : Value).ownBlock ∧ some k_ ≠ (.slice Ao21 y217.length co21 : Value).ownBlock) ho0 (fun k_ hk_ => ⟨(Kd.fresh' (Kd.R_lt (mR HO204.out)) k_ hk_), (Kd.fresh' (Kd.R_lt (mR HO207.out)) k_ hk_), (Kd.fresh' (Kd.R_lt (mR HO216.out)) k_ hk_), (Kd.fresh' (Kd.R_lt (mR HO219.out)) k_ hk_)⟩)) (below_size (mH HB.out))); replace HO204 := mS (Kd.R_below (mR HO204.out) hb); replace HO207 := mS (Kd.R_below (mR HO207.out) hb); replace HO216 := mS (Kd.R_below (mR HO216.out) hb); replace HO219 := mS (Kd.R_below (mR HO219.out) hb); replace HB := mS (below_step (mH HB.out) hb); (try clear hb); (try clear ho0)))
    (try simp only [Act.put, zA, zB, zC])
    go_cut [52] (fun v52 wc => ∃ (kq : Nat) (x52_8 : Bool), v52 = .bool x52_8 ∧ Aside0 (laws_FnFrames.j0 kq l0 t202 t205 x52_8 = some r) ∧ Aside0 (kq ≤ k) ∧ Aside0 (Kd.R (Kd.int .u8) 5 wc w.heap.size (fun k_ => some k_ ≠ ((.slice Ao16 t205.length co16) : Value).ownBlock) (.slice Ao11 t202.length co11) t202) ∧ Aside0 (Kd.R (Kd.int .u8) 5 wc w.heap.size (fun k_ => some k_ ≠ ((.slice Ao11 t202.length co11) : Value).ownBlock) (.slice Ao16 t205.length co16) t205) ∧ Aside0 (Below w.heap.size w wc))
    case first =>
     have H := HC9.out
     clear HC9
     by_cases c23 : t224 = true
     ·subst c23
      have H1 := H
      rw [if_pos rfl] at H1
      clear H
      have H := H1
      clear H1
      by_cases c24 : t223 = (t205.length : Int)
      ·rw [if_pos c24] at H
       have c24b0 : (t223 == (t205.length : Int)) = true := beq_iff_eq.mpr c24
       have c24b1 : (t223 != (t205.length : Int)) = false := bne_eq_false_iff_eq.mpr c24
       clear c24
       (first | rw [c24b0] | (simp only [i64_w, i32_w]; rw [c24b0]) | skip)
       replace H := Option.bind_eq_some_iff.mp H
       obtain ⟨t225, A250, H⟩ := H
       replace H : (if t225 = true then (laws_FnFrames.j0 k l0 t202 t205 (decide ((t205.length : Int) < 5))) else (laws_FnFrames.j0 k l0 t202 t205 true)) = some r := H
       have A25 := mS A250
       clear A250
       by_cases c26 : t225 = true
       ·subst c26
        have H1 := H
        rw [if_pos rfl] at H1
        clear H
        have H := H1
        clear H1
        have H' := mS H
        clear H
        obtain ⟨Ao27, co27, eo27⟩ := Kd.V_slice HO222.out
        subst eo27
        go_wp2_with (first | (go_at_call 62; (with_reducible refine (laws_sameBytes.calls k _ _ t220 _ _ t202 true _ ?side1 ?side2 ?side3 ?side4 A25.out).mono ?_); (case side1 => exact mC (Kd.V_reads' HO222.out).2.2); (case side2 => exact (Kd.V_reads' HO222.out).2.1); (case side3 => exact mC (Kd.R_reads' HO204.out).2.2); (case side4 => exact (Kd.R_reads' HO204.out).2.1); rintro e w' ⟨rfl, ⟨nd, rfl⟩⟩))
        go_meet
        case rel => exact ⟨_, (decide ((t205.length : Int) < 5)), mE, H', ⟨by first | omega | exact Nat.le_refl _⟩, ⟨by refine mR ?_; exact Kd.R_mono HO204.out (fun _ hk => hk.1.1)⟩, ⟨by refine mR ?_; exact Kd.R_mono HO207.out (fun _ hk => hk.1.1)⟩, ⟨(mH HB.out)⟩⟩
       ·replace c26 := Bool.eq_false_iff.mpr c26
        subst c26
        have H1 := H
        rw [if_neg (show ¬ (false = true) by decide)] at H1
        clear H
        have H := H1
        clear H1
        have H' := mS H
        clear H
        obtain ⟨Ao28, co28, eo28⟩ := Kd.V_slice HO222.out
        subst eo28
        go_wp2_with (first | (go_at_call 62; (with_reducible refine (laws_sameBytes.calls k _ _ t220 _ _ t202 false _ ?side1 ?side2 ?side3 ?side4 A25.out).mono ?_); (case side1 => exact mC (Kd.V_reads' HO222.out).2.2); (case side2 => exact (Kd.V_reads' HO222.out).2.1); (case side3 => exact mC (Kd.R_reads' HO204.out).2.2); (case side4 => exact (Kd.R_reads' HO204.out).2.1); rintro e w' ⟨rfl, ⟨nd, rfl⟩⟩))
        go_meet
        case rel => exact ⟨_, (true), mE, H', ⟨by first | omega | exact Nat.le_refl _⟩, ⟨by refine mR ?_; exact Kd.R_mono HO204.out (fun _ hk => hk.1.1)⟩, ⟨by refine mR ?_; exact Kd.R_mono HO207.out (fun _ hk => hk.1.1)⟩, ⟨(mH HB.out)⟩⟩
      ·rw [if_neg c24] at H
       have c24b0 : (t223 == (t205.length : Int)) = false := beq_eq_false_iff_ne.mpr c24
       have c24b1 : (t223 != (t205.length : Int)) = true := bne_iff_ne.mpr c24
       (first | rw [c24b0] | (simp only [i64_w, i32_w]; rw [c24b0]) | skip)
       have H' := mS H
       clear H
       go_wp2
       go_meet
       case rel => exact ⟨_, (true), mE, H', ⟨by first | omega | exact Nat.le_refl _⟩, ⟨by refine mR ?_; exact Kd.R_mono HO204.out (fun _ hk => hk.1.1)⟩, ⟨by refine mR ?_; exact Kd.R_mono HO207.out (fun _ hk => hk.1.1)⟩, ⟨(mH HB.out)⟩⟩
     ·replace c23 := Bool.eq_false_iff.mpr c23
      subst c23
      have H1 := H
      rw [if_neg (show ¬ (false = true) by decide)] at H1
      clear H
      have H := H1
      clear H1
      have H' := mS H
      clear H
      go_wp2
      go_meet
      case rel => exact ⟨_, (true), mE, H', ⟨by first | omega | exact Nat.le_refl _⟩, ⟨by refine mR ?_; exact Kd.R_mono HO204.out (fun _ hk => hk.1.1)⟩, ⟨by refine mR ?_; exact Kd.R_mono HO207.out (fun _ hk => hk.1.1)⟩, ⟨(mH HB.out)⟩⟩
    case rest =>
     clear HC9
     try clear c1
     try clear c2
     try clear p2
     try clear c3
     try clear c6
     try clear c7
     try clear c14
     try clear c23
     try clear c24
     try clear c24b0
     try clear c24b1
     try clear c26
     obtain ⟨kq, x52_8, rfl, HA, HJ8, HO_3, HO_4, HB⟩ := hcut
     cases kq with
     | zero => exact absurd HA.out (by simp [laws_FnFrames.j0])
     | succ kj8 =>
      have H := HA.out
      clear HA
      simp only [laws_FnFrames.j0] at H
      by_cases c29 : x52_8 = true
      ·subst c29
       have H1 := H
       rw [if_pos rfl] at H1
       clear H
       have H := H1
       clear H1
       exact absurd ((Option.some.inj H).trans ht_) (by decide)
      ·replace c29 := Bool.eq_false_iff.mpr c29
       subst c29
       have H1 := H
       rw [if_neg (show ¬ (false = true) by decide)] at H1
       clear H
       have H := H1
       clear H1
       replace H := Option.bind_eq_some_iff.mp H
       obtain ⟨t226, A300, H⟩ := H
       replace H : ((laws_at.f l0 3).bind fun t227 => (if (wrap64 (8 * (t205.length : Int))) = 0 then (none) else (if (wrap64 (Int.tdiv (Int.tmod (wrap64 ((wrap64 (t226 * 256)) + t227)) (wrap64 (8 * (t205.length : Int)))) 8)) = 4 then (laws_FnFrames.j1 kj8 l0 t202 t205 (wrap64 ((Int.tmod (wrap64 ((wrap64 (t226 * 256)) + t227)) (wrap64 (8 * (t205.length : Int)))) - 8))) else (laws_FnFrames.j1 kj8 l0 t202 t205 (Int.tmod (wrap64 ((wrap64 (t226 * 256)) + t227)) (wrap64 (8 * (t205.length : Int)))))))) = some r := H
       have A30 := mS A300
       clear A300
       replace H := Option.bind_eq_some_iff.mp H
       obtain ⟨t227, A310, H⟩ := H
       replace H : (if (wrap64 (8 * (t205.length : Int))) = 0 then (none) else (if (wrap64 (Int.tdiv (Int.tmod (wrap64 ((wrap64 (t226 * 256)) + t227)) (wrap64 (8 * (t205.length : Int)))) 8)) = 4 then (laws_FnFrames.j1 kj8 l0 t202 t205 (wrap64 ((Int.tmod (wrap64 ((wrap64 (t226 * 256)) + t227)) (wrap64 (8 * (t205.length : Int)))) - 8))) else (laws_FnFrames.j1 kj8 l0 t202 t205 (Int.tmod (wrap64 ((wrap64 (t226 * 256)) + t227)) (wrap64 (8 * (t205.length : Int))))))) = some r := H
       have A31 := mS A310
       clear A310
       by_cases c32 : (wrap64 (8 * (t205.length : Int))) = 0
       ·rw [if_pos c32] at H
        exact absurd H (by simp)
       ·rw [if_neg c32] at H
        have c32b0 : ((wrap64 (8 * (t205.length : Int))) == 0) = false := beq_eq_false_iff_ne.mpr c32
        have c32b1 : ((wrap64 (8 * (t205.length : Int))) != 0) = true := bne_iff_ne.mpr c32
        have HC33 := mS H
        clear H
        go_upto_if 65 with (first | ((with_reducible refine gate_callee (f := 63) rfl ?_); refine mGo 54 Try.func63 #[.slice A0 l0.length c0, .int .i64 2] ?_; (with_reducible refine (laws_at.calls _ _ l0 2 t226 _ ?side1 ?side2 A30.out).mono ?_); (case side1 => exact mC (Kd.C_below HR0.out HB.out)); (case side2 => exact HC0.out); rintro e w' ⟨rfl, ⟨nd, rfl⟩⟩; refine ⟨_, rfl, ?_⟩) | ((with_reducible refine gate_callee (f := 63) rfl ?_); refine mGo 57 Try.func63 #[.slice A0 l0.length c0, .int .i64 3] ?_; (with_reducible refine (laws_at.calls _ _ l0 3 t227 _ ?side1 ?side2 A31.out).mono ?_); (case side1 => exact mC (Kd.C_below HR0.out (mH HB.out))); (case side2 => exact HC0.out); rintro e w' ⟨rfl, ⟨nd, rfl⟩⟩; refine ⟨_, rfl, ?_⟩))
        (try simp only [Act.put, zA, zB, zC])
        go_cut [8] (fun v8 wc => ∃ (kq : Nat) (x8_32 : Int), v8 = .int .i64 x8_32 ∧ Aside0 (laws_FnFrames.j1 kq l0 t202 t205 x8_32 = some r) ∧ Aside0 (kq ≤ kj8) ∧ Aside0 (Kd.R (Kd.int .u8) 5 wc w.heap.size (fun k_ => some k_ ≠ ((.slice Ao16 t205.length co16) : Value).ownBlock) (.slice Ao11 t202.length co11) t202) ∧ Aside0 (Kd.R (Kd.int .u8) 5 wc w.heap.size (fun k_ => some k_ ≠ ((.slice Ao11 t202.length co11) : Value).ownBlock) (.slice Ao16 t205.length co16) t205) ∧ Aside0 (Below w.heap.size w wc))
        case first =>
         have H := HC33.out
         clear HC33
         by_cases c34 : (wrap64 (Int.tdiv (Int.tmod (wrap64 ((wrap64 (t226 * 256)) + t227)) (wrap64 (8 * (t205.length : Int)))) 8)) = 4
         ·rw [if_pos c34] at H
          have c34b0 : ((wrap64 (Int.tdiv (Int.tmod (wrap64 ((wrap64 (t226 * 256)) + t227)) (wrap64 (8 * (t205.length : Int)))) 8)) == 4) = true := beq_iff_eq.mpr c34
          have c34b1 : ((wrap64 (Int.tdiv (Int.tmod (wrap64 ((wrap64 (t226 * 256)) + t227)) (wrap64 (8 * (t205.length : Int)))) 8)) != 4) = false := bne_eq_false_iff_eq.mpr c34
          clear c34
          (first | rw [c34b0] | (simp only [i64_w, i32_w]; rw [c34b0]) | skip)
          have H' := mS H
          clear H
          go_wp2
          go_meet
          case rel => exact ⟨_, (wrap64 ((Int.tmod (wrap64 ((wrap64 (t226 * 256)) + t227)) (wrap64 (8 * (t205.length : Int)))) - 8)), mE, H', ⟨by have := HJ8.out; first | omega | exact Nat.le_refl _⟩, ⟨mR HO_3.out⟩, ⟨mR HO_4.out⟩, ⟨(mH HB.out)⟩⟩
         ·rw [if_neg c34] at H
          have c34b0 : ((wrap64 (Int.tdiv (Int.tmod (wrap64 ((wrap64 (t226 * 256)) + t227)) (wrap64 (8 * (t205.length : Int)))) 8)) == 4) = false := beq_eq_false_iff_ne.mpr c34
          have c34b1 : ((wrap64 (Int.tdiv (Int.tmod (wrap64 ((wrap64 (t226 * 256)) + t227)) (wrap64 (8 * (t205.length : Int)))) 8)) != 4) = true := bne_iff_ne.mpr c34
          (first | rw [c34b0] | (simp only [i64_w, i32_w]; rw [c34b0]) | skip)
          have H' := mS H
          clear H
          go_wp2
          go_meet
          case rel => exact ⟨_, (Int.tmod (wrap64 ((wrap64 (t226 * 256)) + t227)) (wrap64 (8 * (t205.length : Int)))), mE, H', ⟨by have := HJ8.out; first | omega | exact Nat.le_refl _⟩, ⟨mR HO_3.out⟩, ⟨mR HO_4.out⟩, ⟨(mH HB.out)⟩⟩
        case rest =>
         clear HC33
         try clear c1
         try clear c2
         try clear p2
         try clear c3
         try clear c6
         try clear p6
         try clear c7
         try clear c14
         try clear c23
         try clear c24
         try clear c24b0
         try clear c24b1
         try clear c26
         try clear c29
         try clear c32
         try clear c32b0
         try clear c32b1
         try clear c34
         try clear c34b0
         try clear c34b1
         try clear p2
         obtain ⟨kq, x8_32, rfl, HA, HJ32, HO_3, HO_4, HB⟩ := hcut
         cases kq with
         | zero => exact absurd HA.out (by simp [laws_FnFrames.j1])
         | succ kj32 =>
          have H := HA.out
          clear HA
          simp only [laws_FnFrames.j1] at H
          obtain ⟨y228, hy228⟩ : ∃ y_ : List Int, y_ = (([] : List Int)) := ⟨_, rfl⟩
          replace H : (if y228.length + t205.length < 140737488355328 then ((some (y228 ++ t205 : List Int)).bind fun y231 => (if 0 ≤ (wrap64 (Int.tdiv x8_32 8)) then (if (wrap64 (Int.tdiv x8_32 8)) < (y231.length : Int) then (if 0 ≤ (IntKind.u64.wrap (Int.tmod x8_32 8)) then ((impl_Unframe.f kj32 (y231.set ((wrap64 (Int.tdiv x8_32 8)) : Int).toNat (Go.bits .xor .u8 (rd y231 (wrap64 (Int.tdiv x8_32 8))) (shl .u8 1 (IntKind.u64.wrap (Int.tmod x8_32 8))))) 0).bind fun bt236 => ((laws_at.f l0 4).bind fun t241 => (if (t205.length : Int) = 0 then (none) else (if 0 ≤ (Int.tmod t241 (t205.length : Int)) then (if (Int.tmod t241 (t205.length : Int)) ≤ (t205.length : Int) then ((impl_Unframe.f kj32 (t205.take ((Int.tmod t241 (t205.length : Int)) : Int).toNat) 0).bind fun bt247 => ((some (([] : List Int) : List Int)).bind fun y252 => (if y252.length + t205.length < 140737488355328 then ((some (y252 ++ t205 : List Int)).bind fun y255 => (if y255.length + t205.length < 140737488355328 then ((impl_Records.f kj32 (y255 ++ t205)).bind fun bt261 => (if bt236.2.2 = true then (some false) else (if bt247.2.2 = true then (some false) else (if (bt261.1.length : Int) = 2 then (if bt261.2 = (wrap64 (2 * (t205.length : Int))) then (if 1 < (bt261.1.length : Int) then ((laws_sameBytes.f kj32 (rd_L2 bt261.1 1) t202).bind fun t266 => (some t266)) else (none)) else (some false)) else (some false))))) else (none))) else (none)))) else (none)) else (none))))) else (none)) else (none)) else (none))) else (none)) = some r := by first | (rw [hy228]; with_reducible exact H) | (have H2_ := (Option.bind_some _ _).symm.trans H; rw [hy228]; with_reducible exact H2_) | (have H2_ := (Option.bind_some _ _).symm.trans H; with_reducible exact H2_) | with_reducible exact H | (rw [hy228]; exact H) | exact H
          have Ny228 := mS hy228
          clear hy228
          by_cases c35 : y228.length + t205.length < 140737488355328
          ·rw [if_pos c35] at H
           have LMc35 := mS c35
           clear c35
           obtain ⟨y231, hy231⟩ : ∃ y_ : List Int, y_ = (y228 ++ t205) := ⟨_, rfl⟩
           replace H : (if 0 ≤ (wrap64 (Int.tdiv x8_32 8)) then (if (wrap64 (Int.tdiv x8_32 8)) < (y231.length : Int) then (if 0 ≤ (IntKind.u64.wrap (Int.tmod x8_32 8)) then ((impl_Unframe.f kj32 (y231.set ((wrap64 (Int.tdiv x8_32 8)) : Int).toNat (Go.bits .xor .u8 (rd y231 (wrap64 (Int.tdiv x8_32 8))) (shl .u8 1 (IntKind.u64.wrap (Int.tmod x8_32 8))))) 0).bind fun bt236 => ((laws_at.f l0 4).bind fun t241 => (if (t205.length : Int) = 0 then (none) else (if 0 ≤ (Int.tmod t241 (t205.length : Int)) then (if (Int.tmod t241 (t205.length : Int)) ≤ (t205.length : Int) then ((impl_Unframe.f kj32 (t205.take ((Int.tmod t241 (t205.length : Int)) : Int).toNat) 0).bind fun bt247 => ((some (([] : List Int) : List Int)).bind fun y252 => (if y252.length + t205.length < 140737488355328 then ((some (y252 ++ t205 : List Int)).bind fun y255 => (if y255.length + t205.length < 140737488355328 then ((impl_Records.f kj32 (y255 ++ t205)).bind fun bt261 => (if bt236.2.2 = true then (some false) else (if bt247.2.2 = true then (some false) else (if (bt261.1.length : Int) = 2 then (if bt261.2 = (wrap64 (2 * (t205.length : Int))) then (if 1 < (bt261.1.length : Int) then ((laws_sameBytes.f kj32 (rd_L2 bt261.1 1) t202).bind fun t266 => (some t266)) else (none)) else (some false)) else (some false))))) else (none))) else (none)))) else (none)) else (none))))) else (none)) else (none)) else (none)) = some r := by first | (rw [hy231]; with_reducible exact H) | (have H2_ := (Option.bind_some _ _).symm.trans H; rw [hy231]; with_reducible exact H2_) | (have H2_ := (Option.bind_some _ _).symm.trans H; with_reducible exact H2_) | with_reducible exact H | (rw [hy231]; exact H) | exact H
           have Ny231 := mS hy231
           clear hy231
           obtain ⟨ji36, hji36⟩ : ∃ j_ : Int, (wrap64 (Int.tdiv x8_32 8)) = j_ := ⟨_, rfl⟩
           replace H : (if 0 ≤ (ji36) then (if (ji36) < (y231.length : Int) then (if 0 ≤ (IntKind.u64.wrap (Int.tmod x8_32 8)) then ((impl_Unframe.f kj32 (y231.set ((ji36) : Int).toNat (Go.bits .xor .u8 (rd y231 (ji36)) (shl .u8 1 (IntKind.u64.wrap (Int.tmod x8_32 8))))) 0).bind fun bt236 => ((laws_at.f l0 4).bind fun t241 => (if (t205.length : Int) = 0 then (none) else (if 0 ≤ (Int.tmod t241 (t205.length : Int)) then (if (Int.tmod t241 (t205.length : Int)) ≤ (t205.length : Int) then ((impl_Unframe.f kj32 (t205.take ((Int.tmod t241 (t205.length : Int)) : Int).toNat) 0).bind fun bt247 => ((some (([] : List Int) : List Int)).bind fun y252 => (if y252.length + t205.length < 140737488355328 then ((some (y252 ++ t205 : List Int)).bind fun y255 => (if y255.length + t205.length < 140737488355328 then ((impl_Records.f kj32 (y255 ++ t205)).bind fun bt261 => (if bt236.2.2 = true then (some false) else (if bt247.2.2 = true then (some false) else (if (bt261.1.length : Int) = 2 then (if bt261.2 = (wrap64 (2 * (t205.length : Int))) then (if 1 < (bt261.1.length : Int) then ((laws_sameBytes.f kj32 (rd_L2 bt261.1 1) t202).bind fun t266 => (some t266)) else (none)) else (some false)) else (some false))))) else (none))) else (none)))) else (none)) else (none))))) else (none)) else (none)) else (none)) = some r := by first | (rw [hji36] at H; exact H) | (simp only [hji36] at H ⊢; exact H)
           have hji36w : (IntKind.i64.wrap (Int.tdiv x8_32 8)) = ji36 := (i64_w _).trans hji36
           by_cases c37 : 0 ≤ (ji36)
           ·rw [if_pos c37] at H
            have c37b0 := decide_eq_true c37
            clear c37
            by_cases c38 : (ji36) < (y231.length : Int)
            ·rw [if_pos c38] at H
             have c38b0 := decide_eq_true c38
             clear c38
             obtain ⟨ji39, hji39⟩ : ∃ j_ : Int, (IntKind.u64.wrap (Int.tmod x8_32 8)) = j_ := ⟨_, rfl⟩
             replace H : (if 0 ≤ (ji39) then ((impl_Unframe.f kj32 (y231.set ((ji36) : Int).toNat (Go.bits .xor .u8 (rd y231 (ji36)) (shl .u8 1 (ji39)))) 0).bind fun bt236 => ((laws_at.f l0 4).bind fun t241 => (if (t205.length : Int) = 0 then (none) else (if 0 ≤ (Int.tmod t241 (t205.length : Int)) then (if (Int.tmod t241 (t205.length : Int)) ≤ (t205.length : Int) then ((impl_Unframe.f kj32 (t205.take ((Int.tmod t241 (t205.length : Int)) : Int).toNat) 0).bind fun bt247 => ((some (([] : List Int) : List Int)).bind fun y252 => (if y252.length + t205.length < 140737488355328 then ((some (y252 ++ t205 : List Int)).bind fun y255 => (if y255.length + t205.length < 140737488355328 then ((impl_Records.f kj32 (y255 ++ t205)).bind fun bt261 => (if bt236.2.2 = true then (some false) else (if bt247.2.2 = true then (some false) else (if (bt261.1.length : Int) = 2 then (if bt261.2 = (wrap64 (2 * (t205.length : Int))) then (if 1 < (bt261.1.length : Int) then ((laws_sameBytes.f kj32 (rd_L2 bt261.1 1) t202).bind fun t266 => (some t266)) else (none)) else (some false)) else (some false))))) else (none))) else (none)))) else (none)) else (none))))) else (none)) = some r := by first | (rw [hji39] at H; exact H) | (simp only [hji39] at H ⊢; exact H)
             by_cases c40 : 0 ≤ (ji39)
             ·rw [if_pos c40] at H
              have c40b0 := eq_true c40
              have c40b1 := decide_eq_true c40
              clear c40
              obtain ⟨ji41, hji41⟩ : ∃ j_ : Int, (shl .u8 1 (ji39)) = j_ := ⟨_, rfl⟩
              replace H : ((impl_Unframe.f kj32 (y231.set ((ji36) : Int).toNat (Go.bits .xor .u8 (rd y231 (ji36)) (ji41))) 0).bind fun bt236 => ((laws_at.f l0 4).bind fun t241 => (if (t205.length : Int) = 0 then (none) else (if 0 ≤ (Int.tmod t241 (t205.length : Int)) then (if (Int.tmod t241 (t205.length : Int)) ≤ (t205.length : Int) then ((impl_Unframe.f kj32 (t205.take ((Int.tmod t241 (t205.length : Int)) : Int).toNat) 0).bind fun bt247 => ((some (([] : List Int) : List Int)).bind fun y252 => (if y252.length + t205.length < 140737488355328 then ((some (y252 ++ t205 : List Int)).bind fun y255 => (if y255.length + t205.length < 140737488355328 then ((impl_Records.f kj32 (y255 ++ t205)).bind fun bt261 => (if bt236.2.2 = true then (some false) else (if bt247.2.2 = true then (some false) else (if (bt261.1.length : Int) = 2 then (if bt261.2 = (wrap64 (2 * (t205.length : Int))) then (if 1 < (bt261.1.length : Int) then ((laws_sameBytes.f kj32 (rd_L2 bt261.1 1) t202).bind fun t266 => (some t266)) else (none)) else (some false)) else (some false))))) else (none))) else (none)))) else (none)) else (none))))) = some r := by first | (rw [hji41] at H; exact H) | (simp only [hji41] at H ⊢; exact H)
              have hji41_ : (IntKind.u8.wrap (1 * 2 ^ min (ji39).toNat 8)) = ji41 := hji41
              have hji41z : (ji39) ≤ 8 → (IntKind.u8.wrap (1 * 2 ^ (ji39).toNat)) = ji41 := shl_small hji41
              have hji41u : (IntKind.u8.wrap (2 ^ min (ji39).toNat 8)) = ji41 := by have h_ := hji41_; rw [Int.one_mul] at h_; exact h_
              have hji41v : (ji39) ≤ 8 → (IntKind.u8.wrap (2 ^ (ji39).toNat)) = ji41 := fun hle_ => by have h_ := hji41z hle_; rw [Int.one_mul] at h_; exact h_
              obtain ⟨y235, hy235⟩ : ∃ y_ : List Int, y_ = (y231.set ((ji36) : Int).toNat (Go.bits .xor .u8 (rd y231 (ji36)) (ji41))) := ⟨_, rfl⟩
              replace H : ((impl_Unframe.f kj32 y235 0).bind fun bt236 => ((laws_at.f l0 4).bind fun t241 => (if (t205.length : Int) = 0 then (none) else (if 0 ≤ (Int.tmod t241 (t205.length : Int)) then (if (Int.tmod t241 (t205.length : Int)) ≤ (t205.length : Int) then ((impl_Unframe.f kj32 (t205.take ((Int.tmod t241 (t205.length : Int)) : Int).toNat) 0).bind fun bt247 => ((some (([] : List Int) : List Int)).bind fun y252 => (if y252.length + t205.length < 140737488355328 then ((some (y252 ++ t205 : List Int)).bind fun y255 => (if y255.length + t205.length < 140737488355328 then ((impl_Records.f kj32 (y255 ++ t205)).bind fun bt261 => (if bt236.2.2 = true then (some false) else (if bt247.2.2 = true then (some false) else (if (bt261.1.length : Int) = 2 then (if bt261.2 = (wrap64 (2 * (t205.length : Int))) then (if 1 < (bt261.1.length : Int) then ((laws_sameBytes.f kj32 (rd_L2 bt261.1 1) t202).bind fun t266 => (some t266)) else (none)) else (some false)) else (some false))))) else (none))) else (none)))) else (none)) else (none))))) = some r := by first | (rw [hy235]; with_reducible exact H) | (have H2_ := (Option.bind_some _ _).symm.trans H; rw [hy235]; with_reducible exact H2_) | (have H2_ := (Option.bind_some _ _).symm.trans H; with_reducible exact H2_) | with_reducible exact H | (rw [hy235]; exact H) | exact H
              have Ny235 := mS hy235
              clear hy235
              replace H := Option.bind_eq_some_iff.mp H
              obtain ⟨⟨t236, t239, t240⟩, A430, H⟩ := H
              replace H : ((laws_at.f l0 4).bind fun t241 => (if (t205.length : Int) = 0 then (none) else (if 0 ≤ (Int.tmod t241 (t205.length : Int)) then (if (Int.tmod t241 (t205.length : Int)) ≤ (t205.length : Int) then ((impl_Unframe.f kj32 (t205.take ((Int.tmod t241 (t205.length : Int)) : Int).toNat) 0).bind fun bt247 => ((some (([] : List Int) : List Int)).bind fun y252 => (if y252.length + t205.length < 140737488355328 then ((some (y252 ++ t205 : List Int)).bind fun y255 => (if y255.length + t205.length < 140737488355328 then ((impl_Records.f kj32 (y255 ++ t205)).bind fun bt261 => (if t240 = true then (some false) else (if bt247.2.2 = true then (some false) else (if (bt261.1.length : Int) = 2 then (if bt261.2 = (wrap64 (2 * (t205.length : Int))) then (if 1 < (bt261.1.length : Int) then ((laws_sameBytes.f kj32 (rd_L2 bt261.1 1) t202).bind fun t266 => (some t266)) else (none)) else (some false)) else (some false))))) else (none))) else (none)))) else (none)) else (none)))) = some r := H
              have A43 := mS A430
              clear A430
              replace H := Option.bind_eq_some_iff.mp H
              obtain ⟨t241, A440, H⟩ := H
              replace H : (if (t205.length : Int) = 0 then (none) else (if 0 ≤ (Int.tmod t241 (t205.length : Int)) then (if (Int.tmod t241 (t205.length : Int)) ≤ (t205.length : Int) then ((impl_Unframe.f kj32 (t205.take ((Int.tmod t241 (t205.length : Int)) : Int).toNat) 0).bind fun bt247 => ((some (([] : List Int) : List Int)).bind fun y252 => (if y252.length + t205.length < 140737488355328 then ((some (y252 ++ t205 : List Int)).bind fun y255 => (if y255.length + t205.length < 140737488355328 then ((impl_Records.f kj32 (y255 ++ t205)).bind fun bt261 => (if t240 = true then (some false) else (if bt247.2.2 = true then (some false) else (if (bt261.1.length : Int) = 2 then (if bt261.2 = (wrap64 (2 * (t205.length : Int))) then (if 1 < (bt261.1.length : Int) then ((laws_sameBytes.f kj32 (rd_L2 bt261.1 1) t202).bind fun t266 => (some t266)) else (none)) else (some false)) else (some false))))) else (none))) else (none)))) else (none)) else (none))) = some r := H
              have A44 := mS A440
              clear A440
              by_cases c45 : (t205.length : Int) = 0
              ·rw [if_pos c45] at H
               exact absurd H (by simp)
              ·rw [if_neg c45] at H
               have c45b0 : ((t205.length : Int) == 0) = false := beq_eq_false_iff_ne.mpr c45
               have c45b1 : ((t205.length : Int) != 0) = true := bne_iff_ne.mpr c45
               have c45b2 : ¬ (t205 = []) := fun h_ => c45 (by rw [h_]; rfl)
               obtain ⟨ji46, hji46⟩ : ∃ j_ : Int, (Int.tmod t241 (t205.length : Int)) = j_ := ⟨_, rfl⟩
               replace H : (if 0 ≤ (ji46) then (if (ji46) ≤ (t205.length : Int) then ((impl_Unframe.f kj32 (t205.take ((ji46) : Int).toNat) 0).bind fun bt247 => ((some (([] : List Int) : List Int)).bind fun y252 => (if y252.length + t205.length < 140737488355328 then ((some (y252 ++ t205 : List Int)).bind fun y255 => (if y255.length + t205.length < 140737488355328 then ((impl_Records.f kj32 (y255 ++ t205)).bind fun bt261 => (if t240 = true then (some false) else (if bt247.2.2 = true then (some false) else (if (bt261.1.length : Int) = 2 then (if bt261.2 = (wrap64 (2 * (t205.length : Int))) then (if 1 < (bt261.1.length : Int) then ((laws_sameBytes.f kj32 (rd_L2 bt261.1 1) t202).bind fun t266 => (some t266)) else (none)) else (some false)) else (some false))))) else (none))) else (none)))) else (none)) else (none)) = some r := by first | (rw [hji46] at H; exact H) | (simp only [hji46] at H ⊢; exact H)
               (try rw [hji46] at A43)
               (try rw [hji46] at A44)
               by_cases c47 : 0 ≤ (ji46)
               ·rw [if_pos c47] at H
                have c47b0 := eq_true c47
                have c47b1 := decide_eq_true c47
                clear c47
                by_cases c48 : (ji46) ≤ (t205.length : Int)
                ·rw [if_pos c48] at H
                 have c48b0 := eq_true c48
                 have c48b1 := decide_eq_true c48
                 clear c48
                 obtain ⟨y242, hy242⟩ : ∃ y_ : List Int, y_ = (t205.take ((ji46) : Int).toNat) := ⟨_, rfl⟩
                 replace H : ((impl_Unframe.f kj32 y242 0).bind fun bt247 => ((some (([] : List Int) : List Int)).bind fun y252 => (if y252.length + t205.length < 140737488355328 then ((some (y252 ++ t205 : List Int)).bind fun y255 => (if y255.length + t205.length < 140737488355328 then ((impl_Records.f kj32 (y255 ++ t205)).bind fun bt261 => (if t240 = true then (some false) else (if bt247.2.2 = true then (some false) else (if (bt261.1.length : Int) = 2 then (if bt261.2 = (wrap64 (2 * (t205.length : Int))) then (if 1 < (bt261.1.length : Int) then ((laws_sameBytes.f kj32 (rd_L2 bt261.1 1) t202).bind fun t266 => (some t266)) else (none)) else (some false)) else (some false))))) else (none))) else (none)))) = some r := by first | (rw [hy242]; with_reducible exact H) | (have H2_ := (Option.bind_some _ _).symm.trans H; rw [hy242]; with_reducible exact H2_) | (have H2_ := (Option.bind_some _ _).symm.trans H; with_reducible exact H2_) | with_reducible exact H | (rw [hy242]; exact H) | exact H
                 have Ny242 := mS hy242
                 clear hy242
                 replace H := Option.bind_eq_some_iff.mp H
                 obtain ⟨⟨t247, t250, t251⟩, A490, H⟩ := H
                 replace H : ((some (([] : List Int) : List Int)).bind fun y252 => (if y252.length + t205.length < 140737488355328 then ((some (y252 ++ t205 : List Int)).bind fun y255 => (if y255.length + t205.length < 140737488355328 then ((impl_Records.f kj32 (y255 ++ t205)).bind fun bt261 => (if t240 = true then (some false) else (if t251 = true then (some false) else (if (bt261.1.length : Int) = 2 then (if bt261.2 = (wrap64 (2 * (t205.length : Int))) then (if 1 < (bt261.1.length : Int) then ((laws_sameBytes.f kj32 (rd_L2 bt261.1 1) t202).bind fun t266 => (some t266)) else (none)) else (some false)) else (some false))))) else (none))) else (none))) = some r := H
                 have A49 := mS A490
                 clear A490
                 obtain ⟨y252, hy252⟩ : ∃ y_ : List Int, y_ = (([] : List Int)) := ⟨_, rfl⟩
                 replace H : (if y252.length + t205.length < 140737488355328 then ((some (y252 ++ t205 : List Int)).bind fun y255 => (if y255.length + t205.length < 140737488355328 then ((impl_Records.f kj32 (y255 ++ t205)).bind fun bt261 => (if t240 = true then (some false) else (if t251 = true then (some false) else (if (bt261.1.length : Int) = 2 then (if bt261.2 = (wrap64 (2 * (t205.length : Int))) then (if 1 < (bt261.1.length : Int) then ((laws_sameBytes.f kj32 (rd_L2 bt261.1 1) t202).bind fun t266 => (some t266)) else (none)) else (some false)) else (some false))))) else (none))) else (none)) = some r := by first | (rw [hy252]; with_reducible exact H) | (have H2_ := (Option.bind_some _ _).symm.trans H; rw [hy252]; with_reducible exact H2_) | (have H2_ := (Option.bind_some _ _).symm.trans H; with_reducible exact H2_) | with_reducible exact H | (rw [hy252]; exact H) | exact H
                 have Ny252 := mS hy252
                 clear hy252
                 by_cases c50 : y252.length + t205.length < 140737488355328
                 ·rw [if_pos c50] at H
                  have LMc50 := mS c50
                  clear c50
                  obtain ⟨y255, hy255⟩ : ∃ y_ : List Int, y_ = (y252 ++ t205) := ⟨_, rfl⟩
                  replace H : (if y255.length + t205.length < 140737488355328 then ((impl_Records.f kj32 (y255 ++ t205)).bind fun bt261 => (if t240 = true then (some false) else (if t251 = true then (some false) else (if (bt261.1.length : Int) = 2 then (if bt261.2 = (wrap64 (2 * (t205.length : Int))) then (if 1 < (bt261.1.length : Int) then ((laws_sameBytes.f kj32 (rd_L2 bt261.1 1) t202).bind fun t266 => (some t266)) else (none)) else (some false)) else (some false))))) else (none)) = some r := by first | (rw [hy255]; with_reducible exact H) | (have H2_ := (Option.bind_some _ _).symm.trans H; rw [hy255]; with_reducible exact H2_) | (have H2_ := (Option.bind_some _ _).symm.trans H; with_reducible exact H2_) | with_reducible exact H | (rw [hy255]; exact H) | exact H
                  have Ny255 := mS hy255
                  clear hy255
                  by_cases c51 : y255.length + t205.length < 140737488355328
                  ·rw [if_pos c51] at H
                   have LMc51 := mS c51
                   clear c51
                   obtain ⟨y258, hy258⟩ : ∃ y_ : List Int, y_ = (y255 ++ t205) := ⟨_, rfl⟩
                   replace H : ((impl_Records.f kj32 y258).bind fun bt261 => (if t240 = true then (some false) else (if t251 = true then (some false) else (if (bt261.1.length : Int) = 2 then (if bt261.2 = (wrap64 (2 * (t205.length : Int))) then (if 1 < (bt261.1.length : Int) then ((laws_sameBytes.f kj32 (rd_L2 bt261.1 1) t202).bind fun t266 => (some t266)) else (none)) else (some false)) else (some false))))) = some r := by first | (rw [hy258]; with_reducible exact H) | (have H2_ := (Option.bind_some _ _).symm.trans H; rw [hy258]; with_reducible exact H2_) | (have H2_ := (Option.bind_some _ _).symm.trans H; with_reducible exact H2_) | with_reducible exact H | (rw [hy258]; exact H) | exact H
                   have Ny258 := mS hy258
                   clear hy258
                   replace H := Option.bind_eq_some_iff.mp H
                   obtain ⟨⟨t261, t264⟩, A520, H⟩ := H
                   replace H : (if t240 = true then (some false) else (if t251 = true then (some false) else (if (t261.length : Int) = 2 then (if t264 = (wrap64 (2 * (t205.length : Int))) then (if 1 < (t261.length : Int) then ((laws_sameBytes.f kj32 (rd_L2 t261 1) t202).bind fun t266 => (some t266)) else (none)) else (some false)) else (some false)))) = some r := H
                   have A52 := mS A520
                   clear A520
                   by_cases c53 : t240 = true
                   ·subst c53
                    have H1 := H
                    rw [if_pos rfl] at H1
                    clear H
                    have H := H1
                    clear H1
                    exact absurd ((Option.some.inj H).trans ht_) (by decide)
                   ·replace c53 := Bool.eq_false_iff.mpr c53
                    subst c53
                    have H1 := H
                    rw [if_neg (show ¬ (false = true) by decide)] at H1
                    clear H
                    have H := H1
                    clear H1
                    by_cases c54 : t251 = true
                    ·subst c54
                     have H1 := H
                     rw [if_pos rfl] at H1
                     clear H
                     have H := H1
                     clear H1
                     exact absurd ((Option.some.inj H).trans ht_) (by decide)
                    ·replace c54 := Bool.eq_false_iff.mpr c54
                     subst c54
                     have H1 := H
                     rw [if_neg (show ¬ (false = true) by decide)] at H1
                     clear H
                     have H := H1
                     clear H1
                     by_cases c55 : (t261.length : Int) = 2
                     ·rw [if_pos c55] at H
                      have c55b0 : ((t261.length : Int) == 2) = true := beq_iff_eq.mpr c55
                      have c55b1 : ((t261.length : Int) != 2) = false := bne_eq_false_iff_eq.mpr c55
                      clear c55
                      by_cases c56 : t264 = (wrap64 (2 * (t205.length : Int)))
                      ·rw [if_pos c56] at H
                       have c56b0 : (t264 == (wrap64 (2 * (t205.length : Int)))) = true := beq_iff_eq.mpr c56
                       have c56b1 : (t264 != (wrap64 (2 * (t205.length : Int)))) = false := bne_eq_false_iff_eq.mpr c56
                       clear c56
                       by_cases c57 : 1 < (t261.length : Int)
                       ·rw [if_pos c57] at H
                        have c57b0 := decide_eq_true c57
                        have c57b1 : decide (1 < t261.length) = true := decide_eq_true (by omega)
                        clear c57
                        replace H := Option.bind_eq_some_iff.mp H
                        obtain ⟨t266, A580, H⟩ := H
                        replace H : (some t266) = some r := H
                        have A58 := mS A580
                        clear A580
                        obtain rfl := Option.some.inj H
                        go_wp2_with (first | ((with_reducible refine gate_dst (N := 68) rfl ?_); (try (refine gate_guard (by rfl) ?_; dsimp only)); refine Kd.R_lit (Kd.int .u8) _ 5 ?hg (N := 68) ?hd (xs := ([] : List Int)) (inner := []) (ok := fun _ => True) (okp := fun _ => True) ?hr ?hp (fun _ hk => hk) trivial (Below.refl _ _) (Nat.le_refl _) (by simp) ?_; (case hd => rfl); (case hg => rfl); (case hr => first | (go_simp; done) | (go_simp; rfl)); (case hp => exact (Reps.none _ _)); intro v229 w59 ho60 hb hg_ hnew_; clear hg_ hnew_; (first | rw [← Ny228.out] at ho60 | (simp only [Int.reduceToNat] at ho60; rw [← Ny228.out] at ho60)); have HO230 := mS (Kd.R_lower (Kd.R_new' (Kd.R_new' ho60 (Kd.R_lt (mR HO_3.out))) (Kd.R_lt (mR HO_4.out))) (below_size (mH HB.out))); replace HO_3 := mS (Kd.R_elder' (mR HO_3.out) (Kd.R_base ho60) hb); replace HO_4 := mS (Kd.R_elder' (mR HO_4.out) (Kd.R_base ho60) hb); replace HB := mS (below_step (mH HB.out) hb); clear hb ho60) | ((with_reducible refine gate_builtin (b := .append) (xs := #[.tmp 68, .tmp 69]) rfl ?_); (try (refine gate_guard (by rfl) ?_; dsimp only)); at_builtin; refine Kd.R_append_rows (Kd.int .u8) (w0 := w) w.heap.size rfl (.tmp 68) (.tmp 69) 22 5 (.int .u8 0) 1 rfl Try.underlying22 info5 rfl (by decide) (by omega) v229 y228 t205 _ _ _ (fun k_ => some k_ ≠ (.slice Ao11 t202.length co11 : Value).ownBlock ∧ some k_ ≠ (.slice Ao16 t205.length co16 : Value).ownBlock) (fun _ => False) rfl rfl ?aO ?aR (fun _ _ h => h) (fun _ h => h.elim) ?aF ?aB ?aS ?aL ?_; (case aR => exact mC (Kd.R_reads' HO_4.out).2.2); (case aB => exact (mH HB.out)); (case aF => exact (fun k_ hk => ⟨Kd.fresh' (Kd.R_lt (mR HO_3.out)) k_ hk, Kd.fresh' (Kd.R_lt (mR HO_4.out)) k_ hk⟩)); (case aO => exact (by refine mR ?_; exact Kd.R_mono HO230.out (fun _ hk => ⟨hk.1.2, hk.2⟩))); (case aS => exact (below_size (mH HB.out))); (case aL => have := LMc35.out; omega); intro v232 w61 ho hb hg hat; rw [← Ny231.out] at ho; replace HO_3 := mS (Kd.R_after (ok := (fun k_ => some k_ ≠ (.slice Ao16 t205.length co16 : Value).ownBlock)) (mR HO_3.out) hg hat); replace HO_4 := mS (Kd.R_after (ok := (fun k_ => some k_ ≠ (.slice Ao11 t202.length co11 : Value).ownBlock)) (mR HO_4.out) hg hat); replace HB := mS (hb); have HO233 := mS (ho); clear HO230; clear ho hb hg hat; obtain ⟨Ao62, co62, eo62⟩ := Kd.R_slice HO233.out; subst eo62; have p234 : 0 ≤ ((ji36) : Int) := mD; have q234 : (ji36) < (y231.length : Int) := mD; obtain ⟨ad234, e234, hx234_0⟩ := Kd.at_int (Kd.R_reads' HO233.out).2.2 (ji36) p234 q234; cases e234; replace p234 := eq_true p234; replace q234 := eq_true q234; have p42 : 0 ≤ ((ji36) : Int) := mD; have q42 : ((ji36) : Int) < ((y231.length : Int) : Int) := mD; obtain ⟨go42, co42, eo42, gb42, gl42, cl42, HG42⟩ := Kd.R_form HO233.out (by omega); (first | cases eo42 | (injection eo42 with ea_ en_ ec_; (first | subst ea_ | (injection ea_ with ea_; subst ea_)); subst ec_; clear en_)); have GB42 := mS gb42; have GG42 := mS HG42; clear gb42 gl42 HG42; (first | simp only [add_plain] at hx234_0 | skip); obtain ⟨hx42_0, hf42_0⟩ := Kd.R_celln 0 HO233.out ((ji36) : Int) p42 q42; replace p42 := eq_true p42; replace q42 := eq_true q42; obtain ⟨hy63_, hz63_⟩ := Kd.R_celln 0 HO233.out ((ji36) : Int) (mD) (mD); have HP63 := Kd.R_putg HO233.out ((ji36) : Int) (Go.bits .xor .u8 (rd y231 (ji36)) (ji41))) | ((with_reducible refine gate_store (t := 5) (p := 81) rfl ?_); refine store_event (t := 5) (p := 81) (v := ?vo_w64) (w1 := (w61.setCell ⟨go42, ((ji36) : Int).toNat, none⟩ (.int .u8 (Go.bits .xor .u8 (rd y231 (ji36)) (ji41))))) ?hg ?ho ?hn ?hr ?_; (case ho => rfl); (case hg => rfl); (case hn => rfl); (case hr => first | (go_simp; done) | (go_simp; rfl)); intro w64 hw; have hg : w61.grownBy w64 (some go42) := (by rw [hw]; exact HP63.2); have hp_ : Kd.R (Kd.int .u8) 5 w64 w.heap.size (fun k_ => some k_ ≠ (.slice Ao11 t202.length co11 : Value).ownBlock ∧ some k_ ≠ (.slice Ao16 t205.length co16 : Value).ownBlock) (.slice (some ⟨go42, 0, none⟩) y231.length co62) y235 := (by rw [hw, Ny235.out]; exact HP63.1); clear HP63; replace HO_3 := mS (Kd.R_after (v := (.slice (some ⟨go42, 0, none⟩) y231.length co62)) (v1 := (.slice (some ⟨go42, 0, none⟩) y231.length co62)) (ok := (fun k_ => some k_ ≠ (.slice Ao16 t205.length co16 : Value).ownBlock)) (mR HO_3.out) hg (.inl rfl)); replace HO_4 := mS (Kd.R_after (v := (.slice (some ⟨go42, 0, none⟩) y231.length co62)) (v1 := (.slice (some ⟨go42, 0, none⟩) y231.length co62)) (ok := (fun k_ => some k_ ≠ (.slice Ao11 t202.length co11 : Value).ownBlock)) (mR HO_4.out) hg (.inl rfl)); replace HO233 := mS (hp_); replace HB := mS ((by rw [hw]; exact below_set (HB.out) GB42.out : Below w.heap.size w w64)); clear hg hw hp_) | ((with_reducible refine gate_callee (f := 60) rfl ?_); refine goesL_ (some 84) rfl rfl Try.func60 (by kernel_rfl) rfl #[.slice (some ⟨go42, 0, none⟩) y235.length co62, .int .i64 0] rfl (by (try simp only [List.map_toArray, List.map_cons, List.map_nil]); first | done | (rw [show y235.length = y231.length from (Kd.R_reads' HO233.out).1.symm] <;> rfl) | rfl | (simp only [List.length_drop, List.length_take]; rfl)) ?_; (with_reducible refine (impl_Unframe.calls kj32 _ _ y235 0 t236 t239 false _ ?side1 ?side2 A43.out).mono ?_); (case side1 => exact mC (Kd.R_reads' HO233.out).2.2); (case side2 => rw [show y235.length = y231.length from (Kd.R_reads' HO233.out).1.symm]; exact (Kd.R_reads' HO233.out).2.1); rintro e w65 ⟨v237, rfl, ho0, hb⟩; refine ⟨_, rfl, ?_⟩; have HO238 := mS (Kd.V_lower (Kd.V_mono (ok' := fun k_ => some k_ ≠ (.slice Ao11 t202.length co11 : Value).ownBlock ∧ some k_ ≠ (.slice Ao16 t205.length co16 : Value).ownBlock ∧ some k_ ≠ (.slice (some ⟨go42, 0, none⟩) y231.length co62 : Value).ownBlock) ho0 (fun k_ hk_ => ⟨(Kd.fresh' (Kd.R_lt (mR HO_3.out)) k_ hk_), (Kd.fresh' (Kd.R_lt (mR HO_4.out)) k_ hk_), (Kd.fresh' (Kd.R_lt (mR HO233.out)) k_ hk_)⟩)) (below_size (mH HB.out))); replace HO_3 := mS (Kd.R_below (mR HO_3.out) hb); replace HO_4 := mS (Kd.R_below (mR HO_4.out) hb); replace HO233 := mS (Kd.R_below (mR HO233.out) hb); replace HB := mS (below_step (mH HB.out) hb); (try clear hb); (try clear ho0)) | ((with_reducible refine gate_callee (f := 63) rfl ?_); refine mGo 91 Try.func63 #[.slice A0 l0.length c0, .int .i64 4] ?_; (with_reducible refine (laws_at.calls _ _ l0 4 t241 _ ?side1 ?side2 A44.out).mono ?_); (case side1 => exact mC (Kd.C_below HR0.out HB.out)); (case side2 => exact HC0.out); rintro e w' ⟨rfl, ⟨nd, rfl⟩⟩; refine ⟨_, rfl, ?_⟩; have q66 : ((ji46) : Int) ≤ ((t205.length : Int) : Int) := mD; obtain ⟨i066, hi066, _, hsz66, _⟩ := info_parts info5; have hroom66 : t205.length ≤ co16 := (Kd.R_reads' HO_4.out).2.1; have hC66 : Kd.F (Kd.int .u8) _ _ Ao16 t205.length t205 := (Kd.V_at (base := w.heap.size) (Kd.R_V HO_4.out)).2.2; have hcut66 := cut_to (P := Try.prog) 22 5 .i64 Try.underlying22 hi066 Ao16 t205.length co16 (ji46) (mD) q66 hroom66; have hr66 := Kd.F_take (m := ((ji46) : Int).toNat) hC66 (by omega); have hy66 : y242.length = ((ji46) : Int).toNat := (by rw [Ny242.out, List.length_take]; omega); rw [← Ny242.out] at hr66; rw [← hy66] at hcut66; have HO246 := mS (show Kd.V (Kd.int .u8) 5 _ w.heap.size _ (.slice Ao16 y242.length co16) y242 from Kd.V_mk (by omega) hr66); have HC246 := mS (show y242.length ≤ co16 from by omega); clear hr66 hC66 hroom66 hi066 hsz66; have KY66 := mS hy66; clear hy66; replace q66 := eq_true q66) | ((with_reducible refine gate_callee (f := 60) rfl ?_); refine mGo 96 Try.func60 #[.slice Ao16 y242.length co16, .int .i64 0] ?_; (with_reducible refine (impl_Unframe.calls kj32 _ _ y242 0 t247 t250 false _ ?side1 ?side2 A49.out).mono ?_); (case side1 => exact mC (Kd.V_reads' HO246.out).2.2); (case side2 => exact (Kd.V_reads' HO246.out).2.1); rintro e w67 ⟨v248, rfl, ho0, hb⟩; refine ⟨_, rfl, ?_⟩; replace HO238 := mS (Kd.V_below (mVd HO238.out) hb); replace HO246 := mS (Kd.V_below (mVd HO246.out) hb); have HO249 := mS (Kd.V_lower (Kd.V_mono (ok' := fun k_ => some k_ ≠ (.slice Ao11 t202.length co11 : Value).ownBlock ∧ some k_ ≠ (.slice Ao16 t205.length co16 : Value).ownBlock ∧ some k_ ≠ (.slice (some ⟨go42, 0, none⟩) y231.length co62 : Value).ownBlock) ho0 (fun k_ hk_ => ⟨(Kd.fresh' (Kd.R_lt (mR HO_3.out)) k_ hk_), (Kd.fresh' (Kd.R_lt (mR HO_4.out)) k_ hk_), (Kd.fresh' (Kd.R_lt (mR HO233.out)) k_ hk_)⟩)) (below_size (mH HB.out))); replace HO_3 := mS (Kd.R_below (mR HO_3.out) hb); replace HO_4 := mS (Kd.R_below (mR HO_4.out) hb); replace HO233 := mS (Kd.R_below (mR HO233.out) hb); replace HB := mS (below_step (mH HB.out) hb); (try clear hb); (try clear ho0)) | ((with_reducible refine gate_dst (N := 101) rfl ?_); (try (refine gate_guard (by rfl) ?_; dsimp only)); refine Kd.R_lit (Kd.int .u8) _ 5 ?hg (N := 101) ?hd (xs := ([] : List Int)) (inner := []) (ok := fun _ => True) (okp := fun _ => True) ?hr ?hp (fun _ hk => hk) trivial (Below.refl _ _) (Nat.le_refl _) (by simp) ?_; (case hd => rfl); (case hg => rfl); (case hr => first | (go_simp; done) | (go_simp; rfl)); (case hp => exact (Reps.none _ _)); intro v253 w68 ho69 hb hg_ hnew_; clear hg_ hnew_; (first | rw [← Ny252.out] at ho69 | (simp only [Int.reduceToNat] at ho69; rw [← Ny252.out] at ho69)); replace HO238 := mS (Kd.V_elder' (mVd HO238.out) (Kd.R_base ho69) hb); replace HO246 := mS (Kd.V_elder' (mVd HO246.out) (Kd.R_base ho69) hb); replace HO249 := mS (Kd.V_elder' (mVd HO249.out) (Kd.R_base ho69) hb); have HO254 := mS (Kd.R_lower (Kd.R_new' (Kd.R_new' (Kd.R_new' ho69 (Kd.R_lt (mR HO_3.out))) (Kd.R_lt (mR HO_4.out))) (Kd.R_lt (mR HO233.out))) (below_size (mH HB.out))); replace HO_3 := mS (Kd.R_elder' (mR HO_3.out) (Kd.R_base ho69) hb); replace HO_4 := mS (Kd.R_elder' (mR HO_4.out) (Kd.R_base ho69) hb); replace HO233 := mS (Kd.R_elder' (mR HO233.out) (Kd.R_base ho69) hb); replace HB := mS (below_step (mH HB.out) hb); clear hb ho69) | ((with_reducible refine gate_builtin (b := .append) (xs := #[.tmp 101, .tmp 102]) rfl ?_); (try (refine gate_guard (by rfl) ?_; dsimp only)); at_builtin; refine Kd.R_append_rows (Kd.int .u8) (w0 := w) w.heap.size rfl (.tmp 101) (.tmp 102) 22 5 (.int .u8 0) 1 rfl Try.underlying22 info5 rfl (by decide) (by omega) v253 y252 t205 _ _ _ (fun k_ => some k_ ≠ (.slice Ao11 t202.length co11 : Value).ownBlock ∧ some k_ ≠ (.slice Ao16 t205.length co16 : Value).ownBlock ∧ some k_ ≠ (.slice (some ⟨go42, 0, none⟩) y231.length co62 : Value).ownBlock) (fun _ => False) rfl rfl ?aO ?aR (fun _ _ h => h) (fun _ h => h.elim) ?aF ?aB ?aS ?aL ?_; (case aR => exact mC (Kd.R_reads' HO_4.out).2.2); (case aB => exact (mH HB.out)); (case aF => exact (fun k_ hk => ⟨Kd.fresh' (Kd.R_lt (mR HO_3.out)) k_ hk, Kd.fresh' (Kd.R_lt (mR HO_4.out)) k_ hk, Kd.fresh' (Kd.R_lt (mR HO233.out)) k_ hk⟩)); (case aO => exact (by refine mR ?_; exact Kd.R_mono HO254.out (fun _ hk => ⟨hk.1.1.2, ⟨hk.1.2, hk.2⟩⟩))); (case aS => exact (below_size (mH HB.out))); (case aL => have := LMc50.out; omega); intro v256 w70 ho hb hg hat; rw [← Ny255.out] at ho; replace HO_3 := mS (Kd.R_after (ok := (fun k_ => some k_ ≠ (.slice Ao16 t205.length co16 : Value).ownBlock ∧ some k_ ≠ (.slice (some ⟨go42, 0, none⟩) y231.length co62 : Value).ownBlock)) (mR HO_3.out) hg hat); replace HO_4 := mS (Kd.R_after (ok := (fun k_ => some k_ ≠ (.slice Ao11 t202.length co11 : Value).ownBlock ∧ some k_ ≠ (.slice (some ⟨go42, 0, none⟩) y231.length co62 : Value).ownBlock)) (mR HO_4.out) hg hat); replace HO233 := mS (Kd.R_after (ok := (fun k_ => some k_ ≠ (.slice Ao11 t202.length co11 : Value).ownBlock ∧ some k_ ≠ (.slice Ao16 t205.length co16 : Value).ownBlock)) (mR HO233.out) hg hat); replace HO238 := mS (Kd.V_afterv (ok := (fun k_ => some k_ ≠ (.slice Ao11 t202.length co11 : Value).ownBlock ∧ some k_ ≠ (.slice Ao16 t205.length co16 : Value).ownBlock ∧ some k_ ≠ (.slice (some ⟨go42, 0, none⟩) y231.length co62 : Value).ownBlock)) (mVd HO238.out) hg hat); replace HO246 := mS (Kd.V_afterv (ok := (fun k_ => some k_ ≠ (.slice Ao11 t202.length co11 : Value).ownBlock ∧ some k_ ≠ (.slice (some ⟨go42, 0, none⟩) y231.length co62 : Value).ownBlock)) (mVd HO246.out) hg hat); replace HO249 := mS (Kd.V_afterv (ok := (fun k_ => some k_ ≠ (.slice Ao11 t202.length co11 : Value).ownBlock ∧ some k_ ≠ (.slice Ao16 t205.length co16 : Value).ownBlock ∧ some k_ ≠ (.slice (some ⟨go42, 0, none⟩) y231.length co62 : Value).ownBlock)) (mVd HO249.out) hg hat); replace HB := mS (hb); have HO257 := mS (ho); clear HO254; clear ho hb hg hat) | ((with_reducible refine gate_builtin (b := .append) (xs := #[.tmp 103, .tmp 104]) rfl ?_); (try (refine gate_guard (by rfl) ?_; dsimp only)); at_builtin; refine Kd.R_append_rows (Kd.int .u8) (w0 := w) w.heap.size rfl (.tmp 103) (.tmp 104) 22 5 (.int .u8 0) 1 rfl Try.underlying22 info5 rfl (by decide) (by omega) v256 y255 t205 _ _ _ (fun k_ => some k_ ≠ (.slice Ao11 t202.length co11 : Value).ownBlock ∧ some k_ ≠ (.slice Ao16 t205.length co16 : Value).ownBlock ∧ some k_ ≠ (.slice (some ⟨go42, 0, none⟩) y231.length co62 : Value).ownBlock) (fun _ => False) rfl rfl ?aO ?aR (fun _ _ h => h) (fun _ h => h.elim) ?aF ?aB ?aS ?aL ?_; (case aR => exact mC (Kd.R_reads' HO_4.out).2.2); (case aB => exact (mH HB.out)); (case aF => exact (fun k_ hk => ⟨Kd.fresh' (Kd.R_lt (mR HO_3.out)) k_ hk, Kd.fresh' (Kd.R_lt (mR HO_4.out)) k_ hk, Kd.fresh' (Kd.R_lt (mR HO233.out)) k_ hk⟩)); (case aO => exact (mR HO257.out)); (case aS => exact (below_size (mH HB.out))); (case aL => have := LMc51.out; omega); intro v259 w71 ho hb hg hat; rw [← Ny258.out] at ho; replace HO_3 := mS (Kd.R_after (ok := (fun k_ => some k_ ≠ (.slice Ao16 t205.length co16 : Value).ownBlock ∧ some k_ ≠ (.slice (some ⟨go42, 0, none⟩) y231.length co62 : Value).ownBlock)) (mR HO_3.out) hg hat); replace HO_4 := mS (Kd.R_after (ok := (fun k_ => some k_ ≠ (.slice Ao11 t202.length co11 : Value).ownBlock ∧ some k_ ≠ (.slice (some ⟨go42, 0, none⟩) y231.length co62 : Value).ownBlock)) (mR HO_4.out) hg hat); replace HO233 := mS (Kd.R_after (ok := (fun k_ => some k_ ≠ (.slice Ao11 t202.length co11 : Value).ownBlock ∧ some k_ ≠ (.slice Ao16 t205.length co16 : Value).ownBlock)) (mR HO233.out) hg hat); replace HO238 := mS (Kd.V_afterv (ok := (fun k_ => some k_ ≠ (.slice Ao11 t202.length co11 : Value).ownBlock ∧ some k_ ≠ (.slice Ao16 t205.length co16 : Value).ownBlock ∧ some k_ ≠ (.slice (some ⟨go42, 0, none⟩) y231.length co62 : Value).ownBlock)) (mVd HO238.out) hg hat); replace HO246 := mS (Kd.V_afterv (ok := (fun k_ => some k_ ≠ (.slice Ao11 t202.length co11 : Value).ownBlock ∧ some k_ ≠ (.slice (some ⟨go42, 0, none⟩) y231.length co62 : Value).ownBlock)) (mVd HO246.out) hg hat); replace HO249 := mS (Kd.V_afterv (ok := (fun k_ => some k_ ≠ (.slice Ao11 t202.length co11 : Value).ownBlock ∧ some k_ ≠ (.slice Ao16 t205.length co16 : Value).ownBlock ∧ some k_ ≠ (.slice (some ⟨go42, 0, none⟩) y231.length co62 : Value).ownBlock)) (mVd HO249.out) hg hat); replace HB := mS (hb); have HO260 := mS (ho); clear HO257; clear ho hb hg hat; obtain ⟨Ao72, co72, eo72⟩ := Kd.R_slice HO260.out; subst eo72) | ((with_reducible refine gate_callee (f := 64) rfl ?_); refine mGo 106 Try.func64 #[.slice Ao72 y258.length co72] ?_; (with_reducible refine (impl_Records.calls kj32 _ _ y258 t261 t264 _ ?side1 ?side2 A52.out).mono ?_); (case side1 => exact mC (Kd.R_reads' HO260.out).2.2); (case side2 => exact (Kd.R_reads' HO260.out).2.1); rintro e w73 ⟨v262, rfl, ho0, hb⟩; refine ⟨_, rfl, ?_⟩; replace HO238 := mS (Kd.V_elder' (mVd HO238.out) (Kd.N_base ho0) hb); replace HO246 := mS (Kd.V_elder' (mVd HO246.out) (Kd.N_base ho0) hb); replace HO249 := mS (Kd.V_elder' (mVd HO249.out) (Kd.N_base ho0) hb); have HO263 := mS (Kd.N_lower (Kd.N_mono (ok' := fun k_ => some k_ ≠ (.slice Ao11 t202.length co11 : Value).ownBlock ∧ some k_ ≠ (.slice Ao16 t205.length co16 : Value).ownBlock ∧ some k_ ≠ (.slice (some ⟨go42, 0, none⟩) y231.length co62 : Value).ownBlock ∧ some k_ ≠ (.slice Ao72 y258.length co72 : Value).ownBlock) ho0 (fun k_ hk_ => ⟨(Kd.fresh' (Kd.R_lt (mR HO_3.out)) k_ hk_), (Kd.fresh' (Kd.R_lt (mR HO_4.out)) k_ hk_), (Kd.fresh' (Kd.R_lt (mR HO233.out)) k_ hk_), (Kd.fresh' (Kd.R_lt (mR HO260.out)) k_ hk_)⟩)) (below_size (mH HB.out))); replace HO_3 := mS (Kd.R_below (mR HO_3.out) hb); replace HO_4 := mS (Kd.R_below (mR HO_4.out) hb); replace HO233 := mS (Kd.R_below (mR HO233.out) hb); replace HO260 := mS (Kd.R_below (mR HO260.out) hb); replace HB := mS (below_step (mH HB.out) hb); (try clear hb); (try clear ho0); obtain ⟨Ao74, co74, eo74⟩ := Kd.N_slice HO263.out; subst eo74; have p265 : 0 ≤ (1 : Int) := (by omega); have q265 : 1 < (t261.length : Int) := mD; obtain ⟨ad265, A265_0, c265_0, e265, hx265_0, hl265_0, hi265_0⟩ := at_L2 (Kd.N_reads' HO263.out).2.2 1 p265 q265; cases e265; obtain ⟨ce265, hce265, hMe265, hcc265⟩ := Kd.N_get HO263.out [] 1 p265 (by first | exact q265 | exact mD | (have e_ := (Kd.N_reads' HO263.out).1; omega)); obtain ⟨ua265_0, uc265_0, rfl, ul265_0, ge265_0⟩ := Kd.FK_slice_open hMe265; have hv265_0 := hcc265 0 _ rfl; rw [Nat.add_zero, show ((Kd.slice 5 (Kd.int .u8))).sz = 1 from rfl, Nat.mul_one] at hv265_0; replace hv265_0 := Option.some.inj (hv265_0.symm.trans hx265_0); injection hv265_0 with hva_ hvn_ hvc_; rw [hva_] at ge265_0; rw [hvc_] at ul265_0; have HL265_0 := mS (show Kd.V (Kd.int .u8) 5 _ w.heap.size _ _ (rd_L2 t261 1) from Kd.V_mk ul265_0 ge265_0); clear hva_ hvn_ hvc_ ge265_0 ul265_0; clear hcc265 hce265; (try simp only [show (1 : Int).toNat = 1 from rfl, Nat.reduceMul, Nat.reduceEqDiff, Go.Addr.add, ↓reduceIte] at hx265_0); have qi265 : (1 < t261.length) = True := eq_true (by omega); (try rw [show ((1 : Int)).toNat = 1 from rfl] at hx265_0); have HR265_0 := mS hi265_0; have HC265_0 := mS hl265_0; clear hi265_0 hl265_0; replace p265 := eq_true p265; replace q265 := eq_true q265) | (go_at_call 62; (with_reducible refine (laws_sameBytes.calls kj32 _ _ (rd_L2 t261 1) _ _ t202 t266 _ ?side1 ?side2 ?side3 ?side4 A58.out).mono ?_); (case side1 => exact mC (by repeat (first | (with_reducible exact HR265_0.out) | (with_reducible refine Kd.C_alloc ?_ _) | (with_reducible refine Kd.C_drewN ?_ _) | (with_reducible refine Kd.C_drew ?_) | exact HR265_0.out))); (case side2 => exact HC265_0.out); (case side3 => exact mC (Kd.R_reads' HO_3.out).2.2); (case side4 => exact (Kd.R_reads' HO_3.out).2.1); rintro e w' ⟨rfl, ⟨nd, rfl⟩⟩))
                        go_ret
                        exact ⟨by first | rfl | (simp [errW_none, errW_some] <;> rfl) | (simp only [← hji36, ← hji39, ← hji41, ← hji46]; first | rfl | (simp [errW_none, errW_some] <;> rfl)) | (simp [*, errW_none, errW_some] <;> rfl), (mH HB.out)⟩
                       ·rw [if_neg c57] at H
                        exact absurd H (by simp)
                      ·rw [if_neg c56] at H
                       have c56b0 : (t264 == (wrap64 (2 * (t205.length : Int)))) = false := beq_eq_false_iff_ne.mpr c56
                       have c56b1 : (t264 != (wrap64 (2 * (t205.length : Int)))) = true := bne_iff_ne.mpr c56
                       exact absurd ((Option.some.inj H).trans ht_) (by decide)
                     ·rw [if_neg c55] at H
                      have c55b0 : ((t261.length : Int) == 2) = false := beq_eq_false_iff_ne.mpr c55
                      have c55b1 : ((t261.length : Int) != 2) = true := bne_iff_ne.mpr c55
                      exact absurd ((Option.some.inj H).trans ht_) (by decide)
                  ·rw [if_neg c51] at H
                   exact absurd H (by simp)
                 ·rw [if_neg c50] at H
                  exact absurd H (by simp)
                ·rw [if_neg c48] at H
                 exact absurd H (by simp)
               ·rw [if_neg c47] at H
                exact absurd H (by simp)
             ·rw [if_neg c40] at H
              exact absurd H (by simp)
            ·rw [if_neg c38] at H
             exact absurd H (by simp)
           ·rw [if_neg c37] at H
            exact absurd H (by simp)
          ·rw [if_neg c35] at H
           exact absurd H (by simp)
   ·rw [if_neg c7] at H
    exact absurd H (by simp)
  ·rw [if_neg c6] at H
   exact absurd H (by simp)

end Go.Proofs.Ytgncojbnejdplaa.MFnFrames
