-- Written by mp.py, this session's own printer (wip/mp.py).
import Derived.Test.YtecjamgajlpfdaaVMShort
import Derived.Test.YtecjamgajlpfdaaMFnExactTablePairsx0
import Derived.Test.YtecjamgajlpfdaaMFnExactTablePairsx2
namespace Go.Proofs.Ytecjamgajlpfdaa.MFnExactTablePairs
open Go.RowKit Go.Proofs.YtecjamgajlpfdaaW.PrintWords Go.Proofs.YtecjamgajlpfdaaW.PrintLast Go.Proofs.YtecjamgajlpfdaaW.PrintMore Go.Proofs.Ytecjamgajlpfdaa.MWords
attribute [local go_sem] max2_int min2_int max_two min_two max_three min_three max_four min_four   -- for this text's walks alone
set_option linter.unusedVariables false
set_option linter.unusedSimpArgs false

/-! ### spec_PutNum: function 75 -/
mutual
def spec_PutNum.j0 : Nat → Int → List Int → Option (List Int)
 | 0, _, _ => none
 | k + 1, x1, x5 => if x1 < 0 then (spec_PutNum.j1 k 0 x5) else (spec_PutNum.j1 k x1 x5)
def spec_PutNum.j1 : Nat → Int → List Int → Option (List Int)
 | 0, _, _ => none
 | k + 1, x1, x5 => spec_PutNum.l0 k x1 x5 false 28
def spec_PutNum.l0 : Nat → Int → List Int → Bool → Int → Option (List Int)
 | 0, _, _, _, _ => none
 | k + 1, x1, x5, x6, x7 => if x7 > 0 then (if 0 ≤ (IntKind.u64.wrap (x7)) then (if x6 = true then (if x5.length < 140737488355328 then (spec_PutNum.l0 k x1 (x5 ++ [(Go.bits .or .i64 (Go.bits .and .i64 (shr .i64 x1 (IntKind.u64.wrap (x7))) 127) 128) % 256]) true (wrap64 (x7 - 7))) else (none)) else (if (Go.bits .and .i64 (shr .i64 x1 (IntKind.u64.wrap (x7))) 127) > 0 then (if x5.length < 140737488355328 then (spec_PutNum.l0 k x1 (x5 ++ [(Go.bits .or .i64 (Go.bits .and .i64 (shr .i64 x1 (IntKind.u64.wrap (x7))) 127) 128) % 256]) true (wrap64 (x7 - 7))) else (none)) else (spec_PutNum.l0 k x1 x5 x6 (wrap64 (x7 - 7))))) else (none)) else (if x5.length < 140737488355328 then (some (x5 ++ [(Go.bits .and .i64 x1 127) % 256])) else (none))
end
def spec_PutNum.f (k : Nat) (l0 : List Int) (a1 : Int) : Option (List Int) := (some (([] : List Int) : List Int)).bind fun y219 => (if y219.length + l0.length < 140737488355328 then ((some (y219 ++ l0 : List Int)).bind fun y222 => (if a1 > 1000000000 then (spec_PutNum.j0 k 1000000000 y222) else (spec_PutNum.j0 k a1 y222))) else (none))
theorem spec_PutNum.mono_l : ∀ k, (∀ y0 y1, LeO (spec_PutNum.j0 k y0 y1) (spec_PutNum.j0 (k + 1) y0 y1)) ∧ (∀ y0 y1, LeO (spec_PutNum.j1 k y0 y1) (spec_PutNum.j1 (k + 1) y0 y1)) ∧ (∀ y0 y1 y2 y3, LeO (spec_PutNum.l0 k y0 y1 y2 y3) (spec_PutNum.l0 (k + 1) y0 y1 y2 y3))
 | 0 => ⟨fun _ _ r h => by simp [spec_PutNum.j0] at h, fun _ _ r h => by simp [spec_PutNum.j1] at h, fun _ _ _ _ r h => by simp [spec_PutNum.l0] at h⟩
 | k + 1 => by
  obtain ⟨ih0, ih1, ih2⟩ := spec_PutNum.mono_l k
  refine ⟨?_, ?_, ?_⟩
  ·intro y0 y1
   unfold spec_PutNum.j0
   repeat' first
   | (with_reducible exact ih0 _ _)
   | (with_reducible exact ih1 _ _)
   | (with_reducible exact ih2 _ _ _ _)
   | (with_reducible exact LeO.refl _)
   | (with_reducible exact LeO.none _)
   | (with_reducible refine LeO.ite ?_ ?_)
   | (with_reducible refine LeO.bind ?_ (fun _ => ?_))
   | exact ih0 _ _
   | exact ih1 _ _
   | exact ih2 _ _ _ _
   | exact LeO.none _
   | refine LeO.ite ?_ ?_
   | refine LeO.bind ?_ (fun _ => ?_)
  ·intro y0 y1
   unfold spec_PutNum.j1
   repeat' first
   | (with_reducible exact ih0 _ _)
   | (with_reducible exact ih1 _ _)
   | (with_reducible exact ih2 _ _ _ _)
   | (with_reducible exact LeO.refl _)
   | (with_reducible exact LeO.none _)
   | (with_reducible refine LeO.ite ?_ ?_)
   | (with_reducible refine LeO.bind ?_ (fun _ => ?_))
   | exact ih0 _ _
   | exact ih1 _ _
   | exact ih2 _ _ _ _
   | exact LeO.none _
   | refine LeO.ite ?_ ?_
   | refine LeO.bind ?_ (fun _ => ?_)
  ·intro y0 y1 y2 y3
   unfold spec_PutNum.l0
   repeat' first
   | (with_reducible exact ih0 _ _)
   | (with_reducible exact ih1 _ _)
   | (with_reducible exact ih2 _ _ _ _)
   | (with_reducible exact LeO.refl _)
   | (with_reducible exact LeO.none _)
   | (with_reducible refine LeO.ite ?_ ?_)
   | (with_reducible refine LeO.bind ?_ (fun _ => ?_))
   | exact ih0 _ _
   | exact ih1 _ _
   | exact ih2 _ _ _ _
   | exact LeO.none _
   | refine LeO.ite ?_ ?_
   | refine LeO.bind ?_ (fun _ => ?_)
theorem spec_PutNum.mono : ∀ a0 a1 k, LeO (spec_PutNum.f k a0 a1) (spec_PutNum.f (k + 1) a0 a1) := by
 intro a0 a1 k
 obtain ⟨ih0, ih1, ih2⟩ := spec_PutNum.mono_l k
 unfold spec_PutNum.f
 repeat' first
   | (with_reducible exact ih0 _ _)
   | (with_reducible exact ih1 _ _)
   | (with_reducible exact ih2 _ _ _ _)
   | (with_reducible exact LeO.refl _)
   | (with_reducible exact LeO.none _)
   | (with_reducible refine LeO.ite ?_ ?_)
   | (with_reducible refine LeO.bind ?_ (fun _ => ?_))
   | exact ih0 _ _
   | exact ih1 _ _
   | exact ih2 _ _ _ _
   | exact LeO.none _
   | refine LeO.ite ?_ ?_
   | refine LeO.bind ?_ (fun _ => ?_)
set_option maxHeartbeats 8000000 in
set_option maxRecDepth 100000 in
theorem spec_PutNum.calls (k : Nat) (A0 : Option Addr) (c0 : Nat) (l0 : List Int) (a1 : Int) (r : List Int) (w : World) (hr0 : Kd.C (Kd.int .u8) w A0 l0.length l0) (hc0 : l0.length ≤ c0) (h : spec_PutNum.f k l0 a1 = some r) :
  Calls Try.prog 75 #[.slice A0 l0.length c0, .int .i64 a1] w fun e w' => ∃ v0_ : Value, e = .returned (v0_) ∧ Kd.R (Kd.int .u8) 5 w' w.heap.size (fun _ => True) v0_ r ∧ Below w.heap.size w w' := by
 have HR0 := mS hr0
 have HC0 := mS hc0
 clear hr0 hc0
 have HB := mS (Below.refl w.heap.size w)
 have H : ((some (([] : List Int) : List Int)).bind fun y219 => (if y219.length + l0.length < 140737488355328 then ((some (y219 ++ l0 : List Int)).bind fun y222 => (if a1 > 1000000000 then (spec_PutNum.j0 k 1000000000 y222) else (spec_PutNum.j0 k a1 y222))) else (none))) = some r := h
 clear h
 obtain ⟨y219, hy219⟩ : ∃ y_ : List Int, y_ = (([] : List Int)) := ⟨_, rfl⟩
 replace H : (if y219.length + l0.length < 140737488355328 then ((some (y219 ++ l0 : List Int)).bind fun y222 => (if a1 > 1000000000 then (spec_PutNum.j0 k 1000000000 y222) else (spec_PutNum.j0 k a1 y222))) else (none)) = some r := by first | (rw [hy219]; with_reducible exact H) | (have H2_ := (Option.bind_some _ _).symm.trans H; rw [hy219]; with_reducible exact H2_) | (have H2_ := (Option.bind_some _ _).symm.trans H; with_reducible exact H2_) | with_reducible exact H | (rw [hy219]; exact H) | exact H
 have Ny219 := mS hy219
 clear hy219
 by_cases c3 : y219.length + l0.length < 140737488355328
 ·rw [if_pos c3] at H
  have LMc3 := mS c3
  clear c3
  obtain ⟨y222, hy222⟩ : ∃ y_ : List Int, y_ = (y219 ++ l0) := ⟨_, rfl⟩
  replace H : (if a1 > 1000000000 then (spec_PutNum.j0 k 1000000000 y222) else (spec_PutNum.j0 k a1 y222)) = some r := by first | (rw [hy222]; with_reducible exact H) | (have H2_ := (Option.bind_some _ _).symm.trans H; rw [hy222]; with_reducible exact H2_) | (have H2_ := (Option.bind_some _ _).symm.trans H; with_reducible exact H2_) | with_reducible exact H | (rw [hy222]; exact H) | exact H
  have Ny222 := mS hy222
  clear hy222
  have HC4 := mS H
  clear H
  go_enter Try.func75, Try.ntmps75
  go_upto_if 13 with (first | ((with_reducible refine gate_dst (N := 9) rfl ?_); refine Kd.R_lit (Kd.int .u8) _ 5 ?hg (N := 9) ?hd (xs := ([] : List Int)) (inner := []) (ok := fun _ => True) (okp := fun _ => True) ?hr ?hp (fun _ hk => hk) trivial (Below.refl _ _) (Nat.le_refl _) (by simp) ?_; (case hd => rfl); (case hg => rfl); (case hr => first | (go_simp; done) | (go_simp; rfl)); (case hp => exact (Reps.none _ _)); intro v220 w5 ho6 hb hg_ hnew_; clear hg_ hnew_; (first | rw [← Ny219.out] at ho6 | (simp only [Int.reduceToNat] at ho6; rw [← Ny219.out] at ho6)); have HO221 := mS (Kd.R_lower ho6 (below_size (mH HB.out))); replace HB := mS (below_step (mH HB.out) hb); clear hb ho6) | ((with_reducible refine gate_builtin (b := .append) (xs := #[.tmp 9, .tmp 10]) rfl ?_); at_builtin; refine Kd.R_append_rows (Kd.int .u8) (w0 := w) w.heap.size rfl (.tmp 9) (.tmp 10) 22 5 (.int .u8 0) 1 rfl Try.underlying22 info5 rfl (by decide) (by omega) v220 y219 l0 _ _ _ (fun _ => True) (fun _ => False) rfl rfl ?aO ?aR (fun _ _ h => h) (fun _ h => h.elim) ?aF ?aB ?aS ?aL ?_; (case aR => exact mC (Kd.C_below HR0.out HB.out)); (case aB => exact (mH HB.out)); (case aF => exact (fun _ _ => trivial)); (case aO => exact (mR HO221.out)); (case aS => exact (below_size (mH HB.out))); (case aL => have := LMc3.out; omega); intro v223 w7 ho hb hg hat; rw [← Ny222.out] at ho; replace HB := mS (hb); have HO224 := mS (ho); clear HO221; clear ho hb hg hat))
  (try simp only [Act.put, zA, zB, zC])
  go_cut [1] (fun v1 wc => ∃ (kq : Nat) (x1_3 : Int), v1 = .int .i64 x1_3 ∧ Aside0 (spec_PutNum.j0 kq x1_3 y222 = some r) ∧ Aside0 (kq ≤ k) ∧ Aside0 (Kd.R (Kd.int .u8) 5 wc w.heap.size (fun _ => True) v223 y222) ∧ Aside0 (Below w.heap.size w wc))
  case first =>
   have H := HC4.out
   clear HC4
   by_cases c8 : a1 > 1000000000
   ·rw [if_pos c8] at H
    have c8b0 : decide (1000000000 < a1) = true := decide_eq_true c8
    clear c8
    (first | rw [c8b0] | (simp only [i64_w, i32_w]; rw [c8b0]) | skip)
    have H' := mS H
    clear H
    go_wp2
    go_meet
    case rel => exact ⟨_, (1000000000), mE, H', ⟨by first | omega | exact Nat.le_refl _⟩, ⟨mR HO224.out⟩, ⟨(mH HB.out)⟩⟩
   ·rw [if_neg c8] at H
    have c8b0 : decide (1000000000 < a1) = false := decide_eq_false c8
    clear c8
    (first | rw [c8b0] | (simp only [i64_w, i32_w]; rw [c8b0]) | skip)
    have H' := mS H
    clear H
    go_wp2
    go_meet
    case rel => exact ⟨_, (a1), mE, H', ⟨by first | omega | exact Nat.le_refl _⟩, ⟨mR HO224.out⟩, ⟨(mH HB.out)⟩⟩
  case rest =>
   clear HC4
   try clear p2
   try clear c3
   try clear c7
   try clear c8
   try clear c8b0
   obtain ⟨kq, x1_3, rfl, HA, HJ3, HO_5, HB⟩ := hcut
   cases kq with
   | zero => exact absurd HA.out (by simp [spec_PutNum.j0])
   | succ kj3 =>
    have H := HA.out
    clear HA
    simp only [spec_PutNum.j0] at H
    have HC9 := mS H
    clear H
    go_upto_if 15 with (fail)
    go_cut [1] (fun v1 wc => ∃ (kq : Nat) (x1_8 : Int), v1 = .int .i64 x1_8 ∧ Aside0 (spec_PutNum.j1 kq x1_8 y222 = some r) ∧ Aside0 (kq ≤ kj3) ∧ Aside0 (Kd.R (Kd.int .u8) 5 wc w.heap.size (fun _ => True) v223 y222) ∧ Aside0 (Below w.heap.size w wc))
    case first =>
     have H := HC9.out
     clear HC9
     by_cases c10 : x1_3 < 0
     ·rw [if_pos c10] at H
      have c10b0 := decide_eq_true c10
      clear c10
      (first | rw [c10b0] | (simp only [i64_w, i32_w]; rw [c10b0]) | skip)
      have H' := mS H
      clear H
      go_wp2
      go_meet
      case rel => exact ⟨_, (0), mE, H', ⟨by have := HJ3.out; first | omega | exact Nat.le_refl _⟩, ⟨mR HO_5.out⟩, ⟨(mH HB.out)⟩⟩
     ·rw [if_neg c10] at H
      have c10b0 := decide_eq_false c10
      clear c10
      (first | rw [c10b0] | (simp only [i64_w, i32_w]; rw [c10b0]) | skip)
      have H' := mS H
      clear H
      go_wp2
      go_meet
      case rel => exact ⟨_, (x1_3), mE, H', ⟨by have := HJ3.out; first | omega | exact Nat.le_refl _⟩, ⟨mR HO_5.out⟩, ⟨(mH HB.out)⟩⟩
    case rest =>
     clear HC9
     try clear c1
     try clear p2
     try clear c3
     try clear c7
     try clear c8
     try clear c8b0
     try clear c10
     try clear c10b0
     try clear p2
     obtain ⟨kq, x1_8, rfl, HA, HJ8, HO_5, HB⟩ := hcut
     cases kq with
     | zero => exact absurd HA.out (by simp [spec_PutNum.j1])
     | succ kj8 =>
      have H := HA.out
      clear HA
      simp only [spec_PutNum.j1] at H
      have H' := mS H
      clear H
      go_wp2
      go_loopg [5, 6, 7] kj8 (fun kq v5 v6 v7 w' => ∃ (x5_3 : List Int) (x6_3 : Bool) (x7_3 : Int), v6 = .bool x6_3 ∧ v7 = .int .i64 x7_3 ∧ Aside0 (spec_PutNum.l0 kq x1_8 x5_3 x6_3 x7_3 = some r) ∧ Aside0 (kq ≤ kj8) ∧ Aside0 (Kd.R (Kd.int .u8) 5 w' w.heap.size (fun _ => True) v5 x5_3) ∧ Aside0 (Below w.heap.size w w'))
      case atStart => exact ⟨(y222), (false), (28), mE, mE, H', ⟨Nat.le_refl _⟩, ⟨mR HO_5.out⟩, ⟨(mH HB.out)⟩⟩
      case round =>
       clear H'
       try clear c1
       try clear p2
       try clear c3
       try clear c7
       try clear c8
       try clear c8b0
       try clear c10
       try clear c10b0
       try clear p2
       obtain ⟨x5_3, x6_3, x7_3, rfl, rfl, HA, HK3, HO_5, HB⟩ := hrel
       cases gk with
       | zero => exact absurd HA.out (by simp [spec_PutNum.l0])
       | succ k3 =>
        have H := HA.out
        clear HA
        simp only [spec_PutNum.l0] at H
        by_cases c11 : x7_3 > 0
        ·rw [if_pos c11] at H
         have c11b0 : decide (0 < x7_3) = true := decide_eq_true c11
         clear c11
         obtain ⟨ji12, hji12⟩ : ∃ j_ : Int, (IntKind.u64.wrap (x7_3)) = j_ := ⟨_, rfl⟩
         replace H : (if 0 ≤ (ji12) then (if x6_3 = true then (if x5_3.length < 140737488355328 then (spec_PutNum.l0 k3 x1_8 (x5_3 ++ [(Go.bits .or .i64 (Go.bits .and .i64 (shr .i64 x1_8 (ji12)) 127) 128) % 256]) true (wrap64 (x7_3 - 7))) else (none)) else (if (Go.bits .and .i64 (shr .i64 x1_8 (ji12)) 127) > 0 then (if x5_3.length < 140737488355328 then (spec_PutNum.l0 k3 x1_8 (x5_3 ++ [(Go.bits .or .i64 (Go.bits .and .i64 (shr .i64 x1_8 (ji12)) 127) 128) % 256]) true (wrap64 (x7_3 - 7))) else (none)) else (spec_PutNum.l0 k3 x1_8 x5_3 x6_3 (wrap64 (x7_3 - 7))))) else (none)) = some r := by first | (rw [hji12] at H; exact H) | (simp only [hji12] at H ⊢; exact H)
         by_cases c13 : 0 ≤ (ji12)
         ·rw [if_pos c13] at H
          have c13b0 := eq_true c13
          have c13b1 := decide_eq_true c13
          clear c13
          obtain ⟨ji14, hji14⟩ : ∃ j_ : Int, (shr .i64 x1_8 (ji12)) = j_ := ⟨_, rfl⟩
          replace H : (if x6_3 = true then (if x5_3.length < 140737488355328 then (spec_PutNum.l0 k3 x1_8 (x5_3 ++ [(Go.bits .or .i64 (Go.bits .and .i64 (ji14) 127) 128) % 256]) true (wrap64 (x7_3 - 7))) else (none)) else (if (Go.bits .and .i64 (ji14) 127) > 0 then (if x5_3.length < 140737488355328 then (spec_PutNum.l0 k3 x1_8 (x5_3 ++ [(Go.bits .or .i64 (Go.bits .and .i64 (ji14) 127) 128) % 256]) true (wrap64 (x7_3 - 7))) else (none)) else (spec_PutNum.l0 k3 x1_8 x5_3 x6_3 (wrap64 (x7_3 - 7))))) = some r := by first | (rw [hji14] at H; exact H) | (simp only [hji14] at H ⊢; exact H)
          have hji14_ : (x1_8 / 2 ^ min (ji12).toNat 64) = ji14 := hji14
          have hji14z : (ji12) ≤ 64 → (x1_8 / 2 ^ (ji12).toNat) = ji14 := shr_small hji14
          by_cases c15 : x6_3 = true
          ·subst c15
           have H1 := H
           rw [if_pos rfl] at H1
           clear H
           have H := H1
           clear H1
           by_cases c16 : x5_3.length < 140737488355328
           ·rw [if_pos c16] at H
            have LMc16 := mS c16
            clear c16
            obtain ⟨y225, hy225⟩ : ∃ y_ : List Int, y_ = (x5_3 ++ [(Go.bits .or .i64 (Go.bits .and .i64 (ji14) 127) 128) % 256]) := ⟨_, rfl⟩
            replace H : (spec_PutNum.l0 k3 x1_8 y225 true (wrap64 (x7_3 - 7))) = some r := by first | (rw [hy225]; with_reducible exact H) | (have H2_ := (Option.bind_some _ _).symm.trans H; rw [hy225]; with_reducible exact H2_) | (have H2_ := (Option.bind_some _ _).symm.trans H; with_reducible exact H2_) | with_reducible exact H | (rw [hy225]; exact H) | exact H
            have Ny225 := mS hy225
            clear hy225
            have H' := mS H
            clear H
            go_wp2_with (first | ((with_reducible refine gate_builtin (b := .append) (xs := #[.tmp 30, .tmp 34]) rfl ?_); at_builtin; refine Kd.R_append (Kd.int .u8) (w0 := w) w.heap.size rfl (.tmp 30) (.tmp 34) 22 5 (.int .u8 0) 1 rfl Try.underlying22 info5 rfl (by decide) (by omega) u5 x5_3 ((Go.bits .or .i64 (Go.bits .and .i64 (ji14) 127) 128) % 256) [.int .u8 ((Go.bits .or .i64 (Go.bits .and .i64 (ji14) 127) 128) % 256)] (fun _ => True) (fun _ => False) rfl rfl ?aP (fun _ hk => hk.elim) ?aF ?aO ?aB ?aS ?aL ?_; (case aP => exact rfl); (case aB => exact (mH HB.out)); (case aF => exact (fun _ _ => trivial)); (case aO => exact (mR HO_5.out)); (case aS => exact (below_size (mH HB.out))); (case aL => have := LMc16.out; omega); intro v226 w17 ho hb hg hat; rw [← Ny225.out] at ho; replace HB := mS (hb); have HO227 := mS (ho); clear HO_5; clear ho hb hg hat))
            go_roundg k3
            case measure => have := HJ3.out; have := HJ8.out; have := HK3.out; omega
            case rel => exact ⟨(y225), (true), (wrap64 (x7_3 - 7)), mE, mE, H', ⟨by have := HJ3.out; have := HJ8.out; have := HK3.out; omega⟩, ⟨mR HO227.out⟩, ⟨(mH HB.out)⟩⟩
           ·rw [if_neg c16] at H
            exact absurd H (by simp)
          ·replace c15 := Bool.eq_false_iff.mpr c15
           subst c15
           have H1 := H
           rw [if_neg (show ¬ (false = true) by decide)] at H1
           clear H
           have H := H1
           clear H1
           by_cases c18 : (Go.bits .and .i64 (ji14) 127) > 0
           ·rw [if_pos c18] at H
            have c18b0 : decide (0 < (Go.bits .and .i64 (ji14) 127)) = true := decide_eq_true c18
            clear c18
            by_cases c19 : x5_3.length < 140737488355328
            ·rw [if_pos c19] at H
             have LMc19 := mS c19
             clear c19
             obtain ⟨y228, hy228⟩ : ∃ y_ : List Int, y_ = (x5_3 ++ [(Go.bits .or .i64 (Go.bits .and .i64 (ji14) 127) 128) % 256]) := ⟨_, rfl⟩
             replace H : (spec_PutNum.l0 k3 x1_8 y228 true (wrap64 (x7_3 - 7))) = some r := by first | (rw [hy228]; with_reducible exact H) | (have H2_ := (Option.bind_some _ _).symm.trans H; rw [hy228]; with_reducible exact H2_) | (have H2_ := (Option.bind_some _ _).symm.trans H; with_reducible exact H2_) | with_reducible exact H | (rw [hy228]; exact H) | exact H
             have Ny228 := mS hy228
             clear hy228
             have H' := mS H
             clear H
             go_wp2_with (first | ((with_reducible refine gate_builtin (b := .append) (xs := #[.tmp 30, .tmp 34]) rfl ?_); at_builtin; refine Kd.R_append (Kd.int .u8) (w0 := w) w.heap.size rfl (.tmp 30) (.tmp 34) 22 5 (.int .u8 0) 1 rfl Try.underlying22 info5 rfl (by decide) (by omega) u5 x5_3 ((Go.bits .or .i64 (Go.bits .and .i64 (ji14) 127) 128) % 256) [.int .u8 ((Go.bits .or .i64 (Go.bits .and .i64 (ji14) 127) 128) % 256)] (fun _ => True) (fun _ => False) rfl rfl ?aP (fun _ hk => hk.elim) ?aF ?aO ?aB ?aS ?aL ?_; (case aP => exact rfl); (case aB => exact (mH HB.out)); (case aF => exact (fun _ _ => trivial)); (case aO => exact (mR HO_5.out)); (case aS => exact (below_size (mH HB.out))); (case aL => have := LMc19.out; omega); intro v229 w20 ho hb hg hat; rw [← Ny228.out] at ho; replace HB := mS (hb); have HO230 := mS (ho); clear HO_5; clear ho hb hg hat))
             go_roundg k3
             case measure => have := HJ3.out; have := HJ8.out; have := HK3.out; omega
             case rel => exact ⟨(y228), (true), (wrap64 (x7_3 - 7)), mE, mE, H', ⟨by have := HJ3.out; have := HJ8.out; have := HK3.out; omega⟩, ⟨mR HO230.out⟩, ⟨(mH HB.out)⟩⟩
            ·rw [if_neg c19] at H
             exact absurd H (by simp)
           ·rw [if_neg c18] at H
            have c18b0 : decide (0 < (Go.bits .and .i64 (ji14) 127)) = false := decide_eq_false c18
            clear c18
            have H' := mS H
            clear H
            go_wp2
            go_roundg k3
            case measure => have := HJ3.out; have := HJ8.out; have := HK3.out; omega
            case rel => exact ⟨(x5_3), (false), (wrap64 (x7_3 - 7)), mE, mE, H', ⟨by have := HJ3.out; have := HJ8.out; have := HK3.out; omega⟩, ⟨mR HO_5.out⟩, ⟨(mH HB.out)⟩⟩
         ·rw [if_neg c13] at H
          exact absurd H (by simp)
        ·rw [if_neg c11] at H
         have c11b0 : decide (0 < x7_3) = false := decide_eq_false c11
         clear c11
         by_cases c21 : x5_3.length < 140737488355328
         ·rw [if_pos c21] at H
          have LMc21 := mS c21
          clear c21
          obtain ⟨y231, hy231⟩ : ∃ y_ : List Int, y_ = (x5_3 ++ [(Go.bits .and .i64 x1_8 127) % 256]) := ⟨_, rfl⟩
          replace H : (some y231) = some r := by first | (rw [hy231]; with_reducible exact H) | (have H2_ := (Option.bind_some _ _).symm.trans H; rw [hy231]; with_reducible exact H2_) | (have H2_ := (Option.bind_some _ _).symm.trans H; with_reducible exact H2_) | with_reducible exact H | (rw [hy231]; exact H) | exact H
          have Ny231 := mS hy231
          clear hy231
          obtain rfl := Option.some.inj H
          go_wp2_with (first | ((with_reducible refine gate_builtin (b := .append) (xs := #[.tmp 36, .tmp 40]) rfl ?_); at_builtin; refine Kd.R_append (Kd.int .u8) (w0 := w) w.heap.size rfl (.tmp 36) (.tmp 40) 22 5 (.int .u8 0) 1 rfl Try.underlying22 info5 rfl (by decide) (by omega) u5 x5_3 ((Go.bits .and .i64 x1_8 127) % 256) [.int .u8 ((Go.bits .and .i64 x1_8 127) % 256)] (fun _ => True) (fun _ => False) rfl rfl ?aP (fun _ hk => hk.elim) ?aF ?aO ?aB ?aS ?aL ?_; (case aP => exact rfl); (case aB => exact (mH HB.out)); (case aF => exact (fun _ _ => trivial)); (case aO => exact (mR HO_5.out)); (case aS => exact (below_size (mH HB.out))); (case aL => have := LMc21.out; omega); intro v232 w22 ho hb hg hat; rw [← Ny231.out] at ho; replace HB := mS (hb); have HO233 := mS (ho); clear HO_5; clear ho hb hg hat))
          go_ret
          exact ⟨_, mEw, mR HO233.out, (mH HB.out)⟩
         ·rw [if_neg c21] at H
          exact absurd H (by simp)
 ·rw [if_neg c3] at H
  exact absurd H (by simp)

/-! ### spec_PutText: function 76 -/
def spec_PutText.f (k : Nat) (l0 : List Int) (a1 : ByteArray) : Option (List Int) := (spec_PutNum.f k l0 (a1.size : Int)).bind fun t234 => (if t234.length + a1.size < 140737488355328 then (some (t234 ++ bytesOf a1)) else (none))
theorem spec_PutText.mono : ∀ a0 a1 k, LeO (spec_PutText.f k a0 a1) (spec_PutText.f (k + 1) a0 a1) := by
 intro a0 a1 k
 unfold spec_PutText.f
 repeat' first
   | (with_reducible exact spec_PutNum.mono _ _ _)
   | (with_reducible exact LeO.refl _)
   | (with_reducible exact LeO.none _)
   | (with_reducible refine LeO.ite ?_ ?_)
   | (with_reducible refine LeO.bind ?_ (fun _ => ?_))
   | exact spec_PutNum.mono _ _ _
   | exact LeO.none _
   | refine LeO.ite ?_ ?_
   | refine LeO.bind ?_ (fun _ => ?_)
set_option maxHeartbeats 8000000 in
set_option maxRecDepth 100000 in
theorem spec_PutText.calls (k : Nat) (A0 : Option Addr) (c0 : Nat) (l0 : List Int) (a1 : ByteArray) (r : List Int) (w : World) (hr0 : Kd.C (Kd.int .u8) w A0 l0.length l0) (hc0 : l0.length ≤ c0) (h : spec_PutText.f k l0 a1 = some r) :
  Calls Try.prog 76 #[.slice A0 l0.length c0, .string a1] w fun e w' => ∃ v0_ : Value, e = .returned (v0_) ∧ Kd.R (Kd.int .u8) 5 w' w.heap.size (fun _ => True) v0_ r ∧ Below w.heap.size w w' := by
 have HR0 := mS hr0
 have HC0 := mS hc0
 clear hr0 hc0
 have HB := mS (Below.refl w.heap.size w)
 have H : ((spec_PutNum.f k l0 (a1.size : Int)).bind fun t234 => (if t234.length + a1.size < 140737488355328 then (some (t234 ++ bytesOf a1)) else (none))) = some r := h
 clear h
 replace H := Option.bind_eq_some_iff.mp H
 obtain ⟨t234, A30, H⟩ := H
 replace H : (if t234.length + a1.size < 140737488355328 then (some (t234 ++ bytesOf a1)) else (none)) = some r := H
 have A3 := mS A30
 clear A30
 by_cases c4 : t234.length + a1.size < 140737488355328
 ·rw [if_pos c4] at H
  have LMc4 := mS c4
  clear c4
  obtain ⟨y237, hy237⟩ : ∃ y_ : List Int, y_ = (t234 ++ bytesOf a1) := ⟨_, rfl⟩
  replace H : (some y237) = some r := by first | (rw [hy237]; with_reducible exact H) | (have H2_ := (Option.bind_some _ _).symm.trans H; rw [hy237]; with_reducible exact H2_) | (have H2_ := (Option.bind_some _ _).symm.trans H; with_reducible exact H2_) | with_reducible exact H | (rw [hy237]; exact H) | exact H
  have Ny237 := mS hy237
  clear hy237
  obtain rfl := Option.some.inj H
  go_enter Try.func76, Try.ntmps76
  go_wp2_with (first | ((with_reducible refine gate_callee (f := 75) rfl ?_); refine mGo 8 Try.func75 #[.slice A0 l0.length c0, .int .i64 (a1.size : Int)] ?_; (with_reducible refine (spec_PutNum.calls k _ _ l0 (a1.size : Int) t234 _ ?side1 ?side2 A3.out).mono ?_); (case side1 => exact mC HR0.out); (case side2 => exact HC0.out); rintro e w5 ⟨v235, rfl, ho0, hb⟩; refine ⟨_, rfl, ?_⟩; have HO236 := mS (Kd.R_lower ho0 (below_size (mH HB.out))); replace HB := mS (below_step (mH HB.out) hb); (try clear hb); (try clear ho0)) | (at_builtin; refine print_append_str (w0 := w) w.heap.size rfl (.tmp 8) _ 22 9 5 rfl Try.underlying22 Try.underlying9 info5 v235 t234 a1 rfl rfl ?aO ?aB ?aS ?aL ?_; (case aB => exact (mH HB.out)); (case aO => exact (Kd.own_of_R (mR HO236.out))); (case aS => exact (below_size (mH HB.out))); (case aL => have := LMc4.out; omega); intro v238 w6 ho0 hb hg; have ho := Kd.R_of_own (h1 := fun _ => rfl) (ok := fun _ => True) ho0 (fun _ _ => trivial); clear ho0; have hat := True.intro; rw [← Ny237.out] at ho; change Kd.R (Kd.int .u8) 5 w6 w.heap.size (fun _ => True) v238 y237 at ho; replace HB := mS (hb); have HO239 := mS (ho); clear HO236; clear ho hb hg hat))
  go_ret
  exact ⟨_, mEw, mR HO239.out, (mH HB.out)⟩
 ·rw [if_neg c4] at H
  exact absurd H (by simp)

/-! ### spec_l1Four: function 80 -/
def spec_l1Four.f (a0 : Int) : Option (List Int) := some (([(a0 / 16777216) % 256, (a0 / 65536) % 256, (a0 / 256) % 256, (a0) % 256] : List Int))
set_option maxHeartbeats 8000000 in
set_option maxRecDepth 100000 in
theorem spec_l1Four.calls (a0 : Int) (r : List Int) (w : World) (h : spec_l1Four.f a0 = some r) :
  Calls Try.prog 80 #[.int .i64 a0] w fun e w' => ∃ v0_ : Value, e = .returned (v0_) ∧ Kd.R (Kd.int .u8) 5 w' w.heap.size (fun _ => True) v0_ r ∧ Below w.heap.size w w' := by
 have HB := mS (Below.refl w.heap.size w)
 have H : (some (([(a0 / 16777216) % 256, (a0 / 65536) % 256, (a0 / 256) % 256, (a0) % 256] : List Int))) = some r := h
 clear h
 obtain ⟨y240, hy240⟩ : ∃ y_ : List Int, y_ = (([(a0 / 16777216) % 256, (a0 / 65536) % 256, (a0 / 256) % 256, (a0) % 256] : List Int)) := ⟨_, rfl⟩
 replace H : (some y240) = some r := by first | (rw [hy240]; with_reducible exact H) | (have H2_ := (Option.bind_some _ _).symm.trans H; rw [hy240]; with_reducible exact H2_) | (have H2_ := (Option.bind_some _ _).symm.trans H; with_reducible exact H2_) | with_reducible exact H | (rw [hy240]; exact H) | exact H
 have Ny240 := mS hy240
 clear hy240
 obtain rfl := Option.some.inj H
 go_enter Try.func80, Try.ntmps80
 go_wp2_with (first | ((with_reducible refine gate_dst (N := 14) rfl ?_); refine Kd.R_lit (Kd.int .u8) _ 5 ?hg (N := 14) ?hd (xs := ([(a0 / 16777216) % 256, (a0 / 65536) % 256, (a0 / 256) % 256, (a0) % 256] : List Int)) (inner := [.int .u8 ((a0 / 16777216) % 256), .int .u8 ((a0 / 65536) % 256), .int .u8 ((a0 / 256) % 256), .int .u8 ((a0) % 256)]) (ok := fun _ => True) (okp := fun _ => True) ?hr ?hp (fun _ hk => hk) trivial (Below.refl _ _) (Nat.le_refl _) (by simp) ?_; (case hd => rfl); (case hg => rfl); (case hr => first | (go_simp; done) | (go_simp; rfl)); (case hp => exact (Reps.one (show Kd.M (Kd.int .u8) _ _ _ ((a0 / 16777216) % 256) [.int .u8 ((a0 / 16777216) % 256)] from rfl) (Reps.one (show Kd.M (Kd.int .u8) _ _ _ ((a0 / 65536) % 256) [.int .u8 ((a0 / 65536) % 256)] from rfl) (Reps.one (show Kd.M (Kd.int .u8) _ _ _ ((a0 / 256) % 256) [.int .u8 ((a0 / 256) % 256)] from rfl) (Reps.one (show Kd.M (Kd.int .u8) _ _ _ ((a0) % 256) [.int .u8 ((a0) % 256)] from rfl) (Reps.none _ _)))))); intro v241 w2 ho3 hb hg_ hnew_; clear hg_ hnew_; (first | rw [← Ny240.out] at ho3 | (simp only [Int.reduceToNat] at ho3; rw [← Ny240.out] at ho3)); have HO242 := mS (Kd.R_lower ho3 (below_size (mH HB.out))); replace HB := mS (below_step (mH HB.out) hb); clear hb ho3))
 go_ret
 exact ⟨_, mEw, mR HO242.out, (mH HB.out)⟩

/-! ### spec_Frame: function 79 -/
def spec_Frame.f (k : Nat) (l0 : List Int) : Option (List Int) := (spec_Sum.f k l0).bind fun t243 => ((spec_l1Four.f t243).bind fun t244 => ((spec_PutNum.f k t244 (l0.length : Int)).bind fun t247 => (if t247.length + l0.length < 140737488355328 then (some (t247 ++ l0)) else (none))))
theorem spec_Frame.mono : ∀ a0 k, LeO (spec_Frame.f k a0) (spec_Frame.f (k + 1) a0) := by
 intro a0 k
 unfold spec_Frame.f
 repeat' first
   | (with_reducible exact spec_PutNum.mono _ _ _)
   | (with_reducible exact spec_Sum.mono _ _)
   | (with_reducible exact LeO.refl _)
   | (with_reducible exact LeO.none _)
   | (with_reducible refine LeO.ite ?_ ?_)
   | (with_reducible refine LeO.bind ?_ (fun _ => ?_))
   | exact spec_PutNum.mono _ _ _
   | exact spec_Sum.mono _ _
   | exact LeO.none _
   | refine LeO.ite ?_ ?_
   | refine LeO.bind ?_ (fun _ => ?_)
set_option maxHeartbeats 8000000 in
set_option maxRecDepth 100000 in
theorem spec_Frame.calls (k : Nat) (A0 : Option Addr) (c0 : Nat) (l0 : List Int) (r : List Int) (w : World) (hr0 : Kd.C (Kd.int .u8) w A0 l0.length l0) (hc0 : l0.length ≤ c0) (h : spec_Frame.f k l0 = some r) :
  Calls Try.prog 79 #[.slice A0 l0.length c0] w fun e w' => ∃ v0_ : Value, e = .returned (v0_) ∧ Kd.R (Kd.int .u8) 5 w' w.heap.size (fun _ => True) v0_ r ∧ Below w.heap.size w w' := by
 have HR0 := mS hr0
 have HC0 := mS hc0
 clear hr0 hc0
 have HB := mS (Below.refl w.heap.size w)
 have H : ((spec_Sum.f k l0).bind fun t243 => ((spec_l1Four.f t243).bind fun t244 => ((spec_PutNum.f k t244 (l0.length : Int)).bind fun t247 => (if t247.length + l0.length < 140737488355328 then (some (t247 ++ l0)) else (none))))) = some r := h
 clear h
 replace H := Option.bind_eq_some_iff.mp H
 obtain ⟨t243, A20, H⟩ := H
 replace H : ((spec_l1Four.f t243).bind fun t244 => ((spec_PutNum.f k t244 (l0.length : Int)).bind fun t247 => (if t247.length + l0.length < 140737488355328 then (some (t247 ++ l0)) else (none)))) = some r := H
 have A2 := mS A20
 clear A20
 replace H := Option.bind_eq_some_iff.mp H
 obtain ⟨t244, A30, H⟩ := H
 replace H : ((spec_PutNum.f k t244 (l0.length : Int)).bind fun t247 => (if t247.length + l0.length < 140737488355328 then (some (t247 ++ l0)) else (none))) = some r := H
 have A3 := mS A30
 clear A30
 replace H := Option.bind_eq_some_iff.mp H
 obtain ⟨t247, A40, H⟩ := H
 replace H : (if t247.length + l0.length < 140737488355328 then (some (t247 ++ l0)) else (none)) = some r := H
 have A4 := mS A40
 clear A40
 by_cases c5 : t247.length + l0.length < 140737488355328
 ·rw [if_pos c5] at H
  have LMc5 := mS c5
  clear c5
  obtain ⟨y250, hy250⟩ : ∃ y_ : List Int, y_ = (t247 ++ l0) := ⟨_, rfl⟩
  replace H : (some y250) = some r := by first | (rw [hy250]; with_reducible exact H) | (have H2_ := (Option.bind_some _ _).symm.trans H; rw [hy250]; with_reducible exact H2_) | (have H2_ := (Option.bind_some _ _).symm.trans H; with_reducible exact H2_) | with_reducible exact H | (rw [hy250]; exact H) | exact H
  have Ny250 := mS hy250
  clear hy250
  obtain rfl := Option.some.inj H
  go_enter Try.func79, Try.ntmps79
  go_wp2_with (first | ((with_reducible refine gate_callee (f := 36) rfl ?_); refine mGo 4 Try.func36 #[.slice A0 l0.length c0] ?_; (with_reducible refine (spec_Sum.calls k _ _ l0 t243 _ ?side1 ?side2 A2.out).mono ?_); (case side1 => exact mC HR0.out); (case side2 => exact HC0.out); rintro e w' ⟨rfl, ⟨nd, rfl⟩⟩; refine ⟨_, rfl, ?_⟩) | ((with_reducible refine gate_callee (f := 80) rfl ?_); refine mGo 5 Try.func80 #[.int .i64 t243] ?_; (with_reducible refine (spec_l1Four.calls t243 t244 _ A3.out).mono ?_); rintro e w6 ⟨v245, rfl, ho0, hb⟩; refine ⟨_, rfl, ?_⟩; have HO246 := mS (Kd.R_lower ho0 (below_size (mH HB.out))); replace HB := mS (below_step (mH HB.out) hb); (try clear hb); (try clear ho0); obtain ⟨Ao7, co7, eo7⟩ := Kd.R_slice HO246.out; subst eo7) | ((with_reducible refine gate_callee (f := 75) rfl ?_); refine mGo 8 Try.func75 #[.slice Ao7 t244.length co7, .int .i64 (l0.length : Int)] ?_; (with_reducible refine (spec_PutNum.calls k _ _ t244 (l0.length : Int) t247 _ ?side1 ?side2 A4.out).mono ?_); (case side1 => exact mC (Kd.R_reads' HO246.out).2.2); (case side2 => exact (Kd.R_reads' HO246.out).2.1); rintro e w8 ⟨v248, rfl, ho0, hb⟩; refine ⟨_, rfl, ?_⟩; have HO249 := mS (Kd.R_lower (Kd.R_new' ho0 (Kd.R_lt (mR HO246.out))) (below_size (mH HB.out))); replace HO246 := mS (Kd.R_elder' (mR HO246.out) (Kd.R_base ho0) hb); replace HB := mS (below_step (mH HB.out) hb); (try clear hb); (try clear ho0)) | ((with_reducible refine gate_builtin (b := .append) (xs := #[.tmp 8, .tmp 9]) rfl ?_); at_builtin; refine Kd.R_append_rows (Kd.int .u8) (w0 := w) w.heap.size rfl (.tmp 8) (.tmp 9) 22 5 (.int .u8 0) 1 rfl Try.underlying22 info5 rfl (by decide) (by omega) v248 t247 l0 _ _ _ (fun k_ => some k_ ≠ (.slice Ao7 t244.length co7 : Value).ownBlock) (fun _ => False) rfl rfl ?aO ?aR (fun _ _ h => h) (fun _ h => h.elim) ?aF ?aB ?aS ?aL ?_; (case aR => exact mC (Kd.C_below HR0.out HB.out)); (case aB => exact (mH HB.out)); (case aF => exact (fun k_ hk => Kd.fresh' (Kd.R_lt (mR HO246.out)) k_ hk)); (case aO => exact (by refine mR ?_; exact Kd.R_mono HO249.out (fun _ hk => hk.2))); (case aS => exact (below_size (mH HB.out))); (case aL => have := LMc5.out; omega); intro v251 w9 ho hb hg hat; rw [← Ny250.out] at ho; replace HO246 := mS (Kd.R_after (ok := (fun _ => True)) (mR HO246.out) hg hat); replace HB := mS (hb); have HO252 := mS (ho); clear HO249; clear ho hb hg hat))
  go_ret
  exact ⟨_, mEw, by refine mR ?_; exact Kd.R_mono HO252.out (fun _ hk => trivial), (mH HB.out)⟩
 ·rw [if_neg c5] at H
  exact absurd H (by simp)

/-! ### spec_l5Common: function 96 -/
def spec_l5Common.l0 : Nat → ByteArray → ByteArray → Int → Option (Int)
 | 0, _, _, _ => none
 | k + 1, x0, x1, x5 => if x5 < (x0.size : Int) then (if x5 < (x1.size : Int) then (if 0 ≤ x5 then (if (bt x0 x5) = (bt x1 x5) then (spec_l5Common.l0 k x0 x1 (wrap64 (x5 + 1))) else (some x5)) else (none)) else (some x5)) else (some x5)
def spec_l5Common.f (k : Nat) (a0 : ByteArray) (a1 : ByteArray) : Option (Int) := spec_l5Common.l0 k a0 a1 0
theorem spec_l5Common.mono_l : ∀ k, (∀ y0 y1 y2, LeO (spec_l5Common.l0 k y0 y1 y2) (spec_l5Common.l0 (k + 1) y0 y1 y2))
 | 0 => fun _ _ _ r h => by simp [spec_l5Common.l0] at h
 | k + 1 => by
  have ih0 := spec_l5Common.mono_l k
  ·intro y0 y1 y2
   unfold spec_l5Common.l0
   repeat' first
   | (with_reducible exact ih0 _ _ _)
   | (with_reducible exact LeO.refl _)
   | (with_reducible exact LeO.none _)
   | (with_reducible refine LeO.ite ?_ ?_)
   | (with_reducible refine LeO.bind ?_ (fun _ => ?_))
   | exact ih0 _ _ _
   | exact LeO.none _
   | refine LeO.ite ?_ ?_
   | refine LeO.bind ?_ (fun _ => ?_)
theorem spec_l5Common.mono : ∀ a0 a1 k, LeO (spec_l5Common.f k a0 a1) (spec_l5Common.f (k + 1) a0 a1) := by
 intro a0 a1 k
 have ih0 := spec_l5Common.mono_l k
 unfold spec_l5Common.f
 repeat' first
   | (with_reducible exact ih0 _ _ _)
   | (with_reducible exact LeO.refl _)
   | (with_reducible exact LeO.none _)
   | (with_reducible refine LeO.ite ?_ ?_)
   | (with_reducible refine LeO.bind ?_ (fun _ => ?_))
   | exact ih0 _ _ _
   | exact LeO.none _
   | refine LeO.ite ?_ ?_
   | refine LeO.bind ?_ (fun _ => ?_)
set_option maxHeartbeats 8000000 in
set_option maxRecDepth 100000 in
theorem spec_l5Common.calls (k : Nat) (a0 : ByteArray) (a1 : ByteArray) (r : Int) (w : World) (h : spec_l5Common.f k a0 a1 = some r) :
  Calls Try.prog 96 #[.string a0, .string a1] w fun e w' => e = .returned (.int .i64 r) ∧ Drawn0 w w' := by
 have H : (spec_l5Common.l0 k a0 a1 0) = some r := h
 clear h
 have H' := mS H
 clear H
 go_enter Try.func96, Try.ntmps96
 go_wp2
 repeat (go_quiet (fail); try go_wp2)
 go_loopg [5] k (fun kq v5 w' => ∃ (x5_1 : Int), v5 = .int .i64 x5_1 ∧ Aside0 (spec_l5Common.l0 kq a0 a1 x5_1 = some r) ∧ Aside0 (kq ≤ k) ∧ Drawn0 w w')
 case atStart => exact ⟨(0), mE, H', ⟨Nat.le_refl _⟩, by repeat (first | exact Drawn0.refl _ | apply Drawn0.step)⟩
 case round =>
  clear H'
  try clear p2
  obtain ⟨x5_1, rfl, HA, HK1, ⟨m1, rfl⟩⟩ := hrel
  cases gk with
  | zero => exact absurd HA.out (by simp [spec_l5Common.l0])
  | succ k1 =>
   have H := HA.out
   clear HA
   simp only [spec_l5Common.l0] at H
   by_cases c3 : x5_1 < (a0.size : Int)
   ·rw [if_pos c3] at H
    have c3b0 := decide_eq_true c3
    clear c3
    by_cases c4 : x5_1 < (a1.size : Int)
    ·rw [if_pos c4] at H
     have c4b0 := decide_eq_true c4
     clear c4
     by_cases c5 : 0 ≤ x5_1
     ·rw [if_pos c5] at H
      have c5b0 := decide_eq_true c5
      clear c5
      by_cases c8 : (bt a0 x5_1) = (bt a1 x5_1)
      ·rw [if_pos c8] at H
       have c8b0 : ((bt a0 x5_1) == (bt a1 x5_1)) = true := beq_iff_eq.mpr c8
       have c8b1 : ((bt a0 x5_1) != (bt a1 x5_1)) = false := bne_eq_false_iff_eq.mpr c8
       clear c8
       have H' := mS H
       clear H
       have p6 : 0 ≤ (x5_1 : Int) := mD
       have q6 : x5_1 < (a0.size : Int) := mD
       have hx6 := bt_at a0 x5_1
       replace p6 := eq_true p6
       replace q6 := eq_true q6
       have p7 : 0 ≤ (x5_1 : Int) := mD
       have q7 : x5_1 < (a1.size : Int) := mD
       have hx7 := bt_at a1 x5_1
       replace p7 := eq_true p7
       replace q7 := eq_true q7
       go_wp2
       repeat (go_quiet (fail); try go_wp2)
       go_roundg k1
       case measure => have := HK1.out; omega
       case rel => exact ⟨(wrap64 (x5_1 + 1)), mE, H', ⟨by have := HK1.out; omega⟩, by repeat (first | exact Drawn0.refl _ | apply Drawn0.step)⟩
      ·rw [if_neg c8] at H
       have c8b0 : ((bt a0 x5_1) == (bt a1 x5_1)) = false := beq_eq_false_iff_ne.mpr c8
       have c8b1 : ((bt a0 x5_1) != (bt a1 x5_1)) = true := bne_iff_ne.mpr c8
       obtain rfl := Option.some.inj H
       have p6 : 0 ≤ (x5_1 : Int) := mD
       have q6 : x5_1 < (a0.size : Int) := mD
       have hx6 := bt_at a0 x5_1
       replace p6 := eq_true p6
       replace q6 := eq_true q6
       have p7 : 0 ≤ (x5_1 : Int) := mD
       have q7 : x5_1 < (a1.size : Int) := mD
       have hx7 := bt_at a1 x5_1
       replace p7 := eq_true p7
       replace q7 := eq_true q7
       go_wp2
       repeat (go_quiet (fail); try go_wp2)
       go_ret
       exact ⟨mE, by repeat (first | exact Drawn0.refl _ | apply Drawn0.step)⟩
     ·rw [if_neg c5] at H
      exact absurd H (by simp)
    ·rw [if_neg c4] at H
     have c4b0 := decide_eq_false c4
     clear c4
     obtain rfl := Option.some.inj H
     go_wp2
     repeat (go_quiet (fail); try go_wp2)
     go_ret
     exact ⟨mE, by repeat (first | exact Drawn0.refl _ | apply Drawn0.step)⟩
   ·rw [if_neg c3] at H
    have c3b0 := decide_eq_false c3
    clear c3
    obtain rfl := Option.some.inj H
    go_wp2
    repeat (go_quiet (fail); try go_wp2)
    go_ret
    exact ⟨mE, by repeat (first | exact Drawn0.refl _ | apply Drawn0.step)⟩

end Go.Proofs.Ytecjamgajlpfdaa.MFnExactTablePairs
