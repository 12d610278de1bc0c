-- Written by mp.py, this session's own printer (wip/mp.py).
import Derived.Test.YtecjamgajlpfdaaVMShort
import Derived.Test.YtecjamgajlpfdaaMFnExactTablePairsx0
import Derived.Test.YtecjamgajlpfdaaMFnExactTablePairsx3
import Derived.Test.YtecjamgajlpfdaaMFnExactTablePairsx4
import Derived.Test.YtecjamgajlpfdaaMFnExactTablePairsx8
namespace Go.Proofs.Ytecjamgajlpfdaa.MFnExactTablePairs
open Go.RowKit Go.Proofs.YtecjamgajlpfdaaW.PrintWords Go.Proofs.YtecjamgajlpfdaaW.PrintLast Go.Proofs.YtecjamgajlpfdaaW.PrintMore Go.Proofs.Ytecjamgajlpfdaa.MWords
attribute [local go_sem] max2_int min2_int max_two min_two max_three min_three max_four min_four   -- for this text's walks alone
set_option linter.unusedVariables false
set_option linter.unusedSimpArgs false

/-! ### spec_TablePairs: function 18 -/
mutual
def spec_TablePairs.l0 : Nat → List Int → List Int → Bool → List (S87) → Int → Option ((List (S87)) × Bool)
 | 0, _, _, _, _, _ => none
 | k + 1, x0, x5, x7, x8, x9 => if x9 < (x5.length : Int) then (spec_TablePairs.j1 k x0 x5 x7 x8 x9 x7) else (spec_TablePairs.j1 k x0 x5 x7 x8 x9 false)
def spec_TablePairs.j1 : Nat → List Int → List Int → Bool → List (S87) → Int → Bool → Option ((List (S87)) × Bool)
 | 0, _, _, _, _, _, _ => none
 | k + 1, x0, x5, x7, x8, x9, x26 => if x26 = true then (if 0 ≤ x9 then (if x9 < (x5.length : Int) then ((spec_l5Pairs.f k x0 (rd x5 x9)).bind fun bt385 => (if x8.length + bt385.1.length < 3518437208883 then (spec_TablePairs.l0 k x0 x5 bt385.2 (x8 ++ bt385.1) (wrap64 (x9 + 1))) else (none))) else (none)) else (none)) else (if x7 = true then ((spec_PutTable.f k x8).bind fun t392 => ((spec_l5Same.f k t392 x0).bind fun t395 => (spec_TablePairs.j2 k x8 (!t395)))) else (spec_TablePairs.j2 k x8 true))
def spec_TablePairs.j2 : Nat → List (S87) → Bool → Option ((List (S87)) × Bool)
 | 0, _, _ => none
 | k + 1, x8, x50 => if x50 = true then (some ((([] : List (S87))), false)) else (some (x8, true))
end
def spec_TablePairs.f (k : Nat) (l0 : List Int) : Option ((List (S87)) × Bool) := (spec_l5Index.f k l0).bind fun bt371 => (spec_TablePairs.l0 k l0 bt371.2.1 bt371.2.2.2 (([] : List (S87))) 0)
theorem spec_TablePairs.mono_l : ∀ k, (∀ y0 y1 y2 y3 y4, LeO (spec_TablePairs.l0 k y0 y1 y2 y3 y4) (spec_TablePairs.l0 (k + 1) y0 y1 y2 y3 y4)) ∧ (∀ y0 y1 y2 y3 y4 y5, LeO (spec_TablePairs.j1 k y0 y1 y2 y3 y4 y5) (spec_TablePairs.j1 (k + 1) y0 y1 y2 y3 y4 y5)) ∧ (∀ y0 y1, LeO (spec_TablePairs.j2 k y0 y1) (spec_TablePairs.j2 (k + 1) y0 y1))
 | 0 => ⟨fun _ _ _ _ _ r h => by simp [spec_TablePairs.l0] at h, fun _ _ _ _ _ _ r h => by simp [spec_TablePairs.j1] at h, fun _ _ r h => by simp [spec_TablePairs.j2] at h⟩
 | k + 1 => by
  obtain ⟨ih0, ih1, ih2⟩ := spec_TablePairs.mono_l k
  refine ⟨?_, ?_, ?_⟩
  ·intro y0 y1 y2 y3 y4
   unfold spec_TablePairs.l0
   repeat' first
   | (with_reducible exact ih0 _ _ _ _ _)
   | (with_reducible exact ih1 _ _ _ _ _ _)
   | (with_reducible exact ih2 _ _)
   | (with_reducible exact spec_PutTable.mono _ _)
   | (with_reducible exact spec_l5Index.mono _ _)
   | (with_reducible exact spec_l5Pairs.mono _ _ _)
   | (with_reducible exact spec_l5Same.mono _ _ _)
   | (with_reducible exact LeO.refl _)
   | (with_reducible exact LeO.none _)
   | (with_reducible refine LeO.ite ?_ ?_)
   | (with_reducible refine LeO.bind ?_ (fun _ => ?_))
   | exact ih0 _ _ _ _ _
   | exact ih1 _ _ _ _ _ _
   | exact ih2 _ _
   | exact spec_PutTable.mono _ _
   | exact spec_l5Index.mono _ _
   | exact spec_l5Pairs.mono _ _ _
   | exact spec_l5Same.mono _ _ _
   | exact LeO.none _
   | refine LeO.ite ?_ ?_
   | refine LeO.bind ?_ (fun _ => ?_)
  ·intro y0 y1 y2 y3 y4 y5
   unfold spec_TablePairs.j1
   repeat' first
   | (with_reducible exact ih0 _ _ _ _ _)
   | (with_reducible exact ih1 _ _ _ _ _ _)
   | (with_reducible exact ih2 _ _)
   | (with_reducible exact spec_PutTable.mono _ _)
   | (with_reducible exact spec_l5Index.mono _ _)
   | (with_reducible exact spec_l5Pairs.mono _ _ _)
   | (with_reducible exact spec_l5Same.mono _ _ _)
   | (with_reducible exact LeO.refl _)
   | (with_reducible exact LeO.none _)
   | (with_reducible refine LeO.ite ?_ ?_)
   | (with_reducible refine LeO.bind ?_ (fun _ => ?_))
   | exact ih0 _ _ _ _ _
   | exact ih1 _ _ _ _ _ _
   | exact ih2 _ _
   | exact spec_PutTable.mono _ _
   | exact spec_l5Index.mono _ _
   | exact spec_l5Pairs.mono _ _ _
   | exact spec_l5Same.mono _ _ _
   | exact LeO.none _
   | refine LeO.ite ?_ ?_
   | refine LeO.bind ?_ (fun _ => ?_)
  ·intro y0 y1
   unfold spec_TablePairs.j2
   repeat' first
   | (with_reducible exact ih0 _ _ _ _ _)
   | (with_reducible exact ih1 _ _ _ _ _ _)
   | (with_reducible exact ih2 _ _)
   | (with_reducible exact spec_PutTable.mono _ _)
   | (with_reducible exact spec_l5Index.mono _ _)
   | (with_reducible exact spec_l5Pairs.mono _ _ _)
   | (with_reducible exact spec_l5Same.mono _ _ _)
   | (with_reducible exact LeO.refl _)
   | (with_reducible exact LeO.none _)
   | (with_reducible refine LeO.ite ?_ ?_)
   | (with_reducible refine LeO.bind ?_ (fun _ => ?_))
   | exact ih0 _ _ _ _ _
   | exact ih1 _ _ _ _ _ _
   | exact ih2 _ _
   | exact spec_PutTable.mono _ _
   | exact spec_l5Index.mono _ _
   | exact spec_l5Pairs.mono _ _ _
   | exact spec_l5Same.mono _ _ _
   | exact LeO.none _
   | refine LeO.ite ?_ ?_
   | refine LeO.bind ?_ (fun _ => ?_)
theorem spec_TablePairs.mono : ∀ a0 k, LeO (spec_TablePairs.f k a0) (spec_TablePairs.f (k + 1) a0) := by
 intro a0 k
 obtain ⟨ih0, ih1, ih2⟩ := spec_TablePairs.mono_l k
 unfold spec_TablePairs.f
 repeat' first
   | (with_reducible exact ih0 _ _ _ _ _)
   | (with_reducible exact ih1 _ _ _ _ _ _)
   | (with_reducible exact ih2 _ _)
   | (with_reducible exact spec_PutTable.mono _ _)
   | (with_reducible exact spec_l5Index.mono _ _)
   | (with_reducible exact spec_l5Pairs.mono _ _ _)
   | (with_reducible exact spec_l5Same.mono _ _ _)
   | (with_reducible exact LeO.refl _)
   | (with_reducible exact LeO.none _)
   | (with_reducible refine LeO.ite ?_ ?_)
   | (with_reducible refine LeO.bind ?_ (fun _ => ?_))
   | exact ih0 _ _ _ _ _
   | exact ih1 _ _ _ _ _ _
   | exact ih2 _ _
   | exact spec_PutTable.mono _ _
   | exact spec_l5Index.mono _ _
   | exact spec_l5Pairs.mono _ _ _
   | exact spec_l5Same.mono _ _ _
   | exact LeO.none _
   | refine LeO.ite ?_ ?_
   | refine LeO.bind ?_ (fun _ => ?_)
set_option maxHeartbeats 8000000 in
set_option maxRecDepth 100000 in
theorem spec_TablePairs.calls (k : Nat) (A0 : Option Addr) (c0 : Nat) (l0 : List Int) (r1 : List (S87)) (r2 : Bool) (w : World) (hr0 : Kd.C (Kd.int .u8) w A0 l0.length l0) (hc0 : l0.length ≤ c0) (h : spec_TablePairs.f k l0 = some (r1, r2)) :
  Calls Try.prog 18 #[.slice A0 l0.length c0] w fun e w' => ∃ v0_ : Value, e = .returned (.tuple #[v0_, .bool r2]) ∧ Kd.R k87 87 w' w.heap.size (fun _ => True) v0_ r1 ∧ Below w.heap.size w w' := by
 have HR0 := mS hr0
 have HC0 := mS hc0
 clear hr0 hc0
 have HB := mS (Below.refl w.heap.size w)
 have H : ((spec_l5Index.f k l0).bind fun bt371 => (spec_TablePairs.l0 k l0 bt371.2.1 bt371.2.2.2 (([] : List (S87))) 0)) = some (r1, r2) := h
 clear h
 replace H := Option.bind_eq_some_iff.mp H
 obtain ⟨⟨t371, t372, t373, t374⟩, A20, H⟩ := H
 replace H : (spec_TablePairs.l0 k l0 t372 t374 (([] : List (S87))) 0) = some (r1, r2) := H
 have A2 := mS A20
 clear A20
 obtain ⟨y381, hy381⟩ : ∃ y_ : List (S87), y_ = (([] : List (S87))) := ⟨_, rfl⟩
 replace H : (spec_TablePairs.l0 k l0 t372 t374 y381 0) = some (r1, r2) := by first | (rw [hy381]; with_reducible exact H) | (have H2_ := (Option.bind_some _ _).symm.trans H; rw [hy381]; with_reducible exact H2_) | (have H2_ := (Option.bind_some _ _).symm.trans H; with_reducible exact H2_) | with_reducible exact H | (rw [hy381]; exact H) | exact H
 have Ny381 := mS hy381
 clear hy381
 have H' := mS H
 clear H
 go_enter Try.func18, Try.ntmps18
 go_wp2_with (first | ((with_reducible refine gate_callee (f := 41) rfl ?_); refine mGo 14 Try.func41 #[.slice A0 l0.length c0] ?_; (with_reducible refine (spec_l5Index.calls k _ _ l0 t371 t372 t373 t374 _ ?side1 ?side2 A2.out).mono ?_); (case side1 => exact mC HR0.out); (case side2 => exact HC0.out); rintro e w3 ⟨v375, v377, v379, rfl, ho0, ho1, ho2, hb⟩; refine ⟨_, rfl, ?_⟩; have HO376 := mS (Kd.R_lower ho0 (below_size (mH HB.out))); have HO378 := mS (Kd.R_lower ho1 (below_size (mH HB.out))); have HO380 := mS (Kd.Q_lower ho2 (below_size (mH HB.out))); replace HB := mS (below_step (mH HB.out) hb); (try clear hb); (try clear ho0); (try clear ho1); (try clear ho2)) | ((with_reducible refine gate_dst (N := 19) rfl ?_); refine Kd.R_lit k87 _ 87 ?hg (N := 19) ?hd (xs := ([] : List (S87))) (inner := []) (ok := fun _ => True) (okp := fun _ => True) ?hr ?hp (fun _ hk => hk) trivial (Below.refl _ _) (Nat.le_refl _) (by simp) ?_; (case hd => rfl); (case hg => rfl); (case hr => first | (go_simp; done) | (go_simp; rfl)); (case hp => exact (Reps.none _ _)); intro v382 w4 ho5 hb hg_ hnew_; clear hg_ hnew_; (first | rw [← Ny381.out] at ho5 | (simp only [Int.reduceToNat] at ho5; rw [← Ny381.out] at ho5)); replace HO376 := mS (Kd.R_below (mR HO376.out) hb); replace HO378 := mS (Kd.R_below (mR HO378.out) hb); replace HO380 := mS (Kd.Q_below (mQd HO380.out) hb); have HO383 := mS (Kd.R_lower ho5 (below_size (mH HB.out))); replace HB := mS (below_step (mH HB.out) hb); clear hb ho5))
 go_loopg [7, 8, 9] k (fun kq v7 v8 v9 w' => ∃ (x7_1 : Bool) (x8_1 : List (S87)) (x9_1 : Int), v7 = .bool x7_1 ∧ v9 = .int .i64 x9_1 ∧ Aside0 (spec_TablePairs.l0 kq l0 t372 x7_1 x8_1 x9_1 = some (r1, r2)) ∧ Aside0 (kq ≤ k) ∧ Aside0 (Kd.R (Kd.int .i64) 3 w' w.heap.size (fun _ => True) v377 t372) ∧ Aside0 (Kd.R k87 87 w' w.heap.size (fun _ => True) v8 x8_1) ∧ Aside0 (Below w.heap.size w w'))
 case atStart => exact ⟨(t374), (y381), (0), mE, mE, H', ⟨Nat.le_refl _⟩, ⟨mR HO378.out⟩, ⟨mR HO383.out⟩, ⟨(mH HB.out)⟩⟩
 case round =>
  clear H'
  try clear c1
  try clear p2
  try clear c4
  obtain ⟨x7_1, x8_1, x9_1, rfl, rfl, HA, HK1, HO_5, HO_8, HB⟩ := hrel
  cases gk with
  | zero => exact absurd HA.out (by simp [spec_TablePairs.l0])
  | succ k1 =>
   have H := HA.out
   clear HA
   simp only [spec_TablePairs.l0] at H
   have HC6 := mS H
   clear H
   go_upto_region 4 with (fail)
   go_cut [26] (fun v26 wc => ∃ (kq : Nat) (x26_5 : Bool), v26 = .bool x26_5 ∧ Aside0 (spec_TablePairs.j1 kq l0 t372 x7_1 x8_1 x9_1 x26_5 = some (r1, r2)) ∧ Aside0 (kq ≤ k1) ∧ Aside0 (Kd.R (Kd.int .i64) 3 wc w.heap.size (fun _ => True) v377 t372) ∧ Aside0 (Kd.R k87 87 wc w.heap.size (fun _ => True) u8 x8_1) ∧ Aside0 (Below w.heap.size w wc))
   case first =>
    have H := HC6.out
    clear HC6
    by_cases c7 : x9_1 < (t372.length : Int)
    ·rw [if_pos c7] at H
     have c7b0 := decide_eq_true c7
     clear c7
     (first | rw [c7b0] | (simp only [i64_w, i32_w]; rw [c7b0]) | skip)
     have H' := mS H
     clear H
     obtain ⟨Ao8, co8, eo8⟩ := Kd.R_slice HO_5.out
     subst eo8
     go_wp2
     go_meet
     case rel => exact ⟨_, (x7_1), mE, H', ⟨by have := HK1.out; first | omega | exact Nat.le_refl _⟩, ⟨mR HO_5.out⟩, ⟨mR HO_8.out⟩, ⟨(mH HB.out)⟩⟩
    ·rw [if_neg c7] at H
     have c7b0 := decide_eq_false c7
     clear c7
     (first | rw [c7b0] | (simp only [i64_w, i32_w]; rw [c7b0]) | skip)
     have H' := mS H
     clear H
     obtain ⟨Ao9, co9, eo9⟩ := Kd.R_slice HO_5.out
     subst eo9
     go_wp2
     go_meet
     case rel => exact ⟨_, (false), mE, H', ⟨by have := HK1.out; first | omega | exact Nat.le_refl _⟩, ⟨mR HO_5.out⟩, ⟨mR HO_8.out⟩, ⟨(mH HB.out)⟩⟩
   case rest =>
    clear HC6
    try clear c1
    try clear p2
    try clear c4
    try clear c7
    try clear c7b0
    try clear p2
    obtain ⟨kq, x26_5, rfl, HA, HJ5, HO_5, HO_8, HB⟩ := hcut
    cases kq with
    | zero => exact absurd HA.out (by simp [spec_TablePairs.j1])
    | succ kj5 =>
     have H := HA.out
     clear HA
     simp only [spec_TablePairs.j1] at H
     by_cases c10 : x26_5 = true
     ·subst c10
      have H1 := H
      rw [if_pos rfl] at H1
      clear H
      have H := H1
      clear H1
      by_cases c11 : 0 ≤ x9_1
      ·rw [if_pos c11] at H
       have c11b0 := decide_eq_true c11
       clear c11
       by_cases c12 : x9_1 < (t372.length : Int)
       ·rw [if_pos c12] at H
        have c12b0 := decide_eq_true c12
        clear c12
        replace H := Option.bind_eq_some_iff.mp H
        obtain ⟨⟨t385, t386⟩, A130, H⟩ := H
        replace H : (if x8_1.length + t385.length < 3518437208883 then (spec_TablePairs.l0 kj5 l0 t372 t386 (x8_1 ++ t385) (wrap64 (x9_1 + 1))) else (none)) = some (r1, r2) := H
        have A13 := mS A130
        clear A130
        by_cases c14 : x8_1.length + t385.length < 3518437208883
        ·rw [if_pos c14] at H
         have LMc14 := mS c14
         clear c14
         obtain ⟨y389, hy389⟩ : ∃ y_ : List (S87), y_ = (x8_1 ++ t385) := ⟨_, rfl⟩
         replace H : (spec_TablePairs.l0 kj5 l0 t372 t386 y389 (wrap64 (x9_1 + 1))) = some (r1, r2) := by first | (rw [hy389]; with_reducible exact H) | (have H2_ := (Option.bind_some _ _).symm.trans H; rw [hy389]; with_reducible exact H2_) | (have H2_ := (Option.bind_some _ _).symm.trans H; with_reducible exact H2_) | with_reducible exact H | (rw [hy389]; exact H) | exact H
         have Ny389 := mS hy389
         clear hy389
         have H' := mS H
         clear H
         obtain ⟨Ao15, co15, eo15⟩ := Kd.R_slice HO_5.out
         subst eo15
         have p384 : 0 ≤ (x9_1 : Int) := mD
         have q384 : x9_1 < (t372.length : Int) := mD
         obtain ⟨ad384, e384, hx384_0⟩ := Kd.at_int (Kd.R_reads' HO_5.out).2.2 x9_1 p384 q384
         cases e384
         replace p384 := eq_true p384
         replace q384 := eq_true q384
         go_wp2_with (first | ((with_reducible refine gate_callee (f := 42) rfl ?_); refine mGo 35 Try.func42 #[.slice A0 l0.length c0, .int .i64 (rd t372 x9_1)] ?_; (with_reducible refine (spec_l5Pairs.calls kj5 _ _ l0 (rd t372 x9_1) t385 t386 _ ?side1 ?side2 A13.out).mono ?_); (case side1 => exact mC (Kd.C_below HR0.out HB.out)); (case side2 => exact HC0.out); rintro e w16 ⟨v387, rfl, ho0, hb⟩; refine ⟨_, rfl, ?_⟩; replace HO_5 := mS (Kd.R_below (mR HO_5.out) hb); have HO388 := mS (Kd.R_lower (Kd.R_new' ho0 (Kd.R_lt (mR HO_8.out))) (below_size (mH HB.out))); replace HO_8 := mS (Kd.R_elder' (mR HO_8.out) (Kd.R_base ho0) hb); replace HB := mS (below_step (mH HB.out) hb); (try clear hb); (try clear ho0); obtain ⟨Ao18, co18, eo18⟩ := Kd.R_slice HO388.out; subst eo18) | ((with_reducible refine gate_builtin (b := .append) (xs := #[.tmp 39, .tmp 40]) rfl ?_); at_builtin; refine Kd.R_append_rows k87 (w0 := w) w.heap.size rfl (.tmp 39) (.tmp 40) 35 87 (.agg #[(.string ⟨#[]⟩), (.string ⟨#[]⟩), (.bool false)]) 40 rfl Try.underlying35 info87 rfl (by decide) (by omega) u8 x8_1 t385 _ _ _ (fun k_ => some k_ ≠ (.slice Ao18 t385.length co18 : Value).ownBlock) (fun _ => False) rfl rfl ?aO ?aR (fun _ _ h => h) (fun _ h => h.elim) ?aF ?aB ?aS ?aL ?_; (case aR => exact mC (Kd.R_reads' HO388.out).2.2); (case aB => exact (mH HB.out)); (case aF => exact (fun k_ hk => Kd.fresh' (Kd.R_lt (mR HO388.out)) k_ hk)); (case aO => exact (by refine mR ?_; exact Kd.R_mono HO_8.out (fun _ hk => hk.2))); (case aS => exact (below_size (mH HB.out))); (case aL => have := LMc14.out; omega); intro v390 w17 ho hb hg hat; rw [← Ny389.out] at ho; replace HO_5 := mS (Kd.R_over' (mR HO_5.out) (Kd.R_typed (mR HO_8.out)) (by decide) hg); replace HO388 := mS (Kd.R_after (ok := (fun _ => True)) (mR HO388.out) hg hat); replace HB := mS (hb); have HO391 := mS (ho); clear HO_8; clear ho hb hg hat))
         go_roundg kj5
         case measure => have := HK1.out; have := HJ5.out; omega
         case rel => exact ⟨(t386), (y389), (wrap64 (x9_1 + 1)), mE, mE, H', ⟨by have := HK1.out; have := HJ5.out; omega⟩, ⟨mR HO_5.out⟩, ⟨by refine mR ?_; exact Kd.R_mono HO391.out (fun _ hk => trivial)⟩, ⟨(mH HB.out)⟩⟩
        ·rw [if_neg c14] at H
         exact absurd H (by simp)
       ·rw [if_neg c12] at H
        exact absurd H (by simp)
      ·rw [if_neg c11] at H
       exact absurd H (by simp)
     ·replace c10 := Bool.eq_false_iff.mpr c10
      subst c10
      have H1 := H
      rw [if_neg (show ¬ (false = true) by decide)] at H1
      clear H
      have H := H1
      clear H1
      have HC19 := mS H
      clear H
      go_upto_region 9 with (fail)
      go_cut [50] (fun v50 wc => ∃ (kq : Nat) (x50_18 : Bool), v50 = .bool x50_18 ∧ Aside0 (spec_TablePairs.j2 kq x8_1 x50_18 = some (r1, r2)) ∧ Aside0 (kq ≤ kj5) ∧ Aside0 (Kd.R k87 87 wc w.heap.size (fun _ => True) u8 x8_1) ∧ Aside0 (Below w.heap.size w wc))
      case first =>
       have H := HC19.out
       clear HC19
       by_cases c20 : x7_1 = true
       ·subst c20
        have H1 := H
        rw [if_pos rfl] at H1
        clear H
        have H := H1
        clear H1
        replace H := Option.bind_eq_some_iff.mp H
        obtain ⟨t392, A210, H⟩ := H
        replace H : ((spec_l5Same.f kj5 t392 l0).bind fun t395 => (spec_TablePairs.j2 kj5 x8_1 (!t395))) = some (r1, r2) := H
        have A21 := mS A210
        clear A210
        replace H := Option.bind_eq_some_iff.mp H
        obtain ⟨t395, A220, H⟩ := H
        replace H : (spec_TablePairs.j2 kj5 x8_1 (!t395)) = some (r1, r2) := H
        have A22 := mS A220
        clear A220
        have H' := mS H
        clear H
        obtain ⟨Ao23, co23, eo23⟩ := Kd.R_slice HO_8.out
        subst eo23
        go_wp2_with (first | (go_at_call 44; (with_reducible refine (spec_PutTable.calls kj5 _ _ x8_1 t392 _ ?side1 ?side2 A21.out).mono ?_); (case side1 => exact mC (Kd.R_reads' HO_8.out).2.2); (case side2 => exact (Kd.R_reads' HO_8.out).2.1); rintro e w24 ⟨v393, rfl, ho0, hb⟩; replace HO_5 := mS (Kd.R_below (mR HO_5.out) hb); replace HO_8 := mS (Kd.R_below (mR HO_8.out) hb); have HO394 := mS (Kd.R_lower ho0 (below_size (mH HB.out))); replace HB := mS (below_step (mH HB.out) hb); (try clear hb); (try clear hb2); (try clear hk); (try clear hi); (try clear ho0); obtain ⟨Ao25, co25, eo25⟩ := Kd.R_slice HO394.out; subst eo25) | (go_at_call 43; (with_reducible refine (spec_l5Same.calls kj5 _ _ t392 _ _ l0 t395 _ ?side1 ?side2 ?side3 ?side4 A22.out).mono ?_); (case side1 => exact mC (Kd.R_reads' HO394.out).2.2); (case side2 => exact (Kd.R_reads' HO394.out).2.1); (case side3 => exact mC (Kd.C_below HR0.out HB.out)); (case side4 => exact HC0.out); rintro e w' ⟨rfl, ⟨nd, rfl⟩⟩))
        go_meet
        case rel => exact ⟨_, (!t395), mE, H', ⟨by have := HK1.out; have := HJ5.out; first | omega | exact Nat.le_refl _⟩, ⟨mR HO_8.out⟩, ⟨(mH HB.out)⟩⟩
       ·replace c20 := Bool.eq_false_iff.mpr c20
        subst c20
        have H1 := H
        rw [if_neg (show ¬ (false = true) by decide)] at H1
        clear H
        have H := H1
        clear H1
        have H' := mS H
        clear H
        go_wp2
        go_meet
        case rel => exact ⟨_, (true), mE, H', ⟨by have := HK1.out; have := HJ5.out; first | omega | exact Nat.le_refl _⟩, ⟨mR HO_8.out⟩, ⟨(mH HB.out)⟩⟩
      case rest =>
       clear HC19
       try clear c1
       try clear c2
       try clear p2
       try clear p3
       try clear q3
       try clear hx3
       try clear c4
       try clear p6
       try clear c7
       try clear c7b0
       try clear c10
       try clear c11
       try clear c11b0
       try clear c12
       try clear c12b0
       try clear c14
       try clear c18
       try clear c20
       try clear hx384_0
       try clear p2
       try clear p384
       try clear q384
       obtain ⟨kq, x50_18, rfl, HA, HJ18, HO_8, HB⟩ := hcut
       cases kq with
       | zero => exact absurd HA.out (by simp [spec_TablePairs.j2])
       | succ kj18 =>
        have H := HA.out
        clear HA
        simp only [spec_TablePairs.j2] at H
        by_cases c26 : x50_18 = true
        ·subst c26
         have H1 := H
         rw [if_pos rfl] at H1
         clear H
         have H := H1
         clear H1
         obtain ⟨y396, hy396⟩ : ∃ y_ : List (S87), y_ = (([] : List (S87))) := ⟨_, rfl⟩
         replace H : (some (y396, false)) = some (r1, r2) := by first | (rw [hy396]; with_reducible exact H) | (have H2_ := (Option.bind_some _ _).symm.trans H; rw [hy396]; with_reducible exact H2_) | (have H2_ := (Option.bind_some _ _).symm.trans H; with_reducible exact H2_) | with_reducible exact H | (rw [hy396]; exact H) | exact H
         have Ny396 := mS hy396
         clear hy396
         simp only [Option.some.injEq, Prod.mk.injEq] at H
         obtain ⟨rfl, rfl⟩ := H
         go_wp2_with (first | ((with_reducible refine gate_dst (N := 51) rfl ?_); refine Kd.R_lit k87 _ 87 ?hg (N := 51) ?hd (xs := ([] : List (S87))) (inner := []) (ok := fun _ => True) (okp := fun _ => True) ?hr ?hp (fun _ hk => hk) trivial (Below.refl _ _) (Nat.le_refl _) (by simp) ?_; (case hd => rfl); (case hg => rfl); (case hr => first | (go_simp; done) | (go_simp; rfl)); (case hp => exact (Reps.none _ _)); intro v397 w27 ho28 hb hg_ hnew_; clear hg_ hnew_; (first | rw [← Ny396.out] at ho28 | (simp only [Int.reduceToNat] at ho28; rw [← Ny396.out] at ho28)); have HO398 := mS (Kd.R_lower (Kd.R_new' ho28 (Kd.R_lt (mR HO_8.out))) (below_size (mH HB.out))); replace HO_8 := mS (Kd.R_elder' (mR HO_8.out) (Kd.R_base ho28) hb); replace HB := mS (below_step (mH HB.out) hb); clear hb ho28))
         go_ret2
         exact ⟨_, mEw, by refine mR ?_; exact Kd.R_mono HO398.out (fun _ hk => trivial), (mH HB.out)⟩
        ·replace c26 := Bool.eq_false_iff.mpr c26
         subst c26
         have H1 := H
         rw [if_neg (show ¬ (false = true) by decide)] at H1
         clear H
         have H := H1
         clear H1
         simp only [Option.some.injEq, Prod.mk.injEq] at H
         obtain ⟨rfl, rfl⟩ := H
         go_wp2
         go_ret2
         exact ⟨_, mEw, mR HO_8.out, (mH HB.out)⟩

/-! ### impl_in: function 37 -/
def impl_in.f (a0 : Int) (a1 : Int) (a2 : Int) : Option (Bool) := if a0 ≥ a1 then (some (decide (a0 ≤ a2))) else (some false)
set_option maxHeartbeats 8000000 in
set_option maxRecDepth 100000 in
theorem impl_in.calls (a0 : Int) (a1 : Int) (a2 : Int) (r : Bool) (w : World) (h : impl_in.f a0 a1 a2 = some r) :
  Calls Try.prog 37 #[.int .i64 a0, .int .i64 a1, .int .i64 a2] w fun e w' => e = .returned (.bool r) ∧ Drawn0 w w' := by
 have H : (if a0 ≥ a1 then (some (decide (a0 ≤ a2))) else (some false)) = some r := h
 clear h
 by_cases c4 : a0 ≥ a1
 ·rw [if_pos c4] at H
  have c4b0 : decide (a1 ≤ a0) = true := decide_eq_true c4
  clear c4
  obtain rfl := Option.some.inj H
  go_enter Try.func37, Try.ntmps37
  go_wp2
  go_ret
  exact ⟨mE, by repeat (first | exact Drawn0.refl _ | apply Drawn0.step)⟩
 ·rw [if_neg c4] at H
  have c4b0 : decide (a1 ≤ a0) = false := decide_eq_false c4
  clear c4
  obtain rfl := Option.some.inj H
  go_enter Try.func37, Try.ntmps37
  go_wp2
  go_ret
  exact ⟨mE, by repeat (first | exact Drawn0.refl _ | apply Drawn0.step)⟩

/-! ### impl_GetNum: function 71 -/
mutual
def impl_GetNum.l0 : Nat → List Int → Int → Int → Int → Option (Int × Int × Bool)
 | 0, _, _, _, _ => none
 | k + 1, x0, x1, x7, x8 => if x8 < 5 then (if x1 ≥ 0 then (impl_GetNum.j1 k x0 x1 x7 x8 (decide (x1 < (wrap64 ((x0.length : Int) - x8))))) else (impl_GetNum.j1 k x0 x1 x7 x8 false)) else (impl_GetNum.j1 k x0 x1 x7 x8 false)
def impl_GetNum.j1 : Nat → List Int → Int → Int → Int → Bool → Option (Int × Int × Bool)
 | 0, _, _, _, _, _ => none
 | k + 1, x0, x1, x7, x8, x23 => if x23 = true then (if 0 ≤ (wrap64 (x1 + x8)) then (if (wrap64 (x1 + x8)) < (x0.length : Int) then (if x8 = 0 then (impl_GetNum.j2 k x0 x1 x7 x8 (wrap64 (rd x0 (wrap64 (x1 + x8)))) ((wrap64 (rd x0 (wrap64 (x1 + x8)))) == 128)) else (impl_GetNum.j2 k x0 x1 x7 x8 (wrap64 (rd x0 (wrap64 (x1 + x8)))) false)) else (none)) else (none)) else (some (0, 0, false))
def impl_GetNum.j2 : Nat → List Int → Int → Int → Int → Int → Bool → Option (Int × Int × Bool)
 | 0, _, _, _, _, _, _ => none
 | k + 1, x0, x1, x7, x8, x9, x38 => if x38 = true then (some (0, 0, false)) else (if x9 ≥ 128 then (impl_GetNum.l0 k x0 x1 (wrap64 ((wrap64 (x7 * 128)) + (Int.tmod x9 128))) (wrap64 (x8 + 1))) else (if (wrap64 ((wrap64 (x7 * 128)) + (Int.tmod x9 128))) > 1000000000 then (some (0, 0, false)) else (some (wrap64 ((wrap64 (x7 * 128)) + (Int.tmod x9 128)), wrap64 ((wrap64 (x1 + x8)) + 1), true))))
end
def impl_GetNum.f (k : Nat) (l0 : List Int) (a1 : Int) : Option (Int × Int × Bool) := impl_GetNum.l0 k l0 a1 0 0
theorem impl_GetNum.mono_l : ∀ k, (∀ y0 y1 y2 y3, LeO (impl_GetNum.l0 k y0 y1 y2 y3) (impl_GetNum.l0 (k + 1) y0 y1 y2 y3)) ∧ (∀ y0 y1 y2 y3 y4, LeO (impl_GetNum.j1 k y0 y1 y2 y3 y4) (impl_GetNum.j1 (k + 1) y0 y1 y2 y3 y4)) ∧ (∀ y0 y1 y2 y3 y4 y5, LeO (impl_GetNum.j2 k y0 y1 y2 y3 y4 y5) (impl_GetNum.j2 (k + 1) y0 y1 y2 y3 y4 y5))
 | 0 => ⟨fun _ _ _ _ r h => by simp [impl_GetNum.l0] at h, fun _ _ _ _ _ r h => by simp [impl_GetNum.j1] at h, fun _ _ _ _ _ _ r h => by simp [impl_GetNum.j2] at h⟩
 | k + 1 => by
  obtain ⟨ih0, ih1, ih2⟩ := impl_GetNum.mono_l k
  refine ⟨?_, ?_, ?_⟩
  ·intro y0 y1 y2 y3
   unfold impl_GetNum.l0
   repeat' first
   | (with_reducible exact ih0 _ _ _ _)
   | (with_reducible exact ih1 _ _ _ _ _)
   | (with_reducible exact ih2 _ _ _ _ _ _)
   | (with_reducible exact LeO.refl _)
   | (with_reducible exact LeO.none _)
   | (with_reducible refine LeO.ite ?_ ?_)
   | (with_reducible refine LeO.bind ?_ (fun _ => ?_))
   | exact ih0 _ _ _ _
   | exact ih1 _ _ _ _ _
   | exact ih2 _ _ _ _ _ _
   | exact LeO.none _
   | refine LeO.ite ?_ ?_
   | refine LeO.bind ?_ (fun _ => ?_)
  ·intro y0 y1 y2 y3 y4
   unfold impl_GetNum.j1
   repeat' first
   | (with_reducible exact ih0 _ _ _ _)
   | (with_reducible exact ih1 _ _ _ _ _)
   | (with_reducible exact ih2 _ _ _ _ _ _)
   | (with_reducible exact LeO.refl _)
   | (with_reducible exact LeO.none _)
   | (with_reducible refine LeO.ite ?_ ?_)
   | (with_reducible refine LeO.bind ?_ (fun _ => ?_))
   | exact ih0 _ _ _ _
   | exact ih1 _ _ _ _ _
   | exact ih2 _ _ _ _ _ _
   | exact LeO.none _
   | refine LeO.ite ?_ ?_
   | refine LeO.bind ?_ (fun _ => ?_)
  ·intro y0 y1 y2 y3 y4 y5
   unfold impl_GetNum.j2
   repeat' first
   | (with_reducible exact ih0 _ _ _ _)
   | (with_reducible exact ih1 _ _ _ _ _)
   | (with_reducible exact ih2 _ _ _ _ _ _)
   | (with_reducible exact LeO.refl _)
   | (with_reducible exact LeO.none _)
   | (with_reducible refine LeO.ite ?_ ?_)
   | (with_reducible refine LeO.bind ?_ (fun _ => ?_))
   | exact ih0 _ _ _ _
   | exact ih1 _ _ _ _ _
   | exact ih2 _ _ _ _ _ _
   | exact LeO.none _
   | refine LeO.ite ?_ ?_
   | refine LeO.bind ?_ (fun _ => ?_)
theorem impl_GetNum.mono : ∀ a0 a1 k, LeO (impl_GetNum.f k a0 a1) (impl_GetNum.f (k + 1) a0 a1) := by
 intro a0 a1 k
 obtain ⟨ih0, ih1, ih2⟩ := impl_GetNum.mono_l k
 unfold impl_GetNum.f
 repeat' first
   | (with_reducible exact ih0 _ _ _ _)
   | (with_reducible exact ih1 _ _ _ _ _)
   | (with_reducible exact ih2 _ _ _ _ _ _)
   | (with_reducible exact LeO.refl _)
   | (with_reducible exact LeO.none _)
   | (with_reducible refine LeO.ite ?_ ?_)
   | (with_reducible refine LeO.bind ?_ (fun _ => ?_))
   | exact ih0 _ _ _ _
   | exact ih1 _ _ _ _ _
   | exact ih2 _ _ _ _ _ _
   | exact LeO.none _
   | refine LeO.ite ?_ ?_
   | refine LeO.bind ?_ (fun _ => ?_)
set_option maxHeartbeats 8000000 in
set_option maxRecDepth 100000 in
theorem impl_GetNum.calls (k : Nat) (A0 : Option Addr) (c0 : Nat) (l0 : List Int) (a1 : Int) (r1 : Int) (r2 : Int) (r3 : Bool) (w : World) (hr0 : Kd.C (Kd.int .u8) w A0 l0.length l0) (hc0 : l0.length ≤ c0) (h : impl_GetNum.f k l0 a1 = some (r1, r2, r3)) :
  Calls Try.prog 71 #[.slice A0 l0.length c0, .int .i64 a1] w fun e w' => e = .returned (.tuple #[.int .i64 r1, .int .i64 r2, .bool r3]) ∧ Drawn0 w w' := by
 have HR0 := mS hr0
 have HC0 := mS hc0
 clear hr0 hc0
 have H : (impl_GetNum.l0 k l0 a1 0 0) = some (r1, r2, r3) := h
 clear h
 have H' := mS H
 clear H
 go_enter Try.func71, Try.ntmps71
 go_wp2
 go_loopg [7, 8] k (fun kq v7 v8 w' => ∃ (x7_1 : Int) (x8_1 : Int), v7 = .int .i64 x7_1 ∧ v8 = .int .i64 x8_1 ∧ Aside0 (impl_GetNum.l0 kq l0 a1 x7_1 x8_1 = some (r1, r2, r3)) ∧ Aside0 (kq ≤ k) ∧ Drawn0 w w')
 case atStart => exact ⟨(0), (0), mE, mE, H', ⟨Nat.le_refl _⟩, by repeat (first | exact Drawn0.refl _ | apply Drawn0.step)⟩
 case round =>
  clear H'
  try clear p2
  obtain ⟨x7_1, x8_1, rfl, rfl, HA, HK1, ⟨m1, rfl⟩⟩ := hrel
  cases gk with
  | zero => exact absurd HA.out (by simp [impl_GetNum.l0])
  | succ k1 =>
   have H := HA.out
   clear HA
   simp only [impl_GetNum.l0] at H
   have HC3 := mS H
   clear H
   go_upto_region 3 with (fail)
   go_cut [23] (fun v23 wc => ∃ (kq : Nat) (x23_2 : Bool), v23 = .bool x23_2 ∧ Aside0 (impl_GetNum.j1 kq l0 a1 x7_1 x8_1 x23_2 = some (r1, r2, r3)) ∧ Aside0 (kq ≤ k1) ∧ Drawn0 w wc)
   case first =>
    have H := HC3.out
    clear HC3
    by_cases c4 : x8_1 < 5
    ·rw [if_pos c4] at H
     have c4b0 := decide_eq_true c4
     clear c4
     (first | rw [c4b0] | (simp only [i64_w, i32_w]; rw [c4b0]) | skip)
     by_cases c5 : a1 ≥ 0
     ·rw [if_pos c5] at H
      have c5b0 : decide (0 ≤ a1) = true := decide_eq_true c5
      clear c5
      have H' := mS H
      clear H
      go_wp2
      go_meet
      case rel => exact ⟨_, (decide (a1 < (wrap64 ((l0.length : Int) - x8_1)))), mE, H', ⟨by have := HK1.out; first | omega | exact Nat.le_refl _⟩, by repeat (first | exact Drawn0.refl _ | apply Drawn0.step)⟩
     ·rw [if_neg c5] at H
      have c5b0 : decide (0 ≤ a1) = false := decide_eq_false c5
      clear c5
      have H' := mS H
      clear H
      go_wp2
      go_meet
      case rel => exact ⟨_, (false), mE, H', ⟨by have := HK1.out; first | omega | exact Nat.le_refl _⟩, by repeat (first | exact Drawn0.refl _ | apply Drawn0.step)⟩
    ·rw [if_neg c4] at H
     have c4b0 := decide_eq_false c4
     clear c4
     (first | rw [c4b0] | (simp only [i64_w, i32_w]; rw [c4b0]) | skip)
     have H' := mS H
     clear H
     go_wp2
     go_meet
     case rel => exact ⟨_, (false), mE, H', ⟨by have := HK1.out; first | omega | exact Nat.le_refl _⟩, by repeat (first | exact Drawn0.refl _ | apply Drawn0.step)⟩
   case rest =>
    clear HC3
    try clear p2
    try clear c4
    try clear c4b0
    try clear c5
    try clear c5b0
    try clear p2
    obtain ⟨kq, x23_2, rfl, HA, HJ2, ⟨mc2, rfl⟩⟩ := hcut
    cases kq with
    | zero => exact absurd HA.out (by simp [impl_GetNum.j1])
    | succ kj2 =>
     have H := HA.out
     clear HA
     simp only [impl_GetNum.j1] at H
     by_cases c6 : x23_2 = true
     ·subst c6
      have H1 := H
      rw [if_pos rfl] at H1
      clear H
      have H := H1
      clear H1
      obtain ⟨ji7, hji7⟩ : ∃ j_ : Int, (wrap64 (a1 + x8_1)) = j_ := ⟨_, rfl⟩
      replace H : (if 0 ≤ (ji7) then (if (ji7) < (l0.length : Int) then (if x8_1 = 0 then (impl_GetNum.j2 kj2 l0 a1 x7_1 x8_1 (wrap64 (rd l0 (ji7))) ((wrap64 (rd l0 (ji7))) == 128)) else (impl_GetNum.j2 kj2 l0 a1 x7_1 x8_1 (wrap64 (rd l0 (ji7))) false)) else (none)) else (none)) = some (r1, r2, r3) := by first | (rw [hji7] at H; exact H) | (simp only [hji7] at H ⊢; exact H)
      have hji7w : (IntKind.i64.wrap (a1 + x8_1)) = ji7 := (i64_w _).trans hji7
      by_cases c8 : 0 ≤ (ji7)
      ·rw [if_pos c8] at H
       have c8b0 := decide_eq_true c8
       clear c8
       by_cases c9 : (ji7) < (l0.length : Int)
       ·rw [if_pos c9] at H
        have c9b0 := decide_eq_true c9
        clear c9
        have HC10 := mS H
        clear H
        have p399 : 0 ≤ ((ji7) : Int) := mD
        have q399 : (ji7) < (l0.length : Int) := mD
        obtain ⟨ad399, e399, hx399_0⟩ := Kd.at_int HR0.out (ji7) p399 q399
        cases e399
        replace p399 := eq_true p399
        replace q399 := eq_true q399
        go_upto_region 6 with (fail)
        go_cut [38] (fun v38 wc => ∃ (kq : Nat) (x38_9 : Bool), v38 = .bool x38_9 ∧ Aside0 (impl_GetNum.j2 kq l0 a1 x7_1 x8_1 (wrap64 (rd l0 (ji7))) x38_9 = some (r1, r2, r3)) ∧ Aside0 (kq ≤ kj2) ∧ Drawn0 w wc)
        case first =>
         have H := HC10.out
         clear HC10
         by_cases c11 : x8_1 = 0
         ·rw [if_pos c11] at H
          have c11b0 : (x8_1 == 0) = true := beq_iff_eq.mpr c11
          have c11b1 : (x8_1 != 0) = false := bne_eq_false_iff_eq.mpr c11
          clear c11
          (first | rw [c11b0] | (simp only [i64_w, i32_w]; rw [c11b0]) | skip)
          have H' := mS H
          clear H
          go_wp2
          go_meet
          case rel => exact ⟨_, (((wrap64 (rd l0 (ji7))) == 128)), (by first | rfl | (simp; done) | (simp only [← hji7] <;> (first | rfl | simp)) | (simp [*]; done)), H', ⟨by have := HK1.out; have := HJ2.out; first | omega | exact Nat.le_refl _⟩, by repeat (first | exact Drawn0.refl _ | apply Drawn0.step)⟩
         ·rw [if_neg c11] at H
          have c11b0 : (x8_1 == 0) = false := beq_eq_false_iff_ne.mpr c11
          have c11b1 : (x8_1 != 0) = true := bne_iff_ne.mpr c11
          (first | rw [c11b0] | (simp only [i64_w, i32_w]; rw [c11b0]) | skip)
          have H' := mS H
          clear H
          go_wp2
          go_meet
          case rel => exact ⟨_, (false), mE, H', ⟨by have := HK1.out; have := HJ2.out; first | omega | exact Nat.le_refl _⟩, by repeat (first | exact Drawn0.refl _ | apply Drawn0.step)⟩
        case rest =>
         clear HC10
         try clear c1
         try clear c2
         try clear p2
         try clear p3
         try clear q3
         try clear hx3
         try clear c4
         try clear c4b0
         try clear c5
         try clear c5b0
         try clear c6
         try clear p6
         try clear c7
         try clear c8
         try clear c8b0
         try clear c9
         try clear c9b0
         try clear c11
         try clear c11b0
         try clear c11b1
         try clear hx399_0
         try clear p2
         try clear p399
         try clear q399
         obtain ⟨kq, x38_9, rfl, HA, HJ9, ⟨mc9, rfl⟩⟩ := hcut
         cases kq with
         | zero => exact absurd HA.out (by simp [impl_GetNum.j2])
         | succ kj9 =>
          have H := HA.out
          clear HA
          simp only [impl_GetNum.j2] at H
          by_cases c12 : x38_9 = true
          ·subst c12
           have H1 := H
           rw [if_pos rfl] at H1
           clear H
           have H := H1
           clear H1
           simp only [Option.some.injEq, Prod.mk.injEq] at H
           obtain ⟨rfl, rfl, rfl⟩ := H
           go_wp2
           go_ret3
           exact ⟨by first | rfl | (simp; done) | (simp only [← hji7] <;> (first | rfl | simp)) | (simp [*]; done), by repeat (first | exact Drawn0.refl _ | apply Drawn0.step)⟩
          ·replace c12 := Bool.eq_false_iff.mpr c12
           subst c12
           have H1 := H
           rw [if_neg (show ¬ (false = true) by decide)] at H1
           clear H
           have H := H1
           clear H1
           by_cases c13 : (wrap64 (rd l0 (ji7))) ≥ 128
           ·rw [if_pos c13] at H
            have c13b0 : decide (128 ≤ (wrap64 (rd l0 (ji7)))) = true := decide_eq_true c13
            clear c13
            have H' := mS H
            clear H
            go_wp2
            go_roundg kj9
            case measure => have := HK1.out; have := HJ2.out; have := HJ9.out; omega
            case rel => exact ⟨(wrap64 ((wrap64 (x7_1 * 128)) + (Int.tmod (wrap64 (rd l0 (ji7))) 128))), (wrap64 (x8_1 + 1)), (by first | rfl | (simp; done) | (simp only [← hji7] <;> (first | rfl | simp)) | (simp [*]; done)), mE, H', ⟨by have := HK1.out; have := HJ2.out; have := HJ9.out; omega⟩, by repeat (first | exact Drawn0.refl _ | apply Drawn0.step)⟩
           ·rw [if_neg c13] at H
            have c13b0 : decide (128 ≤ (wrap64 (rd l0 (ji7)))) = false := decide_eq_false c13
            clear c13
            by_cases c14 : (wrap64 ((wrap64 (x7_1 * 128)) + (Int.tmod (wrap64 (rd l0 (ji7))) 128))) > 1000000000
            ·rw [if_pos c14] at H
             have c14b0 : decide (1000000000 < (wrap64 ((wrap64 (x7_1 * 128)) + (Int.tmod (wrap64 (rd l0 (ji7))) 128)))) = true := decide_eq_true c14
             clear c14
             simp only [Option.some.injEq, Prod.mk.injEq] at H
             obtain ⟨rfl, rfl, rfl⟩ := H
             go_wp2
             go_ret3
             exact ⟨by first | rfl | (simp; done) | (simp only [← hji7] <;> (first | rfl | simp)) | (simp [*]; done), by repeat (first | exact Drawn0.refl _ | apply Drawn0.step)⟩
            ·rw [if_neg c14] at H
             have c14b0 : decide (1000000000 < (wrap64 ((wrap64 (x7_1 * 128)) + (Int.tmod (wrap64 (rd l0 (ji7))) 128)))) = false := decide_eq_false c14
             clear c14
             simp only [Option.some.injEq, Prod.mk.injEq] at H
             obtain ⟨rfl, rfl, rfl⟩ := H
             go_wp2
             go_ret3
             exact ⟨by first | rfl | (simp; done) | (simp only [← hji7] <;> (first | rfl | simp)) | (simp [*]; done), by repeat (first | exact Drawn0.refl _ | apply Drawn0.step)⟩
       ·rw [if_neg c9] at H
        exact absurd H (by simp)
      ·rw [if_neg c8] at H
       exact absurd H (by simp)
     ·replace c6 := Bool.eq_false_iff.mpr c6
      subst c6
      have H1 := H
      rw [if_neg (show ¬ (false = true) by decide)] at H1
      clear H
      have H := H1
      clear H1
      simp only [Option.some.injEq, Prod.mk.injEq] at H
      obtain ⟨rfl, rfl, rfl⟩ := H
      go_wp2
      go_ret3
      exact ⟨mE, by repeat (first | exact Drawn0.refl _ | apply Drawn0.step)⟩

/-! ### impl_GetText: function 38 -/
def impl_GetText.f (k : Nat) (l0 : List Int) (a1 : Int) : Option (ByteArray × Int × Bool) := (impl_GetNum.f k l0 a1).bind fun bt400 => (if bt400.2.2 = true then (if bt400.1 > (wrap64 ((l0.length : Int) - bt400.2.1)) then (some ((⟨#[]⟩ : ByteArray), 0, false)) else (if 0 ≤ bt400.2.1 then (if bt400.2.1 ≤ (wrap64 (bt400.2.1 + bt400.1)) then (if (wrap64 (bt400.2.1 + bt400.1)) ≤ (l0.length : Int) then (some (strOfNums ((l0.take ((wrap64 (bt400.2.1 + bt400.1)) : Int).toNat).drop (bt400.2.1 : Int).toNat), wrap64 (bt400.2.1 + bt400.1), true)) else (none)) else (none)) else (none))) else (some ((⟨#[]⟩ : ByteArray), 0, false)))
theorem impl_GetText.mono : ∀ a0 a1 k, LeO (impl_GetText.f k a0 a1) (impl_GetText.f (k + 1) a0 a1) := by
 intro a0 a1 k
 unfold impl_GetText.f
 repeat' first
   | (with_reducible exact impl_GetNum.mono _ _ _)
   | (with_reducible exact LeO.refl _)
   | (with_reducible exact LeO.none _)
   | (with_reducible refine LeO.ite ?_ ?_)
   | (with_reducible refine LeO.bind ?_ (fun _ => ?_))
   | exact impl_GetNum.mono _ _ _
   | exact LeO.none _
   | refine LeO.ite ?_ ?_
   | refine LeO.bind ?_ (fun _ => ?_)
set_option maxHeartbeats 8000000 in
set_option maxRecDepth 100000 in
theorem impl_GetText.calls (k : Nat) (A0 : Option Addr) (c0 : Nat) (l0 : List Int) (a1 : Int) (r1 : ByteArray) (r2 : Int) (r3 : Bool) (w : World) (hr0 : Kd.C (Kd.int .u8) w A0 l0.length l0) (hc0 : l0.length ≤ c0) (h : impl_GetText.f k l0 a1 = some (r1, r2, r3)) :
  Calls Try.prog 38 #[.slice A0 l0.length c0, .int .i64 a1] w fun e w' => e = .returned (.tuple #[.string r1, .int .i64 r2, .bool r3]) ∧ Drawn0 w w' := by
 have HR0 := mS hr0
 have HC0 := mS hc0
 clear hr0 hc0
 have H : ((impl_GetNum.f k l0 a1).bind fun bt400 => (if bt400.2.2 = true then (if bt400.1 > (wrap64 ((l0.length : Int) - bt400.2.1)) then (some ((⟨#[]⟩ : ByteArray), 0, false)) else (if 0 ≤ bt400.2.1 then (if bt400.2.1 ≤ (wrap64 (bt400.2.1 + bt400.1)) then (if (wrap64 (bt400.2.1 + bt400.1)) ≤ (l0.length : Int) then (some (strOfNums ((l0.take ((wrap64 (bt400.2.1 + bt400.1)) : Int).toNat).drop (bt400.2.1 : Int).toNat), wrap64 (bt400.2.1 + bt400.1), true)) else (none)) else (none)) else (none))) else (some ((⟨#[]⟩ : ByteArray), 0, false)))) = some (r1, r2, r3) := h
 clear h
 replace H := Option.bind_eq_some_iff.mp H
 obtain ⟨⟨t400, t401, t402⟩, A30, H⟩ := H
 replace H : (if t402 = true then (if t400 > (wrap64 ((l0.length : Int) - t401)) then (some ((⟨#[]⟩ : ByteArray), 0, false)) else (if 0 ≤ t401 then (if t401 ≤ (wrap64 (t401 + t400)) then (if (wrap64 (t401 + t400)) ≤ (l0.length : Int) then (some (strOfNums ((l0.take ((wrap64 (t401 + t400)) : Int).toNat).drop (t401 : Int).toNat), wrap64 (t401 + t400), true)) else (none)) else (none)) else (none))) else (some ((⟨#[]⟩ : ByteArray), 0, false))) = some (r1, r2, r3) := H
 have A3 := mS A30
 clear A30
 by_cases c4 : t402 = true
 ·subst c4
  have H1 := H
  rw [if_pos rfl] at H1
  clear H
  have H := H1
  clear H1
  by_cases c5 : t400 > (wrap64 ((l0.length : Int) - t401))
  ·rw [if_pos c5] at H
   have c5b0 : decide ((wrap64 ((l0.length : Int) - t401)) < t400) = true := decide_eq_true c5
   clear c5
   simp only [Option.some.injEq, Prod.mk.injEq] at H
   obtain ⟨rfl, rfl, rfl⟩ := H
   go_enter Try.func38, Try.ntmps38
   go_wp2_with (first | ((with_reducible refine gate_callee (f := 71) rfl ?_); refine mGo 13 Try.func71 #[.slice A0 l0.length c0, .int .i64 a1] ?_; (with_reducible refine (impl_GetNum.calls k _ _ l0 a1 t400 t401 true _ ?side1 ?side2 A3.out).mono ?_); (case side1 => exact mC HR0.out); (case side2 => exact HC0.out); rintro e w' ⟨rfl, ⟨nd, rfl⟩⟩; refine ⟨_, rfl, ?_⟩))
   go_ret3
   exact ⟨mE, by repeat (first | exact Drawn0.refl _ | apply Drawn0.step)⟩
  ·rw [if_neg c5] at H
   have c5b0 : decide ((wrap64 ((l0.length : Int) - t401)) < t400) = false := decide_eq_false c5
   clear c5
   by_cases c6 : 0 ≤ t401
   ·rw [if_pos c6] at H
    have c6b0 := eq_true c6
    have c6b1 := decide_eq_true c6
    clear c6
    by_cases c7 : t401 ≤ (wrap64 (t401 + t400))
    ·rw [if_pos c7] at H
     have c7b0 := eq_true c7
     have c7b1 := decide_eq_true c7
     by_cases c8 : (wrap64 (t401 + t400)) ≤ (l0.length : Int)
     ·rw [if_pos c8] at H
      have c8b0 := eq_true c8
      have c8b1 := decide_eq_true c8
      simp only [Option.some.injEq, Prod.mk.injEq] at H
      obtain ⟨rfl, rfl, rfl⟩ := H
      go_enter Try.func38, Try.ntmps38
      go_wp2_with (first | ((with_reducible refine gate_callee (f := 71) rfl ?_); refine mGo 13 Try.func71 #[.slice A0 l0.length c0, .int .i64 a1] ?_; (with_reducible refine (impl_GetNum.calls k _ _ l0 a1 t400 t401 true _ ?side1 ?side2 A3.out).mono ?_); (case side1 => exact mC HR0.out); (case side2 => exact HC0.out); rintro e w' ⟨rfl, ⟨nd, rfl⟩⟩; refine ⟨_, rfl, ?_⟩; obtain ⟨i09, hi09, _, hsz9, _⟩ := info_parts info5; obtain ⟨A9, hcut9, hA9, hC9⟩ := print_mid_of (P := Try.prog) (Value.int .u8) 0 22 5 .i64 .i64 Try.underlying22 hi09 hsz9 A0 c0 l0 t401 (wrap64 (t401 + t400)) (mD) (by first | omega | exact mD) (mD) HC0.out; have HR403 := mS (Kd.C_of_reads (h1 := fun _ => rfl) (hA9 _ (Kd.reads_of_C HR0.out))); have HC403 := mS hC9; clear hA9 hC9 hi09 hsz9; have hcv10 := Kd.C_string (P := Try.prog) (A := A9) (c := (c0 - t401.toNat)) Try.underlying22 Try.underlying5 Try.underlying9 HR403.out; have hcv11 := fun n_ : Nat => Kd.C_string (P := Try.prog) (A := A9) (c := (c0 - t401.toNat)) Try.underlying22 Try.underlying5 Try.underlying9 (Kd.C_drewN HR403.out n_); have hln12 := (show ((l0.take ((wrap64 (t401 + t400)) : Int).toNat).drop (t401 : Int).toNat).length = ((wrap64 (t401 + t400)) : Int).toNat - (t401 : Int).toNat from by rw [List.length_drop, List.length_take, Nat.min_eq_left (by omega)]); have hcv12 := Kd.C_string (P := Try.prog) (A := A9) (c := (c0 - t401.toNat)) Try.underlying22 Try.underlying5 Try.underlying9 HR403.out; rw [hln12] at hcv12; have hcw12 := fun n_ : Nat => (show _ from by have z_ := Kd.C_string (P := Try.prog) (A := A9) (c := (c0 - t401.toNat)) Try.underlying22 Try.underlying5 Try.underlying9 (Kd.C_drewN HR403.out n_); rw [hln12] at z_; exact z_); clear hln12))
      go_ret3
      exact ⟨mE, by repeat (first | exact Drawn0.refl _ | apply Drawn0.step)⟩
     ·rw [if_neg c8] at H
      exact absurd H (by simp)
    ·rw [if_neg c7] at H
     exact absurd H (by simp)
   ·rw [if_neg c6] at H
    exact absurd H (by simp)
 ·replace c4 := Bool.eq_false_iff.mpr c4
  subst c4
  have H1 := H
  rw [if_neg (show ¬ (false = true) by decide)] at H1
  clear H
  have H := H1
  clear H1
  simp only [Option.some.injEq, Prod.mk.injEq] at H
  obtain ⟨rfl, rfl, rfl⟩ := H
  go_enter Try.func38, Try.ntmps38
  go_wp2_with (first | ((with_reducible refine gate_callee (f := 71) rfl ?_); refine mGo 13 Try.func71 #[.slice A0 l0.length c0, .int .i64 a1] ?_; (with_reducible refine (impl_GetNum.calls k _ _ l0 a1 t400 t401 false _ ?side1 ?side2 A3.out).mono ?_); (case side1 => exact mC HR0.out); (case side2 => exact HC0.out); rintro e w' ⟨rfl, ⟨nd, rfl⟩⟩; refine ⟨_, rfl, ?_⟩))
  go_ret3
  exact ⟨mE, by repeat (first | exact Drawn0.refl _ | apply Drawn0.step)⟩

end Go.Proofs.Ytecjamgajlpfdaa.MFnExactTablePairs
