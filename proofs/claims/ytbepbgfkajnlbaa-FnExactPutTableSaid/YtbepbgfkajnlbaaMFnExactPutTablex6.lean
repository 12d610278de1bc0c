-- Written by mp.py, this session's own printer (wip/mp.py).
import Derived.Test.YtbepbgfkajnlbaaVMShort
import Derived.Test.YtbepbgfkajnlbaaMFnExactPutTablex0
import Derived.Test.YtbepbgfkajnlbaaMFnExactPutTablex2
import Derived.Test.YtbepbgfkajnlbaaMFnExactPutTablex3
import Derived.Test.YtbepbgfkajnlbaaMFnExactPutTablex4
import Derived.Test.YtbepbgfkajnlbaaMFnExactPutTablex5
namespace Go.Proofs.Ytbepbgfkajnlbaa.MFnExactPutTable
open Go.RowKit Go.Proofs.YtbepbgfkajnlbaaW.PrintWords Go.Proofs.YtbepbgfkajnlbaaW.PrintLast Go.Proofs.YtbepbgfkajnlbaaW.PrintMore Go.Proofs.Ytbepbgfkajnlbaa.MWords
attribute [local go_sem] max2_int min2_int max_two min_two max_three min_three max_four min_four   -- for this text's walks alone
set_option linter.unusedVariables false
set_option linter.unusedSimpArgs false

/-! ### spec_Mark: function 156 -/
def spec_Mark.f (k : Nat) (a0 : ByteArray) : Option (Int × Int) := if a0.size ≤ 9223372036854775807 then ((spec_Sum.f k (bytesOf a0)).bind fun t => (some (Int.tmod t 64, Int.tmod (wrap64 (Int.tdiv t 64)) 64))) else none
theorem spec_Mark.mono : ∀ a0 k, LeO (spec_Mark.f k a0) (spec_Mark.f (k + 1) a0) := by
 intro a0 k
 unfold spec_Mark.f
 exact LeO.ite (LeO.bind (spec_Sum.mono _ _) (fun _ => LeO.refl _)) (LeO.none _)
set_option maxHeartbeats 8000000 in
set_option maxRecDepth 100000 in
theorem spec_Mark.calls (k : Nat) (a0 : ByteArray) (r1 : Int) (r2 : Int) (w : World) (h : spec_Mark.f k a0 = some (r1, r2)) :
  Calls Try.prog 156 #[.string a0] w fun e w' => e = .returned (.tuple #[.int .i64 r1, .int .i64 r2]) ∧ Below w.heap.size w w' := by
 unfold spec_Mark.f at h
 by_cases hs : a0.size ≤ 9223372036854775807
 ·rw [if_pos hs] at h
  obtain ⟨t, ht, h⟩ := Option.bind_eq_some_iff.mp h
  simp only [Option.some.injEq, Prod.mk.injEq] at h
  obtain ⟨rfl, rfl⟩ := h
  have HT := mS ht
  clear ht
  have hcv : ∀ W : World, (convert 9 22 (.string a0)).run Try.prog W = .ok (.slice (some ⟨W.heap.size, 0, none⟩) (bytesOf a0).length (grownCap W a0.size 0 5)) (Lib.bytesWorld W 5 a0) := fun W => by
   rw [bytesOf_length]
   exact print_bytes 9 22 5 Try.underlying9 Try.underlying22 Try.underlying5 a0 W
  have HS := mS hs
  clear hs
  have HR := mS (show (Kd.int .u8).C (Lib.bytesWorld w 5 a0) (some ⟨w.heap.size, 0, none⟩) (bytesOf a0).length (bytesOf a0) from by
   have hr := bytes_reads w 5 a0 HS.out
   rw [← bytesOf_length] at hr
   exact Kd.C_of_reads (d := (0 : Int)) (h1 := fun _ => rfl) hr)
  have HC := mS (show (bytesOf a0).length ≤ grownCap w a0.size 0 5 from by rw [bytesOf_length]; exact grownCap_ge w a0.size 0 5)
  go_enter Try.func156, Try.ntmps156
  go_wp2_with fail
  refine (spec_Sum.calls k _ _ (bytesOf a0) t _ HR.out HC.out HT.out).mono ?_
  rintro e w' ⟨rfl, ⟨nd, rfl⟩⟩
  go_wp2
  go_ret2
  exact ⟨rfl, pw_below_drewN (bytes_below (Below.refl _ _) (Nat.le_refl _) 5 a0) nd⟩
 ·rw [if_neg hs] at h
  cases h

/-! ### spec_Filter: function 119 -/
def spec_Filter.l0 : Nat → List ByteArray → List Int → Int → Option (List Int)
 | 0, _, _, _ => none
 | k + 1, x0, x3, x4 => if x4 < (x0.length : Int) then (if 0 ≤ x4 then ((spec_Mark.f k (rdOf ByteArray.empty x0 x4)).bind fun bt197 => (if 0 ≤ (wrap64 (Int.tdiv bt197.1 8)) then (if (wrap64 (Int.tdiv bt197.1 8)) < (x3.length : Int) then (if 0 ≤ (IntKind.u64.wrap (Int.tmod bt197.1 8)) then ((some (x3.set ((wrap64 (Int.tdiv bt197.1 8)) : Int).toNat (Go.bits .or .u8 (rd x3 (wrap64 (Int.tdiv bt197.1 8))) (shl .u8 1 (IntKind.u64.wrap (Int.tmod bt197.1 8)))) : List Int)).bind fun y200 => (if 0 ≤ (wrap64 (Int.tdiv bt197.2 8)) then (if (wrap64 (Int.tdiv bt197.2 8)) < (x3.length : Int) then (if 0 ≤ (IntKind.u64.wrap (Int.tmod bt197.2 8)) then (spec_Filter.l0 k x0 (y200.set ((wrap64 (Int.tdiv bt197.2 8)) : Int).toNat (Go.bits .or .u8 (rd y200 (wrap64 (Int.tdiv bt197.2 8))) (shl .u8 1 (IntKind.u64.wrap (Int.tmod bt197.2 8))))) (wrap64 (x4 + 1))) else (none)) else (none)) else (none))) else (none)) else (none)) else (none))) else (none)) else (some x3)
def spec_Filter.f (k : Nat) (l0 : List ByteArray) : Option (List Int) := if 8 ≤ 281474976710656 then (spec_Filter.l0 k l0 (List.replicate 8 0) 0) else (none)
theorem spec_Filter.mono_l : ∀ k, (∀ y0 y1 y2, LeO (spec_Filter.l0 k y0 y1 y2) (spec_Filter.l0 (k + 1) y0 y1 y2))
 | 0 => fun _ _ _ r h => by simp [spec_Filter.l0] at h
 | k + 1 => by
  have ih0 := spec_Filter.mono_l k
  ·intro y0 y1 y2
   unfold spec_Filter.l0
   repeat' first
   | (with_reducible exact ih0 _ _ _)
   | (with_reducible exact spec_Mark.mono _ _)
   | (with_reducible exact LeO.refl _)
   | (with_reducible exact LeO.none _)
   | (with_reducible refine LeO.ite ?_ ?_)
   | (with_reducible refine LeO.bind ?_ (fun _ => ?_))
   | exact ih0 _ _ _
   | exact spec_Mark.mono _ _
   | exact LeO.none _
   | refine LeO.ite ?_ ?_
   | refine LeO.bind ?_ (fun _ => ?_)
theorem spec_Filter.mono : ∀ a0 k, LeO (spec_Filter.f k a0) (spec_Filter.f (k + 1) a0) := by
 intro a0 k
 have ih0 := spec_Filter.mono_l k
 unfold spec_Filter.f
 repeat' first
   | (with_reducible exact ih0 _ _ _)
   | (with_reducible exact spec_Mark.mono _ _)
   | (with_reducible exact LeO.refl _)
   | (with_reducible exact LeO.none _)
   | (with_reducible refine LeO.ite ?_ ?_)
   | (with_reducible refine LeO.bind ?_ (fun _ => ?_))
   | exact ih0 _ _ _
   | exact spec_Mark.mono _ _
   | exact LeO.none _
   | refine LeO.ite ?_ ?_
   | refine LeO.bind ?_ (fun _ => ?_)
set_option maxHeartbeats 8000000 in
set_option maxRecDepth 100000 in
theorem spec_Filter.calls (k : Nat) (A0 : Option Addr) (c0 : Nat) (l0 : List ByteArray) (r : List Int) (w : World) (hr0 : Kd.C Kd.string w A0 l0.length l0) (hc0 : l0.length ≤ c0) (h : spec_Filter.f k l0 = some r) :
  Calls Try.prog 119 #[.slice A0 l0.length c0] w fun e w' => ∃ v0_ : Value, e = .returned (v0_) ∧ Kd.R (Kd.int .u8) 5 w' w.heap.size (fun _ => True) v0_ r ∧ Below w.heap.size w w' := by
 have HR0 := mS hr0
 have HC0 := mS hc0
 clear hr0 hc0
 have HB := mS (Below.refl w.heap.size w)
 have H : (if 8 ≤ 281474976710656 then (spec_Filter.l0 k l0 (List.replicate 8 0) 0) else (none)) = some r := h
 clear h
 by_cases c2 : 8 ≤ 281474976710656
 ·rw [if_pos c2] at H
  have c2b0 := eq_true c2
  have c2b1 : decide (8 ≤ 281474976710656) = true := decide_eq_true c2
  clear c2
  obtain ⟨y193, hy193⟩ : ∃ y_ : List Int, y_ = (List.replicate 8 0) := ⟨_, rfl⟩
  replace H : (spec_Filter.l0 k l0 y193 0) = some r := by first | (rw [hy193]; with_reducible exact H) | (have H2_ := (Option.bind_some _ _).symm.trans H; rw [hy193]; with_reducible exact H2_) | (have H2_ := (Option.bind_some _ _).symm.trans H; with_reducible exact H2_) | with_reducible exact H | (rw [hy193]; exact H) | exact H
  have Ny193 := mS hy193
  clear hy193
  have H' := mS H
  clear H
  go_enter Try.func119, Try.ntmps119
  go_wp2_with (first | ((with_reducible refine gate_dst (N := 7) rfl ?_); refine Kd.R_make (Kd.int .u8) _ 5 rfl (N := 7) rfl 22 _ _ rfl 8 rfl rfl Try.underlying22 (.int .u8 0) 1 info5 rfl (by decide) (by omega) 0 (ok := fun _ => True) (okp := fun _ => True) rfl (fun _ hk => hk) trivial (by omega) (by omega) (Below.refl _ _) (Nat.le_refl _) ?_; intro v194 w3 ho4 hb hg_ hnew_; clear hg_ hnew_; (first | rw [← Ny193.out] at ho4 | (simp only [Int.reduceToNat] at ho4; rw [← Ny193.out] at ho4)); have HO195 := mS (Kd.R_lower ho4 (below_size (mH HB.out))); replace HB := mS (below_step (mH HB.out) hb); clear hb ho4))
  go_loopg [4] k (fun kq v4 w' => ∃ (x3_1 : List Int) (x4_1 : Int), v4 = .int .i64 x4_1 ∧ Aside0 (spec_Filter.l0 kq l0 x3_1 x4_1 = some r) ∧ Aside0 (kq ≤ k) ∧ Aside0 (Kd.R (Kd.int .u8) 5 w' w.heap.size (fun _ => True) v194 x3_1) ∧ Aside0 (Below w.heap.size w w'))
  case atStart => exact ⟨(y193), (0), (by first | rfl | (simp; done) | (simp [*]; done)), H', ⟨Nat.le_refl _⟩, ⟨by (with_reducible repeat (first | apply Kd.R_alloc | apply Kd.R_drewN | apply Kd.R_drew)); exact HO195.out⟩, ⟨(mH HB.out)⟩⟩
  case round =>
   clear H'
   try clear c1
   try clear c2
   try clear c2b0
   try clear c2b1
   try clear p2
   obtain ⟨x3_1, x4_1, rfl, HA, HK1, HO_3, HB⟩ := hrel
   cases gk with
   | zero => exact absurd HA.out (by simp [spec_Filter.l0])
   | succ k1 =>
    have H := HA.out
    clear HA
    simp only [spec_Filter.l0] at H
    by_cases c5 : x4_1 < (l0.length : Int)
    ·rw [if_pos c5] at H
     have c5b0 : decide (x4_1 < (l0.length : Int)) = true := decide_eq_true c5
     clear c5
     by_cases c6 : 0 ≤ x4_1
     ·rw [if_pos c6] at H
      have c6b0 : decide (0 ≤ x4_1) = true := decide_eq_true c6
      clear c6
      replace H := Option.bind_eq_some_iff.mp H
      obtain ⟨⟨t197, t198⟩, A70, H⟩ := H
      replace H : (if 0 ≤ (wrap64 (Int.tdiv t197 8)) then (if (wrap64 (Int.tdiv t197 8)) < (x3_1.length : Int) then (if 0 ≤ (IntKind.u64.wrap (Int.tmod t197 8)) then ((some (x3_1.set ((wrap64 (Int.tdiv t197 8)) : Int).toNat (Go.bits .or .u8 (rd x3_1 (wrap64 (Int.tdiv t197 8))) (shl .u8 1 (IntKind.u64.wrap (Int.tmod t197 8)))) : List Int)).bind fun y200 => (if 0 ≤ (wrap64 (Int.tdiv t198 8)) then (if (wrap64 (Int.tdiv t198 8)) < (x3_1.length : Int) then (if 0 ≤ (IntKind.u64.wrap (Int.tmod t198 8)) then (spec_Filter.l0 k1 l0 (y200.set ((wrap64 (Int.tdiv t198 8)) : Int).toNat (Go.bits .or .u8 (rd y200 (wrap64 (Int.tdiv t198 8))) (shl .u8 1 (IntKind.u64.wrap (Int.tmod t198 8))))) (wrap64 (x4_1 + 1))) else (none)) else (none)) else (none))) else (none)) else (none)) else (none)) = some r := H
      have A7 := mS A70
      clear A70
      obtain ⟨ji8, hji8⟩ : ∃ j_ : Int, (wrap64 (Int.tdiv t197 8)) = j_ := ⟨_, rfl⟩
      replace H : (if 0 ≤ (ji8) then (if (ji8) < (x3_1.length : Int) then (if 0 ≤ (IntKind.u64.wrap (Int.tmod t197 8)) then ((some (x3_1.set ((ji8) : Int).toNat (Go.bits .or .u8 (rd x3_1 (ji8)) (shl .u8 1 (IntKind.u64.wrap (Int.tmod t197 8)))) : List Int)).bind fun y200 => (if 0 ≤ (wrap64 (Int.tdiv t198 8)) then (if (wrap64 (Int.tdiv t198 8)) < (x3_1.length : Int) then (if 0 ≤ (IntKind.u64.wrap (Int.tmod t198 8)) then (spec_Filter.l0 k1 l0 (y200.set ((wrap64 (Int.tdiv t198 8)) : Int).toNat (Go.bits .or .u8 (rd y200 (wrap64 (Int.tdiv t198 8))) (shl .u8 1 (IntKind.u64.wrap (Int.tmod t198 8))))) (wrap64 (x4_1 + 1))) else (none)) else (none)) else (none))) else (none)) else (none)) else (none)) = some r := by first | (rw [hji8] at H; exact H) | (simp only [hji8] at H ⊢; exact H)
      (try rw [hji8] at A7)
      have hji8w : (IntKind.i64.wrap (Int.tdiv t197 8)) = ji8 := (i64_w _).trans hji8
      by_cases c9 : 0 ≤ (ji8)
      ·rw [if_pos c9] at H
       have c9b0 : decide (0 ≤ (ji8)) = true := decide_eq_true c9
       clear c9
       by_cases c10 : (ji8) < (x3_1.length : Int)
       ·rw [if_pos c10] at H
        have c10b0 : decide ((ji8) < (x3_1.length : Int)) = true := decide_eq_true c10
        clear c10
        obtain ⟨ji11, hji11⟩ : ∃ j_ : Int, (IntKind.u64.wrap (Int.tmod t197 8)) = j_ := ⟨_, rfl⟩
        replace H : (if 0 ≤ (ji11) then ((some (x3_1.set ((ji8) : Int).toNat (Go.bits .or .u8 (rd x3_1 (ji8)) (shl .u8 1 (ji11))) : List Int)).bind fun y200 => (if 0 ≤ (wrap64 (Int.tdiv t198 8)) then (if (wrap64 (Int.tdiv t198 8)) < (x3_1.length : Int) then (if 0 ≤ (IntKind.u64.wrap (Int.tmod t198 8)) then (spec_Filter.l0 k1 l0 (y200.set ((wrap64 (Int.tdiv t198 8)) : Int).toNat (Go.bits .or .u8 (rd y200 (wrap64 (Int.tdiv t198 8))) (shl .u8 1 (IntKind.u64.wrap (Int.tmod t198 8))))) (wrap64 (x4_1 + 1))) else (none)) else (none)) else (none))) else (none)) = some r := by first | (rw [hji11] at H; exact H) | (simp only [hji11] at H ⊢; exact H)
        (try rw [hji11] at A7)
        by_cases c12 : 0 ≤ (ji11)
        ·rw [if_pos c12] at H
         have c12b0 := eq_true c12
         have c12b1 : decide (0 ≤ (ji11)) = true := decide_eq_true c12
         clear c12
         obtain ⟨ji13, hji13⟩ : ∃ j_ : Int, (shl .u8 1 (ji11)) = j_ := ⟨_, rfl⟩
         replace H : ((some (x3_1.set ((ji8) : Int).toNat (Go.bits .or .u8 (rd x3_1 (ji8)) (ji13)) : List Int)).bind fun y200 => (if 0 ≤ (wrap64 (Int.tdiv t198 8)) then (if (wrap64 (Int.tdiv t198 8)) < (x3_1.length : Int) then (if 0 ≤ (IntKind.u64.wrap (Int.tmod t198 8)) then (spec_Filter.l0 k1 l0 (y200.set ((wrap64 (Int.tdiv t198 8)) : Int).toNat (Go.bits .or .u8 (rd y200 (wrap64 (Int.tdiv t198 8))) (shl .u8 1 (IntKind.u64.wrap (Int.tmod t198 8))))) (wrap64 (x4_1 + 1))) else (none)) else (none)) else (none))) = some r := by first | (rw [hji13] at H; exact H) | (simp only [hji13] at H ⊢; exact H)
         (try rw [hji13] at A7)
         have hji13_ : (IntKind.u8.wrap (1 * 2 ^ min (ji11).toNat 8)) = ji13 := hji13
         have hji13z : (ji11) ≤ 8 → (IntKind.u8.wrap (1 * 2 ^ (ji11).toNat)) = ji13 := shl_small hji13
         have hji13u : (IntKind.u8.wrap (2 ^ min (ji11).toNat 8)) = ji13 := by have h_ := hji13_; rw [Int.one_mul] at h_; exact h_
         have hji13v : (ji11) ≤ 8 → (IntKind.u8.wrap (2 ^ (ji11).toNat)) = ji13 := fun hle_ => by have h_ := hji13z hle_; rw [Int.one_mul] at h_; exact h_
         obtain ⟨y200, hy200⟩ : ∃ y_ : List Int, y_ = (x3_1.set ((ji8) : Int).toNat (Go.bits .or .u8 (rd x3_1 (ji8)) (ji13))) := ⟨_, rfl⟩
         replace H : (if 0 ≤ (wrap64 (Int.tdiv t198 8)) then (if (wrap64 (Int.tdiv t198 8)) < (x3_1.length : Int) then (if 0 ≤ (IntKind.u64.wrap (Int.tmod t198 8)) then (spec_Filter.l0 k1 l0 (y200.set ((wrap64 (Int.tdiv t198 8)) : Int).toNat (Go.bits .or .u8 (rd y200 (wrap64 (Int.tdiv t198 8))) (shl .u8 1 (IntKind.u64.wrap (Int.tmod t198 8))))) (wrap64 (x4_1 + 1))) else (none)) else (none)) else (none)) = some r := by first | (rw [hy200]; with_reducible exact H) | (have H2_ := (Option.bind_some _ _).symm.trans H; rw [hy200]; with_reducible exact H2_) | (have H2_ := (Option.bind_some _ _).symm.trans H; with_reducible exact H2_) | with_reducible exact H | (rw [hy200]; exact H) | exact H
         have Ny200 := mS hy200
         clear hy200
         obtain ⟨ji15, hji15⟩ : ∃ j_ : Int, (wrap64 (Int.tdiv t198 8)) = j_ := ⟨_, rfl⟩
         replace H : (if 0 ≤ (ji15) then (if (ji15) < (x3_1.length : Int) then (if 0 ≤ (IntKind.u64.wrap (Int.tmod t198 8)) then (spec_Filter.l0 k1 l0 (y200.set ((ji15) : Int).toNat (Go.bits .or .u8 (rd y200 (ji15)) (shl .u8 1 (IntKind.u64.wrap (Int.tmod t198 8))))) (wrap64 (x4_1 + 1))) else (none)) else (none)) else (none)) = some r := by first | (rw [hji15] at H; exact H) | (simp only [hji15] at H ⊢; exact H)
         (try rw [hji15] at A7)
         have hji15w : (IntKind.i64.wrap (Int.tdiv t198 8)) = ji15 := (i64_w _).trans hji15
         by_cases c16 : 0 ≤ (ji15)
         ·rw [if_pos c16] at H
          have c16b0 : decide (0 ≤ (ji15)) = true := decide_eq_true c16
          clear c16
          by_cases c17 : (ji15) < (x3_1.length : Int)
          ·rw [if_pos c17] at H
           have c17b0 : decide ((ji15) < (x3_1.length : Int)) = true := decide_eq_true c17
           clear c17
           obtain ⟨ji18, hji18⟩ : ∃ j_ : Int, (IntKind.u64.wrap (Int.tmod t198 8)) = j_ := ⟨_, rfl⟩
           replace H : (if 0 ≤ (ji18) then (spec_Filter.l0 k1 l0 (y200.set ((ji15) : Int).toNat (Go.bits .or .u8 (rd y200 (ji15)) (shl .u8 1 (ji18)))) (wrap64 (x4_1 + 1))) else (none)) = some r := by first | (rw [hji18] at H; exact H) | (simp only [hji18] at H ⊢; exact H)
           (try rw [hji18] at A7)
           by_cases c19 : 0 ≤ (ji18)
           ·rw [if_pos c19] at H
            have c19b0 := eq_true c19
            have c19b1 : decide (0 ≤ (ji18)) = true := decide_eq_true c19
            clear c19
            obtain ⟨ji20, hji20⟩ : ∃ j_ : Int, (shl .u8 1 (ji18)) = j_ := ⟨_, rfl⟩
            replace H : (spec_Filter.l0 k1 l0 (y200.set ((ji15) : Int).toNat (Go.bits .or .u8 (rd y200 (ji15)) (ji20))) (wrap64 (x4_1 + 1))) = some r := by first | (rw [hji20] at H; exact H) | (simp only [hji20] at H ⊢; exact H)
            (try rw [hji20] at A7)
            have hji20_ : (IntKind.u8.wrap (1 * 2 ^ min (ji18).toNat 8)) = ji20 := hji20
            have hji20z : (ji18) ≤ 8 → (IntKind.u8.wrap (1 * 2 ^ (ji18).toNat)) = ji20 := shl_small hji20
            have hji20u : (IntKind.u8.wrap (2 ^ min (ji18).toNat 8)) = ji20 := by have h_ := hji20_; rw [Int.one_mul] at h_; exact h_
            have hji20v : (ji18) ≤ 8 → (IntKind.u8.wrap (2 ^ (ji18).toNat)) = ji20 := fun hle_ => by have h_ := hji20z hle_; rw [Int.one_mul] at h_; exact h_
            obtain ⟨y202, hy202⟩ : ∃ y_ : List Int, y_ = (y200.set ((ji15) : Int).toNat (Go.bits .or .u8 (rd y200 (ji15)) (ji20))) := ⟨_, rfl⟩
            replace H : (spec_Filter.l0 k1 l0 y202 (wrap64 (x4_1 + 1))) = some r := by first | (rw [hy202]; with_reducible exact H) | (have H2_ := (Option.bind_some _ _).symm.trans H; rw [hy202]; with_reducible exact H2_) | (have H2_ := (Option.bind_some _ _).symm.trans H; with_reducible exact H2_) | with_reducible exact H | (rw [hy202]; exact H) | exact H
            have Ny202 := mS hy202
            clear hy202
            have H' := mS H
            clear H
            have p196 : 0 ≤ (x4_1 : Int) := of_decide_eq_true (by first | (with_reducible assumption) | assumption)
            have q196 : x4_1 < (l0.length : Int) := of_decide_eq_true (by first | (with_reducible assumption) | assumption)
            obtain ⟨ad196, e196, hx196_0⟩ := Kd.at_string HR0.out x4_1 p196 q196
            cases e196
            replace hx196_0 := (HB.out.cell (World.block_lt_of_cell? w _ hx196_0)).trans hx196_0
            replace p196 := eq_true p196
            replace q196 := eq_true q196
            go_wp2_with (first | ((with_reducible refine gate_callee (f := 156) rfl ?_); refine goesL_ (some 19) rfl rfl Try.func156 (by kernel_rfl) rfl #[.string (rdOf ByteArray.empty l0 x4_1)] rfl mA ?_; (with_reducible refine (spec_Mark.calls k1 (rdOf ByteArray.empty l0 x4_1) t197 t198 _ A7.out).mono ?_); rintro e w22 ⟨rfl, hb⟩; refine ⟨_, rfl, ?_⟩; replace HO_3 := mS (Kd.R_below (mR HO_3.out) hb); replace HB := mS (below_step (mH HB.out) hb); (try clear hb); (try clear hb2); (try clear hk); (try clear hi); obtain ⟨Ao23, co23, eo23⟩ := Kd.R_slice HO_3.out; subst eo23; have p199 : 0 ≤ ((ji8) : Int) := of_decide_eq_true (by first | (with_reducible assumption) | assumption); have q199 : (ji8) < (x3_1.length : Int) := of_decide_eq_true (by first | (with_reducible assumption) | assumption); obtain ⟨ad199, e199, hx199_0⟩ := Kd.at_int (Kd.R_reads' HO_3.out).2.2 (ji8) p199 q199; cases e199; replace p199 := eq_true p199; replace q199 := eq_true q199; have p14 : 0 ≤ ((ji8) : Int) := of_decide_eq_true (by first | (with_reducible assumption) | assumption); have q14 : ((ji8) : Int) < ((x3_1.length : Int) : Int) := of_decide_eq_true (by first | (with_reducible assumption) | assumption); obtain ⟨go14, co14, eo14, gb14, gl14, cl14, HG14⟩ := Kd.R_form HO_3.out (by omega); (first | cases eo14 | (injection eo14 with ea_ en_ ec_; (first | subst ea_ | (injection ea_ with ea_; subst ea_)); subst ec_; clear en_)); have GB14 := mS gb14; have GG14 := mS HG14; clear gb14 gl14 HG14; (first | simp only [add_plain] at hx199_0 | skip); obtain ⟨hx14_0, hf14_0⟩ := Kd.R_celln 0 HO_3.out ((ji8) : Int) p14 q14; replace p14 := eq_true p14; replace q14 := eq_true q14; obtain ⟨hy24_, hz24_⟩ := Kd.R_celln 0 HO_3.out ((ji8) : Int) (of_decide_eq_true (by first | (with_reducible assumption) | assumption)) (of_decide_eq_true (by first | (with_reducible assumption) | assumption)); have HP24 := Kd.R_putg HO_3.out ((ji8) : Int) (Go.bits .or .u8 (rd x3_1 (ji8)) (ji13))) | ((with_reducible refine gate_store (t := 5) (p := 32) rfl ?_); refine store_event (t := 5) (p := 32) (v := ?vo_w25) (w1 := (w22.setCell ⟨go14, ((ji8) : Int).toNat, none⟩ (.int .u8 (Go.bits .or .u8 (rd x3_1 (ji8)) (ji13))))) ?hg ?ho ?hn ?hr ?_; (case ho => rfl); (case hg => rfl); (case hn => rfl); (case hr => first | (go_simp; done) | (go_simp; rfl)); intro w25 hw; have hg : w22.grownBy w25 (some go14) := (by rw [hw]; exact HP24.2); have hp_ : Kd.R (Kd.int .u8) 5 w25 w.heap.size (fun _ => True) (.slice (some ⟨go14, 0, none⟩) x3_1.length co23) y200 := (by rw [hw, Ny200.out]; exact HP24.1); clear HP24; replace HO_3 := mS (hp_); replace HB := mS ((by rw [hw]; exact below_set (HB.out) GB14.out : Below w.heap.size w w25)); clear hg hw hp_; have p201 : 0 ≤ ((ji15) : Int) := of_decide_eq_true (by first | (with_reducible assumption) | assumption); have q201 : (ji15) < (y200.length : Int) := (by have h_ : ((ji15) : Int) < ((x3_1.length : Int) : Int) := of_decide_eq_true (by first | (with_reducible assumption) | assumption); first | (have e_ := (Kd.R_reads' HO_3.out).1; omega) | simpa only [Ny200.out, List.length_set] using h_); have ql201 : (((ji15) : Int) < ((x3_1.length : Int) : Int)) = True := eq_true (of_decide_eq_true (by first | (with_reducible assumption) | assumption)); obtain ⟨ad201, e201, hx201_0⟩ := Kd.at_int (Kd.R_reads' HO_3.out).2.2 (ji15) p201 q201; obtain rfl : (⟨go14, 0, none⟩ : Addr) = ad201 := (by injection e201); (first | simp only [add_plain] at hx201_0 | simp only [add_at] at hx201_0 | simp only [Addr.add, Nat.zero_add] at hx201_0 | skip); replace p201 := eq_true p201; replace q201 := eq_true q201; have p21 : 0 ≤ ((ji15) : Int) := of_decide_eq_true (by first | (with_reducible assumption) | assumption); have q21 : ((ji15) : Int) < ((x3_1.length : Int) : Int) := of_decide_eq_true (by first | (with_reducible assumption) | assumption); obtain ⟨hx21_0, hf21_0⟩ := Kd.R_celln 0 HO_3.out ((ji15) : Int) p21 q21; replace p21 := eq_true p21; replace q21 := eq_true q21; obtain ⟨hy26_, hz26_⟩ := Kd.R_celln 0 HO_3.out ((ji15) : Int) (of_decide_eq_true (by first | (with_reducible assumption) | assumption)) (of_decide_eq_true (by first | (with_reducible assumption) | assumption)); have HP26 := Kd.R_putg HO_3.out ((ji15) : Int) (Go.bits .or .u8 (rd y200 (ji15)) (ji20))) | ((with_reducible refine gate_store (t := 5) (p := 43) rfl ?_); refine store_event (t := 5) (p := 43) (v := ?vo_w27) (w1 := (w25.setCell ⟨go14, ((ji15) : Int).toNat, none⟩ (.int .u8 (Go.bits .or .u8 (rd y200 (ji15)) (ji20))))) ?hg ?ho ?hn ?hr ?_; (case ho => rfl); (case hg => rfl); (case hn => rfl); (case hr => first | (go_simp; done) | (go_simp; rfl)); intro w27 hw; have hg : w25.grownBy w27 (some go14) := (by rw [hw]; exact HP26.2); have hp_ : Kd.R (Kd.int .u8) 5 w27 w.heap.size (fun _ => True) (.slice (some ⟨go14, 0, none⟩) x3_1.length co23) y202 := (by rw [hw, Ny202.out]; exact HP26.1); clear HP26; replace HO_3 := mS (hp_); replace HB := mS ((by rw [hw]; exact below_set (HB.out) GB14.out : Below w.heap.size w w27)); clear hg hw hp_))
            go_roundg k1
            case measure => have := HK1.out; omega
            case rel => exact ⟨(y202), (wrap64 (x4_1 + 1)), (by first | rfl | (simp; done) | (simp [*]; done)), H', ⟨by have := HK1.out; omega⟩, ⟨by (with_reducible repeat (first | apply Kd.R_alloc | apply Kd.R_drewN | apply Kd.R_drew)); exact HO_3.out⟩, ⟨(mH HB.out)⟩⟩
           ·rw [if_neg c19] at H
            exact absurd H (by simp)
          ·rw [if_neg c17] at H
           exact absurd H (by simp)
         ·rw [if_neg c16] at H
          exact absurd H (by simp)
        ·rw [if_neg c12] at H
         exact absurd H (by simp)
       ·rw [if_neg c10] at H
        exact absurd H (by simp)
      ·rw [if_neg c9] at H
       exact absurd H (by simp)
     ·rw [if_neg c6] at H
      exact absurd H (by simp)
    ·rw [if_neg c5] at H
     have c5b0 : decide (x4_1 < (l0.length : Int)) = false := decide_eq_false c5
     clear c5
     obtain rfl := Option.some.inj H
     go_wp2
     go_ret
     exact ⟨_, by first | rfl | (simp [errW_none, errW_some] <;> rfl) | (simp [*, errW_none, errW_some] <;> rfl), by (with_reducible repeat (first | apply Kd.R_alloc | apply Kd.R_drewN | apply Kd.R_drew)); exact HO_3.out, (mH HB.out)⟩
 ·rw [if_neg c2] at H
  exact absurd H (by simp)

/-! ### spec_PutTable: function 67 -/
mutual
def spec_PutTable.j0 : Nat → List (S33) → List Int → Bool → Option (List Int)
 | 0, _, _, _ => none
 | k + 1, x0, x3, x20 => if x20 = true then (some x3) else (spec_PutTable.l0 k x0 x3 (([] : List ByteArray)) (([] : List Int)) 0 0)
def spec_PutTable.l0 : Nat → List (S33) → List Int → List ByteArray → List Int → Int → Int → Option (List Int)
 | 0, _, _, _, _, _, _ => none
 | k + 1, x0, x3, x4, x5, x6, x7 => if x7 < (x0.length : Int) then (if (wrap64 (x7 + 4)) > (x0.length : Int) then (if 0 ≤ (wrap64 ((x0.length : Int) - 1)) then (if (wrap64 ((x0.length : Int) - 1)) < (x0.length : Int) then ((spec_PutText.f k x5 ((rd_T33 x0 (wrap64 ((x0.length : Int) - 1))).f0)).bind fun t215 => ((spec_PutNum.f k t215 (x3.length : Int)).bind fun t218 => (if 0 ≤ x7 then (if x7 ≤ (x0.length : Int) then (if (x0.length : Int) ≤ (x0.length : Int) then ((spec_l5Block.f k ((x0.take ((x0.length : Int) : Int).toNat).drop (x7 : Int).toNat)).bind fun t225 => (if x3.length + t225.length < 140737488355328 then (spec_PutTable.l0 k x0 (x3 ++ t225) x4 t218 (wrap64 (x6 + 1)) (wrap64 (x7 + 4))) else (none))) else (none)) else (none)) else (none)))) else (none)) else (none)) else (if 0 ≤ (wrap64 ((wrap64 (x7 + 4)) - 1)) then (if (wrap64 ((wrap64 (x7 + 4)) - 1)) < (x0.length : Int) then ((spec_PutText.f k x5 ((rd_T33 x0 (wrap64 ((wrap64 (x7 + 4)) - 1))).f0)).bind fun t232 => ((spec_PutNum.f k t232 (x3.length : Int)).bind fun t235 => (if 0 ≤ x7 then (if x7 ≤ (wrap64 (x7 + 4)) then (if (wrap64 (x7 + 4)) ≤ (x0.length : Int) then ((spec_l5Block.f k ((x0.take ((wrap64 (x7 + 4)) : Int).toNat).drop (x7 : Int).toNat)).bind fun t242 => (if x3.length + t242.length < 140737488355328 then (spec_PutTable.l0 k x0 (x3 ++ t242) x4 t235 (wrap64 (x6 + 1)) (wrap64 (x7 + 4))) else (none))) else (none)) else (none)) else (none)))) else (none)) else (none))) else (spec_PutTable.l1 k x0 x3 x4 x5 x6 0)
def spec_PutTable.l1 : Nat → List (S33) → List Int → List ByteArray → List Int → Int → Int → Option (List Int)
 | 0, _, _, _, _, _, _ => none
 | k + 1, x0, x3, x4, x5, x6, x9 => if x9 < (x0.length : Int) then (if 0 ≤ x9 then (if x4.length < 8796093022208 then (spec_PutTable.l1 k x0 x3 (x4 ++ [(rd_T33 x0 x9).f0]) x5 x6 (wrap64 (x9 + 1))) else (none)) else (none)) else ((spec_PutNum.f k (([] : List Int)) x6).bind fun t255 => (if t255.length + x5.length < 140737488355328 then ((some (t255 ++ x5 : List Int)).bind fun y258 => ((spec_Filter.f k x4).bind fun t261 => (if y258.length + t261.length < 140737488355328 then ((spec_Frame.f k (y258 ++ t261)).bind fun t267 => (if x3.length + t267.length < 140737488355328 then ((some (x3 ++ t267 : List Int)).bind fun y270 => ((spec_l1Four.f (x3.length : Int)).bind fun t273 => (if y270.length + t273.length < 140737488355328 then (some (y270 ++ t273)) else (none)))) else (none))) else (none)))) else (none)))
end
def spec_PutTable.f (k : Nat) (l0 : List (S33)) : Option (List Int) := (some (([] : List Int) : List Int)).bind fun y203 => ((spec_l4Rising.f k l0).bind fun t206 => (if t206 = true then ((spec_l1In.f (l0.length : Int) 1 200).bind fun t207 => (spec_PutTable.j0 k l0 y203 (!t207))) else (spec_PutTable.j0 k l0 y203 true)))
theorem spec_PutTable.mono_l : ∀ k, (∀ y0 y1 y2, LeO (spec_PutTable.j0 k y0 y1 y2) (spec_PutTable.j0 (k + 1) y0 y1 y2)) ∧ (∀ y0 y1 y2 y3 y4 y5, LeO (spec_PutTable.l0 k y0 y1 y2 y3 y4 y5) (spec_PutTable.l0 (k + 1) y0 y1 y2 y3 y4 y5)) ∧ (∀ y0 y1 y2 y3 y4 y5, LeO (spec_PutTable.l1 k y0 y1 y2 y3 y4 y5) (spec_PutTable.l1 (k + 1) y0 y1 y2 y3 y4 y5))
 | 0 => ⟨fun _ _ _ r h => by simp [spec_PutTable.j0] at h, fun _ _ _ _ _ _ r h => by simp [spec_PutTable.l0] at h, fun _ _ _ _ _ _ r h => by simp [spec_PutTable.l1] at h⟩
 | k + 1 => by
  obtain ⟨ih0, ih1, ih2⟩ := spec_PutTable.mono_l k
  refine ⟨?_, ?_, ?_⟩
  ·intro y0 y1 y2
   unfold spec_PutTable.j0
   repeat' first
   | (with_reducible exact ih0 _ _ _)
   | (with_reducible exact ih1 _ _ _ _ _ _)
   | (with_reducible exact ih2 _ _ _ _ _ _)
   | (with_reducible exact spec_Filter.mono _ _)
   | (with_reducible exact spec_Frame.mono _ _)
   | (with_reducible exact spec_PutNum.mono _ _ _)
   | (with_reducible exact spec_PutText.mono _ _ _)
   | (with_reducible exact spec_l4Rising.mono _ _)
   | (with_reducible exact spec_l5Block.mono _ _)
   | (with_reducible exact LeO.refl _)
   | (with_reducible exact LeO.none _)
   | (with_reducible refine LeO.ite ?_ ?_)
   | (with_reducible refine LeO.bind ?_ (fun _ => ?_))
   | exact ih0 _ _ _
   | exact ih1 _ _ _ _ _ _
   | exact ih2 _ _ _ _ _ _
   | exact spec_Filter.mono _ _
   | exact spec_Frame.mono _ _
   | exact spec_PutNum.mono _ _ _
   | exact spec_PutText.mono _ _ _
   | exact spec_l4Rising.mono _ _
   | exact spec_l5Block.mono _ _
   | exact LeO.none _
   | refine LeO.ite ?_ ?_
   | refine LeO.bind ?_ (fun _ => ?_)
  ·intro y0 y1 y2 y3 y4 y5
   unfold spec_PutTable.l0
   repeat' first
   | (with_reducible exact ih0 _ _ _)
   | (with_reducible exact ih1 _ _ _ _ _ _)
   | (with_reducible exact ih2 _ _ _ _ _ _)
   | (with_reducible exact spec_Filter.mono _ _)
   | (with_reducible exact spec_Frame.mono _ _)
   | (with_reducible exact spec_PutNum.mono _ _ _)
   | (with_reducible exact spec_PutText.mono _ _ _)
   | (with_reducible exact spec_l4Rising.mono _ _)
   | (with_reducible exact spec_l5Block.mono _ _)
   | (with_reducible exact LeO.refl _)
   | (with_reducible exact LeO.none _)
   | (with_reducible refine LeO.ite ?_ ?_)
   | (with_reducible refine LeO.bind ?_ (fun _ => ?_))
   | exact ih0 _ _ _
   | exact ih1 _ _ _ _ _ _
   | exact ih2 _ _ _ _ _ _
   | exact spec_Filter.mono _ _
   | exact spec_Frame.mono _ _
   | exact spec_PutNum.mono _ _ _
   | exact spec_PutText.mono _ _ _
   | exact spec_l4Rising.mono _ _
   | exact spec_l5Block.mono _ _
   | exact LeO.none _
   | refine LeO.ite ?_ ?_
   | refine LeO.bind ?_ (fun _ => ?_)
  ·intro y0 y1 y2 y3 y4 y5
   unfold spec_PutTable.l1
   repeat' first
   | (with_reducible exact ih0 _ _ _)
   | (with_reducible exact ih1 _ _ _ _ _ _)
   | (with_reducible exact ih2 _ _ _ _ _ _)
   | (with_reducible exact spec_Filter.mono _ _)
   | (with_reducible exact spec_Frame.mono _ _)
   | (with_reducible exact spec_PutNum.mono _ _ _)
   | (with_reducible exact spec_PutText.mono _ _ _)
   | (with_reducible exact spec_l4Rising.mono _ _)
   | (with_reducible exact spec_l5Block.mono _ _)
   | (with_reducible exact LeO.refl _)
   | (with_reducible exact LeO.none _)
   | (with_reducible refine LeO.ite ?_ ?_)
   | (with_reducible refine LeO.bind ?_ (fun _ => ?_))
   | exact ih0 _ _ _
   | exact ih1 _ _ _ _ _ _
   | exact ih2 _ _ _ _ _ _
   | exact spec_Filter.mono _ _
   | exact spec_Frame.mono _ _
   | exact spec_PutNum.mono _ _ _
   | exact spec_PutText.mono _ _ _
   | exact spec_l4Rising.mono _ _
   | exact spec_l5Block.mono _ _
   | exact LeO.none _
   | refine LeO.ite ?_ ?_
   | refine LeO.bind ?_ (fun _ => ?_)
theorem spec_PutTable.mono : ∀ a0 k, LeO (spec_PutTable.f k a0) (spec_PutTable.f (k + 1) a0) := by
 intro a0 k
 obtain ⟨ih0, ih1, ih2⟩ := spec_PutTable.mono_l k
 unfold spec_PutTable.f
 repeat' first
   | (with_reducible exact ih0 _ _ _)
   | (with_reducible exact ih1 _ _ _ _ _ _)
   | (with_reducible exact ih2 _ _ _ _ _ _)
   | (with_reducible exact spec_Filter.mono _ _)
   | (with_reducible exact spec_Frame.mono _ _)
   | (with_reducible exact spec_PutNum.mono _ _ _)
   | (with_reducible exact spec_PutText.mono _ _ _)
   | (with_reducible exact spec_l4Rising.mono _ _)
   | (with_reducible exact spec_l5Block.mono _ _)
   | (with_reducible exact LeO.refl _)
   | (with_reducible exact LeO.none _)
   | (with_reducible refine LeO.ite ?_ ?_)
   | (with_reducible refine LeO.bind ?_ (fun _ => ?_))
   | exact ih0 _ _ _
   | exact ih1 _ _ _ _ _ _
   | exact ih2 _ _ _ _ _ _
   | exact spec_Filter.mono _ _
   | exact spec_Frame.mono _ _
   | exact spec_PutNum.mono _ _ _
   | exact spec_PutText.mono _ _ _
   | exact spec_l4Rising.mono _ _
   | exact spec_l5Block.mono _ _
   | exact LeO.none _
   | refine LeO.ite ?_ ?_
   | refine LeO.bind ?_ (fun _ => ?_)
set_option maxHeartbeats 8000000 in
set_option maxRecDepth 100000 in
theorem spec_PutTable.calls (k : Nat) (A0 : Option Addr) (c0 : Nat) (l0 : List (S33)) (r : List Int) (w : World) (hr0 : Kd.C k33 w A0 l0.length l0) (hc0 : l0.length ≤ c0) (h : spec_PutTable.f k l0 = some r) :
  Calls Try.prog 67 #[.slice A0 l0.length c0] w fun e w' => ∃ v0_ : Value, e = .returned (v0_) ∧ Kd.R (Kd.int .u8) 5 w' w.heap.size (fun _ => True) v0_ r ∧ Below w.heap.size w w' := by
 have HR0 := mS hr0
 have HC0 := mS hc0
 clear hr0 hc0
 have HB := mS (Below.refl w.heap.size w)
 have H : ((some (([] : List Int) : List Int)).bind fun y203 => ((spec_l4Rising.f k l0).bind fun t206 => (if t206 = true then ((spec_l1In.f (l0.length : Int) 1 200).bind fun t207 => (spec_PutTable.j0 k l0 y203 (!t207))) else (spec_PutTable.j0 k l0 y203 true)))) = some r := h
 clear h
 obtain ⟨y203, hy203⟩ : ∃ y_ : List Int, y_ = (([] : List Int)) := ⟨_, rfl⟩
 replace H : ((spec_l4Rising.f k l0).bind fun t206 => (if t206 = true then ((spec_l1In.f (l0.length : Int) 1 200).bind fun t207 => (spec_PutTable.j0 k l0 y203 (!t207))) else (spec_PutTable.j0 k l0 y203 true))) = some r := by first | (rw [hy203]; with_reducible exact H) | (have H2_ := (Option.bind_some _ _).symm.trans H; rw [hy203]; with_reducible exact H2_) | (have H2_ := (Option.bind_some _ _).symm.trans H; with_reducible exact H2_) | with_reducible exact H | (rw [hy203]; exact H) | exact H
 have Ny203 := mS hy203
 clear hy203
 have HC2 := mS H
 clear H
 go_enter Try.func67, Try.ntmps67
 go_upto_region 2 with (first | ((with_reducible refine gate_dst (N := 11) rfl ?_); (try (refine gate_guard (by rfl) ?_; dsimp only)); refine Kd.R_lit (Kd.int .u8) _ 5 ?hg (N := 11) ?hd (xs := ([] : List Int)) (inner := []) (ok := fun _ => True) (okp := fun _ => True) ?hr ?hp (fun _ hk => hk) trivial (Below.refl _ _) (Nat.le_refl _) (by simp) ?_; (case hd => rfl); (case hg => rfl); (case hr => first | (go_simp; done) | (go_simp; rfl)); (case hp => exact (Reps.none _ _)); intro v204 w3 ho4 hb hg_ hnew_; clear hg_ hnew_; (first | rw [← Ny203.out] at ho4 | (simp only [Int.reduceToNat] at ho4; rw [← Ny203.out] at ho4)); have HO205 := mS (Kd.R_lower ho4 (below_size (mH HB.out))); replace HB := mS (below_step (mH HB.out) hb); clear hb ho4))
 (try simp only [Act.put, List.setIfInBounds_toArray, List.set_cons_zero, List.set_cons_succ])
 go_cut [20] (fun v20 wc => ∃ (kq : Nat) (x20_1 : Bool), v20 = .bool x20_1 ∧ Aside0 (spec_PutTable.j0 kq l0 y203 x20_1 = some r) ∧ Aside0 (kq ≤ k) ∧ Aside0 (Kd.R (Kd.int .u8) 5 wc w.heap.size (fun _ => True) v204 y203) ∧ Aside0 (Below w.heap.size w wc))
 case first =>
  have H := HC2.out
  clear HC2
  replace H := Option.bind_eq_some_iff.mp H
  obtain ⟨t206, A50, H⟩ := H
  replace H : (if t206 = true then ((spec_l1In.f (l0.length : Int) 1 200).bind fun t207 => (spec_PutTable.j0 k l0 y203 (!t207))) else (spec_PutTable.j0 k l0 y203 true)) = some r := H
  have A5 := mS A50
  clear A50
  by_cases c6 : t206 = true
  ·subst c6
   have H1 : ((spec_l1In.f (l0.length : Int) 1 200).bind fun t207 => (spec_PutTable.j0 k l0 y203 (!t207))) = some r := by rw [if_pos rfl] at H; exact H
   clear H
   have H := H1
   clear H1
   replace H := Option.bind_eq_some_iff.mp H
   obtain ⟨t207, A70, H⟩ := H
   replace H : (spec_PutTable.j0 k l0 y203 (!t207)) = some r := H
   have A7 := mS A70
   clear A70
   have H' := mS H
   clear H
   go_wp2_with (first | ((with_reducible refine gate_callee (f := 107) rfl ?_); refine goesL_ (some 13) rfl rfl Try.func107 (by kernel_rfl) rfl #[.slice A0 l0.length c0] rfl mA ?_; (with_reducible refine (spec_l4Rising.calls k _ _ l0 true _ ?side1 ?side2 A5.out).mono ?_); (case side1 => repeat (first | exact (Kd.C_below HR0.out HB.out) | (with_reducible refine Kd.C_alloc ?_ _) | (with_reducible refine Kd.C_drewN ?_ _) | (with_reducible refine Kd.C_drew ?_))); (case side2 => exact HC0.out); rintro e w8 ⟨rfl, hb⟩; refine ⟨_, rfl, ?_⟩; replace HO205 := mS (Kd.R_below (mR HO205.out) hb); replace HB := mS (below_step (mH HB.out) hb); (try clear hb); (try clear hb2); (try clear hk); (try clear hi)) | (go_at_call 76; (with_reducible refine (spec_l1In.calls (l0.length : Int) 1 200 t207 _ A7.out).mono ?_); rintro e w' ⟨rfl, ⟨nd, rfl⟩⟩))
   go_meet
   case rel => exact ⟨_, (!t207), (by first | rfl | (simp; done) | (simp [*]; done)), H', ⟨by first | omega | exact Nat.le_refl _⟩, ⟨by (with_reducible repeat (first | apply Kd.R_alloc | apply Kd.R_drewN | apply Kd.R_drew)); exact HO205.out⟩, ⟨(mH HB.out)⟩⟩
  ·replace c6 := Bool.eq_false_iff.mpr c6
   subst c6
   have H1 : (spec_PutTable.j0 k l0 y203 true) = some r := by rw [if_neg (show ¬ (false = true) by decide)] at H; exact H
   clear H
   have H := H1
   clear H1
   have H' := mS H
   clear H
   go_wp2_with (first | ((with_reducible refine gate_callee (f := 107) rfl ?_); refine goesL_ (some 13) rfl rfl Try.func107 (by kernel_rfl) rfl #[.slice A0 l0.length c0] rfl mA ?_; (with_reducible refine (spec_l4Rising.calls k _ _ l0 false _ ?side1 ?side2 A5.out).mono ?_); (case side1 => repeat (first | exact (Kd.C_below HR0.out HB.out) | (with_reducible refine Kd.C_alloc ?_ _) | (with_reducible refine Kd.C_drewN ?_ _) | (with_reducible refine Kd.C_drew ?_))); (case side2 => exact HC0.out); rintro e w9 ⟨rfl, hb⟩; refine ⟨_, rfl, ?_⟩; replace HO205 := mS (Kd.R_below (mR HO205.out) hb); replace HB := mS (below_step (mH HB.out) hb); (try clear hb); (try clear hb2); (try clear hk); (try clear hi)))
   go_meet
   case rel => exact ⟨_, (true), (by first | rfl | (simp; done) | (simp [*]; done)), H', ⟨by first | omega | exact Nat.le_refl _⟩, ⟨by (with_reducible repeat (first | apply Kd.R_alloc | apply Kd.R_drewN | apply Kd.R_drew)); exact HO205.out⟩, ⟨(mH HB.out)⟩⟩
 case rest =>
  clear HC2
  try clear c1
  try clear p2
  try clear c6
  obtain ⟨kq, x20_1, rfl, HA, HJ1, HO_3, HB⟩ := hcut
  cases kq with
  | zero => exact absurd HA.out (by simp [spec_PutTable.j0])
  | succ kj1 =>
   have H := HA.out
   clear HA
   simp only [spec_PutTable.j0] at H
   by_cases c10 : x20_1 = true
   ·subst c10
    have H1 : (some y203) = some r := by rw [if_pos rfl] at H; exact H
    clear H
    have H := H1
    clear H1
    obtain rfl := Option.some.inj H
    go_wp2
    go_ret
    exact ⟨_, by first | rfl | (simp [errW_none, errW_some] <;> rfl) | (simp [*, errW_none, errW_some] <;> rfl), by (with_reducible repeat (first | apply Kd.R_alloc | apply Kd.R_drewN | apply Kd.R_drew)); exact HO_3.out, (mH HB.out)⟩
   ·replace c10 := Bool.eq_false_iff.mpr c10
    subst c10
    have H1 : (spec_PutTable.l0 kj1 l0 y203 (([] : List ByteArray)) (([] : List Int)) 0 0) = some r := by rw [if_neg (show ¬ (false = true) by decide)] at H; exact H
    clear H
    have H := H1
    clear H1
    obtain ⟨y208, hy208⟩ : ∃ y_ : List ByteArray, y_ = (([] : List ByteArray)) := ⟨_, rfl⟩
    replace H : (spec_PutTable.l0 kj1 l0 y203 y208 (([] : List Int)) 0 0) = some r := by first | (rw [hy208]; with_reducible exact H) | (have H2_ := (Option.bind_some _ _).symm.trans H; rw [hy208]; with_reducible exact H2_) | (have H2_ := (Option.bind_some _ _).symm.trans H; with_reducible exact H2_) | with_reducible exact H | (rw [hy208]; exact H) | exact H
    have Ny208 := mS hy208
    clear hy208
    obtain ⟨y211, hy211⟩ : ∃ y_ : List Int, y_ = (([] : List Int)) := ⟨_, rfl⟩
    replace H : (spec_PutTable.l0 kj1 l0 y203 y208 y211 0 0) = some r := by first | (rw [hy211]; with_reducible exact H) | (have H2_ := (Option.bind_some _ _).symm.trans H; rw [hy211]; with_reducible exact H2_) | (have H2_ := (Option.bind_some _ _).symm.trans H; with_reducible exact H2_) | with_reducible exact H | (rw [hy211]; exact H) | exact H
    have Ny211 := mS hy211
    clear hy211
    have H' := mS H
    clear H
    go_wp2_with (first | ((with_reducible refine gate_dst (N := 22) rfl ?_); (try (refine gate_guard (by rfl) ?_; dsimp only)); refine Kd.R_lit Kd.string _ 9 ?hg (N := 22) ?hd (xs := ([] : List ByteArray)) (inner := []) (ok := fun _ => True) (okp := fun _ => True) ?hr ?hp (fun _ hk => hk) trivial (Below.refl _ _) (Nat.le_refl _) (by simp) ?_; (case hd => rfl); (case hg => rfl); (case hr => first | (go_simp; done) | (go_simp; rfl)); (case hp => exact (Reps.none _ _)); intro v209 w11 ho12 hb hg_ hnew_; clear hg_ hnew_; (first | rw [← Ny208.out] at ho12 | (simp only [Int.reduceToNat] at ho12; rw [← Ny208.out] at ho12)); replace HO_3 := mS (Kd.R_below (mR HO_3.out) hb); have HO210 := mS (Kd.R_lower ho12 (below_size (mH HB.out))); replace HB := mS (below_step (mH HB.out) hb); clear hb ho12) | ((with_reducible refine gate_dst (N := 23) rfl ?_); (try (refine gate_guard (by rfl) ?_; dsimp only)); refine Kd.R_lit (Kd.int .u8) _ 5 ?hg (N := 23) ?hd (xs := ([] : List Int)) (inner := []) (ok := fun _ => True) (okp := fun _ => True) ?hr ?hp (fun _ hk => hk) trivial (Below.refl _ _) (Nat.le_refl _) (by simp) ?_; (case hd => rfl); (case hg => rfl); (case hr => first | (go_simp; done) | (go_simp; rfl)); (case hp => exact (Reps.none _ _)); intro v212 w13 ho14 hb hg_ hnew_; clear hg_ hnew_; (first | rw [← Ny211.out] at ho14 | (simp only [Int.reduceToNat] at ho14; rw [← Ny211.out] at ho14)); replace HO210 := mS (Kd.R_below (mR HO210.out) hb); have HO213 := mS (Kd.R_lower (Kd.R_new' ho14 (Kd.R_lt (mR HO_3.out))) (below_size (mH HB.out))); replace HO_3 := mS (Kd.R_elder' (mR HO_3.out) (Kd.R_base ho14) hb); replace HB := mS (below_step (mH HB.out) hb); clear hb ho14))
    go_loopg [3, 5, 6, 7] kj1 (fun kq v3 v5 v6 v7 w' => ∃ (x3_2 : List Int) (x5_2 : List Int) (x6_2 : Int) (x7_2 : Int), v6 = .int .i64 x6_2 ∧ v7 = .int .i64 x7_2 ∧ Aside0 (spec_PutTable.l0 kq l0 x3_2 y208 x5_2 x6_2 x7_2 = some r) ∧ Aside0 (kq ≤ kj1) ∧ Aside0 (Kd.R (Kd.int .u8) 5 w' w.heap.size (fun k_ => some k_ ≠ (v5 : Value).ownBlock) v3 x3_2) ∧ Aside0 (Kd.R Kd.string 9 w' w.heap.size (fun _ => True) v209 y208) ∧ Aside0 (Kd.R (Kd.int .u8) 5 w' w.heap.size (fun k_ => some k_ ≠ (v3 : Value).ownBlock) v5 x5_2) ∧ Aside0 (Below w.heap.size w w'))
    case atStart => exact ⟨(y203), (y211), (0), (0), (by first | rfl | (simp; done) | (simp [*]; done)), (by first | rfl | (simp; done) | (simp [*]; done)), H', ⟨Nat.le_refl _⟩, ⟨by (with_reducible repeat (first | apply Kd.R_alloc | apply Kd.R_drewN | apply Kd.R_drew)); exact Kd.R_mono HO_3.out (fun _ hk => hk.2)⟩, ⟨by (with_reducible repeat (first | apply Kd.R_alloc | apply Kd.R_drewN | apply Kd.R_drew)); exact HO210.out⟩, ⟨by (with_reducible repeat (first | apply Kd.R_alloc | apply Kd.R_drewN | apply Kd.R_drew)); exact Kd.R_mono HO213.out (fun _ hk => hk.2)⟩, ⟨(mH HB.out)⟩⟩
    case round =>
     clear H'
     try clear c1
     try clear p2
     try clear c6
     try clear c10
     try clear p2
     obtain ⟨x3_2, x5_2, x6_2, x7_2, rfl, rfl, HA, HK2, HO_3, HO_4, HO_5, HB⟩ := hrel
     cases gk with
     | zero => exact absurd HA.out (by simp [spec_PutTable.l0])
     | succ k2 =>
      have H := HA.out
      clear HA
      simp only [spec_PutTable.l0] at H
      by_cases c15 : x7_2 < (l0.length : Int)
      ·rw [if_pos c15] at H
       have c15b0 : decide (x7_2 < (l0.length : Int)) = true := decide_eq_true c15
       clear c15
       by_cases c16 : (wrap64 (x7_2 + 4)) > (l0.length : Int)
       ·rw [if_pos c16] at H
        have c16b0 : decide ((l0.length : Int) < (wrap64 (x7_2 + 4))) = true := decide_eq_true c16
        clear c16
        obtain ⟨ji17, hji17⟩ : ∃ j_ : Int, (wrap64 ((l0.length : Int) - 1)) = j_ := ⟨_, rfl⟩
        replace H : (if 0 ≤ (ji17) then (if (ji17) < (l0.length : Int) then ((spec_PutText.f k2 x5_2 ((rd_T33 l0 (ji17)).f0)).bind fun t215 => ((spec_PutNum.f k2 t215 (x3_2.length : Int)).bind fun t218 => (if 0 ≤ x7_2 then (if x7_2 ≤ (l0.length : Int) then (if (l0.length : Int) ≤ (l0.length : Int) then ((spec_l5Block.f k2 ((l0.take ((l0.length : Int) : Int).toNat).drop (x7_2 : Int).toNat)).bind fun t225 => (if x3_2.length + t225.length < 140737488355328 then (spec_PutTable.l0 k2 l0 (x3_2 ++ t225) y208 t218 (wrap64 (x6_2 + 1)) (wrap64 (x7_2 + 4))) else (none))) else (none)) else (none)) else (none)))) else (none)) else (none)) = some r := by first | (rw [hji17] at H; exact H) | (simp only [hji17] at H ⊢; exact H)
        have hji17w : (IntKind.i64.wrap ((l0.length : Int) - 1)) = ji17 := (i64_w _).trans hji17
        by_cases c18 : 0 ≤ (ji17)
        ·rw [if_pos c18] at H
         have c18b0 : decide (0 ≤ (ji17)) = true := decide_eq_true c18
         clear c18
         by_cases c19 : (ji17) < (l0.length : Int)
         ·rw [if_pos c19] at H
          have c19b0 : decide ((ji17) < (l0.length : Int)) = true := decide_eq_true c19
          clear c19
          replace H := Option.bind_eq_some_iff.mp H
          obtain ⟨t215, A200, H⟩ := H
          replace H : ((spec_PutNum.f k2 t215 (x3_2.length : Int)).bind fun t218 => (if 0 ≤ x7_2 then (if x7_2 ≤ (l0.length : Int) then (if (l0.length : Int) ≤ (l0.length : Int) then ((spec_l5Block.f k2 ((l0.take ((l0.length : Int) : Int).toNat).drop (x7_2 : Int).toNat)).bind fun t225 => (if x3_2.length + t225.length < 140737488355328 then (spec_PutTable.l0 k2 l0 (x3_2 ++ t225) y208 t218 (wrap64 (x6_2 + 1)) (wrap64 (x7_2 + 4))) else (none))) else (none)) else (none)) else (none))) = some r := H
          have A20 := mS A200
          clear A200
          replace H := Option.bind_eq_some_iff.mp H
          obtain ⟨t218, A210, H⟩ := H
          replace H : (if 0 ≤ x7_2 then (if x7_2 ≤ (l0.length : Int) then (if (l0.length : Int) ≤ (l0.length : Int) then ((spec_l5Block.f k2 ((l0.take ((l0.length : Int) : Int).toNat).drop (x7_2 : Int).toNat)).bind fun t225 => (if x3_2.length + t225.length < 140737488355328 then (spec_PutTable.l0 k2 l0 (x3_2 ++ t225) y208 t218 (wrap64 (x6_2 + 1)) (wrap64 (x7_2 + 4))) else (none))) else (none)) else (none)) else (none)) = some r := H
          have A21 := mS A210
          clear A210
          by_cases c22 : 0 ≤ x7_2
          ·rw [if_pos c22] at H
           have c22b0 := eq_true c22
           have c22b1 : decide (0 ≤ x7_2) = true := decide_eq_true c22
           clear c22
           by_cases c23 : x7_2 ≤ (l0.length : Int)
           ·rw [if_pos c23] at H
            have c23b0 := eq_true c23
            have c23b1 : decide (x7_2 ≤ (l0.length : Int)) = true := decide_eq_true c23
            clear c23
            by_cases c24 : (l0.length : Int) ≤ (l0.length : Int)
            ·rw [if_pos c24] at H
             have c24b0 := eq_true c24
             have c24b1 : decide ((l0.length : Int) ≤ (l0.length : Int)) = true := decide_eq_true c24
             clear c24
             obtain ⟨y221, hy221⟩ : ∃ y_ : List (S33), y_ = ((l0.take ((l0.length : Int) : Int).toNat).drop (x7_2 : Int).toNat) := ⟨_, rfl⟩
             replace H : ((spec_l5Block.f k2 y221).bind fun t225 => (if x3_2.length + t225.length < 140737488355328 then (spec_PutTable.l0 k2 l0 (x3_2 ++ t225) y208 t218 (wrap64 (x6_2 + 1)) (wrap64 (x7_2 + 4))) else (none))) = some r := by first | (rw [hy221]; with_reducible exact H) | (have H2_ := (Option.bind_some _ _).symm.trans H; rw [hy221]; with_reducible exact H2_) | (have H2_ := (Option.bind_some _ _).symm.trans H; with_reducible exact H2_) | with_reducible exact H | (rw [hy221]; exact H) | exact H
             have Ny221 := mS hy221
             clear hy221
             replace H := Option.bind_eq_some_iff.mp H
             obtain ⟨t225, A250, H⟩ := H
             replace H : (if x3_2.length + t225.length < 140737488355328 then (spec_PutTable.l0 k2 l0 (x3_2 ++ t225) y208 t218 (wrap64 (x6_2 + 1)) (wrap64 (x7_2 + 4))) else (none)) = some r := H
             have A25 := mS A250
             clear A250
             by_cases c26 : x3_2.length + t225.length < 140737488355328
             ·rw [if_pos c26] at H
              have LMc26 := mS c26
              clear c26
              obtain ⟨y228, hy228⟩ : ∃ y_ : List Int, y_ = (x3_2 ++ t225) := ⟨_, rfl⟩
              replace H : (spec_PutTable.l0 k2 l0 y228 y208 t218 (wrap64 (x6_2 + 1)) (wrap64 (x7_2 + 4))) = some r := by first | (rw [hy228]; with_reducible exact H) | (have H2_ := (Option.bind_some _ _).symm.trans H; rw [hy228]; with_reducible exact H2_) | (have H2_ := (Option.bind_some _ _).symm.trans H; with_reducible exact H2_) | with_reducible exact H | (rw [hy228]; exact H) | exact H
              have Ny228 := mS hy228
              clear hy228
              have H' := mS H
              clear H
              have p214 : 0 ≤ ((ji17) : Int) := of_decide_eq_true (by first | (with_reducible assumption) | assumption)
              have q214 : (ji17) < (l0.length : Int) := of_decide_eq_true (by first | (with_reducible assumption) | assumption)
              obtain ⟨ad214, e214, hx214_0, hx214_1, hx214_2⟩ := at_T33 HR0.out (ji17) p214 q214
              cases e214
              replace hx214_0 := (HB.out.cell (World.block_lt_of_cell? w _ hx214_0)).trans hx214_0
              replace hx214_1 := (HB.out.cell (World.block_lt_of_cell? w _ hx214_1)).trans hx214_1
              replace hx214_2 := (HB.out.cell (World.block_lt_of_cell? w _ hx214_2)).trans hx214_2
              replace p214 := eq_true p214
              replace q214 := eq_true q214
              obtain ⟨Ao27, co27, eo27⟩ := Kd.R_slice HO_5.out
              subst eo27
              go_wp2_with (first | ((with_reducible refine gate_callee (f := 117) rfl ?_); refine goesL_ (some 45) rfl rfl Try.func117 (by kernel_rfl) rfl #[.slice Ao27 x5_2.length co27, .string ((rd_T33 l0 (ji17)).f0)] rfl (by (try simp only [List.map_toArray, List.map_cons, List.map_nil]); first | done | (simp only [hji17]; rfl) | rfl | (simp only [List.length_drop, List.length_take]; rfl)) ?_; (with_reducible refine (spec_PutText.calls k2 _ _ x5_2 ((rd_T33 l0 (ji17)).f0) t215 _ ?side1 ?side2 A20.out).mono ?_); (case side1 => repeat (first | exact (Kd.R_reads' HO_5.out).2.2 | (with_reducible refine Kd.C_alloc ?_ _) | (with_reducible refine Kd.C_drewN ?_ _) | (with_reducible refine Kd.C_drew ?_))); (case side2 => exact (Kd.R_reads' HO_5.out).2.1); rintro e w28 ⟨v216, rfl, ho0, hb⟩; refine ⟨_, rfl, ?_⟩; replace HO_4 := mS (Kd.R_below (mR HO_4.out) hb); have HO217 := mS (Kd.R_lower (Kd.R_new' (Kd.R_new' ho0 (Kd.R_lt (mR HO_3.out))) (Kd.R_lt (mR HO_5.out))) (below_size (mH HB.out))); replace HO_3 := mS (Kd.R_elder' (mR HO_3.out) (Kd.R_base ho0) hb); replace HO_5 := mS (Kd.R_elder' (mR HO_5.out) (Kd.R_base ho0) hb); replace HB := mS (below_step (mH HB.out) hb); (try clear hb); (try clear hb2); (try clear hk); (try clear hi); (try clear ho0); obtain ⟨Ao29, co29, eo29⟩ := Kd.R_slice HO_3.out; subst eo29; obtain ⟨Ao30, co30, eo30⟩ := Kd.R_slice HO217.out; subst eo30) | ((with_reducible refine gate_callee (f := 116) rfl ?_); refine goesL_ (some 48) rfl rfl Try.func116 (by kernel_rfl) rfl #[.slice Ao30 t215.length co30, .int .i64 (x3_2.length : Int)] rfl mA ?_; (with_reducible refine (spec_PutNum.calls k2 _ _ t215 (x3_2.length : Int) t218 _ ?side1 ?side2 A21.out).mono ?_); (case side1 => repeat (first | exact (Kd.R_reads' HO217.out).2.2 | (with_reducible refine Kd.C_alloc ?_ _) | (with_reducible refine Kd.C_drewN ?_ _) | (with_reducible refine Kd.C_drew ?_))); (case side2 => exact (Kd.R_reads' HO217.out).2.1); rintro e w31 ⟨v219, rfl, ho0, hb⟩; refine ⟨_, rfl, ?_⟩; replace HO_4 := mS (Kd.R_below (mR HO_4.out) hb); have HO220 := mS (Kd.R_lower (Kd.R_new' (Kd.R_new' (Kd.R_new' ho0 (Kd.R_lt (mR HO_3.out))) (Kd.R_lt (mR HO_5.out))) (Kd.R_lt (mR HO217.out))) (below_size (mH HB.out))); replace HO_3 := mS (Kd.R_elder' (mR HO_3.out) (Kd.R_base ho0) hb); replace HO_5 := mS (Kd.R_elder' (mR HO_5.out) (Kd.R_base ho0) hb); replace HO217 := mS (Kd.R_elder' (mR HO217.out) (Kd.R_base ho0) hb); replace HB := mS (below_step (mH HB.out) hb); (try clear hb); (try clear hb2); (try clear hk); (try clear hi); (try clear ho0); have q32 : ((l0.length : Int) : Int) ≤ ((l0.length : Int) : Int) := of_decide_eq_true (by first | (with_reducible assumption) | assumption); obtain ⟨i032, hi032, _, hsz32, _⟩ := info_parts info33; have hroom32 : l0.length ≤ c0 := HC0.out; have hC32 : Kd.C k33 _ (some ad214) l0.length l0 := HR0.out; have ql32 : (x7_2 : Int) ≤ ((l0.length : Int) : Int) := of_decide_eq_true (by first | (with_reducible assumption) | assumption); have q032 : (0 : Int) ≤ (x7_2 : Int) := of_decide_eq_true (by first | (with_reducible assumption) | assumption); have hcut32 := cut_mid (P := Try.prog) 90 33 .i64 .i64 Try.underlying90 hi032 3 hsz32 (some ad214) l0.length c0 x7_2 (l0.length : Int) q032 ql32 q32 hroom32; have hr32 := Kd.C_mid (lo := (x7_2 : Int).toNat) (hi := ((l0.length : Int) : Int).toNat) (c := c0) hC32 (by omega) (by omega) hroom32; obtain ⟨A32, hA32⟩ : ∃ A1, A1 = (if c0 = (x7_2 : Int).toNat then (some ad214) else ((some ad214) : Option Addr).map (·.add ((x7_2 : Int).toNat * 3))) := ⟨_, rfl⟩; obtain ⟨c32, hc32⟩ : ∃ c1, c1 = c0 - (x7_2 : Int).toNat := ⟨_, rfl⟩; have hy32 : y221.length = ((l0.length : Int) : Int).toNat - (x7_2 : Int).toNat := (by rw [Ny221.out, List.length_drop, List.length_take] <;> omega); rw [show ((l0).take ((l0.length : Int) : Int).toNat).drop (x7_2 : Int).toNat = y221 from Ny221.out.symm] at hr32; replace hr32 : Kd.C k33 _ A32 y221.length y221 := (by rw [hA32]; exact hr32); rw [← hy32, ← hA32, ← hc32] at hcut32; have HR224 := mS hr32; have HC224 := mS (show y221.length ≤ c32 from by rw [hy32, hc32]; exact Nat.sub_le_sub_right (Nat.le_trans (by omega) hroom32) _); clear hr32 hC32 hroom32 hi032 hsz32 hc32; have KY32 := mS hy32; have KA32 := mS hA32; clear hy32 hA32; replace q32 := eq_true q32) | ((with_reducible refine gate_callee (f := 118) rfl ?_); refine goesL_ (some 54) rfl rfl Try.func118 (by kernel_rfl) rfl #[.slice A32 y221.length c32] rfl mA ?_; (with_reducible refine (spec_l5Block.calls k2 _ _ y221 t225 _ ?side1 ?side2 A25.out).mono ?_); (case side1 => repeat (first | exact (Kd.C_below HR224.out HB.out) | (with_reducible refine Kd.C_alloc ?_ _) | (with_reducible refine Kd.C_drewN ?_ _) | (with_reducible refine Kd.C_drew ?_))); (case side2 => exact HC224.out); rintro e w33 ⟨v226, rfl, ho0, hb⟩; refine ⟨_, rfl, ?_⟩; replace HO_4 := mS (Kd.R_below (mR HO_4.out) hb); have HO227 := mS (Kd.R_lower (Kd.R_new' (Kd.R_new' (Kd.R_new' (Kd.R_new' ho0 (Kd.R_lt (mR HO_3.out))) (Kd.R_lt (mR HO_5.out))) (Kd.R_lt (mR HO217.out))) (Kd.R_lt (mR HO220.out))) (below_size (mH HB.out))); replace HO_3 := mS (Kd.R_elder' (mR HO_3.out) (Kd.R_base ho0) hb); replace HO_5 := mS (Kd.R_elder' (mR HO_5.out) (Kd.R_base ho0) hb); replace HO217 := mS (Kd.R_elder' (mR HO217.out) (Kd.R_base ho0) hb); replace HO220 := mS (Kd.R_elder' (mR HO220.out) (Kd.R_base ho0) hb); replace HB := mS (below_step (mH HB.out) hb); (try clear hb); (try clear hb2); (try clear hk); (try clear hi); (try clear ho0); obtain ⟨Ao35, co35, eo35⟩ := Kd.R_slice HO227.out; subst eo35) | ((with_reducible refine gate_builtin (b := .append) (xs := #[.tmp 49, .tmp 54]) rfl ?_); (try (refine gate_guard (by rfl) ?_; dsimp only)); at_builtin; refine Kd.R_append_rows (Kd.int .u8) (w0 := w) w.heap.size rfl (.tmp 49) (.tmp 54) 22 5 (.int .u8 0) 1 rfl Try.underlying22 info5 rfl (by decide) (by omega) (.slice Ao29 x3_2.length co29) x3_2 t225 _ _ _ (fun k_ => some k_ ≠ (.slice Ao27 x5_2.length co27 : Value).ownBlock ∧ some k_ ≠ (.slice Ao30 t215.length co30 : Value).ownBlock ∧ some k_ ≠ (v219 : Value).ownBlock ∧ some k_ ≠ (.slice Ao35 t225.length co35 : Value).ownBlock) (fun _ => False) rfl rfl ?aO ?aR (fun _ _ h => h) (fun _ h => h.elim) ?aF ?aB ?aS ?aL ?_; (case aR => repeat (first | exact (Kd.R_reads' HO227.out).2.2 | (with_reducible refine Kd.C_alloc ?_ _) | (with_reducible refine Kd.C_drewN ?_ _) | (with_reducible refine Kd.C_drew ?_))); (case aB => exact (mH HB.out)); (case aF => exact (fun k_ hk => ⟨Kd.fresh' (Kd.R_lt (mR HO_5.out)) k_ hk, Kd.fresh' (Kd.R_lt (mR HO217.out)) k_ hk, Kd.fresh' (Kd.R_lt (mR HO220.out)) k_ hk, Kd.fresh' (Kd.R_lt (mR HO227.out)) k_ hk⟩)); (case aO => exact (by (with_reducible repeat (first | apply Kd.R_alloc | apply Kd.R_drewN | apply Kd.R_drew)); exact Kd.R_mono HO_3.out (fun _ hk => ⟨hk.1.1.1, ⟨hk.1.1.2, ⟨hk.1.2, hk.2⟩⟩⟩))); (case aS => exact (below_size (mH HB.out))); (case aL => have := LMc26.out; omega); intro v229 w34 ho hb hg hat; rw [← Ny228.out] at ho; replace HO_4 := mS (Kd.R_over' (mR HO_4.out) (Kd.R_typed (mR HO_3.out)) (by decide) hg); replace HO_5 := mS (Kd.R_after (ok := (fun k_ => some k_ ≠ (.slice Ao30 t215.length co30 : Value).ownBlock ∧ some k_ ≠ (v219 : Value).ownBlock ∧ some k_ ≠ (.slice Ao35 t225.length co35 : Value).ownBlock)) (by (with_reducible repeat (first | apply Kd.R_alloc | apply Kd.R_drewN | apply Kd.R_drew)); exact Kd.R_mono HO_5.out (fun _ hk => ⟨⟨hk.1.1.2, ⟨hk.1.2, hk.2⟩⟩, hk.1.1.1⟩)) hg hat); replace HO217 := mS (Kd.R_after (ok := (fun k_ => some k_ ≠ (.slice Ao27 x5_2.length co27 : Value).ownBlock ∧ some k_ ≠ (v219 : Value).ownBlock ∧ some k_ ≠ (.slice Ao35 t225.length co35 : Value).ownBlock)) (by (with_reducible repeat (first | apply Kd.R_alloc | apply Kd.R_drewN | apply Kd.R_drew)); exact Kd.R_mono HO217.out (fun _ hk => ⟨⟨hk.1.1.2, ⟨hk.1.2, hk.2⟩⟩, hk.1.1.1.2⟩)) hg hat); replace HO220 := mS (Kd.R_after (ok := (fun k_ => some k_ ≠ (.slice Ao27 x5_2.length co27 : Value).ownBlock ∧ some k_ ≠ (.slice Ao30 t215.length co30 : Value).ownBlock ∧ some k_ ≠ (.slice Ao35 t225.length co35 : Value).ownBlock)) (by (with_reducible repeat (first | apply Kd.R_alloc | apply Kd.R_drewN | apply Kd.R_drew)); exact Kd.R_mono HO220.out (fun _ hk => ⟨⟨hk.1.1.2, ⟨hk.1.2, hk.2⟩⟩, hk.1.1.1.2⟩)) hg hat); replace HO227 := mS (Kd.R_after (ok := (fun k_ => some k_ ≠ (.slice Ao27 x5_2.length co27 : Value).ownBlock ∧ some k_ ≠ (.slice Ao30 t215.length co30 : Value).ownBlock ∧ some k_ ≠ (v219 : Value).ownBlock)) (by (with_reducible repeat (first | apply Kd.R_alloc | apply Kd.R_drewN | apply Kd.R_drew)); exact Kd.R_mono HO227.out (fun _ hk => ⟨⟨hk.1.1.2, ⟨hk.1.2, hk.2⟩⟩, hk.1.1.1.2⟩)) hg hat); replace HB := mS (hb); have HO230 := mS (ho); clear HO_3; clear ho hb hg hat))
              go_roundg k2
              case measure => have := HJ1.out; have := HK2.out; omega
              case rel => exact ⟨(y228), (t218), (wrap64 (x6_2 + 1)), (wrap64 (x7_2 + 4)), (by first | rfl | (simp; done) | (simp [*]; done)), (by first | rfl | (simp; done) | (simp [*]; done)), H', ⟨by have := HJ1.out; have := HK2.out; omega⟩, ⟨by (with_reducible repeat (first | apply Kd.R_alloc | apply Kd.R_drewN | apply Kd.R_drew)); exact Kd.R_mono HO230.out (fun _ hk => hk.2.2.1)⟩, ⟨by (with_reducible repeat (first | apply Kd.R_alloc | apply Kd.R_drewN | apply Kd.R_drew)); exact HO_4.out⟩, ⟨by (with_reducible repeat (first | apply Kd.R_alloc | apply Kd.R_drewN | apply Kd.R_drew)); exact Kd.R_mono HO220.out (fun _ hk => hk.2)⟩, ⟨(mH HB.out)⟩⟩
             ·rw [if_neg c26] at H
              exact absurd H (by simp)
            ·rw [if_neg c24] at H
             exact absurd H (by simp)
           ·rw [if_neg c23] at H
            exact absurd H (by simp)
          ·rw [if_neg c22] at H
           exact absurd H (by simp)
         ·rw [if_neg c19] at H
          exact absurd H (by simp)
        ·rw [if_neg c18] at H
         exact absurd H (by simp)
       ·rw [if_neg c16] at H
        have c16b0 : decide ((l0.length : Int) < (wrap64 (x7_2 + 4))) = false := decide_eq_false c16
        clear c16
        obtain ⟨ji36, hji36⟩ : ∃ j_ : Int, (wrap64 ((wrap64 (x7_2 + 4)) - 1)) = j_ := ⟨_, rfl⟩
        replace H : (if 0 ≤ (ji36) then (if (ji36) < (l0.length : Int) then ((spec_PutText.f k2 x5_2 ((rd_T33 l0 (ji36)).f0)).bind fun t232 => ((spec_PutNum.f k2 t232 (x3_2.length : Int)).bind fun t235 => (if 0 ≤ x7_2 then (if x7_2 ≤ (wrap64 (x7_2 + 4)) then (if (wrap64 (x7_2 + 4)) ≤ (l0.length : Int) then ((spec_l5Block.f k2 ((l0.take ((wrap64 (x7_2 + 4)) : Int).toNat).drop (x7_2 : Int).toNat)).bind fun t242 => (if x3_2.length + t242.length < 140737488355328 then (spec_PutTable.l0 k2 l0 (x3_2 ++ t242) y208 t235 (wrap64 (x6_2 + 1)) (wrap64 (x7_2 + 4))) else (none))) else (none)) else (none)) else (none)))) else (none)) else (none)) = some r := by first | (rw [hji36] at H; exact H) | (simp only [hji36] at H ⊢; exact H)
        have hji36w : (IntKind.i64.wrap ((wrap64 (x7_2 + 4)) - 1)) = ji36 := (i64_w _).trans hji36
        by_cases c37 : 0 ≤ (ji36)
        ·rw [if_pos c37] at H
         have c37b0 : decide (0 ≤ (ji36)) = true := decide_eq_true c37
         clear c37
         by_cases c38 : (ji36) < (l0.length : Int)
         ·rw [if_pos c38] at H
          have c38b0 : decide ((ji36) < (l0.length : Int)) = true := decide_eq_true c38
          clear c38
          replace H := Option.bind_eq_some_iff.mp H
          obtain ⟨t232, A390, H⟩ := H
          replace H : ((spec_PutNum.f k2 t232 (x3_2.length : Int)).bind fun t235 => (if 0 ≤ x7_2 then (if x7_2 ≤ (wrap64 (x7_2 + 4)) then (if (wrap64 (x7_2 + 4)) ≤ (l0.length : Int) then ((spec_l5Block.f k2 ((l0.take ((wrap64 (x7_2 + 4)) : Int).toNat).drop (x7_2 : Int).toNat)).bind fun t242 => (if x3_2.length + t242.length < 140737488355328 then (spec_PutTable.l0 k2 l0 (x3_2 ++ t242) y208 t235 (wrap64 (x6_2 + 1)) (wrap64 (x7_2 + 4))) else (none))) else (none)) else (none)) else (none))) = some r := H
          have A39 := mS A390
          clear A390
          replace H := Option.bind_eq_some_iff.mp H
          obtain ⟨t235, A400, H⟩ := H
          replace H : (if 0 ≤ x7_2 then (if x7_2 ≤ (wrap64 (x7_2 + 4)) then (if (wrap64 (x7_2 + 4)) ≤ (l0.length : Int) then ((spec_l5Block.f k2 ((l0.take ((wrap64 (x7_2 + 4)) : Int).toNat).drop (x7_2 : Int).toNat)).bind fun t242 => (if x3_2.length + t242.length < 140737488355328 then (spec_PutTable.l0 k2 l0 (x3_2 ++ t242) y208 t235 (wrap64 (x6_2 + 1)) (wrap64 (x7_2 + 4))) else (none))) else (none)) else (none)) else (none)) = some r := H
          have A40 := mS A400
          clear A400
          by_cases c41 : 0 ≤ x7_2
          ·rw [if_pos c41] at H
           have c41b0 := eq_true c41
           have c41b1 : decide (0 ≤ x7_2) = true := decide_eq_true c41
           clear c41
           by_cases c42 : x7_2 ≤ (wrap64 (x7_2 + 4))
           ·rw [if_pos c42] at H
            have c42b0 := eq_true c42
            have c42b1 : decide (x7_2 ≤ (wrap64 (x7_2 + 4))) = true := decide_eq_true c42
            by_cases c43 : (wrap64 (x7_2 + 4)) ≤ (l0.length : Int)
            ·rw [if_pos c43] at H
             have c43b0 := eq_true c43
             have c43b1 : decide ((wrap64 (x7_2 + 4)) ≤ (l0.length : Int)) = true := decide_eq_true c43
             obtain ⟨y238, hy238⟩ : ∃ y_ : List (S33), y_ = ((l0.take ((wrap64 (x7_2 + 4)) : Int).toNat).drop (x7_2 : Int).toNat) := ⟨_, rfl⟩
             replace H : ((spec_l5Block.f k2 y238).bind fun t242 => (if x3_2.length + t242.length < 140737488355328 then (spec_PutTable.l0 k2 l0 (x3_2 ++ t242) y208 t235 (wrap64 (x6_2 + 1)) (wrap64 (x7_2 + 4))) else (none))) = some r := by first | (rw [hy238]; with_reducible exact H) | (have H2_ := (Option.bind_some _ _).symm.trans H; rw [hy238]; with_reducible exact H2_) | (have H2_ := (Option.bind_some _ _).symm.trans H; with_reducible exact H2_) | with_reducible exact H | (rw [hy238]; exact H) | exact H
             have Ny238 := mS hy238
             clear hy238
             replace H := Option.bind_eq_some_iff.mp H
             obtain ⟨t242, A440, H⟩ := H
             replace H : (if x3_2.length + t242.length < 140737488355328 then (spec_PutTable.l0 k2 l0 (x3_2 ++ t242) y208 t235 (wrap64 (x6_2 + 1)) (wrap64 (x7_2 + 4))) else (none)) = some r := H
             have A44 := mS A440
             clear A440
             by_cases c45 : x3_2.length + t242.length < 140737488355328
             ·rw [if_pos c45] at H
              have LMc45 := mS c45
              clear c45
              obtain ⟨y245, hy245⟩ : ∃ y_ : List Int, y_ = (x3_2 ++ t242) := ⟨_, rfl⟩
              replace H : (spec_PutTable.l0 k2 l0 y245 y208 t235 (wrap64 (x6_2 + 1)) (wrap64 (x7_2 + 4))) = some r := by first | (rw [hy245]; with_reducible exact H) | (have H2_ := (Option.bind_some _ _).symm.trans H; rw [hy245]; with_reducible exact H2_) | (have H2_ := (Option.bind_some _ _).symm.trans H; with_reducible exact H2_) | with_reducible exact H | (rw [hy245]; exact H) | exact H
              have Ny245 := mS hy245
              clear hy245
              have H' := mS H
              clear H
              have p231 : 0 ≤ ((ji36) : Int) := of_decide_eq_true (by first | (with_reducible assumption) | assumption)
              have q231 : (ji36) < (l0.length : Int) := of_decide_eq_true (by first | (with_reducible assumption) | assumption)
              obtain ⟨ad231, e231, hx231_0, hx231_1, hx231_2⟩ := at_T33 HR0.out (ji36) p231 q231
              cases e231
              replace hx231_0 := (HB.out.cell (World.block_lt_of_cell? w _ hx231_0)).trans hx231_0
              replace hx231_1 := (HB.out.cell (World.block_lt_of_cell? w _ hx231_1)).trans hx231_1
              replace hx231_2 := (HB.out.cell (World.block_lt_of_cell? w _ hx231_2)).trans hx231_2
              replace p231 := eq_true p231
              replace q231 := eq_true q231
              obtain ⟨Ao46, co46, eo46⟩ := Kd.R_slice HO_5.out
              subst eo46
              go_wp2_with (first | ((with_reducible refine gate_callee (f := 117) rfl ?_); refine goesL_ (some 45) rfl rfl Try.func117 (by kernel_rfl) rfl #[.slice Ao46 x5_2.length co46, .string ((rd_T33 l0 (ji36)).f0)] rfl (by (try simp only [List.map_toArray, List.map_cons, List.map_nil]); first | done | (simp only [hji36]; rfl) | rfl | (simp only [List.length_drop, List.length_take]; rfl)) ?_; (with_reducible refine (spec_PutText.calls k2 _ _ x5_2 ((rd_T33 l0 (ji36)).f0) t232 _ ?side1 ?side2 A39.out).mono ?_); (case side1 => repeat (first | exact (Kd.R_reads' HO_5.out).2.2 | (with_reducible refine Kd.C_alloc ?_ _) | (with_reducible refine Kd.C_drewN ?_ _) | (with_reducible refine Kd.C_drew ?_))); (case side2 => exact (Kd.R_reads' HO_5.out).2.1); rintro e w47 ⟨v233, rfl, ho0, hb⟩; refine ⟨_, rfl, ?_⟩; replace HO_4 := mS (Kd.R_below (mR HO_4.out) hb); have HO234 := mS (Kd.R_lower (Kd.R_new' (Kd.R_new' ho0 (Kd.R_lt (mR HO_3.out))) (Kd.R_lt (mR HO_5.out))) (below_size (mH HB.out))); replace HO_3 := mS (Kd.R_elder' (mR HO_3.out) (Kd.R_base ho0) hb); replace HO_5 := mS (Kd.R_elder' (mR HO_5.out) (Kd.R_base ho0) hb); replace HB := mS (below_step (mH HB.out) hb); (try clear hb); (try clear hb2); (try clear hk); (try clear hi); (try clear ho0); obtain ⟨Ao48, co48, eo48⟩ := Kd.R_slice HO_3.out; subst eo48; obtain ⟨Ao49, co49, eo49⟩ := Kd.R_slice HO234.out; subst eo49) | ((with_reducible refine gate_callee (f := 116) rfl ?_); refine goesL_ (some 48) rfl rfl Try.func116 (by kernel_rfl) rfl #[.slice Ao49 t232.length co49, .int .i64 (x3_2.length : Int)] rfl mA ?_; (with_reducible refine (spec_PutNum.calls k2 _ _ t232 (x3_2.length : Int) t235 _ ?side1 ?side2 A40.out).mono ?_); (case side1 => repeat (first | exact (Kd.R_reads' HO234.out).2.2 | (with_reducible refine Kd.C_alloc ?_ _) | (with_reducible refine Kd.C_drewN ?_ _) | (with_reducible refine Kd.C_drew ?_))); (case side2 => exact (Kd.R_reads' HO234.out).2.1); rintro e w50 ⟨v236, rfl, ho0, hb⟩; refine ⟨_, rfl, ?_⟩; replace HO_4 := mS (Kd.R_below (mR HO_4.out) hb); have HO237 := mS (Kd.R_lower (Kd.R_new' (Kd.R_new' (Kd.R_new' ho0 (Kd.R_lt (mR HO_3.out))) (Kd.R_lt (mR HO_5.out))) (Kd.R_lt (mR HO234.out))) (below_size (mH HB.out))); replace HO_3 := mS (Kd.R_elder' (mR HO_3.out) (Kd.R_base ho0) hb); replace HO_5 := mS (Kd.R_elder' (mR HO_5.out) (Kd.R_base ho0) hb); replace HO234 := mS (Kd.R_elder' (mR HO234.out) (Kd.R_base ho0) hb); replace HB := mS (below_step (mH HB.out) hb); (try clear hb); (try clear hb2); (try clear hk); (try clear hi); (try clear ho0); have q51 : ((wrap64 (x7_2 + 4)) : Int) ≤ ((l0.length : Int) : Int) := of_decide_eq_true (by first | (with_reducible assumption) | assumption); obtain ⟨i051, hi051, _, hsz51, _⟩ := info_parts info33; have hroom51 : l0.length ≤ c0 := HC0.out; have hC51 : Kd.C k33 _ (some ad231) l0.length l0 := HR0.out; have ql51 : (x7_2 : Int) ≤ ((wrap64 (x7_2 + 4)) : Int) := of_decide_eq_true (by first | (with_reducible assumption) | assumption); have q051 : (0 : Int) ≤ (x7_2 : Int) := of_decide_eq_true (by first | (with_reducible assumption) | assumption); have hcut51 := cut_mid (P := Try.prog) 90 33 .i64 .i64 Try.underlying90 hi051 3 hsz51 (some ad231) l0.length c0 x7_2 (wrap64 (x7_2 + 4)) q051 ql51 q51 hroom51; have hr51 := Kd.C_mid (lo := (x7_2 : Int).toNat) (hi := ((wrap64 (x7_2 + 4)) : Int).toNat) (c := c0) hC51 (by omega) (by omega) hroom51; obtain ⟨A51, hA51⟩ : ∃ A1, A1 = (if c0 = (x7_2 : Int).toNat then (some ad231) else ((some ad231) : Option Addr).map (·.add ((x7_2 : Int).toNat * 3))) := ⟨_, rfl⟩; obtain ⟨c51, hc51⟩ : ∃ c1, c1 = c0 - (x7_2 : Int).toNat := ⟨_, rfl⟩; have hy51 : y238.length = ((wrap64 (x7_2 + 4)) : Int).toNat - (x7_2 : Int).toNat := (by rw [Ny238.out, List.length_drop, List.length_take] <;> omega); rw [show ((l0).take ((wrap64 (x7_2 + 4)) : Int).toNat).drop (x7_2 : Int).toNat = y238 from Ny238.out.symm] at hr51; replace hr51 : Kd.C k33 _ A51 y238.length y238 := (by rw [hA51]; exact hr51); rw [← hy51, ← hA51, ← hc51] at hcut51; have HR241 := mS hr51; have HC241 := mS (show y238.length ≤ c51 from by rw [hy51, hc51]; exact Nat.sub_le_sub_right (Nat.le_trans (by omega) hroom51) _); clear hr51 hC51 hroom51 hi051 hsz51 hc51; have KY51 := mS hy51; have KA51 := mS hA51; clear hy51 hA51; replace q51 := eq_true q51) | ((with_reducible refine gate_callee (f := 118) rfl ?_); refine goesL_ (some 54) rfl rfl Try.func118 (by kernel_rfl) rfl #[.slice A51 y238.length c51] rfl mA ?_; (with_reducible refine (spec_l5Block.calls k2 _ _ y238 t242 _ ?side1 ?side2 A44.out).mono ?_); (case side1 => repeat (first | exact (Kd.C_below HR241.out HB.out) | (with_reducible refine Kd.C_alloc ?_ _) | (with_reducible refine Kd.C_drewN ?_ _) | (with_reducible refine Kd.C_drew ?_))); (case side2 => exact HC241.out); rintro e w52 ⟨v243, rfl, ho0, hb⟩; refine ⟨_, rfl, ?_⟩; replace HO_4 := mS (Kd.R_below (mR HO_4.out) hb); have HO244 := mS (Kd.R_lower (Kd.R_new' (Kd.R_new' (Kd.R_new' (Kd.R_new' ho0 (Kd.R_lt (mR HO_3.out))) (Kd.R_lt (mR HO_5.out))) (Kd.R_lt (mR HO234.out))) (Kd.R_lt (mR HO237.out))) (below_size (mH HB.out))); replace HO_3 := mS (Kd.R_elder' (mR HO_3.out) (Kd.R_base ho0) hb); replace HO_5 := mS (Kd.R_elder' (mR HO_5.out) (Kd.R_base ho0) hb); replace HO234 := mS (Kd.R_elder' (mR HO234.out) (Kd.R_base ho0) hb); replace HO237 := mS (Kd.R_elder' (mR HO237.out) (Kd.R_base ho0) hb); replace HB := mS (below_step (mH HB.out) hb); (try clear hb); (try clear hb2); (try clear hk); (try clear hi); (try clear ho0); obtain ⟨Ao54, co54, eo54⟩ := Kd.R_slice HO244.out; subst eo54) | ((with_reducible refine gate_builtin (b := .append) (xs := #[.tmp 49, .tmp 54]) rfl ?_); (try (refine gate_guard (by rfl) ?_; dsimp only)); at_builtin; refine Kd.R_append_rows (Kd.int .u8) (w0 := w) w.heap.size rfl (.tmp 49) (.tmp 54) 22 5 (.int .u8 0) 1 rfl Try.underlying22 info5 rfl (by decide) (by omega) (.slice Ao48 x3_2.length co48) x3_2 t242 _ _ _ (fun k_ => some k_ ≠ (.slice Ao46 x5_2.length co46 : Value).ownBlock ∧ some k_ ≠ (.slice Ao49 t232.length co49 : Value).ownBlock ∧ some k_ ≠ (v236 : Value).ownBlock ∧ some k_ ≠ (.slice Ao54 t242.length co54 : Value).ownBlock) (fun _ => False) rfl rfl ?aO ?aR (fun _ _ h => h) (fun _ h => h.elim) ?aF ?aB ?aS ?aL ?_; (case aR => repeat (first | exact (Kd.R_reads' HO244.out).2.2 | (with_reducible refine Kd.C_alloc ?_ _) | (with_reducible refine Kd.C_drewN ?_ _) | (with_reducible refine Kd.C_drew ?_))); (case aB => exact (mH HB.out)); (case aF => exact (fun k_ hk => ⟨Kd.fresh' (Kd.R_lt (mR HO_5.out)) k_ hk, Kd.fresh' (Kd.R_lt (mR HO234.out)) k_ hk, Kd.fresh' (Kd.R_lt (mR HO237.out)) k_ hk, Kd.fresh' (Kd.R_lt (mR HO244.out)) k_ hk⟩)); (case aO => exact (by (with_reducible repeat (first | apply Kd.R_alloc | apply Kd.R_drewN | apply Kd.R_drew)); exact Kd.R_mono HO_3.out (fun _ hk => ⟨hk.1.1.1, ⟨hk.1.1.2, ⟨hk.1.2, hk.2⟩⟩⟩))); (case aS => exact (below_size (mH HB.out))); (case aL => have := LMc45.out; omega); intro v246 w53 ho hb hg hat; rw [← Ny245.out] at ho; replace HO_4 := mS (Kd.R_over' (mR HO_4.out) (Kd.R_typed (mR HO_3.out)) (by decide) hg); replace HO_5 := mS (Kd.R_after (ok := (fun k_ => some k_ ≠ (.slice Ao49 t232.length co49 : Value).ownBlock ∧ some k_ ≠ (v236 : Value).ownBlock ∧ some k_ ≠ (.slice Ao54 t242.length co54 : Value).ownBlock)) (by (with_reducible repeat (first | apply Kd.R_alloc | apply Kd.R_drewN | apply Kd.R_drew)); exact Kd.R_mono HO_5.out (fun _ hk => ⟨⟨hk.1.1.2, ⟨hk.1.2, hk.2⟩⟩, hk.1.1.1⟩)) hg hat); replace HO234 := mS (Kd.R_after (ok := (fun k_ => some k_ ≠ (.slice Ao46 x5_2.length co46 : Value).ownBlock ∧ some k_ ≠ (v236 : Value).ownBlock ∧ some k_ ≠ (.slice Ao54 t242.length co54 : Value).ownBlock)) (by (with_reducible repeat (first | apply Kd.R_alloc | apply Kd.R_drewN | apply Kd.R_drew)); exact Kd.R_mono HO234.out (fun _ hk => ⟨⟨hk.1.1.2, ⟨hk.1.2, hk.2⟩⟩, hk.1.1.1.2⟩)) hg hat); replace HO237 := mS (Kd.R_after (ok := (fun k_ => some k_ ≠ (.slice Ao46 x5_2.length co46 : Value).ownBlock ∧ some k_ ≠ (.slice Ao49 t232.length co49 : Value).ownBlock ∧ some k_ ≠ (.slice Ao54 t242.length co54 : Value).ownBlock)) (by (with_reducible repeat (first | apply Kd.R_alloc | apply Kd.R_drewN | apply Kd.R_drew)); exact Kd.R_mono HO237.out (fun _ hk => ⟨⟨hk.1.1.2, ⟨hk.1.2, hk.2⟩⟩, hk.1.1.1.2⟩)) hg hat); replace HO244 := mS (Kd.R_after (ok := (fun k_ => some k_ ≠ (.slice Ao46 x5_2.length co46 : Value).ownBlock ∧ some k_ ≠ (.slice Ao49 t232.length co49 : Value).ownBlock ∧ some k_ ≠ (v236 : Value).ownBlock)) (by (with_reducible repeat (first | apply Kd.R_alloc | apply Kd.R_drewN | apply Kd.R_drew)); exact Kd.R_mono HO244.out (fun _ hk => ⟨⟨hk.1.1.2, ⟨hk.1.2, hk.2⟩⟩, hk.1.1.1.2⟩)) hg hat); replace HB := mS (hb); have HO247 := mS (ho); clear HO_3; clear ho hb hg hat))
              go_roundg k2
              case measure => have := HJ1.out; have := HK2.out; omega
              case rel => exact ⟨(y245), (t235), (wrap64 (x6_2 + 1)), (wrap64 (x7_2 + 4)), (by first | rfl | (simp; done) | (simp [*]; done)), (by first | rfl | (simp; done) | (simp [*]; done)), H', ⟨by have := HJ1.out; have := HK2.out; omega⟩, ⟨by (with_reducible repeat (first | apply Kd.R_alloc | apply Kd.R_drewN | apply Kd.R_drew)); exact Kd.R_mono HO247.out (fun _ hk => hk.2.2.1)⟩, ⟨by (with_reducible repeat (first | apply Kd.R_alloc | apply Kd.R_drewN | apply Kd.R_drew)); exact HO_4.out⟩, ⟨by (with_reducible repeat (first | apply Kd.R_alloc | apply Kd.R_drewN | apply Kd.R_drew)); exact Kd.R_mono HO237.out (fun _ hk => hk.2)⟩, ⟨(mH HB.out)⟩⟩
             ·rw [if_neg c45] at H
              exact absurd H (by simp)
            ·rw [if_neg c43] at H
             exact absurd H (by simp)
           ·rw [if_neg c42] at H
            exact absurd H (by simp)
          ·rw [if_neg c41] at H
           exact absurd H (by simp)
         ·rw [if_neg c38] at H
          exact absurd H (by simp)
        ·rw [if_neg c37] at H
         exact absurd H (by simp)
      ·rw [if_neg c15] at H
       have c15b0 : decide (x7_2 < (l0.length : Int)) = false := decide_eq_false c15
       clear c15
       have H' := mS H
       clear H
       go_wp2
       go_loopg [4, 9] k2 (fun kq v4 v9 w' => ∃ (x4_3 : List ByteArray) (x9_3 : Int), v9 = .int .i64 x9_3 ∧ Aside0 (spec_PutTable.l1 kq l0 x3_2 x4_3 x5_2 x6_2 x9_3 = some r) ∧ Aside0 (kq ≤ k2) ∧ Aside0 (Kd.R (Kd.int .u8) 5 w' w.heap.size (fun k_ => some k_ ≠ (u5 : Value).ownBlock) u3 x3_2) ∧ Aside0 (Kd.R Kd.string 9 w' w.heap.size (fun _ => True) v4 x4_3) ∧ Aside0 (Kd.R (Kd.int .u8) 5 w' w.heap.size (fun k_ => some k_ ≠ (u3 : Value).ownBlock) u5 x5_2) ∧ Aside0 (Below w.heap.size w w'))
       case atStart => exact ⟨(y208), (0), (by first | rfl | (simp; done) | (simp [*]; done)), H', ⟨Nat.le_refl _⟩, ⟨by (with_reducible repeat (first | apply Kd.R_alloc | apply Kd.R_drewN | apply Kd.R_drew)); exact HO_3.out⟩, ⟨by (with_reducible repeat (first | apply Kd.R_alloc | apply Kd.R_drewN | apply Kd.R_drew)); exact HO_4.out⟩, ⟨by (with_reducible repeat (first | apply Kd.R_alloc | apply Kd.R_drewN | apply Kd.R_drew)); exact HO_5.out⟩, ⟨(mH HB.out)⟩⟩
       case round =>
        clear H'
        try clear c1
        try clear c2
        try clear p2
        try clear q2
        try clear hx2
        try clear c3
        try clear q3
        try clear c4
        try clear c5
        try clear q5
        try clear c6
        try clear p6
        try clear c10
        try clear c11
        try clear c15
        try clear c15b0
        try clear c16
        try clear c16b0
        try clear c18
        try clear c18b0
        try clear c19
        try clear c19b0
        try clear p21
        try clear q21
        try clear hx21
        try clear c22
        try clear c22b0
        try clear c22b1
        try clear c23
        try clear c23b0
        try clear c23b1
        try clear p23
        try clear q23
        try clear hx23
        try clear c24
        try clear c24b0
        try clear c24b1
        try clear c26
        try clear c32
        try clear q32
        try clear c37
        try clear c37b0
        try clear c38
        try clear c38b0
        try clear c41
        try clear c41b0
        try clear c41b1
        try clear c42
        try clear c42b0
        try clear c42b1
        try clear c43
        try clear c43b0
        try clear c43b1
        try clear c45
        try clear c51
        try clear q51
        try clear hx214_0
        try clear hx214_1
        try clear hx214_2
        try clear hx231_0
        try clear hx231_1
        try clear hx231_2
        try clear p2
        try clear p214
        try clear p231
        try clear q032
        try clear q051
        try clear q214
        try clear q231
        try clear q32
        try clear q51
        obtain ⟨x4_3, x9_3, rfl, HA, HK3, HO_3, HO_4, HO_5, HB⟩ := hrel
        cases gk with
        | zero => exact absurd HA.out (by simp [spec_PutTable.l1])
        | succ k3 =>
         have H := HA.out
         clear HA
         simp only [spec_PutTable.l1] at H
         by_cases c55 : x9_3 < (l0.length : Int)
         ·rw [if_pos c55] at H
          have c55b0 : decide (x9_3 < (l0.length : Int)) = true := decide_eq_true c55
          clear c55
          by_cases c56 : 0 ≤ x9_3
          ·rw [if_pos c56] at H
           have c56b0 : decide (0 ≤ x9_3) = true := decide_eq_true c56
           clear c56
           by_cases c57 : x4_3.length < 8796093022208
           ·rw [if_pos c57] at H
            have LMc57 := mS c57
            clear c57
            obtain ⟨y249, hy249⟩ : ∃ y_ : List ByteArray, y_ = (x4_3 ++ [(rd_T33 l0 x9_3).f0]) := ⟨_, rfl⟩
            replace H : (spec_PutTable.l1 k3 l0 x3_2 y249 x5_2 x6_2 (wrap64 (x9_3 + 1))) = some r := by first | (rw [hy249]; with_reducible exact H) | (have H2_ := (Option.bind_some _ _).symm.trans H; rw [hy249]; with_reducible exact H2_) | (have H2_ := (Option.bind_some _ _).symm.trans H; with_reducible exact H2_) | with_reducible exact H | (rw [hy249]; exact H) | exact H
            have Ny249 := mS hy249
            clear hy249
            have H' := mS H
            clear H
            have p248 : 0 ≤ (x9_3 : Int) := of_decide_eq_true (by first | (with_reducible assumption) | assumption)
            have q248 : x9_3 < (l0.length : Int) := of_decide_eq_true (by first | (with_reducible assumption) | assumption)
            obtain ⟨ad248, e248, hx248_0, hx248_1, hx248_2⟩ := at_T33 HR0.out x9_3 p248 q248
            cases e248
            replace hx248_0 := (HB.out.cell (World.block_lt_of_cell? w _ hx248_0)).trans hx248_0
            replace hx248_1 := (HB.out.cell (World.block_lt_of_cell? w _ hx248_1)).trans hx248_1
            replace hx248_2 := (HB.out.cell (World.block_lt_of_cell? w _ hx248_2)).trans hx248_2
            replace p248 := eq_true p248
            replace q248 := eq_true q248
            go_wp2_with (first | ((with_reducible refine gate_builtin (b := .append) (xs := #[.tmp 64, .tmp 70]) rfl ?_); (try (refine gate_guard (by rfl) ?_; dsimp only)); at_builtin; refine Kd.R_append Kd.string (w0 := w) w.heap.size rfl (.tmp 64) (.tmp 70) 151 9 (.string ⟨#[]⟩) 16 rfl Try.underlying151 info9 rfl (by decide) (by omega) u4 x4_3 ((rd_T33 l0 x9_3).f0) [.string ((rd_T33 l0 x9_3).f0)] (fun _ => True) (fun _ => False) rfl rfl ?aP (fun _ hk => hk.elim) ?aF ?aO ?aB ?aS ?aL ?_; (case aP => exact rfl); (case aB => exact (mH HB.out)); (case aF => exact (fun _ _ => trivial)); (case aO => exact (mR HO_4.out)); (case aS => exact (below_size (mH HB.out))); (case aL => have := LMc57.out; omega); intro v250 w58 ho hb hg hat; rw [← Ny249.out] at ho; replace HO_3 := mS (Kd.R_over' (mR HO_3.out) (Kd.R_typed (mR HO_4.out)) (by decide) hg); replace HO_5 := mS (Kd.R_over' (mR HO_5.out) (Kd.R_typed (mR HO_4.out)) (by decide) hg); replace HB := mS (hb); have HO251 := mS (ho); clear HO_4; clear ho hb hg hat))
            go_roundg k3
            case measure => have := HJ1.out; have := HK2.out; have := HK3.out; omega
            case rel => exact ⟨(y249), (wrap64 (x9_3 + 1)), (by first | rfl | (simp; done) | (simp [*]; done)), H', ⟨by have := HJ1.out; have := HK2.out; have := HK3.out; omega⟩, ⟨by (with_reducible repeat (first | apply Kd.R_alloc | apply Kd.R_drewN | apply Kd.R_drew)); exact HO_3.out⟩, ⟨by (with_reducible repeat (first | apply Kd.R_alloc | apply Kd.R_drewN | apply Kd.R_drew)); exact HO251.out⟩, ⟨by (with_reducible repeat (first | apply Kd.R_alloc | apply Kd.R_drewN | apply Kd.R_drew)); exact HO_5.out⟩, ⟨(mH HB.out)⟩⟩
           ·rw [if_neg c57] at H
            exact absurd H (by simp)
          ·rw [if_neg c56] at H
           exact absurd H (by simp)
         ·rw [if_neg c55] at H
          have c55b0 : decide (x9_3 < (l0.length : Int)) = false := decide_eq_false c55
          clear c55
          obtain ⟨y252, hy252⟩ : ∃ y_ : List Int, y_ = (([] : List Int)) := ⟨_, rfl⟩
          replace H : ((spec_PutNum.f k3 y252 x6_2).bind fun t255 => (if t255.length + x5_2.length < 140737488355328 then ((some (t255 ++ x5_2 : List Int)).bind fun y258 => ((spec_Filter.f k3 x4_3).bind fun t261 => (if y258.length + t261.length < 140737488355328 then ((spec_Frame.f k3 (y258 ++ t261)).bind fun t267 => (if x3_2.length + t267.length < 140737488355328 then ((some (x3_2 ++ t267 : List Int)).bind fun y270 => ((spec_l1Four.f (x3_2.length : Int)).bind fun t273 => (if y270.length + t273.length < 140737488355328 then (some (y270 ++ t273)) else (none)))) else (none))) else (none)))) else (none))) = some r := by first | (rw [hy252]; with_reducible exact H) | (have H2_ := (Option.bind_some _ _).symm.trans H; rw [hy252]; with_reducible exact H2_) | (have H2_ := (Option.bind_some _ _).symm.trans H; with_reducible exact H2_) | with_reducible exact H | (rw [hy252]; exact H) | exact H
          have Ny252 := mS hy252
          clear hy252
          replace H := Option.bind_eq_some_iff.mp H
          obtain ⟨t255, A590, H⟩ := H
          replace H : (if t255.length + x5_2.length < 140737488355328 then ((some (t255 ++ x5_2 : List Int)).bind fun y258 => ((spec_Filter.f k3 x4_3).bind fun t261 => (if y258.length + t261.length < 140737488355328 then ((spec_Frame.f k3 (y258 ++ t261)).bind fun t267 => (if x3_2.length + t267.length < 140737488355328 then ((some (x3_2 ++ t267 : List Int)).bind fun y270 => ((spec_l1Four.f (x3_2.length : Int)).bind fun t273 => (if y270.length + t273.length < 140737488355328 then (some (y270 ++ t273)) else (none)))) else (none))) else (none)))) else (none)) = some r := H
          have A59 := mS A590
          clear A590
          by_cases c60 : t255.length + x5_2.length < 140737488355328
          ·rw [if_pos c60] at H
           have LMc60 := mS c60
           clear c60
           obtain ⟨y258, hy258⟩ : ∃ y_ : List Int, y_ = (t255 ++ x5_2) := ⟨_, rfl⟩
           replace H : ((spec_Filter.f k3 x4_3).bind fun t261 => (if y258.length + t261.length < 140737488355328 then ((spec_Frame.f k3 (y258 ++ t261)).bind fun t267 => (if x3_2.length + t267.length < 140737488355328 then ((some (x3_2 ++ t267 : List Int)).bind fun y270 => ((spec_l1Four.f (x3_2.length : Int)).bind fun t273 => (if y270.length + t273.length < 140737488355328 then (some (y270 ++ t273)) else (none)))) else (none))) else (none))) = some r := by first | (rw [hy258]; with_reducible exact H) | (have H2_ := (Option.bind_some _ _).symm.trans H; rw [hy258]; with_reducible exact H2_) | (have H2_ := (Option.bind_some _ _).symm.trans H; with_reducible exact H2_) | with_reducible exact H | (rw [hy258]; exact H) | exact H
           have Ny258 := mS hy258
           clear hy258
           replace H := Option.bind_eq_some_iff.mp H
           obtain ⟨t261, A610, H⟩ := H
           replace H : (if y258.length + t261.length < 140737488355328 then ((spec_Frame.f k3 (y258 ++ t261)).bind fun t267 => (if x3_2.length + t267.length < 140737488355328 then ((some (x3_2 ++ t267 : List Int)).bind fun y270 => ((spec_l1Four.f (x3_2.length : Int)).bind fun t273 => (if y270.length + t273.length < 140737488355328 then (some (y270 ++ t273)) else (none)))) else (none))) else (none)) = some r := H
           have A61 := mS A610
           clear A610
           by_cases c62 : y258.length + t261.length < 140737488355328
           ·rw [if_pos c62] at H
            have LMc62 := mS c62
            clear c62
            obtain ⟨y264, hy264⟩ : ∃ y_ : List Int, y_ = (y258 ++ t261) := ⟨_, rfl⟩
            replace H : ((spec_Frame.f k3 y264).bind fun t267 => (if x3_2.length + t267.length < 140737488355328 then ((some (x3_2 ++ t267 : List Int)).bind fun y270 => ((spec_l1Four.f (x3_2.length : Int)).bind fun t273 => (if y270.length + t273.length < 140737488355328 then (some (y270 ++ t273)) else (none)))) else (none))) = some r := by first | (rw [hy264]; with_reducible exact H) | (have H2_ := (Option.bind_some _ _).symm.trans H; rw [hy264]; with_reducible exact H2_) | (have H2_ := (Option.bind_some _ _).symm.trans H; with_reducible exact H2_) | with_reducible exact H | (rw [hy264]; exact H) | exact H
            have Ny264 := mS hy264
            clear hy264
            replace H := Option.bind_eq_some_iff.mp H
            obtain ⟨t267, A630, H⟩ := H
            replace H : (if x3_2.length + t267.length < 140737488355328 then ((some (x3_2 ++ t267 : List Int)).bind fun y270 => ((spec_l1Four.f (x3_2.length : Int)).bind fun t273 => (if y270.length + t273.length < 140737488355328 then (some (y270 ++ t273)) else (none)))) else (none)) = some r := H
            have A63 := mS A630
            clear A630
            by_cases c64 : x3_2.length + t267.length < 140737488355328
            ·rw [if_pos c64] at H
             have LMc64 := mS c64
             clear c64
             obtain ⟨y270, hy270⟩ : ∃ y_ : List Int, y_ = (x3_2 ++ t267) := ⟨_, rfl⟩
             replace H : ((spec_l1Four.f (x3_2.length : Int)).bind fun t273 => (if y270.length + t273.length < 140737488355328 then (some (y270 ++ t273)) else (none))) = some r := by first | (rw [hy270]; with_reducible exact H) | (have H2_ := (Option.bind_some _ _).symm.trans H; rw [hy270]; with_reducible exact H2_) | (have H2_ := (Option.bind_some _ _).symm.trans H; with_reducible exact H2_) | with_reducible exact H | (rw [hy270]; exact H) | exact H
             have Ny270 := mS hy270
             clear hy270
             replace H := Option.bind_eq_some_iff.mp H
             obtain ⟨t273, A650, H⟩ := H
             replace H : (if y270.length + t273.length < 140737488355328 then (some (y270 ++ t273)) else (none)) = some r := H
             have A65 := mS A650
             clear A650
             by_cases c66 : y270.length + t273.length < 140737488355328
             ·rw [if_pos c66] at H
              have LMc66 := mS c66
              clear c66
              obtain ⟨y276, hy276⟩ : ∃ y_ : List Int, y_ = (y270 ++ t273) := ⟨_, rfl⟩
              replace H : (some y276) = some r := by first | (rw [hy276]; with_reducible exact H) | (have H2_ := (Option.bind_some _ _).symm.trans H; rw [hy276]; with_reducible exact H2_) | (have H2_ := (Option.bind_some _ _).symm.trans H; with_reducible exact H2_) | with_reducible exact H | (rw [hy276]; exact H) | exact H
              have Ny276 := mS hy276
              clear hy276
              obtain rfl := Option.some.inj H
              go_wp2_with (first | ((with_reducible refine gate_dst (N := 72) rfl ?_); (try (refine gate_guard (by rfl) ?_; dsimp only)); refine Kd.R_lit (Kd.int .u8) _ 5 ?hg (N := 72) ?hd (xs := ([] : List Int)) (inner := []) (ok := fun _ => True) (okp := fun _ => True) ?hr ?hp (fun _ hk => hk) trivial (Below.refl _ _) (Nat.le_refl _) (by simp) ?_; (case hd => rfl); (case hg => rfl); (case hr => first | (go_simp; done) | (go_simp; rfl)); (case hp => exact (Reps.none _ _)); intro v253 w67 ho68 hb hg_ hnew_; clear hg_ hnew_; (first | rw [← Ny252.out] at ho68 | (simp only [Int.reduceToNat] at ho68; rw [← Ny252.out] at ho68)); replace HO_4 := mS (Kd.R_below (mR HO_4.out) hb); have HO254 := mS (Kd.R_lower (Kd.R_new' (Kd.R_new' ho68 (Kd.R_lt (mR HO_3.out))) (Kd.R_lt (mR HO_5.out))) (below_size (mH HB.out))); replace HO_3 := mS (Kd.R_elder' (mR HO_3.out) (Kd.R_base ho68) hb); replace HO_5 := mS (Kd.R_elder' (mR HO_5.out) (Kd.R_base ho68) hb); replace HB := mS (below_step (mH HB.out) hb); clear hb ho68; obtain ⟨Ao69, co69, eo69⟩ := Kd.R_slice HO254.out; subst eo69) | ((with_reducible refine gate_callee (f := 116) rfl ?_); refine goesL_ (some 74) rfl rfl Try.func116 (by kernel_rfl) rfl #[.slice Ao69 y252.length co69, .int .i64 x6_2] rfl mA ?_; (with_reducible refine (spec_PutNum.calls k3 _ _ y252 x6_2 t255 _ ?side1 ?side2 A59.out).mono ?_); (case side1 => repeat (first | exact (Kd.R_reads' HO254.out).2.2 | (with_reducible refine Kd.C_alloc ?_ _) | (with_reducible refine Kd.C_drewN ?_ _) | (with_reducible refine Kd.C_drew ?_))); (case side2 => exact (Kd.R_reads' HO254.out).2.1); rintro e w70 ⟨v256, rfl, ho0, hb⟩; refine ⟨_, rfl, ?_⟩; replace HO_4 := mS (Kd.R_below (mR HO_4.out) hb); have HO257 := mS (Kd.R_lower (Kd.R_new' (Kd.R_new' (Kd.R_new' ho0 (Kd.R_lt (mR HO_3.out))) (Kd.R_lt (mR HO_5.out))) (Kd.R_lt (mR HO254.out))) (below_size (mH HB.out))); replace HO_3 := mS (Kd.R_elder' (mR HO_3.out) (Kd.R_base ho0) hb); replace HO_5 := mS (Kd.R_elder' (mR HO_5.out) (Kd.R_base ho0) hb); replace HO254 := mS (Kd.R_elder' (mR HO254.out) (Kd.R_base ho0) hb); replace HB := mS (below_step (mH HB.out) hb); (try clear hb); (try clear hb2); (try clear hk); (try clear hi); (try clear ho0); obtain ⟨Ao72, co72, eo72⟩ := Kd.R_slice HO_5.out; subst eo72) | ((with_reducible refine gate_builtin (b := .append) (xs := #[.tmp 74, .tmp 75]) rfl ?_); (try (refine gate_guard (by rfl) ?_; dsimp only)); at_builtin; refine Kd.R_append_rows (Kd.int .u8) (w0 := w) w.heap.size rfl (.tmp 74) (.tmp 75) 22 5 (.int .u8 0) 1 rfl Try.underlying22 info5 rfl (by decide) (by omega) v256 t255 x5_2 _ _ _ (fun k_ => some k_ ≠ (u3 : Value).ownBlock ∧ some k_ ≠ (.slice Ao72 x5_2.length co72 : Value).ownBlock ∧ some k_ ≠ (.slice Ao69 y252.length co69 : Value).ownBlock) (fun _ => False) rfl rfl ?aO ?aR (fun _ _ h => h) (fun _ h => h.elim) ?aF ?aB ?aS ?aL ?_; (case aR => repeat (first | exact (Kd.R_reads' HO_5.out).2.2 | (with_reducible refine Kd.C_alloc ?_ _) | (with_reducible refine Kd.C_drewN ?_ _) | (with_reducible refine Kd.C_drew ?_))); (case aB => exact (mH HB.out)); (case aF => exact (fun k_ hk => ⟨Kd.fresh' (Kd.R_lt (mR HO_3.out)) k_ hk, Kd.fresh' (Kd.R_lt (mR HO_5.out)) k_ hk, Kd.fresh' (Kd.R_lt (mR HO254.out)) k_ hk⟩)); (case aO => exact (by (with_reducible repeat (first | apply Kd.R_alloc | apply Kd.R_drewN | apply Kd.R_drew)); exact Kd.R_mono HO257.out (fun _ hk => ⟨hk.1.1.2, ⟨hk.1.2, hk.2⟩⟩))); (case aS => exact (below_size (mH HB.out))); (case aL => have := LMc60.out; omega); intro v259 w71 ho hb hg hat; rw [← Ny258.out] at ho; replace HO_3 := mS (Kd.R_after (ok := (fun k_ => some k_ ≠ (.slice Ao72 x5_2.length co72 : Value).ownBlock ∧ some k_ ≠ (.slice Ao69 y252.length co69 : Value).ownBlock)) (mR HO_3.out) hg hat); replace HO_4 := mS (Kd.R_over' (mR HO_4.out) (Kd.R_typed (mR HO257.out)) (by decide) hg); replace HO_5 := mS (Kd.R_after (ok := (fun k_ => some k_ ≠ (u3 : Value).ownBlock ∧ some k_ ≠ (.slice Ao69 y252.length co69 : Value).ownBlock)) (mR HO_5.out) hg hat); replace HO254 := mS (Kd.R_after (ok := (fun k_ => some k_ ≠ (u3 : Value).ownBlock ∧ some k_ ≠ (.slice Ao72 x5_2.length co72 : Value).ownBlock)) (by (with_reducible repeat (first | apply Kd.R_alloc | apply Kd.R_drewN | apply Kd.R_drew)); exact Kd.R_mono HO254.out (fun _ hk => ⟨⟨hk.1.1.2, hk.1.2⟩, hk.2⟩)) hg hat); replace HB := mS (hb); have HO260 := mS (ho); clear HO257; clear ho hb hg hat; obtain ⟨Ao73, co73, eo73⟩ := Kd.R_slice HO_4.out; subst eo73) | ((with_reducible refine gate_callee (f := 119) rfl ?_); refine goesL_ (some 78) rfl rfl Try.func119 (by kernel_rfl) rfl #[.slice Ao73 x4_3.length co73] rfl mA ?_; (with_reducible refine (spec_Filter.calls k3 _ _ x4_3 t261 _ ?side1 ?side2 A61.out).mono ?_); (case side1 => repeat (first | exact (Kd.R_reads' HO_4.out).2.2 | (with_reducible refine Kd.C_alloc ?_ _) | (with_reducible refine Kd.C_drewN ?_ _) | (with_reducible refine Kd.C_drew ?_))); (case side2 => exact (Kd.R_reads' HO_4.out).2.1); rintro e w74 ⟨v262, rfl, ho0, hb⟩; refine ⟨_, rfl, ?_⟩; replace HO_4 := mS (Kd.R_below (mR HO_4.out) hb); have HO263 := mS (Kd.R_lower (Kd.R_new' (Kd.R_new' (Kd.R_new' (Kd.R_new' ho0 (Kd.R_lt (mR HO_3.out))) (Kd.R_lt (mR HO_5.out))) (Kd.R_lt (mR HO254.out))) (Kd.R_lt (mR HO260.out))) (below_size (mH HB.out))); replace HO_3 := mS (Kd.R_elder' (mR HO_3.out) (Kd.R_base ho0) hb); replace HO_5 := mS (Kd.R_elder' (mR HO_5.out) (Kd.R_base ho0) hb); replace HO254 := mS (Kd.R_elder' (mR HO254.out) (Kd.R_base ho0) hb); replace HO260 := mS (Kd.R_elder' (mR HO260.out) (Kd.R_base ho0) hb); replace HB := mS (below_step (mH HB.out) hb); (try clear hb); (try clear hb2); (try clear hk); (try clear hi); (try clear ho0); obtain ⟨Ao76, co76, eo76⟩ := Kd.R_slice HO263.out; subst eo76) | ((with_reducible refine gate_builtin (b := .append) (xs := #[.tmp 76, .tmp 78]) rfl ?_); (try (refine gate_guard (by rfl) ?_; dsimp only)); at_builtin; refine Kd.R_append_rows (Kd.int .u8) (w0 := w) w.heap.size rfl (.tmp 76) (.tmp 78) 22 5 (.int .u8 0) 1 rfl Try.underlying22 info5 rfl (by decide) (by omega) v259 y258 t261 _ _ _ (fun k_ => some k_ ≠ (u3 : Value).ownBlock ∧ some k_ ≠ (.slice Ao72 x5_2.length co72 : Value).ownBlock ∧ some k_ ≠ (.slice Ao69 y252.length co69 : Value).ownBlock ∧ some k_ ≠ (.slice Ao76 t261.length co76 : Value).ownBlock) (fun _ => False) rfl rfl ?aO ?aR (fun _ _ h => h) (fun _ h => h.elim) ?aF ?aB ?aS ?aL ?_; (case aR => repeat (first | exact (Kd.R_reads' HO263.out).2.2 | (with_reducible refine Kd.C_alloc ?_ _) | (with_reducible refine Kd.C_drewN ?_ _) | (with_reducible refine Kd.C_drew ?_))); (case aB => exact (mH HB.out)); (case aF => exact (fun k_ hk => ⟨Kd.fresh' (Kd.R_lt (mR HO_3.out)) k_ hk, Kd.fresh' (Kd.R_lt (mR HO_5.out)) k_ hk, Kd.fresh' (Kd.R_lt (mR HO254.out)) k_ hk, Kd.fresh' (Kd.R_lt (mR HO263.out)) k_ hk⟩)); (case aO => exact (by (with_reducible repeat (first | apply Kd.R_alloc | apply Kd.R_drewN | apply Kd.R_drew)); exact Kd.R_mono HO260.out (fun _ hk => ⟨hk.1.1, ⟨hk.1.2.1, ⟨hk.1.2.2, hk.2⟩⟩⟩))); (case aS => exact (below_size (mH HB.out))); (case aL => have := LMc62.out; omega); intro v265 w75 ho hb hg hat; rw [← Ny264.out] at ho; replace HO_3 := mS (Kd.R_after (ok := (fun k_ => some k_ ≠ (.slice Ao72 x5_2.length co72 : Value).ownBlock ∧ some k_ ≠ (.slice Ao69 y252.length co69 : Value).ownBlock ∧ some k_ ≠ (.slice Ao76 t261.length co76 : Value).ownBlock)) (by (with_reducible repeat (first | apply Kd.R_alloc | apply Kd.R_drewN | apply Kd.R_drew)); exact Kd.R_mono HO_3.out (fun _ hk => ⟨⟨hk.1.1.1, ⟨hk.1.1.2, hk.2⟩⟩, hk.1.2⟩)) hg hat); replace HO_4 := mS (Kd.R_over' (mR HO_4.out) (Kd.R_typed (mR HO260.out)) (by decide) hg); replace HO_5 := mS (Kd.R_after (ok := (fun k_ => some k_ ≠ (u3 : Value).ownBlock ∧ some k_ ≠ (.slice Ao69 y252.length co69 : Value).ownBlock ∧ some k_ ≠ (.slice Ao76 t261.length co76 : Value).ownBlock)) (by (with_reducible repeat (first | apply Kd.R_alloc | apply Kd.R_drewN | apply Kd.R_drew)); exact Kd.R_mono HO_5.out (fun _ hk => ⟨⟨hk.1.1.1, ⟨hk.1.1.2, hk.2⟩⟩, hk.1.2⟩)) hg hat); replace HO254 := mS (Kd.R_after (ok := (fun k_ => some k_ ≠ (u3 : Value).ownBlock ∧ some k_ ≠ (.slice Ao72 x5_2.length co72 : Value).ownBlock ∧ some k_ ≠ (.slice Ao76 t261.length co76 : Value).ownBlock)) (by (with_reducible repeat (first | apply Kd.R_alloc | apply Kd.R_drewN | apply Kd.R_drew)); exact Kd.R_mono HO254.out (fun _ hk => ⟨⟨hk.1.1.1, ⟨hk.1.1.2, hk.2⟩⟩, hk.1.2⟩)) hg hat); replace HO263 := mS (Kd.R_after (ok := (fun k_ => some k_ ≠ (u3 : Value).ownBlock ∧ some k_ ≠ (.slice Ao72 x5_2.length co72 : Value).ownBlock ∧ some k_ ≠ (.slice Ao69 y252.length co69 : Value).ownBlock)) (by (with_reducible repeat (first | apply Kd.R_alloc | apply Kd.R_drewN | apply Kd.R_drew)); exact Kd.R_mono HO263.out (fun _ hk => ⟨⟨hk.1.1.1.2, ⟨hk.1.1.2, hk.1.2⟩⟩, hk.2⟩)) hg hat); replace HB := mS (hb); have HO266 := mS (ho); clear HO260; clear ho hb hg hat; obtain ⟨Ao77, co77, eo77⟩ := Kd.R_slice HO_3.out; subst eo77; obtain ⟨Ao78, co78, eo78⟩ := Kd.R_slice HO266.out; subst eo78) | ((with_reducible refine gate_callee (f := 120) rfl ?_); refine goesL_ (some 84) rfl rfl Try.func120 (by kernel_rfl) rfl #[.slice Ao78 y264.length co78] rfl mA ?_; (with_reducible refine (spec_Frame.calls k3 _ _ y264 t267 _ ?side1 ?side2 A63.out).mono ?_); (case side1 => repeat (first | exact (Kd.R_reads' HO266.out).2.2 | (with_reducible refine Kd.C_alloc ?_ _) | (with_reducible refine Kd.C_drewN ?_ _) | (with_reducible refine Kd.C_drew ?_))); (case side2 => exact (Kd.R_reads' HO266.out).2.1); rintro e w79 ⟨v268, rfl, ho0, hb⟩; refine ⟨_, rfl, ?_⟩; replace HO_4 := mS (Kd.R_below (mR HO_4.out) hb); have HO269 := mS (Kd.R_lower (Kd.R_new' (Kd.R_new' (Kd.R_new' (Kd.R_new' (Kd.R_new' ho0 (Kd.R_lt (mR HO_3.out))) (Kd.R_lt (mR HO_5.out))) (Kd.R_lt (mR HO254.out))) (Kd.R_lt (mR HO263.out))) (Kd.R_lt (mR HO266.out))) (below_size (mH HB.out))); replace HO_3 := mS (Kd.R_elder' (mR HO_3.out) (Kd.R_base ho0) hb); replace HO_5 := mS (Kd.R_elder' (mR HO_5.out) (Kd.R_base ho0) hb); replace HO254 := mS (Kd.R_elder' (mR HO254.out) (Kd.R_base ho0) hb); replace HO263 := mS (Kd.R_elder' (mR HO263.out) (Kd.R_base ho0) hb); replace HO266 := mS (Kd.R_elder' (mR HO266.out) (Kd.R_base ho0) hb); replace HB := mS (below_step (mH HB.out) hb); (try clear hb); (try clear hb2); (try clear hk); (try clear hi); (try clear ho0); obtain ⟨Ao81, co81, eo81⟩ := Kd.R_slice HO269.out; subst eo81) | ((with_reducible refine gate_builtin (b := .append) (xs := #[.tmp 82, .tmp 84]) rfl ?_); (try (refine gate_guard (by rfl) ?_; dsimp only)); at_builtin; refine Kd.R_append_rows (Kd.int .u8) (w0 := w) w.heap.size rfl (.tmp 82) (.tmp 84) 22 5 (.int .u8 0) 1 rfl Try.underlying22 info5 rfl (by decide) (by omega) (.slice Ao77 x3_2.length co77) x3_2 t267 _ _ _ (fun k_ => some k_ ≠ (.slice Ao72 x5_2.length co72 : Value).ownBlock ∧ some k_ ≠ (.slice Ao69 y252.length co69 : Value).ownBlock ∧ some k_ ≠ (.slice Ao76 t261.length co76 : Value).ownBlock ∧ some k_ ≠ (.slice Ao78 y264.length co78 : Value).ownBlock ∧ some k_ ≠ (.slice Ao81 t267.length co81 : Value).ownBlock) (fun _ => False) rfl rfl ?aO ?aR (fun _ _ h => h) (fun _ h => h.elim) ?aF ?aB ?aS ?aL ?_; (case aR => repeat (first | exact (Kd.R_reads' HO269.out).2.2 | (with_reducible refine Kd.C_alloc ?_ _) | (with_reducible refine Kd.C_drewN ?_ _) | (with_reducible refine Kd.C_drew ?_))); (case aB => exact (mH HB.out)); (case aF => exact (fun k_ hk => ⟨Kd.fresh' (Kd.R_lt (mR HO_5.out)) k_ hk, Kd.fresh' (Kd.R_lt (mR HO254.out)) k_ hk, Kd.fresh' (Kd.R_lt (mR HO263.out)) k_ hk, Kd.fresh' (Kd.R_lt (mR HO266.out)) k_ hk, Kd.fresh' (Kd.R_lt (mR HO269.out)) k_ hk⟩)); (case aO => exact (by (with_reducible repeat (first | apply Kd.R_alloc | apply Kd.R_drewN | apply Kd.R_drew)); exact Kd.R_mono HO_3.out (fun _ hk => ⟨hk.1.1.1, ⟨hk.1.1.2.1, ⟨hk.1.1.2.2, ⟨hk.1.2, hk.2⟩⟩⟩⟩))); (case aS => exact (below_size (mH HB.out))); (case aL => have := LMc64.out; omega); intro v271 w80 ho hb hg hat; rw [← Ny270.out] at ho; replace HO_4 := mS (Kd.R_over' (mR HO_4.out) (Kd.R_typed (mR HO_3.out)) (by decide) hg); replace HO_5 := mS (Kd.R_after (ok := (fun k_ => some k_ ≠ (.slice Ao69 y252.length co69 : Value).ownBlock ∧ some k_ ≠ (.slice Ao76 t261.length co76 : Value).ownBlock ∧ some k_ ≠ (.slice Ao78 y264.length co78 : Value).ownBlock ∧ some k_ ≠ (.slice Ao81 t267.length co81 : Value).ownBlock)) (by (with_reducible repeat (first | apply Kd.R_alloc | apply Kd.R_drewN | apply Kd.R_drew)); exact Kd.R_mono HO_5.out (fun _ hk => ⟨⟨hk.1.1.2.1, ⟨hk.1.1.2.2, ⟨hk.1.2, hk.2⟩⟩⟩, hk.1.1.1⟩)) hg hat); replace HO254 := mS (Kd.R_after (ok := (fun k_ => some k_ ≠ (.slice Ao72 x5_2.length co72 : Value).ownBlock ∧ some k_ ≠ (.slice Ao76 t261.length co76 : Value).ownBlock ∧ some k_ ≠ (.slice Ao78 y264.length co78 : Value).ownBlock ∧ some k_ ≠ (.slice Ao81 t267.length co81 : Value).ownBlock)) (by (with_reducible repeat (first | apply Kd.R_alloc | apply Kd.R_drewN | apply Kd.R_drew)); exact Kd.R_mono HO254.out (fun _ hk => ⟨⟨hk.1.1.2.1, ⟨hk.1.1.2.2, ⟨hk.1.2, hk.2⟩⟩⟩, hk.1.1.1⟩)) hg hat); replace HO263 := mS (Kd.R_after (ok := (fun k_ => some k_ ≠ (.slice Ao72 x5_2.length co72 : Value).ownBlock ∧ some k_ ≠ (.slice Ao69 y252.length co69 : Value).ownBlock ∧ some k_ ≠ (.slice Ao78 y264.length co78 : Value).ownBlock ∧ some k_ ≠ (.slice Ao81 t267.length co81 : Value).ownBlock)) (by (with_reducible repeat (first | apply Kd.R_alloc | apply Kd.R_drewN | apply Kd.R_drew)); exact Kd.R_mono HO263.out (fun _ hk => ⟨⟨hk.1.1.2.1, ⟨hk.1.1.2.2, ⟨hk.1.2, hk.2⟩⟩⟩, hk.1.1.1⟩)) hg hat); replace HO266 := mS (Kd.R_after (ok := (fun k_ => some k_ ≠ (.slice Ao72 x5_2.length co72 : Value).ownBlock ∧ some k_ ≠ (.slice Ao69 y252.length co69 : Value).ownBlock ∧ some k_ ≠ (.slice Ao76 t261.length co76 : Value).ownBlock ∧ some k_ ≠ (.slice Ao81 t267.length co81 : Value).ownBlock)) (by (with_reducible repeat (first | apply Kd.R_alloc | apply Kd.R_drewN | apply Kd.R_drew)); exact Kd.R_mono HO266.out (fun _ hk => ⟨⟨hk.1.2.1, ⟨hk.1.2.2.1, ⟨hk.1.2.2.2, hk.2⟩⟩⟩, hk.1.1⟩)) hg hat); replace HO269 := mS (Kd.R_after (ok := (fun k_ => some k_ ≠ (.slice Ao72 x5_2.length co72 : Value).ownBlock ∧ some k_ ≠ (.slice Ao69 y252.length co69 : Value).ownBlock ∧ some k_ ≠ (.slice Ao76 t261.length co76 : Value).ownBlock ∧ some k_ ≠ (.slice Ao78 y264.length co78 : Value).ownBlock)) (by (with_reducible repeat (first | apply Kd.R_alloc | apply Kd.R_drewN | apply Kd.R_drew)); exact Kd.R_mono HO269.out (fun _ hk => ⟨⟨hk.1.1.1.2, ⟨hk.1.1.2, ⟨hk.1.2, hk.2⟩⟩⟩, hk.1.1.1.1.2⟩)) hg hat); replace HB := mS (hb); have HO272 := mS (ho); clear HO_3; clear ho hb hg hat) | ((with_reducible refine gate_callee (f := 121) rfl ?_); refine goesL_ (some 88) rfl rfl Try.func121 (by kernel_rfl) rfl #[.int .i64 (x3_2.length : Int)] rfl mA ?_; (with_reducible refine (spec_l1Four.calls (x3_2.length : Int) t273 _ A65.out).mono ?_); rintro e w82 ⟨v274, rfl, ho0, hb⟩; refine ⟨_, rfl, ?_⟩; replace HO_4 := mS (Kd.R_below (mR HO_4.out) hb); have HO275 := mS (Kd.R_lower (Kd.R_new' (Kd.R_new' (Kd.R_new' (Kd.R_new' (Kd.R_new' (Kd.R_new' ho0 (Kd.R_lt (mR HO_5.out))) (Kd.R_lt (mR HO254.out))) (Kd.R_lt (mR HO263.out))) (Kd.R_lt (mR HO266.out))) (Kd.R_lt (mR HO269.out))) (Kd.R_lt (mR HO272.out))) (below_size (mH HB.out))); replace HO_5 := mS (Kd.R_elder' (mR HO_5.out) (Kd.R_base ho0) hb); replace HO254 := mS (Kd.R_elder' (mR HO254.out) (Kd.R_base ho0) hb); replace HO263 := mS (Kd.R_elder' (mR HO263.out) (Kd.R_base ho0) hb); replace HO266 := mS (Kd.R_elder' (mR HO266.out) (Kd.R_base ho0) hb); replace HO269 := mS (Kd.R_elder' (mR HO269.out) (Kd.R_base ho0) hb); replace HO272 := mS (Kd.R_elder' (mR HO272.out) (Kd.R_base ho0) hb); replace HB := mS (below_step (mH HB.out) hb); (try clear hb); (try clear hb2); (try clear hk); (try clear hi); (try clear ho0); obtain ⟨Ao84, co84, eo84⟩ := Kd.R_slice HO275.out; subst eo84) | ((with_reducible refine gate_builtin (b := .append) (xs := #[.tmp 86, .tmp 88]) rfl ?_); (try (refine gate_guard (by rfl) ?_; dsimp only)); at_builtin; refine Kd.R_append_rows (Kd.int .u8) (w0 := w) w.heap.size rfl (.tmp 86) (.tmp 88) 22 5 (.int .u8 0) 1 rfl Try.underlying22 info5 rfl (by decide) (by omega) v271 y270 t273 _ _ _ (fun k_ => some k_ ≠ (.slice Ao72 x5_2.length co72 : Value).ownBlock ∧ some k_ ≠ (.slice Ao69 y252.length co69 : Value).ownBlock ∧ some k_ ≠ (.slice Ao76 t261.length co76 : Value).ownBlock ∧ some k_ ≠ (.slice Ao78 y264.length co78 : Value).ownBlock ∧ some k_ ≠ (.slice Ao81 t267.length co81 : Value).ownBlock ∧ some k_ ≠ (.slice Ao84 t273.length co84 : Value).ownBlock) (fun _ => False) rfl rfl ?aO ?aR (fun _ _ h => h) (fun _ h => h.elim) ?aF ?aB ?aS ?aL ?_; (case aR => repeat (first | exact (Kd.R_reads' HO275.out).2.2 | (with_reducible refine Kd.C_alloc ?_ _) | (with_reducible refine Kd.C_drewN ?_ _) | (with_reducible refine Kd.C_drew ?_))); (case aB => exact (mH HB.out)); (case aF => exact (fun k_ hk => ⟨Kd.fresh' (Kd.R_lt (mR HO_5.out)) k_ hk, Kd.fresh' (Kd.R_lt (mR HO254.out)) k_ hk, Kd.fresh' (Kd.R_lt (mR HO263.out)) k_ hk, Kd.fresh' (Kd.R_lt (mR HO266.out)) k_ hk, Kd.fresh' (Kd.R_lt (mR HO269.out)) k_ hk, Kd.fresh' (Kd.R_lt (mR HO275.out)) k_ hk⟩)); (case aO => exact (by (with_reducible repeat (first | apply Kd.R_alloc | apply Kd.R_drewN | apply Kd.R_drew)); exact Kd.R_mono HO272.out (fun _ hk => ⟨hk.1.1, ⟨hk.1.2.1, ⟨hk.1.2.2.1, ⟨hk.1.2.2.2.1, ⟨hk.1.2.2.2.2, hk.2⟩⟩⟩⟩⟩))); (case aS => exact (below_size (mH HB.out))); (case aL => have := LMc66.out; omega); intro v277 w83 ho hb hg hat; rw [← Ny276.out] at ho; replace HO_4 := mS (Kd.R_over' (mR HO_4.out) (Kd.R_typed (mR HO272.out)) (by decide) hg); replace HO_5 := mS (Kd.R_after (ok := (fun k_ => some k_ ≠ (.slice Ao69 y252.length co69 : Value).ownBlock ∧ some k_ ≠ (.slice Ao76 t261.length co76 : Value).ownBlock ∧ some k_ ≠ (.slice Ao78 y264.length co78 : Value).ownBlock ∧ some k_ ≠ (.slice Ao81 t267.length co81 : Value).ownBlock ∧ some k_ ≠ (.slice Ao84 t273.length co84 : Value).ownBlock)) (by (with_reducible repeat (first | apply Kd.R_alloc | apply Kd.R_drewN | apply Kd.R_drew)); exact Kd.R_mono HO_5.out (fun _ hk => ⟨⟨hk.1.1.1, ⟨hk.1.1.2.1, ⟨hk.1.1.2.2.1, ⟨hk.1.1.2.2.2, hk.2⟩⟩⟩⟩, hk.1.2⟩)) hg hat); replace HO254 := mS (Kd.R_after (ok := (fun k_ => some k_ ≠ (.slice Ao72 x5_2.length co72 : Value).ownBlock ∧ some k_ ≠ (.slice Ao76 t261.length co76 : Value).ownBlock ∧ some k_ ≠ (.slice Ao78 y264.length co78 : Value).ownBlock ∧ some k_ ≠ (.slice Ao81 t267.length co81 : Value).ownBlock ∧ some k_ ≠ (.slice Ao84 t273.length co84 : Value).ownBlock)) (by (with_reducible repeat (first | apply Kd.R_alloc | apply Kd.R_drewN | apply Kd.R_drew)); exact Kd.R_mono HO254.out (fun _ hk => ⟨⟨hk.1.1.1, ⟨hk.1.1.2.1, ⟨hk.1.1.2.2.1, ⟨hk.1.1.2.2.2, hk.2⟩⟩⟩⟩, hk.1.2⟩)) hg hat); replace HO263 := mS (Kd.R_after (ok := (fun k_ => some k_ ≠ (.slice Ao72 x5_2.length co72 : Value).ownBlock ∧ some k_ ≠ (.slice Ao69 y252.length co69 : Value).ownBlock ∧ some k_ ≠ (.slice Ao78 y264.length co78 : Value).ownBlock ∧ some k_ ≠ (.slice Ao81 t267.length co81 : Value).ownBlock ∧ some k_ ≠ (.slice Ao84 t273.length co84 : Value).ownBlock)) (by (with_reducible repeat (first | apply Kd.R_alloc | apply Kd.R_drewN | apply Kd.R_drew)); exact Kd.R_mono HO263.out (fun _ hk => ⟨⟨hk.1.1.1, ⟨hk.1.1.2.1, ⟨hk.1.1.2.2.1, ⟨hk.1.1.2.2.2, hk.2⟩⟩⟩⟩, hk.1.2⟩)) hg hat); replace HO266 := mS (Kd.R_after (ok := (fun k_ => some k_ ≠ (.slice Ao72 x5_2.length co72 : Value).ownBlock ∧ some k_ ≠ (.slice Ao69 y252.length co69 : Value).ownBlock ∧ some k_ ≠ (.slice Ao76 t261.length co76 : Value).ownBlock ∧ some k_ ≠ (.slice Ao81 t267.length co81 : Value).ownBlock ∧ some k_ ≠ (.slice Ao84 t273.length co84 : Value).ownBlock)) (by (with_reducible repeat (first | apply Kd.R_alloc | apply Kd.R_drewN | apply Kd.R_drew)); exact Kd.R_mono HO266.out (fun _ hk => ⟨⟨hk.1.1.1, ⟨hk.1.1.2.1, ⟨hk.1.1.2.2.1, ⟨hk.1.1.2.2.2, hk.2⟩⟩⟩⟩, hk.1.2⟩)) hg hat); replace HO269 := mS (Kd.R_after (ok := (fun k_ => some k_ ≠ (.slice Ao72 x5_2.length co72 : Value).ownBlock ∧ some k_ ≠ (.slice Ao69 y252.length co69 : Value).ownBlock ∧ some k_ ≠ (.slice Ao76 t261.length co76 : Value).ownBlock ∧ some k_ ≠ (.slice Ao78 y264.length co78 : Value).ownBlock ∧ some k_ ≠ (.slice Ao84 t273.length co84 : Value).ownBlock)) (by (with_reducible repeat (first | apply Kd.R_alloc | apply Kd.R_drewN | apply Kd.R_drew)); exact Kd.R_mono HO269.out (fun _ hk => ⟨⟨hk.1.1.1, ⟨hk.1.1.2.1, ⟨hk.1.1.2.2.1, ⟨hk.1.1.2.2.2, hk.2⟩⟩⟩⟩, hk.1.2⟩)) hg hat); replace HO275 := mS (Kd.R_after (ok := (fun k_ => some k_ ≠ (.slice Ao72 x5_2.length co72 : Value).ownBlock ∧ some k_ ≠ (.slice Ao69 y252.length co69 : Value).ownBlock ∧ some k_ ≠ (.slice Ao76 t261.length co76 : Value).ownBlock ∧ some k_ ≠ (.slice Ao78 y264.length co78 : Value).ownBlock ∧ some k_ ≠ (.slice Ao81 t267.length co81 : Value).ownBlock)) (by (with_reducible repeat (first | apply Kd.R_alloc | apply Kd.R_drewN | apply Kd.R_drew)); exact Kd.R_mono HO275.out (fun _ hk => ⟨⟨hk.1.1.1.1.1.2, ⟨hk.1.1.1.1.2, ⟨hk.1.1.1.2, ⟨hk.1.1.2, hk.1.2⟩⟩⟩⟩, hk.2⟩)) hg hat); replace HB := mS (hb); have HO278 := mS (ho); clear HO272; clear ho hb hg hat))
              go_ret
              exact ⟨_, by first | rfl | (simp [errW_none, errW_some] <;> rfl) | (simp [*, errW_none, errW_some] <;> rfl), by (with_reducible repeat (first | apply Kd.R_alloc | apply Kd.R_drewN | apply Kd.R_drew)); exact Kd.R_mono HO278.out (fun _ hk => trivial), (mH HB.out)⟩
             ·rw [if_neg c66] at H
              exact absurd H (by simp)
            ·rw [if_neg c64] at H
             exact absurd H (by simp)
           ·rw [if_neg c62] at H
            exact absurd H (by simp)
          ·rw [if_neg c60] at H
           exact absurd H (by simp)

/-! ### laws_toPair: function 52 -/
def laws_toPair.f (a0_0 : ByteArray) (a0_1 : ByteArray) (a0_2 : Bool) : Option (ByteArray × ByteArray × Bool) := some (a0_0, a0_1, a0_2)
set_option maxHeartbeats 8000000 in
set_option maxRecDepth 100000 in
theorem laws_toPair.calls (a0_0 : ByteArray) (a0_1 : ByteArray) (a0_2 : Bool) (r1 : ByteArray) (r2 : ByteArray) (r3 : Bool) (w : World) (h : laws_toPair.f a0_0 a0_1 a0_2 = some (r1, r2, r3)) :
  Calls Try.prog 52 #[.agg #[.string a0_0, .string a0_1, .bool a0_2]] w fun e w' => e = .returned (.agg #[.string r1, .string r2, .bool r3]) ∧ Below w.heap.size w w' := by
 have hu84 := Try.underlying84
 have hu33 := Try.underlying33
 have HB := mS (Below.refl w.heap.size w)
 have H : (some (a0_0, a0_1, a0_2)) = some (r1, r2, r3) := h
 clear h
 simp only [Option.some.injEq, Prod.mk.injEq] at H
 obtain ⟨rfl, rfl, rfl⟩ := H
 go_enter Try.func52, Try.ntmps52
 go_wp2_with (first | ((with_reducible refine gate_dst (N := 1) rfl ?_); refine box_event ?hg (N := 1) ?hd (cs := #[.string a0_0, .string a0_1, .bool a0_2]) (t := 84) ?hr ?_; (case hd => rfl); (case hg => rfl); (case hr => first | (go_simp; done) | (go_simp; rfl)); intro gb279 hg w2 hbox hb; have BK279 := mS (hbox); have GW279 := mG hg (mH HB.out); have GE279 := mG hg (mH HB.out); replace HB := mS (below_step (mH HB.out) hb); clear hb hbox hg) | ((with_reducible refine gate_dst (N := 2) rfl ?_); refine box_event ?hg (N := 2) ?hd (cs := #[.string (⟨#[]⟩ : ByteArray), .string (⟨#[]⟩ : ByteArray), .bool false]) (t := 33) ?hr ?_; (case hd => rfl); (case hg => rfl); (case hr => first | (go_simp; done) | (go_simp; rfl)); intro gb280 hg w3 hbox hb; have BK280 := mS (hbox); have GW280 := mG hg (mH1 HB.out GE279.out); have GE280 := mG hg (mH1 HB.out GE279.out); replace HB := mS (below_step (mH1 HB.out GE279.out) hb); have NB279_280 := mNl hg BK279.out; have NB280_279 := mNg hg BK279.out; replace BK279 := mB BK279 hb; clear hb hbox hg) | ((with_reducible refine gate_dst (N := 3) rfl ?_); refine box_event ?hg (N := 3) ?hd (cs := #[.string (⟨#[]⟩ : ByteArray), .string (⟨#[]⟩ : ByteArray), .bool false]) (t := 33) ?hr ?_; (case hd => rfl); (case hg => rfl); (case hr => first | (go_simp; done) | (go_simp; rfl)); intro gb281 hg w4 hbox hb; have BK281 := mS (hbox); have GW281 := mG hg (mH2 HB.out GE279.out GE280.out); have GE281 := mG hg (mH2 HB.out GE279.out GE280.out); replace HB := mS (below_step (mH2 HB.out GE279.out GE280.out) hb); have NB279_281 := mNl hg BK279.out; have NB281_279 := mNg hg BK279.out; replace BK279 := mB BK279 hb; have NB280_281 := mNl hg BK280.out; have NB281_280 := mNg hg BK280.out; replace BK280 := mB BK280 hb; clear hb hbox hg; have hnb5 := NB279_280.out; have hnc5 := NB280_279.out; have hnb6 := NB279_281.out; have hnc6 := NB281_279.out; have hcz7_0 : w4.cell? ⟨gb279, 0, none⟩ = some (.string a0_0) := (blk_cell BK279.out 0).trans rfl; have hcz7_1 : w4.cell? ⟨gb279, 1, none⟩ = some (.string a0_1) := (blk_cell BK279.out 1).trans rfl; have hcz7_2 : w4.cell? ⟨gb279, 2, none⟩ = some (.bool a0_2) := (blk_cell BK279.out 2).trans rfl; have hfz7_0 := blk_frozen BK279.out 0; have hfz7_1 := blk_frozen BK279.out 1; have hfz7_2 := blk_frozen BK279.out 2; have hnb8 := NB281_280.out; have hnc8 := NB280_281.out; have hcz9_0 : w4.cell? ⟨gb281, 0, none⟩ = some (.string (⟨#[]⟩ : ByteArray)) := (blk_cell BK281.out 0).trans rfl; have hcz9_1 : w4.cell? ⟨gb281, 1, none⟩ = some (.string (⟨#[]⟩ : ByteArray)) := (blk_cell BK281.out 1).trans rfl; have hcz9_2 : w4.cell? ⟨gb281, 2, none⟩ = some (.bool false) := (blk_cell BK281.out 2).trans rfl; have hfz9_0 := blk_frozen BK281.out 0; have hfz9_1 := blk_frozen BK281.out 1; have hfz9_2 := blk_frozen BK281.out 2; have hcz10_0 : w4.cell? ⟨gb280, 0, none⟩ = some (.string (⟨#[]⟩ : ByteArray)) := (blk_cell BK280.out 0).trans rfl; have hcz10_1 : w4.cell? ⟨gb280, 1, none⟩ = some (.string (⟨#[]⟩ : ByteArray)) := (blk_cell BK280.out 1).trans rfl; have hcz10_2 : w4.cell? ⟨gb280, 2, none⟩ = some (.bool false) := (blk_cell BK280.out 2).trans rfl; have hfz10_0 := blk_frozen BK280.out 0; have hfz10_1 := blk_frozen BK280.out 1; have hfz10_2 := blk_frozen BK280.out 2))
 refine bodyPost_ret (results_cell_row rfl _ _ gb280 33 #[.string a0_0, .string a0_1, .bool a0_2] (0, 0) _ rfl (by (with_reducible repeat (first | refine blk_drewN ?_ _ | refine blk_drew ?_ | refine blk_alloc ?_ _)); refine blk_put (cs := #[.string a0_0, .string a0_1, .bool false]) ?_ 2 _ rfl; (with_reducible repeat (first | refine blk_drewN ?_ _ | refine blk_drew ?_ | refine blk_alloc ?_ _)); refine blk_put (cs := #[.string a0_0, .string (⟨#[]⟩ : ByteArray), .bool false]) ?_ 1 _ rfl; (with_reducible repeat (first | refine blk_drewN ?_ _ | refine blk_drew ?_ | refine blk_alloc ?_ _)); refine blk_put (cs := #[.string (⟨#[]⟩ : ByteArray), .string (⟨#[]⟩ : ByteArray), .bool false]) ?_ 0 _ rfl; (with_reducible repeat (first | refine blk_drewN ?_ _ | refine blk_drew ?_ | refine blk_alloc ?_ _)); refine blk_far ?_ NB280_281.out _; (with_reducible repeat (first | refine blk_drewN ?_ _ | refine blk_drew ?_ | refine blk_alloc ?_ _)); refine blk_far ?_ NB280_281.out _; (with_reducible repeat (first | refine blk_drewN ?_ _ | refine blk_drew ?_ | refine blk_alloc ?_ _)); refine blk_far ?_ NB280_281.out _; (with_reducible repeat (first | refine blk_drewN ?_ _ | refine blk_drew ?_ | refine blk_alloc ?_ _)); exact BK280.out) Try.underlying33 rfl (by kernel_rfl)) rfl ?_
 exact ⟨by first | rfl | (simp [errW_none, errW_some] <;> rfl) | (simp [*, errW_none, errW_some] <;> rfl), (mH3 HB.out GE279.out GE280.out GE281.out)⟩

end Go.Proofs.Ytbepbgfkajnlbaa.MFnExactPutTable
