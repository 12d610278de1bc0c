-- Written by mp.py, our own printer (wip/mp.py), and made shorter by wip/mp_shrink*.py.
import Derived.Test.YtgbejjeephipeaaVMShort
import Derived.Test.YtgbejjeephipeaaMFnExactFallx0
namespace Go.Proofs.Ytgbejjeephipeaa.MFnExactFall
open Go.RowKit Go.Proofs.YtgbejjeephipeaaW.PrintWords Go.Proofs.YtgbejjeephipeaaW.PrintLast Go.Proofs.YtgbejjeephipeaaW.PrintMore Go.Proofs.Ytgbejjeephipeaa.MWords
attribute [local go_sem] max2_int min2_int max_two min_two max_three min_three max_four min_four
set_option linter.unusedVariables false
set_option linter.unusedSimpArgs false
def spec_l2Copy.l0 : Nat → Int → List (S120) → List (S126) → List (S126) → Int → List (S120) → List (S126) → List (S126) → Int → Option ((List (S120)) × (List (S126)) × (List (S126)) × Int)
 | 0, _, _, _, _, _, _, _, _, _ => none
 | k + 1, x4, x222000, x222001, x222002, x222003, x236000, x236001, x236002, x236003 => if x4 < (x222000.length : Int) then (if 0 ≤ x4 then ((some (([] : List Int) : List Int)).bind fun y238 => (if y238.length + ((rd_T120 x222000 x4).f1).length < 140737488355328 then (if x236000.length < 3518437208883 then (spec_l2Copy.l0 k (wrap64 (x4 + 1)) x222000 x222001 x222002 x222003 (x236000 ++ [(⟨(rd_T120 x222000 x4).f0, (y238 ++ ((rd_T120 x222000 x4).f1)), (rd_T120 x222000 x4).f2⟩ : S120)]) x236001 x236002 x236003) else (none)) else (none))) else (none)) else (some (x236000, x236001, x236002, x236003))
def spec_l2Copy.f (k : Nat) (l0_0 : List (S120)) (l0_1 : List (S126)) (l0_2 : List (S126)) (a0_3 : Int) : Option ((List (S120)) × (List (S126)) × (List (S126)) × Int) := (some (([] : List (S126)) : List (S126))).bind fun y223 => (if y223.length + l0_1.length < 5864062014805 then ((some (([] : List (S126)) : List (S126))).bind fun y229 => (if y229.length + l0_2.length < 5864062014805 then (spec_l2Copy.l0 k 0 l0_0 l0_1 l0_2 a0_3 ([] : List (S120)) (y223 ++ l0_1) (y229 ++ l0_2) a0_3) else (none))) else (none))
def spec_l2Copy.T1 : Bool × List (List Nat × List Nat) := (true, [([], []), ([], []), ([1], [1]), ([0, 2], [0, 2]), ([], []), ([], []), ([5], [5]), ([4, 6, 3], [4, 6]), ([], []), ([8], [8]), ([3, 7, 9], [3, 7, 9]), ([], []), ([11, 10, 7, 0, 1, 2, 3, 4, 5, 6, 7, 8, 9, 10, 11], [10, 11])])
def spec_l2Copy.B1 : List Nat := [0, 0, 2, 7, 0, 0, 32, 127, 0, 256, 1023, 0, 4095]
theorem spec_l2Copy.tab1 : rtab .any (opsOf Try.f108 1) = spec_l2Copy.T1 := by kernel_rfl
theorem spec_l2Copy.bits1 : waitsOk spec_l2Copy.T1.2 spec_l2Copy.B1 = true := by kernel_rfl
def spec_l2Copy.T6 : Bool × List (List Nat × List Nat) := (true, [([], []), ([0], [0]), ([], []), ([2], [2]), ([], []), ([], []), ([5], [5]), ([4, 6], [4, 6]), ([], []), ([8], [8]), ([3, 7, 9], [3, 7, 9]), ([10], [10]), ([1, 11, 7], [1, 11]), ([0, 1, 2, 3, 4, 5, 6, 7, 8, 9, 10, 11, 12], []), ([13, 12, 12, 0, 1, 2, 3, 4, 5, 6, 7, 8, 9, 10, 11, 12], [12, 13])])
def spec_l2Copy.B6 : List Nat := [0, 1, 0, 4, 0, 0, 32, 112, 0, 256, 1020, 2044, 4095, 8191, 16383]
theorem spec_l2Copy.tab6 : rtab .any (opsOf Try.f108 6) = spec_l2Copy.T6 := by kernel_rfl
theorem spec_l2Copy.bits6 : waitsOk spec_l2Copy.T6.2 spec_l2Copy.B6 = true := by kernel_rfl
set_option maxHeartbeats 8000000 in
set_option maxRecDepth 100000 in
theorem spec_l2Copy.calls (k : Nat) (A0_0 : Option Addr) (c0_0 : Nat) (l0_0 : List (S120)) (A0_1 : Option Addr) (c0_1 : Nat) (l0_1 : List (S126)) (A0_2 : Option Addr) (c0_2 : Nat) (l0_2 : List (S126)) (a0_3 : Int) (r1 : List (S120)) (r2 : List (S126)) (r3 : List (S126)) (r4 : Int) (w : World) (hr0_0 : Kd.C k120 w A0_0 l0_0.length l0_0) (hc0_0 : l0_0.length ≤ c0_0) (hr0_1 : Kd.C k126 w A0_1 l0_1.length l0_1) (hc0_1 : l0_1.length ≤ c0_1) (hr0_2 : Kd.C k126 w A0_2 l0_2.length l0_2) (hc0_2 : l0_2.length ≤ c0_2) (h : spec_l2Copy.f k l0_0 l0_1 l0_2 a0_3 = some (r1, r2, r3, r4)) :
  Calls Try.prog 108 #[.agg #[.slice A0_0 l0_0.length c0_0, .slice A0_1 l0_1.length c0_1, .slice A0_2 l0_2.length c0_2, .int .i64 a0_3]] w fun e w' => ∃ v0_ v1_ v2_ : Value, e = .returned (.agg #[v0_, v1_, v2_, .int .i64 r4]) ∧ Kd.S k120 120 w' w.heap.size (fun _ => True) v0_ r1 ∧ Kd.R k126 126 w' w.heap.size (fun k_ => some k_ ≠ (v2_ : Value).ownBlock) v1_ r2 ∧ Kd.R k126 126 w' w.heap.size (fun k_ => some k_ ≠ (v1_ : Value).ownBlock) v2_ r3 ∧ Below w.heap.size w w' := by
 have hu63 := Try.underlying63
 have hu120 := Try.underlying120
 have HR0_0 := mS hr0_0
 have HC0_0 := mS hc0_0
 clear hr0_0 hc0_0
 have HR0_1 := mS hr0_1
 have HC0_1 := mS hc0_1
 clear hr0_1 hc0_1
 have HR0_2 := mS hr0_2
 have HC0_2 := mS hc0_2
 clear hr0_2 hc0_2
 have HB := mS (Below.refl w.heap.size w)
 have H : ((some (([] : List (S126)) : List (S126))).bind fun y223 => (if y223.length + l0_1.length < 5864062014805 then ((some (([] : List (S126)) : List (S126))).bind fun y229 => (if y229.length + l0_2.length < 5864062014805 then (spec_l2Copy.l0 k 0 l0_0 l0_1 l0_2 a0_3 ([] : List (S120)) (y223 ++ l0_1) (y229 ++ l0_2) a0_3) else (none))) else (none))) = some (r1, r2, r3, r4) := h
 clear h
 obtain ⟨y223, hy223⟩ : ∃ y_ : List (S126), y_ = (([] : List (S126))) := ⟨_, rfl⟩
 replace H : (if y223.length + l0_1.length < 5864062014805 then ((some (([] : List (S126)) : List (S126))).bind fun y229 => (if y229.length + l0_2.length < 5864062014805 then (spec_l2Copy.l0 k 0 l0_0 l0_1 l0_2 a0_3 ([] : List (S120)) (y223 ++ l0_1) (y229 ++ l0_2) a0_3) else (none))) else (none)) = some (r1, r2, r3, r4) := by first | (rw [hy223]; with_reducible exact H) | (have H2_ := (Option.bind_some _ _).symm.trans H; rw [hy223]; with_reducible exact H2_) | (have H2_ := (Option.bind_some _ _).symm.trans H; with_reducible exact H2_) | with_reducible exact H | (rw [hy223]; exact H) | exact H
 have Ny223 := mS hy223
 clear hy223
 by_cases c2 : y223.length + l0_1.length < 5864062014805
 ·rw [if_pos c2] at H
  have LMc2 := mS c2
  clear c2
  obtain ⟨y226, hy226⟩ : ∃ y_ : List (S126), y_ = (y223 ++ l0_1) := ⟨_, rfl⟩
  replace H : ((some (([] : List (S126)) : List (S126))).bind fun y229 => (if y229.length + l0_2.length < 5864062014805 then (spec_l2Copy.l0 k 0 l0_0 l0_1 l0_2 a0_3 ([] : List (S120)) y226 (y229 ++ l0_2) a0_3) else (none))) = some (r1, r2, r3, r4) := by first | (rw [hy226]; with_reducible exact H) | (have H2_ := (Option.bind_some _ _).symm.trans H; rw [hy226]; with_reducible exact H2_) | (have H2_ := (Option.bind_some _ _).symm.trans H; with_reducible exact H2_) | with_reducible exact H | (rw [hy226]; exact H) | exact H
  have Ny226 := mS hy226
  clear hy226
  obtain ⟨y229, hy229⟩ : ∃ y_ : List (S126), y_ = (([] : List (S126))) := ⟨_, rfl⟩
  replace H : (if y229.length + l0_2.length < 5864062014805 then (spec_l2Copy.l0 k 0 l0_0 l0_1 l0_2 a0_3 ([] : List (S120)) y226 (y229 ++ l0_2) a0_3) else (none)) = some (r1, r2, r3, r4) := by first | (rw [hy229]; with_reducible exact H) | (have H2_ := (Option.bind_some _ _).symm.trans H; rw [hy229]; with_reducible exact H2_) | (have H2_ := (Option.bind_some _ _).symm.trans H; with_reducible exact H2_) | with_reducible exact H | (rw [hy229]; exact H) | exact H
  have Ny229 := mS hy229
  clear hy229
  by_cases c3 : y229.length + l0_2.length < 5864062014805
  ·rw [if_pos c3] at H
   have LMc3 := mS c3
   clear c3
   obtain ⟨y232, hy232⟩ : ∃ y_ : List (S126), y_ = (y229 ++ l0_2) := ⟨_, rfl⟩
   replace H : (spec_l2Copy.l0 k 0 l0_0 l0_1 l0_2 a0_3 ([] : List (S120)) y226 y232 a0_3) = some (r1, r2, r3, r4) := by first | (rw [hy232]; with_reducible exact H) | (have H2_ := (Option.bind_some _ _).symm.trans H; rw [hy232]; with_reducible exact H2_) | (have H2_ := (Option.bind_some _ _).symm.trans H; with_reducible exact H2_) | with_reducible exact H | (rw [hy232]; exact H) | exact H
   have Ny232 := mS hy232
   clear hy232
   have H' := mS H
   clear H
   go_enter Try.func108, Try.ntmps108
   try go_wp2_with (first | ((with_reducible refine gate_dst (N := 1) rfl ?_); refine mBx 1 #[.slice A0_0 l0_0.length c0_0, .slice A0_1 l0_1.length c0_1, .slice A0_2 l0_2.length c0_2, .int .i64 a0_3] 63 ?_; intro gb221 hg w4 hbox hb; have BK221 := mS (hbox); have GW221 := mG hg (mH HB.out); have GE221 := mG hg (mH HB.out); replace HB := mS (below_step (mH HB.out) hb); clear hb hbox hg) | ((with_reducible refine gate_dst (N := 2) rfl ?_); refine mBx 2 #[.slice none 0 0, .slice none 0 0, .slice none 0 0, .int .i64 0] 63 ?_; intro gb222 hg w5 hbox hb; have BK222 := mS (hbox); have GW222 := mG hg (mH1 HB.out GE221.out); have GE222 := mG hg (mH1 HB.out GE221.out); replace HB := mS (below_step (mH1 HB.out GE221.out) hb); have NB221_222 := mNl hg BK221.out; have NB222_221 := mNg hg BK221.out; replace BK221 := mB BK221 hb; clear hb hbox hg))
   replace BK221 := mS (blk_drew BK221.out)
   replace BK222 := mS (blk_drew BK222.out)
   replace HB := mS (below_drew1 HB.out)
   refine start_ (n := 13) (S := fun w' => w'.cell? ⟨gb221, 0, none⟩ = some (.slice A0_0 l0_0.length c0_0) ∧ w'.cell? ⟨gb221, 1, none⟩ = some (.slice A0_1 l0_1.length c0_1) ∧ w'.cell? ⟨gb221, 2, none⟩ = some (.slice A0_2 l0_2.length c0_2) ∧ w'.cell? ⟨gb221, 3, none⟩ = some (.int .i64 a0_3)) (ds := []) (mb 0 13) (by kernel_rfl) rfl rfl (mc4 BK221.out) (fun hHeld => ?_); refine with_tabW spec_l2Copy.tab1 spec_l2Copy.bits1 (fun HT_ HW_ => ?_)
   generalize w5.drew = w6 at BK221 BK222 HB hHeld ⊢
   refine mpu 1 7 HT_.out (mr [0,1,1,11]) ?_
   refine mpu 5 11 HT_.out (mr [0,1,1,3,1,7]) ?_
   refine mpu 8 14 HT_.out (mr [0,1,1,3,1,2,1,4]) ?_
   refine mpt 2 8 HT_.out HW_.out (mr [0,1,2,2,1,2,1,4]) hHeld ?_
   refine mpt 6 12 HT_.out HW_.out (mr [0,1,2,2,2,1,1,4]) hHeld ?_
   refine mpt 9 15 HT_.out HW_.out (mr [0,1,2,2,2,1,2,3]) hHeld ?_
   refine join_ (σ := Value × Value × Value × Value × Nat) 1 (mb 12 1) (fun s_ => [(6, s_.1), (9, s_.2.1), (10, s_.2.2.1), (13, s_.2.2.2.1), (3, .pointer (some ⟨s_.2.2.2.2, 0, none⟩)), (16, .agg #[.slice none 0 0, s_.2.1, s_.2.2.2.1, .int .i64 a0_3])]) (fun s_ w' => (w'.cell? ⟨gb221, 0, none⟩ = some (.slice A0_0 l0_0.length c0_0) ∧ w'.cell? ⟨gb221, 1, none⟩ = some (.slice A0_1 l0_1.length c0_1) ∧ w'.cell? ⟨gb221, 2, none⟩ = some (.slice A0_2 l0_2.length c0_2) ∧ w'.cell? ⟨gb221, 3, none⟩ = some (.int .i64 a0_3)) ∧ (Kd.R k126 126 w' w.heap.size (fun k_ => some k_ ≠ (s_.2.2.2.1 : Value).ownBlock) s_.2.1 y226) ∧ (Kd.R k126 126 w' w.heap.size (fun k_ => some k_ ≠ (s_.2.1 : Value).ownBlock) s_.2.2.2.1 y232) ∧ (w'.heap[gb221]? = some (.cells #[.slice A0_0 l0_0.length c0_0, .slice A0_1 l0_1.length c0_1, .slice A0_2 l0_2.length c0_2, .int .i64 a0_3] 63 (0, 0))) ∧ (w'.heap[gb222]? = some (.cells #[.slice none 0 0, .slice none 0 0, .slice none 0 0, .int .i64 0] 63 (0, 0))) ∧ (w'.heap[s_.2.2.2.2]? = some (.cells #[.slice none 0 0, .slice none 0 0, .slice none 0 0, .int .i64 0] 63 (0, 0))) ∧ (w.heap.size ≤ s_.2.2.2.2) ∧ (w.heap.size ≤ s_.2.2.2.2) ∧ (gb221 ≠ s_.2.2.2.2) ∧ (s_.2.2.2.2 ≠ gb221) ∧ (gb222 ≠ s_.2.2.2.2) ∧ (s_.2.2.2.2 ≠ gb222) ∧ (Below w.heap.size w w')) ?_ ?_
   rotate_left
   ·intro hJ0_3_4_7_11
    refine join_ (σ := Value × Value × Value × Value) 2 (mb 11 2) (fun s_ => [(6, s_.1), (9, s_.2.1), (10, s_.2.2.1), (13, s_.2.2.2), (16, .agg #[.slice none 0 0, s_.2.1, s_.2.2.2, .int .i64 a0_3])]) (fun s_ w' => (w'.cell? ⟨gb221, 0, none⟩ = some (.slice A0_0 l0_0.length c0_0) ∧ w'.cell? ⟨gb221, 1, none⟩ = some (.slice A0_1 l0_1.length c0_1) ∧ w'.cell? ⟨gb221, 2, none⟩ = some (.slice A0_2 l0_2.length c0_2) ∧ w'.cell? ⟨gb221, 3, none⟩ = some (.int .i64 a0_3)) ∧ (Kd.R k126 126 w' w.heap.size (fun k_ => some k_ ≠ (s_.2.2.2 : Value).ownBlock) s_.2.1 y226) ∧ (Kd.R k126 126 w' w.heap.size (fun k_ => some k_ ≠ (s_.2.1 : Value).ownBlock) s_.2.2.2 y232) ∧ (w'.heap[gb221]? = some (.cells #[.slice A0_0 l0_0.length c0_0, .slice A0_1 l0_1.length c0_1, .slice A0_2 l0_2.length c0_2, .int .i64 a0_3] 63 (0, 0))) ∧ (w'.heap[gb222]? = some (.cells #[.slice none 0 0, .slice none 0 0, .slice none 0 0, .int .i64 0] 63 (0, 0))) ∧ (Below w.heap.size w w')) ?_ ?_
    rotate_left
    ·intro hJ0_3_4_7
     refine join_ (σ := Value × Value × Value × Nat) 3 (mr [7,1,2,1,1,1]) (fun s_ => [(6, s_.1), (9, s_.2.1), (10, s_.2.2.1), (3, .pointer (some ⟨s_.2.2.2, 0, none⟩))]) (fun s_ w' => (w'.cell? ⟨gb221, 0, none⟩ = some (.slice A0_0 l0_0.length c0_0) ∧ w'.cell? ⟨gb221, 1, none⟩ = some (.slice A0_1 l0_1.length c0_1) ∧ w'.cell? ⟨gb221, 2, none⟩ = some (.slice A0_2 l0_2.length c0_2) ∧ w'.cell? ⟨gb221, 3, none⟩ = some (.int .i64 a0_3)) ∧ (Kd.R k126 126 w' w.heap.size (fun k_ => some k_ ≠ (s_.2.2.1 : Value).ownBlock) s_.2.1 y226) ∧ (Kd.R k126 126 w' w.heap.size (fun k_ => some k_ ≠ (s_.2.1 : Value).ownBlock) s_.2.2.1 y229) ∧ (w'.heap[gb221]? = some (.cells #[.slice A0_0 l0_0.length c0_0, .slice A0_1 l0_1.length c0_1, .slice A0_2 l0_2.length c0_2, .int .i64 a0_3] 63 (0, 0))) ∧ (w'.heap[gb222]? = some (.cells #[.slice none 0 0, .slice none 0 0, .slice none 0 0, .int .i64 0] 63 (0, 0))) ∧ (w'.heap[s_.2.2.2]? = some (.cells #[.slice none 0 0, .slice none 0 0, .slice none 0 0, .int .i64 0] 63 (0, 0))) ∧ (w.heap.size ≤ s_.2.2.2) ∧ (w.heap.size ≤ s_.2.2.2) ∧ (gb221 ≠ s_.2.2.2) ∧ (s_.2.2.2 ≠ gb221) ∧ (gb222 ≠ s_.2.2.2) ∧ (s_.2.2.2 ≠ gb222) ∧ (Below w.heap.size w w')) ?_ ?_
     rotate_left
     ·intro hJ0_3_4_11
      refine join_ (σ := Value × Value × Value) 4 (mr [7,1,2,3]) (fun s_ => [(6, s_.1), (9, s_.2.1), (10, s_.2.2)]) (fun s_ w' => (w'.cell? ⟨gb221, 0, none⟩ = some (.slice A0_0 l0_0.length c0_0) ∧ w'.cell? ⟨gb221, 1, none⟩ = some (.slice A0_1 l0_1.length c0_1) ∧ w'.cell? ⟨gb221, 2, none⟩ = some (.slice A0_2 l0_2.length c0_2) ∧ w'.cell? ⟨gb221, 3, none⟩ = some (.int .i64 a0_3)) ∧ (Kd.R k126 126 w' w.heap.size (fun k_ => some k_ ≠ (s_.2.2 : Value).ownBlock) s_.2.1 y226) ∧ (Kd.R k126 126 w' w.heap.size (fun k_ => some k_ ≠ (s_.2.1 : Value).ownBlock) s_.2.2 y229) ∧ (w'.heap[gb221]? = some (.cells #[.slice A0_0 l0_0.length c0_0, .slice A0_1 l0_1.length c0_1, .slice A0_2 l0_2.length c0_2, .int .i64 a0_3] 63 (0, 0))) ∧ (w'.heap[gb222]? = some (.cells #[.slice none 0 0, .slice none 0 0, .slice none 0 0, .int .i64 0] 63 (0, 0))) ∧ (Below w.heap.size w w')) ?_ ?_
      rotate_left
      ·intro hJ0_3_4
       refine join_ (σ := Value × Value × Nat) 4 (mr [4,1,2,1,2,1,1,1]) (fun s_ => [(6, s_.1), (9, s_.2.1), (3, .pointer (some ⟨s_.2.2, 0, none⟩))]) (fun s_ w' => (w'.cell? ⟨gb221, 0, none⟩ = some (.slice A0_0 l0_0.length c0_0) ∧ w'.cell? ⟨gb221, 1, none⟩ = some (.slice A0_1 l0_1.length c0_1) ∧ w'.cell? ⟨gb221, 2, none⟩ = some (.slice A0_2 l0_2.length c0_2) ∧ w'.cell? ⟨gb221, 3, none⟩ = some (.int .i64 a0_3)) ∧ (Kd.R k126 126 w' w.heap.size (fun _ => True) s_.2.1 y226) ∧ (w'.heap[gb221]? = some (.cells #[.slice A0_0 l0_0.length c0_0, .slice A0_1 l0_1.length c0_1, .slice A0_2 l0_2.length c0_2, .int .i64 a0_3] 63 (0, 0))) ∧ (w'.heap[gb222]? = some (.cells #[.slice none 0 0, .slice none 0 0, .slice none 0 0, .int .i64 0] 63 (0, 0))) ∧ (w'.heap[s_.2.2]? = some (.cells #[.slice none 0 0, .slice none 0 0, .slice none 0 0, .int .i64 0] 63 (0, 0))) ∧ (w.heap.size ≤ s_.2.2) ∧ (w.heap.size ≤ s_.2.2) ∧ (gb221 ≠ s_.2.2) ∧ (s_.2.2 ≠ gb221) ∧ (gb222 ≠ s_.2.2) ∧ (s_.2.2 ≠ gb222) ∧ (Below w.heap.size w w')) ?_ ?_
       rotate_left
       ·intro hJ0_3_11
        refine join_ (σ := Value × Value × Nat) 4 (mr [3,1,3,1,2,1,1,1]) (fun s_ => [(6, s_.1), (10, s_.2.1), (3, .pointer (some ⟨s_.2.2, 0, none⟩))]) (fun s_ w' => (w'.cell? ⟨gb221, 0, none⟩ = some (.slice A0_0 l0_0.length c0_0) ∧ w'.cell? ⟨gb221, 1, none⟩ = some (.slice A0_1 l0_1.length c0_1) ∧ w'.cell? ⟨gb221, 2, none⟩ = some (.slice A0_2 l0_2.length c0_2) ∧ w'.cell? ⟨gb221, 3, none⟩ = some (.int .i64 a0_3)) ∧ (Kd.R k126 126 w' w.heap.size (fun k_ => some k_ ≠ (s_.2.1 : Value).ownBlock) s_.1 y223) ∧ (Kd.R k126 126 w' w.heap.size (fun k_ => some k_ ≠ (s_.1 : Value).ownBlock) s_.2.1 y229) ∧ (w'.heap[gb221]? = some (.cells #[.slice A0_0 l0_0.length c0_0, .slice A0_1 l0_1.length c0_1, .slice A0_2 l0_2.length c0_2, .int .i64 a0_3] 63 (0, 0))) ∧ (w'.heap[gb222]? = some (.cells #[.slice none 0 0, .slice none 0 0, .slice none 0 0, .int .i64 0] 63 (0, 0))) ∧ (w'.heap[s_.2.2]? = some (.cells #[.slice none 0 0, .slice none 0 0, .slice none 0 0, .int .i64 0] 63 (0, 0))) ∧ (w.heap.size ≤ s_.2.2) ∧ (w.heap.size ≤ s_.2.2) ∧ (gb221 ≠ s_.2.2) ∧ (s_.2.2 ≠ gb221) ∧ (gb222 ≠ s_.2.2) ∧ (s_.2.2 ≠ gb222) ∧ (Below w.heap.size w w')) ?_ ?_
        rotate_left
        ·intro hJ0_4_11
         refine join_ (σ := Value × Value) 5 (mr [4,1,2,1,2,3]) (fun s_ => [(6, s_.1), (9, s_.2)]) (fun s_ w' => (w'.cell? ⟨gb221, 0, none⟩ = some (.slice A0_0 l0_0.length c0_0) ∧ w'.cell? ⟨gb221, 1, none⟩ = some (.slice A0_1 l0_1.length c0_1) ∧ w'.cell? ⟨gb221, 2, none⟩ = some (.slice A0_2 l0_2.length c0_2) ∧ w'.cell? ⟨gb221, 3, none⟩ = some (.int .i64 a0_3)) ∧ (Kd.R k126 126 w' w.heap.size (fun _ => True) s_.2 y226) ∧ (w'.heap[gb221]? = some (.cells #[.slice A0_0 l0_0.length c0_0, .slice A0_1 l0_1.length c0_1, .slice A0_2 l0_2.length c0_2, .int .i64 a0_3] 63 (0, 0))) ∧ (w'.heap[gb222]? = some (.cells #[.slice none 0 0, .slice none 0 0, .slice none 0 0, .int .i64 0] 63 (0, 0))) ∧ (Below w.heap.size w w')) ?_ ?_
         rotate_left
         ·intro hJ0_3
          refine join_ (σ := Value × Value) 5 (mr [3,1,3,1,2,3]) (fun s_ => [(6, s_.1), (10, s_.2)]) (fun s_ w' => (w'.cell? ⟨gb221, 0, none⟩ = some (.slice A0_0 l0_0.length c0_0) ∧ w'.cell? ⟨gb221, 1, none⟩ = some (.slice A0_1 l0_1.length c0_1) ∧ w'.cell? ⟨gb221, 2, none⟩ = some (.slice A0_2 l0_2.length c0_2) ∧ w'.cell? ⟨gb221, 3, none⟩ = some (.int .i64 a0_3)) ∧ (Kd.R k126 126 w' w.heap.size (fun k_ => some k_ ≠ (s_.2 : Value).ownBlock) s_.1 y223) ∧ (Kd.R k126 126 w' w.heap.size (fun k_ => some k_ ≠ (s_.1 : Value).ownBlock) s_.2 y229) ∧ (w'.heap[gb221]? = some (.cells #[.slice A0_0 l0_0.length c0_0, .slice A0_1 l0_1.length c0_1, .slice A0_2 l0_2.length c0_2, .int .i64 a0_3] 63 (0, 0))) ∧ (w'.heap[gb222]? = some (.cells #[.slice none 0 0, .slice none 0 0, .slice none 0 0, .int .i64 0] 63 (0, 0))) ∧ (Below w.heap.size w w')) ?_ ?_
          rotate_left
          ·intro hJ0_4
           refine join_ (σ := Value × Nat) 5 (mr [3,2,2,1,2,1,1,1]) (fun s_ => [(6, s_.1), (3, .pointer (some ⟨s_.2, 0, none⟩))]) (fun s_ w' => (w'.cell? ⟨gb221, 0, none⟩ = some (.slice A0_0 l0_0.length c0_0) ∧ w'.cell? ⟨gb221, 1, none⟩ = some (.slice A0_1 l0_1.length c0_1) ∧ w'.cell? ⟨gb221, 2, none⟩ = some (.slice A0_2 l0_2.length c0_2) ∧ w'.cell? ⟨gb221, 3, none⟩ = some (.int .i64 a0_3)) ∧ (Kd.R k126 126 w' w.heap.size (fun _ => True) s_.1 y223) ∧ (w'.heap[gb221]? = some (.cells #[.slice A0_0 l0_0.length c0_0, .slice A0_1 l0_1.length c0_1, .slice A0_2 l0_2.length c0_2, .int .i64 a0_3] 63 (0, 0))) ∧ (w'.heap[gb222]? = some (.cells #[.slice none 0 0, .slice none 0 0, .slice none 0 0, .int .i64 0] 63 (0, 0))) ∧ (w'.heap[s_.2]? = some (.cells #[.slice none 0 0, .slice none 0 0, .slice none 0 0, .int .i64 0] 63 (0, 0))) ∧ (w.heap.size ≤ s_.2) ∧ (w.heap.size ≤ s_.2) ∧ (gb221 ≠ s_.2) ∧ (s_.2 ≠ gb221) ∧ (gb222 ≠ s_.2) ∧ (s_.2 ≠ gb222) ∧ (Below w.heap.size w w')) ?_ ?_
           rotate_left
           ·intro hJ0_11
            refine join_ (σ := Value × Nat) 5 (mr [0,1,2,1,3,1,2,1,1,1]) (fun s_ => [(10, s_.1), (3, .pointer (some ⟨s_.2, 0, none⟩))]) (fun s_ w' => (w'.cell? ⟨gb221, 0, none⟩ = some (.slice A0_0 l0_0.length c0_0) ∧ w'.cell? ⟨gb221, 1, none⟩ = some (.slice A0_1 l0_1.length c0_1) ∧ w'.cell? ⟨gb221, 2, none⟩ = some (.slice A0_2 l0_2.length c0_2) ∧ w'.cell? ⟨gb221, 3, none⟩ = some (.int .i64 a0_3)) ∧ (Kd.R k126 126 w' w.heap.size (fun _ => True) s_.1 y229) ∧ (w'.heap[gb221]? = some (.cells #[.slice A0_0 l0_0.length c0_0, .slice A0_1 l0_1.length c0_1, .slice A0_2 l0_2.length c0_2, .int .i64 a0_3] 63 (0, 0))) ∧ (w'.heap[gb222]? = some (.cells #[.slice none 0 0, .slice none 0 0, .slice none 0 0, .int .i64 0] 63 (0, 0))) ∧ (w'.heap[s_.2]? = some (.cells #[.slice none 0 0, .slice none 0 0, .slice none 0 0, .int .i64 0] 63 (0, 0))) ∧ (w.heap.size ≤ s_.2) ∧ (w.heap.size ≤ s_.2) ∧ (gb221 ≠ s_.2) ∧ (s_.2 ≠ gb221) ∧ (gb222 ≠ s_.2) ∧ (s_.2 ≠ gb222) ∧ (Below w.heap.size w w')) ?_ ?_
            rotate_left
            ·intro hJ4_11
             refine join_ (σ := Value) 6 (mr [3,2,2,1,2,3]) (fun s_ => [(6, s_)]) (fun s_ w' => (w'.cell? ⟨gb221, 0, none⟩ = some (.slice A0_0 l0_0.length c0_0) ∧ w'.cell? ⟨gb221, 1, none⟩ = some (.slice A0_1 l0_1.length c0_1) ∧ w'.cell? ⟨gb221, 2, none⟩ = some (.slice A0_2 l0_2.length c0_2) ∧ w'.cell? ⟨gb221, 3, none⟩ = some (.int .i64 a0_3)) ∧ (Kd.R k126 126 w' w.heap.size (fun _ => True) s_ y223) ∧ (w'.heap[gb221]? = some (.cells #[.slice A0_0 l0_0.length c0_0, .slice A0_1 l0_1.length c0_1, .slice A0_2 l0_2.length c0_2, .int .i64 a0_3] 63 (0, 0))) ∧ (w'.heap[gb222]? = some (.cells #[.slice none 0 0, .slice none 0 0, .slice none 0 0, .int .i64 0] 63 (0, 0))) ∧ (Below w.heap.size w w')) ?_ ?_
             rotate_left
             ·intro hJ0
              refine join_ (σ := Value) 6 (mr [0,1,2,1,3,1,2,3]) (fun s_ => [(10, s_)]) (fun s_ w' => (w'.cell? ⟨gb221, 0, none⟩ = some (.slice A0_0 l0_0.length c0_0) ∧ w'.cell? ⟨gb221, 1, none⟩ = some (.slice A0_1 l0_1.length c0_1) ∧ w'.cell? ⟨gb221, 2, none⟩ = some (.slice A0_2 l0_2.length c0_2) ∧ w'.cell? ⟨gb221, 3, none⟩ = some (.int .i64 a0_3)) ∧ (Kd.R k126 126 w' w.heap.size (fun _ => True) s_ y229) ∧ (w'.heap[gb221]? = some (.cells #[.slice A0_0 l0_0.length c0_0, .slice A0_1 l0_1.length c0_1, .slice A0_2 l0_2.length c0_2, .int .i64 a0_3] 63 (0, 0))) ∧ (w'.heap[gb222]? = some (.cells #[.slice none 0 0, .slice none 0 0, .slice none 0 0, .int .i64 0] 63 (0, 0))) ∧ (Below w.heap.size w w')) ?_ ?_
              rotate_left
              ·intro hJ4
               refine join_ (σ := Nat) 6 (mr [0,1,2,2,2,1,2,1,1,1]) (fun s_ => [(3, .pointer (some ⟨s_, 0, none⟩))]) (fun s_ w' => (w'.cell? ⟨gb221, 0, none⟩ = some (.slice A0_0 l0_0.length c0_0) ∧ w'.cell? ⟨gb221, 1, none⟩ = some (.slice A0_1 l0_1.length c0_1) ∧ w'.cell? ⟨gb221, 2, none⟩ = some (.slice A0_2 l0_2.length c0_2) ∧ w'.cell? ⟨gb221, 3, none⟩ = some (.int .i64 a0_3)) ∧ (w'.heap[gb221]? = some (.cells #[.slice A0_0 l0_0.length c0_0, .slice A0_1 l0_1.length c0_1, .slice A0_2 l0_2.length c0_2, .int .i64 a0_3] 63 (0, 0))) ∧ (w'.heap[gb222]? = some (.cells #[.slice none 0 0, .slice none 0 0, .slice none 0 0, .int .i64 0] 63 (0, 0))) ∧ (w'.heap[s_]? = some (.cells #[.slice none 0 0, .slice none 0 0, .slice none 0 0, .int .i64 0] 63 (0, 0))) ∧ (w.heap.size ≤ s_) ∧ (w.heap.size ≤ s_) ∧ (gb221 ≠ s_) ∧ (s_ ≠ gb221) ∧ (gb222 ≠ s_) ∧ (s_ ≠ gb222) ∧ (Below w.heap.size w w')) ?_ ?_
               rotate_left
               ·intro hJ11
                refine three_ (i := 0) (j := 4) (k := 11) (Ni := some 6) (Nj := some 10) (Nk := some 3) (mr [3,2,2,1,2,3]) (mr [0,1,2,1,3,1,2,3]) (mr [0,1,2,2,2,1,2,1,1,1]) rfl rfl rfl rfl rfl rfl (three_of HT_.out (by kernel_rfl)) (by decide) (by decide) (by decide) (fun K hK => ?_) (fun K hK => ?_) (fun K hK => ?_)
                ·skip
                 refine Kd.R_lit_step k126 _ 126 ?hg (N := 6) ?hd (xs := ([] : List (S126))) (inner := []) (ok := fun _ => True) (okp := fun _ => True) ?hr ?hp (fun _ hk => hk) trivial (Below.refl _ _) (Nat.le_refl _) (by simp) ?_; (case hd => rfl); (case hg => rfl); (case hr => first | (go_simp; done) | (go_simp; rfl)); (case hp => exact (Reps.none _ _))
                 intro v224 w7 ho8 hb hg_ hnew_
                 clear hg_ hnew_
                 (first | rw [← Ny223.out] at ho8 | (simp only [Int.reduceToNat] at ho8; rw [← Ny223.out] at ho8))
                 have HO225 := mS (Kd.R_lower ho8 (below_size (mH2 HB.out GE221.out GE222.out)))
                 replace BK221 := mB BK221 hb
                 replace BK222 := mB BK222 hb
                 replace HB := mS (below_step (mH2 HB.out GE221.out GE222.out) hb)
                 clear hb ho8
                 refine hK.out _ _ (mc4 BK221.out) (fun hHeld => ?_)
                 clear hK K
                 refine mno 6 ?_
                 exact mnx (hJ0 (_) _ ⟨hHeld, (mR HO225.out), (mK BK221.out), (mK BK222.out), (mH2 HB.out GE221.out GE222.out)⟩)
                ·skip
                 refine Kd.R_lit_step k126 _ 126 ?hg (N := 10) ?hd (xs := ([] : List (S126))) (inner := []) (ok := fun _ => True) (okp := fun _ => True) ?hr ?hp (fun _ hk => hk) trivial (Below.refl _ _) (Nat.le_refl _) (by simp) ?_; (case hd => rfl); (case hg => rfl); (case hr => first | (go_simp; done) | (go_simp; rfl)); (case hp => exact (Reps.none _ _))
                 intro v230 w7 ho8 hb hg_ hnew_
                 clear hg_ hnew_
                 (first | rw [← Ny229.out] at ho8 | (simp only [Int.reduceToNat] at ho8; rw [← Ny229.out] at ho8))
                 have HO231 := mS (Kd.R_lower ho8 (below_size (mH2 HB.out GE221.out GE222.out)))
                 replace BK221 := mB BK221 hb
                 replace BK222 := mB BK222 hb
                 replace HB := mS (below_step (mH2 HB.out GE221.out GE222.out) hb)
                 clear hb ho8
                 refine hK.out _ _ (mc4 BK221.out) (fun hHeld => ?_)
                 clear hK K
                 refine mno 10 ?_
                 exact mnx (hJ4 (_) _ ⟨hHeld, (mR HO231.out), (mK BK221.out), (mK BK222.out), (mH2 HB.out GE221.out GE222.out)⟩)
                ·skip
                 refine box_step ?hg (N := 3) ?hd (cs := #[.slice none 0 0, .slice none 0 0, .slice none 0 0, .int .i64 0]) (t := 63) ?hr ?_; (case hd => rfl); (case hg => rfl); (case hr => first | (go_simp; done) | (go_simp; rfl))
                 intro gb235 hg w7 hbox hb
                 have BK235 := mS (hbox)
                 have GW235 := mG hg (mH2 HB.out GE221.out GE222.out)
                 have GE235 := mG hg (mH2 HB.out GE221.out GE222.out)
                 replace HB := mS (below_step (mH2 HB.out GE221.out GE222.out) hb)
                 have NB221_235 := mNl hg BK221.out
                 have NB235_221 := mNg hg BK221.out
                 replace BK221 := mB BK221 hb
                 have NB222_235 := mNl hg BK222.out
                 have NB235_222 := mNg hg BK222.out
                 replace BK222 := mB BK222 hb
                 clear hb hbox hg
                 refine hK.out _ _ (mc4 BK221.out) (fun hHeld => ?_)
                 clear hK K
                 refine mno 3 ?_
                 exact mnx (hJ11 (gb235) _ ⟨hHeld, (mK BK221.out), (mK BK222.out), (mK BK235.out), GW235.out, GE235.out, NB221_235.out, NB235_221.out, NB222_235.out, NB235_222.out, (mH3 HB.out GE221.out GE222.out GE235.out)⟩)
               ·skip
                rintro gb235 w8 ⟨hHeld, h0_, h1_, h2_, h3_, h4_, h5_, h6_, h7_, h8_, h9_⟩
                replace BK221 := mS h0_
                replace BK222 := mS h1_
                have BK235 := mS h2_
                have GW235 := mS h3_
                have GE235 := mS h4_
                have NB221_235 := mS h5_
                have NB235_221 := mS h6_
                have NB222_235 := mS h7_
                have NB235_222 := mS h8_
                replace HB := mS h9_
                clear h0_ h1_ h2_ h3_ h4_ h5_ h6_ h7_ h8_ h9_
                refine mnp ?_
                refine two_ (i := 0) (j := 4) (Ni := some 6) (Nj := some 10) (mr [3,2,2,1,2,1,1,1]) (mr [0,1,2,1,3,1,2,1,1,1]) rfl rfl rfl rfl (two_of HT_.out (by kernel_rfl)) (by decide) (by decide) (fun K hK => ?_) (fun K hK => ?_)
                ·skip
                 refine Kd.R_lit_step k126 _ 126 ?hg (N := 6) ?hd (xs := ([] : List (S126))) (inner := []) (ok := fun _ => True) (okp := fun _ => True) ?hr ?hp (fun _ hk => hk) trivial (Below.refl _ _) (Nat.le_refl _) (by simp) ?_; (case hd => rfl); (case hg => rfl); (case hr => first | (go_simp; done) | (go_simp; rfl)); (case hp => exact (Reps.none _ _))
                 intro v224 w9 ho10 hb hg_ hnew_
                 clear hg_ hnew_
                 (first | rw [← Ny223.out] at ho10 | (simp only [Int.reduceToNat] at ho10; rw [← Ny223.out] at ho10))
                 have HO225 := mS (Kd.R_lower ho10 (below_size (mH3 HB.out GE221.out GE222.out GE235.out)))
                 replace BK221 := mB BK221 hb
                 replace BK222 := mB BK222 hb
                 replace BK235 := mB BK235 hb
                 replace HB := mS (below_step (mH3 HB.out GE221.out GE222.out GE235.out) hb)
                 clear hb ho10
                 refine hK.out _ _ (mc4 BK221.out) (fun hHeld => ?_)
                 clear hK K
                 refine mno 6 ?_
                 exact mnx (hJ0_11 (_, gb235) _ ⟨hHeld, (mR HO225.out), (mK BK221.out), (mK BK222.out), (mK BK235.out), GW235.out, GE235.out, NB221_235.out, NB235_221.out, NB222_235.out, NB235_222.out, (mH3 HB.out GE221.out GE222.out GE235.out)⟩)
                ·skip
                 refine Kd.R_lit_step k126 _ 126 ?hg (N := 10) ?hd (xs := ([] : List (S126))) (inner := []) (ok := fun _ => True) (okp := fun _ => True) ?hr ?hp (fun _ hk => hk) trivial (Below.refl _ _) (Nat.le_refl _) (by simp) ?_; (case hd => rfl); (case hg => rfl); (case hr => first | (go_simp; done) | (go_simp; rfl)); (case hp => exact (Reps.none _ _))
                 intro v230 w9 ho10 hb hg_ hnew_
                 clear hg_ hnew_
                 (first | rw [← Ny229.out] at ho10 | (simp only [Int.reduceToNat] at ho10; rw [← Ny229.out] at ho10))
                 have HO231 := mS (Kd.R_lower ho10 (below_size (mH3 HB.out GE221.out GE222.out GE235.out)))
                 replace BK221 := mB BK221 hb
                 replace BK222 := mB BK222 hb
                 replace BK235 := mB BK235 hb
                 replace HB := mS (below_step (mH3 HB.out GE221.out GE222.out GE235.out) hb)
                 clear hb ho10
                 refine hK.out _ _ (mc4 BK221.out) (fun hHeld => ?_)
                 clear hK K
                 refine mno 10 ?_
                 exact mnx (hJ4_11 (_, gb235) _ ⟨hHeld, (mR HO231.out), (mK BK221.out), (mK BK222.out), (mK BK235.out), GW235.out, GE235.out, NB221_235.out, NB235_221.out, NB222_235.out, NB235_222.out, (mH3 HB.out GE221.out GE222.out GE235.out)⟩)
              ·skip
               rintro v230 w9 ⟨hHeld, h0_, h1_, h2_, h3_⟩
               have HO231 := mS h0_
               replace BK221 := mS h1_
               replace BK222 := mS h2_
               replace HB := mS h3_
               clear h0_ h1_ h2_ h3_
               refine mnp ?_
               refine two_ (i := 0) (j := 11) (Ni := some 6) (Nj := some 3) (mr [3,1,3,1,2,3]) (mr [0,1,2,1,3,1,2,1,1,1]) rfl rfl rfl rfl (two_of HT_.out (by kernel_rfl)) (by decide) (by decide) (fun K hK => ?_) (fun K hK => ?_)
               ·skip
                refine Kd.R_lit_step k126 _ 126 ?hg (N := 6) ?hd (xs := ([] : List (S126))) (inner := []) (ok := fun _ => True) (okp := fun _ => True) ?hr ?hp (fun _ hk => hk) trivial (Below.refl _ _) (Nat.le_refl _) (by simp) ?_; (case hd => rfl); (case hg => rfl); (case hr => first | (go_simp; done) | (go_simp; rfl)); (case hp => exact (Reps.none _ _))
                intro v224 w10 ho11 hb hg_ hnew_
                clear hg_ hnew_
                (first | rw [← Ny223.out] at ho11 | (simp only [Int.reduceToNat] at ho11; rw [← Ny223.out] at ho11))
                have HO225 := mS (Kd.R_lower (Kd.R_new' ho11 (Kd.R_lt (mR HO231.out))) (below_size (mH2 HB.out GE221.out GE222.out)))
                replace HO231 := mS (Kd.R_elder' (mR HO231.out) (Kd.R_base ho11) hb)
                replace BK221 := mB BK221 hb
                replace BK222 := mB BK222 hb
                replace HB := mS (below_step (mH2 HB.out GE221.out GE222.out) hb)
                clear hb ho11
                refine hK.out _ _ (mc4 BK221.out) (fun hHeld => ?_)
                clear hK K
                refine mno 6 ?_
                exact mnx (hJ0_4 (_, _) _ ⟨hHeld, (by refine mR ?_; exact Kd.R_mono HO225.out (fun _ hk => hk.2)), (by refine mR ?_; exact Kd.R_mono HO231.out (fun _ hk => hk.2)), (mK BK221.out), (mK BK222.out), (mH2 HB.out GE221.out GE222.out)⟩)
               ·skip
                refine box_step ?hg (N := 3) ?hd (cs := #[.slice none 0 0, .slice none 0 0, .slice none 0 0, .int .i64 0]) (t := 63) ?hr ?_; (case hd => rfl); (case hg => rfl); (case hr => first | (go_simp; done) | (go_simp; rfl))
                intro gb235 hg w10 hbox hb
                replace HO231 := mS (Kd.R_below (mR HO231.out) hb)
                have BK235 := mS (hbox)
                have GW235 := mG hg (mH2 HB.out GE221.out GE222.out)
                have GE235 := mG hg (mH2 HB.out GE221.out GE222.out)
                replace HB := mS (below_step (mH2 HB.out GE221.out GE222.out) hb)
                have NB221_235 := mNl hg BK221.out
                have NB235_221 := mNg hg BK221.out
                replace BK221 := mB BK221 hb
                have NB222_235 := mNl hg BK222.out
                have NB235_222 := mNg hg BK222.out
                replace BK222 := mB BK222 hb
                clear hb hbox hg
                refine hK.out _ _ (mc4 BK221.out) (fun hHeld => ?_)
                clear hK K
                refine mno 3 ?_
                exact mnx (hJ4_11 (_, gb235) _ ⟨hHeld, (mR HO231.out), (mK BK221.out), (mK BK222.out), (mK BK235.out), GW235.out, GE235.out, NB221_235.out, NB235_221.out, NB222_235.out, NB235_222.out, (mH3 HB.out GE221.out GE222.out GE235.out)⟩)
             ·skip
              rintro v224 w9 ⟨hHeld, h0_, h1_, h2_, h3_⟩
              have HO225 := mS h0_
              replace BK221 := mS h1_
              replace BK222 := mS h2_
              replace HB := mS h3_
              clear h0_ h1_ h2_ h3_
              refine mnp ?_
              refine three_ (i := 3) (j := 4) (k := 11) (Ni := some 9) (Nj := some 10) (Nk := some 3) (mr [4,1,2,1,2,3]) (mr [3,1,3,1,2,3]) (mr [3,2,2,1,2,1,1,1]) rfl rfl rfl rfl rfl rfl (three_of HT_.out (by kernel_rfl)) (by decide) (by decide) (by decide) (fun K hK => ?_) (fun K hK => ?_) (fun K hK => ?_)
              ·skip
               refine Kd.R_append_rows_step k126 (w0 := w) w.heap.size (by rfl) (.tmp 6) (.tmp 8) 61 126 (.agg #[(.string ⟨#[]⟩), (.int .i64 0)]) 24 rfl Try.underlying61 info126 rfl (by decide) (by omega) v224 y223 l0_1 _ _ _ (fun _ => True) (fun _ => False) rfl rfl ?aO ?aR (fun _ _ h => h) (fun _ h => h.elim) ?aF ?aB ?aS ?aL ?_
               (case aR => exact mC (Kd.C_below HR0_1.out HB.out))
               (case aB => exact (mH2 HB.out GE221.out GE222.out))
               (case aF => exact (fun _ _ => trivial))
               (case aO => exact (mR HO225.out))
               (case aS => exact (below_size (mH2 HB.out GE221.out GE222.out)))
               (case aL => have := LMc2.out; omega)
               intro v227 w10 ho hb hg hat
               rw [← Ny226.out] at ho
               replace BK221 := mS (blk_grown (g := gb221) (o := .cells #[.slice A0_0 l0_0.length c0_0, .slice A0_1 l0_1.length c0_1, .slice A0_2 l0_2.length c0_2, .int .i64 a0_3] 63 (0, 0)) (mK BK221.out) hg (Kd.R_ne HO225.out BK221.out (by decide)))
               replace BK222 := mS (blk_grown (g := gb222) (o := .cells #[.slice none 0 0, .slice none 0 0, .slice none 0 0, .int .i64 0] 63 (0, 0)) (mK BK222.out) hg (Kd.R_ne HO225.out BK222.out (by decide)))
               replace HB := mS (hb)
               have HO228 := mS (ho)
               clear HO225
               clear ho hb hg hat
               refine hK.out _ _ (mc4 BK221.out) (fun hHeld => ?_)
               clear hK K
               refine mno 9 ?_
               exact mnx (hJ0_3 (_, _) _ ⟨hHeld, (mR HO228.out), (mK BK221.out), (mK BK222.out), (mH2 HB.out GE221.out GE222.out)⟩)
              ·skip
               refine Kd.R_lit_step k126 _ 126 ?hg (N := 10) ?hd (xs := ([] : List (S126))) (inner := []) (ok := fun _ => True) (okp := fun _ => True) ?hr ?hp (fun _ hk => hk) trivial (Below.refl _ _) (Nat.le_refl _) (by simp) ?_; (case hd => rfl); (case hg => rfl); (case hr => first | (go_simp; done) | (go_simp; rfl)); (case hp => exact (Reps.none _ _))
               intro v230 w10 ho11 hb hg_ hnew_
               clear hg_ hnew_
               (first | rw [← Ny229.out] at ho11 | (simp only [Int.reduceToNat] at ho11; rw [← Ny229.out] at ho11))
               have HO231 := mS (Kd.R_lower (Kd.R_new' ho11 (Kd.R_lt (mR HO225.out))) (below_size (mH2 HB.out GE221.out GE222.out)))
               replace HO225 := mS (Kd.R_elder' (mR HO225.out) (Kd.R_base ho11) hb)
               replace BK221 := mB BK221 hb
               replace BK222 := mB BK222 hb
               replace HB := mS (below_step (mH2 HB.out GE221.out GE222.out) hb)
               clear hb ho11
               refine hK.out _ _ (mc4 BK221.out) (fun hHeld => ?_)
               clear hK K
               refine mno 10 ?_
               exact mnx (hJ0_4 (_, _) _ ⟨hHeld, (by refine mR ?_; exact Kd.R_mono HO225.out (fun _ hk => hk.2)), (by refine mR ?_; exact Kd.R_mono HO231.out (fun _ hk => hk.2)), (mK BK221.out), (mK BK222.out), (mH2 HB.out GE221.out GE222.out)⟩)
              ·skip
               refine box_step ?hg (N := 3) ?hd (cs := #[.slice none 0 0, .slice none 0 0, .slice none 0 0, .int .i64 0]) (t := 63) ?hr ?_; (case hd => rfl); (case hg => rfl); (case hr => first | (go_simp; done) | (go_simp; rfl))
               intro gb235 hg w10 hbox hb
               replace HO225 := mS (Kd.R_below (mR HO225.out) hb)
               have BK235 := mS (hbox)
               have GW235 := mG hg (mH2 HB.out GE221.out GE222.out)
               have GE235 := mG hg (mH2 HB.out GE221.out GE222.out)
               replace HB := mS (below_step (mH2 HB.out GE221.out GE222.out) hb)
               have NB221_235 := mNl hg BK221.out
               have NB235_221 := mNg hg BK221.out
               replace BK221 := mB BK221 hb
               have NB222_235 := mNl hg BK222.out
               have NB235_222 := mNg hg BK222.out
               replace BK222 := mB BK222 hb
               clear hb hbox hg
               refine hK.out _ _ (mc4 BK221.out) (fun hHeld => ?_)
               clear hK K
               refine mno 3 ?_
               exact mnx (hJ0_11 (_, gb235) _ ⟨hHeld, (mR HO225.out), (mK BK221.out), (mK BK222.out), (mK BK235.out), GW235.out, GE235.out, NB221_235.out, NB235_221.out, NB222_235.out, NB235_222.out, (mH3 HB.out GE221.out GE222.out GE235.out)⟩)
            ·skip
             rintro ⟨v230, gb235⟩ w10 ⟨hS_, h0_, h1_, h2_, h3_, h4_, h5_, h6_, h7_, h8_, h9_, h10_⟩
             have HO231 : Aside0 (Kd.R k126 126 w10 w.heap.size (fun _ => True) v230 y229) := ⟨h0_⟩
             replace BK221 : Aside0 (w10.heap[gb221]? = some (.cells #[.slice A0_0 l0_0.length c0_0, .slice A0_1 l0_1.length c0_1, .slice A0_2 l0_2.length c0_2, .int .i64 a0_3] 63 (0, 0))) := ⟨h1_⟩
             replace BK222 : Aside0 (w10.heap[gb222]? = some (.cells #[.slice none 0 0, .slice none 0 0, .slice none 0 0, .int .i64 0] 63 (0, 0))) := ⟨h2_⟩
             have BK235 : Aside0 (w10.heap[gb235]? = some (.cells #[.slice none 0 0, .slice none 0 0, .slice none 0 0, .int .i64 0] 63 (0, 0))) := ⟨h3_⟩
             have GW235 : Aside0 (w.heap.size ≤ gb235) := ⟨h4_⟩
             have GE235 : Aside0 (w.heap.size ≤ gb235) := ⟨h5_⟩
             have NB221_235 : Aside0 (gb221 ≠ gb235) := ⟨h6_⟩
             have NB235_221 : Aside0 (gb235 ≠ gb221) := ⟨h7_⟩
             have NB222_235 : Aside0 (gb222 ≠ gb235) := ⟨h8_⟩
             have NB235_222 : Aside0 (gb235 ≠ gb222) := ⟨h9_⟩
             replace HB : Aside0 (Below w.heap.size w w10) := ⟨h10_⟩
             clear h0_ h1_ h2_ h3_ h4_ h5_ h6_ h7_ h8_ h9_ h10_
             have hHeld : w10.cell? ⟨gb221, 0, none⟩ = some (.slice A0_0 l0_0.length c0_0) ∧ w10.cell? ⟨gb221, 1, none⟩ = some (.slice A0_1 l0_1.length c0_1) ∧ w10.cell? ⟨gb221, 2, none⟩ = some (.slice A0_2 l0_2.length c0_2) ∧ w10.cell? ⟨gb221, 3, none⟩ = some (.int .i64 a0_3) := hS_
             refine mnp ?_
             refine mone 0 (some 6) HT_.out (mr [3,1,3,1,2,1,1,1]) (fun K hK => ?_)
             refine Kd.R_lit_step k126 _ 126 ?hg (N := 6) ?hd (xs := ([] : List (S126))) (inner := []) (ok := fun _ => True) (okp := fun _ => True) ?hr ?hp (fun _ hk => hk) trivial (Below.refl _ _) (Nat.le_refl _) (by simp) ?_; (case hd => rfl); (case hg => rfl); (case hr => first | (go_simp; done) | (go_simp; rfl)); (case hp => exact (Reps.none _ _))
             intro v224 w11 ho12 hb hg_ hnew_
             clear hg_ hnew_
             (first | rw [← Ny223.out] at ho12 | (simp only [Int.reduceToNat] at ho12; rw [← Ny223.out] at ho12))
             have HO225 := mS (Kd.R_lower (Kd.R_new' ho12 (Kd.R_lt (mR HO231.out))) (below_size (mH3 HB.out GE221.out GE222.out GE235.out)))
             replace HO231 := mS (Kd.R_elder' (mR HO231.out) (Kd.R_base ho12) hb)
             replace BK221 := mB BK221 hb
             replace BK222 := mB BK222 hb
             replace BK235 := mB BK235 hb
             replace HB := mS (below_step (mH3 HB.out GE221.out GE222.out GE235.out) hb)
             clear hb ho12
             refine hK.out _ _ (mc4 BK221.out) (fun hHeld => ?_)
             clear hK K
             refine mno 6 ?_
             exact mnx (hJ0_4_11 (_, _, gb235) _ ⟨hHeld, (by refine mR ?_; exact Kd.R_mono HO225.out (fun _ hk => hk.2)), (by refine mR ?_; exact Kd.R_mono HO231.out (fun _ hk => hk.2)), (mK BK221.out), (mK BK222.out), (mK BK235.out), GW235.out, GE235.out, NB221_235.out, NB235_221.out, NB222_235.out, NB235_222.out, (mH3 HB.out GE221.out GE222.out GE235.out)⟩)
           ·skip
            rintro ⟨v224, gb235⟩ w10 ⟨hS_, h0_, h1_, h2_, h3_, h4_, h5_, h6_, h7_, h8_, h9_, h10_⟩
            have HO225 : Aside0 (Kd.R k126 126 w10 w.heap.size (fun _ => True) v224 y223) := ⟨h0_⟩
            replace BK221 : Aside0 (w10.heap[gb221]? = some (.cells #[.slice A0_0 l0_0.length c0_0, .slice A0_1 l0_1.length c0_1, .slice A0_2 l0_2.length c0_2, .int .i64 a0_3] 63 (0, 0))) := ⟨h1_⟩
            replace BK222 : Aside0 (w10.heap[gb222]? = some (.cells #[.slice none 0 0, .slice none 0 0, .slice none 0 0, .int .i64 0] 63 (0, 0))) := ⟨h2_⟩
            have BK235 : Aside0 (w10.heap[gb235]? = some (.cells #[.slice none 0 0, .slice none 0 0, .slice none 0 0, .int .i64 0] 63 (0, 0))) := ⟨h3_⟩
            have GW235 : Aside0 (w.heap.size ≤ gb235) := ⟨h4_⟩
            have GE235 : Aside0 (w.heap.size ≤ gb235) := ⟨h5_⟩
            have NB221_235 : Aside0 (gb221 ≠ gb235) := ⟨h6_⟩
            have NB235_221 : Aside0 (gb235 ≠ gb221) := ⟨h7_⟩
            have NB222_235 : Aside0 (gb222 ≠ gb235) := ⟨h8_⟩
            have NB235_222 : Aside0 (gb235 ≠ gb222) := ⟨h9_⟩
            replace HB : Aside0 (Below w.heap.size w w10) := ⟨h10_⟩
            clear h0_ h1_ h2_ h3_ h4_ h5_ h6_ h7_ h8_ h9_ h10_
            have hHeld : w10.cell? ⟨gb221, 0, none⟩ = some (.slice A0_0 l0_0.length c0_0) ∧ w10.cell? ⟨gb221, 1, none⟩ = some (.slice A0_1 l0_1.length c0_1) ∧ w10.cell? ⟨gb221, 2, none⟩ = some (.slice A0_2 l0_2.length c0_2) ∧ w10.cell? ⟨gb221, 3, none⟩ = some (.int .i64 a0_3) := hS_
            refine mnp ?_
            refine two_ (i := 3) (j := 4) (Ni := some 9) (Nj := some 10) (mr [4,1,2,1,2,1,1,1]) (mr [3,1,3,1,2,1,1,1]) rfl rfl rfl rfl (two_of HT_.out (by kernel_rfl)) (by decide) (by decide) (fun K hK => ?_) (fun K hK => ?_)
            ·skip
             refine Kd.R_append_rows_step k126 (w0 := w) w.heap.size (by rfl) (.tmp 6) (.tmp 8) 61 126 (.agg #[(.string ⟨#[]⟩), (.int .i64 0)]) 24 rfl Try.underlying61 info126 rfl (by decide) (by omega) v224 y223 l0_1 _ _ _ (fun _ => True) (fun _ => False) rfl rfl ?aO ?aR (fun _ _ h => h) (fun _ h => h.elim) ?aF ?aB ?aS ?aL ?_
             (case aR => exact mC (Kd.C_below HR0_1.out HB.out))
             (case aB => exact (mH3 HB.out GE221.out GE222.out GE235.out))
             (case aF => exact (fun _ _ => trivial))
             (case aO => exact (mR HO225.out))
             (case aS => exact (below_size (mH3 HB.out GE221.out GE222.out GE235.out)))
             (case aL => have := LMc2.out; omega)
             intro v227 w11 ho hb hg hat
             rw [← Ny226.out] at ho
             replace BK221 := mS (blk_grown (g := gb221) (o := .cells #[.slice A0_0 l0_0.length c0_0, .slice A0_1 l0_1.length c0_1, .slice A0_2 l0_2.length c0_2, .int .i64 a0_3] 63 (0, 0)) (mK BK221.out) hg (Kd.R_ne HO225.out BK221.out (by decide)))
             replace BK222 := mS (blk_grown (g := gb222) (o := .cells #[.slice none 0 0, .slice none 0 0, .slice none 0 0, .int .i64 0] 63 (0, 0)) (mK BK222.out) hg (Kd.R_ne HO225.out BK222.out (by decide)))
             replace BK235 := mS (blk_grown (g := gb235) (o := .cells #[.slice none 0 0, .slice none 0 0, .slice none 0 0, .int .i64 0] 63 (0, 0)) (mK BK235.out) hg (Kd.R_ne HO225.out BK235.out (by decide)))
             replace HB := mS (hb)
             have HO228 := mS (ho)
             clear HO225
             clear ho hb hg hat
             refine hK.out _ _ (mc4 BK221.out) (fun hHeld => ?_)
             clear hK K
             refine mno 9 ?_
             exact mnx (hJ0_3_11 (_, _, gb235) _ ⟨hHeld, (mR HO228.out), (mK BK221.out), (mK BK222.out), (mK BK235.out), GW235.out, GE235.out, NB221_235.out, NB235_221.out, NB222_235.out, NB235_222.out, (mH3 HB.out GE221.out GE222.out GE235.out)⟩)
            ·skip
             refine Kd.R_lit_step k126 _ 126 ?hg (N := 10) ?hd (xs := ([] : List (S126))) (inner := []) (ok := fun _ => True) (okp := fun _ => True) ?hr ?hp (fun _ hk => hk) trivial (Below.refl _ _) (Nat.le_refl _) (by simp) ?_; (case hd => rfl); (case hg => rfl); (case hr => first | (go_simp; done) | (go_simp; rfl)); (case hp => exact (Reps.none _ _))
             intro v230 w11 ho12 hb hg_ hnew_
             clear hg_ hnew_
             (first | rw [← Ny229.out] at ho12 | (simp only [Int.reduceToNat] at ho12; rw [← Ny229.out] at ho12))
             have HO231 := mS (Kd.R_lower (Kd.R_new' ho12 (Kd.R_lt (mR HO225.out))) (below_size (mH3 HB.out GE221.out GE222.out GE235.out)))
             replace HO225 := mS (Kd.R_elder' (mR HO225.out) (Kd.R_base ho12) hb)
             replace BK221 := mB BK221 hb
             replace BK222 := mB BK222 hb
             replace BK235 := mB BK235 hb
             replace HB := mS (below_step (mH3 HB.out GE221.out GE222.out GE235.out) hb)
             clear hb ho12
             refine hK.out _ _ (mc4 BK221.out) (fun hHeld => ?_)
             clear hK K
             refine mno 10 ?_
             exact mnx (hJ0_4_11 (_, _, gb235) _ ⟨hHeld, (by refine mR ?_; exact Kd.R_mono HO225.out (fun _ hk => hk.2)), (by refine mR ?_; exact Kd.R_mono HO231.out (fun _ hk => hk.2)), (mK BK221.out), (mK BK222.out), (mK BK235.out), GW235.out, GE235.out, NB221_235.out, NB235_221.out, NB222_235.out, NB235_222.out, (mH3 HB.out GE221.out GE222.out GE235.out)⟩)
          ·skip
           rintro ⟨v224, v230⟩ w11 ⟨hS_, h0_, h1_, h2_, h3_, h4_⟩
           have HO225 : Aside0 (Kd.R k126 126 w11 w.heap.size (fun k_ => some k_ ≠ (v230 : Value).ownBlock) v224 y223) := ⟨h0_⟩
           have HO231 : Aside0 (Kd.R k126 126 w11 w.heap.size (fun k_ => some k_ ≠ (v224 : Value).ownBlock) v230 y229) := ⟨h1_⟩
           replace BK221 : Aside0 (w11.heap[gb221]? = some (.cells #[.slice A0_0 l0_0.length c0_0, .slice A0_1 l0_1.length c0_1, .slice A0_2 l0_2.length c0_2, .int .i64 a0_3] 63 (0, 0))) := ⟨h2_⟩
           replace BK222 : Aside0 (w11.heap[gb222]? = some (.cells #[.slice none 0 0, .slice none 0 0, .slice none 0 0, .int .i64 0] 63 (0, 0))) := ⟨h3_⟩
           replace HB : Aside0 (Below w.heap.size w w11) := ⟨h4_⟩
           clear h0_ h1_ h2_ h3_ h4_
           have hHeld : w11.cell? ⟨gb221, 0, none⟩ = some (.slice A0_0 l0_0.length c0_0) ∧ w11.cell? ⟨gb221, 1, none⟩ = some (.slice A0_1 l0_1.length c0_1) ∧ w11.cell? ⟨gb221, 2, none⟩ = some (.slice A0_2 l0_2.length c0_2) ∧ w11.cell? ⟨gb221, 3, none⟩ = some (.int .i64 a0_3) := hS_
           refine mnp ?_
           refine two_ (i := 3) (j := 11) (Ni := some 9) (Nj := some 3) (mr [7,1,2,3]) (mr [3,1,3,1,2,1,1,1]) rfl rfl rfl rfl (two_of HT_.out (by kernel_rfl)) (by decide) (by decide) (fun K hK => ?_) (fun K hK => ?_)
           ·skip
            refine Kd.R_append_rows_step k126 (w0 := w) w.heap.size (by rfl) (.tmp 6) (.tmp 8) 61 126 (.agg #[(.string ⟨#[]⟩), (.int .i64 0)]) 24 rfl Try.underlying61 info126 rfl (by decide) (by omega) v224 y223 l0_1 _ _ _ (fun k_ => some k_ ≠ (v230 : Value).ownBlock) (fun _ => False) rfl rfl ?aO ?aR (fun _ _ h => h) (fun _ h => h.elim) ?aF ?aB ?aS ?aL ?_
            (case aR => exact mC (Kd.C_below HR0_1.out HB.out))
            (case aB => exact (mH2 HB.out GE221.out GE222.out))
            (case aF => exact (fun k_ hk => Kd.fresh' (Kd.R_lt (mR HO231.out)) k_ hk))
            (case aO => exact (mR HO225.out))
            (case aS => exact (below_size (mH2 HB.out GE221.out GE222.out)))
            (case aL => have := LMc2.out; omega)
            intro v227 w12 ho hb hg hat
            rw [← Ny226.out] at ho
            replace BK221 := mS (blk_grown (g := gb221) (o := .cells #[.slice A0_0 l0_0.length c0_0, .slice A0_1 l0_1.length c0_1, .slice A0_2 l0_2.length c0_2, .int .i64 a0_3] 63 (0, 0)) (mK BK221.out) hg (Kd.R_ne HO225.out BK221.out (by decide)))
            replace BK222 := mS (blk_grown (g := gb222) (o := .cells #[.slice none 0 0, .slice none 0 0, .slice none 0 0, .int .i64 0] 63 (0, 0)) (mK BK222.out) hg (Kd.R_ne HO225.out BK222.out (by decide)))
            replace HO231 := mS (Kd.R_after (ok := (fun _ => True)) (by refine mR ?_; exact Kd.R_mono HO231.out (fun _ hk => ⟨trivial, hk⟩)) hg hat)
            replace HB := mS (hb)
            have HO228 := mS (ho)
            clear HO225
            clear ho hb hg hat
            refine hK.out _ _ (mc4 BK221.out) (fun hHeld => ?_)
            clear hK K
            refine mno 9 ?_
            exact mnx (hJ0_3_4 (_, _, _) _ ⟨hHeld, (mR HO228.out), (by refine mR ?_; exact Kd.R_mono HO231.out (fun _ hk => hk.2)), (mK BK221.out), (mK BK222.out), (mH2 HB.out GE221.out GE222.out)⟩)
           ·skip
            refine box_step ?hg (N := 3) ?hd (cs := #[.slice none 0 0, .slice none 0 0, .slice none 0 0, .int .i64 0]) (t := 63) ?hr ?_; (case hd => rfl); (case hg => rfl); (case hr => first | (go_simp; done) | (go_simp; rfl))
            intro gb235 hg w12 hbox hb
            replace HO225 := mS (Kd.R_below (mR HO225.out) hb)
            replace HO231 := mS (Kd.R_below (mR HO231.out) hb)
            have BK235 := mS (hbox)
            have GW235 := mG hg (mH2 HB.out GE221.out GE222.out)
            have GE235 := mG hg (mH2 HB.out GE221.out GE222.out)
            replace HB := mS (below_step (mH2 HB.out GE221.out GE222.out) hb)
            have NB221_235 := mNl hg BK221.out
            have NB235_221 := mNg hg BK221.out
            replace BK221 := mB BK221 hb
            have NB222_235 := mNl hg BK222.out
            have NB235_222 := mNg hg BK222.out
            replace BK222 := mB BK222 hb
            clear hb hbox hg
            refine hK.out _ _ (mc4 BK221.out) (fun hHeld => ?_)
            clear hK K
            refine mno 3 ?_
            exact mnx (hJ0_4_11 (_, _, gb235) _ ⟨hHeld, (mR HO225.out), (mR HO231.out), (mK BK221.out), (mK BK222.out), (mK BK235.out), GW235.out, GE235.out, NB221_235.out, NB235_221.out, NB222_235.out, NB235_222.out, (mH3 HB.out GE221.out GE222.out GE235.out)⟩)
         ·skip
          rintro ⟨v224, v227⟩ w10 ⟨hS_, h0_, h1_, h2_, h3_⟩
          have HO228 : Aside0 (Kd.R k126 126 w10 w.heap.size (fun _ => True) v227 y226) := ⟨h0_⟩
          replace BK221 : Aside0 (w10.heap[gb221]? = some (.cells #[.slice A0_0 l0_0.length c0_0, .slice A0_1 l0_1.length c0_1, .slice A0_2 l0_2.length c0_2, .int .i64 a0_3] 63 (0, 0))) := ⟨h1_⟩
          replace BK222 : Aside0 (w10.heap[gb222]? = some (.cells #[.slice none 0 0, .slice none 0 0, .slice none 0 0, .int .i64 0] 63 (0, 0))) := ⟨h2_⟩
          replace HB : Aside0 (Below w.heap.size w w10) := ⟨h3_⟩
          clear h0_ h1_ h2_ h3_
          have hHeld : w10.cell? ⟨gb221, 0, none⟩ = some (.slice A0_0 l0_0.length c0_0) ∧ w10.cell? ⟨gb221, 1, none⟩ = some (.slice A0_1 l0_1.length c0_1) ∧ w10.cell? ⟨gb221, 2, none⟩ = some (.slice A0_2 l0_2.length c0_2) ∧ w10.cell? ⟨gb221, 3, none⟩ = some (.int .i64 a0_3) := hS_
          refine mnp ?_
          refine two_ (i := 4) (j := 11) (Ni := some 10) (Nj := some 3) (mr [7,1,2,3]) (mr [4,1,2,1,2,1,1,1]) rfl rfl rfl rfl (two_of HT_.out (by kernel_rfl)) (by decide) (by decide) (fun K hK => ?_) (fun K hK => ?_)
          ·skip
           refine Kd.R_lit_step k126 _ 126 ?hg (N := 10) ?hd (xs := ([] : List (S126))) (inner := []) (ok := fun _ => True) (okp := fun _ => True) ?hr ?hp (fun _ hk => hk) trivial (Below.refl _ _) (Nat.le_refl _) (by simp) ?_; (case hd => rfl); (case hg => rfl); (case hr => first | (go_simp; done) | (go_simp; rfl)); (case hp => exact (Reps.none _ _))
           intro v230 w11 ho12 hb hg_ hnew_
           clear hg_ hnew_
           (first | rw [← Ny229.out] at ho12 | (simp only [Int.reduceToNat] at ho12; rw [← Ny229.out] at ho12))
           have HO231 := mS (Kd.R_lower (Kd.R_new' ho12 (Kd.R_lt (mR HO228.out))) (below_size (mH2 HB.out GE221.out GE222.out)))
           replace HO228 := mS (Kd.R_elder' (mR HO228.out) (Kd.R_base ho12) hb)
           replace BK221 := mB BK221 hb
           replace BK222 := mB BK222 hb
           replace HB := mS (below_step (mH2 HB.out GE221.out GE222.out) hb)
           clear hb ho12
           refine hK.out _ _ (mc4 BK221.out) (fun hHeld => ?_)
           clear hK K
           refine mno 10 ?_
           exact mnx (hJ0_3_4 (_, _, _) _ ⟨hHeld, (by refine mR ?_; exact Kd.R_mono HO228.out (fun _ hk => hk.2)), (by refine mR ?_; exact Kd.R_mono HO231.out (fun _ hk => hk.2)), (mK BK221.out), (mK BK222.out), (mH2 HB.out GE221.out GE222.out)⟩)
          ·skip
           refine box_step ?hg (N := 3) ?hd (cs := #[.slice none 0 0, .slice none 0 0, .slice none 0 0, .int .i64 0]) (t := 63) ?hr ?_; (case hd => rfl); (case hg => rfl); (case hr => first | (go_simp; done) | (go_simp; rfl))
           intro gb235 hg w11 hbox hb
           replace HO228 := mS (Kd.R_below (mR HO228.out) hb)
           have BK235 := mS (hbox)
           have GW235 := mG hg (mH2 HB.out GE221.out GE222.out)
           have GE235 := mG hg (mH2 HB.out GE221.out GE222.out)
           replace HB := mS (below_step (mH2 HB.out GE221.out GE222.out) hb)
           have NB221_235 := mNl hg BK221.out
           have NB235_221 := mNg hg BK221.out
           replace BK221 := mB BK221 hb
           have NB222_235 := mNl hg BK222.out
           have NB235_222 := mNg hg BK222.out
           replace BK222 := mB BK222 hb
           clear hb hbox hg
           refine hK.out _ _ (mc4 BK221.out) (fun hHeld => ?_)
           clear hK K
           refine mno 3 ?_
           exact mnx (hJ0_3_11 (_, _, gb235) _ ⟨hHeld, (mR HO228.out), (mK BK221.out), (mK BK222.out), (mK BK235.out), GW235.out, GE235.out, NB221_235.out, NB235_221.out, NB222_235.out, NB235_222.out, (mH3 HB.out GE221.out GE222.out GE235.out)⟩)
        ·skip
         rintro ⟨v224, v230, gb235⟩ w12 ⟨hS_, h0_, h1_, h2_, h3_, h4_, h5_, h6_, h7_, h8_, h9_, h10_, h11_⟩
         have HO225 : Aside0 (Kd.R k126 126 w12 w.heap.size (fun k_ => some k_ ≠ (v230 : Value).ownBlock) v224 y223) := ⟨h0_⟩
         have HO231 : Aside0 (Kd.R k126 126 w12 w.heap.size (fun k_ => some k_ ≠ (v224 : Value).ownBlock) v230 y229) := ⟨h1_⟩
         replace BK221 : Aside0 (w12.heap[gb221]? = some (.cells #[.slice A0_0 l0_0.length c0_0, .slice A0_1 l0_1.length c0_1, .slice A0_2 l0_2.length c0_2, .int .i64 a0_3] 63 (0, 0))) := ⟨h2_⟩
         replace BK222 : Aside0 (w12.heap[gb222]? = some (.cells #[.slice none 0 0, .slice none 0 0, .slice none 0 0, .int .i64 0] 63 (0, 0))) := ⟨h3_⟩
         have BK235 : Aside0 (w12.heap[gb235]? = some (.cells #[.slice none 0 0, .slice none 0 0, .slice none 0 0, .int .i64 0] 63 (0, 0))) := ⟨h4_⟩
         have GW235 : Aside0 (w.heap.size ≤ gb235) := ⟨h5_⟩
         have GE235 : Aside0 (w.heap.size ≤ gb235) := ⟨h6_⟩
         have NB221_235 : Aside0 (gb221 ≠ gb235) := ⟨h7_⟩
         have NB235_221 : Aside0 (gb235 ≠ gb221) := ⟨h8_⟩
         have NB222_235 : Aside0 (gb222 ≠ gb235) := ⟨h9_⟩
         have NB235_222 : Aside0 (gb235 ≠ gb222) := ⟨h10_⟩
         replace HB : Aside0 (Below w.heap.size w w12) := ⟨h11_⟩
         clear h0_ h1_ h2_ h3_ h4_ h5_ h6_ h7_ h8_ h9_ h10_ h11_
         have hHeld : w12.cell? ⟨gb221, 0, none⟩ = some (.slice A0_0 l0_0.length c0_0) ∧ w12.cell? ⟨gb221, 1, none⟩ = some (.slice A0_1 l0_1.length c0_1) ∧ w12.cell? ⟨gb221, 2, none⟩ = some (.slice A0_2 l0_2.length c0_2) ∧ w12.cell? ⟨gb221, 3, none⟩ = some (.int .i64 a0_3) := hS_
         refine mnp ?_
         refine mone 3 (some 9) HT_.out (mr [7,1,2,1,1,1]) (fun K hK => ?_)
         refine Kd.R_append_rows_step k126 (w0 := w) w.heap.size (by rfl) (.tmp 6) (.tmp 8) 61 126 (.agg #[(.string ⟨#[]⟩), (.int .i64 0)]) 24 rfl Try.underlying61 info126 rfl (by decide) (by omega) v224 y223 l0_1 _ _ _ (fun k_ => some k_ ≠ (v230 : Value).ownBlock) (fun _ => False) rfl rfl ?aO ?aR (fun _ _ h => h) (fun _ h => h.elim) ?aF ?aB ?aS ?aL ?_
         (case aR => exact mC (Kd.C_below HR0_1.out HB.out))
         (case aB => exact (mH3 HB.out GE221.out GE222.out GE235.out))
         (case aF => exact (fun k_ hk => Kd.fresh' (Kd.R_lt (mR HO231.out)) k_ hk))
         (case aO => exact (mR HO225.out))
         (case aS => exact (below_size (mH3 HB.out GE221.out GE222.out GE235.out)))
         (case aL => have := LMc2.out; omega)
         intro v227 w13 ho hb hg hat
         rw [← Ny226.out] at ho
         replace BK221 := mS (blk_grown (g := gb221) (o := .cells #[.slice A0_0 l0_0.length c0_0, .slice A0_1 l0_1.length c0_1, .slice A0_2 l0_2.length c0_2, .int .i64 a0_3] 63 (0, 0)) (mK BK221.out) hg (Kd.R_ne HO225.out BK221.out (by decide)))
         replace BK222 := mS (blk_grown (g := gb222) (o := .cells #[.slice none 0 0, .slice none 0 0, .slice none 0 0, .int .i64 0] 63 (0, 0)) (mK BK222.out) hg (Kd.R_ne HO225.out BK222.out (by decide)))
         replace HO231 := mS (Kd.R_after (ok := (fun _ => True)) (by refine mR ?_; exact Kd.R_mono HO231.out (fun _ hk => ⟨trivial, hk⟩)) hg hat)
         replace BK235 := mS (blk_grown (g := gb235) (o := .cells #[.slice none 0 0, .slice none 0 0, .slice none 0 0, .int .i64 0] 63 (0, 0)) (mK BK235.out) hg (Kd.R_ne HO225.out BK235.out (by decide)))
         replace HB := mS (hb)
         have HO228 := mS (ho)
         clear HO225
         clear ho hb hg hat
         refine hK.out _ _ (mc4 BK221.out) (fun hHeld => ?_)
         clear hK K
         refine mno 9 ?_
         exact mnx (hJ0_3_4_11 (_, _, _, gb235) _ ⟨hHeld, (mR HO228.out), (by refine mR ?_; exact Kd.R_mono HO231.out (fun _ hk => hk.2)), (mK BK221.out), (mK BK222.out), (mK BK235.out), GW235.out, GE235.out, NB221_235.out, NB235_221.out, NB222_235.out, NB235_222.out, (mH3 HB.out GE221.out GE222.out GE235.out)⟩)
       ·skip
        rintro ⟨v224, v227, gb235⟩ w11 ⟨hS_, h0_, h1_, h2_, h3_, h4_, h5_, h6_, h7_, h8_, h9_, h10_⟩
        have HO228 : Aside0 (Kd.R k126 126 w11 w.heap.size (fun _ => True) v227 y226) := ⟨h0_⟩
        replace BK221 : Aside0 (w11.heap[gb221]? = some (.cells #[.slice A0_0 l0_0.length c0_0, .slice A0_1 l0_1.length c0_1, .slice A0_2 l0_2.length c0_2, .int .i64 a0_3] 63 (0, 0))) := ⟨h1_⟩
        replace BK222 : Aside0 (w11.heap[gb222]? = some (.cells #[.slice none 0 0, .slice none 0 0, .slice none 0 0, .int .i64 0] 63 (0, 0))) := ⟨h2_⟩
        have BK235 : Aside0 (w11.heap[gb235]? = some (.cells #[.slice none 0 0, .slice none 0 0, .slice none 0 0, .int .i64 0] 63 (0, 0))) := ⟨h3_⟩
        have GW235 : Aside0 (w.heap.size ≤ gb235) := ⟨h4_⟩
        have GE235 : Aside0 (w.heap.size ≤ gb235) := ⟨h5_⟩
        have NB221_235 : Aside0 (gb221 ≠ gb235) := ⟨h6_⟩
        have NB235_221 : Aside0 (gb235 ≠ gb221) := ⟨h7_⟩
        have NB222_235 : Aside0 (gb222 ≠ gb235) := ⟨h8_⟩
        have NB235_222 : Aside0 (gb235 ≠ gb222) := ⟨h9_⟩
        replace HB : Aside0 (Below w.heap.size w w11) := ⟨h10_⟩
        clear h0_ h1_ h2_ h3_ h4_ h5_ h6_ h7_ h8_ h9_ h10_
        have hHeld : w11.cell? ⟨gb221, 0, none⟩ = some (.slice A0_0 l0_0.length c0_0) ∧ w11.cell? ⟨gb221, 1, none⟩ = some (.slice A0_1 l0_1.length c0_1) ∧ w11.cell? ⟨gb221, 2, none⟩ = some (.slice A0_2 l0_2.length c0_2) ∧ w11.cell? ⟨gb221, 3, none⟩ = some (.int .i64 a0_3) := hS_
        refine mnp ?_
        refine mone 4 (some 10) HT_.out (mr [7,1,2,1,1,1]) (fun K hK => ?_)
        refine Kd.R_lit_step k126 _ 126 ?hg (N := 10) ?hd (xs := ([] : List (S126))) (inner := []) (ok := fun _ => True) (okp := fun _ => True) ?hr ?hp (fun _ hk => hk) trivial (Below.refl _ _) (Nat.le_refl _) (by simp) ?_; (case hd => rfl); (case hg => rfl); (case hr => first | (go_simp; done) | (go_simp; rfl)); (case hp => exact (Reps.none _ _))
        intro v230 w12 ho13 hb hg_ hnew_
        clear hg_ hnew_
        (first | rw [← Ny229.out] at ho13 | (simp only [Int.reduceToNat] at ho13; rw [← Ny229.out] at ho13))
        have HO231 := mS (Kd.R_lower (Kd.R_new' ho13 (Kd.R_lt (mR HO228.out))) (below_size (mH3 HB.out GE221.out GE222.out GE235.out)))
        replace HO228 := mS (Kd.R_elder' (mR HO228.out) (Kd.R_base ho13) hb)
        replace BK221 := mB BK221 hb
        replace BK222 := mB BK222 hb
        replace BK235 := mB BK235 hb
        replace HB := mS (below_step (mH3 HB.out GE221.out GE222.out GE235.out) hb)
        clear hb ho13
        refine hK.out _ _ (mc4 BK221.out) (fun hHeld => ?_)
        clear hK K
        refine mno 10 ?_
        exact mnx (hJ0_3_4_11 (_, _, _, gb235) _ ⟨hHeld, (by refine mR ?_; exact Kd.R_mono HO228.out (fun _ hk => hk.2)), (by refine mR ?_; exact Kd.R_mono HO231.out (fun _ hk => hk.2)), (mK BK221.out), (mK BK222.out), (mK BK235.out), GW235.out, GE235.out, NB221_235.out, NB235_221.out, NB222_235.out, NB235_222.out, (mH3 HB.out GE221.out GE222.out GE235.out)⟩)
      ·skip
       rintro ⟨v224, v227, v230⟩ w12 ⟨hS_, h0_, h1_, h2_, h3_, h4_⟩
       have HO228 : Aside0 (Kd.R k126 126 w12 w.heap.size (fun k_ => some k_ ≠ (v230 : Value).ownBlock) v227 y226) := ⟨h0_⟩
       have HO231 : Aside0 (Kd.R k126 126 w12 w.heap.size (fun k_ => some k_ ≠ (v227 : Value).ownBlock) v230 y229) := ⟨h1_⟩
       replace BK221 : Aside0 (w12.heap[gb221]? = some (.cells #[.slice A0_0 l0_0.length c0_0, .slice A0_1 l0_1.length c0_1, .slice A0_2 l0_2.length c0_2, .int .i64 a0_3] 63 (0, 0))) := ⟨h2_⟩
       replace BK222 : Aside0 (w12.heap[gb222]? = some (.cells #[.slice none 0 0, .slice none 0 0, .slice none 0 0, .int .i64 0] 63 (0, 0))) := ⟨h3_⟩
       replace HB : Aside0 (Below w.heap.size w w12) := ⟨h4_⟩
       clear h0_ h1_ h2_ h3_ h4_
       have hHeld : w12.cell? ⟨gb221, 0, none⟩ = some (.slice A0_0 l0_0.length c0_0) ∧ w12.cell? ⟨gb221, 1, none⟩ = some (.slice A0_1 l0_1.length c0_1) ∧ w12.cell? ⟨gb221, 2, none⟩ = some (.slice A0_2 l0_2.length c0_2) ∧ w12.cell? ⟨gb221, 3, none⟩ = some (.int .i64 a0_3) := hS_
       refine mnp ?_
       refine two_ (i := 7) (j := 11) (Ni := some 13) (Nj := some 3) (mb 10 3) (mr [7,1,2,1,1,1]) rfl rfl rfl rfl (two_of HT_.out (by kernel_rfl)) (by decide) (by decide) (fun K hK => ?_) (fun K hK => ?_)
       ·skip
        refine Kd.R_append_rows_step k126 (w0 := w) w.heap.size (by rfl) (.tmp 10) (.tmp 12) 61 126 (.agg #[(.string ⟨#[]⟩), (.int .i64 0)]) 24 rfl Try.underlying61 info126 rfl (by decide) (by omega) v230 y229 l0_2 _ _ _ (fun k_ => some k_ ≠ (v227 : Value).ownBlock) (fun _ => False) rfl rfl ?aO ?aR (fun _ _ h => h) (fun _ h => h.elim) ?aF ?aB ?aS ?aL ?_
        (case aR => exact mC (Kd.C_below HR0_2.out HB.out))
        (case aB => exact (mH2 HB.out GE221.out GE222.out))
        (case aF => exact (fun k_ hk => Kd.fresh' (Kd.R_lt (mR HO228.out)) k_ hk))
        (case aO => exact (mR HO231.out))
        (case aS => exact (below_size (mH2 HB.out GE221.out GE222.out)))
        (case aL => have := LMc3.out; omega)
        intro v233 w13 ho hb hg hat
        rw [← Ny232.out] at ho
        replace BK221 := mS (blk_grown (g := gb221) (o := .cells #[.slice A0_0 l0_0.length c0_0, .slice A0_1 l0_1.length c0_1, .slice A0_2 l0_2.length c0_2, .int .i64 a0_3] 63 (0, 0)) (mK BK221.out) hg (Kd.R_ne HO231.out BK221.out (by decide)))
        replace BK222 := mS (blk_grown (g := gb222) (o := .cells #[.slice none 0 0, .slice none 0 0, .slice none 0 0, .int .i64 0] 63 (0, 0)) (mK BK222.out) hg (Kd.R_ne HO231.out BK222.out (by decide)))
        replace HO228 := mS (Kd.R_after (ok := (fun _ => True)) (by refine mR ?_; exact Kd.R_mono HO228.out (fun _ hk => ⟨trivial, hk⟩)) hg hat)
        replace HB := mS (hb)
        have HO234 := mS (ho)
        clear HO231
        clear ho hb hg hat
        obtain ⟨Ao14, co14, eo14⟩ := Kd.R_slice HO234.out
        (first | subst eo14 | (injection eo14 with f1_ f2_ f3_; have f4_ := f1_.symm; have f5_ := f3_.symm; clear f1_ f2_ f3_; subst f4_; subst f5_))
        obtain ⟨Ao15, co15, eo15⟩ := Kd.R_slice HO228.out
        (first | subst eo15 | (injection eo15 with f1_ f2_ f3_; have f4_ := f1_.symm; have f5_ := f3_.symm; clear f1_ f2_ f3_; subst f4_; subst f5_))
        refine hK.out _ _ (mc4 BK221.out) (fun hHeld => ?_)
        clear hK K
        refine mno 13 ?_
        refine mpu 10 16 HT_.out (mb 11 2) ?_
        exact mnx (hJ0_3_4_7 (_, .slice Ao15 y226.length co15, _, .slice Ao14 y232.length co14) _ ⟨hHeld, (by refine mR ?_; exact Kd.R_mono HO228.out (fun _ hk => hk.2)), (mR HO234.out), (mK BK221.out), (mK BK222.out), (mH2 HB.out GE221.out GE222.out)⟩)
       ·skip
        refine box_step ?hg (N := 3) ?hd (cs := #[.slice none 0 0, .slice none 0 0, .slice none 0 0, .int .i64 0]) (t := 63) ?hr ?_; (case hd => rfl); (case hg => rfl); (case hr => first | (go_simp; done) | (go_simp; rfl))
        intro gb235 hg w13 hbox hb
        replace HO228 := mS (Kd.R_below (mR HO228.out) hb)
        replace HO231 := mS (Kd.R_below (mR HO231.out) hb)
        have BK235 := mS (hbox)
        have GW235 := mG hg (mH2 HB.out GE221.out GE222.out)
        have GE235 := mG hg (mH2 HB.out GE221.out GE222.out)
        replace HB := mS (below_step (mH2 HB.out GE221.out GE222.out) hb)
        have NB221_235 := mNl hg BK221.out
        have NB235_221 := mNg hg BK221.out
        replace BK221 := mB BK221 hb
        have NB222_235 := mNl hg BK222.out
        have NB235_222 := mNg hg BK222.out
        replace BK222 := mB BK222 hb
        clear hb hbox hg
        refine hK.out _ _ (mc4 BK221.out) (fun hHeld => ?_)
        clear hK K
        refine mno 3 ?_
        exact mnx (hJ0_3_4_11 (_, _, _, gb235) _ ⟨hHeld, (mR HO228.out), (mR HO231.out), (mK BK221.out), (mK BK222.out), (mK BK235.out), GW235.out, GE235.out, NB221_235.out, NB235_221.out, NB222_235.out, NB235_222.out, (mH3 HB.out GE221.out GE222.out GE235.out)⟩)
     ·skip
      rintro ⟨v224, v227, v230, gb235⟩ w13 ⟨hS_, h0_, h1_, h2_, h3_, h4_, h5_, h6_, h7_, h8_, h9_, h10_, h11_⟩
      have HO228 : Aside0 (Kd.R k126 126 w13 w.heap.size (fun k_ => some k_ ≠ (v230 : Value).ownBlock) v227 y226) := ⟨h0_⟩
      have HO231 : Aside0 (Kd.R k126 126 w13 w.heap.size (fun k_ => some k_ ≠ (v227 : Value).ownBlock) v230 y229) := ⟨h1_⟩
      replace BK221 : Aside0 (w13.heap[gb221]? = some (.cells #[.slice A0_0 l0_0.length c0_0, .slice A0_1 l0_1.length c0_1, .slice A0_2 l0_2.length c0_2, .int .i64 a0_3] 63 (0, 0))) := ⟨h2_⟩
      replace BK222 : Aside0 (w13.heap[gb222]? = some (.cells #[.slice none 0 0, .slice none 0 0, .slice none 0 0, .int .i64 0] 63 (0, 0))) := ⟨h3_⟩
      have BK235 : Aside0 (w13.heap[gb235]? = some (.cells #[.slice none 0 0, .slice none 0 0, .slice none 0 0, .int .i64 0] 63 (0, 0))) := ⟨h4_⟩
      have GW235 : Aside0 (w.heap.size ≤ gb235) := ⟨h5_⟩
      have GE235 : Aside0 (w.heap.size ≤ gb235) := ⟨h6_⟩
      have NB221_235 : Aside0 (gb221 ≠ gb235) := ⟨h7_⟩
      have NB235_221 : Aside0 (gb235 ≠ gb221) := ⟨h8_⟩
      have NB222_235 : Aside0 (gb222 ≠ gb235) := ⟨h9_⟩
      have NB235_222 : Aside0 (gb235 ≠ gb222) := ⟨h10_⟩
      replace HB : Aside0 (Below w.heap.size w w13) := ⟨h11_⟩
      clear h0_ h1_ h2_ h3_ h4_ h5_ h6_ h7_ h8_ h9_ h10_ h11_
      have hHeld : w13.cell? ⟨gb221, 0, none⟩ = some (.slice A0_0 l0_0.length c0_0) ∧ w13.cell? ⟨gb221, 1, none⟩ = some (.slice A0_1 l0_1.length c0_1) ∧ w13.cell? ⟨gb221, 2, none⟩ = some (.slice A0_2 l0_2.length c0_2) ∧ w13.cell? ⟨gb221, 3, none⟩ = some (.int .i64 a0_3) := hS_
      refine mnp ?_
      refine mone 7 (some 13) HT_.out (mr [10,1,1,1]) (fun K hK => ?_)
      refine Kd.R_append_rows_step k126 (w0 := w) w.heap.size (by rfl) (.tmp 10) (.tmp 12) 61 126 (.agg #[(.string ⟨#[]⟩), (.int .i64 0)]) 24 rfl Try.underlying61 info126 rfl (by decide) (by omega) v230 y229 l0_2 _ _ _ (fun k_ => some k_ ≠ (v227 : Value).ownBlock) (fun _ => False) rfl rfl ?aO ?aR (fun _ _ h => h) (fun _ h => h.elim) ?aF ?aB ?aS ?aL ?_
      (case aR => exact mC (Kd.C_below HR0_2.out HB.out))
      (case aB => exact (mH3 HB.out GE221.out GE222.out GE235.out))
      (case aF => exact (fun k_ hk => Kd.fresh' (Kd.R_lt (mR HO228.out)) k_ hk))
      (case aO => exact (mR HO231.out))
      (case aS => exact (below_size (mH3 HB.out GE221.out GE222.out GE235.out)))
      (case aL => have := LMc3.out; omega)
      intro v233 w14 ho hb hg hat
      rw [← Ny232.out] at ho
      replace BK221 := mS (blk_grown (g := gb221) (o := .cells #[.slice A0_0 l0_0.length c0_0, .slice A0_1 l0_1.length c0_1, .slice A0_2 l0_2.length c0_2, .int .i64 a0_3] 63 (0, 0)) (mK BK221.out) hg (Kd.R_ne HO231.out BK221.out (by decide)))
      replace BK222 := mS (blk_grown (g := gb222) (o := .cells #[.slice none 0 0, .slice none 0 0, .slice none 0 0, .int .i64 0] 63 (0, 0)) (mK BK222.out) hg (Kd.R_ne HO231.out BK222.out (by decide)))
      replace HO228 := mS (Kd.R_after (ok := (fun _ => True)) (by refine mR ?_; exact Kd.R_mono HO228.out (fun _ hk => ⟨trivial, hk⟩)) hg hat)
      replace BK235 := mS (blk_grown (g := gb235) (o := .cells #[.slice none 0 0, .slice none 0 0, .slice none 0 0, .int .i64 0] 63 (0, 0)) (mK BK235.out) hg (Kd.R_ne HO231.out BK235.out (by decide)))
      replace HB := mS (hb)
      have HO234 := mS (ho)
      clear HO231
      clear ho hb hg hat
      obtain ⟨Ao15, co15, eo15⟩ := Kd.R_slice HO234.out
      (first | subst eo15 | (injection eo15 with f1_ f2_ f3_; have f4_ := f1_.symm; have f5_ := f3_.symm; clear f1_ f2_ f3_; subst f4_; subst f5_))
      obtain ⟨Ao16, co16, eo16⟩ := Kd.R_slice HO228.out
      (first | subst eo16 | (injection eo16 with f1_ f2_ f3_; have f4_ := f1_.symm; have f5_ := f3_.symm; clear f1_ f2_ f3_; subst f4_; subst f5_))
      refine hK.out _ _ (mc4 BK221.out) (fun hHeld => ?_)
      clear hK K
      refine mno 13 ?_
      refine mpu 10 16 HT_.out (mb 12 1) ?_
      exact mnx (hJ0_3_4_7_11 (_, .slice Ao16 y226.length co16, _, .slice Ao15 y232.length co15, gb235) _ ⟨hHeld, (by refine mR ?_; exact Kd.R_mono HO228.out (fun _ hk => hk.2)), (mR HO234.out), (mK BK221.out), (mK BK222.out), (mK BK235.out), GW235.out, GE235.out, NB221_235.out, NB235_221.out, NB222_235.out, NB235_222.out, (mH3 HB.out GE221.out GE222.out GE235.out)⟩)
    ·skip
     rintro ⟨v224, v227, v230, v233⟩ w15 ⟨hS_, h0_, h1_, h2_, h3_, h4_⟩
     have HO228 : Aside0 (Kd.R k126 126 w15 w.heap.size (fun k_ => some k_ ≠ (v233 : Value).ownBlock) v227 y226) := ⟨h0_⟩
     have HO234 : Aside0 (Kd.R k126 126 w15 w.heap.size (fun k_ => some k_ ≠ (v227 : Value).ownBlock) v233 y232) := ⟨h1_⟩
     replace BK221 : Aside0 (w15.heap[gb221]? = some (.cells #[.slice A0_0 l0_0.length c0_0, .slice A0_1 l0_1.length c0_1, .slice A0_2 l0_2.length c0_2, .int .i64 a0_3] 63 (0, 0))) := ⟨h2_⟩
     replace BK222 : Aside0 (w15.heap[gb222]? = some (.cells #[.slice none 0 0, .slice none 0 0, .slice none 0 0, .int .i64 0] 63 (0, 0))) := ⟨h3_⟩
     replace HB : Aside0 (Below w.heap.size w w15) := ⟨h4_⟩
     clear h0_ h1_ h2_ h3_ h4_
     have hHeld : w15.cell? ⟨gb221, 0, none⟩ = some (.slice A0_0 l0_0.length c0_0) ∧ w15.cell? ⟨gb221, 1, none⟩ = some (.slice A0_1 l0_1.length c0_1) ∧ w15.cell? ⟨gb221, 2, none⟩ = some (.slice A0_2 l0_2.length c0_2) ∧ w15.cell? ⟨gb221, 3, none⟩ = some (.int .i64 a0_3) := hS_
     obtain ⟨Ao16, co16, eo16⟩ := Kd.R_slice HO234.out
     (first | subst eo16 | (injection eo16 with f1_ f2_ f3_; have f4_ := f1_.symm; have f5_ := f3_.symm; clear f1_ f2_ f3_; subst f4_; subst f5_))
     obtain ⟨Ao17, co17, eo17⟩ := Kd.R_slice HO228.out
     (first | subst eo17 | (injection eo17 with f1_ f2_ f3_; have f4_ := f1_.symm; have f5_ := f3_.symm; clear f1_ f2_ f3_; subst f4_; subst f5_))
     refine mnp ?_
     refine mone 11 (some 3) HT_.out (mb 12 1) (fun K hK => ?_)
     refine box_step ?hg (N := 3) ?hd (cs := #[.slice none 0 0, .slice none 0 0, .slice none 0 0, .int .i64 0]) (t := 63) ?hr ?_; (case hd => rfl); (case hg => rfl); (case hr => first | (go_simp; done) | (go_simp; rfl))
     intro gb235 hg w18 hbox hb
     replace HO228 := mS (Kd.R_below (mR HO228.out) hb)
     replace HO234 := mS (Kd.R_below (mR HO234.out) hb)
     have BK235 := mS (hbox)
     have GW235 := mG hg (mH2 HB.out GE221.out GE222.out)
     have GE235 := mG hg (mH2 HB.out GE221.out GE222.out)
     replace HB := mS (below_step (mH2 HB.out GE221.out GE222.out) hb)
     have NB221_235 := mNl hg BK221.out
     have NB235_221 := mNg hg BK221.out
     replace BK221 := mB BK221 hb
     have NB222_235 := mNl hg BK222.out
     have NB235_222 := mNg hg BK222.out
     replace BK222 := mB BK222 hb
     clear hb hbox hg
     refine hK.out _ _ (mc4 BK221.out) (fun hHeld => ?_)
     clear hK K
     refine mno 3 ?_
     exact mnx (hJ0_3_4_7_11 (_, .slice Ao17 y226.length co17, _, .slice Ao16 y232.length co16, gb235) _ ⟨hHeld, (mR HO228.out), (mR HO234.out), (mK BK221.out), (mK BK222.out), (mK BK235.out), GW235.out, GE235.out, NB221_235.out, NB235_221.out, NB222_235.out, NB235_222.out, (mH3 HB.out GE221.out GE222.out GE235.out)⟩)
   rintro ⟨v224, v227, v230, v233, gb235⟩ w16 ⟨hS_, h0_, h1_, h2_, h3_, h4_, h5_, h6_, h7_, h8_, h9_, h10_, h11_⟩
   have HO228 : Aside0 (Kd.R k126 126 w16 w.heap.size (fun k_ => some k_ ≠ (v233 : Value).ownBlock) v227 y226) := ⟨h0_⟩
   have HO234 : Aside0 (Kd.R k126 126 w16 w.heap.size (fun k_ => some k_ ≠ (v227 : Value).ownBlock) v233 y232) := ⟨h1_⟩
   replace BK221 : Aside0 (w16.heap[gb221]? = some (.cells #[.slice A0_0 l0_0.length c0_0, .slice A0_1 l0_1.length c0_1, .slice A0_2 l0_2.length c0_2, .int .i64 a0_3] 63 (0, 0))) := ⟨h2_⟩
   replace BK222 : Aside0 (w16.heap[gb222]? = some (.cells #[.slice none 0 0, .slice none 0 0, .slice none 0 0, .int .i64 0] 63 (0, 0))) := ⟨h3_⟩
   have BK235 : Aside0 (w16.heap[gb235]? = some (.cells #[.slice none 0 0, .slice none 0 0, .slice none 0 0, .int .i64 0] 63 (0, 0))) := ⟨h4_⟩
   have GW235 : Aside0 (w.heap.size ≤ gb235) := ⟨h5_⟩
   have GE235 : Aside0 (w.heap.size ≤ gb235) := ⟨h6_⟩
   have NB221_235 : Aside0 (gb221 ≠ gb235) := ⟨h7_⟩
   have NB235_221 : Aside0 (gb235 ≠ gb221) := ⟨h8_⟩
   have NB222_235 : Aside0 (gb222 ≠ gb235) := ⟨h9_⟩
   have NB235_222 : Aside0 (gb235 ≠ gb222) := ⟨h10_⟩
   replace HB : Aside0 (Below w.heap.size w w16) := ⟨h11_⟩
   clear h0_ h1_ h2_ h3_ h4_ h5_ h6_ h7_ h8_ h9_ h10_ h11_
   have hHeld : w16.cell? ⟨gb221, 0, none⟩ = some (.slice A0_0 l0_0.length c0_0) ∧ w16.cell? ⟨gb221, 1, none⟩ = some (.slice A0_1 l0_1.length c0_1) ∧ w16.cell? ⟨gb221, 2, none⟩ = some (.slice A0_2 l0_2.length c0_2) ∧ w16.cell? ⟨gb221, 3, none⟩ = some (.int .i64 a0_3) := hS_
   obtain ⟨Ao17, co17, eo17⟩ := Kd.R_slice HO234.out
   (first | subst eo17 | (injection eo17 with f1_ f2_ f3_; have f4_ := f1_.symm; have f5_ := f3_.symm; clear f1_ f2_ f3_; subst f4_; subst f5_))
   obtain ⟨Ao18, co18, eo18⟩ := Kd.R_slice HO228.out
   (first | subst eo18 | (injection eo18 with f1_ f2_ f3_; have f4_ := f1_.symm; have f5_ := f3_.symm; clear f1_ f2_ f3_; subst f4_; subst f5_))
   refine mnp ?_
   refine mone 12 none HT_.out (mb 13 0) (fun K hK => ?_)
   have hs19 : w16.cell? ⟨gb235, 0, none⟩ = some (.slice none 0 0) := mZ BK235.out 0
   have hfs19 := blk_frozen BK235.out 0
   have hns19_0 := NB221_235.out
   have hns19_1 := NB222_235.out
   have hms19_0 := NB235_221.out
   have hms19_1 := NB235_222.out
   have hs20 : w16.cell? ⟨gb235, 1, none⟩ = some (.slice none 0 0) := mZ BK235.out 1
   have hfs20 := blk_frozen BK235.out 1
   have hns20_0 := NB221_235.out
   have hns20_1 := NB222_235.out
   have hms20_0 := NB235_221.out
   have hms20_1 := NB235_222.out
   have hs21 : w16.cell? ⟨gb235, 2, none⟩ = some (.slice none 0 0) := mZ BK235.out 2
   have hfs21 := blk_frozen BK235.out 2
   have hns21_0 := NB221_235.out
   have hns21_1 := NB222_235.out
   have hms21_0 := NB235_221.out
   have hms21_1 := NB235_222.out
   have hs22 : w16.cell? ⟨gb235, 3, none⟩ = some (.int .i64 0) := mZ BK235.out 3
   have hfs22 := blk_frozen BK235.out 3
   have hns22_0 := NB221_235.out
   have hns22_1 := NB222_235.out
   have hms22_0 := NB235_221.out
   have hms22_1 := NB235_222.out
   refine skip_ (w1 := ?_) (by rfl) rfl ?_ ?_
   rotate_left
   ·go_simp
    rfl
   refine hK.out _ _ ⟨((cell_far (p := ⟨gb235, _, none⟩) NB221_235.out _).trans (((cell_far (p := ⟨gb235, _, none⟩) NB221_235.out _).trans (((cell_far (p := ⟨gb235, _, none⟩) NB221_235.out _).trans (((cell_far (p := ⟨gb235, _, none⟩) NB221_235.out _).trans (hHeld.1)))))))), ((cell_far (p := ⟨gb235, _, none⟩) NB221_235.out _).trans (((cell_far (p := ⟨gb235, _, none⟩) NB221_235.out _).trans (((cell_far (p := ⟨gb235, _, none⟩) NB221_235.out _).trans (((cell_far (p := ⟨gb235, _, none⟩) NB221_235.out _).trans (hHeld.2.1)))))))), ((cell_far (p := ⟨gb235, _, none⟩) NB221_235.out _).trans (((cell_far (p := ⟨gb235, _, none⟩) NB221_235.out _).trans (((cell_far (p := ⟨gb235, _, none⟩) NB221_235.out _).trans (((cell_far (p := ⟨gb235, _, none⟩) NB221_235.out _).trans (hHeld.2.2.1)))))))), ((cell_far (p := ⟨gb235, _, none⟩) NB221_235.out _).trans (((cell_far (p := ⟨gb235, _, none⟩) NB221_235.out _).trans (((cell_far (p := ⟨gb235, _, none⟩) NB221_235.out _).trans (((cell_far (p := ⟨gb235, _, none⟩) NB221_235.out _).trans (hHeld.2.2.2))))))))⟩ (fun hHeld => ?_)
   clear hK K
   refine done_ (done_of HT_.out (by kernel_rfl)) ?_
   try go_wp2
   go_loopg [4] k (fun kq v4 w' => ∃ (x4_1 : Int) (x236000_1 : List (S120)) (u236000 : Value), v4 = .int .i64 x4_1 ∧ Aside0 (spec_l2Copy.l0 kq x4_1 l0_0 l0_1 l0_2 a0_3 x236000_1 y226 y232 a0_3 = some (r1, r2, r3, r4)) ∧ Aside0 (kq ≤ k) ∧ Aside0 (Kd.S k120 120 w' w.heap.size (fun _ => True) u236000 x236000_1) ∧ Aside0 (Kd.R k126 126 w' w.heap.size (fun k_ => some k_ ≠ ((.slice Ao17 y232.length co17) : Value).ownBlock) (.slice Ao18 y226.length co18) y226) ∧ Aside0 (Kd.R k126 126 w' w.heap.size (fun k_ => some k_ ≠ ((.slice Ao18 y226.length co18) : Value).ownBlock) (.slice Ao17 y232.length co17) y232) ∧ Aside0 (w'.heap[gb221]? = some (.cells #[(.slice A0_0 l0_0.length c0_0), (.slice A0_1 l0_1.length c0_1), (.slice A0_2 l0_2.length c0_2), .int .i64 a0_3] 63 (0, 0))) ∧ Aside0 (w'.heap[gb222]? = some (.cells #[(.slice none 0 0), (.slice none 0 0), (.slice none 0 0), .int .i64 0] 63 (0, 0))) ∧ Aside0 (w'.heap[gb235]? = some (.cells #[u236000, (.slice Ao18 y226.length co18), (.slice Ao17 y232.length co17), .int .i64 a0_3] 63 (0, 0))) ∧ Aside0 (Below w.heap.size w w'))
   case atStart => exact ⟨(0), (([] : List (S120))), (.slice none 0 0), mE, H', ⟨Nat.le_refl _⟩, ⟨by first | exact Kd.S_nil _ _ _ _ _ | exact Kd.N_nil _ _ _ _ _ | exact Kd.V_nil _ _ _ _ _ | exact Kd.Q_nil _ _ _ _ _ | exact Kd.R_nil _ _ _ _ _⟩, ⟨by refine mR ?_; exact Kd.R_mono (mRf4 (Kd.R_types HO228.out BK235.out (by decide))) (fun _ hk => hk.1)⟩, ⟨by refine mR ?_; exact Kd.R_mono (mRf4 (Kd.R_types HO234.out BK235.out (by decide))) (fun _ hk => hk.1)⟩, ⟨mKf NB221_235.out BK221.out⟩, ⟨mKf NB222_235.out BK222.out⟩, ⟨by refine mK ?_; refine blk_put (cs := #[.slice none 0 0, .slice Ao18 y226.length co18, .slice Ao17 y232.length co17, .int .i64 0]) ?_ 3 _ rfl; refine mK ?_; refine blk_put (cs := #[.slice none 0 0, .slice Ao18 y226.length co18, .slice none 0 0, .int .i64 0]) ?_ 2 _ rfl; refine mK ?_; refine blk_put (cs := #[.slice none 0 0, .slice none 0 0, .slice none 0 0, .int .i64 0]) ?_ 1 _ rfl; refine mK ?_; refine blk_put (cs := #[.slice none 0 0, .slice none 0 0, .slice none 0 0, .int .i64 0]) ?_ 0 _ rfl; refine mK ?_; exact BK235.out⟩, ⟨(mH3 HB.out GE221.out GE222.out GE235.out)⟩⟩
   case round =>
    clear H'
    try clear c2
    try clear p2
    try clear c3
    obtain ⟨x4_1, x236000_1, u236000, rfl, HA, HK1, HO_236000, HO_236001, HO_236002, BK221, BK222, BK235, HB⟩ := hrel
    cases gk with
    | zero => exact absurd HA.out (by simp [spec_l2Copy.l0])
    | succ k1 =>
     have H := HA.out
     clear HA
     simp only [spec_l2Copy.l0] at H
     by_cases c23 : x4_1 < (l0_0.length : Int)
     ·rw [if_pos c23] at H
      have c23b0 := decide_eq_true c23
      clear c23
      by_cases c24 : 0 ≤ x4_1
      ·rw [if_pos c24] at H
       have c24b0 := decide_eq_true c24
       clear c24
       obtain ⟨y238, hy238⟩ : ∃ y_ : List Int, y_ = (([] : List Int)) := ⟨_, rfl⟩
       replace H : (if y238.length + ((rd_T120 l0_0 x4_1).f1).length < 140737488355328 then (if x236000_1.length < 3518437208883 then (spec_l2Copy.l0 k1 (wrap64 (x4_1 + 1)) l0_0 l0_1 l0_2 a0_3 (x236000_1 ++ [(⟨(rd_T120 l0_0 x4_1).f0, (y238 ++ ((rd_T120 l0_0 x4_1).f1)), (rd_T120 l0_0 x4_1).f2⟩ : S120)]) y226 y232 a0_3) else (none)) else (none)) = some (r1, r2, r3, r4) := by first | (rw [hy238]; with_reducible exact H) | (have H2_ := (Option.bind_some _ _).symm.trans H; rw [hy238]; with_reducible exact H2_) | (have H2_ := (Option.bind_some _ _).symm.trans H; with_reducible exact H2_) | with_reducible exact H | (rw [hy238]; exact H) | exact H
       have Ny238 := mS hy238
       clear hy238
       by_cases c25 : y238.length + ((rd_T120 l0_0 x4_1).f1).length < 140737488355328
       ·rw [if_pos c25] at H
        have LMc25 := mS c25
        clear c25
        obtain ⟨y241, hy241⟩ : ∃ y_ : List Int, y_ = (y238 ++ ((rd_T120 l0_0 x4_1).f1)) := ⟨_, rfl⟩
        replace H : (if x236000_1.length < 3518437208883 then (spec_l2Copy.l0 k1 (wrap64 (x4_1 + 1)) l0_0 l0_1 l0_2 a0_3 (x236000_1 ++ [(⟨(rd_T120 l0_0 x4_1).f0, y241, (rd_T120 l0_0 x4_1).f2⟩ : S120)]) y226 y232 a0_3) else (none)) = some (r1, r2, r3, r4) := by first | (rw [hy241]; with_reducible exact H) | (have H2_ := (Option.bind_some _ _).symm.trans H; rw [hy241]; with_reducible exact H2_) | (have H2_ := (Option.bind_some _ _).symm.trans H; with_reducible exact H2_) | with_reducible exact H | (rw [hy241]; exact H) | exact H
        have Ny241 := mS hy241
        clear hy241
        by_cases c26 : x236000_1.length < 3518437208883
        ·rw [if_pos c26] at H
         have LMc26 := mS c26
         clear c26
         obtain ⟨y244, hy244⟩ : ∃ y_ : List (S120), y_ = (x236000_1 ++ [(⟨(rd_T120 l0_0 x4_1).f0, y241, (rd_T120 l0_0 x4_1).f2⟩ : S120)]) := ⟨_, rfl⟩
         replace H : (spec_l2Copy.l0 k1 (wrap64 (x4_1 + 1)) l0_0 l0_1 l0_2 a0_3 y244 y226 y232 a0_3) = some (r1, r2, r3, r4) := by first | (rw [hy244]; with_reducible exact H) | (have H2_ := (Option.bind_some _ _).symm.trans H; rw [hy244]; with_reducible exact H2_) | (have H2_ := (Option.bind_some _ _).symm.trans H; with_reducible exact H2_) | with_reducible exact H | (rw [hy244]; exact H) | exact H
         have Ny244 := mS hy244
         clear hy244
         have H' := mS H
         clear H
         have hnb27 := NB221_222.out
         have hnc27 := NB222_221.out
         have hnb28 := NB221_235.out
         have hnc28 := NB235_221.out
         obtain ⟨hcz29_0, hcz29_1, hcz29_2, hcz29_3, hfz29_0, hfz29_1, hfz29_2, hfz29_3⟩ := mZ4 BK221.out
         have p236 : 0 ≤ (x4_1 : Int) := mD
         have q236 : x4_1 < (l0_0.length : Int) := mD
         obtain ⟨ad236, A236_1, c236_1, e236, hx236_0, hx236_1, hx236_2, hl236_1, hi236_1⟩ := at_T120 HR0_0.out x4_1 p236 q236
         cases e236
         replace hx236_0 := mX HB.out hx236_0
         replace hx236_1 := mX HB.out hx236_1
         replace hx236_2 := mX HB.out hx236_2
         have HR236_1 := mS hi236_1
         have HC236_1 := mS hl236_1
         clear hi236_1 hl236_1
         replace p236 := eq_true p236
         replace q236 := eq_true q236
         try go_wp2_with (first | ((with_reducible refine gate_dst (N := 5) rfl ?_); refine mBx 5 #[.int .i64 0, .slice none 0 0, .int .i64 0] 120 ?_; intro gb237 hg w30 hbox hb; replace HO_236000 := mS (Kd.S_below (Kd.S_elderB (mSd HO_236000.out) gb237 (Nat.le_of_eq hg.symm)) hb); replace HO_236001 := mS (Kd.R_below (mR HO_236001.out) hb); replace HO_236002 := mS (Kd.R_below (mR HO_236002.out) hb); have BK237 := mS (hbox); have GW237 := mG hg (mH3 HB.out GE221.out GE222.out GE235.out); have GE237 := mG hg (mH3 HB.out GE221.out GE222.out GE235.out); replace HB := mS (below_step (mH3 HB.out GE221.out GE222.out GE235.out) hb); have NB221_237 := mNl hg BK221.out; have NB237_221 := mNg hg BK221.out; replace BK221 := mB BK221 hb; have NB222_237 := mNl hg BK222.out; have NB237_222 := mNg hg BK222.out; replace BK222 := mB BK222 hb; have NB235_237 := mNl hg BK235.out; have NB237_235 := mNg hg BK235.out; replace BK235 := mB BK235 hb; clear hb hbox hg; have hnb31 := NB237_221.out; have hnc31 := NB221_237.out; have hnb32 := NB237_222.out; have hnc32 := NB222_237.out; have hnb33 := NB237_235.out; have hnc33 := NB235_237.out; obtain ⟨hcz34_0, hcz34_1, hcz34_2, hfz34_0, hfz34_1, hfz34_2⟩ := mZ3 BK237.out))
         generalize hW_ : (((w30.setCell ⟨gb237, 0, none⟩ (.int .i64 ((rd_T120 l0_0 x4_1).f0))).setCell ⟨gb237, 1, none⟩ (.slice A236_1 ((rd_T120 l0_0 x4_1).f1).length c236_1)).setCell ⟨gb237, 2, none⟩ (.int .i64 ((rd_T120 l0_0 x4_1).f2))) = w35
         replace HO_236000 : Aside0 (Kd.S k120 120 w35 w.heap.size (fun k_ => k_ ≠ gb237) u236000 x236000_1) := by rw [← hW_]; exact ⟨by refine mSd ?_; exact Kd.S_mono (mSf3 (Kd.S_mono HO_236000.out (fun k_ hk => (⟨hk, hk.2⟩ : _ ∧ k_ ≠ gb237)))) (fun _ hk => hk.1.2)⟩
         replace HO_236001 : Aside0 (Kd.R k126 126 w35 w.heap.size (fun k_ => some k_ ≠ (.slice Ao17 y232.length co17 : Value).ownBlock) (.slice Ao18 y226.length co18) y226) := by rw [← hW_]; exact ⟨by refine mR ?_; exact Kd.R_mono (mRf3 (Kd.R_types HO_236001.out BK237.out (by decide))) (fun _ hk => hk.1)⟩
         replace HO_236002 : Aside0 (Kd.R k126 126 w35 w.heap.size (fun k_ => some k_ ≠ (.slice Ao18 y226.length co18 : Value).ownBlock) (.slice Ao17 y232.length co17) y232) := by rw [← hW_]; exact ⟨by refine mR ?_; exact Kd.R_mono (mRf3 (Kd.R_types HO_236002.out BK237.out (by decide))) (fun _ hk => hk.1)⟩
         replace BK221 : Aside0 (w35.heap[gb221]? = some (.cells #[.slice (some ad236) l0_0.length c0_0, .slice A0_1 l0_1.length c0_1, .slice A0_2 l0_2.length c0_2, .int .i64 a0_3] 63 (0, 0))) := by rw [← hW_]; exact ⟨mKf NB221_237.out BK221.out⟩
         replace BK222 : Aside0 (w35.heap[gb222]? = some (.cells #[.slice none 0 0, .slice none 0 0, .slice none 0 0, .int .i64 0] 63 (0, 0))) := by rw [← hW_]; exact ⟨mKf NB222_237.out BK222.out⟩
         replace BK235 : Aside0 (w35.heap[gb235]? = some (.cells #[u236000, .slice Ao18 y226.length co18, .slice Ao17 y232.length co17, .int .i64 a0_3] 63 (0, 0))) := by rw [← hW_]; exact ⟨mKf NB235_237.out BK235.out⟩
         replace BK237 : Aside0 (w35.heap[gb237]? = some (.cells #[.int .i64 ((rd_T120 l0_0 x4_1).f0), .slice A236_1 ((rd_T120 l0_0 x4_1).f1).length c236_1, .int .i64 ((rd_T120 l0_0 x4_1).f2)] 120 (0, 0))) := by rw [← hW_]; exact ⟨by refine mK ?_; refine blk_put (cs := #[.int .i64 ((rd_T120 l0_0 x4_1).f0), .slice A236_1 ((rd_T120 l0_0 x4_1).f1).length c236_1, .int .i64 0]) ?_ 2 _ rfl; refine mK ?_; refine blk_put (cs := #[.int .i64 ((rd_T120 l0_0 x4_1).f0), .slice none 0 0, .int .i64 0]) ?_ 1 _ rfl; refine mK ?_; refine blk_put (cs := #[.int .i64 0, .slice none 0 0, .int .i64 0]) ?_ 0 _ rfl; refine mK ?_; exact BK237.out⟩
         replace HB : Aside0 (Below w.heap.size w w35) := by rw [← hW_]; exact ⟨(mH4 HB.out GE221.out GE222.out GE235.out GE237.out)⟩
         clear hW_
         replace HO_236000 := mS (Kd.S_drew HO_236000.out)
         replace HO_236001 := mS (Kd.R_drew HO_236001.out)
         replace HO_236002 := mS (Kd.R_drew HO_236002.out)
         replace BK221 := mS (blk_drew BK221.out)
         replace BK222 := mS (blk_drew BK222.out)
         replace BK235 := mS (blk_drew BK235.out)
         replace BK237 := mS (blk_drew BK237.out)
         replace HB := mS (below_drew1 HB.out)
         refine start_ (n := 15) (S := fun w' => w'.cell? ⟨gb235, 0, none⟩ = some (u236000) ∧ w'.cell? ⟨gb235, 1, none⟩ = some (.slice Ao18 y226.length co18) ∧ w'.cell? ⟨gb235, 2, none⟩ = some (.slice Ao17 y232.length co17) ∧ w'.cell? ⟨gb235, 3, none⟩ = some (.int .i64 a0_3) ∧ w'.cell? ⟨gb237, 0, none⟩ = some (.int .i64 ((rd_T120 l0_0 x4_1).f0)) ∧ w'.cell? ⟨gb237, 1, none⟩ = some (.slice A236_1 ((rd_T120 l0_0 x4_1).f1).length c236_1) ∧ w'.cell? ⟨gb237, 2, none⟩ = some (.int .i64 ((rd_T120 l0_0 x4_1).f2))) (ds := [14]) (mb 0 15) (by kernel_rfl) rfl rfl (mb4 BK235.out (mc3 BK237.out)) (fun hHeld => ?_); refine with_tabW spec_l2Copy.tab6 spec_l2Copy.bits6 (fun HT_ HW_ => ?_)
         generalize w35.drew = w36 at HO_236000 HO_236001 HO_236002 BK221 BK222 BK235 BK237 HB hHeld ⊢
         refine mpu 0 29 HT_.out (mb 1 14) ?_
         refine mpu 2 31 HT_.out (mr [1,1,1,12]) ?_
         refine mpu 5 34 HT_.out (mr [1,1,1,2,1,9]) ?_
         refine mpu 8 37 HT_.out (mr [1,1,1,2,1,2,1,6]) ?_
         refine mpt 1 30 HT_.out HW_.out (mr [3,2,1,2,1,6]) hHeld ?_
         refine mpt 3 32 HT_.out HW_.out (mr [4,1,1,2,1,6]) hHeld ?_
         refine mpt 6 35 HT_.out HW_.out (mr [4,1,2,1,1,6]) hHeld ?_
         refine mpt 9 38 HT_.out HW_.out (mr [4,1,2,1,2,5]) hHeld ?_
         refine mone 4 (some 33) HT_.out (mr [7,1,2,5]) (fun K hK => ?_)
         refine Kd.R_lit_step (Kd.int .u8) _ 5 ?hg (N := 33) ?hd (xs := ([] : List Int)) (inner := []) (ok := fun _ => True) (okp := fun _ => True) ?hr ?hp (fun _ hk => hk) trivial (Below.refl _ _) (Nat.le_refl _) (by simp) ?_; (case hd => rfl); (case hg => rfl); (case hr => first | (go_simp; done) | (go_simp; rfl)); (case hp => exact (Reps.none _ _))
         intro v239 w37 ho38 hb hg_ hnew_
         clear hg_ hnew_
         (first | rw [← Ny238.out] at ho38 | (simp only [Int.reduceToNat] at ho38; rw [← Ny238.out] at ho38))
         replace HO_236000 := mS (Kd.S_elder' (mSd HO_236000.out) (Kd.R_base ho38) hb)
         replace HO_236001 := mS (Kd.R_below (mR HO_236001.out) hb)
         replace HO_236002 := mS (Kd.R_below (mR HO_236002.out) hb)
         have HO240 := mS (Kd.R_lower ho38 (below_size (mH4 HB.out GE221.out GE222.out GE235.out GE237.out)))
         replace BK221 := mB BK221 hb
         replace BK222 := mB BK222 hb
         replace BK235 := mB BK235 hb
         replace BK237 := mB BK237 hb
         replace HB := mS (below_step (mH4 HB.out GE221.out GE222.out GE235.out GE237.out) hb)
         clear hb ho38
         refine hK.out _ _ (mb4 BK235.out (mc3 BK237.out)) (fun hHeld => ?_)
         clear hK K
         refine mno 33 ?_
         refine mone 7 (some 36) HT_.out (mb 10 5) (fun K hK => ?_)
         refine Kd.R_append_rows_step (Kd.int .u8) (w0 := w) w.heap.size (by rfl) (.tmp 33) (.tmp 35) 22 5 (.int .u8 0) 1 rfl Try.underlying22 info5 rfl (by decide) (by omega) v239 y238 ((rd_T120 l0_0 x4_1).f1) _ _ _ (fun _ => True) (fun _ => False) rfl rfl ?aO ?aR (fun _ _ h => h) (fun _ h => h.elim) ?aF ?aB ?aS ?aL ?_
         (case aR => exact mC (Kd.C_below HR236_1.out HB.out))
         (case aB => exact (mH4 HB.out GE221.out GE222.out GE235.out GE237.out))
         (case aF => exact (fun _ _ => trivial))
         (case aO => exact (mR HO240.out))
         (case aS => exact (below_size (mH4 HB.out GE221.out GE222.out GE235.out GE237.out)))
         (case aL => have := LMc25.out; omega)
         intro v242 w39 ho hb hg hat
         rw [← Ny241.out] at ho
         replace HO_236000 := mS (Kd.S_after (ok := (fun k_ => k_ ≠ gb237)) (mSd HO_236000.out) hg hat)
         replace HO_236001 := mS (Kd.R_over' (mR HO_236001.out) (Kd.R_typed (mR HO240.out)) (by decide) hg)
         replace HO_236002 := mS (Kd.R_over' (mR HO_236002.out) (Kd.R_typed (mR HO240.out)) (by decide) hg)
         replace BK221 := mS (blk_grown (g := gb221) (o := .cells #[.slice (some ad236) l0_0.length c0_0, .slice A0_1 l0_1.length c0_1, .slice A0_2 l0_2.length c0_2, .int .i64 a0_3] 63 (0, 0)) (mK BK221.out) hg (Kd.R_ne HO240.out BK221.out (by decide)))
         replace BK222 := mS (blk_grown (g := gb222) (o := .cells #[.slice none 0 0, .slice none 0 0, .slice none 0 0, .int .i64 0] 63 (0, 0)) (mK BK222.out) hg (Kd.R_ne HO240.out BK222.out (by decide)))
         replace BK235 := mS (blk_grown (g := gb235) (o := .cells #[u236000, .slice Ao18 y226.length co18, .slice Ao17 y232.length co17, .int .i64 a0_3] 63 (0, 0)) (mK BK235.out) hg (Kd.R_ne HO240.out BK235.out (by decide)))
         replace BK237 := mS (blk_grown (g := gb237) (o := .cells #[.int .i64 ((rd_T120 l0_0 x4_1).f0), .slice A236_1 ((rd_T120 l0_0 x4_1).f1).length c236_1, .int .i64 ((rd_T120 l0_0 x4_1).f2)] 120 (0, 0)) (mK BK237.out) hg (Kd.R_ne HO240.out BK237.out (by decide)))
         replace HB := mS (hb)
         have HO243 := mS (ho)
         clear HO240
         clear ho hb hg hat
         obtain ⟨Ao40, co40, eo40⟩ := Kd.R_slice HO243.out
         (first | subst eo40 | (injection eo40 with f1_ f2_ f3_; have f4_ := f1_.symm; have f5_ := f3_.symm; clear f1_ f2_ f3_; subst f4_; subst f5_))
         refine hK.out _ _ (mb4 BK235.out (mc3 BK237.out)) (fun hHeld => ?_)
         clear hK K
         refine mno 36 ?_
         refine mpu 10 39 HT_.out (mb 11 4) ?_
         refine mone 11 (some 40) HT_.out (mb 12 3) (fun K hK => ?_)
         refine value_ (w1 := ?_) (v := ?_) (by rfl) rfl ?_ ?_
         rotate_left 2
         ·go_simp
          constructor
          ·rfl
          ·rfl
         refine hK.out _ _ ⟨(blk_cell (blk_alloc BK235.out _) 0).trans rfl, (blk_cell (blk_alloc BK235.out _) 1).trans rfl, (blk_cell (blk_alloc BK235.out _) 2).trans rfl, (blk_cell (blk_alloc BK235.out _) 3).trans rfl, (blk_cell (blk_alloc BK237.out _) 0).trans rfl, (blk_cell (blk_alloc BK237.out _) 1).trans rfl, (blk_cell (blk_alloc BK237.out _) 2).trans rfl⟩ (fun hHeld => ?_)
         clear hK K
         refine mno 40 ?_
         refine mone 12 (some 41) HT_.out (mb 13 2) (fun K hK => ?_)
         refine Kd.S_append_step k120 (w0 := w) w.heap.size (by rfl) (.tmp 30) (.tmp 40) 60 120 (.agg #[(.int .i64 0), (.slice none 0 0), (.int .i64 0)]) 40 rfl Try.underlying60 info120 rfl (by decide) (by omega) u236000 x236000_1 (⟨(rd_T120 l0_0 x4_1).f0, y241, (rd_T120 l0_0 x4_1).f2⟩ : S120) [.int .i64 ((rd_T120 l0_0 x4_1).f0), .slice Ao40 y241.length co40, .int .i64 ((rd_T120 l0_0 x4_1).f2)] (fun k_ => k_ ≠ gb237) (fun k_ => some k_ = (.slice Ao40 y241.length co40 : Value).ownBlock) rfl rfl ?aP (fun k_ hk_ => ((Kd.R_mono (ok' := fun k_ => ((fun k_ => k_ ≠ gb237)) k_ ∧ some k_ ≠ (u236000 : Value).ownBlock) (Kd.R_types (Kd.R_apart' (HO243.out) (Kd.S_typed HO_236000.out) (by decide)) BK237.out (by decide)) (fun k_ hk => ⟨hk.2, hk.1.2⟩))).1 k_ hk_.symm) ?aF ?aO ?aB ?aS ?aL ?_
         (case aP => exact k120_mkM _ _ _ (⟨(rd_T120 l0_0 x4_1).f0, y241, (rd_T120 l0_0 x4_1).f2⟩ : S120) (Kd.R_mono (Kd.R_tight rfl (Kd.R_mono (ok' := fun k_ => ((fun k_ => k_ ≠ gb237)) k_ ∧ some k_ ≠ (u236000 : Value).ownBlock) (Kd.R_types (Kd.R_apart' (HO243.out) (Kd.S_typed HO_236000.out) (by decide)) BK237.out (by decide)) (fun k_ hk => ⟨hk.2, hk.1.2⟩))) (fun _ h_ => h_)))
         (case aB => exact (mH4 HB.out GE221.out GE222.out GE235.out GE237.out))
         (case aF => exact (fun k_ hk => Kd.freshB (g := gb237) (o := .cells #[.int .i64 ((rd_T120 l0_0 x4_1).f0), .slice A236_1 ((rd_T120 l0_0 x4_1).f1).length c236_1, .int .i64 ((rd_T120 l0_0 x4_1).f2)] 120 (0, 0)) (mK BK237.out) k_ hk))
         (case aO => exact (by refine mSd ?_; exact Kd.S_mono HO_236000.out (fun k_ hk => ⟨hk.1, fun e_ => hk.2 e_⟩)))
         (case aS => exact (below_size (mH4 HB.out GE221.out GE222.out GE235.out GE237.out)))
         (case aL => have := LMc26.out; omega)
         intro v245 w41 ho hb hg hat
         rw [← Ny244.out] at ho
         replace HO_236001 := mS (Kd.R_over' (mR HO_236001.out) (Kd.S_typed (mSd HO_236000.out)) (by decide) hg)
         replace HO_236002 := mS (Kd.R_over' (mR HO_236002.out) (Kd.S_typed (mSd HO_236000.out)) (by decide) hg)
         replace BK221 := mS (blk_grown (g := gb221) (o := .cells #[.slice (some ad236) l0_0.length c0_0, .slice A0_1 l0_1.length c0_1, .slice A0_2 l0_2.length c0_2, .int .i64 a0_3] 63 (0, 0)) (mK BK221.out) hg (Kd.S_ne HO_236000.out BK221.out (by decide)))
         replace BK222 := mS (blk_grown (g := gb222) (o := .cells #[.slice none 0 0, .slice none 0 0, .slice none 0 0, .int .i64 0] 63 (0, 0)) (mK BK222.out) hg (Kd.S_ne HO_236000.out BK222.out (by decide)))
         replace BK235 := mS (blk_grown (g := gb235) (o := .cells #[u236000, .slice Ao18 y226.length co18, .slice Ao17 y232.length co17, .int .i64 a0_3] 63 (0, 0)) (mK BK235.out) hg (Kd.S_ne HO_236000.out BK235.out (by decide)))
         replace BK237 := mS (blk_grown (g := gb237) (o := .cells #[.int .i64 ((rd_T120 l0_0 x4_1).f0), .slice A236_1 ((rd_T120 l0_0 x4_1).f1).length c236_1, .int .i64 ((rd_T120 l0_0 x4_1).f2)] 120 (0, 0)) (mK BK237.out) hg (Kd.S_away HO_236000.out (fun _ hk => hk.1)))
         replace HB := mS (hb)
         have HO246 := mS (ho)
         clear HO_236000
         clear HO243
         clear ho hb hg hat
         obtain ⟨Ao42, co42, eo42⟩ := Kd.S_slice HO246.out
         (first | subst eo42 | (injection eo42 with f1_ f2_ f3_; have f4_ := f1_.symm; have f5_ := f3_.symm; clear f1_ f2_ f3_; subst f4_; subst f5_))
         refine hK.out _ _ (mb4 BK235.out (mc3 BK237.out)) (fun hHeld => ?_)
         clear hK K
         refine mno 41 ?_
         refine mpu 13 42 HT_.out (mb 14 1) ?_
         refine last_ (i := 14) (N := none) (mb 15 0) rfl rfl (one_of HT_.out (by kernel_rfl)) (by decide) (fun K hK => ?_)
         have hs43 : w41.cell? ⟨gb235, 0, none⟩ = some (u236000) := mZ BK235.out 0
         have hfs43 := blk_frozen BK235.out 0
         have hns43_0 := NB221_235.out
         have hns43_1 := NB222_235.out
         have hns43_3 := NB237_235.out
         have hms43_0 := NB235_221.out
         have hms43_1 := NB235_222.out
         have hms43_3 := NB235_237.out
         refine skip_ (w1 := ?_) (by rfl) rfl ?_ ?_
         rotate_left
         ·go_simp
          rfl
         refine hK.out _ _ ?_
         clear hK K
         refine done_ (done_of HT_.out (by kernel_rfl)) ?_
         try go_wp2
         go_roundg k1
         case measure => have := HK1.out; omega
         case rel => exact ⟨(wrap64 (x4_1 + 1)), (y244), (.slice Ao42 y244.length co42), mE, H', ⟨by have := HK1.out; omega⟩, ⟨by refine mSd ?_; exact Kd.S_mono (Kd.S_far (p := ⟨gb235, 0, none⟩) (Kd.S_types HO246.out BK235.out (by decide)) (fun _ hk => hk.2) (.slice Ao42 y244.length co42)) (fun _ hk => trivial)⟩, ⟨by refine mR ?_; exact Kd.R_mono (Kd.R_far (p := ⟨gb235, 0, none⟩) (Kd.R_types HO_236001.out BK235.out (by decide)) (fun _ hk => hk.2) (.slice Ao42 y244.length co42)) (fun _ hk => hk.1)⟩, ⟨by refine mR ?_; exact Kd.R_mono (Kd.R_far (p := ⟨gb235, 0, none⟩) (Kd.R_types HO_236002.out BK235.out (by decide)) (fun _ hk => hk.2) (.slice Ao42 y244.length co42)) (fun _ hk => hk.1)⟩, ⟨mKf NB221_235.out BK221.out⟩, ⟨mKf NB222_235.out BK222.out⟩, ⟨by refine mK ?_; refine blk_put (cs := #[u236000, .slice Ao18 y226.length co18, .slice Ao17 y232.length co17, .int .i64 a0_3]) ?_ 0 _ rfl; refine mK ?_; exact BK235.out⟩, ⟨(mH4 HB.out GE221.out GE222.out GE235.out GE237.out)⟩⟩
        ·rw [if_neg c26] at H
         exact absurd H (by simp)
       ·rw [if_neg c25] at H
        exact absurd H (by simp)
      ·rw [if_neg c24] at H
       exact absurd H (by simp)
     ·rw [if_neg c23] at H
      have c23b0 := decide_eq_false c23
      clear c23
      simp only [Option.some.injEq, Prod.mk.injEq] at H
      obtain ⟨rfl, rfl, rfl, rfl⟩ := H
      have hnb44 := NB221_222.out
      have hnc44 := NB222_221.out
      have hnb45 := NB221_235.out
      have hnc45 := NB235_221.out
      obtain ⟨hcz46_0, hcz46_1, hcz46_2, hcz46_3, hfz46_0, hfz46_1, hfz46_2, hfz46_3⟩ := mZ4 BK221.out
      have hnb47 := NB235_222.out
      have hnc47 := NB222_235.out
      obtain ⟨hcz48_0, hcz48_1, hcz48_2, hcz48_3, hfz48_0, hfz48_1, hfz48_2, hfz48_3⟩ := mZ4 BK235.out
      obtain ⟨Ao49, co49, eo49⟩ := Kd.S_slice HO_236000.out
      subst eo49
      obtain ⟨hcz50_0, hcz50_1, hcz50_2, hcz50_3, hfz50_0, hfz50_1, hfz50_2, hfz50_3⟩ := mZ4 BK222.out
      go_wp2
      refine bodyPost_ret (results_cell_row rfl _ _ gb222 63 #[.slice Ao49 x236000_1.length co49, .slice Ao18 y226.length co18, .slice Ao17 y232.length co17, .int .i64 a0_3] (0, 0) _ rfl (by refine mK ?_; refine blk_put (cs := #[.slice Ao49 x236000_1.length co49, .slice Ao18 y226.length co18, .slice Ao17 y232.length co17, .int .i64 0]) ?_ 3 _ rfl; refine mK ?_; refine blk_put (cs := #[.slice Ao49 x236000_1.length co49, .slice Ao18 y226.length co18, .slice none 0 0, .int .i64 0]) ?_ 2 _ rfl; refine mK ?_; refine blk_put (cs := #[.slice Ao49 x236000_1.length co49, .slice none 0 0, .slice none 0 0, .int .i64 0]) ?_ 1 _ rfl; refine mK ?_; refine blk_put (cs := #[.slice none 0 0, .slice none 0 0, .slice none 0 0, .int .i64 0]) ?_ 0 _ rfl; refine mK ?_; exact BK222.out) Try.underlying63 rfl (by kernel_rfl)) rfl ?_
      exact ⟨_, _, _, mEw, by refine mSd ?_; exact Kd.S_mono (mSf4 (Kd.S_types HO_236000.out BK222.out (by decide))) (fun _ hk => trivial), by refine mR ?_; exact Kd.R_mono (mRf4 (Kd.R_types HO_236001.out BK222.out (by decide))) (fun _ hk => hk.1), by refine mR ?_; exact Kd.R_mono (mRf4 (Kd.R_types HO_236002.out BK222.out (by decide))) (fun _ hk => hk.1), (mH3 HB.out GE221.out GE222.out GE235.out)⟩
  ·rw [if_neg c3] at H
   exact absurd H (by simp)
 ·rw [if_neg c2] at H
  exact absurd H (by simp)
end Go.Proofs.Ytgbejjeephipeaa.MFnExactFall
