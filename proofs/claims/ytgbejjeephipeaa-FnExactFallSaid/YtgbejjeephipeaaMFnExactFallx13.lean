-- Written by mp.py, our own printer (wip/mp.py), and made shorter by wip/mp_shrink*.py.
import Derived.Test.YtgbejjeephipeaaVMShort
import Derived.Test.YtgbejjeephipeaaMFnExactFallx0
import Derived.Test.YtgbejjeephipeaaMFnExactFallx11
import Derived.Test.YtgbejjeephipeaaMFnExactFallx12
namespace Go.Proofs.Ytgbejjeephipeaa.MFnExactFall
open Go.RowKit Go.Proofs.YtgbejjeephipeaaW.PrintWords Go.Proofs.YtgbejjeephipeaaW.PrintLast Go.Proofs.YtgbejjeephipeaaW.PrintMore Go.Proofs.Ytgbejjeephipeaa.MWords
attribute [local go_sem] max2_int min2_int max_two min_two max_three min_three max_four min_four
set_option linter.unusedVariables false
set_option linter.unusedSimpArgs false
mutual
def impl_DiskOk.l0 : Nat → Int → List (S120) → Int → Int → List (S120) → List (S126) → List (S126) → Int → Option (Bool)
 | 0, _, _, _, _, _, _, _, _ => none
 | k + 1, x3, x7, x8, x9, x325000, x325001, x325002, x325003 => if x9 < x8 then (if 0 ≤ x9 then (if x9 < (x7.length : Int) then ((impl_in.f ((rd_T120 x7 x9).f0) 1 (wrap64 (x325003 - 1))).bind fun t327 => (if t327 = true then ((impl_in.f ((rd_T120 x7 x9).f2) 0 (((rd_T120 x7 x9).f1).length : Int)).bind fun t328 => (if t328 = true then (if x9 > 0 then (if 0 ≤ (wrap64 (x9 - 1)) then (if (wrap64 (x9 - 1)) < (x325000.length : Int) then (if ((rd_T120 x325000 (wrap64 (x9 - 1))).f0) ≥ ((rd_T120 x7 x9).f0) then (impl_DiskOk.j1 k x3 x7 x8 x9 true x325000 x325001 x325002 x325003 ((rd_T120 x7 x9).f0) ((rd_T120 x7 x9).f1) ((rd_T120 x7 x9).f2)) else ((impl_hasId.f k x325001 ((rd_T120 x7 x9).f0)).bind fun t330 => (if t330 = true then (impl_DiskOk.j1 k x3 x7 x8 x9 false x325000 x325001 x325002 x325003 ((rd_T120 x7 x9).f0) ((rd_T120 x7 x9).f1) ((rd_T120 x7 x9).f2)) else ((impl_hasId.f k x325002 ((rd_T120 x7 x9).f0)).bind fun t331 => (impl_DiskOk.j1 k x3 x7 x8 x9 (!t331) x325000 x325001 x325002 x325003 ((rd_T120 x7 x9).f0) ((rd_T120 x7 x9).f1) ((rd_T120 x7 x9).f2)))))) else (none)) else (none)) else ((impl_hasId.f k x325001 ((rd_T120 x7 x9).f0)).bind fun t332 => (if t332 = true then (impl_DiskOk.j1 k x3 x7 x8 x9 false x325000 x325001 x325002 x325003 ((rd_T120 x7 x9).f0) ((rd_T120 x7 x9).f1) ((rd_T120 x7 x9).f2)) else ((impl_hasId.f k x325002 ((rd_T120 x7 x9).f0)).bind fun t333 => (impl_DiskOk.j1 k x3 x7 x8 x9 (!t333) x325000 x325001 x325002 x325003 ((rd_T120 x7 x9).f0) ((rd_T120 x7 x9).f1) ((rd_T120 x7 x9).f2)))))) else (impl_DiskOk.j1 k x3 x7 x8 x9 true x325000 x325001 x325002 x325003 ((rd_T120 x7 x9).f0) ((rd_T120 x7 x9).f1) ((rd_T120 x7 x9).f2)))) else (impl_DiskOk.j1 k x3 x7 x8 x9 true x325000 x325001 x325002 x325003 ((rd_T120 x7 x9).f0) ((rd_T120 x7 x9).f1) ((rd_T120 x7 x9).f2)))) else (none)) else (none)) else ((impl_in.f x325003 1 1000000).bind fun t334 => (if t334 = true then (if x3 ≤ 60000 then ((impl_namesOk.f k x325000 x325001 x325002 x325003 x325001).bind fun t335 => (if t335 = true then ((impl_namesOk.f k x325000 x325001 x325002 x325003 x325002).bind fun t336 => (some t336)) else (some false))) else (some false)) else (some false)))
def impl_DiskOk.j1 : Nat → Int → List (S120) → Int → Int → Bool → List (S120) → List (S126) → List (S126) → Int → Int → List Int → Int → Option (Bool)
 | 0, _, _, _, _, _, _, _, _, _, _, _, _ => none
 | k + 1, x3, x7, x8, x9, x61, x325000, x325001, x325002, x325003, x327000, x327001, x327002 => if x61 = true then (some false) else (impl_DiskOk.l0 k (wrap64 (x3 + (x327001.length : Int))) x7 x8 (wrap64 (x9 + 1)) x325000 x325001 x325002 x325003)
end
def impl_DiskOk.f (k : Nat) (l0_0 : List (S120)) (l0_1 : List (S126)) (l0_2 : List (S126)) (a0_3 : Int) : Option (Bool) := impl_DiskOk.l0 k 0 l0_0 (l0_0.length : Int) 0 l0_0 l0_1 l0_2 a0_3
def impl_DiskOk.T5 : Bool × List (List Nat × List Nat) := (true, [([], []), ([0], [0]), ([], []), ([2], [2]), ([3], [3]), ([1, 4], [1, 4]), ([5], [5]), ([6, 5], [6]), ([7], [7]), ([8, 7], [7, 8]), ([7], [7]), ([10, 7], [7, 10]), ([11, 7], [7, 11]), ([9, 12, 7, 7], [7, 9, 12]), ([13, 7], [7, 13]), ([7, 14], [7, 14]), ([15, 13], [15]), ([16], [16]), ([17, 16], [16, 17]), ([18, 16, 16], [16, 18]), ([19], [19]), ([20, 19], [19, 20]), ([19], [19]), ([22, 19], [19, 22]), ([21, 23, 19], [19, 21, 23]), ([24, 19], [19, 24]), ([25, 19], [19, 25]), ([19], [19]), ([27, 19], [19, 27]), ([26, 28, 19], [19, 26, 28]), ([19, 29, 16], [16, 19, 29]), ([16, 30], [16, 30]), ([31, 19], [31]), ([32], [32]), ([33, 32], [32, 33]), ([32], [32]), ([35, 32], [32, 35]), ([34, 36, 32, 32], [32, 34, 36]), ([37, 32], [32, 37]), ([38, 37, 32], [32, 38]), ([39], [39]), ([40, 39], [39, 40]), ([39], [39]), ([42, 39], [39, 42]), ([41, 43, 39, 39], [39, 41, 43]), ([44, 39], [39, 44]), ([39, 45, 32], [32, 39, 45]), ([32, 46], [32, 46])])
def impl_DiskOk.B5 : List Nat := [0, 1, 0, 4, 12, 31, 63, 127, 255, 511, 255, 1279, 3327, 8191, 16383, 32767, 65535, 131071, 262143, 524287, 1048575, 2097151, 1048575, 5242879, 16777215, 33554431, 67108863, 1048575, 135266303, 536870911, 1073741823, 2147483647, 4294967295, 8589934591, 17179869183, 8589934591, 42949672959, 137438953471, 274877906943, 549755813887, 1099511627775, 2199023255551, 1099511627775, 5497558138879, 17592186044415, 35184372088831, 70368744177663, 140737488355327]
theorem impl_DiskOk.tab5 : rtab .any (opsOf Try.f46 5) = impl_DiskOk.T5 := by kernel_rfl
theorem impl_DiskOk.bits5 : waitsOk impl_DiskOk.T5.2 impl_DiskOk.B5 = true := by kernel_rfl
set_option maxHeartbeats 8000000 in
set_option maxRecDepth 100000 in
theorem impl_DiskOk.calls (k : Nat) (A0_0 : Option Addr) (c0_0 : Nat) (l0_0 : List (S120)) (A0_1 : Option Addr) (c0_1 : Nat) (l0_1 : List (S126)) (A0_2 : Option Addr) (c0_2 : Nat) (l0_2 : List (S126)) (a0_3 : Int) (r : Bool) (w : World) (hr0_0 : Kd.C k120 w A0_0 l0_0.length l0_0) (hc0_0 : l0_0.length ≤ c0_0) (hr0_1 : Kd.C k126 w A0_1 l0_1.length l0_1) (hc0_1 : l0_1.length ≤ c0_1) (hr0_2 : Kd.C k126 w A0_2 l0_2.length l0_2) (hc0_2 : l0_2.length ≤ c0_2) (h : impl_DiskOk.f k l0_0 l0_1 l0_2 a0_3 = some r) :
  Calls Try.prog 46 #[.agg #[.slice A0_0 l0_0.length c0_0, .slice A0_1 l0_1.length c0_1, .slice A0_2 l0_2.length c0_2, .int .i64 a0_3]] w fun e w' => e = .returned (.bool r) ∧ Below w.heap.size w w' := by
 have hu63 := Try.underlying63
 have hu120 := Try.underlying120
 have HR0_0 := mS hr0_0
 have HC0_0 := mS hc0_0
 clear hr0_0 hc0_0
 have HR0_1 := mS hr0_1
 have HC0_1 := mS hc0_1
 clear hr0_1 hc0_1
 have HR0_2 := mS hr0_2
 have HC0_2 := mS hc0_2
 clear hr0_2 hc0_2
 have HB := mS (Below.refl w.heap.size w)
 have H : (impl_DiskOk.l0 k 0 l0_0 (l0_0.length : Int) 0 l0_0 l0_1 l0_2 a0_3) = some r := h
 clear h
 have H' := mS H
 clear H
 go_enter Try.func46, Try.ntmps46
 go_wp2_with (first | ((with_reducible refine gate_dst (N := 1) rfl ?_); (try (refine gate_guard (by rfl) ?_; dsimp only)); refine mBx 1 #[.slice A0_0 l0_0.length c0_0, .slice A0_1 l0_1.length c0_1, .slice A0_2 l0_2.length c0_2, .int .i64 a0_3] 63 ?_; intro gb324 hg w2 hbox hb; have BK324 := mS (hbox); have GW324 := mG hg (mH HB.out); have GE324 := mG hg (mH HB.out); replace HB := mS (below_step (mH HB.out) hb); clear hb hbox hg; obtain ⟨hcz3_0, hcz3_1, hcz3_2, hcz3_3, hfz3_0, hfz3_1, hfz3_2, hfz3_3⟩ := mZ4 BK324.out))
 go_loopg [3, 9] k (fun kq v3 v9 w' => ∃ (x3_1 : Int) (x9_1 : Int), v3 = .int .i64 x3_1 ∧ v9 = .int .i64 x9_1 ∧ Aside0 (impl_DiskOk.l0 kq x3_1 l0_0 (l0_0.length : Int) x9_1 l0_0 l0_1 l0_2 a0_3 = some r) ∧ Aside0 (kq ≤ k) ∧ Aside0 (w'.heap[gb324]? = some (.cells #[(.slice A0_0 l0_0.length c0_0), (.slice A0_1 l0_1.length c0_1), (.slice A0_2 l0_2.length c0_2), .int .i64 a0_3] 63 (0, 0))) ∧ Aside0 (Below w.heap.size w w'))
 case atStart => exact ⟨(0), (0), mE, mE, H', ⟨Nat.le_refl _⟩, ⟨mK BK324.out⟩, ⟨(mH1 HB.out GE324.out)⟩⟩
 case round =>
  clear H'
  try clear p2
  try clear hcz3_0
  try clear hcz3_1
  try clear hcz3_2
  try clear hcz3_3
  try clear hfz3_0
  try clear hfz3_1
  try clear hfz3_2
  try clear hfz3_3
  obtain ⟨x3_1, x9_1, rfl, rfl, HA, HK1, BK324, HB⟩ := hrel
  cases gk with
  | zero => exact absurd HA.out (by simp [impl_DiskOk.l0])
  | succ k1 =>
   have H := HA.out
   clear HA
   simp only [impl_DiskOk.l0] at H
   by_cases c4 : x9_1 < (l0_0.length : Int)
   ·rw [if_pos c4] at H
    have c4b0 := decide_eq_true c4
    clear c4
    by_cases c5 : 0 ≤ x9_1
    ·rw [if_pos c5] at H
     have c5b0 := decide_eq_true c5
     clear c5
     by_cases c6 : x9_1 < (l0_0.length : Int)
     ·rw [if_pos c6] at H
      have c6b0 := decide_eq_true c6
      clear c6
      have HC7 := mS H
      clear H
      have p325 : 0 ≤ (x9_1 : Int) := mD
      have q325 : x9_1 < (l0_0.length : Int) := mD
      obtain ⟨ad325, A325_1, c325_1, e325, hx325_0, hx325_1, hx325_2, hl325_1, hi325_1⟩ := at_T120 HR0_0.out x9_1 p325 q325
      cases e325
      replace hx325_0 := mX HB.out hx325_0
      replace hx325_1 := mX HB.out hx325_1
      replace hx325_2 := mX HB.out hx325_2
      have HR325_1 := mS hi325_1
      have HC325_1 := mS hl325_1
      clear hi325_1 hl325_1
      replace p325 := eq_true p325
      replace q325 := eq_true q325
      go_upto_region 5 with (first | ((with_reducible refine gate_dst (N := 5) rfl ?_); (try (refine gate_guard (by rfl) ?_; dsimp only)); refine mBx 5 #[.int .i64 0, .slice none 0 0, .int .i64 0] 120 ?_; intro gb326 hg w8 hbox hb; have BK326 := mS (hbox); have GW326 := mG hg (mH1 HB.out GE324.out); have GE326 := mG hg (mH1 HB.out GE324.out); replace HB := mS (below_step (mH1 HB.out GE324.out) hb); have NB324_326 := mNl hg BK324.out; have NB326_324 := mNg hg BK324.out; replace BK324 := mB BK324 hb; clear hb hbox hg; have hnb9 := NB326_324.out; have hnc9 := NB324_326.out; obtain ⟨hcz10_0, hcz10_1, hcz10_2, hfz10_0, hfz10_1, hfz10_2⟩ := mZ3 BK326.out))
      (try simp only [Act.put, zA, zB, zC])
      go_cut [61] (fun v61 wc => ∃ (kq : Nat) (x61_6 : Bool), v61 = .bool x61_6 ∧ Aside0 (impl_DiskOk.j1 kq x3_1 l0_0 (l0_0.length : Int) x9_1 x61_6 l0_0 l0_1 l0_2 a0_3 ((rd_T120 l0_0 x9_1).f0) ((rd_T120 l0_0 x9_1).f1) ((rd_T120 l0_0 x9_1).f2) = some r) ∧ Aside0 (kq ≤ k1) ∧ Aside0 (wc.heap[gb324]? = some (.cells #[(.slice (some ad325) l0_0.length c0_0), (.slice A0_1 l0_1.length c0_1), (.slice A0_2 l0_2.length c0_2), .int .i64 a0_3] 63 (0, 0))) ∧ Aside0 (wc.heap[gb326]? = some (.cells #[.int .i64 ((rd_T120 l0_0 x9_1).f0), (.slice A325_1 ((rd_T120 l0_0 x9_1).f1).length c325_1), .int .i64 ((rd_T120 l0_0 x9_1).f2)] 120 (0, 0))) ∧ Aside0 (Below w.heap.size w wc))
      case first =>
       have H := HC7.out
       clear HC7
       replace H := Option.bind_eq_some_iff.mp H
       obtain ⟨t327, A110, H⟩ := H
       replace H : (if t327 = true then ((impl_in.f ((rd_T120 l0_0 x9_1).f2) 0 (((rd_T120 l0_0 x9_1).f1).length : Int)).bind fun t328 => (if t328 = true then (if x9_1 > 0 then (if 0 ≤ (wrap64 (x9_1 - 1)) then (if (wrap64 (x9_1 - 1)) < (l0_0.length : Int) then (if ((rd_T120 l0_0 (wrap64 (x9_1 - 1))).f0) ≥ ((rd_T120 l0_0 x9_1).f0) then (impl_DiskOk.j1 k1 x3_1 l0_0 (l0_0.length : Int) x9_1 true l0_0 l0_1 l0_2 a0_3 ((rd_T120 l0_0 x9_1).f0) ((rd_T120 l0_0 x9_1).f1) ((rd_T120 l0_0 x9_1).f2)) else ((impl_hasId.f k1 l0_1 ((rd_T120 l0_0 x9_1).f0)).bind fun t330 => (if t330 = true then (impl_DiskOk.j1 k1 x3_1 l0_0 (l0_0.length : Int) x9_1 false l0_0 l0_1 l0_2 a0_3 ((rd_T120 l0_0 x9_1).f0) ((rd_T120 l0_0 x9_1).f1) ((rd_T120 l0_0 x9_1).f2)) else ((impl_hasId.f k1 l0_2 ((rd_T120 l0_0 x9_1).f0)).bind fun t331 => (impl_DiskOk.j1 k1 x3_1 l0_0 (l0_0.length : Int) x9_1 (!t331) l0_0 l0_1 l0_2 a0_3 ((rd_T120 l0_0 x9_1).f0) ((rd_T120 l0_0 x9_1).f1) ((rd_T120 l0_0 x9_1).f2)))))) else (none)) else (none)) else ((impl_hasId.f k1 l0_1 ((rd_T120 l0_0 x9_1).f0)).bind fun t332 => (if t332 = true then (impl_DiskOk.j1 k1 x3_1 l0_0 (l0_0.length : Int) x9_1 false l0_0 l0_1 l0_2 a0_3 ((rd_T120 l0_0 x9_1).f0) ((rd_T120 l0_0 x9_1).f1) ((rd_T120 l0_0 x9_1).f2)) else ((impl_hasId.f k1 l0_2 ((rd_T120 l0_0 x9_1).f0)).bind fun t333 => (impl_DiskOk.j1 k1 x3_1 l0_0 (l0_0.length : Int) x9_1 (!t333) l0_0 l0_1 l0_2 a0_3 ((rd_T120 l0_0 x9_1).f0) ((rd_T120 l0_0 x9_1).f1) ((rd_T120 l0_0 x9_1).f2)))))) else (impl_DiskOk.j1 k1 x3_1 l0_0 (l0_0.length : Int) x9_1 true l0_0 l0_1 l0_2 a0_3 ((rd_T120 l0_0 x9_1).f0) ((rd_T120 l0_0 x9_1).f1) ((rd_T120 l0_0 x9_1).f2)))) else (impl_DiskOk.j1 k1 x3_1 l0_0 (l0_0.length : Int) x9_1 true l0_0 l0_1 l0_2 a0_3 ((rd_T120 l0_0 x9_1).f0) ((rd_T120 l0_0 x9_1).f1) ((rd_T120 l0_0 x9_1).f2))) = some r := H
       have A11 := mS A110
       clear A110
       by_cases c12 : t327 = true
       ·subst c12
        have H1 := H
        rw [if_pos rfl] at H1
        clear H
        have H := H1
        clear H1
        replace H := Option.bind_eq_some_iff.mp H
        obtain ⟨t328, A130, H⟩ := H
        replace H : (if t328 = true then (if x9_1 > 0 then (if 0 ≤ (wrap64 (x9_1 - 1)) then (if (wrap64 (x9_1 - 1)) < (l0_0.length : Int) then (if ((rd_T120 l0_0 (wrap64 (x9_1 - 1))).f0) ≥ ((rd_T120 l0_0 x9_1).f0) then (impl_DiskOk.j1 k1 x3_1 l0_0 (l0_0.length : Int) x9_1 true l0_0 l0_1 l0_2 a0_3 ((rd_T120 l0_0 x9_1).f0) ((rd_T120 l0_0 x9_1).f1) ((rd_T120 l0_0 x9_1).f2)) else ((impl_hasId.f k1 l0_1 ((rd_T120 l0_0 x9_1).f0)).bind fun t330 => (if t330 = true then (impl_DiskOk.j1 k1 x3_1 l0_0 (l0_0.length : Int) x9_1 false l0_0 l0_1 l0_2 a0_3 ((rd_T120 l0_0 x9_1).f0) ((rd_T120 l0_0 x9_1).f1) ((rd_T120 l0_0 x9_1).f2)) else ((impl_hasId.f k1 l0_2 ((rd_T120 l0_0 x9_1).f0)).bind fun t331 => (impl_DiskOk.j1 k1 x3_1 l0_0 (l0_0.length : Int) x9_1 (!t331) l0_0 l0_1 l0_2 a0_3 ((rd_T120 l0_0 x9_1).f0) ((rd_T120 l0_0 x9_1).f1) ((rd_T120 l0_0 x9_1).f2)))))) else (none)) else (none)) else ((impl_hasId.f k1 l0_1 ((rd_T120 l0_0 x9_1).f0)).bind fun t332 => (if t332 = true then (impl_DiskOk.j1 k1 x3_1 l0_0 (l0_0.length : Int) x9_1 false l0_0 l0_1 l0_2 a0_3 ((rd_T120 l0_0 x9_1).f0) ((rd_T120 l0_0 x9_1).f1) ((rd_T120 l0_0 x9_1).f2)) else ((impl_hasId.f k1 l0_2 ((rd_T120 l0_0 x9_1).f0)).bind fun t333 => (impl_DiskOk.j1 k1 x3_1 l0_0 (l0_0.length : Int) x9_1 (!t333) l0_0 l0_1 l0_2 a0_3 ((rd_T120 l0_0 x9_1).f0) ((rd_T120 l0_0 x9_1).f1) ((rd_T120 l0_0 x9_1).f2)))))) else (impl_DiskOk.j1 k1 x3_1 l0_0 (l0_0.length : Int) x9_1 true l0_0 l0_1 l0_2 a0_3 ((rd_T120 l0_0 x9_1).f0) ((rd_T120 l0_0 x9_1).f1) ((rd_T120 l0_0 x9_1).f2))) = some r := H
        have A13 := mS A130
        clear A130
        by_cases c14 : t328 = true
        ·subst c14
         have H1 := H
         rw [if_pos rfl] at H1
         clear H
         have H := H1
         clear H1
         by_cases c15 : x9_1 > 0
         ·rw [if_pos c15] at H
          have c15b0 : decide (0 < x9_1) = true := decide_eq_true c15
          clear c15
          (first | rw [c15b0] | (simp only [i64_w, i32_w]; rw [c15b0]) | skip)
          obtain ⟨ji16, hji16⟩ : ∃ j_ : Int, (wrap64 (x9_1 - 1)) = j_ := ⟨_, rfl⟩
          replace H : (if 0 ≤ (ji16) then (if (ji16) < (l0_0.length : Int) then (if ((rd_T120 l0_0 (ji16)).f0) ≥ ((rd_T120 l0_0 x9_1).f0) then (impl_DiskOk.j1 k1 x3_1 l0_0 (l0_0.length : Int) x9_1 true l0_0 l0_1 l0_2 a0_3 ((rd_T120 l0_0 x9_1).f0) ((rd_T120 l0_0 x9_1).f1) ((rd_T120 l0_0 x9_1).f2)) else ((impl_hasId.f k1 l0_1 ((rd_T120 l0_0 x9_1).f0)).bind fun t330 => (if t330 = true then (impl_DiskOk.j1 k1 x3_1 l0_0 (l0_0.length : Int) x9_1 false l0_0 l0_1 l0_2 a0_3 ((rd_T120 l0_0 x9_1).f0) ((rd_T120 l0_0 x9_1).f1) ((rd_T120 l0_0 x9_1).f2)) else ((impl_hasId.f k1 l0_2 ((rd_T120 l0_0 x9_1).f0)).bind fun t331 => (impl_DiskOk.j1 k1 x3_1 l0_0 (l0_0.length : Int) x9_1 (!t331) l0_0 l0_1 l0_2 a0_3 ((rd_T120 l0_0 x9_1).f0) ((rd_T120 l0_0 x9_1).f1) ((rd_T120 l0_0 x9_1).f2)))))) else (none)) else (none)) = some r := by first | (rw [hji16] at H; exact H) | (simp only [hji16] at H ⊢; exact H)
          (try rw [hji16] at A11)
          (try rw [hji16] at A13)
          have hji16w : (IntKind.i64.wrap (x9_1 - 1)) = ji16 := (i64_w _).trans hji16
          by_cases c17 : 0 ≤ (ji16)
          ·rw [if_pos c17] at H
           have c17b0 := decide_eq_true c17
           clear c17
           by_cases c18 : (ji16) < (l0_0.length : Int)
           ·rw [if_pos c18] at H
            have c18b0 := decide_eq_true c18
            clear c18
            by_cases c19 : ((rd_T120 l0_0 (ji16)).f0) ≥ ((rd_T120 l0_0 x9_1).f0)
            ·rw [if_pos c19] at H
             have c19b0 : decide (((rd_T120 l0_0 x9_1).f0) ≤ ((rd_T120 l0_0 (ji16)).f0)) = true := decide_eq_true c19
             clear c19
             have H' := mS H
             clear H
             try go_wp2
             generalize hW_ : (((w8.setCell ⟨gb326, 0, none⟩ (.int .i64 ((rd_T120 l0_0 x9_1).f0))).setCell ⟨gb326, 1, none⟩ (.slice A325_1 ((rd_T120 l0_0 x9_1).f1).length c325_1)).setCell ⟨gb326, 2, none⟩ (.int .i64 ((rd_T120 l0_0 x9_1).f2))) = w20
             replace BK324 : Aside0 (w20.heap[gb324]? = some (.cells #[.slice (some ad325) l0_0.length c0_0, .slice A0_1 l0_1.length c0_1, .slice A0_2 l0_2.length c0_2, .int .i64 a0_3] 63 (0, 0))) := by rw [← hW_]; exact ⟨mKf NB324_326.out BK324.out⟩
             replace BK326 : Aside0 (w20.heap[gb326]? = some (.cells #[.int .i64 ((rd_T120 l0_0 x9_1).f0), .slice A325_1 ((rd_T120 l0_0 x9_1).f1).length c325_1, .int .i64 ((rd_T120 l0_0 x9_1).f2)] 120 (0, 0))) := by rw [← hW_]; exact ⟨by refine mK ?_; refine blk_put (cs := #[.int .i64 ((rd_T120 l0_0 x9_1).f0), .slice A325_1 ((rd_T120 l0_0 x9_1).f1).length c325_1, .int .i64 0]) ?_ 2 _ rfl; refine mK ?_; refine blk_put (cs := #[.int .i64 ((rd_T120 l0_0 x9_1).f0), .slice none 0 0, .int .i64 0]) ?_ 1 _ rfl; refine mK ?_; refine blk_put (cs := #[.int .i64 0, .slice none 0 0, .int .i64 0]) ?_ 0 _ rfl; refine mK ?_; exact BK326.out⟩
             replace HB : Aside0 (Below w.heap.size w w20) := by rw [← hW_]; exact ⟨(mH2 HB.out GE324.out GE326.out)⟩
             clear hW_
             replace BK324 := mS (blk_drew BK324.out)
             replace BK326 := mS (blk_drew BK326.out)
             replace HB := mS (below_drew1 HB.out)
             have p329 : 0 ≤ ((ji16) : Int) := mD
             have q329 : (ji16) < (l0_0.length : Int) := mD
             obtain ⟨ad329, A329_1, c329_1, e329, hx329_0, hx329_1, hx329_2, hl329_1, hi329_1⟩ := at_T120 HR0_0.out (ji16) p329 q329
             have hw329_2 := hx329_2
             have hw329_1 := hx329_1
             have hw329_0 := hx329_0
             obtain rfl : ad325 = ad329 := (by injection e329)
             replace hx329_0 := mX HB.out hx329_0
             replace hx329_1 := mX HB.out hx329_1
             replace hx329_2 := mX HB.out hx329_2
             have HR329_1 := mS hi329_1
             have HC329_1 := mS hl329_1
             clear hi329_1 hl329_1
             replace p329 := eq_true p329
             replace q329 := eq_true q329
             refine start_ (n := 48) (S := fun w' => w'.cell? ⟨gb326, 0, none⟩ = some (.int .i64 ((rd_T120 l0_0 x9_1).f0)) ∧ w'.cell? ⟨gb326, 1, none⟩ = some (.slice A325_1 ((rd_T120 l0_0 x9_1).f1).length c325_1) ∧ w'.cell? ⟨gb326, 2, none⟩ = some (.int .i64 ((rd_T120 l0_0 x9_1).f2)) ∧ w'.cell? ⟨gb324, 0, none⟩ = some (.slice (some ad325) l0_0.length c0_0) ∧ w'.cell? ⟨gb324, 1, none⟩ = some (.slice A0_1 l0_1.length c0_1) ∧ w'.cell? ⟨gb324, 2, none⟩ = some (.slice A0_2 l0_2.length c0_2) ∧ w'.cell? ⟨gb324, 3, none⟩ = some (.int .i64 a0_3) ∧ w'.cell? (ad325.add (((ji16)).toNat * 3)) = some (.int .i64 ((rd_T120 l0_0 (ji16)).f0)) ∧ w'.cell? ⟨(ad325.add (((ji16)).toNat * 3)).block, (ad325.add (((ji16)).toNat * 3)).off + 1, none⟩ = some (.slice A329_1 ((rd_T120 l0_0 (ji16)).f1).length c329_1) ∧ w'.cell? ⟨(ad325.add (((ji16)).toNat * 3)).block, (ad325.add (((ji16)).toNat * 3)).off + 2, none⟩ = some (.int .i64 ((rd_T120 l0_0 (ji16)).f2))) (ds := []) (mb 0 48) (by kernel_rfl) rfl rfl (mb3 BK326.out (mb4 BK324.out ⟨(mX HB.out hw329_0 :), ⟨(mX HB.out hw329_1 :), (mX HB.out hw329_2 :)⟩⟩)) (fun hHeld => ?_); refine with_tabW impl_DiskOk.tab5 impl_DiskOk.bits5 (fun HT_ HW_ => ?_)
             generalize w20.drew = w21 at BK324 BK326 HB HR329_1 hx329_0 hx329_1 hx329_2 hHeld ⊢
             refine mpu 0 14 HT_.out (mb 1 47) ?_
             refine mpu 2 16 HT_.out (mr [1,1,1,45]) ?_
             refine mpt 1 15 HT_.out HW_.out (mb 3 45) hHeld ?_
             refine mpt 3 17 HT_.out HW_.out (mb 4 44) hHeld ?_
             refine mpu 4 18 HT_.out (mb 5 43) ?_
             refine mone 5 (some 19) HT_.out (mb 6 42) (fun K hK => ?_)
             refine goes_ Try.func98 (by kernel_rfl) rfl #[.int .i64 ((rd_T120 l0_0 x9_1).f0), .int .i64 1, .int .i64 (wrap64 (a0_3 - 1))] (by rfl) rfl rfl mA ?_
             with_reducible refine (impl_in.calls ((rd_T120 l0_0 x9_1).f0) 1 (wrap64 (a0_3 - 1)) true _ A11.out).mono ?_
             rintro e w' ⟨rfl, ⟨nd, rfl⟩⟩
             refine ⟨_, rfl, ?_⟩
             refine hK.out _ _ (mb3 BK326.out (mb4 BK324.out ⟨(mX HB.out hw329_0 :), ⟨(mX HB.out hw329_1 :), (mX HB.out hw329_2 :)⟩⟩)) (fun hHeld => ?_)
             clear hK K
             refine mno 19 ?_
             refine mpu 6 20 HT_.out (mb 7 41) ?_
             refine mpu 7 21 HT_.out (mb 8 40) ?_
             refine mpu 8 22 HT_.out (mb 9 39) ?_
             refine mpu 10 24 HT_.out (mr [9,1,1,37]) ?_
             refine mpt 9 23 HT_.out HW_.out (mb 11 37) hHeld ?_
             refine mpt 11 25 HT_.out HW_.out (mb 12 36) hHeld ?_
             refine mpu 12 26 HT_.out (mb 13 35) ?_
             refine mone 13 (some 27) HT_.out (mb 14 34) (fun K hK => ?_)
             refine goes_ Try.func98 (by kernel_rfl) rfl #[.int .i64 ((rd_T120 l0_0 x9_1).f2), .int .i64 0, .int .i64 (((rd_T120 l0_0 x9_1).f1).length : Int)] (by rfl) rfl rfl mA ?_
             with_reducible refine (impl_in.calls ((rd_T120 l0_0 x9_1).f2) 0 (((rd_T120 l0_0 x9_1).f1).length : Int) true _ A13.out).mono ?_
             rintro e w' ⟨rfl, ⟨nd, rfl⟩⟩
             refine ⟨_, rfl, ?_⟩
             refine hK.out _ _ (mb3 BK326.out (mb4 BK324.out ⟨(mX HB.out hw329_0 :), ⟨(mX HB.out hw329_1 :), (mX HB.out hw329_2 :)⟩⟩)) (fun hHeld => ?_)
             clear hK K
             refine mno 27 ?_
             refine mpu 14 28 HT_.out (mb 15 33) ?_
             refine mpu 15 29 HT_.out (mb 16 32) ?_
             refine mpu 16 30 HT_.out (mb 17 31) ?_
             refine mpu 17 31 HT_.out (mb 18 30) ?_
             refine mpu 18 32 HT_.out (mb 19 29) ?_
             refine mpu 19 33 HT_.out (mb 20 28) ?_
             refine mpu 20 34 HT_.out (mb 21 27) ?_
             refine mpu 22 36 HT_.out (mr [21,1,1,25]) ?_
             refine mpu 23 37 HT_.out (mr [21,1,2,24]) ?_
             refine mpu 27 41 HT_.out (mr [21,1,2,3,1,20]) ?_
             refine mpt 21 35 HT_.out HW_.out (mr [24,3,1,20]) hHeld ?_
             refine mpu 24 38 HT_.out (mr [25,2,1,20]) ?_
             refine mpu 25 39 HT_.out (mr [26,1,1,20]) ?_
             refine mpt 26 40 HT_.out HW_.out (mb 28 20) hHeld ?_
             refine mpt 28 42 HT_.out HW_.out (mb 29 19) hHeld ?_
             refine mpu 29 43 HT_.out (mb 30 18) ?_
             refine mpu 30 44 HT_.out (mb 31 17) ?_
             refine mpu 31 45 HT_.out (mb 32 16) ?_
             refine mpu 32 46 HT_.out (mb 33 15) ?_
             refine mpf 33 47 HT_.out (mb 34 14) ?_
             refine mpf 34 48 HT_.out (mb 35 13) ?_
             refine mpf 35 49 HT_.out (mb 36 12) ?_
             refine mpf 36 50 HT_.out (mb 37 11) ?_
             refine mpf 37 51 HT_.out (mb 38 10) ?_
             refine mpf 38 52 HT_.out (mb 39 9) ?_
             refine mpf 39 53 HT_.out (mb 40 8) ?_
             refine mpf 40 54 HT_.out (mb 41 7) ?_
             refine mpf 41 55 HT_.out (mb 42 6) ?_
             refine mpf 42 56 HT_.out (mb 43 5) ?_
             refine mpf 43 57 HT_.out (mb 44 4) ?_
             refine mpf 44 58 HT_.out (mb 45 3) ?_
             refine mpf 45 59 HT_.out (mb 46 2) ?_
             refine mpf 46 60 HT_.out (mb 47 1) ?_
             refine mpu 47 61 HT_.out (mb 48 0) ?_
             refine done_ (done_of HT_.out (by kernel_rfl)) ?_
             try go_wp2
             go_meet
             case rel => exact ⟨_, (true), mE, H', ⟨by have := HK1.out; first | omega | exact Nat.le_refl _⟩, ⟨mK BK324.out⟩, ⟨mK BK326.out⟩, ⟨(mH2 HB.out GE324.out GE326.out)⟩⟩
            ·rw [if_neg c19] at H
             have c19b0 : decide (((rd_T120 l0_0 x9_1).f0) ≤ ((rd_T120 l0_0 (ji16)).f0)) = false := decide_eq_false c19
             clear c19
             replace H := Option.bind_eq_some_iff.mp H
             obtain ⟨t330, A220, H⟩ := H
             replace H : (if t330 = true then (impl_DiskOk.j1 k1 x3_1 l0_0 (l0_0.length : Int) x9_1 false l0_0 l0_1 l0_2 a0_3 ((rd_T120 l0_0 x9_1).f0) ((rd_T120 l0_0 x9_1).f1) ((rd_T120 l0_0 x9_1).f2)) else ((impl_hasId.f k1 l0_2 ((rd_T120 l0_0 x9_1).f0)).bind fun t331 => (impl_DiskOk.j1 k1 x3_1 l0_0 (l0_0.length : Int) x9_1 (!t331) l0_0 l0_1 l0_2 a0_3 ((rd_T120 l0_0 x9_1).f0) ((rd_T120 l0_0 x9_1).f1) ((rd_T120 l0_0 x9_1).f2)))) = some r := H
             have A22 := mS A220
             clear A220
             by_cases c23 : t330 = true
             ·subst c23
              have H1 := H
              rw [if_pos rfl] at H1
              clear H
              have H := H1
              clear H1
              have H' := mS H
              clear H
              try go_wp2
              generalize hW_ : (((w8.setCell ⟨gb326, 0, none⟩ (.int .i64 ((rd_T120 l0_0 x9_1).f0))).setCell ⟨gb326, 1, none⟩ (.slice A325_1 ((rd_T120 l0_0 x9_1).f1).length c325_1)).setCell ⟨gb326, 2, none⟩ (.int .i64 ((rd_T120 l0_0 x9_1).f2))) = w24
              replace BK324 : Aside0 (w24.heap[gb324]? = some (.cells #[.slice (some ad325) l0_0.length c0_0, .slice A0_1 l0_1.length c0_1, .slice A0_2 l0_2.length c0_2, .int .i64 a0_3] 63 (0, 0))) := by rw [← hW_]; exact ⟨mKf NB324_326.out BK324.out⟩
              replace BK326 : Aside0 (w24.heap[gb326]? = some (.cells #[.int .i64 ((rd_T120 l0_0 x9_1).f0), .slice A325_1 ((rd_T120 l0_0 x9_1).f1).length c325_1, .int .i64 ((rd_T120 l0_0 x9_1).f2)] 120 (0, 0))) := by rw [← hW_]; exact ⟨by refine mK ?_; refine blk_put (cs := #[.int .i64 ((rd_T120 l0_0 x9_1).f0), .slice A325_1 ((rd_T120 l0_0 x9_1).f1).length c325_1, .int .i64 0]) ?_ 2 _ rfl; refine mK ?_; refine blk_put (cs := #[.int .i64 ((rd_T120 l0_0 x9_1).f0), .slice none 0 0, .int .i64 0]) ?_ 1 _ rfl; refine mK ?_; refine blk_put (cs := #[.int .i64 0, .slice none 0 0, .int .i64 0]) ?_ 0 _ rfl; refine mK ?_; exact BK326.out⟩
              replace HB : Aside0 (Below w.heap.size w w24) := by rw [← hW_]; exact ⟨(mH2 HB.out GE324.out GE326.out)⟩
              clear hW_
              replace BK324 := mS (blk_drew BK324.out)
              replace BK326 := mS (blk_drew BK326.out)
              replace HB := mS (below_drew1 HB.out)
              have p329 : 0 ≤ ((ji16) : Int) := mD
              have q329 : (ji16) < (l0_0.length : Int) := mD
              obtain ⟨ad329, A329_1, c329_1, e329, hx329_0, hx329_1, hx329_2, hl329_1, hi329_1⟩ := at_T120 HR0_0.out (ji16) p329 q329
              have hw329_2 := hx329_2
              have hw329_1 := hx329_1
              have hw329_0 := hx329_0
              obtain rfl : ad325 = ad329 := (by injection e329)
              replace hx329_0 := mX HB.out hx329_0
              replace hx329_1 := mX HB.out hx329_1
              replace hx329_2 := mX HB.out hx329_2
              have HR329_1 := mS hi329_1
              have HC329_1 := mS hl329_1
              clear hi329_1 hl329_1
              replace p329 := eq_true p329
              replace q329 := eq_true q329
              refine start_ (n := 48) (S := fun w' => w'.cell? ⟨gb326, 0, none⟩ = some (.int .i64 ((rd_T120 l0_0 x9_1).f0)) ∧ w'.cell? ⟨gb326, 1, none⟩ = some (.slice A325_1 ((rd_T120 l0_0 x9_1).f1).length c325_1) ∧ w'.cell? ⟨gb326, 2, none⟩ = some (.int .i64 ((rd_T120 l0_0 x9_1).f2)) ∧ w'.cell? ⟨gb324, 0, none⟩ = some (.slice (some ad325) l0_0.length c0_0) ∧ w'.cell? ⟨gb324, 1, none⟩ = some (.slice A0_1 l0_1.length c0_1) ∧ w'.cell? ⟨gb324, 2, none⟩ = some (.slice A0_2 l0_2.length c0_2) ∧ w'.cell? ⟨gb324, 3, none⟩ = some (.int .i64 a0_3) ∧ w'.cell? (ad325.add (((ji16)).toNat * 3)) = some (.int .i64 ((rd_T120 l0_0 (ji16)).f0)) ∧ w'.cell? ⟨(ad325.add (((ji16)).toNat * 3)).block, (ad325.add (((ji16)).toNat * 3)).off + 1, none⟩ = some (.slice A329_1 ((rd_T120 l0_0 (ji16)).f1).length c329_1) ∧ w'.cell? ⟨(ad325.add (((ji16)).toNat * 3)).block, (ad325.add (((ji16)).toNat * 3)).off + 2, none⟩ = some (.int .i64 ((rd_T120 l0_0 (ji16)).f2))) (ds := []) (mb 0 48) (by kernel_rfl) rfl rfl (mb3 BK326.out (mb4 BK324.out ⟨(mX HB.out hw329_0 :), ⟨(mX HB.out hw329_1 :), (mX HB.out hw329_2 :)⟩⟩)) (fun hHeld => ?_); refine with_tabW impl_DiskOk.tab5 impl_DiskOk.bits5 (fun HT_ HW_ => ?_)
              generalize w24.drew = w25 at BK324 BK326 HB HR329_1 hx329_0 hx329_1 hx329_2 hHeld ⊢
              refine mpu 0 14 HT_.out (mb 1 47) ?_
              refine mpu 2 16 HT_.out (mr [1,1,1,45]) ?_
              refine mpt 1 15 HT_.out HW_.out (mb 3 45) hHeld ?_
              refine mpt 3 17 HT_.out HW_.out (mb 4 44) hHeld ?_
              refine mpu 4 18 HT_.out (mb 5 43) ?_
              refine mone 5 (some 19) HT_.out (mb 6 42) (fun K hK => ?_)
              refine goes_ Try.func98 (by kernel_rfl) rfl #[.int .i64 ((rd_T120 l0_0 x9_1).f0), .int .i64 1, .int .i64 (wrap64 (a0_3 - 1))] (by rfl) rfl rfl mA ?_
              with_reducible refine (impl_in.calls ((rd_T120 l0_0 x9_1).f0) 1 (wrap64 (a0_3 - 1)) true _ A11.out).mono ?_
              rintro e w' ⟨rfl, ⟨nd, rfl⟩⟩
              refine ⟨_, rfl, ?_⟩
              refine hK.out _ _ (mb3 BK326.out (mb4 BK324.out ⟨(mX HB.out hw329_0 :), ⟨(mX HB.out hw329_1 :), (mX HB.out hw329_2 :)⟩⟩)) (fun hHeld => ?_)
              clear hK K
              refine mno 19 ?_
              refine mpu 6 20 HT_.out (mb 7 41) ?_
              refine mpu 7 21 HT_.out (mb 8 40) ?_
              refine mpu 8 22 HT_.out (mb 9 39) ?_
              refine mpu 10 24 HT_.out (mr [9,1,1,37]) ?_
              refine mpt 9 23 HT_.out HW_.out (mb 11 37) hHeld ?_
              refine mpt 11 25 HT_.out HW_.out (mb 12 36) hHeld ?_
              refine mpu 12 26 HT_.out (mb 13 35) ?_
              refine mone 13 (some 27) HT_.out (mb 14 34) (fun K hK => ?_)
              refine goes_ Try.func98 (by kernel_rfl) rfl #[.int .i64 ((rd_T120 l0_0 x9_1).f2), .int .i64 0, .int .i64 (((rd_T120 l0_0 x9_1).f1).length : Int)] (by rfl) rfl rfl mA ?_
              with_reducible refine (impl_in.calls ((rd_T120 l0_0 x9_1).f2) 0 (((rd_T120 l0_0 x9_1).f1).length : Int) true _ A13.out).mono ?_
              rintro e w' ⟨rfl, ⟨nd, rfl⟩⟩
              refine ⟨_, rfl, ?_⟩
              refine hK.out _ _ (mb3 BK326.out (mb4 BK324.out ⟨(mX HB.out hw329_0 :), ⟨(mX HB.out hw329_1 :), (mX HB.out hw329_2 :)⟩⟩)) (fun hHeld => ?_)
              clear hK K
              refine mno 27 ?_
              refine mpu 14 28 HT_.out (mb 15 33) ?_
              refine mpu 15 29 HT_.out (mb 16 32) ?_
              refine mpu 16 30 HT_.out (mb 17 31) ?_
              refine mpu 17 31 HT_.out (mb 18 30) ?_
              refine mpu 18 32 HT_.out (mb 19 29) ?_
              refine mpu 19 33 HT_.out (mb 20 28) ?_
              refine mpu 20 34 HT_.out (mb 21 27) ?_
              refine mpu 22 36 HT_.out (mr [21,1,1,25]) ?_
              refine mpu 23 37 HT_.out (mr [21,1,2,24]) ?_
              refine mpu 27 41 HT_.out (mr [21,1,2,3,1,20]) ?_
              refine mpt 21 35 HT_.out HW_.out (mr [24,3,1,20]) hHeld ?_
              refine mpu 24 38 HT_.out (mr [25,2,1,20]) ?_
              refine mpu 25 39 HT_.out (mr [26,1,1,20]) ?_
              refine mpt 26 40 HT_.out HW_.out (mb 28 20) hHeld ?_
              refine mpt 28 42 HT_.out HW_.out (mb 29 19) hHeld ?_
              refine mpu 29 43 HT_.out (mb 30 18) ?_
              refine mpu 30 44 HT_.out (mb 31 17) ?_
              refine mpu 31 45 HT_.out (mb 32 16) ?_
              refine mpu 32 46 HT_.out (mb 33 15) ?_
              refine mpu 33 47 HT_.out (mb 34 14) ?_
              refine mpu 35 49 HT_.out (mr [34,1,1,12]) ?_
              refine mpt 34 48 HT_.out HW_.out (mb 36 12) hHeld ?_
              refine mpt 36 50 HT_.out HW_.out (mb 37 11) hHeld ?_
              refine mone 37 (some 51) HT_.out (mb 38 10) (fun K hK => ?_)
              refine goes_ Try.func99 (by kernel_rfl) rfl #[.slice A0_1 l0_1.length c0_1, .int .i64 ((rd_T120 l0_0 x9_1).f0)] (by rfl) rfl rfl mA ?_
              with_reducible refine (impl_hasId.calls k1 _ _ l0_1 ((rd_T120 l0_0 x9_1).f0) true _ ?side1 ?side2 A22.out).mono ?_
              (case side1 => exact mC (Kd.C_below HR0_1.out (mH2 HB.out GE324.out GE326.out)))
              (case side2 => exact HC0_1.out)
              rintro e w26 ⟨rfl, hb⟩
              refine ⟨_, rfl, ?_⟩
              replace BK324 := mB BK324 hb
              replace BK326 := mB BK326 hb
              replace HB := mS (below_step (mH2 HB.out GE324.out GE326.out) hb)
              (try clear hb)
              (try clear hb2)
              (try clear hk)
              (try clear hi)
              refine hK.out _ _ (mb3 BK326.out (mb4 BK324.out ⟨(mX HB.out hw329_0 :), ⟨(mX HB.out hw329_1 :), (mX HB.out hw329_2 :)⟩⟩)) (fun hHeld => ?_)
              clear hK K
              refine mno 51 ?_
              refine mpu 38 52 HT_.out (mb 39 9) ?_
              refine mpu 39 53 HT_.out (mb 40 8) ?_
              refine mpf 40 54 HT_.out (mb 41 7) ?_
              refine mpf 41 55 HT_.out (mb 42 6) ?_
              refine mpf 42 56 HT_.out (mb 43 5) ?_
              refine mpf 43 57 HT_.out (mb 44 4) ?_
              refine mpf 44 58 HT_.out (mb 45 3) ?_
              refine mpf 45 59 HT_.out (mb 46 2) ?_
              refine mpu 46 60 HT_.out (mb 47 1) ?_
              refine mpu 47 61 HT_.out (mb 48 0) ?_
              refine done_ (done_of HT_.out (by kernel_rfl)) ?_
              try go_wp2
              go_meet
              case rel => exact ⟨_, (false), mE, H', ⟨by have := HK1.out; first | omega | exact Nat.le_refl _⟩, ⟨mK BK324.out⟩, ⟨mK BK326.out⟩, ⟨(mH2 HB.out GE324.out GE326.out)⟩⟩
             ·replace c23 := Bool.eq_false_iff.mpr c23
              subst c23
              have H1 := H
              rw [if_neg (show ¬ (false = true) by decide)] at H1
              clear H
              have H := H1
              clear H1
              replace H := Option.bind_eq_some_iff.mp H
              obtain ⟨t331, A270, H⟩ := H
              replace H : (impl_DiskOk.j1 k1 x3_1 l0_0 (l0_0.length : Int) x9_1 (!t331) l0_0 l0_1 l0_2 a0_3 ((rd_T120 l0_0 x9_1).f0) ((rd_T120 l0_0 x9_1).f1) ((rd_T120 l0_0 x9_1).f2)) = some r := H
              have A27 := mS A270
              clear A270
              have H' := mS H
              clear H
              try go_wp2
              generalize hW_ : (((w8.setCell ⟨gb326, 0, none⟩ (.int .i64 ((rd_T120 l0_0 x9_1).f0))).setCell ⟨gb326, 1, none⟩ (.slice A325_1 ((rd_T120 l0_0 x9_1).f1).length c325_1)).setCell ⟨gb326, 2, none⟩ (.int .i64 ((rd_T120 l0_0 x9_1).f2))) = w28
              replace BK324 : Aside0 (w28.heap[gb324]? = some (.cells #[.slice (some ad325) l0_0.length c0_0, .slice A0_1 l0_1.length c0_1, .slice A0_2 l0_2.length c0_2, .int .i64 a0_3] 63 (0, 0))) := by rw [← hW_]; exact ⟨mKf NB324_326.out BK324.out⟩
              replace BK326 : Aside0 (w28.heap[gb326]? = some (.cells #[.int .i64 ((rd_T120 l0_0 x9_1).f0), .slice A325_1 ((rd_T120 l0_0 x9_1).f1).length c325_1, .int .i64 ((rd_T120 l0_0 x9_1).f2)] 120 (0, 0))) := by rw [← hW_]; exact ⟨by refine mK ?_; refine blk_put (cs := #[.int .i64 ((rd_T120 l0_0 x9_1).f0), .slice A325_1 ((rd_T120 l0_0 x9_1).f1).length c325_1, .int .i64 0]) ?_ 2 _ rfl; refine mK ?_; refine blk_put (cs := #[.int .i64 ((rd_T120 l0_0 x9_1).f0), .slice none 0 0, .int .i64 0]) ?_ 1 _ rfl; refine mK ?_; refine blk_put (cs := #[.int .i64 0, .slice none 0 0, .int .i64 0]) ?_ 0 _ rfl; refine mK ?_; exact BK326.out⟩
              replace HB : Aside0 (Below w.heap.size w w28) := by rw [← hW_]; exact ⟨(mH2 HB.out GE324.out GE326.out)⟩
              clear hW_
              replace BK324 := mS (blk_drew BK324.out)
              replace BK326 := mS (blk_drew BK326.out)
              replace HB := mS (below_drew1 HB.out)
              have p329 : 0 ≤ ((ji16) : Int) := mD
              have q329 : (ji16) < (l0_0.length : Int) := mD
              obtain ⟨ad329, A329_1, c329_1, e329, hx329_0, hx329_1, hx329_2, hl329_1, hi329_1⟩ := at_T120 HR0_0.out (ji16) p329 q329
              have hw329_2 := hx329_2
              have hw329_1 := hx329_1
              have hw329_0 := hx329_0
              obtain rfl : ad325 = ad329 := (by injection e329)
              replace hx329_0 := mX HB.out hx329_0
              replace hx329_1 := mX HB.out hx329_1
              replace hx329_2 := mX HB.out hx329_2
              have HR329_1 := mS hi329_1
              have HC329_1 := mS hl329_1
              clear hi329_1 hl329_1
              replace p329 := eq_true p329
              replace q329 := eq_true q329
              refine start_ (n := 48) (S := fun w' => w'.cell? ⟨gb326, 0, none⟩ = some (.int .i64 ((rd_T120 l0_0 x9_1).f0)) ∧ w'.cell? ⟨gb326, 1, none⟩ = some (.slice A325_1 ((rd_T120 l0_0 x9_1).f1).length c325_1) ∧ w'.cell? ⟨gb326, 2, none⟩ = some (.int .i64 ((rd_T120 l0_0 x9_1).f2)) ∧ w'.cell? ⟨gb324, 0, none⟩ = some (.slice (some ad325) l0_0.length c0_0) ∧ w'.cell? ⟨gb324, 1, none⟩ = some (.slice A0_1 l0_1.length c0_1) ∧ w'.cell? ⟨gb324, 2, none⟩ = some (.slice A0_2 l0_2.length c0_2) ∧ w'.cell? ⟨gb324, 3, none⟩ = some (.int .i64 a0_3) ∧ w'.cell? (ad325.add (((ji16)).toNat * 3)) = some (.int .i64 ((rd_T120 l0_0 (ji16)).f0)) ∧ w'.cell? ⟨(ad325.add (((ji16)).toNat * 3)).block, (ad325.add (((ji16)).toNat * 3)).off + 1, none⟩ = some (.slice A329_1 ((rd_T120 l0_0 (ji16)).f1).length c329_1) ∧ w'.cell? ⟨(ad325.add (((ji16)).toNat * 3)).block, (ad325.add (((ji16)).toNat * 3)).off + 2, none⟩ = some (.int .i64 ((rd_T120 l0_0 (ji16)).f2))) (ds := []) (mb 0 48) (by kernel_rfl) rfl rfl (mb3 BK326.out (mb4 BK324.out ⟨(mX HB.out hw329_0 :), ⟨(mX HB.out hw329_1 :), (mX HB.out hw329_2 :)⟩⟩)) (fun hHeld => ?_); refine with_tabW impl_DiskOk.tab5 impl_DiskOk.bits5 (fun HT_ HW_ => ?_)
              generalize w28.drew = w29 at BK324 BK326 HB HR329_1 hx329_0 hx329_1 hx329_2 hHeld ⊢
              refine mpu 0 14 HT_.out (mb 1 47) ?_
              refine mpu 2 16 HT_.out (mr [1,1,1,45]) ?_
              refine mpt 1 15 HT_.out HW_.out (mb 3 45) hHeld ?_
              refine mpt 3 17 HT_.out HW_.out (mb 4 44) hHeld ?_
              refine mpu 4 18 HT_.out (mb 5 43) ?_
              refine mone 5 (some 19) HT_.out (mb 6 42) (fun K hK => ?_)
              refine goes_ Try.func98 (by kernel_rfl) rfl #[.int .i64 ((rd_T120 l0_0 x9_1).f0), .int .i64 1, .int .i64 (wrap64 (a0_3 - 1))] (by rfl) rfl rfl mA ?_
              with_reducible refine (impl_in.calls ((rd_T120 l0_0 x9_1).f0) 1 (wrap64 (a0_3 - 1)) true _ A11.out).mono ?_
              rintro e w' ⟨rfl, ⟨nd, rfl⟩⟩
              refine ⟨_, rfl, ?_⟩
              refine hK.out _ _ (mb3 BK326.out (mb4 BK324.out ⟨(mX HB.out hw329_0 :), ⟨(mX HB.out hw329_1 :), (mX HB.out hw329_2 :)⟩⟩)) (fun hHeld => ?_)
              clear hK K
              refine mno 19 ?_
              refine mpu 6 20 HT_.out (mb 7 41) ?_
              refine mpu 7 21 HT_.out (mb 8 40) ?_
              refine mpu 8 22 HT_.out (mb 9 39) ?_
              refine mpu 10 24 HT_.out (mr [9,1,1,37]) ?_
              refine mpt 9 23 HT_.out HW_.out (mb 11 37) hHeld ?_
              refine mpt 11 25 HT_.out HW_.out (mb 12 36) hHeld ?_
              refine mpu 12 26 HT_.out (mb 13 35) ?_
              refine mone 13 (some 27) HT_.out (mb 14 34) (fun K hK => ?_)
              refine goes_ Try.func98 (by kernel_rfl) rfl #[.int .i64 ((rd_T120 l0_0 x9_1).f2), .int .i64 0, .int .i64 (((rd_T120 l0_0 x9_1).f1).length : Int)] (by rfl) rfl rfl mA ?_
              with_reducible refine (impl_in.calls ((rd_T120 l0_0 x9_1).f2) 0 (((rd_T120 l0_0 x9_1).f1).length : Int) true _ A13.out).mono ?_
              rintro e w' ⟨rfl, ⟨nd, rfl⟩⟩
              refine ⟨_, rfl, ?_⟩
              refine hK.out _ _ (mb3 BK326.out (mb4 BK324.out ⟨(mX HB.out hw329_0 :), ⟨(mX HB.out hw329_1 :), (mX HB.out hw329_2 :)⟩⟩)) (fun hHeld => ?_)
              clear hK K
              refine mno 27 ?_
              refine mpu 14 28 HT_.out (mb 15 33) ?_
              refine mpu 15 29 HT_.out (mb 16 32) ?_
              refine mpu 16 30 HT_.out (mb 17 31) ?_
              refine mpu 17 31 HT_.out (mb 18 30) ?_
              refine mpu 18 32 HT_.out (mb 19 29) ?_
              refine mpu 19 33 HT_.out (mb 20 28) ?_
              refine mpu 20 34 HT_.out (mb 21 27) ?_
              refine mpu 22 36 HT_.out (mr [21,1,1,25]) ?_
              refine mpu 23 37 HT_.out (mr [21,1,2,24]) ?_
              refine mpu 27 41 HT_.out (mr [21,1,2,3,1,20]) ?_
              refine mpt 21 35 HT_.out HW_.out (mr [24,3,1,20]) hHeld ?_
              refine mpu 24 38 HT_.out (mr [25,2,1,20]) ?_
              refine mpu 25 39 HT_.out (mr [26,1,1,20]) ?_
              refine mpt 26 40 HT_.out HW_.out (mb 28 20) hHeld ?_
              refine mpt 28 42 HT_.out HW_.out (mb 29 19) hHeld ?_
              refine mpu 29 43 HT_.out (mb 30 18) ?_
              refine mpu 30 44 HT_.out (mb 31 17) ?_
              refine mpu 31 45 HT_.out (mb 32 16) ?_
              refine mpu 32 46 HT_.out (mb 33 15) ?_
              refine mpu 33 47 HT_.out (mb 34 14) ?_
              refine mpu 35 49 HT_.out (mr [34,1,1,12]) ?_
              refine mpt 34 48 HT_.out HW_.out (mb 36 12) hHeld ?_
              refine mpt 36 50 HT_.out HW_.out (mb 37 11) hHeld ?_
              refine mone 37 (some 51) HT_.out (mb 38 10) (fun K hK => ?_)
              refine goes_ Try.func99 (by kernel_rfl) rfl #[.slice A0_1 l0_1.length c0_1, .int .i64 ((rd_T120 l0_0 x9_1).f0)] (by rfl) rfl rfl mA ?_
              with_reducible refine (impl_hasId.calls k1 _ _ l0_1 ((rd_T120 l0_0 x9_1).f0) false _ ?side1 ?side2 A22.out).mono ?_
              (case side1 => exact mC (Kd.C_below HR0_1.out (mH2 HB.out GE324.out GE326.out)))
              (case side2 => exact HC0_1.out)
              rintro e w30 ⟨rfl, hb⟩
              refine ⟨_, rfl, ?_⟩
              replace BK324 := mB BK324 hb
              replace BK326 := mB BK326 hb
              replace HB := mS (below_step (mH2 HB.out GE324.out GE326.out) hb)
              (try clear hb)
              (try clear hb2)
              (try clear hk)
              (try clear hi)
              refine hK.out _ _ (mb3 BK326.out (mb4 BK324.out ⟨(mX HB.out hw329_0 :), ⟨(mX HB.out hw329_1 :), (mX HB.out hw329_2 :)⟩⟩)) (fun hHeld => ?_)
              clear hK K
              refine mno 51 ?_
              refine mpu 38 52 HT_.out (mb 39 9) ?_
              refine mpu 39 53 HT_.out (mb 40 8) ?_
              refine mpu 40 54 HT_.out (mb 41 7) ?_
              refine mpu 42 56 HT_.out (mr [41,1,1,5]) ?_
              refine mpt 41 55 HT_.out HW_.out (mb 43 5) hHeld ?_
              refine mpt 43 57 HT_.out HW_.out (mb 44 4) hHeld ?_
              refine mone 44 (some 58) HT_.out (mb 45 3) (fun K hK => ?_)
              refine goes_ Try.func99 (by kernel_rfl) rfl #[.slice A0_2 l0_2.length c0_2, .int .i64 ((rd_T120 l0_0 x9_1).f0)] (by rfl) rfl rfl mA ?_
              with_reducible refine (impl_hasId.calls k1 _ _ l0_2 ((rd_T120 l0_0 x9_1).f0) t331 _ ?side1 ?side2 A27.out).mono ?_
              (case side1 => exact mC (Kd.C_below HR0_2.out HB.out))
              (case side2 => exact HC0_2.out)
              rintro e w31 ⟨rfl, hb⟩
              refine ⟨_, rfl, ?_⟩
              replace BK324 := mB BK324 hb
              replace BK326 := mB BK326 hb
              replace HB := mS (below_step (mH2 HB.out GE324.out GE326.out) hb)
              (try clear hb)
              (try clear hb2)
              (try clear hk)
              (try clear hi)
              refine hK.out _ _ (mb3 BK326.out (mb4 BK324.out ⟨(mX HB.out hw329_0 :), ⟨(mX HB.out hw329_1 :), (mX HB.out hw329_2 :)⟩⟩)) (fun hHeld => ?_)
              clear hK K
              refine mno 58 ?_
              refine mpu 45 59 HT_.out (mb 46 2) ?_
              refine mpu 46 60 HT_.out (mb 47 1) ?_
              refine mpu 47 61 HT_.out (mb 48 0) ?_
              refine done_ (done_of HT_.out (by kernel_rfl)) ?_
              try go_wp2
              go_meet
              case rel => exact ⟨_, (!t331), mE, H', ⟨by have := HK1.out; first | omega | exact Nat.le_refl _⟩, ⟨mK BK324.out⟩, ⟨mK BK326.out⟩, ⟨(mH2 HB.out GE324.out GE326.out)⟩⟩
           ·rw [if_neg c18] at H
            exact absurd H (by simp)
          ·rw [if_neg c17] at H
           exact absurd H (by simp)
         ·rw [if_neg c15] at H
          have c15b0 : decide (0 < x9_1) = false := decide_eq_false c15
          clear c15
          (first | rw [c15b0] | (simp only [i64_w, i32_w]; rw [c15b0]) | skip)
          replace H := Option.bind_eq_some_iff.mp H
          obtain ⟨t332, A320, H⟩ := H
          replace H : (if t332 = true then (impl_DiskOk.j1 k1 x3_1 l0_0 (l0_0.length : Int) x9_1 false l0_0 l0_1 l0_2 a0_3 ((rd_T120 l0_0 x9_1).f0) ((rd_T120 l0_0 x9_1).f1) ((rd_T120 l0_0 x9_1).f2)) else ((impl_hasId.f k1 l0_2 ((rd_T120 l0_0 x9_1).f0)).bind fun t333 => (impl_DiskOk.j1 k1 x3_1 l0_0 (l0_0.length : Int) x9_1 (!t333) l0_0 l0_1 l0_2 a0_3 ((rd_T120 l0_0 x9_1).f0) ((rd_T120 l0_0 x9_1).f1) ((rd_T120 l0_0 x9_1).f2)))) = some r := H
          have A32 := mS A320
          clear A320
          by_cases c33 : t332 = true
          ·subst c33
           have H1 := H
           rw [if_pos rfl] at H1
           clear H
           have H := H1
           clear H1
           have H' := mS H
           clear H
           try go_wp2
           generalize hW_ : (((w8.setCell ⟨gb326, 0, none⟩ (.int .i64 ((rd_T120 l0_0 x9_1).f0))).setCell ⟨gb326, 1, none⟩ (.slice A325_1 ((rd_T120 l0_0 x9_1).f1).length c325_1)).setCell ⟨gb326, 2, none⟩ (.int .i64 ((rd_T120 l0_0 x9_1).f2))) = w34
           replace BK324 : Aside0 (w34.heap[gb324]? = some (.cells #[.slice (some ad325) l0_0.length c0_0, .slice A0_1 l0_1.length c0_1, .slice A0_2 l0_2.length c0_2, .int .i64 a0_3] 63 (0, 0))) := by rw [← hW_]; exact ⟨mKf NB324_326.out BK324.out⟩
           replace BK326 : Aside0 (w34.heap[gb326]? = some (.cells #[.int .i64 ((rd_T120 l0_0 x9_1).f0), .slice A325_1 ((rd_T120 l0_0 x9_1).f1).length c325_1, .int .i64 ((rd_T120 l0_0 x9_1).f2)] 120 (0, 0))) := by rw [← hW_]; exact ⟨by refine mK ?_; refine blk_put (cs := #[.int .i64 ((rd_T120 l0_0 x9_1).f0), .slice A325_1 ((rd_T120 l0_0 x9_1).f1).length c325_1, .int .i64 0]) ?_ 2 _ rfl; refine mK ?_; refine blk_put (cs := #[.int .i64 ((rd_T120 l0_0 x9_1).f0), .slice none 0 0, .int .i64 0]) ?_ 1 _ rfl; refine mK ?_; refine blk_put (cs := #[.int .i64 0, .slice none 0 0, .int .i64 0]) ?_ 0 _ rfl; refine mK ?_; exact BK326.out⟩
           replace HB : Aside0 (Below w.heap.size w w34) := by rw [← hW_]; exact ⟨(mH2 HB.out GE324.out GE326.out)⟩
           clear hW_
           replace BK324 := mS (blk_drew BK324.out)
           replace BK326 := mS (blk_drew BK326.out)
           replace HB := mS (below_drew1 HB.out)
           refine start_ (n := 48) (S := fun w' => w'.cell? ⟨gb326, 0, none⟩ = some (.int .i64 ((rd_T120 l0_0 x9_1).f0)) ∧ w'.cell? ⟨gb326, 1, none⟩ = some (.slice A325_1 ((rd_T120 l0_0 x9_1).f1).length c325_1) ∧ w'.cell? ⟨gb326, 2, none⟩ = some (.int .i64 ((rd_T120 l0_0 x9_1).f2)) ∧ w'.cell? ⟨gb324, 0, none⟩ = some (.slice (some ad325) l0_0.length c0_0) ∧ w'.cell? ⟨gb324, 1, none⟩ = some (.slice A0_1 l0_1.length c0_1) ∧ w'.cell? ⟨gb324, 2, none⟩ = some (.slice A0_2 l0_2.length c0_2) ∧ w'.cell? ⟨gb324, 3, none⟩ = some (.int .i64 a0_3)) (ds := []) (mb 0 48) (by kernel_rfl) rfl rfl (mb3 BK326.out (mc4 BK324.out)) (fun hHeld => ?_); refine with_tabW impl_DiskOk.tab5 impl_DiskOk.bits5 (fun HT_ HW_ => ?_)
           generalize w34.drew = w35 at BK324 BK326 HB hHeld ⊢
           refine mpu 0 14 HT_.out (mb 1 47) ?_
           refine mpu 2 16 HT_.out (mr [1,1,1,45]) ?_
           refine mpt 1 15 HT_.out HW_.out (mb 3 45) hHeld ?_
           refine mpt 3 17 HT_.out HW_.out (mb 4 44) hHeld ?_
           refine mpu 4 18 HT_.out (mb 5 43) ?_
           refine mone 5 (some 19) HT_.out (mb 6 42) (fun K hK => ?_)
           refine goes_ Try.func98 (by kernel_rfl) rfl #[.int .i64 ((rd_T120 l0_0 x9_1).f0), .int .i64 1, .int .i64 (wrap64 (a0_3 - 1))] (by rfl) rfl rfl mA ?_
           with_reducible refine (impl_in.calls ((rd_T120 l0_0 x9_1).f0) 1 (wrap64 (a0_3 - 1)) true _ A11.out).mono ?_
           rintro e w' ⟨rfl, ⟨nd, rfl⟩⟩
           refine ⟨_, rfl, ?_⟩
           refine hK.out _ _ (mb3 BK326.out (mc4 BK324.out)) (fun hHeld => ?_)
           clear hK K
           refine mno 19 ?_
           refine mpu 6 20 HT_.out (mb 7 41) ?_
           refine mpu 7 21 HT_.out (mb 8 40) ?_
           refine mpu 8 22 HT_.out (mb 9 39) ?_
           refine mpu 10 24 HT_.out (mr [9,1,1,37]) ?_
           refine mpt 9 23 HT_.out HW_.out (mb 11 37) hHeld ?_
           refine mpt 11 25 HT_.out HW_.out (mb 12 36) hHeld ?_
           refine mpu 12 26 HT_.out (mb 13 35) ?_
           refine mone 13 (some 27) HT_.out (mb 14 34) (fun K hK => ?_)
           refine goes_ Try.func98 (by kernel_rfl) rfl #[.int .i64 ((rd_T120 l0_0 x9_1).f2), .int .i64 0, .int .i64 (((rd_T120 l0_0 x9_1).f1).length : Int)] (by rfl) rfl rfl mA ?_
           with_reducible refine (impl_in.calls ((rd_T120 l0_0 x9_1).f2) 0 (((rd_T120 l0_0 x9_1).f1).length : Int) true _ A13.out).mono ?_
           rintro e w' ⟨rfl, ⟨nd, rfl⟩⟩
           refine ⟨_, rfl, ?_⟩
           refine hK.out _ _ (mb3 BK326.out (mc4 BK324.out)) (fun hHeld => ?_)
           clear hK K
           refine mno 27 ?_
           refine mpu 14 28 HT_.out (mb 15 33) ?_
           refine mpu 15 29 HT_.out (mb 16 32) ?_
           refine mpu 16 30 HT_.out (mb 17 31) ?_
           refine mpu 17 31 HT_.out (mb 18 30) ?_
           refine mpu 18 32 HT_.out (mb 19 29) ?_
           refine mpu 19 33 HT_.out (mb 20 28) ?_
           refine mpf 20 34 HT_.out (mb 21 27) ?_
           refine mpf 21 35 HT_.out (mb 22 26) ?_
           refine mpf 22 36 HT_.out (mb 23 25) ?_
           refine mpf 23 37 HT_.out (mb 24 24) ?_
           refine mpf 24 38 HT_.out (mb 25 23) ?_
           refine mpf 25 39 HT_.out (mb 26 22) ?_
           refine mpf 26 40 HT_.out (mb 27 21) ?_
           refine mpf 27 41 HT_.out (mb 28 20) ?_
           refine mpf 28 42 HT_.out (mb 29 19) ?_
           refine mpf 29 43 HT_.out (mb 30 18) ?_
           refine mpu 30 44 HT_.out (mb 31 17) ?_
           refine mpu 31 45 HT_.out (mb 32 16) ?_
           refine mpu 32 46 HT_.out (mb 33 15) ?_
           refine mpu 33 47 HT_.out (mb 34 14) ?_
           refine mpu 35 49 HT_.out (mr [34,1,1,12]) ?_
           refine mpt 34 48 HT_.out HW_.out (mb 36 12) hHeld ?_
           refine mpt 36 50 HT_.out HW_.out (mb 37 11) hHeld ?_
           refine mone 37 (some 51) HT_.out (mb 38 10) (fun K hK => ?_)
           refine goes_ Try.func99 (by kernel_rfl) rfl #[.slice A0_1 l0_1.length c0_1, .int .i64 ((rd_T120 l0_0 x9_1).f0)] (by rfl) rfl rfl mA ?_
           with_reducible refine (impl_hasId.calls k1 _ _ l0_1 ((rd_T120 l0_0 x9_1).f0) true _ ?side1 ?side2 A32.out).mono ?_
           (case side1 => exact mC (Kd.C_below HR0_1.out (mH2 HB.out GE324.out GE326.out)))
           (case side2 => exact HC0_1.out)
           rintro e w36 ⟨rfl, hb⟩
           refine ⟨_, rfl, ?_⟩
           replace BK324 := mB BK324 hb
           replace BK326 := mB BK326 hb
           replace HB := mS (below_step (mH2 HB.out GE324.out GE326.out) hb)
           (try clear hb)
           (try clear hb2)
           (try clear hk)
           (try clear hi)
           refine hK.out _ _ (mb3 BK326.out (mc4 BK324.out)) (fun hHeld => ?_)
           clear hK K
           refine mno 51 ?_
           refine mpu 38 52 HT_.out (mb 39 9) ?_
           refine mpu 39 53 HT_.out (mb 40 8) ?_
           refine mpf 40 54 HT_.out (mb 41 7) ?_
           refine mpf 41 55 HT_.out (mb 42 6) ?_
           refine mpf 42 56 HT_.out (mb 43 5) ?_
           refine mpf 43 57 HT_.out (mb 44 4) ?_
           refine mpf 44 58 HT_.out (mb 45 3) ?_
           refine mpf 45 59 HT_.out (mb 46 2) ?_
           refine mpu 46 60 HT_.out (mb 47 1) ?_
           refine mpu 47 61 HT_.out (mb 48 0) ?_
           refine done_ (done_of HT_.out (by kernel_rfl)) ?_
           try go_wp2
           go_meet
           case rel => exact ⟨_, (false), mE, H', ⟨by have := HK1.out; first | omega | exact Nat.le_refl _⟩, ⟨mK BK324.out⟩, ⟨mK BK326.out⟩, ⟨(mH2 HB.out GE324.out GE326.out)⟩⟩
          ·replace c33 := Bool.eq_false_iff.mpr c33
           subst c33
           have H1 := H
           rw [if_neg (show ¬ (false = true) by decide)] at H1
           clear H
           have H := H1
           clear H1
           replace H := Option.bind_eq_some_iff.mp H
           obtain ⟨t333, A370, H⟩ := H
           replace H : (impl_DiskOk.j1 k1 x3_1 l0_0 (l0_0.length : Int) x9_1 (!t333) l0_0 l0_1 l0_2 a0_3 ((rd_T120 l0_0 x9_1).f0) ((rd_T120 l0_0 x9_1).f1) ((rd_T120 l0_0 x9_1).f2)) = some r := H
           have A37 := mS A370
           clear A370
           have H' := mS H
           clear H
           try go_wp2
           generalize hW_ : (((w8.setCell ⟨gb326, 0, none⟩ (.int .i64 ((rd_T120 l0_0 x9_1).f0))).setCell ⟨gb326, 1, none⟩ (.slice A325_1 ((rd_T120 l0_0 x9_1).f1).length c325_1)).setCell ⟨gb326, 2, none⟩ (.int .i64 ((rd_T120 l0_0 x9_1).f2))) = w38
           replace BK324 : Aside0 (w38.heap[gb324]? = some (.cells #[.slice (some ad325) l0_0.length c0_0, .slice A0_1 l0_1.length c0_1, .slice A0_2 l0_2.length c0_2, .int .i64 a0_3] 63 (0, 0))) := by rw [← hW_]; exact ⟨mKf NB324_326.out BK324.out⟩
           replace BK326 : Aside0 (w38.heap[gb326]? = some (.cells #[.int .i64 ((rd_T120 l0_0 x9_1).f0), .slice A325_1 ((rd_T120 l0_0 x9_1).f1).length c325_1, .int .i64 ((rd_T120 l0_0 x9_1).f2)] 120 (0, 0))) := by rw [← hW_]; exact ⟨by refine mK ?_; refine blk_put (cs := #[.int .i64 ((rd_T120 l0_0 x9_1).f0), .slice A325_1 ((rd_T120 l0_0 x9_1).f1).length c325_1, .int .i64 0]) ?_ 2 _ rfl; refine mK ?_; refine blk_put (cs := #[.int .i64 ((rd_T120 l0_0 x9_1).f0), .slice none 0 0, .int .i64 0]) ?_ 1 _ rfl; refine mK ?_; refine blk_put (cs := #[.int .i64 0, .slice none 0 0, .int .i64 0]) ?_ 0 _ rfl; refine mK ?_; exact BK326.out⟩
           replace HB : Aside0 (Below w.heap.size w w38) := by rw [← hW_]; exact ⟨(mH2 HB.out GE324.out GE326.out)⟩
           clear hW_
           replace BK324 := mS (blk_drew BK324.out)
           replace BK326 := mS (blk_drew BK326.out)
           replace HB := mS (below_drew1 HB.out)
           refine start_ (n := 48) (S := fun w' => w'.cell? ⟨gb326, 0, none⟩ = some (.int .i64 ((rd_T120 l0_0 x9_1).f0)) ∧ w'.cell? ⟨gb326, 1, none⟩ = some (.slice A325_1 ((rd_T120 l0_0 x9_1).f1).length c325_1) ∧ w'.cell? ⟨gb326, 2, none⟩ = some (.int .i64 ((rd_T120 l0_0 x9_1).f2)) ∧ w'.cell? ⟨gb324, 0, none⟩ = some (.slice (some ad325) l0_0.length c0_0) ∧ w'.cell? ⟨gb324, 1, none⟩ = some (.slice A0_1 l0_1.length c0_1) ∧ w'.cell? ⟨gb324, 2, none⟩ = some (.slice A0_2 l0_2.length c0_2) ∧ w'.cell? ⟨gb324, 3, none⟩ = some (.int .i64 a0_3)) (ds := []) (mb 0 48) (by kernel_rfl) rfl rfl (mb3 BK326.out (mc4 BK324.out)) (fun hHeld => ?_); refine with_tabW impl_DiskOk.tab5 impl_DiskOk.bits5 (fun HT_ HW_ => ?_)
           generalize w38.drew = w39 at BK324 BK326 HB hHeld ⊢
           refine mpu 0 14 HT_.out (mb 1 47) ?_
           refine mpu 2 16 HT_.out (mr [1,1,1,45]) ?_
           refine mpt 1 15 HT_.out HW_.out (mb 3 45) hHeld ?_
           refine mpt 3 17 HT_.out HW_.out (mb 4 44) hHeld ?_
           refine mpu 4 18 HT_.out (mb 5 43) ?_
           refine mone 5 (some 19) HT_.out (mb 6 42) (fun K hK => ?_)
           refine goes_ Try.func98 (by kernel_rfl) rfl #[.int .i64 ((rd_T120 l0_0 x9_1).f0), .int .i64 1, .int .i64 (wrap64 (a0_3 - 1))] (by rfl) rfl rfl mA ?_
           with_reducible refine (impl_in.calls ((rd_T120 l0_0 x9_1).f0) 1 (wrap64 (a0_3 - 1)) true _ A11.out).mono ?_
           rintro e w' ⟨rfl, ⟨nd, rfl⟩⟩
           refine ⟨_, rfl, ?_⟩
           refine hK.out _ _ (mb3 BK326.out (mc4 BK324.out)) (fun hHeld => ?_)
           clear hK K
           refine mno 19 ?_
           refine mpu 6 20 HT_.out (mb 7 41) ?_
           refine mpu 7 21 HT_.out (mb 8 40) ?_
           refine mpu 8 22 HT_.out (mb 9 39) ?_
           refine mpu 10 24 HT_.out (mr [9,1,1,37]) ?_
           refine mpt 9 23 HT_.out HW_.out (mb 11 37) hHeld ?_
           refine mpt 11 25 HT_.out HW_.out (mb 12 36) hHeld ?_
           refine mpu 12 26 HT_.out (mb 13 35) ?_
           refine mone 13 (some 27) HT_.out (mb 14 34) (fun K hK => ?_)
           refine goes_ Try.func98 (by kernel_rfl) rfl #[.int .i64 ((rd_T120 l0_0 x9_1).f2), .int .i64 0, .int .i64 (((rd_T120 l0_0 x9_1).f1).length : Int)] (by rfl) rfl rfl mA ?_
           with_reducible refine (impl_in.calls ((rd_T120 l0_0 x9_1).f2) 0 (((rd_T120 l0_0 x9_1).f1).length : Int) true _ A13.out).mono ?_
           rintro e w' ⟨rfl, ⟨nd, rfl⟩⟩
           refine ⟨_, rfl, ?_⟩
           refine hK.out _ _ (mb3 BK326.out (mc4 BK324.out)) (fun hHeld => ?_)
           clear hK K
           refine mno 27 ?_
           refine mpu 14 28 HT_.out (mb 15 33) ?_
           refine mpu 15 29 HT_.out (mb 16 32) ?_
           refine mpu 16 30 HT_.out (mb 17 31) ?_
           refine mpu 17 31 HT_.out (mb 18 30) ?_
           refine mpu 18 32 HT_.out (mb 19 29) ?_
           refine mpu 19 33 HT_.out (mb 20 28) ?_
           refine mpf 20 34 HT_.out (mb 21 27) ?_
           refine mpf 21 35 HT_.out (mb 22 26) ?_
           refine mpf 22 36 HT_.out (mb 23 25) ?_
           refine mpf 23 37 HT_.out (mb 24 24) ?_
           refine mpf 24 38 HT_.out (mb 25 23) ?_
           refine mpf 25 39 HT_.out (mb 26 22) ?_
           refine mpf 26 40 HT_.out (mb 27 21) ?_
           refine mpf 27 41 HT_.out (mb 28 20) ?_
           refine mpf 28 42 HT_.out (mb 29 19) ?_
           refine mpf 29 43 HT_.out (mb 30 18) ?_
           refine mpu 30 44 HT_.out (mb 31 17) ?_
           refine mpu 31 45 HT_.out (mb 32 16) ?_
           refine mpu 32 46 HT_.out (mb 33 15) ?_
           refine mpu 33 47 HT_.out (mb 34 14) ?_
           refine mpu 35 49 HT_.out (mr [34,1,1,12]) ?_
           refine mpt 34 48 HT_.out HW_.out (mb 36 12) hHeld ?_
           refine mpt 36 50 HT_.out HW_.out (mb 37 11) hHeld ?_
           refine mone 37 (some 51) HT_.out (mb 38 10) (fun K hK => ?_)
           refine goes_ Try.func99 (by kernel_rfl) rfl #[.slice A0_1 l0_1.length c0_1, .int .i64 ((rd_T120 l0_0 x9_1).f0)] (by rfl) rfl rfl mA ?_
           with_reducible refine (impl_hasId.calls k1 _ _ l0_1 ((rd_T120 l0_0 x9_1).f0) false _ ?side1 ?side2 A32.out).mono ?_
           (case side1 => exact mC (Kd.C_below HR0_1.out (mH2 HB.out GE324.out GE326.out)))
           (case side2 => exact HC0_1.out)
           rintro e w40 ⟨rfl, hb⟩
           refine ⟨_, rfl, ?_⟩
           replace BK324 := mB BK324 hb
           replace BK326 := mB BK326 hb
           replace HB := mS (below_step (mH2 HB.out GE324.out GE326.out) hb)
           (try clear hb)
           (try clear hb2)
           (try clear hk)
           (try clear hi)
           refine hK.out _ _ (mb3 BK326.out (mc4 BK324.out)) (fun hHeld => ?_)
           clear hK K
           refine mno 51 ?_
           refine mpu 38 52 HT_.out (mb 39 9) ?_
           refine mpu 39 53 HT_.out (mb 40 8) ?_
           refine mpu 40 54 HT_.out (mb 41 7) ?_
           refine mpu 42 56 HT_.out (mr [41,1,1,5]) ?_
           refine mpt 41 55 HT_.out HW_.out (mb 43 5) hHeld ?_
           refine mpt 43 57 HT_.out HW_.out (mb 44 4) hHeld ?_
           refine mone 44 (some 58) HT_.out (mb 45 3) (fun K hK => ?_)
           refine goes_ Try.func99 (by kernel_rfl) rfl #[.slice A0_2 l0_2.length c0_2, .int .i64 ((rd_T120 l0_0 x9_1).f0)] (by rfl) rfl rfl mA ?_
           with_reducible refine (impl_hasId.calls k1 _ _ l0_2 ((rd_T120 l0_0 x9_1).f0) t333 _ ?side1 ?side2 A37.out).mono ?_
           (case side1 => exact mC (Kd.C_below HR0_2.out HB.out))
           (case side2 => exact HC0_2.out)
           rintro e w41 ⟨rfl, hb⟩
           refine ⟨_, rfl, ?_⟩
           replace BK324 := mB BK324 hb
           replace BK326 := mB BK326 hb
           replace HB := mS (below_step (mH2 HB.out GE324.out GE326.out) hb)
           (try clear hb)
           (try clear hb2)
           (try clear hk)
           (try clear hi)
           refine hK.out _ _ (mb3 BK326.out (mc4 BK324.out)) (fun hHeld => ?_)
           clear hK K
           refine mno 58 ?_
           refine mpu 45 59 HT_.out (mb 46 2) ?_
           refine mpu 46 60 HT_.out (mb 47 1) ?_
           refine mpu 47 61 HT_.out (mb 48 0) ?_
           refine done_ (done_of HT_.out (by kernel_rfl)) ?_
           try go_wp2
           go_meet
           case rel => exact ⟨_, (!t333), mE, H', ⟨by have := HK1.out; first | omega | exact Nat.le_refl _⟩, ⟨mK BK324.out⟩, ⟨mK BK326.out⟩, ⟨(mH2 HB.out GE324.out GE326.out)⟩⟩
        ·replace c14 := Bool.eq_false_iff.mpr c14
         subst c14
         have H1 := H
         rw [if_neg (show ¬ (false = true) by decide)] at H1
         clear H
         have H := H1
         clear H1
         have H' := mS H
         clear H
         try go_wp2
         generalize hW_ : (((w8.setCell ⟨gb326, 0, none⟩ (.int .i64 ((rd_T120 l0_0 x9_1).f0))).setCell ⟨gb326, 1, none⟩ (.slice A325_1 ((rd_T120 l0_0 x9_1).f1).length c325_1)).setCell ⟨gb326, 2, none⟩ (.int .i64 ((rd_T120 l0_0 x9_1).f2))) = w42
         replace BK324 : Aside0 (w42.heap[gb324]? = some (.cells #[.slice (some ad325) l0_0.length c0_0, .slice A0_1 l0_1.length c0_1, .slice A0_2 l0_2.length c0_2, .int .i64 a0_3] 63 (0, 0))) := by rw [← hW_]; exact ⟨mKf NB324_326.out BK324.out⟩
         replace BK326 : Aside0 (w42.heap[gb326]? = some (.cells #[.int .i64 ((rd_T120 l0_0 x9_1).f0), .slice A325_1 ((rd_T120 l0_0 x9_1).f1).length c325_1, .int .i64 ((rd_T120 l0_0 x9_1).f2)] 120 (0, 0))) := by rw [← hW_]; exact ⟨by refine mK ?_; refine blk_put (cs := #[.int .i64 ((rd_T120 l0_0 x9_1).f0), .slice A325_1 ((rd_T120 l0_0 x9_1).f1).length c325_1, .int .i64 0]) ?_ 2 _ rfl; refine mK ?_; refine blk_put (cs := #[.int .i64 ((rd_T120 l0_0 x9_1).f0), .slice none 0 0, .int .i64 0]) ?_ 1 _ rfl; refine mK ?_; refine blk_put (cs := #[.int .i64 0, .slice none 0 0, .int .i64 0]) ?_ 0 _ rfl; refine mK ?_; exact BK326.out⟩
         replace HB : Aside0 (Below w.heap.size w w42) := by rw [← hW_]; exact ⟨(mH2 HB.out GE324.out GE326.out)⟩
         clear hW_
         replace BK324 := mS (blk_drew BK324.out)
         replace BK326 := mS (blk_drew BK326.out)
         replace HB := mS (below_drew1 HB.out)
         refine start_ (n := 48) (S := fun w' => w'.cell? ⟨gb326, 0, none⟩ = some (.int .i64 ((rd_T120 l0_0 x9_1).f0)) ∧ w'.cell? ⟨gb326, 1, none⟩ = some (.slice A325_1 ((rd_T120 l0_0 x9_1).f1).length c325_1) ∧ w'.cell? ⟨gb326, 2, none⟩ = some (.int .i64 ((rd_T120 l0_0 x9_1).f2)) ∧ w'.cell? ⟨gb324, 0, none⟩ = some (.slice (some ad325) l0_0.length c0_0) ∧ w'.cell? ⟨gb324, 1, none⟩ = some (.slice A0_1 l0_1.length c0_1) ∧ w'.cell? ⟨gb324, 2, none⟩ = some (.slice A0_2 l0_2.length c0_2) ∧ w'.cell? ⟨gb324, 3, none⟩ = some (.int .i64 a0_3)) (ds := []) (mb 0 48) (by kernel_rfl) rfl rfl (mb3 BK326.out (mc4 BK324.out)) (fun hHeld => ?_); refine with_tabW impl_DiskOk.tab5 impl_DiskOk.bits5 (fun HT_ HW_ => ?_)
         generalize w42.drew = w43 at BK324 BK326 HB hHeld ⊢
         refine mpu 0 14 HT_.out (mb 1 47) ?_
         refine mpu 2 16 HT_.out (mr [1,1,1,45]) ?_
         refine mpt 1 15 HT_.out HW_.out (mb 3 45) hHeld ?_
         refine mpt 3 17 HT_.out HW_.out (mb 4 44) hHeld ?_
         refine mpu 4 18 HT_.out (mb 5 43) ?_
         refine mone 5 (some 19) HT_.out (mb 6 42) (fun K hK => ?_)
         refine goes_ Try.func98 (by kernel_rfl) rfl #[.int .i64 ((rd_T120 l0_0 x9_1).f0), .int .i64 1, .int .i64 (wrap64 (a0_3 - 1))] (by rfl) rfl rfl mA ?_
         with_reducible refine (impl_in.calls ((rd_T120 l0_0 x9_1).f0) 1 (wrap64 (a0_3 - 1)) true _ A11.out).mono ?_
         rintro e w' ⟨rfl, ⟨nd, rfl⟩⟩
         refine ⟨_, rfl, ?_⟩
         refine hK.out _ _ (mb3 BK326.out (mc4 BK324.out)) (fun hHeld => ?_)
         clear hK K
         refine mno 19 ?_
         refine mpu 6 20 HT_.out (mb 7 41) ?_
         refine mpu 7 21 HT_.out (mb 8 40) ?_
         refine mpu 8 22 HT_.out (mb 9 39) ?_
         refine mpu 10 24 HT_.out (mr [9,1,1,37]) ?_
         refine mpt 9 23 HT_.out HW_.out (mb 11 37) hHeld ?_
         refine mpt 11 25 HT_.out HW_.out (mb 12 36) hHeld ?_
         refine mpu 12 26 HT_.out (mb 13 35) ?_
         refine mone 13 (some 27) HT_.out (mb 14 34) (fun K hK => ?_)
         refine goes_ Try.func98 (by kernel_rfl) rfl #[.int .i64 ((rd_T120 l0_0 x9_1).f2), .int .i64 0, .int .i64 (((rd_T120 l0_0 x9_1).f1).length : Int)] (by rfl) rfl rfl mA ?_
         with_reducible refine (impl_in.calls ((rd_T120 l0_0 x9_1).f2) 0 (((rd_T120 l0_0 x9_1).f1).length : Int) false _ A13.out).mono ?_
         rintro e w' ⟨rfl, ⟨nd, rfl⟩⟩
         refine ⟨_, rfl, ?_⟩
         refine hK.out _ _ (mb3 BK326.out (mc4 BK324.out)) (fun hHeld => ?_)
         clear hK K
         refine mno 27 ?_
         refine mpu 14 28 HT_.out (mb 15 33) ?_
         refine mpu 15 29 HT_.out (mb 16 32) ?_
         refine mpu 16 30 HT_.out (mb 17 31) ?_
         refine mpf 17 31 HT_.out (mb 18 30) ?_
         refine mpf 18 32 HT_.out (mb 19 29) ?_
         refine mpf 19 33 HT_.out (mb 20 28) ?_
         refine mpf 20 34 HT_.out (mb 21 27) ?_
         refine mpf 21 35 HT_.out (mb 22 26) ?_
         refine mpf 22 36 HT_.out (mb 23 25) ?_
         refine mpf 23 37 HT_.out (mb 24 24) ?_
         refine mpf 24 38 HT_.out (mb 25 23) ?_
         refine mpf 25 39 HT_.out (mb 26 22) ?_
         refine mpf 26 40 HT_.out (mb 27 21) ?_
         refine mpf 27 41 HT_.out (mb 28 20) ?_
         refine mpf 28 42 HT_.out (mb 29 19) ?_
         refine mpf 29 43 HT_.out (mb 30 18) ?_
         refine mpf 30 44 HT_.out (mb 31 17) ?_
         refine mpu 31 45 HT_.out (mb 32 16) ?_
         refine mpu 32 46 HT_.out (mb 33 15) ?_
         refine mpf 33 47 HT_.out (mb 34 14) ?_
         refine mpf 34 48 HT_.out (mb 35 13) ?_
         refine mpf 35 49 HT_.out (mb 36 12) ?_
         refine mpf 36 50 HT_.out (mb 37 11) ?_
         refine mpf 37 51 HT_.out (mb 38 10) ?_
         refine mpf 38 52 HT_.out (mb 39 9) ?_
         refine mpf 39 53 HT_.out (mb 40 8) ?_
         refine mpf 40 54 HT_.out (mb 41 7) ?_
         refine mpf 41 55 HT_.out (mb 42 6) ?_
         refine mpf 42 56 HT_.out (mb 43 5) ?_
         refine mpf 43 57 HT_.out (mb 44 4) ?_
         refine mpf 44 58 HT_.out (mb 45 3) ?_
         refine mpf 45 59 HT_.out (mb 46 2) ?_
         refine mpf 46 60 HT_.out (mb 47 1) ?_
         refine mpu 47 61 HT_.out (mb 48 0) ?_
         refine done_ (done_of HT_.out (by kernel_rfl)) ?_
         try go_wp2
         go_meet
         case rel => exact ⟨_, (true), mE, H', ⟨by have := HK1.out; first | omega | exact Nat.le_refl _⟩, ⟨mK BK324.out⟩, ⟨mK BK326.out⟩, ⟨(mH2 HB.out GE324.out GE326.out)⟩⟩
       ·replace c12 := Bool.eq_false_iff.mpr c12
        subst c12
        have H1 := H
        rw [if_neg (show ¬ (false = true) by decide)] at H1
        clear H
        have H := H1
        clear H1
        have H' := mS H
        clear H
        try go_wp2
        generalize hW_ : (((w8.setCell ⟨gb326, 0, none⟩ (.int .i64 ((rd_T120 l0_0 x9_1).f0))).setCell ⟨gb326, 1, none⟩ (.slice A325_1 ((rd_T120 l0_0 x9_1).f1).length c325_1)).setCell ⟨gb326, 2, none⟩ (.int .i64 ((rd_T120 l0_0 x9_1).f2))) = w44
        replace BK324 : Aside0 (w44.heap[gb324]? = some (.cells #[.slice (some ad325) l0_0.length c0_0, .slice A0_1 l0_1.length c0_1, .slice A0_2 l0_2.length c0_2, .int .i64 a0_3] 63 (0, 0))) := by rw [← hW_]; exact ⟨mKf NB324_326.out BK324.out⟩
        replace BK326 : Aside0 (w44.heap[gb326]? = some (.cells #[.int .i64 ((rd_T120 l0_0 x9_1).f0), .slice A325_1 ((rd_T120 l0_0 x9_1).f1).length c325_1, .int .i64 ((rd_T120 l0_0 x9_1).f2)] 120 (0, 0))) := by rw [← hW_]; exact ⟨by refine mK ?_; refine blk_put (cs := #[.int .i64 ((rd_T120 l0_0 x9_1).f0), .slice A325_1 ((rd_T120 l0_0 x9_1).f1).length c325_1, .int .i64 0]) ?_ 2 _ rfl; refine mK ?_; refine blk_put (cs := #[.int .i64 ((rd_T120 l0_0 x9_1).f0), .slice none 0 0, .int .i64 0]) ?_ 1 _ rfl; refine mK ?_; refine blk_put (cs := #[.int .i64 0, .slice none 0 0, .int .i64 0]) ?_ 0 _ rfl; refine mK ?_; exact BK326.out⟩
        replace HB : Aside0 (Below w.heap.size w w44) := by rw [← hW_]; exact ⟨(mH2 HB.out GE324.out GE326.out)⟩
        clear hW_
        replace BK324 := mS (blk_drew BK324.out)
        replace BK326 := mS (blk_drew BK326.out)
        replace HB := mS (below_drew1 HB.out)
        refine start_ (n := 48) (S := fun w' => w'.cell? ⟨gb326, 0, none⟩ = some (.int .i64 ((rd_T120 l0_0 x9_1).f0)) ∧ w'.cell? ⟨gb326, 1, none⟩ = some (.slice A325_1 ((rd_T120 l0_0 x9_1).f1).length c325_1) ∧ w'.cell? ⟨gb326, 2, none⟩ = some (.int .i64 ((rd_T120 l0_0 x9_1).f2)) ∧ w'.cell? ⟨gb324, 0, none⟩ = some (.slice (some ad325) l0_0.length c0_0) ∧ w'.cell? ⟨gb324, 1, none⟩ = some (.slice A0_1 l0_1.length c0_1) ∧ w'.cell? ⟨gb324, 2, none⟩ = some (.slice A0_2 l0_2.length c0_2) ∧ w'.cell? ⟨gb324, 3, none⟩ = some (.int .i64 a0_3)) (ds := []) (mb 0 48) (by kernel_rfl) rfl rfl (mb3 BK326.out (mc4 BK324.out)) (fun hHeld => ?_); refine with_tabW impl_DiskOk.tab5 impl_DiskOk.bits5 (fun HT_ HW_ => ?_)
        generalize w44.drew = w45 at BK324 BK326 HB hHeld ⊢
        refine mpu 0 14 HT_.out (mb 1 47) ?_
        refine mpu 2 16 HT_.out (mr [1,1,1,45]) ?_
        refine mpt 1 15 HT_.out HW_.out (mb 3 45) hHeld ?_
        refine mpt 3 17 HT_.out HW_.out (mb 4 44) hHeld ?_
        refine mpu 4 18 HT_.out (mb 5 43) ?_
        refine mone 5 (some 19) HT_.out (mb 6 42) (fun K hK => ?_)
        refine goes_ Try.func98 (by kernel_rfl) rfl #[.int .i64 ((rd_T120 l0_0 x9_1).f0), .int .i64 1, .int .i64 (wrap64 (a0_3 - 1))] (by rfl) rfl rfl mA ?_
        with_reducible refine (impl_in.calls ((rd_T120 l0_0 x9_1).f0) 1 (wrap64 (a0_3 - 1)) false _ A11.out).mono ?_
        rintro e w' ⟨rfl, ⟨nd, rfl⟩⟩
        refine ⟨_, rfl, ?_⟩
        refine hK.out _ _ (mb3 BK326.out (mc4 BK324.out)) (fun hHeld => ?_)
        clear hK K
        refine mno 19 ?_
        refine mpu 6 20 HT_.out (mb 7 41) ?_
        refine mpu 7 21 HT_.out (mb 8 40) ?_
        refine mpf 8 22 HT_.out (mb 9 39) ?_
        refine mpf 9 23 HT_.out (mb 10 38) ?_
        refine mpf 10 24 HT_.out (mb 11 37) ?_
        refine mpf 11 25 HT_.out (mb 12 36) ?_
        refine mpf 12 26 HT_.out (mb 13 35) ?_
        refine mpf 13 27 HT_.out (mb 14 34) ?_
        refine mpf 14 28 HT_.out (mb 15 33) ?_
        refine mpu 15 29 HT_.out (mb 16 32) ?_
        refine mpu 16 30 HT_.out (mb 17 31) ?_
        refine mpf 17 31 HT_.out (mb 18 30) ?_
        refine mpf 18 32 HT_.out (mb 19 29) ?_
        refine mpf 19 33 HT_.out (mb 20 28) ?_
        refine mpf 20 34 HT_.out (mb 21 27) ?_
        refine mpf 21 35 HT_.out (mb 22 26) ?_
        refine mpf 22 36 HT_.out (mb 23 25) ?_
        refine mpf 23 37 HT_.out (mb 24 24) ?_
        refine mpf 24 38 HT_.out (mb 25 23) ?_
        refine mpf 25 39 HT_.out (mb 26 22) ?_
        refine mpf 26 40 HT_.out (mb 27 21) ?_
        refine mpf 27 41 HT_.out (mb 28 20) ?_
        refine mpf 28 42 HT_.out (mb 29 19) ?_
        refine mpf 29 43 HT_.out (mb 30 18) ?_
        refine mpf 30 44 HT_.out (mb 31 17) ?_
        refine mpu 31 45 HT_.out (mb 32 16) ?_
        refine mpu 32 46 HT_.out (mb 33 15) ?_
        refine mpf 33 47 HT_.out (mb 34 14) ?_
        refine mpf 34 48 HT_.out (mb 35 13) ?_
        refine mpf 35 49 HT_.out (mb 36 12) ?_
        refine mpf 36 50 HT_.out (mb 37 11) ?_
        refine mpf 37 51 HT_.out (mb 38 10) ?_
        refine mpf 38 52 HT_.out (mb 39 9) ?_
        refine mpf 39 53 HT_.out (mb 40 8) ?_
        refine mpf 40 54 HT_.out (mb 41 7) ?_
        refine mpf 41 55 HT_.out (mb 42 6) ?_
        refine mpf 42 56 HT_.out (mb 43 5) ?_
        refine mpf 43 57 HT_.out (mb 44 4) ?_
        refine mpf 44 58 HT_.out (mb 45 3) ?_
        refine mpf 45 59 HT_.out (mb 46 2) ?_
        refine mpf 46 60 HT_.out (mb 47 1) ?_
        refine mpu 47 61 HT_.out (mb 48 0) ?_
        refine done_ (done_of HT_.out (by kernel_rfl)) ?_
        try go_wp2
        go_meet
        case rel => exact ⟨_, (true), mE, H', ⟨by have := HK1.out; first | omega | exact Nat.le_refl _⟩, ⟨mK BK324.out⟩, ⟨mK BK326.out⟩, ⟨(mH2 HB.out GE324.out GE326.out)⟩⟩
      case rest =>
       clear HC7
       try clear c1
       try clear p2
       try clear c3
       try clear p6
       try clear c9
       try clear c12
       try clear c32
       obtain ⟨kq, x61_6, rfl, HA, HJ6, BK324, BK326, HB⟩ := hcut
       cases kq with
       | zero => exact absurd HA.out (by simp [impl_DiskOk.j1])
       | succ kj6 =>
        have H := HA.out
        clear HA
        simp only [impl_DiskOk.j1] at H
        by_cases c46 : x61_6 = true
        ·subst c46
         have H1 := H
         rw [if_pos rfl] at H1
         clear H
         have H := H1
         clear H1
         obtain rfl := Option.some.inj H
         go_wp2
         go_ret
         exact ⟨mEw, (mH2 HB.out GE324.out GE326.out)⟩
        ·replace c46 := Bool.eq_false_iff.mpr c46
         subst c46
         have H1 := H
         rw [if_neg (show ¬ (false = true) by decide)] at H1
         clear H
         have H := H1
         clear H1
         have H' := mS H
         clear H
         have hnb47 := NB326_324.out
         have hnc47 := NB324_326.out
         obtain ⟨hcz48_0, hcz48_1, hcz48_2, hfz48_0, hfz48_1, hfz48_2⟩ := mZ3 BK326.out
         go_wp2
         go_roundg kj6
         case measure => have := HK1.out; have := HJ6.out; omega
         case rel => exact ⟨(wrap64 (x3_1 + (((rd_T120 l0_0 x9_1).f1).length : Int))), (wrap64 (x9_1 + 1)), mE, mE, H', ⟨by have := HK1.out; have := HJ6.out; omega⟩, ⟨mK BK324.out⟩, ⟨(mH2 HB.out GE324.out GE326.out)⟩⟩
     ·rw [if_neg c6] at H
      exact absurd H (by simp)
    ·rw [if_neg c5] at H
     exact absurd H (by simp)
   ·rw [if_neg c4] at H
    have c4b0 := decide_eq_false c4
    clear c4
    replace H := Option.bind_eq_some_iff.mp H
    obtain ⟨t334, A490, H⟩ := H
    replace H : (if t334 = true then (if x3_1 ≤ 60000 then ((impl_namesOk.f k1 l0_0 l0_1 l0_2 a0_3 l0_1).bind fun t335 => (if t335 = true then ((impl_namesOk.f k1 l0_0 l0_1 l0_2 a0_3 l0_2).bind fun t336 => (some t336)) else (some false))) else (some false)) else (some false)) = some r := H
    have A49 := mS A490
    clear A490
    by_cases c50 : t334 = true
    ·subst c50
     have H1 := H
     rw [if_pos rfl] at H1
     clear H
     have H := H1
     clear H1
     by_cases c51 : x3_1 ≤ 60000
     ·rw [if_pos c51] at H
      have c51b0 := decide_eq_true c51
      clear c51
      replace H := Option.bind_eq_some_iff.mp H
      obtain ⟨t335, A520, H⟩ := H
      replace H : (if t335 = true then ((impl_namesOk.f k1 l0_0 l0_1 l0_2 a0_3 l0_2).bind fun t336 => (some t336)) else (some false)) = some r := H
      have A52 := mS A520
      clear A520
      by_cases c53 : t335 = true
      ·subst c53
       have H1 := H
       rw [if_pos rfl] at H1
       clear H
       have H := H1
       clear H1
       replace H := Option.bind_eq_some_iff.mp H
       obtain ⟨t336, A540, H⟩ := H
       replace H : (some t336) = some r := H
       have A54 := mS A540
       clear A540
       obtain rfl := Option.some.inj H
       obtain ⟨hcz55_0, hcz55_1, hcz55_2, hcz55_3, hfz55_0, hfz55_1, hfz55_2, hfz55_3⟩ := mZ4 BK324.out
       go_wp2_with (first | ((with_reducible refine gate_callee (f := 98) rfl ?_); refine mGo 70 Try.func98 #[.int .i64 a0_3, .int .i64 1, .int .i64 1000000] ?_; (with_reducible refine (impl_in.calls a0_3 1 1000000 true _ A49.out).mono ?_); rintro e w' ⟨rfl, ⟨nd, rfl⟩⟩; refine ⟨_, rfl, ?_⟩) | (go_at_call 100; (with_reducible refine (impl_namesOk.calls k1 _ _ l0_0 _ _ l0_1 _ _ l0_2 a0_3 _ _ l0_1 true _ ?side1 ?side2 ?side3 ?side4 ?side5 ?side6 ?side7 ?side8 A52.out).mono ?_); (case side1 => exact mC (Kd.C_below HR0_0.out (mH1 HB.out GE324.out))); (case side2 => exact HC0_0.out); (case side3 => exact mC (Kd.C_below HR0_1.out (mH1 HB.out GE324.out))); (case side4 => exact HC0_1.out); (case side5 => exact mC (Kd.C_below HR0_2.out (mH1 HB.out GE324.out))); (case side6 => exact HC0_2.out); (case side7 => exact mC (Kd.C_below HR0_1.out (mH1 HB.out GE324.out))); (case side8 => exact HC0_1.out); rintro e w56 ⟨rfl, hb⟩; replace BK324 := mB BK324 hb; replace HB := mS (below_step (mH1 HB.out GE324.out) hb); (try clear hb); (try clear hb2); (try clear hk); (try clear hi); obtain ⟨hcz57_0, hcz57_1, hcz57_2, hcz57_3, hfz57_0, hfz57_1, hfz57_2, hfz57_3⟩ := mZ4 BK324.out) | (go_at_call 100; (with_reducible refine (impl_namesOk.calls k1 _ _ l0_0 _ _ l0_1 _ _ l0_2 a0_3 _ _ l0_2 t336 _ ?side1 ?side2 ?side3 ?side4 ?side5 ?side6 ?side7 ?side8 A54.out).mono ?_); (case side1 => exact mC (Kd.C_below HR0_0.out HB.out)); (case side2 => exact HC0_0.out); (case side3 => exact mC (Kd.C_below HR0_1.out HB.out)); (case side4 => exact HC0_1.out); (case side5 => exact mC (Kd.C_below HR0_2.out HB.out)); (case side6 => exact HC0_2.out); (case side7 => exact mC (Kd.C_below HR0_2.out HB.out)); (case side8 => exact HC0_2.out); rintro e w58 ⟨rfl, hb⟩; replace BK324 := mB BK324 hb; replace HB := mS (below_step (mH1 HB.out GE324.out) hb); (try clear hb); (try clear hb2); (try clear hk); (try clear hi)))
       go_ret
       exact ⟨mEw, (mH1 HB.out GE324.out)⟩
      ·replace c53 := Bool.eq_false_iff.mpr c53
       subst c53
       have H1 := H
       rw [if_neg (show ¬ (false = true) by decide)] at H1
       clear H
       have H := H1
       clear H1
       obtain rfl := Option.some.inj H
       obtain ⟨hcz59_0, hcz59_1, hcz59_2, hcz59_3, hfz59_0, hfz59_1, hfz59_2, hfz59_3⟩ := mZ4 BK324.out
       go_wp2_with (first | ((with_reducible refine gate_callee (f := 98) rfl ?_); refine mGo 70 Try.func98 #[.int .i64 a0_3, .int .i64 1, .int .i64 1000000] ?_; (with_reducible refine (impl_in.calls a0_3 1 1000000 true _ A49.out).mono ?_); rintro e w' ⟨rfl, ⟨nd, rfl⟩⟩; refine ⟨_, rfl, ?_⟩) | (go_at_call 100; (with_reducible refine (impl_namesOk.calls k1 _ _ l0_0 _ _ l0_1 _ _ l0_2 a0_3 _ _ l0_1 false _ ?side1 ?side2 ?side3 ?side4 ?side5 ?side6 ?side7 ?side8 A52.out).mono ?_); (case side1 => exact mC (Kd.C_below HR0_0.out (mH1 HB.out GE324.out))); (case side2 => exact HC0_0.out); (case side3 => exact mC (Kd.C_below HR0_1.out (mH1 HB.out GE324.out))); (case side4 => exact HC0_1.out); (case side5 => exact mC (Kd.C_below HR0_2.out (mH1 HB.out GE324.out))); (case side6 => exact HC0_2.out); (case side7 => exact mC (Kd.C_below HR0_1.out (mH1 HB.out GE324.out))); (case side8 => exact HC0_1.out); rintro e w60 ⟨rfl, hb⟩; replace BK324 := mB BK324 hb; replace HB := mS (below_step (mH1 HB.out GE324.out) hb); (try clear hb); (try clear hb2); (try clear hk); (try clear hi)))
       go_ret
       exact ⟨mEw, (mH1 HB.out GE324.out)⟩
     ·rw [if_neg c51] at H
      have c51b0 := decide_eq_false c51
      clear c51
      obtain rfl := Option.some.inj H
      obtain ⟨hcz61_0, hcz61_1, hcz61_2, hcz61_3, hfz61_0, hfz61_1, hfz61_2, hfz61_3⟩ := mZ4 BK324.out
      go_wp2_with (first | ((with_reducible refine gate_callee (f := 98) rfl ?_); refine mGo 70 Try.func98 #[.int .i64 a0_3, .int .i64 1, .int .i64 1000000] ?_; (with_reducible refine (impl_in.calls a0_3 1 1000000 true _ A49.out).mono ?_); rintro e w' ⟨rfl, ⟨nd, rfl⟩⟩; refine ⟨_, rfl, ?_⟩))
      go_ret
      exact ⟨mEw, (mH1 HB.out GE324.out)⟩
    ·replace c50 := Bool.eq_false_iff.mpr c50
     subst c50
     have H1 := H
     rw [if_neg (show ¬ (false = true) by decide)] at H1
     clear H
     have H := H1
     clear H1
     obtain rfl := Option.some.inj H
     obtain ⟨hcz62_0, hcz62_1, hcz62_2, hcz62_3, hfz62_0, hfz62_1, hfz62_2, hfz62_3⟩ := mZ4 BK324.out
     go_wp2_with (first | ((with_reducible refine gate_callee (f := 98) rfl ?_); refine mGo 70 Try.func98 #[.int .i64 a0_3, .int .i64 1, .int .i64 1000000] ?_; (with_reducible refine (impl_in.calls a0_3 1 1000000 false _ A49.out).mono ?_); rintro e w' ⟨rfl, ⟨nd, rfl⟩⟩; refine ⟨_, rfl, ?_⟩))
     go_ret
     exact ⟨mEw, (mH1 HB.out GE324.out)⟩
end Go.Proofs.Ytgbejjeephipeaa.MFnExactFall
