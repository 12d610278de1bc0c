-- Written by mp.py, our own printer (wip/mp.py), and made shorter by wip/mp_shrink*.py.
import Derived.Test.YtgbejjeephipeaaVMShort
import Derived.Test.YtgbejjeephipeaaMFnExactFallx0
import Derived.Test.YtgbejjeephipeaaMFnExactFallx5
import Derived.Test.YtgbejjeephipeaaMFnExactFallx6
namespace Go.Proofs.Ytgbejjeephipeaa.MFnExactFall
open Go.RowKit Go.Proofs.YtgbejjeephipeaaW.PrintWords Go.Proofs.YtgbejjeephipeaaW.PrintLast Go.Proofs.YtgbejjeephipeaaW.PrintMore Go.Proofs.Ytgbejjeephipeaa.MWords
attribute [local go_sem] max2_int min2_int max_two min_two max_three min_three max_four min_four
set_option linter.unusedVariables false
set_option linter.unusedSimpArgs false
mutual
def spec_DiskOk.j0 : Nat → Bool → List (S120) → List (S126) → List (S126) → Int → Option (Bool)
 | 0, _, _, _, _, _ => none
 | k + 1, x15, x208000, x208001, x208002, x208003 => if x15 = true then (some false) else (spec_DiskOk.l0 k 0 0 x208000 x208001 x208002 x208003)
def spec_DiskOk.l0 : Nat → Int → Int → List (S120) → List (S126) → List (S126) → Int → Option (Bool)
 | 0, _, _, _, _, _, _ => none
 | k + 1, x3, x4, x208000, x208001, x208002, x208003 => if x4 < (x208000.length : Int) then (if 0 ≤ x4 then ((spec_l1In.f ((rd_T120 x208000 x4).f0) 1 (wrap64 (x208003 - 1))).bind fun t211 => (if t211 = true then (if x4 > 0 then (if 0 ≤ (wrap64 (x4 - 1)) then (if (wrap64 (x4 - 1)) < (x208000.length : Int) then (if ((rd_T120 x208000 (wrap64 (x4 - 1))).f0) ≥ ((rd_T120 x208000 x4).f0) then (spec_DiskOk.j2 k x3 x4 true x208000 x208001 x208002 x208003 ((rd_T120 x208000 x4).f0) ((rd_T120 x208000 x4).f1) ((rd_T120 x208000 x4).f2)) else ((spec_l1In.f ((rd_T120 x208000 x4).f2) 0 (((rd_T120 x208000 x4).f1).length : Int)).bind fun t213 => (if t213 = true then ((spec_l2Named.f k x208001 ((rd_T120 x208000 x4).f0)).bind fun t214 => (if t214 = true then (spec_DiskOk.j2 k x3 x4 false x208000 x208001 x208002 x208003 ((rd_T120 x208000 x4).f0) ((rd_T120 x208000 x4).f1) ((rd_T120 x208000 x4).f2)) else ((spec_l2Named.f k x208002 ((rd_T120 x208000 x4).f0)).bind fun t215 => (spec_DiskOk.j2 k x3 x4 (!t215) x208000 x208001 x208002 x208003 ((rd_T120 x208000 x4).f0) ((rd_T120 x208000 x4).f1) ((rd_T120 x208000 x4).f2))))) else (spec_DiskOk.j2 k x3 x4 true x208000 x208001 x208002 x208003 ((rd_T120 x208000 x4).f0) ((rd_T120 x208000 x4).f1) ((rd_T120 x208000 x4).f2))))) else (none)) else (none)) else ((spec_l1In.f ((rd_T120 x208000 x4).f2) 0 (((rd_T120 x208000 x4).f1).length : Int)).bind fun t216 => (if t216 = true then ((spec_l2Named.f k x208001 ((rd_T120 x208000 x4).f0)).bind fun t217 => (if t217 = true then (spec_DiskOk.j2 k x3 x4 false x208000 x208001 x208002 x208003 ((rd_T120 x208000 x4).f0) ((rd_T120 x208000 x4).f1) ((rd_T120 x208000 x4).f2)) else ((spec_l2Named.f k x208002 ((rd_T120 x208000 x4).f0)).bind fun t218 => (spec_DiskOk.j2 k x3 x4 (!t218) x208000 x208001 x208002 x208003 ((rd_T120 x208000 x4).f0) ((rd_T120 x208000 x4).f1) ((rd_T120 x208000 x4).f2))))) else (spec_DiskOk.j2 k x3 x4 true x208000 x208001 x208002 x208003 ((rd_T120 x208000 x4).f0) ((rd_T120 x208000 x4).f1) ((rd_T120 x208000 x4).f2))))) else (spec_DiskOk.j2 k x3 x4 true x208000 x208001 x208002 x208003 ((rd_T120 x208000 x4).f0) ((rd_T120 x208000 x4).f1) ((rd_T120 x208000 x4).f2)))) else (none)) else (if x3 ≤ 60000 then ((spec_l2Entries.f k x208000 x208001 x208002 x208003 x208001).bind fun t219 => (if t219 = true then ((spec_l2Entries.f k x208000 x208001 x208002 x208003 x208002).bind fun t220 => (some t220)) else (some false))) else (some false))
def spec_DiskOk.j2 : Nat → Int → Int → Bool → List (S120) → List (S126) → List (S126) → Int → Int → List Int → Int → Option (Bool)
 | 0, _, _, _, _, _, _, _, _, _, _ => none
 | k + 1, x3, x4, x75, x208000, x208001, x208002, x208003, x211000, x211001, x211002 => if x75 = true then (some false) else (spec_DiskOk.l0 k (wrap64 (x3 + (x211001.length : Int))) (wrap64 (x4 + 1)) x208000 x208001 x208002 x208003)
end
def spec_DiskOk.f (k : Nat) (l0_0 : List (S120)) (l0_1 : List (S126)) (l0_2 : List (S126)) (a0_3 : Int) : Option (Bool) := (spec_l1In.f a0_3 1 1000000).bind fun t208 => (if t208 = true then (spec_DiskOk.j0 k (decide ((l0_0.length : Int) > 60)) l0_0 l0_1 l0_2 a0_3) else (spec_DiskOk.j0 k true l0_0 l0_1 l0_2 a0_3))
def spec_DiskOk.T8 : Bool × List (List Nat × List Nat) := (true, [([], []), ([0], [0]), ([], []), ([2], [2]), ([3], [3]), ([1, 4], [1, 4]), ([5], [5]), ([6, 5], [6]), ([7], [7]), ([8, 7], [7, 8]), ([9, 7, 7], [7, 9]), ([10], [10]), ([11, 10], [10, 11]), ([10], [10]), ([13, 10], [10, 13]), ([12, 14, 10], [10, 12, 14]), ([15, 10], [10, 15]), ([16, 10], [10, 16]), ([10], [10]), ([18, 10], [10, 18]), ([17, 19, 10], [10, 17, 19]), ([10, 20, 7], [7, 10, 20]), ([7, 21], [7, 21]), ([22, 10], [22]), ([23], [23]), ([24, 23], [23, 24]), ([23], [23]), ([26, 23], [23, 26]), ([27, 23], [23, 27]), ([25, 28, 23, 23], [23, 25, 28]), ([29, 23], [23, 29]), ([23, 30], [23, 30]), ([31, 29], [31]), ([32], [32]), ([33, 32], [32, 33]), ([32], [32]), ([35, 32], [32, 35]), ([34, 36, 32, 32], [32, 34, 36]), ([37, 32], [32, 37]), ([38, 37, 32], [32, 38]), ([39], [39]), ([40, 39], [39, 40]), ([39], [39]), ([42, 39], [39, 42]), ([41, 43, 39, 39], [39, 41, 43]), ([44, 39], [39, 44]), ([39, 45, 32], [32, 39, 45]), ([32, 46], [32, 46])])
def spec_DiskOk.B8 : List Nat := [0, 1, 0, 4, 12, 31, 63, 127, 255, 511, 1023, 2047, 4095, 2047, 10239, 32767, 65535, 131071, 2047, 264191, 1048575, 2097151, 4194303, 8388607, 16777215, 33554431, 16777215, 83886079, 218103807, 536870911, 1073741823, 2147483647, 4294967295, 8589934591, 17179869183, 8589934591, 42949672959, 137438953471, 274877906943, 549755813887, 1099511627775, 2199023255551, 1099511627775, 5497558138879, 17592186044415, 35184372088831, 70368744177663, 140737488355327]
theorem spec_DiskOk.tab8 : rtab .any (opsOf Try.f44 8) = spec_DiskOk.T8 := by kernel_rfl
theorem spec_DiskOk.bits8 : waitsOk spec_DiskOk.T8.2 spec_DiskOk.B8 = true := by kernel_rfl
set_option maxHeartbeats 8000000 in
set_option maxRecDepth 100000 in
theorem spec_DiskOk.calls (k : Nat) (A0_0 : Option Addr) (c0_0 : Nat) (l0_0 : List (S120)) (A0_1 : Option Addr) (c0_1 : Nat) (l0_1 : List (S126)) (A0_2 : Option Addr) (c0_2 : Nat) (l0_2 : List (S126)) (a0_3 : Int) (r : Bool) (w : World) (hr0_0 : Kd.C k120 w A0_0 l0_0.length l0_0) (hc0_0 : l0_0.length ≤ c0_0) (hr0_1 : Kd.C k126 w A0_1 l0_1.length l0_1) (hc0_1 : l0_1.length ≤ c0_1) (hr0_2 : Kd.C k126 w A0_2 l0_2.length l0_2) (hc0_2 : l0_2.length ≤ c0_2) (h : spec_DiskOk.f k l0_0 l0_1 l0_2 a0_3 = some r) :
  Calls Try.prog 44 #[.agg #[.slice A0_0 l0_0.length c0_0, .slice A0_1 l0_1.length c0_1, .slice A0_2 l0_2.length c0_2, .int .i64 a0_3]] w fun e w' => e = .returned (.bool r) ∧ Below w.heap.size w w' := by
 have hu63 := Try.underlying63
 have hu120 := Try.underlying120
 have HR0_0 := mS hr0_0
 have HC0_0 := mS hc0_0
 clear hr0_0 hc0_0
 have HR0_1 := mS hr0_1
 have HC0_1 := mS hc0_1
 clear hr0_1 hc0_1
 have HR0_2 := mS hr0_2
 have HC0_2 := mS hc0_2
 clear hr0_2 hc0_2
 have HB := mS (Below.refl w.heap.size w)
 have H : ((spec_l1In.f a0_3 1 1000000).bind fun t208 => (if t208 = true then (spec_DiskOk.j0 k (decide ((l0_0.length : Int) > 60)) l0_0 l0_1 l0_2 a0_3) else (spec_DiskOk.j0 k true l0_0 l0_1 l0_2 a0_3))) = some r := h
 clear h
 have HC2 := mS H
 clear H
 go_enter Try.func44, Try.ntmps44
 go_upto_region 1 with (first | ((with_reducible refine gate_dst (N := 1) rfl ?_); (try (refine gate_guard (by rfl) ?_; dsimp only)); refine mBx 1 #[.slice A0_0 l0_0.length c0_0, .slice A0_1 l0_1.length c0_1, .slice A0_2 l0_2.length c0_2, .int .i64 a0_3] 63 ?_; intro gb207 hg w3 hbox hb; have BK207 := mS (hbox); have GW207 := mG hg (mH HB.out); have GE207 := mG hg (mH HB.out); replace HB := mS (below_step (mH HB.out) hb); clear hb hbox hg))
 (try simp only [Act.put, zA, zB, zC])
 go_cut [15] (fun v15 wc => ∃ (kq : Nat) (x15_1 : Bool), v15 = .bool x15_1 ∧ Aside0 (spec_DiskOk.j0 kq x15_1 l0_0 l0_1 l0_2 a0_3 = some r) ∧ Aside0 (kq ≤ k) ∧ Aside0 (wc.heap[gb207]? = some (.cells #[(.slice A0_0 l0_0.length c0_0), (.slice A0_1 l0_1.length c0_1), (.slice A0_2 l0_2.length c0_2), .int .i64 a0_3] 63 (0, 0))) ∧ Aside0 (Below w.heap.size w wc))
 case first =>
  have H := HC2.out
  clear HC2
  replace H := Option.bind_eq_some_iff.mp H
  obtain ⟨t208, A40, H⟩ := H
  replace H : (if t208 = true then (spec_DiskOk.j0 k (decide ((l0_0.length : Int) > 60)) l0_0 l0_1 l0_2 a0_3) else (spec_DiskOk.j0 k true l0_0 l0_1 l0_2 a0_3)) = some r := H
  have A4 := mS A40
  clear A40
  by_cases c5 : t208 = true
  ·subst c5
   have H1 := H
   rw [if_pos rfl] at H1
   clear H
   have H := H1
   clear H1
   have H' := mS H
   clear H
   obtain ⟨hcz6_0, hcz6_1, hcz6_2, hcz6_3, hfz6_0, hfz6_1, hfz6_2, hfz6_3⟩ := mZ4 BK207.out
   go_wp2_with (first | ((with_reducible refine gate_callee (f := 93) rfl ?_); refine mGo 8 Try.func93 #[.int .i64 a0_3, .int .i64 1, .int .i64 1000000] ?_; (with_reducible refine (spec_l1In.calls a0_3 1 1000000 true _ A4.out).mono ?_); rintro e w' ⟨rfl, ⟨nd, rfl⟩⟩; refine ⟨_, rfl, ?_⟩))
   go_meet
   case rel => exact ⟨_, (decide ((l0_0.length : Int) > 60)), mE, H', ⟨by first | omega | exact Nat.le_refl _⟩, ⟨mK BK207.out⟩, ⟨(mH1 HB.out GE207.out)⟩⟩
  ·replace c5 := Bool.eq_false_iff.mpr c5
   subst c5
   have H1 := H
   rw [if_neg (show ¬ (false = true) by decide)] at H1
   clear H
   have H := H1
   clear H1
   have H' := mS H
   clear H
   obtain ⟨hcz7_0, hcz7_1, hcz7_2, hcz7_3, hfz7_0, hfz7_1, hfz7_2, hfz7_3⟩ := mZ4 BK207.out
   go_wp2_with (first | ((with_reducible refine gate_callee (f := 93) rfl ?_); refine mGo 8 Try.func93 #[.int .i64 a0_3, .int .i64 1, .int .i64 1000000] ?_; (with_reducible refine (spec_l1In.calls a0_3 1 1000000 false _ A4.out).mono ?_); rintro e w' ⟨rfl, ⟨nd, rfl⟩⟩; refine ⟨_, rfl, ?_⟩))
   go_meet
   case rel => exact ⟨_, (true), mE, H', ⟨by first | omega | exact Nat.le_refl _⟩, ⟨mK BK207.out⟩, ⟨(mH1 HB.out GE207.out)⟩⟩
 case rest =>
  clear HC2
  try clear p2
  try clear c4
  try clear c5
  try clear hcz6_0
  try clear hcz6_1
  try clear hcz6_2
  try clear hcz6_3
  try clear hcz7_0
  try clear hcz7_1
  try clear hcz7_2
  try clear hcz7_3
  try clear hfz6_0
  try clear hfz6_1
  try clear hfz6_2
  try clear hfz6_3
  try clear hfz7_0
  try clear hfz7_1
  try clear hfz7_2
  try clear hfz7_3
  obtain ⟨kq, x15_1, rfl, HA, HJ1, BK207, HB⟩ := hcut
  cases kq with
  | zero => exact absurd HA.out (by simp [spec_DiskOk.j0])
  | succ kj1 =>
   have H := HA.out
   clear HA
   simp only [spec_DiskOk.j0] at H
   by_cases c8 : x15_1 = true
   ·subst c8
    have H1 := H
    rw [if_pos rfl] at H1
    clear H
    have H := H1
    clear H1
    obtain rfl := Option.some.inj H
    go_wp2
    go_ret
    exact ⟨mEw, (mH1 HB.out GE207.out)⟩
   ·replace c8 := Bool.eq_false_iff.mpr c8
    subst c8
    have H1 := H
    rw [if_neg (show ¬ (false = true) by decide)] at H1
    clear H
    have H := H1
    clear H1
    have H' := mS H
    clear H
    go_wp2
    go_loopg [3, 4] kj1 (fun kq v3 v4 w' => ∃ (x3_2 : Int) (x4_2 : Int), v3 = .int .i64 x3_2 ∧ v4 = .int .i64 x4_2 ∧ Aside0 (spec_DiskOk.l0 kq x3_2 x4_2 l0_0 l0_1 l0_2 a0_3 = some r) ∧ Aside0 (kq ≤ kj1) ∧ Aside0 (w'.heap[gb207]? = some (.cells #[(.slice A0_0 l0_0.length c0_0), (.slice A0_1 l0_1.length c0_1), (.slice A0_2 l0_2.length c0_2), .int .i64 a0_3] 63 (0, 0))) ∧ Aside0 (Below w.heap.size w w'))
    case atStart => exact ⟨(0), (0), mE, mE, H', ⟨Nat.le_refl _⟩, ⟨mK BK207.out⟩, ⟨(mH1 HB.out GE207.out)⟩⟩
    case round =>
     clear H'
     try clear p2
     try clear c4
     try clear c5
     try clear c8
     try clear hcz6_0
     try clear hcz6_1
     try clear hcz6_2
     try clear hcz6_3
     try clear hcz7_0
     try clear hcz7_1
     try clear hcz7_2
     try clear hcz7_3
     try clear hfz6_0
     try clear hfz6_1
     try clear hfz6_2
     try clear hfz6_3
     try clear hfz7_0
     try clear hfz7_1
     try clear hfz7_2
     try clear hfz7_3
     try clear p2
     obtain ⟨x3_2, x4_2, rfl, rfl, HA, HK2, BK207, HB⟩ := hrel
     cases gk with
     | zero => exact absurd HA.out (by simp [spec_DiskOk.l0])
     | succ k2 =>
      have H := HA.out
      clear HA
      simp only [spec_DiskOk.l0] at H
      by_cases c9 : x4_2 < (l0_0.length : Int)
      ·rw [if_pos c9] at H
       have c9b0 := decide_eq_true c9
       clear c9
       by_cases c10 : 0 ≤ x4_2
       ·rw [if_pos c10] at H
        have c10b0 := decide_eq_true c10
        clear c10
        have HC11 := mS H
        clear H
        obtain ⟨hcz12_0, hcz12_1, hcz12_2, hcz12_3, hfz12_0, hfz12_1, hfz12_2, hfz12_3⟩ := mZ4 BK207.out
        have p209 : 0 ≤ (x4_2 : Int) := mD
        have q209 : x4_2 < (l0_0.length : Int) := mD
        obtain ⟨ad209, A209_1, c209_1, e209, hx209_0, hx209_1, hx209_2, hl209_1, hi209_1⟩ := at_T120 HR0_0.out x4_2 p209 q209
        cases e209
        replace hx209_0 := mX HB.out hx209_0
        replace hx209_1 := mX HB.out hx209_1
        replace hx209_2 := mX HB.out hx209_2
        have HR209_1 := mS hi209_1
        have HC209_1 := mS hl209_1
        clear hi209_1 hl209_1
        replace p209 := eq_true p209
        replace q209 := eq_true q209
        go_upto_region 8 with (first | ((with_reducible refine gate_dst (N := 5) rfl ?_); (try (refine gate_guard (by rfl) ?_; dsimp only)); refine mBx 5 #[.int .i64 0, .slice none 0 0, .int .i64 0] 120 ?_; intro gb210 hg w13 hbox hb; have BK210 := mS (hbox); have GW210 := mG hg (mH1 HB.out GE207.out); have GE210 := mG hg (mH1 HB.out GE207.out); replace HB := mS (below_step (mH1 HB.out GE207.out) hb); have NB207_210 := mNl hg BK207.out; have NB210_207 := mNg hg BK207.out; replace BK207 := mB BK207 hb; clear hb hbox hg; have hnb14 := NB210_207.out; have hnc14 := NB207_210.out; obtain ⟨hcz15_0, hcz15_1, hcz15_2, hfz15_0, hfz15_1, hfz15_2⟩ := mZ3 BK210.out))
        (try simp only [Act.put, zA, zB, zC])
        go_cut [75] (fun v75 wc => ∃ (kq : Nat) (x75_10 : Bool), v75 = .bool x75_10 ∧ Aside0 (spec_DiskOk.j2 kq x3_2 x4_2 x75_10 l0_0 l0_1 l0_2 a0_3 ((rd_T120 l0_0 x4_2).f0) ((rd_T120 l0_0 x4_2).f1) ((rd_T120 l0_0 x4_2).f2) = some r) ∧ Aside0 (kq ≤ k2) ∧ Aside0 (wc.heap[gb207]? = some (.cells #[(.slice (some ad209) l0_0.length c0_0), (.slice A0_1 l0_1.length c0_1), (.slice A0_2 l0_2.length c0_2), .int .i64 a0_3] 63 (0, 0))) ∧ Aside0 (wc.heap[gb210]? = some (.cells #[.int .i64 ((rd_T120 l0_0 x4_2).f0), (.slice A209_1 ((rd_T120 l0_0 x4_2).f1).length c209_1), .int .i64 ((rd_T120 l0_0 x4_2).f2)] 120 (0, 0))) ∧ Aside0 (Below w.heap.size w wc))
        case first =>
         have H := HC11.out
         clear HC11
         replace H := Option.bind_eq_some_iff.mp H
         obtain ⟨t211, A160, H⟩ := H
         replace H : (if t211 = true then (if x4_2 > 0 then (if 0 ≤ (wrap64 (x4_2 - 1)) then (if (wrap64 (x4_2 - 1)) < (l0_0.length : Int) then (if ((rd_T120 l0_0 (wrap64 (x4_2 - 1))).f0) ≥ ((rd_T120 l0_0 x4_2).f0) then (spec_DiskOk.j2 k2 x3_2 x4_2 true l0_0 l0_1 l0_2 a0_3 ((rd_T120 l0_0 x4_2).f0) ((rd_T120 l0_0 x4_2).f1) ((rd_T120 l0_0 x4_2).f2)) else ((spec_l1In.f ((rd_T120 l0_0 x4_2).f2) 0 (((rd_T120 l0_0 x4_2).f1).length : Int)).bind fun t213 => (if t213 = true then ((spec_l2Named.f k2 l0_1 ((rd_T120 l0_0 x4_2).f0)).bind fun t214 => (if t214 = true then (spec_DiskOk.j2 k2 x3_2 x4_2 false l0_0 l0_1 l0_2 a0_3 ((rd_T120 l0_0 x4_2).f0) ((rd_T120 l0_0 x4_2).f1) ((rd_T120 l0_0 x4_2).f2)) else ((spec_l2Named.f k2 l0_2 ((rd_T120 l0_0 x4_2).f0)).bind fun t215 => (spec_DiskOk.j2 k2 x3_2 x4_2 (!t215) l0_0 l0_1 l0_2 a0_3 ((rd_T120 l0_0 x4_2).f0) ((rd_T120 l0_0 x4_2).f1) ((rd_T120 l0_0 x4_2).f2))))) else (spec_DiskOk.j2 k2 x3_2 x4_2 true l0_0 l0_1 l0_2 a0_3 ((rd_T120 l0_0 x4_2).f0) ((rd_T120 l0_0 x4_2).f1) ((rd_T120 l0_0 x4_2).f2))))) else (none)) else (none)) else ((spec_l1In.f ((rd_T120 l0_0 x4_2).f2) 0 (((rd_T120 l0_0 x4_2).f1).length : Int)).bind fun t216 => (if t216 = true then ((spec_l2Named.f k2 l0_1 ((rd_T120 l0_0 x4_2).f0)).bind fun t217 => (if t217 = true then (spec_DiskOk.j2 k2 x3_2 x4_2 false l0_0 l0_1 l0_2 a0_3 ((rd_T120 l0_0 x4_2).f0) ((rd_T120 l0_0 x4_2).f1) ((rd_T120 l0_0 x4_2).f2)) else ((spec_l2Named.f k2 l0_2 ((rd_T120 l0_0 x4_2).f0)).bind fun t218 => (spec_DiskOk.j2 k2 x3_2 x4_2 (!t218) l0_0 l0_1 l0_2 a0_3 ((rd_T120 l0_0 x4_2).f0) ((rd_T120 l0_0 x4_2).f1) ((rd_T120 l0_0 x4_2).f2))))) else (spec_DiskOk.j2 k2 x3_2 x4_2 true l0_0 l0_1 l0_2 a0_3 ((rd_T120 l0_0 x4_2).f0) ((rd_T120 l0_0 x4_2).f1) ((rd_T120 l0_0 x4_2).f2))))) else (spec_DiskOk.j2 k2 x3_2 x4_2 true l0_0 l0_1 l0_2 a0_3 ((rd_T120 l0_0 x4_2).f0) ((rd_T120 l0_0 x4_2).f1) ((rd_T120 l0_0 x4_2).f2))) = some r := H
         have A16 := mS A160
         clear A160
         by_cases c17 : t211 = true
         ·subst c17
          have H1 := H
          rw [if_pos rfl] at H1
          clear H
          have H := H1
          clear H1
          by_cases c18 : x4_2 > 0
          ·rw [if_pos c18] at H
           have c18b0 : decide (0 < x4_2) = true := decide_eq_true c18
           clear c18
           (first | rw [c18b0] | (simp only [i64_w, i32_w]; rw [c18b0]) | skip)
           obtain ⟨ji19, hji19⟩ : ∃ j_ : Int, (wrap64 (x4_2 - 1)) = j_ := ⟨_, rfl⟩
           replace H : (if 0 ≤ (ji19) then (if (ji19) < (l0_0.length : Int) then (if ((rd_T120 l0_0 (ji19)).f0) ≥ ((rd_T120 l0_0 x4_2).f0) then (spec_DiskOk.j2 k2 x3_2 x4_2 true l0_0 l0_1 l0_2 a0_3 ((rd_T120 l0_0 x4_2).f0) ((rd_T120 l0_0 x4_2).f1) ((rd_T120 l0_0 x4_2).f2)) else ((spec_l1In.f ((rd_T120 l0_0 x4_2).f2) 0 (((rd_T120 l0_0 x4_2).f1).length : Int)).bind fun t213 => (if t213 = true then ((spec_l2Named.f k2 l0_1 ((rd_T120 l0_0 x4_2).f0)).bind fun t214 => (if t214 = true then (spec_DiskOk.j2 k2 x3_2 x4_2 false l0_0 l0_1 l0_2 a0_3 ((rd_T120 l0_0 x4_2).f0) ((rd_T120 l0_0 x4_2).f1) ((rd_T120 l0_0 x4_2).f2)) else ((spec_l2Named.f k2 l0_2 ((rd_T120 l0_0 x4_2).f0)).bind fun t215 => (spec_DiskOk.j2 k2 x3_2 x4_2 (!t215) l0_0 l0_1 l0_2 a0_3 ((rd_T120 l0_0 x4_2).f0) ((rd_T120 l0_0 x4_2).f1) ((rd_T120 l0_0 x4_2).f2))))) else (spec_DiskOk.j2 k2 x3_2 x4_2 true l0_0 l0_1 l0_2 a0_3 ((rd_T120 l0_0 x4_2).f0) ((rd_T120 l0_0 x4_2).f1) ((rd_T120 l0_0 x4_2).f2))))) else (none)) else (none)) = some r := by first | (rw [hji19] at H; exact H) | (simp only [hji19] at H ⊢; exact H)
           (try rw [hji19] at A16)
           have hji19w : (IntKind.i64.wrap (x4_2 - 1)) = ji19 := (i64_w _).trans hji19
           by_cases c20 : 0 ≤ (ji19)
           ·rw [if_pos c20] at H
            have c20b0 := decide_eq_true c20
            clear c20
            by_cases c21 : (ji19) < (l0_0.length : Int)
            ·rw [if_pos c21] at H
             have c21b0 := decide_eq_true c21
             clear c21
             by_cases c22 : ((rd_T120 l0_0 (ji19)).f0) ≥ ((rd_T120 l0_0 x4_2).f0)
             ·rw [if_pos c22] at H
              have c22b0 : decide (((rd_T120 l0_0 x4_2).f0) ≤ ((rd_T120 l0_0 (ji19)).f0)) = true := decide_eq_true c22
              clear c22
              have H' := mS H
              clear H
              try go_wp2
              generalize hW_ : (((w13.setCell ⟨gb210, 0, none⟩ (.int .i64 ((rd_T120 l0_0 x4_2).f0))).setCell ⟨gb210, 1, none⟩ (.slice A209_1 ((rd_T120 l0_0 x4_2).f1).length c209_1)).setCell ⟨gb210, 2, none⟩ (.int .i64 ((rd_T120 l0_0 x4_2).f2))) = w23
              replace BK207 : Aside0 (w23.heap[gb207]? = some (.cells #[.slice (some ad209) l0_0.length c0_0, .slice A0_1 l0_1.length c0_1, .slice A0_2 l0_2.length c0_2, .int .i64 a0_3] 63 (0, 0))) := by rw [← hW_]; exact ⟨mKf NB207_210.out BK207.out⟩
              replace BK210 : Aside0 (w23.heap[gb210]? = some (.cells #[.int .i64 ((rd_T120 l0_0 x4_2).f0), .slice A209_1 ((rd_T120 l0_0 x4_2).f1).length c209_1, .int .i64 ((rd_T120 l0_0 x4_2).f2)] 120 (0, 0))) := by rw [← hW_]; exact ⟨by refine mK ?_; refine blk_put (cs := #[.int .i64 ((rd_T120 l0_0 x4_2).f0), .slice A209_1 ((rd_T120 l0_0 x4_2).f1).length c209_1, .int .i64 0]) ?_ 2 _ rfl; refine mK ?_; refine blk_put (cs := #[.int .i64 ((rd_T120 l0_0 x4_2).f0), .slice none 0 0, .int .i64 0]) ?_ 1 _ rfl; refine mK ?_; refine blk_put (cs := #[.int .i64 0, .slice none 0 0, .int .i64 0]) ?_ 0 _ rfl; refine mK ?_; exact BK210.out⟩
              replace HB : Aside0 (Below w.heap.size w w23) := by rw [← hW_]; exact ⟨(mH2 HB.out GE207.out GE210.out)⟩
              clear hW_
              replace BK207 := mS (blk_drew BK207.out)
              replace BK210 := mS (blk_drew BK210.out)
              replace HB := mS (below_drew1 HB.out)
              have p212 : 0 ≤ ((ji19) : Int) := mD
              have q212 : (ji19) < (l0_0.length : Int) := mD
              obtain ⟨ad212, A212_1, c212_1, e212, hx212_0, hx212_1, hx212_2, hl212_1, hi212_1⟩ := at_T120 HR0_0.out (ji19) p212 q212
              have hw212_2 := hx212_2
              have hw212_1 := hx212_1
              have hw212_0 := hx212_0
              obtain rfl : ad209 = ad212 := (by injection e212)
              replace hx212_0 := mX HB.out hx212_0
              replace hx212_1 := mX HB.out hx212_1
              replace hx212_2 := mX HB.out hx212_2
              have HR212_1 := mS hi212_1
              have HC212_1 := mS hl212_1
              clear hi212_1 hl212_1
              replace p212 := eq_true p212
              replace q212 := eq_true q212
              refine start_ (n := 48) (S := fun w' => w'.cell? ⟨gb210, 0, none⟩ = some (.int .i64 ((rd_T120 l0_0 x4_2).f0)) ∧ w'.cell? ⟨gb210, 1, none⟩ = some (.slice A209_1 ((rd_T120 l0_0 x4_2).f1).length c209_1) ∧ w'.cell? ⟨gb210, 2, none⟩ = some (.int .i64 ((rd_T120 l0_0 x4_2).f2)) ∧ w'.cell? ⟨gb207, 0, none⟩ = some (.slice (some ad209) l0_0.length c0_0) ∧ w'.cell? ⟨gb207, 1, none⟩ = some (.slice A0_1 l0_1.length c0_1) ∧ w'.cell? ⟨gb207, 2, none⟩ = some (.slice A0_2 l0_2.length c0_2) ∧ w'.cell? ⟨gb207, 3, none⟩ = some (.int .i64 a0_3) ∧ w'.cell? (ad209.add (((ji19)).toNat * 3)) = some (.int .i64 ((rd_T120 l0_0 (ji19)).f0)) ∧ w'.cell? ⟨(ad209.add (((ji19)).toNat * 3)).block, (ad209.add (((ji19)).toNat * 3)).off + 1, none⟩ = some (.slice A212_1 ((rd_T120 l0_0 (ji19)).f1).length c212_1) ∧ w'.cell? ⟨(ad209.add (((ji19)).toNat * 3)).block, (ad209.add (((ji19)).toNat * 3)).off + 2, none⟩ = some (.int .i64 ((rd_T120 l0_0 (ji19)).f2))) (ds := []) (mb 0 48) (by kernel_rfl) rfl rfl (mb3 BK210.out (mb4 BK207.out ⟨(mX HB.out hw212_0 :), ⟨(mX HB.out hw212_1 :), (mX HB.out hw212_2 :)⟩⟩)) (fun hHeld => ?_); refine with_tabW spec_DiskOk.tab8 spec_DiskOk.bits8 (fun HT_ HW_ => ?_)
              generalize w23.drew = w24 at BK207 BK210 HB HR212_1 hx212_0 hx212_1 hx212_2 hHeld ⊢
              refine mpu 0 28 HT_.out (mb 1 47) ?_
              refine mpu 2 30 HT_.out (mr [1,1,1,45]) ?_
              refine mpt 1 29 HT_.out HW_.out (mb 3 45) hHeld ?_
              refine mpt 3 31 HT_.out HW_.out (mb 4 44) hHeld ?_
              refine mpu 4 32 HT_.out (mb 5 43) ?_
              refine mone 5 (some 33) HT_.out (mb 6 42) (fun K hK => ?_)
              refine goes_ Try.func93 (by kernel_rfl) rfl #[.int .i64 ((rd_T120 l0_0 x4_2).f0), .int .i64 1, .int .i64 (wrap64 (a0_3 - 1))] (by rfl) rfl rfl mA ?_
              with_reducible refine (spec_l1In.calls ((rd_T120 l0_0 x4_2).f0) 1 (wrap64 (a0_3 - 1)) true _ A16.out).mono ?_
              rintro e w' ⟨rfl, ⟨nd, rfl⟩⟩
              refine ⟨_, rfl, ?_⟩
              refine hK.out _ _ (mb3 BK210.out (mb4 BK207.out ⟨(mX HB.out hw212_0 :), ⟨(mX HB.out hw212_1 :), (mX HB.out hw212_2 :)⟩⟩)) (fun hHeld => ?_)
              clear hK K
              refine mno 33 ?_
              refine mpu 6 34 HT_.out (mb 7 41) ?_
              refine mpu 7 35 HT_.out (mb 8 40) ?_
              refine mpu 8 36 HT_.out (mb 9 39) ?_
              refine mpu 9 37 HT_.out (mb 10 38) ?_
              refine mpu 10 38 HT_.out (mb 11 37) ?_
              refine mpu 11 39 HT_.out (mb 12 36) ?_
              refine mpu 13 41 HT_.out (mr [12,1,1,34]) ?_
              refine mpu 14 42 HT_.out (mr [12,1,2,33]) ?_
              refine mpu 18 46 HT_.out (mr [12,1,2,3,1,29]) ?_
              refine mpt 12 40 HT_.out HW_.out (mr [15,3,1,29]) hHeld ?_
              refine mpu 15 43 HT_.out (mr [16,2,1,29]) ?_
              refine mpu 16 44 HT_.out (mr [17,1,1,29]) ?_
              refine mpt 17 45 HT_.out HW_.out (mb 19 29) hHeld ?_
              refine mpt 19 47 HT_.out HW_.out (mb 20 28) hHeld ?_
              refine mpu 20 48 HT_.out (mb 21 27) ?_
              refine mpu 21 49 HT_.out (mb 22 26) ?_
              refine mpu 22 50 HT_.out (mb 23 25) ?_
              refine mpu 23 51 HT_.out (mb 24 24) ?_
              refine mpf 24 52 HT_.out (mb 25 23) ?_
              refine mpf 25 53 HT_.out (mb 26 22) ?_
              refine mpf 26 54 HT_.out (mb 27 21) ?_
              refine mpf 27 55 HT_.out (mb 28 20) ?_
              refine mpf 28 56 HT_.out (mb 29 19) ?_
              refine mpf 29 57 HT_.out (mb 30 18) ?_
              refine mpf 30 58 HT_.out (mb 31 17) ?_
              refine mpu 31 59 HT_.out (mb 32 16) ?_
              refine mpu 32 60 HT_.out (mb 33 15) ?_
              refine mpf 33 61 HT_.out (mb 34 14) ?_
              refine mpf 34 62 HT_.out (mb 35 13) ?_
              refine mpf 35 63 HT_.out (mb 36 12) ?_
              refine mpf 36 64 HT_.out (mb 37 11) ?_
              refine mpf 37 65 HT_.out (mb 38 10) ?_
              refine mpf 38 66 HT_.out (mb 39 9) ?_
              refine mpf 39 67 HT_.out (mb 40 8) ?_
              refine mpf 40 68 HT_.out (mb 41 7) ?_
              refine mpf 41 69 HT_.out (mb 42 6) ?_
              refine mpf 42 70 HT_.out (mb 43 5) ?_
              refine mpf 43 71 HT_.out (mb 44 4) ?_
              refine mpf 44 72 HT_.out (mb 45 3) ?_
              refine mpf 45 73 HT_.out (mb 46 2) ?_
              refine mpf 46 74 HT_.out (mb 47 1) ?_
              refine mpu 47 75 HT_.out (mb 48 0) ?_
              refine done_ (done_of HT_.out (by kernel_rfl)) ?_
              try go_wp2
              go_meet
              case rel => exact ⟨_, (true), mE, H', ⟨by have := HJ1.out; have := HK2.out; first | omega | exact Nat.le_refl _⟩, ⟨mK BK207.out⟩, ⟨mK BK210.out⟩, ⟨(mH2 HB.out GE207.out GE210.out)⟩⟩
             ·rw [if_neg c22] at H
              have c22b0 : decide (((rd_T120 l0_0 x4_2).f0) ≤ ((rd_T120 l0_0 (ji19)).f0)) = false := decide_eq_false c22
              clear c22
              replace H := Option.bind_eq_some_iff.mp H
              obtain ⟨t213, A250, H⟩ := H
              replace H : (if t213 = true then ((spec_l2Named.f k2 l0_1 ((rd_T120 l0_0 x4_2).f0)).bind fun t214 => (if t214 = true then (spec_DiskOk.j2 k2 x3_2 x4_2 false l0_0 l0_1 l0_2 a0_3 ((rd_T120 l0_0 x4_2).f0) ((rd_T120 l0_0 x4_2).f1) ((rd_T120 l0_0 x4_2).f2)) else ((spec_l2Named.f k2 l0_2 ((rd_T120 l0_0 x4_2).f0)).bind fun t215 => (spec_DiskOk.j2 k2 x3_2 x4_2 (!t215) l0_0 l0_1 l0_2 a0_3 ((rd_T120 l0_0 x4_2).f0) ((rd_T120 l0_0 x4_2).f1) ((rd_T120 l0_0 x4_2).f2))))) else (spec_DiskOk.j2 k2 x3_2 x4_2 true l0_0 l0_1 l0_2 a0_3 ((rd_T120 l0_0 x4_2).f0) ((rd_T120 l0_0 x4_2).f1) ((rd_T120 l0_0 x4_2).f2))) = some r := H
              have A25 := mS A250
              clear A250
              by_cases c26 : t213 = true
              ·subst c26
               have H1 := H
               rw [if_pos rfl] at H1
               clear H
               have H := H1
               clear H1
               replace H := Option.bind_eq_some_iff.mp H
               obtain ⟨t214, A270, H⟩ := H
               replace H : (if t214 = true then (spec_DiskOk.j2 k2 x3_2 x4_2 false l0_0 l0_1 l0_2 a0_3 ((rd_T120 l0_0 x4_2).f0) ((rd_T120 l0_0 x4_2).f1) ((rd_T120 l0_0 x4_2).f2)) else ((spec_l2Named.f k2 l0_2 ((rd_T120 l0_0 x4_2).f0)).bind fun t215 => (spec_DiskOk.j2 k2 x3_2 x4_2 (!t215) l0_0 l0_1 l0_2 a0_3 ((rd_T120 l0_0 x4_2).f0) ((rd_T120 l0_0 x4_2).f1) ((rd_T120 l0_0 x4_2).f2)))) = some r := H
               have A27 := mS A270
               clear A270
               by_cases c28 : t214 = true
               ·subst c28
                have H1 := H
                rw [if_pos rfl] at H1
                clear H
                have H := H1
                clear H1
                have H' := mS H
                clear H
                try go_wp2
                generalize hW_ : (((w13.setCell ⟨gb210, 0, none⟩ (.int .i64 ((rd_T120 l0_0 x4_2).f0))).setCell ⟨gb210, 1, none⟩ (.slice A209_1 ((rd_T120 l0_0 x4_2).f1).length c209_1)).setCell ⟨gb210, 2, none⟩ (.int .i64 ((rd_T120 l0_0 x4_2).f2))) = w29
                replace BK207 : Aside0 (w29.heap[gb207]? = some (.cells #[.slice (some ad209) l0_0.length c0_0, .slice A0_1 l0_1.length c0_1, .slice A0_2 l0_2.length c0_2, .int .i64 a0_3] 63 (0, 0))) := by rw [← hW_]; exact ⟨mKf NB207_210.out BK207.out⟩
                replace BK210 : Aside0 (w29.heap[gb210]? = some (.cells #[.int .i64 ((rd_T120 l0_0 x4_2).f0), .slice A209_1 ((rd_T120 l0_0 x4_2).f1).length c209_1, .int .i64 ((rd_T120 l0_0 x4_2).f2)] 120 (0, 0))) := by rw [← hW_]; exact ⟨by refine mK ?_; refine blk_put (cs := #[.int .i64 ((rd_T120 l0_0 x4_2).f0), .slice A209_1 ((rd_T120 l0_0 x4_2).f1).length c209_1, .int .i64 0]) ?_ 2 _ rfl; refine mK ?_; refine blk_put (cs := #[.int .i64 ((rd_T120 l0_0 x4_2).f0), .slice none 0 0, .int .i64 0]) ?_ 1 _ rfl; refine mK ?_; refine blk_put (cs := #[.int .i64 0, .slice none 0 0, .int .i64 0]) ?_ 0 _ rfl; refine mK ?_; exact BK210.out⟩
                replace HB : Aside0 (Below w.heap.size w w29) := by rw [← hW_]; exact ⟨(mH2 HB.out GE207.out GE210.out)⟩
                clear hW_
                replace BK207 := mS (blk_drew BK207.out)
                replace BK210 := mS (blk_drew BK210.out)
                replace HB := mS (below_drew1 HB.out)
                have p212 : 0 ≤ ((ji19) : Int) := mD
                have q212 : (ji19) < (l0_0.length : Int) := mD
                obtain ⟨ad212, A212_1, c212_1, e212, hx212_0, hx212_1, hx212_2, hl212_1, hi212_1⟩ := at_T120 HR0_0.out (ji19) p212 q212
                have hw212_2 := hx212_2
                have hw212_1 := hx212_1
                have hw212_0 := hx212_0
                obtain rfl : ad209 = ad212 := (by injection e212)
                replace hx212_0 := mX HB.out hx212_0
                replace hx212_1 := mX HB.out hx212_1
                replace hx212_2 := mX HB.out hx212_2
                have HR212_1 := mS hi212_1
                have HC212_1 := mS hl212_1
                clear hi212_1 hl212_1
                replace p212 := eq_true p212
                replace q212 := eq_true q212
                refine start_ (n := 48) (S := fun w' => w'.cell? ⟨gb210, 0, none⟩ = some (.int .i64 ((rd_T120 l0_0 x4_2).f0)) ∧ w'.cell? ⟨gb210, 1, none⟩ = some (.slice A209_1 ((rd_T120 l0_0 x4_2).f1).length c209_1) ∧ w'.cell? ⟨gb210, 2, none⟩ = some (.int .i64 ((rd_T120 l0_0 x4_2).f2)) ∧ w'.cell? ⟨gb207, 0, none⟩ = some (.slice (some ad209) l0_0.length c0_0) ∧ w'.cell? ⟨gb207, 1, none⟩ = some (.slice A0_1 l0_1.length c0_1) ∧ w'.cell? ⟨gb207, 2, none⟩ = some (.slice A0_2 l0_2.length c0_2) ∧ w'.cell? ⟨gb207, 3, none⟩ = some (.int .i64 a0_3) ∧ w'.cell? (ad209.add (((ji19)).toNat * 3)) = some (.int .i64 ((rd_T120 l0_0 (ji19)).f0)) ∧ w'.cell? ⟨(ad209.add (((ji19)).toNat * 3)).block, (ad209.add (((ji19)).toNat * 3)).off + 1, none⟩ = some (.slice A212_1 ((rd_T120 l0_0 (ji19)).f1).length c212_1) ∧ w'.cell? ⟨(ad209.add (((ji19)).toNat * 3)).block, (ad209.add (((ji19)).toNat * 3)).off + 2, none⟩ = some (.int .i64 ((rd_T120 l0_0 (ji19)).f2))) (ds := []) (mb 0 48) (by kernel_rfl) rfl rfl (mb3 BK210.out (mb4 BK207.out ⟨(mX HB.out hw212_0 :), ⟨(mX HB.out hw212_1 :), (mX HB.out hw212_2 :)⟩⟩)) (fun hHeld => ?_); refine with_tabW spec_DiskOk.tab8 spec_DiskOk.bits8 (fun HT_ HW_ => ?_)
                generalize w29.drew = w30 at BK207 BK210 HB HR212_1 hx212_0 hx212_1 hx212_2 hHeld ⊢
                refine mpu 0 28 HT_.out (mb 1 47) ?_
                refine mpu 2 30 HT_.out (mr [1,1,1,45]) ?_
                refine mpt 1 29 HT_.out HW_.out (mb 3 45) hHeld ?_
                refine mpt 3 31 HT_.out HW_.out (mb 4 44) hHeld ?_
                refine mpu 4 32 HT_.out (mb 5 43) ?_
                refine mone 5 (some 33) HT_.out (mb 6 42) (fun K hK => ?_)
                refine goes_ Try.func93 (by kernel_rfl) rfl #[.int .i64 ((rd_T120 l0_0 x4_2).f0), .int .i64 1, .int .i64 (wrap64 (a0_3 - 1))] (by rfl) rfl rfl mA ?_
                with_reducible refine (spec_l1In.calls ((rd_T120 l0_0 x4_2).f0) 1 (wrap64 (a0_3 - 1)) true _ A16.out).mono ?_
                rintro e w' ⟨rfl, ⟨nd, rfl⟩⟩
                refine ⟨_, rfl, ?_⟩
                refine hK.out _ _ (mb3 BK210.out (mb4 BK207.out ⟨(mX HB.out hw212_0 :), ⟨(mX HB.out hw212_1 :), (mX HB.out hw212_2 :)⟩⟩)) (fun hHeld => ?_)
                clear hK K
                refine mno 33 ?_
                refine mpu 6 34 HT_.out (mb 7 41) ?_
                refine mpu 7 35 HT_.out (mb 8 40) ?_
                refine mpu 8 36 HT_.out (mb 9 39) ?_
                refine mpu 9 37 HT_.out (mb 10 38) ?_
                refine mpu 10 38 HT_.out (mb 11 37) ?_
                refine mpu 11 39 HT_.out (mb 12 36) ?_
                refine mpu 13 41 HT_.out (mr [12,1,1,34]) ?_
                refine mpu 14 42 HT_.out (mr [12,1,2,33]) ?_
                refine mpu 18 46 HT_.out (mr [12,1,2,3,1,29]) ?_
                refine mpt 12 40 HT_.out HW_.out (mr [15,3,1,29]) hHeld ?_
                refine mpu 15 43 HT_.out (mr [16,2,1,29]) ?_
                refine mpu 16 44 HT_.out (mr [17,1,1,29]) ?_
                refine mpt 17 45 HT_.out HW_.out (mb 19 29) hHeld ?_
                refine mpt 19 47 HT_.out HW_.out (mb 20 28) hHeld ?_
                refine mpu 20 48 HT_.out (mb 21 27) ?_
                refine mpu 21 49 HT_.out (mb 22 26) ?_
                refine mpu 22 50 HT_.out (mb 23 25) ?_
                refine mpu 23 51 HT_.out (mb 24 24) ?_
                refine mpu 24 52 HT_.out (mb 25 23) ?_
                refine mpu 26 54 HT_.out (mr [25,1,1,21]) ?_
                refine mpt 25 53 HT_.out HW_.out (mb 27 21) hHeld ?_
                refine mpt 27 55 HT_.out HW_.out (mb 28 20) hHeld ?_
                refine mpu 28 56 HT_.out (mb 29 19) ?_
                refine mone 29 (some 57) HT_.out (mb 30 18) (fun K hK => ?_)
                refine goes_ Try.func93 (by kernel_rfl) rfl #[.int .i64 ((rd_T120 l0_0 x4_2).f2), .int .i64 0, .int .i64 (((rd_T120 l0_0 x4_2).f1).length : Int)] (by rfl) rfl rfl mA ?_
                with_reducible refine (spec_l1In.calls ((rd_T120 l0_0 x4_2).f2) 0 (((rd_T120 l0_0 x4_2).f1).length : Int) true _ A25.out).mono ?_
                rintro e w' ⟨rfl, ⟨nd, rfl⟩⟩
                refine ⟨_, rfl, ?_⟩
                refine hK.out _ _ (mb3 BK210.out (mb4 BK207.out ⟨(mX HB.out hw212_0 :), ⟨(mX HB.out hw212_1 :), (mX HB.out hw212_2 :)⟩⟩)) (fun hHeld => ?_)
                clear hK K
                refine mno 57 ?_
                refine mpu 30 58 HT_.out (mb 31 17) ?_
                refine mpu 31 59 HT_.out (mb 32 16) ?_
                refine mpu 32 60 HT_.out (mb 33 15) ?_
                refine mpu 33 61 HT_.out (mb 34 14) ?_
                refine mpu 35 63 HT_.out (mr [34,1,1,12]) ?_
                refine mpt 34 62 HT_.out HW_.out (mb 36 12) hHeld ?_
                refine mpt 36 64 HT_.out HW_.out (mb 37 11) hHeld ?_
                refine mone 37 (some 65) HT_.out (mb 38 10) (fun K hK => ?_)
                refine goes_ Try.func94 (by kernel_rfl) rfl #[.slice A0_1 l0_1.length c0_1, .int .i64 ((rd_T120 l0_0 x4_2).f0)] (by rfl) rfl rfl mA ?_
                with_reducible refine (spec_l2Named.calls k2 _ _ l0_1 ((rd_T120 l0_0 x4_2).f0) true _ ?side1 ?side2 A27.out).mono ?_
                (case side1 => exact mC (Kd.C_below HR0_1.out (mH2 HB.out GE207.out GE210.out)))
                (case side2 => exact HC0_1.out)
                rintro e w' ⟨rfl, ⟨nd, rfl⟩⟩
                refine ⟨_, rfl, ?_⟩
                refine hK.out _ _ (mb3 BK210.out (mb4 BK207.out ⟨(mX HB.out hw212_0 :), ⟨(mX HB.out hw212_1 :), (mX HB.out hw212_2 :)⟩⟩)) (fun hHeld => ?_)
                clear hK K
                refine mno 65 ?_
                refine mpu 38 66 HT_.out (mb 39 9) ?_
                refine mpu 39 67 HT_.out (mb 40 8) ?_
                refine mpf 40 68 HT_.out (mb 41 7) ?_
                refine mpf 41 69 HT_.out (mb 42 6) ?_
                refine mpf 42 70 HT_.out (mb 43 5) ?_
                refine mpf 43 71 HT_.out (mb 44 4) ?_
                refine mpf 44 72 HT_.out (mb 45 3) ?_
                refine mpf 45 73 HT_.out (mb 46 2) ?_
                refine mpu 46 74 HT_.out (mb 47 1) ?_
                refine mpu 47 75 HT_.out (mb 48 0) ?_
                refine done_ (done_of HT_.out (by kernel_rfl)) ?_
                try go_wp2
                go_meet
                case rel => exact ⟨_, (false), mE, H', ⟨by have := HJ1.out; have := HK2.out; first | omega | exact Nat.le_refl _⟩, ⟨mK BK207.out⟩, ⟨mK BK210.out⟩, ⟨(mH2 HB.out GE207.out GE210.out)⟩⟩
               ·replace c28 := Bool.eq_false_iff.mpr c28
                subst c28
                have H1 := H
                rw [if_neg (show ¬ (false = true) by decide)] at H1
                clear H
                have H := H1
                clear H1
                replace H := Option.bind_eq_some_iff.mp H
                obtain ⟨t215, A310, H⟩ := H
                replace H : (spec_DiskOk.j2 k2 x3_2 x4_2 (!t215) l0_0 l0_1 l0_2 a0_3 ((rd_T120 l0_0 x4_2).f0) ((rd_T120 l0_0 x4_2).f1) ((rd_T120 l0_0 x4_2).f2)) = some r := H
                have A31 := mS A310
                clear A310
                have H' := mS H
                clear H
                try go_wp2
                generalize hW_ : (((w13.setCell ⟨gb210, 0, none⟩ (.int .i64 ((rd_T120 l0_0 x4_2).f0))).setCell ⟨gb210, 1, none⟩ (.slice A209_1 ((rd_T120 l0_0 x4_2).f1).length c209_1)).setCell ⟨gb210, 2, none⟩ (.int .i64 ((rd_T120 l0_0 x4_2).f2))) = w32
                replace BK207 : Aside0 (w32.heap[gb207]? = some (.cells #[.slice (some ad209) l0_0.length c0_0, .slice A0_1 l0_1.length c0_1, .slice A0_2 l0_2.length c0_2, .int .i64 a0_3] 63 (0, 0))) := by rw [← hW_]; exact ⟨mKf NB207_210.out BK207.out⟩
                replace BK210 : Aside0 (w32.heap[gb210]? = some (.cells #[.int .i64 ((rd_T120 l0_0 x4_2).f0), .slice A209_1 ((rd_T120 l0_0 x4_2).f1).length c209_1, .int .i64 ((rd_T120 l0_0 x4_2).f2)] 120 (0, 0))) := by rw [← hW_]; exact ⟨by refine mK ?_; refine blk_put (cs := #[.int .i64 ((rd_T120 l0_0 x4_2).f0), .slice A209_1 ((rd_T120 l0_0 x4_2).f1).length c209_1, .int .i64 0]) ?_ 2 _ rfl; refine mK ?_; refine blk_put (cs := #[.int .i64 ((rd_T120 l0_0 x4_2).f0), .slice none 0 0, .int .i64 0]) ?_ 1 _ rfl; refine mK ?_; refine blk_put (cs := #[.int .i64 0, .slice none 0 0, .int .i64 0]) ?_ 0 _ rfl; refine mK ?_; exact BK210.out⟩
                replace HB : Aside0 (Below w.heap.size w w32) := by rw [← hW_]; exact ⟨(mH2 HB.out GE207.out GE210.out)⟩
                clear hW_
                replace BK207 := mS (blk_drew BK207.out)
                replace BK210 := mS (blk_drew BK210.out)
                replace HB := mS (below_drew1 HB.out)
                have p212 : 0 ≤ ((ji19) : Int) := mD
                have q212 : (ji19) < (l0_0.length : Int) := mD
                obtain ⟨ad212, A212_1, c212_1, e212, hx212_0, hx212_1, hx212_2, hl212_1, hi212_1⟩ := at_T120 HR0_0.out (ji19) p212 q212
                have hw212_2 := hx212_2
                have hw212_1 := hx212_1
                have hw212_0 := hx212_0
                obtain rfl : ad209 = ad212 := (by injection e212)
                replace hx212_0 := mX HB.out hx212_0
                replace hx212_1 := mX HB.out hx212_1
                replace hx212_2 := mX HB.out hx212_2
                have HR212_1 := mS hi212_1
                have HC212_1 := mS hl212_1
                clear hi212_1 hl212_1
                replace p212 := eq_true p212
                replace q212 := eq_true q212
                refine start_ (n := 48) (S := fun w' => w'.cell? ⟨gb210, 0, none⟩ = some (.int .i64 ((rd_T120 l0_0 x4_2).f0)) ∧ w'.cell? ⟨gb210, 1, none⟩ = some (.slice A209_1 ((rd_T120 l0_0 x4_2).f1).length c209_1) ∧ w'.cell? ⟨gb210, 2, none⟩ = some (.int .i64 ((rd_T120 l0_0 x4_2).f2)) ∧ w'.cell? ⟨gb207, 0, none⟩ = some (.slice (some ad209) l0_0.length c0_0) ∧ w'.cell? ⟨gb207, 1, none⟩ = some (.slice A0_1 l0_1.length c0_1) ∧ w'.cell? ⟨gb207, 2, none⟩ = some (.slice A0_2 l0_2.length c0_2) ∧ w'.cell? ⟨gb207, 3, none⟩ = some (.int .i64 a0_3) ∧ w'.cell? (ad209.add (((ji19)).toNat * 3)) = some (.int .i64 ((rd_T120 l0_0 (ji19)).f0)) ∧ w'.cell? ⟨(ad209.add (((ji19)).toNat * 3)).block, (ad209.add (((ji19)).toNat * 3)).off + 1, none⟩ = some (.slice A212_1 ((rd_T120 l0_0 (ji19)).f1).length c212_1) ∧ w'.cell? ⟨(ad209.add (((ji19)).toNat * 3)).block, (ad209.add (((ji19)).toNat * 3)).off + 2, none⟩ = some (.int .i64 ((rd_T120 l0_0 (ji19)).f2))) (ds := []) (mb 0 48) (by kernel_rfl) rfl rfl (mb3 BK210.out (mb4 BK207.out ⟨(mX HB.out hw212_0 :), ⟨(mX HB.out hw212_1 :), (mX HB.out hw212_2 :)⟩⟩)) (fun hHeld => ?_); refine with_tabW spec_DiskOk.tab8 spec_DiskOk.bits8 (fun HT_ HW_ => ?_)
                generalize w32.drew = w33 at BK207 BK210 HB HR212_1 hx212_0 hx212_1 hx212_2 hHeld ⊢
                refine mpu 0 28 HT_.out (mb 1 47) ?_
                refine mpu 2 30 HT_.out (mr [1,1,1,45]) ?_
                refine mpt 1 29 HT_.out HW_.out (mb 3 45) hHeld ?_
                refine mpt 3 31 HT_.out HW_.out (mb 4 44) hHeld ?_
                refine mpu 4 32 HT_.out (mb 5 43) ?_
                refine mone 5 (some 33) HT_.out (mb 6 42) (fun K hK => ?_)
                refine goes_ Try.func93 (by kernel_rfl) rfl #[.int .i64 ((rd_T120 l0_0 x4_2).f0), .int .i64 1, .int .i64 (wrap64 (a0_3 - 1))] (by rfl) rfl rfl mA ?_
                with_reducible refine (spec_l1In.calls ((rd_T120 l0_0 x4_2).f0) 1 (wrap64 (a0_3 - 1)) true _ A16.out).mono ?_
                rintro e w' ⟨rfl, ⟨nd, rfl⟩⟩
                refine ⟨_, rfl, ?_⟩
                refine hK.out _ _ (mb3 BK210.out (mb4 BK207.out ⟨(mX HB.out hw212_0 :), ⟨(mX HB.out hw212_1 :), (mX HB.out hw212_2 :)⟩⟩)) (fun hHeld => ?_)
                clear hK K
                refine mno 33 ?_
                refine mpu 6 34 HT_.out (mb 7 41) ?_
                refine mpu 7 35 HT_.out (mb 8 40) ?_
                refine mpu 8 36 HT_.out (mb 9 39) ?_
                refine mpu 9 37 HT_.out (mb 10 38) ?_
                refine mpu 10 38 HT_.out (mb 11 37) ?_
                refine mpu 11 39 HT_.out (mb 12 36) ?_
                refine mpu 13 41 HT_.out (mr [12,1,1,34]) ?_
                refine mpu 14 42 HT_.out (mr [12,1,2,33]) ?_
                refine mpu 18 46 HT_.out (mr [12,1,2,3,1,29]) ?_
                refine mpt 12 40 HT_.out HW_.out (mr [15,3,1,29]) hHeld ?_
                refine mpu 15 43 HT_.out (mr [16,2,1,29]) ?_
                refine mpu 16 44 HT_.out (mr [17,1,1,29]) ?_
                refine mpt 17 45 HT_.out HW_.out (mb 19 29) hHeld ?_
                refine mpt 19 47 HT_.out HW_.out (mb 20 28) hHeld ?_
                refine mpu 20 48 HT_.out (mb 21 27) ?_
                refine mpu 21 49 HT_.out (mb 22 26) ?_
                refine mpu 22 50 HT_.out (mb 23 25) ?_
                refine mpu 23 51 HT_.out (mb 24 24) ?_
                refine mpu 24 52 HT_.out (mb 25 23) ?_
                refine mpu 26 54 HT_.out (mr [25,1,1,21]) ?_
                refine mpt 25 53 HT_.out HW_.out (mb 27 21) hHeld ?_
                refine mpt 27 55 HT_.out HW_.out (mb 28 20) hHeld ?_
                refine mpu 28 56 HT_.out (mb 29 19) ?_
                refine mone 29 (some 57) HT_.out (mb 30 18) (fun K hK => ?_)
                refine goes_ Try.func93 (by kernel_rfl) rfl #[.int .i64 ((rd_T120 l0_0 x4_2).f2), .int .i64 0, .int .i64 (((rd_T120 l0_0 x4_2).f1).length : Int)] (by rfl) rfl rfl mA ?_
                with_reducible refine (spec_l1In.calls ((rd_T120 l0_0 x4_2).f2) 0 (((rd_T120 l0_0 x4_2).f1).length : Int) true _ A25.out).mono ?_
                rintro e w' ⟨rfl, ⟨nd, rfl⟩⟩
                refine ⟨_, rfl, ?_⟩
                refine hK.out _ _ (mb3 BK210.out (mb4 BK207.out ⟨(mX HB.out hw212_0 :), ⟨(mX HB.out hw212_1 :), (mX HB.out hw212_2 :)⟩⟩)) (fun hHeld => ?_)
                clear hK K
                refine mno 57 ?_
                refine mpu 30 58 HT_.out (mb 31 17) ?_
                refine mpu 31 59 HT_.out (mb 32 16) ?_
                refine mpu 32 60 HT_.out (mb 33 15) ?_
                refine mpu 33 61 HT_.out (mb 34 14) ?_
                refine mpu 35 63 HT_.out (mr [34,1,1,12]) ?_
                refine mpt 34 62 HT_.out HW_.out (mb 36 12) hHeld ?_
                refine mpt 36 64 HT_.out HW_.out (mb 37 11) hHeld ?_
                refine mone 37 (some 65) HT_.out (mb 38 10) (fun K hK => ?_)
                refine goes_ Try.func94 (by kernel_rfl) rfl #[.slice A0_1 l0_1.length c0_1, .int .i64 ((rd_T120 l0_0 x4_2).f0)] (by rfl) rfl rfl mA ?_
                with_reducible refine (spec_l2Named.calls k2 _ _ l0_1 ((rd_T120 l0_0 x4_2).f0) false _ ?side1 ?side2 A27.out).mono ?_
                (case side1 => exact mC (Kd.C_below HR0_1.out (mH2 HB.out GE207.out GE210.out)))
                (case side2 => exact HC0_1.out)
                rintro e w' ⟨rfl, ⟨nd, rfl⟩⟩
                refine ⟨_, rfl, ?_⟩
                refine hK.out _ _ (mb3 BK210.out (mb4 BK207.out ⟨(mX HB.out hw212_0 :), ⟨(mX HB.out hw212_1 :), (mX HB.out hw212_2 :)⟩⟩)) (fun hHeld => ?_)
                clear hK K
                refine mno 65 ?_
                refine mpu 38 66 HT_.out (mb 39 9) ?_
                refine mpu 39 67 HT_.out (mb 40 8) ?_
                refine mpu 40 68 HT_.out (mb 41 7) ?_
                refine mpu 42 70 HT_.out (mr [41,1,1,5]) ?_
                refine mpt 41 69 HT_.out HW_.out (mb 43 5) hHeld ?_
                refine mpt 43 71 HT_.out HW_.out (mb 44 4) hHeld ?_
                refine mone 44 (some 72) HT_.out (mb 45 3) (fun K hK => ?_)
                refine goes_ Try.func94 (by kernel_rfl) rfl #[.slice A0_2 l0_2.length c0_2, .int .i64 ((rd_T120 l0_0 x4_2).f0)] (by rfl) rfl rfl mA ?_
                with_reducible refine (spec_l2Named.calls k2 _ _ l0_2 ((rd_T120 l0_0 x4_2).f0) t215 _ ?side1 ?side2 A31.out).mono ?_
                (case side1 => exact mC (Kd.C_below HR0_2.out (mH2 HB.out GE207.out GE210.out)))
                (case side2 => exact HC0_2.out)
                rintro e w' ⟨rfl, ⟨nd, rfl⟩⟩
                refine ⟨_, rfl, ?_⟩
                refine hK.out _ _ (mb3 BK210.out (mb4 BK207.out ⟨(mX HB.out hw212_0 :), ⟨(mX HB.out hw212_1 :), (mX HB.out hw212_2 :)⟩⟩)) (fun hHeld => ?_)
                clear hK K
                refine mno 72 ?_
                refine mpu 45 73 HT_.out (mb 46 2) ?_
                refine mpu 46 74 HT_.out (mb 47 1) ?_
                refine mpu 47 75 HT_.out (mb 48 0) ?_
                refine done_ (done_of HT_.out (by kernel_rfl)) ?_
                try go_wp2
                go_meet
                case rel => exact ⟨_, (!t215), mE, H', ⟨by have := HJ1.out; have := HK2.out; first | omega | exact Nat.le_refl _⟩, ⟨mK BK207.out⟩, ⟨mK BK210.out⟩, ⟨(mH2 HB.out GE207.out GE210.out)⟩⟩
              ·replace c26 := Bool.eq_false_iff.mpr c26
               subst c26
               have H1 := H
               rw [if_neg (show ¬ (false = true) by decide)] at H1
               clear H
               have H := H1
               clear H1
               have H' := mS H
               clear H
               try go_wp2
               generalize hW_ : (((w13.setCell ⟨gb210, 0, none⟩ (.int .i64 ((rd_T120 l0_0 x4_2).f0))).setCell ⟨gb210, 1, none⟩ (.slice A209_1 ((rd_T120 l0_0 x4_2).f1).length c209_1)).setCell ⟨gb210, 2, none⟩ (.int .i64 ((rd_T120 l0_0 x4_2).f2))) = w34
               replace BK207 : Aside0 (w34.heap[gb207]? = some (.cells #[.slice (some ad209) l0_0.length c0_0, .slice A0_1 l0_1.length c0_1, .slice A0_2 l0_2.length c0_2, .int .i64 a0_3] 63 (0, 0))) := by rw [← hW_]; exact ⟨mKf NB207_210.out BK207.out⟩
               replace BK210 : Aside0 (w34.heap[gb210]? = some (.cells #[.int .i64 ((rd_T120 l0_0 x4_2).f0), .slice A209_1 ((rd_T120 l0_0 x4_2).f1).length c209_1, .int .i64 ((rd_T120 l0_0 x4_2).f2)] 120 (0, 0))) := by rw [← hW_]; exact ⟨by refine mK ?_; refine blk_put (cs := #[.int .i64 ((rd_T120 l0_0 x4_2).f0), .slice A209_1 ((rd_T120 l0_0 x4_2).f1).length c209_1, .int .i64 0]) ?_ 2 _ rfl; refine mK ?_; refine blk_put (cs := #[.int .i64 ((rd_T120 l0_0 x4_2).f0), .slice none 0 0, .int .i64 0]) ?_ 1 _ rfl; refine mK ?_; refine blk_put (cs := #[.int .i64 0, .slice none 0 0, .int .i64 0]) ?_ 0 _ rfl; refine mK ?_; exact BK210.out⟩
               replace HB : Aside0 (Below w.heap.size w w34) := by rw [← hW_]; exact ⟨(mH2 HB.out GE207.out GE210.out)⟩
               clear hW_
               replace BK207 := mS (blk_drew BK207.out)
               replace BK210 := mS (blk_drew BK210.out)
               replace HB := mS (below_drew1 HB.out)
               have p212 : 0 ≤ ((ji19) : Int) := mD
               have q212 : (ji19) < (l0_0.length : Int) := mD
               obtain ⟨ad212, A212_1, c212_1, e212, hx212_0, hx212_1, hx212_2, hl212_1, hi212_1⟩ := at_T120 HR0_0.out (ji19) p212 q212
               have hw212_2 := hx212_2
               have hw212_1 := hx212_1
               have hw212_0 := hx212_0
               obtain rfl : ad209 = ad212 := (by injection e212)
               replace hx212_0 := mX HB.out hx212_0
               replace hx212_1 := mX HB.out hx212_1
               replace hx212_2 := mX HB.out hx212_2
               have HR212_1 := mS hi212_1
               have HC212_1 := mS hl212_1
               clear hi212_1 hl212_1
               replace p212 := eq_true p212
               replace q212 := eq_true q212
               refine start_ (n := 48) (S := fun w' => w'.cell? ⟨gb210, 0, none⟩ = some (.int .i64 ((rd_T120 l0_0 x4_2).f0)) ∧ w'.cell? ⟨gb210, 1, none⟩ = some (.slice A209_1 ((rd_T120 l0_0 x4_2).f1).length c209_1) ∧ w'.cell? ⟨gb210, 2, none⟩ = some (.int .i64 ((rd_T120 l0_0 x4_2).f2)) ∧ w'.cell? ⟨gb207, 0, none⟩ = some (.slice (some ad209) l0_0.length c0_0) ∧ w'.cell? ⟨gb207, 1, none⟩ = some (.slice A0_1 l0_1.length c0_1) ∧ w'.cell? ⟨gb207, 2, none⟩ = some (.slice A0_2 l0_2.length c0_2) ∧ w'.cell? ⟨gb207, 3, none⟩ = some (.int .i64 a0_3) ∧ w'.cell? (ad209.add (((ji19)).toNat * 3)) = some (.int .i64 ((rd_T120 l0_0 (ji19)).f0)) ∧ w'.cell? ⟨(ad209.add (((ji19)).toNat * 3)).block, (ad209.add (((ji19)).toNat * 3)).off + 1, none⟩ = some (.slice A212_1 ((rd_T120 l0_0 (ji19)).f1).length c212_1) ∧ w'.cell? ⟨(ad209.add (((ji19)).toNat * 3)).block, (ad209.add (((ji19)).toNat * 3)).off + 2, none⟩ = some (.int .i64 ((rd_T120 l0_0 (ji19)).f2))) (ds := []) (mb 0 48) (by kernel_rfl) rfl rfl (mb3 BK210.out (mb4 BK207.out ⟨(mX HB.out hw212_0 :), ⟨(mX HB.out hw212_1 :), (mX HB.out hw212_2 :)⟩⟩)) (fun hHeld => ?_); refine with_tabW spec_DiskOk.tab8 spec_DiskOk.bits8 (fun HT_ HW_ => ?_)
               generalize w34.drew = w35 at BK207 BK210 HB HR212_1 hx212_0 hx212_1 hx212_2 hHeld ⊢
               refine mpu 0 28 HT_.out (mb 1 47) ?_
               refine mpu 2 30 HT_.out (mr [1,1,1,45]) ?_
               refine mpt 1 29 HT_.out HW_.out (mb 3 45) hHeld ?_
               refine mpt 3 31 HT_.out HW_.out (mb 4 44) hHeld ?_
               refine mpu 4 32 HT_.out (mb 5 43) ?_
               refine mone 5 (some 33) HT_.out (mb 6 42) (fun K hK => ?_)
               refine goes_ Try.func93 (by kernel_rfl) rfl #[.int .i64 ((rd_T120 l0_0 x4_2).f0), .int .i64 1, .int .i64 (wrap64 (a0_3 - 1))] (by rfl) rfl rfl mA ?_
               with_reducible refine (spec_l1In.calls ((rd_T120 l0_0 x4_2).f0) 1 (wrap64 (a0_3 - 1)) true _ A16.out).mono ?_
               rintro e w' ⟨rfl, ⟨nd, rfl⟩⟩
               refine ⟨_, rfl, ?_⟩
               refine hK.out _ _ (mb3 BK210.out (mb4 BK207.out ⟨(mX HB.out hw212_0 :), ⟨(mX HB.out hw212_1 :), (mX HB.out hw212_2 :)⟩⟩)) (fun hHeld => ?_)
               clear hK K
               refine mno 33 ?_
               refine mpu 6 34 HT_.out (mb 7 41) ?_
               refine mpu 7 35 HT_.out (mb 8 40) ?_
               refine mpu 8 36 HT_.out (mb 9 39) ?_
               refine mpu 9 37 HT_.out (mb 10 38) ?_
               refine mpu 10 38 HT_.out (mb 11 37) ?_
               refine mpu 11 39 HT_.out (mb 12 36) ?_
               refine mpu 13 41 HT_.out (mr [12,1,1,34]) ?_
               refine mpu 14 42 HT_.out (mr [12,1,2,33]) ?_
               refine mpu 18 46 HT_.out (mr [12,1,2,3,1,29]) ?_
               refine mpt 12 40 HT_.out HW_.out (mr [15,3,1,29]) hHeld ?_
               refine mpu 15 43 HT_.out (mr [16,2,1,29]) ?_
               refine mpu 16 44 HT_.out (mr [17,1,1,29]) ?_
               refine mpt 17 45 HT_.out HW_.out (mb 19 29) hHeld ?_
               refine mpt 19 47 HT_.out HW_.out (mb 20 28) hHeld ?_
               refine mpu 20 48 HT_.out (mb 21 27) ?_
               refine mpu 21 49 HT_.out (mb 22 26) ?_
               refine mpu 22 50 HT_.out (mb 23 25) ?_
               refine mpu 23 51 HT_.out (mb 24 24) ?_
               refine mpu 24 52 HT_.out (mb 25 23) ?_
               refine mpu 26 54 HT_.out (mr [25,1,1,21]) ?_
               refine mpt 25 53 HT_.out HW_.out (mb 27 21) hHeld ?_
               refine mpt 27 55 HT_.out HW_.out (mb 28 20) hHeld ?_
               refine mpu 28 56 HT_.out (mb 29 19) ?_
               refine mone 29 (some 57) HT_.out (mb 30 18) (fun K hK => ?_)
               refine goes_ Try.func93 (by kernel_rfl) rfl #[.int .i64 ((rd_T120 l0_0 x4_2).f2), .int .i64 0, .int .i64 (((rd_T120 l0_0 x4_2).f1).length : Int)] (by rfl) rfl rfl mA ?_
               with_reducible refine (spec_l1In.calls ((rd_T120 l0_0 x4_2).f2) 0 (((rd_T120 l0_0 x4_2).f1).length : Int) false _ A25.out).mono ?_
               rintro e w' ⟨rfl, ⟨nd, rfl⟩⟩
               refine ⟨_, rfl, ?_⟩
               refine hK.out _ _ (mb3 BK210.out (mb4 BK207.out ⟨(mX HB.out hw212_0 :), ⟨(mX HB.out hw212_1 :), (mX HB.out hw212_2 :)⟩⟩)) (fun hHeld => ?_)
               clear hK K
               refine mno 57 ?_
               refine mpu 30 58 HT_.out (mb 31 17) ?_
               refine mpu 31 59 HT_.out (mb 32 16) ?_
               refine mpu 32 60 HT_.out (mb 33 15) ?_
               refine mpf 33 61 HT_.out (mb 34 14) ?_
               refine mpf 34 62 HT_.out (mb 35 13) ?_
               refine mpf 35 63 HT_.out (mb 36 12) ?_
               refine mpf 36 64 HT_.out (mb 37 11) ?_
               refine mpf 37 65 HT_.out (mb 38 10) ?_
               refine mpf 38 66 HT_.out (mb 39 9) ?_
               refine mpf 39 67 HT_.out (mb 40 8) ?_
               refine mpf 40 68 HT_.out (mb 41 7) ?_
               refine mpf 41 69 HT_.out (mb 42 6) ?_
               refine mpf 42 70 HT_.out (mb 43 5) ?_
               refine mpf 43 71 HT_.out (mb 44 4) ?_
               refine mpf 44 72 HT_.out (mb 45 3) ?_
               refine mpf 45 73 HT_.out (mb 46 2) ?_
               refine mpf 46 74 HT_.out (mb 47 1) ?_
               refine mpu 47 75 HT_.out (mb 48 0) ?_
               refine done_ (done_of HT_.out (by kernel_rfl)) ?_
               try go_wp2
               go_meet
               case rel => exact ⟨_, (true), mE, H', ⟨by have := HJ1.out; have := HK2.out; first | omega | exact Nat.le_refl _⟩, ⟨mK BK207.out⟩, ⟨mK BK210.out⟩, ⟨(mH2 HB.out GE207.out GE210.out)⟩⟩
            ·rw [if_neg c21] at H
             exact absurd H (by simp)
           ·rw [if_neg c20] at H
            exact absurd H (by simp)
          ·rw [if_neg c18] at H
           have c18b0 : decide (0 < x4_2) = false := decide_eq_false c18
           clear c18
           (first | rw [c18b0] | (simp only [i64_w, i32_w]; rw [c18b0]) | skip)
           replace H := Option.bind_eq_some_iff.mp H
           obtain ⟨t216, A360, H⟩ := H
           replace H : (if t216 = true then ((spec_l2Named.f k2 l0_1 ((rd_T120 l0_0 x4_2).f0)).bind fun t217 => (if t217 = true then (spec_DiskOk.j2 k2 x3_2 x4_2 false l0_0 l0_1 l0_2 a0_3 ((rd_T120 l0_0 x4_2).f0) ((rd_T120 l0_0 x4_2).f1) ((rd_T120 l0_0 x4_2).f2)) else ((spec_l2Named.f k2 l0_2 ((rd_T120 l0_0 x4_2).f0)).bind fun t218 => (spec_DiskOk.j2 k2 x3_2 x4_2 (!t218) l0_0 l0_1 l0_2 a0_3 ((rd_T120 l0_0 x4_2).f0) ((rd_T120 l0_0 x4_2).f1) ((rd_T120 l0_0 x4_2).f2))))) else (spec_DiskOk.j2 k2 x3_2 x4_2 true l0_0 l0_1 l0_2 a0_3 ((rd_T120 l0_0 x4_2).f0) ((rd_T120 l0_0 x4_2).f1) ((rd_T120 l0_0 x4_2).f2))) = some r := H
           have A36 := mS A360
           clear A360
           by_cases c37 : t216 = true
           ·subst c37
            have H1 := H
            rw [if_pos rfl] at H1
            clear H
            have H := H1
            clear H1
            replace H := Option.bind_eq_some_iff.mp H
            obtain ⟨t217, A380, H⟩ := H
            replace H : (if t217 = true then (spec_DiskOk.j2 k2 x3_2 x4_2 false l0_0 l0_1 l0_2 a0_3 ((rd_T120 l0_0 x4_2).f0) ((rd_T120 l0_0 x4_2).f1) ((rd_T120 l0_0 x4_2).f2)) else ((spec_l2Named.f k2 l0_2 ((rd_T120 l0_0 x4_2).f0)).bind fun t218 => (spec_DiskOk.j2 k2 x3_2 x4_2 (!t218) l0_0 l0_1 l0_2 a0_3 ((rd_T120 l0_0 x4_2).f0) ((rd_T120 l0_0 x4_2).f1) ((rd_T120 l0_0 x4_2).f2)))) = some r := H
            have A38 := mS A380
            clear A380
            by_cases c39 : t217 = true
            ·subst c39
             have H1 := H
             rw [if_pos rfl] at H1
             clear H
             have H := H1
             clear H1
             have H' := mS H
             clear H
             try go_wp2
             generalize hW_ : (((w13.setCell ⟨gb210, 0, none⟩ (.int .i64 ((rd_T120 l0_0 x4_2).f0))).setCell ⟨gb210, 1, none⟩ (.slice A209_1 ((rd_T120 l0_0 x4_2).f1).length c209_1)).setCell ⟨gb210, 2, none⟩ (.int .i64 ((rd_T120 l0_0 x4_2).f2))) = w40
             replace BK207 : Aside0 (w40.heap[gb207]? = some (.cells #[.slice (some ad209) l0_0.length c0_0, .slice A0_1 l0_1.length c0_1, .slice A0_2 l0_2.length c0_2, .int .i64 a0_3] 63 (0, 0))) := by rw [← hW_]; exact ⟨mKf NB207_210.out BK207.out⟩
             replace BK210 : Aside0 (w40.heap[gb210]? = some (.cells #[.int .i64 ((rd_T120 l0_0 x4_2).f0), .slice A209_1 ((rd_T120 l0_0 x4_2).f1).length c209_1, .int .i64 ((rd_T120 l0_0 x4_2).f2)] 120 (0, 0))) := by rw [← hW_]; exact ⟨by refine mK ?_; refine blk_put (cs := #[.int .i64 ((rd_T120 l0_0 x4_2).f0), .slice A209_1 ((rd_T120 l0_0 x4_2).f1).length c209_1, .int .i64 0]) ?_ 2 _ rfl; refine mK ?_; refine blk_put (cs := #[.int .i64 ((rd_T120 l0_0 x4_2).f0), .slice none 0 0, .int .i64 0]) ?_ 1 _ rfl; refine mK ?_; refine blk_put (cs := #[.int .i64 0, .slice none 0 0, .int .i64 0]) ?_ 0 _ rfl; refine mK ?_; exact BK210.out⟩
             replace HB : Aside0 (Below w.heap.size w w40) := by rw [← hW_]; exact ⟨(mH2 HB.out GE207.out GE210.out)⟩
             clear hW_
             replace BK207 := mS (blk_drew BK207.out)
             replace BK210 := mS (blk_drew BK210.out)
             replace HB := mS (below_drew1 HB.out)
             refine start_ (n := 48) (S := fun w' => w'.cell? ⟨gb210, 0, none⟩ = some (.int .i64 ((rd_T120 l0_0 x4_2).f0)) ∧ w'.cell? ⟨gb210, 1, none⟩ = some (.slice A209_1 ((rd_T120 l0_0 x4_2).f1).length c209_1) ∧ w'.cell? ⟨gb210, 2, none⟩ = some (.int .i64 ((rd_T120 l0_0 x4_2).f2)) ∧ w'.cell? ⟨gb207, 0, none⟩ = some (.slice (some ad209) l0_0.length c0_0) ∧ w'.cell? ⟨gb207, 1, none⟩ = some (.slice A0_1 l0_1.length c0_1) ∧ w'.cell? ⟨gb207, 2, none⟩ = some (.slice A0_2 l0_2.length c0_2) ∧ w'.cell? ⟨gb207, 3, none⟩ = some (.int .i64 a0_3)) (ds := []) (mb 0 48) (by kernel_rfl) rfl rfl (mb3 BK210.out (mc4 BK207.out)) (fun hHeld => ?_); refine with_tabW spec_DiskOk.tab8 spec_DiskOk.bits8 (fun HT_ HW_ => ?_)
             generalize w40.drew = w41 at BK207 BK210 HB hHeld ⊢
             refine mpu 0 28 HT_.out (mb 1 47) ?_
             refine mpu 2 30 HT_.out (mr [1,1,1,45]) ?_
             refine mpt 1 29 HT_.out HW_.out (mb 3 45) hHeld ?_
             refine mpt 3 31 HT_.out HW_.out (mb 4 44) hHeld ?_
             refine mpu 4 32 HT_.out (mb 5 43) ?_
             refine mone 5 (some 33) HT_.out (mb 6 42) (fun K hK => ?_)
             refine goes_ Try.func93 (by kernel_rfl) rfl #[.int .i64 ((rd_T120 l0_0 x4_2).f0), .int .i64 1, .int .i64 (wrap64 (a0_3 - 1))] (by rfl) rfl rfl mA ?_
             with_reducible refine (spec_l1In.calls ((rd_T120 l0_0 x4_2).f0) 1 (wrap64 (a0_3 - 1)) true _ A16.out).mono ?_
             rintro e w' ⟨rfl, ⟨nd, rfl⟩⟩
             refine ⟨_, rfl, ?_⟩
             refine hK.out _ _ (mb3 BK210.out (mc4 BK207.out)) (fun hHeld => ?_)
             clear hK K
             refine mno 33 ?_
             refine mpu 6 34 HT_.out (mb 7 41) ?_
             refine mpu 7 35 HT_.out (mb 8 40) ?_
             refine mpu 8 36 HT_.out (mb 9 39) ?_
             refine mpu 9 37 HT_.out (mb 10 38) ?_
             refine mpu 10 38 HT_.out (mb 11 37) ?_
             refine mpf 11 39 HT_.out (mb 12 36) ?_
             refine mpf 12 40 HT_.out (mb 13 35) ?_
             refine mpf 13 41 HT_.out (mb 14 34) ?_
             refine mpf 14 42 HT_.out (mb 15 33) ?_
             refine mpf 15 43 HT_.out (mb 16 32) ?_
             refine mpf 16 44 HT_.out (mb 17 31) ?_
             refine mpf 17 45 HT_.out (mb 18 30) ?_
             refine mpf 18 46 HT_.out (mb 19 29) ?_
             refine mpf 19 47 HT_.out (mb 20 28) ?_
             refine mpf 20 48 HT_.out (mb 21 27) ?_
             refine mpu 21 49 HT_.out (mb 22 26) ?_
             refine mpu 22 50 HT_.out (mb 23 25) ?_
             refine mpu 23 51 HT_.out (mb 24 24) ?_
             refine mpu 24 52 HT_.out (mb 25 23) ?_
             refine mpu 26 54 HT_.out (mr [25,1,1,21]) ?_
             refine mpt 25 53 HT_.out HW_.out (mb 27 21) hHeld ?_
             refine mpt 27 55 HT_.out HW_.out (mb 28 20) hHeld ?_
             refine mpu 28 56 HT_.out (mb 29 19) ?_
             refine mone 29 (some 57) HT_.out (mb 30 18) (fun K hK => ?_)
             refine goes_ Try.func93 (by kernel_rfl) rfl #[.int .i64 ((rd_T120 l0_0 x4_2).f2), .int .i64 0, .int .i64 (((rd_T120 l0_0 x4_2).f1).length : Int)] (by rfl) rfl rfl mA ?_
             with_reducible refine (spec_l1In.calls ((rd_T120 l0_0 x4_2).f2) 0 (((rd_T120 l0_0 x4_2).f1).length : Int) true _ A36.out).mono ?_
             rintro e w' ⟨rfl, ⟨nd, rfl⟩⟩
             refine ⟨_, rfl, ?_⟩
             refine hK.out _ _ (mb3 BK210.out (mc4 BK207.out)) (fun hHeld => ?_)
             clear hK K
             refine mno 57 ?_
             refine mpu 30 58 HT_.out (mb 31 17) ?_
             refine mpu 31 59 HT_.out (mb 32 16) ?_
             refine mpu 32 60 HT_.out (mb 33 15) ?_
             refine mpu 33 61 HT_.out (mb 34 14) ?_
             refine mpu 35 63 HT_.out (mr [34,1,1,12]) ?_
             refine mpt 34 62 HT_.out HW_.out (mb 36 12) hHeld ?_
             refine mpt 36 64 HT_.out HW_.out (mb 37 11) hHeld ?_
             refine mone 37 (some 65) HT_.out (mb 38 10) (fun K hK => ?_)
             refine goes_ Try.func94 (by kernel_rfl) rfl #[.slice A0_1 l0_1.length c0_1, .int .i64 ((rd_T120 l0_0 x4_2).f0)] (by rfl) rfl rfl mA ?_
             with_reducible refine (spec_l2Named.calls k2 _ _ l0_1 ((rd_T120 l0_0 x4_2).f0) true _ ?side1 ?side2 A38.out).mono ?_
             (case side1 => exact mC (Kd.C_below HR0_1.out (mH2 HB.out GE207.out GE210.out)))
             (case side2 => exact HC0_1.out)
             rintro e w' ⟨rfl, ⟨nd, rfl⟩⟩
             refine ⟨_, rfl, ?_⟩
             refine hK.out _ _ (mb3 BK210.out (mc4 BK207.out)) (fun hHeld => ?_)
             clear hK K
             refine mno 65 ?_
             refine mpu 38 66 HT_.out (mb 39 9) ?_
             refine mpu 39 67 HT_.out (mb 40 8) ?_
             refine mpf 40 68 HT_.out (mb 41 7) ?_
             refine mpf 41 69 HT_.out (mb 42 6) ?_
             refine mpf 42 70 HT_.out (mb 43 5) ?_
             refine mpf 43 71 HT_.out (mb 44 4) ?_
             refine mpf 44 72 HT_.out (mb 45 3) ?_
             refine mpf 45 73 HT_.out (mb 46 2) ?_
             refine mpu 46 74 HT_.out (mb 47 1) ?_
             refine mpu 47 75 HT_.out (mb 48 0) ?_
             refine done_ (done_of HT_.out (by kernel_rfl)) ?_
             try go_wp2
             go_meet
             case rel => exact ⟨_, (false), mE, H', ⟨by have := HJ1.out; have := HK2.out; first | omega | exact Nat.le_refl _⟩, ⟨mK BK207.out⟩, ⟨mK BK210.out⟩, ⟨(mH2 HB.out GE207.out GE210.out)⟩⟩
            ·replace c39 := Bool.eq_false_iff.mpr c39
             subst c39
             have H1 := H
             rw [if_neg (show ¬ (false = true) by decide)] at H1
             clear H
             have H := H1
             clear H1
             replace H := Option.bind_eq_some_iff.mp H
             obtain ⟨t218, A420, H⟩ := H
             replace H : (spec_DiskOk.j2 k2 x3_2 x4_2 (!t218) l0_0 l0_1 l0_2 a0_3 ((rd_T120 l0_0 x4_2).f0) ((rd_T120 l0_0 x4_2).f1) ((rd_T120 l0_0 x4_2).f2)) = some r := H
             have A42 := mS A420
             clear A420
             have H' := mS H
             clear H
             try go_wp2
             generalize hW_ : (((w13.setCell ⟨gb210, 0, none⟩ (.int .i64 ((rd_T120 l0_0 x4_2).f0))).setCell ⟨gb210, 1, none⟩ (.slice A209_1 ((rd_T120 l0_0 x4_2).f1).length c209_1)).setCell ⟨gb210, 2, none⟩ (.int .i64 ((rd_T120 l0_0 x4_2).f2))) = w43
             replace BK207 : Aside0 (w43.heap[gb207]? = some (.cells #[.slice (some ad209) l0_0.length c0_0, .slice A0_1 l0_1.length c0_1, .slice A0_2 l0_2.length c0_2, .int .i64 a0_3] 63 (0, 0))) := by rw [← hW_]; exact ⟨mKf NB207_210.out BK207.out⟩
             replace BK210 : Aside0 (w43.heap[gb210]? = some (.cells #[.int .i64 ((rd_T120 l0_0 x4_2).f0), .slice A209_1 ((rd_T120 l0_0 x4_2).f1).length c209_1, .int .i64 ((rd_T120 l0_0 x4_2).f2)] 120 (0, 0))) := by rw [← hW_]; exact ⟨by refine mK ?_; refine blk_put (cs := #[.int .i64 ((rd_T120 l0_0 x4_2).f0), .slice A209_1 ((rd_T120 l0_0 x4_2).f1).length c209_1, .int .i64 0]) ?_ 2 _ rfl; refine mK ?_; refine blk_put (cs := #[.int .i64 ((rd_T120 l0_0 x4_2).f0), .slice none 0 0, .int .i64 0]) ?_ 1 _ rfl; refine mK ?_; refine blk_put (cs := #[.int .i64 0, .slice none 0 0, .int .i64 0]) ?_ 0 _ rfl; refine mK ?_; exact BK210.out⟩
             replace HB : Aside0 (Below w.heap.size w w43) := by rw [← hW_]; exact ⟨(mH2 HB.out GE207.out GE210.out)⟩
             clear hW_
             replace BK207 := mS (blk_drew BK207.out)
             replace BK210 := mS (blk_drew BK210.out)
             replace HB := mS (below_drew1 HB.out)
             refine start_ (n := 48) (S := fun w' => w'.cell? ⟨gb210, 0, none⟩ = some (.int .i64 ((rd_T120 l0_0 x4_2).f0)) ∧ w'.cell? ⟨gb210, 1, none⟩ = some (.slice A209_1 ((rd_T120 l0_0 x4_2).f1).length c209_1) ∧ w'.cell? ⟨gb210, 2, none⟩ = some (.int .i64 ((rd_T120 l0_0 x4_2).f2)) ∧ w'.cell? ⟨gb207, 0, none⟩ = some (.slice (some ad209) l0_0.length c0_0) ∧ w'.cell? ⟨gb207, 1, none⟩ = some (.slice A0_1 l0_1.length c0_1) ∧ w'.cell? ⟨gb207, 2, none⟩ = some (.slice A0_2 l0_2.length c0_2) ∧ w'.cell? ⟨gb207, 3, none⟩ = some (.int .i64 a0_3)) (ds := []) (mb 0 48) (by kernel_rfl) rfl rfl (mb3 BK210.out (mc4 BK207.out)) (fun hHeld => ?_); refine with_tabW spec_DiskOk.tab8 spec_DiskOk.bits8 (fun HT_ HW_ => ?_)
             generalize w43.drew = w44 at BK207 BK210 HB hHeld ⊢
             refine mpu 0 28 HT_.out (mb 1 47) ?_
             refine mpu 2 30 HT_.out (mr [1,1,1,45]) ?_
             refine mpt 1 29 HT_.out HW_.out (mb 3 45) hHeld ?_
             refine mpt 3 31 HT_.out HW_.out (mb 4 44) hHeld ?_
             refine mpu 4 32 HT_.out (mb 5 43) ?_
             refine mone 5 (some 33) HT_.out (mb 6 42) (fun K hK => ?_)
             refine goes_ Try.func93 (by kernel_rfl) rfl #[.int .i64 ((rd_T120 l0_0 x4_2).f0), .int .i64 1, .int .i64 (wrap64 (a0_3 - 1))] (by rfl) rfl rfl mA ?_
             with_reducible refine (spec_l1In.calls ((rd_T120 l0_0 x4_2).f0) 1 (wrap64 (a0_3 - 1)) true _ A16.out).mono ?_
             rintro e w' ⟨rfl, ⟨nd, rfl⟩⟩
             refine ⟨_, rfl, ?_⟩
             refine hK.out _ _ (mb3 BK210.out (mc4 BK207.out)) (fun hHeld => ?_)
             clear hK K
             refine mno 33 ?_
             refine mpu 6 34 HT_.out (mb 7 41) ?_
             refine mpu 7 35 HT_.out (mb 8 40) ?_
             refine mpu 8 36 HT_.out (mb 9 39) ?_
             refine mpu 9 37 HT_.out (mb 10 38) ?_
             refine mpu 10 38 HT_.out (mb 11 37) ?_
             refine mpf 11 39 HT_.out (mb 12 36) ?_
             refine mpf 12 40 HT_.out (mb 13 35) ?_
             refine mpf 13 41 HT_.out (mb 14 34) ?_
             refine mpf 14 42 HT_.out (mb 15 33) ?_
             refine mpf 15 43 HT_.out (mb 16 32) ?_
             refine mpf 16 44 HT_.out (mb 17 31) ?_
             refine mpf 17 45 HT_.out (mb 18 30) ?_
             refine mpf 18 46 HT_.out (mb 19 29) ?_
             refine mpf 19 47 HT_.out (mb 20 28) ?_
             refine mpf 20 48 HT_.out (mb 21 27) ?_
             refine mpu 21 49 HT_.out (mb 22 26) ?_
             refine mpu 22 50 HT_.out (mb 23 25) ?_
             refine mpu 23 51 HT_.out (mb 24 24) ?_
             refine mpu 24 52 HT_.out (mb 25 23) ?_
             refine mpu 26 54 HT_.out (mr [25,1,1,21]) ?_
             refine mpt 25 53 HT_.out HW_.out (mb 27 21) hHeld ?_
             refine mpt 27 55 HT_.out HW_.out (mb 28 20) hHeld ?_
             refine mpu 28 56 HT_.out (mb 29 19) ?_
             refine mone 29 (some 57) HT_.out (mb 30 18) (fun K hK => ?_)
             refine goes_ Try.func93 (by kernel_rfl) rfl #[.int .i64 ((rd_T120 l0_0 x4_2).f2), .int .i64 0, .int .i64 (((rd_T120 l0_0 x4_2).f1).length : Int)] (by rfl) rfl rfl mA ?_
             with_reducible refine (spec_l1In.calls ((rd_T120 l0_0 x4_2).f2) 0 (((rd_T120 l0_0 x4_2).f1).length : Int) true _ A36.out).mono ?_
             rintro e w' ⟨rfl, ⟨nd, rfl⟩⟩
             refine ⟨_, rfl, ?_⟩
             refine hK.out _ _ (mb3 BK210.out (mc4 BK207.out)) (fun hHeld => ?_)
             clear hK K
             refine mno 57 ?_
             refine mpu 30 58 HT_.out (mb 31 17) ?_
             refine mpu 31 59 HT_.out (mb 32 16) ?_
             refine mpu 32 60 HT_.out (mb 33 15) ?_
             refine mpu 33 61 HT_.out (mb 34 14) ?_
             refine mpu 35 63 HT_.out (mr [34,1,1,12]) ?_
             refine mpt 34 62 HT_.out HW_.out (mb 36 12) hHeld ?_
             refine mpt 36 64 HT_.out HW_.out (mb 37 11) hHeld ?_
             refine mone 37 (some 65) HT_.out (mb 38 10) (fun K hK => ?_)
             refine goes_ Try.func94 (by kernel_rfl) rfl #[.slice A0_1 l0_1.length c0_1, .int .i64 ((rd_T120 l0_0 x4_2).f0)] (by rfl) rfl rfl mA ?_
             with_reducible refine (spec_l2Named.calls k2 _ _ l0_1 ((rd_T120 l0_0 x4_2).f0) false _ ?side1 ?side2 A38.out).mono ?_
             (case side1 => exact mC (Kd.C_below HR0_1.out (mH2 HB.out GE207.out GE210.out)))
             (case side2 => exact HC0_1.out)
             rintro e w' ⟨rfl, ⟨nd, rfl⟩⟩
             refine ⟨_, rfl, ?_⟩
             refine hK.out _ _ (mb3 BK210.out (mc4 BK207.out)) (fun hHeld => ?_)
             clear hK K
             refine mno 65 ?_
             refine mpu 38 66 HT_.out (mb 39 9) ?_
             refine mpu 39 67 HT_.out (mb 40 8) ?_
             refine mpu 40 68 HT_.out (mb 41 7) ?_
             refine mpu 42 70 HT_.out (mr [41,1,1,5]) ?_
             refine mpt 41 69 HT_.out HW_.out (mb 43 5) hHeld ?_
             refine mpt 43 71 HT_.out HW_.out (mb 44 4) hHeld ?_
             refine mone 44 (some 72) HT_.out (mb 45 3) (fun K hK => ?_)
             refine goes_ Try.func94 (by kernel_rfl) rfl #[.slice A0_2 l0_2.length c0_2, .int .i64 ((rd_T120 l0_0 x4_2).f0)] (by rfl) rfl rfl mA ?_
             with_reducible refine (spec_l2Named.calls k2 _ _ l0_2 ((rd_T120 l0_0 x4_2).f0) t218 _ ?side1 ?side2 A42.out).mono ?_
             (case side1 => exact mC (Kd.C_below HR0_2.out (mH2 HB.out GE207.out GE210.out)))
             (case side2 => exact HC0_2.out)
             rintro e w' ⟨rfl, ⟨nd, rfl⟩⟩
             refine ⟨_, rfl, ?_⟩
             refine hK.out _ _ (mb3 BK210.out (mc4 BK207.out)) (fun hHeld => ?_)
             clear hK K
             refine mno 72 ?_
             refine mpu 45 73 HT_.out (mb 46 2) ?_
             refine mpu 46 74 HT_.out (mb 47 1) ?_
             refine mpu 47 75 HT_.out (mb 48 0) ?_
             refine done_ (done_of HT_.out (by kernel_rfl)) ?_
             try go_wp2
             go_meet
             case rel => exact ⟨_, (!t218), mE, H', ⟨by have := HJ1.out; have := HK2.out; first | omega | exact Nat.le_refl _⟩, ⟨mK BK207.out⟩, ⟨mK BK210.out⟩, ⟨(mH2 HB.out GE207.out GE210.out)⟩⟩
           ·replace c37 := Bool.eq_false_iff.mpr c37
            subst c37
            have H1 := H
            rw [if_neg (show ¬ (false = true) by decide)] at H1
            clear H
            have H := H1
            clear H1
            have H' := mS H
            clear H
            try go_wp2
            generalize hW_ : (((w13.setCell ⟨gb210, 0, none⟩ (.int .i64 ((rd_T120 l0_0 x4_2).f0))).setCell ⟨gb210, 1, none⟩ (.slice A209_1 ((rd_T120 l0_0 x4_2).f1).length c209_1)).setCell ⟨gb210, 2, none⟩ (.int .i64 ((rd_T120 l0_0 x4_2).f2))) = w45
            replace BK207 : Aside0 (w45.heap[gb207]? = some (.cells #[.slice (some ad209) l0_0.length c0_0, .slice A0_1 l0_1.length c0_1, .slice A0_2 l0_2.length c0_2, .int .i64 a0_3] 63 (0, 0))) := by rw [← hW_]; exact ⟨mKf NB207_210.out BK207.out⟩
            replace BK210 : Aside0 (w45.heap[gb210]? = some (.cells #[.int .i64 ((rd_T120 l0_0 x4_2).f0), .slice A209_1 ((rd_T120 l0_0 x4_2).f1).length c209_1, .int .i64 ((rd_T120 l0_0 x4_2).f2)] 120 (0, 0))) := by rw [← hW_]; exact ⟨by refine mK ?_; refine blk_put (cs := #[.int .i64 ((rd_T120 l0_0 x4_2).f0), .slice A209_1 ((rd_T120 l0_0 x4_2).f1).length c209_1, .int .i64 0]) ?_ 2 _ rfl; refine mK ?_; refine blk_put (cs := #[.int .i64 ((rd_T120 l0_0 x4_2).f0), .slice none 0 0, .int .i64 0]) ?_ 1 _ rfl; refine mK ?_; refine blk_put (cs := #[.int .i64 0, .slice none 0 0, .int .i64 0]) ?_ 0 _ rfl; refine mK ?_; exact BK210.out⟩
            replace HB : Aside0 (Below w.heap.size w w45) := by rw [← hW_]; exact ⟨(mH2 HB.out GE207.out GE210.out)⟩
            clear hW_
            replace BK207 := mS (blk_drew BK207.out)
            replace BK210 := mS (blk_drew BK210.out)
            replace HB := mS (below_drew1 HB.out)
            refine start_ (n := 48) (S := fun w' => w'.cell? ⟨gb210, 0, none⟩ = some (.int .i64 ((rd_T120 l0_0 x4_2).f0)) ∧ w'.cell? ⟨gb210, 1, none⟩ = some (.slice A209_1 ((rd_T120 l0_0 x4_2).f1).length c209_1) ∧ w'.cell? ⟨gb210, 2, none⟩ = some (.int .i64 ((rd_T120 l0_0 x4_2).f2)) ∧ w'.cell? ⟨gb207, 0, none⟩ = some (.slice (some ad209) l0_0.length c0_0) ∧ w'.cell? ⟨gb207, 1, none⟩ = some (.slice A0_1 l0_1.length c0_1) ∧ w'.cell? ⟨gb207, 2, none⟩ = some (.slice A0_2 l0_2.length c0_2) ∧ w'.cell? ⟨gb207, 3, none⟩ = some (.int .i64 a0_3)) (ds := []) (mb 0 48) (by kernel_rfl) rfl rfl (mb3 BK210.out (mc4 BK207.out)) (fun hHeld => ?_); refine with_tabW spec_DiskOk.tab8 spec_DiskOk.bits8 (fun HT_ HW_ => ?_)
            generalize w45.drew = w46 at BK207 BK210 HB hHeld ⊢
            refine mpu 0 28 HT_.out (mb 1 47) ?_
            refine mpu 2 30 HT_.out (mr [1,1,1,45]) ?_
            refine mpt 1 29 HT_.out HW_.out (mb 3 45) hHeld ?_
            refine mpt 3 31 HT_.out HW_.out (mb 4 44) hHeld ?_
            refine mpu 4 32 HT_.out (mb 5 43) ?_
            refine mone 5 (some 33) HT_.out (mb 6 42) (fun K hK => ?_)
            refine goes_ Try.func93 (by kernel_rfl) rfl #[.int .i64 ((rd_T120 l0_0 x4_2).f0), .int .i64 1, .int .i64 (wrap64 (a0_3 - 1))] (by rfl) rfl rfl mA ?_
            with_reducible refine (spec_l1In.calls ((rd_T120 l0_0 x4_2).f0) 1 (wrap64 (a0_3 - 1)) true _ A16.out).mono ?_
            rintro e w' ⟨rfl, ⟨nd, rfl⟩⟩
            refine ⟨_, rfl, ?_⟩
            refine hK.out _ _ (mb3 BK210.out (mc4 BK207.out)) (fun hHeld => ?_)
            clear hK K
            refine mno 33 ?_
            refine mpu 6 34 HT_.out (mb 7 41) ?_
            refine mpu 7 35 HT_.out (mb 8 40) ?_
            refine mpu 8 36 HT_.out (mb 9 39) ?_
            refine mpu 9 37 HT_.out (mb 10 38) ?_
            refine mpu 10 38 HT_.out (mb 11 37) ?_
            refine mpf 11 39 HT_.out (mb 12 36) ?_
            refine mpf 12 40 HT_.out (mb 13 35) ?_
            refine mpf 13 41 HT_.out (mb 14 34) ?_
            refine mpf 14 42 HT_.out (mb 15 33) ?_
            refine mpf 15 43 HT_.out (mb 16 32) ?_
            refine mpf 16 44 HT_.out (mb 17 31) ?_
            refine mpf 17 45 HT_.out (mb 18 30) ?_
            refine mpf 18 46 HT_.out (mb 19 29) ?_
            refine mpf 19 47 HT_.out (mb 20 28) ?_
            refine mpf 20 48 HT_.out (mb 21 27) ?_
            refine mpu 21 49 HT_.out (mb 22 26) ?_
            refine mpu 22 50 HT_.out (mb 23 25) ?_
            refine mpu 23 51 HT_.out (mb 24 24) ?_
            refine mpu 24 52 HT_.out (mb 25 23) ?_
            refine mpu 26 54 HT_.out (mr [25,1,1,21]) ?_
            refine mpt 25 53 HT_.out HW_.out (mb 27 21) hHeld ?_
            refine mpt 27 55 HT_.out HW_.out (mb 28 20) hHeld ?_
            refine mpu 28 56 HT_.out (mb 29 19) ?_
            refine mone 29 (some 57) HT_.out (mb 30 18) (fun K hK => ?_)
            refine goes_ Try.func93 (by kernel_rfl) rfl #[.int .i64 ((rd_T120 l0_0 x4_2).f2), .int .i64 0, .int .i64 (((rd_T120 l0_0 x4_2).f1).length : Int)] (by rfl) rfl rfl mA ?_
            with_reducible refine (spec_l1In.calls ((rd_T120 l0_0 x4_2).f2) 0 (((rd_T120 l0_0 x4_2).f1).length : Int) false _ A36.out).mono ?_
            rintro e w' ⟨rfl, ⟨nd, rfl⟩⟩
            refine ⟨_, rfl, ?_⟩
            refine hK.out _ _ (mb3 BK210.out (mc4 BK207.out)) (fun hHeld => ?_)
            clear hK K
            refine mno 57 ?_
            refine mpu 30 58 HT_.out (mb 31 17) ?_
            refine mpu 31 59 HT_.out (mb 32 16) ?_
            refine mpu 32 60 HT_.out (mb 33 15) ?_
            refine mpf 33 61 HT_.out (mb 34 14) ?_
            refine mpf 34 62 HT_.out (mb 35 13) ?_
            refine mpf 35 63 HT_.out (mb 36 12) ?_
            refine mpf 36 64 HT_.out (mb 37 11) ?_
            refine mpf 37 65 HT_.out (mb 38 10) ?_
            refine mpf 38 66 HT_.out (mb 39 9) ?_
            refine mpf 39 67 HT_.out (mb 40 8) ?_
            refine mpf 40 68 HT_.out (mb 41 7) ?_
            refine mpf 41 69 HT_.out (mb 42 6) ?_
            refine mpf 42 70 HT_.out (mb 43 5) ?_
            refine mpf 43 71 HT_.out (mb 44 4) ?_
            refine mpf 44 72 HT_.out (mb 45 3) ?_
            refine mpf 45 73 HT_.out (mb 46 2) ?_
            refine mpf 46 74 HT_.out (mb 47 1) ?_
            refine mpu 47 75 HT_.out (mb 48 0) ?_
            refine done_ (done_of HT_.out (by kernel_rfl)) ?_
            try go_wp2
            go_meet
            case rel => exact ⟨_, (true), mE, H', ⟨by have := HJ1.out; have := HK2.out; first | omega | exact Nat.le_refl _⟩, ⟨mK BK207.out⟩, ⟨mK BK210.out⟩, ⟨(mH2 HB.out GE207.out GE210.out)⟩⟩
         ·replace c17 := Bool.eq_false_iff.mpr c17
          subst c17
          have H1 := H
          rw [if_neg (show ¬ (false = true) by decide)] at H1
          clear H
          have H := H1
          clear H1
          have H' := mS H
          clear H
          try go_wp2
          generalize hW_ : (((w13.setCell ⟨gb210, 0, none⟩ (.int .i64 ((rd_T120 l0_0 x4_2).f0))).setCell ⟨gb210, 1, none⟩ (.slice A209_1 ((rd_T120 l0_0 x4_2).f1).length c209_1)).setCell ⟨gb210, 2, none⟩ (.int .i64 ((rd_T120 l0_0 x4_2).f2))) = w47
          replace BK207 : Aside0 (w47.heap[gb207]? = some (.cells #[.slice (some ad209) l0_0.length c0_0, .slice A0_1 l0_1.length c0_1, .slice A0_2 l0_2.length c0_2, .int .i64 a0_3] 63 (0, 0))) := by rw [← hW_]; exact ⟨mKf NB207_210.out BK207.out⟩
          replace BK210 : Aside0 (w47.heap[gb210]? = some (.cells #[.int .i64 ((rd_T120 l0_0 x4_2).f0), .slice A209_1 ((rd_T120 l0_0 x4_2).f1).length c209_1, .int .i64 ((rd_T120 l0_0 x4_2).f2)] 120 (0, 0))) := by rw [← hW_]; exact ⟨by refine mK ?_; refine blk_put (cs := #[.int .i64 ((rd_T120 l0_0 x4_2).f0), .slice A209_1 ((rd_T120 l0_0 x4_2).f1).length c209_1, .int .i64 0]) ?_ 2 _ rfl; refine mK ?_; refine blk_put (cs := #[.int .i64 ((rd_T120 l0_0 x4_2).f0), .slice none 0 0, .int .i64 0]) ?_ 1 _ rfl; refine mK ?_; refine blk_put (cs := #[.int .i64 0, .slice none 0 0, .int .i64 0]) ?_ 0 _ rfl; refine mK ?_; exact BK210.out⟩
          replace HB : Aside0 (Below w.heap.size w w47) := by rw [← hW_]; exact ⟨(mH2 HB.out GE207.out GE210.out)⟩
          clear hW_
          replace BK207 := mS (blk_drew BK207.out)
          replace BK210 := mS (blk_drew BK210.out)
          replace HB := mS (below_drew1 HB.out)
          refine start_ (n := 48) (S := fun w' => w'.cell? ⟨gb210, 0, none⟩ = some (.int .i64 ((rd_T120 l0_0 x4_2).f0)) ∧ w'.cell? ⟨gb210, 1, none⟩ = some (.slice A209_1 ((rd_T120 l0_0 x4_2).f1).length c209_1) ∧ w'.cell? ⟨gb210, 2, none⟩ = some (.int .i64 ((rd_T120 l0_0 x4_2).f2)) ∧ w'.cell? ⟨gb207, 0, none⟩ = some (.slice (some ad209) l0_0.length c0_0) ∧ w'.cell? ⟨gb207, 1, none⟩ = some (.slice A0_1 l0_1.length c0_1) ∧ w'.cell? ⟨gb207, 2, none⟩ = some (.slice A0_2 l0_2.length c0_2) ∧ w'.cell? ⟨gb207, 3, none⟩ = some (.int .i64 a0_3)) (ds := []) (mb 0 48) (by kernel_rfl) rfl rfl (mb3 BK210.out (mc4 BK207.out)) (fun hHeld => ?_); refine with_tabW spec_DiskOk.tab8 spec_DiskOk.bits8 (fun HT_ HW_ => ?_)
          generalize w47.drew = w48 at BK207 BK210 HB hHeld ⊢
          refine mpu 0 28 HT_.out (mb 1 47) ?_
          refine mpu 2 30 HT_.out (mr [1,1,1,45]) ?_
          refine mpt 1 29 HT_.out HW_.out (mb 3 45) hHeld ?_
          refine mpt 3 31 HT_.out HW_.out (mb 4 44) hHeld ?_
          refine mpu 4 32 HT_.out (mb 5 43) ?_
          refine mone 5 (some 33) HT_.out (mb 6 42) (fun K hK => ?_)
          refine goes_ Try.func93 (by kernel_rfl) rfl #[.int .i64 ((rd_T120 l0_0 x4_2).f0), .int .i64 1, .int .i64 (wrap64 (a0_3 - 1))] (by rfl) rfl rfl mA ?_
          with_reducible refine (spec_l1In.calls ((rd_T120 l0_0 x4_2).f0) 1 (wrap64 (a0_3 - 1)) false _ A16.out).mono ?_
          rintro e w' ⟨rfl, ⟨nd, rfl⟩⟩
          refine ⟨_, rfl, ?_⟩
          refine hK.out _ _ (mb3 BK210.out (mc4 BK207.out)) (fun hHeld => ?_)
          clear hK K
          refine mno 33 ?_
          refine mpu 6 34 HT_.out (mb 7 41) ?_
          refine mpu 7 35 HT_.out (mb 8 40) ?_
          refine mpf 8 36 HT_.out (mb 9 39) ?_
          refine mpf 9 37 HT_.out (mb 10 38) ?_
          refine mpf 10 38 HT_.out (mb 11 37) ?_
          refine mpf 11 39 HT_.out (mb 12 36) ?_
          refine mpf 12 40 HT_.out (mb 13 35) ?_
          refine mpf 13 41 HT_.out (mb 14 34) ?_
          refine mpf 14 42 HT_.out (mb 15 33) ?_
          refine mpf 15 43 HT_.out (mb 16 32) ?_
          refine mpf 16 44 HT_.out (mb 17 31) ?_
          refine mpf 17 45 HT_.out (mb 18 30) ?_
          refine mpf 18 46 HT_.out (mb 19 29) ?_
          refine mpf 19 47 HT_.out (mb 20 28) ?_
          refine mpf 20 48 HT_.out (mb 21 27) ?_
          refine mpf 21 49 HT_.out (mb 22 26) ?_
          refine mpu 22 50 HT_.out (mb 23 25) ?_
          refine mpu 23 51 HT_.out (mb 24 24) ?_
          refine mpf 24 52 HT_.out (mb 25 23) ?_
          refine mpf 25 53 HT_.out (mb 26 22) ?_
          refine mpf 26 54 HT_.out (mb 27 21) ?_
          refine mpf 27 55 HT_.out (mb 28 20) ?_
          refine mpf 28 56 HT_.out (mb 29 19) ?_
          refine mpf 29 57 HT_.out (mb 30 18) ?_
          refine mpf 30 58 HT_.out (mb 31 17) ?_
          refine mpu 31 59 HT_.out (mb 32 16) ?_
          refine mpu 32 60 HT_.out (mb 33 15) ?_
          refine mpf 33 61 HT_.out (mb 34 14) ?_
          refine mpf 34 62 HT_.out (mb 35 13) ?_
          refine mpf 35 63 HT_.out (mb 36 12) ?_
          refine mpf 36 64 HT_.out (mb 37 11) ?_
          refine mpf 37 65 HT_.out (mb 38 10) ?_
          refine mpf 38 66 HT_.out (mb 39 9) ?_
          refine mpf 39 67 HT_.out (mb 40 8) ?_
          refine mpf 40 68 HT_.out (mb 41 7) ?_
          refine mpf 41 69 HT_.out (mb 42 6) ?_
          refine mpf 42 70 HT_.out (mb 43 5) ?_
          refine mpf 43 71 HT_.out (mb 44 4) ?_
          refine mpf 44 72 HT_.out (mb 45 3) ?_
          refine mpf 45 73 HT_.out (mb 46 2) ?_
          refine mpf 46 74 HT_.out (mb 47 1) ?_
          refine mpu 47 75 HT_.out (mb 48 0) ?_
          refine done_ (done_of HT_.out (by kernel_rfl)) ?_
          try go_wp2
          go_meet
          case rel => exact ⟨_, (true), mE, H', ⟨by have := HJ1.out; have := HK2.out; first | omega | exact Nat.le_refl _⟩, ⟨mK BK207.out⟩, ⟨mK BK210.out⟩, ⟨(mH2 HB.out GE207.out GE210.out)⟩⟩
        case rest =>
         clear HC11
         try clear c1
         try clear c2
         try clear p2
         try clear p6
         try clear c9
         try clear c17
         try clear c20
         obtain ⟨kq, x75_10, rfl, HA, HJ10, BK207, BK210, HB⟩ := hcut
         cases kq with
         | zero => exact absurd HA.out (by simp [spec_DiskOk.j2])
         | succ kj10 =>
          have H := HA.out
          clear HA
          simp only [spec_DiskOk.j2] at H
          by_cases c49 : x75_10 = true
          ·subst c49
           have H1 := H
           rw [if_pos rfl] at H1
           clear H
           have H := H1
           clear H1
           obtain rfl := Option.some.inj H
           go_wp2
           go_ret
           exact ⟨mEw, (mH2 HB.out GE207.out GE210.out)⟩
          ·replace c49 := Bool.eq_false_iff.mpr c49
           subst c49
           have H1 := H
           rw [if_neg (show ¬ (false = true) by decide)] at H1
           clear H
           have H := H1
           clear H1
           have H' := mS H
           clear H
           have hnb50 := NB210_207.out
           have hnc50 := NB207_210.out
           obtain ⟨hcz51_0, hcz51_1, hcz51_2, hfz51_0, hfz51_1, hfz51_2⟩ := mZ3 BK210.out
           go_wp2
           go_roundg kj10
           case measure => have := HJ1.out; have := HK2.out; have := HJ10.out; omega
           case rel => exact ⟨(wrap64 (x3_2 + (((rd_T120 l0_0 x4_2).f1).length : Int))), (wrap64 (x4_2 + 1)), mE, mE, H', ⟨by have := HJ1.out; have := HK2.out; have := HJ10.out; omega⟩, ⟨mK BK207.out⟩, ⟨(mH2 HB.out GE207.out GE210.out)⟩⟩
       ·rw [if_neg c10] at H
        exact absurd H (by simp)
      ·rw [if_neg c9] at H
       have c9b0 := decide_eq_false c9
       clear c9
       by_cases c52 : x3_2 ≤ 60000
       ·rw [if_pos c52] at H
        have c52b0 := decide_eq_true c52
        clear c52
        replace H := Option.bind_eq_some_iff.mp H
        obtain ⟨t219, A530, H⟩ := H
        replace H : (if t219 = true then ((spec_l2Entries.f k2 l0_0 l0_1 l0_2 a0_3 l0_2).bind fun t220 => (some t220)) else (some false)) = some r := H
        have A53 := mS A530
        clear A530
        by_cases c54 : t219 = true
        ·subst c54
         have H1 := H
         rw [if_pos rfl] at H1
         clear H
         have H := H1
         clear H1
         replace H := Option.bind_eq_some_iff.mp H
         obtain ⟨t220, A550, H⟩ := H
         replace H : (some t220) = some r := H
         have A55 := mS A550
         clear A550
         obtain rfl := Option.some.inj H
         obtain ⟨hcz56_0, hcz56_1, hcz56_2, hcz56_3, hfz56_0, hfz56_1, hfz56_2, hfz56_3⟩ := mZ4 BK207.out
         go_wp2_with (first | (go_at_call 95; (with_reducible refine (spec_l2Entries.calls k2 _ _ l0_0 _ _ l0_1 _ _ l0_2 a0_3 _ _ l0_1 true _ ?side1 ?side2 ?side3 ?side4 ?side5 ?side6 ?side7 ?side8 A53.out).mono ?_); (case side1 => exact mC (Kd.C_below HR0_0.out HB.out)); (case side2 => exact HC0_0.out); (case side3 => exact mC (Kd.C_below HR0_1.out HB.out)); (case side4 => exact HC0_1.out); (case side5 => exact mC (Kd.C_below HR0_2.out HB.out)); (case side6 => exact HC0_2.out); (case side7 => exact mC (Kd.C_below HR0_1.out HB.out)); (case side8 => exact HC0_1.out); rintro e w57 ⟨rfl, hb⟩; replace BK207 := mB BK207 hb; replace HB := mS (below_step (mH1 HB.out GE207.out) hb); (try clear hb); (try clear hb2); (try clear hk); (try clear hi); obtain ⟨hcz58_0, hcz58_1, hcz58_2, hcz58_3, hfz58_0, hfz58_1, hfz58_2, hfz58_3⟩ := mZ4 BK207.out) | (go_at_call 95; (with_reducible refine (spec_l2Entries.calls k2 _ _ l0_0 _ _ l0_1 _ _ l0_2 a0_3 _ _ l0_2 t220 _ ?side1 ?side2 ?side3 ?side4 ?side5 ?side6 ?side7 ?side8 A55.out).mono ?_); (case side1 => exact mC (Kd.C_below HR0_0.out HB.out)); (case side2 => exact HC0_0.out); (case side3 => exact mC (Kd.C_below HR0_1.out HB.out)); (case side4 => exact HC0_1.out); (case side5 => exact mC (Kd.C_below HR0_2.out HB.out)); (case side6 => exact HC0_2.out); (case side7 => exact mC (Kd.C_below HR0_2.out HB.out)); (case side8 => exact HC0_2.out); rintro e w59 ⟨rfl, hb⟩; replace BK207 := mB BK207 hb; replace HB := mS (below_step (mH1 HB.out GE207.out) hb); (try clear hb); (try clear hb2); (try clear hk); (try clear hi)))
         go_ret
         exact ⟨mEw, (mH1 HB.out GE207.out)⟩
        ·replace c54 := Bool.eq_false_iff.mpr c54
         subst c54
         have H1 := H
         rw [if_neg (show ¬ (false = true) by decide)] at H1
         clear H
         have H := H1
         clear H1
         obtain rfl := Option.some.inj H
         obtain ⟨hcz60_0, hcz60_1, hcz60_2, hcz60_3, hfz60_0, hfz60_1, hfz60_2, hfz60_3⟩ := mZ4 BK207.out
         go_wp2_with (first | (go_at_call 95; (with_reducible refine (spec_l2Entries.calls k2 _ _ l0_0 _ _ l0_1 _ _ l0_2 a0_3 _ _ l0_1 false _ ?side1 ?side2 ?side3 ?side4 ?side5 ?side6 ?side7 ?side8 A53.out).mono ?_); (case side1 => exact mC (Kd.C_below HR0_0.out HB.out)); (case side2 => exact HC0_0.out); (case side3 => exact mC (Kd.C_below HR0_1.out HB.out)); (case side4 => exact HC0_1.out); (case side5 => exact mC (Kd.C_below HR0_2.out HB.out)); (case side6 => exact HC0_2.out); (case side7 => exact mC (Kd.C_below HR0_1.out HB.out)); (case side8 => exact HC0_1.out); rintro e w61 ⟨rfl, hb⟩; replace BK207 := mB BK207 hb; replace HB := mS (below_step (mH1 HB.out GE207.out) hb); (try clear hb); (try clear hb2); (try clear hk); (try clear hi)))
         go_ret
         exact ⟨mEw, (mH1 HB.out GE207.out)⟩
       ·rw [if_neg c52] at H
        have c52b0 := decide_eq_false c52
        clear c52
        obtain rfl := Option.some.inj H
        obtain ⟨hcz62_0, hcz62_1, hcz62_2, hcz62_3, hfz62_0, hfz62_1, hfz62_2, hfz62_3⟩ := mZ4 BK207.out
        go_wp2
        go_ret
        exact ⟨mEw, (mH1 HB.out GE207.out)⟩
end Go.Proofs.Ytgbejjeephipeaa.MFnExactFall
