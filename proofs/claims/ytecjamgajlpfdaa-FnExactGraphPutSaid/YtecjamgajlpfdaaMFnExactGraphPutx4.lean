-- Written by mp.py, this session's own printer (wip/mp.py).
import Derived.Test.YtecjamgajlpfdaaVMShort
import Derived.Test.YtecjamgajlpfdaaMFnExactGraphPutx0
import Derived.Test.YtecjamgajlpfdaaMFnExactGraphPutx2
import Derived.Test.YtecjamgajlpfdaaMFnExactGraphPutx3
namespace Go.Proofs.Ytecjamgajlpfdaa.MFnExactGraphPut
open Go.RowKit Go.Proofs.YtecjamgajlpfdaaW.PrintWords Go.Proofs.YtecjamgajlpfdaaW.PrintLast Go.Proofs.YtecjamgajlpfdaaW.PrintMore Go.Proofs.Ytecjamgajlpfdaa.MWords
attribute [local go_sem] max2_int min2_int max_two min_two max_three min_three max_four min_four   -- for this text's walks alone
set_option linter.unusedVariables false
set_option linter.unusedSimpArgs false

/-! ### spec_GraphOk: function 55 -/
def spec_GraphOk.l0 : Nat → Int → List (S59) → Option (Bool)
 | 0, _, _ => none
 | k + 1, x3, x134000 => if x3 < (x134000.length : Int) then (if 0 ≤ x3 then ((spec_l8Item.f k ((rd_T59 x134000 x3).f0.f0) ((rd_T59 x134000 x3).f0.f1) ((rd_T59 x134000 x3).f1)).bind fun t135 => (if t135 = true then (if x3 > 0 then (if 0 ≤ (wrap64 (x3 - 1)) then (if (wrap64 (x3 - 1)) < (x134000.length : Int) then ((spec_DotLess.f ((rd_T59 x134000 (wrap64 (x3 - 1))).f0.f0) ((rd_T59 x134000 (wrap64 (x3 - 1))).f0.f1) ((rd_T59 x134000 x3).f0.f0) ((rd_T59 x134000 x3).f0.f1)).bind fun t138 => (if t138 = true then (spec_GraphOk.l0 k (wrap64 (x3 + 1)) x134000) else (some false))) else (none)) else (none)) else (spec_GraphOk.l0 k (wrap64 (x3 + 1)) x134000)) else (some false))) else (none)) else (some (decide ((x134000.length : Int) ≤ 100)))
def spec_GraphOk.f (k : Nat) (l0_0 : List (S59)) : Option (Bool) := spec_GraphOk.l0 k 0 l0_0
theorem spec_GraphOk.mono_l : ∀ k, (∀ y0 y1, LeO (spec_GraphOk.l0 k y0 y1) (spec_GraphOk.l0 (k + 1) y0 y1))
 | 0 => fun _ _ r h => by simp [spec_GraphOk.l0] at h
 | k + 1 => by
  have ih0 := spec_GraphOk.mono_l k
  ·intro y0 y1
   unfold spec_GraphOk.l0
   repeat' first
   | (with_reducible exact ih0 _ _)
   | (with_reducible exact spec_l8Item.mono _ _ _ _)
   | (with_reducible exact LeO.refl _)
   | (with_reducible exact LeO.none _)
   | (with_reducible refine LeO.ite ?_ ?_)
   | (with_reducible refine LeO.bind ?_ (fun _ => ?_))
   | exact ih0 _ _
   | exact spec_l8Item.mono _ _ _ _
   | exact LeO.none _
   | refine LeO.ite ?_ ?_
   | refine LeO.bind ?_ (fun _ => ?_)
theorem spec_GraphOk.mono : ∀ a0 k, LeO (spec_GraphOk.f k a0) (spec_GraphOk.f (k + 1) a0) := by
 intro a0 k
 have ih0 := spec_GraphOk.mono_l k
 unfold spec_GraphOk.f
 repeat' first
   | (with_reducible exact ih0 _ _)
   | (with_reducible exact spec_l8Item.mono _ _ _ _)
   | (with_reducible exact LeO.refl _)
   | (with_reducible exact LeO.none _)
   | (with_reducible refine LeO.ite ?_ ?_)
   | (with_reducible refine LeO.bind ?_ (fun _ => ?_))
   | exact ih0 _ _
   | exact spec_l8Item.mono _ _ _ _
   | exact LeO.none _
   | refine LeO.ite ?_ ?_
   | refine LeO.bind ?_ (fun _ => ?_)
def spec_GraphOk.T4 : Bool × List (List Nat × List Nat) := (true, [([], []), ([0], [0]), ([], []), ([1, 2], [1, 2]), ([3], [3]), ([4], [4]), ([5], [5]), ([6, 5], [6]), ([7], [7]), ([8, 7], [7, 8]), ([9, 7, 7], [7, 9]), ([10], [10]), ([11, 10], [10, 11]), ([10], [10]), ([13, 10], [10, 13]), ([12, 14, 10], [10, 12, 14]), ([15, 10], [10, 15]), ([16, 10], [10, 16]), ([10], [10]), ([18, 10], [10, 18]), ([10], [10]), ([19, 20, 10], [10, 19, 20]), ([21, 10], [10, 21]), ([22, 10], [10, 22]), ([17, 23, 10, 10], [10, 17, 23]), ([24, 10], [10, 24]), ([10, 25, 7], [7, 10, 25]), ([7, 26], [7, 26])])
def spec_GraphOk.B4 : List Nat := [0, 1, 0, 7, 15, 31, 63, 127, 255, 511, 1023, 2047, 4095, 2047, 10239, 32767, 65535, 131071, 2047, 264191, 2047, 1837055, 3934207, 8128511, 16777215, 33554431, 67108863, 134217727]
theorem spec_GraphOk.tab4 : rtab .any (opsOf Try.f55 4) = spec_GraphOk.T4 := by kernel_rfl
theorem spec_GraphOk.bits4 : waitsOk spec_GraphOk.T4.2 spec_GraphOk.B4 = true := by kernel_rfl
set_option maxHeartbeats 8000000 in
set_option maxRecDepth 100000 in
theorem spec_GraphOk.calls (k : Nat) (A0_0 : Option Addr) (c0_0 : Nat) (l0_0 : List (S59)) (r : Bool) (w : World) (hr0_0 : Kd.C k59 w A0_0 l0_0.length l0_0) (hc0_0 : l0_0.length ≤ c0_0) (h : spec_GraphOk.f k l0_0 = some r) :
  Calls Try.prog 55 #[.agg #[.slice A0_0 l0_0.length c0_0]] w fun e w' => e = .returned (.bool r) ∧ Below w.heap.size w w' := by
 have hu52 := Try.underlying52
 have hu59 := Try.underlying59
 have hu56 := Try.underlying56
 have HR0_0 := mS hr0_0
 have HC0_0 := mS hc0_0
 clear hr0_0 hc0_0
 have HB := mS (Below.refl w.heap.size w)
 have H : (spec_GraphOk.l0 k 0 l0_0) = some r := h
 clear h
 have H' := mS H
 clear H
 go_enter Try.func55, Try.ntmps55
 go_wp2_with (first | ((with_reducible refine gate_dst (N := 1) rfl ?_); refine mBx 1 #[.slice A0_0 l0_0.length c0_0] 52 ?_; intro gb133 hg w2 hbox hb; have BK133 := mS (hbox); have GW133 := mG hg (mH HB.out); have GE133 := mG hg (mH HB.out); replace HB := mS (below_step (mH HB.out) hb); clear hb hbox hg))
 go_loopg [3] k (fun kq v3 w' => ∃ (x3_1 : Int), v3 = .int .i64 x3_1 ∧ Aside0 (spec_GraphOk.l0 kq x3_1 l0_0 = some r) ∧ Aside0 (kq ≤ k) ∧ Aside0 (w'.heap[gb133]? = some (.cells #[(.slice A0_0 l0_0.length c0_0)] 52 (0, 0))) ∧ Aside0 (Below w.heap.size w w'))
 case atStart => exact ⟨(0), mE, H', ⟨Nat.le_refl _⟩, ⟨mK BK133.out⟩, ⟨(mH1 HB.out GE133.out)⟩⟩
 case round =>
  clear H'
  try clear p2
  obtain ⟨x3_1, rfl, HA, HK1, BK133, HB⟩ := hrel
  cases gk with
  | zero => exact absurd HA.out (by simp [spec_GraphOk.l0])
  | succ k1 =>
   have H := HA.out
   clear HA
   simp only [spec_GraphOk.l0] at H
   by_cases c3 : x3_1 < (l0_0.length : Int)
   ·rw [if_pos c3] at H
    have c3b0 := decide_eq_true c3
    clear c3
    by_cases c4 : 0 ≤ x3_1
    ·rw [if_pos c4] at H
     have c4b0 := decide_eq_true c4
     clear c4
     replace H := Option.bind_eq_some_iff.mp H
     obtain ⟨t135, A50, H⟩ := H
     replace H : (if t135 = true then (if x3_1 > 0 then (if 0 ≤ (wrap64 (x3_1 - 1)) then (if (wrap64 (x3_1 - 1)) < (l0_0.length : Int) then ((spec_DotLess.f ((rd_T59 l0_0 (wrap64 (x3_1 - 1))).f0.f0) ((rd_T59 l0_0 (wrap64 (x3_1 - 1))).f0.f1) ((rd_T59 l0_0 x3_1).f0.f0) ((rd_T59 l0_0 x3_1).f0.f1)).bind fun t138 => (if t138 = true then (spec_GraphOk.l0 k1 (wrap64 (x3_1 + 1)) l0_0) else (some false))) else (none)) else (none)) else (spec_GraphOk.l0 k1 (wrap64 (x3_1 + 1)) l0_0)) else (some false)) = some r := H
     have A5 := mS A50
     clear A50
     by_cases c6 : t135 = true
     ·subst c6
      have H1 := H
      rw [if_pos rfl] at H1
      clear H
      have H := H1
      clear H1
      by_cases c7 : x3_1 > 0
      ·rw [if_pos c7] at H
       have c7b0 : decide (0 < x3_1) = true := decide_eq_true c7
       clear c7
       obtain ⟨ji8, hji8⟩ : ∃ j_ : Int, (wrap64 (x3_1 - 1)) = j_ := ⟨_, rfl⟩
       replace H : (if 0 ≤ (ji8) then (if (ji8) < (l0_0.length : Int) then ((spec_DotLess.f ((rd_T59 l0_0 (ji8)).f0.f0) ((rd_T59 l0_0 (ji8)).f0.f1) ((rd_T59 l0_0 x3_1).f0.f0) ((rd_T59 l0_0 x3_1).f0.f1)).bind fun t138 => (if t138 = true then (spec_GraphOk.l0 k1 (wrap64 (x3_1 + 1)) l0_0) else (some false))) else (none)) else (none)) = some r := by first | (rw [hji8] at H; exact H) | (simp only [hji8] at H ⊢; exact H)
       (try rw [hji8] at A5)
       have hji8w : (IntKind.i64.wrap (x3_1 - 1)) = ji8 := (i64_w _).trans hji8
       by_cases c9 : 0 ≤ (ji8)
       ·rw [if_pos c9] at H
        have c9b0 := decide_eq_true c9
        clear c9
        by_cases c10 : (ji8) < (l0_0.length : Int)
        ·rw [if_pos c10] at H
         have c10b0 := decide_eq_true c10
         clear c10
         replace H := Option.bind_eq_some_iff.mp H
         obtain ⟨t138, A110, H⟩ := H
         replace H : (if t138 = true then (spec_GraphOk.l0 k1 (wrap64 (x3_1 + 1)) l0_0) else (some false)) = some r := H
         have A11 := mS A110
         clear A110
         by_cases c12 : t138 = true
         ·subst c12
          have H1 := H
          rw [if_pos rfl] at H1
          clear H
          have H := H1
          clear H1
          have H' := mS H
          clear H
          have hcz13_0 := mZ BK133.out 0
          have hfz13_0 := blk_frozen BK133.out 0
          try go_wp2
          replace BK133 := mS (blk_drew BK133.out)
          replace HB := mS (below_drew1 HB.out)
          have p134 : 0 ≤ (x3_1 : Int) := mD
          have q134 : x3_1 < (l0_0.length : Int) := mD
          obtain ⟨ad134, A134_2, c134_2, e134, hx134_0, hx134_1, hx134_2, hl134_2, hi134_2⟩ := at_T59 HR0_0.out x3_1 p134 q134
          have hw134_2 := hx134_2
          have hw134_1 := hx134_1
          have hw134_0 := hx134_0
          cases e134
          replace hx134_0 := mX HB.out hx134_0
          replace hx134_1 := mX HB.out hx134_1
          replace hx134_2 := mX HB.out hx134_2
          have HR134_2 := mS hi134_2
          have HC134_2 := mS hl134_2
          clear hi134_2 hl134_2
          replace p134 := eq_true p134
          replace q134 := eq_true q134
          have p136 : 0 ≤ ((ji8) : Int) := mD
          have q136 : (ji8) < (l0_0.length : Int) := mD
          obtain ⟨ad136, A136_2, c136_2, e136, hx136_0, hx136_1, hx136_2, hl136_2, hi136_2⟩ := at_T59 HR0_0.out (ji8) p136 q136
          have hw136_2 := hx136_2
          have hw136_1 := hx136_1
          have hw136_0 := hx136_0
          obtain rfl : ad134 = ad136 := (by injection e136)
          replace hx136_0 := mX HB.out hx136_0
          replace hx136_1 := mX HB.out hx136_1
          replace hx136_2 := mX HB.out hx136_2
          have HR136_2 := mS hi136_2
          have HC136_2 := mS hl136_2
          clear hi136_2 hl136_2
          replace p136 := eq_true p136
          replace q136 := eq_true q136
          have p137 : 0 ≤ (x3_1 : Int) := mD
          have q137 : x3_1 < (l0_0.length : Int) := mD
          obtain ⟨ad137, A137_2, c137_2, e137, hx137_0, hx137_1, hx137_2, hl137_2, hi137_2⟩ := at_T59 HR0_0.out x3_1 p137 q137
          have hw137_2 := hx137_2
          have hw137_1 := hx137_1
          have hw137_0 := hx137_0
          obtain rfl : ad134 = ad137 := (by injection e137)
          replace hx137_0 := mX HB.out hx137_0
          replace hx137_1 := mX HB.out hx137_1
          replace hx137_2 := mX HB.out hx137_2
          have HR137_2 := mS hi137_2
          have HC137_2 := mS hl137_2
          clear hi137_2 hl137_2
          replace p137 := eq_true p137
          replace q137 := eq_true q137
          refine start_ (n := 28) (S := fun w' => w'.cell? ⟨gb133, 0, none⟩ = some (.slice (some ad134) l0_0.length c0_0) ∧ w'.cell? (ad134.add ((x3_1).toNat * 3)) = some (.int .i64 ((rd_T59 l0_0 x3_1).f0.f0)) ∧ w'.cell? ⟨(ad134.add ((x3_1).toNat * 3)).block, (ad134.add ((x3_1).toNat * 3)).off + 1, none⟩ = some (.int .i64 ((rd_T59 l0_0 x3_1).f0.f1)) ∧ w'.cell? ⟨(ad134.add ((x3_1).toNat * 3)).block, (ad134.add ((x3_1).toNat * 3)).off + 2, none⟩ = some (.slice A134_2 ((rd_T59 l0_0 x3_1).f1).length c134_2) ∧ w'.cell? (ad134.add (((ji8)).toNat * 3)) = some (.int .i64 ((rd_T59 l0_0 (ji8)).f0.f0)) ∧ w'.cell? ⟨(ad134.add (((ji8)).toNat * 3)).block, (ad134.add (((ji8)).toNat * 3)).off + 1, none⟩ = some (.int .i64 ((rd_T59 l0_0 (ji8)).f0.f1)) ∧ w'.cell? ⟨(ad134.add (((ji8)).toNat * 3)).block, (ad134.add (((ji8)).toNat * 3)).off + 2, none⟩ = some (.slice A136_2 ((rd_T59 l0_0 (ji8)).f1).length c136_2) ∧ w'.cell? (ad134.add ((x3_1).toNat * 3)) = some (.int .i64 ((rd_T59 l0_0 x3_1).f0.f0)) ∧ w'.cell? ⟨(ad134.add ((x3_1).toNat * 3)).block, (ad134.add ((x3_1).toNat * 3)).off + 1, none⟩ = some (.int .i64 ((rd_T59 l0_0 x3_1).f0.f1)) ∧ w'.cell? ⟨(ad134.add ((x3_1).toNat * 3)).block, (ad134.add ((x3_1).toNat * 3)).off + 2, none⟩ = some (.slice A137_2 ((rd_T59 l0_0 x3_1).f1).length c137_2)) (ds := []) (mb 0 28) (by kernel_rfl) rfl rfl ⟨mZ BK133.out 0, (mX HB.out hw134_0 :), (mX HB.out hw134_1 :), (mX HB.out hw134_2 :), (mX HB.out hw136_0 :), (mX HB.out hw136_1 :), (mX HB.out hw136_2 :), (mX HB.out hw137_0 :), (mX HB.out hw137_1 :), (mX HB.out hw137_2 :)⟩ (fun hHeld => ?_); refine with_tabW spec_GraphOk.tab4 spec_GraphOk.bits4 (fun HT_ HW_ => ?_)
          generalize wr.drew = w14 at BK133 HB HR134_2 HR136_2 HR137_2 hx134_0 hx134_1 hx134_2 hx136_0 hx136_1 hx136_2 hx137_0 hx137_1 hx137_2 hHeld ⊢
          refine mpu 0 11 HT_.out (mb 1 27) ?_
          refine mpu 2 13 HT_.out (mr [1,1,1,25]) ?_
          refine mpt 1 12 HT_.out HW_.out (mb 3 25) hHeld ?_
          refine mpu 3 14 HT_.out (mb 4 24) ?_
          refine mpt 4 15 HT_.out HW_.out (mb 5 23) hHeld ?_
          refine mone 5 (some 16) HT_.out (mb 6 22) (fun K hK => ?_)
          refine goes_ Try.func91 (by kernel_rfl) rfl #[.agg #[.int .i64 ((rd_T59 l0_0 x3_1).f0.f0), .int .i64 ((rd_T59 l0_0 x3_1).f0.f1), .slice A134_2 ((rd_T59 l0_0 x3_1).f1).length c134_2]] (by rfl) rfl rfl mA ?_
          with_reducible refine (spec_l8Item.calls k1 ((rd_T59 l0_0 x3_1).f0.f0) ((rd_T59 l0_0 x3_1).f0.f1) _ _ ((rd_T59 l0_0 x3_1).f1) true _ ?side1 ?side2 A5.out).mono ?_
          (case side1 => exact mC (Kd.C_below HR134_2.out HB.out))
          (case side2 => exact HC134_2.out)
          rintro e w15 ⟨rfl, hb⟩
          refine ⟨_, rfl, ?_⟩
          replace BK133 := mB BK133 hb
          replace HB := mS (below_step (mH1 HB.out GE133.out) hb)
          (try clear hb)
          (try clear hb2)
          (try clear hk)
          (try clear hi)
          refine hK.out _ _ ⟨mZ BK133.out 0, (mX HB.out hw134_0 :), (mX HB.out hw134_1 :), (mX HB.out hw134_2 :), (mX HB.out hw136_0 :), (mX HB.out hw136_1 :), (mX HB.out hw136_2 :), (mX HB.out hw137_0 :), (mX HB.out hw137_1 :), (mX HB.out hw137_2 :)⟩ (fun hHeld => ?_)
          clear hK K
          refine mno 16 ?_
          refine mpu 6 17 HT_.out (mb 7 21) ?_
          refine mpu 7 18 HT_.out (mb 8 20) ?_
          refine mpu 8 19 HT_.out (mb 9 19) ?_
          refine mpu 9 20 HT_.out (mb 10 18) ?_
          refine mpu 10 21 HT_.out (mb 11 17) ?_
          refine mpu 11 22 HT_.out (mb 12 16) ?_
          refine mpu 13 24 HT_.out (mr [12,1,1,14]) ?_
          refine mpu 14 25 HT_.out (mr [12,1,2,13]) ?_
          refine mpu 18 29 HT_.out (mr [12,1,2,3,1,9]) ?_
          refine mpu 20 31 HT_.out (mr [12,1,2,3,1,1,1,7]) ?_
          refine mpt 12 23 HT_.out HW_.out (mr [15,3,1,1,1,7]) hHeld ?_
          refine mpu 15 26 HT_.out (mr [16,2,1,1,1,7]) ?_
          refine mpu 16 27 HT_.out (mr [17,1,1,1,1,7]) ?_
          refine mpt 17 28 HT_.out HW_.out (mr [19,1,1,7]) hHeld ?_
          refine mpt 19 30 HT_.out HW_.out (mb 21 7) hHeld ?_
          refine mpu 21 32 HT_.out (mb 22 6) ?_
          refine mpu 22 33 HT_.out (mb 23 5) ?_
          refine mpt 23 34 HT_.out HW_.out (mb 24 4) hHeld ?_
          refine mone 24 (some 35) HT_.out (mb 25 3) (fun K hK => ?_)
          refine goes_ Try.func52 (by kernel_rfl) rfl #[.agg #[.int .i64 ((rd_T59 l0_0 (ji8)).f0.f0), .int .i64 ((rd_T59 l0_0 (ji8)).f0.f1)], .agg #[.int .i64 ((rd_T59 l0_0 x3_1).f0.f0), .int .i64 ((rd_T59 l0_0 x3_1).f0.f1)]] (by rfl) rfl rfl (by (try simp only [List.map_toArray, List.map_cons, List.map_nil]); first | done | (simp only [hji8]; rfl) | rfl | (simp only [List.length_drop, List.length_take]; rfl)) ?_
          with_reducible refine (spec_DotLess.calls ((rd_T59 l0_0 (ji8)).f0.f0) ((rd_T59 l0_0 (ji8)).f0.f1) ((rd_T59 l0_0 x3_1).f0.f0) ((rd_T59 l0_0 x3_1).f0.f1) true _ A11.out).mono ?_
          rintro e w16 ⟨rfl, hb⟩
          refine ⟨_, rfl, ?_⟩
          replace BK133 := mB BK133 hb
          replace HB := mS (below_step (mH1 HB.out GE133.out) hb)
          (try clear hb)
          (try clear hb2)
          (try clear hk)
          (try clear hi)
          refine hK.out _ _ ⟨mZ BK133.out 0, (mX HB.out hw134_0 :), (mX HB.out hw134_1 :), (mX HB.out hw134_2 :), (mX HB.out hw136_0 :), (mX HB.out hw136_1 :), (mX HB.out hw136_2 :), (mX HB.out hw137_0 :), (mX HB.out hw137_1 :), (mX HB.out hw137_2 :)⟩ (fun hHeld => ?_)
          clear hK K
          refine mno 35 ?_
          refine mpu 25 36 HT_.out (mb 26 2) ?_
          refine mpu 26 37 HT_.out (mb 27 1) ?_
          refine mpu 27 38 HT_.out (mb 28 0) ?_
          refine done_ (done_of HT_.out (by kernel_rfl)) ?_
          try go_wp2
          go_roundg k1
          case measure => have := HK1.out; omega
          case rel => exact ⟨(wrap64 (x3_1 + 1)), mE, H', ⟨by have := HK1.out; omega⟩, ⟨mK BK133.out⟩, ⟨(mH1 HB.out GE133.out)⟩⟩
         ·replace c12 := Bool.eq_false_iff.mpr c12
          subst c12
          have H1 := H
          rw [if_neg (show ¬ (false = true) by decide)] at H1
          clear H
          have H := H1
          clear H1
          obtain rfl := Option.some.inj H
          have hcz17_0 := mZ BK133.out 0
          have hfz17_0 := blk_frozen BK133.out 0
          try go_wp2
          replace BK133 := mS (blk_drew BK133.out)
          replace HB := mS (below_drew1 HB.out)
          have p134 : 0 ≤ (x3_1 : Int) := mD
          have q134 : x3_1 < (l0_0.length : Int) := mD
          obtain ⟨ad134, A134_2, c134_2, e134, hx134_0, hx134_1, hx134_2, hl134_2, hi134_2⟩ := at_T59 HR0_0.out x3_1 p134 q134
          have hw134_2 := hx134_2
          have hw134_1 := hx134_1
          have hw134_0 := hx134_0
          cases e134
          replace hx134_0 := mX HB.out hx134_0
          replace hx134_1 := mX HB.out hx134_1
          replace hx134_2 := mX HB.out hx134_2
          have HR134_2 := mS hi134_2
          have HC134_2 := mS hl134_2
          clear hi134_2 hl134_2
          replace p134 := eq_true p134
          replace q134 := eq_true q134
          have p136 : 0 ≤ ((ji8) : Int) := mD
          have q136 : (ji8) < (l0_0.length : Int) := mD
          obtain ⟨ad136, A136_2, c136_2, e136, hx136_0, hx136_1, hx136_2, hl136_2, hi136_2⟩ := at_T59 HR0_0.out (ji8) p136 q136
          have hw136_2 := hx136_2
          have hw136_1 := hx136_1
          have hw136_0 := hx136_0
          obtain rfl : ad134 = ad136 := (by injection e136)
          replace hx136_0 := mX HB.out hx136_0
          replace hx136_1 := mX HB.out hx136_1
          replace hx136_2 := mX HB.out hx136_2
          have HR136_2 := mS hi136_2
          have HC136_2 := mS hl136_2
          clear hi136_2 hl136_2
          replace p136 := eq_true p136
          replace q136 := eq_true q136
          have p137 : 0 ≤ (x3_1 : Int) := mD
          have q137 : x3_1 < (l0_0.length : Int) := mD
          obtain ⟨ad137, A137_2, c137_2, e137, hx137_0, hx137_1, hx137_2, hl137_2, hi137_2⟩ := at_T59 HR0_0.out x3_1 p137 q137
          have hw137_2 := hx137_2
          have hw137_1 := hx137_1
          have hw137_0 := hx137_0
          obtain rfl : ad134 = ad137 := (by injection e137)
          replace hx137_0 := mX HB.out hx137_0
          replace hx137_1 := mX HB.out hx137_1
          replace hx137_2 := mX HB.out hx137_2
          have HR137_2 := mS hi137_2
          have HC137_2 := mS hl137_2
          clear hi137_2 hl137_2
          replace p137 := eq_true p137
          replace q137 := eq_true q137
          refine start_ (n := 28) (S := fun w' => w'.cell? ⟨gb133, 0, none⟩ = some (.slice (some ad134) l0_0.length c0_0) ∧ w'.cell? (ad134.add ((x3_1).toNat * 3)) = some (.int .i64 ((rd_T59 l0_0 x3_1).f0.f0)) ∧ w'.cell? ⟨(ad134.add ((x3_1).toNat * 3)).block, (ad134.add ((x3_1).toNat * 3)).off + 1, none⟩ = some (.int .i64 ((rd_T59 l0_0 x3_1).f0.f1)) ∧ w'.cell? ⟨(ad134.add ((x3_1).toNat * 3)).block, (ad134.add ((x3_1).toNat * 3)).off + 2, none⟩ = some (.slice A134_2 ((rd_T59 l0_0 x3_1).f1).length c134_2) ∧ w'.cell? (ad134.add (((ji8)).toNat * 3)) = some (.int .i64 ((rd_T59 l0_0 (ji8)).f0.f0)) ∧ w'.cell? ⟨(ad134.add (((ji8)).toNat * 3)).block, (ad134.add (((ji8)).toNat * 3)).off + 1, none⟩ = some (.int .i64 ((rd_T59 l0_0 (ji8)).f0.f1)) ∧ w'.cell? ⟨(ad134.add (((ji8)).toNat * 3)).block, (ad134.add (((ji8)).toNat * 3)).off + 2, none⟩ = some (.slice A136_2 ((rd_T59 l0_0 (ji8)).f1).length c136_2) ∧ w'.cell? (ad134.add ((x3_1).toNat * 3)) = some (.int .i64 ((rd_T59 l0_0 x3_1).f0.f0)) ∧ w'.cell? ⟨(ad134.add ((x3_1).toNat * 3)).block, (ad134.add ((x3_1).toNat * 3)).off + 1, none⟩ = some (.int .i64 ((rd_T59 l0_0 x3_1).f0.f1)) ∧ w'.cell? ⟨(ad134.add ((x3_1).toNat * 3)).block, (ad134.add ((x3_1).toNat * 3)).off + 2, none⟩ = some (.slice A137_2 ((rd_T59 l0_0 x3_1).f1).length c137_2)) (ds := []) (mb 0 28) (by kernel_rfl) rfl rfl ⟨mZ BK133.out 0, (mX HB.out hw134_0 :), (mX HB.out hw134_1 :), (mX HB.out hw134_2 :), (mX HB.out hw136_0 :), (mX HB.out hw136_1 :), (mX HB.out hw136_2 :), (mX HB.out hw137_0 :), (mX HB.out hw137_1 :), (mX HB.out hw137_2 :)⟩ (fun hHeld => ?_); refine with_tabW spec_GraphOk.tab4 spec_GraphOk.bits4 (fun HT_ HW_ => ?_)
          generalize wr.drew = w18 at BK133 HB HR134_2 HR136_2 HR137_2 hx134_0 hx134_1 hx134_2 hx136_0 hx136_1 hx136_2 hx137_0 hx137_1 hx137_2 hHeld ⊢
          refine mpu 0 11 HT_.out (mb 1 27) ?_
          refine mpu 2 13 HT_.out (mr [1,1,1,25]) ?_
          refine mpt 1 12 HT_.out HW_.out (mb 3 25) hHeld ?_
          refine mpu 3 14 HT_.out (mb 4 24) ?_
          refine mpt 4 15 HT_.out HW_.out (mb 5 23) hHeld ?_
          refine mone 5 (some 16) HT_.out (mb 6 22) (fun K hK => ?_)
          refine goes_ Try.func91 (by kernel_rfl) rfl #[.agg #[.int .i64 ((rd_T59 l0_0 x3_1).f0.f0), .int .i64 ((rd_T59 l0_0 x3_1).f0.f1), .slice A134_2 ((rd_T59 l0_0 x3_1).f1).length c134_2]] (by rfl) rfl rfl mA ?_
          with_reducible refine (spec_l8Item.calls k1 ((rd_T59 l0_0 x3_1).f0.f0) ((rd_T59 l0_0 x3_1).f0.f1) _ _ ((rd_T59 l0_0 x3_1).f1) true _ ?side1 ?side2 A5.out).mono ?_
          (case side1 => exact mC (Kd.C_below HR134_2.out HB.out))
          (case side2 => exact HC134_2.out)
          rintro e w19 ⟨rfl, hb⟩
          refine ⟨_, rfl, ?_⟩
          replace BK133 := mB BK133 hb
          replace HB := mS (below_step (mH1 HB.out GE133.out) hb)
          (try clear hb)
          (try clear hb2)
          (try clear hk)
          (try clear hi)
          refine hK.out _ _ ⟨mZ BK133.out 0, (mX HB.out hw134_0 :), (mX HB.out hw134_1 :), (mX HB.out hw134_2 :), (mX HB.out hw136_0 :), (mX HB.out hw136_1 :), (mX HB.out hw136_2 :), (mX HB.out hw137_0 :), (mX HB.out hw137_1 :), (mX HB.out hw137_2 :)⟩ (fun hHeld => ?_)
          clear hK K
          refine mno 16 ?_
          refine mpu 6 17 HT_.out (mb 7 21) ?_
          refine mpu 7 18 HT_.out (mb 8 20) ?_
          refine mpu 8 19 HT_.out (mb 9 19) ?_
          refine mpu 9 20 HT_.out (mb 10 18) ?_
          refine mpu 10 21 HT_.out (mb 11 17) ?_
          refine mpu 11 22 HT_.out (mb 12 16) ?_
          refine mpu 13 24 HT_.out (mr [12,1,1,14]) ?_
          refine mpu 14 25 HT_.out (mr [12,1,2,13]) ?_
          refine mpu 18 29 HT_.out (mr [12,1,2,3,1,9]) ?_
          refine mpu 20 31 HT_.out (mr [12,1,2,3,1,1,1,7]) ?_
          refine mpt 12 23 HT_.out HW_.out (mr [15,3,1,1,1,7]) hHeld ?_
          refine mpu 15 26 HT_.out (mr [16,2,1,1,1,7]) ?_
          refine mpu 16 27 HT_.out (mr [17,1,1,1,1,7]) ?_
          refine mpt 17 28 HT_.out HW_.out (mr [19,1,1,7]) hHeld ?_
          refine mpt 19 30 HT_.out HW_.out (mb 21 7) hHeld ?_
          refine mpu 21 32 HT_.out (mb 22 6) ?_
          refine mpu 22 33 HT_.out (mb 23 5) ?_
          refine mpt 23 34 HT_.out HW_.out (mb 24 4) hHeld ?_
          refine mone 24 (some 35) HT_.out (mb 25 3) (fun K hK => ?_)
          refine goes_ Try.func52 (by kernel_rfl) rfl #[.agg #[.int .i64 ((rd_T59 l0_0 (ji8)).f0.f0), .int .i64 ((rd_T59 l0_0 (ji8)).f0.f1)], .agg #[.int .i64 ((rd_T59 l0_0 x3_1).f0.f0), .int .i64 ((rd_T59 l0_0 x3_1).f0.f1)]] (by rfl) rfl rfl (by (try simp only [List.map_toArray, List.map_cons, List.map_nil]); first | done | (simp only [hji8]; rfl) | rfl | (simp only [List.length_drop, List.length_take]; rfl)) ?_
          with_reducible refine (spec_DotLess.calls ((rd_T59 l0_0 (ji8)).f0.f0) ((rd_T59 l0_0 (ji8)).f0.f1) ((rd_T59 l0_0 x3_1).f0.f0) ((rd_T59 l0_0 x3_1).f0.f1) false _ A11.out).mono ?_
          rintro e w20 ⟨rfl, hb⟩
          refine ⟨_, rfl, ?_⟩
          replace BK133 := mB BK133 hb
          replace HB := mS (below_step (mH1 HB.out GE133.out) hb)
          (try clear hb)
          (try clear hb2)
          (try clear hk)
          (try clear hi)
          refine hK.out _ _ ⟨mZ BK133.out 0, (mX HB.out hw134_0 :), (mX HB.out hw134_1 :), (mX HB.out hw134_2 :), (mX HB.out hw136_0 :), (mX HB.out hw136_1 :), (mX HB.out hw136_2 :), (mX HB.out hw137_0 :), (mX HB.out hw137_1 :), (mX HB.out hw137_2 :)⟩ (fun hHeld => ?_)
          clear hK K
          refine mno 35 ?_
          refine mpu 25 36 HT_.out (mb 26 2) ?_
          refine mpu 26 37 HT_.out (mb 27 1) ?_
          refine mpu 27 38 HT_.out (mb 28 0) ?_
          refine done_ (done_of HT_.out (by kernel_rfl)) ?_
          try go_wp2
          go_ret
          exact ⟨by first | rfl | (simp [errW_none, errW_some] <;> rfl) | (simp only [← hji8]; first | rfl | (simp [errW_none, errW_some] <;> rfl)) | (simp [*, errW_none, errW_some] <;> rfl), (mH1 HB.out GE133.out)⟩
        ·rw [if_neg c10] at H
         exact absurd H (by simp)
       ·rw [if_neg c9] at H
        exact absurd H (by simp)
      ·rw [if_neg c7] at H
       have c7b0 : decide (0 < x3_1) = false := decide_eq_false c7
       clear c7
       have H' := mS H
       clear H
       have hcz21_0 := mZ BK133.out 0
       have hfz21_0 := blk_frozen BK133.out 0
       try go_wp2
       replace BK133 := mS (blk_drew BK133.out)
       replace HB := mS (below_drew1 HB.out)
       have p134 : 0 ≤ (x3_1 : Int) := mD
       have q134 : x3_1 < (l0_0.length : Int) := mD
       obtain ⟨ad134, A134_2, c134_2, e134, hx134_0, hx134_1, hx134_2, hl134_2, hi134_2⟩ := at_T59 HR0_0.out x3_1 p134 q134
       have hw134_2 := hx134_2
       have hw134_1 := hx134_1
       have hw134_0 := hx134_0
       cases e134
       replace hx134_0 := mX HB.out hx134_0
       replace hx134_1 := mX HB.out hx134_1
       replace hx134_2 := mX HB.out hx134_2
       have HR134_2 := mS hi134_2
       have HC134_2 := mS hl134_2
       clear hi134_2 hl134_2
       replace p134 := eq_true p134
       replace q134 := eq_true q134
       refine start_ (n := 28) (S := fun w' => w'.cell? ⟨gb133, 0, none⟩ = some (.slice (some ad134) l0_0.length c0_0) ∧ w'.cell? (ad134.add ((x3_1).toNat * 3)) = some (.int .i64 ((rd_T59 l0_0 x3_1).f0.f0)) ∧ w'.cell? ⟨(ad134.add ((x3_1).toNat * 3)).block, (ad134.add ((x3_1).toNat * 3)).off + 1, none⟩ = some (.int .i64 ((rd_T59 l0_0 x3_1).f0.f1)) ∧ w'.cell? ⟨(ad134.add ((x3_1).toNat * 3)).block, (ad134.add ((x3_1).toNat * 3)).off + 2, none⟩ = some (.slice A134_2 ((rd_T59 l0_0 x3_1).f1).length c134_2)) (ds := []) (mb 0 28) (by kernel_rfl) rfl rfl ⟨mZ BK133.out 0, (mX HB.out hw134_0 :), (mX HB.out hw134_1 :), (mX HB.out hw134_2 :)⟩ (fun hHeld => ?_); refine with_tabW spec_GraphOk.tab4 spec_GraphOk.bits4 (fun HT_ HW_ => ?_)
       generalize wr.drew = w22 at BK133 HB HR134_2 hx134_0 hx134_1 hx134_2 hHeld ⊢
       refine mpu 0 11 HT_.out (mb 1 27) ?_
       refine mpu 2 13 HT_.out (mr [1,1,1,25]) ?_
       refine mpt 1 12 HT_.out HW_.out (mb 3 25) hHeld ?_
       refine mpu 3 14 HT_.out (mb 4 24) ?_
       refine mpt 4 15 HT_.out HW_.out (mb 5 23) hHeld ?_
       refine mone 5 (some 16) HT_.out (mb 6 22) (fun K hK => ?_)
       refine goes_ Try.func91 (by kernel_rfl) rfl #[.agg #[.int .i64 ((rd_T59 l0_0 x3_1).f0.f0), .int .i64 ((rd_T59 l0_0 x3_1).f0.f1), .slice A134_2 ((rd_T59 l0_0 x3_1).f1).length c134_2]] (by rfl) rfl rfl mA ?_
       with_reducible refine (spec_l8Item.calls k1 ((rd_T59 l0_0 x3_1).f0.f0) ((rd_T59 l0_0 x3_1).f0.f1) _ _ ((rd_T59 l0_0 x3_1).f1) true _ ?side1 ?side2 A5.out).mono ?_
       (case side1 => exact mC (Kd.C_below HR134_2.out HB.out))
       (case side2 => exact HC134_2.out)
       rintro e w23 ⟨rfl, hb⟩
       refine ⟨_, rfl, ?_⟩
       replace BK133 := mB BK133 hb
       replace HB := mS (below_step (mH1 HB.out GE133.out) hb)
       (try clear hb)
       (try clear hb2)
       (try clear hk)
       (try clear hi)
       refine hK.out _ _ ⟨mZ BK133.out 0, (mX HB.out hw134_0 :), (mX HB.out hw134_1 :), (mX HB.out hw134_2 :)⟩ (fun hHeld => ?_)
       clear hK K
       refine mno 16 ?_
       refine mpu 6 17 HT_.out (mb 7 21) ?_
       refine mpu 7 18 HT_.out (mb 8 20) ?_
       refine mpu 8 19 HT_.out (mb 9 19) ?_
       refine mpu 9 20 HT_.out (mb 10 18) ?_
       refine mpu 10 21 HT_.out (mb 11 17) ?_
       refine mpf 11 22 HT_.out (mb 12 16) ?_
       refine mpf 12 23 HT_.out (mb 13 15) ?_
       refine mpf 13 24 HT_.out (mb 14 14) ?_
       refine mpf 14 25 HT_.out (mb 15 13) ?_
       refine mpf 15 26 HT_.out (mb 16 12) ?_
       refine mpf 16 27 HT_.out (mb 17 11) ?_
       refine mpf 17 28 HT_.out (mb 18 10) ?_
       refine mpf 18 29 HT_.out (mb 19 9) ?_
       refine mpf 19 30 HT_.out (mb 20 8) ?_
       refine mpf 20 31 HT_.out (mb 21 7) ?_
       refine mpf 21 32 HT_.out (mb 22 6) ?_
       refine mpf 22 33 HT_.out (mb 23 5) ?_
       refine mpf 23 34 HT_.out (mb 24 4) ?_
       refine mpf 24 35 HT_.out (mb 25 3) ?_
       refine mpf 25 36 HT_.out (mb 26 2) ?_
       refine mpu 26 37 HT_.out (mb 27 1) ?_
       refine mpu 27 38 HT_.out (mb 28 0) ?_
       refine done_ (done_of HT_.out (by kernel_rfl)) ?_
       try go_wp2
       go_roundg k1
       case measure => have := HK1.out; omega
       case rel => exact ⟨(wrap64 (x3_1 + 1)), mE, H', ⟨by have := HK1.out; omega⟩, ⟨mK BK133.out⟩, ⟨(mH1 HB.out GE133.out)⟩⟩
     ·replace c6 := Bool.eq_false_iff.mpr c6
      subst c6
      have H1 := H
      rw [if_neg (show ¬ (false = true) by decide)] at H1
      clear H
      have H := H1
      clear H1
      obtain rfl := Option.some.inj H
      have hcz24_0 := mZ BK133.out 0
      have hfz24_0 := blk_frozen BK133.out 0
      try go_wp2
      replace BK133 := mS (blk_drew BK133.out)
      replace HB := mS (below_drew1 HB.out)
      have p134 : 0 ≤ (x3_1 : Int) := mD
      have q134 : x3_1 < (l0_0.length : Int) := mD
      obtain ⟨ad134, A134_2, c134_2, e134, hx134_0, hx134_1, hx134_2, hl134_2, hi134_2⟩ := at_T59 HR0_0.out x3_1 p134 q134
      have hw134_2 := hx134_2
      have hw134_1 := hx134_1
      have hw134_0 := hx134_0
      cases e134
      replace hx134_0 := mX HB.out hx134_0
      replace hx134_1 := mX HB.out hx134_1
      replace hx134_2 := mX HB.out hx134_2
      have HR134_2 := mS hi134_2
      have HC134_2 := mS hl134_2
      clear hi134_2 hl134_2
      replace p134 := eq_true p134
      replace q134 := eq_true q134
      refine start_ (n := 28) (S := fun w' => w'.cell? ⟨gb133, 0, none⟩ = some (.slice (some ad134) l0_0.length c0_0) ∧ w'.cell? (ad134.add ((x3_1).toNat * 3)) = some (.int .i64 ((rd_T59 l0_0 x3_1).f0.f0)) ∧ w'.cell? ⟨(ad134.add ((x3_1).toNat * 3)).block, (ad134.add ((x3_1).toNat * 3)).off + 1, none⟩ = some (.int .i64 ((rd_T59 l0_0 x3_1).f0.f1)) ∧ w'.cell? ⟨(ad134.add ((x3_1).toNat * 3)).block, (ad134.add ((x3_1).toNat * 3)).off + 2, none⟩ = some (.slice A134_2 ((rd_T59 l0_0 x3_1).f1).length c134_2)) (ds := []) (mb 0 28) (by kernel_rfl) rfl rfl ⟨mZ BK133.out 0, (mX HB.out hw134_0 :), (mX HB.out hw134_1 :), (mX HB.out hw134_2 :)⟩ (fun hHeld => ?_); refine with_tabW spec_GraphOk.tab4 spec_GraphOk.bits4 (fun HT_ HW_ => ?_)
      generalize wr.drew = w25 at BK133 HB HR134_2 hx134_0 hx134_1 hx134_2 hHeld ⊢
      refine mpu 0 11 HT_.out (mb 1 27) ?_
      refine mpu 2 13 HT_.out (mr [1,1,1,25]) ?_
      refine mpt 1 12 HT_.out HW_.out (mb 3 25) hHeld ?_
      refine mpu 3 14 HT_.out (mb 4 24) ?_
      refine mpt 4 15 HT_.out HW_.out (mb 5 23) hHeld ?_
      refine mone 5 (some 16) HT_.out (mb 6 22) (fun K hK => ?_)
      refine goes_ Try.func91 (by kernel_rfl) rfl #[.agg #[.int .i64 ((rd_T59 l0_0 x3_1).f0.f0), .int .i64 ((rd_T59 l0_0 x3_1).f0.f1), .slice A134_2 ((rd_T59 l0_0 x3_1).f1).length c134_2]] (by rfl) rfl rfl mA ?_
      with_reducible refine (spec_l8Item.calls k1 ((rd_T59 l0_0 x3_1).f0.f0) ((rd_T59 l0_0 x3_1).f0.f1) _ _ ((rd_T59 l0_0 x3_1).f1) false _ ?side1 ?side2 A5.out).mono ?_
      (case side1 => exact mC (Kd.C_below HR134_2.out HB.out))
      (case side2 => exact HC134_2.out)
      rintro e w26 ⟨rfl, hb⟩
      refine ⟨_, rfl, ?_⟩
      replace BK133 := mB BK133 hb
      replace HB := mS (below_step (mH1 HB.out GE133.out) hb)
      (try clear hb)
      (try clear hb2)
      (try clear hk)
      (try clear hi)
      refine hK.out _ _ ⟨mZ BK133.out 0, (mX HB.out hw134_0 :), (mX HB.out hw134_1 :), (mX HB.out hw134_2 :)⟩ (fun hHeld => ?_)
      clear hK K
      refine mno 16 ?_
      refine mpu 6 17 HT_.out (mb 7 21) ?_
      refine mpu 7 18 HT_.out (mb 8 20) ?_
      refine mpf 8 19 HT_.out (mb 9 19) ?_
      refine mpf 9 20 HT_.out (mb 10 18) ?_
      refine mpf 10 21 HT_.out (mb 11 17) ?_
      refine mpf 11 22 HT_.out (mb 12 16) ?_
      refine mpf 12 23 HT_.out (mb 13 15) ?_
      refine mpf 13 24 HT_.out (mb 14 14) ?_
      refine mpf 14 25 HT_.out (mb 15 13) ?_
      refine mpf 15 26 HT_.out (mb 16 12) ?_
      refine mpf 16 27 HT_.out (mb 17 11) ?_
      refine mpf 17 28 HT_.out (mb 18 10) ?_
      refine mpf 18 29 HT_.out (mb 19 9) ?_
      refine mpf 19 30 HT_.out (mb 20 8) ?_
      refine mpf 20 31 HT_.out (mb 21 7) ?_
      refine mpf 21 32 HT_.out (mb 22 6) ?_
      refine mpf 22 33 HT_.out (mb 23 5) ?_
      refine mpf 23 34 HT_.out (mb 24 4) ?_
      refine mpf 24 35 HT_.out (mb 25 3) ?_
      refine mpf 25 36 HT_.out (mb 26 2) ?_
      refine mpf 26 37 HT_.out (mb 27 1) ?_
      refine mpu 27 38 HT_.out (mb 28 0) ?_
      refine done_ (done_of HT_.out (by kernel_rfl)) ?_
      try go_wp2
      go_ret
      exact ⟨mEw, (mH1 HB.out GE133.out)⟩
    ·rw [if_neg c4] at H
     exact absurd H (by simp)
   ·rw [if_neg c3] at H
    have c3b0 := decide_eq_false c3
    clear c3
    obtain rfl := Option.some.inj H
    have hcz27_0 := mZ BK133.out 0
    have hfz27_0 := blk_frozen BK133.out 0
    go_wp2
    go_ret
    exact ⟨mEw, (mH1 HB.out GE133.out)⟩

end Go.Proofs.Ytecjamgajlpfdaa.MFnExactGraphPut
