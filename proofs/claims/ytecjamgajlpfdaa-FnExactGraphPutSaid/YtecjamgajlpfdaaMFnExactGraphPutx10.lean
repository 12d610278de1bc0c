-- Written by mp.py, this session's own printer (wip/mp.py).
import Derived.Test.YtecjamgajlpfdaaVMShort
import Derived.Test.YtecjamgajlpfdaaMFnExactGraphPutx0
import Derived.Test.YtecjamgajlpfdaaMFnExactGraphPutx7
import Derived.Test.YtecjamgajlpfdaaMFnExactGraphPutx8
import Derived.Test.YtecjamgajlpfdaaMFnExactGraphPutx9
namespace Go.Proofs.Ytecjamgajlpfdaa.MFnExactGraphPut
open Go.RowKit Go.Proofs.YtecjamgajlpfdaaW.PrintWords Go.Proofs.YtecjamgajlpfdaaW.PrintLast Go.Proofs.YtecjamgajlpfdaaW.PrintMore Go.Proofs.Ytecjamgajlpfdaa.MWords
attribute [local go_sem] max2_int min2_int max_two min_two max_three min_three max_four min_four   -- for this text's walks alone
set_option linter.unusedVariables false
set_option linter.unusedSimpArgs false

/-! ### impl_GraphOk: function 64 -/
def impl_GraphOk.l0 : Nat → List (S59) → Int → Int → List (S59) → Option (Bool)
 | 0, _, _, _, _ => none
 | k + 1, x6, x7, x8, x261000 => if x8 < x7 then (if 0 ≤ x8 then (if x8 < (x6.length : Int) then ((impl_DotOk.f ((rd_T59 x6 x8).f0.f0) ((rd_T59 x6 x8).f0.f1)).bind fun t263 => (if t263 = true then ((impl_depsOk.f k ((rd_T59 x6 x8).f0.f0) ((rd_T59 x6 x8).f0.f1) ((rd_T59 x6 x8).f1)).bind fun t264 => (if t264 = true then (if x8 > 0 then (if 0 ≤ (wrap64 (x8 - 1)) then (if (wrap64 (x8 - 1)) < (x261000.length : Int) then ((impl_DotLess.f ((rd_T59 x261000 (wrap64 (x8 - 1))).f0.f0) ((rd_T59 x261000 (wrap64 (x8 - 1))).f0.f1) ((rd_T59 x6 x8).f0.f0) ((rd_T59 x6 x8).f0.f1)).bind fun t266 => (if t266 = true then (impl_GraphOk.l0 k x6 x7 (wrap64 (x8 + 1)) x261000) else (some false))) else (none)) else (none)) else (impl_GraphOk.l0 k x6 x7 (wrap64 (x8 + 1)) x261000)) else (some false))) else (some false))) else (none)) else (none)) else (some (decide ((x261000.length : Int) ≤ 100)))
def impl_GraphOk.f (k : Nat) (l0_0 : List (S59)) : Option (Bool) := impl_GraphOk.l0 k l0_0 (l0_0.length : Int) 0 l0_0
theorem impl_GraphOk.mono_l : ∀ k, (∀ y0 y1 y2 y3, LeO (impl_GraphOk.l0 k y0 y1 y2 y3) (impl_GraphOk.l0 (k + 1) y0 y1 y2 y3))
 | 0 => fun _ _ _ _ r h => by simp [impl_GraphOk.l0] at h
 | k + 1 => by
  have ih0 := impl_GraphOk.mono_l k
  ·intro y0 y1 y2 y3
   unfold impl_GraphOk.l0
   repeat' first
   | (with_reducible exact ih0 _ _ _ _)
   | (with_reducible exact impl_depsOk.mono _ _ _ _)
   | (with_reducible exact LeO.refl _)
   | (with_reducible exact LeO.none _)
   | (with_reducible refine LeO.ite ?_ ?_)
   | (with_reducible refine LeO.bind ?_ (fun _ => ?_))
   | exact ih0 _ _ _ _
   | exact impl_depsOk.mono _ _ _ _
   | exact LeO.none _
   | refine LeO.ite ?_ ?_
   | refine LeO.bind ?_ (fun _ => ?_)
theorem impl_GraphOk.mono : ∀ a0 k, LeO (impl_GraphOk.f k a0) (impl_GraphOk.f (k + 1) a0) := by
 intro a0 k
 have ih0 := impl_GraphOk.mono_l k
 unfold impl_GraphOk.f
 repeat' first
   | (with_reducible exact ih0 _ _ _ _)
   | (with_reducible exact impl_depsOk.mono _ _ _ _)
   | (with_reducible exact LeO.refl _)
   | (with_reducible exact LeO.none _)
   | (with_reducible refine LeO.ite ?_ ?_)
   | (with_reducible refine LeO.bind ?_ (fun _ => ?_))
   | exact ih0 _ _ _ _
   | exact impl_depsOk.mono _ _ _ _
   | exact LeO.none _
   | refine LeO.ite ?_ ?_
   | refine LeO.bind ?_ (fun _ => ?_)
def impl_GraphOk.T4 : Bool × List (List Nat × List Nat) := (true, [([], []), ([0], [0]), ([1], [1]), ([2], [2]), ([3, 2], [3]), ([4], [4]), ([5, 4], [4, 5]), ([4], [4]), ([7, 4], [4, 7]), ([6, 8, 4, 4], [4, 6, 8]), ([9, 4], [4, 9]), ([4, 10], [4, 10]), ([11, 9], [11]), ([12], [12]), ([13, 12], [12, 13]), ([14, 12, 12], [12, 14]), ([15], [15]), ([16, 15], [15, 16]), ([15], [15]), ([18, 15], [15, 18]), ([17, 19, 15], [15, 17, 19]), ([20, 15], [15, 20]), ([21, 15], [15, 21]), ([15], [15]), ([23, 15], [15, 23]), ([22, 24, 15, 15], [15, 22, 24]), ([25, 15], [15, 25]), ([15, 26, 12], [12, 15, 26]), ([12, 27], [12, 27])])
def impl_GraphOk.B4 : List Nat := [0, 1, 3, 7, 15, 31, 63, 31, 159, 511, 1023, 2047, 4095, 8191, 16383, 32767, 65535, 131071, 65535, 327679, 1048575, 2097151, 4194303, 65535, 8454143, 33554431, 67108863, 134217727, 268435455]
theorem impl_GraphOk.tab4 : rtab .any (opsOf Try.f64 4) = impl_GraphOk.T4 := by kernel_rfl
theorem impl_GraphOk.bits4 : waitsOk impl_GraphOk.T4.2 impl_GraphOk.B4 = true := by kernel_rfl
set_option maxHeartbeats 8000000 in
set_option maxRecDepth 100000 in
theorem impl_GraphOk.calls (k : Nat) (A0_0 : Option Addr) (c0_0 : Nat) (l0_0 : List (S59)) (r : Bool) (w : World) (hr0_0 : Kd.C k59 w A0_0 l0_0.length l0_0) (hc0_0 : l0_0.length ≤ c0_0) (h : impl_GraphOk.f k l0_0 = some r) :
  Calls Try.prog 64 #[.agg #[.slice A0_0 l0_0.length c0_0]] w fun e w' => e = .returned (.bool r) ∧ Below w.heap.size w w' := by
 have hu52 := Try.underlying52
 have hu59 := Try.underlying59
 have hu56 := Try.underlying56
 have HR0_0 := mS hr0_0
 have HC0_0 := mS hc0_0
 clear hr0_0 hc0_0
 have HB := mS (Below.refl w.heap.size w)
 have H : (impl_GraphOk.l0 k l0_0 (l0_0.length : Int) 0 l0_0) = some r := h
 clear h
 have H' := mS H
 clear H
 go_enter Try.func64, Try.ntmps64
 go_wp2_with (first | ((with_reducible refine gate_dst (N := 1) rfl ?_); refine mBx 1 #[.slice A0_0 l0_0.length c0_0] 52 ?_; intro gb260 hg w2 hbox hb; have BK260 := mS (hbox); have GW260 := mG hg (mH HB.out); have GE260 := mG hg (mH HB.out); replace HB := mS (below_step (mH HB.out) hb); clear hb hbox hg; have hcz3_0 := mZ BK260.out 0; have hfz3_0 := blk_frozen BK260.out 0))
 go_loopg [8] k (fun kq v8 w' => ∃ (x8_1 : Int), v8 = .int .i64 x8_1 ∧ Aside0 (impl_GraphOk.l0 kq l0_0 (l0_0.length : Int) x8_1 l0_0 = some r) ∧ Aside0 (kq ≤ k) ∧ Aside0 (w'.heap[gb260]? = some (.cells #[(.slice A0_0 l0_0.length c0_0)] 52 (0, 0))) ∧ Aside0 (Below w.heap.size w w'))
 case atStart => exact ⟨(0), mE, H', ⟨Nat.le_refl _⟩, ⟨mK BK260.out⟩, ⟨(mH1 HB.out GE260.out)⟩⟩
 case round =>
  clear H'
  try clear p2
  try clear hcz3_0
  try clear hfz3_0
  obtain ⟨x8_1, rfl, HA, HK1, BK260, HB⟩ := hrel
  cases gk with
  | zero => exact absurd HA.out (by simp [impl_GraphOk.l0])
  | succ k1 =>
   have H := HA.out
   clear HA
   simp only [impl_GraphOk.l0] at H
   by_cases c4 : x8_1 < (l0_0.length : Int)
   ·rw [if_pos c4] at H
    have c4b0 := decide_eq_true c4
    clear c4
    by_cases c5 : 0 ≤ x8_1
    ·rw [if_pos c5] at H
     have c5b0 := decide_eq_true c5
     clear c5
     by_cases c6 : x8_1 < (l0_0.length : Int)
     ·rw [if_pos c6] at H
      have c6b0 := decide_eq_true c6
      clear c6
      replace H := Option.bind_eq_some_iff.mp H
      obtain ⟨t263, A70, H⟩ := H
      replace H : (if t263 = true then ((impl_depsOk.f k1 ((rd_T59 l0_0 x8_1).f0.f0) ((rd_T59 l0_0 x8_1).f0.f1) ((rd_T59 l0_0 x8_1).f1)).bind fun t264 => (if t264 = true then (if x8_1 > 0 then (if 0 ≤ (wrap64 (x8_1 - 1)) then (if (wrap64 (x8_1 - 1)) < (l0_0.length : Int) then ((impl_DotLess.f ((rd_T59 l0_0 (wrap64 (x8_1 - 1))).f0.f0) ((rd_T59 l0_0 (wrap64 (x8_1 - 1))).f0.f1) ((rd_T59 l0_0 x8_1).f0.f0) ((rd_T59 l0_0 x8_1).f0.f1)).bind fun t266 => (if t266 = true then (impl_GraphOk.l0 k1 l0_0 (l0_0.length : Int) (wrap64 (x8_1 + 1)) l0_0) else (some false))) else (none)) else (none)) else (impl_GraphOk.l0 k1 l0_0 (l0_0.length : Int) (wrap64 (x8_1 + 1)) l0_0)) else (some false))) else (some false)) = some r := H
      have A7 := mS A70
      clear A70
      by_cases c8 : t263 = true
      ·subst c8
       have H1 := H
       rw [if_pos rfl] at H1
       clear H
       have H := H1
       clear H1
       replace H := Option.bind_eq_some_iff.mp H
       obtain ⟨t264, A90, H⟩ := H
       replace H : (if t264 = true then (if x8_1 > 0 then (if 0 ≤ (wrap64 (x8_1 - 1)) then (if (wrap64 (x8_1 - 1)) < (l0_0.length : Int) then ((impl_DotLess.f ((rd_T59 l0_0 (wrap64 (x8_1 - 1))).f0.f0) ((rd_T59 l0_0 (wrap64 (x8_1 - 1))).f0.f1) ((rd_T59 l0_0 x8_1).f0.f0) ((rd_T59 l0_0 x8_1).f0.f1)).bind fun t266 => (if t266 = true then (impl_GraphOk.l0 k1 l0_0 (l0_0.length : Int) (wrap64 (x8_1 + 1)) l0_0) else (some false))) else (none)) else (none)) else (impl_GraphOk.l0 k1 l0_0 (l0_0.length : Int) (wrap64 (x8_1 + 1)) l0_0)) else (some false)) = some r := H
       have A9 := mS A90
       clear A90
       by_cases c10 : t264 = true
       ·subst c10
        have H1 := H
        rw [if_pos rfl] at H1
        clear H
        have H := H1
        clear H1
        by_cases c11 : x8_1 > 0
        ·rw [if_pos c11] at H
         have c11b0 : decide (0 < x8_1) = true := decide_eq_true c11
         clear c11
         obtain ⟨ji12, hji12⟩ : ∃ j_ : Int, (wrap64 (x8_1 - 1)) = j_ := ⟨_, rfl⟩
         replace H : (if 0 ≤ (ji12) then (if (ji12) < (l0_0.length : Int) then ((impl_DotLess.f ((rd_T59 l0_0 (ji12)).f0.f0) ((rd_T59 l0_0 (ji12)).f0.f1) ((rd_T59 l0_0 x8_1).f0.f0) ((rd_T59 l0_0 x8_1).f0.f1)).bind fun t266 => (if t266 = true then (impl_GraphOk.l0 k1 l0_0 (l0_0.length : Int) (wrap64 (x8_1 + 1)) l0_0) else (some false))) else (none)) else (none)) = some r := by first | (rw [hji12] at H; exact H) | (simp only [hji12] at H ⊢; exact H)
         (try rw [hji12] at A7)
         (try rw [hji12] at A9)
         have hji12w : (IntKind.i64.wrap (x8_1 - 1)) = ji12 := (i64_w _).trans hji12
         by_cases c13 : 0 ≤ (ji12)
         ·rw [if_pos c13] at H
          have c13b0 := decide_eq_true c13
          clear c13
          by_cases c14 : (ji12) < (l0_0.length : Int)
          ·rw [if_pos c14] at H
           have c14b0 := decide_eq_true c14
           clear c14
           replace H := Option.bind_eq_some_iff.mp H
           obtain ⟨t266, A150, H⟩ := H
           replace H : (if t266 = true then (impl_GraphOk.l0 k1 l0_0 (l0_0.length : Int) (wrap64 (x8_1 + 1)) l0_0) else (some false)) = some r := H
           have A15 := mS A150
           clear A150
           by_cases c16 : t266 = true
           ·subst c16
            have H1 := H
            rw [if_pos rfl] at H1
            clear H
            have H := H1
            clear H1
            have H' := mS H
            clear H
            have p261 : 0 ≤ (x8_1 : Int) := mD
            have q261 : x8_1 < (l0_0.length : Int) := mD
            obtain ⟨ad261, A261_2, c261_2, e261, hx261_0, hx261_1, hx261_2, hl261_2, hi261_2⟩ := at_T59 HR0_0.out x8_1 p261 q261
            cases e261
            replace hx261_0 := mX HB.out hx261_0
            replace hx261_1 := mX HB.out hx261_1
            replace hx261_2 := mX HB.out hx261_2
            have HR261_2 := mS hi261_2
            have HC261_2 := mS hl261_2
            clear hi261_2 hl261_2
            replace p261 := eq_true p261
            replace q261 := eq_true q261
            try go_wp2_with (first | ((with_reducible refine gate_dst (N := 4) rfl ?_); refine mBx 4 #[.int .i64 0, .int .i64 0, .slice none 0 0] 59 ?_; intro gb262 hg w17 hbox hb; have BK262 := mS (hbox); have GW262 := mG hg (mH1 HB.out GE260.out); have GE262 := mG hg (mH1 HB.out GE260.out); replace HB := mS (below_step (mH1 HB.out GE260.out) hb); have NB260_262 := mNl hg BK260.out; have NB262_260 := mNg hg BK260.out; replace BK260 := mB BK260 hb; clear hb hbox hg; have hnb18 := NB262_260.out; have hnc18 := NB260_262.out; obtain ⟨hcz19_0, hcz19_1, hcz19_2, hfz19_0, hfz19_1, hfz19_2⟩ := mZ3 BK262.out))
            generalize hW_ : (((w17.setCell ⟨gb262, 0, none⟩ (.int .i64 ((rd_T59 l0_0 x8_1).f0.f0))).setCell ⟨gb262, 1, none⟩ (.int .i64 ((rd_T59 l0_0 x8_1).f0.f1))).setCell ⟨gb262, 2, none⟩ (.slice A261_2 ((rd_T59 l0_0 x8_1).f1).length c261_2)) = w20
            replace BK260 : Aside0 (w20.heap[gb260]? = some (.cells #[.slice (some ad261) l0_0.length c0_0] 52 (0, 0))) := by rw [← hW_]; exact ⟨mKf NB260_262.out BK260.out⟩
            replace BK262 : Aside0 (w20.heap[gb262]? = some (.cells #[.int .i64 ((rd_T59 l0_0 x8_1).f0.f0), .int .i64 ((rd_T59 l0_0 x8_1).f0.f1), .slice A261_2 ((rd_T59 l0_0 x8_1).f1).length c261_2] 59 (0, 0))) := by rw [← hW_]; exact ⟨by refine mK ?_; refine blk_put (cs := #[.int .i64 ((rd_T59 l0_0 x8_1).f0.f0), .int .i64 ((rd_T59 l0_0 x8_1).f0.f1), .slice none 0 0]) ?_ 2 _ rfl; refine mK ?_; refine blk_put (cs := #[.int .i64 ((rd_T59 l0_0 x8_1).f0.f0), .int .i64 0, .slice none 0 0]) ?_ 1 _ rfl; refine mK ?_; refine blk_put (cs := #[.int .i64 0, .int .i64 0, .slice none 0 0]) ?_ 0 _ rfl; refine mK ?_; exact BK262.out⟩
            replace HB : Aside0 (Below w.heap.size w w20) := by rw [← hW_]; exact ⟨(mH2 HB.out GE260.out GE262.out)⟩
            clear hW_
            replace BK260 := mS (blk_drew BK260.out)
            replace BK262 := mS (blk_drew BK262.out)
            replace HB := mS (below_drew1 HB.out)
            have p265 : 0 ≤ ((ji12) : Int) := mD
            have q265 : (ji12) < (l0_0.length : Int) := mD
            obtain ⟨ad265, A265_2, c265_2, e265, hx265_0, hx265_1, hx265_2, hl265_2, hi265_2⟩ := at_T59 HR0_0.out (ji12) p265 q265
            have hw265_2 := hx265_2
            have hw265_1 := hx265_1
            have hw265_0 := hx265_0
            obtain rfl : ad261 = ad265 := (by injection e265)
            replace hx265_0 := mX HB.out hx265_0
            replace hx265_1 := mX HB.out hx265_1
            replace hx265_2 := mX HB.out hx265_2
            have HR265_2 := mS hi265_2
            have HC265_2 := mS hl265_2
            clear hi265_2 hl265_2
            replace p265 := eq_true p265
            replace q265 := eq_true q265
            refine start_ (n := 29) (S := fun w' => w'.cell? ⟨gb262, 0, none⟩ = some (.int .i64 ((rd_T59 l0_0 x8_1).f0.f0)) ∧ w'.cell? ⟨gb262, 1, none⟩ = some (.int .i64 ((rd_T59 l0_0 x8_1).f0.f1)) ∧ w'.cell? ⟨gb262, 2, none⟩ = some (.slice A261_2 ((rd_T59 l0_0 x8_1).f1).length c261_2) ∧ w'.cell? ⟨gb260, 0, none⟩ = some (.slice (some ad261) l0_0.length c0_0) ∧ w'.cell? (ad261.add (((ji12)).toNat * 3)) = some (.int .i64 ((rd_T59 l0_0 (ji12)).f0.f0)) ∧ w'.cell? ⟨(ad261.add (((ji12)).toNat * 3)).block, (ad261.add (((ji12)).toNat * 3)).off + 1, none⟩ = some (.int .i64 ((rd_T59 l0_0 (ji12)).f0.f1)) ∧ w'.cell? ⟨(ad261.add (((ji12)).toNat * 3)).block, (ad261.add (((ji12)).toNat * 3)).off + 2, none⟩ = some (.slice A265_2 ((rd_T59 l0_0 (ji12)).f1).length c265_2)) (ds := []) (mb 0 29) (by kernel_rfl) rfl rfl (mb3 BK262.out ⟨mZ BK260.out 0, ⟨(mX HB.out hw265_0 :), ⟨(mX HB.out hw265_1 :), (mX HB.out hw265_2 :)⟩⟩⟩) (fun hHeld => ?_); refine with_tabW impl_GraphOk.tab4 impl_GraphOk.bits4 (fun HT_ HW_ => ?_)
            generalize w20.drew = w21 at BK260 BK262 HB HR265_2 hx265_0 hx265_1 hx265_2 hHeld ⊢
            refine mpu 0 13 HT_.out (mb 1 28) ?_
            refine mpt 1 14 HT_.out HW_.out (mb 2 27) hHeld ?_
            refine mone 2 (some 15) HT_.out (mb 3 26) (fun K hK => ?_)
            refine goes_ Try.func92 (by kernel_rfl) rfl #[.agg #[.int .i64 ((rd_T59 l0_0 x8_1).f0.f0), .int .i64 ((rd_T59 l0_0 x8_1).f0.f1)]] (by rfl) rfl rfl mA ?_
            with_reducible refine (impl_DotOk.calls ((rd_T59 l0_0 x8_1).f0.f0) ((rd_T59 l0_0 x8_1).f0.f1) true _ A7.out).mono ?_
            rintro e w22 ⟨rfl, hb⟩
            refine ⟨_, rfl, ?_⟩
            replace BK260 := mB BK260 hb
            replace BK262 := mB BK262 hb
            replace HB := mS (below_step (mH2 HB.out GE260.out GE262.out) hb)
            (try clear hb)
            (try clear hb2)
            (try clear hk)
            (try clear hi)
            refine hK.out _ _ (mb3 BK262.out ⟨mZ BK260.out 0, ⟨(mX HB.out hw265_0 :), ⟨(mX HB.out hw265_1 :), (mX HB.out hw265_2 :)⟩⟩⟩) (fun hHeld => ?_)
            clear hK K
            refine mno 15 ?_
            refine mpu 3 16 HT_.out (mb 4 25) ?_
            refine mpu 4 17 HT_.out (mb 5 24) ?_
            refine mpu 5 18 HT_.out (mb 6 23) ?_
            refine mpu 7 20 HT_.out (mr [6,1,1,21]) ?_
            refine mpt 6 19 HT_.out HW_.out (mb 8 21) hHeld ?_
            refine mpt 8 21 HT_.out HW_.out (mb 9 20) hHeld ?_
            refine mone 9 (some 22) HT_.out (mb 10 19) (fun K hK => ?_)
            refine goes_ Try.func93 (by kernel_rfl) rfl #[.agg #[.int .i64 ((rd_T59 l0_0 x8_1).f0.f0), .int .i64 ((rd_T59 l0_0 x8_1).f0.f1)], .slice A261_2 ((rd_T59 l0_0 x8_1).f1).length c261_2] (by rfl) rfl rfl mA ?_
            with_reducible refine (impl_depsOk.calls k1 ((rd_T59 l0_0 x8_1).f0.f0) ((rd_T59 l0_0 x8_1).f0.f1) _ _ ((rd_T59 l0_0 x8_1).f1) true _ ?side1 ?side2 A9.out).mono ?_
            (case side1 => exact mC (Kd.C_below HR261_2.out HB.out))
            (case side2 => exact HC261_2.out)
            rintro e w23 ⟨rfl, hb⟩
            refine ⟨_, rfl, ?_⟩
            replace BK260 := mB BK260 hb
            replace BK262 := mB BK262 hb
            replace HB := mS (below_step (mH2 HB.out GE260.out GE262.out) hb)
            (try clear hb)
            (try clear hb2)
            (try clear hk)
            (try clear hi)
            refine hK.out _ _ (mb3 BK262.out ⟨mZ BK260.out 0, ⟨(mX HB.out hw265_0 :), ⟨(mX HB.out hw265_1 :), (mX HB.out hw265_2 :)⟩⟩⟩) (fun hHeld => ?_)
            clear hK K
            refine mno 22 ?_
            refine mpu 10 23 HT_.out (mb 11 18) ?_
            refine mpu 11 24 HT_.out (mb 12 17) ?_
            refine mpu 12 25 HT_.out (mb 13 16) ?_
            refine mpu 13 26 HT_.out (mb 14 15) ?_
            refine mpu 14 27 HT_.out (mb 15 14) ?_
            refine mpu 15 28 HT_.out (mb 16 13) ?_
            refine mpu 16 29 HT_.out (mb 17 12) ?_
            refine mpu 18 31 HT_.out (mr [17,1,1,10]) ?_
            refine mpu 19 32 HT_.out (mr [17,1,2,9]) ?_
            refine mpu 23 36 HT_.out (mr [17,1,2,3,1,5]) ?_
            refine mpt 17 30 HT_.out HW_.out (mr [20,3,1,5]) hHeld ?_
            refine mpu 20 33 HT_.out (mr [21,2,1,5]) ?_
            refine mpu 21 34 HT_.out (mr [22,1,1,5]) ?_
            refine mpt 22 35 HT_.out HW_.out (mb 24 5) hHeld ?_
            refine mpt 24 37 HT_.out HW_.out (mb 25 4) hHeld ?_
            refine mone 25 (some 38) HT_.out (mb 26 3) (fun K hK => ?_)
            refine goes_ Try.func61 (by kernel_rfl) rfl #[.agg #[.int .i64 ((rd_T59 l0_0 (ji12)).f0.f0), .int .i64 ((rd_T59 l0_0 (ji12)).f0.f1)], .agg #[.int .i64 ((rd_T59 l0_0 x8_1).f0.f0), .int .i64 ((rd_T59 l0_0 x8_1).f0.f1)]] (by rfl) rfl rfl (by (try simp only [List.map_toArray, List.map_cons, List.map_nil]); first | done | (simp only [hji12]; rfl) | rfl | (simp only [List.length_drop, List.length_take]; rfl)) ?_
            with_reducible refine (impl_DotLess.calls ((rd_T59 l0_0 (ji12)).f0.f0) ((rd_T59 l0_0 (ji12)).f0.f1) ((rd_T59 l0_0 x8_1).f0.f0) ((rd_T59 l0_0 x8_1).f0.f1) true _ A15.out).mono ?_
            rintro e w24 ⟨rfl, hb⟩
            refine ⟨_, rfl, ?_⟩
            replace BK260 := mB BK260 hb
            replace BK262 := mB BK262 hb
            replace HB := mS (below_step (mH2 HB.out GE260.out GE262.out) hb)
            (try clear hb)
            (try clear hb2)
            (try clear hk)
            (try clear hi)
            refine hK.out _ _ (mb3 BK262.out ⟨mZ BK260.out 0, ⟨(mX HB.out hw265_0 :), ⟨(mX HB.out hw265_1 :), (mX HB.out hw265_2 :)⟩⟩⟩) (fun hHeld => ?_)
            clear hK K
            refine mno 38 ?_
            refine mpu 26 39 HT_.out (mb 27 2) ?_
            refine mpu 27 40 HT_.out (mb 28 1) ?_
            refine mpu 28 41 HT_.out (mb 29 0) ?_
            refine done_ (done_of HT_.out (by kernel_rfl)) ?_
            try go_wp2
            go_roundg k1
            case measure => have := HK1.out; omega
            case rel => exact ⟨(wrap64 (x8_1 + 1)), mE, H', ⟨by have := HK1.out; omega⟩, ⟨mK BK260.out⟩, ⟨(mH2 HB.out GE260.out GE262.out)⟩⟩
           ·replace c16 := Bool.eq_false_iff.mpr c16
            subst c16
            have H1 := H
            rw [if_neg (show ¬ (false = true) by decide)] at H1
            clear H
            have H := H1
            clear H1
            obtain rfl := Option.some.inj H
            have p261 : 0 ≤ (x8_1 : Int) := mD
            have q261 : x8_1 < (l0_0.length : Int) := mD
            obtain ⟨ad261, A261_2, c261_2, e261, hx261_0, hx261_1, hx261_2, hl261_2, hi261_2⟩ := at_T59 HR0_0.out x8_1 p261 q261
            cases e261
            replace hx261_0 := mX HB.out hx261_0
            replace hx261_1 := mX HB.out hx261_1
            replace hx261_2 := mX HB.out hx261_2
            have HR261_2 := mS hi261_2
            have HC261_2 := mS hl261_2
            clear hi261_2 hl261_2
            replace p261 := eq_true p261
            replace q261 := eq_true q261
            try go_wp2_with (first | ((with_reducible refine gate_dst (N := 4) rfl ?_); refine mBx 4 #[.int .i64 0, .int .i64 0, .slice none 0 0] 59 ?_; intro gb262 hg w25 hbox hb; have BK262 := mS (hbox); have GW262 := mG hg (mH1 HB.out GE260.out); have GE262 := mG hg (mH1 HB.out GE260.out); replace HB := mS (below_step (mH1 HB.out GE260.out) hb); have NB260_262 := mNl hg BK260.out; have NB262_260 := mNg hg BK260.out; replace BK260 := mB BK260 hb; clear hb hbox hg; have hnb26 := NB262_260.out; have hnc26 := NB260_262.out; obtain ⟨hcz27_0, hcz27_1, hcz27_2, hfz27_0, hfz27_1, hfz27_2⟩ := mZ3 BK262.out))
            generalize hW_ : (((w25.setCell ⟨gb262, 0, none⟩ (.int .i64 ((rd_T59 l0_0 x8_1).f0.f0))).setCell ⟨gb262, 1, none⟩ (.int .i64 ((rd_T59 l0_0 x8_1).f0.f1))).setCell ⟨gb262, 2, none⟩ (.slice A261_2 ((rd_T59 l0_0 x8_1).f1).length c261_2)) = w28
            replace BK260 : Aside0 (w28.heap[gb260]? = some (.cells #[.slice (some ad261) l0_0.length c0_0] 52 (0, 0))) := by rw [← hW_]; exact ⟨mKf NB260_262.out BK260.out⟩
            replace BK262 : Aside0 (w28.heap[gb262]? = some (.cells #[.int .i64 ((rd_T59 l0_0 x8_1).f0.f0), .int .i64 ((rd_T59 l0_0 x8_1).f0.f1), .slice A261_2 ((rd_T59 l0_0 x8_1).f1).length c261_2] 59 (0, 0))) := by rw [← hW_]; exact ⟨by refine mK ?_; refine blk_put (cs := #[.int .i64 ((rd_T59 l0_0 x8_1).f0.f0), .int .i64 ((rd_T59 l0_0 x8_1).f0.f1), .slice none 0 0]) ?_ 2 _ rfl; refine mK ?_; refine blk_put (cs := #[.int .i64 ((rd_T59 l0_0 x8_1).f0.f0), .int .i64 0, .slice none 0 0]) ?_ 1 _ rfl; refine mK ?_; refine blk_put (cs := #[.int .i64 0, .int .i64 0, .slice none 0 0]) ?_ 0 _ rfl; refine mK ?_; exact BK262.out⟩
            replace HB : Aside0 (Below w.heap.size w w28) := by rw [← hW_]; exact ⟨(mH2 HB.out GE260.out GE262.out)⟩
            clear hW_
            replace BK260 := mS (blk_drew BK260.out)
            replace BK262 := mS (blk_drew BK262.out)
            replace HB := mS (below_drew1 HB.out)
            have p265 : 0 ≤ ((ji12) : Int) := mD
            have q265 : (ji12) < (l0_0.length : Int) := mD
            obtain ⟨ad265, A265_2, c265_2, e265, hx265_0, hx265_1, hx265_2, hl265_2, hi265_2⟩ := at_T59 HR0_0.out (ji12) p265 q265
            have hw265_2 := hx265_2
            have hw265_1 := hx265_1
            have hw265_0 := hx265_0
            obtain rfl : ad261 = ad265 := (by injection e265)
            replace hx265_0 := mX HB.out hx265_0
            replace hx265_1 := mX HB.out hx265_1
            replace hx265_2 := mX HB.out hx265_2
            have HR265_2 := mS hi265_2
            have HC265_2 := mS hl265_2
            clear hi265_2 hl265_2
            replace p265 := eq_true p265
            replace q265 := eq_true q265
            refine start_ (n := 29) (S := fun w' => w'.cell? ⟨gb262, 0, none⟩ = some (.int .i64 ((rd_T59 l0_0 x8_1).f0.f0)) ∧ w'.cell? ⟨gb262, 1, none⟩ = some (.int .i64 ((rd_T59 l0_0 x8_1).f0.f1)) ∧ w'.cell? ⟨gb262, 2, none⟩ = some (.slice A261_2 ((rd_T59 l0_0 x8_1).f1).length c261_2) ∧ w'.cell? ⟨gb260, 0, none⟩ = some (.slice (some ad261) l0_0.length c0_0) ∧ w'.cell? (ad261.add (((ji12)).toNat * 3)) = some (.int .i64 ((rd_T59 l0_0 (ji12)).f0.f0)) ∧ w'.cell? ⟨(ad261.add (((ji12)).toNat * 3)).block, (ad261.add (((ji12)).toNat * 3)).off + 1, none⟩ = some (.int .i64 ((rd_T59 l0_0 (ji12)).f0.f1)) ∧ w'.cell? ⟨(ad261.add (((ji12)).toNat * 3)).block, (ad261.add (((ji12)).toNat * 3)).off + 2, none⟩ = some (.slice A265_2 ((rd_T59 l0_0 (ji12)).f1).length c265_2)) (ds := []) (mb 0 29) (by kernel_rfl) rfl rfl (mb3 BK262.out ⟨mZ BK260.out 0, ⟨(mX HB.out hw265_0 :), ⟨(mX HB.out hw265_1 :), (mX HB.out hw265_2 :)⟩⟩⟩) (fun hHeld => ?_); refine with_tabW impl_GraphOk.tab4 impl_GraphOk.bits4 (fun HT_ HW_ => ?_)
            generalize w28.drew = w29 at BK260 BK262 HB HR265_2 hx265_0 hx265_1 hx265_2 hHeld ⊢
            refine mpu 0 13 HT_.out (mb 1 28) ?_
            refine mpt 1 14 HT_.out HW_.out (mb 2 27) hHeld ?_
            refine mone 2 (some 15) HT_.out (mb 3 26) (fun K hK => ?_)
            refine goes_ Try.func92 (by kernel_rfl) rfl #[.agg #[.int .i64 ((rd_T59 l0_0 x8_1).f0.f0), .int .i64 ((rd_T59 l0_0 x8_1).f0.f1)]] (by rfl) rfl rfl mA ?_
            with_reducible refine (impl_DotOk.calls ((rd_T59 l0_0 x8_1).f0.f0) ((rd_T59 l0_0 x8_1).f0.f1) true _ A7.out).mono ?_
            rintro e w30 ⟨rfl, hb⟩
            refine ⟨_, rfl, ?_⟩
            replace BK260 := mB BK260 hb
            replace BK262 := mB BK262 hb
            replace HB := mS (below_step (mH2 HB.out GE260.out GE262.out) hb)
            (try clear hb)
            (try clear hb2)
            (try clear hk)
            (try clear hi)
            refine hK.out _ _ (mb3 BK262.out ⟨mZ BK260.out 0, ⟨(mX HB.out hw265_0 :), ⟨(mX HB.out hw265_1 :), (mX HB.out hw265_2 :)⟩⟩⟩) (fun hHeld => ?_)
            clear hK K
            refine mno 15 ?_
            refine mpu 3 16 HT_.out (mb 4 25) ?_
            refine mpu 4 17 HT_.out (mb 5 24) ?_
            refine mpu 5 18 HT_.out (mb 6 23) ?_
            refine mpu 7 20 HT_.out (mr [6,1,1,21]) ?_
            refine mpt 6 19 HT_.out HW_.out (mb 8 21) hHeld ?_
            refine mpt 8 21 HT_.out HW_.out (mb 9 20) hHeld ?_
            refine mone 9 (some 22) HT_.out (mb 10 19) (fun K hK => ?_)
            refine goes_ Try.func93 (by kernel_rfl) rfl #[.agg #[.int .i64 ((rd_T59 l0_0 x8_1).f0.f0), .int .i64 ((rd_T59 l0_0 x8_1).f0.f1)], .slice A261_2 ((rd_T59 l0_0 x8_1).f1).length c261_2] (by rfl) rfl rfl mA ?_
            with_reducible refine (impl_depsOk.calls k1 ((rd_T59 l0_0 x8_1).f0.f0) ((rd_T59 l0_0 x8_1).f0.f1) _ _ ((rd_T59 l0_0 x8_1).f1) true _ ?side1 ?side2 A9.out).mono ?_
            (case side1 => exact mC (Kd.C_below HR261_2.out HB.out))
            (case side2 => exact HC261_2.out)
            rintro e w31 ⟨rfl, hb⟩
            refine ⟨_, rfl, ?_⟩
            replace BK260 := mB BK260 hb
            replace BK262 := mB BK262 hb
            replace HB := mS (below_step (mH2 HB.out GE260.out GE262.out) hb)
            (try clear hb)
            (try clear hb2)
            (try clear hk)
            (try clear hi)
            refine hK.out _ _ (mb3 BK262.out ⟨mZ BK260.out 0, ⟨(mX HB.out hw265_0 :), ⟨(mX HB.out hw265_1 :), (mX HB.out hw265_2 :)⟩⟩⟩) (fun hHeld => ?_)
            clear hK K
            refine mno 22 ?_
            refine mpu 10 23 HT_.out (mb 11 18) ?_
            refine mpu 11 24 HT_.out (mb 12 17) ?_
            refine mpu 12 25 HT_.out (mb 13 16) ?_
            refine mpu 13 26 HT_.out (mb 14 15) ?_
            refine mpu 14 27 HT_.out (mb 15 14) ?_
            refine mpu 15 28 HT_.out (mb 16 13) ?_
            refine mpu 16 29 HT_.out (mb 17 12) ?_
            refine mpu 18 31 HT_.out (mr [17,1,1,10]) ?_
            refine mpu 19 32 HT_.out (mr [17,1,2,9]) ?_
            refine mpu 23 36 HT_.out (mr [17,1,2,3,1,5]) ?_
            refine mpt 17 30 HT_.out HW_.out (mr [20,3,1,5]) hHeld ?_
            refine mpu 20 33 HT_.out (mr [21,2,1,5]) ?_
            refine mpu 21 34 HT_.out (mr [22,1,1,5]) ?_
            refine mpt 22 35 HT_.out HW_.out (mb 24 5) hHeld ?_
            refine mpt 24 37 HT_.out HW_.out (mb 25 4) hHeld ?_
            refine mone 25 (some 38) HT_.out (mb 26 3) (fun K hK => ?_)
            refine goes_ Try.func61 (by kernel_rfl) rfl #[.agg #[.int .i64 ((rd_T59 l0_0 (ji12)).f0.f0), .int .i64 ((rd_T59 l0_0 (ji12)).f0.f1)], .agg #[.int .i64 ((rd_T59 l0_0 x8_1).f0.f0), .int .i64 ((rd_T59 l0_0 x8_1).f0.f1)]] (by rfl) rfl rfl (by (try simp only [List.map_toArray, List.map_cons, List.map_nil]); first | done | (simp only [hji12]; rfl) | rfl | (simp only [List.length_drop, List.length_take]; rfl)) ?_
            with_reducible refine (impl_DotLess.calls ((rd_T59 l0_0 (ji12)).f0.f0) ((rd_T59 l0_0 (ji12)).f0.f1) ((rd_T59 l0_0 x8_1).f0.f0) ((rd_T59 l0_0 x8_1).f0.f1) false _ A15.out).mono ?_
            rintro e w32 ⟨rfl, hb⟩
            refine ⟨_, rfl, ?_⟩
            replace BK260 := mB BK260 hb
            replace BK262 := mB BK262 hb
            replace HB := mS (below_step (mH2 HB.out GE260.out GE262.out) hb)
            (try clear hb)
            (try clear hb2)
            (try clear hk)
            (try clear hi)
            refine hK.out _ _ (mb3 BK262.out ⟨mZ BK260.out 0, ⟨(mX HB.out hw265_0 :), ⟨(mX HB.out hw265_1 :), (mX HB.out hw265_2 :)⟩⟩⟩) (fun hHeld => ?_)
            clear hK K
            refine mno 38 ?_
            refine mpu 26 39 HT_.out (mb 27 2) ?_
            refine mpu 27 40 HT_.out (mb 28 1) ?_
            refine mpu 28 41 HT_.out (mb 29 0) ?_
            refine done_ (done_of HT_.out (by kernel_rfl)) ?_
            try go_wp2
            go_ret
            exact ⟨by first | rfl | (simp [errW_none, errW_some] <;> rfl) | (simp only [← hji12]; first | rfl | (simp [errW_none, errW_some] <;> rfl)) | (simp [*, errW_none, errW_some] <;> rfl), (mH2 HB.out GE260.out GE262.out)⟩
          ·rw [if_neg c14] at H
           exact absurd H (by simp)
         ·rw [if_neg c13] at H
          exact absurd H (by simp)
        ·rw [if_neg c11] at H
         have c11b0 : decide (0 < x8_1) = false := decide_eq_false c11
         clear c11
         have H' := mS H
         clear H
         have p261 : 0 ≤ (x8_1 : Int) := mD
         have q261 : x8_1 < (l0_0.length : Int) := mD
         obtain ⟨ad261, A261_2, c261_2, e261, hx261_0, hx261_1, hx261_2, hl261_2, hi261_2⟩ := at_T59 HR0_0.out x8_1 p261 q261
         cases e261
         replace hx261_0 := mX HB.out hx261_0
         replace hx261_1 := mX HB.out hx261_1
         replace hx261_2 := mX HB.out hx261_2
         have HR261_2 := mS hi261_2
         have HC261_2 := mS hl261_2
         clear hi261_2 hl261_2
         replace p261 := eq_true p261
         replace q261 := eq_true q261
         try go_wp2_with (first | ((with_reducible refine gate_dst (N := 4) rfl ?_); refine mBx 4 #[.int .i64 0, .int .i64 0, .slice none 0 0] 59 ?_; intro gb262 hg w33 hbox hb; have BK262 := mS (hbox); have GW262 := mG hg (mH1 HB.out GE260.out); have GE262 := mG hg (mH1 HB.out GE260.out); replace HB := mS (below_step (mH1 HB.out GE260.out) hb); have NB260_262 := mNl hg BK260.out; have NB262_260 := mNg hg BK260.out; replace BK260 := mB BK260 hb; clear hb hbox hg; have hnb34 := NB262_260.out; have hnc34 := NB260_262.out; obtain ⟨hcz35_0, hcz35_1, hcz35_2, hfz35_0, hfz35_1, hfz35_2⟩ := mZ3 BK262.out))
         generalize hW_ : (((w33.setCell ⟨gb262, 0, none⟩ (.int .i64 ((rd_T59 l0_0 x8_1).f0.f0))).setCell ⟨gb262, 1, none⟩ (.int .i64 ((rd_T59 l0_0 x8_1).f0.f1))).setCell ⟨gb262, 2, none⟩ (.slice A261_2 ((rd_T59 l0_0 x8_1).f1).length c261_2)) = w36
         replace BK260 : Aside0 (w36.heap[gb260]? = some (.cells #[.slice (some ad261) l0_0.length c0_0] 52 (0, 0))) := by rw [← hW_]; exact ⟨mKf NB260_262.out BK260.out⟩
         replace BK262 : Aside0 (w36.heap[gb262]? = some (.cells #[.int .i64 ((rd_T59 l0_0 x8_1).f0.f0), .int .i64 ((rd_T59 l0_0 x8_1).f0.f1), .slice A261_2 ((rd_T59 l0_0 x8_1).f1).length c261_2] 59 (0, 0))) := by rw [← hW_]; exact ⟨by refine mK ?_; refine blk_put (cs := #[.int .i64 ((rd_T59 l0_0 x8_1).f0.f0), .int .i64 ((rd_T59 l0_0 x8_1).f0.f1), .slice none 0 0]) ?_ 2 _ rfl; refine mK ?_; refine blk_put (cs := #[.int .i64 ((rd_T59 l0_0 x8_1).f0.f0), .int .i64 0, .slice none 0 0]) ?_ 1 _ rfl; refine mK ?_; refine blk_put (cs := #[.int .i64 0, .int .i64 0, .slice none 0 0]) ?_ 0 _ rfl; refine mK ?_; exact BK262.out⟩
         replace HB : Aside0 (Below w.heap.size w w36) := by rw [← hW_]; exact ⟨(mH2 HB.out GE260.out GE262.out)⟩
         clear hW_
         replace BK260 := mS (blk_drew BK260.out)
         replace BK262 := mS (blk_drew BK262.out)
         replace HB := mS (below_drew1 HB.out)
         refine start_ (n := 29) (S := fun w' => w'.cell? ⟨gb262, 0, none⟩ = some (.int .i64 ((rd_T59 l0_0 x8_1).f0.f0)) ∧ w'.cell? ⟨gb262, 1, none⟩ = some (.int .i64 ((rd_T59 l0_0 x8_1).f0.f1)) ∧ w'.cell? ⟨gb262, 2, none⟩ = some (.slice A261_2 ((rd_T59 l0_0 x8_1).f1).length c261_2)) (ds := []) (mb 0 29) (by kernel_rfl) rfl rfl (mc3 BK262.out) (fun hHeld => ?_); refine with_tabW impl_GraphOk.tab4 impl_GraphOk.bits4 (fun HT_ HW_ => ?_)
         generalize w36.drew = w37 at BK260 BK262 HB hHeld ⊢
         refine mpu 0 13 HT_.out (mb 1 28) ?_
         refine mpt 1 14 HT_.out HW_.out (mb 2 27) hHeld ?_
         refine mone 2 (some 15) HT_.out (mb 3 26) (fun K hK => ?_)
         refine goes_ Try.func92 (by kernel_rfl) rfl #[.agg #[.int .i64 ((rd_T59 l0_0 x8_1).f0.f0), .int .i64 ((rd_T59 l0_0 x8_1).f0.f1)]] (by rfl) rfl rfl mA ?_
         with_reducible refine (impl_DotOk.calls ((rd_T59 l0_0 x8_1).f0.f0) ((rd_T59 l0_0 x8_1).f0.f1) true _ A7.out).mono ?_
         rintro e w38 ⟨rfl, hb⟩
         refine ⟨_, rfl, ?_⟩
         replace BK260 := mB BK260 hb
         replace BK262 := mB BK262 hb
         replace HB := mS (below_step (mH2 HB.out GE260.out GE262.out) hb)
         (try clear hb)
         (try clear hb2)
         (try clear hk)
         (try clear hi)
         refine hK.out _ _ (mc3 BK262.out) (fun hHeld => ?_)
         clear hK K
         refine mno 15 ?_
         refine mpu 3 16 HT_.out (mb 4 25) ?_
         refine mpu 4 17 HT_.out (mb 5 24) ?_
         refine mpu 5 18 HT_.out (mb 6 23) ?_
         refine mpu 7 20 HT_.out (mr [6,1,1,21]) ?_
         refine mpt 6 19 HT_.out HW_.out (mb 8 21) hHeld ?_
         refine mpt 8 21 HT_.out HW_.out (mb 9 20) hHeld ?_
         refine mone 9 (some 22) HT_.out (mb 10 19) (fun K hK => ?_)
         refine goes_ Try.func93 (by kernel_rfl) rfl #[.agg #[.int .i64 ((rd_T59 l0_0 x8_1).f0.f0), .int .i64 ((rd_T59 l0_0 x8_1).f0.f1)], .slice A261_2 ((rd_T59 l0_0 x8_1).f1).length c261_2] (by rfl) rfl rfl mA ?_
         with_reducible refine (impl_depsOk.calls k1 ((rd_T59 l0_0 x8_1).f0.f0) ((rd_T59 l0_0 x8_1).f0.f1) _ _ ((rd_T59 l0_0 x8_1).f1) true _ ?side1 ?side2 A9.out).mono ?_
         (case side1 => exact mC (Kd.C_below HR261_2.out HB.out))
         (case side2 => exact HC261_2.out)
         rintro e w39 ⟨rfl, hb⟩
         refine ⟨_, rfl, ?_⟩
         replace BK260 := mB BK260 hb
         replace BK262 := mB BK262 hb
         replace HB := mS (below_step (mH2 HB.out GE260.out GE262.out) hb)
         (try clear hb)
         (try clear hb2)
         (try clear hk)
         (try clear hi)
         refine hK.out _ _ (mc3 BK262.out) (fun hHeld => ?_)
         clear hK K
         refine mno 22 ?_
         refine mpu 10 23 HT_.out (mb 11 18) ?_
         refine mpu 11 24 HT_.out (mb 12 17) ?_
         refine mpu 12 25 HT_.out (mb 13 16) ?_
         refine mpu 13 26 HT_.out (mb 14 15) ?_
         refine mpu 14 27 HT_.out (mb 15 14) ?_
         refine mpu 15 28 HT_.out (mb 16 13) ?_
         refine mpf 16 29 HT_.out (mb 17 12) ?_
         refine mpf 17 30 HT_.out (mb 18 11) ?_
         refine mpf 18 31 HT_.out (mb 19 10) ?_
         refine mpf 19 32 HT_.out (mb 20 9) ?_
         refine mpf 20 33 HT_.out (mb 21 8) ?_
         refine mpf 21 34 HT_.out (mb 22 7) ?_
         refine mpf 22 35 HT_.out (mb 23 6) ?_
         refine mpf 23 36 HT_.out (mb 24 5) ?_
         refine mpf 24 37 HT_.out (mb 25 4) ?_
         refine mpf 25 38 HT_.out (mb 26 3) ?_
         refine mpf 26 39 HT_.out (mb 27 2) ?_
         refine mpu 27 40 HT_.out (mb 28 1) ?_
         refine mpu 28 41 HT_.out (mb 29 0) ?_
         refine done_ (done_of HT_.out (by kernel_rfl)) ?_
         try go_wp2
         go_roundg k1
         case measure => have := HK1.out; omega
         case rel => exact ⟨(wrap64 (x8_1 + 1)), mE, H', ⟨by have := HK1.out; omega⟩, ⟨mK BK260.out⟩, ⟨(mH2 HB.out GE260.out GE262.out)⟩⟩
       ·replace c10 := Bool.eq_false_iff.mpr c10
        subst c10
        have H1 := H
        rw [if_neg (show ¬ (false = true) by decide)] at H1
        clear H
        have H := H1
        clear H1
        obtain rfl := Option.some.inj H
        have p261 : 0 ≤ (x8_1 : Int) := mD
        have q261 : x8_1 < (l0_0.length : Int) := mD
        obtain ⟨ad261, A261_2, c261_2, e261, hx261_0, hx261_1, hx261_2, hl261_2, hi261_2⟩ := at_T59 HR0_0.out x8_1 p261 q261
        cases e261
        replace hx261_0 := mX HB.out hx261_0
        replace hx261_1 := mX HB.out hx261_1
        replace hx261_2 := mX HB.out hx261_2
        have HR261_2 := mS hi261_2
        have HC261_2 := mS hl261_2
        clear hi261_2 hl261_2
        replace p261 := eq_true p261
        replace q261 := eq_true q261
        try go_wp2_with (first | ((with_reducible refine gate_dst (N := 4) rfl ?_); refine mBx 4 #[.int .i64 0, .int .i64 0, .slice none 0 0] 59 ?_; intro gb262 hg w40 hbox hb; have BK262 := mS (hbox); have GW262 := mG hg (mH1 HB.out GE260.out); have GE262 := mG hg (mH1 HB.out GE260.out); replace HB := mS (below_step (mH1 HB.out GE260.out) hb); have NB260_262 := mNl hg BK260.out; have NB262_260 := mNg hg BK260.out; replace BK260 := mB BK260 hb; clear hb hbox hg; have hnb41 := NB262_260.out; have hnc41 := NB260_262.out; obtain ⟨hcz42_0, hcz42_1, hcz42_2, hfz42_0, hfz42_1, hfz42_2⟩ := mZ3 BK262.out))
        generalize hW_ : (((w40.setCell ⟨gb262, 0, none⟩ (.int .i64 ((rd_T59 l0_0 x8_1).f0.f0))).setCell ⟨gb262, 1, none⟩ (.int .i64 ((rd_T59 l0_0 x8_1).f0.f1))).setCell ⟨gb262, 2, none⟩ (.slice A261_2 ((rd_T59 l0_0 x8_1).f1).length c261_2)) = w43
        replace BK260 : Aside0 (w43.heap[gb260]? = some (.cells #[.slice (some ad261) l0_0.length c0_0] 52 (0, 0))) := by rw [← hW_]; exact ⟨mKf NB260_262.out BK260.out⟩
        replace BK262 : Aside0 (w43.heap[gb262]? = some (.cells #[.int .i64 ((rd_T59 l0_0 x8_1).f0.f0), .int .i64 ((rd_T59 l0_0 x8_1).f0.f1), .slice A261_2 ((rd_T59 l0_0 x8_1).f1).length c261_2] 59 (0, 0))) := by rw [← hW_]; exact ⟨by refine mK ?_; refine blk_put (cs := #[.int .i64 ((rd_T59 l0_0 x8_1).f0.f0), .int .i64 ((rd_T59 l0_0 x8_1).f0.f1), .slice none 0 0]) ?_ 2 _ rfl; refine mK ?_; refine blk_put (cs := #[.int .i64 ((rd_T59 l0_0 x8_1).f0.f0), .int .i64 0, .slice none 0 0]) ?_ 1 _ rfl; refine mK ?_; refine blk_put (cs := #[.int .i64 0, .int .i64 0, .slice none 0 0]) ?_ 0 _ rfl; refine mK ?_; exact BK262.out⟩
        replace HB : Aside0 (Below w.heap.size w w43) := by rw [← hW_]; exact ⟨(mH2 HB.out GE260.out GE262.out)⟩
        clear hW_
        replace BK260 := mS (blk_drew BK260.out)
        replace BK262 := mS (blk_drew BK262.out)
        replace HB := mS (below_drew1 HB.out)
        refine start_ (n := 29) (S := fun w' => w'.cell? ⟨gb262, 0, none⟩ = some (.int .i64 ((rd_T59 l0_0 x8_1).f0.f0)) ∧ w'.cell? ⟨gb262, 1, none⟩ = some (.int .i64 ((rd_T59 l0_0 x8_1).f0.f1)) ∧ w'.cell? ⟨gb262, 2, none⟩ = some (.slice A261_2 ((rd_T59 l0_0 x8_1).f1).length c261_2)) (ds := []) (mb 0 29) (by kernel_rfl) rfl rfl (mc3 BK262.out) (fun hHeld => ?_); refine with_tabW impl_GraphOk.tab4 impl_GraphOk.bits4 (fun HT_ HW_ => ?_)
        generalize w43.drew = w44 at BK260 BK262 HB hHeld ⊢
        refine mpu 0 13 HT_.out (mb 1 28) ?_
        refine mpt 1 14 HT_.out HW_.out (mb 2 27) hHeld ?_
        refine mone 2 (some 15) HT_.out (mb 3 26) (fun K hK => ?_)
        refine goes_ Try.func92 (by kernel_rfl) rfl #[.agg #[.int .i64 ((rd_T59 l0_0 x8_1).f0.f0), .int .i64 ((rd_T59 l0_0 x8_1).f0.f1)]] (by rfl) rfl rfl mA ?_
        with_reducible refine (impl_DotOk.calls ((rd_T59 l0_0 x8_1).f0.f0) ((rd_T59 l0_0 x8_1).f0.f1) true _ A7.out).mono ?_
        rintro e w45 ⟨rfl, hb⟩
        refine ⟨_, rfl, ?_⟩
        replace BK260 := mB BK260 hb
        replace BK262 := mB BK262 hb
        replace HB := mS (below_step (mH2 HB.out GE260.out GE262.out) hb)
        (try clear hb)
        (try clear hb2)
        (try clear hk)
        (try clear hi)
        refine hK.out _ _ (mc3 BK262.out) (fun hHeld => ?_)
        clear hK K
        refine mno 15 ?_
        refine mpu 3 16 HT_.out (mb 4 25) ?_
        refine mpu 4 17 HT_.out (mb 5 24) ?_
        refine mpu 5 18 HT_.out (mb 6 23) ?_
        refine mpu 7 20 HT_.out (mr [6,1,1,21]) ?_
        refine mpt 6 19 HT_.out HW_.out (mb 8 21) hHeld ?_
        refine mpt 8 21 HT_.out HW_.out (mb 9 20) hHeld ?_
        refine mone 9 (some 22) HT_.out (mb 10 19) (fun K hK => ?_)
        refine goes_ Try.func93 (by kernel_rfl) rfl #[.agg #[.int .i64 ((rd_T59 l0_0 x8_1).f0.f0), .int .i64 ((rd_T59 l0_0 x8_1).f0.f1)], .slice A261_2 ((rd_T59 l0_0 x8_1).f1).length c261_2] (by rfl) rfl rfl mA ?_
        with_reducible refine (impl_depsOk.calls k1 ((rd_T59 l0_0 x8_1).f0.f0) ((rd_T59 l0_0 x8_1).f0.f1) _ _ ((rd_T59 l0_0 x8_1).f1) false _ ?side1 ?side2 A9.out).mono ?_
        (case side1 => exact mC (Kd.C_below HR261_2.out HB.out))
        (case side2 => exact HC261_2.out)
        rintro e w46 ⟨rfl, hb⟩
        refine ⟨_, rfl, ?_⟩
        replace BK260 := mB BK260 hb
        replace BK262 := mB BK262 hb
        replace HB := mS (below_step (mH2 HB.out GE260.out GE262.out) hb)
        (try clear hb)
        (try clear hb2)
        (try clear hk)
        (try clear hi)
        refine hK.out _ _ (mc3 BK262.out) (fun hHeld => ?_)
        clear hK K
        refine mno 22 ?_
        refine mpu 10 23 HT_.out (mb 11 18) ?_
        refine mpu 11 24 HT_.out (mb 12 17) ?_
        refine mpu 12 25 HT_.out (mb 13 16) ?_
        refine mpf 13 26 HT_.out (mb 14 15) ?_
        refine mpf 14 27 HT_.out (mb 15 14) ?_
        refine mpf 15 28 HT_.out (mb 16 13) ?_
        refine mpf 16 29 HT_.out (mb 17 12) ?_
        refine mpf 17 30 HT_.out (mb 18 11) ?_
        refine mpf 18 31 HT_.out (mb 19 10) ?_
        refine mpf 19 32 HT_.out (mb 20 9) ?_
        refine mpf 20 33 HT_.out (mb 21 8) ?_
        refine mpf 21 34 HT_.out (mb 22 7) ?_
        refine mpf 22 35 HT_.out (mb 23 6) ?_
        refine mpf 23 36 HT_.out (mb 24 5) ?_
        refine mpf 24 37 HT_.out (mb 25 4) ?_
        refine mpf 25 38 HT_.out (mb 26 3) ?_
        refine mpf 26 39 HT_.out (mb 27 2) ?_
        refine mpf 27 40 HT_.out (mb 28 1) ?_
        refine mpu 28 41 HT_.out (mb 29 0) ?_
        refine done_ (done_of HT_.out (by kernel_rfl)) ?_
        try go_wp2
        go_ret
        exact ⟨mEw, (mH2 HB.out GE260.out GE262.out)⟩
      ·replace c8 := Bool.eq_false_iff.mpr c8
       subst c8
       have H1 := H
       rw [if_neg (show ¬ (false = true) by decide)] at H1
       clear H
       have H := H1
       clear H1
       obtain rfl := Option.some.inj H
       have p261 : 0 ≤ (x8_1 : Int) := mD
       have q261 : x8_1 < (l0_0.length : Int) := mD
       obtain ⟨ad261, A261_2, c261_2, e261, hx261_0, hx261_1, hx261_2, hl261_2, hi261_2⟩ := at_T59 HR0_0.out x8_1 p261 q261
       cases e261
       replace hx261_0 := mX HB.out hx261_0
       replace hx261_1 := mX HB.out hx261_1
       replace hx261_2 := mX HB.out hx261_2
       have HR261_2 := mS hi261_2
       have HC261_2 := mS hl261_2
       clear hi261_2 hl261_2
       replace p261 := eq_true p261
       replace q261 := eq_true q261
       try go_wp2_with (first | ((with_reducible refine gate_dst (N := 4) rfl ?_); refine mBx 4 #[.int .i64 0, .int .i64 0, .slice none 0 0] 59 ?_; intro gb262 hg w47 hbox hb; have BK262 := mS (hbox); have GW262 := mG hg (mH1 HB.out GE260.out); have GE262 := mG hg (mH1 HB.out GE260.out); replace HB := mS (below_step (mH1 HB.out GE260.out) hb); have NB260_262 := mNl hg BK260.out; have NB262_260 := mNg hg BK260.out; replace BK260 := mB BK260 hb; clear hb hbox hg; have hnb48 := NB262_260.out; have hnc48 := NB260_262.out; obtain ⟨hcz49_0, hcz49_1, hcz49_2, hfz49_0, hfz49_1, hfz49_2⟩ := mZ3 BK262.out))
       generalize hW_ : (((w47.setCell ⟨gb262, 0, none⟩ (.int .i64 ((rd_T59 l0_0 x8_1).f0.f0))).setCell ⟨gb262, 1, none⟩ (.int .i64 ((rd_T59 l0_0 x8_1).f0.f1))).setCell ⟨gb262, 2, none⟩ (.slice A261_2 ((rd_T59 l0_0 x8_1).f1).length c261_2)) = w50
       replace BK260 : Aside0 (w50.heap[gb260]? = some (.cells #[.slice (some ad261) l0_0.length c0_0] 52 (0, 0))) := by rw [← hW_]; exact ⟨mKf NB260_262.out BK260.out⟩
       replace BK262 : Aside0 (w50.heap[gb262]? = some (.cells #[.int .i64 ((rd_T59 l0_0 x8_1).f0.f0), .int .i64 ((rd_T59 l0_0 x8_1).f0.f1), .slice A261_2 ((rd_T59 l0_0 x8_1).f1).length c261_2] 59 (0, 0))) := by rw [← hW_]; exact ⟨by refine mK ?_; refine blk_put (cs := #[.int .i64 ((rd_T59 l0_0 x8_1).f0.f0), .int .i64 ((rd_T59 l0_0 x8_1).f0.f1), .slice none 0 0]) ?_ 2 _ rfl; refine mK ?_; refine blk_put (cs := #[.int .i64 ((rd_T59 l0_0 x8_1).f0.f0), .int .i64 0, .slice none 0 0]) ?_ 1 _ rfl; refine mK ?_; refine blk_put (cs := #[.int .i64 0, .int .i64 0, .slice none 0 0]) ?_ 0 _ rfl; refine mK ?_; exact BK262.out⟩
       replace HB : Aside0 (Below w.heap.size w w50) := by rw [← hW_]; exact ⟨(mH2 HB.out GE260.out GE262.out)⟩
       clear hW_
       replace BK260 := mS (blk_drew BK260.out)
       replace BK262 := mS (blk_drew BK262.out)
       replace HB := mS (below_drew1 HB.out)
       refine start_ (n := 29) (S := fun w' => w'.cell? ⟨gb262, 0, none⟩ = some (.int .i64 ((rd_T59 l0_0 x8_1).f0.f0)) ∧ w'.cell? ⟨gb262, 1, none⟩ = some (.int .i64 ((rd_T59 l0_0 x8_1).f0.f1)) ∧ w'.cell? ⟨gb262, 2, none⟩ = some (.slice A261_2 ((rd_T59 l0_0 x8_1).f1).length c261_2)) (ds := []) (mb 0 29) (by kernel_rfl) rfl rfl (mc3 BK262.out) (fun hHeld => ?_); refine with_tabW impl_GraphOk.tab4 impl_GraphOk.bits4 (fun HT_ HW_ => ?_)
       generalize w50.drew = w51 at BK260 BK262 HB hHeld ⊢
       refine mpu 0 13 HT_.out (mb 1 28) ?_
       refine mpt 1 14 HT_.out HW_.out (mb 2 27) hHeld ?_
       refine mone 2 (some 15) HT_.out (mb 3 26) (fun K hK => ?_)
       refine goes_ Try.func92 (by kernel_rfl) rfl #[.agg #[.int .i64 ((rd_T59 l0_0 x8_1).f0.f0), .int .i64 ((rd_T59 l0_0 x8_1).f0.f1)]] (by rfl) rfl rfl mA ?_
       with_reducible refine (impl_DotOk.calls ((rd_T59 l0_0 x8_1).f0.f0) ((rd_T59 l0_0 x8_1).f0.f1) false _ A7.out).mono ?_
       rintro e w52 ⟨rfl, hb⟩
       refine ⟨_, rfl, ?_⟩
       replace BK260 := mB BK260 hb
       replace BK262 := mB BK262 hb
       replace HB := mS (below_step (mH2 HB.out GE260.out GE262.out) hb)
       (try clear hb)
       (try clear hb2)
       (try clear hk)
       (try clear hi)
       refine hK.out _ _ (mc3 BK262.out) (fun hHeld => ?_)
       clear hK K
       refine mno 15 ?_
       refine mpu 3 16 HT_.out (mb 4 25) ?_
       refine mpu 4 17 HT_.out (mb 5 24) ?_
       refine mpf 5 18 HT_.out (mb 6 23) ?_
       refine mpf 6 19 HT_.out (mb 7 22) ?_
       refine mpf 7 20 HT_.out (mb 8 21) ?_
       refine mpf 8 21 HT_.out (mb 9 20) ?_
       refine mpf 9 22 HT_.out (mb 10 19) ?_
       refine mpf 10 23 HT_.out (mb 11 18) ?_
       refine mpu 11 24 HT_.out (mb 12 17) ?_
       refine mpu 12 25 HT_.out (mb 13 16) ?_
       refine mpf 13 26 HT_.out (mb 14 15) ?_
       refine mpf 14 27 HT_.out (mb 15 14) ?_
       refine mpf 15 28 HT_.out (mb 16 13) ?_
       refine mpf 16 29 HT_.out (mb 17 12) ?_
       refine mpf 17 30 HT_.out (mb 18 11) ?_
       refine mpf 18 31 HT_.out (mb 19 10) ?_
       refine mpf 19 32 HT_.out (mb 20 9) ?_
       refine mpf 20 33 HT_.out (mb 21 8) ?_
       refine mpf 21 34 HT_.out (mb 22 7) ?_
       refine mpf 22 35 HT_.out (mb 23 6) ?_
       refine mpf 23 36 HT_.out (mb 24 5) ?_
       refine mpf 24 37 HT_.out (mb 25 4) ?_
       refine mpf 25 38 HT_.out (mb 26 3) ?_
       refine mpf 26 39 HT_.out (mb 27 2) ?_
       refine mpf 27 40 HT_.out (mb 28 1) ?_
       refine mpu 28 41 HT_.out (mb 29 0) ?_
       refine done_ (done_of HT_.out (by kernel_rfl)) ?_
       try go_wp2
       go_ret
       exact ⟨mEw, (mH2 HB.out GE260.out GE262.out)⟩
     ·rw [if_neg c6] at H
      exact absurd H (by simp)
    ·rw [if_neg c5] at H
     exact absurd H (by simp)
   ·rw [if_neg c4] at H
    have c4b0 := decide_eq_false c4
    clear c4
    obtain rfl := Option.some.inj H
    have hcz53_0 := mZ BK260.out 0
    have hfz53_0 := blk_frozen BK260.out 0
    go_wp2
    go_ret
    exact ⟨mEw, (mH1 HB.out GE260.out)⟩

end Go.Proofs.Ytecjamgajlpfdaa.MFnExactGraphPut
