-- Written by mp.py, this session's own printer (wip/mp.py).
import Derived.Test.YtbepbgfkajnlbaaVMShort
import Derived.Test.YtbepbgfkajnlbaaMFnLeapsx0
import Derived.Test.YtbepbgfkajnlbaaMFnLeapsx1
namespace Go.Proofs.Ytbepbgfkajnlbaa.MFnLeaps
open Go.RowKit Go.Proofs.YtbepbgfkajnlbaaW.PrintWords Go.Proofs.YtbepbgfkajnlbaaW.PrintLast Go.Proofs.YtbepbgfkajnlbaaW.PrintMore Go.Proofs.Ytbepbgfkajnlbaa.MWords
attribute [local go_sem] max2_int min2_int max_two min_two max_three min_three max_four min_four   -- for this text's walks alone
set_option linter.unusedVariables false
set_option linter.unusedSimpArgs false

/-! ### spec_MemOk: function 17 -/
mutual
def spec_MemOk.l0 : Nat → Int → List (S35) → Option (Bool)
 | 0, _, _ => none
 | k + 1, x3, x162000 => if x3 < (x162000.length : Int) then (if 0 ≤ x3 then ((spec_PairOk.f ((rd_T35 x162000 x3).f0.f0) ((rd_T35 x162000 x3).f0.f1) ((rd_T35 x162000 x3).f0.f2)).bind fun t164 => (if t164 = true then ((spec_l1In.f ((rd_T35 x162000 x3).f1) 1 4).bind fun t165 => (if t165 = true then (if x3 > 0 then (if 0 ≤ (wrap64 (x3 - 1)) then (if (wrap64 (x3 - 1)) < (x162000.length : Int) then (spec_MemOk.j1 k x3 (!(Op.bytesLess (((rd_T35 x162000 (wrap64 (x3 - 1))).f0.f0).toList) (((rd_T35 x162000 x3).f0.f0).toList))) x162000) else (none)) else (none)) else (spec_MemOk.j1 k x3 false x162000)) else (spec_MemOk.j1 k x3 true x162000))) else (spec_MemOk.j1 k x3 true x162000))) else (none)) else (some (decide ((x162000.length : Int) ≤ 60)))
def spec_MemOk.j1 : Nat → Int → Bool → List (S35) → Option (Bool)
 | 0, _, _, _ => none
 | k + 1, x3, x44, x162000 => if x44 = true then (some false) else (spec_MemOk.l0 k (wrap64 (x3 + 1)) x162000)
end
def spec_MemOk.f (k : Nat) (l0_0 : List (S35)) : Option (Bool) := spec_MemOk.l0 k 0 l0_0
theorem spec_MemOk.mono_l : ∀ k, (∀ y0 y1, LeO (spec_MemOk.l0 k y0 y1) (spec_MemOk.l0 (k + 1) y0 y1)) ∧ (∀ y0 y1 y2, LeO (spec_MemOk.j1 k y0 y1 y2) (spec_MemOk.j1 (k + 1) y0 y1 y2))
 | 0 => ⟨fun _ _ r h => by simp [spec_MemOk.l0] at h, fun _ _ _ r h => by simp [spec_MemOk.j1] at h⟩
 | k + 1 => by
  obtain ⟨ih0, ih1⟩ := spec_MemOk.mono_l k
  refine ⟨?_, ?_⟩
  ·intro y0 y1
   unfold spec_MemOk.l0
   repeat' first
   | (with_reducible exact ih0 _ _)
   | (with_reducible exact ih1 _ _ _)
   | (with_reducible exact LeO.refl _)
   | (with_reducible exact LeO.none _)
   | (with_reducible refine LeO.ite ?_ ?_)
   | (with_reducible refine LeO.bind ?_ (fun _ => ?_))
   | exact ih0 _ _
   | exact ih1 _ _ _
   | exact LeO.none _
   | refine LeO.ite ?_ ?_
   | refine LeO.bind ?_ (fun _ => ?_)
  ·intro y0 y1 y2
   unfold spec_MemOk.j1
   repeat' first
   | (with_reducible exact ih0 _ _)
   | (with_reducible exact ih1 _ _ _)
   | (with_reducible exact LeO.refl _)
   | (with_reducible exact LeO.none _)
   | (with_reducible refine LeO.ite ?_ ?_)
   | (with_reducible refine LeO.bind ?_ (fun _ => ?_))
   | exact ih0 _ _
   | exact ih1 _ _ _
   | exact LeO.none _
   | refine LeO.ite ?_ ?_
   | refine LeO.bind ?_ (fun _ => ?_)
theorem spec_MemOk.mono : ∀ a0 k, LeO (spec_MemOk.f k a0) (spec_MemOk.f (k + 1) a0) := by
 intro a0 k
 obtain ⟨ih0, ih1⟩ := spec_MemOk.mono_l k
 unfold spec_MemOk.f
 repeat' first
   | (with_reducible exact ih0 _ _)
   | (with_reducible exact ih1 _ _ _)
   | (with_reducible exact LeO.refl _)
   | (with_reducible exact LeO.none _)
   | (with_reducible refine LeO.ite ?_ ?_)
   | (with_reducible refine LeO.bind ?_ (fun _ => ?_))
   | exact ih0 _ _
   | exact ih1 _ _ _
   | exact LeO.none _
   | refine LeO.ite ?_ ?_
   | refine LeO.bind ?_ (fun _ => ?_)
def spec_MemOk.T5 : Bool × List (List Nat × List Nat) := (true, [([], []), ([0], [0]), ([1], [1]), ([2], [2]), ([3, 2], [3]), ([4], [4]), ([5, 4], [4, 5]), ([6, 4, 4], [4, 6]), ([7, 4], [4, 7]), ([4, 8], [4, 8]), ([9, 7], [9]), ([10], [10]), ([11, 10], [10, 11]), ([12, 10, 10], [10, 12]), ([13], [13]), ([14, 13], [13, 14]), ([13], [13]), ([16, 13], [13, 16]), ([15, 17, 13], [13, 15, 17]), ([18, 13], [13, 18]), ([19, 13], [13, 19]), ([20, 13], [13, 20]), ([13], [13]), ([22, 13], [13, 22]), ([23, 13], [13, 23]), ([21, 24, 13], [13, 21, 24]), ([13, 25, 10], [10, 13, 25]), ([10, 26], [10, 26])])
def spec_MemOk.B5 : List Nat := [0, 1, 3, 7, 15, 31, 63, 127, 255, 511, 1023, 2047, 4095, 8191, 16383, 32767, 16383, 81919, 262143, 524287, 1048575, 2097151, 16383, 4210687, 12599295, 33554431, 67108863, 134217727]
theorem spec_MemOk.tab5 : rtab .any (opsOf Try.f17 5) = spec_MemOk.T5 := by kernel_rfl
theorem spec_MemOk.bits5 : waitsOk spec_MemOk.T5.2 spec_MemOk.B5 = true := by kernel_rfl
set_option maxHeartbeats 8000000 in
set_option maxRecDepth 100000 in
theorem spec_MemOk.calls (k : Nat) (A0_0 : Option Addr) (c0_0 : Nat) (l0_0 : List (S35)) (r : Bool) (w : World) (hr0_0 : Kd.C k35 w A0_0 l0_0.length l0_0) (hc0_0 : l0_0.length ≤ c0_0) (h : spec_MemOk.f k l0_0 = some r) :
  Calls Try.prog 17 #[.agg #[.slice A0_0 l0_0.length c0_0]] w fun e w' => e = .returned (.bool r) ∧ Below w.heap.size w w' := by
 have hu26 := Try.underlying26
 have hu35 := Try.underlying35
 have hu33 := Try.underlying33
 have HR0_0 := mS hr0_0
 have HC0_0 := mS hc0_0
 clear hr0_0 hc0_0
 have HB := mS (Below.refl w.heap.size w)
 have H : (spec_MemOk.l0 k 0 l0_0) = some r := h
 clear h
 have H' := mS H
 clear H
 go_enter Try.func17, Try.ntmps17
 go_wp2_with (first | ((with_reducible refine gate_dst (N := 1) rfl ?_); refine mBx 1 #[.slice A0_0 l0_0.length c0_0] 26 ?_; intro gb161 hg w2 hbox hb; have BK161 := mS (hbox); have GW161 := mG hg (mH HB.out); have GE161 := mG hg (mH HB.out); replace HB := mS (below_step (mH HB.out) hb); clear hb hbox hg))
 go_loopg [3] k (fun kq v3 w' => ∃ (x3_1 : Int), v3 = .int .i64 x3_1 ∧ Aside0 (spec_MemOk.l0 kq x3_1 l0_0 = some r) ∧ Aside0 (kq ≤ k) ∧ Aside0 (w'.heap[gb161]? = some (.cells #[(.slice A0_0 l0_0.length c0_0)] 26 (0, 0))) ∧ Aside0 (Below w.heap.size w w'))
 case atStart => exact ⟨(0), mE, H', ⟨Nat.le_refl _⟩, ⟨mK BK161.out⟩, ⟨(mH1 HB.out GE161.out)⟩⟩
 case round =>
  clear H'
  try clear c1
  try clear p2
  obtain ⟨x3_1, rfl, HA, HK1, BK161, HB⟩ := hrel
  cases gk with
  | zero => exact absurd HA.out (by simp [spec_MemOk.l0])
  | succ k1 =>
   have H := HA.out
   clear HA
   simp only [spec_MemOk.l0] at H
   by_cases c3 : x3_1 < (l0_0.length : Int)
   ·rw [if_pos c3] at H
    have c3b0 := decide_eq_true c3
    clear c3
    by_cases c4 : 0 ≤ x3_1
    ·rw [if_pos c4] at H
     have c4b0 := decide_eq_true c4
     clear c4
     have HC5 := mS H
     clear H
     have hcz6_0 := mZ BK161.out 0
     have hfz6_0 := blk_frozen BK161.out 0
     have p162 : 0 ≤ (x3_1 : Int) := mD
     have q162 : x3_1 < (l0_0.length : Int) := mD
     obtain ⟨ad162, e162, hx162_0, hx162_1, hx162_2, hx162_3⟩ := at_T35 HR0_0.out x3_1 p162 q162
     cases e162
     replace hx162_0 := mX HB.out hx162_0
     replace hx162_1 := mX HB.out hx162_1
     replace hx162_2 := mX HB.out hx162_2
     replace hx162_3 := mX HB.out hx162_3
     replace p162 := eq_true p162
     replace q162 := eq_true q162
     go_upto_region 5 with (first | ((with_reducible refine gate_dst (N := 4) rfl ?_); refine mBx 4 #[.string (⟨#[]⟩ : ByteArray), .string (⟨#[]⟩ : ByteArray), .bool false, .int .i64 0] 35 ?_; intro gb163 hg w7 hbox hb; have BK163 := mS (hbox); have GW163 := mG hg (mH1 HB.out GE161.out); have GE163 := mG hg (mH1 HB.out GE161.out); replace HB := mS (below_step (mH1 HB.out GE161.out) hb); have NB161_163 := mNl hg BK161.out; have NB163_161 := mNg hg BK161.out; replace BK161 := mB BK161 hb; clear hb hbox hg; have hnb8 := NB163_161.out; have hnc8 := NB161_163.out; obtain ⟨hcz9_0, hcz9_1, hcz9_2, hcz9_3, hfz9_0, hfz9_1, hfz9_2, hfz9_3⟩ := mZ4 BK163.out))
     (try simp only [Act.put, zA, zB, zC])
     go_cut [44] (fun v44 wc => ∃ (kq : Nat) (x44_4 : Bool), v44 = .bool x44_4 ∧ Aside0 (spec_MemOk.j1 kq x3_1 x44_4 l0_0 = some r) ∧ Aside0 (kq ≤ k1) ∧ Aside0 (wc.heap[gb161]? = some (.cells #[(.slice (some ad162) l0_0.length c0_0)] 26 (0, 0))) ∧ Aside0 (wc.heap[gb163]? = some (.cells #[.string ((rd_T35 l0_0 x3_1).f0.f0), .string ((rd_T35 l0_0 x3_1).f0.f1), .bool ((rd_T35 l0_0 x3_1).f0.f2), .int .i64 ((rd_T35 l0_0 x3_1).f1)] 35 (0, 0))) ∧ Aside0 (Below w.heap.size w wc))
     case first =>
      have H := HC5.out
      clear HC5
      replace H := Option.bind_eq_some_iff.mp H
      obtain ⟨t164, A100, H⟩ := H
      replace H : (if t164 = true then ((spec_l1In.f ((rd_T35 l0_0 x3_1).f1) 1 4).bind fun t165 => (if t165 = true then (if x3_1 > 0 then (if 0 ≤ (wrap64 (x3_1 - 1)) then (if (wrap64 (x3_1 - 1)) < (l0_0.length : Int) then (spec_MemOk.j1 k1 x3_1 (!(Op.bytesLess (((rd_T35 l0_0 (wrap64 (x3_1 - 1))).f0.f0).toList) (((rd_T35 l0_0 x3_1).f0.f0).toList))) l0_0) else (none)) else (none)) else (spec_MemOk.j1 k1 x3_1 false l0_0)) else (spec_MemOk.j1 k1 x3_1 true l0_0))) else (spec_MemOk.j1 k1 x3_1 true l0_0)) = some r := H
      have A10 := mS A100
      clear A100
      by_cases c11 : t164 = true
      ·subst c11
       have H1 := H
       rw [if_pos rfl] at H1
       clear H
       have H := H1
       clear H1
       replace H := Option.bind_eq_some_iff.mp H
       obtain ⟨t165, A120, H⟩ := H
       replace H : (if t165 = true then (if x3_1 > 0 then (if 0 ≤ (wrap64 (x3_1 - 1)) then (if (wrap64 (x3_1 - 1)) < (l0_0.length : Int) then (spec_MemOk.j1 k1 x3_1 (!(Op.bytesLess (((rd_T35 l0_0 (wrap64 (x3_1 - 1))).f0.f0).toList) (((rd_T35 l0_0 x3_1).f0.f0).toList))) l0_0) else (none)) else (none)) else (spec_MemOk.j1 k1 x3_1 false l0_0)) else (spec_MemOk.j1 k1 x3_1 true l0_0)) = some r := H
       have A12 := mS A120
       clear A120
       by_cases c13 : t165 = true
       ·subst c13
        have H1 := H
        rw [if_pos rfl] at H1
        clear H
        have H := H1
        clear H1
        by_cases c14 : x3_1 > 0
        ·rw [if_pos c14] at H
         have c14b0 : decide (0 < x3_1) = true := decide_eq_true c14
         clear c14
         (first | rw [c14b0] | (simp only [i64_w, i32_w]; rw [c14b0]) | skip)
         obtain ⟨ji15, hji15⟩ : ∃ j_ : Int, (wrap64 (x3_1 - 1)) = j_ := ⟨_, rfl⟩
         replace H : (if 0 ≤ (ji15) then (if (ji15) < (l0_0.length : Int) then (spec_MemOk.j1 k1 x3_1 (!(Op.bytesLess (((rd_T35 l0_0 (ji15)).f0.f0).toList) (((rd_T35 l0_0 x3_1).f0.f0).toList))) l0_0) else (none)) else (none)) = some r := by first | (rw [hji15] at H; exact H) | (simp only [hji15] at H ⊢; exact H)
         (try rw [hji15] at A10)
         (try rw [hji15] at A12)
         have hji15w : (IntKind.i64.wrap (x3_1 - 1)) = ji15 := (i64_w _).trans hji15
         by_cases c16 : 0 ≤ (ji15)
         ·rw [if_pos c16] at H
          have c16b0 := decide_eq_true c16
          clear c16
          by_cases c17 : (ji15) < (l0_0.length : Int)
          ·rw [if_pos c17] at H
           have c17b0 := decide_eq_true c17
           clear c17
           have H' := mS H
           clear H
           try go_wp2
           generalize hW_ : ((((w7.setCell ⟨gb163, 0, none⟩ (.string ((rd_T35 l0_0 x3_1).f0.f0))).setCell ⟨gb163, 1, none⟩ (.string ((rd_T35 l0_0 x3_1).f0.f1))).setCell ⟨gb163, 2, none⟩ (.bool ((rd_T35 l0_0 x3_1).f0.f2))).setCell ⟨gb163, 3, none⟩ (.int .i64 ((rd_T35 l0_0 x3_1).f1))) = w18
           replace BK161 : Aside0 (w18.heap[gb161]? = some (.cells #[.slice (some ad162) l0_0.length c0_0] 26 (0, 0))) := by rw [← hW_]; exact ⟨mKf NB161_163.out BK161.out⟩
           replace BK163 : Aside0 (w18.heap[gb163]? = some (.cells #[.string ((rd_T35 l0_0 x3_1).f0.f0), .string ((rd_T35 l0_0 x3_1).f0.f1), .bool ((rd_T35 l0_0 x3_1).f0.f2), .int .i64 ((rd_T35 l0_0 x3_1).f1)] 35 (0, 0))) := by rw [← hW_]; exact ⟨by refine mK ?_; refine blk_put (cs := #[.string ((rd_T35 l0_0 x3_1).f0.f0), .string ((rd_T35 l0_0 x3_1).f0.f1), .bool ((rd_T35 l0_0 x3_1).f0.f2), .int .i64 0]) ?_ 3 _ rfl; refine mK ?_; refine blk_put (cs := #[.string ((rd_T35 l0_0 x3_1).f0.f0), .string ((rd_T35 l0_0 x3_1).f0.f1), .bool false, .int .i64 0]) ?_ 2 _ rfl; refine mK ?_; refine blk_put (cs := #[.string ((rd_T35 l0_0 x3_1).f0.f0), .string (⟨#[]⟩ : ByteArray), .bool false, .int .i64 0]) ?_ 1 _ rfl; refine mK ?_; refine blk_put (cs := #[.string (⟨#[]⟩ : ByteArray), .string (⟨#[]⟩ : ByteArray), .bool false, .int .i64 0]) ?_ 0 _ rfl; refine mK ?_; exact BK163.out⟩
           replace HB : Aside0 (Below w.heap.size w w18) := by rw [← hW_]; exact ⟨(mH2 HB.out GE161.out GE163.out)⟩
           clear hW_
           replace BK161 := mS (blk_drew BK161.out)
           replace BK163 := mS (blk_drew BK163.out)
           replace HB := mS (below_drew1 HB.out)
           have p166 : 0 ≤ ((ji15) : Int) := mD
           have q166 : (ji15) < (l0_0.length : Int) := mD
           obtain ⟨ad166, e166, hx166_0, hx166_1, hx166_2, hx166_3⟩ := at_T35 HR0_0.out (ji15) p166 q166
           have hw166_3 := hx166_3
           have hw166_2 := hx166_2
           have hw166_1 := hx166_1
           have hw166_0 := hx166_0
           obtain rfl : ad162 = ad166 := (by injection e166)
           replace hx166_0 := mX HB.out hx166_0
           replace hx166_1 := mX HB.out hx166_1
           replace hx166_2 := mX HB.out hx166_2
           replace hx166_3 := mX HB.out hx166_3
           replace p166 := eq_true p166
           replace q166 := eq_true q166
           refine start_ (n := 28) (S := fun w' => w'.cell? ⟨gb163, 0, none⟩ = some (.string ((rd_T35 l0_0 x3_1).f0.f0)) ∧ w'.cell? ⟨gb163, 1, none⟩ = some (.string ((rd_T35 l0_0 x3_1).f0.f1)) ∧ w'.cell? ⟨gb163, 2, none⟩ = some (.bool ((rd_T35 l0_0 x3_1).f0.f2)) ∧ w'.cell? ⟨gb163, 3, none⟩ = some (.int .i64 ((rd_T35 l0_0 x3_1).f1)) ∧ w'.cell? ⟨gb161, 0, none⟩ = some (.slice (some ad162) l0_0.length c0_0) ∧ w'.cell? (ad162.add (((ji15)).toNat * 4)) = some (.string ((rd_T35 l0_0 (ji15)).f0.f0)) ∧ w'.cell? ⟨(ad162.add (((ji15)).toNat * 4)).block, (ad162.add (((ji15)).toNat * 4)).off + 1, none⟩ = some (.string ((rd_T35 l0_0 (ji15)).f0.f1)) ∧ w'.cell? ⟨(ad162.add (((ji15)).toNat * 4)).block, (ad162.add (((ji15)).toNat * 4)).off + 2, none⟩ = some (.bool ((rd_T35 l0_0 (ji15)).f0.f2)) ∧ w'.cell? ⟨(ad162.add (((ji15)).toNat * 4)).block, (ad162.add (((ji15)).toNat * 4)).off + 3, none⟩ = some (.int .i64 ((rd_T35 l0_0 (ji15)).f1))) (ds := []) (mb 0 28) (by kernel_rfl) rfl rfl (mb4 BK163.out ⟨mZ BK161.out 0, ⟨(mX HB.out hw166_0 :), ⟨(mX HB.out hw166_1 :), ⟨(mX HB.out hw166_2 :), (mX HB.out hw166_3 :)⟩⟩⟩⟩) (fun hHeld => ?_); refine with_tabW spec_MemOk.tab5 spec_MemOk.bits5 (fun HT_ HW_ => ?_)
           generalize w18.drew = w19 at BK161 BK163 HB hx166_0 hx166_1 hx166_2 hx166_3 hHeld ⊢
           refine mpu 0 17 HT_.out (mb 1 27) ?_
           refine mpt 1 18 HT_.out HW_.out (mb 2 26) hHeld ?_
           refine mone 2 (some 19) HT_.out (mb 3 25) (fun K hK => ?_)
           refine goes_ Try.func75 (by kernel_rfl) rfl #[.agg #[.string ((rd_T35 l0_0 x3_1).f0.f0), .string ((rd_T35 l0_0 x3_1).f0.f1), .bool ((rd_T35 l0_0 x3_1).f0.f2)]] (by rfl) rfl rfl mA ?_
           with_reducible refine (spec_PairOk.calls ((rd_T35 l0_0 x3_1).f0.f0) ((rd_T35 l0_0 x3_1).f0.f1) ((rd_T35 l0_0 x3_1).f0.f2) true _ A10.out).mono ?_
           rintro e w20 ⟨rfl, hb⟩
           refine ⟨_, rfl, ?_⟩
           replace BK161 := mB BK161 hb
           replace BK163 := mB BK163 hb
           replace HB := mS (below_step (mH2 HB.out GE161.out GE163.out) hb)
           (try clear hb)
           (try clear hb2)
           (try clear hk)
           (try clear hi)
           refine hK.out _ _ (mb4 BK163.out ⟨mZ BK161.out 0, ⟨(mX HB.out hw166_0 :), ⟨(mX HB.out hw166_1 :), ⟨(mX HB.out hw166_2 :), (mX HB.out hw166_3 :)⟩⟩⟩⟩) (fun hHeld => ?_)
           clear hK K
           refine mno 19 ?_
           refine mpu 3 20 HT_.out (mb 4 24) ?_
           refine mpu 4 21 HT_.out (mb 5 23) ?_
           refine mpu 5 22 HT_.out (mb 6 22) ?_
           refine mpt 6 23 HT_.out HW_.out (mb 7 21) hHeld ?_
           refine mone 7 (some 24) HT_.out (mb 8 20) (fun K hK => ?_)
           refine goes_ Try.func76 (by kernel_rfl) rfl #[.int .i64 ((rd_T35 l0_0 x3_1).f1), .int .i64 1, .int .i64 4] (by rfl) rfl rfl mA ?_
           with_reducible refine (spec_l1In.calls ((rd_T35 l0_0 x3_1).f1) 1 4 true _ A12.out).mono ?_
           rintro e w' ⟨rfl, ⟨nd, rfl⟩⟩
           refine ⟨_, rfl, ?_⟩
           refine hK.out _ _ (mb4 BK163.out ⟨mZ BK161.out 0, ⟨(mX HB.out hw166_0 :), ⟨(mX HB.out hw166_1 :), ⟨(mX HB.out hw166_2 :), (mX HB.out hw166_3 :)⟩⟩⟩⟩) (fun hHeld => ?_)
           clear hK K
           refine mno 24 ?_
           refine mpu 8 25 HT_.out (mb 9 19) ?_
           refine mpu 9 26 HT_.out (mb 10 18) ?_
           refine mpu 10 27 HT_.out (mb 11 17) ?_
           refine mpu 11 28 HT_.out (mb 12 16) ?_
           refine mpu 12 29 HT_.out (mb 13 15) ?_
           refine mpu 13 30 HT_.out (mb 14 14) ?_
           refine mpu 14 31 HT_.out (mb 15 13) ?_
           refine mpu 16 33 HT_.out (mr [15,1,1,11]) ?_
           refine mpu 17 34 HT_.out (mr [15,1,2,10]) ?_
           refine mpu 22 39 HT_.out (mr [15,1,2,4,1,5]) ?_
           refine mpu 23 40 HT_.out (mr [15,1,2,4,2,4]) ?_
           refine mpt 15 32 HT_.out HW_.out (mr [18,4,2,4]) hHeld ?_
           refine mpu 18 35 HT_.out (mr [19,3,2,4]) ?_
           refine mpu 19 36 HT_.out (mr [20,2,2,4]) ?_
           refine mpu 20 37 HT_.out (mr [21,1,2,4]) ?_
           refine mpt 21 38 HT_.out HW_.out (mb 24 4) hHeld ?_
           refine mpt 24 41 HT_.out HW_.out (mb 25 3) hHeld ?_
           refine mpu 25 42 HT_.out (mb 26 2) ?_
           refine mpu 26 43 HT_.out (mb 27 1) ?_
           refine mpu 27 44 HT_.out (mb 28 0) ?_
           refine done_ (done_of HT_.out (by kernel_rfl)) ?_
           try go_wp2
           go_meet
           case rel => exact ⟨_, (!(Op.bytesLess (((rd_T35 l0_0 (ji15)).f0.f0).toList) (((rd_T35 l0_0 x3_1).f0.f0).toList))), (by first | rfl | (simp; done) | (simp only [← hji15] <;> (first | rfl | simp)) | (simp [*]; done)), H', ⟨by have := HK1.out; first | omega | exact Nat.le_refl _⟩, ⟨mK BK161.out⟩, ⟨mK BK163.out⟩, ⟨(mH2 HB.out GE161.out GE163.out)⟩⟩
          ·rw [if_neg c17] at H
           exact absurd H (by simp)
         ·rw [if_neg c16] at H
          exact absurd H (by simp)
        ·rw [if_neg c14] at H
         have c14b0 : decide (0 < x3_1) = false := decide_eq_false c14
         clear c14
         (first | rw [c14b0] | (simp only [i64_w, i32_w]; rw [c14b0]) | skip)
         have H' := mS H
         clear H
         try go_wp2
         generalize hW_ : ((((w7.setCell ⟨gb163, 0, none⟩ (.string ((rd_T35 l0_0 x3_1).f0.f0))).setCell ⟨gb163, 1, none⟩ (.string ((rd_T35 l0_0 x3_1).f0.f1))).setCell ⟨gb163, 2, none⟩ (.bool ((rd_T35 l0_0 x3_1).f0.f2))).setCell ⟨gb163, 3, none⟩ (.int .i64 ((rd_T35 l0_0 x3_1).f1))) = w21
         replace BK161 : Aside0 (w21.heap[gb161]? = some (.cells #[.slice (some ad162) l0_0.length c0_0] 26 (0, 0))) := by rw [← hW_]; exact ⟨mKf NB161_163.out BK161.out⟩
         replace BK163 : Aside0 (w21.heap[gb163]? = some (.cells #[.string ((rd_T35 l0_0 x3_1).f0.f0), .string ((rd_T35 l0_0 x3_1).f0.f1), .bool ((rd_T35 l0_0 x3_1).f0.f2), .int .i64 ((rd_T35 l0_0 x3_1).f1)] 35 (0, 0))) := by rw [← hW_]; exact ⟨by refine mK ?_; refine blk_put (cs := #[.string ((rd_T35 l0_0 x3_1).f0.f0), .string ((rd_T35 l0_0 x3_1).f0.f1), .bool ((rd_T35 l0_0 x3_1).f0.f2), .int .i64 0]) ?_ 3 _ rfl; refine mK ?_; refine blk_put (cs := #[.string ((rd_T35 l0_0 x3_1).f0.f0), .string ((rd_T35 l0_0 x3_1).f0.f1), .bool false, .int .i64 0]) ?_ 2 _ rfl; refine mK ?_; refine blk_put (cs := #[.string ((rd_T35 l0_0 x3_1).f0.f0), .string (⟨#[]⟩ : ByteArray), .bool false, .int .i64 0]) ?_ 1 _ rfl; refine mK ?_; refine blk_put (cs := #[.string (⟨#[]⟩ : ByteArray), .string (⟨#[]⟩ : ByteArray), .bool false, .int .i64 0]) ?_ 0 _ rfl; refine mK ?_; exact BK163.out⟩
         replace HB : Aside0 (Below w.heap.size w w21) := by rw [← hW_]; exact ⟨(mH2 HB.out GE161.out GE163.out)⟩
         clear hW_
         replace BK161 := mS (blk_drew BK161.out)
         replace BK163 := mS (blk_drew BK163.out)
         replace HB := mS (below_drew1 HB.out)
         refine start_ (n := 28) (S := fun w' => w'.cell? ⟨gb163, 0, none⟩ = some (.string ((rd_T35 l0_0 x3_1).f0.f0)) ∧ w'.cell? ⟨gb163, 1, none⟩ = some (.string ((rd_T35 l0_0 x3_1).f0.f1)) ∧ w'.cell? ⟨gb163, 2, none⟩ = some (.bool ((rd_T35 l0_0 x3_1).f0.f2)) ∧ w'.cell? ⟨gb163, 3, none⟩ = some (.int .i64 ((rd_T35 l0_0 x3_1).f1))) (ds := []) (mb 0 28) (by kernel_rfl) rfl rfl (mc4 BK163.out) (fun hHeld => ?_); refine with_tabW spec_MemOk.tab5 spec_MemOk.bits5 (fun HT_ HW_ => ?_)
         generalize w21.drew = w22 at BK161 BK163 HB hHeld ⊢
         refine mpu 0 17 HT_.out (mb 1 27) ?_
         refine mpt 1 18 HT_.out HW_.out (mb 2 26) hHeld ?_
         refine mone 2 (some 19) HT_.out (mb 3 25) (fun K hK => ?_)
         refine goes_ Try.func75 (by kernel_rfl) rfl #[.agg #[.string ((rd_T35 l0_0 x3_1).f0.f0), .string ((rd_T35 l0_0 x3_1).f0.f1), .bool ((rd_T35 l0_0 x3_1).f0.f2)]] (by rfl) rfl rfl mA ?_
         with_reducible refine (spec_PairOk.calls ((rd_T35 l0_0 x3_1).f0.f0) ((rd_T35 l0_0 x3_1).f0.f1) ((rd_T35 l0_0 x3_1).f0.f2) true _ A10.out).mono ?_
         rintro e w23 ⟨rfl, hb⟩
         refine ⟨_, rfl, ?_⟩
         replace BK161 := mB BK161 hb
         replace BK163 := mB BK163 hb
         replace HB := mS (below_step (mH2 HB.out GE161.out GE163.out) hb)
         (try clear hb)
         (try clear hb2)
         (try clear hk)
         (try clear hi)
         refine hK.out _ _ (mc4 BK163.out) (fun hHeld => ?_)
         clear hK K
         refine mno 19 ?_
         refine mpu 3 20 HT_.out (mb 4 24) ?_
         refine mpu 4 21 HT_.out (mb 5 23) ?_
         refine mpu 5 22 HT_.out (mb 6 22) ?_
         refine mpt 6 23 HT_.out HW_.out (mb 7 21) hHeld ?_
         refine mone 7 (some 24) HT_.out (mb 8 20) (fun K hK => ?_)
         refine goes_ Try.func76 (by kernel_rfl) rfl #[.int .i64 ((rd_T35 l0_0 x3_1).f1), .int .i64 1, .int .i64 4] (by rfl) rfl rfl mA ?_
         with_reducible refine (spec_l1In.calls ((rd_T35 l0_0 x3_1).f1) 1 4 true _ A12.out).mono ?_
         rintro e w' ⟨rfl, ⟨nd, rfl⟩⟩
         refine ⟨_, rfl, ?_⟩
         refine hK.out _ _ (mc4 BK163.out) (fun hHeld => ?_)
         clear hK K
         refine mno 24 ?_
         refine mpu 8 25 HT_.out (mb 9 19) ?_
         refine mpu 9 26 HT_.out (mb 10 18) ?_
         refine mpu 10 27 HT_.out (mb 11 17) ?_
         refine mpu 11 28 HT_.out (mb 12 16) ?_
         refine mpu 12 29 HT_.out (mb 13 15) ?_
         refine mpu 13 30 HT_.out (mb 14 14) ?_
         refine mpf 14 31 HT_.out (mb 15 13) ?_
         refine mpf 15 32 HT_.out (mb 16 12) ?_
         refine mpf 16 33 HT_.out (mb 17 11) ?_
         refine mpf 17 34 HT_.out (mb 18 10) ?_
         refine mpf 18 35 HT_.out (mb 19 9) ?_
         refine mpf 19 36 HT_.out (mb 20 8) ?_
         refine mpf 20 37 HT_.out (mb 21 7) ?_
         refine mpf 21 38 HT_.out (mb 22 6) ?_
         refine mpf 22 39 HT_.out (mb 23 5) ?_
         refine mpf 23 40 HT_.out (mb 24 4) ?_
         refine mpf 24 41 HT_.out (mb 25 3) ?_
         refine mpf 25 42 HT_.out (mb 26 2) ?_
         refine mpu 26 43 HT_.out (mb 27 1) ?_
         refine mpu 27 44 HT_.out (mb 28 0) ?_
         refine done_ (done_of HT_.out (by kernel_rfl)) ?_
         try go_wp2
         go_meet
         case rel => exact ⟨_, (false), mE, H', ⟨by have := HK1.out; first | omega | exact Nat.le_refl _⟩, ⟨mK BK161.out⟩, ⟨mK BK163.out⟩, ⟨(mH2 HB.out GE161.out GE163.out)⟩⟩
       ·replace c13 := Bool.eq_false_iff.mpr c13
        subst c13
        have H1 := H
        rw [if_neg (show ¬ (false = true) by decide)] at H1
        clear H
        have H := H1
        clear H1
        have H' := mS H
        clear H
        try go_wp2
        generalize hW_ : ((((w7.setCell ⟨gb163, 0, none⟩ (.string ((rd_T35 l0_0 x3_1).f0.f0))).setCell ⟨gb163, 1, none⟩ (.string ((rd_T35 l0_0 x3_1).f0.f1))).setCell ⟨gb163, 2, none⟩ (.bool ((rd_T35 l0_0 x3_1).f0.f2))).setCell ⟨gb163, 3, none⟩ (.int .i64 ((rd_T35 l0_0 x3_1).f1))) = w24
        replace BK161 : Aside0 (w24.heap[gb161]? = some (.cells #[.slice (some ad162) l0_0.length c0_0] 26 (0, 0))) := by rw [← hW_]; exact ⟨mKf NB161_163.out BK161.out⟩
        replace BK163 : Aside0 (w24.heap[gb163]? = some (.cells #[.string ((rd_T35 l0_0 x3_1).f0.f0), .string ((rd_T35 l0_0 x3_1).f0.f1), .bool ((rd_T35 l0_0 x3_1).f0.f2), .int .i64 ((rd_T35 l0_0 x3_1).f1)] 35 (0, 0))) := by rw [← hW_]; exact ⟨by refine mK ?_; refine blk_put (cs := #[.string ((rd_T35 l0_0 x3_1).f0.f0), .string ((rd_T35 l0_0 x3_1).f0.f1), .bool ((rd_T35 l0_0 x3_1).f0.f2), .int .i64 0]) ?_ 3 _ rfl; refine mK ?_; refine blk_put (cs := #[.string ((rd_T35 l0_0 x3_1).f0.f0), .string ((rd_T35 l0_0 x3_1).f0.f1), .bool false, .int .i64 0]) ?_ 2 _ rfl; refine mK ?_; refine blk_put (cs := #[.string ((rd_T35 l0_0 x3_1).f0.f0), .string (⟨#[]⟩ : ByteArray), .bool false, .int .i64 0]) ?_ 1 _ rfl; refine mK ?_; refine blk_put (cs := #[.string (⟨#[]⟩ : ByteArray), .string (⟨#[]⟩ : ByteArray), .bool false, .int .i64 0]) ?_ 0 _ rfl; refine mK ?_; exact BK163.out⟩
        replace HB : Aside0 (Below w.heap.size w w24) := by rw [← hW_]; exact ⟨(mH2 HB.out GE161.out GE163.out)⟩
        clear hW_
        replace BK161 := mS (blk_drew BK161.out)
        replace BK163 := mS (blk_drew BK163.out)
        replace HB := mS (below_drew1 HB.out)
        refine start_ (n := 28) (S := fun w' => w'.cell? ⟨gb163, 0, none⟩ = some (.string ((rd_T35 l0_0 x3_1).f0.f0)) ∧ w'.cell? ⟨gb163, 1, none⟩ = some (.string ((rd_T35 l0_0 x3_1).f0.f1)) ∧ w'.cell? ⟨gb163, 2, none⟩ = some (.bool ((rd_T35 l0_0 x3_1).f0.f2)) ∧ w'.cell? ⟨gb163, 3, none⟩ = some (.int .i64 ((rd_T35 l0_0 x3_1).f1))) (ds := []) (mb 0 28) (by kernel_rfl) rfl rfl (mc4 BK163.out) (fun hHeld => ?_); refine with_tabW spec_MemOk.tab5 spec_MemOk.bits5 (fun HT_ HW_ => ?_)
        generalize w24.drew = w25 at BK161 BK163 HB hHeld ⊢
        refine mpu 0 17 HT_.out (mb 1 27) ?_
        refine mpt 1 18 HT_.out HW_.out (mb 2 26) hHeld ?_
        refine mone 2 (some 19) HT_.out (mb 3 25) (fun K hK => ?_)
        refine goes_ Try.func75 (by kernel_rfl) rfl #[.agg #[.string ((rd_T35 l0_0 x3_1).f0.f0), .string ((rd_T35 l0_0 x3_1).f0.f1), .bool ((rd_T35 l0_0 x3_1).f0.f2)]] (by rfl) rfl rfl mA ?_
        with_reducible refine (spec_PairOk.calls ((rd_T35 l0_0 x3_1).f0.f0) ((rd_T35 l0_0 x3_1).f0.f1) ((rd_T35 l0_0 x3_1).f0.f2) true _ A10.out).mono ?_
        rintro e w26 ⟨rfl, hb⟩
        refine ⟨_, rfl, ?_⟩
        replace BK161 := mB BK161 hb
        replace BK163 := mB BK163 hb
        replace HB := mS (below_step (mH2 HB.out GE161.out GE163.out) hb)
        (try clear hb)
        (try clear hb2)
        (try clear hk)
        (try clear hi)
        refine hK.out _ _ (mc4 BK163.out) (fun hHeld => ?_)
        clear hK K
        refine mno 19 ?_
        refine mpu 3 20 HT_.out (mb 4 24) ?_
        refine mpu 4 21 HT_.out (mb 5 23) ?_
        refine mpu 5 22 HT_.out (mb 6 22) ?_
        refine mpt 6 23 HT_.out HW_.out (mb 7 21) hHeld ?_
        refine mone 7 (some 24) HT_.out (mb 8 20) (fun K hK => ?_)
        refine goes_ Try.func76 (by kernel_rfl) rfl #[.int .i64 ((rd_T35 l0_0 x3_1).f1), .int .i64 1, .int .i64 4] (by rfl) rfl rfl mA ?_
        with_reducible refine (spec_l1In.calls ((rd_T35 l0_0 x3_1).f1) 1 4 false _ A12.out).mono ?_
        rintro e w' ⟨rfl, ⟨nd, rfl⟩⟩
        refine ⟨_, rfl, ?_⟩
        refine hK.out _ _ (mc4 BK163.out) (fun hHeld => ?_)
        clear hK K
        refine mno 24 ?_
        refine mpu 8 25 HT_.out (mb 9 19) ?_
        refine mpu 9 26 HT_.out (mb 10 18) ?_
        refine mpu 10 27 HT_.out (mb 11 17) ?_
        refine mpf 11 28 HT_.out (mb 12 16) ?_
        refine mpf 12 29 HT_.out (mb 13 15) ?_
        refine mpf 13 30 HT_.out (mb 14 14) ?_
        refine mpf 14 31 HT_.out (mb 15 13) ?_
        refine mpf 15 32 HT_.out (mb 16 12) ?_
        refine mpf 16 33 HT_.out (mb 17 11) ?_
        refine mpf 17 34 HT_.out (mb 18 10) ?_
        refine mpf 18 35 HT_.out (mb 19 9) ?_
        refine mpf 19 36 HT_.out (mb 20 8) ?_
        refine mpf 20 37 HT_.out (mb 21 7) ?_
        refine mpf 21 38 HT_.out (mb 22 6) ?_
        refine mpf 22 39 HT_.out (mb 23 5) ?_
        refine mpf 23 40 HT_.out (mb 24 4) ?_
        refine mpf 24 41 HT_.out (mb 25 3) ?_
        refine mpf 25 42 HT_.out (mb 26 2) ?_
        refine mpf 26 43 HT_.out (mb 27 1) ?_
        refine mpu 27 44 HT_.out (mb 28 0) ?_
        refine done_ (done_of HT_.out (by kernel_rfl)) ?_
        try go_wp2
        go_meet
        case rel => exact ⟨_, (true), mE, H', ⟨by have := HK1.out; first | omega | exact Nat.le_refl _⟩, ⟨mK BK161.out⟩, ⟨mK BK163.out⟩, ⟨(mH2 HB.out GE161.out GE163.out)⟩⟩
      ·replace c11 := Bool.eq_false_iff.mpr c11
       subst c11
       have H1 := H
       rw [if_neg (show ¬ (false = true) by decide)] at H1
       clear H
       have H := H1
       clear H1
       have H' := mS H
       clear H
       try go_wp2
       generalize hW_ : ((((w7.setCell ⟨gb163, 0, none⟩ (.string ((rd_T35 l0_0 x3_1).f0.f0))).setCell ⟨gb163, 1, none⟩ (.string ((rd_T35 l0_0 x3_1).f0.f1))).setCell ⟨gb163, 2, none⟩ (.bool ((rd_T35 l0_0 x3_1).f0.f2))).setCell ⟨gb163, 3, none⟩ (.int .i64 ((rd_T35 l0_0 x3_1).f1))) = w27
       replace BK161 : Aside0 (w27.heap[gb161]? = some (.cells #[.slice (some ad162) l0_0.length c0_0] 26 (0, 0))) := by rw [← hW_]; exact ⟨mKf NB161_163.out BK161.out⟩
       replace BK163 : Aside0 (w27.heap[gb163]? = some (.cells #[.string ((rd_T35 l0_0 x3_1).f0.f0), .string ((rd_T35 l0_0 x3_1).f0.f1), .bool ((rd_T35 l0_0 x3_1).f0.f2), .int .i64 ((rd_T35 l0_0 x3_1).f1)] 35 (0, 0))) := by rw [← hW_]; exact ⟨by refine mK ?_; refine blk_put (cs := #[.string ((rd_T35 l0_0 x3_1).f0.f0), .string ((rd_T35 l0_0 x3_1).f0.f1), .bool ((rd_T35 l0_0 x3_1).f0.f2), .int .i64 0]) ?_ 3 _ rfl; refine mK ?_; refine blk_put (cs := #[.string ((rd_T35 l0_0 x3_1).f0.f0), .string ((rd_T35 l0_0 x3_1).f0.f1), .bool false, .int .i64 0]) ?_ 2 _ rfl; refine mK ?_; refine blk_put (cs := #[.string ((rd_T35 l0_0 x3_1).f0.f0), .string (⟨#[]⟩ : ByteArray), .bool false, .int .i64 0]) ?_ 1 _ rfl; refine mK ?_; refine blk_put (cs := #[.string (⟨#[]⟩ : ByteArray), .string (⟨#[]⟩ : ByteArray), .bool false, .int .i64 0]) ?_ 0 _ rfl; refine mK ?_; exact BK163.out⟩
       replace HB : Aside0 (Below w.heap.size w w27) := by rw [← hW_]; exact ⟨(mH2 HB.out GE161.out GE163.out)⟩
       clear hW_
       replace BK161 := mS (blk_drew BK161.out)
       replace BK163 := mS (blk_drew BK163.out)
       replace HB := mS (below_drew1 HB.out)
       refine start_ (n := 28) (S := fun w' => w'.cell? ⟨gb163, 0, none⟩ = some (.string ((rd_T35 l0_0 x3_1).f0.f0)) ∧ w'.cell? ⟨gb163, 1, none⟩ = some (.string ((rd_T35 l0_0 x3_1).f0.f1)) ∧ w'.cell? ⟨gb163, 2, none⟩ = some (.bool ((rd_T35 l0_0 x3_1).f0.f2)) ∧ w'.cell? ⟨gb163, 3, none⟩ = some (.int .i64 ((rd_T35 l0_0 x3_1).f1))) (ds := []) (mb 0 28) (by kernel_rfl) rfl rfl (mc4 BK163.out) (fun hHeld => ?_); refine with_tabW spec_MemOk.tab5 spec_MemOk.bits5 (fun HT_ HW_ => ?_)
       generalize w27.drew = w28 at BK161 BK163 HB hHeld ⊢
       refine mpu 0 17 HT_.out (mb 1 27) ?_
       refine mpt 1 18 HT_.out HW_.out (mb 2 26) hHeld ?_
       refine mone 2 (some 19) HT_.out (mb 3 25) (fun K hK => ?_)
       refine goes_ Try.func75 (by kernel_rfl) rfl #[.agg #[.string ((rd_T35 l0_0 x3_1).f0.f0), .string ((rd_T35 l0_0 x3_1).f0.f1), .bool ((rd_T35 l0_0 x3_1).f0.f2)]] (by rfl) rfl rfl mA ?_
       with_reducible refine (spec_PairOk.calls ((rd_T35 l0_0 x3_1).f0.f0) ((rd_T35 l0_0 x3_1).f0.f1) ((rd_T35 l0_0 x3_1).f0.f2) false _ A10.out).mono ?_
       rintro e w29 ⟨rfl, hb⟩
       refine ⟨_, rfl, ?_⟩
       replace BK161 := mB BK161 hb
       replace BK163 := mB BK163 hb
       replace HB := mS (below_step (mH2 HB.out GE161.out GE163.out) hb)
       (try clear hb)
       (try clear hb2)
       (try clear hk)
       (try clear hi)
       refine hK.out _ _ (mc4 BK163.out) (fun hHeld => ?_)
       clear hK K
       refine mno 19 ?_
       refine mpu 3 20 HT_.out (mb 4 24) ?_
       refine mpu 4 21 HT_.out (mb 5 23) ?_
       refine mpf 5 22 HT_.out (mb 6 22) ?_
       refine mpf 6 23 HT_.out (mb 7 21) ?_
       refine mpf 7 24 HT_.out (mb 8 20) ?_
       refine mpf 8 25 HT_.out (mb 9 19) ?_
       refine mpu 9 26 HT_.out (mb 10 18) ?_
       refine mpu 10 27 HT_.out (mb 11 17) ?_
       refine mpf 11 28 HT_.out (mb 12 16) ?_
       refine mpf 12 29 HT_.out (mb 13 15) ?_
       refine mpf 13 30 HT_.out (mb 14 14) ?_
       refine mpf 14 31 HT_.out (mb 15 13) ?_
       refine mpf 15 32 HT_.out (mb 16 12) ?_
       refine mpf 16 33 HT_.out (mb 17 11) ?_
       refine mpf 17 34 HT_.out (mb 18 10) ?_
       refine mpf 18 35 HT_.out (mb 19 9) ?_
       refine mpf 19 36 HT_.out (mb 20 8) ?_
       refine mpf 20 37 HT_.out (mb 21 7) ?_
       refine mpf 21 38 HT_.out (mb 22 6) ?_
       refine mpf 22 39 HT_.out (mb 23 5) ?_
       refine mpf 23 40 HT_.out (mb 24 4) ?_
       refine mpf 24 41 HT_.out (mb 25 3) ?_
       refine mpf 25 42 HT_.out (mb 26 2) ?_
       refine mpf 26 43 HT_.out (mb 27 1) ?_
       refine mpu 27 44 HT_.out (mb 28 0) ?_
       refine done_ (done_of HT_.out (by kernel_rfl)) ?_
       try go_wp2
       go_meet
       case rel => exact ⟨_, (true), mE, H', ⟨by have := HK1.out; first | omega | exact Nat.le_refl _⟩, ⟨mK BK161.out⟩, ⟨mK BK163.out⟩, ⟨(mH2 HB.out GE161.out GE163.out)⟩⟩
     case rest =>
      clear HC5
      try clear c1
      try clear p2
      try clear c7
      try clear c11
      try clear c13
      obtain ⟨kq, x44_4, rfl, HA, HJ4, BK161, BK163, HB⟩ := hcut
      cases kq with
      | zero => exact absurd HA.out (by simp [spec_MemOk.j1])
      | succ kj4 =>
       have H := HA.out
       clear HA
       simp only [spec_MemOk.j1] at H
       by_cases c30 : x44_4 = true
       ·subst c30
        have H1 := H
        rw [if_pos rfl] at H1
        clear H
        have H := H1
        clear H1
        obtain rfl := Option.some.inj H
        go_wp2
        go_ret
        exact ⟨mEw, (mH2 HB.out GE161.out GE163.out)⟩
       ·replace c30 := Bool.eq_false_iff.mpr c30
        subst c30
        have H1 := H
        rw [if_neg (show ¬ (false = true) by decide)] at H1
        clear H
        have H := H1
        clear H1
        have H' := mS H
        clear H
        go_wp2
        go_roundg kj4
        case measure => have := HK1.out; have := HJ4.out; omega
        case rel => exact ⟨(wrap64 (x3_1 + 1)), mE, H', ⟨by have := HK1.out; have := HJ4.out; omega⟩, ⟨mK BK161.out⟩, ⟨(mH2 HB.out GE161.out GE163.out)⟩⟩
    ·rw [if_neg c4] at H
     exact absurd H (by simp)
   ·rw [if_neg c3] at H
    have c3b0 := decide_eq_false c3
    clear c3
    obtain rfl := Option.some.inj H
    have hcz31_0 := mZ BK161.out 0
    have hfz31_0 := blk_frozen BK161.out 0
    go_wp2
    go_ret
    exact ⟨mEw, (mH1 HB.out GE161.out)⟩

end Go.Proofs.Ytbepbgfkajnlbaa.MFnLeaps
