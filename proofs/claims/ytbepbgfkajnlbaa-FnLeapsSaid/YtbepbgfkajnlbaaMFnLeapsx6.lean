-- Written by mp.py, this session's own printer (wip/mp.py).
import Derived.Test.YtbepbgfkajnlbaaVMShort
import Derived.Test.YtbepbgfkajnlbaaMFnLeapsx0
import Derived.Test.YtbepbgfkajnlbaaMFnLeapsx5
namespace Go.Proofs.Ytbepbgfkajnlbaa.MFnLeaps
open Go.RowKit Go.Proofs.YtbepbgfkajnlbaaW.PrintWords Go.Proofs.YtbepbgfkajnlbaaW.PrintLast Go.Proofs.YtbepbgfkajnlbaaW.PrintMore Go.Proofs.Ytbepbgfkajnlbaa.MWords
attribute [local go_sem] max2_int min2_int max_two min_two max_three min_three max_four min_four   -- for this text's walks alone
set_option linter.unusedVariables false
set_option linter.unusedSimpArgs false

/-! ### impl_MemOk: function 18 -/
mutual
def impl_MemOk.l0 : Nat → List (S35) → Int → Int → List (S35) → Option (Bool)
 | 0, _, _, _, _ => none
 | k + 1, x6, x7, x8, x265000 => if x8 < x7 then (if 0 ≤ x8 then (if x8 < (x6.length : Int) then ((impl_PairOk.f ((rd_T35 x6 x8).f0.f0) ((rd_T35 x6 x8).f0.f1) ((rd_T35 x6 x8).f0.f2)).bind fun t267 => (if t267 = true then ((impl_in.f ((rd_T35 x6 x8).f1) 1 4).bind fun t268 => (if t268 = true then (if x8 > 0 then (if 0 ≤ (wrap64 (x8 - 1)) then (if (wrap64 (x8 - 1)) < (x265000.length : Int) then (impl_MemOk.j1 k x6 x7 x8 (!(Op.bytesLess (((rd_T35 x265000 (wrap64 (x8 - 1))).f0.f0).toList) (((rd_T35 x6 x8).f0.f0).toList))) x265000) else (none)) else (none)) else (impl_MemOk.j1 k x6 x7 x8 false x265000)) else (impl_MemOk.j1 k x6 x7 x8 true x265000))) else (impl_MemOk.j1 k x6 x7 x8 true x265000))) else (none)) else (none)) else (some (decide ((x265000.length : Int) ≤ 60)))
def impl_MemOk.j1 : Nat → List (S35) → Int → Int → Bool → List (S35) → Option (Bool)
 | 0, _, _, _, _, _ => none
 | k + 1, x6, x7, x8, x40, x265000 => if x40 = true then (some false) else (impl_MemOk.l0 k x6 x7 (wrap64 (x8 + 1)) x265000)
end
def impl_MemOk.f (k : Nat) (l0_0 : List (S35)) : Option (Bool) := impl_MemOk.l0 k l0_0 (l0_0.length : Int) 0 l0_0
theorem impl_MemOk.mono_l : ∀ k, (∀ y0 y1 y2 y3, LeO (impl_MemOk.l0 k y0 y1 y2 y3) (impl_MemOk.l0 (k + 1) y0 y1 y2 y3)) ∧ (∀ y0 y1 y2 y3 y4, LeO (impl_MemOk.j1 k y0 y1 y2 y3 y4) (impl_MemOk.j1 (k + 1) y0 y1 y2 y3 y4))
 | 0 => ⟨fun _ _ _ _ r h => by simp [impl_MemOk.l0] at h, fun _ _ _ _ _ r h => by simp [impl_MemOk.j1] at h⟩
 | k + 1 => by
  obtain ⟨ih0, ih1⟩ := impl_MemOk.mono_l k
  refine ⟨?_, ?_⟩
  ·intro y0 y1 y2 y3
   unfold impl_MemOk.l0
   repeat' first
   | (with_reducible exact ih0 _ _ _ _)
   | (with_reducible exact ih1 _ _ _ _ _)
   | (with_reducible exact LeO.refl _)
   | (with_reducible exact LeO.none _)
   | (with_reducible refine LeO.ite ?_ ?_)
   | (with_reducible refine LeO.bind ?_ (fun _ => ?_))
   | exact ih0 _ _ _ _
   | exact ih1 _ _ _ _ _
   | exact LeO.none _
   | refine LeO.ite ?_ ?_
   | refine LeO.bind ?_ (fun _ => ?_)
  ·intro y0 y1 y2 y3 y4
   unfold impl_MemOk.j1
   repeat' first
   | (with_reducible exact ih0 _ _ _ _)
   | (with_reducible exact ih1 _ _ _ _ _)
   | (with_reducible exact LeO.refl _)
   | (with_reducible exact LeO.none _)
   | (with_reducible refine LeO.ite ?_ ?_)
   | (with_reducible refine LeO.bind ?_ (fun _ => ?_))
   | exact ih0 _ _ _ _
   | exact ih1 _ _ _ _ _
   | exact LeO.none _
   | refine LeO.ite ?_ ?_
   | refine LeO.bind ?_ (fun _ => ?_)
theorem impl_MemOk.mono : ∀ a0 k, LeO (impl_MemOk.f k a0) (impl_MemOk.f (k + 1) a0) := by
 intro a0 k
 obtain ⟨ih0, ih1⟩ := impl_MemOk.mono_l k
 unfold impl_MemOk.f
 repeat' first
   | (with_reducible exact ih0 _ _ _ _)
   | (with_reducible exact ih1 _ _ _ _ _)
   | (with_reducible exact LeO.refl _)
   | (with_reducible exact LeO.none _)
   | (with_reducible refine LeO.ite ?_ ?_)
   | (with_reducible refine LeO.bind ?_ (fun _ => ?_))
   | exact ih0 _ _ _ _
   | exact ih1 _ _ _ _ _
   | exact LeO.none _
   | refine LeO.ite ?_ ?_
   | refine LeO.bind ?_ (fun _ => ?_)
def impl_MemOk.T4 : Bool × List (List Nat × List Nat) := (true, [([], []), ([0], [0]), ([1], [1]), ([2], [2]), ([3, 2], [3]), ([4], [4]), ([5, 4], [4, 5]), ([6, 4, 4], [4, 6]), ([7, 4], [4, 7]), ([4, 8], [4, 8]), ([9, 7], [9]), ([10], [10]), ([11, 10], [10, 11]), ([12, 10, 10], [10, 12]), ([13], [13]), ([14, 13], [13, 14]), ([13], [13]), ([16, 13], [13, 16]), ([15, 17, 13], [13, 15, 17]), ([18, 13], [13, 18]), ([19, 13], [13, 19]), ([20, 13], [13, 20]), ([13], [13]), ([22, 13], [13, 22]), ([23, 13], [13, 23]), ([21, 24, 13], [13, 21, 24]), ([13, 25, 10], [10, 13, 25]), ([10, 26], [10, 26])])
def impl_MemOk.B4 : List Nat := [0, 1, 3, 7, 15, 31, 63, 127, 255, 511, 1023, 2047, 4095, 8191, 16383, 32767, 16383, 81919, 262143, 524287, 1048575, 2097151, 16383, 4210687, 12599295, 33554431, 67108863, 134217727]
theorem impl_MemOk.tab4 : rtab .any (opsOf Try.f18 4) = impl_MemOk.T4 := by kernel_rfl
theorem impl_MemOk.bits4 : waitsOk impl_MemOk.T4.2 impl_MemOk.B4 = true := by kernel_rfl
set_option maxHeartbeats 8000000 in
set_option maxRecDepth 100000 in
theorem impl_MemOk.calls (k : Nat) (A0_0 : Option Addr) (c0_0 : Nat) (l0_0 : List (S35)) (r : Bool) (w : World) (hr0_0 : Kd.C k35 w A0_0 l0_0.length l0_0) (hc0_0 : l0_0.length ≤ c0_0) (h : impl_MemOk.f k l0_0 = some r) :
  Calls Try.prog 18 #[.agg #[.slice A0_0 l0_0.length c0_0]] w fun e w' => e = .returned (.bool r) ∧ Below w.heap.size w w' := by
 have hu26 := Try.underlying26
 have hu35 := Try.underlying35
 have hu33 := Try.underlying33
 have HR0_0 := mS hr0_0
 have HC0_0 := mS hc0_0
 clear hr0_0 hc0_0
 have HB := mS (Below.refl w.heap.size w)
 have H : (impl_MemOk.l0 k l0_0 (l0_0.length : Int) 0 l0_0) = some r := h
 clear h
 have H' := mS H
 clear H
 go_enter Try.func18, Try.ntmps18
 go_wp2_with (first | ((with_reducible refine gate_dst (N := 1) rfl ?_); refine mBx 1 #[.slice A0_0 l0_0.length c0_0] 26 ?_; intro gb264 hg w2 hbox hb; have BK264 := mS (hbox); have GW264 := mG hg (mH HB.out); have GE264 := mG hg (mH HB.out); replace HB := mS (below_step (mH HB.out) hb); clear hb hbox hg; have hcz3_0 := mZ BK264.out 0; have hfz3_0 := blk_frozen BK264.out 0))
 go_loopg [8] k (fun kq v8 w' => ∃ (x8_1 : Int), v8 = .int .i64 x8_1 ∧ Aside0 (impl_MemOk.l0 kq l0_0 (l0_0.length : Int) x8_1 l0_0 = some r) ∧ Aside0 (kq ≤ k) ∧ Aside0 (w'.heap[gb264]? = some (.cells #[(.slice A0_0 l0_0.length c0_0)] 26 (0, 0))) ∧ Aside0 (Below w.heap.size w w'))
 case atStart => exact ⟨(0), mE, H', ⟨Nat.le_refl _⟩, ⟨mK BK264.out⟩, ⟨(mH1 HB.out GE264.out)⟩⟩
 case round =>
  clear H'
  try clear c1
  try clear p2
  try clear hcz3_0
  try clear hfz3_0
  obtain ⟨x8_1, rfl, HA, HK1, BK264, HB⟩ := hrel
  cases gk with
  | zero => exact absurd HA.out (by simp [impl_MemOk.l0])
  | succ k1 =>
   have H := HA.out
   clear HA
   simp only [impl_MemOk.l0] at H
   by_cases c4 : x8_1 < (l0_0.length : Int)
   ·rw [if_pos c4] at H
    have c4b0 := decide_eq_true c4
    clear c4
    by_cases c5 : 0 ≤ x8_1
    ·rw [if_pos c5] at H
     have c5b0 := decide_eq_true c5
     clear c5
     by_cases c6 : x8_1 < (l0_0.length : Int)
     ·rw [if_pos c6] at H
      have c6b0 := decide_eq_true c6
      clear c6
      have HC7 := mS H
      clear H
      have p265 : 0 ≤ (x8_1 : Int) := mD
      have q265 : x8_1 < (l0_0.length : Int) := mD
      obtain ⟨ad265, e265, hx265_0, hx265_1, hx265_2, hx265_3⟩ := at_T35 HR0_0.out x8_1 p265 q265
      cases e265
      replace hx265_0 := mX HB.out hx265_0
      replace hx265_1 := mX HB.out hx265_1
      replace hx265_2 := mX HB.out hx265_2
      replace hx265_3 := mX HB.out hx265_3
      replace p265 := eq_true p265
      replace q265 := eq_true q265
      go_upto_region 4 with (first | ((with_reducible refine gate_dst (N := 4) rfl ?_); refine mBx 4 #[.string (⟨#[]⟩ : ByteArray), .string (⟨#[]⟩ : ByteArray), .bool false, .int .i64 0] 35 ?_; intro gb266 hg w8 hbox hb; have BK266 := mS (hbox); have GW266 := mG hg (mH1 HB.out GE264.out); have GE266 := mG hg (mH1 HB.out GE264.out); replace HB := mS (below_step (mH1 HB.out GE264.out) hb); have NB264_266 := mNl hg BK264.out; have NB266_264 := mNg hg BK264.out; replace BK264 := mB BK264 hb; clear hb hbox hg; have hnb9 := NB266_264.out; have hnc9 := NB264_266.out; obtain ⟨hcz10_0, hcz10_1, hcz10_2, hcz10_3, hfz10_0, hfz10_1, hfz10_2, hfz10_3⟩ := mZ4 BK266.out))
      (try simp only [Act.put, zA, zB, zC])
      go_cut [40] (fun v40 wc => ∃ (kq : Nat) (x40_6 : Bool), v40 = .bool x40_6 ∧ Aside0 (impl_MemOk.j1 kq l0_0 (l0_0.length : Int) x8_1 x40_6 l0_0 = some r) ∧ Aside0 (kq ≤ k1) ∧ Aside0 (wc.heap[gb264]? = some (.cells #[(.slice (some ad265) l0_0.length c0_0)] 26 (0, 0))) ∧ Aside0 (wc.heap[gb266]? = some (.cells #[.string ((rd_T35 l0_0 x8_1).f0.f0), .string ((rd_T35 l0_0 x8_1).f0.f1), .bool ((rd_T35 l0_0 x8_1).f0.f2), .int .i64 ((rd_T35 l0_0 x8_1).f1)] 35 (0, 0))) ∧ Aside0 (Below w.heap.size w wc))
      case first =>
       have H := HC7.out
       clear HC7
       replace H := Option.bind_eq_some_iff.mp H
       obtain ⟨t267, A110, H⟩ := H
       replace H : (if t267 = true then ((impl_in.f ((rd_T35 l0_0 x8_1).f1) 1 4).bind fun t268 => (if t268 = true then (if x8_1 > 0 then (if 0 ≤ (wrap64 (x8_1 - 1)) then (if (wrap64 (x8_1 - 1)) < (l0_0.length : Int) then (impl_MemOk.j1 k1 l0_0 (l0_0.length : Int) x8_1 (!(Op.bytesLess (((rd_T35 l0_0 (wrap64 (x8_1 - 1))).f0.f0).toList) (((rd_T35 l0_0 x8_1).f0.f0).toList))) l0_0) else (none)) else (none)) else (impl_MemOk.j1 k1 l0_0 (l0_0.length : Int) x8_1 false l0_0)) else (impl_MemOk.j1 k1 l0_0 (l0_0.length : Int) x8_1 true l0_0))) else (impl_MemOk.j1 k1 l0_0 (l0_0.length : Int) x8_1 true l0_0)) = some r := H
       have A11 := mS A110
       clear A110
       by_cases c12 : t267 = true
       ·subst c12
        have H1 := H
        rw [if_pos rfl] at H1
        clear H
        have H := H1
        clear H1
        replace H := Option.bind_eq_some_iff.mp H
        obtain ⟨t268, A130, H⟩ := H
        replace H : (if t268 = true then (if x8_1 > 0 then (if 0 ≤ (wrap64 (x8_1 - 1)) then (if (wrap64 (x8_1 - 1)) < (l0_0.length : Int) then (impl_MemOk.j1 k1 l0_0 (l0_0.length : Int) x8_1 (!(Op.bytesLess (((rd_T35 l0_0 (wrap64 (x8_1 - 1))).f0.f0).toList) (((rd_T35 l0_0 x8_1).f0.f0).toList))) l0_0) else (none)) else (none)) else (impl_MemOk.j1 k1 l0_0 (l0_0.length : Int) x8_1 false l0_0)) else (impl_MemOk.j1 k1 l0_0 (l0_0.length : Int) x8_1 true l0_0)) = some r := H
        have A13 := mS A130
        clear A130
        by_cases c14 : t268 = true
        ·subst c14
         have H1 := H
         rw [if_pos rfl] at H1
         clear H
         have H := H1
         clear H1
         by_cases c15 : x8_1 > 0
         ·rw [if_pos c15] at H
          have c15b0 : decide (0 < x8_1) = true := decide_eq_true c15
          clear c15
          (first | rw [c15b0] | (simp only [i64_w, i32_w]; rw [c15b0]) | skip)
          obtain ⟨ji16, hji16⟩ : ∃ j_ : Int, (wrap64 (x8_1 - 1)) = j_ := ⟨_, rfl⟩
          replace H : (if 0 ≤ (ji16) then (if (ji16) < (l0_0.length : Int) then (impl_MemOk.j1 k1 l0_0 (l0_0.length : Int) x8_1 (!(Op.bytesLess (((rd_T35 l0_0 (ji16)).f0.f0).toList) (((rd_T35 l0_0 x8_1).f0.f0).toList))) l0_0) else (none)) else (none)) = some r := by first | (rw [hji16] at H; exact H) | (simp only [hji16] at H ⊢; exact H)
          (try rw [hji16] at A11)
          (try rw [hji16] at A13)
          have hji16w : (IntKind.i64.wrap (x8_1 - 1)) = ji16 := (i64_w _).trans hji16
          by_cases c17 : 0 ≤ (ji16)
          ·rw [if_pos c17] at H
           have c17b0 := decide_eq_true c17
           clear c17
           by_cases c18 : (ji16) < (l0_0.length : Int)
           ·rw [if_pos c18] at H
            have c18b0 := decide_eq_true c18
            clear c18
            have H' := mS H
            clear H
            try go_wp2
            generalize hW_ : ((((w8.setCell ⟨gb266, 0, none⟩ (.string ((rd_T35 l0_0 x8_1).f0.f0))).setCell ⟨gb266, 1, none⟩ (.string ((rd_T35 l0_0 x8_1).f0.f1))).setCell ⟨gb266, 2, none⟩ (.bool ((rd_T35 l0_0 x8_1).f0.f2))).setCell ⟨gb266, 3, none⟩ (.int .i64 ((rd_T35 l0_0 x8_1).f1))) = w19
            replace BK264 : Aside0 (w19.heap[gb264]? = some (.cells #[.slice (some ad265) l0_0.length c0_0] 26 (0, 0))) := by rw [← hW_]; exact ⟨mKf NB264_266.out BK264.out⟩
            replace BK266 : Aside0 (w19.heap[gb266]? = some (.cells #[.string ((rd_T35 l0_0 x8_1).f0.f0), .string ((rd_T35 l0_0 x8_1).f0.f1), .bool ((rd_T35 l0_0 x8_1).f0.f2), .int .i64 ((rd_T35 l0_0 x8_1).f1)] 35 (0, 0))) := by rw [← hW_]; exact ⟨by refine mK ?_; refine blk_put (cs := #[.string ((rd_T35 l0_0 x8_1).f0.f0), .string ((rd_T35 l0_0 x8_1).f0.f1), .bool ((rd_T35 l0_0 x8_1).f0.f2), .int .i64 0]) ?_ 3 _ rfl; refine mK ?_; refine blk_put (cs := #[.string ((rd_T35 l0_0 x8_1).f0.f0), .string ((rd_T35 l0_0 x8_1).f0.f1), .bool false, .int .i64 0]) ?_ 2 _ rfl; refine mK ?_; refine blk_put (cs := #[.string ((rd_T35 l0_0 x8_1).f0.f0), .string (⟨#[]⟩ : ByteArray), .bool false, .int .i64 0]) ?_ 1 _ rfl; refine mK ?_; refine blk_put (cs := #[.string (⟨#[]⟩ : ByteArray), .string (⟨#[]⟩ : ByteArray), .bool false, .int .i64 0]) ?_ 0 _ rfl; refine mK ?_; exact BK266.out⟩
            replace HB : Aside0 (Below w.heap.size w w19) := by rw [← hW_]; exact ⟨(mH2 HB.out GE264.out GE266.out)⟩
            clear hW_
            replace BK264 := mS (blk_drew BK264.out)
            replace BK266 := mS (blk_drew BK266.out)
            replace HB := mS (below_drew1 HB.out)
            have p269 : 0 ≤ ((ji16) : Int) := mD
            have q269 : (ji16) < (l0_0.length : Int) := mD
            obtain ⟨ad269, e269, hx269_0, hx269_1, hx269_2, hx269_3⟩ := at_T35 HR0_0.out (ji16) p269 q269
            have hw269_3 := hx269_3
            have hw269_2 := hx269_2
            have hw269_1 := hx269_1
            have hw269_0 := hx269_0
            obtain rfl : ad265 = ad269 := (by injection e269)
            replace hx269_0 := mX HB.out hx269_0
            replace hx269_1 := mX HB.out hx269_1
            replace hx269_2 := mX HB.out hx269_2
            replace hx269_3 := mX HB.out hx269_3
            replace p269 := eq_true p269
            replace q269 := eq_true q269
            refine start_ (n := 28) (S := fun w' => w'.cell? ⟨gb266, 0, none⟩ = some (.string ((rd_T35 l0_0 x8_1).f0.f0)) ∧ w'.cell? ⟨gb266, 1, none⟩ = some (.string ((rd_T35 l0_0 x8_1).f0.f1)) ∧ w'.cell? ⟨gb266, 2, none⟩ = some (.bool ((rd_T35 l0_0 x8_1).f0.f2)) ∧ w'.cell? ⟨gb266, 3, none⟩ = some (.int .i64 ((rd_T35 l0_0 x8_1).f1)) ∧ w'.cell? ⟨gb264, 0, none⟩ = some (.slice (some ad265) l0_0.length c0_0) ∧ w'.cell? (ad265.add (((ji16)).toNat * 4)) = some (.string ((rd_T35 l0_0 (ji16)).f0.f0)) ∧ w'.cell? ⟨(ad265.add (((ji16)).toNat * 4)).block, (ad265.add (((ji16)).toNat * 4)).off + 1, none⟩ = some (.string ((rd_T35 l0_0 (ji16)).f0.f1)) ∧ w'.cell? ⟨(ad265.add (((ji16)).toNat * 4)).block, (ad265.add (((ji16)).toNat * 4)).off + 2, none⟩ = some (.bool ((rd_T35 l0_0 (ji16)).f0.f2)) ∧ w'.cell? ⟨(ad265.add (((ji16)).toNat * 4)).block, (ad265.add (((ji16)).toNat * 4)).off + 3, none⟩ = some (.int .i64 ((rd_T35 l0_0 (ji16)).f1))) (ds := []) (mb 0 28) (by kernel_rfl) rfl rfl (mb4 BK266.out ⟨mZ BK264.out 0, ⟨(mX HB.out hw269_0 :), ⟨(mX HB.out hw269_1 :), ⟨(mX HB.out hw269_2 :), (mX HB.out hw269_3 :)⟩⟩⟩⟩) (fun hHeld => ?_); refine with_tabW impl_MemOk.tab4 impl_MemOk.bits4 (fun HT_ HW_ => ?_)
            generalize w19.drew = w20 at BK264 BK266 HB hx269_0 hx269_1 hx269_2 hx269_3 hHeld ⊢
            refine mpu 0 13 HT_.out (mb 1 27) ?_
            refine mpt 1 14 HT_.out HW_.out (mb 2 26) hHeld ?_
            refine mone 2 (some 15) HT_.out (mb 3 25) (fun K hK => ?_)
            refine goes_ Try.func23 (by kernel_rfl) rfl #[.agg #[.string ((rd_T35 l0_0 x8_1).f0.f0), .string ((rd_T35 l0_0 x8_1).f0.f1), .bool ((rd_T35 l0_0 x8_1).f0.f2)]] (by rfl) rfl rfl mA ?_
            with_reducible refine (impl_PairOk.calls ((rd_T35 l0_0 x8_1).f0.f0) ((rd_T35 l0_0 x8_1).f0.f1) ((rd_T35 l0_0 x8_1).f0.f2) true _ A11.out).mono ?_
            rintro e w21 ⟨rfl, hb⟩
            refine ⟨_, rfl, ?_⟩
            replace BK264 := mB BK264 hb
            replace BK266 := mB BK266 hb
            replace HB := mS (below_step (mH2 HB.out GE264.out GE266.out) hb)
            (try clear hb)
            (try clear hb2)
            (try clear hk)
            (try clear hi)
            refine hK.out _ _ (mb4 BK266.out ⟨mZ BK264.out 0, ⟨(mX HB.out hw269_0 :), ⟨(mX HB.out hw269_1 :), ⟨(mX HB.out hw269_2 :), (mX HB.out hw269_3 :)⟩⟩⟩⟩) (fun hHeld => ?_)
            clear hK K
            refine mno 15 ?_
            refine mpu 3 16 HT_.out (mb 4 24) ?_
            refine mpu 4 17 HT_.out (mb 5 23) ?_
            refine mpu 5 18 HT_.out (mb 6 22) ?_
            refine mpt 6 19 HT_.out HW_.out (mb 7 21) hHeld ?_
            refine mone 7 (some 20) HT_.out (mb 8 20) (fun K hK => ?_)
            refine goes_ Try.func77 (by kernel_rfl) rfl #[.int .i64 ((rd_T35 l0_0 x8_1).f1), .int .i64 1, .int .i64 4] (by rfl) rfl rfl mA ?_
            with_reducible refine (impl_in.calls ((rd_T35 l0_0 x8_1).f1) 1 4 true _ A13.out).mono ?_
            rintro e w' ⟨rfl, ⟨nd, rfl⟩⟩
            refine ⟨_, rfl, ?_⟩
            refine hK.out _ _ (mb4 BK266.out ⟨mZ BK264.out 0, ⟨(mX HB.out hw269_0 :), ⟨(mX HB.out hw269_1 :), ⟨(mX HB.out hw269_2 :), (mX HB.out hw269_3 :)⟩⟩⟩⟩) (fun hHeld => ?_)
            clear hK K
            refine mno 20 ?_
            refine mpu 8 21 HT_.out (mb 9 19) ?_
            refine mpu 9 22 HT_.out (mb 10 18) ?_
            refine mpu 10 23 HT_.out (mb 11 17) ?_
            refine mpu 11 24 HT_.out (mb 12 16) ?_
            refine mpu 12 25 HT_.out (mb 13 15) ?_
            refine mpu 13 26 HT_.out (mb 14 14) ?_
            refine mpu 14 27 HT_.out (mb 15 13) ?_
            refine mpu 16 29 HT_.out (mr [15,1,1,11]) ?_
            refine mpu 17 30 HT_.out (mr [15,1,2,10]) ?_
            refine mpu 22 35 HT_.out (mr [15,1,2,4,1,5]) ?_
            refine mpu 23 36 HT_.out (mr [15,1,2,4,2,4]) ?_
            refine mpt 15 28 HT_.out HW_.out (mr [18,4,2,4]) hHeld ?_
            refine mpu 18 31 HT_.out (mr [19,3,2,4]) ?_
            refine mpu 19 32 HT_.out (mr [20,2,2,4]) ?_
            refine mpu 20 33 HT_.out (mr [21,1,2,4]) ?_
            refine mpt 21 34 HT_.out HW_.out (mb 24 4) hHeld ?_
            refine mpt 24 37 HT_.out HW_.out (mb 25 3) hHeld ?_
            refine mpu 25 38 HT_.out (mb 26 2) ?_
            refine mpu 26 39 HT_.out (mb 27 1) ?_
            refine mpu 27 40 HT_.out (mb 28 0) ?_
            refine done_ (done_of HT_.out (by kernel_rfl)) ?_
            try go_wp2
            go_meet
            case rel => exact ⟨_, (!(Op.bytesLess (((rd_T35 l0_0 (ji16)).f0.f0).toList) (((rd_T35 l0_0 x8_1).f0.f0).toList))), (by first | rfl | (simp; done) | (simp only [← hji16] <;> (first | rfl | simp)) | (simp [*]; done)), H', ⟨by have := HK1.out; first | omega | exact Nat.le_refl _⟩, ⟨mK BK264.out⟩, ⟨mK BK266.out⟩, ⟨(mH2 HB.out GE264.out GE266.out)⟩⟩
           ·rw [if_neg c18] at H
            exact absurd H (by simp)
          ·rw [if_neg c17] at H
           exact absurd H (by simp)
         ·rw [if_neg c15] at H
          have c15b0 : decide (0 < x8_1) = false := decide_eq_false c15
          clear c15
          (first | rw [c15b0] | (simp only [i64_w, i32_w]; rw [c15b0]) | skip)
          have H' := mS H
          clear H
          try go_wp2
          generalize hW_ : ((((w8.setCell ⟨gb266, 0, none⟩ (.string ((rd_T35 l0_0 x8_1).f0.f0))).setCell ⟨gb266, 1, none⟩ (.string ((rd_T35 l0_0 x8_1).f0.f1))).setCell ⟨gb266, 2, none⟩ (.bool ((rd_T35 l0_0 x8_1).f0.f2))).setCell ⟨gb266, 3, none⟩ (.int .i64 ((rd_T35 l0_0 x8_1).f1))) = w22
          replace BK264 : Aside0 (w22.heap[gb264]? = some (.cells #[.slice (some ad265) l0_0.length c0_0] 26 (0, 0))) := by rw [← hW_]; exact ⟨mKf NB264_266.out BK264.out⟩
          replace BK266 : Aside0 (w22.heap[gb266]? = some (.cells #[.string ((rd_T35 l0_0 x8_1).f0.f0), .string ((rd_T35 l0_0 x8_1).f0.f1), .bool ((rd_T35 l0_0 x8_1).f0.f2), .int .i64 ((rd_T35 l0_0 x8_1).f1)] 35 (0, 0))) := by rw [← hW_]; exact ⟨by refine mK ?_; refine blk_put (cs := #[.string ((rd_T35 l0_0 x8_1).f0.f0), .string ((rd_T35 l0_0 x8_1).f0.f1), .bool ((rd_T35 l0_0 x8_1).f0.f2), .int .i64 0]) ?_ 3 _ rfl; refine mK ?_; refine blk_put (cs := #[.string ((rd_T35 l0_0 x8_1).f0.f0), .string ((rd_T35 l0_0 x8_1).f0.f1), .bool false, .int .i64 0]) ?_ 2 _ rfl; refine mK ?_; refine blk_put (cs := #[.string ((rd_T35 l0_0 x8_1).f0.f0), .string (⟨#[]⟩ : ByteArray), .bool false, .int .i64 0]) ?_ 1 _ rfl; refine mK ?_; refine blk_put (cs := #[.string (⟨#[]⟩ : ByteArray), .string (⟨#[]⟩ : ByteArray), .bool false, .int .i64 0]) ?_ 0 _ rfl; refine mK ?_; exact BK266.out⟩
          replace HB : Aside0 (Below w.heap.size w w22) := by rw [← hW_]; exact ⟨(mH2 HB.out GE264.out GE266.out)⟩
          clear hW_
          replace BK264 := mS (blk_drew BK264.out)
          replace BK266 := mS (blk_drew BK266.out)
          replace HB := mS (below_drew1 HB.out)
          refine start_ (n := 28) (S := fun w' => w'.cell? ⟨gb266, 0, none⟩ = some (.string ((rd_T35 l0_0 x8_1).f0.f0)) ∧ w'.cell? ⟨gb266, 1, none⟩ = some (.string ((rd_T35 l0_0 x8_1).f0.f1)) ∧ w'.cell? ⟨gb266, 2, none⟩ = some (.bool ((rd_T35 l0_0 x8_1).f0.f2)) ∧ w'.cell? ⟨gb266, 3, none⟩ = some (.int .i64 ((rd_T35 l0_0 x8_1).f1))) (ds := []) (mb 0 28) (by kernel_rfl) rfl rfl (mc4 BK266.out) (fun hHeld => ?_); refine with_tabW impl_MemOk.tab4 impl_MemOk.bits4 (fun HT_ HW_ => ?_)
          generalize w22.drew = w23 at BK264 BK266 HB hHeld ⊢
          refine mpu 0 13 HT_.out (mb 1 27) ?_
          refine mpt 1 14 HT_.out HW_.out (mb 2 26) hHeld ?_
          refine mone 2 (some 15) HT_.out (mb 3 25) (fun K hK => ?_)
          refine goes_ Try.func23 (by kernel_rfl) rfl #[.agg #[.string ((rd_T35 l0_0 x8_1).f0.f0), .string ((rd_T35 l0_0 x8_1).f0.f1), .bool ((rd_T35 l0_0 x8_1).f0.f2)]] (by rfl) rfl rfl mA ?_
          with_reducible refine (impl_PairOk.calls ((rd_T35 l0_0 x8_1).f0.f0) ((rd_T35 l0_0 x8_1).f0.f1) ((rd_T35 l0_0 x8_1).f0.f2) true _ A11.out).mono ?_
          rintro e w24 ⟨rfl, hb⟩
          refine ⟨_, rfl, ?_⟩
          replace BK264 := mB BK264 hb
          replace BK266 := mB BK266 hb
          replace HB := mS (below_step (mH2 HB.out GE264.out GE266.out) hb)
          (try clear hb)
          (try clear hb2)
          (try clear hk)
          (try clear hi)
          refine hK.out _ _ (mc4 BK266.out) (fun hHeld => ?_)
          clear hK K
          refine mno 15 ?_
          refine mpu 3 16 HT_.out (mb 4 24) ?_
          refine mpu 4 17 HT_.out (mb 5 23) ?_
          refine mpu 5 18 HT_.out (mb 6 22) ?_
          refine mpt 6 19 HT_.out HW_.out (mb 7 21) hHeld ?_
          refine mone 7 (some 20) HT_.out (mb 8 20) (fun K hK => ?_)
          refine goes_ Try.func77 (by kernel_rfl) rfl #[.int .i64 ((rd_T35 l0_0 x8_1).f1), .int .i64 1, .int .i64 4] (by rfl) rfl rfl mA ?_
          with_reducible refine (impl_in.calls ((rd_T35 l0_0 x8_1).f1) 1 4 true _ A13.out).mono ?_
          rintro e w' ⟨rfl, ⟨nd, rfl⟩⟩
          refine ⟨_, rfl, ?_⟩
          refine hK.out _ _ (mc4 BK266.out) (fun hHeld => ?_)
          clear hK K
          refine mno 20 ?_
          refine mpu 8 21 HT_.out (mb 9 19) ?_
          refine mpu 9 22 HT_.out (mb 10 18) ?_
          refine mpu 10 23 HT_.out (mb 11 17) ?_
          refine mpu 11 24 HT_.out (mb 12 16) ?_
          refine mpu 12 25 HT_.out (mb 13 15) ?_
          refine mpu 13 26 HT_.out (mb 14 14) ?_
          refine mpf 14 27 HT_.out (mb 15 13) ?_
          refine mpf 15 28 HT_.out (mb 16 12) ?_
          refine mpf 16 29 HT_.out (mb 17 11) ?_
          refine mpf 17 30 HT_.out (mb 18 10) ?_
          refine mpf 18 31 HT_.out (mb 19 9) ?_
          refine mpf 19 32 HT_.out (mb 20 8) ?_
          refine mpf 20 33 HT_.out (mb 21 7) ?_
          refine mpf 21 34 HT_.out (mb 22 6) ?_
          refine mpf 22 35 HT_.out (mb 23 5) ?_
          refine mpf 23 36 HT_.out (mb 24 4) ?_
          refine mpf 24 37 HT_.out (mb 25 3) ?_
          refine mpf 25 38 HT_.out (mb 26 2) ?_
          refine mpu 26 39 HT_.out (mb 27 1) ?_
          refine mpu 27 40 HT_.out (mb 28 0) ?_
          refine done_ (done_of HT_.out (by kernel_rfl)) ?_
          try go_wp2
          go_meet
          case rel => exact ⟨_, (false), mE, H', ⟨by have := HK1.out; first | omega | exact Nat.le_refl _⟩, ⟨mK BK264.out⟩, ⟨mK BK266.out⟩, ⟨(mH2 HB.out GE264.out GE266.out)⟩⟩
        ·replace c14 := Bool.eq_false_iff.mpr c14
         subst c14
         have H1 := H
         rw [if_neg (show ¬ (false = true) by decide)] at H1
         clear H
         have H := H1
         clear H1
         have H' := mS H
         clear H
         try go_wp2
         generalize hW_ : ((((w8.setCell ⟨gb266, 0, none⟩ (.string ((rd_T35 l0_0 x8_1).f0.f0))).setCell ⟨gb266, 1, none⟩ (.string ((rd_T35 l0_0 x8_1).f0.f1))).setCell ⟨gb266, 2, none⟩ (.bool ((rd_T35 l0_0 x8_1).f0.f2))).setCell ⟨gb266, 3, none⟩ (.int .i64 ((rd_T35 l0_0 x8_1).f1))) = w25
         replace BK264 : Aside0 (w25.heap[gb264]? = some (.cells #[.slice (some ad265) l0_0.length c0_0] 26 (0, 0))) := by rw [← hW_]; exact ⟨mKf NB264_266.out BK264.out⟩
         replace BK266 : Aside0 (w25.heap[gb266]? = some (.cells #[.string ((rd_T35 l0_0 x8_1).f0.f0), .string ((rd_T35 l0_0 x8_1).f0.f1), .bool ((rd_T35 l0_0 x8_1).f0.f2), .int .i64 ((rd_T35 l0_0 x8_1).f1)] 35 (0, 0))) := by rw [← hW_]; exact ⟨by refine mK ?_; refine blk_put (cs := #[.string ((rd_T35 l0_0 x8_1).f0.f0), .string ((rd_T35 l0_0 x8_1).f0.f1), .bool ((rd_T35 l0_0 x8_1).f0.f2), .int .i64 0]) ?_ 3 _ rfl; refine mK ?_; refine blk_put (cs := #[.string ((rd_T35 l0_0 x8_1).f0.f0), .string ((rd_T35 l0_0 x8_1).f0.f1), .bool false, .int .i64 0]) ?_ 2 _ rfl; refine mK ?_; refine blk_put (cs := #[.string ((rd_T35 l0_0 x8_1).f0.f0), .string (⟨#[]⟩ : ByteArray), .bool false, .int .i64 0]) ?_ 1 _ rfl; refine mK ?_; refine blk_put (cs := #[.string (⟨#[]⟩ : ByteArray), .string (⟨#[]⟩ : ByteArray), .bool false, .int .i64 0]) ?_ 0 _ rfl; refine mK ?_; exact BK266.out⟩
         replace HB : Aside0 (Below w.heap.size w w25) := by rw [← hW_]; exact ⟨(mH2 HB.out GE264.out GE266.out)⟩
         clear hW_
         replace BK264 := mS (blk_drew BK264.out)
         replace BK266 := mS (blk_drew BK266.out)
         replace HB := mS (below_drew1 HB.out)
         refine start_ (n := 28) (S := fun w' => w'.cell? ⟨gb266, 0, none⟩ = some (.string ((rd_T35 l0_0 x8_1).f0.f0)) ∧ w'.cell? ⟨gb266, 1, none⟩ = some (.string ((rd_T35 l0_0 x8_1).f0.f1)) ∧ w'.cell? ⟨gb266, 2, none⟩ = some (.bool ((rd_T35 l0_0 x8_1).f0.f2)) ∧ w'.cell? ⟨gb266, 3, none⟩ = some (.int .i64 ((rd_T35 l0_0 x8_1).f1))) (ds := []) (mb 0 28) (by kernel_rfl) rfl rfl (mc4 BK266.out) (fun hHeld => ?_); refine with_tabW impl_MemOk.tab4 impl_MemOk.bits4 (fun HT_ HW_ => ?_)
         generalize w25.drew = w26 at BK264 BK266 HB hHeld ⊢
         refine mpu 0 13 HT_.out (mb 1 27) ?_
         refine mpt 1 14 HT_.out HW_.out (mb 2 26) hHeld ?_
         refine mone 2 (some 15) HT_.out (mb 3 25) (fun K hK => ?_)
         refine goes_ Try.func23 (by kernel_rfl) rfl #[.agg #[.string ((rd_T35 l0_0 x8_1).f0.f0), .string ((rd_T35 l0_0 x8_1).f0.f1), .bool ((rd_T35 l0_0 x8_1).f0.f2)]] (by rfl) rfl rfl mA ?_
         with_reducible refine (impl_PairOk.calls ((rd_T35 l0_0 x8_1).f0.f0) ((rd_T35 l0_0 x8_1).f0.f1) ((rd_T35 l0_0 x8_1).f0.f2) true _ A11.out).mono ?_
         rintro e w27 ⟨rfl, hb⟩
         refine ⟨_, rfl, ?_⟩
         replace BK264 := mB BK264 hb
         replace BK266 := mB BK266 hb
         replace HB := mS (below_step (mH2 HB.out GE264.out GE266.out) hb)
         (try clear hb)
         (try clear hb2)
         (try clear hk)
         (try clear hi)
         refine hK.out _ _ (mc4 BK266.out) (fun hHeld => ?_)
         clear hK K
         refine mno 15 ?_
         refine mpu 3 16 HT_.out (mb 4 24) ?_
         refine mpu 4 17 HT_.out (mb 5 23) ?_
         refine mpu 5 18 HT_.out (mb 6 22) ?_
         refine mpt 6 19 HT_.out HW_.out (mb 7 21) hHeld ?_
         refine mone 7 (some 20) HT_.out (mb 8 20) (fun K hK => ?_)
         refine goes_ Try.func77 (by kernel_rfl) rfl #[.int .i64 ((rd_T35 l0_0 x8_1).f1), .int .i64 1, .int .i64 4] (by rfl) rfl rfl mA ?_
         with_reducible refine (impl_in.calls ((rd_T35 l0_0 x8_1).f1) 1 4 false _ A13.out).mono ?_
         rintro e w' ⟨rfl, ⟨nd, rfl⟩⟩
         refine ⟨_, rfl, ?_⟩
         refine hK.out _ _ (mc4 BK266.out) (fun hHeld => ?_)
         clear hK K
         refine mno 20 ?_
         refine mpu 8 21 HT_.out (mb 9 19) ?_
         refine mpu 9 22 HT_.out (mb 10 18) ?_
         refine mpu 10 23 HT_.out (mb 11 17) ?_
         refine mpf 11 24 HT_.out (mb 12 16) ?_
         refine mpf 12 25 HT_.out (mb 13 15) ?_
         refine mpf 13 26 HT_.out (mb 14 14) ?_
         refine mpf 14 27 HT_.out (mb 15 13) ?_
         refine mpf 15 28 HT_.out (mb 16 12) ?_
         refine mpf 16 29 HT_.out (mb 17 11) ?_
         refine mpf 17 30 HT_.out (mb 18 10) ?_
         refine mpf 18 31 HT_.out (mb 19 9) ?_
         refine mpf 19 32 HT_.out (mb 20 8) ?_
         refine mpf 20 33 HT_.out (mb 21 7) ?_
         refine mpf 21 34 HT_.out (mb 22 6) ?_
         refine mpf 22 35 HT_.out (mb 23 5) ?_
         refine mpf 23 36 HT_.out (mb 24 4) ?_
         refine mpf 24 37 HT_.out (mb 25 3) ?_
         refine mpf 25 38 HT_.out (mb 26 2) ?_
         refine mpf 26 39 HT_.out (mb 27 1) ?_
         refine mpu 27 40 HT_.out (mb 28 0) ?_
         refine done_ (done_of HT_.out (by kernel_rfl)) ?_
         try go_wp2
         go_meet
         case rel => exact ⟨_, (true), mE, H', ⟨by have := HK1.out; first | omega | exact Nat.le_refl _⟩, ⟨mK BK264.out⟩, ⟨mK BK266.out⟩, ⟨(mH2 HB.out GE264.out GE266.out)⟩⟩
       ·replace c12 := Bool.eq_false_iff.mpr c12
        subst c12
        have H1 := H
        rw [if_neg (show ¬ (false = true) by decide)] at H1
        clear H
        have H := H1
        clear H1
        have H' := mS H
        clear H
        try go_wp2
        generalize hW_ : ((((w8.setCell ⟨gb266, 0, none⟩ (.string ((rd_T35 l0_0 x8_1).f0.f0))).setCell ⟨gb266, 1, none⟩ (.string ((rd_T35 l0_0 x8_1).f0.f1))).setCell ⟨gb266, 2, none⟩ (.bool ((rd_T35 l0_0 x8_1).f0.f2))).setCell ⟨gb266, 3, none⟩ (.int .i64 ((rd_T35 l0_0 x8_1).f1))) = w28
        replace BK264 : Aside0 (w28.heap[gb264]? = some (.cells #[.slice (some ad265) l0_0.length c0_0] 26 (0, 0))) := by rw [← hW_]; exact ⟨mKf NB264_266.out BK264.out⟩
        replace BK266 : Aside0 (w28.heap[gb266]? = some (.cells #[.string ((rd_T35 l0_0 x8_1).f0.f0), .string ((rd_T35 l0_0 x8_1).f0.f1), .bool ((rd_T35 l0_0 x8_1).f0.f2), .int .i64 ((rd_T35 l0_0 x8_1).f1)] 35 (0, 0))) := by rw [← hW_]; exact ⟨by refine mK ?_; refine blk_put (cs := #[.string ((rd_T35 l0_0 x8_1).f0.f0), .string ((rd_T35 l0_0 x8_1).f0.f1), .bool ((rd_T35 l0_0 x8_1).f0.f2), .int .i64 0]) ?_ 3 _ rfl; refine mK ?_; refine blk_put (cs := #[.string ((rd_T35 l0_0 x8_1).f0.f0), .string ((rd_T35 l0_0 x8_1).f0.f1), .bool false, .int .i64 0]) ?_ 2 _ rfl; refine mK ?_; refine blk_put (cs := #[.string ((rd_T35 l0_0 x8_1).f0.f0), .string (⟨#[]⟩ : ByteArray), .bool false, .int .i64 0]) ?_ 1 _ rfl; refine mK ?_; refine blk_put (cs := #[.string (⟨#[]⟩ : ByteArray), .string (⟨#[]⟩ : ByteArray), .bool false, .int .i64 0]) ?_ 0 _ rfl; refine mK ?_; exact BK266.out⟩
        replace HB : Aside0 (Below w.heap.size w w28) := by rw [← hW_]; exact ⟨(mH2 HB.out GE264.out GE266.out)⟩
        clear hW_
        replace BK264 := mS (blk_drew BK264.out)
        replace BK266 := mS (blk_drew BK266.out)
        replace HB := mS (below_drew1 HB.out)
        refine start_ (n := 28) (S := fun w' => w'.cell? ⟨gb266, 0, none⟩ = some (.string ((rd_T35 l0_0 x8_1).f0.f0)) ∧ w'.cell? ⟨gb266, 1, none⟩ = some (.string ((rd_T35 l0_0 x8_1).f0.f1)) ∧ w'.cell? ⟨gb266, 2, none⟩ = some (.bool ((rd_T35 l0_0 x8_1).f0.f2)) ∧ w'.cell? ⟨gb266, 3, none⟩ = some (.int .i64 ((rd_T35 l0_0 x8_1).f1))) (ds := []) (mb 0 28) (by kernel_rfl) rfl rfl (mc4 BK266.out) (fun hHeld => ?_); refine with_tabW impl_MemOk.tab4 impl_MemOk.bits4 (fun HT_ HW_ => ?_)
        generalize w28.drew = w29 at BK264 BK266 HB hHeld ⊢
        refine mpu 0 13 HT_.out (mb 1 27) ?_
        refine mpt 1 14 HT_.out HW_.out (mb 2 26) hHeld ?_
        refine mone 2 (some 15) HT_.out (mb 3 25) (fun K hK => ?_)
        refine goes_ Try.func23 (by kernel_rfl) rfl #[.agg #[.string ((rd_T35 l0_0 x8_1).f0.f0), .string ((rd_T35 l0_0 x8_1).f0.f1), .bool ((rd_T35 l0_0 x8_1).f0.f2)]] (by rfl) rfl rfl mA ?_
        with_reducible refine (impl_PairOk.calls ((rd_T35 l0_0 x8_1).f0.f0) ((rd_T35 l0_0 x8_1).f0.f1) ((rd_T35 l0_0 x8_1).f0.f2) false _ A11.out).mono ?_
        rintro e w30 ⟨rfl, hb⟩
        refine ⟨_, rfl, ?_⟩
        replace BK264 := mB BK264 hb
        replace BK266 := mB BK266 hb
        replace HB := mS (below_step (mH2 HB.out GE264.out GE266.out) hb)
        (try clear hb)
        (try clear hb2)
        (try clear hk)
        (try clear hi)
        refine hK.out _ _ (mc4 BK266.out) (fun hHeld => ?_)
        clear hK K
        refine mno 15 ?_
        refine mpu 3 16 HT_.out (mb 4 24) ?_
        refine mpu 4 17 HT_.out (mb 5 23) ?_
        refine mpf 5 18 HT_.out (mb 6 22) ?_
        refine mpf 6 19 HT_.out (mb 7 21) ?_
        refine mpf 7 20 HT_.out (mb 8 20) ?_
        refine mpf 8 21 HT_.out (mb 9 19) ?_
        refine mpu 9 22 HT_.out (mb 10 18) ?_
        refine mpu 10 23 HT_.out (mb 11 17) ?_
        refine mpf 11 24 HT_.out (mb 12 16) ?_
        refine mpf 12 25 HT_.out (mb 13 15) ?_
        refine mpf 13 26 HT_.out (mb 14 14) ?_
        refine mpf 14 27 HT_.out (mb 15 13) ?_
        refine mpf 15 28 HT_.out (mb 16 12) ?_
        refine mpf 16 29 HT_.out (mb 17 11) ?_
        refine mpf 17 30 HT_.out (mb 18 10) ?_
        refine mpf 18 31 HT_.out (mb 19 9) ?_
        refine mpf 19 32 HT_.out (mb 20 8) ?_
        refine mpf 20 33 HT_.out (mb 21 7) ?_
        refine mpf 21 34 HT_.out (mb 22 6) ?_
        refine mpf 22 35 HT_.out (mb 23 5) ?_
        refine mpf 23 36 HT_.out (mb 24 4) ?_
        refine mpf 24 37 HT_.out (mb 25 3) ?_
        refine mpf 25 38 HT_.out (mb 26 2) ?_
        refine mpf 26 39 HT_.out (mb 27 1) ?_
        refine mpu 27 40 HT_.out (mb 28 0) ?_
        refine done_ (done_of HT_.out (by kernel_rfl)) ?_
        try go_wp2
        go_meet
        case rel => exact ⟨_, (true), mE, H', ⟨by have := HK1.out; first | omega | exact Nat.le_refl _⟩, ⟨mK BK264.out⟩, ⟨mK BK266.out⟩, ⟨(mH2 HB.out GE264.out GE266.out)⟩⟩
      case rest =>
       clear HC7
       try clear c1
       try clear c2
       try clear p2
       try clear c7
       try clear c12
       try clear c14
       try clear c23
       obtain ⟨kq, x40_6, rfl, HA, HJ6, BK264, BK266, HB⟩ := hcut
       cases kq with
       | zero => exact absurd HA.out (by simp [impl_MemOk.j1])
       | succ kj6 =>
        have H := HA.out
        clear HA
        simp only [impl_MemOk.j1] at H
        by_cases c31 : x40_6 = true
        ·subst c31
         have H1 := H
         rw [if_pos rfl] at H1
         clear H
         have H := H1
         clear H1
         obtain rfl := Option.some.inj H
         go_wp2
         go_ret
         exact ⟨mEw, (mH2 HB.out GE264.out GE266.out)⟩
        ·replace c31 := Bool.eq_false_iff.mpr c31
         subst c31
         have H1 := H
         rw [if_neg (show ¬ (false = true) by decide)] at H1
         clear H
         have H := H1
         clear H1
         have H' := mS H
         clear H
         go_wp2
         go_roundg kj6
         case measure => have := HK1.out; have := HJ6.out; omega
         case rel => exact ⟨(wrap64 (x8_1 + 1)), mE, H', ⟨by have := HK1.out; have := HJ6.out; omega⟩, ⟨mK BK264.out⟩, ⟨(mH2 HB.out GE264.out GE266.out)⟩⟩
     ·rw [if_neg c6] at H
      exact absurd H (by simp)
    ·rw [if_neg c5] at H
     exact absurd H (by simp)
   ·rw [if_neg c4] at H
    have c4b0 := decide_eq_false c4
    clear c4
    obtain rfl := Option.some.inj H
    have hcz32_0 := mZ BK264.out 0
    have hfz32_0 := blk_frozen BK264.out 0
    go_wp2
    go_ret
    exact ⟨mEw, (mH1 HB.out GE264.out)⟩

end Go.Proofs.Ytbepbgfkajnlbaa.MFnLeaps
