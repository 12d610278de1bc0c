-- Written by mp.py, this session's own printer (wip/mp.py).
import Derived.Test.YtgbejjeephipeaaVMShort
import Derived.Test.YtgbejjeephipeaaMFnStablex0
import Derived.Test.YtgbejjeephipeaaMFnStablex11
import Derived.Test.YtgbejjeephipeaaMFnStablex13
namespace Go.Proofs.Ytgbejjeephipeaa.MFnStable
open Go.RowKit Go.Proofs.YtgbejjeephipeaaW.PrintWords Go.Proofs.YtgbejjeephipeaaW.PrintLast Go.Proofs.YtgbejjeephipeaaW.PrintMore Go.Proofs.Ytgbejjeephipeaa.MWords
attribute [local go_sem] max2_int min2_int max_two min_two max_three min_three max_four min_four   -- for this text's walks alone
set_option linter.unusedVariables false
set_option linter.unusedSimpArgs false

/-! ### impl_ready: function 62 -/
mutual
def impl_ready.l0 : Nat → List (S31) → List (S31) → List (S31) → Int → Int → List (S33) → Option (Bool)
 | 0, _, _, _, _, _, _ => none
 | k + 1, x1, x2, x11, x12, x13, x340000 => if x13 < x12 then (if 0 ≤ x13 then (if x13 < (x11.length : Int) then ((impl_itemAt.f k x340000 ((rd_T31 x11 x13).f0) ((rd_T31 x11 x13).f1)).bind fun t342 => (if 0 ≤ t342 then (if t342 < (x340000.length : Int) then (impl_ready.l1 k x1 x2 x11 x12 x13 ((rd_T33 x340000 t342).f1) (((rd_T33 x340000 t342).f1).length : Int) 0 x340000) else (none)) else (none))) else (none)) else (none)) else (some true)
def impl_ready.l1 : Nat → List (S31) → List (S31) → List (S31) → Int → Int → List (S31) → Int → Int → List (S33) → Option (Bool)
 | 0, _, _, _, _, _, _, _, _, _ => none
 | k + 1, x1, x2, x11, x12, x13, x24, x25, x26, x340000 => if x26 < x25 then (if 0 ≤ x26 then (if x26 < (x24.length : Int) then ((impl_hasDot.f k x1 ((rd_T31 x24 x26).f0) ((rd_T31 x24 x26).f1)).bind fun t346 => (if t346 = true then (impl_ready.j2 k x1 x2 x11 x12 x13 x24 x25 x26 false x340000) else ((impl_hasDot.f k x2 ((rd_T31 x24 x26).f0) ((rd_T31 x24 x26).f1)).bind fun t347 => (impl_ready.j2 k x1 x2 x11 x12 x13 x24 x25 x26 (!t347) x340000)))) else (none)) else (none)) else (impl_ready.l0 k x1 x2 x11 x12 (wrap64 (x13 + 1)) x340000)
def impl_ready.j2 : Nat → List (S31) → List (S31) → List (S31) → Int → Int → List (S31) → Int → Int → Bool → List (S33) → Option (Bool)
 | 0, _, _, _, _, _, _, _, _, _, _ => none
 | k + 1, x1, x2, x11, x12, x13, x24, x25, x26, x39, x340000 => if x39 = true then (some false) else (impl_ready.l1 k x1 x2 x11 x12 x13 x24 x25 (wrap64 (x26 + 1)) x340000)
end
def impl_ready.f (k : Nat) (l0_0 : List (S33)) (l1 : List (S31)) (l2 : List (S31)) : Option (Bool) := impl_ready.l0 k l1 l2 l1 (l1.length : Int) 0 l0_0
theorem impl_ready.mono_l : ∀ k, (∀ y0 y1 y2 y3 y4 y5, LeO (impl_ready.l0 k y0 y1 y2 y3 y4 y5) (impl_ready.l0 (k + 1) y0 y1 y2 y3 y4 y5)) ∧ (∀ y0 y1 y2 y3 y4 y5 y6 y7 y8, LeO (impl_ready.l1 k y0 y1 y2 y3 y4 y5 y6 y7 y8) (impl_ready.l1 (k + 1) y0 y1 y2 y3 y4 y5 y6 y7 y8)) ∧ (∀ y0 y1 y2 y3 y4 y5 y6 y7 y8 y9, LeO (impl_ready.j2 k y0 y1 y2 y3 y4 y5 y6 y7 y8 y9) (impl_ready.j2 (k + 1) y0 y1 y2 y3 y4 y5 y6 y7 y8 y9))
 | 0 => ⟨fun _ _ _ _ _ _ r h => by simp [impl_ready.l0] at h, fun _ _ _ _ _ _ _ _ _ r h => by simp [impl_ready.l1] at h, fun _ _ _ _ _ _ _ _ _ _ r h => by simp [impl_ready.j2] at h⟩
 | k + 1 => by
  obtain ⟨ih0, ih1, ih2⟩ := impl_ready.mono_l k
  refine ⟨?_, ?_, ?_⟩
  ·intro y0 y1 y2 y3 y4 y5
   unfold impl_ready.l0
   repeat' first
   | (with_reducible exact ih0 _ _ _ _ _ _)
   | (with_reducible exact ih1 _ _ _ _ _ _ _ _ _)
   | (with_reducible exact ih2 _ _ _ _ _ _ _ _ _ _)
   | (with_reducible exact impl_hasDot.mono _ _ _ _)
   | (with_reducible exact impl_itemAt.mono _ _ _ _)
   | (with_reducible exact LeO.refl _)
   | (with_reducible exact LeO.none _)
   | (with_reducible refine LeO.ite ?_ ?_)
   | (with_reducible refine LeO.bind ?_ (fun _ => ?_))
   | exact ih0 _ _ _ _ _ _
   | exact ih1 _ _ _ _ _ _ _ _ _
   | exact ih2 _ _ _ _ _ _ _ _ _ _
   | exact impl_hasDot.mono _ _ _ _
   | exact impl_itemAt.mono _ _ _ _
   | exact LeO.none _
   | refine LeO.ite ?_ ?_
   | refine LeO.bind ?_ (fun _ => ?_)
  ·intro y0 y1 y2 y3 y4 y5 y6 y7 y8
   unfold impl_ready.l1
   repeat' first
   | (with_reducible exact ih0 _ _ _ _ _ _)
   | (with_reducible exact ih1 _ _ _ _ _ _ _ _ _)
   | (with_reducible exact ih2 _ _ _ _ _ _ _ _ _ _)
   | (with_reducible exact impl_hasDot.mono _ _ _ _)
   | (with_reducible exact impl_itemAt.mono _ _ _ _)
   | (with_reducible exact LeO.refl _)
   | (with_reducible exact LeO.none _)
   | (with_reducible refine LeO.ite ?_ ?_)
   | (with_reducible refine LeO.bind ?_ (fun _ => ?_))
   | exact ih0 _ _ _ _ _ _
   | exact ih1 _ _ _ _ _ _ _ _ _
   | exact ih2 _ _ _ _ _ _ _ _ _ _
   | exact impl_hasDot.mono _ _ _ _
   | exact impl_itemAt.mono _ _ _ _
   | exact LeO.none _
   | refine LeO.ite ?_ ?_
   | refine LeO.bind ?_ (fun _ => ?_)
  ·intro y0 y1 y2 y3 y4 y5 y6 y7 y8 y9
   unfold impl_ready.j2
   repeat' first
   | (with_reducible exact ih0 _ _ _ _ _ _)
   | (with_reducible exact ih1 _ _ _ _ _ _ _ _ _)
   | (with_reducible exact ih2 _ _ _ _ _ _ _ _ _ _)
   | (with_reducible exact impl_hasDot.mono _ _ _ _)
   | (with_reducible exact impl_itemAt.mono _ _ _ _)
   | (with_reducible exact LeO.refl _)
   | (with_reducible exact LeO.none _)
   | (with_reducible refine LeO.ite ?_ ?_)
   | (with_reducible refine LeO.bind ?_ (fun _ => ?_))
   | exact ih0 _ _ _ _ _ _
   | exact ih1 _ _ _ _ _ _ _ _ _
   | exact ih2 _ _ _ _ _ _ _ _ _ _
   | exact impl_hasDot.mono _ _ _ _
   | exact impl_itemAt.mono _ _ _ _
   | exact LeO.none _
   | refine LeO.ite ?_ ?_
   | refine LeO.bind ?_ (fun _ => ?_)
theorem impl_ready.mono : ∀ a0 a1 a2 k, LeO (impl_ready.f k a0 a1 a2) (impl_ready.f (k + 1) a0 a1 a2) := by
 intro a0 a1 a2 k
 obtain ⟨ih0, ih1, ih2⟩ := impl_ready.mono_l k
 unfold impl_ready.f
 repeat' first
   | (with_reducible exact ih0 _ _ _ _ _ _)
   | (with_reducible exact ih1 _ _ _ _ _ _ _ _ _)
   | (with_reducible exact ih2 _ _ _ _ _ _ _ _ _ _)
   | (with_reducible exact impl_hasDot.mono _ _ _ _)
   | (with_reducible exact impl_itemAt.mono _ _ _ _)
   | (with_reducible exact LeO.refl _)
   | (with_reducible exact LeO.none _)
   | (with_reducible refine LeO.ite ?_ ?_)
   | (with_reducible refine LeO.bind ?_ (fun _ => ?_))
   | exact ih0 _ _ _ _ _ _
   | exact ih1 _ _ _ _ _ _ _ _ _
   | exact ih2 _ _ _ _ _ _ _ _ _ _
   | exact impl_hasDot.mono _ _ _ _
   | exact impl_itemAt.mono _ _ _ _
   | exact LeO.none _
   | refine LeO.ite ?_ ?_
   | refine LeO.bind ?_ (fun _ => ?_)
def impl_ready.T4 : Bool × List (List Nat × List Nat) := (true, [([], []), ([0], [0]), ([], []), ([], []), ([2, 3], [2, 3]), ([1, 4], [1, 4]), ([5], [5]), ([6], [6]), ([7], [7]), ([], [])])
def impl_ready.B4 : List Nat := [0, 1, 0, 0, 12, 31, 63, 127, 255, 0]
theorem impl_ready.tab4 : rtab .any (opsOf Try.f62 4) = impl_ready.T4 := by kernel_rfl
theorem impl_ready.bits4 : waitsOk impl_ready.T4.2 impl_ready.B4 = true := by kernel_rfl
set_option maxHeartbeats 8000000 in
set_option maxRecDepth 100000 in
theorem impl_ready.calls (k : Nat) (A0_0 : Option Addr) (c0_0 : Nat) (l0_0 : List (S33)) (A1 : Option Addr) (c1 : Nat) (l1 : List (S31)) (A2 : Option Addr) (c2 : Nat) (l2 : List (S31)) (r : Bool) (w : World) (hr0_0 : Kd.C k33 w A0_0 l0_0.length l0_0) (hc0_0 : l0_0.length ≤ c0_0) (hr1 : Kd.C k31 w A1 l1.length l1) (hc1 : l1.length ≤ c1) (hr2 : Kd.C k31 w A2 l2.length l2) (hc2 : l2.length ≤ c2) (h : impl_ready.f k l0_0 l1 l2 = some r) :
  Calls Try.prog 62 #[.agg #[.slice A0_0 l0_0.length c0_0], .slice A1 l1.length c1, .slice A2 l2.length c2] w fun e w' => e = .returned (.bool r) ∧ Below w.heap.size w w' := by
 have hu26 := Try.underlying26
 have hfd26 : ∀ (v : Value) (w : World), (Instr.field 26 (.agg #[v]) 0).run Try.prog w = .ok v w := fun _ _ => by first | kernel_rfl | rfl
 have hu31 := Try.underlying31
 have HR0_0 := mS hr0_0
 have HC0_0 := mS hc0_0
 clear hr0_0 hc0_0
 have HR1 := mS hr1
 have HC1 := mS hc1
 clear hr1 hc1
 have HR2 := mS hr2
 have HC2 := mS hc2
 clear hr2 hc2
 have HB := mS (Below.refl w.heap.size w)
 have H : (impl_ready.l0 k l1 l2 l1 (l1.length : Int) 0 l0_0) = some r := h
 clear h
 have H' := mS H
 clear H
 go_enter Try.func62, Try.ntmps62
 go_wp2_with (first | ((with_reducible refine gate_dst (N := 3) rfl ?_); refine mBx 3 #[.slice A0_0 l0_0.length c0_0] 26 ?_; intro gb339 hg w4 hbox hb; have BK339 := mS (hbox); have GW339 := mG hg (mH HB.out); have GE339 := mG hg (mH HB.out); replace HB := mS (below_step (mH HB.out) hb); clear hb hbox hg))
 go_loopg [13] k (fun kq v13 w' => ∃ (x13_1 : Int), v13 = .int .i64 x13_1 ∧ Aside0 (impl_ready.l0 kq l1 l2 l1 (l1.length : Int) x13_1 l0_0 = some r) ∧ Aside0 (kq ≤ k) ∧ Aside0 (w'.heap[gb339]? = some (.cells #[(.slice A0_0 l0_0.length c0_0)] 26 (0, 0))) ∧ Aside0 (Below w.heap.size w w'))
 case atStart => exact ⟨(0), mE, H', ⟨Nat.le_refl _⟩, ⟨mK BK339.out⟩, ⟨(mH1 HB.out GE339.out)⟩⟩
 case round =>
  clear H'
  try clear c1
  try clear c2
  try clear p2
  obtain ⟨x13_1, rfl, HA, HK1, BK339, HB⟩ := hrel
  cases gk with
  | zero => exact absurd HA.out (by simp [impl_ready.l0])
  | succ k1 =>
   have H := HA.out
   clear HA
   simp only [impl_ready.l0] at H
   by_cases c5 : x13_1 < (l1.length : Int)
   ·rw [if_pos c5] at H
    have c5b0 := decide_eq_true c5
    clear c5
    by_cases c6 : 0 ≤ x13_1
    ·rw [if_pos c6] at H
     have c6b0 := decide_eq_true c6
     clear c6
     by_cases c7 : x13_1 < (l1.length : Int)
     ·rw [if_pos c7] at H
      have c7b0 := decide_eq_true c7
      clear c7
      replace H := Option.bind_eq_some_iff.mp H
      obtain ⟨t342, A80, H⟩ := H
      replace H : (if 0 ≤ t342 then (if t342 < (l0_0.length : Int) then (impl_ready.l1 k1 l1 l2 l1 (l1.length : Int) x13_1 ((rd_T33 l0_0 t342).f1) (((rd_T33 l0_0 t342).f1).length : Int) 0 l0_0) else (none)) else (none)) = some r := H
      have A8 := mS A80
      clear A80
      by_cases c9 : 0 ≤ t342
      ·rw [if_pos c9] at H
       have c9b0 := decide_eq_true c9
       clear c9
       by_cases c10 : t342 < (l0_0.length : Int)
       ·rw [if_pos c10] at H
        have c10b0 := decide_eq_true c10
        clear c10
        have H' := mS H
        clear H
        have p340 : 0 ≤ (x13_1 : Int) := mD
        have q340 : x13_1 < (l1.length : Int) := mD
        obtain ⟨ad340, e340, hx340_0, hx340_1⟩ := at_T31 HR1.out x13_1 p340 q340
        cases e340
        replace hx340_0 := mX HB.out hx340_0
        replace hx340_1 := mX HB.out hx340_1
        replace p340 := eq_true p340
        replace q340 := eq_true q340
        try go_wp2_with (first | ((with_reducible refine gate_dst (N := 8) rfl ?_); refine mBx 8 #[.int .i64 0, .int .i64 0] 31 ?_; intro gb341 hg w11 hbox hb; have BK341 := mS (hbox); have GW341 := mG hg (mH1 HB.out GE339.out); have GE341 := mG hg (mH1 HB.out GE339.out); replace HB := mS (below_step (mH1 HB.out GE339.out) hb); have NB339_341 := mNl hg BK339.out; have NB341_339 := mNg hg BK339.out; replace BK339 := mB BK339 hb; clear hb hbox hg; have hnb12 := NB341_339.out; have hnc12 := NB339_341.out; obtain ⟨hcz13_0, hcz13_1, hfz13_0, hfz13_1⟩ := mZ2 BK341.out))
        generalize hW_ : ((w11.setCell ⟨gb341, 0, none⟩ (.int .i64 ((rd_T31 l1 x13_1).f0))).setCell ⟨gb341, 1, none⟩ (.int .i64 ((rd_T31 l1 x13_1).f1))) = w14
        replace BK339 : Aside0 (w14.heap[gb339]? = some (.cells #[.slice A0_0 l0_0.length c0_0] 26 (0, 0))) := by rw [← hW_]; exact ⟨mKf NB339_341.out BK339.out⟩
        replace BK341 : Aside0 (w14.heap[gb341]? = some (.cells #[.int .i64 ((rd_T31 l1 x13_1).f0), .int .i64 ((rd_T31 l1 x13_1).f1)] 31 (0, 0))) := by rw [← hW_]; exact ⟨by refine mK ?_; refine blk_put (cs := #[.int .i64 ((rd_T31 l1 x13_1).f0), .int .i64 0]) ?_ 1 _ rfl; refine mK ?_; refine blk_put (cs := #[.int .i64 0, .int .i64 0]) ?_ 0 _ rfl; refine mK ?_; exact BK341.out⟩
        replace HB : Aside0 (Below w.heap.size w w14) := by rw [← hW_]; exact ⟨(mH2 HB.out GE339.out GE341.out)⟩
        clear hW_
        replace BK339 := mS (blk_drew BK339.out)
        replace BK341 := mS (blk_drew BK341.out)
        replace HB := mS (below_drew1 HB.out)
        have p343 : 0 ≤ (t342 : Int) := mD
        have q343 : t342 < (l0_0.length : Int) := mD
        obtain ⟨ad343, A343_2, c343_2, e343, hx343_0, hx343_1, hx343_2, hl343_2, hi343_2⟩ := at_T33 HR0_0.out t342 p343 q343
        have hw343_2 := hx343_2
        have hw343_1 := hx343_1
        have hw343_0 := hx343_0
        cases e343
        replace hx343_0 := mX HB.out hx343_0
        replace hx343_1 := mX HB.out hx343_1
        replace hx343_2 := mX HB.out hx343_2
        have HR343_2 := mS hi343_2
        have HC343_2 := mS hl343_2
        clear hi343_2 hl343_2
        replace p343 := eq_true p343
        replace q343 := eq_true q343
        refine start_ (n := 10) (S := fun w' => w'.cell? ⟨gb339, 0, none⟩ = some (.slice (some ad343) l0_0.length c0_0) ∧ w'.cell? ⟨gb341, 0, none⟩ = some (.int .i64 ((rd_T31 l1 x13_1).f0)) ∧ w'.cell? ⟨gb341, 1, none⟩ = some (.int .i64 ((rd_T31 l1 x13_1).f1)) ∧ w'.cell? (ad343.add ((t342).toNat * 3)) = some (.int .i64 ((rd_T33 l0_0 t342).f0.f0)) ∧ w'.cell? ⟨(ad343.add ((t342).toNat * 3)).block, (ad343.add ((t342).toNat * 3)).off + 1, none⟩ = some (.int .i64 ((rd_T33 l0_0 t342).f0.f1)) ∧ w'.cell? ⟨(ad343.add ((t342).toNat * 3)).block, (ad343.add ((t342).toNat * 3)).off + 2, none⟩ = some (.slice A343_2 ((rd_T33 l0_0 t342).f1).length c343_2)) (ds := []) (mb 0 10) (by kernel_rfl) rfl rfl ⟨mZ BK339.out 0, mb2 BK341.out ⟨(mX HB.out hw343_0 :), ⟨(mX HB.out hw343_1 :), (mX HB.out hw343_2 :)⟩⟩⟩ (fun hHeld => ?_); refine with_tabW impl_ready.tab4 impl_ready.bits4 (fun HT_ HW_ => ?_)
        generalize w14.drew = w15 at BK339 BK341 HB HR343_2 hx343_0 hx343_1 hx343_2 hHeld ⊢
        refine mpu 0 17 HT_.out (mb 1 9) ?_
        refine mpu 9 26 HT_.out (mr [1,8,1]) ?_
        refine mpt 1 18 HT_.out HW_.out (mr [2,7,1]) hHeld ?_
        refine mpt 2 19 HT_.out HW_.out (mr [3,6,1]) hHeld ?_
        refine mpt 3 20 HT_.out HW_.out (mr [4,5,1]) hHeld ?_
        refine mone 4 (some 21) HT_.out (mr [5,4,1]) (fun K hK => ?_)
        refine goes_ Try.func66 (by kernel_rfl) rfl #[.agg #[.slice (some ad343) l0_0.length c0_0], .agg #[.int .i64 ((rd_T31 l1 x13_1).f0), .int .i64 ((rd_T31 l1 x13_1).f1)]] (by rfl) rfl rfl mA ?_
        with_reducible refine (impl_itemAt.calls k1 _ _ l0_0 ((rd_T31 l1 x13_1).f0) ((rd_T31 l1 x13_1).f1) t342 _ ?side1 ?side2 A8.out).mono ?_
        (case side1 => exact mC (Kd.C_below HR0_0.out HB.out))
        (case side2 => exact HC0_0.out)
        rintro e w16 ⟨rfl, hb⟩
        refine ⟨_, rfl, ?_⟩
        replace BK339 := mB BK339 hb
        replace BK341 := mB BK341 hb
        replace HB := mS (below_step (mH2 HB.out GE339.out GE341.out) hb)
        (try clear hb)
        (try clear hb2)
        (try clear hk)
        (try clear hi)
        refine hK.out _ _ ⟨mZ BK339.out 0, mb2 BK341.out ⟨(mX HB.out hw343_0 :), ⟨(mX HB.out hw343_1 :), (mX HB.out hw343_2 :)⟩⟩⟩ (fun hHeld => ?_)
        clear hK K
        refine mno 21 ?_
        refine mpu 5 22 HT_.out (mr [6,3,1]) ?_
        refine mpu 6 23 HT_.out (mr [7,2,1]) ?_
        refine mpt 7 24 HT_.out HW_.out (mr [8,1,1]) hHeld ?_
        refine mpu 8 25 HT_.out (mb 10 0) ?_
        refine done_ (done_of HT_.out (by kernel_rfl)) ?_
        try go_wp2
        go_loopg [26] k1 (fun kq v26 w' => ∃ (x26_2 : Int), v26 = .int .i64 x26_2 ∧ Aside0 (impl_ready.l1 kq l1 l2 l1 (l1.length : Int) x13_1 ((rd_T33 l0_0 t342).f1) (((rd_T33 l0_0 t342).f1).length : Int) x26_2 l0_0 = some r) ∧ Aside0 (kq ≤ k1) ∧ Aside0 (w'.heap[gb339]? = some (.cells #[(.slice (some ad343) l0_0.length c0_0)] 26 (0, 0))) ∧ Aside0 (w'.heap[gb341]? = some (.cells #[.int .i64 ((rd_T31 l1 x13_1).f0), .int .i64 ((rd_T31 l1 x13_1).f1)] 31 (0, 0))) ∧ Aside0 (Below w.heap.size w w'))
        case atStart => exact ⟨(0), mE, H', ⟨Nat.le_refl _⟩, ⟨mK BK339.out⟩, ⟨mK BK341.out⟩, ⟨(mH2 HB.out GE339.out GE341.out)⟩⟩
        case round =>
         clear H'
         try clear c1
         try clear c2
         try clear p2
         try clear c3
         try clear p3
         try clear q3
         try clear hx3
         try clear c5
         try clear c5b0
         try clear c6
         try clear c6b0
         try clear c7
         try clear c7b0
         try clear c9
         try clear c9b0
         try clear c10
         try clear c10b0
         try clear c12
         try clear hcz13_0
         try clear hcz13_1
         try clear hfz13_0
         try clear hfz13_1
         try clear hx340_0
         try clear hx340_1
         try clear hx343_0
         try clear hx343_1
         try clear hx343_2
         try clear p2
         try clear p340
         try clear p343
         try clear q340
         try clear q343
         obtain ⟨x26_2, rfl, HA, HK2, BK339, BK341, HB⟩ := hrel
         cases gk with
         | zero => exact absurd HA.out (by simp [impl_ready.l1])
         | succ k2 =>
          have H := HA.out
          clear HA
          simp only [impl_ready.l1] at H
          by_cases c17 : x26_2 < (((rd_T33 l0_0 t342).f1).length : Int)
          ·rw [if_pos c17] at H
           have c17b0 := decide_eq_true c17
           clear c17
           by_cases c18 : 0 ≤ x26_2
           ·rw [if_pos c18] at H
            have c18b0 := decide_eq_true c18
            clear c18
            by_cases c19 : x26_2 < (((rd_T33 l0_0 t342).f1).length : Int)
            ·rw [if_pos c19] at H
             have c19b0 := decide_eq_true c19
             clear c19
             have HC20 := mS H
             clear H
             have p344 : 0 ≤ (x26_2 : Int) := mD
             have q344 : x26_2 < (((rd_T33 l0_0 t342).f1).length : Int) := mD
             obtain ⟨ad344, e344, hx344_0, hx344_1⟩ := at_T31 HR343_2.out x26_2 p344 q344
             cases e344
             replace hx344_0 := mX HB.out hx344_0
             replace hx344_1 := mX HB.out hx344_1
             replace p344 := eq_true p344
             replace q344 := eq_true q344
             go_upto_region 7 with (first | ((with_reducible refine gate_dst (N := 10) rfl ?_); refine mBx 10 #[.int .i64 0, .int .i64 0] 31 ?_; intro gb345 hg w21 hbox hb; have BK345 := mS (hbox); have GW345 := mG hg (mH2 HB.out GE339.out GE341.out); have GE345 := mG hg (mH2 HB.out GE339.out GE341.out); replace HB := mS (below_step (mH2 HB.out GE339.out GE341.out) hb); have NB339_345 := mNl hg BK339.out; have NB345_339 := mNg hg BK339.out; replace BK339 := mB BK339 hb; have NB341_345 := mNl hg BK341.out; have NB345_341 := mNg hg BK341.out; replace BK341 := mB BK341 hb; clear hb hbox hg; have hnb22 := NB345_339.out; have hnc22 := NB339_345.out; have hnb23 := NB345_341.out; have hnc23 := NB341_345.out; obtain ⟨hcz24_0, hcz24_1, hfz24_0, hfz24_1⟩ := mZ2 BK345.out))
             (try simp only [Act.put, zA, zB, zC])
             go_cut [39] (fun v39 wc => ∃ (kq : Nat) (x39_19 : Bool), v39 = .bool x39_19 ∧ Aside0 (impl_ready.j2 kq l1 l2 l1 (l1.length : Int) x13_1 ((rd_T33 l0_0 t342).f1) (((rd_T33 l0_0 t342).f1).length : Int) x26_2 x39_19 l0_0 = some r) ∧ Aside0 (kq ≤ k2) ∧ Aside0 (wc.heap[gb339]? = some (.cells #[(.slice (some ad343) l0_0.length c0_0)] 26 (0, 0))) ∧ Aside0 (wc.heap[gb341]? = some (.cells #[.int .i64 ((rd_T31 l1 x13_1).f0), .int .i64 ((rd_T31 l1 x13_1).f1)] 31 (0, 0))) ∧ Aside0 (wc.heap[gb345]? = some (.cells #[.int .i64 ((rd_T31 ((rd_T33 l0_0 t342).f1) x26_2).f0), .int .i64 ((rd_T31 ((rd_T33 l0_0 t342).f1) x26_2).f1)] 31 (0, 0))) ∧ Aside0 (Below w.heap.size w wc))
             case first =>
              have H := HC20.out
              clear HC20
              replace H := Option.bind_eq_some_iff.mp H
              obtain ⟨t346, A250, H⟩ := H
              replace H : (if t346 = true then (impl_ready.j2 k2 l1 l2 l1 (l1.length : Int) x13_1 ((rd_T33 l0_0 t342).f1) (((rd_T33 l0_0 t342).f1).length : Int) x26_2 false l0_0) else ((impl_hasDot.f k2 l2 ((rd_T31 ((rd_T33 l0_0 t342).f1) x26_2).f0) ((rd_T31 ((rd_T33 l0_0 t342).f1) x26_2).f1)).bind fun t347 => (impl_ready.j2 k2 l1 l2 l1 (l1.length : Int) x13_1 ((rd_T33 l0_0 t342).f1) (((rd_T33 l0_0 t342).f1).length : Int) x26_2 (!t347) l0_0))) = some r := H
              have A25 := mS A250
              clear A250
              by_cases c26 : t346 = true
              ·subst c26
               have H1 := H
               rw [if_pos rfl] at H1
               clear H
               have H := H1
               clear H1
               have H' := mS H
               clear H
               have hnb27 := NB345_339.out
               have hnc27 := NB339_345.out
               have hnb28 := NB345_341.out
               have hnc28 := NB341_345.out
               obtain ⟨hcz29_0, hcz29_1, hfz29_0, hfz29_1⟩ := mZ2 BK345.out
               go_wp2_with (first | ((with_reducible refine gate_callee (f := 61) rfl ?_); refine mGo 32 Try.func61 #[.slice (some ad340) l1.length c1, .agg #[.int .i64 ((rd_T31 ((rd_T33 l0_0 t342).f1) x26_2).f0), .int .i64 ((rd_T31 ((rd_T33 l0_0 t342).f1) x26_2).f1)]] ?_; (with_reducible refine (impl_hasDot.calls k2 _ _ l1 ((rd_T31 ((rd_T33 l0_0 t342).f1) x26_2).f0) ((rd_T31 ((rd_T33 l0_0 t342).f1) x26_2).f1) true _ ?side1 ?side2 A25.out).mono ?_); (case side1 => exact Kd.C_below HR1.out (mH3 HB.out GE339.out GE341.out GE345.out)); (case side2 => exact HC1.out); rintro e w30 ⟨rfl, hb⟩; refine ⟨_, rfl, ?_⟩; replace BK339 := mS (blk_below (g := gb339) (o := .cells #[.slice (some ad343) l0_0.length c0_0] 26 (0, 0)) (mKf NB339_345.out BK339.out) hb); replace BK341 := mS (blk_below (g := gb341) (o := .cells #[.int .i64 ((rd_T31 l1 x13_1).f0), .int .i64 ((rd_T31 l1 x13_1).f1)] 31 (0, 0)) (mKf NB341_345.out BK341.out) hb); replace BK345 := mS (blk_below (g := gb345) (o := .cells #[.int .i64 ((rd_T31 ((rd_T33 l0_0 t342).f1) x26_2).f0), .int .i64 ((rd_T31 ((rd_T33 l0_0 t342).f1) x26_2).f1)] 31 (0, 0)) (by refine mK ?_; refine blk_put (cs := #[.int .i64 ((rd_T31 ((rd_T33 l0_0 t342).f1) x26_2).f0), .int .i64 0]) ?_ 1 _ rfl; refine mK ?_; refine blk_put (cs := #[.int .i64 0, .int .i64 0]) ?_ 0 _ rfl; refine mK ?_; exact BK345.out) hb); replace HB := mS (below_step (mH3 HB.out GE339.out GE341.out GE345.out) hb); (try clear hb)))
               go_meet
               case rel => exact ⟨_, (false), mE, H', ⟨by have := HK1.out; have := HK2.out; first | omega | exact Nat.le_refl _⟩, ⟨mK BK339.out⟩, ⟨mK BK341.out⟩, ⟨mK BK345.out⟩, ⟨(mH3 HB.out GE339.out GE341.out GE345.out)⟩⟩
              ·replace c26 := Bool.eq_false_iff.mpr c26
               subst c26
               have H1 := H
               rw [if_neg (show ¬ (false = true) by decide)] at H1
               clear H
               have H := H1
               clear H1
               replace H := Option.bind_eq_some_iff.mp H
               obtain ⟨t347, A310, H⟩ := H
               replace H : (impl_ready.j2 k2 l1 l2 l1 (l1.length : Int) x13_1 ((rd_T33 l0_0 t342).f1) (((rd_T33 l0_0 t342).f1).length : Int) x26_2 (!t347) l0_0) = some r := H
               have A31 := mS A310
               clear A310
               have H' := mS H
               clear H
               have hnb32 := NB345_339.out
               have hnc32 := NB339_345.out
               have hnb33 := NB345_341.out
               have hnc33 := NB341_345.out
               obtain ⟨hcz34_0, hcz34_1, hfz34_0, hfz34_1⟩ := mZ2 BK345.out
               go_wp2_with (first | ((with_reducible refine gate_callee (f := 61) rfl ?_); refine mGo 32 Try.func61 #[.slice (some ad340) l1.length c1, .agg #[.int .i64 ((rd_T31 ((rd_T33 l0_0 t342).f1) x26_2).f0), .int .i64 ((rd_T31 ((rd_T33 l0_0 t342).f1) x26_2).f1)]] ?_; (with_reducible refine (impl_hasDot.calls k2 _ _ l1 ((rd_T31 ((rd_T33 l0_0 t342).f1) x26_2).f0) ((rd_T31 ((rd_T33 l0_0 t342).f1) x26_2).f1) false _ ?side1 ?side2 A25.out).mono ?_); (case side1 => exact Kd.C_below HR1.out (mH3 HB.out GE339.out GE341.out GE345.out)); (case side2 => exact HC1.out); rintro e w35 ⟨rfl, hb⟩; refine ⟨_, rfl, ?_⟩; replace BK339 := mS (blk_below (g := gb339) (o := .cells #[.slice (some ad343) l0_0.length c0_0] 26 (0, 0)) (mKf NB339_345.out BK339.out) hb); replace BK341 := mS (blk_below (g := gb341) (o := .cells #[.int .i64 ((rd_T31 l1 x13_1).f0), .int .i64 ((rd_T31 l1 x13_1).f1)] 31 (0, 0)) (mKf NB341_345.out BK341.out) hb); replace BK345 := mS (blk_below (g := gb345) (o := .cells #[.int .i64 ((rd_T31 ((rd_T33 l0_0 t342).f1) x26_2).f0), .int .i64 ((rd_T31 ((rd_T33 l0_0 t342).f1) x26_2).f1)] 31 (0, 0)) (by refine mK ?_; refine blk_put (cs := #[.int .i64 ((rd_T31 ((rd_T33 l0_0 t342).f1) x26_2).f0), .int .i64 0]) ?_ 1 _ rfl; refine mK ?_; refine blk_put (cs := #[.int .i64 0, .int .i64 0]) ?_ 0 _ rfl; refine mK ?_; exact BK345.out) hb); replace HB := mS (below_step (mH3 HB.out GE339.out GE341.out GE345.out) hb); (try clear hb); obtain ⟨hcz36_0, hcz36_1, hfz36_0, hfz36_1⟩ := mZ2 BK345.out) | (go_at_call 61; (with_reducible refine (impl_hasDot.calls k2 _ _ l2 ((rd_T31 ((rd_T33 l0_0 t342).f1) x26_2).f0) ((rd_T31 ((rd_T33 l0_0 t342).f1) x26_2).f1) t347 _ ?side1 ?side2 A31.out).mono ?_); (case side1 => exact mC (Kd.C_below HR2.out HB.out)); (case side2 => exact HC2.out); rintro e w37 ⟨rfl, hb⟩; replace BK339 := mB BK339 hb; replace BK341 := mB BK341 hb; replace BK345 := mB BK345 hb; replace HB := mS (below_step (mH3 HB.out GE339.out GE341.out GE345.out) hb); (try clear hb); (try clear hb2); (try clear hk); (try clear hi)))
               go_meet
               case rel => exact ⟨_, (!t347), mE, H', ⟨by have := HK1.out; have := HK2.out; first | omega | exact Nat.le_refl _⟩, ⟨mK BK339.out⟩, ⟨mK BK341.out⟩, ⟨mK BK345.out⟩, ⟨(mH3 HB.out GE339.out GE341.out GE345.out)⟩⟩
             case rest =>
              clear HC20
              try clear c1
              try clear c2
              try clear p2
              try clear c3
              try clear p3
              try clear q3
              try clear hx3
              try clear c5
              try clear c5b0
              try clear c6
              try clear c6b0
              try clear c7
              try clear c7b0
              try clear c9
              try clear c9b0
              try clear c10
              try clear c10b0
              try clear c12
              try clear c17
              try clear c17b0
              try clear c18
              try clear c18b0
              try clear c19
              try clear c19b0
              try clear c22
              try clear c23
              try clear c26
              try clear c27
              try clear c28
              try clear c32
              try clear c33
              try clear c34
              try clear p34
              try clear q34
              try clear hx34
              try clear hcz13_0
              try clear hcz13_1
              try clear hcz24_0
              try clear hcz24_1
              try clear hcz29_0
              try clear hcz29_1
              try clear hcz34_0
              try clear hcz34_1
              try clear hcz36_0
              try clear hcz36_1
              try clear hfz13_0
              try clear hfz13_1
              try clear hfz24_0
              try clear hfz24_1
              try clear hfz29_0
              try clear hfz29_1
              try clear hfz34_0
              try clear hfz34_1
              try clear hfz36_0
              try clear hfz36_1
              try clear hx340_0
              try clear hx340_1
              try clear hx343_0
              try clear hx343_1
              try clear hx343_2
              try clear hx344_0
              try clear hx344_1
              try clear p2
              try clear p3
              try clear p340
              try clear p343
              try clear p344
              try clear q3
              try clear q340
              try clear q343
              try clear q344
              obtain ⟨kq, x39_19, rfl, HA, HJ19, BK339, BK341, BK345, HB⟩ := hcut
              cases kq with
              | zero => exact absurd HA.out (by simp [impl_ready.j2])
              | succ kj19 =>
               have H := HA.out
               clear HA
               simp only [impl_ready.j2] at H
               by_cases c38 : x39_19 = true
               ·subst c38
                have H1 := H
                rw [if_pos rfl] at H1
                clear H
                have H := H1
                clear H1
                obtain rfl := Option.some.inj H
                go_wp2
                go_ret
                exact ⟨mEw, (mH3 HB.out GE339.out GE341.out GE345.out)⟩
               ·replace c38 := Bool.eq_false_iff.mpr c38
                subst c38
                have H1 := H
                rw [if_neg (show ¬ (false = true) by decide)] at H1
                clear H
                have H := H1
                clear H1
                have H' := mS H
                clear H
                go_wp2
                go_roundg kj19
                case measure => have := HK1.out; have := HK2.out; have := HJ19.out; omega
                case rel => exact ⟨(wrap64 (x26_2 + 1)), mE, H', ⟨by have := HK1.out; have := HK2.out; have := HJ19.out; omega⟩, ⟨mK BK339.out⟩, ⟨mK BK341.out⟩, ⟨(mH3 HB.out GE339.out GE341.out GE345.out)⟩⟩
            ·rw [if_neg c19] at H
             exact absurd H (by simp)
           ·rw [if_neg c18] at H
            exact absurd H (by simp)
          ·rw [if_neg c17] at H
           have c17b0 := decide_eq_false c17
           clear c17
           have H' := mS H
           clear H
           go_wp2
           go_roundg k2
           case measure => have := HK1.out; have := HK2.out; omega
           case rel => exact ⟨(wrap64 (x13_1 + 1)), mE, H', ⟨by have := HK1.out; have := HK2.out; omega⟩, ⟨mK BK339.out⟩, ⟨(mH2 HB.out GE339.out GE341.out)⟩⟩
       ·rw [if_neg c10] at H
        exact absurd H (by simp)
      ·rw [if_neg c9] at H
       exact absurd H (by simp)
     ·rw [if_neg c7] at H
      exact absurd H (by simp)
    ·rw [if_neg c6] at H
     exact absurd H (by simp)
   ·rw [if_neg c5] at H
    have c5b0 := decide_eq_false c5
    clear c5
    obtain rfl := Option.some.inj H
    go_wp2
    go_ret
    exact ⟨mEw, (mH1 HB.out GE339.out)⟩

/-! ### impl_OrderOf: function 15 -/
mutual
def impl_OrderOf.l0 : Nat → List (S31) → List (S31) → Bool → List (S33) → Option ((List (S31)))
 | 0, _, _, _, _ => none
 | k + 1, x3, x4, x5, x349000 => if x5 = true then (impl_OrderOf.l1 k x3 x4 false x4 (x4.length : Int) 0 x349000) else (some x3)
def impl_OrderOf.l1 : Nat → List (S31) → List (S31) → Bool → List (S31) → Int → Int → List (S33) → Option ((List (S31)))
 | 0, _, _, _, _, _, _, _ => none
 | k + 1, x3, x4, x5, x12, x13, x14, x349000 => if x14 < x13 then (if 0 ≤ x14 then (if x14 < (x12.length : Int) then ((impl_hasDot.f k x3 ((rd_T31 x12 x14).f0) ((rd_T31 x12 x14).f1)).bind fun t354 => (if t354 = true then (impl_OrderOf.l1 k x3 x4 x5 x12 x13 (wrap64 (x14 + 1)) x349000) else ((impl_Group.f k x349000 ((rd_T31 x12 x14).f0) ((rd_T31 x12 x14).f1)).bind fun t355 => ((impl_ready.f k x349000 t355 x3).bind fun t358 => (if t358 = true then (if x3.length + t355.length < 8796093022208 then (impl_OrderOf.l0 k (x3 ++ t355) x4 true x349000) else (none)) else (impl_OrderOf.l1 k x3 x4 x5 x12 x13 (wrap64 (x14 + 1)) x349000)))))) else (none)) else (none)) else (impl_OrderOf.l0 k x3 x4 x5 x349000)
end
def impl_OrderOf.f (k : Nat) (l0_0 : List (S33)) : Option ((List (S31))) := (impl_Whole.f k l0_0).bind fun t349 => (impl_OrderOf.l0 k ([] : List (S31)) t349 true l0_0)
theorem impl_OrderOf.mono_l : ∀ k, (∀ y0 y1 y2 y3, LeO (impl_OrderOf.l0 k y0 y1 y2 y3) (impl_OrderOf.l0 (k + 1) y0 y1 y2 y3)) ∧ (∀ y0 y1 y2 y3 y4 y5 y6, LeO (impl_OrderOf.l1 k y0 y1 y2 y3 y4 y5 y6) (impl_OrderOf.l1 (k + 1) y0 y1 y2 y3 y4 y5 y6))
 | 0 => ⟨fun _ _ _ _ r h => by simp [impl_OrderOf.l0] at h, fun _ _ _ _ _ _ _ r h => by simp [impl_OrderOf.l1] at h⟩
 | k + 1 => by
  obtain ⟨ih0, ih1⟩ := impl_OrderOf.mono_l k
  refine ⟨?_, ?_⟩
  ·intro y0 y1 y2 y3
   unfold impl_OrderOf.l0
   repeat' first
   | (with_reducible exact ih0 _ _ _ _)
   | (with_reducible exact ih1 _ _ _ _ _ _ _)
   | (with_reducible exact impl_Group.mono _ _ _ _)
   | (with_reducible exact impl_Whole.mono _ _)
   | (with_reducible exact impl_hasDot.mono _ _ _ _)
   | (with_reducible exact impl_ready.mono _ _ _ _)
   | (with_reducible exact LeO.refl _)
   | (with_reducible exact LeO.none _)
   | (with_reducible refine LeO.ite ?_ ?_)
   | (with_reducible refine LeO.bind ?_ (fun _ => ?_))
   | exact ih0 _ _ _ _
   | exact ih1 _ _ _ _ _ _ _
   | exact impl_Group.mono _ _ _ _
   | exact impl_Whole.mono _ _
   | exact impl_hasDot.mono _ _ _ _
   | exact impl_ready.mono _ _ _ _
   | exact LeO.none _
   | refine LeO.ite ?_ ?_
   | refine LeO.bind ?_ (fun _ => ?_)
  ·intro y0 y1 y2 y3 y4 y5 y6
   unfold impl_OrderOf.l1
   repeat' first
   | (with_reducible exact ih0 _ _ _ _)
   | (with_reducible exact ih1 _ _ _ _ _ _ _)
   | (with_reducible exact impl_Group.mono _ _ _ _)
   | (with_reducible exact impl_Whole.mono _ _)
   | (with_reducible exact impl_hasDot.mono _ _ _ _)
   | (with_reducible exact impl_ready.mono _ _ _ _)
   | (with_reducible exact LeO.refl _)
   | (with_reducible exact LeO.none _)
   | (with_reducible refine LeO.ite ?_ ?_)
   | (with_reducible refine LeO.bind ?_ (fun _ => ?_))
   | exact ih0 _ _ _ _
   | exact ih1 _ _ _ _ _ _ _
   | exact impl_Group.mono _ _ _ _
   | exact impl_Whole.mono _ _
   | exact impl_hasDot.mono _ _ _ _
   | exact impl_ready.mono _ _ _ _
   | exact LeO.none _
   | refine LeO.ite ?_ ?_
   | refine LeO.bind ?_ (fun _ => ?_)
theorem impl_OrderOf.mono : ∀ a0 k, LeO (impl_OrderOf.f k a0) (impl_OrderOf.f (k + 1) a0) := by
 intro a0 k
 obtain ⟨ih0, ih1⟩ := impl_OrderOf.mono_l k
 unfold impl_OrderOf.f
 repeat' first
   | (with_reducible exact ih0 _ _ _ _)
   | (with_reducible exact ih1 _ _ _ _ _ _ _)
   | (with_reducible exact impl_Group.mono _ _ _ _)
   | (with_reducible exact impl_Whole.mono _ _)
   | (with_reducible exact impl_hasDot.mono _ _ _ _)
   | (with_reducible exact impl_ready.mono _ _ _ _)
   | (with_reducible exact LeO.refl _)
   | (with_reducible exact LeO.none _)
   | (with_reducible refine LeO.ite ?_ ?_)
   | (with_reducible refine LeO.bind ?_ (fun _ => ?_))
   | exact ih0 _ _ _ _
   | exact ih1 _ _ _ _ _ _ _
   | exact impl_Group.mono _ _ _ _
   | exact impl_Whole.mono _ _
   | exact impl_hasDot.mono _ _ _ _
   | exact impl_ready.mono _ _ _ _
   | exact LeO.none _
   | refine LeO.ite ?_ ?_
   | refine LeO.bind ?_ (fun _ => ?_)
set_option maxHeartbeats 8000000 in
set_option maxRecDepth 100000 in
theorem impl_OrderOf.calls (k : Nat) (A0_0 : Option Addr) (c0_0 : Nat) (l0_0 : List (S33)) (r : List (S31)) (w : World) (hr0_0 : Kd.C k33 w A0_0 l0_0.length l0_0) (hc0_0 : l0_0.length ≤ c0_0) (h : impl_OrderOf.f k l0_0 = some r) :
  Calls Try.prog 15 #[.agg #[.slice A0_0 l0_0.length c0_0]] w fun e w' => ∃ v0_ : Value, e = .returned (v0_) ∧ Kd.R k31 31 w' w.heap.size (fun _ => True) v0_ r ∧ Below w.heap.size w w' := by
 have hu26 := Try.underlying26
 have hfd26 : ∀ (v : Value) (w : World), (Instr.field 26 (.agg #[v]) 0).run Try.prog w = .ok v w := fun _ _ => by first | kernel_rfl | rfl
 have hu31 := Try.underlying31
 have HR0_0 := mS hr0_0
 have HC0_0 := mS hc0_0
 clear hr0_0 hc0_0
 have HB := mS (Below.refl w.heap.size w)
 have H : ((impl_Whole.f k l0_0).bind fun t349 => (impl_OrderOf.l0 k ([] : List (S31)) t349 true l0_0)) = some r := h
 clear h
 replace H := Option.bind_eq_some_iff.mp H
 obtain ⟨t349, A20, H⟩ := H
 replace H : (impl_OrderOf.l0 k ([] : List (S31)) t349 true l0_0) = some r := H
 have A2 := mS A20
 clear A20
 have H' := mS H
 clear H
 go_enter Try.func15, Try.ntmps15
 go_wp2_with (first | ((with_reducible refine gate_dst (N := 1) rfl ?_); refine mBx 1 #[.slice A0_0 l0_0.length c0_0] 26 ?_; intro gb348 hg w3 hbox hb; have BK348 := mS (hbox); have GW348 := mG hg (mH HB.out); have GE348 := mG hg (mH HB.out); replace HB := mS (below_step (mH HB.out) hb); clear hb hbox hg; have hcz4_0 := mZ BK348.out 0; have hfz4_0 := blk_frozen BK348.out 0) | ((with_reducible refine gate_callee (f := 30) rfl ?_); refine mGo 10 Try.func30 #[.agg #[.slice A0_0 l0_0.length c0_0]] ?_; (with_reducible refine (impl_Whole.calls k _ _ l0_0 t349 _ ?side1 ?side2 A2.out).mono ?_); (case side1 => exact mC (Kd.C_below HR0_0.out HB.out)); (case side2 => exact HC0_0.out); rintro e w5 ⟨v350, rfl, ho0, hb⟩; refine ⟨_, rfl, ?_⟩; have HO351 := mS (Kd.R_lower ho0 (below_size (mH1 HB.out GE348.out))); replace BK348 := mB BK348 hb; replace HB := mS (below_step (mH1 HB.out GE348.out) hb); (try clear hb); (try clear ho0)))
 go_loopg [3, 5] k (fun kq v3 v5 w' => ∃ (x3_1 : List (S31)) (x5_1 : Bool), v5 = .bool x5_1 ∧ Aside0 (impl_OrderOf.l0 kq x3_1 t349 x5_1 l0_0 = some r) ∧ Aside0 (kq ≤ k) ∧ Aside0 (Kd.R k31 31 w' w.heap.size (fun k_ => some k_ ≠ (v350 : Value).ownBlock) v3 x3_1) ∧ Aside0 (Kd.R k31 31 w' w.heap.size (fun k_ => some k_ ≠ (v3 : Value).ownBlock) v350 t349) ∧ Aside0 (w'.heap[gb348]? = some (.cells #[(.slice A0_0 l0_0.length c0_0)] 26 (0, 0))) ∧ Aside0 (Below w.heap.size w w'))
 case atStart => exact ⟨(([] : List (S31))), (true), mE, H', ⟨Nat.le_refl _⟩, ⟨by first | exact Kd.R_nil _ _ _ _ _ | exact Kd.N_nil _ _ _ _ _ | exact Kd.V_nil _ _ _ _ _ | exact Kd.Q_nil _ _ _ _ _ | exact Kd.S_nil _ _ _ _ _⟩, ⟨by refine mR ?_; exact Kd.R_mono HO351.out (fun _ hk => (by simp [Value.ownBlock]))⟩, ⟨mK BK348.out⟩, ⟨(mH1 HB.out GE348.out)⟩⟩
 case round =>
  clear H'
  try clear c1
  try clear p2
  try clear c3
  try clear hcz4_0
  try clear hfz4_0
  obtain ⟨x3_1, x5_1, rfl, HA, HK1, HO_3, HO_4, BK348, HB⟩ := hrel
  cases gk with
  | zero => exact absurd HA.out (by simp [impl_OrderOf.l0])
  | succ k1 =>
   have H := HA.out
   clear HA
   simp only [impl_OrderOf.l0] at H
   by_cases c6 : x5_1 = true
   ·subst c6
    have H1 := H
    rw [if_pos rfl] at H1
    clear H
    have H := H1
    clear H1
    have H' := mS H
    clear H
    obtain ⟨Ao7, co7, eo7⟩ := Kd.R_slice HO_4.out
    subst eo7
    go_wp2
    go_loopg [3, 5, 14] k1 (fun kq v3 v5 v14 w' => ∃ (x3_2 : List (S31)) (x5_2 : Bool) (x14_2 : Int), v5 = .bool x5_2 ∧ v14 = .int .i64 x14_2 ∧ Aside0 (impl_OrderOf.l1 kq x3_2 t349 x5_2 t349 (t349.length : Int) x14_2 l0_0 = some r) ∧ Aside0 (kq ≤ k1) ∧ Aside0 (Kd.R k31 31 w' w.heap.size (fun k_ => some k_ ≠ ((.slice Ao7 t349.length co7) : Value).ownBlock ∧ some k_ ≠ ((.slice Ao7 t349.length co7) : Value).ownBlock) v3 x3_2) ∧ Aside0 (Kd.R k31 31 w' w.heap.size (fun k_ => some k_ ≠ (v3 : Value).ownBlock) (.slice Ao7 t349.length co7) t349) ∧ Aside0 (Kd.R k31 31 w' w.heap.size (fun k_ => some k_ ≠ (v3 : Value).ownBlock) (.slice Ao7 t349.length co7) t349) ∧ Aside0 (w'.heap[gb348]? = some (.cells #[(.slice A0_0 l0_0.length c0_0)] 26 (0, 0))) ∧ Aside0 (Below w.heap.size w w'))
    case atStart => exact ⟨(x3_1), (false), (0), mE, mE, H', ⟨Nat.le_refl _⟩, ⟨by refine mR ?_; exact Kd.R_mono HO_3.out (fun _ hk => ⟨hk, hk⟩)⟩, ⟨mR HO_4.out⟩, ⟨mR HO_4.out⟩, ⟨mK BK348.out⟩, ⟨(mH1 HB.out GE348.out)⟩⟩
    case round =>
     clear H'
     try clear c1
     try clear p2
     try clear c3
     try clear c6
     try clear hcz4_0
     try clear hfz4_0
     try clear p2
     obtain ⟨x3_2, x5_2, x14_2, rfl, rfl, HA, HK2, HO_3, HO_4, HO_12, BK348, HB⟩ := hrel
     cases gk with
     | zero => exact absurd HA.out (by simp [impl_OrderOf.l1])
     | succ k2 =>
      have H := HA.out
      clear HA
      simp only [impl_OrderOf.l1] at H
      by_cases c8 : x14_2 < (t349.length : Int)
      ·rw [if_pos c8] at H
       have c8b0 := decide_eq_true c8
       clear c8
       by_cases c9 : 0 ≤ x14_2
       ·rw [if_pos c9] at H
        have c9b0 := decide_eq_true c9
        clear c9
        by_cases c10 : x14_2 < (t349.length : Int)
        ·rw [if_pos c10] at H
         have c10b0 := decide_eq_true c10
         clear c10
         replace H := Option.bind_eq_some_iff.mp H
         obtain ⟨t354, A110, H⟩ := H
         replace H : (if t354 = true then (impl_OrderOf.l1 k2 x3_2 t349 x5_2 t349 (t349.length : Int) (wrap64 (x14_2 + 1)) l0_0) else ((impl_Group.f k2 l0_0 ((rd_T31 t349 x14_2).f0) ((rd_T31 t349 x14_2).f1)).bind fun t355 => ((impl_ready.f k2 l0_0 t355 x3_2).bind fun t358 => (if t358 = true then (if x3_2.length + t355.length < 8796093022208 then (impl_OrderOf.l0 k2 (x3_2 ++ t355) t349 true l0_0) else (none)) else (impl_OrderOf.l1 k2 x3_2 t349 x5_2 t349 (t349.length : Int) (wrap64 (x14_2 + 1)) l0_0))))) = some r := H
         have A11 := mS A110
         clear A110
         by_cases c12 : t354 = true
         ·subst c12
          have H1 := H
          rw [if_pos rfl] at H1
          clear H
          have H := H1
          clear H1
          have H' := mS H
          clear H
          have p352 : 0 ≤ (x14_2 : Int) := mD
          have q352 : x14_2 < (t349.length : Int) := mD
          obtain ⟨ad352, e352, hx352_0, hx352_1⟩ := at_T31 (Kd.R_reads' HO_12.out).2.2 x14_2 p352 q352
          cases e352
          replace p352 := eq_true p352
          replace q352 := eq_true q352
          go_wp2_with (first | ((with_reducible refine gate_dst (N := 7) rfl ?_); refine mBx 7 #[.int .i64 0, .int .i64 0] 31 ?_; intro gb353 hg w13 hbox hb; replace HO_3 := mS (Kd.R_below (Kd.R_elderB (mR HO_3.out) gb353 (Nat.le_of_eq hg.symm)) hb); replace HO_4 := mS (Kd.R_below (Kd.R_elderB (mR HO_4.out) gb353 (Nat.le_of_eq hg.symm)) hb); replace HO_12 := mS (Kd.R_below (Kd.R_elderB (mR HO_12.out) gb353 (Nat.le_of_eq hg.symm)) hb); have BK353 := mS (hbox); have GW353 := mG hg (mH1 HB.out GE348.out); have GE353 := mG hg (mH1 HB.out GE348.out); replace HB := mS (below_step (mH1 HB.out GE348.out) hb); have NB348_353 := mNl hg BK348.out; have NB353_348 := mNg hg BK348.out; replace BK348 := mB BK348 hb; clear hb hbox hg; have hnb14 := NB353_348.out; have hnc14 := NB348_353.out; obtain ⟨hcz15_0, hcz15_1, hfz15_0, hfz15_1⟩ := mZ2 BK353.out; obtain ⟨Ao16, co16, eo16⟩ := Kd.R_slice HO_3.out; subst eo16) | ((with_reducible refine gate_callee (f := 61) rfl ?_); refine mGo 20 Try.func61 #[.slice Ao16 x3_2.length co16, .agg #[.int .i64 ((rd_T31 t349 x14_2).f0), .int .i64 ((rd_T31 t349 x14_2).f1)]] ?_; (with_reducible refine (impl_hasDot.calls k2 _ _ x3_2 ((rd_T31 t349 x14_2).f0) ((rd_T31 t349 x14_2).f1) true _ ?side1 ?side2 A11.out).mono ?_); (case side1 => refine (Kd.R_reads' (e := 31) (base := w.heap.size) (ok := fun k_ => ((some k_ ≠ (.slice (some ad352) t349.length co7 : Value).ownBlock ∧ some k_ ≠ (.slice (some ad352) t349.length co7 : Value).ownBlock) ∧ k_ ≠ gb353)) (n := x3_2.length) (c := co16) ?_).2.2; exact (by refine mR ?_; exact (Kd.R_mono (mRf2 (Kd.R_mono HO_3.out (fun k_ hk => (⟨hk, hk.2⟩ : _ ∧ k_ ≠ gb353)))) (fun _ h_ => h_.1)))); (case side2 => exact (Kd.R_reads' HO_3.out).2.1); rintro e w17 ⟨rfl, hb⟩; refine ⟨_, rfl, ?_⟩; replace HO_3 := mS (Kd.R_below (by refine mR ?_; exact (Kd.R_mono (mRf2 (Kd.R_mono HO_3.out (fun k_ hk => (⟨hk, hk.2⟩ : _ ∧ k_ ≠ gb353)))) (fun _ h_ => h_.1))) hb); replace HO_4 := mS (Kd.R_below (by refine mR ?_; exact (Kd.R_mono (mRf2 (Kd.R_mono HO_4.out (fun k_ hk => (⟨hk, hk.2⟩ : _ ∧ k_ ≠ gb353)))) (fun _ h_ => h_.1))) hb); replace HO_12 := mS (Kd.R_below (by refine mR ?_; exact (Kd.R_mono (mRf2 (Kd.R_mono HO_12.out (fun k_ hk => (⟨hk, hk.2⟩ : _ ∧ k_ ≠ gb353)))) (fun _ h_ => h_.1))) hb); replace BK348 := mS (blk_below (g := gb348) (o := .cells #[.slice A0_0 l0_0.length c0_0] 26 (0, 0)) (mKf NB348_353.out BK348.out) hb); replace BK353 := mS (blk_below (g := gb353) (o := .cells #[.int .i64 ((rd_T31 t349 x14_2).f0), .int .i64 ((rd_T31 t349 x14_2).f1)] 31 (0, 0)) (by refine mK ?_; refine blk_put (cs := #[.int .i64 ((rd_T31 t349 x14_2).f0), .int .i64 0]) ?_ 1 _ rfl; refine mK ?_; refine blk_put (cs := #[.int .i64 0, .int .i64 0]) ?_ 0 _ rfl; refine mK ?_; exact BK353.out) hb); replace HB := mS (below_step (mH2 HB.out GE348.out GE353.out) hb); (try clear hb)))
          go_roundg k2
          case measure => have := HK1.out; have := HK2.out; omega
          case rel => exact ⟨(x3_2), (x5_2), (wrap64 (x14_2 + 1)), mE, mE, H', ⟨by have := HK1.out; have := HK2.out; omega⟩, ⟨by refine mR ?_; exact Kd.R_mono HO_3.out (fun _ hk => ⟨hk.1.1, hk.1.2⟩)⟩, ⟨by refine mR ?_; exact Kd.R_mono HO_4.out (fun _ hk => hk.1)⟩, ⟨by refine mR ?_; exact Kd.R_mono HO_12.out (fun _ hk => hk.1)⟩, ⟨mK BK348.out⟩, ⟨(mH2 HB.out GE348.out GE353.out)⟩⟩
         ·replace c12 := Bool.eq_false_iff.mpr c12
          subst c12
          have H1 := H
          rw [if_neg (show ¬ (false = true) by decide)] at H1
          clear H
          have H := H1
          clear H1
          replace H := Option.bind_eq_some_iff.mp H
          obtain ⟨t355, A180, H⟩ := H
          replace H : ((impl_ready.f k2 l0_0 t355 x3_2).bind fun t358 => (if t358 = true then (if x3_2.length + t355.length < 8796093022208 then (impl_OrderOf.l0 k2 (x3_2 ++ t355) t349 true l0_0) else (none)) else (impl_OrderOf.l1 k2 x3_2 t349 x5_2 t349 (t349.length : Int) (wrap64 (x14_2 + 1)) l0_0))) = some r := H
          have A18 := mS A180
          clear A180
          replace H := Option.bind_eq_some_iff.mp H
          obtain ⟨t358, A190, H⟩ := H
          replace H : (if t358 = true then (if x3_2.length + t355.length < 8796093022208 then (impl_OrderOf.l0 k2 (x3_2 ++ t355) t349 true l0_0) else (none)) else (impl_OrderOf.l1 k2 x3_2 t349 x5_2 t349 (t349.length : Int) (wrap64 (x14_2 + 1)) l0_0)) = some r := H
          have A19 := mS A190
          clear A190
          by_cases c20 : t358 = true
          ·subst c20
           have H1 := H
           rw [if_pos rfl] at H1
           clear H
           have H := H1
           clear H1
           by_cases c21 : x3_2.length + t355.length < 8796093022208
           ·rw [if_pos c21] at H
            have LMc21 := mS c21
            clear c21
            obtain ⟨y359, hy359⟩ : ∃ y_ : List (S31), y_ = (x3_2 ++ t355) := ⟨_, rfl⟩
            replace H : (impl_OrderOf.l0 k2 y359 t349 true l0_0) = some r := by first | (rw [hy359]; with_reducible exact H) | (have H2_ := (Option.bind_some _ _).symm.trans H; rw [hy359]; with_reducible exact H2_) | (have H2_ := (Option.bind_some _ _).symm.trans H; with_reducible exact H2_) | with_reducible exact H | (rw [hy359]; exact H) | exact H
            have Ny359 := mS hy359
            clear hy359
            have H' := mS H
            clear H
            have p352 : 0 ≤ (x14_2 : Int) := mD
            have q352 : x14_2 < (t349.length : Int) := mD
            obtain ⟨ad352, e352, hx352_0, hx352_1⟩ := at_T31 (Kd.R_reads' HO_12.out).2.2 x14_2 p352 q352
            cases e352
            replace p352 := eq_true p352
            replace q352 := eq_true q352
            go_wp2_with (first | ((with_reducible refine gate_dst (N := 7) rfl ?_); refine mBx 7 #[.int .i64 0, .int .i64 0] 31 ?_; intro gb353 hg w22 hbox hb; replace HO_3 := mS (Kd.R_below (Kd.R_elderB (mR HO_3.out) gb353 (Nat.le_of_eq hg.symm)) hb); replace HO_4 := mS (Kd.R_below (Kd.R_elderB (mR HO_4.out) gb353 (Nat.le_of_eq hg.symm)) hb); replace HO_12 := mS (Kd.R_below (Kd.R_elderB (mR HO_12.out) gb353 (Nat.le_of_eq hg.symm)) hb); have BK353 := mS (hbox); have GW353 := mG hg (mH1 HB.out GE348.out); have GE353 := mG hg (mH1 HB.out GE348.out); replace HB := mS (below_step (mH1 HB.out GE348.out) hb); have NB348_353 := mNl hg BK348.out; have NB353_348 := mNg hg BK348.out; replace BK348 := mB BK348 hb; clear hb hbox hg; have hnb23 := NB353_348.out; have hnc23 := NB348_353.out; obtain ⟨hcz24_0, hcz24_1, hfz24_0, hfz24_1⟩ := mZ2 BK353.out; obtain ⟨Ao25, co25, eo25⟩ := Kd.R_slice HO_3.out; subst eo25) | ((with_reducible refine gate_callee (f := 61) rfl ?_); refine mGo 20 Try.func61 #[.slice Ao25 x3_2.length co25, .agg #[.int .i64 ((rd_T31 t349 x14_2).f0), .int .i64 ((rd_T31 t349 x14_2).f1)]] ?_; (with_reducible refine (impl_hasDot.calls k2 _ _ x3_2 ((rd_T31 t349 x14_2).f0) ((rd_T31 t349 x14_2).f1) false _ ?side1 ?side2 A11.out).mono ?_); (case side1 => refine (Kd.R_reads' (e := 31) (base := w.heap.size) (ok := fun k_ => ((some k_ ≠ (.slice (some ad352) t349.length co7 : Value).ownBlock ∧ some k_ ≠ (.slice (some ad352) t349.length co7 : Value).ownBlock) ∧ k_ ≠ gb353)) (n := x3_2.length) (c := co25) ?_).2.2; exact (by refine mR ?_; exact (Kd.R_mono (mRf2 (Kd.R_mono HO_3.out (fun k_ hk => (⟨hk, hk.2⟩ : _ ∧ k_ ≠ gb353)))) (fun _ h_ => h_.1)))); (case side2 => exact (Kd.R_reads' HO_3.out).2.1); rintro e w26 ⟨rfl, hb⟩; refine ⟨_, rfl, ?_⟩; replace HO_3 := mS (Kd.R_below (by refine mR ?_; exact (Kd.R_mono (mRf2 (Kd.R_mono HO_3.out (fun k_ hk => (⟨hk, hk.2⟩ : _ ∧ k_ ≠ gb353)))) (fun _ h_ => h_.1))) hb); replace HO_4 := mS (Kd.R_below (by refine mR ?_; exact (Kd.R_mono (mRf2 (Kd.R_mono HO_4.out (fun k_ hk => (⟨hk, hk.2⟩ : _ ∧ k_ ≠ gb353)))) (fun _ h_ => h_.1))) hb); replace HO_12 := mS (Kd.R_below (by refine mR ?_; exact (Kd.R_mono (mRf2 (Kd.R_mono HO_12.out (fun k_ hk => (⟨hk, hk.2⟩ : _ ∧ k_ ≠ gb353)))) (fun _ h_ => h_.1))) hb); replace BK348 := mS (blk_below (g := gb348) (o := .cells #[.slice A0_0 l0_0.length c0_0] 26 (0, 0)) (mKf NB348_353.out BK348.out) hb); replace BK353 := mS (blk_below (g := gb353) (o := .cells #[.int .i64 ((rd_T31 t349 x14_2).f0), .int .i64 ((rd_T31 t349 x14_2).f1)] 31 (0, 0)) (by refine mK ?_; refine blk_put (cs := #[.int .i64 ((rd_T31 t349 x14_2).f0), .int .i64 0]) ?_ 1 _ rfl; refine mK ?_; refine blk_put (cs := #[.int .i64 0, .int .i64 0]) ?_ 0 _ rfl; refine mK ?_; exact BK353.out) hb); replace HB := mS (below_step (mH2 HB.out GE348.out GE353.out) hb); (try clear hb); have hcz27_0 := mZ BK348.out 0; have hfz27_0 := blk_frozen BK348.out 0; obtain ⟨hcz28_0, hcz28_1, hfz28_0, hfz28_1⟩ := mZ2 BK353.out) | ((with_reducible refine gate_callee (f := 36) rfl ?_); refine mGo 23 Try.func36 #[.agg #[.slice A0_0 l0_0.length c0_0], .agg #[.int .i64 ((rd_T31 t349 x14_2).f0), .int .i64 ((rd_T31 t349 x14_2).f1)]] ?_; (with_reducible refine (impl_Group.calls k2 _ _ l0_0 ((rd_T31 t349 x14_2).f0) ((rd_T31 t349 x14_2).f1) t355 _ ?side1 ?side2 A18.out).mono ?_); (case side1 => exact mC (Kd.C_below HR0_0.out HB.out)); (case side2 => exact HC0_0.out); rintro e w29 ⟨v356, rfl, ho0, hb⟩; refine ⟨_, rfl, ?_⟩; have HO357 := mS (Kd.R_lower (Kd.R_newB (Kd.R_new' (Kd.R_new' (Kd.R_new' ho0 (Kd.R_lt (mR HO_3.out))) (Kd.R_lt (mR HO_4.out))) (Kd.R_lt (mR HO_12.out))) (g := gb353) (o := .cells #[.int .i64 ((rd_T31 t349 x14_2).f0), .int .i64 ((rd_T31 t349 x14_2).f1)] 31 (0, 0)) (mK BK353.out)) (below_size (mH2 HB.out GE348.out GE353.out))); replace HO_3 := mS (Kd.R_elder' (mR HO_3.out) (Kd.R_base ho0) hb); replace HO_4 := mS (Kd.R_elder' (mR HO_4.out) (Kd.R_base ho0) hb); replace HO_12 := mS (Kd.R_elder' (mR HO_12.out) (Kd.R_base ho0) hb); replace BK348 := mB BK348 hb; replace BK353 := mB BK353 hb; replace HB := mS (below_step (mH2 HB.out GE348.out GE353.out) hb); (try clear hb); (try clear ho0); have hcz30_0 := mZ BK348.out 0; have hfz30_0 := blk_frozen BK348.out 0; obtain ⟨Ao31, co31, eo31⟩ := Kd.R_slice HO357.out; subst eo31) | ((with_reducible refine gate_callee (f := 62) rfl ?_); refine mGo 27 Try.func62 #[.agg #[.slice A0_0 l0_0.length c0_0], .slice Ao31 t355.length co31, .slice Ao25 x3_2.length co25] ?_; (with_reducible refine (impl_ready.calls k2 _ _ l0_0 _ _ t355 _ _ x3_2 true _ ?side1 ?side2 ?side3 ?side4 ?side5 ?side6 A19.out).mono ?_); (case side1 => exact mC (Kd.C_below HR0_0.out HB.out)); (case side2 => exact HC0_0.out); (case side3 => exact mC (Kd.R_reads' HO357.out).2.2); (case side4 => exact (Kd.R_reads' HO357.out).2.1); (case side5 => exact mC (Kd.R_reads' HO_3.out).2.2); (case side6 => exact (Kd.R_reads' HO_3.out).2.1); rintro e w32 ⟨rfl, hb⟩; refine ⟨_, rfl, ?_⟩; replace HO_3 := mS (Kd.R_below (mR HO_3.out) hb); replace HO_4 := mS (Kd.R_below (mR HO_4.out) hb); replace HO_12 := mS (Kd.R_below (mR HO_12.out) hb); replace HO357 := mS (Kd.R_below (mR HO357.out) hb); replace BK348 := mB BK348 hb; replace BK353 := mB BK353 hb; replace HB := mS (below_step (mH2 HB.out GE348.out GE353.out) hb); (try clear hb)) | ((with_reducible refine gate_builtin (b := .append) (xs := #[.tmp 28, .tmp 29]) rfl ?_); at_builtin; refine Kd.R_append_rows k31 (w0 := w) w.heap.size rfl (.tmp 28) (.tmp 29) 28 31 (.agg #[(.int .i64 0), (.int .i64 0)]) 16 rfl Try.underlying28 info31 rfl (by decide) (by omega) (.slice Ao25 x3_2.length co25) x3_2 t355 _ _ _ (fun k_ => some k_ ≠ (.slice (some ad352) t349.length co7 : Value).ownBlock ∧ some k_ ≠ (.slice (some ad352) t349.length co7 : Value).ownBlock ∧ some k_ ≠ (.slice Ao31 t355.length co31 : Value).ownBlock ∧ k_ ≠ gb353) (fun _ => False) rfl rfl ?aO ?aR (fun _ _ h => h) (fun _ h => h.elim) ?aF ?aB ?aS ?aL ?_; (case aR => exact mC (Kd.R_reads' HO357.out).2.2); (case aB => exact (mH2 HB.out GE348.out GE353.out)); (case aF => exact (fun k_ hk => ⟨Kd.fresh' (Kd.R_lt (mR HO_4.out)) k_ hk, Kd.fresh' (Kd.R_lt (mR HO_12.out)) k_ hk, Kd.fresh' (Kd.R_lt (mR HO357.out)) k_ hk, Kd.freshB (g := gb353) (o := .cells #[.int .i64 ((rd_T31 t349 x14_2).f0), .int .i64 ((rd_T31 t349 x14_2).f1)] 31 (0, 0)) (mK BK353.out) k_ hk⟩)); (case aO => exact (by refine mR ?_; exact Kd.R_mono HO_3.out (fun _ hk => ⟨hk.1.1.1, ⟨hk.1.1.2, ⟨hk.2, hk.1.2⟩⟩⟩))); (case aS => exact (below_size (mH2 HB.out GE348.out GE353.out))); (case aL => have := LMc21.out; omega); intro v360 w33 ho hb hg hat; rw [← Ny359.out] at ho; replace HO_4 := mS (Kd.R_after (ok := (fun k_ => some k_ ≠ (.slice Ao31 t355.length co31 : Value).ownBlock ∧ k_ ≠ gb353)) (by refine mR ?_; exact Kd.R_mono HO_4.out (fun _ hk => ⟨⟨hk.2, hk.1.2⟩, hk.1.1⟩)) hg hat); replace HO_12 := mS (Kd.R_after (ok := (fun k_ => some k_ ≠ (.slice Ao31 t355.length co31 : Value).ownBlock ∧ k_ ≠ gb353)) (by refine mR ?_; exact Kd.R_mono HO_12.out (fun _ hk => ⟨⟨hk.2, hk.1.2⟩, hk.1.1⟩)) hg hat); replace BK348 := mS (blk_grown (g := gb348) (o := .cells #[.slice A0_0 l0_0.length c0_0] 26 (0, 0)) (mK BK348.out) hg (Kd.R_ne HO_3.out BK348.out (by decide))); replace BK353 := mS (blk_grown (g := gb353) (o := .cells #[.int .i64 ((rd_T31 t349 x14_2).f0), .int .i64 ((rd_T31 t349 x14_2).f1)] 31 (0, 0)) (mK BK353.out) hg (Kd.R_away HO_3.out (fun _ hk => hk.1.2))); replace HO357 := mS (Kd.R_after (ok := (fun k_ => some k_ ≠ (.slice (some ad352) t349.length co7 : Value).ownBlock ∧ some k_ ≠ (.slice (some ad352) t349.length co7 : Value).ownBlock ∧ k_ ≠ gb353)) (by refine mR ?_; exact Kd.R_mono HO357.out (fun _ hk => ⟨⟨hk.1.1.2, ⟨hk.1.2, hk.2⟩⟩, hk.1.1.1.2⟩)) hg hat); replace HB := mS (hb); have HO361 := mS (ho); clear HO_3; clear ho hb hg hat))
            go_roundg k2
            case measure => have := HK1.out; have := HK2.out; omega
            case rel => exact ⟨(y359), (true), mE, H', ⟨by have := HK1.out; have := HK2.out; omega⟩, ⟨by refine mR ?_; exact Kd.R_mono HO361.out (fun _ hk => hk.1)⟩, ⟨by refine mR ?_; exact Kd.R_mono HO_4.out (fun _ hk => hk.2)⟩, ⟨mK BK348.out⟩, ⟨(mH2 HB.out GE348.out GE353.out)⟩⟩
           ·rw [if_neg c21] at H
            exact absurd H (by simp)
          ·replace c20 := Bool.eq_false_iff.mpr c20
           subst c20
           have H1 := H
           rw [if_neg (show ¬ (false = true) by decide)] at H1
           clear H
           have H := H1
           clear H1
           have H' := mS H
           clear H
           have p352 : 0 ≤ (x14_2 : Int) := mD
           have q352 : x14_2 < (t349.length : Int) := mD
           obtain ⟨ad352, e352, hx352_0, hx352_1⟩ := at_T31 (Kd.R_reads' HO_12.out).2.2 x14_2 p352 q352
           cases e352
           replace p352 := eq_true p352
           replace q352 := eq_true q352
           go_wp2_with (first | ((with_reducible refine gate_dst (N := 7) rfl ?_); refine mBx 7 #[.int .i64 0, .int .i64 0] 31 ?_; intro gb353 hg w34 hbox hb; replace HO_3 := mS (Kd.R_below (Kd.R_elderB (mR HO_3.out) gb353 (Nat.le_of_eq hg.symm)) hb); replace HO_4 := mS (Kd.R_below (Kd.R_elderB (mR HO_4.out) gb353 (Nat.le_of_eq hg.symm)) hb); replace HO_12 := mS (Kd.R_below (Kd.R_elderB (mR HO_12.out) gb353 (Nat.le_of_eq hg.symm)) hb); have BK353 := mS (hbox); have GW353 := mG hg (mH1 HB.out GE348.out); have GE353 := mG hg (mH1 HB.out GE348.out); replace HB := mS (below_step (mH1 HB.out GE348.out) hb); have NB348_353 := mNl hg BK348.out; have NB353_348 := mNg hg BK348.out; replace BK348 := mB BK348 hb; clear hb hbox hg; have hnb35 := NB353_348.out; have hnc35 := NB348_353.out; obtain ⟨hcz36_0, hcz36_1, hfz36_0, hfz36_1⟩ := mZ2 BK353.out; obtain ⟨Ao37, co37, eo37⟩ := Kd.R_slice HO_3.out; subst eo37) | ((with_reducible refine gate_callee (f := 61) rfl ?_); refine mGo 20 Try.func61 #[.slice Ao37 x3_2.length co37, .agg #[.int .i64 ((rd_T31 t349 x14_2).f0), .int .i64 ((rd_T31 t349 x14_2).f1)]] ?_; (with_reducible refine (impl_hasDot.calls k2 _ _ x3_2 ((rd_T31 t349 x14_2).f0) ((rd_T31 t349 x14_2).f1) false _ ?side1 ?side2 A11.out).mono ?_); (case side1 => refine (Kd.R_reads' (e := 31) (base := w.heap.size) (ok := fun k_ => ((some k_ ≠ (.slice (some ad352) t349.length co7 : Value).ownBlock ∧ some k_ ≠ (.slice (some ad352) t349.length co7 : Value).ownBlock) ∧ k_ ≠ gb353)) (n := x3_2.length) (c := co37) ?_).2.2; exact (by refine mR ?_; exact (Kd.R_mono (mRf2 (Kd.R_mono HO_3.out (fun k_ hk => (⟨hk, hk.2⟩ : _ ∧ k_ ≠ gb353)))) (fun _ h_ => h_.1)))); (case side2 => exact (Kd.R_reads' HO_3.out).2.1); rintro e w38 ⟨rfl, hb⟩; refine ⟨_, rfl, ?_⟩; replace HO_3 := mS (Kd.R_below (by refine mR ?_; exact (Kd.R_mono (mRf2 (Kd.R_mono HO_3.out (fun k_ hk => (⟨hk, hk.2⟩ : _ ∧ k_ ≠ gb353)))) (fun _ h_ => h_.1))) hb); replace HO_4 := mS (Kd.R_below (by refine mR ?_; exact (Kd.R_mono (mRf2 (Kd.R_mono HO_4.out (fun k_ hk => (⟨hk, hk.2⟩ : _ ∧ k_ ≠ gb353)))) (fun _ h_ => h_.1))) hb); replace HO_12 := mS (Kd.R_below (by refine mR ?_; exact (Kd.R_mono (mRf2 (Kd.R_mono HO_12.out (fun k_ hk => (⟨hk, hk.2⟩ : _ ∧ k_ ≠ gb353)))) (fun _ h_ => h_.1))) hb); replace BK348 := mS (blk_below (g := gb348) (o := .cells #[.slice A0_0 l0_0.length c0_0] 26 (0, 0)) (mKf NB348_353.out BK348.out) hb); replace BK353 := mS (blk_below (g := gb353) (o := .cells #[.int .i64 ((rd_T31 t349 x14_2).f0), .int .i64 ((rd_T31 t349 x14_2).f1)] 31 (0, 0)) (by refine mK ?_; refine blk_put (cs := #[.int .i64 ((rd_T31 t349 x14_2).f0), .int .i64 0]) ?_ 1 _ rfl; refine mK ?_; refine blk_put (cs := #[.int .i64 0, .int .i64 0]) ?_ 0 _ rfl; refine mK ?_; exact BK353.out) hb); replace HB := mS (below_step (mH2 HB.out GE348.out GE353.out) hb); (try clear hb); have hcz39_0 := mZ BK348.out 0; have hfz39_0 := blk_frozen BK348.out 0; obtain ⟨hcz40_0, hcz40_1, hfz40_0, hfz40_1⟩ := mZ2 BK353.out) | ((with_reducible refine gate_callee (f := 36) rfl ?_); refine mGo 23 Try.func36 #[.agg #[.slice A0_0 l0_0.length c0_0], .agg #[.int .i64 ((rd_T31 t349 x14_2).f0), .int .i64 ((rd_T31 t349 x14_2).f1)]] ?_; (with_reducible refine (impl_Group.calls k2 _ _ l0_0 ((rd_T31 t349 x14_2).f0) ((rd_T31 t349 x14_2).f1) t355 _ ?side1 ?side2 A18.out).mono ?_); (case side1 => exact mC (Kd.C_below HR0_0.out HB.out)); (case side2 => exact HC0_0.out); rintro e w41 ⟨v356, rfl, ho0, hb⟩; refine ⟨_, rfl, ?_⟩; have HO357 := mS (Kd.R_lower (Kd.R_newB (Kd.R_new' (Kd.R_new' (Kd.R_new' ho0 (Kd.R_lt (mR HO_3.out))) (Kd.R_lt (mR HO_4.out))) (Kd.R_lt (mR HO_12.out))) (g := gb353) (o := .cells #[.int .i64 ((rd_T31 t349 x14_2).f0), .int .i64 ((rd_T31 t349 x14_2).f1)] 31 (0, 0)) (mK BK353.out)) (below_size (mH2 HB.out GE348.out GE353.out))); replace HO_3 := mS (Kd.R_elder' (mR HO_3.out) (Kd.R_base ho0) hb); replace HO_4 := mS (Kd.R_elder' (mR HO_4.out) (Kd.R_base ho0) hb); replace HO_12 := mS (Kd.R_elder' (mR HO_12.out) (Kd.R_base ho0) hb); replace BK348 := mB BK348 hb; replace BK353 := mB BK353 hb; replace HB := mS (below_step (mH2 HB.out GE348.out GE353.out) hb); (try clear hb); (try clear ho0); have hcz42_0 := mZ BK348.out 0; have hfz42_0 := blk_frozen BK348.out 0; obtain ⟨Ao43, co43, eo43⟩ := Kd.R_slice HO357.out; subst eo43) | ((with_reducible refine gate_callee (f := 62) rfl ?_); refine mGo 27 Try.func62 #[.agg #[.slice A0_0 l0_0.length c0_0], .slice Ao43 t355.length co43, .slice Ao37 x3_2.length co37] ?_; (with_reducible refine (impl_ready.calls k2 _ _ l0_0 _ _ t355 _ _ x3_2 false _ ?side1 ?side2 ?side3 ?side4 ?side5 ?side6 A19.out).mono ?_); (case side1 => exact mC (Kd.C_below HR0_0.out HB.out)); (case side2 => exact HC0_0.out); (case side3 => exact mC (Kd.R_reads' HO357.out).2.2); (case side4 => exact (Kd.R_reads' HO357.out).2.1); (case side5 => exact mC (Kd.R_reads' HO_3.out).2.2); (case side6 => exact (Kd.R_reads' HO_3.out).2.1); rintro e w44 ⟨rfl, hb⟩; refine ⟨_, rfl, ?_⟩; replace HO_3 := mS (Kd.R_below (mR HO_3.out) hb); replace HO_4 := mS (Kd.R_below (mR HO_4.out) hb); replace HO_12 := mS (Kd.R_below (mR HO_12.out) hb); replace HO357 := mS (Kd.R_below (mR HO357.out) hb); replace BK348 := mB BK348 hb; replace BK353 := mB BK353 hb; replace HB := mS (below_step (mH2 HB.out GE348.out GE353.out) hb); (try clear hb)))
           go_roundg k2
           case measure => have := HK1.out; have := HK2.out; omega
           case rel => exact ⟨(x3_2), (x5_2), (wrap64 (x14_2 + 1)), mE, mE, H', ⟨by have := HK1.out; have := HK2.out; omega⟩, ⟨by refine mR ?_; exact Kd.R_mono HO_3.out (fun _ hk => ⟨hk.1.1.1, hk.1.1.2⟩)⟩, ⟨by refine mR ?_; exact Kd.R_mono HO_4.out (fun _ hk => hk.1.1)⟩, ⟨by refine mR ?_; exact Kd.R_mono HO_12.out (fun _ hk => hk.1.1)⟩, ⟨mK BK348.out⟩, ⟨(mH2 HB.out GE348.out GE353.out)⟩⟩
        ·rw [if_neg c10] at H
         exact absurd H (by simp)
       ·rw [if_neg c9] at H
        exact absurd H (by simp)
      ·rw [if_neg c8] at H
       have c8b0 := decide_eq_false c8
       clear c8
       have H' := mS H
       clear H
       go_wp2
       go_roundg k2
       case measure => have := HK1.out; have := HK2.out; omega
       case rel => exact ⟨(x3_2), (x5_2), mE, H', ⟨by have := HK1.out; have := HK2.out; omega⟩, ⟨by refine mR ?_; exact Kd.R_mono HO_3.out (fun _ hk => hk.1)⟩, ⟨mR HO_4.out⟩, ⟨mK BK348.out⟩, ⟨(mH1 HB.out GE348.out)⟩⟩
   ·replace c6 := Bool.eq_false_iff.mpr c6
    subst c6
    have H1 := H
    rw [if_neg (show ¬ (false = true) by decide)] at H1
    clear H
    have H := H1
    clear H1
    obtain rfl := Option.some.inj H
    go_wp2
    go_ret
    exact ⟨_, mEw, by refine mR ?_; exact Kd.R_mono HO_3.out (fun _ hk => trivial), (mH1 HB.out GE348.out)⟩

/-! ### laws_at: function 16 -/
def laws_at.f (l0 : List Int) (a1 : Int) : Option (Int) := if a1 < (l0.length : Int) then (if 0 ≤ a1 then (some (wrap64 (rd l0 a1))) else (none)) else (some (Int.tmod (wrap64 ((wrap64 (a1 * 31)) + (wrap64 ((l0.length : Int) * 7)))) 256))
set_option maxHeartbeats 8000000 in
set_option maxRecDepth 100000 in
theorem laws_at.calls (A0 : Option Addr) (c0 : Nat) (l0 : List Int) (a1 : Int) (r : Int) (w : World) (hr0 : Kd.C (Kd.int .u8) w A0 l0.length l0) (hc0 : l0.length ≤ c0) (h : laws_at.f l0 a1 = some r) :
  Calls Try.prog 16 #[.slice A0 l0.length c0, .int .i64 a1] w fun e w' => e = .returned (.int .i64 r) ∧ Drawn0 w w' := by
 have HR0 := mS hr0
 have HC0 := mS hc0
 clear hr0 hc0
 have H : (if a1 < (l0.length : Int) then (if 0 ≤ a1 then (some (wrap64 (rd l0 a1))) else (none)) else (some (Int.tmod (wrap64 ((wrap64 (a1 * 31)) + (wrap64 ((l0.length : Int) * 7)))) 256))) = some r := h
 clear h
 by_cases c3 : a1 < (l0.length : Int)
 ·rw [if_pos c3] at H
  have c3b0 := decide_eq_true c3
  clear c3
  by_cases c4 : 0 ≤ a1
  ·rw [if_pos c4] at H
   have c4b0 := decide_eq_true c4
   clear c4
   obtain rfl := Option.some.inj H
   have p362 : 0 ≤ (a1 : Int) := mD
   have q362 : a1 < (l0.length : Int) := mD
   obtain ⟨ad362, e362, hx362_0⟩ := Kd.at_int HR0.out a1 p362 q362
   cases e362
   replace p362 := eq_true p362
   replace q362 := eq_true q362
   go_enter Try.func16, Try.ntmps16
   go_wp2
   go_ret
   exact ⟨mE, by repeat (first | exact Drawn0.refl _ | apply Drawn0.step)⟩
  ·rw [if_neg c4] at H
   exact absurd H (by simp)
 ·rw [if_neg c3] at H
  have c3b0 := decide_eq_false c3
  clear c3
  obtain rfl := Option.some.inj H
  go_enter Try.func16, Try.ntmps16
  go_wp2
  go_ret
  exact ⟨mE, by repeat (first | exact Drawn0.refl _ | apply Drawn0.step)⟩

end Go.Proofs.Ytgbejjeephipeaa.MFnStable
