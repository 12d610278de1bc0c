-- Written by mp.py, this session's own printer (wip/mp.py).
import Derived.Test.YtgbejjeephipeaaVMShort
import Derived.Test.YtgbejjeephipeaaMFnExactOrderOfx0
import Derived.Test.YtgbejjeephipeaaMFnExactOrderOfx5
import Derived.Test.YtgbejjeephipeaaMFnExactOrderOfx7
namespace Go.Proofs.Ytgbejjeephipeaa.MFnExactOrderOf
open Go.RowKit Go.Proofs.YtgbejjeephipeaaW.PrintWords Go.Proofs.YtgbejjeephipeaaW.PrintLast Go.Proofs.YtgbejjeephipeaaW.PrintMore Go.Proofs.Ytgbejjeephipeaa.MWords
attribute [local go_sem] max2_int min2_int max_two min_two max_three min_three max_four min_four   -- for this text's walks alone
set_option linter.unusedVariables false
set_option linter.unusedSimpArgs false

/-! ### impl_ready: function 62 -/
mutual
def impl_ready.l0 : Nat → List (S31) → List (S31) → List (S31) → Int → Int → List (S33) → Option (Bool)
 | 0, _, _, _, _, _, _ => none
 | k + 1, x1, x2, x11, x12, x13, x205000 => if x13 < x12 then (if 0 ≤ x13 then (if x13 < (x11.length : Int) then ((impl_itemAt.f k x205000 ((rd_T31 x11 x13).f0) ((rd_T31 x11 x13).f1)).bind fun t207 => (if 0 ≤ t207 then (if t207 < (x205000.length : Int) then (impl_ready.l1 k x1 x2 x11 x12 x13 ((rd_T33 x205000 t207).f1) (((rd_T33 x205000 t207).f1).length : Int) 0 x205000) else (none)) else (none))) else (none)) else (none)) else (some true)
def impl_ready.l1 : Nat → List (S31) → List (S31) → List (S31) → Int → Int → List (S31) → Int → Int → List (S33) → Option (Bool)
 | 0, _, _, _, _, _, _, _, _, _ => none
 | k + 1, x1, x2, x11, x12, x13, x24, x25, x26, x205000 => if x26 < x25 then (if 0 ≤ x26 then (if x26 < (x24.length : Int) then ((impl_hasDot.f k x1 ((rd_T31 x24 x26).f0) ((rd_T31 x24 x26).f1)).bind fun t211 => (if t211 = true then (impl_ready.j2 k x1 x2 x11 x12 x13 x24 x25 x26 false x205000) else ((impl_hasDot.f k x2 ((rd_T31 x24 x26).f0) ((rd_T31 x24 x26).f1)).bind fun t212 => (impl_ready.j2 k x1 x2 x11 x12 x13 x24 x25 x26 (!t212) x205000)))) else (none)) else (none)) else (impl_ready.l0 k x1 x2 x11 x12 (wrap64 (x13 + 1)) x205000)
def impl_ready.j2 : Nat → List (S31) → List (S31) → List (S31) → Int → Int → List (S31) → Int → Int → Bool → List (S33) → Option (Bool)
 | 0, _, _, _, _, _, _, _, _, _, _ => none
 | k + 1, x1, x2, x11, x12, x13, x24, x25, x26, x39, x205000 => if x39 = true then (some false) else (impl_ready.l1 k x1 x2 x11 x12 x13 x24 x25 (wrap64 (x26 + 1)) x205000)
end
def impl_ready.f (k : Nat) (l0_0 : List (S33)) (l1 : List (S31)) (l2 : List (S31)) : Option (Bool) := impl_ready.l0 k l1 l2 l1 (l1.length : Int) 0 l0_0
theorem impl_ready.mono_l : ∀ k, (∀ y0 y1 y2 y3 y4 y5, LeO (impl_ready.l0 k y0 y1 y2 y3 y4 y5) (impl_ready.l0 (k + 1) y0 y1 y2 y3 y4 y5)) ∧ (∀ y0 y1 y2 y3 y4 y5 y6 y7 y8, LeO (impl_ready.l1 k y0 y1 y2 y3 y4 y5 y6 y7 y8) (impl_ready.l1 (k + 1) y0 y1 y2 y3 y4 y5 y6 y7 y8)) ∧ (∀ y0 y1 y2 y3 y4 y5 y6 y7 y8 y9, LeO (impl_ready.j2 k y0 y1 y2 y3 y4 y5 y6 y7 y8 y9) (impl_ready.j2 (k + 1) y0 y1 y2 y3 y4 y5 y6 y7 y8 y9))
 | 0 => ⟨fun _ _ _ _ _ _ r h => by simp [impl_ready.l0] at h, fun _ _ _ _ _ _ _ _ _ r h => by simp [impl_ready.l1] at h, fun _ _ _ _ _ _ _ _ _ _ r h => by simp [impl_ready.j2] at h⟩
 | k + 1 => by
  obtain ⟨ih0, ih1, ih2⟩ := impl_ready.mono_l k
  refine ⟨?_, ?_, ?_⟩
  ·intro y0 y1 y2 y3 y4 y5
   unfold impl_ready.l0
   repeat' first
   | (with_reducible exact ih0 _ _ _ _ _ _)
   | (with_reducible exact ih1 _ _ _ _ _ _ _ _ _)
   | (with_reducible exact ih2 _ _ _ _ _ _ _ _ _ _)
   | (with_reducible exact impl_hasDot.mono _ _ _ _)
   | (with_reducible exact impl_itemAt.mono _ _ _ _)
   | (with_reducible exact LeO.refl _)
   | (with_reducible exact LeO.none _)
   | (with_reducible refine LeO.ite ?_ ?_)
   | (with_reducible refine LeO.bind ?_ (fun _ => ?_))
   | exact ih0 _ _ _ _ _ _
   | exact ih1 _ _ _ _ _ _ _ _ _
   | exact ih2 _ _ _ _ _ _ _ _ _ _
   | exact impl_hasDot.mono _ _ _ _
   | exact impl_itemAt.mono _ _ _ _
   | exact LeO.none _
   | refine LeO.ite ?_ ?_
   | refine LeO.bind ?_ (fun _ => ?_)
  ·intro y0 y1 y2 y3 y4 y5 y6 y7 y8
   unfold impl_ready.l1
   repeat' first
   | (with_reducible exact ih0 _ _ _ _ _ _)
   | (with_reducible exact ih1 _ _ _ _ _ _ _ _ _)
   | (with_reducible exact ih2 _ _ _ _ _ _ _ _ _ _)
   | (with_reducible exact impl_hasDot.mono _ _ _ _)
   | (with_reducible exact impl_itemAt.mono _ _ _ _)
   | (with_reducible exact LeO.refl _)
   | (with_reducible exact LeO.none _)
   | (with_reducible refine LeO.ite ?_ ?_)
   | (with_reducible refine LeO.bind ?_ (fun _ => ?_))
   | exact ih0 _ _ _ _ _ _
   | exact ih1 _ _ _ _ _ _ _ _ _
   | exact ih2 _ _ _ _ _ _ _ _ _ _
   | exact impl_hasDot.mono _ _ _ _
   | exact impl_itemAt.mono _ _ _ _
   | exact LeO.none _
   | refine LeO.ite ?_ ?_
   | refine LeO.bind ?_ (fun _ => ?_)
  ·intro y0 y1 y2 y3 y4 y5 y6 y7 y8 y9
   unfold impl_ready.j2
   repeat' first
   | (with_reducible exact ih0 _ _ _ _ _ _)
   | (with_reducible exact ih1 _ _ _ _ _ _ _ _ _)
   | (with_reducible exact ih2 _ _ _ _ _ _ _ _ _ _)
   | (with_reducible exact impl_hasDot.mono _ _ _ _)
   | (with_reducible exact impl_itemAt.mono _ _ _ _)
   | (with_reducible exact LeO.refl _)
   | (with_reducible exact LeO.none _)
   | (with_reducible refine LeO.ite ?_ ?_)
   | (with_reducible refine LeO.bind ?_ (fun _ => ?_))
   | exact ih0 _ _ _ _ _ _
   | exact ih1 _ _ _ _ _ _ _ _ _
   | exact ih2 _ _ _ _ _ _ _ _ _ _
   | exact impl_hasDot.mono _ _ _ _
   | exact impl_itemAt.mono _ _ _ _
   | exact LeO.none _
   | refine LeO.ite ?_ ?_
   | refine LeO.bind ?_ (fun _ => ?_)
theorem impl_ready.mono : ∀ a0 a1 a2 k, LeO (impl_ready.f k a0 a1 a2) (impl_ready.f (k + 1) a0 a1 a2) := by
 intro a0 a1 a2 k
 obtain ⟨ih0, ih1, ih2⟩ := impl_ready.mono_l k
 unfold impl_ready.f
 repeat' first
   | (with_reducible exact ih0 _ _ _ _ _ _)
   | (with_reducible exact ih1 _ _ _ _ _ _ _ _ _)
   | (with_reducible exact ih2 _ _ _ _ _ _ _ _ _ _)
   | (with_reducible exact impl_hasDot.mono _ _ _ _)
   | (with_reducible exact impl_itemAt.mono _ _ _ _)
   | (with_reducible exact LeO.refl _)
   | (with_reducible exact LeO.none _)
   | (with_reducible refine LeO.ite ?_ ?_)
   | (with_reducible refine LeO.bind ?_ (fun _ => ?_))
   | exact ih0 _ _ _ _ _ _
   | exact ih1 _ _ _ _ _ _ _ _ _
   | exact ih2 _ _ _ _ _ _ _ _ _ _
   | exact impl_hasDot.mono _ _ _ _
   | exact impl_itemAt.mono _ _ _ _
   | exact LeO.none _
   | refine LeO.ite ?_ ?_
   | refine LeO.bind ?_ (fun _ => ?_)
def impl_ready.T4 : Bool × List (List Nat × List Nat) := (true, [([], []), ([0], [0]), ([], []), ([], []), ([2, 3], [2, 3]), ([1, 4], [1, 4]), ([5], [5]), ([6], [6]), ([7], [7]), ([], [])])
def impl_ready.B4 : List Nat := [0, 1, 0, 0, 12, 31, 63, 127, 255, 0]
theorem impl_ready.tab4 : rtab .any (opsOf Try.f62 4) = impl_ready.T4 := by kernel_rfl
theorem impl_ready.bits4 : waitsOk impl_ready.T4.2 impl_ready.B4 = true := by kernel_rfl
set_option maxHeartbeats 8000000 in
set_option maxRecDepth 100000 in
theorem impl_ready.calls (k : Nat) (A0_0 : Option Addr) (c0_0 : Nat) (l0_0 : List (S33)) (A1 : Option Addr) (c1 : Nat) (l1 : List (S31)) (A2 : Option Addr) (c2 : Nat) (l2 : List (S31)) (r : Bool) (w : World) (hr0_0 : Kd.C k33 w A0_0 l0_0.length l0_0) (hc0_0 : l0_0.length ≤ c0_0) (hr1 : Kd.C k31 w A1 l1.length l1) (hc1 : l1.length ≤ c1) (hr2 : Kd.C k31 w A2 l2.length l2) (hc2 : l2.length ≤ c2) (h : impl_ready.f k l0_0 l1 l2 = some r) :
  Calls Try.prog 62 #[.agg #[.slice A0_0 l0_0.length c0_0], .slice A1 l1.length c1, .slice A2 l2.length c2] w fun e w' => e = .returned (.bool r) ∧ Below w.heap.size w w' := by
 have hu26 := Try.underlying26
 have hu31 := Try.underlying31
 have HR0_0 := mS hr0_0
 have HC0_0 := mS hc0_0
 clear hr0_0 hc0_0
 have HR1 := mS hr1
 have HC1 := mS hc1
 clear hr1 hc1
 have HR2 := mS hr2
 have HC2 := mS hc2
 clear hr2 hc2
 have HB := mS (Below.refl w.heap.size w)
 have H : (impl_ready.l0 k l1 l2 l1 (l1.length : Int) 0 l0_0) = some r := h
 clear h
 have H' := mS H
 clear H
 go_enter Try.func62, Try.ntmps62
 go_wp2_with (first | ((with_reducible refine gate_dst (N := 3) rfl ?_); refine mBx 3 #[.slice A0_0 l0_0.length c0_0] 26 ?_; intro gb204 hg w4 hbox hb; have BK204 := mS (hbox); have GW204 := mG hg (mH HB.out); have GE204 := mG hg (mH HB.out); replace HB := mS (below_step (mH HB.out) hb); clear hb hbox hg))
 go_loopg [13] k (fun kq v13 w' => ∃ (x13_1 : Int), v13 = .int .i64 x13_1 ∧ Aside0 (impl_ready.l0 kq l1 l2 l1 (l1.length : Int) x13_1 l0_0 = some r) ∧ Aside0 (kq ≤ k) ∧ Aside0 (w'.heap[gb204]? = some (.cells #[(.slice A0_0 l0_0.length c0_0)] 26 (0, 0))) ∧ Aside0 (Below w.heap.size w w'))
 case atStart => exact ⟨(0), mE, H', ⟨Nat.le_refl _⟩, ⟨mK BK204.out⟩, ⟨(mH1 HB.out GE204.out)⟩⟩
 case round =>
  clear H'
  try clear c1
  try clear c2
  try clear p2
  obtain ⟨x13_1, rfl, HA, HK1, BK204, HB⟩ := hrel
  cases gk with
  | zero => exact absurd HA.out (by simp [impl_ready.l0])
  | succ k1 =>
   have H := HA.out
   clear HA
   simp only [impl_ready.l0] at H
   by_cases c5 : x13_1 < (l1.length : Int)
   ·rw [if_pos c5] at H
    have c5b0 := decide_eq_true c5
    clear c5
    by_cases c6 : 0 ≤ x13_1
    ·rw [if_pos c6] at H
     have c6b0 := decide_eq_true c6
     clear c6
     by_cases c7 : x13_1 < (l1.length : Int)
     ·rw [if_pos c7] at H
      have c7b0 := decide_eq_true c7
      clear c7
      replace H := Option.bind_eq_some_iff.mp H
      obtain ⟨t207, A80, H⟩ := H
      replace H : (if 0 ≤ t207 then (if t207 < (l0_0.length : Int) then (impl_ready.l1 k1 l1 l2 l1 (l1.length : Int) x13_1 ((rd_T33 l0_0 t207).f1) (((rd_T33 l0_0 t207).f1).length : Int) 0 l0_0) else (none)) else (none)) = some r := H
      have A8 := mS A80
      clear A80
      by_cases c9 : 0 ≤ t207
      ·rw [if_pos c9] at H
       have c9b0 := decide_eq_true c9
       clear c9
       by_cases c10 : t207 < (l0_0.length : Int)
       ·rw [if_pos c10] at H
        have c10b0 := decide_eq_true c10
        clear c10
        have H' := mS H
        clear H
        have p205 : 0 ≤ (x13_1 : Int) := mD
        have q205 : x13_1 < (l1.length : Int) := mD
        obtain ⟨ad205, e205, hx205_0, hx205_1⟩ := at_T31 HR1.out x13_1 p205 q205
        cases e205
        replace hx205_0 := mX HB.out hx205_0
        replace hx205_1 := mX HB.out hx205_1
        replace p205 := eq_true p205
        replace q205 := eq_true q205
        try go_wp2_with (first | ((with_reducible refine gate_dst (N := 8) rfl ?_); refine mBx 8 #[.int .i64 0, .int .i64 0] 31 ?_; intro gb206 hg w11 hbox hb; have BK206 := mS (hbox); have GW206 := mG hg (mH1 HB.out GE204.out); have GE206 := mG hg (mH1 HB.out GE204.out); replace HB := mS (below_step (mH1 HB.out GE204.out) hb); have NB204_206 := mNl hg BK204.out; have NB206_204 := mNg hg BK204.out; replace BK204 := mB BK204 hb; clear hb hbox hg; have hnb12 := NB206_204.out; have hnc12 := NB204_206.out; obtain ⟨hcz13_0, hcz13_1, hfz13_0, hfz13_1⟩ := mZ2 BK206.out))
        generalize hW_ : ((w11.setCell ⟨gb206, 0, none⟩ (.int .i64 ((rd_T31 l1 x13_1).f0))).setCell ⟨gb206, 1, none⟩ (.int .i64 ((rd_T31 l1 x13_1).f1))) = w14
        replace BK204 : Aside0 (w14.heap[gb204]? = some (.cells #[.slice A0_0 l0_0.length c0_0] 26 (0, 0))) := by rw [← hW_]; exact ⟨mKf NB204_206.out BK204.out⟩
        replace BK206 : Aside0 (w14.heap[gb206]? = some (.cells #[.int .i64 ((rd_T31 l1 x13_1).f0), .int .i64 ((rd_T31 l1 x13_1).f1)] 31 (0, 0))) := by rw [← hW_]; exact ⟨by refine mK ?_; refine blk_put (cs := #[.int .i64 ((rd_T31 l1 x13_1).f0), .int .i64 0]) ?_ 1 _ rfl; refine mK ?_; refine blk_put (cs := #[.int .i64 0, .int .i64 0]) ?_ 0 _ rfl; refine mK ?_; exact BK206.out⟩
        replace HB : Aside0 (Below w.heap.size w w14) := by rw [← hW_]; exact ⟨(mH2 HB.out GE204.out GE206.out)⟩
        clear hW_
        replace BK204 := mS (blk_drew BK204.out)
        replace BK206 := mS (blk_drew BK206.out)
        replace HB := mS (below_drew1 HB.out)
        have p208 : 0 ≤ (t207 : Int) := mD
        have q208 : t207 < (l0_0.length : Int) := mD
        obtain ⟨ad208, A208_2, c208_2, e208, hx208_0, hx208_1, hx208_2, hl208_2, hi208_2⟩ := at_T33 HR0_0.out t207 p208 q208
        have hw208_2 := hx208_2
        have hw208_1 := hx208_1
        have hw208_0 := hx208_0
        cases e208
        replace hx208_0 := mX HB.out hx208_0
        replace hx208_1 := mX HB.out hx208_1
        replace hx208_2 := mX HB.out hx208_2
        have HR208_2 := mS hi208_2
        have HC208_2 := mS hl208_2
        clear hi208_2 hl208_2
        replace p208 := eq_true p208
        replace q208 := eq_true q208
        refine start_ (n := 10) (S := fun w' => w'.cell? ⟨gb204, 0, none⟩ = some (.slice (some ad208) l0_0.length c0_0) ∧ w'.cell? ⟨gb206, 0, none⟩ = some (.int .i64 ((rd_T31 l1 x13_1).f0)) ∧ w'.cell? ⟨gb206, 1, none⟩ = some (.int .i64 ((rd_T31 l1 x13_1).f1)) ∧ w'.cell? (ad208.add ((t207).toNat * 3)) = some (.int .i64 ((rd_T33 l0_0 t207).f0.f0)) ∧ w'.cell? ⟨(ad208.add ((t207).toNat * 3)).block, (ad208.add ((t207).toNat * 3)).off + 1, none⟩ = some (.int .i64 ((rd_T33 l0_0 t207).f0.f1)) ∧ w'.cell? ⟨(ad208.add ((t207).toNat * 3)).block, (ad208.add ((t207).toNat * 3)).off + 2, none⟩ = some (.slice A208_2 ((rd_T33 l0_0 t207).f1).length c208_2)) (ds := []) (mb 0 10) (by kernel_rfl) rfl rfl ⟨mZ BK204.out 0, mb2 BK206.out ⟨(mX HB.out hw208_0 :), ⟨(mX HB.out hw208_1 :), (mX HB.out hw208_2 :)⟩⟩⟩ (fun hHeld => ?_); refine with_tabW impl_ready.tab4 impl_ready.bits4 (fun HT_ HW_ => ?_)
        generalize w14.drew = w15 at BK204 BK206 HB HR208_2 hx208_0 hx208_1 hx208_2 hHeld ⊢
        refine mpu 0 17 HT_.out (mb 1 9) ?_
        refine mpu 9 26 HT_.out (mr [1,8,1]) ?_
        refine mpt 1 18 HT_.out HW_.out (mr [2,7,1]) hHeld ?_
        refine mpt 2 19 HT_.out HW_.out (mr [3,6,1]) hHeld ?_
        refine mpt 3 20 HT_.out HW_.out (mr [4,5,1]) hHeld ?_
        refine mone 4 (some 21) HT_.out (mr [5,4,1]) (fun K hK => ?_)
        refine goes_ Try.func66 (by kernel_rfl) rfl #[.agg #[.slice (some ad208) l0_0.length c0_0], .agg #[.int .i64 ((rd_T31 l1 x13_1).f0), .int .i64 ((rd_T31 l1 x13_1).f1)]] (by rfl) rfl rfl mA ?_
        with_reducible refine (impl_itemAt.calls k1 _ _ l0_0 ((rd_T31 l1 x13_1).f0) ((rd_T31 l1 x13_1).f1) t207 _ ?side1 ?side2 A8.out).mono ?_
        (case side1 => exact mC (Kd.C_below HR0_0.out HB.out))
        (case side2 => exact HC0_0.out)
        rintro e w16 ⟨rfl, hb⟩
        refine ⟨_, rfl, ?_⟩
        replace BK204 := mB BK204 hb
        replace BK206 := mB BK206 hb
        replace HB := mS (below_step (mH2 HB.out GE204.out GE206.out) hb)
        (try clear hb)
        (try clear hb2)
        (try clear hk)
        (try clear hi)
        refine hK.out _ _ ⟨mZ BK204.out 0, mb2 BK206.out ⟨(mX HB.out hw208_0 :), ⟨(mX HB.out hw208_1 :), (mX HB.out hw208_2 :)⟩⟩⟩ (fun hHeld => ?_)
        clear hK K
        refine mno 21 ?_
        refine mpu 5 22 HT_.out (mr [6,3,1]) ?_
        refine mpu 6 23 HT_.out (mr [7,2,1]) ?_
        refine mpt 7 24 HT_.out HW_.out (mr [8,1,1]) hHeld ?_
        refine mpu 8 25 HT_.out (mb 10 0) ?_
        refine done_ (done_of HT_.out (by kernel_rfl)) ?_
        try go_wp2
        go_loopg [26] k1 (fun kq v26 w' => ∃ (x26_2 : Int), v26 = .int .i64 x26_2 ∧ Aside0 (impl_ready.l1 kq l1 l2 l1 (l1.length : Int) x13_1 ((rd_T33 l0_0 t207).f1) (((rd_T33 l0_0 t207).f1).length : Int) x26_2 l0_0 = some r) ∧ Aside0 (kq ≤ k1) ∧ Aside0 (w'.heap[gb204]? = some (.cells #[(.slice (some ad208) l0_0.length c0_0)] 26 (0, 0))) ∧ Aside0 (w'.heap[gb206]? = some (.cells #[.int .i64 ((rd_T31 l1 x13_1).f0), .int .i64 ((rd_T31 l1 x13_1).f1)] 31 (0, 0))) ∧ Aside0 (Below w.heap.size w w'))
        case atStart => exact ⟨(0), mE, H', ⟨Nat.le_refl _⟩, ⟨mK BK204.out⟩, ⟨mK BK206.out⟩, ⟨(mH2 HB.out GE204.out GE206.out)⟩⟩
        case round =>
         clear H'
         try clear c1
         try clear c2
         try clear p2
         try clear q2
         try clear hx2
         try clear c5
         try clear c5b0
         try clear c6
         try clear c6b0
         try clear c7
         try clear c7b0
         try clear c9
         try clear c9b0
         try clear c10
         try clear c10b0
         try clear c12
         try clear hcz13_0
         try clear hcz13_1
         try clear hfz13_0
         try clear hfz13_1
         try clear hx205_0
         try clear hx205_1
         try clear hx208_0
         try clear hx208_1
         try clear hx208_2
         try clear p2
         try clear p205
         try clear p208
         try clear q205
         try clear q208
         obtain ⟨x26_2, rfl, HA, HK2, BK204, BK206, HB⟩ := hrel
         cases gk with
         | zero => exact absurd HA.out (by simp [impl_ready.l1])
         | succ k2 =>
          have H := HA.out
          clear HA
          simp only [impl_ready.l1] at H
          by_cases c17 : x26_2 < (((rd_T33 l0_0 t207).f1).length : Int)
          ·rw [if_pos c17] at H
           have c17b0 := decide_eq_true c17
           clear c17
           by_cases c18 : 0 ≤ x26_2
           ·rw [if_pos c18] at H
            have c18b0 := decide_eq_true c18
            clear c18
            by_cases c19 : x26_2 < (((rd_T33 l0_0 t207).f1).length : Int)
            ·rw [if_pos c19] at H
             have c19b0 := decide_eq_true c19
             clear c19
             have HC20 := mS H
             clear H
             have p209 : 0 ≤ (x26_2 : Int) := mD
             have q209 : x26_2 < (((rd_T33 l0_0 t207).f1).length : Int) := mD
             obtain ⟨ad209, e209, hx209_0, hx209_1⟩ := at_T31 HR208_2.out x26_2 p209 q209
             cases e209
             replace hx209_0 := mX HB.out hx209_0
             replace hx209_1 := mX HB.out hx209_1
             replace p209 := eq_true p209
             replace q209 := eq_true q209
             go_upto_region 7 with (first | ((with_reducible refine gate_dst (N := 10) rfl ?_); refine mBx 10 #[.int .i64 0, .int .i64 0] 31 ?_; intro gb210 hg w21 hbox hb; have BK210 := mS (hbox); have GW210 := mG hg (mH2 HB.out GE204.out GE206.out); have GE210 := mG hg (mH2 HB.out GE204.out GE206.out); replace HB := mS (below_step (mH2 HB.out GE204.out GE206.out) hb); have NB204_210 := mNl hg BK204.out; have NB210_204 := mNg hg BK204.out; replace BK204 := mB BK204 hb; have NB206_210 := mNl hg BK206.out; have NB210_206 := mNg hg BK206.out; replace BK206 := mB BK206 hb; clear hb hbox hg; have hnb22 := NB210_204.out; have hnc22 := NB204_210.out; have hnb23 := NB210_206.out; have hnc23 := NB206_210.out; obtain ⟨hcz24_0, hcz24_1, hfz24_0, hfz24_1⟩ := mZ2 BK210.out))
             (try simp only [Act.put, zA, zB, zC])
             go_cut [39] (fun v39 wc => ∃ (kq : Nat) (x39_19 : Bool), v39 = .bool x39_19 ∧ Aside0 (impl_ready.j2 kq l1 l2 l1 (l1.length : Int) x13_1 ((rd_T33 l0_0 t207).f1) (((rd_T33 l0_0 t207).f1).length : Int) x26_2 x39_19 l0_0 = some r) ∧ Aside0 (kq ≤ k2) ∧ Aside0 (wc.heap[gb204]? = some (.cells #[(.slice (some ad208) l0_0.length c0_0)] 26 (0, 0))) ∧ Aside0 (wc.heap[gb206]? = some (.cells #[.int .i64 ((rd_T31 l1 x13_1).f0), .int .i64 ((rd_T31 l1 x13_1).f1)] 31 (0, 0))) ∧ Aside0 (wc.heap[gb210]? = some (.cells #[.int .i64 ((rd_T31 ((rd_T33 l0_0 t207).f1) x26_2).f0), .int .i64 ((rd_T31 ((rd_T33 l0_0 t207).f1) x26_2).f1)] 31 (0, 0))) ∧ Aside0 (Below w.heap.size w wc))
             case first =>
              have H := HC20.out
              clear HC20
              replace H := Option.bind_eq_some_iff.mp H
              obtain ⟨t211, A250, H⟩ := H
              replace H : (if t211 = true then (impl_ready.j2 k2 l1 l2 l1 (l1.length : Int) x13_1 ((rd_T33 l0_0 t207).f1) (((rd_T33 l0_0 t207).f1).length : Int) x26_2 false l0_0) else ((impl_hasDot.f k2 l2 ((rd_T31 ((rd_T33 l0_0 t207).f1) x26_2).f0) ((rd_T31 ((rd_T33 l0_0 t207).f1) x26_2).f1)).bind fun t212 => (impl_ready.j2 k2 l1 l2 l1 (l1.length : Int) x13_1 ((rd_T33 l0_0 t207).f1) (((rd_T33 l0_0 t207).f1).length : Int) x26_2 (!t212) l0_0))) = some r := H
              have A25 := mS A250
              clear A250
              by_cases c26 : t211 = true
              ·subst c26
               have H1 := H
               rw [if_pos rfl] at H1
               clear H
               have H := H1
               clear H1
               have H' := mS H
               clear H
               have hnb27 := NB210_204.out
               have hnc27 := NB204_210.out
               have hnb28 := NB210_206.out
               have hnc28 := NB206_210.out
               obtain ⟨hcz29_0, hcz29_1, hfz29_0, hfz29_1⟩ := mZ2 BK210.out
               go_wp2_with (first | ((with_reducible refine gate_callee (f := 61) rfl ?_); refine mGo 32 Try.func61 #[.slice (some ad205) l1.length c1, .agg #[.int .i64 ((rd_T31 ((rd_T33 l0_0 t207).f1) x26_2).f0), .int .i64 ((rd_T31 ((rd_T33 l0_0 t207).f1) x26_2).f1)]] ?_; (with_reducible refine (impl_hasDot.calls k2 _ _ l1 ((rd_T31 ((rd_T33 l0_0 t207).f1) x26_2).f0) ((rd_T31 ((rd_T33 l0_0 t207).f1) x26_2).f1) true _ ?side1 ?side2 A25.out).mono ?_); (case side1 => exact Kd.C_below HR1.out (mH3 HB.out GE204.out GE206.out GE210.out)); (case side2 => exact HC1.out); rintro e w30 ⟨rfl, hb⟩; refine ⟨_, rfl, ?_⟩; replace BK204 := mS (blk_below (g := gb204) (o := .cells #[.slice (some ad208) l0_0.length c0_0] 26 (0, 0)) (mKf NB204_210.out BK204.out) hb); replace BK206 := mS (blk_below (g := gb206) (o := .cells #[.int .i64 ((rd_T31 l1 x13_1).f0), .int .i64 ((rd_T31 l1 x13_1).f1)] 31 (0, 0)) (mKf NB206_210.out BK206.out) hb); replace BK210 := mS (blk_below (g := gb210) (o := .cells #[.int .i64 ((rd_T31 ((rd_T33 l0_0 t207).f1) x26_2).f0), .int .i64 ((rd_T31 ((rd_T33 l0_0 t207).f1) x26_2).f1)] 31 (0, 0)) (by refine mK ?_; refine blk_put (cs := #[.int .i64 ((rd_T31 ((rd_T33 l0_0 t207).f1) x26_2).f0), .int .i64 0]) ?_ 1 _ rfl; refine mK ?_; refine blk_put (cs := #[.int .i64 0, .int .i64 0]) ?_ 0 _ rfl; refine mK ?_; exact BK210.out) hb); replace HB := mS (below_step (mH3 HB.out GE204.out GE206.out GE210.out) hb); (try clear hb)))
               go_meet
               case rel => exact ⟨_, (false), mE, H', ⟨by have := HK1.out; have := HK2.out; first | omega | exact Nat.le_refl _⟩, ⟨mK BK204.out⟩, ⟨mK BK206.out⟩, ⟨mK BK210.out⟩, ⟨(mH3 HB.out GE204.out GE206.out GE210.out)⟩⟩
              ·replace c26 := Bool.eq_false_iff.mpr c26
               subst c26
               have H1 := H
               rw [if_neg (show ¬ (false = true) by decide)] at H1
               clear H
               have H := H1
               clear H1
               replace H := Option.bind_eq_some_iff.mp H
               obtain ⟨t212, A310, H⟩ := H
               replace H : (impl_ready.j2 k2 l1 l2 l1 (l1.length : Int) x13_1 ((rd_T33 l0_0 t207).f1) (((rd_T33 l0_0 t207).f1).length : Int) x26_2 (!t212) l0_0) = some r := H
               have A31 := mS A310
               clear A310
               have H' := mS H
               clear H
               have hnb32 := NB210_204.out
               have hnc32 := NB204_210.out
               have hnb33 := NB210_206.out
               have hnc33 := NB206_210.out
               obtain ⟨hcz34_0, hcz34_1, hfz34_0, hfz34_1⟩ := mZ2 BK210.out
               go_wp2_with (first | ((with_reducible refine gate_callee (f := 61) rfl ?_); refine mGo 32 Try.func61 #[.slice (some ad205) l1.length c1, .agg #[.int .i64 ((rd_T31 ((rd_T33 l0_0 t207).f1) x26_2).f0), .int .i64 ((rd_T31 ((rd_T33 l0_0 t207).f1) x26_2).f1)]] ?_; (with_reducible refine (impl_hasDot.calls k2 _ _ l1 ((rd_T31 ((rd_T33 l0_0 t207).f1) x26_2).f0) ((rd_T31 ((rd_T33 l0_0 t207).f1) x26_2).f1) false _ ?side1 ?side2 A25.out).mono ?_); (case side1 => exact Kd.C_below HR1.out (mH3 HB.out GE204.out GE206.out GE210.out)); (case side2 => exact HC1.out); rintro e w35 ⟨rfl, hb⟩; refine ⟨_, rfl, ?_⟩; replace BK204 := mS (blk_below (g := gb204) (o := .cells #[.slice (some ad208) l0_0.length c0_0] 26 (0, 0)) (mKf NB204_210.out BK204.out) hb); replace BK206 := mS (blk_below (g := gb206) (o := .cells #[.int .i64 ((rd_T31 l1 x13_1).f0), .int .i64 ((rd_T31 l1 x13_1).f1)] 31 (0, 0)) (mKf NB206_210.out BK206.out) hb); replace BK210 := mS (blk_below (g := gb210) (o := .cells #[.int .i64 ((rd_T31 ((rd_T33 l0_0 t207).f1) x26_2).f0), .int .i64 ((rd_T31 ((rd_T33 l0_0 t207).f1) x26_2).f1)] 31 (0, 0)) (by refine mK ?_; refine blk_put (cs := #[.int .i64 ((rd_T31 ((rd_T33 l0_0 t207).f1) x26_2).f0), .int .i64 0]) ?_ 1 _ rfl; refine mK ?_; refine blk_put (cs := #[.int .i64 0, .int .i64 0]) ?_ 0 _ rfl; refine mK ?_; exact BK210.out) hb); replace HB := mS (below_step (mH3 HB.out GE204.out GE206.out GE210.out) hb); (try clear hb); obtain ⟨hcz36_0, hcz36_1, hfz36_0, hfz36_1⟩ := mZ2 BK210.out) | (go_at_call 61; (with_reducible refine (impl_hasDot.calls k2 _ _ l2 ((rd_T31 ((rd_T33 l0_0 t207).f1) x26_2).f0) ((rd_T31 ((rd_T33 l0_0 t207).f1) x26_2).f1) t212 _ ?side1 ?side2 A31.out).mono ?_); (case side1 => exact mC (Kd.C_below HR2.out HB.out)); (case side2 => exact HC2.out); rintro e w37 ⟨rfl, hb⟩; replace BK204 := mB BK204 hb; replace BK206 := mB BK206 hb; replace BK210 := mB BK210 hb; replace HB := mS (below_step (mH3 HB.out GE204.out GE206.out GE210.out) hb); (try clear hb); (try clear hb2); (try clear hk); (try clear hi)))
               go_meet
               case rel => exact ⟨_, (!t212), mE, H', ⟨by have := HK1.out; have := HK2.out; first | omega | exact Nat.le_refl _⟩, ⟨mK BK204.out⟩, ⟨mK BK206.out⟩, ⟨mK BK210.out⟩, ⟨(mH3 HB.out GE204.out GE206.out GE210.out)⟩⟩
             case rest =>
              clear HC20
              try clear c1
              try clear c2
              try clear p2
              try clear q2
              try clear hx2
              try clear c3
              try clear c5
              try clear c5b0
              try clear c6
              try clear c6b0
              try clear c7
              try clear c7b0
              try clear c9
              try clear c9b0
              try clear c10
              try clear c10b0
              try clear c12
              try clear c17
              try clear c17b0
              try clear c18
              try clear c18b0
              try clear c19
              try clear c19b0
              try clear c20
              try clear p20
              try clear q20
              try clear hx20
              try clear c22
              try clear c23
              try clear c26
              try clear c27
              try clear c28
              try clear c32
              try clear c33
              try clear hcz13_0
              try clear hcz13_1
              try clear hcz24_0
              try clear hcz24_1
              try clear hcz29_0
              try clear hcz29_1
              try clear hcz34_0
              try clear hcz34_1
              try clear hcz36_0
              try clear hcz36_1
              try clear hfz13_0
              try clear hfz13_1
              try clear hfz24_0
              try clear hfz24_1
              try clear hfz29_0
              try clear hfz29_1
              try clear hfz34_0
              try clear hfz34_1
              try clear hfz36_0
              try clear hfz36_1
              try clear hx205_0
              try clear hx205_1
              try clear hx208_0
              try clear hx208_1
              try clear hx208_2
              try clear hx209_0
              try clear hx209_1
              try clear p2
              try clear p205
              try clear p208
              try clear p209
              try clear q2
              try clear q205
              try clear q208
              try clear q209
              obtain ⟨kq, x39_19, rfl, HA, HJ19, BK204, BK206, BK210, HB⟩ := hcut
              cases kq with
              | zero => exact absurd HA.out (by simp [impl_ready.j2])
              | succ kj19 =>
               have H := HA.out
               clear HA
               simp only [impl_ready.j2] at H
               by_cases c38 : x39_19 = true
               ·subst c38
                have H1 := H
                rw [if_pos rfl] at H1
                clear H
                have H := H1
                clear H1
                obtain rfl := Option.some.inj H
                go_wp2
                go_ret
                exact ⟨mEw, (mH3 HB.out GE204.out GE206.out GE210.out)⟩
               ·replace c38 := Bool.eq_false_iff.mpr c38
                subst c38
                have H1 := H
                rw [if_neg (show ¬ (false = true) by decide)] at H1
                clear H
                have H := H1
                clear H1
                have H' := mS H
                clear H
                go_wp2
                go_roundg kj19
                case measure => have := HK1.out; have := HK2.out; have := HJ19.out; omega
                case rel => exact ⟨(wrap64 (x26_2 + 1)), mE, H', ⟨by have := HK1.out; have := HK2.out; have := HJ19.out; omega⟩, ⟨mK BK204.out⟩, ⟨mK BK206.out⟩, ⟨(mH3 HB.out GE204.out GE206.out GE210.out)⟩⟩
            ·rw [if_neg c19] at H
             exact absurd H (by simp)
           ·rw [if_neg c18] at H
            exact absurd H (by simp)
          ·rw [if_neg c17] at H
           have c17b0 := decide_eq_false c17
           clear c17
           have H' := mS H
           clear H
           go_wp2
           go_roundg k2
           case measure => have := HK1.out; have := HK2.out; omega
           case rel => exact ⟨(wrap64 (x13_1 + 1)), mE, H', ⟨by have := HK1.out; have := HK2.out; omega⟩, ⟨mK BK204.out⟩, ⟨(mH2 HB.out GE204.out GE206.out)⟩⟩
       ·rw [if_neg c10] at H
        exact absurd H (by simp)
      ·rw [if_neg c9] at H
       exact absurd H (by simp)
     ·rw [if_neg c7] at H
      exact absurd H (by simp)
    ·rw [if_neg c6] at H
     exact absurd H (by simp)
   ·rw [if_neg c5] at H
    have c5b0 := decide_eq_false c5
    clear c5
    obtain rfl := Option.some.inj H
    go_wp2
    go_ret
    exact ⟨mEw, (mH1 HB.out GE204.out)⟩

/-! ### impl_OrderOf: function 15 -/
mutual
def impl_OrderOf.l0 : Nat → List (S31) → List (S31) → Bool → List (S33) → Option ((List (S31)))
 | 0, _, _, _, _ => none
 | k + 1, x3, x4, x5, x214000 => if x5 = true then (impl_OrderOf.l1 k x3 x4 false x4 (x4.length : Int) 0 x214000) else (some x3)
def impl_OrderOf.l1 : Nat → List (S31) → List (S31) → Bool → List (S31) → Int → Int → List (S33) → Option ((List (S31)))
 | 0, _, _, _, _, _, _, _ => none
 | k + 1, x3, x4, x5, x12, x13, x14, x214000 => if x14 < x13 then (if 0 ≤ x14 then (if x14 < (x12.length : Int) then ((impl_hasDot.f k x3 ((rd_T31 x12 x14).f0) ((rd_T31 x12 x14).f1)).bind fun t219 => (if t219 = true then (impl_OrderOf.l1 k x3 x4 x5 x12 x13 (wrap64 (x14 + 1)) x214000) else ((impl_Group.f k x214000 ((rd_T31 x12 x14).f0) ((rd_T31 x12 x14).f1)).bind fun t220 => ((impl_ready.f k x214000 t220 x3).bind fun t223 => (if t223 = true then (if x3.length + t220.length < 8796093022208 then (impl_OrderOf.l0 k (x3 ++ t220) x4 true x214000) else (none)) else (impl_OrderOf.l1 k x3 x4 x5 x12 x13 (wrap64 (x14 + 1)) x214000)))))) else (none)) else (none)) else (impl_OrderOf.l0 k x3 x4 x5 x214000)
end
def impl_OrderOf.f (k : Nat) (l0_0 : List (S33)) : Option ((List (S31))) := (impl_Whole.f k l0_0).bind fun t214 => (impl_OrderOf.l0 k ([] : List (S31)) t214 true l0_0)
theorem impl_OrderOf.mono_l : ∀ k, (∀ y0 y1 y2 y3, LeO (impl_OrderOf.l0 k y0 y1 y2 y3) (impl_OrderOf.l0 (k + 1) y0 y1 y2 y3)) ∧ (∀ y0 y1 y2 y3 y4 y5 y6, LeO (impl_OrderOf.l1 k y0 y1 y2 y3 y4 y5 y6) (impl_OrderOf.l1 (k + 1) y0 y1 y2 y3 y4 y5 y6))
 | 0 => ⟨fun _ _ _ _ r h => by simp [impl_OrderOf.l0] at h, fun _ _ _ _ _ _ _ r h => by simp [impl_OrderOf.l1] at h⟩
 | k + 1 => by
  obtain ⟨ih0, ih1⟩ := impl_OrderOf.mono_l k
  refine ⟨?_, ?_⟩
  ·intro y0 y1 y2 y3
   unfold impl_OrderOf.l0
   repeat' first
   | (with_reducible exact ih0 _ _ _ _)
   | (with_reducible exact ih1 _ _ _ _ _ _ _)
   | (with_reducible exact impl_Group.mono _ _ _ _)
   | (with_reducible exact impl_Whole.mono _ _)
   | (with_reducible exact impl_hasDot.mono _ _ _ _)
   | (with_reducible exact impl_ready.mono _ _ _ _)
   | (with_reducible exact LeO.refl _)
   | (with_reducible exact LeO.none _)
   | (with_reducible refine LeO.ite ?_ ?_)
   | (with_reducible refine LeO.bind ?_ (fun _ => ?_))
   | exact ih0 _ _ _ _
   | exact ih1 _ _ _ _ _ _ _
   | exact impl_Group.mono _ _ _ _
   | exact impl_Whole.mono _ _
   | exact impl_hasDot.mono _ _ _ _
   | exact impl_ready.mono _ _ _ _
   | exact LeO.none _
   | refine LeO.ite ?_ ?_
   | refine LeO.bind ?_ (fun _ => ?_)
  ·intro y0 y1 y2 y3 y4 y5 y6
   unfold impl_OrderOf.l1
   repeat' first
   | (with_reducible exact ih0 _ _ _ _)
   | (with_reducible exact ih1 _ _ _ _ _ _ _)
   | (with_reducible exact impl_Group.mono _ _ _ _)
   | (with_reducible exact impl_Whole.mono _ _)
   | (with_reducible exact impl_hasDot.mono _ _ _ _)
   | (with_reducible exact impl_ready.mono _ _ _ _)
   | (with_reducible exact LeO.refl _)
   | (with_reducible exact LeO.none _)
   | (with_reducible refine LeO.ite ?_ ?_)
   | (with_reducible refine LeO.bind ?_ (fun _ => ?_))
   | exact ih0 _ _ _ _
   | exact ih1 _ _ _ _ _ _ _
   | exact impl_Group.mono _ _ _ _
   | exact impl_Whole.mono _ _
   | exact impl_hasDot.mono _ _ _ _
   | exact impl_ready.mono _ _ _ _
   | exact LeO.none _
   | refine LeO.ite ?_ ?_
   | refine LeO.bind ?_ (fun _ => ?_)
theorem impl_OrderOf.mono : ∀ a0 k, LeO (impl_OrderOf.f k a0) (impl_OrderOf.f (k + 1) a0) := by
 intro a0 k
 obtain ⟨ih0, ih1⟩ := impl_OrderOf.mono_l k
 unfold impl_OrderOf.f
 repeat' first
   | (with_reducible exact ih0 _ _ _ _)
   | (with_reducible exact ih1 _ _ _ _ _ _ _)
   | (with_reducible exact impl_Group.mono _ _ _ _)
   | (with_reducible exact impl_Whole.mono _ _)
   | (with_reducible exact impl_hasDot.mono _ _ _ _)
   | (with_reducible exact impl_ready.mono _ _ _ _)
   | (with_reducible exact LeO.refl _)
   | (with_reducible exact LeO.none _)
   | (with_reducible refine LeO.ite ?_ ?_)
   | (with_reducible refine LeO.bind ?_ (fun _ => ?_))
   | exact ih0 _ _ _ _
   | exact ih1 _ _ _ _ _ _ _
   | exact impl_Group.mono _ _ _ _
   | exact impl_Whole.mono _ _
   | exact impl_hasDot.mono _ _ _ _
   | exact impl_ready.mono _ _ _ _
   | exact LeO.none _
   | refine LeO.ite ?_ ?_
   | refine LeO.bind ?_ (fun _ => ?_)
set_option maxHeartbeats 8000000 in
set_option maxRecDepth 100000 in
theorem impl_OrderOf.calls (k : Nat) (A0_0 : Option Addr) (c0_0 : Nat) (l0_0 : List (S33)) (r : List (S31)) (w : World) (hr0_0 : Kd.C k33 w A0_0 l0_0.length l0_0) (hc0_0 : l0_0.length ≤ c0_0) (h : impl_OrderOf.f k l0_0 = some r) :
  Calls Try.prog 15 #[.agg #[.slice A0_0 l0_0.length c0_0]] w fun e w' => ∃ v0_ : Value, e = .returned (v0_) ∧ Kd.R k31 31 w' w.heap.size (fun _ => True) v0_ r ∧ Below w.heap.size w w' := by
 have hu26 := Try.underlying26
 have hu31 := Try.underlying31
 have HR0_0 := mS hr0_0
 have HC0_0 := mS hc0_0
 clear hr0_0 hc0_0
 have HB := mS (Below.refl w.heap.size w)
 have H : ((impl_Whole.f k l0_0).bind fun t214 => (impl_OrderOf.l0 k ([] : List (S31)) t214 true l0_0)) = some r := h
 clear h
 replace H := Option.bind_eq_some_iff.mp H
 obtain ⟨t214, A20, H⟩ := H
 replace H : (impl_OrderOf.l0 k ([] : List (S31)) t214 true l0_0) = some r := H
 have A2 := mS A20
 clear A20
 have H' := mS H
 clear H
 go_enter Try.func15, Try.ntmps15
 go_wp2_with (first | ((with_reducible refine gate_dst (N := 1) rfl ?_); refine mBx 1 #[.slice A0_0 l0_0.length c0_0] 26 ?_; intro gb213 hg w3 hbox hb; have BK213 := mS (hbox); have GW213 := mG hg (mH HB.out); have GE213 := mG hg (mH HB.out); replace HB := mS (below_step (mH HB.out) hb); clear hb hbox hg; have hcz4_0 := mZ BK213.out 0; have hfz4_0 := blk_frozen BK213.out 0) | ((with_reducible refine gate_callee (f := 30) rfl ?_); refine mGo 10 Try.func30 #[.agg #[.slice A0_0 l0_0.length c0_0]] ?_; (with_reducible refine (impl_Whole.calls k _ _ l0_0 t214 _ ?side1 ?side2 A2.out).mono ?_); (case side1 => exact mC (Kd.C_below HR0_0.out HB.out)); (case side2 => exact HC0_0.out); rintro e w5 ⟨v215, rfl, ho0, hb⟩; refine ⟨_, rfl, ?_⟩; have HO216 := mS (Kd.R_lower ho0 (below_size (mH1 HB.out GE213.out))); replace BK213 := mB BK213 hb; replace HB := mS (below_step (mH1 HB.out GE213.out) hb); (try clear hb); (try clear ho0)))
 go_loopg [3, 5] k (fun kq v3 v5 w' => ∃ (x3_1 : List (S31)) (x5_1 : Bool), v5 = .bool x5_1 ∧ Aside0 (impl_OrderOf.l0 kq x3_1 t214 x5_1 l0_0 = some r) ∧ Aside0 (kq ≤ k) ∧ Aside0 (Kd.R k31 31 w' w.heap.size (fun k_ => some k_ ≠ (v215 : Value).ownBlock) v3 x3_1) ∧ Aside0 (Kd.R k31 31 w' w.heap.size (fun k_ => some k_ ≠ (v3 : Value).ownBlock) v215 t214) ∧ Aside0 (w'.heap[gb213]? = some (.cells #[(.slice A0_0 l0_0.length c0_0)] 26 (0, 0))) ∧ Aside0 (Below w.heap.size w w'))
 case atStart => exact ⟨(([] : List (S31))), (true), mE, H', ⟨Nat.le_refl _⟩, ⟨by first | exact Kd.R_nil _ _ _ _ _ | exact Kd.N_nil _ _ _ _ _ | exact Kd.V_nil _ _ _ _ _ | exact Kd.Q_nil _ _ _ _ _ | exact Kd.S_nil _ _ _ _ _⟩, ⟨by refine mR ?_; exact Kd.R_mono HO216.out (fun _ hk => (by simp [Value.ownBlock]))⟩, ⟨mK BK213.out⟩, ⟨(mH1 HB.out GE213.out)⟩⟩
 case round =>
  clear H'
  try clear c1
  try clear p2
  try clear c3
  try clear hcz4_0
  try clear hfz4_0
  obtain ⟨x3_1, x5_1, rfl, HA, HK1, HO_3, HO_4, BK213, HB⟩ := hrel
  cases gk with
  | zero => exact absurd HA.out (by simp [impl_OrderOf.l0])
  | succ k1 =>
   have H := HA.out
   clear HA
   simp only [impl_OrderOf.l0] at H
   by_cases c6 : x5_1 = true
   ·subst c6
    have H1 := H
    rw [if_pos rfl] at H1
    clear H
    have H := H1
    clear H1
    have H' := mS H
    clear H
    obtain ⟨Ao7, co7, eo7⟩ := Kd.R_slice HO_4.out
    subst eo7
    go_wp2
    go_loopg [3, 5, 14] k1 (fun kq v3 v5 v14 w' => ∃ (x3_2 : List (S31)) (x5_2 : Bool) (x14_2 : Int), v5 = .bool x5_2 ∧ v14 = .int .i64 x14_2 ∧ Aside0 (impl_OrderOf.l1 kq x3_2 t214 x5_2 t214 (t214.length : Int) x14_2 l0_0 = some r) ∧ Aside0 (kq ≤ k1) ∧ Aside0 (Kd.R k31 31 w' w.heap.size (fun k_ => some k_ ≠ ((.slice Ao7 t214.length co7) : Value).ownBlock ∧ some k_ ≠ ((.slice Ao7 t214.length co7) : Value).ownBlock) v3 x3_2) ∧ Aside0 (Kd.R k31 31 w' w.heap.size (fun k_ => some k_ ≠ (v3 : Value).ownBlock) (.slice Ao7 t214.length co7) t214) ∧ Aside0 (Kd.R k31 31 w' w.heap.size (fun k_ => some k_ ≠ (v3 : Value).ownBlock) (.slice Ao7 t214.length co7) t214) ∧ Aside0 (w'.heap[gb213]? = some (.cells #[(.slice A0_0 l0_0.length c0_0)] 26 (0, 0))) ∧ Aside0 (Below w.heap.size w w'))
    case atStart => exact ⟨(x3_1), (false), (0), mE, mE, H', ⟨Nat.le_refl _⟩, ⟨by refine mR ?_; exact Kd.R_mono HO_3.out (fun _ hk => ⟨hk, hk⟩)⟩, ⟨mR HO_4.out⟩, ⟨mR HO_4.out⟩, ⟨mK BK213.out⟩, ⟨(mH1 HB.out GE213.out)⟩⟩
    case round =>
     clear H'
     try clear c1
     try clear p2
     try clear c3
     try clear c6
     try clear hcz4_0
     try clear hfz4_0
     try clear p2
     obtain ⟨x3_2, x5_2, x14_2, rfl, rfl, HA, HK2, HO_3, HO_4, HO_12, BK213, HB⟩ := hrel
     cases gk with
     | zero => exact absurd HA.out (by simp [impl_OrderOf.l1])
     | succ k2 =>
      have H := HA.out
      clear HA
      simp only [impl_OrderOf.l1] at H
      by_cases c8 : x14_2 < (t214.length : Int)
      ·rw [if_pos c8] at H
       have c8b0 := decide_eq_true c8
       clear c8
       by_cases c9 : 0 ≤ x14_2
       ·rw [if_pos c9] at H
        have c9b0 := decide_eq_true c9
        clear c9
        by_cases c10 : x14_2 < (t214.length : Int)
        ·rw [if_pos c10] at H
         have c10b0 := decide_eq_true c10
         clear c10
         replace H := Option.bind_eq_some_iff.mp H
         obtain ⟨t219, A110, H⟩ := H
         replace H : (if t219 = true then (impl_OrderOf.l1 k2 x3_2 t214 x5_2 t214 (t214.length : Int) (wrap64 (x14_2 + 1)) l0_0) else ((impl_Group.f k2 l0_0 ((rd_T31 t214 x14_2).f0) ((rd_T31 t214 x14_2).f1)).bind fun t220 => ((impl_ready.f k2 l0_0 t220 x3_2).bind fun t223 => (if t223 = true then (if x3_2.length + t220.length < 8796093022208 then (impl_OrderOf.l0 k2 (x3_2 ++ t220) t214 true l0_0) else (none)) else (impl_OrderOf.l1 k2 x3_2 t214 x5_2 t214 (t214.length : Int) (wrap64 (x14_2 + 1)) l0_0))))) = some r := H
         have A11 := mS A110
         clear A110
         by_cases c12 : t219 = true
         ·subst c12
          have H1 := H
          rw [if_pos rfl] at H1
          clear H
          have H := H1
          clear H1
          have H' := mS H
          clear H
          have p217 : 0 ≤ (x14_2 : Int) := mD
          have q217 : x14_2 < (t214.length : Int) := mD
          obtain ⟨ad217, e217, hx217_0, hx217_1⟩ := at_T31 (Kd.R_reads' HO_12.out).2.2 x14_2 p217 q217
          cases e217
          replace p217 := eq_true p217
          replace q217 := eq_true q217
          go_wp2_with (first | ((with_reducible refine gate_dst (N := 7) rfl ?_); refine mBx 7 #[.int .i64 0, .int .i64 0] 31 ?_; intro gb218 hg w13 hbox hb; replace HO_3 := mS (Kd.R_below (Kd.R_elderB (mR HO_3.out) gb218 (Nat.le_of_eq hg.symm)) hb); replace HO_4 := mS (Kd.R_below (Kd.R_elderB (mR HO_4.out) gb218 (Nat.le_of_eq hg.symm)) hb); replace HO_12 := mS (Kd.R_below (Kd.R_elderB (mR HO_12.out) gb218 (Nat.le_of_eq hg.symm)) hb); have BK218 := mS (hbox); have GW218 := mG hg (mH1 HB.out GE213.out); have GE218 := mG hg (mH1 HB.out GE213.out); replace HB := mS (below_step (mH1 HB.out GE213.out) hb); have NB213_218 := mNl hg BK213.out; have NB218_213 := mNg hg BK213.out; replace BK213 := mB BK213 hb; clear hb hbox hg; have hnb14 := NB218_213.out; have hnc14 := NB213_218.out; obtain ⟨hcz15_0, hcz15_1, hfz15_0, hfz15_1⟩ := mZ2 BK218.out; obtain ⟨Ao16, co16, eo16⟩ := Kd.R_slice HO_3.out; subst eo16) | ((with_reducible refine gate_callee (f := 61) rfl ?_); refine mGo 20 Try.func61 #[.slice Ao16 x3_2.length co16, .agg #[.int .i64 ((rd_T31 t214 x14_2).f0), .int .i64 ((rd_T31 t214 x14_2).f1)]] ?_; (with_reducible refine (impl_hasDot.calls k2 _ _ x3_2 ((rd_T31 t214 x14_2).f0) ((rd_T31 t214 x14_2).f1) true _ ?side1 ?side2 A11.out).mono ?_); (case side1 => refine (Kd.R_reads' (e := 31) (base := w.heap.size) (ok := fun k_ => ((some k_ ≠ (.slice (some ad217) t214.length co7 : Value).ownBlock ∧ some k_ ≠ (.slice (some ad217) t214.length co7 : Value).ownBlock) ∧ k_ ≠ gb218)) (n := x3_2.length) (c := co16) ?_).2.2; exact (by refine mR ?_; exact (Kd.R_mono (mRf2 (Kd.R_mono HO_3.out (fun k_ hk => (⟨hk, hk.2⟩ : _ ∧ k_ ≠ gb218)))) (fun _ h_ => h_.1)))); (case side2 => exact (Kd.R_reads' HO_3.out).2.1); rintro e w17 ⟨rfl, hb⟩; refine ⟨_, rfl, ?_⟩; replace HO_3 := mS (Kd.R_below (by refine mR ?_; exact (Kd.R_mono (mRf2 (Kd.R_mono HO_3.out (fun k_ hk => (⟨hk, hk.2⟩ : _ ∧ k_ ≠ gb218)))) (fun _ h_ => h_.1))) hb); replace HO_4 := mS (Kd.R_below (by refine mR ?_; exact (Kd.R_mono (mRf2 (Kd.R_mono HO_4.out (fun k_ hk => (⟨hk, hk.2⟩ : _ ∧ k_ ≠ gb218)))) (fun _ h_ => h_.1))) hb); replace HO_12 := mS (Kd.R_below (by refine mR ?_; exact (Kd.R_mono (mRf2 (Kd.R_mono HO_12.out (fun k_ hk => (⟨hk, hk.2⟩ : _ ∧ k_ ≠ gb218)))) (fun _ h_ => h_.1))) hb); replace BK213 := mS (blk_below (g := gb213) (o := .cells #[.slice A0_0 l0_0.length c0_0] 26 (0, 0)) (mKf NB213_218.out BK213.out) hb); replace BK218 := mS (blk_below (g := gb218) (o := .cells #[.int .i64 ((rd_T31 t214 x14_2).f0), .int .i64 ((rd_T31 t214 x14_2).f1)] 31 (0, 0)) (by refine mK ?_; refine blk_put (cs := #[.int .i64 ((rd_T31 t214 x14_2).f0), .int .i64 0]) ?_ 1 _ rfl; refine mK ?_; refine blk_put (cs := #[.int .i64 0, .int .i64 0]) ?_ 0 _ rfl; refine mK ?_; exact BK218.out) hb); replace HB := mS (below_step (mH2 HB.out GE213.out GE218.out) hb); (try clear hb)))
          go_roundg k2
          case measure => have := HK1.out; have := HK2.out; omega
          case rel => exact ⟨(x3_2), (x5_2), (wrap64 (x14_2 + 1)), mE, mE, H', ⟨by have := HK1.out; have := HK2.out; omega⟩, ⟨by refine mR ?_; exact Kd.R_mono HO_3.out (fun _ hk => ⟨hk.1.1, hk.1.2⟩)⟩, ⟨by refine mR ?_; exact Kd.R_mono HO_4.out (fun _ hk => hk.1)⟩, ⟨by refine mR ?_; exact Kd.R_mono HO_12.out (fun _ hk => hk.1)⟩, ⟨mK BK213.out⟩, ⟨(mH2 HB.out GE213.out GE218.out)⟩⟩
         ·replace c12 := Bool.eq_false_iff.mpr c12
          subst c12
          have H1 := H
          rw [if_neg (show ¬ (false = true) by decide)] at H1
          clear H
          have H := H1
          clear H1
          replace H := Option.bind_eq_some_iff.mp H
          obtain ⟨t220, A180, H⟩ := H
          replace H : ((impl_ready.f k2 l0_0 t220 x3_2).bind fun t223 => (if t223 = true then (if x3_2.length + t220.length < 8796093022208 then (impl_OrderOf.l0 k2 (x3_2 ++ t220) t214 true l0_0) else (none)) else (impl_OrderOf.l1 k2 x3_2 t214 x5_2 t214 (t214.length : Int) (wrap64 (x14_2 + 1)) l0_0))) = some r := H
          have A18 := mS A180
          clear A180
          replace H := Option.bind_eq_some_iff.mp H
          obtain ⟨t223, A190, H⟩ := H
          replace H : (if t223 = true then (if x3_2.length + t220.length < 8796093022208 then (impl_OrderOf.l0 k2 (x3_2 ++ t220) t214 true l0_0) else (none)) else (impl_OrderOf.l1 k2 x3_2 t214 x5_2 t214 (t214.length : Int) (wrap64 (x14_2 + 1)) l0_0)) = some r := H
          have A19 := mS A190
          clear A190
          by_cases c20 : t223 = true
          ·subst c20
           have H1 := H
           rw [if_pos rfl] at H1
           clear H
           have H := H1
           clear H1
           by_cases c21 : x3_2.length + t220.length < 8796093022208
           ·rw [if_pos c21] at H
            have LMc21 := mS c21
            clear c21
            obtain ⟨y224, hy224⟩ : ∃ y_ : List (S31), y_ = (x3_2 ++ t220) := ⟨_, rfl⟩
            replace H : (impl_OrderOf.l0 k2 y224 t214 true l0_0) = some r := by first | (rw [hy224]; with_reducible exact H) | (have H2_ := (Option.bind_some _ _).symm.trans H; rw [hy224]; with_reducible exact H2_) | (have H2_ := (Option.bind_some _ _).symm.trans H; with_reducible exact H2_) | with_reducible exact H | (rw [hy224]; exact H) | exact H
            have Ny224 := mS hy224
            clear hy224
            have H' := mS H
            clear H
            have p217 : 0 ≤ (x14_2 : Int) := mD
            have q217 : x14_2 < (t214.length : Int) := mD
            obtain ⟨ad217, e217, hx217_0, hx217_1⟩ := at_T31 (Kd.R_reads' HO_12.out).2.2 x14_2 p217 q217
            cases e217
            replace p217 := eq_true p217
            replace q217 := eq_true q217
            go_wp2_with (first | ((with_reducible refine gate_dst (N := 7) rfl ?_); refine mBx 7 #[.int .i64 0, .int .i64 0] 31 ?_; intro gb218 hg w22 hbox hb; replace HO_3 := mS (Kd.R_below (Kd.R_elderB (mR HO_3.out) gb218 (Nat.le_of_eq hg.symm)) hb); replace HO_4 := mS (Kd.R_below (Kd.R_elderB (mR HO_4.out) gb218 (Nat.le_of_eq hg.symm)) hb); replace HO_12 := mS (Kd.R_below (Kd.R_elderB (mR HO_12.out) gb218 (Nat.le_of_eq hg.symm)) hb); have BK218 := mS (hbox); have GW218 := mG hg (mH1 HB.out GE213.out); have GE218 := mG hg (mH1 HB.out GE213.out); replace HB := mS (below_step (mH1 HB.out GE213.out) hb); have NB213_218 := mNl hg BK213.out; have NB218_213 := mNg hg BK213.out; replace BK213 := mB BK213 hb; clear hb hbox hg; have hnb23 := NB218_213.out; have hnc23 := NB213_218.out; obtain ⟨hcz24_0, hcz24_1, hfz24_0, hfz24_1⟩ := mZ2 BK218.out; obtain ⟨Ao25, co25, eo25⟩ := Kd.R_slice HO_3.out; subst eo25) | ((with_reducible refine gate_callee (f := 61) rfl ?_); refine mGo 20 Try.func61 #[.slice Ao25 x3_2.length co25, .agg #[.int .i64 ((rd_T31 t214 x14_2).f0), .int .i64 ((rd_T31 t214 x14_2).f1)]] ?_; (with_reducible refine (impl_hasDot.calls k2 _ _ x3_2 ((rd_T31 t214 x14_2).f0) ((rd_T31 t214 x14_2).f1) false _ ?side1 ?side2 A11.out).mono ?_); (case side1 => refine (Kd.R_reads' (e := 31) (base := w.heap.size) (ok := fun k_ => ((some k_ ≠ (.slice (some ad217) t214.length co7 : Value).ownBlock ∧ some k_ ≠ (.slice (some ad217) t214.length co7 : Value).ownBlock) ∧ k_ ≠ gb218)) (n := x3_2.length) (c := co25) ?_).2.2; exact (by refine mR ?_; exact (Kd.R_mono (mRf2 (Kd.R_mono HO_3.out (fun k_ hk => (⟨hk, hk.2⟩ : _ ∧ k_ ≠ gb218)))) (fun _ h_ => h_.1)))); (case side2 => exact (Kd.R_reads' HO_3.out).2.1); rintro e w26 ⟨rfl, hb⟩; refine ⟨_, rfl, ?_⟩; replace HO_3 := mS (Kd.R_below (by refine mR ?_; exact (Kd.R_mono (mRf2 (Kd.R_mono HO_3.out (fun k_ hk => (⟨hk, hk.2⟩ : _ ∧ k_ ≠ gb218)))) (fun _ h_ => h_.1))) hb); replace HO_4 := mS (Kd.R_below (by refine mR ?_; exact (Kd.R_mono (mRf2 (Kd.R_mono HO_4.out (fun k_ hk => (⟨hk, hk.2⟩ : _ ∧ k_ ≠ gb218)))) (fun _ h_ => h_.1))) hb); replace HO_12 := mS (Kd.R_below (by refine mR ?_; exact (Kd.R_mono (mRf2 (Kd.R_mono HO_12.out (fun k_ hk => (⟨hk, hk.2⟩ : _ ∧ k_ ≠ gb218)))) (fun _ h_ => h_.1))) hb); replace BK213 := mS (blk_below (g := gb213) (o := .cells #[.slice A0_0 l0_0.length c0_0] 26 (0, 0)) (mKf NB213_218.out BK213.out) hb); replace BK218 := mS (blk_below (g := gb218) (o := .cells #[.int .i64 ((rd_T31 t214 x14_2).f0), .int .i64 ((rd_T31 t214 x14_2).f1)] 31 (0, 0)) (by refine mK ?_; refine blk_put (cs := #[.int .i64 ((rd_T31 t214 x14_2).f0), .int .i64 0]) ?_ 1 _ rfl; refine mK ?_; refine blk_put (cs := #[.int .i64 0, .int .i64 0]) ?_ 0 _ rfl; refine mK ?_; exact BK218.out) hb); replace HB := mS (below_step (mH2 HB.out GE213.out GE218.out) hb); (try clear hb); have hcz27_0 := mZ BK213.out 0; have hfz27_0 := blk_frozen BK213.out 0; obtain ⟨hcz28_0, hcz28_1, hfz28_0, hfz28_1⟩ := mZ2 BK218.out) | ((with_reducible refine gate_callee (f := 36) rfl ?_); refine mGo 23 Try.func36 #[.agg #[.slice A0_0 l0_0.length c0_0], .agg #[.int .i64 ((rd_T31 t214 x14_2).f0), .int .i64 ((rd_T31 t214 x14_2).f1)]] ?_; (with_reducible refine (impl_Group.calls k2 _ _ l0_0 ((rd_T31 t214 x14_2).f0) ((rd_T31 t214 x14_2).f1) t220 _ ?side1 ?side2 A18.out).mono ?_); (case side1 => exact mC (Kd.C_below HR0_0.out HB.out)); (case side2 => exact HC0_0.out); rintro e w29 ⟨v221, rfl, ho0, hb⟩; refine ⟨_, rfl, ?_⟩; have HO222 := mS (Kd.R_lower (Kd.R_newB (Kd.R_new' (Kd.R_new' (Kd.R_new' ho0 (Kd.R_lt (mR HO_3.out))) (Kd.R_lt (mR HO_4.out))) (Kd.R_lt (mR HO_12.out))) (g := gb218) (o := .cells #[.int .i64 ((rd_T31 t214 x14_2).f0), .int .i64 ((rd_T31 t214 x14_2).f1)] 31 (0, 0)) (mK BK218.out)) (below_size (mH2 HB.out GE213.out GE218.out))); replace HO_3 := mS (Kd.R_elder' (mR HO_3.out) (Kd.R_base ho0) hb); replace HO_4 := mS (Kd.R_elder' (mR HO_4.out) (Kd.R_base ho0) hb); replace HO_12 := mS (Kd.R_elder' (mR HO_12.out) (Kd.R_base ho0) hb); replace BK213 := mB BK213 hb; replace BK218 := mB BK218 hb; replace HB := mS (below_step (mH2 HB.out GE213.out GE218.out) hb); (try clear hb); (try clear ho0); have hcz30_0 := mZ BK213.out 0; have hfz30_0 := blk_frozen BK213.out 0; obtain ⟨Ao31, co31, eo31⟩ := Kd.R_slice HO222.out; subst eo31) | ((with_reducible refine gate_callee (f := 62) rfl ?_); refine mGo 27 Try.func62 #[.agg #[.slice A0_0 l0_0.length c0_0], .slice Ao31 t220.length co31, .slice Ao25 x3_2.length co25] ?_; (with_reducible refine (impl_ready.calls k2 _ _ l0_0 _ _ t220 _ _ x3_2 true _ ?side1 ?side2 ?side3 ?side4 ?side5 ?side6 A19.out).mono ?_); (case side1 => exact mC (Kd.C_below HR0_0.out HB.out)); (case side2 => exact HC0_0.out); (case side3 => exact mC (Kd.R_reads' HO222.out).2.2); (case side4 => exact (Kd.R_reads' HO222.out).2.1); (case side5 => exact mC (Kd.R_reads' HO_3.out).2.2); (case side6 => exact (Kd.R_reads' HO_3.out).2.1); rintro e w32 ⟨rfl, hb⟩; refine ⟨_, rfl, ?_⟩; replace HO_3 := mS (Kd.R_below (mR HO_3.out) hb); replace HO_4 := mS (Kd.R_below (mR HO_4.out) hb); replace HO_12 := mS (Kd.R_below (mR HO_12.out) hb); replace HO222 := mS (Kd.R_below (mR HO222.out) hb); replace BK213 := mB BK213 hb; replace BK218 := mB BK218 hb; replace HB := mS (below_step (mH2 HB.out GE213.out GE218.out) hb); (try clear hb)) | ((with_reducible refine gate_builtin (b := .append) (xs := #[.tmp 28, .tmp 29]) rfl ?_); at_builtin; refine Kd.R_append_rows k31 (w0 := w) w.heap.size rfl (.tmp 28) (.tmp 29) 28 31 (.agg #[(.int .i64 0), (.int .i64 0)]) 16 rfl Try.underlying28 info31 rfl (by decide) (by omega) (.slice Ao25 x3_2.length co25) x3_2 t220 _ _ _ (fun k_ => some k_ ≠ (.slice (some ad217) t214.length co7 : Value).ownBlock ∧ some k_ ≠ (.slice (some ad217) t214.length co7 : Value).ownBlock ∧ some k_ ≠ (.slice Ao31 t220.length co31 : Value).ownBlock ∧ k_ ≠ gb218) (fun _ => False) rfl rfl ?aO ?aR (fun _ _ h => h) (fun _ h => h.elim) ?aF ?aB ?aS ?aL ?_; (case aR => exact mC (Kd.R_reads' HO222.out).2.2); (case aB => exact (mH2 HB.out GE213.out GE218.out)); (case aF => exact (fun k_ hk => ⟨Kd.fresh' (Kd.R_lt (mR HO_4.out)) k_ hk, Kd.fresh' (Kd.R_lt (mR HO_12.out)) k_ hk, Kd.fresh' (Kd.R_lt (mR HO222.out)) k_ hk, Kd.freshB (g := gb218) (o := .cells #[.int .i64 ((rd_T31 t214 x14_2).f0), .int .i64 ((rd_T31 t214 x14_2).f1)] 31 (0, 0)) (mK BK218.out) k_ hk⟩)); (case aO => exact (by refine mR ?_; exact Kd.R_mono HO_3.out (fun _ hk => ⟨hk.1.1.1, ⟨hk.1.1.2, ⟨hk.2, hk.1.2⟩⟩⟩))); (case aS => exact (below_size (mH2 HB.out GE213.out GE218.out))); (case aL => have := LMc21.out; omega); intro v225 w33 ho hb hg hat; rw [← Ny224.out] at ho; replace HO_4 := mS (Kd.R_after (ok := (fun k_ => some k_ ≠ (.slice Ao31 t220.length co31 : Value).ownBlock ∧ k_ ≠ gb218)) (by refine mR ?_; exact Kd.R_mono HO_4.out (fun _ hk => ⟨⟨hk.2, hk.1.2⟩, hk.1.1⟩)) hg hat); replace HO_12 := mS (Kd.R_after (ok := (fun k_ => some k_ ≠ (.slice Ao31 t220.length co31 : Value).ownBlock ∧ k_ ≠ gb218)) (by refine mR ?_; exact Kd.R_mono HO_12.out (fun _ hk => ⟨⟨hk.2, hk.1.2⟩, hk.1.1⟩)) hg hat); replace BK213 := mS (blk_grown (g := gb213) (o := .cells #[.slice A0_0 l0_0.length c0_0] 26 (0, 0)) (mK BK213.out) hg (Kd.R_ne HO_3.out BK213.out (by decide))); replace BK218 := mS (blk_grown (g := gb218) (o := .cells #[.int .i64 ((rd_T31 t214 x14_2).f0), .int .i64 ((rd_T31 t214 x14_2).f1)] 31 (0, 0)) (mK BK218.out) hg (Kd.R_away HO_3.out (fun _ hk => hk.1.2))); replace HO222 := mS (Kd.R_after (ok := (fun k_ => some k_ ≠ (.slice (some ad217) t214.length co7 : Value).ownBlock ∧ some k_ ≠ (.slice (some ad217) t214.length co7 : Value).ownBlock ∧ k_ ≠ gb218)) (by refine mR ?_; exact Kd.R_mono HO222.out (fun _ hk => ⟨⟨hk.1.1.2, ⟨hk.1.2, hk.2⟩⟩, hk.1.1.1.2⟩)) hg hat); replace HB := mS (hb); have HO226 := mS (ho); clear HO_3; clear ho hb hg hat))
            go_roundg k2
            case measure => have := HK1.out; have := HK2.out; omega
            case rel => exact ⟨(y224), (true), mE, H', ⟨by have := HK1.out; have := HK2.out; omega⟩, ⟨by refine mR ?_; exact Kd.R_mono HO226.out (fun _ hk => hk.1)⟩, ⟨by refine mR ?_; exact Kd.R_mono HO_4.out (fun _ hk => hk.2)⟩, ⟨mK BK213.out⟩, ⟨(mH2 HB.out GE213.out GE218.out)⟩⟩
           ·rw [if_neg c21] at H
            exact absurd H (by simp)
          ·replace c20 := Bool.eq_false_iff.mpr c20
           subst c20
           have H1 := H
           rw [if_neg (show ¬ (false = true) by decide)] at H1
           clear H
           have H := H1
           clear H1
           have H' := mS H
           clear H
           have p217 : 0 ≤ (x14_2 : Int) := mD
           have q217 : x14_2 < (t214.length : Int) := mD
           obtain ⟨ad217, e217, hx217_0, hx217_1⟩ := at_T31 (Kd.R_reads' HO_12.out).2.2 x14_2 p217 q217
           cases e217
           replace p217 := eq_true p217
           replace q217 := eq_true q217
           go_wp2_with (first | ((with_reducible refine gate_dst (N := 7) rfl ?_); refine mBx 7 #[.int .i64 0, .int .i64 0] 31 ?_; intro gb218 hg w34 hbox hb; replace HO_3 := mS (Kd.R_below (Kd.R_elderB (mR HO_3.out) gb218 (Nat.le_of_eq hg.symm)) hb); replace HO_4 := mS (Kd.R_below (Kd.R_elderB (mR HO_4.out) gb218 (Nat.le_of_eq hg.symm)) hb); replace HO_12 := mS (Kd.R_below (Kd.R_elderB (mR HO_12.out) gb218 (Nat.le_of_eq hg.symm)) hb); have BK218 := mS (hbox); have GW218 := mG hg (mH1 HB.out GE213.out); have GE218 := mG hg (mH1 HB.out GE213.out); replace HB := mS (below_step (mH1 HB.out GE213.out) hb); have NB213_218 := mNl hg BK213.out; have NB218_213 := mNg hg BK213.out; replace BK213 := mB BK213 hb; clear hb hbox hg; have hnb35 := NB218_213.out; have hnc35 := NB213_218.out; obtain ⟨hcz36_0, hcz36_1, hfz36_0, hfz36_1⟩ := mZ2 BK218.out; obtain ⟨Ao37, co37, eo37⟩ := Kd.R_slice HO_3.out; subst eo37) | ((with_reducible refine gate_callee (f := 61) rfl ?_); refine mGo 20 Try.func61 #[.slice Ao37 x3_2.length co37, .agg #[.int .i64 ((rd_T31 t214 x14_2).f0), .int .i64 ((rd_T31 t214 x14_2).f1)]] ?_; (with_reducible refine (impl_hasDot.calls k2 _ _ x3_2 ((rd_T31 t214 x14_2).f0) ((rd_T31 t214 x14_2).f1) false _ ?side1 ?side2 A11.out).mono ?_); (case side1 => refine (Kd.R_reads' (e := 31) (base := w.heap.size) (ok := fun k_ => ((some k_ ≠ (.slice (some ad217) t214.length co7 : Value).ownBlock ∧ some k_ ≠ (.slice (some ad217) t214.length co7 : Value).ownBlock) ∧ k_ ≠ gb218)) (n := x3_2.length) (c := co37) ?_).2.2; exact (by refine mR ?_; exact (Kd.R_mono (mRf2 (Kd.R_mono HO_3.out (fun k_ hk => (⟨hk, hk.2⟩ : _ ∧ k_ ≠ gb218)))) (fun _ h_ => h_.1)))); (case side2 => exact (Kd.R_reads' HO_3.out).2.1); rintro e w38 ⟨rfl, hb⟩; refine ⟨_, rfl, ?_⟩; replace HO_3 := mS (Kd.R_below (by refine mR ?_; exact (Kd.R_mono (mRf2 (Kd.R_mono HO_3.out (fun k_ hk => (⟨hk, hk.2⟩ : _ ∧ k_ ≠ gb218)))) (fun _ h_ => h_.1))) hb); replace HO_4 := mS (Kd.R_below (by refine mR ?_; exact (Kd.R_mono (mRf2 (Kd.R_mono HO_4.out (fun k_ hk => (⟨hk, hk.2⟩ : _ ∧ k_ ≠ gb218)))) (fun _ h_ => h_.1))) hb); replace HO_12 := mS (Kd.R_below (by refine mR ?_; exact (Kd.R_mono (mRf2 (Kd.R_mono HO_12.out (fun k_ hk => (⟨hk, hk.2⟩ : _ ∧ k_ ≠ gb218)))) (fun _ h_ => h_.1))) hb); replace BK213 := mS (blk_below (g := gb213) (o := .cells #[.slice A0_0 l0_0.length c0_0] 26 (0, 0)) (mKf NB213_218.out BK213.out) hb); replace BK218 := mS (blk_below (g := gb218) (o := .cells #[.int .i64 ((rd_T31 t214 x14_2).f0), .int .i64 ((rd_T31 t214 x14_2).f1)] 31 (0, 0)) (by refine mK ?_; refine blk_put (cs := #[.int .i64 ((rd_T31 t214 x14_2).f0), .int .i64 0]) ?_ 1 _ rfl; refine mK ?_; refine blk_put (cs := #[.int .i64 0, .int .i64 0]) ?_ 0 _ rfl; refine mK ?_; exact BK218.out) hb); replace HB := mS (below_step (mH2 HB.out GE213.out GE218.out) hb); (try clear hb); have hcz39_0 := mZ BK213.out 0; have hfz39_0 := blk_frozen BK213.out 0; obtain ⟨hcz40_0, hcz40_1, hfz40_0, hfz40_1⟩ := mZ2 BK218.out) | ((with_reducible refine gate_callee (f := 36) rfl ?_); refine mGo 23 Try.func36 #[.agg #[.slice A0_0 l0_0.length c0_0], .agg #[.int .i64 ((rd_T31 t214 x14_2).f0), .int .i64 ((rd_T31 t214 x14_2).f1)]] ?_; (with_reducible refine (impl_Group.calls k2 _ _ l0_0 ((rd_T31 t214 x14_2).f0) ((rd_T31 t214 x14_2).f1) t220 _ ?side1 ?side2 A18.out).mono ?_); (case side1 => exact mC (Kd.C_below HR0_0.out HB.out)); (case side2 => exact HC0_0.out); rintro e w41 ⟨v221, rfl, ho0, hb⟩; refine ⟨_, rfl, ?_⟩; have HO222 := mS (Kd.R_lower (Kd.R_newB (Kd.R_new' (Kd.R_new' (Kd.R_new' ho0 (Kd.R_lt (mR HO_3.out))) (Kd.R_lt (mR HO_4.out))) (Kd.R_lt (mR HO_12.out))) (g := gb218) (o := .cells #[.int .i64 ((rd_T31 t214 x14_2).f0), .int .i64 ((rd_T31 t214 x14_2).f1)] 31 (0, 0)) (mK BK218.out)) (below_size (mH2 HB.out GE213.out GE218.out))); replace HO_3 := mS (Kd.R_elder' (mR HO_3.out) (Kd.R_base ho0) hb); replace HO_4 := mS (Kd.R_elder' (mR HO_4.out) (Kd.R_base ho0) hb); replace HO_12 := mS (Kd.R_elder' (mR HO_12.out) (Kd.R_base ho0) hb); replace BK213 := mB BK213 hb; replace BK218 := mB BK218 hb; replace HB := mS (below_step (mH2 HB.out GE213.out GE218.out) hb); (try clear hb); (try clear ho0); have hcz42_0 := mZ BK213.out 0; have hfz42_0 := blk_frozen BK213.out 0; obtain ⟨Ao43, co43, eo43⟩ := Kd.R_slice HO222.out; subst eo43) | ((with_reducible refine gate_callee (f := 62) rfl ?_); refine mGo 27 Try.func62 #[.agg #[.slice A0_0 l0_0.length c0_0], .slice Ao43 t220.length co43, .slice Ao37 x3_2.length co37] ?_; (with_reducible refine (impl_ready.calls k2 _ _ l0_0 _ _ t220 _ _ x3_2 false _ ?side1 ?side2 ?side3 ?side4 ?side5 ?side6 A19.out).mono ?_); (case side1 => exact mC (Kd.C_below HR0_0.out HB.out)); (case side2 => exact HC0_0.out); (case side3 => exact mC (Kd.R_reads' HO222.out).2.2); (case side4 => exact (Kd.R_reads' HO222.out).2.1); (case side5 => exact mC (Kd.R_reads' HO_3.out).2.2); (case side6 => exact (Kd.R_reads' HO_3.out).2.1); rintro e w44 ⟨rfl, hb⟩; refine ⟨_, rfl, ?_⟩; replace HO_3 := mS (Kd.R_below (mR HO_3.out) hb); replace HO_4 := mS (Kd.R_below (mR HO_4.out) hb); replace HO_12 := mS (Kd.R_below (mR HO_12.out) hb); replace HO222 := mS (Kd.R_below (mR HO222.out) hb); replace BK213 := mB BK213 hb; replace BK218 := mB BK218 hb; replace HB := mS (below_step (mH2 HB.out GE213.out GE218.out) hb); (try clear hb)))
           go_roundg k2
           case measure => have := HK1.out; have := HK2.out; omega
           case rel => exact ⟨(x3_2), (x5_2), (wrap64 (x14_2 + 1)), mE, mE, H', ⟨by have := HK1.out; have := HK2.out; omega⟩, ⟨by refine mR ?_; exact Kd.R_mono HO_3.out (fun _ hk => ⟨hk.1.1.1, hk.1.1.2⟩)⟩, ⟨by refine mR ?_; exact Kd.R_mono HO_4.out (fun _ hk => hk.1.1)⟩, ⟨by refine mR ?_; exact Kd.R_mono HO_12.out (fun _ hk => hk.1.1)⟩, ⟨mK BK213.out⟩, ⟨(mH2 HB.out GE213.out GE218.out)⟩⟩
        ·rw [if_neg c10] at H
         exact absurd H (by simp)
       ·rw [if_neg c9] at H
        exact absurd H (by simp)
      ·rw [if_neg c8] at H
       have c8b0 := decide_eq_false c8
       clear c8
       have H' := mS H
       clear H
       go_wp2
       go_roundg k2
       case measure => have := HK1.out; have := HK2.out; omega
       case rel => exact ⟨(x3_2), (x5_2), mE, H', ⟨by have := HK1.out; have := HK2.out; omega⟩, ⟨by refine mR ?_; exact Kd.R_mono HO_3.out (fun _ hk => hk.1)⟩, ⟨mR HO_4.out⟩, ⟨mK BK213.out⟩, ⟨(mH1 HB.out GE213.out)⟩⟩
   ·replace c6 := Bool.eq_false_iff.mpr c6
    subst c6
    have H1 := H
    rw [if_neg (show ¬ (false = true) by decide)] at H1
    clear H
    have H := H1
    clear H1
    obtain rfl := Option.some.inj H
    go_wp2
    go_ret
    exact ⟨_, mEw, by refine mR ?_; exact Kd.R_mono HO_3.out (fun _ hk => trivial), (mH1 HB.out GE213.out)⟩

/-! ### laws_szDotS: function 69 -/
def laws_szDotS.f (l0 : List (S41)) (a1 : Int) : Option (Int) := if (wrap64 (a1 - (l0.length : Int))) < 0 then (some (-1)) else (some (wrap64 (a1 - (l0.length : Int))))
set_option maxHeartbeats 8000000 in
set_option maxRecDepth 100000 in
theorem laws_szDotS.calls (A0 : Option Addr) (c0 : Nat) (l0 : List (S41)) (a1 : Int) (r : Int) (w : World) (hr0 : Kd.C k41 w A0 l0.length l0) (hc0 : l0.length ≤ c0) (h : laws_szDotS.f l0 a1 = some r) :
  Calls Try.prog 69 #[.slice A0 l0.length c0, .int .i64 a1] w fun e w' => e = .returned (.int .i64 r) ∧ Drawn0 w w' := by
 have HR0 := mS hr0
 have HC0 := mS hc0
 clear hr0 hc0
 have H : (if (wrap64 (a1 - (l0.length : Int))) < 0 then (some (-1)) else (some (wrap64 (a1 - (l0.length : Int))))) = some r := h
 clear h
 by_cases c3 : (wrap64 (a1 - (l0.length : Int))) < 0
 ·rw [if_pos c3] at H
  have c3b0 := decide_eq_true c3
  clear c3
  obtain rfl := Option.some.inj H
  go_enter Try.func69, Try.ntmps69
  go_wp2
  go_ret
  exact ⟨mE, by repeat (first | exact Drawn0.refl _ | apply Drawn0.step)⟩
 ·rw [if_neg c3] at H
  have c3b0 := decide_eq_false c3
  clear c3
  obtain rfl := Option.some.inj H
  go_enter Try.func69, Try.ntmps69
  go_wp2
  go_ret
  exact ⟨mE, by repeat (first | exact Drawn0.refl _ | apply Drawn0.step)⟩

/-! ### laws_szItem: function 20 -/
def laws_szItem.f (a0_0 : Int) (a0_1 : Int) (l0_2 : List (S41)) (a1 : Int) : Option (Int) := (laws_szDotS.f l0_2 a1).bind fun t228 => (if t228 < 0 then (some (-1)) else (some t228))
set_option maxHeartbeats 8000000 in
set_option maxRecDepth 100000 in
theorem laws_szItem.calls (a0_0 : Int) (a0_1 : Int) (A0_2 : Option Addr) (c0_2 : Nat) (l0_2 : List (S41)) (a1 : Int) (r : Int) (w : World) (hr0_2 : Kd.C k41 w A0_2 l0_2.length l0_2) (hc0_2 : l0_2.length ≤ c0_2) (h : laws_szItem.f a0_0 a0_1 l0_2 a1 = some r) :
  Calls Try.prog 20 #[.agg #[.int .i64 a0_0, .int .i64 a0_1, .slice A0_2 l0_2.length c0_2], .int .i64 a1] w fun e w' => e = .returned (.int .i64 r) ∧ Below w.heap.size w w' := by
 have hu44 := Try.underlying44
 have HR0_2 := mS hr0_2
 have HC0_2 := mS hc0_2
 clear hr0_2 hc0_2
 have HB := mS (Below.refl w.heap.size w)
 have H : ((laws_szDotS.f l0_2 a1).bind fun t228 => (if t228 < 0 then (some (-1)) else (some t228))) = some r := h
 clear h
 replace H := Option.bind_eq_some_iff.mp H
 obtain ⟨t228, A30, H⟩ := H
 replace H : (if t228 < 0 then (some (-1)) else (some t228)) = some r := H
 have A3 := mS A30
 clear A30
 by_cases c4 : t228 < 0
 ·rw [if_pos c4] at H
  have c4b0 := decide_eq_true c4
  clear c4
  obtain rfl := Option.some.inj H
  go_enter Try.func20, Try.ntmps20
  go_wp2_with (first | ((with_reducible refine gate_dst (N := 2) rfl ?_); refine mBx 2 #[.int .i64 a0_0, .int .i64 a0_1, .slice A0_2 l0_2.length c0_2] 44 ?_; intro gb227 hg w5 hbox hb; have BK227 := mS (hbox); have GW227 := mG hg (mH HB.out); have GE227 := mG hg (mH HB.out); replace HB := mS (below_step (mH HB.out) hb); clear hb hbox hg; obtain ⟨hcz6_0, hcz6_1, hcz6_2, hfz6_0, hfz6_1, hfz6_2⟩ := mZ3 BK227.out) | ((with_reducible refine gate_callee (f := 69) rfl ?_); refine mGo 8 Try.func69 #[.slice A0_2 l0_2.length c0_2, .int .i64 a1] ?_; (with_reducible refine (laws_szDotS.calls _ _ l0_2 a1 t228 _ ?side1 ?side2 A3.out).mono ?_); (case side1 => exact mC (Kd.C_below HR0_2.out HB.out)); (case side2 => exact HC0_2.out); rintro e w' ⟨rfl, ⟨nd, rfl⟩⟩; refine ⟨_, rfl, ?_⟩))
  go_ret
  exact ⟨mEw, (mH1 HB.out GE227.out)⟩
 ·rw [if_neg c4] at H
  have c4b0 := decide_eq_false c4
  clear c4
  obtain rfl := Option.some.inj H
  go_enter Try.func20, Try.ntmps20
  go_wp2_with (first | ((with_reducible refine gate_dst (N := 2) rfl ?_); refine mBx 2 #[.int .i64 a0_0, .int .i64 a0_1, .slice A0_2 l0_2.length c0_2] 44 ?_; intro gb227 hg w7 hbox hb; have BK227 := mS (hbox); have GW227 := mG hg (mH HB.out); have GE227 := mG hg (mH HB.out); replace HB := mS (below_step (mH HB.out) hb); clear hb hbox hg; obtain ⟨hcz8_0, hcz8_1, hcz8_2, hfz8_0, hfz8_1, hfz8_2⟩ := mZ3 BK227.out) | ((with_reducible refine gate_callee (f := 69) rfl ?_); refine mGo 8 Try.func69 #[.slice A0_2 l0_2.length c0_2, .int .i64 a1] ?_; (with_reducible refine (laws_szDotS.calls _ _ l0_2 a1 t228 _ ?side1 ?side2 A3.out).mono ?_); (case side1 => exact mC (Kd.C_below HR0_2.out HB.out)); (case side2 => exact HC0_2.out); rintro e w' ⟨rfl, ⟨nd, rfl⟩⟩; refine ⟨_, rfl, ?_⟩))
  go_ret
  exact ⟨mEw, (mH1 HB.out GE227.out)⟩

end Go.Proofs.Ytgbejjeephipeaa.MFnExactOrderOf
