-- Written by mp.py, this session's own printer (wip/mp.py).
import Derived.Test.YtgbejjeephipeaaVMShort
import Derived.Test.YtgbejjeephipeaaMFnStablex0
import Derived.Test.YtgbejjeephipeaaMFnStablex11
namespace Go.Proofs.Ytgbejjeephipeaa.MFnStable
open Go.RowKit Go.Proofs.YtgbejjeephipeaaW.PrintWords Go.Proofs.YtgbejjeephipeaaW.PrintLast Go.Proofs.YtgbejjeephipeaaW.PrintMore Go.Proofs.Ytgbejjeephipeaa.MWords
attribute [local go_sem] max2_int min2_int max_two min_two max_three min_three max_four min_four   -- for this text's walks alone
set_option linter.unusedVariables false
set_option linter.unusedSimpArgs false

/-! ### impl_copyGraph: function 63 -/
def impl_copyGraph.l0 : Nat → List (S33) → Int → Int → List (S33) → Option ((List (S33)))
 | 0, _, _, _, _ => none
 | k + 1, x7, x8, x9, x366000 => if x9 < x8 then (if 0 ≤ x9 then (if x9 < (x7.length : Int) then ((impl_copyDots.f ((rd_T33 x7 x9).f1)).bind fun t368 => (if x366000.length < 3518437208883 then (impl_copyGraph.l0 k x7 x8 (wrap64 (x9 + 1)) (x366000 ++ [(⟨(⟨(rd_T33 x7 x9).f0.f0, (rd_T33 x7 x9).f0.f1⟩ : S31), t368⟩ : S33)])) else (none))) else (none)) else (none)) else (some x366000)
def impl_copyGraph.f (k : Nat) (l0_0 : List (S33)) : Option ((List (S33))) := impl_copyGraph.l0 k l0_0 (l0_0.length : Int) 0 ([] : List (S33))
theorem impl_copyGraph.mono_l : ∀ k, (∀ y0 y1 y2 y3, LeO (impl_copyGraph.l0 k y0 y1 y2 y3) (impl_copyGraph.l0 (k + 1) y0 y1 y2 y3))
 | 0 => fun _ _ _ _ r h => by simp [impl_copyGraph.l0] at h
 | k + 1 => by
  have ih0 := impl_copyGraph.mono_l k
  ·intro y0 y1 y2 y3
   unfold impl_copyGraph.l0
   repeat' first
   | (with_reducible exact ih0 _ _ _ _)
   | (with_reducible exact LeO.refl _)
   | (with_reducible exact LeO.none _)
   | (with_reducible refine LeO.ite ?_ ?_)
   | (with_reducible refine LeO.bind ?_ (fun _ => ?_))
   | exact ih0 _ _ _ _
   | exact LeO.none _
   | refine LeO.ite ?_ ?_
   | refine LeO.bind ?_ (fun _ => ?_)
theorem impl_copyGraph.mono : ∀ a0 k, LeO (impl_copyGraph.f k a0) (impl_copyGraph.f (k + 1) a0) := by
 intro a0 k
 have ih0 := impl_copyGraph.mono_l k
 unfold impl_copyGraph.f
 repeat' first
   | (with_reducible exact ih0 _ _ _ _)
   | (with_reducible exact LeO.refl _)
   | (with_reducible exact LeO.none _)
   | (with_reducible refine LeO.ite ?_ ?_)
   | (with_reducible refine LeO.bind ?_ (fun _ => ?_))
   | exact ih0 _ _ _ _
   | exact LeO.none _
   | refine LeO.ite ?_ ?_
   | refine LeO.bind ?_ (fun _ => ?_)
def impl_copyGraph.T5 : Bool × List (List Nat × List Nat) := (true, [([], []), ([0], [0]), ([], []), ([2], [2]), ([], []), ([4], [4]), ([5], [5]), ([3, 6], [3, 6]), ([7], [7]), ([1, 8, 6], [1, 8]), ([0, 1, 2, 3, 4, 5, 6, 7, 8, 9], []), ([10, 9, 9, 0, 1, 2, 3, 4, 5, 6, 7, 8, 9], [9, 10])])
def impl_copyGraph.B5 : List Nat := [0, 1, 0, 4, 0, 16, 48, 124, 252, 511, 1023, 2047]
theorem impl_copyGraph.tab5 : rtab .any (opsOf Try.f63 5) = impl_copyGraph.T5 := by kernel_rfl
theorem impl_copyGraph.bits5 : waitsOk impl_copyGraph.T5.2 impl_copyGraph.B5 = true := by kernel_rfl
set_option maxHeartbeats 8000000 in
set_option maxRecDepth 100000 in
theorem impl_copyGraph.calls (k : Nat) (A0_0 : Option Addr) (c0_0 : Nat) (l0_0 : List (S33)) (r : List (S33)) (w : World) (hr0_0 : Kd.C k33 w A0_0 l0_0.length l0_0) (hc0_0 : l0_0.length ≤ c0_0) (h : impl_copyGraph.f k l0_0 = some r) :
  Calls Try.prog 63 #[.agg #[.slice A0_0 l0_0.length c0_0]] w fun e w' => ∃ v0_ : Value, e = .returned (.agg #[v0_]) ∧ Kd.S k33 33 w' w.heap.size (fun _ => True) v0_ r ∧ Below w.heap.size w w' := by
 have hu26 := Try.underlying26
 have hfd26 : ∀ (v : Value) (w : World), (Instr.field 26 (.agg #[v]) 0).run Try.prog w = .ok v w := fun _ _ => by first | kernel_rfl | rfl
 have hu33 := Try.underlying33
 have hu31 := Try.underlying31
 have HR0_0 := mS hr0_0
 have HC0_0 := mS hc0_0
 clear hr0_0 hc0_0
 have HB := mS (Below.refl w.heap.size w)
 have H : (impl_copyGraph.l0 k l0_0 (l0_0.length : Int) 0 ([] : List (S33))) = some r := h
 clear h
 have H' := mS H
 clear H
 go_enter Try.func63, Try.ntmps63
 go_wp2_with (first | ((with_reducible refine gate_dst (N := 1) rfl ?_); refine mBx 1 #[.slice A0_0 l0_0.length c0_0] 26 ?_; intro gb363 hg w2 hbox hb; have BK363 := mS (hbox); have GW363 := mG hg (mH HB.out); have GE363 := mG hg (mH HB.out); replace HB := mS (below_step (mH HB.out) hb); clear hb hbox hg) | ((with_reducible refine gate_dst (N := 2) rfl ?_); refine mBx 2 #[.slice none 0 0] 26 ?_; intro gb364 hg w3 hbox hb; have BK364 := mS (hbox); have GW364 := mG hg (mH1 HB.out GE363.out); have GE364 := mG hg (mH1 HB.out GE363.out); replace HB := mS (below_step (mH1 HB.out GE363.out) hb); have NB363_364 := mNl hg BK363.out; have NB364_363 := mNg hg BK363.out; replace BK363 := mB BK363 hb; clear hb hbox hg) | ((with_reducible refine gate_dst (N := 3) rfl ?_); refine mBx 3 #[.slice none 0 0] 26 ?_; intro gb365 hg w4 hbox hb; have BK365 := mS (hbox); have GW365 := mG hg (mH2 HB.out GE363.out GE364.out); have GE365 := mG hg (mH2 HB.out GE363.out GE364.out); replace HB := mS (below_step (mH2 HB.out GE363.out GE364.out) hb); have NB363_365 := mNl hg BK363.out; have NB365_363 := mNg hg BK363.out; replace BK363 := mB BK363 hb; have NB364_365 := mNl hg BK364.out; have NB365_364 := mNg hg BK364.out; replace BK364 := mB BK364 hb; clear hb hbox hg; have hnb5 := NB363_364.out; have hnc5 := NB364_363.out; have hnb6 := NB363_365.out; have hnc6 := NB365_363.out; have hcz7_0 := mZ BK363.out 0; have hfz7_0 := blk_frozen BK363.out 0))
 go_loopg [9] k (fun kq v9 w' => ∃ (x9_1 : Int) (x366000_1 : List (S33)) (u366000 : Value), v9 = .int .i64 x9_1 ∧ Aside0 (impl_copyGraph.l0 kq l0_0 (l0_0.length : Int) x9_1 x366000_1 = some r) ∧ Aside0 (kq ≤ k) ∧ Aside0 (Kd.S k33 33 w' w.heap.size (fun _ => True) u366000 x366000_1) ∧ Aside0 (w'.heap[gb363]? = some (.cells #[(.slice A0_0 l0_0.length c0_0)] 26 (0, 0))) ∧ Aside0 (w'.heap[gb364]? = some (.cells #[(.slice none 0 0)] 26 (0, 0))) ∧ Aside0 (w'.heap[gb365]? = some (.cells #[u366000] 26 (0, 0))) ∧ Aside0 (Below w.heap.size w w'))
 case atStart => exact ⟨(0), (([] : List (S33))), (.slice none 0 0), mE, H', ⟨Nat.le_refl _⟩, ⟨by first | exact Kd.S_nil _ _ _ _ _ | exact Kd.N_nil _ _ _ _ _ | exact Kd.V_nil _ _ _ _ _ | exact Kd.Q_nil _ _ _ _ _ | exact Kd.R_nil _ _ _ _ _⟩, ⟨mK BK363.out⟩, ⟨mK BK364.out⟩, ⟨mK BK365.out⟩, ⟨(mH3 HB.out GE363.out GE364.out GE365.out)⟩⟩
 case round =>
  clear H'
  try clear p2
  try clear c5
  try clear c6
  try clear hcz7_0
  try clear hfz7_0
  obtain ⟨x9_1, x366000_1, u366000, rfl, HA, HK1, HO_366000, BK363, BK364, BK365, HB⟩ := hrel
  cases gk with
  | zero => exact absurd HA.out (by simp [impl_copyGraph.l0])
  | succ k1 =>
   have H := HA.out
   clear HA
   simp only [impl_copyGraph.l0] at H
   by_cases c8 : x9_1 < (l0_0.length : Int)
   ·rw [if_pos c8] at H
    have c8b0 := decide_eq_true c8
    clear c8
    by_cases c9 : 0 ≤ x9_1
    ·rw [if_pos c9] at H
     have c9b0 := decide_eq_true c9
     clear c9
     by_cases c10 : x9_1 < (l0_0.length : Int)
     ·rw [if_pos c10] at H
      have c10b0 := decide_eq_true c10
      clear c10
      replace H := Option.bind_eq_some_iff.mp H
      obtain ⟨t368, A110, H⟩ := H
      replace H : (if x366000_1.length < 3518437208883 then (impl_copyGraph.l0 k1 l0_0 (l0_0.length : Int) (wrap64 (x9_1 + 1)) (x366000_1 ++ [(⟨(⟨(rd_T33 l0_0 x9_1).f0.f0, (rd_T33 l0_0 x9_1).f0.f1⟩ : S31), t368⟩ : S33)])) else (none)) = some r := H
      have A11 := mS A110
      clear A110
      by_cases c12 : x366000_1.length < 3518437208883
      ·rw [if_pos c12] at H
       have LMc12 := mS c12
       clear c12
       obtain ⟨y371, hy371⟩ : ∃ y_ : List (S33), y_ = (x366000_1 ++ [(⟨(⟨(rd_T33 l0_0 x9_1).f0.f0, (rd_T33 l0_0 x9_1).f0.f1⟩ : S31), t368⟩ : S33)]) := ⟨_, rfl⟩
       replace H : (impl_copyGraph.l0 k1 l0_0 (l0_0.length : Int) (wrap64 (x9_1 + 1)) y371) = some r := by first | (rw [hy371]; with_reducible exact H) | (have H2_ := (Option.bind_some _ _).symm.trans H; rw [hy371]; with_reducible exact H2_) | (have H2_ := (Option.bind_some _ _).symm.trans H; with_reducible exact H2_) | with_reducible exact H | (rw [hy371]; exact H) | exact H
       have Ny371 := mS hy371
       clear hy371
       have H' := mS H
       clear H
       have p366 : 0 ≤ (x9_1 : Int) := mD
       have q366 : x9_1 < (l0_0.length : Int) := mD
       obtain ⟨ad366, A366_2, c366_2, e366, hx366_0, hx366_1, hx366_2, hl366_2, hi366_2⟩ := at_T33 HR0_0.out x9_1 p366 q366
       cases e366
       replace hx366_0 := mX HB.out hx366_0
       replace hx366_1 := mX HB.out hx366_1
       replace hx366_2 := mX HB.out hx366_2
       have HR366_2 := mS hi366_2
       have HC366_2 := mS hl366_2
       clear hi366_2 hl366_2
       replace p366 := eq_true p366
       replace q366 := eq_true q366
       try go_wp2_with (first | ((with_reducible refine gate_dst (N := 5) rfl ?_); refine mBx 5 #[.int .i64 0, .int .i64 0, .slice none 0 0] 33 ?_; intro gb367 hg w13 hbox hb; replace HO_366000 := mS (Kd.S_below (Kd.S_elderB (mSd HO_366000.out) gb367 (Nat.le_of_eq hg.symm)) hb); have BK367 := mS (hbox); have GW367 := mG hg (mH3 HB.out GE363.out GE364.out GE365.out); have GE367 := mG hg (mH3 HB.out GE363.out GE364.out GE365.out); replace HB := mS (below_step (mH3 HB.out GE363.out GE364.out GE365.out) hb); have NB363_367 := mNl hg BK363.out; have NB367_363 := mNg hg BK363.out; replace BK363 := mB BK363 hb; have NB364_367 := mNl hg BK364.out; have NB367_364 := mNg hg BK364.out; replace BK364 := mB BK364 hb; have NB365_367 := mNl hg BK365.out; have NB367_365 := mNg hg BK365.out; replace BK365 := mB BK365 hb; clear hb hbox hg; have hnb14 := NB367_363.out; have hnc14 := NB363_367.out; have hnb15 := NB367_364.out; have hnc15 := NB364_367.out; have hnb16 := NB367_365.out; have hnc16 := NB365_367.out; obtain ⟨hcz17_0, hcz17_1, hcz17_2, hfz17_0, hfz17_1, hfz17_2⟩ := mZ3 BK367.out))
       generalize hW_ : (((w13.setCell ⟨gb367, 0, none⟩ (.int .i64 ((rd_T33 l0_0 x9_1).f0.f0))).setCell ⟨gb367, 1, none⟩ (.int .i64 ((rd_T33 l0_0 x9_1).f0.f1))).setCell ⟨gb367, 2, none⟩ (.slice A366_2 ((rd_T33 l0_0 x9_1).f1).length c366_2)) = w18
       replace HO_366000 : Aside0 (Kd.S k33 33 w18 w.heap.size (fun k_ => k_ ≠ gb367) u366000 x366000_1) := by rw [← hW_]; exact ⟨by refine mSd ?_; exact Kd.S_mono (mSf3 (Kd.S_mono HO_366000.out (fun k_ hk => (⟨hk, hk.2⟩ : _ ∧ k_ ≠ gb367)))) (fun _ hk => hk.1.2)⟩
       replace BK363 : Aside0 (w18.heap[gb363]? = some (.cells #[.slice (some ad366) l0_0.length c0_0] 26 (0, 0))) := by rw [← hW_]; exact ⟨mKf NB363_367.out BK363.out⟩
       replace BK364 : Aside0 (w18.heap[gb364]? = some (.cells #[.slice none 0 0] 26 (0, 0))) := by rw [← hW_]; exact ⟨mKf NB364_367.out BK364.out⟩
       replace BK365 : Aside0 (w18.heap[gb365]? = some (.cells #[u366000] 26 (0, 0))) := by rw [← hW_]; exact ⟨mKf NB365_367.out BK365.out⟩
       replace BK367 : Aside0 (w18.heap[gb367]? = some (.cells #[.int .i64 ((rd_T33 l0_0 x9_1).f0.f0), .int .i64 ((rd_T33 l0_0 x9_1).f0.f1), .slice A366_2 ((rd_T33 l0_0 x9_1).f1).length c366_2] 33 (0, 0))) := by rw [← hW_]; exact ⟨by refine mK ?_; refine blk_put (cs := #[.int .i64 ((rd_T33 l0_0 x9_1).f0.f0), .int .i64 ((rd_T33 l0_0 x9_1).f0.f1), .slice none 0 0]) ?_ 2 _ rfl; refine mK ?_; refine blk_put (cs := #[.int .i64 ((rd_T33 l0_0 x9_1).f0.f0), .int .i64 0, .slice none 0 0]) ?_ 1 _ rfl; refine mK ?_; refine blk_put (cs := #[.int .i64 0, .int .i64 0, .slice none 0 0]) ?_ 0 _ rfl; refine mK ?_; exact BK367.out⟩
       replace HB : Aside0 (Below w.heap.size w w18) := by rw [← hW_]; exact ⟨(mH4 HB.out GE363.out GE364.out GE365.out GE367.out)⟩
       clear hW_
       replace HO_366000 := mS (Kd.S_drew HO_366000.out)
       replace BK363 := mS (blk_drew BK363.out)
       replace BK364 := mS (blk_drew BK364.out)
       replace BK365 := mS (blk_drew BK365.out)
       replace BK367 := mS (blk_drew BK367.out)
       replace HB := mS (below_drew1 HB.out)
       refine start_ (n := 12) (S := fun w' => w'.cell? ⟨gb365, 0, none⟩ = some (u366000) ∧ w'.cell? ⟨gb367, 0, none⟩ = some (.int .i64 ((rd_T33 l0_0 x9_1).f0.f0)) ∧ w'.cell? ⟨gb367, 1, none⟩ = some (.int .i64 ((rd_T33 l0_0 x9_1).f0.f1)) ∧ w'.cell? ⟨gb367, 2, none⟩ = some (.slice A366_2 ((rd_T33 l0_0 x9_1).f1).length c366_2)) (ds := [11]) (mb 0 12) (by kernel_rfl) rfl rfl ⟨mZ BK365.out 0, mc3 BK367.out⟩ (fun hHeld => ?_); refine with_tabW impl_copyGraph.tab5 impl_copyGraph.bits5 (fun HT_ HW_ => ?_)
       generalize w18.drew = w19 at HO_366000 BK363 BK364 BK365 BK367 HB hHeld ⊢
       refine mpu 0 13 HT_.out (mb 1 11) ?_
       refine mpu 2 15 HT_.out (mr [1,1,1,9]) ?_
       refine mpu 4 17 HT_.out (mr [1,1,1,1,1,7]) ?_
       refine mpt 1 14 HT_.out HW_.out (mr [3,1,1,7]) hHeld ?_
       refine mpt 3 16 HT_.out HW_.out (mb 5 7) hHeld ?_
       refine mpt 5 18 HT_.out HW_.out (mb 6 6) hHeld ?_
       refine mone 6 (some 19) HT_.out (mb 7 5) (fun K hK => ?_)
       refine goes_ Try.func65 (by kernel_rfl) rfl #[.slice A366_2 ((rd_T33 l0_0 x9_1).f1).length c366_2] (by rfl) rfl rfl mA ?_
       with_reducible refine (impl_copyDots.calls _ _ ((rd_T33 l0_0 x9_1).f1) t368 _ ?side1 ?side2 A11.out).mono ?_
       (case side1 => exact mC (Kd.C_below HR366_2.out HB.out))
       (case side2 => exact HC366_2.out)
       rintro e w20 ⟨v369, rfl, ho0, hb⟩
       refine ⟨_, rfl, ?_⟩
       replace HO_366000 := mS (Kd.S_elder' (mSd HO_366000.out) (Kd.R_base ho0) hb)
       have HO370 := mS (Kd.R_lower ho0 (below_size (mH4 HB.out GE363.out GE364.out GE365.out GE367.out)))
       replace BK363 := mB BK363 hb
       replace BK364 := mB BK364 hb
       replace BK365 := mB BK365 hb
       replace BK367 := mB BK367 hb
       replace HB := mS (below_step (mH4 HB.out GE363.out GE364.out GE365.out GE367.out) hb)
       (try clear hb)
       (try clear hb2)
       (try clear hk)
       (try clear hi)
       (try clear ho0)
       obtain ⟨Ao21, co21, eo21⟩ := Kd.R_slice HO370.out
       (first | subst eo21 | (injection eo21 with f1_ f2_ f3_; have f4_ := f1_.symm; have f5_ := f3_.symm; clear f1_ f2_ f3_; subst f4_; subst f5_))
       refine hK.out _ _ ⟨mZ BK365.out 0, mc3 BK367.out⟩ (fun hHeld => ?_)
       clear hK K
       refine mno 19 ?_
       refine mpu 7 20 HT_.out (mb 8 4) ?_
       refine mone 8 (some 21) HT_.out (mb 9 3) (fun K hK => ?_)
       refine value_ (w1 := ?_) (v := ?_) (by rfl) rfl ?_ ?_
       rotate_left 2
       ·go_simp
        constructor
        ·rfl
        ·rfl
       refine hK.out _ _ ⟨(blk_cell (blk_alloc BK365.out _) 0).trans rfl, (blk_cell (blk_alloc BK367.out _) 0).trans rfl, (blk_cell (blk_alloc BK367.out _) 1).trans rfl, (blk_cell (blk_alloc BK367.out _) 2).trans rfl⟩ (fun hHeld => ?_)
       clear hK K
       refine mno 21 ?_
       refine mone 9 (some 22) HT_.out (mb 10 2) (fun K hK => ?_)
       refine Kd.S_append_step k33 (w0 := w) w.heap.size (by rfl) (.tmp 14) (.tmp 21) 24 33 (.agg #[(.int .i64 0), (.int .i64 0), (.slice none 0 0)]) 40 rfl Try.underlying24 info33 rfl (by decide) (by omega) u366000 x366000_1 (⟨(⟨(rd_T33 l0_0 x9_1).f0.f0, (rd_T33 l0_0 x9_1).f0.f1⟩ : S31), t368⟩ : S33) [.int .i64 ((rd_T33 l0_0 x9_1).f0.f0), .int .i64 ((rd_T33 l0_0 x9_1).f0.f1), .slice Ao21 t368.length co21] (fun k_ => k_ ≠ gb367) (fun k_ => some k_ = (.slice Ao21 t368.length co21 : Value).ownBlock) rfl rfl ?aP (fun k_ hk_ => ((Kd.R_mono (ok' := fun k_ => ((fun k_ => k_ ≠ gb367)) k_ ∧ some k_ ≠ (u366000 : Value).ownBlock) (Kd.R_types (Kd.R_apart' (HO370.out) (Kd.S_typed HO_366000.out) (by decide)) BK367.out (by decide)) (fun k_ hk => ⟨hk.2, hk.1.2⟩))).1 k_ hk_.symm) ?aF ?aO ?aB ?aS ?aL ?_
       (case aP => exact k33_mkM _ _ _ (⟨(⟨(rd_T33 l0_0 x9_1).f0.f0, (rd_T33 l0_0 x9_1).f0.f1⟩ : S31), t368⟩ : S33) (Kd.R_mono (Kd.R_tight rfl (Kd.R_mono (ok' := fun k_ => ((fun k_ => k_ ≠ gb367)) k_ ∧ some k_ ≠ (u366000 : Value).ownBlock) (Kd.R_types (Kd.R_apart' (HO370.out) (Kd.S_typed HO_366000.out) (by decide)) BK367.out (by decide)) (fun k_ hk => ⟨hk.2, hk.1.2⟩))) (fun _ h_ => h_)))
       (case aB => exact (mH4 HB.out GE363.out GE364.out GE365.out GE367.out))
       (case aF => exact (fun k_ hk => Kd.freshB (g := gb367) (o := .cells #[.int .i64 ((rd_T33 l0_0 x9_1).f0.f0), .int .i64 ((rd_T33 l0_0 x9_1).f0.f1), .slice A366_2 ((rd_T33 l0_0 x9_1).f1).length c366_2] 33 (0, 0)) (mK BK367.out) k_ hk))
       (case aO => exact (by refine mSd ?_; exact Kd.S_mono HO_366000.out (fun k_ hk => ⟨hk.1, fun e_ => hk.2 e_⟩)))
       (case aS => exact (below_size (mH4 HB.out GE363.out GE364.out GE365.out GE367.out)))
       (case aL => have := LMc12.out; omega)
       intro v372 w22 ho hb hg hat
       rw [← Ny371.out] at ho
       replace BK363 := mS (blk_grown (g := gb363) (o := .cells #[.slice (some ad366) l0_0.length c0_0] 26 (0, 0)) (mK BK363.out) hg (Kd.S_ne HO_366000.out BK363.out (by decide)))
       replace BK364 := mS (blk_grown (g := gb364) (o := .cells #[.slice none 0 0] 26 (0, 0)) (mK BK364.out) hg (Kd.S_ne HO_366000.out BK364.out (by decide)))
       replace BK365 := mS (blk_grown (g := gb365) (o := .cells #[u366000] 26 (0, 0)) (mK BK365.out) hg (Kd.S_ne HO_366000.out BK365.out (by decide)))
       replace BK367 := mS (blk_grown (g := gb367) (o := .cells #[.int .i64 ((rd_T33 l0_0 x9_1).f0.f0), .int .i64 ((rd_T33 l0_0 x9_1).f0.f1), .slice A366_2 ((rd_T33 l0_0 x9_1).f1).length c366_2] 33 (0, 0)) (mK BK367.out) hg (Kd.S_away HO_366000.out (fun _ hk => hk.1)))
       replace HB := mS (hb)
       have HO373 := mS (ho)
       clear HO_366000
       clear HO370
       clear ho hb hg hat
       obtain ⟨Ao23, co23, eo23⟩ := Kd.S_slice HO373.out
       (first | subst eo23 | (injection eo23 with f1_ f2_ f3_; have f4_ := f1_.symm; have f5_ := f3_.symm; clear f1_ f2_ f3_; subst f4_; subst f5_))
       refine hK.out _ _ ⟨mZ BK365.out 0, mc3 BK367.out⟩ (fun hHeld => ?_)
       clear hK K
       refine mno 22 ?_
       refine mpu 10 23 HT_.out (mb 11 1) ?_
       refine last_ (i := 11) (N := none) (mb 12 0) rfl rfl (one_of HT_.out (by kernel_rfl)) (by decide) (fun K hK => ?_)
       have hs24 : w22.cell? ⟨gb365, 0, none⟩ = some (u366000) := mZ BK365.out 0
       have hfs24 := blk_frozen BK365.out 0
       have hns24_0 := NB363_365.out
       have hns24_1 := NB364_365.out
       have hns24_3 := NB367_365.out
       have hms24_0 := NB365_363.out
       have hms24_1 := NB365_364.out
       have hms24_3 := NB365_367.out
       refine skip_ (w1 := ?_) (by rfl) rfl ?_ ?_
       rotate_left
       ·go_simp
        rfl
       refine hK.out _ _ ?_
       clear hK K
       refine done_ (done_of HT_.out (by kernel_rfl)) ?_
       try go_wp2
       go_roundg k1
       case measure => have := HK1.out; omega
       case rel => exact ⟨(wrap64 (x9_1 + 1)), (y371), (.slice Ao23 y371.length co23), mE, H', ⟨by have := HK1.out; omega⟩, ⟨by refine mSd ?_; exact Kd.S_mono (Kd.S_far (p := ⟨gb365, 0, none⟩) (Kd.S_types HO373.out BK365.out (by decide)) (fun _ hk => hk.2) (.slice Ao23 y371.length co23)) (fun _ hk => trivial)⟩, ⟨mKf NB363_365.out BK363.out⟩, ⟨mKf NB364_365.out BK364.out⟩, ⟨by refine mK ?_; refine blk_put (cs := #[u366000]) ?_ 0 _ rfl; refine mK ?_; exact BK365.out⟩, ⟨(mH4 HB.out GE363.out GE364.out GE365.out GE367.out)⟩⟩
      ·rw [if_neg c12] at H
       exact absurd H (by simp)
     ·rw [if_neg c10] at H
      exact absurd H (by simp)
    ·rw [if_neg c9] at H
     exact absurd H (by simp)
   ·rw [if_neg c8] at H
    have c8b0 := decide_eq_false c8
    clear c8
    obtain rfl := Option.some.inj H
    have hnb25 := NB365_363.out
    have hnc25 := NB363_365.out
    have hnb26 := NB365_364.out
    have hnc26 := NB364_365.out
    have hcz27_0 := mZ BK365.out 0
    have hfz27_0 := blk_frozen BK365.out 0
    obtain ⟨Ao28, co28, eo28⟩ := Kd.S_slice HO_366000.out
    subst eo28
    have hnb29 := NB364_363.out
    have hnc29 := NB363_364.out
    have hcz30_0 := mZ BK364.out 0
    have hfz30_0 := blk_frozen BK364.out 0
    go_wp2
    refine bodyPost_ret (results_cell_row rfl _ _ gb364 26 #[.slice Ao28 x366000_1.length co28] (0, 0) _ rfl (by refine mK ?_; refine blk_put (cs := #[.slice none 0 0]) ?_ 0 _ rfl; refine mK ?_; exact BK364.out) Try.underlying26 rfl (by kernel_rfl)) rfl ?_
    exact ⟨_, mEw, by refine mSd ?_; exact Kd.S_mono (Kd.S_far (p := ⟨gb364, 0, none⟩) (Kd.S_types HO_366000.out BK364.out (by decide)) (fun _ hk => hk.2) (.slice Ao28 x366000_1.length co28)) (fun _ hk => trivial), (mH3 HB.out GE363.out GE364.out GE365.out)⟩

end Go.Proofs.Ytgbejjeephipeaa.MFnStable
