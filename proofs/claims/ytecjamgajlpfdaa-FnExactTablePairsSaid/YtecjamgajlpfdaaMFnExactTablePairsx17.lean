-- Written by mp.py, this session's own printer (wip/mp.py).
import Derived.Test.YtecjamgajlpfdaaVMShort
import Derived.Test.YtecjamgajlpfdaaMFnExactTablePairsx0
import Derived.Test.YtecjamgajlpfdaaMFnExactTablePairsx11
import Derived.Test.YtecjamgajlpfdaaMFnExactTablePairsx16
namespace Go.Proofs.Ytecjamgajlpfdaa.MFnExactTablePairs
open Go.RowKit Go.Proofs.YtecjamgajlpfdaaW.PrintWords Go.Proofs.YtecjamgajlpfdaaW.PrintLast Go.Proofs.YtecjamgajlpfdaaW.PrintMore Go.Proofs.Ytecjamgajlpfdaa.MWords
attribute [local go_sem] max2_int min2_int max_two min_two max_three min_three max_four min_four   -- for this text's walks alone
set_option linter.unusedVariables false
set_option linter.unusedSimpArgs false

/-! ### impl_TablePairs: function 19 -/
mutual
def impl_TablePairs.l0 : Nat → List Int → Bool → List (S87) → List (S84) → Int → Int → Option ((List (S87)) × Bool)
 | 0, _, _, _, _, _, _ => none
 | k + 1, x0, x6, x7, x19, x20, x21 => if x21 < x20 then (if 0 ≤ x21 then (if x21 < (x19.length : Int) then ((impl_pairsAt.f k x0 ((rd_T84 x19 x21).f1)).bind fun bt587 => (if x6 = true then (if bt587.2 = true then (impl_TablePairs.j1 k x0 x6 x7 bt587.1 x19 x20 x21 (decide ((x7.length : Int) > 200))) else (impl_TablePairs.j1 k x0 x6 x7 bt587.1 x19 x20 x21 true)) else (impl_TablePairs.j1 k x0 x6 x7 bt587.1 x19 x20 x21 true))) else (none)) else (none)) else ((impl_PutTable.f k x7).bind fun t594 => (if x6 = true then (if (t594.length : Int) = 0 then (impl_TablePairs.j2 k x7 true) else (impl_TablePairs.j2 k x7 ((strOfNums t594).toList != (strOfNums x0).toList))) else (impl_TablePairs.j2 k x7 true)))
def impl_TablePairs.j1 : Nat → List Int → Bool → List (S87) → List (S87) → List (S84) → Int → Int → Bool → Option ((List (S87)) × Bool)
 | 0, _, _, _, _, _, _, _, _ => none
 | k + 1, x0, x6, x7, x10, x19, x20, x21, x42 => if x42 = true then (some (([] : List (S87)), false)) else (if x7.length + x10.length < 3518437208883 then (impl_TablePairs.l0 k x0 x6 (x7 ++ x10) x19 x20 (wrap64 (x21 + 1))) else (none))
def impl_TablePairs.j2 : Nat → List (S87) → Bool → Option ((List (S87)) × Bool)
 | 0, _, _ => none
 | k + 1, x7, x62 => if x62 = true then (some (([] : List (S87)), false)) else (some (x7, true))
end
def impl_TablePairs.f (k : Nat) (l0 : List Int) : Option ((List (S87)) × Bool) := (impl_indexOf.f k l0).bind fun bt578 => (impl_TablePairs.l0 k l0 bt578.2.2 ([] : List (S87)) bt578.1 (bt578.1.length : Int) 0)
theorem impl_TablePairs.mono_l : ∀ k, (∀ y0 y1 y2 y3 y4 y5, LeO (impl_TablePairs.l0 k y0 y1 y2 y3 y4 y5) (impl_TablePairs.l0 (k + 1) y0 y1 y2 y3 y4 y5)) ∧ (∀ y0 y1 y2 y3 y4 y5 y6 y7, LeO (impl_TablePairs.j1 k y0 y1 y2 y3 y4 y5 y6 y7) (impl_TablePairs.j1 (k + 1) y0 y1 y2 y3 y4 y5 y6 y7)) ∧ (∀ y0 y1, LeO (impl_TablePairs.j2 k y0 y1) (impl_TablePairs.j2 (k + 1) y0 y1))
 | 0 => ⟨fun _ _ _ _ _ _ r h => by simp [impl_TablePairs.l0] at h, fun _ _ _ _ _ _ _ _ r h => by simp [impl_TablePairs.j1] at h, fun _ _ r h => by simp [impl_TablePairs.j2] at h⟩
 | k + 1 => by
  obtain ⟨ih0, ih1, ih2⟩ := impl_TablePairs.mono_l k
  refine ⟨?_, ?_, ?_⟩
  ·intro y0 y1 y2 y3 y4 y5
   unfold impl_TablePairs.l0
   repeat' first
   | (with_reducible exact ih0 _ _ _ _ _ _)
   | (with_reducible exact ih1 _ _ _ _ _ _ _ _)
   | (with_reducible exact ih2 _ _)
   | (with_reducible exact impl_PutTable.mono _ _)
   | (with_reducible exact impl_indexOf.mono _ _)
   | (with_reducible exact impl_pairsAt.mono _ _ _)
   | (with_reducible exact LeO.refl _)
   | (with_reducible exact LeO.none _)
   | (with_reducible refine LeO.ite ?_ ?_)
   | (with_reducible refine LeO.bind ?_ (fun _ => ?_))
   | exact ih0 _ _ _ _ _ _
   | exact ih1 _ _ _ _ _ _ _ _
   | exact ih2 _ _
   | exact impl_PutTable.mono _ _
   | exact impl_indexOf.mono _ _
   | exact impl_pairsAt.mono _ _ _
   | exact LeO.none _
   | refine LeO.ite ?_ ?_
   | refine LeO.bind ?_ (fun _ => ?_)
  ·intro y0 y1 y2 y3 y4 y5 y6 y7
   unfold impl_TablePairs.j1
   repeat' first
   | (with_reducible exact ih0 _ _ _ _ _ _)
   | (with_reducible exact ih1 _ _ _ _ _ _ _ _)
   | (with_reducible exact ih2 _ _)
   | (with_reducible exact impl_PutTable.mono _ _)
   | (with_reducible exact impl_indexOf.mono _ _)
   | (with_reducible exact impl_pairsAt.mono _ _ _)
   | (with_reducible exact LeO.refl _)
   | (with_reducible exact LeO.none _)
   | (with_reducible refine LeO.ite ?_ ?_)
   | (with_reducible refine LeO.bind ?_ (fun _ => ?_))
   | exact ih0 _ _ _ _ _ _
   | exact ih1 _ _ _ _ _ _ _ _
   | exact ih2 _ _
   | exact impl_PutTable.mono _ _
   | exact impl_indexOf.mono _ _
   | exact impl_pairsAt.mono _ _ _
   | exact LeO.none _
   | refine LeO.ite ?_ ?_
   | refine LeO.bind ?_ (fun _ => ?_)
  ·intro y0 y1
   unfold impl_TablePairs.j2
   repeat' first
   | (with_reducible exact ih0 _ _ _ _ _ _)
   | (with_reducible exact ih1 _ _ _ _ _ _ _ _)
   | (with_reducible exact ih2 _ _)
   | (with_reducible exact impl_PutTable.mono _ _)
   | (with_reducible exact impl_indexOf.mono _ _)
   | (with_reducible exact impl_pairsAt.mono _ _ _)
   | (with_reducible exact LeO.refl _)
   | (with_reducible exact LeO.none _)
   | (with_reducible refine LeO.ite ?_ ?_)
   | (with_reducible refine LeO.bind ?_ (fun _ => ?_))
   | exact ih0 _ _ _ _ _ _
   | exact ih1 _ _ _ _ _ _ _ _
   | exact ih2 _ _
   | exact impl_PutTable.mono _ _
   | exact impl_indexOf.mono _ _
   | exact impl_pairsAt.mono _ _ _
   | exact LeO.none _
   | refine LeO.ite ?_ ?_
   | refine LeO.bind ?_ (fun _ => ?_)
theorem impl_TablePairs.mono : ∀ a0 k, LeO (impl_TablePairs.f k a0) (impl_TablePairs.f (k + 1) a0) := by
 intro a0 k
 obtain ⟨ih0, ih1, ih2⟩ := impl_TablePairs.mono_l k
 unfold impl_TablePairs.f
 repeat' first
   | (with_reducible exact ih0 _ _ _ _ _ _)
   | (with_reducible exact ih1 _ _ _ _ _ _ _ _)
   | (with_reducible exact ih2 _ _)
   | (with_reducible exact impl_PutTable.mono _ _)
   | (with_reducible exact impl_indexOf.mono _ _)
   | (with_reducible exact impl_pairsAt.mono _ _ _)
   | (with_reducible exact LeO.refl _)
   | (with_reducible exact LeO.none _)
   | (with_reducible refine LeO.ite ?_ ?_)
   | (with_reducible refine LeO.bind ?_ (fun _ => ?_))
   | exact ih0 _ _ _ _ _ _
   | exact ih1 _ _ _ _ _ _ _ _
   | exact ih2 _ _
   | exact impl_PutTable.mono _ _
   | exact impl_indexOf.mono _ _
   | exact impl_pairsAt.mono _ _ _
   | exact LeO.none _
   | refine LeO.ite ?_ ?_
   | refine LeO.bind ?_ (fun _ => ?_)
set_option maxHeartbeats 8000000 in
set_option maxRecDepth 100000 in
theorem impl_TablePairs.calls (k : Nat) (A0 : Option Addr) (c0 : Nat) (l0 : List Int) (r1 : List (S87)) (r2 : Bool) (w : World) (hr0 : Kd.C (Kd.int .u8) w A0 l0.length l0) (hc0 : l0.length ≤ c0) (h : impl_TablePairs.f k l0 = some (r1, r2)) :
  Calls Try.prog 19 #[.slice A0 l0.length c0] w fun e w' => ∃ v0_ : Value, e = .returned (.tuple #[v0_, .bool r2]) ∧ Kd.R k87 87 w' w.heap.size (fun _ => True) v0_ r1 ∧ Below w.heap.size w w' := by
 have hu84 := Try.underlying84
 have HR0 := mS hr0
 have HC0 := mS hc0
 clear hr0 hc0
 have HB := mS (Below.refl w.heap.size w)
 have H : ((impl_indexOf.f k l0).bind fun bt578 => (impl_TablePairs.l0 k l0 bt578.2.2 ([] : List (S87)) bt578.1 (bt578.1.length : Int) 0)) = some (r1, r2) := h
 clear h
 replace H := Option.bind_eq_some_iff.mp H
 obtain ⟨⟨t578, t581, t584⟩, A20, H⟩ := H
 replace H : (impl_TablePairs.l0 k l0 t584 ([] : List (S87)) t578 (t578.length : Int) 0) = some (r1, r2) := H
 have A2 := mS A20
 clear A20
 have H' := mS H
 clear H
 go_enter Try.func19, Try.ntmps19
 go_wp2_with (first | ((with_reducible refine gate_callee (f := 45) rfl ?_); refine mGo 15 Try.func45 #[.slice A0 l0.length c0] ?_; (with_reducible refine (impl_indexOf.calls k _ _ l0 t578 t581 t584 _ ?side1 ?side2 A2.out).mono ?_); (case side1 => exact mC HR0.out); (case side2 => exact HC0.out); rintro e w3 ⟨v579, v582, rfl, ho0, ho1, hb⟩; refine ⟨_, rfl, ?_⟩; have HO580 := mS (Kd.R_lower (Kd.R_mono (ok' := fun k_ => True) ho0 (fun _ hk_ => trivial)) (below_size (mH HB.out))); have HO583 := mS (Kd.V_lower (Kd.V_mono (ok' := fun k_ => some k_ ≠ (v579 : Value).ownBlock) ho1 (fun k_ hk_ => hk_.2)) (below_size (mH HB.out))); replace HB := mS (below_step (mH HB.out) hb); (try clear hb); (try clear ho0); (try clear ho1); obtain ⟨Ao4, co4, eo4⟩ := Kd.R_slice HO580.out; subst eo4))
 go_loopg [7, 21] k (fun kq v7 v21 w' => ∃ (x7_1 : List (S87)) (x21_1 : Int), v21 = .int .i64 x21_1 ∧ Aside0 (impl_TablePairs.l0 kq l0 t584 x7_1 t578 (t578.length : Int) x21_1 = some (r1, r2)) ∧ Aside0 (kq ≤ k) ∧ Aside0 (Kd.R k87 87 w' w.heap.size (fun _ => True) v7 x7_1) ∧ Aside0 (Kd.R k84 84 w' w.heap.size (fun _ => True) (.slice Ao4 t578.length co4) t578) ∧ Aside0 (Below w.heap.size w w'))
 case atStart => exact ⟨(([] : List (S87))), (0), mE, H', ⟨Nat.le_refl _⟩, ⟨by first | exact Kd.R_nil _ _ _ _ _ | exact Kd.N_nil _ _ _ _ _ | exact Kd.V_nil _ _ _ _ _ | exact Kd.Q_nil _ _ _ _ _ | exact Kd.S_nil _ _ _ _ _⟩, ⟨mR HO580.out⟩, ⟨(mH HB.out)⟩⟩
 case round =>
  clear H'
  try clear c1
  try clear p2
  try clear c4
  obtain ⟨x7_1, x21_1, rfl, HA, HK1, HO_7, HO_19, HB⟩ := hrel
  cases gk with
  | zero => exact absurd HA.out (by simp [impl_TablePairs.l0])
  | succ k1 =>
   have H := HA.out
   clear HA
   simp only [impl_TablePairs.l0] at H
   by_cases c5 : x21_1 < (t578.length : Int)
   ·rw [if_pos c5] at H
    have c5b0 := decide_eq_true c5
    clear c5
    by_cases c6 : 0 ≤ x21_1
    ·rw [if_pos c6] at H
     have c6b0 := decide_eq_true c6
     clear c6
     by_cases c7 : x21_1 < (t578.length : Int)
     ·rw [if_pos c7] at H
      have c7b0 := decide_eq_true c7
      clear c7
      replace H := Option.bind_eq_some_iff.mp H
      obtain ⟨⟨t587, t588⟩, A80, H⟩ := H
      replace H : (if t584 = true then (if t588 = true then (impl_TablePairs.j1 k1 l0 t584 x7_1 t587 t578 (t578.length : Int) x21_1 (decide ((x7_1.length : Int) > 200))) else (impl_TablePairs.j1 k1 l0 t584 x7_1 t587 t578 (t578.length : Int) x21_1 true)) else (impl_TablePairs.j1 k1 l0 t584 x7_1 t587 t578 (t578.length : Int) x21_1 true)) = some (r1, r2) := H
      have A8 := mS A80
      clear A80
      have HC9 := mS H
      clear H
      have p585 : 0 ≤ (x21_1 : Int) := mD
      have q585 : x21_1 < (t578.length : Int) := mD
      obtain ⟨ad585, e585, hx585_0, hx585_1⟩ := at_T84 (Kd.R_reads' HO_19.out).2.2 x21_1 p585 q585
      cases e585
      replace p585 := eq_true p585
      replace q585 := eq_true q585
      go_upto_region 7 with (first | ((with_reducible refine gate_dst (N := 9) rfl ?_); (try (refine gate_guard (by rfl) ?_; dsimp only)); refine mBx 9 #[.string (⟨#[]⟩ : ByteArray), .int .i64 0] 84 ?_; intro gb586 hg w10 hbox hb; replace HO_7 := mS (Kd.R_below (mR HO_7.out) hb); replace HO_19 := mS (Kd.R_below (Kd.R_elderB (mR HO_19.out) gb586 (Nat.le_of_eq hg.symm)) hb); have BK586 := mS (hbox); have GW586 := mG hg (mH HB.out); have GE586 := mG hg (mH HB.out); replace HB := mS (below_step (mH HB.out) hb); clear hb hbox hg; obtain ⟨hcz11_0, hcz11_1, hfz11_0, hfz11_1⟩ := mZ2 BK586.out) | ((with_reducible refine gate_callee (f := 46) rfl ?_); refine mGo 29 Try.func46 #[.slice A0 l0.length c0, .int .i64 ((rd_T84 t578 x21_1).f1)] ?_; (with_reducible refine (impl_pairsAt.calls k1 _ _ l0 ((rd_T84 t578 x21_1).f1) t587 t588 _ ?side1 ?side2 A8.out).mono ?_); (case side1 => exact Kd.C_below HR0.out (mH1 HB.out GE586.out)); (case side2 => exact HC0.out); rintro e w12 ⟨v589, rfl, ho0, hb⟩; refine ⟨_, rfl, ?_⟩; replace HO_19 := mS (Kd.R_below (by refine mR ?_; exact (Kd.R_mono (mRf2 (Kd.R_mono HO_19.out (fun k_ hk => (⟨hk, hk.2⟩ : _ ∧ k_ ≠ gb586)))) (fun _ h_ => h_.1))) hb); have HO590 := mS (Kd.R_lower (Kd.R_new' ho0 (Kd.R_lt (by refine mR ?_; exact (Kd.R_mono (mRf2 (Kd.R_types HO_7.out BK586.out (by decide))) (fun _ h_ => h_.1))))) (below_size (mH1 HB.out GE586.out))); replace HO_7 := mS (Kd.R_elder' (by refine mR ?_; exact (Kd.R_mono (mRf2 (Kd.R_types HO_7.out BK586.out (by decide))) (fun _ h_ => h_.1))) (Kd.R_base ho0) hb); replace BK586 := mS (blk_below (g := gb586) (o := .cells #[.string ((rd_T84 t578 x21_1).f0), .int .i64 ((rd_T84 t578 x21_1).f1)] 84 (0, 0)) (by refine mK ?_; refine blk_put (cs := #[.string ((rd_T84 t578 x21_1).f0), .int .i64 0]) ?_ 1 _ rfl; refine mK ?_; refine blk_put (cs := #[.string (⟨#[]⟩ : ByteArray), .int .i64 0]) ?_ 0 _ rfl; refine mK ?_; exact BK586.out) hb); replace HB := mS (below_step (mH1 HB.out GE586.out) hb); (try clear hb); (try clear ho0)))
      (try simp only [Act.put, zA, zB, zC])
      go_cut [42] (fun v42 wc => ∃ (kq : Nat) (x42_8 : Bool), v42 = .bool x42_8 ∧ Aside0 (impl_TablePairs.j1 kq l0 t584 x7_1 t587 t578 (t578.length : Int) x21_1 x42_8 = some (r1, r2)) ∧ Aside0 (kq ≤ k1) ∧ Aside0 (Kd.R k87 87 wc w.heap.size (fun k_ => some k_ ≠ (v589 : Value).ownBlock) u7 x7_1) ∧ Aside0 (Kd.R k87 87 wc w.heap.size (fun k_ => some k_ ≠ (u7 : Value).ownBlock) v589 t587) ∧ Aside0 (Kd.R k84 84 wc w.heap.size (fun k_ => k_ ≠ gb586) (.slice (some ad585) t578.length co4) t578) ∧ Aside0 (wc.heap[gb586]? = some (.cells #[.string ((rd_T84 t578 x21_1).f0), .int .i64 ((rd_T84 t578 x21_1).f1)] 84 (0, 0))) ∧ Aside0 (Below w.heap.size w wc))
      case first =>
       have H := HC9.out
       clear HC9
       by_cases c13 : t584 = true
       ·subst c13
        have H1 := H
        rw [if_pos rfl] at H1
        clear H
        have H := H1
        clear H1
        by_cases c14 : t588 = true
        ·subst c14
         have H1 := H
         rw [if_pos rfl] at H1
         clear H
         have H := H1
         clear H1
         have H' := mS H
         clear H
         obtain ⟨Ao15, co15, eo15⟩ := Kd.R_slice HO_7.out
         subst eo15
         go_wp2
         go_meet
         case rel => exact ⟨_, (decide ((x7_1.length : Int) > 200)), mE, H', ⟨by have := HK1.out; first | omega | exact Nat.le_refl _⟩, ⟨by refine mR ?_; exact Kd.R_mono HO_7.out (fun _ hk => hk.2)⟩, ⟨by refine mR ?_; exact Kd.R_mono HO590.out (fun _ hk => hk.2)⟩, ⟨by refine mR ?_; exact Kd.R_mono HO_19.out (fun _ hk => hk.2)⟩, ⟨mK BK586.out⟩, ⟨(mH1 HB.out GE586.out)⟩⟩
        ·replace c14 := Bool.eq_false_iff.mpr c14
         subst c14
         have H1 := H
         rw [if_neg (show ¬ (false = true) by decide)] at H1
         clear H
         have H := H1
         clear H1
         have H' := mS H
         clear H
         go_wp2
         go_meet
         case rel => exact ⟨_, (true), mE, H', ⟨by have := HK1.out; first | omega | exact Nat.le_refl _⟩, ⟨by refine mR ?_; exact Kd.R_mono HO_7.out (fun _ hk => hk.2)⟩, ⟨by refine mR ?_; exact Kd.R_mono HO590.out (fun _ hk => hk.2)⟩, ⟨by refine mR ?_; exact Kd.R_mono HO_19.out (fun _ hk => hk.2)⟩, ⟨mK BK586.out⟩, ⟨(mH1 HB.out GE586.out)⟩⟩
       ·replace c13 := Bool.eq_false_iff.mpr c13
        subst c13
        have H1 := H
        rw [if_neg (show ¬ (false = true) by decide)] at H1
        clear H
        have H := H1
        clear H1
        have H' := mS H
        clear H
        go_wp2
        go_meet
        case rel => exact ⟨_, (true), mE, H', ⟨by have := HK1.out; first | omega | exact Nat.le_refl _⟩, ⟨by refine mR ?_; exact Kd.R_mono HO_7.out (fun _ hk => hk.2)⟩, ⟨by refine mR ?_; exact Kd.R_mono HO590.out (fun _ hk => hk.2)⟩, ⟨by refine mR ?_; exact Kd.R_mono HO_19.out (fun _ hk => hk.2)⟩, ⟨mK BK586.out⟩, ⟨(mH1 HB.out GE586.out)⟩⟩
      case rest =>
       clear HC9
       try clear c1
       try clear p2
       try clear c4
       try clear c5
       try clear c5b0
       try clear p5
       try clear q5
       try clear hx5
       try clear c6
       try clear c6b0
       try clear c7
       try clear c7b0
       try clear c13
       try clear c14
       try clear hcz11_0
       try clear hcz11_1
       try clear hfz11_0
       try clear hfz11_1
       try clear hx585_0
       try clear hx585_1
       try clear p2
       try clear p585
       try clear q585
       obtain ⟨kq, x42_8, rfl, HA, HJ8, HO_7, HO_10, HO_19, BK586, HB⟩ := hcut
       cases kq with
       | zero => exact absurd HA.out (by simp [impl_TablePairs.j1])
       | succ kj8 =>
        have H := HA.out
        clear HA
        simp only [impl_TablePairs.j1] at H
        by_cases c16 : x42_8 = true
        ·subst c16
         have H1 := H
         rw [if_pos rfl] at H1
         clear H
         have H := H1
         clear H1
         simp only [Option.some.injEq, Prod.mk.injEq] at H
         obtain ⟨rfl, rfl⟩ := H
         go_wp2
         go_ret2
         exact ⟨_, mEw, by first | exact Kd.R_nil _ _ _ _ _ | exact Kd.N_nil _ _ _ _ _ | exact Kd.V_nil _ _ _ _ _ | exact Kd.Q_nil _ _ _ _ _ | exact Kd.S_nil _ _ _ _ _, (mH1 HB.out GE586.out)⟩
        ·replace c16 := Bool.eq_false_iff.mpr c16
         subst c16
         have H1 := H
         rw [if_neg (show ¬ (false = true) by decide)] at H1
         clear H
         have H := H1
         clear H1
         by_cases c17 : x7_1.length + t587.length < 3518437208883
         ·rw [if_pos c17] at H
          have LMc17 := mS c17
          clear c17
          obtain ⟨y591, hy591⟩ : ∃ y_ : List (S87), y_ = (x7_1 ++ t587) := ⟨_, rfl⟩
          replace H : (impl_TablePairs.l0 kj8 l0 t584 y591 t578 (t578.length : Int) (wrap64 (x21_1 + 1))) = some (r1, r2) := by first | (rw [hy591]; with_reducible exact H) | (have H2_ := (Option.bind_some _ _).symm.trans H; rw [hy591]; with_reducible exact H2_) | (have H2_ := (Option.bind_some _ _).symm.trans H; with_reducible exact H2_) | with_reducible exact H | (rw [hy591]; exact H) | exact H
          have Ny591 := mS hy591
          clear hy591
          have H' := mS H
          clear H
          obtain ⟨Ao19, co19, eo19⟩ := Kd.R_slice HO_10.out
          subst eo19
          go_wp2_with (first | ((with_reducible refine gate_builtin (b := .append) (xs := #[.tmp 43, .tmp 44]) rfl ?_); (try (refine gate_guard (by rfl) ?_; dsimp only)); at_builtin; refine Kd.R_append_rows k87 (w0 := w) w.heap.size rfl (.tmp 43) (.tmp 44) 35 87 (.agg #[(.string ⟨#[]⟩), (.string ⟨#[]⟩), (.bool false)]) 40 rfl Try.underlying35 info87 rfl (by decide) (by omega) u7 x7_1 t587 _ _ _ (fun k_ => some k_ ≠ (.slice Ao19 t587.length co19 : Value).ownBlock) (fun _ => False) rfl rfl ?aO ?aR (fun _ _ h => h) (fun _ h => h.elim) ?aF ?aB ?aS ?aL ?_; (case aR => exact mC (Kd.R_reads' HO_10.out).2.2); (case aB => exact (mH1 HB.out GE586.out)); (case aF => exact (fun k_ hk => Kd.fresh' (Kd.R_lt (mR HO_10.out)) k_ hk)); (case aO => exact (mR HO_7.out)); (case aS => exact (below_size (mH1 HB.out GE586.out))); (case aL => have := LMc17.out; omega); intro v592 w18 ho hb hg hat; rw [← Ny591.out] at ho; replace HO_10 := mS (Kd.R_after (ok := (fun _ => True)) (by refine mR ?_; exact Kd.R_mono HO_10.out (fun _ hk => ⟨trivial, hk⟩)) hg hat); replace HO_19 := mS (Kd.R_over' (mR HO_19.out) (Kd.R_typed (mR HO_7.out)) (by decide) hg); replace BK586 := mS (blk_grown (g := gb586) (o := .cells #[.string ((rd_T84 t578 x21_1).f0), .int .i64 ((rd_T84 t578 x21_1).f1)] 84 (0, 0)) (mK BK586.out) hg (Kd.R_ne HO_7.out BK586.out (by decide))); replace HB := mS (hb); have HO593 := mS (ho); clear HO_7; clear ho hb hg hat))
          go_roundg kj8
          case measure => have := HK1.out; have := HJ8.out; omega
          case rel => exact ⟨(y591), (wrap64 (x21_1 + 1)), mE, H', ⟨by have := HK1.out; have := HJ8.out; omega⟩, ⟨by refine mR ?_; exact Kd.R_mono HO593.out (fun _ hk => trivial)⟩, ⟨by refine mR ?_; exact Kd.R_mono HO_19.out (fun _ hk => trivial)⟩, ⟨(mH1 HB.out GE586.out)⟩⟩
         ·rw [if_neg c17] at H
          exact absurd H (by simp)
     ·rw [if_neg c7] at H
      exact absurd H (by simp)
    ·rw [if_neg c6] at H
     exact absurd H (by simp)
   ·rw [if_neg c5] at H
    have c5b0 := decide_eq_false c5
    clear c5
    replace H := Option.bind_eq_some_iff.mp H
    obtain ⟨t594, A200, H⟩ := H
    replace H : (if t584 = true then (if (t594.length : Int) = 0 then (impl_TablePairs.j2 k1 x7_1 true) else (impl_TablePairs.j2 k1 x7_1 ((strOfNums t594).toList != (strOfNums l0).toList))) else (impl_TablePairs.j2 k1 x7_1 true)) = some (r1, r2) := H
    have A20 := mS A200
    clear A200
    have HC21 := mS H
    clear H
    obtain ⟨Ao22, co22, eo22⟩ := Kd.R_slice HO_7.out
    subst eo22
    go_upto_region 12 with (first | ((with_reducible refine gate_callee (f := 47) rfl ?_); refine mGo 48 Try.func47 #[.slice Ao22 x7_1.length co22] ?_; (with_reducible refine (impl_PutTable.calls k1 _ _ x7_1 t594 _ ?side1 ?side2 A20.out).mono ?_); (case side1 => exact mC (Kd.R_reads' HO_7.out).2.2); (case side2 => exact (Kd.R_reads' HO_7.out).2.1); rintro e w23 ⟨v595, rfl, ho0, hb⟩; refine ⟨_, rfl, ?_⟩; replace HO_7 := mS (Kd.R_below (mR HO_7.out) hb); replace HO_19 := mS (Kd.R_below (mR HO_19.out) hb); have HO596 := mS (Kd.R_lower ho0 (below_size (mH HB.out))); replace HB := mS (below_step (mH HB.out) hb); (try clear hb); (try clear ho0)))
    (try simp only [Act.put, zA, zB, zC])
    go_cut [62] (fun v62 wc => ∃ (kq : Nat) (x62_20 : Bool), v62 = .bool x62_20 ∧ Aside0 (impl_TablePairs.j2 kq x7_1 x62_20 = some (r1, r2)) ∧ Aside0 (kq ≤ k1) ∧ Aside0 (Kd.R k87 87 wc w.heap.size (fun _ => True) (.slice Ao22 x7_1.length co22) x7_1) ∧ Aside0 (Below w.heap.size w wc))
    case first =>
     have H := HC21.out
     clear HC21
     by_cases c24 : t584 = true
     ·subst c24
      have H1 := H
      rw [if_pos rfl] at H1
      clear H
      have H := H1
      clear H1
      by_cases c25 : (t594.length : Int) = 0
      ·rw [if_pos c25] at H
       have c25b0 : ((t594.length : Int) == 0) = true := beq_iff_eq.mpr c25
       have c25b1 : ((t594.length : Int) != 0) = false := bne_eq_false_iff_eq.mpr c25
       clear c25
       (first | rw [c25b0] | (simp only [i64_w, i32_w]; rw [c25b0]) | skip)
       have H' := mS H
       clear H
       obtain ⟨Ao26, co26, eo26⟩ := Kd.R_slice HO596.out
       subst eo26
       go_wp2
       go_meet
       case rel => exact ⟨_, (true), mE, H', ⟨by have := HK1.out; first | omega | exact Nat.le_refl _⟩, ⟨mR HO_7.out⟩, ⟨(mH HB.out)⟩⟩
      ·rw [if_neg c25] at H
       have c25b0 : ((t594.length : Int) == 0) = false := beq_eq_false_iff_ne.mpr c25
       have c25b1 : ((t594.length : Int) != 0) = true := bne_iff_ne.mpr c25
       have c25b2 : ¬ (t594 = []) := fun h_ => c25 (by rw [h_]; rfl)
       (first | rw [c25b0] | (simp only [i64_w, i32_w]; rw [c25b0]) | skip)
       have H' := mS H
       clear H
       obtain ⟨Ao27, co27, eo27⟩ := Kd.R_slice HO596.out
       subst eo27
       have hcv28 := own_string (P := Try.prog) Try.underlying22 Try.underlying5 Try.underlying9 (Kd.own_of_R HO596.out)
       have hcv29 := Kd.C_string (P := Try.prog) (A := A0) (c := c0) Try.underlying22 Try.underlying5 Try.underlying9 (Kd.C_below HR0.out HB.out)
       go_wp2
       go_meet
       case rel => exact ⟨_, (((strOfNums t594).toList != (strOfNums l0).toList)), mE, H', ⟨by have := HK1.out; first | omega | exact Nat.le_refl _⟩, ⟨mR HO_7.out⟩, ⟨(mH HB.out)⟩⟩
     ·replace c24 := Bool.eq_false_iff.mpr c24
      subst c24
      have H1 := H
      rw [if_neg (show ¬ (false = true) by decide)] at H1
      clear H
      have H := H1
      clear H1
      have H' := mS H
      clear H
      go_wp2
      go_meet
      case rel => exact ⟨_, (true), mE, H', ⟨by have := HK1.out; first | omega | exact Nat.le_refl _⟩, ⟨mR HO_7.out⟩, ⟨(mH HB.out)⟩⟩
    case rest =>
     clear HC21
     try clear c1
     try clear c2
     try clear p2
     try clear hcv2
     try clear c4
     try clear c5
     try clear c5b0
     try clear p5
     try clear q5
     try clear hx5
     try clear c6
     try clear c6b0
     try clear p6
     try clear c7
     try clear c7b0
     try clear c13
     try clear c14
     try clear c16
     try clear c17
     try clear c19
     try clear c24
     try clear c25
     try clear c25b0
     try clear c25b1
     try clear c25b2
     try clear hcv28
     try clear hcv29
     try clear hcz11_0
     try clear hcz11_1
     try clear hfz11_0
     try clear hfz11_1
     try clear hx585_0
     try clear hx585_1
     try clear p2
     try clear p5
     try clear p585
     try clear q5
     try clear q585
     obtain ⟨kq, x62_20, rfl, HA, HJ20, HO_7, HB⟩ := hcut
     cases kq with
     | zero => exact absurd HA.out (by simp [impl_TablePairs.j2])
     | succ kj20 =>
      have H := HA.out
      clear HA
      simp only [impl_TablePairs.j2] at H
      by_cases c30 : x62_20 = true
      ·subst c30
       have H1 := H
       rw [if_pos rfl] at H1
       clear H
       have H := H1
       clear H1
       simp only [Option.some.injEq, Prod.mk.injEq] at H
       obtain ⟨rfl, rfl⟩ := H
       go_wp2
       go_ret2
       exact ⟨_, mEw, by first | exact Kd.R_nil _ _ _ _ _ | exact Kd.N_nil _ _ _ _ _ | exact Kd.V_nil _ _ _ _ _ | exact Kd.Q_nil _ _ _ _ _ | exact Kd.S_nil _ _ _ _ _, (mH HB.out)⟩
      ·replace c30 := Bool.eq_false_iff.mpr c30
       subst c30
       have H1 := H
       rw [if_neg (show ¬ (false = true) by decide)] at H1
       clear H
       have H := H1
       clear H1
       simp only [Option.some.injEq, Prod.mk.injEq] at H
       obtain ⟨rfl, rfl⟩ := H
       go_wp2
       go_ret2
       exact ⟨_, mEw, mR HO_7.out, (mH HB.out)⟩

/-! ### laws_eqPair: function 48 -/
def laws_eqPair.f (a0_0 : ByteArray) (a0_1 : ByteArray) (a0_2 : Bool) (a1_0 : ByteArray) (a1_1 : ByteArray) (a1_2 : Bool) : Option (Bool) := if a0_0.toList = a1_0.toList then (if a0_1.toList = a1_1.toList then (if (a0_2 != a1_2) = true then (some false) else (some true)) else (some false)) else (some false)
set_option maxHeartbeats 8000000 in
set_option maxRecDepth 100000 in
theorem laws_eqPair.calls (a0_0 : ByteArray) (a0_1 : ByteArray) (a0_2 : Bool) (a1_0 : ByteArray) (a1_1 : ByteArray) (a1_2 : Bool) (r : Bool) (w : World) (h : laws_eqPair.f a0_0 a0_1 a0_2 a1_0 a1_1 a1_2 = some r) :
  Calls Try.prog 48 #[.agg #[.string a0_0, .string a0_1, .bool a0_2], .agg #[.string a1_0, .string a1_1, .bool a1_2]] w fun e w' => e = .returned (.bool r) ∧ Below w.heap.size w w' := by
 have hu87 := Try.underlying87
 have HB := mS (Below.refl w.heap.size w)
 have H : (if a0_0.toList = a1_0.toList then (if a0_1.toList = a1_1.toList then (if (a0_2 != a1_2) = true then (some false) else (some true)) else (some false)) else (some false)) = some r := h
 clear h
 by_cases c3 : a0_0.toList = a1_0.toList
 ·rw [if_pos c3] at H
  have c3b0 : (a0_0.toList == a1_0.toList) = true := beq_iff_eq.mpr c3
  have c3b1 : (a0_0.toList != a1_0.toList) = false := bne_eq_false_iff_eq.mpr c3
  clear c3
  by_cases c4 : a0_1.toList = a1_1.toList
  ·rw [if_pos c4] at H
   have c4b0 : (a0_1.toList == a1_1.toList) = true := beq_iff_eq.mpr c4
   have c4b1 : (a0_1.toList != a1_1.toList) = false := bne_eq_false_iff_eq.mpr c4
   clear c4
   by_cases c5 : (a0_2 != a1_2) = true
   ·rw [if_pos c5] at H
    have c5b0 : (a0_2 != a1_2) = true := c5
    (try (have c5b1 : decide (a0_2 = a1_2) = false := by simpa using c5))
    (try (have c5b2 : (a0_2 == a1_2) = false := by simpa using c5))
    (try (have c5b3 : ¬ (a0_2 = a1_2) := by simpa using c5))
    clear c5
    obtain rfl := Option.some.inj H
    go_enter Try.func48, Try.ntmps48
    go_wp2_with (first | ((with_reducible refine gate_dst (N := 2) rfl ?_); refine mBx 2 #[.string a0_0, .string a0_1, .bool a0_2] 87 ?_; intro gb597 hg w6 hbox hb; have BK597 := mS (hbox); have GW597 := mG hg (mH HB.out); have GE597 := mG hg (mH HB.out); replace HB := mS (below_step (mH HB.out) hb); clear hb hbox hg) | ((with_reducible refine gate_dst (N := 3) rfl ?_); refine mBx 3 #[.string a1_0, .string a1_1, .bool a1_2] 87 ?_; intro gb598 hg w7 hbox hb; have BK598 := mS (hbox); have GW598 := mG hg (mH1 HB.out GE597.out); have GE598 := mG hg (mH1 HB.out GE597.out); replace HB := mS (below_step (mH1 HB.out GE597.out) hb); have NB597_598 := mNl hg BK597.out; have NB598_597 := mNg hg BK597.out; replace BK597 := mB BK597 hb; clear hb hbox hg; have hnb8 := NB597_598.out; have hnc8 := NB598_597.out; obtain ⟨hcz9_0, hcz9_1, hcz9_2, hfz9_0, hfz9_1, hfz9_2⟩ := mZ3 BK597.out; obtain ⟨hcz10_0, hcz10_1, hcz10_2, hfz10_0, hfz10_1, hfz10_2⟩ := mZ3 BK598.out))
    go_ret
    exact ⟨mEw, (mH2 HB.out GE597.out GE598.out)⟩
   ·rw [if_neg c5] at H
    have c5b0 : (a0_2 != a1_2) = false := by simpa using c5
    (try (have c5b1 : decide (a0_2 = a1_2) = true := by simpa using c5))
    (try (have c5b2 : (a0_2 == a1_2) = true := by simpa using c5))
    clear c5
    obtain rfl := Option.some.inj H
    go_enter Try.func48, Try.ntmps48
    go_wp2_with (first | ((with_reducible refine gate_dst (N := 2) rfl ?_); refine mBx 2 #[.string a0_0, .string a0_1, .bool a0_2] 87 ?_; intro gb597 hg w11 hbox hb; have BK597 := mS (hbox); have GW597 := mG hg (mH HB.out); have GE597 := mG hg (mH HB.out); replace HB := mS (below_step (mH HB.out) hb); clear hb hbox hg) | ((with_reducible refine gate_dst (N := 3) rfl ?_); refine mBx 3 #[.string a1_0, .string a1_1, .bool a1_2] 87 ?_; intro gb598 hg w12 hbox hb; have BK598 := mS (hbox); have GW598 := mG hg (mH1 HB.out GE597.out); have GE598 := mG hg (mH1 HB.out GE597.out); replace HB := mS (below_step (mH1 HB.out GE597.out) hb); have NB597_598 := mNl hg BK597.out; have NB598_597 := mNg hg BK597.out; replace BK597 := mB BK597 hb; clear hb hbox hg; have hnb13 := NB597_598.out; have hnc13 := NB598_597.out; obtain ⟨hcz14_0, hcz14_1, hcz14_2, hfz14_0, hfz14_1, hfz14_2⟩ := mZ3 BK597.out; obtain ⟨hcz15_0, hcz15_1, hcz15_2, hfz15_0, hfz15_1, hfz15_2⟩ := mZ3 BK598.out))
    go_ret
    exact ⟨mEw, (mH2 HB.out GE597.out GE598.out)⟩
  ·rw [if_neg c4] at H
   have c4b0 : (a0_1.toList == a1_1.toList) = false := beq_eq_false_iff_ne.mpr c4
   have c4b1 : (a0_1.toList != a1_1.toList) = true := bne_iff_ne.mpr c4
   obtain rfl := Option.some.inj H
   go_enter Try.func48, Try.ntmps48
   go_wp2_with (first | ((with_reducible refine gate_dst (N := 2) rfl ?_); refine mBx 2 #[.string a0_0, .string a0_1, .bool a0_2] 87 ?_; intro gb597 hg w16 hbox hb; have BK597 := mS (hbox); have GW597 := mG hg (mH HB.out); have GE597 := mG hg (mH HB.out); replace HB := mS (below_step (mH HB.out) hb); clear hb hbox hg) | ((with_reducible refine gate_dst (N := 3) rfl ?_); refine mBx 3 #[.string a1_0, .string a1_1, .bool a1_2] 87 ?_; intro gb598 hg w17 hbox hb; have BK598 := mS (hbox); have GW598 := mG hg (mH1 HB.out GE597.out); have GE598 := mG hg (mH1 HB.out GE597.out); replace HB := mS (below_step (mH1 HB.out GE597.out) hb); have NB597_598 := mNl hg BK597.out; have NB598_597 := mNg hg BK597.out; replace BK597 := mB BK597 hb; clear hb hbox hg; have hnb18 := NB597_598.out; have hnc18 := NB598_597.out; obtain ⟨hcz19_0, hcz19_1, hcz19_2, hfz19_0, hfz19_1, hfz19_2⟩ := mZ3 BK597.out; obtain ⟨hcz20_0, hcz20_1, hcz20_2, hfz20_0, hfz20_1, hfz20_2⟩ := mZ3 BK598.out))
   go_ret
   exact ⟨mEw, (mH2 HB.out GE597.out GE598.out)⟩
 ·rw [if_neg c3] at H
  have c3b0 : (a0_0.toList == a1_0.toList) = false := beq_eq_false_iff_ne.mpr c3
  have c3b1 : (a0_0.toList != a1_0.toList) = true := bne_iff_ne.mpr c3
  obtain rfl := Option.some.inj H
  go_enter Try.func48, Try.ntmps48
  go_wp2_with (first | ((with_reducible refine gate_dst (N := 2) rfl ?_); refine mBx 2 #[.string a0_0, .string a0_1, .bool a0_2] 87 ?_; intro gb597 hg w21 hbox hb; have BK597 := mS (hbox); have GW597 := mG hg (mH HB.out); have GE597 := mG hg (mH HB.out); replace HB := mS (below_step (mH HB.out) hb); clear hb hbox hg) | ((with_reducible refine gate_dst (N := 3) rfl ?_); refine mBx 3 #[.string a1_0, .string a1_1, .bool a1_2] 87 ?_; intro gb598 hg w22 hbox hb; have BK598 := mS (hbox); have GW598 := mG hg (mH1 HB.out GE597.out); have GE598 := mG hg (mH1 HB.out GE597.out); replace HB := mS (below_step (mH1 HB.out GE597.out) hb); have NB597_598 := mNl hg BK597.out; have NB598_597 := mNg hg BK597.out; replace BK597 := mB BK597 hb; clear hb hbox hg; have hnb23 := NB597_598.out; have hnc23 := NB598_597.out; obtain ⟨hcz24_0, hcz24_1, hcz24_2, hfz24_0, hfz24_1, hfz24_2⟩ := mZ3 BK597.out; obtain ⟨hcz25_0, hcz25_1, hcz25_2, hfz25_0, hfz25_1, hfz25_2⟩ := mZ3 BK598.out))
  go_ret
  exact ⟨mEw, (mH2 HB.out GE597.out GE598.out)⟩

/-! ### laws_eqPairS: function 20 -/
def laws_eqPairS.l0 : Nat → List (S87) → List (S87) → Int → Option (Bool)
 | 0, _, _, _ => none
 | k + 1, x0, x1, x5 => if x5 < (x0.length : Int) then (if 0 ≤ x5 then (if x5 < (x1.length : Int) then ((laws_eqPair.f ((rd_T87 x0 x5).f0) ((rd_T87 x0 x5).f1) ((rd_T87 x0 x5).f2) ((rd_T87 x1 x5).f0) ((rd_T87 x1 x5).f1) ((rd_T87 x1 x5).f2)).bind fun t601 => (if t601 = true then (laws_eqPairS.l0 k x0 x1 (wrap64 (x5 + 1))) else (some false))) else (none)) else (none)) else (some true)
def laws_eqPairS.f (k : Nat) (l0 : List (S87)) (l1 : List (S87)) : Option (Bool) := if (l0.length : Int) = (l1.length : Int) then (laws_eqPairS.l0 k l0 l1 0) else (some false)
theorem laws_eqPairS.mono_l : ∀ k, (∀ y0 y1 y2, LeO (laws_eqPairS.l0 k y0 y1 y2) (laws_eqPairS.l0 (k + 1) y0 y1 y2))
 | 0 => fun _ _ _ r h => by simp [laws_eqPairS.l0] at h
 | k + 1 => by
  have ih0 := laws_eqPairS.mono_l k
  ·intro y0 y1 y2
   unfold laws_eqPairS.l0
   repeat' first
   | (with_reducible exact ih0 _ _ _)
   | (with_reducible exact LeO.refl _)
   | (with_reducible exact LeO.none _)
   | (with_reducible refine LeO.ite ?_ ?_)
   | (with_reducible refine LeO.bind ?_ (fun _ => ?_))
   | exact ih0 _ _ _
   | exact LeO.none _
   | refine LeO.ite ?_ ?_
   | refine LeO.bind ?_ (fun _ => ?_)
theorem laws_eqPairS.mono : ∀ a0 a1 k, LeO (laws_eqPairS.f k a0 a1) (laws_eqPairS.f (k + 1) a0 a1) := by
 intro a0 a1 k
 have ih0 := laws_eqPairS.mono_l k
 unfold laws_eqPairS.f
 repeat' first
   | (with_reducible exact ih0 _ _ _)
   | (with_reducible exact LeO.refl _)
   | (with_reducible exact LeO.none _)
   | (with_reducible refine LeO.ite ?_ ?_)
   | (with_reducible refine LeO.bind ?_ (fun _ => ?_))
   | exact ih0 _ _ _
   | exact LeO.none _
   | refine LeO.ite ?_ ?_
   | refine LeO.bind ?_ (fun _ => ?_)
def laws_eqPairS.T6 : Bool × List (List Nat × List Nat) := (true, [([], []), ([], []), ([0, 1], [0, 1]), ([2], [2]), ([], []), ([], []), ([4, 5], [4, 5]), ([6], [6]), ([3, 7], [3, 7]), ([8], [8])])
def laws_eqPairS.B6 : List Nat := [0, 0, 3, 7, 0, 0, 48, 112, 255, 511]
theorem laws_eqPairS.tab6 : rtab .any (opsOf Try.f20 6) = laws_eqPairS.T6 := by kernel_rfl
theorem laws_eqPairS.bits6 : waitsOk laws_eqPairS.T6.2 laws_eqPairS.B6 = true := by kernel_rfl
set_option maxHeartbeats 8000000 in
set_option maxRecDepth 100000 in
theorem laws_eqPairS.calls (k : Nat) (A0 : Option Addr) (c0 : Nat) (l0 : List (S87)) (A1 : Option Addr) (c1 : Nat) (l1 : List (S87)) (r : Bool) (w : World) (hr0 : Kd.C k87 w A0 l0.length l0) (hc0 : l0.length ≤ c0) (hr1 : Kd.C k87 w A1 l1.length l1) (hc1 : l1.length ≤ c1) (h : laws_eqPairS.f k l0 l1 = some r) :
  Calls Try.prog 20 #[.slice A0 l0.length c0, .slice A1 l1.length c1] w fun e w' => e = .returned (.bool r) ∧ Below w.heap.size w w' := by
 have hu87 := Try.underlying87
 have HR0 := mS hr0
 have HC0 := mS hc0
 clear hr0 hc0
 have HR1 := mS hr1
 have HC1 := mS hc1
 clear hr1 hc1
 have HB := mS (Below.refl w.heap.size w)
 have H : (if (l0.length : Int) = (l1.length : Int) then (laws_eqPairS.l0 k l0 l1 0) else (some false)) = some r := h
 clear h
 by_cases c3 : (l0.length : Int) = (l1.length : Int)
 ·rw [if_pos c3] at H
  have c3b0 : ((l0.length : Int) == (l1.length : Int)) = true := beq_iff_eq.mpr c3
  have c3b1 : ((l0.length : Int) != (l1.length : Int)) = false := bne_eq_false_iff_eq.mpr c3
  have c3b2 : (l0.length == l1.length) = true := by first | simpa using c3 | (simp at c3 ⊢; omega)
  clear c3
  have H' := mS H
  clear H
  go_enter Try.func20, Try.ntmps20
  go_wp2
  go_loopg [5] k (fun kq v5 w' => ∃ (x5_1 : Int), v5 = .int .i64 x5_1 ∧ Aside0 (laws_eqPairS.l0 kq l0 l1 x5_1 = some r) ∧ Aside0 (kq ≤ k) ∧ Aside0 (Below w.heap.size w w'))
  case atStart => exact ⟨(0), mE, H', ⟨Nat.le_refl _⟩, ⟨(mH HB.out)⟩⟩
  case round =>
   clear H'
   try clear c1
   try clear c2
   try clear p2
   try clear c3
   try clear c3b0
   try clear c3b1
   try clear c3b2
   obtain ⟨x5_1, rfl, HA, HK1, HB⟩ := hrel
   cases gk with
   | zero => exact absurd HA.out (by simp [laws_eqPairS.l0])
   | succ k1 =>
    have H := HA.out
    clear HA
    simp only [laws_eqPairS.l0] at H
    by_cases c4 : x5_1 < (l0.length : Int)
    ·rw [if_pos c4] at H
     have c4b0 := decide_eq_true c4
     clear c4
     by_cases c5 : 0 ≤ x5_1
     ·rw [if_pos c5] at H
      have c5b0 := decide_eq_true c5
      clear c5
      by_cases c6 : x5_1 < (l1.length : Int)
      ·rw [if_pos c6] at H
       have c6b0 := decide_eq_true c6
       clear c6
       replace H := Option.bind_eq_some_iff.mp H
       obtain ⟨t601, A70, H⟩ := H
       replace H : (if t601 = true then (laws_eqPairS.l0 k1 l0 l1 (wrap64 (x5_1 + 1))) else (some false)) = some r := H
       have A7 := mS A70
       clear A70
       by_cases c8 : t601 = true
       ·subst c8
        have H1 := H
        rw [if_pos rfl] at H1
        clear H
        have H := H1
        clear H1
        have H' := mS H
        clear H
        try go_wp2
        replace HB := mS (below_drew1 HB.out)
        have p599 : 0 ≤ (x5_1 : Int) := mD
        have q599 : x5_1 < (l0.length : Int) := mD
        obtain ⟨ad599, e599, hx599_0, hx599_1, hx599_2⟩ := at_T87 HR0.out x5_1 p599 q599
        have hw599_2 := hx599_2
        have hw599_1 := hx599_1
        have hw599_0 := hx599_0
        cases e599
        replace hx599_0 := mX HB.out hx599_0
        replace hx599_1 := mX HB.out hx599_1
        replace hx599_2 := mX HB.out hx599_2
        replace p599 := eq_true p599
        replace q599 := eq_true q599
        have p600 : 0 ≤ (x5_1 : Int) := mD
        have q600 : x5_1 < (l1.length : Int) := mD
        obtain ⟨ad600, e600, hx600_0, hx600_1, hx600_2⟩ := at_T87 HR1.out x5_1 p600 q600
        have hw600_2 := hx600_2
        have hw600_1 := hx600_1
        have hw600_0 := hx600_0
        cases e600
        replace hx600_0 := mX HB.out hx600_0
        replace hx600_1 := mX HB.out hx600_1
        replace hx600_2 := mX HB.out hx600_2
        replace p600 := eq_true p600
        replace q600 := eq_true q600
        refine start_ (n := 10) (S := fun w' => w'.cell? (ad599.add ((x5_1).toNat * 3)) = some (.string ((rd_T87 l0 x5_1).f0)) ∧ w'.cell? ⟨(ad599.add ((x5_1).toNat * 3)).block, (ad599.add ((x5_1).toNat * 3)).off + 1, none⟩ = some (.string ((rd_T87 l0 x5_1).f1)) ∧ w'.cell? ⟨(ad599.add ((x5_1).toNat * 3)).block, (ad599.add ((x5_1).toNat * 3)).off + 2, none⟩ = some (.bool ((rd_T87 l0 x5_1).f2)) ∧ w'.cell? (ad600.add ((x5_1).toNat * 3)) = some (.string ((rd_T87 l1 x5_1).f0)) ∧ w'.cell? ⟨(ad600.add ((x5_1).toNat * 3)).block, (ad600.add ((x5_1).toNat * 3)).off + 1, none⟩ = some (.string ((rd_T87 l1 x5_1).f1)) ∧ w'.cell? ⟨(ad600.add ((x5_1).toNat * 3)).block, (ad600.add ((x5_1).toNat * 3)).off + 2, none⟩ = some (.bool ((rd_T87 l1 x5_1).f2))) (ds := []) (mb 0 10) (by kernel_rfl) rfl rfl ⟨(mX HB.out hw599_0 :), (mX HB.out hw599_1 :), (mX HB.out hw599_2 :), (mX HB.out hw600_0 :), (mX HB.out hw600_1 :), (mX HB.out hw600_2 :)⟩ (fun hHeld => ?_); refine with_tabW laws_eqPairS.tab6 laws_eqPairS.bits6 (fun HT_ HW_ => ?_)
        generalize wr.drew = w9 at HB hx599_0 hx599_1 hx599_2 hx600_0 hx600_1 hx600_2 hHeld ⊢
        refine mpu 0 17 HT_.out (mb 1 9) ?_
        refine mpu 1 18 HT_.out (mb 2 8) ?_
        refine mpu 2 19 HT_.out (mb 3 7) ?_
        refine mpu 4 21 HT_.out (mr [3,1,1,5]) ?_
        refine mpu 5 22 HT_.out (mr [3,1,2,4]) ?_
        refine mpu 6 23 HT_.out (mr [3,1,3,3]) ?_
        refine mpt 3 20 HT_.out HW_.out (mb 7 3) hHeld ?_
        refine mpt 7 24 HT_.out HW_.out (mb 8 2) hHeld ?_
        refine mone 8 (some 25) HT_.out (mb 9 1) (fun K hK => ?_)
        refine goes_ Try.func48 (by kernel_rfl) rfl #[.agg #[.string ((rd_T87 l0 x5_1).f0), .string ((rd_T87 l0 x5_1).f1), .bool ((rd_T87 l0 x5_1).f2)], .agg #[.string ((rd_T87 l1 x5_1).f0), .string ((rd_T87 l1 x5_1).f1), .bool ((rd_T87 l1 x5_1).f2)]] (by rfl) rfl rfl mA ?_
        with_reducible refine (laws_eqPair.calls ((rd_T87 l0 x5_1).f0) ((rd_T87 l0 x5_1).f1) ((rd_T87 l0 x5_1).f2) ((rd_T87 l1 x5_1).f0) ((rd_T87 l1 x5_1).f1) ((rd_T87 l1 x5_1).f2) true _ A7.out).mono ?_
        rintro e w10 ⟨rfl, hb⟩
        refine ⟨_, rfl, ?_⟩
        replace HB := mS (below_step (mH HB.out) hb)
        (try clear hb)
        (try clear hb2)
        (try clear hk)
        (try clear hi)
        refine hK.out _ _ ⟨(mX HB.out hw599_0 :), (mX HB.out hw599_1 :), (mX HB.out hw599_2 :), (mX HB.out hw600_0 :), (mX HB.out hw600_1 :), (mX HB.out hw600_2 :)⟩ (fun hHeld => ?_)
        clear hK K
        refine mno 25 ?_
        refine mpu 9 26 HT_.out (mb 10 0) ?_
        refine done_ (done_of HT_.out (by kernel_rfl)) ?_
        try go_wp2
        go_roundg k1
        case measure => have := HK1.out; omega
        case rel => exact ⟨(wrap64 (x5_1 + 1)), mE, H', ⟨by have := HK1.out; omega⟩, ⟨(mH HB.out)⟩⟩
       ·replace c8 := Bool.eq_false_iff.mpr c8
        subst c8
        have H1 := H
        rw [if_neg (show ¬ (false = true) by decide)] at H1
        clear H
        have H := H1
        clear H1
        obtain rfl := Option.some.inj H
        try go_wp2
        replace HB := mS (below_drew1 HB.out)
        have p599 : 0 ≤ (x5_1 : Int) := mD
        have q599 : x5_1 < (l0.length : Int) := mD
        obtain ⟨ad599, e599, hx599_0, hx599_1, hx599_2⟩ := at_T87 HR0.out x5_1 p599 q599
        have hw599_2 := hx599_2
        have hw599_1 := hx599_1
        have hw599_0 := hx599_0
        cases e599
        replace hx599_0 := mX HB.out hx599_0
        replace hx599_1 := mX HB.out hx599_1
        replace hx599_2 := mX HB.out hx599_2
        replace p599 := eq_true p599
        replace q599 := eq_true q599
        have p600 : 0 ≤ (x5_1 : Int) := mD
        have q600 : x5_1 < (l1.length : Int) := mD
        obtain ⟨ad600, e600, hx600_0, hx600_1, hx600_2⟩ := at_T87 HR1.out x5_1 p600 q600
        have hw600_2 := hx600_2
        have hw600_1 := hx600_1
        have hw600_0 := hx600_0
        cases e600
        replace hx600_0 := mX HB.out hx600_0
        replace hx600_1 := mX HB.out hx600_1
        replace hx600_2 := mX HB.out hx600_2
        replace p600 := eq_true p600
        replace q600 := eq_true q600
        refine start_ (n := 10) (S := fun w' => w'.cell? (ad599.add ((x5_1).toNat * 3)) = some (.string ((rd_T87 l0 x5_1).f0)) ∧ w'.cell? ⟨(ad599.add ((x5_1).toNat * 3)).block, (ad599.add ((x5_1).toNat * 3)).off + 1, none⟩ = some (.string ((rd_T87 l0 x5_1).f1)) ∧ w'.cell? ⟨(ad599.add ((x5_1).toNat * 3)).block, (ad599.add ((x5_1).toNat * 3)).off + 2, none⟩ = some (.bool ((rd_T87 l0 x5_1).f2)) ∧ w'.cell? (ad600.add ((x5_1).toNat * 3)) = some (.string ((rd_T87 l1 x5_1).f0)) ∧ w'.cell? ⟨(ad600.add ((x5_1).toNat * 3)).block, (ad600.add ((x5_1).toNat * 3)).off + 1, none⟩ = some (.string ((rd_T87 l1 x5_1).f1)) ∧ w'.cell? ⟨(ad600.add ((x5_1).toNat * 3)).block, (ad600.add ((x5_1).toNat * 3)).off + 2, none⟩ = some (.bool ((rd_T87 l1 x5_1).f2))) (ds := []) (mb 0 10) (by kernel_rfl) rfl rfl ⟨(mX HB.out hw599_0 :), (mX HB.out hw599_1 :), (mX HB.out hw599_2 :), (mX HB.out hw600_0 :), (mX HB.out hw600_1 :), (mX HB.out hw600_2 :)⟩ (fun hHeld => ?_); refine with_tabW laws_eqPairS.tab6 laws_eqPairS.bits6 (fun HT_ HW_ => ?_)
        generalize wr.drew = w11 at HB hx599_0 hx599_1 hx599_2 hx600_0 hx600_1 hx600_2 hHeld ⊢
        refine mpu 0 17 HT_.out (mb 1 9) ?_
        refine mpu 1 18 HT_.out (mb 2 8) ?_
        refine mpu 2 19 HT_.out (mb 3 7) ?_
        refine mpu 4 21 HT_.out (mr [3,1,1,5]) ?_
        refine mpu 5 22 HT_.out (mr [3,1,2,4]) ?_
        refine mpu 6 23 HT_.out (mr [3,1,3,3]) ?_
        refine mpt 3 20 HT_.out HW_.out (mb 7 3) hHeld ?_
        refine mpt 7 24 HT_.out HW_.out (mb 8 2) hHeld ?_
        refine mone 8 (some 25) HT_.out (mb 9 1) (fun K hK => ?_)
        refine goes_ Try.func48 (by kernel_rfl) rfl #[.agg #[.string ((rd_T87 l0 x5_1).f0), .string ((rd_T87 l0 x5_1).f1), .bool ((rd_T87 l0 x5_1).f2)], .agg #[.string ((rd_T87 l1 x5_1).f0), .string ((rd_T87 l1 x5_1).f1), .bool ((rd_T87 l1 x5_1).f2)]] (by rfl) rfl rfl mA ?_
        with_reducible refine (laws_eqPair.calls ((rd_T87 l0 x5_1).f0) ((rd_T87 l0 x5_1).f1) ((rd_T87 l0 x5_1).f2) ((rd_T87 l1 x5_1).f0) ((rd_T87 l1 x5_1).f1) ((rd_T87 l1 x5_1).f2) false _ A7.out).mono ?_
        rintro e w12 ⟨rfl, hb⟩
        refine ⟨_, rfl, ?_⟩
        replace HB := mS (below_step (mH HB.out) hb)
        (try clear hb)
        (try clear hb2)
        (try clear hk)
        (try clear hi)
        refine hK.out _ _ ⟨(mX HB.out hw599_0 :), (mX HB.out hw599_1 :), (mX HB.out hw599_2 :), (mX HB.out hw600_0 :), (mX HB.out hw600_1 :), (mX HB.out hw600_2 :)⟩ (fun hHeld => ?_)
        clear hK K
        refine mno 25 ?_
        refine mpu 9 26 HT_.out (mb 10 0) ?_
        refine done_ (done_of HT_.out (by kernel_rfl)) ?_
        try go_wp2
        go_ret
        exact ⟨mEw, (mH HB.out)⟩
      ·rw [if_neg c6] at H
       exact absurd H (by simp)
     ·rw [if_neg c5] at H
      exact absurd H (by simp)
    ·rw [if_neg c4] at H
     have c4b0 := decide_eq_false c4
     clear c4
     obtain rfl := Option.some.inj H
     go_wp2
     go_ret
     exact ⟨mEw, (mH HB.out)⟩
 ·rw [if_neg c3] at H
  have c3b0 : ((l0.length : Int) == (l1.length : Int)) = false := beq_eq_false_iff_ne.mpr c3
  have c3b1 : ((l0.length : Int) != (l1.length : Int)) = true := bne_iff_ne.mpr c3
  have c3b2 : (l0.length == l1.length) = false := by first | simpa using c3 | (simp at c3 ⊢; omega)
  obtain rfl := Option.some.inj H
  go_enter Try.func20, Try.ntmps20
  go_wp2
  go_ret
  exact ⟨mEw, (mH HB.out)⟩

end Go.Proofs.Ytecjamgajlpfdaa.MFnExactTablePairs
