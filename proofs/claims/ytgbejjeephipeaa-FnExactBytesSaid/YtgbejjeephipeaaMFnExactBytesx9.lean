-- Written by mp.py, this session's own printer (wip/mp.py).
import Derived.Test.YtgbejjeephipeaaVMShort
import Derived.Test.YtgbejjeephipeaaMFnExactBytesx0
import Derived.Test.YtgbejjeephipeaaMFnExactBytesx7
import Derived.Test.YtgbejjeephipeaaMFnExactBytesx8
namespace Go.Proofs.Ytgbejjeephipeaa.MFnExactBytes
open Go.RowKit Go.Proofs.YtgbejjeephipeaaW.PrintWords Go.Proofs.YtgbejjeephipeaaW.PrintLast Go.Proofs.YtgbejjeephipeaaW.PrintMore Go.Proofs.Ytgbejjeephipeaa.MWords
attribute [local go_sem] max2_int min2_int max_two min_two max_three min_three max_four min_four   -- for this text's walks alone
set_option linter.unusedVariables false
set_option linter.unusedSimpArgs false

/-! ### impl_namesOk: function 100 -/
mutual
def impl_namesOk.l0 : Nat → List (S126) → List (S126) → Int → Int → List (S120) → List (S126) → List (S126) → Int → Option (Bool)
 | 0, _, _, _, _, _, _, _, _ => none
 | k + 1, x1, x7, x8, x9, x236000, x236001, x236002, x236003 => if x9 < x8 then (if 0 ≤ x9 then (if x9 < (x7.length : Int) then ((impl_nameOk.f k ((rd_T126 x7 x9).f0)).bind fun t238 => (if t238 = true then ((impl_inodeAt.f k x236000 x236001 x236002 x236003 ((rd_T126 x7 x9).f1)).bind fun t239 => (if t239 < 0 then (impl_namesOk.j1 k x1 x7 x8 x9 true x236000 x236001 x236002 x236003) else (if x9 > 0 then (if 0 ≤ (wrap64 (x9 - 1)) then (if (wrap64 (x9 - 1)) < (x1.length : Int) then (if ((Op.bytesLess (((rd_T126 x1 (wrap64 (x9 - 1))).f0).toList) (((rd_T126 x7 x9).f0).toList)) = true) then (if x9 ≤ (x1.length : Int) then ((impl_hasId.f k (x1.take (x9 : Int).toNat) ((rd_T126 x7 x9).f1)).bind fun t245 => (impl_namesOk.j1 k x1 x7 x8 x9 t245 x236000 x236001 x236002 x236003)) else (none)) else (impl_namesOk.j1 k x1 x7 x8 x9 true x236000 x236001 x236002 x236003)) else (none)) else (none)) else (if x9 ≤ (x1.length : Int) then ((impl_hasId.f k (x1.take (x9 : Int).toNat) ((rd_T126 x7 x9).f1)).bind fun t250 => (impl_namesOk.j1 k x1 x7 x8 x9 t250 x236000 x236001 x236002 x236003)) else (none))))) else (impl_namesOk.j1 k x1 x7 x8 x9 true x236000 x236001 x236002 x236003))) else (none)) else (none)) else (some (decide ((x1.length : Int) ≤ 30)))
def impl_namesOk.j1 : Nat → List (S126) → List (S126) → Int → Int → Bool → List (S120) → List (S126) → List (S126) → Int → Option (Bool)
 | 0, _, _, _, _, _, _, _, _, _ => none
 | k + 1, x1, x7, x8, x9, x47, x236000, x236001, x236002, x236003 => if x47 = true then (some false) else (impl_namesOk.l0 k x1 x7 x8 (wrap64 (x9 + 1)) x236000 x236001 x236002 x236003)
end
def impl_namesOk.f (k : Nat) (l0_0 : List (S120)) (l0_1 : List (S126)) (l0_2 : List (S126)) (a0_3 : Int) (l1 : List (S126)) : Option (Bool) := impl_namesOk.l0 k l1 l1 (l1.length : Int) 0 l0_0 l0_1 l0_2 a0_3
theorem impl_namesOk.mono_l : ∀ k, (∀ y0 y1 y2 y3 y4 y5 y6 y7, LeO (impl_namesOk.l0 k y0 y1 y2 y3 y4 y5 y6 y7) (impl_namesOk.l0 (k + 1) y0 y1 y2 y3 y4 y5 y6 y7)) ∧ (∀ y0 y1 y2 y3 y4 y5 y6 y7 y8, LeO (impl_namesOk.j1 k y0 y1 y2 y3 y4 y5 y6 y7 y8) (impl_namesOk.j1 (k + 1) y0 y1 y2 y3 y4 y5 y6 y7 y8))
 | 0 => ⟨fun _ _ _ _ _ _ _ _ r h => by simp [impl_namesOk.l0] at h, fun _ _ _ _ _ _ _ _ _ r h => by simp [impl_namesOk.j1] at h⟩
 | k + 1 => by
  obtain ⟨ih0, ih1⟩ := impl_namesOk.mono_l k
  refine ⟨?_, ?_⟩
  ·intro y0 y1 y2 y3 y4 y5 y6 y7
   unfold impl_namesOk.l0
   repeat' first
   | (with_reducible exact ih0 _ _ _ _ _ _ _ _)
   | (with_reducible exact ih1 _ _ _ _ _ _ _ _ _)
   | (with_reducible exact impl_hasId.mono _ _ _)
   | (with_reducible exact impl_inodeAt.mono _ _ _ _ _ _)
   | (with_reducible exact impl_nameOk.mono _ _)
   | (with_reducible exact LeO.refl _)
   | (with_reducible exact LeO.none _)
   | (with_reducible refine LeO.ite ?_ ?_)
   | (with_reducible refine LeO.bind ?_ (fun _ => ?_))
   | exact ih0 _ _ _ _ _ _ _ _
   | exact ih1 _ _ _ _ _ _ _ _ _
   | exact impl_hasId.mono _ _ _
   | exact impl_inodeAt.mono _ _ _ _ _ _
   | exact impl_nameOk.mono _ _
   | exact LeO.none _
   | refine LeO.ite ?_ ?_
   | refine LeO.bind ?_ (fun _ => ?_)
  ·intro y0 y1 y2 y3 y4 y5 y6 y7 y8
   unfold impl_namesOk.j1
   repeat' first
   | (with_reducible exact ih0 _ _ _ _ _ _ _ _)
   | (with_reducible exact ih1 _ _ _ _ _ _ _ _ _)
   | (with_reducible exact impl_hasId.mono _ _ _)
   | (with_reducible exact impl_inodeAt.mono _ _ _ _ _ _)
   | (with_reducible exact impl_nameOk.mono _ _)
   | (with_reducible exact LeO.refl _)
   | (with_reducible exact LeO.none _)
   | (with_reducible refine LeO.ite ?_ ?_)
   | (with_reducible refine LeO.bind ?_ (fun _ => ?_))
   | exact ih0 _ _ _ _ _ _ _ _
   | exact ih1 _ _ _ _ _ _ _ _ _
   | exact impl_hasId.mono _ _ _
   | exact impl_inodeAt.mono _ _ _ _ _ _
   | exact impl_nameOk.mono _ _
   | exact LeO.none _
   | refine LeO.ite ?_ ?_
   | refine LeO.bind ?_ (fun _ => ?_)
theorem impl_namesOk.mono : ∀ a0 a1 a2 a3 a4 k, LeO (impl_namesOk.f k a0 a1 a2 a3 a4) (impl_namesOk.f (k + 1) a0 a1 a2 a3 a4) := by
 intro a0 a1 a2 a3 a4 k
 obtain ⟨ih0, ih1⟩ := impl_namesOk.mono_l k
 unfold impl_namesOk.f
 repeat' first
   | (with_reducible exact ih0 _ _ _ _ _ _ _ _)
   | (with_reducible exact ih1 _ _ _ _ _ _ _ _ _)
   | (with_reducible exact impl_hasId.mono _ _ _)
   | (with_reducible exact impl_inodeAt.mono _ _ _ _ _ _)
   | (with_reducible exact impl_nameOk.mono _ _)
   | (with_reducible exact LeO.refl _)
   | (with_reducible exact LeO.none _)
   | (with_reducible refine LeO.ite ?_ ?_)
   | (with_reducible refine LeO.bind ?_ (fun _ => ?_))
   | exact ih0 _ _ _ _ _ _ _ _
   | exact ih1 _ _ _ _ _ _ _ _ _
   | exact impl_hasId.mono _ _ _
   | exact impl_inodeAt.mono _ _ _ _ _ _
   | exact impl_nameOk.mono _ _
   | exact LeO.none _
   | refine LeO.ite ?_ ?_
   | refine LeO.bind ?_ (fun _ => ?_)
def impl_namesOk.T4 : Bool × List (List Nat × List Nat) := (true, [([], []), ([0], [0]), ([1], [1]), ([2], [2]), ([3, 2], [3]), ([4], [4]), ([4], [4]), ([6, 4], [4, 6]), ([5, 7, 4, 4], [4, 5, 7]), ([8, 4], [4, 8]), ([4, 9], [4, 9]), ([10, 8], [10]), ([11], [11]), ([12, 11], [11, 12]), ([13, 11, 11], [11, 13]), ([14], [14]), ([14], [14]), ([16, 14], [14, 16]), ([15, 17, 14], [14, 15, 17]), ([18, 14], [14, 18]), ([19, 14], [14, 19]), ([14], [14]), ([21, 14], [14, 21]), ([20, 22, 14], [14, 20, 22]), ([14, 23, 11], [11, 14, 23]), ([11, 24], [11, 24]), ([25, 14], [25]), ([26], [26]), ([26], [26]), ([27, 28, 26], [26, 27, 28]), ([26], [26]), ([30, 26], [26, 30]), ([29, 31, 26, 26], [26, 29, 31]), ([26, 32], [26, 32])])
def impl_namesOk.B4 : List Nat := [0, 1, 3, 7, 15, 31, 31, 95, 255, 511, 1023, 2047, 4095, 8191, 16383, 32767, 32767, 98303, 262143, 524287, 1048575, 32767, 2129919, 8388607, 16777215, 33554431, 67108863, 134217727, 134217727, 536870911, 134217727, 1207959551, 4294967295, 8589934591]
theorem impl_namesOk.tab4 : rtab .any (opsOf Try.f100 4) = impl_namesOk.T4 := by kernel_rfl
theorem impl_namesOk.bits4 : waitsOk impl_namesOk.T4.2 impl_namesOk.B4 = true := by kernel_rfl
set_option maxHeartbeats 8000000 in
set_option maxRecDepth 100000 in
theorem impl_namesOk.calls (k : Nat) (A0_0 : Option Addr) (c0_0 : Nat) (l0_0 : List (S120)) (A0_1 : Option Addr) (c0_1 : Nat) (l0_1 : List (S126)) (A0_2 : Option Addr) (c0_2 : Nat) (l0_2 : List (S126)) (a0_3 : Int) (A1 : Option Addr) (c1 : Nat) (l1 : List (S126)) (r : Bool) (w : World) (hr0_0 : Kd.C k120 w A0_0 l0_0.length l0_0) (hc0_0 : l0_0.length ≤ c0_0) (hr0_1 : Kd.C k126 w A0_1 l0_1.length l0_1) (hc0_1 : l0_1.length ≤ c0_1) (hr0_2 : Kd.C k126 w A0_2 l0_2.length l0_2) (hc0_2 : l0_2.length ≤ c0_2) (hr1 : Kd.C k126 w A1 l1.length l1) (hc1 : l1.length ≤ c1) (h : impl_namesOk.f k l0_0 l0_1 l0_2 a0_3 l1 = some r) :
  Calls Try.prog 100 #[.agg #[.slice A0_0 l0_0.length c0_0, .slice A0_1 l0_1.length c0_1, .slice A0_2 l0_2.length c0_2, .int .i64 a0_3], .slice A1 l1.length c1] w fun e w' => e = .returned (.bool r) ∧ Below w.heap.size w w' := by
 have hu63 := Try.underlying63
 have hu126 := Try.underlying126
 have HR0_0 := mS hr0_0
 have HC0_0 := mS hc0_0
 clear hr0_0 hc0_0
 have HR0_1 := mS hr0_1
 have HC0_1 := mS hc0_1
 clear hr0_1 hc0_1
 have HR0_2 := mS hr0_2
 have HC0_2 := mS hc0_2
 clear hr0_2 hc0_2
 have HR1 := mS hr1
 have HC1 := mS hc1
 clear hr1 hc1
 have HB := mS (Below.refl w.heap.size w)
 have H : (impl_namesOk.l0 k l1 l1 (l1.length : Int) 0 l0_0 l0_1 l0_2 a0_3) = some r := h
 clear h
 have H' := mS H
 clear H
 go_enter Try.func100, Try.ntmps100
 go_wp2_with (first | ((with_reducible refine gate_dst (N := 2) rfl ?_); refine box_event ?hg (N := 2) ?hd (cs := #[.slice A0_0 l0_0.length c0_0, .slice A0_1 l0_1.length c0_1, .slice A0_2 l0_2.length c0_2, .int .i64 a0_3]) (t := 63) ?hr ?_; (case hd => rfl); (case hg => rfl); (case hr => first | (go_simp; done) | (go_simp; rfl)); intro gb235 hg w3 hbox hb; have BK235 := mS (hbox); have GW235 := mG hg (mH HB.out); have GE235 := mG hg (mH HB.out); replace HB := mS (below_step (mH HB.out) hb); clear hb hbox hg))
 go_loopg [9] k (fun kq v9 w' => ∃ (x9_1 : Int), v9 = .int .i64 x9_1 ∧ Aside0 (impl_namesOk.l0 kq l1 l1 (l1.length : Int) x9_1 l0_0 l0_1 l0_2 a0_3 = some r) ∧ Aside0 (kq ≤ k) ∧ Aside0 (w'.heap[gb235]? = some (.cells #[(.slice A0_0 l0_0.length c0_0), (.slice A0_1 l0_1.length c0_1), (.slice A0_2 l0_2.length c0_2), .int .i64 a0_3] 63 (0, 0))) ∧ Aside0 (Below w.heap.size w w'))
 case atStart => exact ⟨(0), (by first | rfl | (simp; done) | (simp [*]; done)), H', ⟨Nat.le_refl _⟩, ⟨by (with_reducible repeat (first | refine blk_drewN ?_ _ | refine blk_drew ?_ | refine blk_alloc ?_ _)); exact BK235.out⟩, ⟨(mH1 HB.out GE235.out)⟩⟩
 case round =>
  clear H'
  try clear c1
  try clear p2
  obtain ⟨x9_1, rfl, HA, HK1, BK235, HB⟩ := hrel
  cases gk with
  | zero => exact absurd HA.out (by simp [impl_namesOk.l0])
  | succ k1 =>
   have H := HA.out
   clear HA
   simp only [impl_namesOk.l0] at H
   by_cases c4 : x9_1 < (l1.length : Int)
   ·rw [if_pos c4] at H
    have c4b0 : decide (x9_1 < (l1.length : Int)) = true := decide_eq_true c4
    clear c4
    by_cases c5 : 0 ≤ x9_1
    ·rw [if_pos c5] at H
     have c5b0 : decide (0 ≤ x9_1) = true := decide_eq_true c5
     clear c5
     by_cases c6 : x9_1 < (l1.length : Int)
     ·rw [if_pos c6] at H
      have c6b0 : decide (x9_1 < (l1.length : Int)) = true := decide_eq_true c6
      clear c6
      have HC7 := mS H
      clear H
      have p236 : 0 ≤ (x9_1 : Int) := of_decide_eq_true (by first | (with_reducible assumption) | assumption)
      have q236 : x9_1 < (l1.length : Int) := of_decide_eq_true (by first | (with_reducible assumption) | assumption)
      obtain ⟨ad236, e236, hx236_0, hx236_1⟩ := at_T126 HR1.out x9_1 p236 q236
      cases e236
      replace hx236_0 := mX HB.out hx236_0
      replace hx236_1 := mX HB.out hx236_1
      replace p236 := eq_true p236
      replace q236 := eq_true q236
      go_upto_region 4 with (first | ((with_reducible refine gate_dst (N := 6) rfl ?_); refine box_event ?hg (N := 6) ?hd (cs := #[.string (⟨#[]⟩ : ByteArray), .int .i64 0]) (t := 126) ?hr ?_; (case hd => rfl); (case hg => rfl); (case hr => first | (go_simp; done) | (go_simp; rfl)); intro gb237 hg w8 hbox hb; have BK237 := mS (hbox); have GW237 := mG hg (mH1 HB.out GE235.out); have GE237 := mG hg (mH1 HB.out GE235.out); replace HB := mS (below_step (mH1 HB.out GE235.out) hb); have NB235_237 := mNl hg BK235.out; have NB237_235 := mNg hg BK235.out; replace BK235 := mB BK235 hb; clear hb hbox hg; have hnb9 := NB237_235.out; have hnc9 := NB235_237.out; have hcz10_0 := mZ BK237.out 0; have hcz10_1 := mZ BK237.out 1; have hfz10_0 := blk_frozen BK237.out 0; have hfz10_1 := blk_frozen BK237.out 1))
      (try simp only [Act.put, zA, zB, zC])
      go_cut [47] (fun v47 wc => ∃ (kq : Nat) (x47_6 : Bool), v47 = .bool x47_6 ∧ Aside0 (impl_namesOk.j1 kq l1 l1 (l1.length : Int) x9_1 x47_6 l0_0 l0_1 l0_2 a0_3 = some r) ∧ Aside0 (kq ≤ k1) ∧ Aside0 (wc.heap[gb235]? = some (.cells #[(.slice A0_0 l0_0.length c0_0), (.slice A0_1 l0_1.length c0_1), (.slice A0_2 l0_2.length c0_2), .int .i64 a0_3] 63 (0, 0))) ∧ Aside0 (wc.heap[gb237]? = some (.cells #[.string ((rd_T126 l1 x9_1).f0), .int .i64 ((rd_T126 l1 x9_1).f1)] 126 (0, 0))) ∧ Aside0 (Below w.heap.size w wc))
      case first =>
       have H := HC7.out
       clear HC7
       replace H := Option.bind_eq_some_iff.mp H
       obtain ⟨t238, A110, H⟩ := H
       replace H : (if t238 = true then ((impl_inodeAt.f k1 l0_0 l0_1 l0_2 a0_3 ((rd_T126 l1 x9_1).f1)).bind fun t239 => (if t239 < 0 then (impl_namesOk.j1 k1 l1 l1 (l1.length : Int) x9_1 true l0_0 l0_1 l0_2 a0_3) else (if x9_1 > 0 then (if 0 ≤ (wrap64 (x9_1 - 1)) then (if (wrap64 (x9_1 - 1)) < (l1.length : Int) then (if ((Op.bytesLess (((rd_T126 l1 (wrap64 (x9_1 - 1))).f0).toList) (((rd_T126 l1 x9_1).f0).toList)) = true) then (if x9_1 ≤ (l1.length : Int) then ((impl_hasId.f k1 (l1.take (x9_1 : Int).toNat) ((rd_T126 l1 x9_1).f1)).bind fun t245 => (impl_namesOk.j1 k1 l1 l1 (l1.length : Int) x9_1 t245 l0_0 l0_1 l0_2 a0_3)) else (none)) else (impl_namesOk.j1 k1 l1 l1 (l1.length : Int) x9_1 true l0_0 l0_1 l0_2 a0_3)) else (none)) else (none)) else (if x9_1 ≤ (l1.length : Int) then ((impl_hasId.f k1 (l1.take (x9_1 : Int).toNat) ((rd_T126 l1 x9_1).f1)).bind fun t250 => (impl_namesOk.j1 k1 l1 l1 (l1.length : Int) x9_1 t250 l0_0 l0_1 l0_2 a0_3)) else (none))))) else (impl_namesOk.j1 k1 l1 l1 (l1.length : Int) x9_1 true l0_0 l0_1 l0_2 a0_3)) = some r := H
       have A11 := mS A110
       clear A110
       by_cases c12 : t238 = true
       ·subst c12
        have H1 : ((impl_inodeAt.f k1 l0_0 l0_1 l0_2 a0_3 ((rd_T126 l1 x9_1).f1)).bind fun t239 => (if t239 < 0 then (impl_namesOk.j1 k1 l1 l1 (l1.length : Int) x9_1 true l0_0 l0_1 l0_2 a0_3) else (if x9_1 > 0 then (if 0 ≤ (wrap64 (x9_1 - 1)) then (if (wrap64 (x9_1 - 1)) < (l1.length : Int) then (if ((Op.bytesLess (((rd_T126 l1 (wrap64 (x9_1 - 1))).f0).toList) (((rd_T126 l1 x9_1).f0).toList)) = true) then (if x9_1 ≤ (l1.length : Int) then ((impl_hasId.f k1 (l1.take (x9_1 : Int).toNat) ((rd_T126 l1 x9_1).f1)).bind fun t245 => (impl_namesOk.j1 k1 l1 l1 (l1.length : Int) x9_1 t245 l0_0 l0_1 l0_2 a0_3)) else (none)) else (impl_namesOk.j1 k1 l1 l1 (l1.length : Int) x9_1 true l0_0 l0_1 l0_2 a0_3)) else (none)) else (none)) else (if x9_1 ≤ (l1.length : Int) then ((impl_hasId.f k1 (l1.take (x9_1 : Int).toNat) ((rd_T126 l1 x9_1).f1)).bind fun t250 => (impl_namesOk.j1 k1 l1 l1 (l1.length : Int) x9_1 t250 l0_0 l0_1 l0_2 a0_3)) else (none))))) = some r := by rw [if_pos rfl] at H; exact H
        clear H
        have H := H1
        clear H1
        replace H := Option.bind_eq_some_iff.mp H
        obtain ⟨t239, A130, H⟩ := H
        replace H : (if t239 < 0 then (impl_namesOk.j1 k1 l1 l1 (l1.length : Int) x9_1 true l0_0 l0_1 l0_2 a0_3) else (if x9_1 > 0 then (if 0 ≤ (wrap64 (x9_1 - 1)) then (if (wrap64 (x9_1 - 1)) < (l1.length : Int) then (if ((Op.bytesLess (((rd_T126 l1 (wrap64 (x9_1 - 1))).f0).toList) (((rd_T126 l1 x9_1).f0).toList)) = true) then (if x9_1 ≤ (l1.length : Int) then ((impl_hasId.f k1 (l1.take (x9_1 : Int).toNat) ((rd_T126 l1 x9_1).f1)).bind fun t245 => (impl_namesOk.j1 k1 l1 l1 (l1.length : Int) x9_1 t245 l0_0 l0_1 l0_2 a0_3)) else (none)) else (impl_namesOk.j1 k1 l1 l1 (l1.length : Int) x9_1 true l0_0 l0_1 l0_2 a0_3)) else (none)) else (none)) else (if x9_1 ≤ (l1.length : Int) then ((impl_hasId.f k1 (l1.take (x9_1 : Int).toNat) ((rd_T126 l1 x9_1).f1)).bind fun t250 => (impl_namesOk.j1 k1 l1 l1 (l1.length : Int) x9_1 t250 l0_0 l0_1 l0_2 a0_3)) else (none)))) = some r := H
        have A13 := mS A130
        clear A130
        by_cases c14 : t239 < 0
        ·rw [if_pos c14] at H
         have c14b0 : decide (t239 < 0) = true := decide_eq_true c14
         clear c14
         (first | rw [c14b0] | (simp only [i64_w, i32_w]; rw [c14b0]) | skip)
         have H' := mS H
         clear H
         try go_wp2
         have n0_ : Aside0 (((w8.setCell ⟨gb237, 0, none⟩ (.string ((rd_T126 l1 x9_1).f0))).setCell ⟨gb237, 1, none⟩ (.int .i64 ((rd_T126 l1 x9_1).f1))).heap[gb235]? = some (.cells #[.slice A0_0 l0_0.length c0_0, .slice A0_1 l0_1.length c0_1, .slice A0_2 l0_2.length c0_2, .int .i64 a0_3] 63 (0, 0))) := ⟨by (with_reducible repeat (first | refine blk_drewN ?_ _ | refine blk_drew ?_ | refine blk_alloc ?_ _)); refine blk_far ?_ NB235_237.out _; (with_reducible repeat (first | refine blk_drewN ?_ _ | refine blk_drew ?_ | refine blk_alloc ?_ _)); refine blk_far ?_ NB235_237.out _; (with_reducible repeat (first | refine blk_drewN ?_ _ | refine blk_drew ?_ | refine blk_alloc ?_ _)); exact BK235.out⟩
         have n1_ : Aside0 (((w8.setCell ⟨gb237, 0, none⟩ (.string ((rd_T126 l1 x9_1).f0))).setCell ⟨gb237, 1, none⟩ (.int .i64 ((rd_T126 l1 x9_1).f1))).heap[gb237]? = some (.cells #[.string ((rd_T126 l1 x9_1).f0), .int .i64 ((rd_T126 l1 x9_1).f1)] 126 (0, 0))) := ⟨by (with_reducible repeat (first | refine blk_drewN ?_ _ | refine blk_drew ?_ | refine blk_alloc ?_ _)); refine blk_put (cs := #[.string ((rd_T126 l1 x9_1).f0), .int .i64 0]) ?_ 1 _ rfl; (with_reducible repeat (first | refine blk_drewN ?_ _ | refine blk_drew ?_ | refine blk_alloc ?_ _)); refine blk_put (cs := #[.string (⟨#[]⟩ : ByteArray), .int .i64 0]) ?_ 0 _ rfl; (with_reducible repeat (first | refine blk_drewN ?_ _ | refine blk_drew ?_ | refine blk_alloc ?_ _)); exact BK237.out⟩
         have n2_ : Aside0 (Below w.heap.size w ((w8.setCell ⟨gb237, 0, none⟩ (.string ((rd_T126 l1 x9_1).f0))).setCell ⟨gb237, 1, none⟩ (.int .i64 ((rd_T126 l1 x9_1).f1)))) := ⟨(mH2 HB.out GE235.out GE237.out)⟩
         (try clear BK235)
         (try clear BK237)
         (try clear HB)
         generalize ((w8.setCell ⟨gb237, 0, none⟩ (.string ((rd_T126 l1 x9_1).f0))).setCell ⟨gb237, 1, none⟩ (.int .i64 ((rd_T126 l1 x9_1).f1))) = w15 at n0_ n1_ n2_ ⊢
         have BK235 := n0_
         have BK237 := n1_
         have HB := n2_
         clear n0_ n1_ n2_
         have n0_ := mS (blk_drew BK235.out)
         have n1_ := mS (blk_drew BK237.out)
         have n2_ := mS (below_drew1 HB.out)
         clear BK235
         clear BK237
         clear HB
         have BK235 := n0_
         have BK237 := n1_
         have HB := n2_
         clear n0_ n1_ n2_
         refine start_ (n := 34) (S := fun w' => w'.cell? ⟨gb237, 0, none⟩ = some (.string ((rd_T126 l1 x9_1).f0)) ∧ w'.cell? ⟨gb237, 1, none⟩ = some (.int .i64 ((rd_T126 l1 x9_1).f1)) ∧ w'.cell? ⟨gb235, 0, none⟩ = some (.slice A0_0 l0_0.length c0_0) ∧ w'.cell? ⟨gb235, 1, none⟩ = some (.slice A0_1 l0_1.length c0_1) ∧ w'.cell? ⟨gb235, 2, none⟩ = some (.slice A0_2 l0_2.length c0_2) ∧ w'.cell? ⟨gb235, 3, none⟩ = some (.int .i64 a0_3)) (ds := []) (mb 0 34) (by kernel_rfl) rfl rfl ⟨mZ BK237.out 0, mZ BK237.out 1, mZ BK235.out 0, mZ BK235.out 1, mZ BK235.out 2, mZ BK235.out 3⟩ (fun hHeld => ?_); refine with_tabW impl_namesOk.tab4 impl_namesOk.bits4 (fun HT_ HW_ => ?_)
         generalize w15.drew = w16 at BK235 BK237 HB hHeld ⊢
         refine mpu 0 14 HT_.out (mb 1 33) ?_
         refine mpt 1 15 HT_.out HW_.out (mb 2 32) hHeld ?_
         refine one_ (i := 2) (N := some 16) (mb 3 31) rfl rfl (one_of HT_.out (by kernel_rfl)) (by decide) (fun K hK => ?_)
         refine goes_ Try.func124 (by kernel_rfl) rfl #[.string ((rd_T126 l1 x9_1).f0)] (by rfl) rfl rfl mA ?_
         with_reducible refine (impl_nameOk.calls k1 ((rd_T126 l1 x9_1).f0) true _ A11.out).mono ?_
         rintro e w' ⟨rfl, ⟨nd, rfl⟩⟩
         refine ⟨_, rfl, ?_⟩
         refine hK.out _ _ ⟨mZ BK237.out 0, mZ BK237.out 1, mZ BK235.out 0, mZ BK235.out 1, mZ BK235.out 2, mZ BK235.out 3⟩ (fun hHeld => ?_)
         clear hK K
         refine norm_ (a' := ?_) ?_ ?_
         rotate_left
         ·show Act.put _ (some 16) _ = _
          simp only [Act.put, zA, zB, zC, i64_w, i32_w]
          rfl
         refine mpu 3 17 HT_.out (mb 4 30) ?_
         refine mpu 4 18 HT_.out (mb 5 29) ?_
         refine mpu 6 20 HT_.out #[true, true, true, true, true, false, true, false, false, false, false, false, false, false, false, false, false, false, false, false, false, false, false, false, false, false, false, false, false, false, false, false, false, false] ?_
         refine mpt 5 19 HT_.out HW_.out (mb 7 27) hHeld ?_
         refine mpt 7 21 HT_.out HW_.out (mb 8 26) hHeld ?_
         refine one_ (i := 8) (N := some 22) (mb 9 25) rfl rfl (one_of HT_.out (by kernel_rfl)) (by decide) (fun K hK => ?_)
         refine goes_ Try.func105 (by kernel_rfl) rfl #[.agg #[.slice A0_0 l0_0.length c0_0, .slice A0_1 l0_1.length c0_1, .slice A0_2 l0_2.length c0_2, .int .i64 a0_3], .int .i64 ((rd_T126 l1 x9_1).f1)] (by rfl) rfl rfl mA ?_
         with_reducible refine (impl_inodeAt.calls k1 _ _ l0_0 _ _ l0_1 _ _ l0_2 a0_3 ((rd_T126 l1 x9_1).f1) t239 _ ?side1 ?side2 ?side3 ?side4 ?side5 ?side6 A13.out).mono ?_
         (case side1 => repeat (first | exact (Kd.C_below HR0_0.out (mH2 HB.out GE235.out GE237.out)) | (with_reducible refine Kd.C_alloc ?_ _) | (with_reducible refine Kd.C_drewN ?_ _) | (with_reducible refine Kd.C_drew ?_)))
         (case side2 => exact HC0_0.out)
         (case side3 => repeat (first | exact (Kd.C_below HR0_1.out (mH2 HB.out GE235.out GE237.out)) | (with_reducible refine Kd.C_alloc ?_ _) | (with_reducible refine Kd.C_drewN ?_ _) | (with_reducible refine Kd.C_drew ?_)))
         (case side4 => exact HC0_1.out)
         (case side5 => repeat (first | exact (Kd.C_below HR0_2.out (mH2 HB.out GE235.out GE237.out)) | (with_reducible refine Kd.C_alloc ?_ _) | (with_reducible refine Kd.C_drewN ?_ _) | (with_reducible refine Kd.C_drew ?_)))
         (case side6 => exact HC0_2.out)
         rintro e w17 ⟨rfl, hb⟩
         refine ⟨_, rfl, ?_⟩
         have n0_ := mB BK235 hb
         have n1_ := mB BK237 hb
         have n2_ := mS (below_step (mH2 HB.out GE235.out GE237.out) hb)
         clear BK235
         clear BK237
         clear HB
         have BK235 := n0_
         have BK237 := n1_
         have HB := n2_
         clear n0_ n1_ n2_
         (try clear hb)
         (try clear hb2)
         (try clear hk)
         (try clear hi)
         refine hK.out _ _ ⟨mZ BK237.out 0, mZ BK237.out 1, mZ BK235.out 0, mZ BK235.out 1, mZ BK235.out 2, mZ BK235.out 3⟩ (fun hHeld => ?_)
         clear hK K
         refine norm_ (a' := ?_) ?_ ?_
         rotate_left
         ·show Act.put _ (some 22) _ = _
          simp only [Act.put, zA, zB, zC, i64_w, i32_w]
          rfl
         refine mpu 9 23 HT_.out (mb 10 24) ?_
         refine mpu 10 24 HT_.out (mb 11 23) ?_
         refine mpu 11 25 HT_.out (mb 12 22) ?_
         refine mpf 12 26 HT_.out (mb 13 21) ?_
         refine mpf 13 27 HT_.out (mb 14 20) ?_
         refine mpf 14 28 HT_.out (mb 15 19) ?_
         refine mpf 15 29 HT_.out (mb 16 18) ?_
         refine mpf 16 30 HT_.out (mb 17 17) ?_
         refine mpf 17 31 HT_.out (mb 18 16) ?_
         refine mpf 18 32 HT_.out (mb 19 15) ?_
         refine mpf 19 33 HT_.out (mb 20 14) ?_
         refine mpf 20 34 HT_.out (mb 21 13) ?_
         refine mpf 21 35 HT_.out (mb 22 12) ?_
         refine mpf 22 36 HT_.out (mb 23 11) ?_
         refine mpf 23 37 HT_.out (mb 24 10) ?_
         refine mpf 24 38 HT_.out (mb 25 9) ?_
         refine mpu 25 39 HT_.out (mb 26 8) ?_
         refine mpu 26 40 HT_.out (mb 27 7) ?_
         refine mpf 27 41 HT_.out (mb 28 6) ?_
         refine mpf 28 42 HT_.out (mb 29 5) ?_
         refine mpf 29 43 HT_.out (mb 30 4) ?_
         refine mpf 30 44 HT_.out (mb 31 3) ?_
         refine mpf 31 45 HT_.out (mb 32 2) ?_
         refine mpf 32 46 HT_.out (mb 33 1) ?_
         refine mpu 33 47 HT_.out (mb 34 0) ?_
         refine done_ (done_of HT_.out (by kernel_rfl)) ?_
         try go_wp2
         go_meet
         case rel => exact ⟨_, (true), (by first | rfl | (simp; done) | (simp [*]; done)), H', ⟨by have := HK1.out; first | omega | exact Nat.le_refl _⟩, ⟨by (with_reducible repeat (first | refine blk_drewN ?_ _ | refine blk_drew ?_ | refine blk_alloc ?_ _)); exact BK235.out⟩, ⟨by (with_reducible repeat (first | refine blk_drewN ?_ _ | refine blk_drew ?_ | refine blk_alloc ?_ _)); exact BK237.out⟩, ⟨(mH2 HB.out GE235.out GE237.out)⟩⟩
        ·rw [if_neg c14] at H
         have c14b0 : decide (t239 < 0) = false := decide_eq_false c14
         clear c14
         (first | rw [c14b0] | (simp only [i64_w, i32_w]; rw [c14b0]) | skip)
         by_cases c18 : x9_1 > 0
         ·rw [if_pos c18] at H
          have c18b0 : decide (0 < x9_1) = true := decide_eq_true c18
          clear c18
          obtain ⟨ji19, hji19⟩ : ∃ j_ : Int, (wrap64 (x9_1 - 1)) = j_ := ⟨_, rfl⟩
          replace H : (if 0 ≤ (ji19) then (if (ji19) < (l1.length : Int) then (if ((Op.bytesLess (((rd_T126 l1 (ji19)).f0).toList) (((rd_T126 l1 x9_1).f0).toList)) = true) then (if x9_1 ≤ (l1.length : Int) then ((impl_hasId.f k1 (l1.take (x9_1 : Int).toNat) ((rd_T126 l1 x9_1).f1)).bind fun t245 => (impl_namesOk.j1 k1 l1 l1 (l1.length : Int) x9_1 t245 l0_0 l0_1 l0_2 a0_3)) else (none)) else (impl_namesOk.j1 k1 l1 l1 (l1.length : Int) x9_1 true l0_0 l0_1 l0_2 a0_3)) else (none)) else (none)) = some r := by first | (rw [hji19] at H; exact H) | (simp only [hji19] at H ⊢; exact H)
          (try rw [hji19] at A11)
          (try rw [hji19] at A13)
          have hji19w : (IntKind.i64.wrap (x9_1 - 1)) = ji19 := (i64_w _).trans hji19
          by_cases c20 : 0 ≤ (ji19)
          ·rw [if_pos c20] at H
           have c20b0 : decide (0 ≤ (ji19)) = true := decide_eq_true c20
           clear c20
           by_cases c21 : (ji19) < (l1.length : Int)
           ·rw [if_pos c21] at H
            have c21b0 : decide ((ji19) < (l1.length : Int)) = true := decide_eq_true c21
            clear c21
            by_cases c22 : ((Op.bytesLess (((rd_T126 l1 (ji19)).f0).toList) (((rd_T126 l1 x9_1).f0).toList)) = true)
            ·rw [if_pos c22] at H
             have c22b0 : (Op.bytesLess (((rd_T126 l1 (ji19)).f0).toList) (((rd_T126 l1 x9_1).f0).toList)) = true := c22
             clear c22
             have c23b0 := eq_true (of_decide_eq_true (by first | (with_reducible assumption) | assumption) : 0 ≤ x9_1)
             by_cases c24 : x9_1 ≤ (l1.length : Int)
             ·rw [if_pos c24] at H
              have c24b0 := eq_true c24
              have c24b1 : decide (x9_1 ≤ (l1.length : Int)) = true := decide_eq_true c24
              clear c24
              obtain ⟨y241, hy241⟩ : ∃ y_ : List (S126), y_ = (l1.take (x9_1 : Int).toNat) := ⟨_, rfl⟩
              replace H : ((impl_hasId.f k1 y241 ((rd_T126 l1 x9_1).f1)).bind fun t245 => (impl_namesOk.j1 k1 l1 l1 (l1.length : Int) x9_1 t245 l0_0 l0_1 l0_2 a0_3)) = some r := by first | (rw [hy241]; with_reducible exact H) | (have H2_ := (Option.bind_some _ _).symm.trans H; rw [hy241]; with_reducible exact H2_) | (have H2_ := (Option.bind_some _ _).symm.trans H; with_reducible exact H2_) | with_reducible exact H | (rw [hy241]; exact H) | exact H
              have Ny241 := mS hy241
              clear hy241
              replace H := Option.bind_eq_some_iff.mp H
              obtain ⟨t245, A250, H⟩ := H
              replace H : (impl_namesOk.j1 k1 l1 l1 (l1.length : Int) x9_1 t245 l0_0 l0_1 l0_2 a0_3) = some r := H
              have A25 := mS A250
              clear A250
              have H' := mS H
              clear H
              try go_wp2
              have n0_ : Aside0 (((w8.setCell ⟨gb237, 0, none⟩ (.string ((rd_T126 l1 x9_1).f0))).setCell ⟨gb237, 1, none⟩ (.int .i64 ((rd_T126 l1 x9_1).f1))).heap[gb235]? = some (.cells #[.slice A0_0 l0_0.length c0_0, .slice A0_1 l0_1.length c0_1, .slice A0_2 l0_2.length c0_2, .int .i64 a0_3] 63 (0, 0))) := ⟨by (with_reducible repeat (first | refine blk_drewN ?_ _ | refine blk_drew ?_ | refine blk_alloc ?_ _)); refine blk_far ?_ NB235_237.out _; (with_reducible repeat (first | refine blk_drewN ?_ _ | refine blk_drew ?_ | refine blk_alloc ?_ _)); refine blk_far ?_ NB235_237.out _; (with_reducible repeat (first | refine blk_drewN ?_ _ | refine blk_drew ?_ | refine blk_alloc ?_ _)); exact BK235.out⟩
              have n1_ : Aside0 (((w8.setCell ⟨gb237, 0, none⟩ (.string ((rd_T126 l1 x9_1).f0))).setCell ⟨gb237, 1, none⟩ (.int .i64 ((rd_T126 l1 x9_1).f1))).heap[gb237]? = some (.cells #[.string ((rd_T126 l1 x9_1).f0), .int .i64 ((rd_T126 l1 x9_1).f1)] 126 (0, 0))) := ⟨by (with_reducible repeat (first | refine blk_drewN ?_ _ | refine blk_drew ?_ | refine blk_alloc ?_ _)); refine blk_put (cs := #[.string ((rd_T126 l1 x9_1).f0), .int .i64 0]) ?_ 1 _ rfl; (with_reducible repeat (first | refine blk_drewN ?_ _ | refine blk_drew ?_ | refine blk_alloc ?_ _)); refine blk_put (cs := #[.string (⟨#[]⟩ : ByteArray), .int .i64 0]) ?_ 0 _ rfl; (with_reducible repeat (first | refine blk_drewN ?_ _ | refine blk_drew ?_ | refine blk_alloc ?_ _)); exact BK237.out⟩
              have n2_ : Aside0 (Below w.heap.size w ((w8.setCell ⟨gb237, 0, none⟩ (.string ((rd_T126 l1 x9_1).f0))).setCell ⟨gb237, 1, none⟩ (.int .i64 ((rd_T126 l1 x9_1).f1)))) := ⟨(mH2 HB.out GE235.out GE237.out)⟩
              (try clear BK235)
              (try clear BK237)
              (try clear HB)
              generalize ((w8.setCell ⟨gb237, 0, none⟩ (.string ((rd_T126 l1 x9_1).f0))).setCell ⟨gb237, 1, none⟩ (.int .i64 ((rd_T126 l1 x9_1).f1))) = w26 at n0_ n1_ n2_ ⊢
              have BK235 := n0_
              have BK237 := n1_
              have HB := n2_
              clear n0_ n1_ n2_
              have n0_ := mS (blk_drew BK235.out)
              have n1_ := mS (blk_drew BK237.out)
              have n2_ := mS (below_drew1 HB.out)
              clear BK235
              clear BK237
              clear HB
              have BK235 := n0_
              have BK237 := n1_
              have HB := n2_
              clear n0_ n1_ n2_
              have p240 : 0 ≤ ((ji19) : Int) := of_decide_eq_true (by first | (with_reducible assumption) | assumption)
              have q240 : (ji19) < (l1.length : Int) := of_decide_eq_true (by first | (with_reducible assumption) | assumption)
              obtain ⟨ad240, e240, hx240_0, hx240_1⟩ := at_T126 HR1.out (ji19) p240 q240
              have hw240_1 := hx240_1
              have hw240_0 := hx240_0
              obtain rfl : ad236 = ad240 := (by injection e240)
              replace hx240_0 := mX HB.out hx240_0
              replace hx240_1 := mX HB.out hx240_1
              replace p240 := eq_true p240
              replace q240 := eq_true q240
              refine start_ (n := 34) (S := fun w' => w'.cell? ⟨gb237, 0, none⟩ = some (.string ((rd_T126 l1 x9_1).f0)) ∧ w'.cell? ⟨gb237, 1, none⟩ = some (.int .i64 ((rd_T126 l1 x9_1).f1)) ∧ w'.cell? ⟨gb235, 0, none⟩ = some (.slice A0_0 l0_0.length c0_0) ∧ w'.cell? ⟨gb235, 1, none⟩ = some (.slice A0_1 l0_1.length c0_1) ∧ w'.cell? ⟨gb235, 2, none⟩ = some (.slice A0_2 l0_2.length c0_2) ∧ w'.cell? ⟨gb235, 3, none⟩ = some (.int .i64 a0_3) ∧ w'.cell? (ad236.add (((ji19)).toNat * 2)) = some (.string ((rd_T126 l1 (ji19)).f0)) ∧ w'.cell? ⟨(ad236.add (((ji19)).toNat * 2)).block, (ad236.add (((ji19)).toNat * 2)).off + 1, none⟩ = some (.int .i64 ((rd_T126 l1 (ji19)).f1))) (ds := []) (mb 0 34) (by kernel_rfl) rfl rfl ⟨mZ BK237.out 0, mZ BK237.out 1, mZ BK235.out 0, mZ BK235.out 1, mZ BK235.out 2, mZ BK235.out 3, ((HB.out.cell (World.block_lt_of_cell? w _ hw240_0)).trans hw240_0), ((HB.out.cell (World.block_lt_of_cell? w _ hw240_1)).trans hw240_1)⟩ (fun hHeld => ?_); refine with_tabW impl_namesOk.tab4 impl_namesOk.bits4 (fun HT_ HW_ => ?_)
              generalize w26.drew = w27 at BK235 BK237 HB hx240_0 hx240_1 hHeld ⊢
              refine mpu 0 14 HT_.out (mb 1 33) ?_
              refine mpt 1 15 HT_.out HW_.out (mb 2 32) hHeld ?_
              refine one_ (i := 2) (N := some 16) (mb 3 31) rfl rfl (one_of HT_.out (by kernel_rfl)) (by decide) (fun K hK => ?_)
              refine goes_ Try.func124 (by kernel_rfl) rfl #[.string ((rd_T126 l1 x9_1).f0)] (by rfl) rfl rfl mA ?_
              with_reducible refine (impl_nameOk.calls k1 ((rd_T126 l1 x9_1).f0) true _ A11.out).mono ?_
              rintro e w' ⟨rfl, ⟨nd, rfl⟩⟩
              refine ⟨_, rfl, ?_⟩
              refine hK.out _ _ ⟨mZ BK237.out 0, mZ BK237.out 1, mZ BK235.out 0, mZ BK235.out 1, mZ BK235.out 2, mZ BK235.out 3, ((HB.out.cell (World.block_lt_of_cell? w _ hw240_0)).trans hw240_0), ((HB.out.cell (World.block_lt_of_cell? w _ hw240_1)).trans hw240_1)⟩ (fun hHeld => ?_)
              clear hK K
              refine norm_ (a' := ?_) ?_ ?_
              rotate_left
              ·show Act.put _ (some 16) _ = _
               simp only [Act.put, zA, zB, zC, i64_w, i32_w]
               rfl
              refine mpu 3 17 HT_.out (mb 4 30) ?_
              refine mpu 4 18 HT_.out (mb 5 29) ?_
              refine mpu 6 20 HT_.out #[true, true, true, true, true, false, true, false, false, false, false, false, false, false, false, false, false, false, false, false, false, false, false, false, false, false, false, false, false, false, false, false, false, false] ?_
              refine mpt 5 19 HT_.out HW_.out (mb 7 27) hHeld ?_
              refine mpt 7 21 HT_.out HW_.out (mb 8 26) hHeld ?_
              refine one_ (i := 8) (N := some 22) (mb 9 25) rfl rfl (one_of HT_.out (by kernel_rfl)) (by decide) (fun K hK => ?_)
              refine goes_ Try.func105 (by kernel_rfl) rfl #[.agg #[.slice A0_0 l0_0.length c0_0, .slice A0_1 l0_1.length c0_1, .slice A0_2 l0_2.length c0_2, .int .i64 a0_3], .int .i64 ((rd_T126 l1 x9_1).f1)] (by rfl) rfl rfl mA ?_
              with_reducible refine (impl_inodeAt.calls k1 _ _ l0_0 _ _ l0_1 _ _ l0_2 a0_3 ((rd_T126 l1 x9_1).f1) t239 _ ?side1 ?side2 ?side3 ?side4 ?side5 ?side6 A13.out).mono ?_
              (case side1 => repeat (first | exact (Kd.C_below HR0_0.out (mH2 HB.out GE235.out GE237.out)) | (with_reducible refine Kd.C_alloc ?_ _) | (with_reducible refine Kd.C_drewN ?_ _) | (with_reducible refine Kd.C_drew ?_)))
              (case side2 => exact HC0_0.out)
              (case side3 => repeat (first | exact (Kd.C_below HR0_1.out (mH2 HB.out GE235.out GE237.out)) | (with_reducible refine Kd.C_alloc ?_ _) | (with_reducible refine Kd.C_drewN ?_ _) | (with_reducible refine Kd.C_drew ?_)))
              (case side4 => exact HC0_1.out)
              (case side5 => repeat (first | exact (Kd.C_below HR0_2.out (mH2 HB.out GE235.out GE237.out)) | (with_reducible refine Kd.C_alloc ?_ _) | (with_reducible refine Kd.C_drewN ?_ _) | (with_reducible refine Kd.C_drew ?_)))
              (case side6 => exact HC0_2.out)
              rintro e w28 ⟨rfl, hb⟩
              refine ⟨_, rfl, ?_⟩
              have n0_ := mB BK235 hb
              have n1_ := mB BK237 hb
              have n2_ := mS (below_step (mH2 HB.out GE235.out GE237.out) hb)
              clear BK235
              clear BK237
              clear HB
              have BK235 := n0_
              have BK237 := n1_
              have HB := n2_
              clear n0_ n1_ n2_
              (try clear hb)
              (try clear hb2)
              (try clear hk)
              (try clear hi)
              have q29 : (x9_1 : Int) ≤ ((l1.length : Int) : Int) := of_decide_eq_true (by first | (with_reducible assumption) | assumption)
              obtain ⟨i029, hi029, _, hsz29, _⟩ := info_parts info126
              have hroom29 : l1.length ≤ c1 := HC1.out
              have hC29 : Kd.C k126 _ (some ad236) l1.length l1 := HR1.out
              have hcut29 := cut_to (P := Try.prog) 61 126 .i64 Try.underlying61 hi029 (some ad236) l1.length c1 x9_1 (of_decide_eq_true (by first | (with_reducible assumption) | assumption)) q29 hroom29
              have hr29 := Kd.C_take (m := (x9_1 : Int).toNat) hC29 (by omega)
              have hy29 : y241.length = (x9_1 : Int).toNat := (by rw [Ny241.out, List.length_take]; omega)
              rw [← Ny241.out] at hr29
              rw [← hy29] at hcut29
              have HR244 := mS hr29
              have HC244 := mS (show y241.length ≤ c1 from by omega)
              clear hr29 hC29 hroom29 hi029 hsz29
              have KY29 := mS hy29
              clear hy29
              replace q29 := eq_true q29
              refine hK.out _ _ ⟨mZ BK237.out 0, mZ BK237.out 1, mZ BK235.out 0, mZ BK235.out 1, mZ BK235.out 2, mZ BK235.out 3, ((HB.out.cell (World.block_lt_of_cell? w _ hw240_0)).trans hw240_0), ((HB.out.cell (World.block_lt_of_cell? w _ hw240_1)).trans hw240_1)⟩ (fun hHeld => ?_)
              clear hK K
              refine norm_ (a' := ?_) ?_ ?_
              rotate_left
              ·show Act.put _ (some 22) _ = _
               simp only [Act.put, zA, zB, zC, i64_w, i32_w]
               rfl
              refine mpu 9 23 HT_.out (mb 10 24) ?_
              refine mpu 10 24 HT_.out (mb 11 23) ?_
              refine mpu 11 25 HT_.out (mb 12 22) ?_
              refine mpu 12 26 HT_.out (mb 13 21) ?_
              refine mpu 13 27 HT_.out (mb 14 20) ?_
              refine mpu 14 28 HT_.out (mb 15 19) ?_
              refine mpu 15 29 HT_.out (mb 16 18) ?_
              refine mpu 16 30 HT_.out (mb 17 17) ?_
              refine mpu 17 31 HT_.out (mb 18 16) ?_
              refine mpu 18 32 HT_.out (mb 19 15) ?_
              refine mpu 19 33 HT_.out (mb 20 14) ?_
              refine mpu 21 35 HT_.out #[true, true, true, true, true, true, true, true, true, true, true, true, true, true, true, true, true, true, true, true, false, true, false, false, false, false, false, false, false, false, false, false, false, false] ?_
              refine mpt 20 34 HT_.out HW_.out (mb 22 12) hHeld ?_
              refine mpt 22 36 HT_.out HW_.out (mb 23 11) hHeld ?_
              refine mpu 23 37 HT_.out (mb 24 10) ?_
              refine mpu 24 38 HT_.out (mb 25 9) ?_
              refine mpu 25 39 HT_.out (mb 26 8) ?_
              refine mpu 26 40 HT_.out (mb 27 7) ?_
              refine mpu 27 41 HT_.out (mb 28 6) ?_
              refine mpu 28 42 HT_.out (mb 29 5) ?_
              refine mpu 29 43 HT_.out (mb 30 4) ?_
              refine mpu 30 44 HT_.out (mb 31 3) ?_
              refine mpt 31 45 HT_.out HW_.out (mb 32 2) hHeld ?_
              refine one_ (i := 32) (N := some 46) (mb 33 1) rfl rfl (one_of HT_.out (by kernel_rfl)) (by decide) (fun K hK => ?_)
              refine goes_ Try.func99 (by kernel_rfl) rfl #[.slice (some ad236) y241.length c1, .int .i64 ((rd_T126 l1 x9_1).f1)] (by rfl) rfl rfl mA ?_
              with_reducible refine (impl_hasId.calls k1 _ _ y241 ((rd_T126 l1 x9_1).f1) t245 _ ?side1 ?side2 A25.out).mono ?_
              (case side1 => repeat (first | exact (Kd.C_below HR244.out HB.out) | (with_reducible refine Kd.C_alloc ?_ _) | (with_reducible refine Kd.C_drewN ?_ _) | (with_reducible refine Kd.C_drew ?_)))
              (case side2 => exact HC244.out)
              rintro e w30 ⟨rfl, hb⟩
              refine ⟨_, rfl, ?_⟩
              have n0_ := mB BK235 hb
              have n1_ := mB BK237 hb
              have n2_ := mS (below_step (mH2 HB.out GE235.out GE237.out) hb)
              clear BK235
              clear BK237
              clear HB
              have BK235 := n0_
              have BK237 := n1_
              have HB := n2_
              clear n0_ n1_ n2_
              (try clear hb)
              (try clear hb2)
              (try clear hk)
              (try clear hi)
              refine hK.out _ _ ⟨mZ BK237.out 0, mZ BK237.out 1, mZ BK235.out 0, mZ BK235.out 1, mZ BK235.out 2, mZ BK235.out 3, ((HB.out.cell (World.block_lt_of_cell? w _ hw240_0)).trans hw240_0), ((HB.out.cell (World.block_lt_of_cell? w _ hw240_1)).trans hw240_1)⟩ (fun hHeld => ?_)
              clear hK K
              refine norm_ (a' := ?_) ?_ ?_
              rotate_left
              ·show Act.put _ (some 46) _ = _
               simp only [Act.put, zA, zB, zC, i64_w, i32_w]
               rfl
              refine mpu 33 47 HT_.out (mb 34 0) ?_
              refine done_ (done_of HT_.out (by kernel_rfl)) ?_
              try go_wp2
              go_meet
              case rel => exact ⟨_, (t245), (by first | rfl | (simp; done) | (simp [*]; done)), H', ⟨by have := HK1.out; first | omega | exact Nat.le_refl _⟩, ⟨by (with_reducible repeat (first | refine blk_drewN ?_ _ | refine blk_drew ?_ | refine blk_alloc ?_ _)); exact BK235.out⟩, ⟨by (with_reducible repeat (first | refine blk_drewN ?_ _ | refine blk_drew ?_ | refine blk_alloc ?_ _)); exact BK237.out⟩, ⟨(mH2 HB.out GE235.out GE237.out)⟩⟩
             ·rw [if_neg c24] at H
              exact absurd H (by simp)
            ·rw [if_neg c22] at H
             have c22b0 : (Op.bytesLess (((rd_T126 l1 (ji19)).f0).toList) (((rd_T126 l1 x9_1).f0).toList)) = false := by simpa using c22
             clear c22
             have H' := mS H
             clear H
             try go_wp2
             have n0_ : Aside0 (((w8.setCell ⟨gb237, 0, none⟩ (.string ((rd_T126 l1 x9_1).f0))).setCell ⟨gb237, 1, none⟩ (.int .i64 ((rd_T126 l1 x9_1).f1))).heap[gb235]? = some (.cells #[.slice A0_0 l0_0.length c0_0, .slice A0_1 l0_1.length c0_1, .slice A0_2 l0_2.length c0_2, .int .i64 a0_3] 63 (0, 0))) := ⟨by (with_reducible repeat (first | refine blk_drewN ?_ _ | refine blk_drew ?_ | refine blk_alloc ?_ _)); refine blk_far ?_ NB235_237.out _; (with_reducible repeat (first | refine blk_drewN ?_ _ | refine blk_drew ?_ | refine blk_alloc ?_ _)); refine blk_far ?_ NB235_237.out _; (with_reducible repeat (first | refine blk_drewN ?_ _ | refine blk_drew ?_ | refine blk_alloc ?_ _)); exact BK235.out⟩
             have n1_ : Aside0 (((w8.setCell ⟨gb237, 0, none⟩ (.string ((rd_T126 l1 x9_1).f0))).setCell ⟨gb237, 1, none⟩ (.int .i64 ((rd_T126 l1 x9_1).f1))).heap[gb237]? = some (.cells #[.string ((rd_T126 l1 x9_1).f0), .int .i64 ((rd_T126 l1 x9_1).f1)] 126 (0, 0))) := ⟨by (with_reducible repeat (first | refine blk_drewN ?_ _ | refine blk_drew ?_ | refine blk_alloc ?_ _)); refine blk_put (cs := #[.string ((rd_T126 l1 x9_1).f0), .int .i64 0]) ?_ 1 _ rfl; (with_reducible repeat (first | refine blk_drewN ?_ _ | refine blk_drew ?_ | refine blk_alloc ?_ _)); refine blk_put (cs := #[.string (⟨#[]⟩ : ByteArray), .int .i64 0]) ?_ 0 _ rfl; (with_reducible repeat (first | refine blk_drewN ?_ _ | refine blk_drew ?_ | refine blk_alloc ?_ _)); exact BK237.out⟩
             have n2_ : Aside0 (Below w.heap.size w ((w8.setCell ⟨gb237, 0, none⟩ (.string ((rd_T126 l1 x9_1).f0))).setCell ⟨gb237, 1, none⟩ (.int .i64 ((rd_T126 l1 x9_1).f1)))) := ⟨(mH2 HB.out GE235.out GE237.out)⟩
             (try clear BK235)
             (try clear BK237)
             (try clear HB)
             generalize ((w8.setCell ⟨gb237, 0, none⟩ (.string ((rd_T126 l1 x9_1).f0))).setCell ⟨gb237, 1, none⟩ (.int .i64 ((rd_T126 l1 x9_1).f1))) = w31 at n0_ n1_ n2_ ⊢
             have BK235 := n0_
             have BK237 := n1_
             have HB := n2_
             clear n0_ n1_ n2_
             have n0_ := mS (blk_drew BK235.out)
             have n1_ := mS (blk_drew BK237.out)
             have n2_ := mS (below_drew1 HB.out)
             clear BK235
             clear BK237
             clear HB
             have BK235 := n0_
             have BK237 := n1_
             have HB := n2_
             clear n0_ n1_ n2_
             have p240 : 0 ≤ ((ji19) : Int) := of_decide_eq_true (by first | (with_reducible assumption) | assumption)
             have q240 : (ji19) < (l1.length : Int) := of_decide_eq_true (by first | (with_reducible assumption) | assumption)
             obtain ⟨ad240, e240, hx240_0, hx240_1⟩ := at_T126 HR1.out (ji19) p240 q240
             have hw240_1 := hx240_1
             have hw240_0 := hx240_0
             obtain rfl : ad236 = ad240 := (by injection e240)
             replace hx240_0 := mX HB.out hx240_0
             replace hx240_1 := mX HB.out hx240_1
             replace p240 := eq_true p240
             replace q240 := eq_true q240
             refine start_ (n := 34) (S := fun w' => w'.cell? ⟨gb237, 0, none⟩ = some (.string ((rd_T126 l1 x9_1).f0)) ∧ w'.cell? ⟨gb237, 1, none⟩ = some (.int .i64 ((rd_T126 l1 x9_1).f1)) ∧ w'.cell? ⟨gb235, 0, none⟩ = some (.slice A0_0 l0_0.length c0_0) ∧ w'.cell? ⟨gb235, 1, none⟩ = some (.slice A0_1 l0_1.length c0_1) ∧ w'.cell? ⟨gb235, 2, none⟩ = some (.slice A0_2 l0_2.length c0_2) ∧ w'.cell? ⟨gb235, 3, none⟩ = some (.int .i64 a0_3) ∧ w'.cell? (ad236.add (((ji19)).toNat * 2)) = some (.string ((rd_T126 l1 (ji19)).f0)) ∧ w'.cell? ⟨(ad236.add (((ji19)).toNat * 2)).block, (ad236.add (((ji19)).toNat * 2)).off + 1, none⟩ = some (.int .i64 ((rd_T126 l1 (ji19)).f1))) (ds := []) (mb 0 34) (by kernel_rfl) rfl rfl ⟨mZ BK237.out 0, mZ BK237.out 1, mZ BK235.out 0, mZ BK235.out 1, mZ BK235.out 2, mZ BK235.out 3, ((HB.out.cell (World.block_lt_of_cell? w _ hw240_0)).trans hw240_0), ((HB.out.cell (World.block_lt_of_cell? w _ hw240_1)).trans hw240_1)⟩ (fun hHeld => ?_); refine with_tabW impl_namesOk.tab4 impl_namesOk.bits4 (fun HT_ HW_ => ?_)
             generalize w31.drew = w32 at BK235 BK237 HB hx240_0 hx240_1 hHeld ⊢
             refine mpu 0 14 HT_.out (mb 1 33) ?_
             refine mpt 1 15 HT_.out HW_.out (mb 2 32) hHeld ?_
             refine one_ (i := 2) (N := some 16) (mb 3 31) rfl rfl (one_of HT_.out (by kernel_rfl)) (by decide) (fun K hK => ?_)
             refine goes_ Try.func124 (by kernel_rfl) rfl #[.string ((rd_T126 l1 x9_1).f0)] (by rfl) rfl rfl mA ?_
             with_reducible refine (impl_nameOk.calls k1 ((rd_T126 l1 x9_1).f0) true _ A11.out).mono ?_
             rintro e w' ⟨rfl, ⟨nd, rfl⟩⟩
             refine ⟨_, rfl, ?_⟩
             refine hK.out _ _ ⟨mZ BK237.out 0, mZ BK237.out 1, mZ BK235.out 0, mZ BK235.out 1, mZ BK235.out 2, mZ BK235.out 3, ((HB.out.cell (World.block_lt_of_cell? w _ hw240_0)).trans hw240_0), ((HB.out.cell (World.block_lt_of_cell? w _ hw240_1)).trans hw240_1)⟩ (fun hHeld => ?_)
             clear hK K
             refine norm_ (a' := ?_) ?_ ?_
             rotate_left
             ·show Act.put _ (some 16) _ = _
              simp only [Act.put, zA, zB, zC, i64_w, i32_w]
              rfl
             refine mpu 3 17 HT_.out (mb 4 30) ?_
             refine mpu 4 18 HT_.out (mb 5 29) ?_
             refine mpu 6 20 HT_.out #[true, true, true, true, true, false, true, false, false, false, false, false, false, false, false, false, false, false, false, false, false, false, false, false, false, false, false, false, false, false, false, false, false, false] ?_
             refine mpt 5 19 HT_.out HW_.out (mb 7 27) hHeld ?_
             refine mpt 7 21 HT_.out HW_.out (mb 8 26) hHeld ?_
             refine one_ (i := 8) (N := some 22) (mb 9 25) rfl rfl (one_of HT_.out (by kernel_rfl)) (by decide) (fun K hK => ?_)
             refine goes_ Try.func105 (by kernel_rfl) rfl #[.agg #[.slice A0_0 l0_0.length c0_0, .slice A0_1 l0_1.length c0_1, .slice A0_2 l0_2.length c0_2, .int .i64 a0_3], .int .i64 ((rd_T126 l1 x9_1).f1)] (by rfl) rfl rfl mA ?_
             with_reducible refine (impl_inodeAt.calls k1 _ _ l0_0 _ _ l0_1 _ _ l0_2 a0_3 ((rd_T126 l1 x9_1).f1) t239 _ ?side1 ?side2 ?side3 ?side4 ?side5 ?side6 A13.out).mono ?_
             (case side1 => repeat (first | exact (Kd.C_below HR0_0.out (mH2 HB.out GE235.out GE237.out)) | (with_reducible refine Kd.C_alloc ?_ _) | (with_reducible refine Kd.C_drewN ?_ _) | (with_reducible refine Kd.C_drew ?_)))
             (case side2 => exact HC0_0.out)
             (case side3 => repeat (first | exact (Kd.C_below HR0_1.out (mH2 HB.out GE235.out GE237.out)) | (with_reducible refine Kd.C_alloc ?_ _) | (with_reducible refine Kd.C_drewN ?_ _) | (with_reducible refine Kd.C_drew ?_)))
             (case side4 => exact HC0_1.out)
             (case side5 => repeat (first | exact (Kd.C_below HR0_2.out (mH2 HB.out GE235.out GE237.out)) | (with_reducible refine Kd.C_alloc ?_ _) | (with_reducible refine Kd.C_drewN ?_ _) | (with_reducible refine Kd.C_drew ?_)))
             (case side6 => exact HC0_2.out)
             rintro e w33 ⟨rfl, hb⟩
             refine ⟨_, rfl, ?_⟩
             have n0_ := mB BK235 hb
             have n1_ := mB BK237 hb
             have n2_ := mS (below_step (mH2 HB.out GE235.out GE237.out) hb)
             clear BK235
             clear BK237
             clear HB
             have BK235 := n0_
             have BK237 := n1_
             have HB := n2_
             clear n0_ n1_ n2_
             (try clear hb)
             (try clear hb2)
             (try clear hk)
             (try clear hi)
             refine hK.out _ _ ⟨mZ BK237.out 0, mZ BK237.out 1, mZ BK235.out 0, mZ BK235.out 1, mZ BK235.out 2, mZ BK235.out 3, ((HB.out.cell (World.block_lt_of_cell? w _ hw240_0)).trans hw240_0), ((HB.out.cell (World.block_lt_of_cell? w _ hw240_1)).trans hw240_1)⟩ (fun hHeld => ?_)
             clear hK K
             refine norm_ (a' := ?_) ?_ ?_
             rotate_left
             ·show Act.put _ (some 22) _ = _
              simp only [Act.put, zA, zB, zC, i64_w, i32_w]
              rfl
             refine mpu 9 23 HT_.out (mb 10 24) ?_
             refine mpu 10 24 HT_.out (mb 11 23) ?_
             refine mpu 11 25 HT_.out (mb 12 22) ?_
             refine mpu 12 26 HT_.out (mb 13 21) ?_
             refine mpu 13 27 HT_.out (mb 14 20) ?_
             refine mpu 14 28 HT_.out (mb 15 19) ?_
             refine mpu 15 29 HT_.out (mb 16 18) ?_
             refine mpu 16 30 HT_.out (mb 17 17) ?_
             refine mpu 17 31 HT_.out (mb 18 16) ?_
             refine mpu 18 32 HT_.out (mb 19 15) ?_
             refine mpu 19 33 HT_.out (mb 20 14) ?_
             refine mpu 21 35 HT_.out #[true, true, true, true, true, true, true, true, true, true, true, true, true, true, true, true, true, true, true, true, false, true, false, false, false, false, false, false, false, false, false, false, false, false] ?_
             refine mpt 20 34 HT_.out HW_.out (mb 22 12) hHeld ?_
             refine mpt 22 36 HT_.out HW_.out (mb 23 11) hHeld ?_
             refine mpu 23 37 HT_.out (mb 24 10) ?_
             refine mpu 24 38 HT_.out (mb 25 9) ?_
             refine mpu 25 39 HT_.out (mb 26 8) ?_
             refine mpu 26 40 HT_.out (mb 27 7) ?_
             refine mpf 27 41 HT_.out (mb 28 6) ?_
             refine mpf 28 42 HT_.out (mb 29 5) ?_
             refine mpf 29 43 HT_.out (mb 30 4) ?_
             refine mpf 30 44 HT_.out (mb 31 3) ?_
             refine mpf 31 45 HT_.out (mb 32 2) ?_
             refine mpf 32 46 HT_.out (mb 33 1) ?_
             refine mpu 33 47 HT_.out (mb 34 0) ?_
             refine done_ (done_of HT_.out (by kernel_rfl)) ?_
             try go_wp2
             go_meet
             case rel => exact ⟨_, (true), (by first | rfl | (simp; done) | (simp [*]; done)), H', ⟨by have := HK1.out; first | omega | exact Nat.le_refl _⟩, ⟨by (with_reducible repeat (first | refine blk_drewN ?_ _ | refine blk_drew ?_ | refine blk_alloc ?_ _)); exact BK235.out⟩, ⟨by (with_reducible repeat (first | refine blk_drewN ?_ _ | refine blk_drew ?_ | refine blk_alloc ?_ _)); exact BK237.out⟩, ⟨(mH2 HB.out GE235.out GE237.out)⟩⟩
           ·rw [if_neg c21] at H
            exact absurd H (by simp)
          ·rw [if_neg c20] at H
           exact absurd H (by simp)
         ·rw [if_neg c18] at H
          have c18b0 : decide (0 < x9_1) = false := decide_eq_false c18
          clear c18
          have c34b0 := eq_true (of_decide_eq_true (by first | (with_reducible assumption) | assumption) : 0 ≤ x9_1)
          by_cases c35 : x9_1 ≤ (l1.length : Int)
          ·rw [if_pos c35] at H
           have c35b0 := eq_true c35
           have c35b1 : decide (x9_1 ≤ (l1.length : Int)) = true := decide_eq_true c35
           clear c35
           obtain ⟨y246, hy246⟩ : ∃ y_ : List (S126), y_ = (l1.take (x9_1 : Int).toNat) := ⟨_, rfl⟩
           replace H : ((impl_hasId.f k1 y246 ((rd_T126 l1 x9_1).f1)).bind fun t250 => (impl_namesOk.j1 k1 l1 l1 (l1.length : Int) x9_1 t250 l0_0 l0_1 l0_2 a0_3)) = some r := by first | (rw [hy246]; with_reducible exact H) | (have H2_ := (Option.bind_some _ _).symm.trans H; rw [hy246]; with_reducible exact H2_) | (have H2_ := (Option.bind_some _ _).symm.trans H; with_reducible exact H2_) | with_reducible exact H | (rw [hy246]; exact H) | exact H
           have Ny246 := mS hy246
           clear hy246
           replace H := Option.bind_eq_some_iff.mp H
           obtain ⟨t250, A360, H⟩ := H
           replace H : (impl_namesOk.j1 k1 l1 l1 (l1.length : Int) x9_1 t250 l0_0 l0_1 l0_2 a0_3) = some r := H
           have A36 := mS A360
           clear A360
           have H' := mS H
           clear H
           try go_wp2
           have n0_ : Aside0 (((w8.setCell ⟨gb237, 0, none⟩ (.string ((rd_T126 l1 x9_1).f0))).setCell ⟨gb237, 1, none⟩ (.int .i64 ((rd_T126 l1 x9_1).f1))).heap[gb235]? = some (.cells #[.slice A0_0 l0_0.length c0_0, .slice A0_1 l0_1.length c0_1, .slice A0_2 l0_2.length c0_2, .int .i64 a0_3] 63 (0, 0))) := ⟨by (with_reducible repeat (first | refine blk_drewN ?_ _ | refine blk_drew ?_ | refine blk_alloc ?_ _)); refine blk_far ?_ NB235_237.out _; (with_reducible repeat (first | refine blk_drewN ?_ _ | refine blk_drew ?_ | refine blk_alloc ?_ _)); refine blk_far ?_ NB235_237.out _; (with_reducible repeat (first | refine blk_drewN ?_ _ | refine blk_drew ?_ | refine blk_alloc ?_ _)); exact BK235.out⟩
           have n1_ : Aside0 (((w8.setCell ⟨gb237, 0, none⟩ (.string ((rd_T126 l1 x9_1).f0))).setCell ⟨gb237, 1, none⟩ (.int .i64 ((rd_T126 l1 x9_1).f1))).heap[gb237]? = some (.cells #[.string ((rd_T126 l1 x9_1).f0), .int .i64 ((rd_T126 l1 x9_1).f1)] 126 (0, 0))) := ⟨by (with_reducible repeat (first | refine blk_drewN ?_ _ | refine blk_drew ?_ | refine blk_alloc ?_ _)); refine blk_put (cs := #[.string ((rd_T126 l1 x9_1).f0), .int .i64 0]) ?_ 1 _ rfl; (with_reducible repeat (first | refine blk_drewN ?_ _ | refine blk_drew ?_ | refine blk_alloc ?_ _)); refine blk_put (cs := #[.string (⟨#[]⟩ : ByteArray), .int .i64 0]) ?_ 0 _ rfl; (with_reducible repeat (first | refine blk_drewN ?_ _ | refine blk_drew ?_ | refine blk_alloc ?_ _)); exact BK237.out⟩
           have n2_ : Aside0 (Below w.heap.size w ((w8.setCell ⟨gb237, 0, none⟩ (.string ((rd_T126 l1 x9_1).f0))).setCell ⟨gb237, 1, none⟩ (.int .i64 ((rd_T126 l1 x9_1).f1)))) := ⟨(mH2 HB.out GE235.out GE237.out)⟩
           (try clear BK235)
           (try clear BK237)
           (try clear HB)
           generalize ((w8.setCell ⟨gb237, 0, none⟩ (.string ((rd_T126 l1 x9_1).f0))).setCell ⟨gb237, 1, none⟩ (.int .i64 ((rd_T126 l1 x9_1).f1))) = w37 at n0_ n1_ n2_ ⊢
           have BK235 := n0_
           have BK237 := n1_
           have HB := n2_
           clear n0_ n1_ n2_
           have n0_ := mS (blk_drew BK235.out)
           have n1_ := mS (blk_drew BK237.out)
           have n2_ := mS (below_drew1 HB.out)
           clear BK235
           clear BK237
           clear HB
           have BK235 := n0_
           have BK237 := n1_
           have HB := n2_
           clear n0_ n1_ n2_
           refine start_ (n := 34) (S := fun w' => w'.cell? ⟨gb237, 0, none⟩ = some (.string ((rd_T126 l1 x9_1).f0)) ∧ w'.cell? ⟨gb237, 1, none⟩ = some (.int .i64 ((rd_T126 l1 x9_1).f1)) ∧ w'.cell? ⟨gb235, 0, none⟩ = some (.slice A0_0 l0_0.length c0_0) ∧ w'.cell? ⟨gb235, 1, none⟩ = some (.slice A0_1 l0_1.length c0_1) ∧ w'.cell? ⟨gb235, 2, none⟩ = some (.slice A0_2 l0_2.length c0_2) ∧ w'.cell? ⟨gb235, 3, none⟩ = some (.int .i64 a0_3)) (ds := []) (mb 0 34) (by kernel_rfl) rfl rfl ⟨mZ BK237.out 0, mZ BK237.out 1, mZ BK235.out 0, mZ BK235.out 1, mZ BK235.out 2, mZ BK235.out 3⟩ (fun hHeld => ?_); refine with_tabW impl_namesOk.tab4 impl_namesOk.bits4 (fun HT_ HW_ => ?_)
           generalize w37.drew = w38 at BK235 BK237 HB hHeld ⊢
           refine mpu 0 14 HT_.out (mb 1 33) ?_
           refine mpt 1 15 HT_.out HW_.out (mb 2 32) hHeld ?_
           refine one_ (i := 2) (N := some 16) (mb 3 31) rfl rfl (one_of HT_.out (by kernel_rfl)) (by decide) (fun K hK => ?_)
           refine goes_ Try.func124 (by kernel_rfl) rfl #[.string ((rd_T126 l1 x9_1).f0)] (by rfl) rfl rfl mA ?_
           with_reducible refine (impl_nameOk.calls k1 ((rd_T126 l1 x9_1).f0) true _ A11.out).mono ?_
           rintro e w' ⟨rfl, ⟨nd, rfl⟩⟩
           refine ⟨_, rfl, ?_⟩
           refine hK.out _ _ ⟨mZ BK237.out 0, mZ BK237.out 1, mZ BK235.out 0, mZ BK235.out 1, mZ BK235.out 2, mZ BK235.out 3⟩ (fun hHeld => ?_)
           clear hK K
           refine norm_ (a' := ?_) ?_ ?_
           rotate_left
           ·show Act.put _ (some 16) _ = _
            simp only [Act.put, zA, zB, zC, i64_w, i32_w]
            rfl
           refine mpu 3 17 HT_.out (mb 4 30) ?_
           refine mpu 4 18 HT_.out (mb 5 29) ?_
           refine mpu 6 20 HT_.out #[true, true, true, true, true, false, true, false, false, false, false, false, false, false, false, false, false, false, false, false, false, false, false, false, false, false, false, false, false, false, false, false, false, false] ?_
           refine mpt 5 19 HT_.out HW_.out (mb 7 27) hHeld ?_
           refine mpt 7 21 HT_.out HW_.out (mb 8 26) hHeld ?_
           refine one_ (i := 8) (N := some 22) (mb 9 25) rfl rfl (one_of HT_.out (by kernel_rfl)) (by decide) (fun K hK => ?_)
           refine goes_ Try.func105 (by kernel_rfl) rfl #[.agg #[.slice A0_0 l0_0.length c0_0, .slice A0_1 l0_1.length c0_1, .slice A0_2 l0_2.length c0_2, .int .i64 a0_3], .int .i64 ((rd_T126 l1 x9_1).f1)] (by rfl) rfl rfl mA ?_
           with_reducible refine (impl_inodeAt.calls k1 _ _ l0_0 _ _ l0_1 _ _ l0_2 a0_3 ((rd_T126 l1 x9_1).f1) t239 _ ?side1 ?side2 ?side3 ?side4 ?side5 ?side6 A13.out).mono ?_
           (case side1 => repeat (first | exact (Kd.C_below HR0_0.out (mH2 HB.out GE235.out GE237.out)) | (with_reducible refine Kd.C_alloc ?_ _) | (with_reducible refine Kd.C_drewN ?_ _) | (with_reducible refine Kd.C_drew ?_)))
           (case side2 => exact HC0_0.out)
           (case side3 => repeat (first | exact (Kd.C_below HR0_1.out (mH2 HB.out GE235.out GE237.out)) | (with_reducible refine Kd.C_alloc ?_ _) | (with_reducible refine Kd.C_drewN ?_ _) | (with_reducible refine Kd.C_drew ?_)))
           (case side4 => exact HC0_1.out)
           (case side5 => repeat (first | exact (Kd.C_below HR0_2.out (mH2 HB.out GE235.out GE237.out)) | (with_reducible refine Kd.C_alloc ?_ _) | (with_reducible refine Kd.C_drewN ?_ _) | (with_reducible refine Kd.C_drew ?_)))
           (case side6 => exact HC0_2.out)
           rintro e w39 ⟨rfl, hb⟩
           refine ⟨_, rfl, ?_⟩
           have n0_ := mB BK235 hb
           have n1_ := mB BK237 hb
           have n2_ := mS (below_step (mH2 HB.out GE235.out GE237.out) hb)
           clear BK235
           clear BK237
           clear HB
           have BK235 := n0_
           have BK237 := n1_
           have HB := n2_
           clear n0_ n1_ n2_
           (try clear hb)
           (try clear hb2)
           (try clear hk)
           (try clear hi)
           have q40 : (x9_1 : Int) ≤ ((l1.length : Int) : Int) := of_decide_eq_true (by first | (with_reducible assumption) | assumption)
           obtain ⟨i040, hi040, _, hsz40, _⟩ := info_parts info126
           have hroom40 : l1.length ≤ c1 := HC1.out
           have hC40 : Kd.C k126 _ (some ad236) l1.length l1 := HR1.out
           have hcut40 := cut_to (P := Try.prog) 61 126 .i64 Try.underlying61 hi040 (some ad236) l1.length c1 x9_1 (of_decide_eq_true (by first | (with_reducible assumption) | assumption)) q40 hroom40
           have hr40 := Kd.C_take (m := (x9_1 : Int).toNat) hC40 (by omega)
           have hy40 : y246.length = (x9_1 : Int).toNat := (by rw [Ny246.out, List.length_take]; omega)
           rw [← Ny246.out] at hr40
           rw [← hy40] at hcut40
           have HR249 := mS hr40
           have HC249 := mS (show y246.length ≤ c1 from by omega)
           clear hr40 hC40 hroom40 hi040 hsz40
           have KY40 := mS hy40
           clear hy40
           replace q40 := eq_true q40
           refine hK.out _ _ ⟨mZ BK237.out 0, mZ BK237.out 1, mZ BK235.out 0, mZ BK235.out 1, mZ BK235.out 2, mZ BK235.out 3⟩ (fun hHeld => ?_)
           clear hK K
           refine norm_ (a' := ?_) ?_ ?_
           rotate_left
           ·show Act.put _ (some 22) _ = _
            simp only [Act.put, zA, zB, zC, i64_w, i32_w]
            rfl
           refine mpu 9 23 HT_.out (mb 10 24) ?_
           refine mpu 10 24 HT_.out (mb 11 23) ?_
           refine mpu 11 25 HT_.out (mb 12 22) ?_
           refine mpu 12 26 HT_.out (mb 13 21) ?_
           refine mpu 13 27 HT_.out (mb 14 20) ?_
           refine mpu 14 28 HT_.out (mb 15 19) ?_
           refine mpf 15 29 HT_.out (mb 16 18) ?_
           refine mpf 16 30 HT_.out (mb 17 17) ?_
           refine mpf 17 31 HT_.out (mb 18 16) ?_
           refine mpf 18 32 HT_.out (mb 19 15) ?_
           refine mpf 19 33 HT_.out (mb 20 14) ?_
           refine mpf 20 34 HT_.out (mb 21 13) ?_
           refine mpf 21 35 HT_.out (mb 22 12) ?_
           refine mpf 22 36 HT_.out (mb 23 11) ?_
           refine mpf 23 37 HT_.out (mb 24 10) ?_
           refine mpu 24 38 HT_.out (mb 25 9) ?_
           refine mpu 25 39 HT_.out (mb 26 8) ?_
           refine mpu 26 40 HT_.out (mb 27 7) ?_
           refine mpu 27 41 HT_.out (mb 28 6) ?_
           refine mpu 28 42 HT_.out (mb 29 5) ?_
           refine mpu 29 43 HT_.out (mb 30 4) ?_
           refine mpu 30 44 HT_.out (mb 31 3) ?_
           refine mpt 31 45 HT_.out HW_.out (mb 32 2) hHeld ?_
           refine one_ (i := 32) (N := some 46) (mb 33 1) rfl rfl (one_of HT_.out (by kernel_rfl)) (by decide) (fun K hK => ?_)
           refine goes_ Try.func99 (by kernel_rfl) rfl #[.slice (some ad236) y246.length c1, .int .i64 ((rd_T126 l1 x9_1).f1)] (by rfl) rfl rfl mA ?_
           with_reducible refine (impl_hasId.calls k1 _ _ y246 ((rd_T126 l1 x9_1).f1) t250 _ ?side1 ?side2 A36.out).mono ?_
           (case side1 => repeat (first | exact (Kd.C_below HR249.out HB.out) | (with_reducible refine Kd.C_alloc ?_ _) | (with_reducible refine Kd.C_drewN ?_ _) | (with_reducible refine Kd.C_drew ?_)))
           (case side2 => exact HC249.out)
           rintro e w41 ⟨rfl, hb⟩
           refine ⟨_, rfl, ?_⟩
           have n0_ := mB BK235 hb
           have n1_ := mB BK237 hb
           have n2_ := mS (below_step (mH2 HB.out GE235.out GE237.out) hb)
           clear BK235
           clear BK237
           clear HB
           have BK235 := n0_
           have BK237 := n1_
           have HB := n2_
           clear n0_ n1_ n2_
           (try clear hb)
           (try clear hb2)
           (try clear hk)
           (try clear hi)
           refine hK.out _ _ ⟨mZ BK237.out 0, mZ BK237.out 1, mZ BK235.out 0, mZ BK235.out 1, mZ BK235.out 2, mZ BK235.out 3⟩ (fun hHeld => ?_)
           clear hK K
           refine norm_ (a' := ?_) ?_ ?_
           rotate_left
           ·show Act.put _ (some 46) _ = _
            simp only [Act.put, zA, zB, zC, i64_w, i32_w]
            rfl
           refine mpu 33 47 HT_.out (mb 34 0) ?_
           refine done_ (done_of HT_.out (by kernel_rfl)) ?_
           try go_wp2
           go_meet
           case rel => exact ⟨_, (t250), (by first | rfl | (simp; done) | (simp [*]; done)), H', ⟨by have := HK1.out; first | omega | exact Nat.le_refl _⟩, ⟨by (with_reducible repeat (first | refine blk_drewN ?_ _ | refine blk_drew ?_ | refine blk_alloc ?_ _)); exact BK235.out⟩, ⟨by (with_reducible repeat (first | refine blk_drewN ?_ _ | refine blk_drew ?_ | refine blk_alloc ?_ _)); exact BK237.out⟩, ⟨(mH2 HB.out GE235.out GE237.out)⟩⟩
          ·rw [if_neg c35] at H
           exact absurd H (by simp)
       ·replace c12 := Bool.eq_false_iff.mpr c12
        subst c12
        have H1 : (impl_namesOk.j1 k1 l1 l1 (l1.length : Int) x9_1 true l0_0 l0_1 l0_2 a0_3) = some r := by rw [if_neg (show ¬ (false = true) by decide)] at H; exact H
        clear H
        have H := H1
        clear H1
        have H' := mS H
        clear H
        try go_wp2
        have n0_ : Aside0 (((w8.setCell ⟨gb237, 0, none⟩ (.string ((rd_T126 l1 x9_1).f0))).setCell ⟨gb237, 1, none⟩ (.int .i64 ((rd_T126 l1 x9_1).f1))).heap[gb235]? = some (.cells #[.slice A0_0 l0_0.length c0_0, .slice A0_1 l0_1.length c0_1, .slice A0_2 l0_2.length c0_2, .int .i64 a0_3] 63 (0, 0))) := ⟨by (with_reducible repeat (first | refine blk_drewN ?_ _ | refine blk_drew ?_ | refine blk_alloc ?_ _)); refine blk_far ?_ NB235_237.out _; (with_reducible repeat (first | refine blk_drewN ?_ _ | refine blk_drew ?_ | refine blk_alloc ?_ _)); refine blk_far ?_ NB235_237.out _; (with_reducible repeat (first | refine blk_drewN ?_ _ | refine blk_drew ?_ | refine blk_alloc ?_ _)); exact BK235.out⟩
        have n1_ : Aside0 (((w8.setCell ⟨gb237, 0, none⟩ (.string ((rd_T126 l1 x9_1).f0))).setCell ⟨gb237, 1, none⟩ (.int .i64 ((rd_T126 l1 x9_1).f1))).heap[gb237]? = some (.cells #[.string ((rd_T126 l1 x9_1).f0), .int .i64 ((rd_T126 l1 x9_1).f1)] 126 (0, 0))) := ⟨by (with_reducible repeat (first | refine blk_drewN ?_ _ | refine blk_drew ?_ | refine blk_alloc ?_ _)); refine blk_put (cs := #[.string ((rd_T126 l1 x9_1).f0), .int .i64 0]) ?_ 1 _ rfl; (with_reducible repeat (first | refine blk_drewN ?_ _ | refine blk_drew ?_ | refine blk_alloc ?_ _)); refine blk_put (cs := #[.string (⟨#[]⟩ : ByteArray), .int .i64 0]) ?_ 0 _ rfl; (with_reducible repeat (first | refine blk_drewN ?_ _ | refine blk_drew ?_ | refine blk_alloc ?_ _)); exact BK237.out⟩
        have n2_ : Aside0 (Below w.heap.size w ((w8.setCell ⟨gb237, 0, none⟩ (.string ((rd_T126 l1 x9_1).f0))).setCell ⟨gb237, 1, none⟩ (.int .i64 ((rd_T126 l1 x9_1).f1)))) := ⟨(mH2 HB.out GE235.out GE237.out)⟩
        (try clear BK235)
        (try clear BK237)
        (try clear HB)
        generalize ((w8.setCell ⟨gb237, 0, none⟩ (.string ((rd_T126 l1 x9_1).f0))).setCell ⟨gb237, 1, none⟩ (.int .i64 ((rd_T126 l1 x9_1).f1))) = w42 at n0_ n1_ n2_ ⊢
        have BK235 := n0_
        have BK237 := n1_
        have HB := n2_
        clear n0_ n1_ n2_
        have n0_ := mS (blk_drew BK235.out)
        have n1_ := mS (blk_drew BK237.out)
        have n2_ := mS (below_drew1 HB.out)
        clear BK235
        clear BK237
        clear HB
        have BK235 := n0_
        have BK237 := n1_
        have HB := n2_
        clear n0_ n1_ n2_
        refine start_ (n := 34) (S := fun w' => w'.cell? ⟨gb237, 0, none⟩ = some (.string ((rd_T126 l1 x9_1).f0)) ∧ w'.cell? ⟨gb237, 1, none⟩ = some (.int .i64 ((rd_T126 l1 x9_1).f1))) (ds := []) (mb 0 34) (by kernel_rfl) rfl rfl ⟨mZ BK237.out 0, mZ BK237.out 1⟩ (fun hHeld => ?_); refine with_tabW impl_namesOk.tab4 impl_namesOk.bits4 (fun HT_ HW_ => ?_)
        generalize w42.drew = w43 at BK235 BK237 HB hHeld ⊢
        refine mpu 0 14 HT_.out (mb 1 33) ?_
        refine mpt 1 15 HT_.out HW_.out (mb 2 32) hHeld ?_
        refine one_ (i := 2) (N := some 16) (mb 3 31) rfl rfl (one_of HT_.out (by kernel_rfl)) (by decide) (fun K hK => ?_)
        refine goes_ Try.func124 (by kernel_rfl) rfl #[.string ((rd_T126 l1 x9_1).f0)] (by rfl) rfl rfl mA ?_
        with_reducible refine (impl_nameOk.calls k1 ((rd_T126 l1 x9_1).f0) false _ A11.out).mono ?_
        rintro e w' ⟨rfl, ⟨nd, rfl⟩⟩
        refine ⟨_, rfl, ?_⟩
        refine hK.out _ _ ⟨mZ BK237.out 0, mZ BK237.out 1⟩ (fun hHeld => ?_)
        clear hK K
        refine norm_ (a' := ?_) ?_ ?_
        rotate_left
        ·show Act.put _ (some 16) _ = _
         simp only [Act.put, zA, zB, zC, i64_w, i32_w]
         rfl
        refine mpu 3 17 HT_.out (mb 4 30) ?_
        refine mpu 4 18 HT_.out (mb 5 29) ?_
        refine mpf 5 19 HT_.out (mb 6 28) ?_
        refine mpf 6 20 HT_.out (mb 7 27) ?_
        refine mpf 7 21 HT_.out (mb 8 26) ?_
        refine mpf 8 22 HT_.out (mb 9 25) ?_
        refine mpf 9 23 HT_.out (mb 10 24) ?_
        refine mpu 10 24 HT_.out (mb 11 23) ?_
        refine mpu 11 25 HT_.out (mb 12 22) ?_
        refine mpf 12 26 HT_.out (mb 13 21) ?_
        refine mpf 13 27 HT_.out (mb 14 20) ?_
        refine mpf 14 28 HT_.out (mb 15 19) ?_
        refine mpf 15 29 HT_.out (mb 16 18) ?_
        refine mpf 16 30 HT_.out (mb 17 17) ?_
        refine mpf 17 31 HT_.out (mb 18 16) ?_
        refine mpf 18 32 HT_.out (mb 19 15) ?_
        refine mpf 19 33 HT_.out (mb 20 14) ?_
        refine mpf 20 34 HT_.out (mb 21 13) ?_
        refine mpf 21 35 HT_.out (mb 22 12) ?_
        refine mpf 22 36 HT_.out (mb 23 11) ?_
        refine mpf 23 37 HT_.out (mb 24 10) ?_
        refine mpf 24 38 HT_.out (mb 25 9) ?_
        refine mpu 25 39 HT_.out (mb 26 8) ?_
        refine mpu 26 40 HT_.out (mb 27 7) ?_
        refine mpf 27 41 HT_.out (mb 28 6) ?_
        refine mpf 28 42 HT_.out (mb 29 5) ?_
        refine mpf 29 43 HT_.out (mb 30 4) ?_
        refine mpf 30 44 HT_.out (mb 31 3) ?_
        refine mpf 31 45 HT_.out (mb 32 2) ?_
        refine mpf 32 46 HT_.out (mb 33 1) ?_
        refine mpu 33 47 HT_.out (mb 34 0) ?_
        refine done_ (done_of HT_.out (by kernel_rfl)) ?_
        try go_wp2
        go_meet
        case rel => exact ⟨_, (true), (by first | rfl | (simp; done) | (simp [*]; done)), H', ⟨by have := HK1.out; first | omega | exact Nat.le_refl _⟩, ⟨by (with_reducible repeat (first | refine blk_drewN ?_ _ | refine blk_drew ?_ | refine blk_alloc ?_ _)); exact BK235.out⟩, ⟨by (with_reducible repeat (first | refine blk_drewN ?_ _ | refine blk_drew ?_ | refine blk_alloc ?_ _)); exact BK237.out⟩, ⟨(mH2 HB.out GE235.out GE237.out)⟩⟩
      case rest =>
       clear HC7
       try clear c1
       try clear c2
       try clear p2
       try clear c3
       try clear q4
       try clear c9
       try clear c10
       try clear c12
       try clear c18
       try clear c18b0
       try clear c20
       try clear c21
       try clear c34
       try clear c34b0
       try clear c35
       try clear c35b0
       try clear c35b1
       try clear q40
       try clear q40
       obtain ⟨kq, x47_6, rfl, HA, HJ6, BK235, BK237, HB⟩ := hcut
       cases kq with
       | zero => exact absurd HA.out (by simp [impl_namesOk.j1])
       | succ kj6 =>
        have H := HA.out
        clear HA
        simp only [impl_namesOk.j1] at H
        by_cases c44 : x47_6 = true
        ·subst c44
         have H1 : (some false) = some r := by rw [if_pos rfl] at H; exact H
         clear H
         have H := H1
         clear H1
         obtain rfl := Option.some.inj H
         go_wp2
         go_ret
         exact ⟨by first | rfl | (simp [errW_none, errW_some] <;> rfl) | (simp [*, errW_none, errW_some] <;> rfl), (mH2 HB.out GE235.out GE237.out)⟩
        ·replace c44 := Bool.eq_false_iff.mpr c44
         subst c44
         have H1 : (impl_namesOk.l0 kj6 l1 l1 (l1.length : Int) (wrap64 (x9_1 + 1)) l0_0 l0_1 l0_2 a0_3) = some r := by rw [if_neg (show ¬ (false = true) by decide)] at H; exact H
         clear H
         have H := H1
         clear H1
         have H' := mS H
         clear H
         go_wp2
         go_roundg kj6
         case measure => have := HK1.out; have := HJ6.out; omega
         case rel => exact ⟨(wrap64 (x9_1 + 1)), (by first | rfl | (simp; done) | (simp [*]; done)), H', ⟨by have := HK1.out; have := HJ6.out; omega⟩, ⟨by (with_reducible repeat (first | refine blk_drewN ?_ _ | refine blk_drew ?_ | refine blk_alloc ?_ _)); exact BK235.out⟩, ⟨(mH2 HB.out GE235.out GE237.out)⟩⟩
     ·rw [if_neg c6] at H
      exact absurd H (by simp)
    ·rw [if_neg c5] at H
     exact absurd H (by simp)
   ·rw [if_neg c4] at H
    have c4b0 : decide (x9_1 < (l1.length : Int)) = false := decide_eq_false c4
    clear c4
    obtain rfl := Option.some.inj H
    go_wp2
    go_ret
    exact ⟨by first | rfl | (simp [errW_none, errW_some] <;> rfl) | (simp [*, errW_none, errW_some] <;> rfl), (mH1 HB.out GE235.out)⟩

end Go.Proofs.Ytgbejjeephipeaa.MFnExactBytes
