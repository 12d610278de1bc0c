-- Written by mp.py, this session's own printer (wip/mp.py).
import Derived.Test.YtgbejjeephipeaaVMShort
import Derived.Test.YtgbejjeephipeaaMFnExactBytesx0
import Derived.Test.YtgbejjeephipeaaMFnExactBytesx7
import Derived.Test.YtgbejjeephipeaaMFnExactBytesx9
namespace Go.Proofs.Ytgbejjeephipeaa.MFnExactBytes
open Go.RowKit Go.Proofs.YtgbejjeephipeaaW.PrintWords Go.Proofs.YtgbejjeephipeaaW.PrintLast Go.Proofs.YtgbejjeephipeaaW.PrintMore Go.Proofs.Ytgbejjeephipeaa.MWords
attribute [local go_sem] max2_int min2_int max_two min_two max_three min_three max_four min_four   -- for this text's walks alone
set_option linter.unusedVariables false
set_option linter.unusedSimpArgs false

/-! ### impl_DiskOk: function 46 -/
mutual
def impl_DiskOk.l0 : Nat → Int → List (S120) → Int → Int → List (S120) → List (S126) → List (S126) → Int → Option (Bool)
 | 0, _, _, _, _, _, _, _, _ => none
 | k + 1, x3, x7, x8, x9, x252000, x252001, x252002, x252003 => if x9 < x8 then (if 0 ≤ x9 then (if x9 < (x7.length : Int) then ((impl_in.f ((rd_T120 x7 x9).f0) 1 (wrap64 (x252003 - 1))).bind fun t254 => (if t254 = true then ((impl_in.f ((rd_T120 x7 x9).f2) 0 (((rd_T120 x7 x9).f1).length : Int)).bind fun t255 => (if t255 = true then (if x9 > 0 then (if 0 ≤ (wrap64 (x9 - 1)) then (if (wrap64 (x9 - 1)) < (x252000.length : Int) then (if ((rd_T120 x252000 (wrap64 (x9 - 1))).f0) ≥ ((rd_T120 x7 x9).f0) then (impl_DiskOk.j1 k x3 x7 x8 x9 true x252000 x252001 x252002 x252003 ((rd_T120 x7 x9).f0) ((rd_T120 x7 x9).f1) ((rd_T120 x7 x9).f2)) else ((impl_hasId.f k x252001 ((rd_T120 x7 x9).f0)).bind fun t257 => (if t257 = true then (impl_DiskOk.j1 k x3 x7 x8 x9 false x252000 x252001 x252002 x252003 ((rd_T120 x7 x9).f0) ((rd_T120 x7 x9).f1) ((rd_T120 x7 x9).f2)) else ((impl_hasId.f k x252002 ((rd_T120 x7 x9).f0)).bind fun t258 => (impl_DiskOk.j1 k x3 x7 x8 x9 (!t258) x252000 x252001 x252002 x252003 ((rd_T120 x7 x9).f0) ((rd_T120 x7 x9).f1) ((rd_T120 x7 x9).f2)))))) else (none)) else (none)) else ((impl_hasId.f k x252001 ((rd_T120 x7 x9).f0)).bind fun t259 => (if t259 = true then (impl_DiskOk.j1 k x3 x7 x8 x9 false x252000 x252001 x252002 x252003 ((rd_T120 x7 x9).f0) ((rd_T120 x7 x9).f1) ((rd_T120 x7 x9).f2)) else ((impl_hasId.f k x252002 ((rd_T120 x7 x9).f0)).bind fun t260 => (impl_DiskOk.j1 k x3 x7 x8 x9 (!t260) x252000 x252001 x252002 x252003 ((rd_T120 x7 x9).f0) ((rd_T120 x7 x9).f1) ((rd_T120 x7 x9).f2)))))) else (impl_DiskOk.j1 k x3 x7 x8 x9 true x252000 x252001 x252002 x252003 ((rd_T120 x7 x9).f0) ((rd_T120 x7 x9).f1) ((rd_T120 x7 x9).f2)))) else (impl_DiskOk.j1 k x3 x7 x8 x9 true x252000 x252001 x252002 x252003 ((rd_T120 x7 x9).f0) ((rd_T120 x7 x9).f1) ((rd_T120 x7 x9).f2)))) else (none)) else (none)) else ((impl_in.f x252003 1 1000000).bind fun t261 => (if t261 = true then (if x3 ≤ 60000 then ((impl_namesOk.f k x252000 x252001 x252002 x252003 x252001).bind fun t262 => (if t262 = true then ((impl_namesOk.f k x252000 x252001 x252002 x252003 x252002).bind fun t263 => (some t263)) else (some false))) else (some false)) else (some false)))
def impl_DiskOk.j1 : Nat → Int → List (S120) → Int → Int → Bool → List (S120) → List (S126) → List (S126) → Int → Int → List Int → Int → Option (Bool)
 | 0, _, _, _, _, _, _, _, _, _, _, _, _ => none
 | k + 1, x3, x7, x8, x9, x61, x252000, x252001, x252002, x252003, x254000, x254001, x254002 => if x61 = true then (some false) else (impl_DiskOk.l0 k (wrap64 (x3 + (x254001.length : Int))) x7 x8 (wrap64 (x9 + 1)) x252000 x252001 x252002 x252003)
end
def impl_DiskOk.f (k : Nat) (l0_0 : List (S120)) (l0_1 : List (S126)) (l0_2 : List (S126)) (a0_3 : Int) : Option (Bool) := impl_DiskOk.l0 k 0 l0_0 (l0_0.length : Int) 0 l0_0 l0_1 l0_2 a0_3
theorem impl_DiskOk.mono_l : ∀ k, (∀ y0 y1 y2 y3 y4 y5 y6 y7, LeO (impl_DiskOk.l0 k y0 y1 y2 y3 y4 y5 y6 y7) (impl_DiskOk.l0 (k + 1) y0 y1 y2 y3 y4 y5 y6 y7)) ∧ (∀ y0 y1 y2 y3 y4 y5 y6 y7 y8 y9 y10 y11, LeO (impl_DiskOk.j1 k y0 y1 y2 y3 y4 y5 y6 y7 y8 y9 y10 y11) (impl_DiskOk.j1 (k + 1) y0 y1 y2 y3 y4 y5 y6 y7 y8 y9 y10 y11))
 | 0 => ⟨fun _ _ _ _ _ _ _ _ r h => by simp [impl_DiskOk.l0] at h, fun _ _ _ _ _ _ _ _ _ _ _ _ r h => by simp [impl_DiskOk.j1] at h⟩
 | k + 1 => by
  obtain ⟨ih0, ih1⟩ := impl_DiskOk.mono_l k
  refine ⟨?_, ?_⟩
  ·intro y0 y1 y2 y3 y4 y5 y6 y7
   unfold impl_DiskOk.l0
   repeat' first
   | (with_reducible exact ih0 _ _ _ _ _ _ _ _)
   | (with_reducible exact ih1 _ _ _ _ _ _ _ _ _ _ _ _)
   | (with_reducible exact impl_hasId.mono _ _ _)
   | (with_reducible exact impl_namesOk.mono _ _ _ _ _ _)
   | (with_reducible exact LeO.refl _)
   | (with_reducible exact LeO.none _)
   | (with_reducible refine LeO.ite ?_ ?_)
   | (with_reducible refine LeO.bind ?_ (fun _ => ?_))
   | exact ih0 _ _ _ _ _ _ _ _
   | exact ih1 _ _ _ _ _ _ _ _ _ _ _ _
   | exact impl_hasId.mono _ _ _
   | exact impl_namesOk.mono _ _ _ _ _ _
   | exact LeO.none _
   | refine LeO.ite ?_ ?_
   | refine LeO.bind ?_ (fun _ => ?_)
  ·intro y0 y1 y2 y3 y4 y5 y6 y7 y8 y9 y10 y11
   unfold impl_DiskOk.j1
   repeat' first
   | (with_reducible exact ih0 _ _ _ _ _ _ _ _)
   | (with_reducible exact ih1 _ _ _ _ _ _ _ _ _ _ _ _)
   | (with_reducible exact impl_hasId.mono _ _ _)
   | (with_reducible exact impl_namesOk.mono _ _ _ _ _ _)
   | (with_reducible exact LeO.refl _)
   | (with_reducible exact LeO.none _)
   | (with_reducible refine LeO.ite ?_ ?_)
   | (with_reducible refine LeO.bind ?_ (fun _ => ?_))
   | exact ih0 _ _ _ _ _ _ _ _
   | exact ih1 _ _ _ _ _ _ _ _ _ _ _ _
   | exact impl_hasId.mono _ _ _
   | exact impl_namesOk.mono _ _ _ _ _ _
   | exact LeO.none _
   | refine LeO.ite ?_ ?_
   | refine LeO.bind ?_ (fun _ => ?_)
theorem impl_DiskOk.mono : ∀ a0 a1 a2 a3 k, LeO (impl_DiskOk.f k a0 a1 a2 a3) (impl_DiskOk.f (k + 1) a0 a1 a2 a3) := by
 intro a0 a1 a2 a3 k
 obtain ⟨ih0, ih1⟩ := impl_DiskOk.mono_l k
 unfold impl_DiskOk.f
 repeat' first
   | (with_reducible exact ih0 _ _ _ _ _ _ _ _)
   | (with_reducible exact ih1 _ _ _ _ _ _ _ _ _ _ _ _)
   | (with_reducible exact impl_hasId.mono _ _ _)
   | (with_reducible exact impl_namesOk.mono _ _ _ _ _ _)
   | (with_reducible exact LeO.refl _)
   | (with_reducible exact LeO.none _)
   | (with_reducible refine LeO.ite ?_ ?_)
   | (with_reducible refine LeO.bind ?_ (fun _ => ?_))
   | exact ih0 _ _ _ _ _ _ _ _
   | exact ih1 _ _ _ _ _ _ _ _ _ _ _ _
   | exact impl_hasId.mono _ _ _
   | exact impl_namesOk.mono _ _ _ _ _ _
   | exact LeO.none _
   | refine LeO.ite ?_ ?_
   | refine LeO.bind ?_ (fun _ => ?_)
def impl_DiskOk.T5 : Bool × List (List Nat × List Nat) := (true, [([], []), ([0], [0]), ([], []), ([2], [2]), ([3], [3]), ([1, 4], [1, 4]), ([5], [5]), ([6, 5], [6]), ([7], [7]), ([8, 7], [7, 8]), ([7], [7]), ([10, 7], [7, 10]), ([11, 7], [7, 11]), ([9, 12, 7, 7], [7, 9, 12]), ([13, 7], [7, 13]), ([7, 14], [7, 14]), ([15, 13], [15]), ([16], [16]), ([17, 16], [16, 17]), ([18, 16, 16], [16, 18]), ([19], [19]), ([20, 19], [19, 20]), ([19], [19]), ([22, 19], [19, 22]), ([21, 23, 19], [19, 21, 23]), ([24, 19], [19, 24]), ([25, 19], [19, 25]), ([19], [19]), ([27, 19], [19, 27]), ([26, 28, 19], [19, 26, 28]), ([19, 29, 16], [16, 19, 29]), ([16, 30], [16, 30]), ([31, 19], [31]), ([32], [32]), ([33, 32], [32, 33]), ([32], [32]), ([35, 32], [32, 35]), ([34, 36, 32, 32], [32, 34, 36]), ([37, 32], [32, 37]), ([38, 37, 32], [32, 38]), ([39], [39]), ([40, 39], [39, 40]), ([39], [39]), ([42, 39], [39, 42]), ([41, 43, 39, 39], [39, 41, 43]), ([44, 39], [39, 44]), ([39, 45, 32], [32, 39, 45]), ([32, 46], [32, 46])])
def impl_DiskOk.B5 : List Nat := [0, 1, 0, 4, 12, 31, 63, 127, 255, 511, 255, 1279, 3327, 8191, 16383, 32767, 65535, 131071, 262143, 524287, 1048575, 2097151, 1048575, 5242879, 16777215, 33554431, 67108863, 1048575, 135266303, 536870911, 1073741823, 2147483647, 4294967295, 8589934591, 17179869183, 8589934591, 42949672959, 137438953471, 274877906943, 549755813887, 1099511627775, 2199023255551, 1099511627775, 5497558138879, 17592186044415, 35184372088831, 70368744177663, 140737488355327]
theorem impl_DiskOk.tab5 : rtab .any (opsOf Try.f46 5) = impl_DiskOk.T5 := by kernel_rfl
theorem impl_DiskOk.bits5 : waitsOk impl_DiskOk.T5.2 impl_DiskOk.B5 = true := by kernel_rfl
set_option maxHeartbeats 8000000 in
set_option maxRecDepth 100000 in
theorem impl_DiskOk.calls (k : Nat) (A0_0 : Option Addr) (c0_0 : Nat) (l0_0 : List (S120)) (A0_1 : Option Addr) (c0_1 : Nat) (l0_1 : List (S126)) (A0_2 : Option Addr) (c0_2 : Nat) (l0_2 : List (S126)) (a0_3 : Int) (r : Bool) (w : World) (hr0_0 : Kd.C k120 w A0_0 l0_0.length l0_0) (hc0_0 : l0_0.length ≤ c0_0) (hr0_1 : Kd.C k126 w A0_1 l0_1.length l0_1) (hc0_1 : l0_1.length ≤ c0_1) (hr0_2 : Kd.C k126 w A0_2 l0_2.length l0_2) (hc0_2 : l0_2.length ≤ c0_2) (h : impl_DiskOk.f k l0_0 l0_1 l0_2 a0_3 = some r) :
  Calls Try.prog 46 #[.agg #[.slice A0_0 l0_0.length c0_0, .slice A0_1 l0_1.length c0_1, .slice A0_2 l0_2.length c0_2, .int .i64 a0_3]] w fun e w' => e = .returned (.bool r) ∧ Below w.heap.size w w' := by
 have hu63 := Try.underlying63
 have hu120 := Try.underlying120
 have HR0_0 := mS hr0_0
 have HC0_0 := mS hc0_0
 clear hr0_0 hc0_0
 have HR0_1 := mS hr0_1
 have HC0_1 := mS hc0_1
 clear hr0_1 hc0_1
 have HR0_2 := mS hr0_2
 have HC0_2 := mS hc0_2
 clear hr0_2 hc0_2
 have HB := mS (Below.refl w.heap.size w)
 have H : (impl_DiskOk.l0 k 0 l0_0 (l0_0.length : Int) 0 l0_0 l0_1 l0_2 a0_3) = some r := h
 clear h
 have H' := mS H
 clear H
 go_enter Try.func46, Try.ntmps46
 go_wp2_with (first | ((with_reducible refine gate_dst (N := 1) rfl ?_); (try (refine gate_guard (by rfl) ?_; dsimp only)); refine box_event ?hg (N := 1) ?hd (cs := #[.slice A0_0 l0_0.length c0_0, .slice A0_1 l0_1.length c0_1, .slice A0_2 l0_2.length c0_2, .int .i64 a0_3]) (t := 63) ?hr ?_; (case hd => rfl); (case hg => rfl); (case hr => first | (go_simp; done) | (go_simp; rfl)); intro gb251 hg w2 hbox hb; have BK251 := mS (hbox); have GW251 := mG hg (mH HB.out); have GE251 := mG hg (mH HB.out); replace HB := mS (below_step (mH HB.out) hb); clear hb hbox hg; have hcz3_0 := mZ BK251.out 0; have hcz3_1 := mZ BK251.out 1; have hcz3_2 := mZ BK251.out 2; have hcz3_3 := mZ BK251.out 3; have hfz3_0 := blk_frozen BK251.out 0; have hfz3_1 := blk_frozen BK251.out 1; have hfz3_2 := blk_frozen BK251.out 2; have hfz3_3 := blk_frozen BK251.out 3))
 go_loopg [3, 9] k (fun kq v3 v9 w' => ∃ (x3_1 : Int) (x9_1 : Int), v3 = .int .i64 x3_1 ∧ v9 = .int .i64 x9_1 ∧ Aside0 (impl_DiskOk.l0 kq x3_1 l0_0 (l0_0.length : Int) x9_1 l0_0 l0_1 l0_2 a0_3 = some r) ∧ Aside0 (kq ≤ k) ∧ Aside0 (w'.heap[gb251]? = some (.cells #[(.slice A0_0 l0_0.length c0_0), (.slice A0_1 l0_1.length c0_1), (.slice A0_2 l0_2.length c0_2), .int .i64 a0_3] 63 (0, 0))) ∧ Aside0 (Below w.heap.size w w'))
 case atStart => exact ⟨(0), (0), (by first | rfl | (simp; done) | (simp [*]; done)), (by first | rfl | (simp; done) | (simp [*]; done)), H', ⟨Nat.le_refl _⟩, ⟨by (with_reducible repeat (first | refine blk_drewN ?_ _ | refine blk_drew ?_ | refine blk_alloc ?_ _)); exact BK251.out⟩, ⟨(mH1 HB.out GE251.out)⟩⟩
 case round =>
  clear H'
  try clear p2
  try clear hcz3_0
  try clear hcz3_1
  try clear hcz3_2
  try clear hcz3_3
  try clear hfz3_0
  try clear hfz3_1
  try clear hfz3_2
  try clear hfz3_3
  obtain ⟨x3_1, x9_1, rfl, rfl, HA, HK1, BK251, HB⟩ := hrel
  cases gk with
  | zero => exact absurd HA.out (by simp [impl_DiskOk.l0])
  | succ k1 =>
   have H := HA.out
   clear HA
   simp only [impl_DiskOk.l0] at H
   by_cases c4 : x9_1 < (l0_0.length : Int)
   ·rw [if_pos c4] at H
    have c4b0 : decide (x9_1 < (l0_0.length : Int)) = true := decide_eq_true c4
    clear c4
    by_cases c5 : 0 ≤ x9_1
    ·rw [if_pos c5] at H
     have c5b0 : decide (0 ≤ x9_1) = true := decide_eq_true c5
     clear c5
     by_cases c6 : x9_1 < (l0_0.length : Int)
     ·rw [if_pos c6] at H
      have c6b0 : decide (x9_1 < (l0_0.length : Int)) = true := decide_eq_true c6
      clear c6
      have HC7 := mS H
      clear H
      have p252 : 0 ≤ (x9_1 : Int) := of_decide_eq_true (by first | (with_reducible assumption) | assumption)
      have q252 : x9_1 < (l0_0.length : Int) := of_decide_eq_true (by first | (with_reducible assumption) | assumption)
      obtain ⟨ad252, A252_1, c252_1, e252, hx252_0, hx252_1, hx252_2, hl252_1, hi252_1⟩ := at_T120 HR0_0.out x9_1 p252 q252
      cases e252
      replace hx252_0 := mX HB.out hx252_0
      replace hx252_1 := mX HB.out hx252_1
      replace hx252_2 := mX HB.out hx252_2
      have HR252_1 := mS hi252_1
      have HC252_1 := mS hl252_1
      clear hi252_1 hl252_1
      replace p252 := eq_true p252
      replace q252 := eq_true q252
      go_upto_region 5 with (first | ((with_reducible refine gate_dst (N := 5) rfl ?_); (try (refine gate_guard (by rfl) ?_; dsimp only)); refine box_event ?hg (N := 5) ?hd (cs := #[.int .i64 0, .slice none 0 0, .int .i64 0]) (t := 120) ?hr ?_; (case hd => rfl); (case hg => rfl); (case hr => first | (go_simp; done) | (go_simp; rfl)); intro gb253 hg w8 hbox hb; have BK253 := mS (hbox); have GW253 := mG hg (mH1 HB.out GE251.out); have GE253 := mG hg (mH1 HB.out GE251.out); replace HB := mS (below_step (mH1 HB.out GE251.out) hb); have NB251_253 := mNl hg BK251.out; have NB253_251 := mNg hg BK251.out; replace BK251 := mB BK251 hb; clear hb hbox hg; have hnb9 := NB253_251.out; have hnc9 := NB251_253.out; have hcz10_0 := mZ BK253.out 0; have hcz10_1 := mZ BK253.out 1; have hcz10_2 := mZ BK253.out 2; have hfz10_0 := blk_frozen BK253.out 0; have hfz10_1 := blk_frozen BK253.out 1; have hfz10_2 := blk_frozen BK253.out 2))
      (try simp only [Act.put, zA, zB, zC])
      go_cut [61] (fun v61 wc => ∃ (kq : Nat) (x61_6 : Bool), v61 = .bool x61_6 ∧ Aside0 (impl_DiskOk.j1 kq x3_1 l0_0 (l0_0.length : Int) x9_1 x61_6 l0_0 l0_1 l0_2 a0_3 ((rd_T120 l0_0 x9_1).f0) ((rd_T120 l0_0 x9_1).f1) ((rd_T120 l0_0 x9_1).f2) = some r) ∧ Aside0 (kq ≤ k1) ∧ Aside0 (wc.heap[gb251]? = some (.cells #[(.slice (some ad252) l0_0.length c0_0), (.slice A0_1 l0_1.length c0_1), (.slice A0_2 l0_2.length c0_2), .int .i64 a0_3] 63 (0, 0))) ∧ Aside0 (wc.heap[gb253]? = some (.cells #[.int .i64 ((rd_T120 l0_0 x9_1).f0), (.slice A252_1 ((rd_T120 l0_0 x9_1).f1).length c252_1), .int .i64 ((rd_T120 l0_0 x9_1).f2)] 120 (0, 0))) ∧ Aside0 (Below w.heap.size w wc))
      case first =>
       have H := HC7.out
       clear HC7
       replace H := Option.bind_eq_some_iff.mp H
       obtain ⟨t254, A110, H⟩ := H
       replace H : (if t254 = true then ((impl_in.f ((rd_T120 l0_0 x9_1).f2) 0 (((rd_T120 l0_0 x9_1).f1).length : Int)).bind fun t255 => (if t255 = true then (if x9_1 > 0 then (if 0 ≤ (wrap64 (x9_1 - 1)) then (if (wrap64 (x9_1 - 1)) < (l0_0.length : Int) then (if ((rd_T120 l0_0 (wrap64 (x9_1 - 1))).f0) ≥ ((rd_T120 l0_0 x9_1).f0) then (impl_DiskOk.j1 k1 x3_1 l0_0 (l0_0.length : Int) x9_1 true l0_0 l0_1 l0_2 a0_3 ((rd_T120 l0_0 x9_1).f0) ((rd_T120 l0_0 x9_1).f1) ((rd_T120 l0_0 x9_1).f2)) else ((impl_hasId.f k1 l0_1 ((rd_T120 l0_0 x9_1).f0)).bind fun t257 => (if t257 = true then (impl_DiskOk.j1 k1 x3_1 l0_0 (l0_0.length : Int) x9_1 false l0_0 l0_1 l0_2 a0_3 ((rd_T120 l0_0 x9_1).f0) ((rd_T120 l0_0 x9_1).f1) ((rd_T120 l0_0 x9_1).f2)) else ((impl_hasId.f k1 l0_2 ((rd_T120 l0_0 x9_1).f0)).bind fun t258 => (impl_DiskOk.j1 k1 x3_1 l0_0 (l0_0.length : Int) x9_1 (!t258) l0_0 l0_1 l0_2 a0_3 ((rd_T120 l0_0 x9_1).f0) ((rd_T120 l0_0 x9_1).f1) ((rd_T120 l0_0 x9_1).f2)))))) else (none)) else (none)) else ((impl_hasId.f k1 l0_1 ((rd_T120 l0_0 x9_1).f0)).bind fun t259 => (if t259 = true then (impl_DiskOk.j1 k1 x3_1 l0_0 (l0_0.length : Int) x9_1 false l0_0 l0_1 l0_2 a0_3 ((rd_T120 l0_0 x9_1).f0) ((rd_T120 l0_0 x9_1).f1) ((rd_T120 l0_0 x9_1).f2)) else ((impl_hasId.f k1 l0_2 ((rd_T120 l0_0 x9_1).f0)).bind fun t260 => (impl_DiskOk.j1 k1 x3_1 l0_0 (l0_0.length : Int) x9_1 (!t260) l0_0 l0_1 l0_2 a0_3 ((rd_T120 l0_0 x9_1).f0) ((rd_T120 l0_0 x9_1).f1) ((rd_T120 l0_0 x9_1).f2)))))) else (impl_DiskOk.j1 k1 x3_1 l0_0 (l0_0.length : Int) x9_1 true l0_0 l0_1 l0_2 a0_3 ((rd_T120 l0_0 x9_1).f0) ((rd_T120 l0_0 x9_1).f1) ((rd_T120 l0_0 x9_1).f2)))) else (impl_DiskOk.j1 k1 x3_1 l0_0 (l0_0.length : Int) x9_1 true l0_0 l0_1 l0_2 a0_3 ((rd_T120 l0_0 x9_1).f0) ((rd_T120 l0_0 x9_1).f1) ((rd_T120 l0_0 x9_1).f2))) = some r := H
       have A11 := mS A110
       clear A110
       by_cases c12 : t254 = true
       ·subst c12
        have H1 : ((impl_in.f ((rd_T120 l0_0 x9_1).f2) 0 (((rd_T120 l0_0 x9_1).f1).length : Int)).bind fun t255 => (if t255 = true then (if x9_1 > 0 then (if 0 ≤ (wrap64 (x9_1 - 1)) then (if (wrap64 (x9_1 - 1)) < (l0_0.length : Int) then (if ((rd_T120 l0_0 (wrap64 (x9_1 - 1))).f0) ≥ ((rd_T120 l0_0 x9_1).f0) then (impl_DiskOk.j1 k1 x3_1 l0_0 (l0_0.length : Int) x9_1 true l0_0 l0_1 l0_2 a0_3 ((rd_T120 l0_0 x9_1).f0) ((rd_T120 l0_0 x9_1).f1) ((rd_T120 l0_0 x9_1).f2)) else ((impl_hasId.f k1 l0_1 ((rd_T120 l0_0 x9_1).f0)).bind fun t257 => (if t257 = true then (impl_DiskOk.j1 k1 x3_1 l0_0 (l0_0.length : Int) x9_1 false l0_0 l0_1 l0_2 a0_3 ((rd_T120 l0_0 x9_1).f0) ((rd_T120 l0_0 x9_1).f1) ((rd_T120 l0_0 x9_1).f2)) else ((impl_hasId.f k1 l0_2 ((rd_T120 l0_0 x9_1).f0)).bind fun t258 => (impl_DiskOk.j1 k1 x3_1 l0_0 (l0_0.length : Int) x9_1 (!t258) l0_0 l0_1 l0_2 a0_3 ((rd_T120 l0_0 x9_1).f0) ((rd_T120 l0_0 x9_1).f1) ((rd_T120 l0_0 x9_1).f2)))))) else (none)) else (none)) else ((impl_hasId.f k1 l0_1 ((rd_T120 l0_0 x9_1).f0)).bind fun t259 => (if t259 = true then (impl_DiskOk.j1 k1 x3_1 l0_0 (l0_0.length : Int) x9_1 false l0_0 l0_1 l0_2 a0_3 ((rd_T120 l0_0 x9_1).f0) ((rd_T120 l0_0 x9_1).f1) ((rd_T120 l0_0 x9_1).f2)) else ((impl_hasId.f k1 l0_2 ((rd_T120 l0_0 x9_1).f0)).bind fun t260 => (impl_DiskOk.j1 k1 x3_1 l0_0 (l0_0.length : Int) x9_1 (!t260) l0_0 l0_1 l0_2 a0_3 ((rd_T120 l0_0 x9_1).f0) ((rd_T120 l0_0 x9_1).f1) ((rd_T120 l0_0 x9_1).f2)))))) else (impl_DiskOk.j1 k1 x3_1 l0_0 (l0_0.length : Int) x9_1 true l0_0 l0_1 l0_2 a0_3 ((rd_T120 l0_0 x9_1).f0) ((rd_T120 l0_0 x9_1).f1) ((rd_T120 l0_0 x9_1).f2)))) = some r := by rw [if_pos rfl] at H; exact H
        clear H
        have H := H1
        clear H1
        replace H := Option.bind_eq_some_iff.mp H
        obtain ⟨t255, A130, H⟩ := H
        replace H : (if t255 = true then (if x9_1 > 0 then (if 0 ≤ (wrap64 (x9_1 - 1)) then (if (wrap64 (x9_1 - 1)) < (l0_0.length : Int) then (if ((rd_T120 l0_0 (wrap64 (x9_1 - 1))).f0) ≥ ((rd_T120 l0_0 x9_1).f0) then (impl_DiskOk.j1 k1 x3_1 l0_0 (l0_0.length : Int) x9_1 true l0_0 l0_1 l0_2 a0_3 ((rd_T120 l0_0 x9_1).f0) ((rd_T120 l0_0 x9_1).f1) ((rd_T120 l0_0 x9_1).f2)) else ((impl_hasId.f k1 l0_1 ((rd_T120 l0_0 x9_1).f0)).bind fun t257 => (if t257 = true then (impl_DiskOk.j1 k1 x3_1 l0_0 (l0_0.length : Int) x9_1 false l0_0 l0_1 l0_2 a0_3 ((rd_T120 l0_0 x9_1).f0) ((rd_T120 l0_0 x9_1).f1) ((rd_T120 l0_0 x9_1).f2)) else ((impl_hasId.f k1 l0_2 ((rd_T120 l0_0 x9_1).f0)).bind fun t258 => (impl_DiskOk.j1 k1 x3_1 l0_0 (l0_0.length : Int) x9_1 (!t258) l0_0 l0_1 l0_2 a0_3 ((rd_T120 l0_0 x9_1).f0) ((rd_T120 l0_0 x9_1).f1) ((rd_T120 l0_0 x9_1).f2)))))) else (none)) else (none)) else ((impl_hasId.f k1 l0_1 ((rd_T120 l0_0 x9_1).f0)).bind fun t259 => (if t259 = true then (impl_DiskOk.j1 k1 x3_1 l0_0 (l0_0.length : Int) x9_1 false l0_0 l0_1 l0_2 a0_3 ((rd_T120 l0_0 x9_1).f0) ((rd_T120 l0_0 x9_1).f1) ((rd_T120 l0_0 x9_1).f2)) else ((impl_hasId.f k1 l0_2 ((rd_T120 l0_0 x9_1).f0)).bind fun t260 => (impl_DiskOk.j1 k1 x3_1 l0_0 (l0_0.length : Int) x9_1 (!t260) l0_0 l0_1 l0_2 a0_3 ((rd_T120 l0_0 x9_1).f0) ((rd_T120 l0_0 x9_1).f1) ((rd_T120 l0_0 x9_1).f2)))))) else (impl_DiskOk.j1 k1 x3_1 l0_0 (l0_0.length : Int) x9_1 true l0_0 l0_1 l0_2 a0_3 ((rd_T120 l0_0 x9_1).f0) ((rd_T120 l0_0 x9_1).f1) ((rd_T120 l0_0 x9_1).f2))) = some r := H
        have A13 := mS A130
        clear A130
        by_cases c14 : t255 = true
        ·subst c14
         have H1 : (if x9_1 > 0 then (if 0 ≤ (wrap64 (x9_1 - 1)) then (if (wrap64 (x9_1 - 1)) < (l0_0.length : Int) then (if ((rd_T120 l0_0 (wrap64 (x9_1 - 1))).f0) ≥ ((rd_T120 l0_0 x9_1).f0) then (impl_DiskOk.j1 k1 x3_1 l0_0 (l0_0.length : Int) x9_1 true l0_0 l0_1 l0_2 a0_3 ((rd_T120 l0_0 x9_1).f0) ((rd_T120 l0_0 x9_1).f1) ((rd_T120 l0_0 x9_1).f2)) else ((impl_hasId.f k1 l0_1 ((rd_T120 l0_0 x9_1).f0)).bind fun t257 => (if t257 = true then (impl_DiskOk.j1 k1 x3_1 l0_0 (l0_0.length : Int) x9_1 false l0_0 l0_1 l0_2 a0_3 ((rd_T120 l0_0 x9_1).f0) ((rd_T120 l0_0 x9_1).f1) ((rd_T120 l0_0 x9_1).f2)) else ((impl_hasId.f k1 l0_2 ((rd_T120 l0_0 x9_1).f0)).bind fun t258 => (impl_DiskOk.j1 k1 x3_1 l0_0 (l0_0.length : Int) x9_1 (!t258) l0_0 l0_1 l0_2 a0_3 ((rd_T120 l0_0 x9_1).f0) ((rd_T120 l0_0 x9_1).f1) ((rd_T120 l0_0 x9_1).f2)))))) else (none)) else (none)) else ((impl_hasId.f k1 l0_1 ((rd_T120 l0_0 x9_1).f0)).bind fun t259 => (if t259 = true then (impl_DiskOk.j1 k1 x3_1 l0_0 (l0_0.length : Int) x9_1 false l0_0 l0_1 l0_2 a0_3 ((rd_T120 l0_0 x9_1).f0) ((rd_T120 l0_0 x9_1).f1) ((rd_T120 l0_0 x9_1).f2)) else ((impl_hasId.f k1 l0_2 ((rd_T120 l0_0 x9_1).f0)).bind fun t260 => (impl_DiskOk.j1 k1 x3_1 l0_0 (l0_0.length : Int) x9_1 (!t260) l0_0 l0_1 l0_2 a0_3 ((rd_T120 l0_0 x9_1).f0) ((rd_T120 l0_0 x9_1).f1) ((rd_T120 l0_0 x9_1).f2)))))) = some r := by rw [if_pos rfl] at H; exact H
         clear H
         have H := H1
         clear H1
         by_cases c15 : x9_1 > 0
         ·rw [if_pos c15] at H
          have c15b0 : decide (0 < x9_1) = true := decide_eq_true c15
          clear c15
          (first | rw [c15b0] | (simp only [i64_w, i32_w]; rw [c15b0]) | skip)
          obtain ⟨ji16, hji16⟩ : ∃ j_ : Int, (wrap64 (x9_1 - 1)) = j_ := ⟨_, rfl⟩
          replace H : (if 0 ≤ (ji16) then (if (ji16) < (l0_0.length : Int) then (if ((rd_T120 l0_0 (ji16)).f0) ≥ ((rd_T120 l0_0 x9_1).f0) then (impl_DiskOk.j1 k1 x3_1 l0_0 (l0_0.length : Int) x9_1 true l0_0 l0_1 l0_2 a0_3 ((rd_T120 l0_0 x9_1).f0) ((rd_T120 l0_0 x9_1).f1) ((rd_T120 l0_0 x9_1).f2)) else ((impl_hasId.f k1 l0_1 ((rd_T120 l0_0 x9_1).f0)).bind fun t257 => (if t257 = true then (impl_DiskOk.j1 k1 x3_1 l0_0 (l0_0.length : Int) x9_1 false l0_0 l0_1 l0_2 a0_3 ((rd_T120 l0_0 x9_1).f0) ((rd_T120 l0_0 x9_1).f1) ((rd_T120 l0_0 x9_1).f2)) else ((impl_hasId.f k1 l0_2 ((rd_T120 l0_0 x9_1).f0)).bind fun t258 => (impl_DiskOk.j1 k1 x3_1 l0_0 (l0_0.length : Int) x9_1 (!t258) l0_0 l0_1 l0_2 a0_3 ((rd_T120 l0_0 x9_1).f0) ((rd_T120 l0_0 x9_1).f1) ((rd_T120 l0_0 x9_1).f2)))))) else (none)) else (none)) = some r := by first | (rw [hji16] at H; exact H) | (simp only [hji16] at H ⊢; exact H)
          (try rw [hji16] at A11)
          (try rw [hji16] at A13)
          have hji16w : (IntKind.i64.wrap (x9_1 - 1)) = ji16 := (i64_w _).trans hji16
          by_cases c17 : 0 ≤ (ji16)
          ·rw [if_pos c17] at H
           have c17b0 : decide (0 ≤ (ji16)) = true := decide_eq_true c17
           clear c17
           by_cases c18 : (ji16) < (l0_0.length : Int)
           ·rw [if_pos c18] at H
            have c18b0 : decide ((ji16) < (l0_0.length : Int)) = true := decide_eq_true c18
            clear c18
            by_cases c19 : ((rd_T120 l0_0 (ji16)).f0) ≥ ((rd_T120 l0_0 x9_1).f0)
            ·rw [if_pos c19] at H
             have c19b0 : decide (((rd_T120 l0_0 x9_1).f0) ≤ ((rd_T120 l0_0 (ji16)).f0)) = true := decide_eq_true c19
             clear c19
             have H' := mS H
             clear H
             try go_wp2
             have n0_ : Aside0 ((((w8.setCell ⟨gb253, 0, none⟩ (.int .i64 ((rd_T120 l0_0 x9_1).f0))).setCell ⟨gb253, 1, none⟩ (.slice A252_1 ((rd_T120 l0_0 x9_1).f1).length c252_1)).setCell ⟨gb253, 2, none⟩ (.int .i64 ((rd_T120 l0_0 x9_1).f2))).heap[gb251]? = some (.cells #[.slice (some ad252) l0_0.length c0_0, .slice A0_1 l0_1.length c0_1, .slice A0_2 l0_2.length c0_2, .int .i64 a0_3] 63 (0, 0))) := ⟨by (with_reducible repeat (first | refine blk_drewN ?_ _ | refine blk_drew ?_ | refine blk_alloc ?_ _)); refine blk_far ?_ NB251_253.out _; (with_reducible repeat (first | refine blk_drewN ?_ _ | refine blk_drew ?_ | refine blk_alloc ?_ _)); refine blk_far ?_ NB251_253.out _; (with_reducible repeat (first | refine blk_drewN ?_ _ | refine blk_drew ?_ | refine blk_alloc ?_ _)); refine blk_far ?_ NB251_253.out _; (with_reducible repeat (first | refine blk_drewN ?_ _ | refine blk_drew ?_ | refine blk_alloc ?_ _)); exact BK251.out⟩
             have n1_ : Aside0 ((((w8.setCell ⟨gb253, 0, none⟩ (.int .i64 ((rd_T120 l0_0 x9_1).f0))).setCell ⟨gb253, 1, none⟩ (.slice A252_1 ((rd_T120 l0_0 x9_1).f1).length c252_1)).setCell ⟨gb253, 2, none⟩ (.int .i64 ((rd_T120 l0_0 x9_1).f2))).heap[gb253]? = some (.cells #[.int .i64 ((rd_T120 l0_0 x9_1).f0), .slice A252_1 ((rd_T120 l0_0 x9_1).f1).length c252_1, .int .i64 ((rd_T120 l0_0 x9_1).f2)] 120 (0, 0))) := ⟨by (with_reducible repeat (first | refine blk_drewN ?_ _ | refine blk_drew ?_ | refine blk_alloc ?_ _)); refine blk_put (cs := #[.int .i64 ((rd_T120 l0_0 x9_1).f0), .slice A252_1 ((rd_T120 l0_0 x9_1).f1).length c252_1, .int .i64 0]) ?_ 2 _ rfl; (with_reducible repeat (first | refine blk_drewN ?_ _ | refine blk_drew ?_ | refine blk_alloc ?_ _)); refine blk_put (cs := #[.int .i64 ((rd_T120 l0_0 x9_1).f0), .slice none 0 0, .int .i64 0]) ?_ 1 _ rfl; (with_reducible repeat (first | refine blk_drewN ?_ _ | refine blk_drew ?_ | refine blk_alloc ?_ _)); refine blk_put (cs := #[.int .i64 0, .slice none 0 0, .int .i64 0]) ?_ 0 _ rfl; (with_reducible repeat (first | refine blk_drewN ?_ _ | refine blk_drew ?_ | refine blk_alloc ?_ _)); exact BK253.out⟩
             have n2_ : Aside0 (Below w.heap.size w (((w8.setCell ⟨gb253, 0, none⟩ (.int .i64 ((rd_T120 l0_0 x9_1).f0))).setCell ⟨gb253, 1, none⟩ (.slice A252_1 ((rd_T120 l0_0 x9_1).f1).length c252_1)).setCell ⟨gb253, 2, none⟩ (.int .i64 ((rd_T120 l0_0 x9_1).f2)))) := ⟨(mH2 HB.out GE251.out GE253.out)⟩
             (try clear BK251)
             (try clear BK253)
             (try clear HB)
             generalize (((w8.setCell ⟨gb253, 0, none⟩ (.int .i64 ((rd_T120 l0_0 x9_1).f0))).setCell ⟨gb253, 1, none⟩ (.slice A252_1 ((rd_T120 l0_0 x9_1).f1).length c252_1)).setCell ⟨gb253, 2, none⟩ (.int .i64 ((rd_T120 l0_0 x9_1).f2))) = w20 at n0_ n1_ n2_ ⊢
             have BK251 := n0_
             have BK253 := n1_
             have HB := n2_
             clear n0_ n1_ n2_
             have n0_ := mS (blk_drew BK251.out)
             have n1_ := mS (blk_drew BK253.out)
             have n2_ := mS (below_drew1 HB.out)
             clear BK251
             clear BK253
             clear HB
             have BK251 := n0_
             have BK253 := n1_
             have HB := n2_
             clear n0_ n1_ n2_
             have p256 : 0 ≤ ((ji16) : Int) := of_decide_eq_true (by first | (with_reducible assumption) | assumption)
             have q256 : (ji16) < (l0_0.length : Int) := of_decide_eq_true (by first | (with_reducible assumption) | assumption)
             obtain ⟨ad256, A256_1, c256_1, e256, hx256_0, hx256_1, hx256_2, hl256_1, hi256_1⟩ := at_T120 HR0_0.out (ji16) p256 q256
             have hw256_2 := hx256_2
             have hw256_1 := hx256_1
             have hw256_0 := hx256_0
             obtain rfl : ad252 = ad256 := (by injection e256)
             replace hx256_0 := mX HB.out hx256_0
             replace hx256_1 := mX HB.out hx256_1
             replace hx256_2 := mX HB.out hx256_2
             have HR256_1 := mS hi256_1
             have HC256_1 := mS hl256_1
             clear hi256_1 hl256_1
             replace p256 := eq_true p256
             replace q256 := eq_true q256
             refine start_ (n := 48) (S := fun w' => w'.cell? ⟨gb253, 0, none⟩ = some (.int .i64 ((rd_T120 l0_0 x9_1).f0)) ∧ w'.cell? ⟨gb253, 1, none⟩ = some (.slice A252_1 ((rd_T120 l0_0 x9_1).f1).length c252_1) ∧ w'.cell? ⟨gb253, 2, none⟩ = some (.int .i64 ((rd_T120 l0_0 x9_1).f2)) ∧ w'.cell? ⟨gb251, 0, none⟩ = some (.slice (some ad252) l0_0.length c0_0) ∧ w'.cell? ⟨gb251, 1, none⟩ = some (.slice A0_1 l0_1.length c0_1) ∧ w'.cell? ⟨gb251, 2, none⟩ = some (.slice A0_2 l0_2.length c0_2) ∧ w'.cell? ⟨gb251, 3, none⟩ = some (.int .i64 a0_3) ∧ w'.cell? (ad252.add (((ji16)).toNat * 3)) = some (.int .i64 ((rd_T120 l0_0 (ji16)).f0)) ∧ w'.cell? ⟨(ad252.add (((ji16)).toNat * 3)).block, (ad252.add (((ji16)).toNat * 3)).off + 1, none⟩ = some (.slice A256_1 ((rd_T120 l0_0 (ji16)).f1).length c256_1) ∧ w'.cell? ⟨(ad252.add (((ji16)).toNat * 3)).block, (ad252.add (((ji16)).toNat * 3)).off + 2, none⟩ = some (.int .i64 ((rd_T120 l0_0 (ji16)).f2))) (ds := []) (mb 0 48) (by kernel_rfl) rfl rfl ⟨mZ BK253.out 0, mZ BK253.out 1, mZ BK253.out 2, mZ BK251.out 0, mZ BK251.out 1, mZ BK251.out 2, mZ BK251.out 3, ((HB.out.cell (World.block_lt_of_cell? w _ hw256_0)).trans hw256_0), ((HB.out.cell (World.block_lt_of_cell? w _ hw256_1)).trans hw256_1), ((HB.out.cell (World.block_lt_of_cell? w _ hw256_2)).trans hw256_2)⟩ (fun hHeld => ?_); refine with_tabW impl_DiskOk.tab5 impl_DiskOk.bits5 (fun HT_ HW_ => ?_)
             generalize w20.drew = w21 at BK251 BK253 HB HR256_1 hx256_0 hx256_1 hx256_2 hHeld ⊢
             refine mpu 0 14 HT_.out (mb 1 47) ?_
             refine mpu 2 16 HT_.out #[true, false, true, false, false, false, false, false, false, false, false, false, false, false, false, false, false, false, false, false, false, false, false, false, false, false, false, false, false, false, false, false, false, false, false, false, false, false, false, false, false, false, false, false, false, false, false, false] ?_
             refine mpt 1 15 HT_.out HW_.out (mb 3 45) hHeld ?_
             refine mpt 3 17 HT_.out HW_.out (mb 4 44) hHeld ?_
             refine mpu 4 18 HT_.out (mb 5 43) ?_
             refine one_ (i := 5) (N := some 19) (mb 6 42) rfl rfl (one_of HT_.out (by kernel_rfl)) (by decide) (fun K hK => ?_)
             refine goes_ Try.func98 (by kernel_rfl) rfl #[.int .i64 ((rd_T120 l0_0 x9_1).f0), .int .i64 1, .int .i64 (wrap64 (a0_3 - 1))] (by rfl) rfl rfl mA ?_
             with_reducible refine (impl_in.calls ((rd_T120 l0_0 x9_1).f0) 1 (wrap64 (a0_3 - 1)) true _ A11.out).mono ?_
             rintro e w' ⟨rfl, ⟨nd, rfl⟩⟩
             refine ⟨_, rfl, ?_⟩
             refine hK.out _ _ ⟨mZ BK253.out 0, mZ BK253.out 1, mZ BK253.out 2, mZ BK251.out 0, mZ BK251.out 1, mZ BK251.out 2, mZ BK251.out 3, ((HB.out.cell (World.block_lt_of_cell? w _ hw256_0)).trans hw256_0), ((HB.out.cell (World.block_lt_of_cell? w _ hw256_1)).trans hw256_1), ((HB.out.cell (World.block_lt_of_cell? w _ hw256_2)).trans hw256_2)⟩ (fun hHeld => ?_)
             clear hK K
             refine norm_ (a' := ?_) ?_ ?_
             rotate_left
             ·show Act.put _ (some 19) _ = _
              simp only [Act.put, zA, zB, zC, i64_w, i32_w]
              rfl
             refine mpu 6 20 HT_.out (mb 7 41) ?_
             refine mpu 7 21 HT_.out (mb 8 40) ?_
             refine mpu 8 22 HT_.out (mb 9 39) ?_
             refine mpu 10 24 HT_.out #[true, true, true, true, true, true, true, true, true, false, true, false, false, false, false, false, false, false, false, false, false, false, false, false, false, false, false, false, false, false, false, false, false, false, false, false, false, false, false, false, false, false, false, false, false, false, false, false] ?_
             refine mpt 9 23 HT_.out HW_.out (mb 11 37) hHeld ?_
             refine mpt 11 25 HT_.out HW_.out (mb 12 36) hHeld ?_
             refine mpu 12 26 HT_.out (mb 13 35) ?_
             refine one_ (i := 13) (N := some 27) (mb 14 34) rfl rfl (one_of HT_.out (by kernel_rfl)) (by decide) (fun K hK => ?_)
             refine goes_ Try.func98 (by kernel_rfl) rfl #[.int .i64 ((rd_T120 l0_0 x9_1).f2), .int .i64 0, .int .i64 (((rd_T120 l0_0 x9_1).f1).length : Int)] (by rfl) rfl rfl mA ?_
             with_reducible refine (impl_in.calls ((rd_T120 l0_0 x9_1).f2) 0 (((rd_T120 l0_0 x9_1).f1).length : Int) true _ A13.out).mono ?_
             rintro e w' ⟨rfl, ⟨nd, rfl⟩⟩
             refine ⟨_, rfl, ?_⟩
             refine hK.out _ _ ⟨mZ BK253.out 0, mZ BK253.out 1, mZ BK253.out 2, mZ BK251.out 0, mZ BK251.out 1, mZ BK251.out 2, mZ BK251.out 3, ((HB.out.cell (World.block_lt_of_cell? w _ hw256_0)).trans hw256_0), ((HB.out.cell (World.block_lt_of_cell? w _ hw256_1)).trans hw256_1), ((HB.out.cell (World.block_lt_of_cell? w _ hw256_2)).trans hw256_2)⟩ (fun hHeld => ?_)
             clear hK K
             refine norm_ (a' := ?_) ?_ ?_
             rotate_left
             ·show Act.put _ (some 27) _ = _
              simp only [Act.put, zA, zB, zC, i64_w, i32_w]
              rfl
             refine mpu 14 28 HT_.out (mb 15 33) ?_
             refine mpu 15 29 HT_.out (mb 16 32) ?_
             refine mpu 16 30 HT_.out (mb 17 31) ?_
             refine mpu 17 31 HT_.out (mb 18 30) ?_
             refine mpu 18 32 HT_.out (mb 19 29) ?_
             refine mpu 19 33 HT_.out (mb 20 28) ?_
             refine mpu 20 34 HT_.out (mb 21 27) ?_
             refine mpu 22 36 HT_.out #[true, true, true, true, true, true, true, true, true, true, true, true, true, true, true, true, true, true, true, true, true, false, true, false, false, false, false, false, false, false, false, false, false, false, false, false, false, false, false, false, false, false, false, false, false, false, false, false] ?_
             refine mpu 23 37 HT_.out #[true, true, true, true, true, true, true, true, true, true, true, true, true, true, true, true, true, true, true, true, true, false, true, true, false, false, false, false, false, false, false, false, false, false, false, false, false, false, false, false, false, false, false, false, false, false, false, false] ?_
             refine mpu 27 41 HT_.out #[true, true, true, true, true, true, true, true, true, true, true, true, true, true, true, true, true, true, true, true, true, false, true, true, false, false, false, true, false, false, false, false, false, false, false, false, false, false, false, false, false, false, false, false, false, false, false, false] ?_
             refine mpt 21 35 HT_.out HW_.out #[true, true, true, true, true, true, true, true, true, true, true, true, true, true, true, true, true, true, true, true, true, true, true, true, false, false, false, true, false, false, false, false, false, false, false, false, false, false, false, false, false, false, false, false, false, false, false, false] hHeld ?_
             refine mpu 24 38 HT_.out #[true, true, true, true, true, true, true, true, true, true, true, true, true, true, true, true, true, true, true, true, true, true, true, true, true, false, false, true, false, false, false, false, false, false, false, false, false, false, false, false, false, false, false, false, false, false, false, false] ?_
             refine mpu 25 39 HT_.out #[true, true, true, true, true, true, true, true, true, true, true, true, true, true, true, true, true, true, true, true, true, true, true, true, true, true, false, true, false, false, false, false, false, false, false, false, false, false, false, false, false, false, false, false, false, false, false, false] ?_
             refine mpt 26 40 HT_.out HW_.out (mb 28 20) hHeld ?_
             refine mpt 28 42 HT_.out HW_.out (mb 29 19) hHeld ?_
             refine mpu 29 43 HT_.out (mb 30 18) ?_
             refine mpu 30 44 HT_.out (mb 31 17) ?_
             refine mpu 31 45 HT_.out (mb 32 16) ?_
             refine mpu 32 46 HT_.out (mb 33 15) ?_
             refine mpf 33 47 HT_.out (mb 34 14) ?_
             refine mpf 34 48 HT_.out (mb 35 13) ?_
             refine mpf 35 49 HT_.out (mb 36 12) ?_
             refine mpf 36 50 HT_.out (mb 37 11) ?_
             refine mpf 37 51 HT_.out (mb 38 10) ?_
             refine mpf 38 52 HT_.out (mb 39 9) ?_
             refine mpf 39 53 HT_.out (mb 40 8) ?_
             refine mpf 40 54 HT_.out (mb 41 7) ?_
             refine mpf 41 55 HT_.out (mb 42 6) ?_
             refine mpf 42 56 HT_.out (mb 43 5) ?_
             refine mpf 43 57 HT_.out (mb 44 4) ?_
             refine mpf 44 58 HT_.out (mb 45 3) ?_
             refine mpf 45 59 HT_.out (mb 46 2) ?_
             refine mpf 46 60 HT_.out (mb 47 1) ?_
             refine mpu 47 61 HT_.out (mb 48 0) ?_
             refine done_ (done_of HT_.out (by kernel_rfl)) ?_
             try go_wp2
             go_meet
             case rel => exact ⟨_, (true), (by first | rfl | (simp; done) | (simp [*]; done)), H', ⟨by have := HK1.out; first | omega | exact Nat.le_refl _⟩, ⟨by (with_reducible repeat (first | refine blk_drewN ?_ _ | refine blk_drew ?_ | refine blk_alloc ?_ _)); exact BK251.out⟩, ⟨by (with_reducible repeat (first | refine blk_drewN ?_ _ | refine blk_drew ?_ | refine blk_alloc ?_ _)); exact BK253.out⟩, ⟨(mH2 HB.out GE251.out GE253.out)⟩⟩
            ·rw [if_neg c19] at H
             have c19b0 : decide (((rd_T120 l0_0 x9_1).f0) ≤ ((rd_T120 l0_0 (ji16)).f0)) = false := decide_eq_false c19
             clear c19
             replace H := Option.bind_eq_some_iff.mp H
             obtain ⟨t257, A220, H⟩ := H
             replace H : (if t257 = true then (impl_DiskOk.j1 k1 x3_1 l0_0 (l0_0.length : Int) x9_1 false l0_0 l0_1 l0_2 a0_3 ((rd_T120 l0_0 x9_1).f0) ((rd_T120 l0_0 x9_1).f1) ((rd_T120 l0_0 x9_1).f2)) else ((impl_hasId.f k1 l0_2 ((rd_T120 l0_0 x9_1).f0)).bind fun t258 => (impl_DiskOk.j1 k1 x3_1 l0_0 (l0_0.length : Int) x9_1 (!t258) l0_0 l0_1 l0_2 a0_3 ((rd_T120 l0_0 x9_1).f0) ((rd_T120 l0_0 x9_1).f1) ((rd_T120 l0_0 x9_1).f2)))) = some r := H
             have A22 := mS A220
             clear A220
             by_cases c23 : t257 = true
             ·subst c23
              have H1 : (impl_DiskOk.j1 k1 x3_1 l0_0 (l0_0.length : Int) x9_1 false l0_0 l0_1 l0_2 a0_3 ((rd_T120 l0_0 x9_1).f0) ((rd_T120 l0_0 x9_1).f1) ((rd_T120 l0_0 x9_1).f2)) = some r := by rw [if_pos rfl] at H; exact H
              clear H
              have H := H1
              clear H1
              have H' := mS H
              clear H
              try go_wp2
              have n0_ : Aside0 ((((w8.setCell ⟨gb253, 0, none⟩ (.int .i64 ((rd_T120 l0_0 x9_1).f0))).setCell ⟨gb253, 1, none⟩ (.slice A252_1 ((rd_T120 l0_0 x9_1).f1).length c252_1)).setCell ⟨gb253, 2, none⟩ (.int .i64 ((rd_T120 l0_0 x9_1).f2))).heap[gb251]? = some (.cells #[.slice (some ad252) l0_0.length c0_0, .slice A0_1 l0_1.length c0_1, .slice A0_2 l0_2.length c0_2, .int .i64 a0_3] 63 (0, 0))) := ⟨by (with_reducible repeat (first | refine blk_drewN ?_ _ | refine blk_drew ?_ | refine blk_alloc ?_ _)); refine blk_far ?_ NB251_253.out _; (with_reducible repeat (first | refine blk_drewN ?_ _ | refine blk_drew ?_ | refine blk_alloc ?_ _)); refine blk_far ?_ NB251_253.out _; (with_reducible repeat (first | refine blk_drewN ?_ _ | refine blk_drew ?_ | refine blk_alloc ?_ _)); refine blk_far ?_ NB251_253.out _; (with_reducible repeat (first | refine blk_drewN ?_ _ | refine blk_drew ?_ | refine blk_alloc ?_ _)); exact BK251.out⟩
              have n1_ : Aside0 ((((w8.setCell ⟨gb253, 0, none⟩ (.int .i64 ((rd_T120 l0_0 x9_1).f0))).setCell ⟨gb253, 1, none⟩ (.slice A252_1 ((rd_T120 l0_0 x9_1).f1).length c252_1)).setCell ⟨gb253, 2, none⟩ (.int .i64 ((rd_T120 l0_0 x9_1).f2))).heap[gb253]? = some (.cells #[.int .i64 ((rd_T120 l0_0 x9_1).f0), .slice A252_1 ((rd_T120 l0_0 x9_1).f1).length c252_1, .int .i64 ((rd_T120 l0_0 x9_1).f2)] 120 (0, 0))) := ⟨by (with_reducible repeat (first | refine blk_drewN ?_ _ | refine blk_drew ?_ | refine blk_alloc ?_ _)); refine blk_put (cs := #[.int .i64 ((rd_T120 l0_0 x9_1).f0), .slice A252_1 ((rd_T120 l0_0 x9_1).f1).length c252_1, .int .i64 0]) ?_ 2 _ rfl; (with_reducible repeat (first | refine blk_drewN ?_ _ | refine blk_drew ?_ | refine blk_alloc ?_ _)); refine blk_put (cs := #[.int .i64 ((rd_T120 l0_0 x9_1).f0), .slice none 0 0, .int .i64 0]) ?_ 1 _ rfl; (with_reducible repeat (first | refine blk_drewN ?_ _ | refine blk_drew ?_ | refine blk_alloc ?_ _)); refine blk_put (cs := #[.int .i64 0, .slice none 0 0, .int .i64 0]) ?_ 0 _ rfl; (with_reducible repeat (first | refine blk_drewN ?_ _ | refine blk_drew ?_ | refine blk_alloc ?_ _)); exact BK253.out⟩
              have n2_ : Aside0 (Below w.heap.size w (((w8.setCell ⟨gb253, 0, none⟩ (.int .i64 ((rd_T120 l0_0 x9_1).f0))).setCell ⟨gb253, 1, none⟩ (.slice A252_1 ((rd_T120 l0_0 x9_1).f1).length c252_1)).setCell ⟨gb253, 2, none⟩ (.int .i64 ((rd_T120 l0_0 x9_1).f2)))) := ⟨(mH2 HB.out GE251.out GE253.out)⟩
              (try clear BK251)
              (try clear BK253)
              (try clear HB)
              generalize (((w8.setCell ⟨gb253, 0, none⟩ (.int .i64 ((rd_T120 l0_0 x9_1).f0))).setCell ⟨gb253, 1, none⟩ (.slice A252_1 ((rd_T120 l0_0 x9_1).f1).length c252_1)).setCell ⟨gb253, 2, none⟩ (.int .i64 ((rd_T120 l0_0 x9_1).f2))) = w24 at n0_ n1_ n2_ ⊢
              have BK251 := n0_
              have BK253 := n1_
              have HB := n2_
              clear n0_ n1_ n2_
              have n0_ := mS (blk_drew BK251.out)
              have n1_ := mS (blk_drew BK253.out)
              have n2_ := mS (below_drew1 HB.out)
              clear BK251
              clear BK253
              clear HB
              have BK251 := n0_
              have BK253 := n1_
              have HB := n2_
              clear n0_ n1_ n2_
              have p256 : 0 ≤ ((ji16) : Int) := of_decide_eq_true (by first | (with_reducible assumption) | assumption)
              have q256 : (ji16) < (l0_0.length : Int) := of_decide_eq_true (by first | (with_reducible assumption) | assumption)
              obtain ⟨ad256, A256_1, c256_1, e256, hx256_0, hx256_1, hx256_2, hl256_1, hi256_1⟩ := at_T120 HR0_0.out (ji16) p256 q256
              have hw256_2 := hx256_2
              have hw256_1 := hx256_1
              have hw256_0 := hx256_0
              obtain rfl : ad252 = ad256 := (by injection e256)
              replace hx256_0 := mX HB.out hx256_0
              replace hx256_1 := mX HB.out hx256_1
              replace hx256_2 := mX HB.out hx256_2
              have HR256_1 := mS hi256_1
              have HC256_1 := mS hl256_1
              clear hi256_1 hl256_1
              replace p256 := eq_true p256
              replace q256 := eq_true q256
              refine start_ (n := 48) (S := fun w' => w'.cell? ⟨gb253, 0, none⟩ = some (.int .i64 ((rd_T120 l0_0 x9_1).f0)) ∧ w'.cell? ⟨gb253, 1, none⟩ = some (.slice A252_1 ((rd_T120 l0_0 x9_1).f1).length c252_1) ∧ w'.cell? ⟨gb253, 2, none⟩ = some (.int .i64 ((rd_T120 l0_0 x9_1).f2)) ∧ w'.cell? ⟨gb251, 0, none⟩ = some (.slice (some ad252) l0_0.length c0_0) ∧ w'.cell? ⟨gb251, 1, none⟩ = some (.slice A0_1 l0_1.length c0_1) ∧ w'.cell? ⟨gb251, 2, none⟩ = some (.slice A0_2 l0_2.length c0_2) ∧ w'.cell? ⟨gb251, 3, none⟩ = some (.int .i64 a0_3) ∧ w'.cell? (ad252.add (((ji16)).toNat * 3)) = some (.int .i64 ((rd_T120 l0_0 (ji16)).f0)) ∧ w'.cell? ⟨(ad252.add (((ji16)).toNat * 3)).block, (ad252.add (((ji16)).toNat * 3)).off + 1, none⟩ = some (.slice A256_1 ((rd_T120 l0_0 (ji16)).f1).length c256_1) ∧ w'.cell? ⟨(ad252.add (((ji16)).toNat * 3)).block, (ad252.add (((ji16)).toNat * 3)).off + 2, none⟩ = some (.int .i64 ((rd_T120 l0_0 (ji16)).f2))) (ds := []) (mb 0 48) (by kernel_rfl) rfl rfl ⟨mZ BK253.out 0, mZ BK253.out 1, mZ BK253.out 2, mZ BK251.out 0, mZ BK251.out 1, mZ BK251.out 2, mZ BK251.out 3, ((HB.out.cell (World.block_lt_of_cell? w _ hw256_0)).trans hw256_0), ((HB.out.cell (World.block_lt_of_cell? w _ hw256_1)).trans hw256_1), ((HB.out.cell (World.block_lt_of_cell? w _ hw256_2)).trans hw256_2)⟩ (fun hHeld => ?_); refine with_tabW impl_DiskOk.tab5 impl_DiskOk.bits5 (fun HT_ HW_ => ?_)
              generalize w24.drew = w25 at BK251 BK253 HB HR256_1 hx256_0 hx256_1 hx256_2 hHeld ⊢
              refine mpu 0 14 HT_.out (mb 1 47) ?_
              refine mpu 2 16 HT_.out #[true, false, true, false, false, false, false, false, false, false, false, false, false, false, false, false, false, false, false, false, false, false, false, false, false, false, false, false, false, false, false, false, false, false, false, false, false, false, false, false, false, false, false, false, false, false, false, false] ?_
              refine mpt 1 15 HT_.out HW_.out (mb 3 45) hHeld ?_
              refine mpt 3 17 HT_.out HW_.out (mb 4 44) hHeld ?_
              refine mpu 4 18 HT_.out (mb 5 43) ?_
              refine one_ (i := 5) (N := some 19) (mb 6 42) rfl rfl (one_of HT_.out (by kernel_rfl)) (by decide) (fun K hK => ?_)
              refine goes_ Try.func98 (by kernel_rfl) rfl #[.int .i64 ((rd_T120 l0_0 x9_1).f0), .int .i64 1, .int .i64 (wrap64 (a0_3 - 1))] (by rfl) rfl rfl mA ?_
              with_reducible refine (impl_in.calls ((rd_T120 l0_0 x9_1).f0) 1 (wrap64 (a0_3 - 1)) true _ A11.out).mono ?_
              rintro e w' ⟨rfl, ⟨nd, rfl⟩⟩
              refine ⟨_, rfl, ?_⟩
              refine hK.out _ _ ⟨mZ BK253.out 0, mZ BK253.out 1, mZ BK253.out 2, mZ BK251.out 0, mZ BK251.out 1, mZ BK251.out 2, mZ BK251.out 3, ((HB.out.cell (World.block_lt_of_cell? w _ hw256_0)).trans hw256_0), ((HB.out.cell (World.block_lt_of_cell? w _ hw256_1)).trans hw256_1), ((HB.out.cell (World.block_lt_of_cell? w _ hw256_2)).trans hw256_2)⟩ (fun hHeld => ?_)
              clear hK K
              refine norm_ (a' := ?_) ?_ ?_
              rotate_left
              ·show Act.put _ (some 19) _ = _
               simp only [Act.put, zA, zB, zC, i64_w, i32_w]
               rfl
              refine mpu 6 20 HT_.out (mb 7 41) ?_
              refine mpu 7 21 HT_.out (mb 8 40) ?_
              refine mpu 8 22 HT_.out (mb 9 39) ?_
              refine mpu 10 24 HT_.out #[true, true, true, true, true, true, true, true, true, false, true, false, false, false, false, false, false, false, false, false, false, false, false, false, false, false, false, false, false, false, false, false, false, false, false, false, false, false, false, false, false, false, false, false, false, false, false, false] ?_
              refine mpt 9 23 HT_.out HW_.out (mb 11 37) hHeld ?_
              refine mpt 11 25 HT_.out HW_.out (mb 12 36) hHeld ?_
              refine mpu 12 26 HT_.out (mb 13 35) ?_
              refine one_ (i := 13) (N := some 27) (mb 14 34) rfl rfl (one_of HT_.out (by kernel_rfl)) (by decide) (fun K hK => ?_)
              refine goes_ Try.func98 (by kernel_rfl) rfl #[.int .i64 ((rd_T120 l0_0 x9_1).f2), .int .i64 0, .int .i64 (((rd_T120 l0_0 x9_1).f1).length : Int)] (by rfl) rfl rfl mA ?_
              with_reducible refine (impl_in.calls ((rd_T120 l0_0 x9_1).f2) 0 (((rd_T120 l0_0 x9_1).f1).length : Int) true _ A13.out).mono ?_
              rintro e w' ⟨rfl, ⟨nd, rfl⟩⟩
              refine ⟨_, rfl, ?_⟩
              refine hK.out _ _ ⟨mZ BK253.out 0, mZ BK253.out 1, mZ BK253.out 2, mZ BK251.out 0, mZ BK251.out 1, mZ BK251.out 2, mZ BK251.out 3, ((HB.out.cell (World.block_lt_of_cell? w _ hw256_0)).trans hw256_0), ((HB.out.cell (World.block_lt_of_cell? w _ hw256_1)).trans hw256_1), ((HB.out.cell (World.block_lt_of_cell? w _ hw256_2)).trans hw256_2)⟩ (fun hHeld => ?_)
              clear hK K
              refine norm_ (a' := ?_) ?_ ?_
              rotate_left
              ·show Act.put _ (some 27) _ = _
               simp only [Act.put, zA, zB, zC, i64_w, i32_w]
               rfl
              refine mpu 14 28 HT_.out (mb 15 33) ?_
              refine mpu 15 29 HT_.out (mb 16 32) ?_
              refine mpu 16 30 HT_.out (mb 17 31) ?_
              refine mpu 17 31 HT_.out (mb 18 30) ?_
              refine mpu 18 32 HT_.out (mb 19 29) ?_
              refine mpu 19 33 HT_.out (mb 20 28) ?_
              refine mpu 20 34 HT_.out (mb 21 27) ?_
              refine mpu 22 36 HT_.out #[true, true, true, true, true, true, true, true, true, true, true, true, true, true, true, true, true, true, true, true, true, false, true, false, false, false, false, false, false, false, false, false, false, false, false, false, false, false, false, false, false, false, false, false, false, false, false, false] ?_
              refine mpu 23 37 HT_.out #[true, true, true, true, true, true, true, true, true, true, true, true, true, true, true, true, true, true, true, true, true, false, true, true, false, false, false, false, false, false, false, false, false, false, false, false, false, false, false, false, false, false, false, false, false, false, false, false] ?_
              refine mpu 27 41 HT_.out #[true, true, true, true, true, true, true, true, true, true, true, true, true, true, true, true, true, true, true, true, true, false, true, true, false, false, false, true, false, false, false, false, false, false, false, false, false, false, false, false, false, false, false, false, false, false, false, false] ?_
              refine mpt 21 35 HT_.out HW_.out #[true, true, true, true, true, true, true, true, true, true, true, true, true, true, true, true, true, true, true, true, true, true, true, true, false, false, false, true, false, false, false, false, false, false, false, false, false, false, false, false, false, false, false, false, false, false, false, false] hHeld ?_
              refine mpu 24 38 HT_.out #[true, true, true, true, true, true, true, true, true, true, true, true, true, true, true, true, true, true, true, true, true, true, true, true, true, false, false, true, false, false, false, false, false, false, false, false, false, false, false, false, false, false, false, false, false, false, false, false] ?_
              refine mpu 25 39 HT_.out #[true, true, true, true, true, true, true, true, true, true, true, true, true, true, true, true, true, true, true, true, true, true, true, true, true, true, false, true, false, false, false, false, false, false, false, false, false, false, false, false, false, false, false, false, false, false, false, false] ?_
              refine mpt 26 40 HT_.out HW_.out (mb 28 20) hHeld ?_
              refine mpt 28 42 HT_.out HW_.out (mb 29 19) hHeld ?_
              refine mpu 29 43 HT_.out (mb 30 18) ?_
              refine mpu 30 44 HT_.out (mb 31 17) ?_
              refine mpu 31 45 HT_.out (mb 32 16) ?_
              refine mpu 32 46 HT_.out (mb 33 15) ?_
              refine mpu 33 47 HT_.out (mb 34 14) ?_
              refine mpu 35 49 HT_.out #[true, true, true, true, true, true, true, true, true, true, true, true, true, true, true, true, true, true, true, true, true, true, true, true, true, true, true, true, true, true, true, true, true, true, false, true, false, false, false, false, false, false, false, false, false, false, false, false] ?_
              refine mpt 34 48 HT_.out HW_.out (mb 36 12) hHeld ?_
              refine mpt 36 50 HT_.out HW_.out (mb 37 11) hHeld ?_
              refine one_ (i := 37) (N := some 51) (mb 38 10) rfl rfl (one_of HT_.out (by kernel_rfl)) (by decide) (fun K hK => ?_)
              refine goes_ Try.func99 (by kernel_rfl) rfl #[.slice A0_1 l0_1.length c0_1, .int .i64 ((rd_T120 l0_0 x9_1).f0)] (by rfl) rfl rfl mA ?_
              with_reducible refine (impl_hasId.calls k1 _ _ l0_1 ((rd_T120 l0_0 x9_1).f0) true _ ?side1 ?side2 A22.out).mono ?_
              (case side1 => repeat (first | exact (Kd.C_below HR0_1.out (mH2 HB.out GE251.out GE253.out)) | (with_reducible refine Kd.C_alloc ?_ _) | (with_reducible refine Kd.C_drewN ?_ _) | (with_reducible refine Kd.C_drew ?_)))
              (case side2 => exact HC0_1.out)
              rintro e w26 ⟨rfl, hb⟩
              refine ⟨_, rfl, ?_⟩
              have n0_ := mB BK251 hb
              have n1_ := mB BK253 hb
              have n2_ := mS (below_step (mH2 HB.out GE251.out GE253.out) hb)
              clear BK251
              clear BK253
              clear HB
              have BK251 := n0_
              have BK253 := n1_
              have HB := n2_
              clear n0_ n1_ n2_
              (try clear hb)
              (try clear hb2)
              (try clear hk)
              (try clear hi)
              refine hK.out _ _ ⟨mZ BK253.out 0, mZ BK253.out 1, mZ BK253.out 2, mZ BK251.out 0, mZ BK251.out 1, mZ BK251.out 2, mZ BK251.out 3, ((HB.out.cell (World.block_lt_of_cell? w _ hw256_0)).trans hw256_0), ((HB.out.cell (World.block_lt_of_cell? w _ hw256_1)).trans hw256_1), ((HB.out.cell (World.block_lt_of_cell? w _ hw256_2)).trans hw256_2)⟩ (fun hHeld => ?_)
              clear hK K
              refine norm_ (a' := ?_) ?_ ?_
              rotate_left
              ·show Act.put _ (some 51) _ = _
               simp only [Act.put, zA, zB, zC, i64_w, i32_w]
               rfl
              refine mpu 38 52 HT_.out (mb 39 9) ?_
              refine mpu 39 53 HT_.out (mb 40 8) ?_
              refine mpf 40 54 HT_.out (mb 41 7) ?_
              refine mpf 41 55 HT_.out (mb 42 6) ?_
              refine mpf 42 56 HT_.out (mb 43 5) ?_
              refine mpf 43 57 HT_.out (mb 44 4) ?_
              refine mpf 44 58 HT_.out (mb 45 3) ?_
              refine mpf 45 59 HT_.out (mb 46 2) ?_
              refine mpu 46 60 HT_.out (mb 47 1) ?_
              refine mpu 47 61 HT_.out (mb 48 0) ?_
              refine done_ (done_of HT_.out (by kernel_rfl)) ?_
              try go_wp2
              go_meet
              case rel => exact ⟨_, (false), (by first | rfl | (simp; done) | (simp [*]; done)), H', ⟨by have := HK1.out; first | omega | exact Nat.le_refl _⟩, ⟨by (with_reducible repeat (first | refine blk_drewN ?_ _ | refine blk_drew ?_ | refine blk_alloc ?_ _)); exact BK251.out⟩, ⟨by (with_reducible repeat (first | refine blk_drewN ?_ _ | refine blk_drew ?_ | refine blk_alloc ?_ _)); exact BK253.out⟩, ⟨(mH2 HB.out GE251.out GE253.out)⟩⟩
             ·replace c23 := Bool.eq_false_iff.mpr c23
              subst c23
              have H1 : ((impl_hasId.f k1 l0_2 ((rd_T120 l0_0 x9_1).f0)).bind fun t258 => (impl_DiskOk.j1 k1 x3_1 l0_0 (l0_0.length : Int) x9_1 (!t258) l0_0 l0_1 l0_2 a0_3 ((rd_T120 l0_0 x9_1).f0) ((rd_T120 l0_0 x9_1).f1) ((rd_T120 l0_0 x9_1).f2))) = some r := by rw [if_neg (show ¬ (false = true) by decide)] at H; exact H
              clear H
              have H := H1
              clear H1
              replace H := Option.bind_eq_some_iff.mp H
              obtain ⟨t258, A270, H⟩ := H
              replace H : (impl_DiskOk.j1 k1 x3_1 l0_0 (l0_0.length : Int) x9_1 (!t258) l0_0 l0_1 l0_2 a0_3 ((rd_T120 l0_0 x9_1).f0) ((rd_T120 l0_0 x9_1).f1) ((rd_T120 l0_0 x9_1).f2)) = some r := H
              have A27 := mS A270
              clear A270
              have H' := mS H
              clear H
              try go_wp2
              have n0_ : Aside0 ((((w8.setCell ⟨gb253, 0, none⟩ (.int .i64 ((rd_T120 l0_0 x9_1).f0))).setCell ⟨gb253, 1, none⟩ (.slice A252_1 ((rd_T120 l0_0 x9_1).f1).length c252_1)).setCell ⟨gb253, 2, none⟩ (.int .i64 ((rd_T120 l0_0 x9_1).f2))).heap[gb251]? = some (.cells #[.slice (some ad252) l0_0.length c0_0, .slice A0_1 l0_1.length c0_1, .slice A0_2 l0_2.length c0_2, .int .i64 a0_3] 63 (0, 0))) := ⟨by (with_reducible repeat (first | refine blk_drewN ?_ _ | refine blk_drew ?_ | refine blk_alloc ?_ _)); refine blk_far ?_ NB251_253.out _; (with_reducible repeat (first | refine blk_drewN ?_ _ | refine blk_drew ?_ | refine blk_alloc ?_ _)); refine blk_far ?_ NB251_253.out _; (with_reducible repeat (first | refine blk_drewN ?_ _ | refine blk_drew ?_ | refine blk_alloc ?_ _)); refine blk_far ?_ NB251_253.out _; (with_reducible repeat (first | refine blk_drewN ?_ _ | refine blk_drew ?_ | refine blk_alloc ?_ _)); exact BK251.out⟩
              have n1_ : Aside0 ((((w8.setCell ⟨gb253, 0, none⟩ (.int .i64 ((rd_T120 l0_0 x9_1).f0))).setCell ⟨gb253, 1, none⟩ (.slice A252_1 ((rd_T120 l0_0 x9_1).f1).length c252_1)).setCell ⟨gb253, 2, none⟩ (.int .i64 ((rd_T120 l0_0 x9_1).f2))).heap[gb253]? = some (.cells #[.int .i64 ((rd_T120 l0_0 x9_1).f0), .slice A252_1 ((rd_T120 l0_0 x9_1).f1).length c252_1, .int .i64 ((rd_T120 l0_0 x9_1).f2)] 120 (0, 0))) := ⟨by (with_reducible repeat (first | refine blk_drewN ?_ _ | refine blk_drew ?_ | refine blk_alloc ?_ _)); refine blk_put (cs := #[.int .i64 ((rd_T120 l0_0 x9_1).f0), .slice A252_1 ((rd_T120 l0_0 x9_1).f1).length c252_1, .int .i64 0]) ?_ 2 _ rfl; (with_reducible repeat (first | refine blk_drewN ?_ _ | refine blk_drew ?_ | refine blk_alloc ?_ _)); refine blk_put (cs := #[.int .i64 ((rd_T120 l0_0 x9_1).f0), .slice none 0 0, .int .i64 0]) ?_ 1 _ rfl; (with_reducible repeat (first | refine blk_drewN ?_ _ | refine blk_drew ?_ | refine blk_alloc ?_ _)); refine blk_put (cs := #[.int .i64 0, .slice none 0 0, .int .i64 0]) ?_ 0 _ rfl; (with_reducible repeat (first | refine blk_drewN ?_ _ | refine blk_drew ?_ | refine blk_alloc ?_ _)); exact BK253.out⟩
              have n2_ : Aside0 (Below w.heap.size w (((w8.setCell ⟨gb253, 0, none⟩ (.int .i64 ((rd_T120 l0_0 x9_1).f0))).setCell ⟨gb253, 1, none⟩ (.slice A252_1 ((rd_T120 l0_0 x9_1).f1).length c252_1)).setCell ⟨gb253, 2, none⟩ (.int .i64 ((rd_T120 l0_0 x9_1).f2)))) := ⟨(mH2 HB.out GE251.out GE253.out)⟩
              (try clear BK251)
              (try clear BK253)
              (try clear HB)
              generalize (((w8.setCell ⟨gb253, 0, none⟩ (.int .i64 ((rd_T120 l0_0 x9_1).f0))).setCell ⟨gb253, 1, none⟩ (.slice A252_1 ((rd_T120 l0_0 x9_1).f1).length c252_1)).setCell ⟨gb253, 2, none⟩ (.int .i64 ((rd_T120 l0_0 x9_1).f2))) = w28 at n0_ n1_ n2_ ⊢
              have BK251 := n0_
              have BK253 := n1_
              have HB := n2_
              clear n0_ n1_ n2_
              have n0_ := mS (blk_drew BK251.out)
              have n1_ := mS (blk_drew BK253.out)
              have n2_ := mS (below_drew1 HB.out)
              clear BK251
              clear BK253
              clear HB
              have BK251 := n0_
              have BK253 := n1_
              have HB := n2_
              clear n0_ n1_ n2_
              have p256 : 0 ≤ ((ji16) : Int) := of_decide_eq_true (by first | (with_reducible assumption) | assumption)
              have q256 : (ji16) < (l0_0.length : Int) := of_decide_eq_true (by first | (with_reducible assumption) | assumption)
              obtain ⟨ad256, A256_1, c256_1, e256, hx256_0, hx256_1, hx256_2, hl256_1, hi256_1⟩ := at_T120 HR0_0.out (ji16) p256 q256
              have hw256_2 := hx256_2
              have hw256_1 := hx256_1
              have hw256_0 := hx256_0
              obtain rfl : ad252 = ad256 := (by injection e256)
              replace hx256_0 := mX HB.out hx256_0
              replace hx256_1 := mX HB.out hx256_1
              replace hx256_2 := mX HB.out hx256_2
              have HR256_1 := mS hi256_1
              have HC256_1 := mS hl256_1
              clear hi256_1 hl256_1
              replace p256 := eq_true p256
              replace q256 := eq_true q256
              refine start_ (n := 48) (S := fun w' => w'.cell? ⟨gb253, 0, none⟩ = some (.int .i64 ((rd_T120 l0_0 x9_1).f0)) ∧ w'.cell? ⟨gb253, 1, none⟩ = some (.slice A252_1 ((rd_T120 l0_0 x9_1).f1).length c252_1) ∧ w'.cell? ⟨gb253, 2, none⟩ = some (.int .i64 ((rd_T120 l0_0 x9_1).f2)) ∧ w'.cell? ⟨gb251, 0, none⟩ = some (.slice (some ad252) l0_0.length c0_0) ∧ w'.cell? ⟨gb251, 1, none⟩ = some (.slice A0_1 l0_1.length c0_1) ∧ w'.cell? ⟨gb251, 2, none⟩ = some (.slice A0_2 l0_2.length c0_2) ∧ w'.cell? ⟨gb251, 3, none⟩ = some (.int .i64 a0_3) ∧ w'.cell? (ad252.add (((ji16)).toNat * 3)) = some (.int .i64 ((rd_T120 l0_0 (ji16)).f0)) ∧ w'.cell? ⟨(ad252.add (((ji16)).toNat * 3)).block, (ad252.add (((ji16)).toNat * 3)).off + 1, none⟩ = some (.slice A256_1 ((rd_T120 l0_0 (ji16)).f1).length c256_1) ∧ w'.cell? ⟨(ad252.add (((ji16)).toNat * 3)).block, (ad252.add (((ji16)).toNat * 3)).off + 2, none⟩ = some (.int .i64 ((rd_T120 l0_0 (ji16)).f2))) (ds := []) (mb 0 48) (by kernel_rfl) rfl rfl ⟨mZ BK253.out 0, mZ BK253.out 1, mZ BK253.out 2, mZ BK251.out 0, mZ BK251.out 1, mZ BK251.out 2, mZ BK251.out 3, ((HB.out.cell (World.block_lt_of_cell? w _ hw256_0)).trans hw256_0), ((HB.out.cell (World.block_lt_of_cell? w _ hw256_1)).trans hw256_1), ((HB.out.cell (World.block_lt_of_cell? w _ hw256_2)).trans hw256_2)⟩ (fun hHeld => ?_); refine with_tabW impl_DiskOk.tab5 impl_DiskOk.bits5 (fun HT_ HW_ => ?_)
              generalize w28.drew = w29 at BK251 BK253 HB HR256_1 hx256_0 hx256_1 hx256_2 hHeld ⊢
              refine mpu 0 14 HT_.out (mb 1 47) ?_
              refine mpu 2 16 HT_.out #[true, false, true, false, false, false, false, false, false, false, false, false, false, false, false, false, false, false, false, false, false, false, false, false, false, false, false, false, false, false, false, false, false, false, false, false, false, false, false, false, false, false, false, false, false, false, false, false] ?_
              refine mpt 1 15 HT_.out HW_.out (mb 3 45) hHeld ?_
              refine mpt 3 17 HT_.out HW_.out (mb 4 44) hHeld ?_
              refine mpu 4 18 HT_.out (mb 5 43) ?_
              refine one_ (i := 5) (N := some 19) (mb 6 42) rfl rfl (one_of HT_.out (by kernel_rfl)) (by decide) (fun K hK => ?_)
              refine goes_ Try.func98 (by kernel_rfl) rfl #[.int .i64 ((rd_T120 l0_0 x9_1).f0), .int .i64 1, .int .i64 (wrap64 (a0_3 - 1))] (by rfl) rfl rfl mA ?_
              with_reducible refine (impl_in.calls ((rd_T120 l0_0 x9_1).f0) 1 (wrap64 (a0_3 - 1)) true _ A11.out).mono ?_
              rintro e w' ⟨rfl, ⟨nd, rfl⟩⟩
              refine ⟨_, rfl, ?_⟩
              refine hK.out _ _ ⟨mZ BK253.out 0, mZ BK253.out 1, mZ BK253.out 2, mZ BK251.out 0, mZ BK251.out 1, mZ BK251.out 2, mZ BK251.out 3, ((HB.out.cell (World.block_lt_of_cell? w _ hw256_0)).trans hw256_0), ((HB.out.cell (World.block_lt_of_cell? w _ hw256_1)).trans hw256_1), ((HB.out.cell (World.block_lt_of_cell? w _ hw256_2)).trans hw256_2)⟩ (fun hHeld => ?_)
              clear hK K
              refine norm_ (a' := ?_) ?_ ?_
              rotate_left
              ·show Act.put _ (some 19) _ = _
               simp only [Act.put, zA, zB, zC, i64_w, i32_w]
               rfl
              refine mpu 6 20 HT_.out (mb 7 41) ?_
              refine mpu 7 21 HT_.out (mb 8 40) ?_
              refine mpu 8 22 HT_.out (mb 9 39) ?_
              refine mpu 10 24 HT_.out #[true, true, true, true, true, true, true, true, true, false, true, false, false, false, false, false, false, false, false, false, false, false, false, false, false, false, false, false, false, false, false, false, false, false, false, false, false, false, false, false, false, false, false, false, false, false, false, false] ?_
              refine mpt 9 23 HT_.out HW_.out (mb 11 37) hHeld ?_
              refine mpt 11 25 HT_.out HW_.out (mb 12 36) hHeld ?_
              refine mpu 12 26 HT_.out (mb 13 35) ?_
              refine one_ (i := 13) (N := some 27) (mb 14 34) rfl rfl (one_of HT_.out (by kernel_rfl)) (by decide) (fun K hK => ?_)
              refine goes_ Try.func98 (by kernel_rfl) rfl #[.int .i64 ((rd_T120 l0_0 x9_1).f2), .int .i64 0, .int .i64 (((rd_T120 l0_0 x9_1).f1).length : Int)] (by rfl) rfl rfl mA ?_
              with_reducible refine (impl_in.calls ((rd_T120 l0_0 x9_1).f2) 0 (((rd_T120 l0_0 x9_1).f1).length : Int) true _ A13.out).mono ?_
              rintro e w' ⟨rfl, ⟨nd, rfl⟩⟩
              refine ⟨_, rfl, ?_⟩
              refine hK.out _ _ ⟨mZ BK253.out 0, mZ BK253.out 1, mZ BK253.out 2, mZ BK251.out 0, mZ BK251.out 1, mZ BK251.out 2, mZ BK251.out 3, ((HB.out.cell (World.block_lt_of_cell? w _ hw256_0)).trans hw256_0), ((HB.out.cell (World.block_lt_of_cell? w _ hw256_1)).trans hw256_1), ((HB.out.cell (World.block_lt_of_cell? w _ hw256_2)).trans hw256_2)⟩ (fun hHeld => ?_)
              clear hK K
              refine norm_ (a' := ?_) ?_ ?_
              rotate_left
              ·show Act.put _ (some 27) _ = _
               simp only [Act.put, zA, zB, zC, i64_w, i32_w]
               rfl
              refine mpu 14 28 HT_.out (mb 15 33) ?_
              refine mpu 15 29 HT_.out (mb 16 32) ?_
              refine mpu 16 30 HT_.out (mb 17 31) ?_
              refine mpu 17 31 HT_.out (mb 18 30) ?_
              refine mpu 18 32 HT_.out (mb 19 29) ?_
              refine mpu 19 33 HT_.out (mb 20 28) ?_
              refine mpu 20 34 HT_.out (mb 21 27) ?_
              refine mpu 22 36 HT_.out #[true, true, true, true, true, true, true, true, true, true, true, true, true, true, true, true, true, true, true, true, true, false, true, false, false, false, false, false, false, false, false, false, false, false, false, false, false, false, false, false, false, false, false, false, false, false, false, false] ?_
              refine mpu 23 37 HT_.out #[true, true, true, true, true, true, true, true, true, true, true, true, true, true, true, true, true, true, true, true, true, false, true, true, false, false, false, false, false, false, false, false, false, false, false, false, false, false, false, false, false, false, false, false, false, false, false, false] ?_
              refine mpu 27 41 HT_.out #[true, true, true, true, true, true, true, true, true, true, true, true, true, true, true, true, true, true, true, true, true, false, true, true, false, false, false, true, false, false, false, false, false, false, false, false, false, false, false, false, false, false, false, false, false, false, false, false] ?_
              refine mpt 21 35 HT_.out HW_.out #[true, true, true, true, true, true, true, true, true, true, true, true, true, true, true, true, true, true, true, true, true, true, true, true, false, false, false, true, false, false, false, false, false, false, false, false, false, false, false, false, false, false, false, false, false, false, false, false] hHeld ?_
              refine mpu 24 38 HT_.out #[true, true, true, true, true, true, true, true, true, true, true, true, true, true, true, true, true, true, true, true, true, true, true, true, true, false, false, true, false, false, false, false, false, false, false, false, false, false, false, false, false, false, false, false, false, false, false, false] ?_
              refine mpu 25 39 HT_.out #[true, true, true, true, true, true, true, true, true, true, true, true, true, true, true, true, true, true, true, true, true, true, true, true, true, true, false, true, false, false, false, false, false, false, false, false, false, false, false, false, false, false, false, false, false, false, false, false] ?_
              refine mpt 26 40 HT_.out HW_.out (mb 28 20) hHeld ?_
              refine mpt 28 42 HT_.out HW_.out (mb 29 19) hHeld ?_
              refine mpu 29 43 HT_.out (mb 30 18) ?_
              refine mpu 30 44 HT_.out (mb 31 17) ?_
              refine mpu 31 45 HT_.out (mb 32 16) ?_
              refine mpu 32 46 HT_.out (mb 33 15) ?_
              refine mpu 33 47 HT_.out (mb 34 14) ?_
              refine mpu 35 49 HT_.out #[true, true, true, true, true, true, true, true, true, true, true, true, true, true, true, true, true, true, true, true, true, true, true, true, true, true, true, true, true, true, true, true, true, true, false, true, false, false, false, false, false, false, false, false, false, false, false, false] ?_
              refine mpt 34 48 HT_.out HW_.out (mb 36 12) hHeld ?_
              refine mpt 36 50 HT_.out HW_.out (mb 37 11) hHeld ?_
              refine one_ (i := 37) (N := some 51) (mb 38 10) rfl rfl (one_of HT_.out (by kernel_rfl)) (by decide) (fun K hK => ?_)
              refine goes_ Try.func99 (by kernel_rfl) rfl #[.slice A0_1 l0_1.length c0_1, .int .i64 ((rd_T120 l0_0 x9_1).f0)] (by rfl) rfl rfl mA ?_
              with_reducible refine (impl_hasId.calls k1 _ _ l0_1 ((rd_T120 l0_0 x9_1).f0) false _ ?side1 ?side2 A22.out).mono ?_
              (case side1 => repeat (first | exact (Kd.C_below HR0_1.out (mH2 HB.out GE251.out GE253.out)) | (with_reducible refine Kd.C_alloc ?_ _) | (with_reducible refine Kd.C_drewN ?_ _) | (with_reducible refine Kd.C_drew ?_)))
              (case side2 => exact HC0_1.out)
              rintro e w30 ⟨rfl, hb⟩
              refine ⟨_, rfl, ?_⟩
              have n0_ := mB BK251 hb
              have n1_ := mB BK253 hb
              have n2_ := mS (below_step (mH2 HB.out GE251.out GE253.out) hb)
              clear BK251
              clear BK253
              clear HB
              have BK251 := n0_
              have BK253 := n1_
              have HB := n2_
              clear n0_ n1_ n2_
              (try clear hb)
              (try clear hb2)
              (try clear hk)
              (try clear hi)
              refine hK.out _ _ ⟨mZ BK253.out 0, mZ BK253.out 1, mZ BK253.out 2, mZ BK251.out 0, mZ BK251.out 1, mZ BK251.out 2, mZ BK251.out 3, ((HB.out.cell (World.block_lt_of_cell? w _ hw256_0)).trans hw256_0), ((HB.out.cell (World.block_lt_of_cell? w _ hw256_1)).trans hw256_1), ((HB.out.cell (World.block_lt_of_cell? w _ hw256_2)).trans hw256_2)⟩ (fun hHeld => ?_)
              clear hK K
              refine norm_ (a' := ?_) ?_ ?_
              rotate_left
              ·show Act.put _ (some 51) _ = _
               simp only [Act.put, zA, zB, zC, i64_w, i32_w]
               rfl
              refine mpu 38 52 HT_.out (mb 39 9) ?_
              refine mpu 39 53 HT_.out (mb 40 8) ?_
              refine mpu 40 54 HT_.out (mb 41 7) ?_
              refine mpu 42 56 HT_.out #[true, true, true, true, true, true, true, true, true, true, true, true, true, true, true, true, true, true, true, true, true, true, true, true, true, true, true, true, true, true, true, true, true, true, true, true, true, true, true, true, true, false, true, false, false, false, false, false] ?_
              refine mpt 41 55 HT_.out HW_.out (mb 43 5) hHeld ?_
              refine mpt 43 57 HT_.out HW_.out (mb 44 4) hHeld ?_
              refine one_ (i := 44) (N := some 58) (mb 45 3) rfl rfl (one_of HT_.out (by kernel_rfl)) (by decide) (fun K hK => ?_)
              refine goes_ Try.func99 (by kernel_rfl) rfl #[.slice A0_2 l0_2.length c0_2, .int .i64 ((rd_T120 l0_0 x9_1).f0)] (by rfl) rfl rfl mA ?_
              with_reducible refine (impl_hasId.calls k1 _ _ l0_2 ((rd_T120 l0_0 x9_1).f0) t258 _ ?side1 ?side2 A27.out).mono ?_
              (case side1 => repeat (first | exact (Kd.C_below HR0_2.out HB.out) | (with_reducible refine Kd.C_alloc ?_ _) | (with_reducible refine Kd.C_drewN ?_ _) | (with_reducible refine Kd.C_drew ?_)))
              (case side2 => exact HC0_2.out)
              rintro e w31 ⟨rfl, hb⟩
              refine ⟨_, rfl, ?_⟩
              have n0_ := mB BK251 hb
              have n1_ := mB BK253 hb
              have n2_ := mS (below_step (mH2 HB.out GE251.out GE253.out) hb)
              clear BK251
              clear BK253
              clear HB
              have BK251 := n0_
              have BK253 := n1_
              have HB := n2_
              clear n0_ n1_ n2_
              (try clear hb)
              (try clear hb2)
              (try clear hk)
              (try clear hi)
              refine hK.out _ _ ⟨mZ BK253.out 0, mZ BK253.out 1, mZ BK253.out 2, mZ BK251.out 0, mZ BK251.out 1, mZ BK251.out 2, mZ BK251.out 3, ((HB.out.cell (World.block_lt_of_cell? w _ hw256_0)).trans hw256_0), ((HB.out.cell (World.block_lt_of_cell? w _ hw256_1)).trans hw256_1), ((HB.out.cell (World.block_lt_of_cell? w _ hw256_2)).trans hw256_2)⟩ (fun hHeld => ?_)
              clear hK K
              refine norm_ (a' := ?_) ?_ ?_
              rotate_left
              ·show Act.put _ (some 58) _ = _
               simp only [Act.put, zA, zB, zC, i64_w, i32_w]
               rfl
              refine mpu 45 59 HT_.out (mb 46 2) ?_
              refine mpu 46 60 HT_.out (mb 47 1) ?_
              refine mpu 47 61 HT_.out (mb 48 0) ?_
              refine done_ (done_of HT_.out (by kernel_rfl)) ?_
              try go_wp2
              go_meet
              case rel => exact ⟨_, (!t258), (by first | rfl | (simp; done) | (simp [*]; done)), H', ⟨by have := HK1.out; first | omega | exact Nat.le_refl _⟩, ⟨by (with_reducible repeat (first | refine blk_drewN ?_ _ | refine blk_drew ?_ | refine blk_alloc ?_ _)); exact BK251.out⟩, ⟨by (with_reducible repeat (first | refine blk_drewN ?_ _ | refine blk_drew ?_ | refine blk_alloc ?_ _)); exact BK253.out⟩, ⟨(mH2 HB.out GE251.out GE253.out)⟩⟩
           ·rw [if_neg c18] at H
            exact absurd H (by simp)
          ·rw [if_neg c17] at H
           exact absurd H (by simp)
         ·rw [if_neg c15] at H
          have c15b0 : decide (0 < x9_1) = false := decide_eq_false c15
          clear c15
          (first | rw [c15b0] | (simp only [i64_w, i32_w]; rw [c15b0]) | skip)
          replace H := Option.bind_eq_some_iff.mp H
          obtain ⟨t259, A320, H⟩ := H
          replace H : (if t259 = true then (impl_DiskOk.j1 k1 x3_1 l0_0 (l0_0.length : Int) x9_1 false l0_0 l0_1 l0_2 a0_3 ((rd_T120 l0_0 x9_1).f0) ((rd_T120 l0_0 x9_1).f1) ((rd_T120 l0_0 x9_1).f2)) else ((impl_hasId.f k1 l0_2 ((rd_T120 l0_0 x9_1).f0)).bind fun t260 => (impl_DiskOk.j1 k1 x3_1 l0_0 (l0_0.length : Int) x9_1 (!t260) l0_0 l0_1 l0_2 a0_3 ((rd_T120 l0_0 x9_1).f0) ((rd_T120 l0_0 x9_1).f1) ((rd_T120 l0_0 x9_1).f2)))) = some r := H
          have A32 := mS A320
          clear A320
          by_cases c33 : t259 = true
          ·subst c33
           have H1 : (impl_DiskOk.j1 k1 x3_1 l0_0 (l0_0.length : Int) x9_1 false l0_0 l0_1 l0_2 a0_3 ((rd_T120 l0_0 x9_1).f0) ((rd_T120 l0_0 x9_1).f1) ((rd_T120 l0_0 x9_1).f2)) = some r := by rw [if_pos rfl] at H; exact H
           clear H
           have H := H1
           clear H1
           have H' := mS H
           clear H
           try go_wp2
           have n0_ : Aside0 ((((w8.setCell ⟨gb253, 0, none⟩ (.int .i64 ((rd_T120 l0_0 x9_1).f0))).setCell ⟨gb253, 1, none⟩ (.slice A252_1 ((rd_T120 l0_0 x9_1).f1).length c252_1)).setCell ⟨gb253, 2, none⟩ (.int .i64 ((rd_T120 l0_0 x9_1).f2))).heap[gb251]? = some (.cells #[.slice (some ad252) l0_0.length c0_0, .slice A0_1 l0_1.length c0_1, .slice A0_2 l0_2.length c0_2, .int .i64 a0_3] 63 (0, 0))) := ⟨by (with_reducible repeat (first | refine blk_drewN ?_ _ | refine blk_drew ?_ | refine blk_alloc ?_ _)); refine blk_far ?_ NB251_253.out _; (with_reducible repeat (first | refine blk_drewN ?_ _ | refine blk_drew ?_ | refine blk_alloc ?_ _)); refine blk_far ?_ NB251_253.out _; (with_reducible repeat (first | refine blk_drewN ?_ _ | refine blk_drew ?_ | refine blk_alloc ?_ _)); refine blk_far ?_ NB251_253.out _; (with_reducible repeat (first | refine blk_drewN ?_ _ | refine blk_drew ?_ | refine blk_alloc ?_ _)); exact BK251.out⟩
           have n1_ : Aside0 ((((w8.setCell ⟨gb253, 0, none⟩ (.int .i64 ((rd_T120 l0_0 x9_1).f0))).setCell ⟨gb253, 1, none⟩ (.slice A252_1 ((rd_T120 l0_0 x9_1).f1).length c252_1)).setCell ⟨gb253, 2, none⟩ (.int .i64 ((rd_T120 l0_0 x9_1).f2))).heap[gb253]? = some (.cells #[.int .i64 ((rd_T120 l0_0 x9_1).f0), .slice A252_1 ((rd_T120 l0_0 x9_1).f1).length c252_1, .int .i64 ((rd_T120 l0_0 x9_1).f2)] 120 (0, 0))) := ⟨by (with_reducible repeat (first | refine blk_drewN ?_ _ | refine blk_drew ?_ | refine blk_alloc ?_ _)); refine blk_put (cs := #[.int .i64 ((rd_T120 l0_0 x9_1).f0), .slice A252_1 ((rd_T120 l0_0 x9_1).f1).length c252_1, .int .i64 0]) ?_ 2 _ rfl; (with_reducible repeat (first | refine blk_drewN ?_ _ | refine blk_drew ?_ | refine blk_alloc ?_ _)); refine blk_put (cs := #[.int .i64 ((rd_T120 l0_0 x9_1).f0), .slice none 0 0, .int .i64 0]) ?_ 1 _ rfl; (with_reducible repeat (first | refine blk_drewN ?_ _ | refine blk_drew ?_ | refine blk_alloc ?_ _)); refine blk_put (cs := #[.int .i64 0, .slice none 0 0, .int .i64 0]) ?_ 0 _ rfl; (with_reducible repeat (first | refine blk_drewN ?_ _ | refine blk_drew ?_ | refine blk_alloc ?_ _)); exact BK253.out⟩
           have n2_ : Aside0 (Below w.heap.size w (((w8.setCell ⟨gb253, 0, none⟩ (.int .i64 ((rd_T120 l0_0 x9_1).f0))).setCell ⟨gb253, 1, none⟩ (.slice A252_1 ((rd_T120 l0_0 x9_1).f1).length c252_1)).setCell ⟨gb253, 2, none⟩ (.int .i64 ((rd_T120 l0_0 x9_1).f2)))) := ⟨(mH2 HB.out GE251.out GE253.out)⟩
           (try clear BK251)
           (try clear BK253)
           (try clear HB)
           generalize (((w8.setCell ⟨gb253, 0, none⟩ (.int .i64 ((rd_T120 l0_0 x9_1).f0))).setCell ⟨gb253, 1, none⟩ (.slice A252_1 ((rd_T120 l0_0 x9_1).f1).length c252_1)).setCell ⟨gb253, 2, none⟩ (.int .i64 ((rd_T120 l0_0 x9_1).f2))) = w34 at n0_ n1_ n2_ ⊢
           have BK251 := n0_
           have BK253 := n1_
           have HB := n2_
           clear n0_ n1_ n2_
           have n0_ := mS (blk_drew BK251.out)
           have n1_ := mS (blk_drew BK253.out)
           have n2_ := mS (below_drew1 HB.out)
           clear BK251
           clear BK253
           clear HB
           have BK251 := n0_
           have BK253 := n1_
           have HB := n2_
           clear n0_ n1_ n2_
           refine start_ (n := 48) (S := fun w' => w'.cell? ⟨gb253, 0, none⟩ = some (.int .i64 ((rd_T120 l0_0 x9_1).f0)) ∧ w'.cell? ⟨gb253, 1, none⟩ = some (.slice A252_1 ((rd_T120 l0_0 x9_1).f1).length c252_1) ∧ w'.cell? ⟨gb253, 2, none⟩ = some (.int .i64 ((rd_T120 l0_0 x9_1).f2)) ∧ w'.cell? ⟨gb251, 0, none⟩ = some (.slice (some ad252) l0_0.length c0_0) ∧ w'.cell? ⟨gb251, 1, none⟩ = some (.slice A0_1 l0_1.length c0_1) ∧ w'.cell? ⟨gb251, 2, none⟩ = some (.slice A0_2 l0_2.length c0_2) ∧ w'.cell? ⟨gb251, 3, none⟩ = some (.int .i64 a0_3)) (ds := []) (mb 0 48) (by kernel_rfl) rfl rfl ⟨mZ BK253.out 0, mZ BK253.out 1, mZ BK253.out 2, mZ BK251.out 0, mZ BK251.out 1, mZ BK251.out 2, mZ BK251.out 3⟩ (fun hHeld => ?_); refine with_tabW impl_DiskOk.tab5 impl_DiskOk.bits5 (fun HT_ HW_ => ?_)
           generalize w34.drew = w35 at BK251 BK253 HB hHeld ⊢
           refine mpu 0 14 HT_.out (mb 1 47) ?_
           refine mpu 2 16 HT_.out #[true, false, true, false, false, false, false, false, false, false, false, false, false, false, false, false, false, false, false, false, false, false, false, false, false, false, false, false, false, false, false, false, false, false, false, false, false, false, false, false, false, false, false, false, false, false, false, false] ?_
           refine mpt 1 15 HT_.out HW_.out (mb 3 45) hHeld ?_
           refine mpt 3 17 HT_.out HW_.out (mb 4 44) hHeld ?_
           refine mpu 4 18 HT_.out (mb 5 43) ?_
           refine one_ (i := 5) (N := some 19) (mb 6 42) rfl rfl (one_of HT_.out (by kernel_rfl)) (by decide) (fun K hK => ?_)
           refine goes_ Try.func98 (by kernel_rfl) rfl #[.int .i64 ((rd_T120 l0_0 x9_1).f0), .int .i64 1, .int .i64 (wrap64 (a0_3 - 1))] (by rfl) rfl rfl mA ?_
           with_reducible refine (impl_in.calls ((rd_T120 l0_0 x9_1).f0) 1 (wrap64 (a0_3 - 1)) true _ A11.out).mono ?_
           rintro e w' ⟨rfl, ⟨nd, rfl⟩⟩
           refine ⟨_, rfl, ?_⟩
           refine hK.out _ _ ⟨mZ BK253.out 0, mZ BK253.out 1, mZ BK253.out 2, mZ BK251.out 0, mZ BK251.out 1, mZ BK251.out 2, mZ BK251.out 3⟩ (fun hHeld => ?_)
           clear hK K
           refine norm_ (a' := ?_) ?_ ?_
           rotate_left
           ·show Act.put _ (some 19) _ = _
            simp only [Act.put, zA, zB, zC, i64_w, i32_w]
            rfl
           refine mpu 6 20 HT_.out (mb 7 41) ?_
           refine mpu 7 21 HT_.out (mb 8 40) ?_
           refine mpu 8 22 HT_.out (mb 9 39) ?_
           refine mpu 10 24 HT_.out #[true, true, true, true, true, true, true, true, true, false, true, false, false, false, false, false, false, false, false, false, false, false, false, false, false, false, false, false, false, false, false, false, false, false, false, false, false, false, false, false, false, false, false, false, false, false, false, false] ?_
           refine mpt 9 23 HT_.out HW_.out (mb 11 37) hHeld ?_
           refine mpt 11 25 HT_.out HW_.out (mb 12 36) hHeld ?_
           refine mpu 12 26 HT_.out (mb 13 35) ?_
           refine one_ (i := 13) (N := some 27) (mb 14 34) rfl rfl (one_of HT_.out (by kernel_rfl)) (by decide) (fun K hK => ?_)
           refine goes_ Try.func98 (by kernel_rfl) rfl #[.int .i64 ((rd_T120 l0_0 x9_1).f2), .int .i64 0, .int .i64 (((rd_T120 l0_0 x9_1).f1).length : Int)] (by rfl) rfl rfl mA ?_
           with_reducible refine (impl_in.calls ((rd_T120 l0_0 x9_1).f2) 0 (((rd_T120 l0_0 x9_1).f1).length : Int) true _ A13.out).mono ?_
           rintro e w' ⟨rfl, ⟨nd, rfl⟩⟩
           refine ⟨_, rfl, ?_⟩
           refine hK.out _ _ ⟨mZ BK253.out 0, mZ BK253.out 1, mZ BK253.out 2, mZ BK251.out 0, mZ BK251.out 1, mZ BK251.out 2, mZ BK251.out 3⟩ (fun hHeld => ?_)
           clear hK K
           refine norm_ (a' := ?_) ?_ ?_
           rotate_left
           ·show Act.put _ (some 27) _ = _
            simp only [Act.put, zA, zB, zC, i64_w, i32_w]
            rfl
           refine mpu 14 28 HT_.out (mb 15 33) ?_
           refine mpu 15 29 HT_.out (mb 16 32) ?_
           refine mpu 16 30 HT_.out (mb 17 31) ?_
           refine mpu 17 31 HT_.out (mb 18 30) ?_
           refine mpu 18 32 HT_.out (mb 19 29) ?_
           refine mpu 19 33 HT_.out (mb 20 28) ?_
           refine mpf 20 34 HT_.out (mb 21 27) ?_
           refine mpf 21 35 HT_.out (mb 22 26) ?_
           refine mpf 22 36 HT_.out (mb 23 25) ?_
           refine mpf 23 37 HT_.out (mb 24 24) ?_
           refine mpf 24 38 HT_.out (mb 25 23) ?_
           refine mpf 25 39 HT_.out (mb 26 22) ?_
           refine mpf 26 40 HT_.out (mb 27 21) ?_
           refine mpf 27 41 HT_.out (mb 28 20) ?_
           refine mpf 28 42 HT_.out (mb 29 19) ?_
           refine mpf 29 43 HT_.out (mb 30 18) ?_
           refine mpu 30 44 HT_.out (mb 31 17) ?_
           refine mpu 31 45 HT_.out (mb 32 16) ?_
           refine mpu 32 46 HT_.out (mb 33 15) ?_
           refine mpu 33 47 HT_.out (mb 34 14) ?_
           refine mpu 35 49 HT_.out #[true, true, true, true, true, true, true, true, true, true, true, true, true, true, true, true, true, true, true, true, true, true, true, true, true, true, true, true, true, true, true, true, true, true, false, true, false, false, false, false, false, false, false, false, false, false, false, false] ?_
           refine mpt 34 48 HT_.out HW_.out (mb 36 12) hHeld ?_
           refine mpt 36 50 HT_.out HW_.out (mb 37 11) hHeld ?_
           refine one_ (i := 37) (N := some 51) (mb 38 10) rfl rfl (one_of HT_.out (by kernel_rfl)) (by decide) (fun K hK => ?_)
           refine goes_ Try.func99 (by kernel_rfl) rfl #[.slice A0_1 l0_1.length c0_1, .int .i64 ((rd_T120 l0_0 x9_1).f0)] (by rfl) rfl rfl mA ?_
           with_reducible refine (impl_hasId.calls k1 _ _ l0_1 ((rd_T120 l0_0 x9_1).f0) true _ ?side1 ?side2 A32.out).mono ?_
           (case side1 => repeat (first | exact (Kd.C_below HR0_1.out (mH2 HB.out GE251.out GE253.out)) | (with_reducible refine Kd.C_alloc ?_ _) | (with_reducible refine Kd.C_drewN ?_ _) | (with_reducible refine Kd.C_drew ?_)))
           (case side2 => exact HC0_1.out)
           rintro e w36 ⟨rfl, hb⟩
           refine ⟨_, rfl, ?_⟩
           have n0_ := mB BK251 hb
           have n1_ := mB BK253 hb
           have n2_ := mS (below_step (mH2 HB.out GE251.out GE253.out) hb)
           clear BK251
           clear BK253
           clear HB
           have BK251 := n0_
           have BK253 := n1_
           have HB := n2_
           clear n0_ n1_ n2_
           (try clear hb)
           (try clear hb2)
           (try clear hk)
           (try clear hi)
           refine hK.out _ _ ⟨mZ BK253.out 0, mZ BK253.out 1, mZ BK253.out 2, mZ BK251.out 0, mZ BK251.out 1, mZ BK251.out 2, mZ BK251.out 3⟩ (fun hHeld => ?_)
           clear hK K
           refine norm_ (a' := ?_) ?_ ?_
           rotate_left
           ·show Act.put _ (some 51) _ = _
            simp only [Act.put, zA, zB, zC, i64_w, i32_w]
            rfl
           refine mpu 38 52 HT_.out (mb 39 9) ?_
           refine mpu 39 53 HT_.out (mb 40 8) ?_
           refine mpf 40 54 HT_.out (mb 41 7) ?_
           refine mpf 41 55 HT_.out (mb 42 6) ?_
           refine mpf 42 56 HT_.out (mb 43 5) ?_
           refine mpf 43 57 HT_.out (mb 44 4) ?_
           refine mpf 44 58 HT_.out (mb 45 3) ?_
           refine mpf 45 59 HT_.out (mb 46 2) ?_
           refine mpu 46 60 HT_.out (mb 47 1) ?_
           refine mpu 47 61 HT_.out (mb 48 0) ?_
           refine done_ (done_of HT_.out (by kernel_rfl)) ?_
           try go_wp2
           go_meet
           case rel => exact ⟨_, (false), (by first | rfl | (simp; done) | (simp [*]; done)), H', ⟨by have := HK1.out; first | omega | exact Nat.le_refl _⟩, ⟨by (with_reducible repeat (first | refine blk_drewN ?_ _ | refine blk_drew ?_ | refine blk_alloc ?_ _)); exact BK251.out⟩, ⟨by (with_reducible repeat (first | refine blk_drewN ?_ _ | refine blk_drew ?_ | refine blk_alloc ?_ _)); exact BK253.out⟩, ⟨(mH2 HB.out GE251.out GE253.out)⟩⟩
          ·replace c33 := Bool.eq_false_iff.mpr c33
           subst c33
           have H1 : ((impl_hasId.f k1 l0_2 ((rd_T120 l0_0 x9_1).f0)).bind fun t260 => (impl_DiskOk.j1 k1 x3_1 l0_0 (l0_0.length : Int) x9_1 (!t260) l0_0 l0_1 l0_2 a0_3 ((rd_T120 l0_0 x9_1).f0) ((rd_T120 l0_0 x9_1).f1) ((rd_T120 l0_0 x9_1).f2))) = some r := by rw [if_neg (show ¬ (false = true) by decide)] at H; exact H
           clear H
           have H := H1
           clear H1
           replace H := Option.bind_eq_some_iff.mp H
           obtain ⟨t260, A370, H⟩ := H
           replace H : (impl_DiskOk.j1 k1 x3_1 l0_0 (l0_0.length : Int) x9_1 (!t260) l0_0 l0_1 l0_2 a0_3 ((rd_T120 l0_0 x9_1).f0) ((rd_T120 l0_0 x9_1).f1) ((rd_T120 l0_0 x9_1).f2)) = some r := H
           have A37 := mS A370
           clear A370
           have H' := mS H
           clear H
           try go_wp2
           have n0_ : Aside0 ((((w8.setCell ⟨gb253, 0, none⟩ (.int .i64 ((rd_T120 l0_0 x9_1).f0))).setCell ⟨gb253, 1, none⟩ (.slice A252_1 ((rd_T120 l0_0 x9_1).f1).length c252_1)).setCell ⟨gb253, 2, none⟩ (.int .i64 ((rd_T120 l0_0 x9_1).f2))).heap[gb251]? = some (.cells #[.slice (some ad252) l0_0.length c0_0, .slice A0_1 l0_1.length c0_1, .slice A0_2 l0_2.length c0_2, .int .i64 a0_3] 63 (0, 0))) := ⟨by (with_reducible repeat (first | refine blk_drewN ?_ _ | refine blk_drew ?_ | refine blk_alloc ?_ _)); refine blk_far ?_ NB251_253.out _; (with_reducible repeat (first | refine blk_drewN ?_ _ | refine blk_drew ?_ | refine blk_alloc ?_ _)); refine blk_far ?_ NB251_253.out _; (with_reducible repeat (first | refine blk_drewN ?_ _ | refine blk_drew ?_ | refine blk_alloc ?_ _)); refine blk_far ?_ NB251_253.out _; (with_reducible repeat (first | refine blk_drewN ?_ _ | refine blk_drew ?_ | refine blk_alloc ?_ _)); exact BK251.out⟩
           have n1_ : Aside0 ((((w8.setCell ⟨gb253, 0, none⟩ (.int .i64 ((rd_T120 l0_0 x9_1).f0))).setCell ⟨gb253, 1, none⟩ (.slice A252_1 ((rd_T120 l0_0 x9_1).f1).length c252_1)).setCell ⟨gb253, 2, none⟩ (.int .i64 ((rd_T120 l0_0 x9_1).f2))).heap[gb253]? = some (.cells #[.int .i64 ((rd_T120 l0_0 x9_1).f0), .slice A252_1 ((rd_T120 l0_0 x9_1).f1).length c252_1, .int .i64 ((rd_T120 l0_0 x9_1).f2)] 120 (0, 0))) := ⟨by (with_reducible repeat (first | refine blk_drewN ?_ _ | refine blk_drew ?_ | refine blk_alloc ?_ _)); refine blk_put (cs := #[.int .i64 ((rd_T120 l0_0 x9_1).f0), .slice A252_1 ((rd_T120 l0_0 x9_1).f1).length c252_1, .int .i64 0]) ?_ 2 _ rfl; (with_reducible repeat (first | refine blk_drewN ?_ _ | refine blk_drew ?_ | refine blk_alloc ?_ _)); refine blk_put (cs := #[.int .i64 ((rd_T120 l0_0 x9_1).f0), .slice none 0 0, .int .i64 0]) ?_ 1 _ rfl; (with_reducible repeat (first | refine blk_drewN ?_ _ | refine blk_drew ?_ | refine blk_alloc ?_ _)); refine blk_put (cs := #[.int .i64 0, .slice none 0 0, .int .i64 0]) ?_ 0 _ rfl; (with_reducible repeat (first | refine blk_drewN ?_ _ | refine blk_drew ?_ | refine blk_alloc ?_ _)); exact BK253.out⟩
           have n2_ : Aside0 (Below w.heap.size w (((w8.setCell ⟨gb253, 0, none⟩ (.int .i64 ((rd_T120 l0_0 x9_1).f0))).setCell ⟨gb253, 1, none⟩ (.slice A252_1 ((rd_T120 l0_0 x9_1).f1).length c252_1)).setCell ⟨gb253, 2, none⟩ (.int .i64 ((rd_T120 l0_0 x9_1).f2)))) := ⟨(mH2 HB.out GE251.out GE253.out)⟩
           (try clear BK251)
           (try clear BK253)
           (try clear HB)
           generalize (((w8.setCell ⟨gb253, 0, none⟩ (.int .i64 ((rd_T120 l0_0 x9_1).f0))).setCell ⟨gb253, 1, none⟩ (.slice A252_1 ((rd_T120 l0_0 x9_1).f1).length c252_1)).setCell ⟨gb253, 2, none⟩ (.int .i64 ((rd_T120 l0_0 x9_1).f2))) = w38 at n0_ n1_ n2_ ⊢
           have BK251 := n0_
           have BK253 := n1_
           have HB := n2_
           clear n0_ n1_ n2_
           have n0_ := mS (blk_drew BK251.out)
           have n1_ := mS (blk_drew BK253.out)
           have n2_ := mS (below_drew1 HB.out)
           clear BK251
           clear BK253
           clear HB
           have BK251 := n0_
           have BK253 := n1_
           have HB := n2_
           clear n0_ n1_ n2_
           refine start_ (n := 48) (S := fun w' => w'.cell? ⟨gb253, 0, none⟩ = some (.int .i64 ((rd_T120 l0_0 x9_1).f0)) ∧ w'.cell? ⟨gb253, 1, none⟩ = some (.slice A252_1 ((rd_T120 l0_0 x9_1).f1).length c252_1) ∧ w'.cell? ⟨gb253, 2, none⟩ = some (.int .i64 ((rd_T120 l0_0 x9_1).f2)) ∧ w'.cell? ⟨gb251, 0, none⟩ = some (.slice (some ad252) l0_0.length c0_0) ∧ w'.cell? ⟨gb251, 1, none⟩ = some (.slice A0_1 l0_1.length c0_1) ∧ w'.cell? ⟨gb251, 2, none⟩ = some (.slice A0_2 l0_2.length c0_2) ∧ w'.cell? ⟨gb251, 3, none⟩ = some (.int .i64 a0_3)) (ds := []) (mb 0 48) (by kernel_rfl) rfl rfl ⟨mZ BK253.out 0, mZ BK253.out 1, mZ BK253.out 2, mZ BK251.out 0, mZ BK251.out 1, mZ BK251.out 2, mZ BK251.out 3⟩ (fun hHeld => ?_); refine with_tabW impl_DiskOk.tab5 impl_DiskOk.bits5 (fun HT_ HW_ => ?_)
           generalize w38.drew = w39 at BK251 BK253 HB hHeld ⊢
           refine mpu 0 14 HT_.out (mb 1 47) ?_
           refine mpu 2 16 HT_.out #[true, false, true, false, false, false, false, false, false, false, false, false, false, false, false, false, false, false, false, false, false, false, false, false, false, false, false, false, false, false, false, false, false, false, false, false, false, false, false, false, false, false, false, false, false, false, false, false] ?_
           refine mpt 1 15 HT_.out HW_.out (mb 3 45) hHeld ?_
           refine mpt 3 17 HT_.out HW_.out (mb 4 44) hHeld ?_
           refine mpu 4 18 HT_.out (mb 5 43) ?_
           refine one_ (i := 5) (N := some 19) (mb 6 42) rfl rfl (one_of HT_.out (by kernel_rfl)) (by decide) (fun K hK => ?_)
           refine goes_ Try.func98 (by kernel_rfl) rfl #[.int .i64 ((rd_T120 l0_0 x9_1).f0), .int .i64 1, .int .i64 (wrap64 (a0_3 - 1))] (by rfl) rfl rfl mA ?_
           with_reducible refine (impl_in.calls ((rd_T120 l0_0 x9_1).f0) 1 (wrap64 (a0_3 - 1)) true _ A11.out).mono ?_
           rintro e w' ⟨rfl, ⟨nd, rfl⟩⟩
           refine ⟨_, rfl, ?_⟩
           refine hK.out _ _ ⟨mZ BK253.out 0, mZ BK253.out 1, mZ BK253.out 2, mZ BK251.out 0, mZ BK251.out 1, mZ BK251.out 2, mZ BK251.out 3⟩ (fun hHeld => ?_)
           clear hK K
           refine norm_ (a' := ?_) ?_ ?_
           rotate_left
           ·show Act.put _ (some 19) _ = _
            simp only [Act.put, zA, zB, zC, i64_w, i32_w]
            rfl
           refine mpu 6 20 HT_.out (mb 7 41) ?_
           refine mpu 7 21 HT_.out (mb 8 40) ?_
           refine mpu 8 22 HT_.out (mb 9 39) ?_
           refine mpu 10 24 HT_.out #[true, true, true, true, true, true, true, true, true, false, true, false, false, false, false, false, false, false, false, false, false, false, false, false, false, false, false, false, false, false, false, false, false, false, false, false, false, false, false, false, false, false, false, false, false, false, false, false] ?_
           refine mpt 9 23 HT_.out HW_.out (mb 11 37) hHeld ?_
           refine mpt 11 25 HT_.out HW_.out (mb 12 36) hHeld ?_
           refine mpu 12 26 HT_.out (mb 13 35) ?_
           refine one_ (i := 13) (N := some 27) (mb 14 34) rfl rfl (one_of HT_.out (by kernel_rfl)) (by decide) (fun K hK => ?_)
           refine goes_ Try.func98 (by kernel_rfl) rfl #[.int .i64 ((rd_T120 l0_0 x9_1).f2), .int .i64 0, .int .i64 (((rd_T120 l0_0 x9_1).f1).length : Int)] (by rfl) rfl rfl mA ?_
           with_reducible refine (impl_in.calls ((rd_T120 l0_0 x9_1).f2) 0 (((rd_T120 l0_0 x9_1).f1).length : Int) true _ A13.out).mono ?_
           rintro e w' ⟨rfl, ⟨nd, rfl⟩⟩
           refine ⟨_, rfl, ?_⟩
           refine hK.out _ _ ⟨mZ BK253.out 0, mZ BK253.out 1, mZ BK253.out 2, mZ BK251.out 0, mZ BK251.out 1, mZ BK251.out 2, mZ BK251.out 3⟩ (fun hHeld => ?_)
           clear hK K
           refine norm_ (a' := ?_) ?_ ?_
           rotate_left
           ·show Act.put _ (some 27) _ = _
            simp only [Act.put, zA, zB, zC, i64_w, i32_w]
            rfl
           refine mpu 14 28 HT_.out (mb 15 33) ?_
           refine mpu 15 29 HT_.out (mb 16 32) ?_
           refine mpu 16 30 HT_.out (mb 17 31) ?_
           refine mpu 17 31 HT_.out (mb 18 30) ?_
           refine mpu 18 32 HT_.out (mb 19 29) ?_
           refine mpu 19 33 HT_.out (mb 20 28) ?_
           refine mpf 20 34 HT_.out (mb 21 27) ?_
           refine mpf 21 35 HT_.out (mb 22 26) ?_
           refine mpf 22 36 HT_.out (mb 23 25) ?_
           refine mpf 23 37 HT_.out (mb 24 24) ?_
           refine mpf 24 38 HT_.out (mb 25 23) ?_
           refine mpf 25 39 HT_.out (mb 26 22) ?_
           refine mpf 26 40 HT_.out (mb 27 21) ?_
           refine mpf 27 41 HT_.out (mb 28 20) ?_
           refine mpf 28 42 HT_.out (mb 29 19) ?_
           refine mpf 29 43 HT_.out (mb 30 18) ?_
           refine mpu 30 44 HT_.out (mb 31 17) ?_
           refine mpu 31 45 HT_.out (mb 32 16) ?_
           refine mpu 32 46 HT_.out (mb 33 15) ?_
           refine mpu 33 47 HT_.out (mb 34 14) ?_
           refine mpu 35 49 HT_.out #[true, true, true, true, true, true, true, true, true, true, true, true, true, true, true, true, true, true, true, true, true, true, true, true, true, true, true, true, true, true, true, true, true, true, false, true, false, false, false, false, false, false, false, false, false, false, false, false] ?_
           refine mpt 34 48 HT_.out HW_.out (mb 36 12) hHeld ?_
           refine mpt 36 50 HT_.out HW_.out (mb 37 11) hHeld ?_
           refine one_ (i := 37) (N := some 51) (mb 38 10) rfl rfl (one_of HT_.out (by kernel_rfl)) (by decide) (fun K hK => ?_)
           refine goes_ Try.func99 (by kernel_rfl) rfl #[.slice A0_1 l0_1.length c0_1, .int .i64 ((rd_T120 l0_0 x9_1).f0)] (by rfl) rfl rfl mA ?_
           with_reducible refine (impl_hasId.calls k1 _ _ l0_1 ((rd_T120 l0_0 x9_1).f0) false _ ?side1 ?side2 A32.out).mono ?_
           (case side1 => repeat (first | exact (Kd.C_below HR0_1.out (mH2 HB.out GE251.out GE253.out)) | (with_reducible refine Kd.C_alloc ?_ _) | (with_reducible refine Kd.C_drewN ?_ _) | (with_reducible refine Kd.C_drew ?_)))
           (case side2 => exact HC0_1.out)
           rintro e w40 ⟨rfl, hb⟩
           refine ⟨_, rfl, ?_⟩
           have n0_ := mB BK251 hb
           have n1_ := mB BK253 hb
           have n2_ := mS (below_step (mH2 HB.out GE251.out GE253.out) hb)
           clear BK251
           clear BK253
           clear HB
           have BK251 := n0_
           have BK253 := n1_
           have HB := n2_
           clear n0_ n1_ n2_
           (try clear hb)
           (try clear hb2)
           (try clear hk)
           (try clear hi)
           refine hK.out _ _ ⟨mZ BK253.out 0, mZ BK253.out 1, mZ BK253.out 2, mZ BK251.out 0, mZ BK251.out 1, mZ BK251.out 2, mZ BK251.out 3⟩ (fun hHeld => ?_)
           clear hK K
           refine norm_ (a' := ?_) ?_ ?_
           rotate_left
           ·show Act.put _ (some 51) _ = _
            simp only [Act.put, zA, zB, zC, i64_w, i32_w]
            rfl
           refine mpu 38 52 HT_.out (mb 39 9) ?_
           refine mpu 39 53 HT_.out (mb 40 8) ?_
           refine mpu 40 54 HT_.out (mb 41 7) ?_
           refine mpu 42 56 HT_.out #[true, true, true, true, true, true, true, true, true, true, true, true, true, true, true, true, true, true, true, true, true, true, true, true, true, true, true, true, true, true, true, true, true, true, true, true, true, true, true, true, true, false, true, false, false, false, false, false] ?_
           refine mpt 41 55 HT_.out HW_.out (mb 43 5) hHeld ?_
           refine mpt 43 57 HT_.out HW_.out (mb 44 4) hHeld ?_
           refine one_ (i := 44) (N := some 58) (mb 45 3) rfl rfl (one_of HT_.out (by kernel_rfl)) (by decide) (fun K hK => ?_)
           refine goes_ Try.func99 (by kernel_rfl) rfl #[.slice A0_2 l0_2.length c0_2, .int .i64 ((rd_T120 l0_0 x9_1).f0)] (by rfl) rfl rfl mA ?_
           with_reducible refine (impl_hasId.calls k1 _ _ l0_2 ((rd_T120 l0_0 x9_1).f0) t260 _ ?side1 ?side2 A37.out).mono ?_
           (case side1 => repeat (first | exact (Kd.C_below HR0_2.out HB.out) | (with_reducible refine Kd.C_alloc ?_ _) | (with_reducible refine Kd.C_drewN ?_ _) | (with_reducible refine Kd.C_drew ?_)))
           (case side2 => exact HC0_2.out)
           rintro e w41 ⟨rfl, hb⟩
           refine ⟨_, rfl, ?_⟩
           have n0_ := mB BK251 hb
           have n1_ := mB BK253 hb
           have n2_ := mS (below_step (mH2 HB.out GE251.out GE253.out) hb)
           clear BK251
           clear BK253
           clear HB
           have BK251 := n0_
           have BK253 := n1_
           have HB := n2_
           clear n0_ n1_ n2_
           (try clear hb)
           (try clear hb2)
           (try clear hk)
           (try clear hi)
           refine hK.out _ _ ⟨mZ BK253.out 0, mZ BK253.out 1, mZ BK253.out 2, mZ BK251.out 0, mZ BK251.out 1, mZ BK251.out 2, mZ BK251.out 3⟩ (fun hHeld => ?_)
           clear hK K
           refine norm_ (a' := ?_) ?_ ?_
           rotate_left
           ·show Act.put _ (some 58) _ = _
            simp only [Act.put, zA, zB, zC, i64_w, i32_w]
            rfl
           refine mpu 45 59 HT_.out (mb 46 2) ?_
           refine mpu 46 60 HT_.out (mb 47 1) ?_
           refine mpu 47 61 HT_.out (mb 48 0) ?_
           refine done_ (done_of HT_.out (by kernel_rfl)) ?_
           try go_wp2
           go_meet
           case rel => exact ⟨_, (!t260), (by first | rfl | (simp; done) | (simp [*]; done)), H', ⟨by have := HK1.out; first | omega | exact Nat.le_refl _⟩, ⟨by (with_reducible repeat (first | refine blk_drewN ?_ _ | refine blk_drew ?_ | refine blk_alloc ?_ _)); exact BK251.out⟩, ⟨by (with_reducible repeat (first | refine blk_drewN ?_ _ | refine blk_drew ?_ | refine blk_alloc ?_ _)); exact BK253.out⟩, ⟨(mH2 HB.out GE251.out GE253.out)⟩⟩
        ·replace c14 := Bool.eq_false_iff.mpr c14
         subst c14
         have H1 : (impl_DiskOk.j1 k1 x3_1 l0_0 (l0_0.length : Int) x9_1 true l0_0 l0_1 l0_2 a0_3 ((rd_T120 l0_0 x9_1).f0) ((rd_T120 l0_0 x9_1).f1) ((rd_T120 l0_0 x9_1).f2)) = some r := by rw [if_neg (show ¬ (false = true) by decide)] at H; exact H
         clear H
         have H := H1
         clear H1
         have H' := mS H
         clear H
         try go_wp2
         have n0_ : Aside0 ((((w8.setCell ⟨gb253, 0, none⟩ (.int .i64 ((rd_T120 l0_0 x9_1).f0))).setCell ⟨gb253, 1, none⟩ (.slice A252_1 ((rd_T120 l0_0 x9_1).f1).length c252_1)).setCell ⟨gb253, 2, none⟩ (.int .i64 ((rd_T120 l0_0 x9_1).f2))).heap[gb251]? = some (.cells #[.slice (some ad252) l0_0.length c0_0, .slice A0_1 l0_1.length c0_1, .slice A0_2 l0_2.length c0_2, .int .i64 a0_3] 63 (0, 0))) := ⟨by (with_reducible repeat (first | refine blk_drewN ?_ _ | refine blk_drew ?_ | refine blk_alloc ?_ _)); refine blk_far ?_ NB251_253.out _; (with_reducible repeat (first | refine blk_drewN ?_ _ | refine blk_drew ?_ | refine blk_alloc ?_ _)); refine blk_far ?_ NB251_253.out _; (with_reducible repeat (first | refine blk_drewN ?_ _ | refine blk_drew ?_ | refine blk_alloc ?_ _)); refine blk_far ?_ NB251_253.out _; (with_reducible repeat (first | refine blk_drewN ?_ _ | refine blk_drew ?_ | refine blk_alloc ?_ _)); exact BK251.out⟩
         have n1_ : Aside0 ((((w8.setCell ⟨gb253, 0, none⟩ (.int .i64 ((rd_T120 l0_0 x9_1).f0))).setCell ⟨gb253, 1, none⟩ (.slice A252_1 ((rd_T120 l0_0 x9_1).f1).length c252_1)).setCell ⟨gb253, 2, none⟩ (.int .i64 ((rd_T120 l0_0 x9_1).f2))).heap[gb253]? = some (.cells #[.int .i64 ((rd_T120 l0_0 x9_1).f0), .slice A252_1 ((rd_T120 l0_0 x9_1).f1).length c252_1, .int .i64 ((rd_T120 l0_0 x9_1).f2)] 120 (0, 0))) := ⟨by (with_reducible repeat (first | refine blk_drewN ?_ _ | refine blk_drew ?_ | refine blk_alloc ?_ _)); refine blk_put (cs := #[.int .i64 ((rd_T120 l0_0 x9_1).f0), .slice A252_1 ((rd_T120 l0_0 x9_1).f1).length c252_1, .int .i64 0]) ?_ 2 _ rfl; (with_reducible repeat (first | refine blk_drewN ?_ _ | refine blk_drew ?_ | refine blk_alloc ?_ _)); refine blk_put (cs := #[.int .i64 ((rd_T120 l0_0 x9_1).f0), .slice none 0 0, .int .i64 0]) ?_ 1 _ rfl; (with_reducible repeat (first | refine blk_drewN ?_ _ | refine blk_drew ?_ | refine blk_alloc ?_ _)); refine blk_put (cs := #[.int .i64 0, .slice none 0 0, .int .i64 0]) ?_ 0 _ rfl; (with_reducible repeat (first | refine blk_drewN ?_ _ | refine blk_drew ?_ | refine blk_alloc ?_ _)); exact BK253.out⟩
         have n2_ : Aside0 (Below w.heap.size w (((w8.setCell ⟨gb253, 0, none⟩ (.int .i64 ((rd_T120 l0_0 x9_1).f0))).setCell ⟨gb253, 1, none⟩ (.slice A252_1 ((rd_T120 l0_0 x9_1).f1).length c252_1)).setCell ⟨gb253, 2, none⟩ (.int .i64 ((rd_T120 l0_0 x9_1).f2)))) := ⟨(mH2 HB.out GE251.out GE253.out)⟩
         (try clear BK251)
         (try clear BK253)
         (try clear HB)
         generalize (((w8.setCell ⟨gb253, 0, none⟩ (.int .i64 ((rd_T120 l0_0 x9_1).f0))).setCell ⟨gb253, 1, none⟩ (.slice A252_1 ((rd_T120 l0_0 x9_1).f1).length c252_1)).setCell ⟨gb253, 2, none⟩ (.int .i64 ((rd_T120 l0_0 x9_1).f2))) = w42 at n0_ n1_ n2_ ⊢
         have BK251 := n0_
         have BK253 := n1_
         have HB := n2_
         clear n0_ n1_ n2_
         have n0_ := mS (blk_drew BK251.out)
         have n1_ := mS (blk_drew BK253.out)
         have n2_ := mS (below_drew1 HB.out)
         clear BK251
         clear BK253
         clear HB
         have BK251 := n0_
         have BK253 := n1_
         have HB := n2_
         clear n0_ n1_ n2_
         refine start_ (n := 48) (S := fun w' => w'.cell? ⟨gb253, 0, none⟩ = some (.int .i64 ((rd_T120 l0_0 x9_1).f0)) ∧ w'.cell? ⟨gb253, 1, none⟩ = some (.slice A252_1 ((rd_T120 l0_0 x9_1).f1).length c252_1) ∧ w'.cell? ⟨gb253, 2, none⟩ = some (.int .i64 ((rd_T120 l0_0 x9_1).f2)) ∧ w'.cell? ⟨gb251, 0, none⟩ = some (.slice (some ad252) l0_0.length c0_0) ∧ w'.cell? ⟨gb251, 1, none⟩ = some (.slice A0_1 l0_1.length c0_1) ∧ w'.cell? ⟨gb251, 2, none⟩ = some (.slice A0_2 l0_2.length c0_2) ∧ w'.cell? ⟨gb251, 3, none⟩ = some (.int .i64 a0_3)) (ds := []) (mb 0 48) (by kernel_rfl) rfl rfl ⟨mZ BK253.out 0, mZ BK253.out 1, mZ BK253.out 2, mZ BK251.out 0, mZ BK251.out 1, mZ BK251.out 2, mZ BK251.out 3⟩ (fun hHeld => ?_); refine with_tabW impl_DiskOk.tab5 impl_DiskOk.bits5 (fun HT_ HW_ => ?_)
         generalize w42.drew = w43 at BK251 BK253 HB hHeld ⊢
         refine mpu 0 14 HT_.out (mb 1 47) ?_
         refine mpu 2 16 HT_.out #[true, false, true, false, false, false, false, false, false, false, false, false, false, false, false, false, false, false, false, false, false, false, false, false, false, false, false, false, false, false, false, false, false, false, false, false, false, false, false, false, false, false, false, false, false, false, false, false] ?_
         refine mpt 1 15 HT_.out HW_.out (mb 3 45) hHeld ?_
         refine mpt 3 17 HT_.out HW_.out (mb 4 44) hHeld ?_
         refine mpu 4 18 HT_.out (mb 5 43) ?_
         refine one_ (i := 5) (N := some 19) (mb 6 42) rfl rfl (one_of HT_.out (by kernel_rfl)) (by decide) (fun K hK => ?_)
         refine goes_ Try.func98 (by kernel_rfl) rfl #[.int .i64 ((rd_T120 l0_0 x9_1).f0), .int .i64 1, .int .i64 (wrap64 (a0_3 - 1))] (by rfl) rfl rfl mA ?_
         with_reducible refine (impl_in.calls ((rd_T120 l0_0 x9_1).f0) 1 (wrap64 (a0_3 - 1)) true _ A11.out).mono ?_
         rintro e w' ⟨rfl, ⟨nd, rfl⟩⟩
         refine ⟨_, rfl, ?_⟩
         refine hK.out _ _ ⟨mZ BK253.out 0, mZ BK253.out 1, mZ BK253.out 2, mZ BK251.out 0, mZ BK251.out 1, mZ BK251.out 2, mZ BK251.out 3⟩ (fun hHeld => ?_)
         clear hK K
         refine norm_ (a' := ?_) ?_ ?_
         rotate_left
         ·show Act.put _ (some 19) _ = _
          simp only [Act.put, zA, zB, zC, i64_w, i32_w]
          rfl
         refine mpu 6 20 HT_.out (mb 7 41) ?_
         refine mpu 7 21 HT_.out (mb 8 40) ?_
         refine mpu 8 22 HT_.out (mb 9 39) ?_
         refine mpu 10 24 HT_.out #[true, true, true, true, true, true, true, true, true, false, true, false, false, false, false, false, false, false, false, false, false, false, false, false, false, false, false, false, false, false, false, false, false, false, false, false, false, false, false, false, false, false, false, false, false, false, false, false] ?_
         refine mpt 9 23 HT_.out HW_.out (mb 11 37) hHeld ?_
         refine mpt 11 25 HT_.out HW_.out (mb 12 36) hHeld ?_
         refine mpu 12 26 HT_.out (mb 13 35) ?_
         refine one_ (i := 13) (N := some 27) (mb 14 34) rfl rfl (one_of HT_.out (by kernel_rfl)) (by decide) (fun K hK => ?_)
         refine goes_ Try.func98 (by kernel_rfl) rfl #[.int .i64 ((rd_T120 l0_0 x9_1).f2), .int .i64 0, .int .i64 (((rd_T120 l0_0 x9_1).f1).length : Int)] (by rfl) rfl rfl mA ?_
         with_reducible refine (impl_in.calls ((rd_T120 l0_0 x9_1).f2) 0 (((rd_T120 l0_0 x9_1).f1).length : Int) false _ A13.out).mono ?_
         rintro e w' ⟨rfl, ⟨nd, rfl⟩⟩
         refine ⟨_, rfl, ?_⟩
         refine hK.out _ _ ⟨mZ BK253.out 0, mZ BK253.out 1, mZ BK253.out 2, mZ BK251.out 0, mZ BK251.out 1, mZ BK251.out 2, mZ BK251.out 3⟩ (fun hHeld => ?_)
         clear hK K
         refine norm_ (a' := ?_) ?_ ?_
         rotate_left
         ·show Act.put _ (some 27) _ = _
          simp only [Act.put, zA, zB, zC, i64_w, i32_w]
          rfl
         refine mpu 14 28 HT_.out (mb 15 33) ?_
         refine mpu 15 29 HT_.out (mb 16 32) ?_
         refine mpu 16 30 HT_.out (mb 17 31) ?_
         refine mpf 17 31 HT_.out (mb 18 30) ?_
         refine mpf 18 32 HT_.out (mb 19 29) ?_
         refine mpf 19 33 HT_.out (mb 20 28) ?_
         refine mpf 20 34 HT_.out (mb 21 27) ?_
         refine mpf 21 35 HT_.out (mb 22 26) ?_
         refine mpf 22 36 HT_.out (mb 23 25) ?_
         refine mpf 23 37 HT_.out (mb 24 24) ?_
         refine mpf 24 38 HT_.out (mb 25 23) ?_
         refine mpf 25 39 HT_.out (mb 26 22) ?_
         refine mpf 26 40 HT_.out (mb 27 21) ?_
         refine mpf 27 41 HT_.out (mb 28 20) ?_
         refine mpf 28 42 HT_.out (mb 29 19) ?_
         refine mpf 29 43 HT_.out (mb 30 18) ?_
         refine mpf 30 44 HT_.out (mb 31 17) ?_
         refine mpu 31 45 HT_.out (mb 32 16) ?_
         refine mpu 32 46 HT_.out (mb 33 15) ?_
         refine mpf 33 47 HT_.out (mb 34 14) ?_
         refine mpf 34 48 HT_.out (mb 35 13) ?_
         refine mpf 35 49 HT_.out (mb 36 12) ?_
         refine mpf 36 50 HT_.out (mb 37 11) ?_
         refine mpf 37 51 HT_.out (mb 38 10) ?_
         refine mpf 38 52 HT_.out (mb 39 9) ?_
         refine mpf 39 53 HT_.out (mb 40 8) ?_
         refine mpf 40 54 HT_.out (mb 41 7) ?_
         refine mpf 41 55 HT_.out (mb 42 6) ?_
         refine mpf 42 56 HT_.out (mb 43 5) ?_
         refine mpf 43 57 HT_.out (mb 44 4) ?_
         refine mpf 44 58 HT_.out (mb 45 3) ?_
         refine mpf 45 59 HT_.out (mb 46 2) ?_
         refine mpf 46 60 HT_.out (mb 47 1) ?_
         refine mpu 47 61 HT_.out (mb 48 0) ?_
         refine done_ (done_of HT_.out (by kernel_rfl)) ?_
         try go_wp2
         go_meet
         case rel => exact ⟨_, (true), (by first | rfl | (simp; done) | (simp [*]; done)), H', ⟨by have := HK1.out; first | omega | exact Nat.le_refl _⟩, ⟨by (with_reducible repeat (first | refine blk_drewN ?_ _ | refine blk_drew ?_ | refine blk_alloc ?_ _)); exact BK251.out⟩, ⟨by (with_reducible repeat (first | refine blk_drewN ?_ _ | refine blk_drew ?_ | refine blk_alloc ?_ _)); exact BK253.out⟩, ⟨(mH2 HB.out GE251.out GE253.out)⟩⟩
       ·replace c12 := Bool.eq_false_iff.mpr c12
        subst c12
        have H1 : (impl_DiskOk.j1 k1 x3_1 l0_0 (l0_0.length : Int) x9_1 true l0_0 l0_1 l0_2 a0_3 ((rd_T120 l0_0 x9_1).f0) ((rd_T120 l0_0 x9_1).f1) ((rd_T120 l0_0 x9_1).f2)) = some r := by rw [if_neg (show ¬ (false = true) by decide)] at H; exact H
        clear H
        have H := H1
        clear H1
        have H' := mS H
        clear H
        try go_wp2
        have n0_ : Aside0 ((((w8.setCell ⟨gb253, 0, none⟩ (.int .i64 ((rd_T120 l0_0 x9_1).f0))).setCell ⟨gb253, 1, none⟩ (.slice A252_1 ((rd_T120 l0_0 x9_1).f1).length c252_1)).setCell ⟨gb253, 2, none⟩ (.int .i64 ((rd_T120 l0_0 x9_1).f2))).heap[gb251]? = some (.cells #[.slice (some ad252) l0_0.length c0_0, .slice A0_1 l0_1.length c0_1, .slice A0_2 l0_2.length c0_2, .int .i64 a0_3] 63 (0, 0))) := ⟨by (with_reducible repeat (first | refine blk_drewN ?_ _ | refine blk_drew ?_ | refine blk_alloc ?_ _)); refine blk_far ?_ NB251_253.out _; (with_reducible repeat (first | refine blk_drewN ?_ _ | refine blk_drew ?_ | refine blk_alloc ?_ _)); refine blk_far ?_ NB251_253.out _; (with_reducible repeat (first | refine blk_drewN ?_ _ | refine blk_drew ?_ | refine blk_alloc ?_ _)); refine blk_far ?_ NB251_253.out _; (with_reducible repeat (first | refine blk_drewN ?_ _ | refine blk_drew ?_ | refine blk_alloc ?_ _)); exact BK251.out⟩
        have n1_ : Aside0 ((((w8.setCell ⟨gb253, 0, none⟩ (.int .i64 ((rd_T120 l0_0 x9_1).f0))).setCell ⟨gb253, 1, none⟩ (.slice A252_1 ((rd_T120 l0_0 x9_1).f1).length c252_1)).setCell ⟨gb253, 2, none⟩ (.int .i64 ((rd_T120 l0_0 x9_1).f2))).heap[gb253]? = some (.cells #[.int .i64 ((rd_T120 l0_0 x9_1).f0), .slice A252_1 ((rd_T120 l0_0 x9_1).f1).length c252_1, .int .i64 ((rd_T120 l0_0 x9_1).f2)] 120 (0, 0))) := ⟨by (with_reducible repeat (first | refine blk_drewN ?_ _ | refine blk_drew ?_ | refine blk_alloc ?_ _)); refine blk_put (cs := #[.int .i64 ((rd_T120 l0_0 x9_1).f0), .slice A252_1 ((rd_T120 l0_0 x9_1).f1).length c252_1, .int .i64 0]) ?_ 2 _ rfl; (with_reducible repeat (first | refine blk_drewN ?_ _ | refine blk_drew ?_ | refine blk_alloc ?_ _)); refine blk_put (cs := #[.int .i64 ((rd_T120 l0_0 x9_1).f0), .slice none 0 0, .int .i64 0]) ?_ 1 _ rfl; (with_reducible repeat (first | refine blk_drewN ?_ _ | refine blk_drew ?_ | refine blk_alloc ?_ _)); refine blk_put (cs := #[.int .i64 0, .slice none 0 0, .int .i64 0]) ?_ 0 _ rfl; (with_reducible repeat (first | refine blk_drewN ?_ _ | refine blk_drew ?_ | refine blk_alloc ?_ _)); exact BK253.out⟩
        have n2_ : Aside0 (Below w.heap.size w (((w8.setCell ⟨gb253, 0, none⟩ (.int .i64 ((rd_T120 l0_0 x9_1).f0))).setCell ⟨gb253, 1, none⟩ (.slice A252_1 ((rd_T120 l0_0 x9_1).f1).length c252_1)).setCell ⟨gb253, 2, none⟩ (.int .i64 ((rd_T120 l0_0 x9_1).f2)))) := ⟨(mH2 HB.out GE251.out GE253.out)⟩
        (try clear BK251)
        (try clear BK253)
        (try clear HB)
        generalize (((w8.setCell ⟨gb253, 0, none⟩ (.int .i64 ((rd_T120 l0_0 x9_1).f0))).setCell ⟨gb253, 1, none⟩ (.slice A252_1 ((rd_T120 l0_0 x9_1).f1).length c252_1)).setCell ⟨gb253, 2, none⟩ (.int .i64 ((rd_T120 l0_0 x9_1).f2))) = w44 at n0_ n1_ n2_ ⊢
        have BK251 := n0_
        have BK253 := n1_
        have HB := n2_
        clear n0_ n1_ n2_
        have n0_ := mS (blk_drew BK251.out)
        have n1_ := mS (blk_drew BK253.out)
        have n2_ := mS (below_drew1 HB.out)
        clear BK251
        clear BK253
        clear HB
        have BK251 := n0_
        have BK253 := n1_
        have HB := n2_
        clear n0_ n1_ n2_
        refine start_ (n := 48) (S := fun w' => w'.cell? ⟨gb253, 0, none⟩ = some (.int .i64 ((rd_T120 l0_0 x9_1).f0)) ∧ w'.cell? ⟨gb253, 1, none⟩ = some (.slice A252_1 ((rd_T120 l0_0 x9_1).f1).length c252_1) ∧ w'.cell? ⟨gb253, 2, none⟩ = some (.int .i64 ((rd_T120 l0_0 x9_1).f2)) ∧ w'.cell? ⟨gb251, 0, none⟩ = some (.slice (some ad252) l0_0.length c0_0) ∧ w'.cell? ⟨gb251, 1, none⟩ = some (.slice A0_1 l0_1.length c0_1) ∧ w'.cell? ⟨gb251, 2, none⟩ = some (.slice A0_2 l0_2.length c0_2) ∧ w'.cell? ⟨gb251, 3, none⟩ = some (.int .i64 a0_3)) (ds := []) (mb 0 48) (by kernel_rfl) rfl rfl ⟨mZ BK253.out 0, mZ BK253.out 1, mZ BK253.out 2, mZ BK251.out 0, mZ BK251.out 1, mZ BK251.out 2, mZ BK251.out 3⟩ (fun hHeld => ?_); refine with_tabW impl_DiskOk.tab5 impl_DiskOk.bits5 (fun HT_ HW_ => ?_)
        generalize w44.drew = w45 at BK251 BK253 HB hHeld ⊢
        refine mpu 0 14 HT_.out (mb 1 47) ?_
        refine mpu 2 16 HT_.out #[true, false, true, false, false, false, false, false, false, false, false, false, false, false, false, false, false, false, false, false, false, false, false, false, false, false, false, false, false, false, false, false, false, false, false, false, false, false, false, false, false, false, false, false, false, false, false, false] ?_
        refine mpt 1 15 HT_.out HW_.out (mb 3 45) hHeld ?_
        refine mpt 3 17 HT_.out HW_.out (mb 4 44) hHeld ?_
        refine mpu 4 18 HT_.out (mb 5 43) ?_
        refine one_ (i := 5) (N := some 19) (mb 6 42) rfl rfl (one_of HT_.out (by kernel_rfl)) (by decide) (fun K hK => ?_)
        refine goes_ Try.func98 (by kernel_rfl) rfl #[.int .i64 ((rd_T120 l0_0 x9_1).f0), .int .i64 1, .int .i64 (wrap64 (a0_3 - 1))] (by rfl) rfl rfl mA ?_
        with_reducible refine (impl_in.calls ((rd_T120 l0_0 x9_1).f0) 1 (wrap64 (a0_3 - 1)) false _ A11.out).mono ?_
        rintro e w' ⟨rfl, ⟨nd, rfl⟩⟩
        refine ⟨_, rfl, ?_⟩
        refine hK.out _ _ ⟨mZ BK253.out 0, mZ BK253.out 1, mZ BK253.out 2, mZ BK251.out 0, mZ BK251.out 1, mZ BK251.out 2, mZ BK251.out 3⟩ (fun hHeld => ?_)
        clear hK K
        refine norm_ (a' := ?_) ?_ ?_
        rotate_left
        ·show Act.put _ (some 19) _ = _
         simp only [Act.put, zA, zB, zC, i64_w, i32_w]
         rfl
        refine mpu 6 20 HT_.out (mb 7 41) ?_
        refine mpu 7 21 HT_.out (mb 8 40) ?_
        refine mpf 8 22 HT_.out (mb 9 39) ?_
        refine mpf 9 23 HT_.out (mb 10 38) ?_
        refine mpf 10 24 HT_.out (mb 11 37) ?_
        refine mpf 11 25 HT_.out (mb 12 36) ?_
        refine mpf 12 26 HT_.out (mb 13 35) ?_
        refine mpf 13 27 HT_.out (mb 14 34) ?_
        refine mpf 14 28 HT_.out (mb 15 33) ?_
        refine mpu 15 29 HT_.out (mb 16 32) ?_
        refine mpu 16 30 HT_.out (mb 17 31) ?_
        refine mpf 17 31 HT_.out (mb 18 30) ?_
        refine mpf 18 32 HT_.out (mb 19 29) ?_
        refine mpf 19 33 HT_.out (mb 20 28) ?_
        refine mpf 20 34 HT_.out (mb 21 27) ?_
        refine mpf 21 35 HT_.out (mb 22 26) ?_
        refine mpf 22 36 HT_.out (mb 23 25) ?_
        refine mpf 23 37 HT_.out (mb 24 24) ?_
        refine mpf 24 38 HT_.out (mb 25 23) ?_
        refine mpf 25 39 HT_.out (mb 26 22) ?_
        refine mpf 26 40 HT_.out (mb 27 21) ?_
        refine mpf 27 41 HT_.out (mb 28 20) ?_
        refine mpf 28 42 HT_.out (mb 29 19) ?_
        refine mpf 29 43 HT_.out (mb 30 18) ?_
        refine mpf 30 44 HT_.out (mb 31 17) ?_
        refine mpu 31 45 HT_.out (mb 32 16) ?_
        refine mpu 32 46 HT_.out (mb 33 15) ?_
        refine mpf 33 47 HT_.out (mb 34 14) ?_
        refine mpf 34 48 HT_.out (mb 35 13) ?_
        refine mpf 35 49 HT_.out (mb 36 12) ?_
        refine mpf 36 50 HT_.out (mb 37 11) ?_
        refine mpf 37 51 HT_.out (mb 38 10) ?_
        refine mpf 38 52 HT_.out (mb 39 9) ?_
        refine mpf 39 53 HT_.out (mb 40 8) ?_
        refine mpf 40 54 HT_.out (mb 41 7) ?_
        refine mpf 41 55 HT_.out (mb 42 6) ?_
        refine mpf 42 56 HT_.out (mb 43 5) ?_
        refine mpf 43 57 HT_.out (mb 44 4) ?_
        refine mpf 44 58 HT_.out (mb 45 3) ?_
        refine mpf 45 59 HT_.out (mb 46 2) ?_
        refine mpf 46 60 HT_.out (mb 47 1) ?_
        refine mpu 47 61 HT_.out (mb 48 0) ?_
        refine done_ (done_of HT_.out (by kernel_rfl)) ?_
        try go_wp2
        go_meet
        case rel => exact ⟨_, (true), (by first | rfl | (simp; done) | (simp [*]; done)), H', ⟨by have := HK1.out; first | omega | exact Nat.le_refl _⟩, ⟨by (with_reducible repeat (first | refine blk_drewN ?_ _ | refine blk_drew ?_ | refine blk_alloc ?_ _)); exact BK251.out⟩, ⟨by (with_reducible repeat (first | refine blk_drewN ?_ _ | refine blk_drew ?_ | refine blk_alloc ?_ _)); exact BK253.out⟩, ⟨(mH2 HB.out GE251.out GE253.out)⟩⟩
      case rest =>
       clear HC7
       try clear c1
       try clear c2
       try clear p2
       try clear p6
       try clear c9
       try clear c12
       try clear c25
       obtain ⟨kq, x61_6, rfl, HA, HJ6, BK251, BK253, HB⟩ := hcut
       cases kq with
       | zero => exact absurd HA.out (by simp [impl_DiskOk.j1])
       | succ kj6 =>
        have H := HA.out
        clear HA
        simp only [impl_DiskOk.j1] at H
        by_cases c46 : x61_6 = true
        ·subst c46
         have H1 : (some false) = some r := by rw [if_pos rfl] at H; exact H
         clear H
         have H := H1
         clear H1
         obtain rfl := Option.some.inj H
         go_wp2
         go_ret
         exact ⟨by first | rfl | (simp [errW_none, errW_some] <;> rfl) | (simp [*, errW_none, errW_some] <;> rfl), (mH2 HB.out GE251.out GE253.out)⟩
        ·replace c46 := Bool.eq_false_iff.mpr c46
         subst c46
         have H1 : (impl_DiskOk.l0 kj6 (wrap64 (x3_1 + (((rd_T120 l0_0 x9_1).f1).length : Int))) l0_0 (l0_0.length : Int) (wrap64 (x9_1 + 1)) l0_0 l0_1 l0_2 a0_3) = some r := by rw [if_neg (show ¬ (false = true) by decide)] at H; exact H
         clear H
         have H := H1
         clear H1
         have H' := mS H
         clear H
         have hnb47 := NB253_251.out
         have hnc47 := NB251_253.out
         have hcz48_0 := mZ BK253.out 0
         have hcz48_1 := mZ BK253.out 1
         have hcz48_2 := mZ BK253.out 2
         have hfz48_0 := blk_frozen BK253.out 0
         have hfz48_1 := blk_frozen BK253.out 1
         have hfz48_2 := blk_frozen BK253.out 2
         go_wp2
         go_roundg kj6
         case measure => have := HK1.out; have := HJ6.out; omega
         case rel => exact ⟨(wrap64 (x3_1 + (((rd_T120 l0_0 x9_1).f1).length : Int))), (wrap64 (x9_1 + 1)), (by first | rfl | (simp; done) | (simp [*]; done)), (by first | rfl | (simp; done) | (simp [*]; done)), H', ⟨by have := HK1.out; have := HJ6.out; omega⟩, ⟨by (with_reducible repeat (first | refine blk_drewN ?_ _ | refine blk_drew ?_ | refine blk_alloc ?_ _)); exact BK251.out⟩, ⟨(mH2 HB.out GE251.out GE253.out)⟩⟩
     ·rw [if_neg c6] at H
      exact absurd H (by simp)
    ·rw [if_neg c5] at H
     exact absurd H (by simp)
   ·rw [if_neg c4] at H
    have c4b0 : decide (x9_1 < (l0_0.length : Int)) = false := decide_eq_false c4
    clear c4
    replace H := Option.bind_eq_some_iff.mp H
    obtain ⟨t261, A490, H⟩ := H
    replace H : (if t261 = true then (if x3_1 ≤ 60000 then ((impl_namesOk.f k1 l0_0 l0_1 l0_2 a0_3 l0_1).bind fun t262 => (if t262 = true then ((impl_namesOk.f k1 l0_0 l0_1 l0_2 a0_3 l0_2).bind fun t263 => (some t263)) else (some false))) else (some false)) else (some false)) = some r := H
    have A49 := mS A490
    clear A490
    by_cases c50 : t261 = true
    ·subst c50
     have H1 : (if x3_1 ≤ 60000 then ((impl_namesOk.f k1 l0_0 l0_1 l0_2 a0_3 l0_1).bind fun t262 => (if t262 = true then ((impl_namesOk.f k1 l0_0 l0_1 l0_2 a0_3 l0_2).bind fun t263 => (some t263)) else (some false))) else (some false)) = some r := by rw [if_pos rfl] at H; exact H
     clear H
     have H := H1
     clear H1
     by_cases c51 : x3_1 ≤ 60000
     ·rw [if_pos c51] at H
      have c51b0 : decide (x3_1 ≤ 60000) = true := decide_eq_true c51
      clear c51
      replace H := Option.bind_eq_some_iff.mp H
      obtain ⟨t262, A520, H⟩ := H
      replace H : (if t262 = true then ((impl_namesOk.f k1 l0_0 l0_1 l0_2 a0_3 l0_2).bind fun t263 => (some t263)) else (some false)) = some r := H
      have A52 := mS A520
      clear A520
      by_cases c53 : t262 = true
      ·subst c53
       have H1 : ((impl_namesOk.f k1 l0_0 l0_1 l0_2 a0_3 l0_2).bind fun t263 => (some t263)) = some r := by rw [if_pos rfl] at H; exact H
       clear H
       have H := H1
       clear H1
       replace H := Option.bind_eq_some_iff.mp H
       obtain ⟨t263, A540, H⟩ := H
       replace H : (some t263) = some r := H
       have A54 := mS A540
       clear A540
       obtain rfl := Option.some.inj H
       have hcz55_0 := mZ BK251.out 0
       have hcz55_1 := mZ BK251.out 1
       have hcz55_2 := mZ BK251.out 2
       have hcz55_3 := mZ BK251.out 3
       have hfz55_0 := blk_frozen BK251.out 0
       have hfz55_1 := blk_frozen BK251.out 1
       have hfz55_2 := blk_frozen BK251.out 2
       have hfz55_3 := blk_frozen BK251.out 3
       go_wp2_with (first | ((with_reducible refine gate_callee (f := 98) rfl ?_); refine goesL_ (some 70) rfl rfl Try.func98 (by kernel_rfl) rfl #[.int .i64 a0_3, .int .i64 1, .int .i64 1000000] rfl mA ?_; (with_reducible refine (impl_in.calls a0_3 1 1000000 true _ A49.out).mono ?_); rintro e w' ⟨rfl, ⟨nd, rfl⟩⟩; refine ⟨_, rfl, ?_⟩) | (go_at_call 100; (with_reducible refine (impl_namesOk.calls k1 _ _ l0_0 _ _ l0_1 _ _ l0_2 a0_3 _ _ l0_1 true _ ?side1 ?side2 ?side3 ?side4 ?side5 ?side6 ?side7 ?side8 A52.out).mono ?_); (case side1 => repeat (first | exact (Kd.C_below HR0_0.out (mH1 HB.out GE251.out)) | (with_reducible refine Kd.C_alloc ?_ _) | (with_reducible refine Kd.C_drewN ?_ _) | (with_reducible refine Kd.C_drew ?_))); (case side2 => exact HC0_0.out); (case side3 => repeat (first | exact (Kd.C_below HR0_1.out (mH1 HB.out GE251.out)) | (with_reducible refine Kd.C_alloc ?_ _) | (with_reducible refine Kd.C_drewN ?_ _) | (with_reducible refine Kd.C_drew ?_))); (case side4 => exact HC0_1.out); (case side5 => repeat (first | exact (Kd.C_below HR0_2.out (mH1 HB.out GE251.out)) | (with_reducible refine Kd.C_alloc ?_ _) | (with_reducible refine Kd.C_drewN ?_ _) | (with_reducible refine Kd.C_drew ?_))); (case side6 => exact HC0_2.out); (case side7 => repeat (first | exact (Kd.C_below HR0_1.out (mH1 HB.out GE251.out)) | (with_reducible refine Kd.C_alloc ?_ _) | (with_reducible refine Kd.C_drewN ?_ _) | (with_reducible refine Kd.C_drew ?_))); (case side8 => exact HC0_1.out); rintro e w56 ⟨rfl, hb⟩; replace BK251 := mB BK251 hb; replace HB := mS (below_step (mH1 HB.out GE251.out) hb); (try clear hb); (try clear hb2); (try clear hk); (try clear hi); have hcz57_0 := mZ BK251.out 0; have hcz57_1 := mZ BK251.out 1; have hcz57_2 := mZ BK251.out 2; have hcz57_3 := mZ BK251.out 3; have hfz57_0 := blk_frozen BK251.out 0; have hfz57_1 := blk_frozen BK251.out 1; have hfz57_2 := blk_frozen BK251.out 2; have hfz57_3 := blk_frozen BK251.out 3) | (go_at_call 100; (with_reducible refine (impl_namesOk.calls k1 _ _ l0_0 _ _ l0_1 _ _ l0_2 a0_3 _ _ l0_2 t263 _ ?side1 ?side2 ?side3 ?side4 ?side5 ?side6 ?side7 ?side8 A54.out).mono ?_); (case side1 => repeat (first | exact (Kd.C_below HR0_0.out HB.out) | (with_reducible refine Kd.C_alloc ?_ _) | (with_reducible refine Kd.C_drewN ?_ _) | (with_reducible refine Kd.C_drew ?_))); (case side2 => exact HC0_0.out); (case side3 => repeat (first | exact (Kd.C_below HR0_1.out HB.out) | (with_reducible refine Kd.C_alloc ?_ _) | (with_reducible refine Kd.C_drewN ?_ _) | (with_reducible refine Kd.C_drew ?_))); (case side4 => exact HC0_1.out); (case side5 => repeat (first | exact (Kd.C_below HR0_2.out HB.out) | (with_reducible refine Kd.C_alloc ?_ _) | (with_reducible refine Kd.C_drewN ?_ _) | (with_reducible refine Kd.C_drew ?_))); (case side6 => exact HC0_2.out); (case side7 => repeat (first | exact (Kd.C_below HR0_2.out HB.out) | (with_reducible refine Kd.C_alloc ?_ _) | (with_reducible refine Kd.C_drewN ?_ _) | (with_reducible refine Kd.C_drew ?_))); (case side8 => exact HC0_2.out); rintro e w58 ⟨rfl, hb⟩; replace BK251 := mB BK251 hb; replace HB := mS (below_step (mH1 HB.out GE251.out) hb); (try clear hb); (try clear hb2); (try clear hk); (try clear hi)))
       go_ret
       exact ⟨by first | rfl | (simp [errW_none, errW_some] <;> rfl) | (simp [*, errW_none, errW_some] <;> rfl), (mH1 HB.out GE251.out)⟩
      ·replace c53 := Bool.eq_false_iff.mpr c53
       subst c53
       have H1 : (some false) = some r := by rw [if_neg (show ¬ (false = true) by decide)] at H; exact H
       clear H
       have H := H1
       clear H1
       obtain rfl := Option.some.inj H
       have hcz59_0 := mZ BK251.out 0
       have hcz59_1 := mZ BK251.out 1
       have hcz59_2 := mZ BK251.out 2
       have hcz59_3 := mZ BK251.out 3
       have hfz59_0 := blk_frozen BK251.out 0
       have hfz59_1 := blk_frozen BK251.out 1
       have hfz59_2 := blk_frozen BK251.out 2
       have hfz59_3 := blk_frozen BK251.out 3
       go_wp2_with (first | ((with_reducible refine gate_callee (f := 98) rfl ?_); refine goesL_ (some 70) rfl rfl Try.func98 (by kernel_rfl) rfl #[.int .i64 a0_3, .int .i64 1, .int .i64 1000000] rfl mA ?_; (with_reducible refine (impl_in.calls a0_3 1 1000000 true _ A49.out).mono ?_); rintro e w' ⟨rfl, ⟨nd, rfl⟩⟩; refine ⟨_, rfl, ?_⟩) | (go_at_call 100; (with_reducible refine (impl_namesOk.calls k1 _ _ l0_0 _ _ l0_1 _ _ l0_2 a0_3 _ _ l0_1 false _ ?side1 ?side2 ?side3 ?side4 ?side5 ?side6 ?side7 ?side8 A52.out).mono ?_); (case side1 => repeat (first | exact (Kd.C_below HR0_0.out (mH1 HB.out GE251.out)) | (with_reducible refine Kd.C_alloc ?_ _) | (with_reducible refine Kd.C_drewN ?_ _) | (with_reducible refine Kd.C_drew ?_))); (case side2 => exact HC0_0.out); (case side3 => repeat (first | exact (Kd.C_below HR0_1.out (mH1 HB.out GE251.out)) | (with_reducible refine Kd.C_alloc ?_ _) | (with_reducible refine Kd.C_drewN ?_ _) | (with_reducible refine Kd.C_drew ?_))); (case side4 => exact HC0_1.out); (case side5 => repeat (first | exact (Kd.C_below HR0_2.out (mH1 HB.out GE251.out)) | (with_reducible refine Kd.C_alloc ?_ _) | (with_reducible refine Kd.C_drewN ?_ _) | (with_reducible refine Kd.C_drew ?_))); (case side6 => exact HC0_2.out); (case side7 => repeat (first | exact (Kd.C_below HR0_1.out (mH1 HB.out GE251.out)) | (with_reducible refine Kd.C_alloc ?_ _) | (with_reducible refine Kd.C_drewN ?_ _) | (with_reducible refine Kd.C_drew ?_))); (case side8 => exact HC0_1.out); rintro e w60 ⟨rfl, hb⟩; replace BK251 := mB BK251 hb; replace HB := mS (below_step (mH1 HB.out GE251.out) hb); (try clear hb); (try clear hb2); (try clear hk); (try clear hi)))
       go_ret
       exact ⟨by first | rfl | (simp [errW_none, errW_some] <;> rfl) | (simp [*, errW_none, errW_some] <;> rfl), (mH1 HB.out GE251.out)⟩
     ·rw [if_neg c51] at H
      have c51b0 : decide (x3_1 ≤ 60000) = false := decide_eq_false c51
      clear c51
      obtain rfl := Option.some.inj H
      have hcz61_0 := mZ BK251.out 0
      have hcz61_1 := mZ BK251.out 1
      have hcz61_2 := mZ BK251.out 2
      have hcz61_3 := mZ BK251.out 3
      have hfz61_0 := blk_frozen BK251.out 0
      have hfz61_1 := blk_frozen BK251.out 1
      have hfz61_2 := blk_frozen BK251.out 2
      have hfz61_3 := blk_frozen BK251.out 3
      go_wp2_with (first | ((with_reducible refine gate_callee (f := 98) rfl ?_); refine goesL_ (some 70) rfl rfl Try.func98 (by kernel_rfl) rfl #[.int .i64 a0_3, .int .i64 1, .int .i64 1000000] rfl mA ?_; (with_reducible refine (impl_in.calls a0_3 1 1000000 true _ A49.out).mono ?_); rintro e w' ⟨rfl, ⟨nd, rfl⟩⟩; refine ⟨_, rfl, ?_⟩))
      go_ret
      exact ⟨by first | rfl | (simp [errW_none, errW_some] <;> rfl) | (simp [*, errW_none, errW_some] <;> rfl), (mH1 HB.out GE251.out)⟩
    ·replace c50 := Bool.eq_false_iff.mpr c50
     subst c50
     have H1 : (some false) = some r := by rw [if_neg (show ¬ (false = true) by decide)] at H; exact H
     clear H
     have H := H1
     clear H1
     obtain rfl := Option.some.inj H
     have hcz62_0 := mZ BK251.out 0
     have hcz62_1 := mZ BK251.out 1
     have hcz62_2 := mZ BK251.out 2
     have hcz62_3 := mZ BK251.out 3
     have hfz62_0 := blk_frozen BK251.out 0
     have hfz62_1 := blk_frozen BK251.out 1
     have hfz62_2 := blk_frozen BK251.out 2
     have hfz62_3 := blk_frozen BK251.out 3
     go_wp2_with (first | ((with_reducible refine gate_callee (f := 98) rfl ?_); refine goesL_ (some 70) rfl rfl Try.func98 (by kernel_rfl) rfl #[.int .i64 a0_3, .int .i64 1, .int .i64 1000000] rfl mA ?_; (with_reducible refine (impl_in.calls a0_3 1 1000000 false _ A49.out).mono ?_); rintro e w' ⟨rfl, ⟨nd, rfl⟩⟩; refine ⟨_, rfl, ?_⟩))
     go_ret
     exact ⟨by first | rfl | (simp [errW_none, errW_some] <;> rfl) | (simp [*, errW_none, errW_some] <;> rfl), (mH1 HB.out GE251.out)⟩

end Go.Proofs.Ytgbejjeephipeaa.MFnExactBytes
