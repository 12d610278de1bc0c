-- Written by mp.py, this session's own printer (wip/mp.py).
import Derived.Test.YtbepbgfkajnlbaaVMShort
import Derived.Test.YtbepbgfkajnlbaaMFnMemx0
namespace Go.Proofs.Ytbepbgfkajnlbaa.MFnMem
open Go.RowKit Go.Proofs.YtbepbgfkajnlbaaW.PrintWords Go.Proofs.YtbepbgfkajnlbaaW.PrintLast Go.Proofs.YtbepbgfkajnlbaaW.PrintMore Go.Proofs.Ytbepbgfkajnlbaa.MWords
attribute [local go_sem] max2_int min2_int max_two min_two max_three min_three max_four min_four   -- for this text's walks alone
set_option linter.unusedVariables false
set_option linter.unusedSimpArgs false

/-! ### impl_MemGet: function 22 -/
def impl_MemGet.l0 : Nat → ByteArray → List (S35) → Int → Int → Option (ByteArray × ByteArray × Bool × Bool)
 | 0, _, _, _, _ => none
 | k + 1, x1, x9, x10, x11 => if x11 < x10 then (if 0 ≤ x11 then (if x11 < (x9.length : Int) then (if ((rd_T35 x9 x11).f0.f0).toList = x1.toList then (some ((rd_T35 x9 x11).f0.f0, (rd_T35 x9 x11).f0.f1, (rd_T35 x9 x11).f0.f2, true)) else (impl_MemGet.l0 k x1 x9 x10 (wrap64 (x11 + 1)))) else (none)) else (none)) else (some ((⟨#[]⟩ : ByteArray), (⟨#[]⟩ : ByteArray), false, false))
def impl_MemGet.f (k : Nat) (l0_0 : List (S35)) (a1 : ByteArray) : Option (ByteArray × ByteArray × Bool × Bool) := impl_MemGet.l0 k a1 l0_0 (l0_0.length : Int) 0
theorem impl_MemGet.mono_l : ∀ k, (∀ y0 y1 y2 y3, LeO (impl_MemGet.l0 k y0 y1 y2 y3) (impl_MemGet.l0 (k + 1) y0 y1 y2 y3))
 | 0 => fun _ _ _ _ r h => by simp [impl_MemGet.l0] at h
 | k + 1 => by
  have ih0 := impl_MemGet.mono_l k
  ·intro y0 y1 y2 y3
   unfold impl_MemGet.l0
   repeat' first
   | (with_reducible exact ih0 _ _ _ _)
   | (with_reducible exact LeO.refl _)
   | (with_reducible exact LeO.none _)
   | (with_reducible refine LeO.ite ?_ ?_)
   | (with_reducible refine LeO.bind ?_ (fun _ => ?_))
   | exact ih0 _ _ _ _
   | exact LeO.none _
   | refine LeO.ite ?_ ?_
   | refine LeO.bind ?_ (fun _ => ?_)
theorem impl_MemGet.mono : ∀ a0 a1 k, LeO (impl_MemGet.f k a0 a1) (impl_MemGet.f (k + 1) a0 a1) := by
 intro a0 a1 k
 have ih0 := impl_MemGet.mono_l k
 unfold impl_MemGet.f
 repeat' first
   | (with_reducible exact ih0 _ _ _ _)
   | (with_reducible exact LeO.refl _)
   | (with_reducible exact LeO.none _)
   | (with_reducible refine LeO.ite ?_ ?_)
   | (with_reducible refine LeO.bind ?_ (fun _ => ?_))
   | exact ih0 _ _ _ _
   | exact LeO.none _
   | refine LeO.ite ?_ ?_
   | refine LeO.bind ?_ (fun _ => ?_)
set_option maxHeartbeats 8000000 in
set_option maxRecDepth 100000 in
theorem impl_MemGet.calls (k : Nat) (A0_0 : Option Addr) (c0_0 : Nat) (l0_0 : List (S35)) (a1 : ByteArray) (r1 : ByteArray) (r2 : ByteArray) (r3 : Bool) (r4 : Bool) (w : World) (hr0_0 : Kd.C k35 w A0_0 l0_0.length l0_0) (hc0_0 : l0_0.length ≤ c0_0) (h : impl_MemGet.f k l0_0 a1 = some (r1, r2, r3, r4)) :
  Calls Try.prog 22 #[.agg #[.slice A0_0 l0_0.length c0_0], .string a1] w fun e w' => e = .returned (.tuple #[.agg #[.string r1, .string r2, .bool r3], .bool r4]) ∧ Below w.heap.size w w' := by
 have hu26 := Try.underlying26
 have hu33 := Try.underlying33
 have hu35 := Try.underlying35
 have HR0_0 := mS hr0_0
 have HC0_0 := mS hc0_0
 clear hr0_0 hc0_0
 have HB := mS (Below.refl w.heap.size w)
 have H : (impl_MemGet.l0 k a1 l0_0 (l0_0.length : Int) 0) = some (r1, r2, r3, r4) := h
 clear h
 have H' := mS H
 clear H
 go_enter Try.func22, Try.ntmps22
 go_wp2_with (first | ((with_reducible refine gate_dst (N := 2) rfl ?_); refine box_event ?hg (N := 2) ?hd (cs := #[.slice A0_0 l0_0.length c0_0]) (t := 26) ?hr ?_; (case hd => rfl); (case hg => rfl); (case hr => first | (go_simp; done) | (go_simp; rfl)); intro gb328 hg w3 hbox hb; have BK328 := mS (hbox); have GW328 := mG hg (mH HB.out); have GE328 := mG hg (mH HB.out); replace HB := mS (below_step (mH HB.out) hb); clear hb hbox hg) | ((with_reducible refine gate_dst (N := 4) rfl ?_); refine box_event ?hg (N := 4) ?hd (cs := #[.string (⟨#[]⟩ : ByteArray), .string (⟨#[]⟩ : ByteArray), .bool false]) (t := 33) ?hr ?_; (case hd => rfl); (case hg => rfl); (case hr => first | (go_simp; done) | (go_simp; rfl)); intro gb329 hg w4 hbox hb; have BK329 := mS (hbox); have GW329 := mG hg (mH1 HB.out GE328.out); have GE329 := mG hg (mH1 HB.out GE328.out); replace HB := mS (below_step (mH1 HB.out GE328.out) hb); have NB328_329 := mNl hg BK328.out; have NB329_328 := mNg hg BK328.out; replace BK328 := mB BK328 hb; clear hb hbox hg; have hnb5 := NB328_329.out; have hnc5 := NB329_328.out; have hcz6_0 := mZ BK328.out 0; have hfz6_0 := blk_frozen BK328.out 0))
 go_loopg [11] k (fun kq v11 w' => ∃ (x11_1 : Int) (x330000_1 : ByteArray) (x330001_1 : ByteArray) (x330002_1 : Bool), v11 = .int .i64 x11_1 ∧ Aside0 (impl_MemGet.l0 kq a1 l0_0 (l0_0.length : Int) x11_1 = some (r1, r2, r3, r4)) ∧ Aside0 (kq ≤ k) ∧ Aside0 (w'.heap[gb328]? = some (.cells #[(.slice A0_0 l0_0.length c0_0)] 26 (0, 0))) ∧ Aside0 (w'.heap[gb329]? = some (.cells #[.string x330000_1, .string x330001_1, .bool x330002_1] 33 (0, 0))) ∧ Aside0 (Below w.heap.size w w'))
 case atStart => exact ⟨(0), ((⟨#[]⟩ : ByteArray)), ((⟨#[]⟩ : ByteArray)), (false), (by first | rfl | (simp; done) | (simp [*]; done)), H', ⟨Nat.le_refl _⟩, ⟨by (with_reducible repeat (first | refine blk_drewN ?_ _ | refine blk_drew ?_ | refine blk_alloc ?_ _)); exact BK328.out⟩, ⟨by (with_reducible repeat (first | refine blk_drewN ?_ _ | refine blk_drew ?_ | refine blk_alloc ?_ _)); exact BK329.out⟩, ⟨(mH2 HB.out GE328.out GE329.out)⟩⟩
 case round =>
  clear H'
  try clear c2
  try clear p2
  try clear c5
  try clear hcz6_0
  try clear hfz6_0
  obtain ⟨x11_1, x330000_1, x330001_1, x330002_1, rfl, HA, HK1, BK328, BK329, HB⟩ := hrel
  cases gk with
  | zero => exact absurd HA.out (by simp [impl_MemGet.l0])
  | succ k1 =>
   have H := HA.out
   clear HA
   simp only [impl_MemGet.l0] at H
   by_cases c7 : x11_1 < (l0_0.length : Int)
   ·rw [if_pos c7] at H
    have c7b0 : decide (x11_1 < (l0_0.length : Int)) = true := decide_eq_true c7
    clear c7
    by_cases c8 : 0 ≤ x11_1
    ·rw [if_pos c8] at H
     have c8b0 : decide (0 ≤ x11_1) = true := decide_eq_true c8
     clear c8
     by_cases c9 : x11_1 < (l0_0.length : Int)
     ·rw [if_pos c9] at H
      have c9b0 : decide (x11_1 < (l0_0.length : Int)) = true := decide_eq_true c9
      clear c9
      by_cases c10 : ((rd_T35 l0_0 x11_1).f0.f0).toList = a1.toList
      ·rw [if_pos c10] at H
       have c10b0 : (((rd_T35 l0_0 x11_1).f0.f0).toList == a1.toList) = true := beq_iff_eq.mpr c10
       have c10b1 : (((rd_T35 l0_0 x11_1).f0.f0).toList != a1.toList) = false := bne_eq_false_iff_eq.mpr c10
       clear c10
       simp only [Option.some.injEq, Prod.mk.injEq] at H
       obtain ⟨rfl, rfl, rfl, rfl⟩ := H
       have p330 : 0 ≤ (x11_1 : Int) := of_decide_eq_true (by first | (with_reducible assumption) | assumption)
       have q330 : x11_1 < (l0_0.length : Int) := of_decide_eq_true (by first | (with_reducible assumption) | assumption)
       obtain ⟨ad330, e330, hx330_0, hx330_1, hx330_2, hx330_3⟩ := at_T35 HR0_0.out x11_1 p330 q330
       cases e330
       replace hx330_0 := mX HB.out hx330_0
       replace hx330_1 := mX HB.out hx330_1
       replace hx330_2 := mX HB.out hx330_2
       replace hx330_3 := mX HB.out hx330_3
       replace p330 := eq_true p330
       replace q330 := eq_true q330
       go_wp2_with (first | ((with_reducible refine gate_dst (N := 7) rfl ?_); refine box_event ?hg (N := 7) ?hd (cs := #[.string (⟨#[]⟩ : ByteArray), .string (⟨#[]⟩ : ByteArray), .bool false, .int .i64 0]) (t := 35) ?hr ?_; (case hd => rfl); (case hg => rfl); (case hr => first | (go_simp; done) | (go_simp; rfl)); intro gb331 hg w11 hbox hb; have BK331 := mS (hbox); have GW331 := mG hg (mH2 HB.out GE328.out GE329.out); have GE331 := mG hg (mH2 HB.out GE328.out GE329.out); replace HB := mS (below_step (mH2 HB.out GE328.out GE329.out) hb); have NB328_331 := mNl hg BK328.out; have NB331_328 := mNg hg BK328.out; replace BK328 := mB BK328 hb; have NB329_331 := mNl hg BK329.out; have NB331_329 := mNg hg BK329.out; replace BK329 := mB BK329 hb; clear hb hbox hg; have hnb12 := NB331_328.out; have hnc12 := NB328_331.out; have hnb13 := NB331_329.out; have hnc13 := NB329_331.out; have hcz14_0 := mZ BK331.out 0; have hcz14_1 := mZ BK331.out 1; have hcz14_2 := mZ BK331.out 2; have hcz14_3 := mZ BK331.out 3; have hfz14_0 := blk_frozen BK331.out 0; have hfz14_1 := blk_frozen BK331.out 1; have hfz14_2 := blk_frozen BK331.out 2; have hfz14_3 := blk_frozen BK331.out 3; have hnb15 := NB329_328.out; have hnc15 := NB328_329.out; have hcz16_0 := mZ BK329.out 0; have hcz16_1 := mZ BK329.out 1; have hcz16_2 := mZ BK329.out 2; have hfz16_0 := blk_frozen BK329.out 0; have hfz16_1 := blk_frozen BK329.out 1; have hfz16_2 := blk_frozen BK329.out 2))
       refine bodyPost_ret (results_ct rfl _ _ gb329 33 #[.string ((rd_T35 l0_0 x11_1).f0.f0), .string ((rd_T35 l0_0 x11_1).f0.f1), .bool ((rd_T35 l0_0 x11_1).f0.f2)] (0, 0) _ rfl (by (with_reducible repeat (first | refine blk_drewN ?_ _ | refine blk_drew ?_ | refine blk_alloc ?_ _)); refine blk_put (cs := #[.string ((rd_T35 l0_0 x11_1).f0.f0), .string ((rd_T35 l0_0 x11_1).f0.f1), .bool x330002_1]) ?_ 2 _ rfl; (with_reducible repeat (first | refine blk_drewN ?_ _ | refine blk_drew ?_ | refine blk_alloc ?_ _)); refine blk_put (cs := #[.string ((rd_T35 l0_0 x11_1).f0.f0), .string x330001_1, .bool x330002_1]) ?_ 1 _ rfl; (with_reducible repeat (first | refine blk_drewN ?_ _ | refine blk_drew ?_ | refine blk_alloc ?_ _)); refine blk_put (cs := #[.string x330000_1, .string x330001_1, .bool x330002_1]) ?_ 0 _ rfl; (with_reducible repeat (first | refine blk_drewN ?_ _ | refine blk_drew ?_ | refine blk_alloc ?_ _)); refine blk_far ?_ NB329_331.out _; (with_reducible repeat (first | refine blk_drewN ?_ _ | refine blk_drew ?_ | refine blk_alloc ?_ _)); refine blk_far ?_ NB329_331.out _; (with_reducible repeat (first | refine blk_drewN ?_ _ | refine blk_drew ?_ | refine blk_alloc ?_ _)); refine blk_far ?_ NB329_331.out _; (with_reducible repeat (first | refine blk_drewN ?_ _ | refine blk_drew ?_ | refine blk_alloc ?_ _)); refine blk_far ?_ NB329_331.out _; (with_reducible repeat (first | refine blk_drewN ?_ _ | refine blk_drew ?_ | refine blk_alloc ?_ _)); exact BK329.out) Try.underlying33 rfl (by kernel_rfl)) rfl ?_
       exact ⟨by first | rfl | (simp [errW_none, errW_some] <;> rfl) | (simp [*, errW_none, errW_some] <;> rfl), (mH3 HB.out GE328.out GE329.out GE331.out)⟩
      ·rw [if_neg c10] at H
       have c10b0 : (((rd_T35 l0_0 x11_1).f0.f0).toList == a1.toList) = false := beq_eq_false_iff_ne.mpr c10
       have c10b1 : (((rd_T35 l0_0 x11_1).f0.f0).toList != a1.toList) = true := bne_iff_ne.mpr c10
       have H' := mS H
       clear H
       have p330 : 0 ≤ (x11_1 : Int) := of_decide_eq_true (by first | (with_reducible assumption) | assumption)
       have q330 : x11_1 < (l0_0.length : Int) := of_decide_eq_true (by first | (with_reducible assumption) | assumption)
       obtain ⟨ad330, e330, hx330_0, hx330_1, hx330_2, hx330_3⟩ := at_T35 HR0_0.out x11_1 p330 q330
       cases e330
       replace hx330_0 := mX HB.out hx330_0
       replace hx330_1 := mX HB.out hx330_1
       replace hx330_2 := mX HB.out hx330_2
       replace hx330_3 := mX HB.out hx330_3
       replace p330 := eq_true p330
       replace q330 := eq_true q330
       go_wp2_with (first | ((with_reducible refine gate_dst (N := 7) rfl ?_); refine box_event ?hg (N := 7) ?hd (cs := #[.string (⟨#[]⟩ : ByteArray), .string (⟨#[]⟩ : ByteArray), .bool false, .int .i64 0]) (t := 35) ?hr ?_; (case hd => rfl); (case hg => rfl); (case hr => first | (go_simp; done) | (go_simp; rfl)); intro gb331 hg w17 hbox hb; have BK331 := mS (hbox); have GW331 := mG hg (mH2 HB.out GE328.out GE329.out); have GE331 := mG hg (mH2 HB.out GE328.out GE329.out); replace HB := mS (below_step (mH2 HB.out GE328.out GE329.out) hb); have NB328_331 := mNl hg BK328.out; have NB331_328 := mNg hg BK328.out; replace BK328 := mB BK328 hb; have NB329_331 := mNl hg BK329.out; have NB331_329 := mNg hg BK329.out; replace BK329 := mB BK329 hb; clear hb hbox hg; have hnb18 := NB331_328.out; have hnc18 := NB328_331.out; have hnb19 := NB331_329.out; have hnc19 := NB329_331.out; have hcz20_0 := mZ BK331.out 0; have hcz20_1 := mZ BK331.out 1; have hcz20_2 := mZ BK331.out 2; have hcz20_3 := mZ BK331.out 3; have hfz20_0 := blk_frozen BK331.out 0; have hfz20_1 := blk_frozen BK331.out 1; have hfz20_2 := blk_frozen BK331.out 2; have hfz20_3 := blk_frozen BK331.out 3))
       go_roundg k1
       case measure => have := HK1.out; omega
       case rel => exact ⟨(wrap64 (x11_1 + 1)), (x330000_1), (x330001_1), (x330002_1), (by first | rfl | (simp; done) | (simp [*]; done)), H', ⟨by have := HK1.out; omega⟩, ⟨by (with_reducible repeat (first | refine blk_drewN ?_ _ | refine blk_drew ?_ | refine blk_alloc ?_ _)); refine blk_far ?_ NB328_331.out _; (with_reducible repeat (first | refine blk_drewN ?_ _ | refine blk_drew ?_ | refine blk_alloc ?_ _)); refine blk_far ?_ NB328_331.out _; (with_reducible repeat (first | refine blk_drewN ?_ _ | refine blk_drew ?_ | refine blk_alloc ?_ _)); refine blk_far ?_ NB328_331.out _; (with_reducible repeat (first | refine blk_drewN ?_ _ | refine blk_drew ?_ | refine blk_alloc ?_ _)); refine blk_far ?_ NB328_331.out _; (with_reducible repeat (first | refine blk_drewN ?_ _ | refine blk_drew ?_ | refine blk_alloc ?_ _)); exact BK328.out⟩, ⟨by (with_reducible repeat (first | refine blk_drewN ?_ _ | refine blk_drew ?_ | refine blk_alloc ?_ _)); refine blk_far ?_ NB329_331.out _; (with_reducible repeat (first | refine blk_drewN ?_ _ | refine blk_drew ?_ | refine blk_alloc ?_ _)); refine blk_far ?_ NB329_331.out _; (with_reducible repeat (first | refine blk_drewN ?_ _ | refine blk_drew ?_ | refine blk_alloc ?_ _)); refine blk_far ?_ NB329_331.out _; (with_reducible repeat (first | refine blk_drewN ?_ _ | refine blk_drew ?_ | refine blk_alloc ?_ _)); refine blk_far ?_ NB329_331.out _; (with_reducible repeat (first | refine blk_drewN ?_ _ | refine blk_drew ?_ | refine blk_alloc ?_ _)); exact BK329.out⟩, ⟨(mH3 HB.out GE328.out GE329.out GE331.out)⟩⟩
     ·rw [if_neg c9] at H
      exact absurd H (by simp)
    ·rw [if_neg c8] at H
     exact absurd H (by simp)
   ·rw [if_neg c7] at H
    have c7b0 : decide (x11_1 < (l0_0.length : Int)) = false := decide_eq_false c7
    clear c7
    simp only [Option.some.injEq, Prod.mk.injEq] at H
    obtain ⟨rfl, rfl, rfl, rfl⟩ := H
    have hnb21 := NB329_328.out
    have hnc21 := NB328_329.out
    have hcz22_0 := mZ BK329.out 0
    have hcz22_1 := mZ BK329.out 1
    have hcz22_2 := mZ BK329.out 2
    have hfz22_0 := blk_frozen BK329.out 0
    have hfz22_1 := blk_frozen BK329.out 1
    have hfz22_2 := blk_frozen BK329.out 2
    go_wp2
    refine bodyPost_ret (results_ct rfl _ _ gb329 33 #[.string (⟨#[]⟩ : ByteArray), .string (⟨#[]⟩ : ByteArray), .bool false] (0, 0) _ rfl (by (with_reducible repeat (first | refine blk_drewN ?_ _ | refine blk_drew ?_ | refine blk_alloc ?_ _)); refine blk_put (cs := #[.string (⟨#[]⟩ : ByteArray), .string (⟨#[]⟩ : ByteArray), .bool x330002_1]) ?_ 2 _ rfl; (with_reducible repeat (first | refine blk_drewN ?_ _ | refine blk_drew ?_ | refine blk_alloc ?_ _)); refine blk_put (cs := #[.string (⟨#[]⟩ : ByteArray), .string x330001_1, .bool x330002_1]) ?_ 1 _ rfl; (with_reducible repeat (first | refine blk_drewN ?_ _ | refine blk_drew ?_ | refine blk_alloc ?_ _)); refine blk_put (cs := #[.string x330000_1, .string x330001_1, .bool x330002_1]) ?_ 0 _ rfl; (with_reducible repeat (first | refine blk_drewN ?_ _ | refine blk_drew ?_ | refine blk_alloc ?_ _)); exact BK329.out) Try.underlying33 rfl (by kernel_rfl)) rfl ?_
    exact ⟨by first | rfl | (simp [errW_none, errW_some] <;> rfl) | (simp [*, errW_none, errW_some] <;> rfl), (mH2 HB.out GE328.out GE329.out)⟩

end Go.Proofs.Ytbepbgfkajnlbaa.MFnMem
