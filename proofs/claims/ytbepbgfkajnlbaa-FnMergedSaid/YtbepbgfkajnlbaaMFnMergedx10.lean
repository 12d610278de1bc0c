-- Written by mp.py, this session's own printer (wip/mp.py).
import Derived.Test.YtbepbgfkajnlbaaVMShort
import Derived.Test.YtbepbgfkajnlbaaMFnMergedx0
import Derived.Test.YtbepbgfkajnlbaaMFnMergedx2
import Derived.Test.YtbepbgfkajnlbaaMFnMergedx9
namespace Go.Proofs.Ytbepbgfkajnlbaa.MFnMerged
open Go.RowKit Go.Proofs.YtbepbgfkajnlbaaW.PrintWords Go.Proofs.YtbepbgfkajnlbaaW.PrintLast Go.Proofs.YtbepbgfkajnlbaaW.PrintMore Go.Proofs.Ytbepbgfkajnlbaa.MWords
attribute [local go_sem] max2_int min2_int max_two min_two max_three min_three max_four min_four   -- for this text's walks alone
set_option linter.unusedVariables false
set_option linter.unusedSimpArgs false

/-! ### spec_MemPut: function 21 -/
mutual
def spec_MemPut.j0 : Nat → Int → Bool → ByteArray → ByteArray → Bool → List (S35) → Option ((List (S35)) × Bool)
 | 0, _, _, _, _, _, _ => none
 | k + 1, x2, x28, x210000, x210001, x210002, x218000 => if x28 = true then (some (x218000, false)) else (spec_MemPut.l0 k x2 0 x210000 x210001 x210002 x218000)
def spec_MemPut.l0 : Nat → Int → Int → ByteArray → ByteArray → Bool → List (S35) → Option ((List (S35)) × Bool)
 | 0, _, _, _, _, _, _ => none
 | k + 1, x2, x9, x210000, x210001, x210002, x218000 => if x9 < (x218000.length : Int) then (if 0 ≤ x9 then (spec_MemPut.j2 k x2 x9 (Op.bytesLess (((rd_T35 x218000 x9).f0.f0).toList) x210000.toList) x210000 x210001 x210002 x218000) else (none)) else (spec_MemPut.j2 k x2 x9 false x210000 x210001 x210002 x218000)
def spec_MemPut.j2 : Nat → Int → Int → Bool → ByteArray → ByteArray → Bool → List (S35) → Option ((List (S35)) × Bool)
 | 0, _, _, _, _, _, _, _ => none
 | k + 1, x2, x9, x46, x210000, x210001, x210002, x218000 => if x46 = true then (spec_MemPut.l0 k x2 (wrap64 (x9 + 1)) x210000 x210001 x210002 x218000) else (if x9 < (x218000.length : Int) then (if 0 ≤ x9 then (spec_MemPut.j3 k x2 x9 (((rd_T35 x218000 x9).f0.f0).toList == x210000.toList) x210000 x210001 x210002 x218000) else (none)) else (spec_MemPut.j3 k x2 x9 false x210000 x210001 x210002 x218000))
def spec_MemPut.j3 : Nat → Int → Int → Bool → ByteArray → ByteArray → Bool → List (S35) → Option ((List (S35)) × Bool)
 | 0, _, _, _, _, _, _, _ => none
 | k + 1, x2, x9, x65, x210000, x210001, x210002, x218000 => if x65 = true then (if 0 ≤ x9 then (if x9 < (x218000.length : Int) then (some ((x218000.set (x9 : Int).toNat (⟨(⟨x210000, x210001, x210002⟩ : S33), (rd_T35 x218000 x9).f1⟩ : S35)), true)) else (none)) else (none)) else (if (x218000.length : Int) = 60 then (some (x218000, false)) else ((some (([] : List (S35)) : List (S35))).bind fun y224 => (if 0 ≤ x9 then (if x9 ≤ (x218000.length : Int) then ((some (x218000.take (x9 : Int).toNat : List (S35))).bind fun y227 => (if y224.length + y227.length < 2932031007402 then ((some (y224 ++ y227 : List (S35))).bind fun y231 => (if y231.length < 2932031007402 then ((some (y231 ++ [(⟨(⟨x210000, x210001, x210002⟩ : S33), x2⟩ : S35)] : List (S35))).bind fun y234 => ((some (x218000.drop (x9 : Int).toNat : List (S35))).bind fun y237 => (if y234.length + y237.length < 2932031007402 then (some ((y234 ++ y237), true)) else (none)))) else (none))) else (none))) else (none)) else (none))))
end
def spec_MemPut.f (k : Nat) (l0_0 : List (S35)) (a1_0 : ByteArray) (a1_1 : ByteArray) (a1_2 : Bool) (a2 : Int) : Option ((List (S35)) × Bool) := (some (([] : List (S35)) : List (S35))).bind fun y211 => (if y211.length + l0_0.length < 2932031007402 then ((some (y211 ++ l0_0 : List (S35))).bind fun y214 => ((spec_MemOk.f k l0_0).bind fun t218 => (if t218 = true then ((spec_PairOk.f a1_0 a1_1 a1_2).bind fun t219 => (if t219 = true then ((spec_l1In.f a2 1 4).bind fun t220 => (spec_MemPut.j0 k a2 (!t220) a1_0 a1_1 a1_2 y214)) else (spec_MemPut.j0 k a2 true a1_0 a1_1 a1_2 y214))) else (spec_MemPut.j0 k a2 true a1_0 a1_1 a1_2 y214)))) else (none))
theorem spec_MemPut.mono_l : ∀ k, (∀ y0 y1 y2 y3 y4 y5, LeO (spec_MemPut.j0 k y0 y1 y2 y3 y4 y5) (spec_MemPut.j0 (k + 1) y0 y1 y2 y3 y4 y5)) ∧ (∀ y0 y1 y2 y3 y4 y5, LeO (spec_MemPut.l0 k y0 y1 y2 y3 y4 y5) (spec_MemPut.l0 (k + 1) y0 y1 y2 y3 y4 y5)) ∧ (∀ y0 y1 y2 y3 y4 y5 y6, LeO (spec_MemPut.j2 k y0 y1 y2 y3 y4 y5 y6) (spec_MemPut.j2 (k + 1) y0 y1 y2 y3 y4 y5 y6)) ∧ (∀ y0 y1 y2 y3 y4 y5 y6, LeO (spec_MemPut.j3 k y0 y1 y2 y3 y4 y5 y6) (spec_MemPut.j3 (k + 1) y0 y1 y2 y3 y4 y5 y6))
 | 0 => ⟨fun _ _ _ _ _ _ r h => by simp [spec_MemPut.j0] at h, fun _ _ _ _ _ _ r h => by simp [spec_MemPut.l0] at h, fun _ _ _ _ _ _ _ r h => by simp [spec_MemPut.j2] at h, fun _ _ _ _ _ _ _ r h => by simp [spec_MemPut.j3] at h⟩
 | k + 1 => by
  obtain ⟨ih0, ih1, ih2, ih3⟩ := spec_MemPut.mono_l k
  refine ⟨?_, ?_, ?_, ?_⟩
  ·intro y0 y1 y2 y3 y4 y5
   unfold spec_MemPut.j0
   repeat' first
   | (with_reducible exact ih0 _ _ _ _ _ _)
   | (with_reducible exact ih1 _ _ _ _ _ _)
   | (with_reducible exact ih2 _ _ _ _ _ _ _)
   | (with_reducible exact ih3 _ _ _ _ _ _ _)
   | (with_reducible exact spec_MemOk.mono _ _)
   | (with_reducible exact LeO.refl _)
   | (with_reducible exact LeO.none _)
   | (with_reducible refine LeO.ite ?_ ?_)
   | (with_reducible refine LeO.bind ?_ (fun _ => ?_))
   | exact ih0 _ _ _ _ _ _
   | exact ih1 _ _ _ _ _ _
   | exact ih2 _ _ _ _ _ _ _
   | exact ih3 _ _ _ _ _ _ _
   | exact spec_MemOk.mono _ _
   | exact LeO.none _
   | refine LeO.ite ?_ ?_
   | refine LeO.bind ?_ (fun _ => ?_)
  ·intro y0 y1 y2 y3 y4 y5
   unfold spec_MemPut.l0
   repeat' first
   | (with_reducible exact ih0 _ _ _ _ _ _)
   | (with_reducible exact ih1 _ _ _ _ _ _)
   | (with_reducible exact ih2 _ _ _ _ _ _ _)
   | (with_reducible exact ih3 _ _ _ _ _ _ _)
   | (with_reducible exact spec_MemOk.mono _ _)
   | (with_reducible exact LeO.refl _)
   | (with_reducible exact LeO.none _)
   | (with_reducible refine LeO.ite ?_ ?_)
   | (with_reducible refine LeO.bind ?_ (fun _ => ?_))
   | exact ih0 _ _ _ _ _ _
   | exact ih1 _ _ _ _ _ _
   | exact ih2 _ _ _ _ _ _ _
   | exact ih3 _ _ _ _ _ _ _
   | exact spec_MemOk.mono _ _
   | exact LeO.none _
   | refine LeO.ite ?_ ?_
   | refine LeO.bind ?_ (fun _ => ?_)
  ·intro y0 y1 y2 y3 y4 y5 y6
   unfold spec_MemPut.j2
   repeat' first
   | (with_reducible exact ih0 _ _ _ _ _ _)
   | (with_reducible exact ih1 _ _ _ _ _ _)
   | (with_reducible exact ih2 _ _ _ _ _ _ _)
   | (with_reducible exact ih3 _ _ _ _ _ _ _)
   | (with_reducible exact spec_MemOk.mono _ _)
   | (with_reducible exact LeO.refl _)
   | (with_reducible exact LeO.none _)
   | (with_reducible refine LeO.ite ?_ ?_)
   | (with_reducible refine LeO.bind ?_ (fun _ => ?_))
   | exact ih0 _ _ _ _ _ _
   | exact ih1 _ _ _ _ _ _
   | exact ih2 _ _ _ _ _ _ _
   | exact ih3 _ _ _ _ _ _ _
   | exact spec_MemOk.mono _ _
   | exact LeO.none _
   | refine LeO.ite ?_ ?_
   | refine LeO.bind ?_ (fun _ => ?_)
  ·intro y0 y1 y2 y3 y4 y5 y6
   unfold spec_MemPut.j3
   repeat' first
   | (with_reducible exact ih0 _ _ _ _ _ _)
   | (with_reducible exact ih1 _ _ _ _ _ _)
   | (with_reducible exact ih2 _ _ _ _ _ _ _)
   | (with_reducible exact ih3 _ _ _ _ _ _ _)
   | (with_reducible exact spec_MemOk.mono _ _)
   | (with_reducible exact LeO.refl _)
   | (with_reducible exact LeO.none _)
   | (with_reducible refine LeO.ite ?_ ?_)
   | (with_reducible refine LeO.bind ?_ (fun _ => ?_))
   | exact ih0 _ _ _ _ _ _
   | exact ih1 _ _ _ _ _ _
   | exact ih2 _ _ _ _ _ _ _
   | exact ih3 _ _ _ _ _ _ _
   | exact spec_MemOk.mono _ _
   | exact LeO.none _
   | refine LeO.ite ?_ ?_
   | refine LeO.bind ?_ (fun _ => ?_)
theorem spec_MemPut.mono : ∀ a0 a1 a2 a3 a4 k, LeO (spec_MemPut.f k a0 a1 a2 a3 a4) (spec_MemPut.f (k + 1) a0 a1 a2 a3 a4) := by
 intro a0 a1 a2 a3 a4 k
 obtain ⟨ih0, ih1, ih2, ih3⟩ := spec_MemPut.mono_l k
 unfold spec_MemPut.f
 repeat' first
   | (with_reducible exact ih0 _ _ _ _ _ _)
   | (with_reducible exact ih1 _ _ _ _ _ _)
   | (with_reducible exact ih2 _ _ _ _ _ _ _)
   | (with_reducible exact ih3 _ _ _ _ _ _ _)
   | (with_reducible exact spec_MemOk.mono _ _)
   | (with_reducible exact LeO.refl _)
   | (with_reducible exact LeO.none _)
   | (with_reducible refine LeO.ite ?_ ?_)
   | (with_reducible refine LeO.bind ?_ (fun _ => ?_))
   | exact ih0 _ _ _ _ _ _
   | exact ih1 _ _ _ _ _ _
   | exact ih2 _ _ _ _ _ _ _
   | exact ih3 _ _ _ _ _ _ _
   | exact spec_MemOk.mono _ _
   | exact LeO.none _
   | refine LeO.ite ?_ ?_
   | refine LeO.bind ?_ (fun _ => ?_)
set_option maxHeartbeats 8000000 in
set_option maxRecDepth 100000 in
theorem spec_MemPut.calls (k : Nat) (A0_0 : Option Addr) (c0_0 : Nat) (l0_0 : List (S35)) (a1_0 : ByteArray) (a1_1 : ByteArray) (a1_2 : Bool) (a2 : Int) (r1 : List (S35)) (r2 : Bool) (w : World) (hr0_0 : Kd.C k35 w A0_0 l0_0.length l0_0) (hc0_0 : l0_0.length ≤ c0_0) (h : spec_MemPut.f k l0_0 a1_0 a1_1 a1_2 a2 = some (r1, r2)) :
  Calls Try.prog 21 #[.agg #[.slice A0_0 l0_0.length c0_0], .agg #[.string a1_0, .string a1_1, .bool a1_2], .int .i64 a2] w fun e w' => ∃ v0_ : Value, e = .returned (.tuple #[.agg #[v0_], .bool r2]) ∧ Kd.R k35 35 w' w.heap.size (fun _ => True) v0_ r1 ∧ Below w.heap.size w w' := by
 have hu26 := Try.underlying26
 have hu33 := Try.underlying33
 have hu35 := Try.underlying35
 have HR0_0 := mS hr0_0
 have HC0_0 := mS hc0_0
 clear hr0_0 hc0_0
 have HB := mS (Below.refl w.heap.size w)
 have H : ((some (([] : List (S35)) : List (S35))).bind fun y211 => (if y211.length + l0_0.length < 2932031007402 then ((some (y211 ++ l0_0 : List (S35))).bind fun y214 => ((spec_MemOk.f k l0_0).bind fun t218 => (if t218 = true then ((spec_PairOk.f a1_0 a1_1 a1_2).bind fun t219 => (if t219 = true then ((spec_l1In.f a2 1 4).bind fun t220 => (spec_MemPut.j0 k a2 (!t220) a1_0 a1_1 a1_2 y214)) else (spec_MemPut.j0 k a2 true a1_0 a1_1 a1_2 y214))) else (spec_MemPut.j0 k a2 true a1_0 a1_1 a1_2 y214)))) else (none))) = some (r1, r2) := h
 clear h
 obtain ⟨y211, hy211⟩ : ∃ y_ : List (S35), y_ = (([] : List (S35))) := ⟨_, rfl⟩
 replace H : (if y211.length + l0_0.length < 2932031007402 then ((some (y211 ++ l0_0 : List (S35))).bind fun y214 => ((spec_MemOk.f k l0_0).bind fun t218 => (if t218 = true then ((spec_PairOk.f a1_0 a1_1 a1_2).bind fun t219 => (if t219 = true then ((spec_l1In.f a2 1 4).bind fun t220 => (spec_MemPut.j0 k a2 (!t220) a1_0 a1_1 a1_2 y214)) else (spec_MemPut.j0 k a2 true a1_0 a1_1 a1_2 y214))) else (spec_MemPut.j0 k a2 true a1_0 a1_1 a1_2 y214)))) else (none)) = some (r1, r2) := by first | (rw [hy211]; with_reducible exact H) | (have H2_ := (Option.bind_some _ _).symm.trans H; rw [hy211]; with_reducible exact H2_) | (have H2_ := (Option.bind_some _ _).symm.trans H; with_reducible exact H2_) | with_reducible exact H | (rw [hy211]; exact H) | exact H
 have Ny211 := mS hy211
 clear hy211
 by_cases c4 : y211.length + l0_0.length < 2932031007402
 ·rw [if_pos c4] at H
  have LMc4 := mS c4
  clear c4
  obtain ⟨y214, hy214⟩ : ∃ y_ : List (S35), y_ = (y211 ++ l0_0) := ⟨_, rfl⟩
  replace H : ((spec_MemOk.f k l0_0).bind fun t218 => (if t218 = true then ((spec_PairOk.f a1_0 a1_1 a1_2).bind fun t219 => (if t219 = true then ((spec_l1In.f a2 1 4).bind fun t220 => (spec_MemPut.j0 k a2 (!t220) a1_0 a1_1 a1_2 y214)) else (spec_MemPut.j0 k a2 true a1_0 a1_1 a1_2 y214))) else (spec_MemPut.j0 k a2 true a1_0 a1_1 a1_2 y214))) = some (r1, r2) := by first | (rw [hy214]; with_reducible exact H) | (have H2_ := (Option.bind_some _ _).symm.trans H; rw [hy214]; with_reducible exact H2_) | (have H2_ := (Option.bind_some _ _).symm.trans H; with_reducible exact H2_) | with_reducible exact H | (rw [hy214]; exact H) | exact H
  have Ny214 := mS hy214
  clear hy214
  have HC5 := mS H
  clear H
  go_enter Try.func21, Try.ntmps21
  go_upto_region 2 with (first | ((with_reducible refine gate_dst (N := 3) rfl ?_); refine box_event ?hg (N := 3) ?hd (cs := #[.slice A0_0 l0_0.length c0_0]) (t := 26) ?hr ?_; (case hd => rfl); (case hg => rfl); (case hr => first | (go_simp; done) | (go_simp; rfl)); intro gb208 hg w6 hbox hb; have BK208 := mS (hbox); have GW208 := mG hg (mH HB.out); have GE208 := mG hg (mH HB.out); replace HB := mS (below_step (mH HB.out) hb); clear hb hbox hg) | ((with_reducible refine gate_dst (N := 4) rfl ?_); refine box_event ?hg (N := 4) ?hd (cs := #[.string a1_0, .string a1_1, .bool a1_2]) (t := 33) ?hr ?_; (case hd => rfl); (case hg => rfl); (case hr => first | (go_simp; done) | (go_simp; rfl)); intro gb209 hg w7 hbox hb; have BK209 := mS (hbox); have GW209 := mG hg (mH1 HB.out GE208.out); have GE209 := mG hg (mH1 HB.out GE208.out); replace HB := mS (below_step (mH1 HB.out GE208.out) hb); have NB208_209 := mNl hg BK208.out; have NB209_208 := mNg hg BK208.out; replace BK208 := mB BK208 hb; clear hb hbox hg) | ((with_reducible refine gate_dst (N := 6) rfl ?_); refine box_event ?hg (N := 6) ?hd (cs := #[.slice none 0 0]) (t := 26) ?hr ?_; (case hd => rfl); (case hg => rfl); (case hr => first | (go_simp; done) | (go_simp; rfl)); intro gb210 hg w8 hbox hb; have BK210 := mS (hbox); have GW210 := mG hg (mH2 HB.out GE208.out GE209.out); have GE210 := mG hg (mH2 HB.out GE208.out GE209.out); replace HB := mS (below_step (mH2 HB.out GE208.out GE209.out) hb); have NB208_210 := mNl hg BK208.out; have NB210_208 := mNg hg BK208.out; replace BK208 := mB BK208 hb; have NB209_210 := mNl hg BK209.out; have NB210_209 := mNg hg BK209.out; replace BK209 := mB BK209 hb; clear hb hbox hg) | ((with_reducible refine gate_dst (N := 11) rfl ?_); refine Kd.R_lit k35 _ 35 ?hg (N := 11) ?hd (xs := ([] : List (S35))) (inner := []) (ok := fun _ => True) (okp := fun _ => True) ?hr ?hp (fun _ hk => hk) trivial (Below.refl _ _) (Nat.le_refl _) (by simp) ?_; (case hd => rfl); (case hg => rfl); (case hr => first | (go_simp; done) | (go_simp; rfl)); (case hp => exact (Reps.none _ _)); intro v212 w9 ho10 hb hg_ hnew_; clear hg_ hnew_; (first | rw [← Ny211.out] at ho10 | (simp only [Int.reduceToNat] at ho10; rw [← Ny211.out] at ho10)); have HO213 := mS (Kd.R_lower ho10 (below_size (mH3 HB.out GE208.out GE209.out GE210.out))); replace BK208 := mB BK208 hb; replace BK209 := mB BK209 hb; replace BK210 := mB BK210 hb; replace HB := mS (below_step (mH3 HB.out GE208.out GE209.out GE210.out) hb); clear hb ho10; have hnb11 := NB208_209.out; have hnc11 := NB209_208.out; have hnb12 := NB208_210.out; have hnc12 := NB210_208.out; have hcz13_0 := mZ BK208.out 0; have hfz13_0 := blk_frozen BK208.out 0) | ((with_reducible refine gate_builtin (b := .append) (xs := #[.tmp 11, .tmp 13]) rfl ?_); at_builtin; refine Kd.R_append_rows k35 (w0 := w) w.heap.size rfl (.tmp 11) (.tmp 13) 24 35 (.agg #[(.string ⟨#[]⟩), (.string ⟨#[]⟩), (.bool false), (.int .i64 0)]) 48 rfl Try.underlying24 info35 rfl (by decide) (by omega) v212 y211 l0_0 _ _ _ (fun _ => True) (fun _ => False) rfl rfl ?aO ?aR (fun _ _ h => h) (fun _ h => h.elim) ?aF ?aB ?aS ?aL ?_; (case aR => repeat (first | exact (Kd.C_below HR0_0.out HB.out) | (with_reducible refine Kd.C_alloc ?_ _) | (with_reducible refine Kd.C_drewN ?_ _) | (with_reducible refine Kd.C_drew ?_))); (case aB => exact (mH3 HB.out GE208.out GE209.out GE210.out)); (case aF => exact (fun _ _ => trivial)); (case aO => exact (mR HO213.out)); (case aS => exact (below_size (mH3 HB.out GE208.out GE209.out GE210.out))); (case aL => have := LMc4.out; omega); intro v215 w14 ho hb hg hat; rw [← Ny214.out] at ho; replace BK208 := mS (blk_grown (g := gb208) (o := .cells #[.slice A0_0 l0_0.length c0_0] 26 (0, 0)) (mK BK208.out) hg (Kd.R_ne HO213.out BK208.out (by decide))); replace BK209 := mS (blk_grown (g := gb209) (o := .cells #[.string a1_0, .string a1_1, .bool a1_2] 33 (0, 0)) (mK BK209.out) hg (Kd.R_ne HO213.out BK209.out (by decide))); replace BK210 := mS (blk_grown (g := gb210) (o := .cells #[.slice none 0 0] 26 (0, 0)) (mK BK210.out) hg (Kd.R_ne HO213.out BK210.out (by decide))); replace HB := mS (hb); have HO216 := mS (ho); clear HO213; clear ho hb hg hat; obtain ⟨Ao15, co15, eo15⟩ := Kd.R_slice HO216.out; subst eo15) | ((with_reducible refine gate_dst (N := 8) rfl ?_); refine box_event ?hg (N := 8) ?hd (cs := #[.slice none 0 0]) (t := 26) ?hr ?_; (case hd => rfl); (case hg => rfl); (case hr => first | (go_simp; done) | (go_simp; rfl)); intro gb217 hg w16 hbox hb; replace HO216 := mS (Kd.R_below (mR HO216.out) hb); have BK217 := mS (hbox); have GW217 := mG hg (mH3 HB.out GE208.out GE209.out GE210.out); have GE217 := mG hg (mH3 HB.out GE208.out GE209.out GE210.out); replace HB := mS (below_step (mH3 HB.out GE208.out GE209.out GE210.out) hb); have NB208_217 := mNl hg BK208.out; have NB217_208 := mNg hg BK208.out; replace BK208 := mB BK208 hb; have NB209_217 := mNl hg BK209.out; have NB217_209 := mNg hg BK209.out; replace BK209 := mB BK209 hb; have NB210_217 := mNl hg BK210.out; have NB217_210 := mNg hg BK210.out; replace BK210 := mB BK210 hb; clear hb hbox hg; have hnb17 := NB217_208.out; have hnc17 := NB208_217.out; have hnb18 := NB217_209.out; have hnc18 := NB209_217.out; have hnb19 := NB217_210.out; have hnc19 := NB210_217.out; have hcz20_0 := mZ BK217.out 0; have hfz20_0 := blk_frozen BK217.out 0))
  repeat (go_quiet (first | ((with_reducible refine gate_dst (N := 3) rfl ?_); refine box_event ?hg (N := 3) ?hd (cs := #[.slice A0_0 l0_0.length c0_0]) (t := 26) ?hr ?_; (case hd => rfl); (case hg => rfl); (case hr => first | (go_simp; done) | (go_simp; rfl)); intro gb208 hg w6 hbox hb; have BK208 := mS (hbox); have GW208 := mG hg (mH HB.out); have GE208 := mG hg (mH HB.out); replace HB := mS (below_step (mH HB.out) hb); clear hb hbox hg) | ((with_reducible refine gate_dst (N := 4) rfl ?_); refine box_event ?hg (N := 4) ?hd (cs := #[.string a1_0, .string a1_1, .bool a1_2]) (t := 33) ?hr ?_; (case hd => rfl); (case hg => rfl); (case hr => first | (go_simp; done) | (go_simp; rfl)); intro gb209 hg w7 hbox hb; have BK209 := mS (hbox); have GW209 := mG hg (mH1 HB.out GE208.out); have GE209 := mG hg (mH1 HB.out GE208.out); replace HB := mS (below_step (mH1 HB.out GE208.out) hb); have NB208_209 := mNl hg BK208.out; have NB209_208 := mNg hg BK208.out; replace BK208 := mB BK208 hb; clear hb hbox hg) | ((with_reducible refine gate_dst (N := 6) rfl ?_); refine box_event ?hg (N := 6) ?hd (cs := #[.slice none 0 0]) (t := 26) ?hr ?_; (case hd => rfl); (case hg => rfl); (case hr => first | (go_simp; done) | (go_simp; rfl)); intro gb210 hg w8 hbox hb; have BK210 := mS (hbox); have GW210 := mG hg (mH2 HB.out GE208.out GE209.out); have GE210 := mG hg (mH2 HB.out GE208.out GE209.out); replace HB := mS (below_step (mH2 HB.out GE208.out GE209.out) hb); have NB208_210 := mNl hg BK208.out; have NB210_208 := mNg hg BK208.out; replace BK208 := mB BK208 hb; have NB209_210 := mNl hg BK209.out; have NB210_209 := mNg hg BK209.out; replace BK209 := mB BK209 hb; clear hb hbox hg) | ((with_reducible refine gate_dst (N := 11) rfl ?_); refine Kd.R_lit k35 _ 35 ?hg (N := 11) ?hd (xs := ([] : List (S35))) (inner := []) (ok := fun _ => True) (okp := fun _ => True) ?hr ?hp (fun _ hk => hk) trivial (Below.refl _ _) (Nat.le_refl _) (by simp) ?_; (case hd => rfl); (case hg => rfl); (case hr => first | (go_simp; done) | (go_simp; rfl)); (case hp => exact (Reps.none _ _)); intro v212 w9 ho10 hb hg_ hnew_; clear hg_ hnew_; (first | rw [← Ny211.out] at ho10 | (simp only [Int.reduceToNat] at ho10; rw [← Ny211.out] at ho10)); have HO213 := mS (Kd.R_lower ho10 (below_size (mH3 HB.out GE208.out GE209.out GE210.out))); replace BK208 := mB BK208 hb; replace BK209 := mB BK209 hb; replace BK210 := mB BK210 hb; replace HB := mS (below_step (mH3 HB.out GE208.out GE209.out GE210.out) hb); clear hb ho10; have hnb11 := NB208_209.out; have hnc11 := NB209_208.out; have hnb12 := NB208_210.out; have hnc12 := NB210_208.out; have hcz13_0 := mZ BK208.out 0; have hfz13_0 := blk_frozen BK208.out 0) | ((with_reducible refine gate_builtin (b := .append) (xs := #[.tmp 11, .tmp 13]) rfl ?_); at_builtin; refine Kd.R_append_rows k35 (w0 := w) w.heap.size rfl (.tmp 11) (.tmp 13) 24 35 (.agg #[(.string ⟨#[]⟩), (.string ⟨#[]⟩), (.bool false), (.int .i64 0)]) 48 rfl Try.underlying24 info35 rfl (by decide) (by omega) v212 y211 l0_0 _ _ _ (fun _ => True) (fun _ => False) rfl rfl ?aO ?aR (fun _ _ h => h) (fun _ h => h.elim) ?aF ?aB ?aS ?aL ?_; (case aR => repeat (first | exact (Kd.C_below HR0_0.out HB.out) | (with_reducible refine Kd.C_alloc ?_ _) | (with_reducible refine Kd.C_drewN ?_ _) | (with_reducible refine Kd.C_drew ?_))); (case aB => exact (mH3 HB.out GE208.out GE209.out GE210.out)); (case aF => exact (fun _ _ => trivial)); (case aO => exact (mR HO213.out)); (case aS => exact (below_size (mH3 HB.out GE208.out GE209.out GE210.out))); (case aL => have := LMc4.out; omega); intro v215 w14 ho hb hg hat; rw [← Ny214.out] at ho; replace BK208 := mS (blk_grown (g := gb208) (o := .cells #[.slice A0_0 l0_0.length c0_0] 26 (0, 0)) (mK BK208.out) hg (Kd.R_ne HO213.out BK208.out (by decide))); replace BK209 := mS (blk_grown (g := gb209) (o := .cells #[.string a1_0, .string a1_1, .bool a1_2] 33 (0, 0)) (mK BK209.out) hg (Kd.R_ne HO213.out BK209.out (by decide))); replace BK210 := mS (blk_grown (g := gb210) (o := .cells #[.slice none 0 0] 26 (0, 0)) (mK BK210.out) hg (Kd.R_ne HO213.out BK210.out (by decide))); replace HB := mS (hb); have HO216 := mS (ho); clear HO213; clear ho hb hg hat; obtain ⟨Ao15, co15, eo15⟩ := Kd.R_slice HO216.out; subst eo15) | ((with_reducible refine gate_dst (N := 8) rfl ?_); refine box_event ?hg (N := 8) ?hd (cs := #[.slice none 0 0]) (t := 26) ?hr ?_; (case hd => rfl); (case hg => rfl); (case hr => first | (go_simp; done) | (go_simp; rfl)); intro gb217 hg w16 hbox hb; replace HO216 := mS (Kd.R_below (mR HO216.out) hb); have BK217 := mS (hbox); have GW217 := mG hg (mH3 HB.out GE208.out GE209.out GE210.out); have GE217 := mG hg (mH3 HB.out GE208.out GE209.out GE210.out); replace HB := mS (below_step (mH3 HB.out GE208.out GE209.out GE210.out) hb); have NB208_217 := mNl hg BK208.out; have NB217_208 := mNg hg BK208.out; replace BK208 := mB BK208 hb; have NB209_217 := mNl hg BK209.out; have NB217_209 := mNg hg BK209.out; replace BK209 := mB BK209 hb; have NB210_217 := mNl hg BK210.out; have NB217_210 := mNg hg BK210.out; replace BK210 := mB BK210 hb; clear hb hbox hg; have hnb17 := NB217_208.out; have hnc17 := NB208_217.out; have hnb18 := NB217_209.out; have hnc18 := NB209_217.out; have hnb19 := NB217_210.out; have hnc19 := NB210_217.out; have hcz20_0 := mZ BK217.out 0; have hfz20_0 := blk_frozen BK217.out 0)); go_upto_region 2 with (first | ((with_reducible refine gate_dst (N := 3) rfl ?_); refine box_event ?hg (N := 3) ?hd (cs := #[.slice A0_0 l0_0.length c0_0]) (t := 26) ?hr ?_; (case hd => rfl); (case hg => rfl); (case hr => first | (go_simp; done) | (go_simp; rfl)); intro gb208 hg w6 hbox hb; have BK208 := mS (hbox); have GW208 := mG hg (mH HB.out); have GE208 := mG hg (mH HB.out); replace HB := mS (below_step (mH HB.out) hb); clear hb hbox hg) | ((with_reducible refine gate_dst (N := 4) rfl ?_); refine box_event ?hg (N := 4) ?hd (cs := #[.string a1_0, .string a1_1, .bool a1_2]) (t := 33) ?hr ?_; (case hd => rfl); (case hg => rfl); (case hr => first | (go_simp; done) | (go_simp; rfl)); intro gb209 hg w7 hbox hb; have BK209 := mS (hbox); have GW209 := mG hg (mH1 HB.out GE208.out); have GE209 := mG hg (mH1 HB.out GE208.out); replace HB := mS (below_step (mH1 HB.out GE208.out) hb); have NB208_209 := mNl hg BK208.out; have NB209_208 := mNg hg BK208.out; replace BK208 := mB BK208 hb; clear hb hbox hg) | ((with_reducible refine gate_dst (N := 6) rfl ?_); refine box_event ?hg (N := 6) ?hd (cs := #[.slice none 0 0]) (t := 26) ?hr ?_; (case hd => rfl); (case hg => rfl); (case hr => first | (go_simp; done) | (go_simp; rfl)); intro gb210 hg w8 hbox hb; have BK210 := mS (hbox); have GW210 := mG hg (mH2 HB.out GE208.out GE209.out); have GE210 := mG hg (mH2 HB.out GE208.out GE209.out); replace HB := mS (below_step (mH2 HB.out GE208.out GE209.out) hb); have NB208_210 := mNl hg BK208.out; have NB210_208 := mNg hg BK208.out; replace BK208 := mB BK208 hb; have NB209_210 := mNl hg BK209.out; have NB210_209 := mNg hg BK209.out; replace BK209 := mB BK209 hb; clear hb hbox hg) | ((with_reducible refine gate_dst (N := 11) rfl ?_); refine Kd.R_lit k35 _ 35 ?hg (N := 11) ?hd (xs := ([] : List (S35))) (inner := []) (ok := fun _ => True) (okp := fun _ => True) ?hr ?hp (fun _ hk => hk) trivial (Below.refl _ _) (Nat.le_refl _) (by simp) ?_; (case hd => rfl); (case hg => rfl); (case hr => first | (go_simp; done) | (go_simp; rfl)); (case hp => exact (Reps.none _ _)); intro v212 w9 ho10 hb hg_ hnew_; clear hg_ hnew_; (first | rw [← Ny211.out] at ho10 | (simp only [Int.reduceToNat] at ho10; rw [← Ny211.out] at ho10)); have HO213 := mS (Kd.R_lower ho10 (below_size (mH3 HB.out GE208.out GE209.out GE210.out))); replace BK208 := mB BK208 hb; replace BK209 := mB BK209 hb; replace BK210 := mB BK210 hb; replace HB := mS (below_step (mH3 HB.out GE208.out GE209.out GE210.out) hb); clear hb ho10; have hnb11 := NB208_209.out; have hnc11 := NB209_208.out; have hnb12 := NB208_210.out; have hnc12 := NB210_208.out; have hcz13_0 := mZ BK208.out 0; have hfz13_0 := blk_frozen BK208.out 0) | ((with_reducible refine gate_builtin (b := .append) (xs := #[.tmp 11, .tmp 13]) rfl ?_); at_builtin; refine Kd.R_append_rows k35 (w0 := w) w.heap.size rfl (.tmp 11) (.tmp 13) 24 35 (.agg #[(.string ⟨#[]⟩), (.string ⟨#[]⟩), (.bool false), (.int .i64 0)]) 48 rfl Try.underlying24 info35 rfl (by decide) (by omega) v212 y211 l0_0 _ _ _ (fun _ => True) (fun _ => False) rfl rfl ?aO ?aR (fun _ _ h => h) (fun _ h => h.elim) ?aF ?aB ?aS ?aL ?_; (case aR => repeat (first | exact (Kd.C_below HR0_0.out HB.out) | (with_reducible refine Kd.C_alloc ?_ _) | (with_reducible refine Kd.C_drewN ?_ _) | (with_reducible refine Kd.C_drew ?_))); (case aB => exact (mH3 HB.out GE208.out GE209.out GE210.out)); (case aF => exact (fun _ _ => trivial)); (case aO => exact (mR HO213.out)); (case aS => exact (below_size (mH3 HB.out GE208.out GE209.out GE210.out))); (case aL => have := LMc4.out; omega); intro v215 w14 ho hb hg hat; rw [← Ny214.out] at ho; replace BK208 := mS (blk_grown (g := gb208) (o := .cells #[.slice A0_0 l0_0.length c0_0] 26 (0, 0)) (mK BK208.out) hg (Kd.R_ne HO213.out BK208.out (by decide))); replace BK209 := mS (blk_grown (g := gb209) (o := .cells #[.string a1_0, .string a1_1, .bool a1_2] 33 (0, 0)) (mK BK209.out) hg (Kd.R_ne HO213.out BK209.out (by decide))); replace BK210 := mS (blk_grown (g := gb210) (o := .cells #[.slice none 0 0] 26 (0, 0)) (mK BK210.out) hg (Kd.R_ne HO213.out BK210.out (by decide))); replace HB := mS (hb); have HO216 := mS (ho); clear HO213; clear ho hb hg hat; obtain ⟨Ao15, co15, eo15⟩ := Kd.R_slice HO216.out; subst eo15) | ((with_reducible refine gate_dst (N := 8) rfl ?_); refine box_event ?hg (N := 8) ?hd (cs := #[.slice none 0 0]) (t := 26) ?hr ?_; (case hd => rfl); (case hg => rfl); (case hr => first | (go_simp; done) | (go_simp; rfl)); intro gb217 hg w16 hbox hb; replace HO216 := mS (Kd.R_below (mR HO216.out) hb); have BK217 := mS (hbox); have GW217 := mG hg (mH3 HB.out GE208.out GE209.out GE210.out); have GE217 := mG hg (mH3 HB.out GE208.out GE209.out GE210.out); replace HB := mS (below_step (mH3 HB.out GE208.out GE209.out GE210.out) hb); have NB208_217 := mNl hg BK208.out; have NB217_208 := mNg hg BK208.out; replace BK208 := mB BK208 hb; have NB209_217 := mNl hg BK209.out; have NB217_209 := mNg hg BK209.out; replace BK209 := mB BK209 hb; have NB210_217 := mNl hg BK210.out; have NB217_210 := mNg hg BK210.out; replace BK210 := mB BK210 hb; clear hb hbox hg; have hnb17 := NB217_208.out; have hnc17 := NB208_217.out; have hnb18 := NB217_209.out; have hnc18 := NB209_217.out; have hnb19 := NB217_210.out; have hnc19 := NB210_217.out; have hcz20_0 := mZ BK217.out 0; have hfz20_0 := blk_frozen BK217.out 0)))
  (try simp only [Act.put, zA, zB, zC])
  go_cut [28] (fun v28 wc => ∃ (kq : Nat) (x28_4 : Bool), v28 = .bool x28_4 ∧ Aside0 (spec_MemPut.j0 kq a2 x28_4 a1_0 a1_1 a1_2 y214 = some (r1, r2)) ∧ Aside0 (kq ≤ k) ∧ Aside0 (Kd.R k35 35 wc w.heap.size (fun _ => True) (.slice Ao15 y214.length co15) y214) ∧ Aside0 (wc.heap[gb208]? = some (.cells #[(.slice A0_0 l0_0.length c0_0)] 26 (0, 0))) ∧ Aside0 (wc.heap[gb209]? = some (.cells #[.string a1_0, .string a1_1, .bool a1_2] 33 (0, 0))) ∧ Aside0 (wc.heap[gb210]? = some (.cells #[(.slice none 0 0)] 26 (0, 0))) ∧ Aside0 (wc.heap[gb217]? = some (.cells #[(.slice Ao15 y214.length co15)] 26 (0, 0))) ∧ Aside0 (Below w.heap.size w wc))
  case first =>
   have H := HC5.out
   clear HC5
   replace H := Option.bind_eq_some_iff.mp H
   obtain ⟨t218, A210, H⟩ := H
   replace H : (if t218 = true then ((spec_PairOk.f a1_0 a1_1 a1_2).bind fun t219 => (if t219 = true then ((spec_l1In.f a2 1 4).bind fun t220 => (spec_MemPut.j0 k a2 (!t220) a1_0 a1_1 a1_2 y214)) else (spec_MemPut.j0 k a2 true a1_0 a1_1 a1_2 y214))) else (spec_MemPut.j0 k a2 true a1_0 a1_1 a1_2 y214)) = some (r1, r2) := H
   have A21 := mS A210
   clear A210
   by_cases c22 : t218 = true
   ·subst c22
    have H1 : ((spec_PairOk.f a1_0 a1_1 a1_2).bind fun t219 => (if t219 = true then ((spec_l1In.f a2 1 4).bind fun t220 => (spec_MemPut.j0 k a2 (!t220) a1_0 a1_1 a1_2 y214)) else (spec_MemPut.j0 k a2 true a1_0 a1_1 a1_2 y214))) = some (r1, r2) := by rw [if_pos rfl] at H; exact H
    clear H
    have H := H1
    clear H1
    replace H := Option.bind_eq_some_iff.mp H
    obtain ⟨t219, A230, H⟩ := H
    replace H : (if t219 = true then ((spec_l1In.f a2 1 4).bind fun t220 => (spec_MemPut.j0 k a2 (!t220) a1_0 a1_1 a1_2 y214)) else (spec_MemPut.j0 k a2 true a1_0 a1_1 a1_2 y214)) = some (r1, r2) := H
    have A23 := mS A230
    clear A230
    by_cases c24 : t219 = true
    ·subst c24
     have H1 : ((spec_l1In.f a2 1 4).bind fun t220 => (spec_MemPut.j0 k a2 (!t220) a1_0 a1_1 a1_2 y214)) = some (r1, r2) := by rw [if_pos rfl] at H; exact H
     clear H
     have H := H1
     clear H1
     replace H := Option.bind_eq_some_iff.mp H
     obtain ⟨t220, A250, H⟩ := H
     replace H : (spec_MemPut.j0 k a2 (!t220) a1_0 a1_1 a1_2 y214) = some (r1, r2) := H
     have A25 := mS A250
     clear A250
     have H' := mS H
     clear H
     have hnb26 := NB208_209.out
     have hnc26 := NB209_208.out
     have hnb27 := NB208_210.out
     have hnc27 := NB210_208.out
     have hnb28 := NB208_217.out
     have hnc28 := NB217_208.out
     have hcz29_0 := mZ BK208.out 0
     have hfz29_0 := blk_frozen BK208.out 0
     go_wp2_with (first | (go_at_call 17; (with_reducible refine (spec_MemOk.calls k _ _ l0_0 true _ ?side1 ?side2 A21.out).mono ?_); (case side1 => exact Kd.C_below HR0_0.out (mH4 HB.out GE208.out GE209.out GE210.out GE217.out)); (case side2 => exact HC0_0.out); rintro e w30 ⟨rfl, hb⟩; replace HO216 := mS (Kd.R_below (by (with_reducible repeat (first | apply Kd.R_alloc | apply Kd.R_drewN | apply Kd.R_drew)); exact (Kd.R_mono (Kd.R_far (p := ⟨gb217, 0, none⟩) (Kd.R_types HO216.out BK217.out (by decide)) (fun _ hk => hk.2) (.slice Ao15 y214.length co15)) (fun _ h_ => h_.1))) hb); replace BK208 := mS (blk_below (g := gb208) (o := .cells #[.slice A0_0 l0_0.length c0_0] 26 (0, 0)) (by (with_reducible repeat (first | refine blk_drewN ?_ _ | refine blk_drew ?_ | refine blk_alloc ?_ _)); refine blk_far ?_ NB208_217.out _; (with_reducible repeat (first | refine blk_drewN ?_ _ | refine blk_drew ?_ | refine blk_alloc ?_ _)); exact BK208.out) hb); replace BK209 := mS (blk_below (g := gb209) (o := .cells #[.string a1_0, .string a1_1, .bool a1_2] 33 (0, 0)) (by (with_reducible repeat (first | refine blk_drewN ?_ _ | refine blk_drew ?_ | refine blk_alloc ?_ _)); refine blk_far ?_ NB209_217.out _; (with_reducible repeat (first | refine blk_drewN ?_ _ | refine blk_drew ?_ | refine blk_alloc ?_ _)); exact BK209.out) hb); replace BK210 := mS (blk_below (g := gb210) (o := .cells #[.slice none 0 0] 26 (0, 0)) (by (with_reducible repeat (first | refine blk_drewN ?_ _ | refine blk_drew ?_ | refine blk_alloc ?_ _)); refine blk_far ?_ NB210_217.out _; (with_reducible repeat (first | refine blk_drewN ?_ _ | refine blk_drew ?_ | refine blk_alloc ?_ _)); exact BK210.out) hb); replace BK217 := mS (blk_below (g := gb217) (o := .cells #[.slice Ao15 y214.length co15] 26 (0, 0)) (by (with_reducible repeat (first | refine blk_drewN ?_ _ | refine blk_drew ?_ | refine blk_alloc ?_ _)); refine blk_put (cs := #[.slice none 0 0]) ?_ 0 _ rfl; (with_reducible repeat (first | refine blk_drewN ?_ _ | refine blk_drew ?_ | refine blk_alloc ?_ _)); exact BK217.out) hb); replace HB := mS (below_step (mH4 HB.out GE208.out GE209.out GE210.out GE217.out) hb); (try clear hb); (try clear hb2); (try clear hk); (try clear hi); have hnb31 := NB209_210.out; have hnc31 := NB210_209.out; have hnb32 := NB209_217.out; have hnc32 := NB217_209.out; have hcz33_0 := mZ BK209.out 0; have hcz33_1 := mZ BK209.out 1; have hcz33_2 := mZ BK209.out 2; have hfz33_0 := blk_frozen BK209.out 0; have hfz33_1 := blk_frozen BK209.out 1; have hfz33_2 := blk_frozen BK209.out 2) | (go_at_call 75; (with_reducible refine (spec_PairOk.calls a1_0 a1_1 a1_2 true _ A23.out).mono ?_); rintro e w34 ⟨rfl, hb⟩; replace HO216 := mS (Kd.R_below (mR HO216.out) hb); replace BK208 := mB BK208 hb; replace BK209 := mB BK209 hb; replace BK210 := mB BK210 hb; replace BK217 := mB BK217 hb; replace HB := mS (below_step (mH4 HB.out GE208.out GE209.out GE210.out GE217.out) hb); (try clear hb); (try clear hb2); (try clear hk); (try clear hi)) | (go_at_call 76; (with_reducible refine (spec_l1In.calls a2 1 4 t220 _ A25.out).mono ?_); rintro e w' ⟨rfl, ⟨nd, rfl⟩⟩; (try first | exact ⟨rfl, _, World.drewN_drewN _ _ _⟩ | exact ⟨rfl, _, Eq.trans (World.drewN_drewN _ _ _) (congrArg (World.drewN _) (Nat.add_assoc _ _ _))⟩)))
     repeat (go_quiet (first | (go_at_call 17; (with_reducible refine (spec_MemOk.calls k _ _ l0_0 true _ ?side1 ?side2 A21.out).mono ?_); (case side1 => exact Kd.C_below HR0_0.out (mH4 HB.out GE208.out GE209.out GE210.out GE217.out)); (case side2 => exact HC0_0.out); rintro e w30 ⟨rfl, hb⟩; replace HO216 := mS (Kd.R_below (by (with_reducible repeat (first | apply Kd.R_alloc | apply Kd.R_drewN | apply Kd.R_drew)); exact (Kd.R_mono (Kd.R_far (p := ⟨gb217, 0, none⟩) (Kd.R_types HO216.out BK217.out (by decide)) (fun _ hk => hk.2) (.slice Ao15 y214.length co15)) (fun _ h_ => h_.1))) hb); replace BK208 := mS (blk_below (g := gb208) (o := .cells #[.slice A0_0 l0_0.length c0_0] 26 (0, 0)) (by (with_reducible repeat (first | refine blk_drewN ?_ _ | refine blk_drew ?_ | refine blk_alloc ?_ _)); refine blk_far ?_ NB208_217.out _; (with_reducible repeat (first | refine blk_drewN ?_ _ | refine blk_drew ?_ | refine blk_alloc ?_ _)); exact BK208.out) hb); replace BK209 := mS (blk_below (g := gb209) (o := .cells #[.string a1_0, .string a1_1, .bool a1_2] 33 (0, 0)) (by (with_reducible repeat (first | refine blk_drewN ?_ _ | refine blk_drew ?_ | refine blk_alloc ?_ _)); refine blk_far ?_ NB209_217.out _; (with_reducible repeat (first | refine blk_drewN ?_ _ | refine blk_drew ?_ | refine blk_alloc ?_ _)); exact BK209.out) hb); replace BK210 := mS (blk_below (g := gb210) (o := .cells #[.slice none 0 0] 26 (0, 0)) (by (with_reducible repeat (first | refine blk_drewN ?_ _ | refine blk_drew ?_ | refine blk_alloc ?_ _)); refine blk_far ?_ NB210_217.out _; (with_reducible repeat (first | refine blk_drewN ?_ _ | refine blk_drew ?_ | refine blk_alloc ?_ _)); exact BK210.out) hb); replace BK217 := mS (blk_below (g := gb217) (o := .cells #[.slice Ao15 y214.length co15] 26 (0, 0)) (by (with_reducible repeat (first | refine blk_drewN ?_ _ | refine blk_drew ?_ | refine blk_alloc ?_ _)); refine blk_put (cs := #[.slice none 0 0]) ?_ 0 _ rfl; (with_reducible repeat (first | refine blk_drewN ?_ _ | refine blk_drew ?_ | refine blk_alloc ?_ _)); exact BK217.out) hb); replace HB := mS (below_step (mH4 HB.out GE208.out GE209.out GE210.out GE217.out) hb); (try clear hb); (try clear hb2); (try clear hk); (try clear hi); have hnb31 := NB209_210.out; have hnc31 := NB210_209.out; have hnb32 := NB209_217.out; have hnc32 := NB217_209.out; have hcz33_0 := mZ BK209.out 0; have hcz33_1 := mZ BK209.out 1; have hcz33_2 := mZ BK209.out 2; have hfz33_0 := blk_frozen BK209.out 0; have hfz33_1 := blk_frozen BK209.out 1; have hfz33_2 := blk_frozen BK209.out 2) | (go_at_call 75; (with_reducible refine (spec_PairOk.calls a1_0 a1_1 a1_2 true _ A23.out).mono ?_); rintro e w34 ⟨rfl, hb⟩; replace HO216 := mS (Kd.R_below (mR HO216.out) hb); replace BK208 := mB BK208 hb; replace BK209 := mB BK209 hb; replace BK210 := mB BK210 hb; replace BK217 := mB BK217 hb; replace HB := mS (below_step (mH4 HB.out GE208.out GE209.out GE210.out GE217.out) hb); (try clear hb); (try clear hb2); (try clear hk); (try clear hi)) | (go_at_call 76; (with_reducible refine (spec_l1In.calls a2 1 4 t220 _ A25.out).mono ?_); rintro e w' ⟨rfl, ⟨nd, rfl⟩⟩; (try first | exact ⟨rfl, _, World.drewN_drewN _ _ _⟩ | exact ⟨rfl, _, Eq.trans (World.drewN_drewN _ _ _) (congrArg (World.drewN _) (Nat.add_assoc _ _ _))⟩))); try go_wp2_with (first | (go_at_call 17; (with_reducible refine (spec_MemOk.calls k _ _ l0_0 true _ ?side1 ?side2 A21.out).mono ?_); (case side1 => exact Kd.C_below HR0_0.out (mH4 HB.out GE208.out GE209.out GE210.out GE217.out)); (case side2 => exact HC0_0.out); rintro e w30 ⟨rfl, hb⟩; replace HO216 := mS (Kd.R_below (by (with_reducible repeat (first | apply Kd.R_alloc | apply Kd.R_drewN | apply Kd.R_drew)); exact (Kd.R_mono (Kd.R_far (p := ⟨gb217, 0, none⟩) (Kd.R_types HO216.out BK217.out (by decide)) (fun _ hk => hk.2) (.slice Ao15 y214.length co15)) (fun _ h_ => h_.1))) hb); replace BK208 := mS (blk_below (g := gb208) (o := .cells #[.slice A0_0 l0_0.length c0_0] 26 (0, 0)) (by (with_reducible repeat (first | refine blk_drewN ?_ _ | refine blk_drew ?_ | refine blk_alloc ?_ _)); refine blk_far ?_ NB208_217.out _; (with_reducible repeat (first | refine blk_drewN ?_ _ | refine blk_drew ?_ | refine blk_alloc ?_ _)); exact BK208.out) hb); replace BK209 := mS (blk_below (g := gb209) (o := .cells #[.string a1_0, .string a1_1, .bool a1_2] 33 (0, 0)) (by (with_reducible repeat (first | refine blk_drewN ?_ _ | refine blk_drew ?_ | refine blk_alloc ?_ _)); refine blk_far ?_ NB209_217.out _; (with_reducible repeat (first | refine blk_drewN ?_ _ | refine blk_drew ?_ | refine blk_alloc ?_ _)); exact BK209.out) hb); replace BK210 := mS (blk_below (g := gb210) (o := .cells #[.slice none 0 0] 26 (0, 0)) (by (with_reducible repeat (first | refine blk_drewN ?_ _ | refine blk_drew ?_ | refine blk_alloc ?_ _)); refine blk_far ?_ NB210_217.out _; (with_reducible repeat (first | refine blk_drewN ?_ _ | refine blk_drew ?_ | refine blk_alloc ?_ _)); exact BK210.out) hb); replace BK217 := mS (blk_below (g := gb217) (o := .cells #[.slice Ao15 y214.length co15] 26 (0, 0)) (by (with_reducible repeat (first | refine blk_drewN ?_ _ | refine blk_drew ?_ | refine blk_alloc ?_ _)); refine blk_put (cs := #[.slice none 0 0]) ?_ 0 _ rfl; (with_reducible repeat (first | refine blk_drewN ?_ _ | refine blk_drew ?_ | refine blk_alloc ?_ _)); exact BK217.out) hb); replace HB := mS (below_step (mH4 HB.out GE208.out GE209.out GE210.out GE217.out) hb); (try clear hb); (try clear hb2); (try clear hk); (try clear hi); have hnb31 := NB209_210.out; have hnc31 := NB210_209.out; have hnb32 := NB209_217.out; have hnc32 := NB217_209.out; have hcz33_0 := mZ BK209.out 0; have hcz33_1 := mZ BK209.out 1; have hcz33_2 := mZ BK209.out 2; have hfz33_0 := blk_frozen BK209.out 0; have hfz33_1 := blk_frozen BK209.out 1; have hfz33_2 := blk_frozen BK209.out 2) | (go_at_call 75; (with_reducible refine (spec_PairOk.calls a1_0 a1_1 a1_2 true _ A23.out).mono ?_); rintro e w34 ⟨rfl, hb⟩; replace HO216 := mS (Kd.R_below (mR HO216.out) hb); replace BK208 := mB BK208 hb; replace BK209 := mB BK209 hb; replace BK210 := mB BK210 hb; replace BK217 := mB BK217 hb; replace HB := mS (below_step (mH4 HB.out GE208.out GE209.out GE210.out GE217.out) hb); (try clear hb); (try clear hb2); (try clear hk); (try clear hi)) | (go_at_call 76; (with_reducible refine (spec_l1In.calls a2 1 4 t220 _ A25.out).mono ?_); rintro e w' ⟨rfl, ⟨nd, rfl⟩⟩; (try first | exact ⟨rfl, _, World.drewN_drewN _ _ _⟩ | exact ⟨rfl, _, Eq.trans (World.drewN_drewN _ _ _) (congrArg (World.drewN _) (Nat.add_assoc _ _ _))⟩))))
     go_meet
     case rel => exact ⟨_, (!t220), (by first | rfl | (simp; done) | (simp [*]; done)), H', ⟨by first | omega | exact Nat.le_refl _⟩, ⟨by (with_reducible repeat (first | apply Kd.R_alloc | apply Kd.R_drewN | apply Kd.R_drew)); exact HO216.out⟩, ⟨by (with_reducible repeat (first | refine blk_drewN ?_ _ | refine blk_drew ?_ | refine blk_alloc ?_ _)); exact BK208.out⟩, ⟨by (with_reducible repeat (first | refine blk_drewN ?_ _ | refine blk_drew ?_ | refine blk_alloc ?_ _)); exact BK209.out⟩, ⟨by (with_reducible repeat (first | refine blk_drewN ?_ _ | refine blk_drew ?_ | refine blk_alloc ?_ _)); exact BK210.out⟩, ⟨by (with_reducible repeat (first | refine blk_drewN ?_ _ | refine blk_drew ?_ | refine blk_alloc ?_ _)); exact BK217.out⟩, ⟨(mH4 HB.out GE208.out GE209.out GE210.out GE217.out)⟩⟩
    ·replace c24 := Bool.eq_false_iff.mpr c24
     subst c24
     have H1 : (spec_MemPut.j0 k a2 true a1_0 a1_1 a1_2 y214) = some (r1, r2) := by rw [if_neg (show ¬ (false = true) by decide)] at H; exact H
     clear H
     have H := H1
     clear H1
     have H' := mS H
     clear H
     have hnb35 := NB208_209.out
     have hnc35 := NB209_208.out
     have hnb36 := NB208_210.out
     have hnc36 := NB210_208.out
     have hnb37 := NB208_217.out
     have hnc37 := NB217_208.out
     have hcz38_0 := mZ BK208.out 0
     have hfz38_0 := blk_frozen BK208.out 0
     go_wp2_with (first | (go_at_call 17; (with_reducible refine (spec_MemOk.calls k _ _ l0_0 true _ ?side1 ?side2 A21.out).mono ?_); (case side1 => exact Kd.C_below HR0_0.out (mH4 HB.out GE208.out GE209.out GE210.out GE217.out)); (case side2 => exact HC0_0.out); rintro e w39 ⟨rfl, hb⟩; replace HO216 := mS (Kd.R_below (by (with_reducible repeat (first | apply Kd.R_alloc | apply Kd.R_drewN | apply Kd.R_drew)); exact (Kd.R_mono (Kd.R_far (p := ⟨gb217, 0, none⟩) (Kd.R_types HO216.out BK217.out (by decide)) (fun _ hk => hk.2) (.slice Ao15 y214.length co15)) (fun _ h_ => h_.1))) hb); replace BK208 := mS (blk_below (g := gb208) (o := .cells #[.slice A0_0 l0_0.length c0_0] 26 (0, 0)) (by (with_reducible repeat (first | refine blk_drewN ?_ _ | refine blk_drew ?_ | refine blk_alloc ?_ _)); refine blk_far ?_ NB208_217.out _; (with_reducible repeat (first | refine blk_drewN ?_ _ | refine blk_drew ?_ | refine blk_alloc ?_ _)); exact BK208.out) hb); replace BK209 := mS (blk_below (g := gb209) (o := .cells #[.string a1_0, .string a1_1, .bool a1_2] 33 (0, 0)) (by (with_reducible repeat (first | refine blk_drewN ?_ _ | refine blk_drew ?_ | refine blk_alloc ?_ _)); refine blk_far ?_ NB209_217.out _; (with_reducible repeat (first | refine blk_drewN ?_ _ | refine blk_drew ?_ | refine blk_alloc ?_ _)); exact BK209.out) hb); replace BK210 := mS (blk_below (g := gb210) (o := .cells #[.slice none 0 0] 26 (0, 0)) (by (with_reducible repeat (first | refine blk_drewN ?_ _ | refine blk_drew ?_ | refine blk_alloc ?_ _)); refine blk_far ?_ NB210_217.out _; (with_reducible repeat (first | refine blk_drewN ?_ _ | refine blk_drew ?_ | refine blk_alloc ?_ _)); exact BK210.out) hb); replace BK217 := mS (blk_below (g := gb217) (o := .cells #[.slice Ao15 y214.length co15] 26 (0, 0)) (by (with_reducible repeat (first | refine blk_drewN ?_ _ | refine blk_drew ?_ | refine blk_alloc ?_ _)); refine blk_put (cs := #[.slice none 0 0]) ?_ 0 _ rfl; (with_reducible repeat (first | refine blk_drewN ?_ _ | refine blk_drew ?_ | refine blk_alloc ?_ _)); exact BK217.out) hb); replace HB := mS (below_step (mH4 HB.out GE208.out GE209.out GE210.out GE217.out) hb); (try clear hb); (try clear hb2); (try clear hk); (try clear hi); have hnb40 := NB209_210.out; have hnc40 := NB210_209.out; have hnb41 := NB209_217.out; have hnc41 := NB217_209.out; have hcz42_0 := mZ BK209.out 0; have hcz42_1 := mZ BK209.out 1; have hcz42_2 := mZ BK209.out 2; have hfz42_0 := blk_frozen BK209.out 0; have hfz42_1 := blk_frozen BK209.out 1; have hfz42_2 := blk_frozen BK209.out 2) | (go_at_call 75; (with_reducible refine (spec_PairOk.calls a1_0 a1_1 a1_2 false _ A23.out).mono ?_); rintro e w43 ⟨rfl, hb⟩; replace HO216 := mS (Kd.R_below (mR HO216.out) hb); replace BK208 := mB BK208 hb; replace BK209 := mB BK209 hb; replace BK210 := mB BK210 hb; replace BK217 := mB BK217 hb; replace HB := mS (below_step (mH4 HB.out GE208.out GE209.out GE210.out GE217.out) hb); (try clear hb); (try clear hb2); (try clear hk); (try clear hi)))
     repeat (go_quiet (first | (go_at_call 17; (with_reducible refine (spec_MemOk.calls k _ _ l0_0 true _ ?side1 ?side2 A21.out).mono ?_); (case side1 => exact Kd.C_below HR0_0.out (mH4 HB.out GE208.out GE209.out GE210.out GE217.out)); (case side2 => exact HC0_0.out); rintro e w39 ⟨rfl, hb⟩; replace HO216 := mS (Kd.R_below (by (with_reducible repeat (first | apply Kd.R_alloc | apply Kd.R_drewN | apply Kd.R_drew)); exact (Kd.R_mono (Kd.R_far (p := ⟨gb217, 0, none⟩) (Kd.R_types HO216.out BK217.out (by decide)) (fun _ hk => hk.2) (.slice Ao15 y214.length co15)) (fun _ h_ => h_.1))) hb); replace BK208 := mS (blk_below (g := gb208) (o := .cells #[.slice A0_0 l0_0.length c0_0] 26 (0, 0)) (by (with_reducible repeat (first | refine blk_drewN ?_ _ | refine blk_drew ?_ | refine blk_alloc ?_ _)); refine blk_far ?_ NB208_217.out _; (with_reducible repeat (first | refine blk_drewN ?_ _ | refine blk_drew ?_ | refine blk_alloc ?_ _)); exact BK208.out) hb); replace BK209 := mS (blk_below (g := gb209) (o := .cells #[.string a1_0, .string a1_1, .bool a1_2] 33 (0, 0)) (by (with_reducible repeat (first | refine blk_drewN ?_ _ | refine blk_drew ?_ | refine blk_alloc ?_ _)); refine blk_far ?_ NB209_217.out _; (with_reducible repeat (first | refine blk_drewN ?_ _ | refine blk_drew ?_ | refine blk_alloc ?_ _)); exact BK209.out) hb); replace BK210 := mS (blk_below (g := gb210) (o := .cells #[.slice none 0 0] 26 (0, 0)) (by (with_reducible repeat (first | refine blk_drewN ?_ _ | refine blk_drew ?_ | refine blk_alloc ?_ _)); refine blk_far ?_ NB210_217.out _; (with_reducible repeat (first | refine blk_drewN ?_ _ | refine blk_drew ?_ | refine blk_alloc ?_ _)); exact BK210.out) hb); replace BK217 := mS (blk_below (g := gb217) (o := .cells #[.slice Ao15 y214.length co15] 26 (0, 0)) (by (with_reducible repeat (first | refine blk_drewN ?_ _ | refine blk_drew ?_ | refine blk_alloc ?_ _)); refine blk_put (cs := #[.slice none 0 0]) ?_ 0 _ rfl; (with_reducible repeat (first | refine blk_drewN ?_ _ | refine blk_drew ?_ | refine blk_alloc ?_ _)); exact BK217.out) hb); replace HB := mS (below_step (mH4 HB.out GE208.out GE209.out GE210.out GE217.out) hb); (try clear hb); (try clear hb2); (try clear hk); (try clear hi); have hnb40 := NB209_210.out; have hnc40 := NB210_209.out; have hnb41 := NB209_217.out; have hnc41 := NB217_209.out; have hcz42_0 := mZ BK209.out 0; have hcz42_1 := mZ BK209.out 1; have hcz42_2 := mZ BK209.out 2; have hfz42_0 := blk_frozen BK209.out 0; have hfz42_1 := blk_frozen BK209.out 1; have hfz42_2 := blk_frozen BK209.out 2) | (go_at_call 75; (with_reducible refine (spec_PairOk.calls a1_0 a1_1 a1_2 false _ A23.out).mono ?_); rintro e w43 ⟨rfl, hb⟩; replace HO216 := mS (Kd.R_below (mR HO216.out) hb); replace BK208 := mB BK208 hb; replace BK209 := mB BK209 hb; replace BK210 := mB BK210 hb; replace BK217 := mB BK217 hb; replace HB := mS (below_step (mH4 HB.out GE208.out GE209.out GE210.out GE217.out) hb); (try clear hb); (try clear hb2); (try clear hk); (try clear hi))); try go_wp2_with (first | (go_at_call 17; (with_reducible refine (spec_MemOk.calls k _ _ l0_0 true _ ?side1 ?side2 A21.out).mono ?_); (case side1 => exact Kd.C_below HR0_0.out (mH4 HB.out GE208.out GE209.out GE210.out GE217.out)); (case side2 => exact HC0_0.out); rintro e w39 ⟨rfl, hb⟩; replace HO216 := mS (Kd.R_below (by (with_reducible repeat (first | apply Kd.R_alloc | apply Kd.R_drewN | apply Kd.R_drew)); exact (Kd.R_mono (Kd.R_far (p := ⟨gb217, 0, none⟩) (Kd.R_types HO216.out BK217.out (by decide)) (fun _ hk => hk.2) (.slice Ao15 y214.length co15)) (fun _ h_ => h_.1))) hb); replace BK208 := mS (blk_below (g := gb208) (o := .cells #[.slice A0_0 l0_0.length c0_0] 26 (0, 0)) (by (with_reducible repeat (first | refine blk_drewN ?_ _ | refine blk_drew ?_ | refine blk_alloc ?_ _)); refine blk_far ?_ NB208_217.out _; (with_reducible repeat (first | refine blk_drewN ?_ _ | refine blk_drew ?_ | refine blk_alloc ?_ _)); exact BK208.out) hb); replace BK209 := mS (blk_below (g := gb209) (o := .cells #[.string a1_0, .string a1_1, .bool a1_2] 33 (0, 0)) (by (with_reducible repeat (first | refine blk_drewN ?_ _ | refine blk_drew ?_ | refine blk_alloc ?_ _)); refine blk_far ?_ NB209_217.out _; (with_reducible repeat (first | refine blk_drewN ?_ _ | refine blk_drew ?_ | refine blk_alloc ?_ _)); exact BK209.out) hb); replace BK210 := mS (blk_below (g := gb210) (o := .cells #[.slice none 0 0] 26 (0, 0)) (by (with_reducible repeat (first | refine blk_drewN ?_ _ | refine blk_drew ?_ | refine blk_alloc ?_ _)); refine blk_far ?_ NB210_217.out _; (with_reducible repeat (first | refine blk_drewN ?_ _ | refine blk_drew ?_ | refine blk_alloc ?_ _)); exact BK210.out) hb); replace BK217 := mS (blk_below (g := gb217) (o := .cells #[.slice Ao15 y214.length co15] 26 (0, 0)) (by (with_reducible repeat (first | refine blk_drewN ?_ _ | refine blk_drew ?_ | refine blk_alloc ?_ _)); refine blk_put (cs := #[.slice none 0 0]) ?_ 0 _ rfl; (with_reducible repeat (first | refine blk_drewN ?_ _ | refine blk_drew ?_ | refine blk_alloc ?_ _)); exact BK217.out) hb); replace HB := mS (below_step (mH4 HB.out GE208.out GE209.out GE210.out GE217.out) hb); (try clear hb); (try clear hb2); (try clear hk); (try clear hi); have hnb40 := NB209_210.out; have hnc40 := NB210_209.out; have hnb41 := NB209_217.out; have hnc41 := NB217_209.out; have hcz42_0 := mZ BK209.out 0; have hcz42_1 := mZ BK209.out 1; have hcz42_2 := mZ BK209.out 2; have hfz42_0 := blk_frozen BK209.out 0; have hfz42_1 := blk_frozen BK209.out 1; have hfz42_2 := blk_frozen BK209.out 2) | (go_at_call 75; (with_reducible refine (spec_PairOk.calls a1_0 a1_1 a1_2 false _ A23.out).mono ?_); rintro e w43 ⟨rfl, hb⟩; replace HO216 := mS (Kd.R_below (mR HO216.out) hb); replace BK208 := mB BK208 hb; replace BK209 := mB BK209 hb; replace BK210 := mB BK210 hb; replace BK217 := mB BK217 hb; replace HB := mS (below_step (mH4 HB.out GE208.out GE209.out GE210.out GE217.out) hb); (try clear hb); (try clear hb2); (try clear hk); (try clear hi))))
     go_meet
     case rel => exact ⟨_, (true), (by first | rfl | (simp; done) | (simp [*]; done)), H', ⟨by first | omega | exact Nat.le_refl _⟩, ⟨by (with_reducible repeat (first | apply Kd.R_alloc | apply Kd.R_drewN | apply Kd.R_drew)); exact HO216.out⟩, ⟨by (with_reducible repeat (first | refine blk_drewN ?_ _ | refine blk_drew ?_ | refine blk_alloc ?_ _)); exact BK208.out⟩, ⟨by (with_reducible repeat (first | refine blk_drewN ?_ _ | refine blk_drew ?_ | refine blk_alloc ?_ _)); exact BK209.out⟩, ⟨by (with_reducible repeat (first | refine blk_drewN ?_ _ | refine blk_drew ?_ | refine blk_alloc ?_ _)); exact BK210.out⟩, ⟨by (with_reducible repeat (first | refine blk_drewN ?_ _ | refine blk_drew ?_ | refine blk_alloc ?_ _)); exact BK217.out⟩, ⟨(mH4 HB.out GE208.out GE209.out GE210.out GE217.out)⟩⟩
   ·replace c22 := Bool.eq_false_iff.mpr c22
    subst c22
    have H1 : (spec_MemPut.j0 k a2 true a1_0 a1_1 a1_2 y214) = some (r1, r2) := by rw [if_neg (show ¬ (false = true) by decide)] at H; exact H
    clear H
    have H := H1
    clear H1
    have H' := mS H
    clear H
    have hnb44 := NB208_209.out
    have hnc44 := NB209_208.out
    have hnb45 := NB208_210.out
    have hnc45 := NB210_208.out
    have hnb46 := NB208_217.out
    have hnc46 := NB217_208.out
    have hcz47_0 := mZ BK208.out 0
    have hfz47_0 := blk_frozen BK208.out 0
    go_wp2_with (first | (go_at_call 17; (with_reducible refine (spec_MemOk.calls k _ _ l0_0 false _ ?side1 ?side2 A21.out).mono ?_); (case side1 => exact Kd.C_below HR0_0.out (mH4 HB.out GE208.out GE209.out GE210.out GE217.out)); (case side2 => exact HC0_0.out); rintro e w48 ⟨rfl, hb⟩; replace HO216 := mS (Kd.R_below (by (with_reducible repeat (first | apply Kd.R_alloc | apply Kd.R_drewN | apply Kd.R_drew)); exact (Kd.R_mono (Kd.R_far (p := ⟨gb217, 0, none⟩) (Kd.R_types HO216.out BK217.out (by decide)) (fun _ hk => hk.2) (.slice Ao15 y214.length co15)) (fun _ h_ => h_.1))) hb); replace BK208 := mS (blk_below (g := gb208) (o := .cells #[.slice A0_0 l0_0.length c0_0] 26 (0, 0)) (by (with_reducible repeat (first | refine blk_drewN ?_ _ | refine blk_drew ?_ | refine blk_alloc ?_ _)); refine blk_far ?_ NB208_217.out _; (with_reducible repeat (first | refine blk_drewN ?_ _ | refine blk_drew ?_ | refine blk_alloc ?_ _)); exact BK208.out) hb); replace BK209 := mS (blk_below (g := gb209) (o := .cells #[.string a1_0, .string a1_1, .bool a1_2] 33 (0, 0)) (by (with_reducible repeat (first | refine blk_drewN ?_ _ | refine blk_drew ?_ | refine blk_alloc ?_ _)); refine blk_far ?_ NB209_217.out _; (with_reducible repeat (first | refine blk_drewN ?_ _ | refine blk_drew ?_ | refine blk_alloc ?_ _)); exact BK209.out) hb); replace BK210 := mS (blk_below (g := gb210) (o := .cells #[.slice none 0 0] 26 (0, 0)) (by (with_reducible repeat (first | refine blk_drewN ?_ _ | refine blk_drew ?_ | refine blk_alloc ?_ _)); refine blk_far ?_ NB210_217.out _; (with_reducible repeat (first | refine blk_drewN ?_ _ | refine blk_drew ?_ | refine blk_alloc ?_ _)); exact BK210.out) hb); replace BK217 := mS (blk_below (g := gb217) (o := .cells #[.slice Ao15 y214.length co15] 26 (0, 0)) (by (with_reducible repeat (first | refine blk_drewN ?_ _ | refine blk_drew ?_ | refine blk_alloc ?_ _)); refine blk_put (cs := #[.slice none 0 0]) ?_ 0 _ rfl; (with_reducible repeat (first | refine blk_drewN ?_ _ | refine blk_drew ?_ | refine blk_alloc ?_ _)); exact BK217.out) hb); replace HB := mS (below_step (mH4 HB.out GE208.out GE209.out GE210.out GE217.out) hb); (try clear hb); (try clear hb2); (try clear hk); (try clear hi)))
    repeat (go_quiet (first | (go_at_call 17; (with_reducible refine (spec_MemOk.calls k _ _ l0_0 false _ ?side1 ?side2 A21.out).mono ?_); (case side1 => exact Kd.C_below HR0_0.out (mH4 HB.out GE208.out GE209.out GE210.out GE217.out)); (case side2 => exact HC0_0.out); rintro e w48 ⟨rfl, hb⟩; replace HO216 := mS (Kd.R_below (by (with_reducible repeat (first | apply Kd.R_alloc | apply Kd.R_drewN | apply Kd.R_drew)); exact (Kd.R_mono (Kd.R_far (p := ⟨gb217, 0, none⟩) (Kd.R_types HO216.out BK217.out (by decide)) (fun _ hk => hk.2) (.slice Ao15 y214.length co15)) (fun _ h_ => h_.1))) hb); replace BK208 := mS (blk_below (g := gb208) (o := .cells #[.slice A0_0 l0_0.length c0_0] 26 (0, 0)) (by (with_reducible repeat (first | refine blk_drewN ?_ _ | refine blk_drew ?_ | refine blk_alloc ?_ _)); refine blk_far ?_ NB208_217.out _; (with_reducible repeat (first | refine blk_drewN ?_ _ | refine blk_drew ?_ | refine blk_alloc ?_ _)); exact BK208.out) hb); replace BK209 := mS (blk_below (g := gb209) (o := .cells #[.string a1_0, .string a1_1, .bool a1_2] 33 (0, 0)) (by (with_reducible repeat (first | refine blk_drewN ?_ _ | refine blk_drew ?_ | refine blk_alloc ?_ _)); refine blk_far ?_ NB209_217.out _; (with_reducible repeat (first | refine blk_drewN ?_ _ | refine blk_drew ?_ | refine blk_alloc ?_ _)); exact BK209.out) hb); replace BK210 := mS (blk_below (g := gb210) (o := .cells #[.slice none 0 0] 26 (0, 0)) (by (with_reducible repeat (first | refine blk_drewN ?_ _ | refine blk_drew ?_ | refine blk_alloc ?_ _)); refine blk_far ?_ NB210_217.out _; (with_reducible repeat (first | refine blk_drewN ?_ _ | refine blk_drew ?_ | refine blk_alloc ?_ _)); exact BK210.out) hb); replace BK217 := mS (blk_below (g := gb217) (o := .cells #[.slice Ao15 y214.length co15] 26 (0, 0)) (by (with_reducible repeat (first | refine blk_drewN ?_ _ | refine blk_drew ?_ | refine blk_alloc ?_ _)); refine blk_put (cs := #[.slice none 0 0]) ?_ 0 _ rfl; (with_reducible repeat (first | refine blk_drewN ?_ _ | refine blk_drew ?_ | refine blk_alloc ?_ _)); exact BK217.out) hb); replace HB := mS (below_step (mH4 HB.out GE208.out GE209.out GE210.out GE217.out) hb); (try clear hb); (try clear hb2); (try clear hk); (try clear hi))); try go_wp2_with (first | (go_at_call 17; (with_reducible refine (spec_MemOk.calls k _ _ l0_0 false _ ?side1 ?side2 A21.out).mono ?_); (case side1 => exact Kd.C_below HR0_0.out (mH4 HB.out GE208.out GE209.out GE210.out GE217.out)); (case side2 => exact HC0_0.out); rintro e w48 ⟨rfl, hb⟩; replace HO216 := mS (Kd.R_below (by (with_reducible repeat (first | apply Kd.R_alloc | apply Kd.R_drewN | apply Kd.R_drew)); exact (Kd.R_mono (Kd.R_far (p := ⟨gb217, 0, none⟩) (Kd.R_types HO216.out BK217.out (by decide)) (fun _ hk => hk.2) (.slice Ao15 y214.length co15)) (fun _ h_ => h_.1))) hb); replace BK208 := mS (blk_below (g := gb208) (o := .cells #[.slice A0_0 l0_0.length c0_0] 26 (0, 0)) (by (with_reducible repeat (first | refine blk_drewN ?_ _ | refine blk_drew ?_ | refine blk_alloc ?_ _)); refine blk_far ?_ NB208_217.out _; (with_reducible repeat (first | refine blk_drewN ?_ _ | refine blk_drew ?_ | refine blk_alloc ?_ _)); exact BK208.out) hb); replace BK209 := mS (blk_below (g := gb209) (o := .cells #[.string a1_0, .string a1_1, .bool a1_2] 33 (0, 0)) (by (with_reducible repeat (first | refine blk_drewN ?_ _ | refine blk_drew ?_ | refine blk_alloc ?_ _)); refine blk_far ?_ NB209_217.out _; (with_reducible repeat (first | refine blk_drewN ?_ _ | refine blk_drew ?_ | refine blk_alloc ?_ _)); exact BK209.out) hb); replace BK210 := mS (blk_below (g := gb210) (o := .cells #[.slice none 0 0] 26 (0, 0)) (by (with_reducible repeat (first | refine blk_drewN ?_ _ | refine blk_drew ?_ | refine blk_alloc ?_ _)); refine blk_far ?_ NB210_217.out _; (with_reducible repeat (first | refine blk_drewN ?_ _ | refine blk_drew ?_ | refine blk_alloc ?_ _)); exact BK210.out) hb); replace BK217 := mS (blk_below (g := gb217) (o := .cells #[.slice Ao15 y214.length co15] 26 (0, 0)) (by (with_reducible repeat (first | refine blk_drewN ?_ _ | refine blk_drew ?_ | refine blk_alloc ?_ _)); refine blk_put (cs := #[.slice none 0 0]) ?_ 0 _ rfl; (with_reducible repeat (first | refine blk_drewN ?_ _ | refine blk_drew ?_ | refine blk_alloc ?_ _)); exact BK217.out) hb); replace HB := mS (below_step (mH4 HB.out GE208.out GE209.out GE210.out GE217.out) hb); (try clear hb); (try clear hb2); (try clear hk); (try clear hi))))
    go_meet
    case rel => exact ⟨_, (true), (by first | rfl | (simp; done) | (simp [*]; done)), H', ⟨by first | omega | exact Nat.le_refl _⟩, ⟨by (with_reducible repeat (first | apply Kd.R_alloc | apply Kd.R_drewN | apply Kd.R_drew)); exact HO216.out⟩, ⟨by (with_reducible repeat (first | refine blk_drewN ?_ _ | refine blk_drew ?_ | refine blk_alloc ?_ _)); exact BK208.out⟩, ⟨by (with_reducible repeat (first | refine blk_drewN ?_ _ | refine blk_drew ?_ | refine blk_alloc ?_ _)); exact BK209.out⟩, ⟨by (with_reducible repeat (first | refine blk_drewN ?_ _ | refine blk_drew ?_ | refine blk_alloc ?_ _)); exact BK210.out⟩, ⟨by (with_reducible repeat (first | refine blk_drewN ?_ _ | refine blk_drew ?_ | refine blk_alloc ?_ _)); exact BK217.out⟩, ⟨(mH4 HB.out GE208.out GE209.out GE210.out GE217.out)⟩⟩
  case rest =>
   clear HC5
   try clear c1
   try clear c2
   try clear p2
   try clear c3
   try clear c4
   try clear c11
   try clear c12
   try clear c17
   try clear c18
   try clear c19
   try clear c21
   try clear c22
   try clear c24
   try clear c26
   try clear c27
   try clear c28
   try clear c31
   try clear c32
   try clear c35
   try clear c36
   try clear c37
   try clear c40
   try clear c41
   try clear c44
   try clear c45
   try clear c46
   try clear hcz13_0
   try clear hcz20_0
   try clear hcz29_0
   try clear hcz33_0
   try clear hcz33_1
   try clear hcz33_2
   try clear hcz38_0
   try clear hcz42_0
   try clear hcz42_1
   try clear hcz42_2
   try clear hcz47_0
   try clear hfz13_0
   try clear hfz20_0
   try clear hfz29_0
   try clear hfz33_0
   try clear hfz33_1
   try clear hfz33_2
   try clear hfz38_0
   try clear hfz42_0
   try clear hfz42_1
   try clear hfz42_2
   try clear hfz47_0
   obtain ⟨kq, x28_4, rfl, HA, HJ4, HO_218000, BK208, BK209, BK210, BK217, HB⟩ := hcut
   cases kq with
   | zero => exact absurd HA.out (by simp [spec_MemPut.j0])
   | succ kj4 =>
    have H := HA.out
    clear HA
    simp only [spec_MemPut.j0] at H
    by_cases c49 : x28_4 = true
    ·subst c49
     have H1 : (some (y214, false)) = some (r1, r2) := by rw [if_pos rfl] at H; exact H
     clear H
     have H := H1
     clear H1
     simp only [Option.some.injEq, Prod.mk.injEq] at H
     obtain ⟨rfl, rfl⟩ := H
     have hnb50 := NB217_208.out
     have hnc50 := NB208_217.out
     have hnb51 := NB217_209.out
     have hnc51 := NB209_217.out
     have hnb52 := NB217_210.out
     have hnc52 := NB210_217.out
     have hcz53_0 := mZ BK217.out 0
     have hfz53_0 := blk_frozen BK217.out 0
     have hnb54 := NB210_208.out
     have hnc54 := NB208_210.out
     have hnb55 := NB210_209.out
     have hnc55 := NB209_210.out
     have hcz56_0 := mZ BK210.out 0
     have hfz56_0 := blk_frozen BK210.out 0
     go_wp2
     repeat (go_quiet (fail); try go_wp2)
     refine bodyPost_ret (results_ct rfl _ _ gb210 26 #[.slice Ao15 y214.length co15] (0, 0) _ rfl (by (with_reducible repeat (first | refine blk_drewN ?_ _ | refine blk_drew ?_ | refine blk_alloc ?_ _)); refine blk_put (cs := #[.slice none 0 0]) ?_ 0 _ rfl; (with_reducible repeat (first | refine blk_drewN ?_ _ | refine blk_drew ?_ | refine blk_alloc ?_ _)); exact BK210.out) Try.underlying26 rfl (by kernel_rfl)) rfl ?_
     exact ⟨_, by first | rfl | (simp [errW_none, errW_some] <;> rfl) | (simp [*, errW_none, errW_some] <;> rfl), by (with_reducible repeat (first | apply Kd.R_alloc | apply Kd.R_drewN | apply Kd.R_drew)); exact Kd.R_mono (Kd.R_far (p := ⟨gb210, 0, none⟩) (Kd.R_types HO_218000.out BK210.out (by decide)) (fun _ hk => hk.2) (.slice Ao15 y214.length co15)) (fun _ hk => trivial), (mH4 HB.out GE208.out GE209.out GE210.out GE217.out)⟩
    ·replace c49 := Bool.eq_false_iff.mpr c49
     subst c49
     have H1 : (spec_MemPut.l0 kj4 a2 0 a1_0 a1_1 a1_2 y214) = some (r1, r2) := by rw [if_neg (show ¬ (false = true) by decide)] at H; exact H
     clear H
     have H := H1
     clear H1
     have H' := mS H
     clear H
     go_wp2
     repeat (go_quiet (fail); try go_wp2)
     go_loopg [9] kj4 (fun kq v9 w' => ∃ (x9_2 : Int), v9 = .int .i64 x9_2 ∧ Aside0 (spec_MemPut.l0 kq a2 x9_2 a1_0 a1_1 a1_2 y214 = some (r1, r2)) ∧ Aside0 (kq ≤ kj4) ∧ Aside0 (Kd.R k35 35 w' w.heap.size (fun _ => True) (.slice Ao15 y214.length co15) y214) ∧ Aside0 (w'.heap[gb208]? = some (.cells #[(.slice A0_0 l0_0.length c0_0)] 26 (0, 0))) ∧ Aside0 (w'.heap[gb209]? = some (.cells #[.string a1_0, .string a1_1, .bool a1_2] 33 (0, 0))) ∧ Aside0 (w'.heap[gb210]? = some (.cells #[(.slice none 0 0)] 26 (0, 0))) ∧ Aside0 (w'.heap[gb217]? = some (.cells #[(.slice Ao15 y214.length co15)] 26 (0, 0))) ∧ Aside0 (Below w.heap.size w w'))
     case atStart => exact ⟨(0), (by first | rfl | (simp; done) | (simp [*]; done)), H', ⟨Nat.le_refl _⟩, ⟨by (with_reducible repeat (first | apply Kd.R_alloc | apply Kd.R_drewN | apply Kd.R_drew)); exact HO_218000.out⟩, ⟨by (with_reducible repeat (first | refine blk_drewN ?_ _ | refine blk_drew ?_ | refine blk_alloc ?_ _)); exact BK208.out⟩, ⟨by (with_reducible repeat (first | refine blk_drewN ?_ _ | refine blk_drew ?_ | refine blk_alloc ?_ _)); exact BK209.out⟩, ⟨by (with_reducible repeat (first | refine blk_drewN ?_ _ | refine blk_drew ?_ | refine blk_alloc ?_ _)); exact BK210.out⟩, ⟨by (with_reducible repeat (first | refine blk_drewN ?_ _ | refine blk_drew ?_ | refine blk_alloc ?_ _)); exact BK217.out⟩, ⟨(mH4 HB.out GE208.out GE209.out GE210.out GE217.out)⟩⟩
     case round =>
      clear H'
      try clear c1
      try clear c2
      try clear p2
      try clear c3
      try clear c4
      try clear c5
      try clear c11
      try clear c12
      try clear c17
      try clear c18
      try clear c19
      try clear c21
      try clear c22
      try clear c24
      try clear c26
      try clear c27
      try clear c28
      try clear c31
      try clear c32
      try clear c35
      try clear c36
      try clear c37
      try clear c40
      try clear c41
      try clear c44
      try clear c45
      try clear c46
      try clear c49
      try clear c50
      try clear c51
      try clear c52
      try clear c54
      try clear c55
      try clear hcz13_0
      try clear hcz20_0
      try clear hcz29_0
      try clear hcz33_0
      try clear hcz33_1
      try clear hcz33_2
      try clear hcz38_0
      try clear hcz42_0
      try clear hcz42_1
      try clear hcz42_2
      try clear hcz47_0
      try clear hcz53_0
      try clear hcz56_0
      try clear hfz13_0
      try clear hfz20_0
      try clear hfz29_0
      try clear hfz33_0
      try clear hfz33_1
      try clear hfz33_2
      try clear hfz38_0
      try clear hfz42_0
      try clear hfz42_1
      try clear hfz42_2
      try clear hfz47_0
      try clear hfz53_0
      try clear hfz56_0
      try clear p2
      obtain ⟨x9_2, rfl, HA, HK2, HO_218000, BK208, BK209, BK210, BK217, HB⟩ := hrel
      cases gk with
      | zero => exact absurd HA.out (by simp [spec_MemPut.l0])
      | succ k2 =>
       have H := HA.out
       clear HA
       simp only [spec_MemPut.l0] at H
       have HC57 := mS H
       clear H
       go_upto_region 5 with (fail)
       repeat (go_quiet (fail); go_upto_region 5 with (fail))
       go_cut [46] (fun v46 wc => ∃ (kq : Nat) (x46_56 : Bool), v46 = .bool x46_56 ∧ Aside0 (spec_MemPut.j2 kq a2 x9_2 x46_56 a1_0 a1_1 a1_2 y214 = some (r1, r2)) ∧ Aside0 (kq ≤ k2) ∧ Aside0 (Kd.R k35 35 wc w.heap.size (fun _ => True) (.slice Ao15 y214.length co15) y214) ∧ Aside0 (wc.heap[gb208]? = some (.cells #[(.slice A0_0 l0_0.length c0_0)] 26 (0, 0))) ∧ Aside0 (wc.heap[gb209]? = some (.cells #[.string a1_0, .string a1_1, .bool a1_2] 33 (0, 0))) ∧ Aside0 (wc.heap[gb210]? = some (.cells #[(.slice none 0 0)] 26 (0, 0))) ∧ Aside0 (wc.heap[gb217]? = some (.cells #[(.slice Ao15 y214.length co15)] 26 (0, 0))) ∧ Aside0 (Below w.heap.size w wc))
       case first =>
        have H := HC57.out
        clear HC57
        by_cases c58 : x9_2 < (y214.length : Int)
        ·rw [if_pos c58] at H
         have c58b0 : decide (x9_2 < (y214.length : Int)) = true := decide_eq_true c58
         clear c58
         (first | rw [c58b0] | (simp only [i64_w, i32_w]; rw [c58b0]) | skip)
         by_cases c59 : 0 ≤ x9_2
         ·rw [if_pos c59] at H
          have c59b0 : decide (0 ≤ x9_2) = true := decide_eq_true c59
          clear c59
          have H' := mS H
          clear H
          have hnb60 := NB217_208.out
          have hnc60 := NB208_217.out
          have hnb61 := NB217_209.out
          have hnc61 := NB209_217.out
          have hnb62 := NB217_210.out
          have hnc62 := NB210_217.out
          have hcz63_0 := mZ BK217.out 0
          have hfz63_0 := blk_frozen BK217.out 0
          have p221 : 0 ≤ (x9_2 : Int) := of_decide_eq_true (by first | (with_reducible assumption) | assumption)
          have q221 : x9_2 < (y214.length : Int) := of_decide_eq_true (by first | (with_reducible assumption) | assumption)
          obtain ⟨ad221, e221, hx221_0, hx221_1, hx221_2, hx221_3⟩ := at_T35 (Kd.R_reads' HO_218000.out).2.2 x9_2 p221 q221
          cases e221
          replace p221 := eq_true p221
          replace q221 := eq_true q221
          have hnb64 := NB209_208.out
          have hnc64 := NB208_209.out
          have hnb65 := NB209_210.out
          have hnc65 := NB210_209.out
          have hcz66_0 := mZ BK209.out 0
          have hcz66_1 := mZ BK209.out 1
          have hcz66_2 := mZ BK209.out 2
          have hfz66_0 := blk_frozen BK209.out 0
          have hfz66_1 := blk_frozen BK209.out 1
          have hfz66_2 := blk_frozen BK209.out 2
          go_wp2
          repeat (go_quiet (fail); try go_wp2)
          go_meet
          case rel => exact ⟨_, ((Op.bytesLess (((rd_T35 y214 x9_2).f0.f0).toList) a1_0.toList)), (by first | rfl | (simp; done) | (simp [*]; done)), H', ⟨by have := HJ4.out; have := HK2.out; first | omega | exact Nat.le_refl _⟩, ⟨by (with_reducible repeat (first | apply Kd.R_alloc | apply Kd.R_drewN | apply Kd.R_drew)); exact HO_218000.out⟩, ⟨by (with_reducible repeat (first | refine blk_drewN ?_ _ | refine blk_drew ?_ | refine blk_alloc ?_ _)); exact BK208.out⟩, ⟨by (with_reducible repeat (first | refine blk_drewN ?_ _ | refine blk_drew ?_ | refine blk_alloc ?_ _)); exact BK209.out⟩, ⟨by (with_reducible repeat (first | refine blk_drewN ?_ _ | refine blk_drew ?_ | refine blk_alloc ?_ _)); exact BK210.out⟩, ⟨by (with_reducible repeat (first | refine blk_drewN ?_ _ | refine blk_drew ?_ | refine blk_alloc ?_ _)); exact BK217.out⟩, ⟨(mH4 HB.out GE208.out GE209.out GE210.out GE217.out)⟩⟩
         ·rw [if_neg c59] at H
          exact absurd H (by simp)
        ·rw [if_neg c58] at H
         have c58b0 : decide (x9_2 < (y214.length : Int)) = false := decide_eq_false c58
         clear c58
         (first | rw [c58b0] | (simp only [i64_w, i32_w]; rw [c58b0]) | skip)
         have H' := mS H
         clear H
         have hnb67 := NB217_208.out
         have hnc67 := NB208_217.out
         have hnb68 := NB217_209.out
         have hnc68 := NB209_217.out
         have hnb69 := NB217_210.out
         have hnc69 := NB210_217.out
         have hcz70_0 := mZ BK217.out 0
         have hfz70_0 := blk_frozen BK217.out 0
         go_wp2
         repeat (go_quiet (fail); try go_wp2)
         go_meet
         case rel => exact ⟨_, (false), (by first | rfl | (simp; done) | (simp [*]; done)), H', ⟨by have := HJ4.out; have := HK2.out; first | omega | exact Nat.le_refl _⟩, ⟨by (with_reducible repeat (first | apply Kd.R_alloc | apply Kd.R_drewN | apply Kd.R_drew)); exact HO_218000.out⟩, ⟨by (with_reducible repeat (first | refine blk_drewN ?_ _ | refine blk_drew ?_ | refine blk_alloc ?_ _)); exact BK208.out⟩, ⟨by (with_reducible repeat (first | refine blk_drewN ?_ _ | refine blk_drew ?_ | refine blk_alloc ?_ _)); exact BK209.out⟩, ⟨by (with_reducible repeat (first | refine blk_drewN ?_ _ | refine blk_drew ?_ | refine blk_alloc ?_ _)); exact BK210.out⟩, ⟨by (with_reducible repeat (first | refine blk_drewN ?_ _ | refine blk_drew ?_ | refine blk_alloc ?_ _)); exact BK217.out⟩, ⟨(mH4 HB.out GE208.out GE209.out GE210.out GE217.out)⟩⟩
       case rest =>
        clear HC57
        try clear c1
        try clear c2
        try clear p2
        try clear q2
        try clear hx2
        try clear c3
        try clear c4
        try clear c5
        try clear c6
        try clear c11
        try clear c12
        try clear c17
        try clear c18
        try clear c19
        try clear c21
        try clear c22
        try clear p22
        try clear q22
        try clear hx22
        try clear c24
        try clear c26
        try clear c27
        try clear c28
        try clear c31
        try clear c32
        try clear c35
        try clear c36
        try clear c37
        try clear c40
        try clear c41
        try clear c44
        try clear c45
        try clear c46
        try clear c49
        try clear c50
        try clear c51
        try clear c52
        try clear c54
        try clear c55
        try clear c58
        try clear c58b0
        try clear c59
        try clear c59b0
        try clear c60
        try clear c61
        try clear c62
        try clear c64
        try clear c65
        try clear c67
        try clear c68
        try clear c69
        try clear hcz13_0
        try clear hcz20_0
        try clear hcz29_0
        try clear hcz33_0
        try clear hcz33_1
        try clear hcz33_2
        try clear hcz38_0
        try clear hcz42_0
        try clear hcz42_1
        try clear hcz42_2
        try clear hcz47_0
        try clear hcz53_0
        try clear hcz56_0
        try clear hcz63_0
        try clear hcz66_0
        try clear hcz66_1
        try clear hcz66_2
        try clear hcz70_0
        try clear hfz13_0
        try clear hfz20_0
        try clear hfz29_0
        try clear hfz33_0
        try clear hfz33_1
        try clear hfz33_2
        try clear hfz38_0
        try clear hfz42_0
        try clear hfz42_1
        try clear hfz42_2
        try clear hfz47_0
        try clear hfz53_0
        try clear hfz56_0
        try clear hfz63_0
        try clear hfz66_0
        try clear hfz66_1
        try clear hfz66_2
        try clear hfz70_0
        try clear hx221_0
        try clear hx221_1
        try clear hx221_2
        try clear hx221_3
        try clear p2
        try clear p221
        try clear q221
        obtain ⟨kq, x46_56, rfl, HA, HJ56, HO_218000, BK208, BK209, BK210, BK217, HB⟩ := hcut
        cases kq with
        | zero => exact absurd HA.out (by simp [spec_MemPut.j2])
        | succ kj56 =>
         have H := HA.out
         clear HA
         simp only [spec_MemPut.j2] at H
         by_cases c71 : x46_56 = true
         ·subst c71
          have H1 : (spec_MemPut.l0 kj56 a2 (wrap64 (x9_2 + 1)) a1_0 a1_1 a1_2 y214) = some (r1, r2) := by rw [if_pos rfl] at H; exact H
          clear H
          have H := H1
          clear H1
          have H' := mS H
          clear H
          go_wp2
          repeat (go_quiet (fail); try go_wp2)
          go_roundg kj56
          case measure => have := HJ4.out; have := HK2.out; have := HJ56.out; omega
          case rel => exact ⟨(wrap64 (x9_2 + 1)), (by first | rfl | (simp; done) | (simp [*]; done)), H', ⟨by have := HJ4.out; have := HK2.out; have := HJ56.out; omega⟩, ⟨by (with_reducible repeat (first | apply Kd.R_alloc | apply Kd.R_drewN | apply Kd.R_drew)); exact HO_218000.out⟩, ⟨by (with_reducible repeat (first | refine blk_drewN ?_ _ | refine blk_drew ?_ | refine blk_alloc ?_ _)); exact BK208.out⟩, ⟨by (with_reducible repeat (first | refine blk_drewN ?_ _ | refine blk_drew ?_ | refine blk_alloc ?_ _)); exact BK209.out⟩, ⟨by (with_reducible repeat (first | refine blk_drewN ?_ _ | refine blk_drew ?_ | refine blk_alloc ?_ _)); exact BK210.out⟩, ⟨by (with_reducible repeat (first | refine blk_drewN ?_ _ | refine blk_drew ?_ | refine blk_alloc ?_ _)); exact BK217.out⟩, ⟨(mH4 HB.out GE208.out GE209.out GE210.out GE217.out)⟩⟩
         ·replace c71 := Bool.eq_false_iff.mpr c71
          subst c71
          have H1 : (if x9_2 < (y214.length : Int) then (if 0 ≤ x9_2 then (spec_MemPut.j3 kj56 a2 x9_2 (((rd_T35 y214 x9_2).f0.f0).toList == a1_0.toList) a1_0 a1_1 a1_2 y214) else (none)) else (spec_MemPut.j3 kj56 a2 x9_2 false a1_0 a1_1 a1_2 y214)) = some (r1, r2) := by rw [if_neg (show ¬ (false = true) by decide)] at H; exact H
          clear H
          have H := H1
          clear H1
          have HC72 := mS H
          clear H
          go_upto_region 7 with (fail)
          repeat (go_quiet (fail); go_upto_region 7 with (fail))
          go_cut [65] (fun v65 wc => ∃ (kq : Nat) (x65_71 : Bool), v65 = .bool x65_71 ∧ Aside0 (spec_MemPut.j3 kq a2 x9_2 x65_71 a1_0 a1_1 a1_2 y214 = some (r1, r2)) ∧ Aside0 (kq ≤ kj56) ∧ Aside0 (Kd.R k35 35 wc w.heap.size (fun _ => True) (.slice Ao15 y214.length co15) y214) ∧ Aside0 (wc.heap[gb208]? = some (.cells #[(.slice A0_0 l0_0.length c0_0)] 26 (0, 0))) ∧ Aside0 (wc.heap[gb209]? = some (.cells #[.string a1_0, .string a1_1, .bool a1_2] 33 (0, 0))) ∧ Aside0 (wc.heap[gb210]? = some (.cells #[(.slice none 0 0)] 26 (0, 0))) ∧ Aside0 (wc.heap[gb217]? = some (.cells #[(.slice Ao15 y214.length co15)] 26 (0, 0))) ∧ Aside0 (Below w.heap.size w wc))
          case first =>
           have H := HC72.out
           clear HC72
           by_cases c73 : x9_2 < (y214.length : Int)
           ·rw [if_pos c73] at H
            have c73b0 : decide (x9_2 < (y214.length : Int)) = true := decide_eq_true c73
            clear c73
            (first | rw [c73b0] | (simp only [i64_w, i32_w]; rw [c73b0]) | skip)
            by_cases c74 : 0 ≤ x9_2
            ·rw [if_pos c74] at H
             have c74b0 : decide (0 ≤ x9_2) = true := decide_eq_true c74
             clear c74
             have H' := mS H
             clear H
             have hnb75 := NB217_208.out
             have hnc75 := NB208_217.out
             have hnb76 := NB217_209.out
             have hnc76 := NB209_217.out
             have hnb77 := NB217_210.out
             have hnc77 := NB210_217.out
             have hcz78_0 := mZ BK217.out 0
             have hfz78_0 := blk_frozen BK217.out 0
             have p222 : 0 ≤ (x9_2 : Int) := of_decide_eq_true (by first | (with_reducible assumption) | assumption)
             have q222 : x9_2 < (y214.length : Int) := of_decide_eq_true (by first | (with_reducible assumption) | assumption)
             obtain ⟨ad222, e222, hx222_0, hx222_1, hx222_2, hx222_3⟩ := at_T35 (Kd.R_reads' HO_218000.out).2.2 x9_2 p222 q222
             cases e222
             replace p222 := eq_true p222
             replace q222 := eq_true q222
             have hnb79 := NB209_208.out
             have hnc79 := NB208_209.out
             have hnb80 := NB209_210.out
             have hnc80 := NB210_209.out
             have hcz81_0 := mZ BK209.out 0
             have hcz81_1 := mZ BK209.out 1
             have hcz81_2 := mZ BK209.out 2
             have hfz81_0 := blk_frozen BK209.out 0
             have hfz81_1 := blk_frozen BK209.out 1
             have hfz81_2 := blk_frozen BK209.out 2
             go_wp2
             repeat (go_quiet (fail); try go_wp2)
             go_meet
             case rel => exact ⟨_, ((((rd_T35 y214 x9_2).f0.f0).toList == a1_0.toList)), (by first | rfl | (simp; done) | (simp [*]; done)), H', ⟨by have := HJ4.out; have := HK2.out; have := HJ56.out; first | omega | exact Nat.le_refl _⟩, ⟨by (with_reducible repeat (first | apply Kd.R_alloc | apply Kd.R_drewN | apply Kd.R_drew)); exact HO_218000.out⟩, ⟨by (with_reducible repeat (first | refine blk_drewN ?_ _ | refine blk_drew ?_ | refine blk_alloc ?_ _)); exact BK208.out⟩, ⟨by (with_reducible repeat (first | refine blk_drewN ?_ _ | refine blk_drew ?_ | refine blk_alloc ?_ _)); exact BK209.out⟩, ⟨by (with_reducible repeat (first | refine blk_drewN ?_ _ | refine blk_drew ?_ | refine blk_alloc ?_ _)); exact BK210.out⟩, ⟨by (with_reducible repeat (first | refine blk_drewN ?_ _ | refine blk_drew ?_ | refine blk_alloc ?_ _)); exact BK217.out⟩, ⟨(mH4 HB.out GE208.out GE209.out GE210.out GE217.out)⟩⟩
            ·rw [if_neg c74] at H
             exact absurd H (by simp)
           ·rw [if_neg c73] at H
            have c73b0 : decide (x9_2 < (y214.length : Int)) = false := decide_eq_false c73
            clear c73
            (first | rw [c73b0] | (simp only [i64_w, i32_w]; rw [c73b0]) | skip)
            have H' := mS H
            clear H
            have hnb82 := NB217_208.out
            have hnc82 := NB208_217.out
            have hnb83 := NB217_209.out
            have hnc83 := NB209_217.out
            have hnb84 := NB217_210.out
            have hnc84 := NB210_217.out
            have hcz85_0 := mZ BK217.out 0
            have hfz85_0 := blk_frozen BK217.out 0
            go_wp2
            repeat (go_quiet (fail); try go_wp2)
            go_meet
            case rel => exact ⟨_, (false), (by first | rfl | (simp; done) | (simp [*]; done)), H', ⟨by have := HJ4.out; have := HK2.out; have := HJ56.out; first | omega | exact Nat.le_refl _⟩, ⟨by (with_reducible repeat (first | apply Kd.R_alloc | apply Kd.R_drewN | apply Kd.R_drew)); exact HO_218000.out⟩, ⟨by (with_reducible repeat (first | refine blk_drewN ?_ _ | refine blk_drew ?_ | refine blk_alloc ?_ _)); exact BK208.out⟩, ⟨by (with_reducible repeat (first | refine blk_drewN ?_ _ | refine blk_drew ?_ | refine blk_alloc ?_ _)); exact BK209.out⟩, ⟨by (with_reducible repeat (first | refine blk_drewN ?_ _ | refine blk_drew ?_ | refine blk_alloc ?_ _)); exact BK210.out⟩, ⟨by (with_reducible repeat (first | refine blk_drewN ?_ _ | refine blk_drew ?_ | refine blk_alloc ?_ _)); exact BK217.out⟩, ⟨(mH4 HB.out GE208.out GE209.out GE210.out GE217.out)⟩⟩
          case rest =>
           clear HC72
           try clear c1
           try clear c2
           try clear p2
           try clear q2
           try clear hx2
           try clear c3
           try clear c4
           try clear c5
           try clear c6
           try clear p6
           try clear c7
           try clear c8
           try clear c11
           try clear c12
           try clear c17
           try clear c18
           try clear c19
           try clear c21
           try clear c22
           try clear p22
           try clear q22
           try clear hx22
           try clear c24
           try clear c26
           try clear c27
           try clear c28
           try clear c31
           try clear c32
           try clear c35
           try clear c36
           try clear c37
           try clear c40
           try clear c41
           try clear c44
           try clear c45
           try clear c46
           try clear c49
           try clear c50
           try clear c51
           try clear c52
           try clear c54
           try clear c55
           try clear c58
           try clear c58b0
           try clear c59
           try clear c59b0
           try clear c60
           try clear c61
           try clear c62
           try clear c64
           try clear p64
           try clear c65
           try clear c67
           try clear c68
           try clear c69
           try clear c71
           try clear c73
           try clear c73b0
           try clear c74
           try clear c74b0
           try clear c75
           try clear c76
           try clear c77
           try clear c79
           try clear c80
           try clear c82
           try clear c83
           try clear c84
           try clear hcz13_0
           try clear hcz20_0
           try clear hcz29_0
           try clear hcz33_0
           try clear hcz33_1
           try clear hcz33_2
           try clear hcz38_0
           try clear hcz42_0
           try clear hcz42_1
           try clear hcz42_2
           try clear hcz47_0
           try clear hcz53_0
           try clear hcz56_0
           try clear hcz63_0
           try clear hcz66_0
           try clear hcz66_1
           try clear hcz66_2
           try clear hcz70_0
           try clear hcz78_0
           try clear hcz81_0
           try clear hcz81_1
           try clear hcz81_2
           try clear hcz85_0
           try clear hfz13_0
           try clear hfz20_0
           try clear hfz29_0
           try clear hfz33_0
           try clear hfz33_1
           try clear hfz33_2
           try clear hfz38_0
           try clear hfz42_0
           try clear hfz42_1
           try clear hfz42_2
           try clear hfz47_0
           try clear hfz53_0
           try clear hfz56_0
           try clear hfz63_0
           try clear hfz66_0
           try clear hfz66_1
           try clear hfz66_2
           try clear hfz70_0
           try clear hfz78_0
           try clear hfz81_0
           try clear hfz81_1
           try clear hfz81_2
           try clear hfz85_0
           try clear hx221_0
           try clear hx221_1
           try clear hx221_2
           try clear hx221_3
           try clear hx222_0
           try clear hx222_1
           try clear hx222_2
           try clear hx222_3
           try clear p2
           try clear p22
           try clear p221
           try clear p222
           try clear q2
           try clear q22
           try clear q221
           try clear q222
           obtain ⟨kq, x65_71, rfl, HA, HJ71, HO_218000, BK208, BK209, BK210, BK217, HB⟩ := hcut
           cases kq with
           | zero => exact absurd HA.out (by simp [spec_MemPut.j3])
           | succ kj71 =>
            have H := HA.out
            clear HA
            simp only [spec_MemPut.j3] at H
            by_cases c86 : x65_71 = true
            ·subst c86
             have H1 : (if 0 ≤ x9_2 then (if x9_2 < (y214.length : Int) then (some ((y214.set (x9_2 : Int).toNat (⟨(⟨a1_0, a1_1, a1_2⟩ : S33), (rd_T35 y214 x9_2).f1⟩ : S35)), true)) else (none)) else (none)) = some (r1, r2) := by rw [if_pos rfl] at H; exact H
             clear H
             have H := H1
             clear H1
             by_cases c87 : 0 ≤ x9_2
             ·rw [if_pos c87] at H
              have c87b0 : decide (0 ≤ x9_2) = true := decide_eq_true c87
              clear c87
              by_cases c88 : x9_2 < (y214.length : Int)
              ·rw [if_pos c88] at H
               have c88b0 : decide (x9_2 < (y214.length : Int)) = true := decide_eq_true c88
               clear c88
               obtain ⟨y223, hy223⟩ : ∃ y_ : List (S35), y_ = (y214.set (x9_2 : Int).toNat (⟨(⟨a1_0, a1_1, a1_2⟩ : S33), (rd_T35 y214 x9_2).f1⟩ : S35)) := ⟨_, rfl⟩
               replace H : (some (y223, true)) = some (r1, r2) := by first | (rw [hy223]; with_reducible exact H) | (have H2_ := (Option.bind_some _ _).symm.trans H; rw [hy223]; with_reducible exact H2_) | (have H2_ := (Option.bind_some _ _).symm.trans H; with_reducible exact H2_) | with_reducible exact H | (rw [hy223]; exact H) | exact H
               have Ny223 := mS hy223
               clear hy223
               simp only [Option.some.injEq, Prod.mk.injEq] at H
               obtain ⟨rfl, rfl⟩ := H
               have hnb90 := NB217_208.out
               have hnc90 := NB208_217.out
               have hnb91 := NB217_209.out
               have hnc91 := NB209_217.out
               have hnb92 := NB217_210.out
               have hnc92 := NB210_217.out
               have hcz93_0 := mZ BK217.out 0
               have hfz93_0 := blk_frozen BK217.out 0
               have hnb94 := NB209_208.out
               have hnc94 := NB208_209.out
               have hnb95 := NB209_210.out
               have hnc95 := NB210_209.out
               have hcz96_0 := mZ BK209.out 0
               have hcz96_1 := mZ BK209.out 1
               have hcz96_2 := mZ BK209.out 2
               have hfz96_0 := blk_frozen BK209.out 0
               have hfz96_1 := blk_frozen BK209.out 1
               have hfz96_2 := blk_frozen BK209.out 2
               have p89 : 0 ≤ (x9_2 : Int) := of_decide_eq_true (by first | (with_reducible assumption) | assumption)
               have q89 : (x9_2 : Int) < ((y214.length : Int) : Int) := of_decide_eq_true (by first | (with_reducible assumption) | assumption)
               obtain ⟨go89, co89, eo89, gb89, gl89, cl89, HG89⟩ := Kd.R_form HO_218000.out (by omega)
               (first | cases eo89 | (injection eo89 with ea_ en_ ec_; (first | subst ea_ | (injection ea_ with ea_; subst ea_)); subst ec_; clear en_))
               have GB89 := mS gb89
               have GG89 := mS HG89
               clear gb89 gl89 HG89
               obtain ⟨ce89, hcl89, hM89, hcc89, hfr89⟩ := Kd.R_elem HO_218000.out z35 (x9_2 : Int) p89 q89
               obtain rfl := k35_openM hM89
               have hx89_0 : wc.cell? ⟨go89, (x9_2 : Int).toNat * 4, none⟩ = some (.string ((rd_T35 y214 x9_2).f0.f0)) := hcc89 0 _ rfl
               have hx89_1 : wc.cell? ⟨go89, (x9_2 : Int).toNat * 4 + 1, none⟩ = some (.string ((rd_T35 y214 x9_2).f0.f1)) := hcc89 1 _ rfl
               have hx89_2 : wc.cell? ⟨go89, (x9_2 : Int).toNat * 4 + 2, none⟩ = some (.bool ((rd_T35 y214 x9_2).f0.f2)) := hcc89 2 _ rfl
               have hx89_3 : wc.cell? ⟨go89, (x9_2 : Int).toNat * 4 + 3, none⟩ = some (.int .i64 ((rd_T35 y214 x9_2).f1)) := hcc89 3 _ rfl
               have hf89_0 : wc.frozen? ⟨go89, (x9_2 : Int).toNat * 4, none⟩ = false := hfr89 0
               have hf89_1 : wc.frozen? ⟨go89, (x9_2 : Int).toNat * 4 + 1, none⟩ = false := hfr89 1
               have hf89_2 : wc.frozen? ⟨go89, (x9_2 : Int).toNat * 4 + 2, none⟩ = false := hfr89 2
               have hf89_3 : wc.frozen? ⟨go89, (x9_2 : Int).toNat * 4 + 3, none⟩ = false := hfr89 3
               clear hcl89 hcc89 hfr89 hM89
               replace p89 := eq_true p89
               replace q89 := eq_true q89
               have HX97 := mS (show Kd.R k35 35 wc w.heap.size (fun _ => True) (.slice (some ⟨go89, 0, none⟩) y214.length co15) y214 from (mR HO_218000.out))
               obtain ⟨ce97, hcl97, hM97, hcc97, hfr97⟩ := Kd.R_elem HX97.out z35 (x9_2 : Int) (of_decide_eq_true (by first | (with_reducible assumption) | assumption)) (by have h_ : (x9_2 : Int) < ((y214.length : Int) : Int) := of_decide_eq_true (by first | (with_reducible assumption) | assumption); first | exact h_ | (have e_ := (Kd.R_reads' HO_218000.out).1; omega) | simpa using h_)
               obtain rfl := k35_openM hM97
               have HP97 := Kd.R_seg HX97.out (x9_2 : Int) (of_decide_eq_true (by first | (with_reducible assumption) | assumption)) (by have h_ : (x9_2 : Int) < ((y214.length : Int) : Int) := of_decide_eq_true (by first | (with_reducible assumption) | assumption); first | exact h_ | (have e_ := (Kd.R_reads' HO_218000.out).1; omega) | simpa using h_) (seg := [.string a1_0, .string a1_1, .bool a1_2]) (j := 0) hcl97 hcc97 (show 3 ≤ 4 from by decide) (x' := (⟨(⟨a1_0, a1_1, a1_2⟩ : S33), (rd_T35 y214 x9_2).f1⟩ : S35)) (k35_mkM _ _ _ (⟨(⟨a1_0, a1_1, a1_2⟩ : S33), (rd_T35 y214 x9_2).f1⟩ : S35) ) (fun _ hk => hk)
               have hx97_0 := hcc97 0 _ rfl
               (try simp only [show (k35).sz = 4 from rfl, Nat.mul_one, Nat.add_zero] at hx97_0)
               have hf97_0 := hfr97 0
               (try simp only [show (k35).sz = 4 from rfl, Nat.mul_one, Nat.add_zero] at hf97_0)
               have hx97_1 := hcc97 1 _ rfl
               (try simp only [show (k35).sz = 4 from rfl, Nat.mul_one, Nat.add_zero] at hx97_1)
               have hf97_1 := hfr97 1
               (try simp only [show (k35).sz = 4 from rfl, Nat.mul_one, Nat.add_zero] at hf97_1)
               have hx97_2 := hcc97 2 _ rfl
               (try simp only [show (k35).sz = 4 from rfl, Nat.mul_one, Nat.add_zero] at hx97_2)
               have hf97_2 := hfr97 2
               (try simp only [show (k35).sz = 4 from rfl, Nat.mul_one, Nat.add_zero] at hf97_2)
               clear hcl97 hcc97 hfr97 hM97
               go_wp2_with (first | ((with_reducible refine gate_store (t := 33) (p := 71) rfl ?_); (try (rw [drewN_self wc]; generalize hq_ : World.drewN wc _ = wc; have n0_ := mS (Kd.R_at hq_ HO_218000.out); have n1_ := mS (blk_at hq_ BK208.out); have n2_ := mS (blk_at hq_ BK209.out); have n3_ := mS (blk_at hq_ BK210.out); have n4_ := mS (blk_at hq_ BK217.out); have n5_ := mS (below_at hq_ HB.out); clear hq_ HO_218000 BK208 BK209 BK210 BK217 HB; have HO_218000 := n0_; have BK208 := n1_; have BK209 := n2_; have BK210 := n3_; have BK217 := n4_; have HB := n5_; clear n0_ n1_ n2_ n3_ n4_ n5_; (try (have HX97 := mS (show Kd.R k35 35 wc w.heap.size (fun _ => True) (.slice (some ⟨go89, 0, none⟩) y214.length co15) y214 from (mR HO_218000.out)))); (try (obtain ⟨ce97, hcl97, hM97, hcc97, hfr97⟩ := Kd.R_elem HX97.out z35 (x9_2 : Int) (of_decide_eq_true (by first | (with_reducible assumption) | assumption)) (by have h_ : (x9_2 : Int) < ((y214.length : Int) : Int) := of_decide_eq_true (by first | (with_reducible assumption) | assumption); first | exact h_ | (have e_ := (Kd.R_reads' HO_218000.out).1; omega) | simpa using h_))); (try (obtain rfl := k35_openM hM97)); (try (have HP97 := Kd.R_seg HX97.out (x9_2 : Int) (of_decide_eq_true (by first | (with_reducible assumption) | assumption)) (by have h_ : (x9_2 : Int) < ((y214.length : Int) : Int) := of_decide_eq_true (by first | (with_reducible assumption) | assumption); first | exact h_ | (have e_ := (Kd.R_reads' HO_218000.out).1; omega) | simpa using h_) (seg := [.string a1_0, .string a1_1, .bool a1_2]) (j := 0) hcl97 hcc97 (show 3 ≤ 4 from by decide) (x' := (⟨(⟨a1_0, a1_1, a1_2⟩ : S33), (rd_T35 y214 x9_2).f1⟩ : S35)) (k35_mkM _ _ _ (⟨(⟨a1_0, a1_1, a1_2⟩ : S33), (rd_T35 y214 x9_2).f1⟩ : S35) ) (fun _ hk => hk))); (try (have hx97_0 := hcc97 0 _ rfl)); (try (try simp only [show (k35).sz = 4 from rfl, Nat.mul_one, Nat.add_zero] at hx97_0)); (try (have hf97_0 := hfr97 0)); (try (try simp only [show (k35).sz = 4 from rfl, Nat.mul_one, Nat.add_zero] at hf97_0)); (try (have hx97_1 := hcc97 1 _ rfl)); (try (try simp only [show (k35).sz = 4 from rfl, Nat.mul_one, Nat.add_zero] at hx97_1)); (try (have hf97_1 := hfr97 1)); (try (try simp only [show (k35).sz = 4 from rfl, Nat.mul_one, Nat.add_zero] at hf97_1)); (try (have hx97_2 := hcc97 2 _ rfl)); (try (try simp only [show (k35).sz = 4 from rfl, Nat.mul_one, Nat.add_zero] at hx97_2)); (try (have hf97_2 := hfr97 2)); (try (try simp only [show (k35).sz = 4 from rfl, Nat.mul_one, Nat.add_zero] at hf97_2)); (try (clear hcl97 hcc97 hfr97 hM97)))); refine store_event (t := 33) (p := 71) (v := ?vo_w98) (w1 := (((wc.setCell ⟨go89, (x9_2 : Int).toNat * 4, none⟩ (.string a1_0)).setCell ⟨go89, (x9_2 : Int).toNat * 4 + 1, none⟩ (.string a1_1)).setCell ⟨go89, (x9_2 : Int).toNat * 4 + 2, none⟩ (.bool a1_2))) ?hg ?ho ?hn ?hr ?_; (case ho => rfl); (case hg => rfl); (case hn => rfl); (case hr => first | (go_simp; done) | (go_simp; rfl)); intro w98 hw; have hg : wc.grownBy w98 (some go89) := (by rw [hw]; exact HP97.2); have hp_ : Kd.R k35 35 w98 w.heap.size (fun _ => True) (.slice (some ⟨go89, 0, none⟩) y214.length co15) y223 := (by rw [hw, Ny223.out]; exact HP97.1); clear HP97; replace BK208 := mS (blk_grown (g := gb208) (o := .cells #[.slice A0_0 l0_0.length c0_0] 26 (0, 0)) (mK BK208.out) hg (Kd.R_ne HO_218000.out BK208.out (by decide))); replace BK209 := mS (blk_grown (g := gb209) (o := .cells #[.string a1_0, .string a1_1, .bool a1_2] 33 (0, 0)) (mK BK209.out) hg (Kd.R_ne HO_218000.out BK209.out (by decide))); replace BK210 := mS (blk_grown (g := gb210) (o := .cells #[.slice none 0 0] 26 (0, 0)) (mK BK210.out) hg (Kd.R_ne HO_218000.out BK210.out (by decide))); replace BK217 := mS (blk_grown (g := gb217) (o := .cells #[.slice (some ⟨go89, 0, none⟩) y214.length co15] 26 (0, 0)) (mK BK217.out) hg (Kd.R_ne HO_218000.out BK217.out (by decide))); replace HO_218000 := mS (hp_); replace HB := mS ((by rw [hw]; exact below_set (below_set (below_set (HB.out) GB89.out) GB89.out) GB89.out : Below w.heap.size w w98)); clear hg hw hp_; have hcz99_0 := mZ BK217.out 0; have hfz99_0 := blk_frozen BK217.out 0; have hnb100 := NB210_208.out; have hnc100 := NB208_210.out; have hcz101_0 := mZ BK210.out 0; have hfz101_0 := blk_frozen BK210.out 0))
               repeat (go_quiet (first | ((with_reducible refine gate_store (t := 33) (p := 71) rfl ?_); (try (rw [drewN_self wc]; generalize hq_ : World.drewN wc _ = wc; have n0_ := mS (Kd.R_at hq_ HO_218000.out); have n1_ := mS (blk_at hq_ BK208.out); have n2_ := mS (blk_at hq_ BK209.out); have n3_ := mS (blk_at hq_ BK210.out); have n4_ := mS (blk_at hq_ BK217.out); have n5_ := mS (below_at hq_ HB.out); clear hq_ HO_218000 BK208 BK209 BK210 BK217 HB; have HO_218000 := n0_; have BK208 := n1_; have BK209 := n2_; have BK210 := n3_; have BK217 := n4_; have HB := n5_; clear n0_ n1_ n2_ n3_ n4_ n5_; (try (have HX97 := mS (show Kd.R k35 35 wc w.heap.size (fun _ => True) (.slice (some ⟨go89, 0, none⟩) y214.length co15) y214 from (mR HO_218000.out)))); (try (obtain ⟨ce97, hcl97, hM97, hcc97, hfr97⟩ := Kd.R_elem HX97.out z35 (x9_2 : Int) (of_decide_eq_true (by first | (with_reducible assumption) | assumption)) (by have h_ : (x9_2 : Int) < ((y214.length : Int) : Int) := of_decide_eq_true (by first | (with_reducible assumption) | assumption); first | exact h_ | (have e_ := (Kd.R_reads' HO_218000.out).1; omega) | simpa using h_))); (try (obtain rfl := k35_openM hM97)); (try (have HP97 := Kd.R_seg HX97.out (x9_2 : Int) (of_decide_eq_true (by first | (with_reducible assumption) | assumption)) (by have h_ : (x9_2 : Int) < ((y214.length : Int) : Int) := of_decide_eq_true (by first | (with_reducible assumption) | assumption); first | exact h_ | (have e_ := (Kd.R_reads' HO_218000.out).1; omega) | simpa using h_) (seg := [.string a1_0, .string a1_1, .bool a1_2]) (j := 0) hcl97 hcc97 (show 3 ≤ 4 from by decide) (x' := (⟨(⟨a1_0, a1_1, a1_2⟩ : S33), (rd_T35 y214 x9_2).f1⟩ : S35)) (k35_mkM _ _ _ (⟨(⟨a1_0, a1_1, a1_2⟩ : S33), (rd_T35 y214 x9_2).f1⟩ : S35) ) (fun _ hk => hk))); (try (have hx97_0 := hcc97 0 _ rfl)); (try (try simp only [show (k35).sz = 4 from rfl, Nat.mul_one, Nat.add_zero] at hx97_0)); (try (have hf97_0 := hfr97 0)); (try (try simp only [show (k35).sz = 4 from rfl, Nat.mul_one, Nat.add_zero] at hf97_0)); (try (have hx97_1 := hcc97 1 _ rfl)); (try (try simp only [show (k35).sz = 4 from rfl, Nat.mul_one, Nat.add_zero] at hx97_1)); (try (have hf97_1 := hfr97 1)); (try (try simp only [show (k35).sz = 4 from rfl, Nat.mul_one, Nat.add_zero] at hf97_1)); (try (have hx97_2 := hcc97 2 _ rfl)); (try (try simp only [show (k35).sz = 4 from rfl, Nat.mul_one, Nat.add_zero] at hx97_2)); (try (have hf97_2 := hfr97 2)); (try (try simp only [show (k35).sz = 4 from rfl, Nat.mul_one, Nat.add_zero] at hf97_2)); (try (clear hcl97 hcc97 hfr97 hM97)))); refine store_event (t := 33) (p := 71) (v := ?vo_w98) (w1 := (((wc.setCell ⟨go89, (x9_2 : Int).toNat * 4, none⟩ (.string a1_0)).setCell ⟨go89, (x9_2 : Int).toNat * 4 + 1, none⟩ (.string a1_1)).setCell ⟨go89, (x9_2 : Int).toNat * 4 + 2, none⟩ (.bool a1_2))) ?hg ?ho ?hn ?hr ?_; (case ho => rfl); (case hg => rfl); (case hn => rfl); (case hr => first | (go_simp; done) | (go_simp; rfl)); intro w98 hw; have hg : wc.grownBy w98 (some go89) := (by rw [hw]; exact HP97.2); have hp_ : Kd.R k35 35 w98 w.heap.size (fun _ => True) (.slice (some ⟨go89, 0, none⟩) y214.length co15) y223 := (by rw [hw, Ny223.out]; exact HP97.1); clear HP97; replace BK208 := mS (blk_grown (g := gb208) (o := .cells #[.slice A0_0 l0_0.length c0_0] 26 (0, 0)) (mK BK208.out) hg (Kd.R_ne HO_218000.out BK208.out (by decide))); replace BK209 := mS (blk_grown (g := gb209) (o := .cells #[.string a1_0, .string a1_1, .bool a1_2] 33 (0, 0)) (mK BK209.out) hg (Kd.R_ne HO_218000.out BK209.out (by decide))); replace BK210 := mS (blk_grown (g := gb210) (o := .cells #[.slice none 0 0] 26 (0, 0)) (mK BK210.out) hg (Kd.R_ne HO_218000.out BK210.out (by decide))); replace BK217 := mS (blk_grown (g := gb217) (o := .cells #[.slice (some ⟨go89, 0, none⟩) y214.length co15] 26 (0, 0)) (mK BK217.out) hg (Kd.R_ne HO_218000.out BK217.out (by decide))); replace HO_218000 := mS (hp_); replace HB := mS ((by rw [hw]; exact below_set (below_set (below_set (HB.out) GB89.out) GB89.out) GB89.out : Below w.heap.size w w98)); clear hg hw hp_; have hcz99_0 := mZ BK217.out 0; have hfz99_0 := blk_frozen BK217.out 0; have hnb100 := NB210_208.out; have hnc100 := NB208_210.out; have hcz101_0 := mZ BK210.out 0; have hfz101_0 := blk_frozen BK210.out 0)); try go_wp2_with (first | ((with_reducible refine gate_store (t := 33) (p := 71) rfl ?_); (try (rw [drewN_self wc]; generalize hq_ : World.drewN wc _ = wc; have n0_ := mS (Kd.R_at hq_ HO_218000.out); have n1_ := mS (blk_at hq_ BK208.out); have n2_ := mS (blk_at hq_ BK209.out); have n3_ := mS (blk_at hq_ BK210.out); have n4_ := mS (blk_at hq_ BK217.out); have n5_ := mS (below_at hq_ HB.out); clear hq_ HO_218000 BK208 BK209 BK210 BK217 HB; have HO_218000 := n0_; have BK208 := n1_; have BK209 := n2_; have BK210 := n3_; have BK217 := n4_; have HB := n5_; clear n0_ n1_ n2_ n3_ n4_ n5_; (try (have HX97 := mS (show Kd.R k35 35 wc w.heap.size (fun _ => True) (.slice (some ⟨go89, 0, none⟩) y214.length co15) y214 from (mR HO_218000.out)))); (try (obtain ⟨ce97, hcl97, hM97, hcc97, hfr97⟩ := Kd.R_elem HX97.out z35 (x9_2 : Int) (of_decide_eq_true (by first | (with_reducible assumption) | assumption)) (by have h_ : (x9_2 : Int) < ((y214.length : Int) : Int) := of_decide_eq_true (by first | (with_reducible assumption) | assumption); first | exact h_ | (have e_ := (Kd.R_reads' HO_218000.out).1; omega) | simpa using h_))); (try (obtain rfl := k35_openM hM97)); (try (have HP97 := Kd.R_seg HX97.out (x9_2 : Int) (of_decide_eq_true (by first | (with_reducible assumption) | assumption)) (by have h_ : (x9_2 : Int) < ((y214.length : Int) : Int) := of_decide_eq_true (by first | (with_reducible assumption) | assumption); first | exact h_ | (have e_ := (Kd.R_reads' HO_218000.out).1; omega) | simpa using h_) (seg := [.string a1_0, .string a1_1, .bool a1_2]) (j := 0) hcl97 hcc97 (show 3 ≤ 4 from by decide) (x' := (⟨(⟨a1_0, a1_1, a1_2⟩ : S33), (rd_T35 y214 x9_2).f1⟩ : S35)) (k35_mkM _ _ _ (⟨(⟨a1_0, a1_1, a1_2⟩ : S33), (rd_T35 y214 x9_2).f1⟩ : S35) ) (fun _ hk => hk))); (try (have hx97_0 := hcc97 0 _ rfl)); (try (try simp only [show (k35).sz = 4 from rfl, Nat.mul_one, Nat.add_zero] at hx97_0)); (try (have hf97_0 := hfr97 0)); (try (try simp only [show (k35).sz = 4 from rfl, Nat.mul_one, Nat.add_zero] at hf97_0)); (try (have hx97_1 := hcc97 1 _ rfl)); (try (try simp only [show (k35).sz = 4 from rfl, Nat.mul_one, Nat.add_zero] at hx97_1)); (try (have hf97_1 := hfr97 1)); (try (try simp only [show (k35).sz = 4 from rfl, Nat.mul_one, Nat.add_zero] at hf97_1)); (try (have hx97_2 := hcc97 2 _ rfl)); (try (try simp only [show (k35).sz = 4 from rfl, Nat.mul_one, Nat.add_zero] at hx97_2)); (try (have hf97_2 := hfr97 2)); (try (try simp only [show (k35).sz = 4 from rfl, Nat.mul_one, Nat.add_zero] at hf97_2)); (try (clear hcl97 hcc97 hfr97 hM97)))); refine store_event (t := 33) (p := 71) (v := ?vo_w98) (w1 := (((wc.setCell ⟨go89, (x9_2 : Int).toNat * 4, none⟩ (.string a1_0)).setCell ⟨go89, (x9_2 : Int).toNat * 4 + 1, none⟩ (.string a1_1)).setCell ⟨go89, (x9_2 : Int).toNat * 4 + 2, none⟩ (.bool a1_2))) ?hg ?ho ?hn ?hr ?_; (case ho => rfl); (case hg => rfl); (case hn => rfl); (case hr => first | (go_simp; done) | (go_simp; rfl)); intro w98 hw; have hg : wc.grownBy w98 (some go89) := (by rw [hw]; exact HP97.2); have hp_ : Kd.R k35 35 w98 w.heap.size (fun _ => True) (.slice (some ⟨go89, 0, none⟩) y214.length co15) y223 := (by rw [hw, Ny223.out]; exact HP97.1); clear HP97; replace BK208 := mS (blk_grown (g := gb208) (o := .cells #[.slice A0_0 l0_0.length c0_0] 26 (0, 0)) (mK BK208.out) hg (Kd.R_ne HO_218000.out BK208.out (by decide))); replace BK209 := mS (blk_grown (g := gb209) (o := .cells #[.string a1_0, .string a1_1, .bool a1_2] 33 (0, 0)) (mK BK209.out) hg (Kd.R_ne HO_218000.out BK209.out (by decide))); replace BK210 := mS (blk_grown (g := gb210) (o := .cells #[.slice none 0 0] 26 (0, 0)) (mK BK210.out) hg (Kd.R_ne HO_218000.out BK210.out (by decide))); replace BK217 := mS (blk_grown (g := gb217) (o := .cells #[.slice (some ⟨go89, 0, none⟩) y214.length co15] 26 (0, 0)) (mK BK217.out) hg (Kd.R_ne HO_218000.out BK217.out (by decide))); replace HO_218000 := mS (hp_); replace HB := mS ((by rw [hw]; exact below_set (below_set (below_set (HB.out) GB89.out) GB89.out) GB89.out : Below w.heap.size w w98)); clear hg hw hp_; have hcz99_0 := mZ BK217.out 0; have hfz99_0 := blk_frozen BK217.out 0; have hnb100 := NB210_208.out; have hnc100 := NB208_210.out; have hcz101_0 := mZ BK210.out 0; have hfz101_0 := blk_frozen BK210.out 0)))
               refine bodyPost_ret (results_ct rfl _ _ gb210 26 #[.slice (some ⟨go89, 0, none⟩) y214.length co15] (0, 0) _ rfl (by (with_reducible repeat (first | refine blk_drewN ?_ _ | refine blk_drew ?_ | refine blk_alloc ?_ _)); refine blk_put (cs := #[.slice none 0 0]) ?_ 0 _ rfl; (with_reducible repeat (first | refine blk_drewN ?_ _ | refine blk_drew ?_ | refine blk_alloc ?_ _)); exact BK210.out) Try.underlying26 rfl (by kernel_rfl)) rfl ?_
               exact ⟨_, by first | rfl | (simp [errW_none, errW_some] <;> rfl) | (simp [*, errW_none, errW_some] <;> rfl), by (with_reducible repeat (first | apply Kd.R_alloc | apply Kd.R_drewN | apply Kd.R_drew)); exact Kd.R_mono (Kd.R_far (p := ⟨gb210, 0, none⟩) (Kd.R_types HO_218000.out BK210.out (by decide)) (fun _ hk => hk.2) (.slice (some ⟨go89, 0, none⟩) y214.length co15)) (fun _ hk => trivial), (mH4 HB.out GE208.out GE209.out GE210.out GE217.out)⟩
              ·rw [if_neg c88] at H
               exact absurd H (by simp)
             ·rw [if_neg c87] at H
              exact absurd H (by simp)
            ·replace c86 := Bool.eq_false_iff.mpr c86
             subst c86
             have H1 : (if (y214.length : Int) = 60 then (some (y214, false)) else ((some (([] : List (S35)) : List (S35))).bind fun y224 => (if 0 ≤ x9_2 then (if x9_2 ≤ (y214.length : Int) then ((some (y214.take (x9_2 : Int).toNat : List (S35))).bind fun y227 => (if y224.length + y227.length < 2932031007402 then ((some (y224 ++ y227 : List (S35))).bind fun y231 => (if y231.length < 2932031007402 then ((some (y231 ++ [(⟨(⟨a1_0, a1_1, a1_2⟩ : S33), a2⟩ : S35)] : List (S35))).bind fun y234 => ((some (y214.drop (x9_2 : Int).toNat : List (S35))).bind fun y237 => (if y234.length + y237.length < 2932031007402 then (some ((y234 ++ y237), true)) else (none)))) else (none))) else (none))) else (none)) else (none)))) = some (r1, r2) := by rw [if_neg (show ¬ (false = true) by decide)] at H; exact H
             clear H
             have H := H1
             clear H1
             by_cases c102 : (y214.length : Int) = 60
             ·rw [if_pos c102] at H
              have c102b0 : ((y214.length : Int) == 60) = true := beq_iff_eq.mpr c102
              have c102b1 : ((y214.length : Int) != 60) = false := bne_eq_false_iff_eq.mpr c102
              clear c102
              simp only [Option.some.injEq, Prod.mk.injEq] at H
              obtain ⟨rfl, rfl⟩ := H
              have hnb103 := NB217_208.out
              have hnc103 := NB208_217.out
              have hnb104 := NB217_209.out
              have hnc104 := NB209_217.out
              have hnb105 := NB217_210.out
              have hnc105 := NB210_217.out
              have hcz106_0 := mZ BK217.out 0
              have hfz106_0 := blk_frozen BK217.out 0
              have hnb107 := NB210_208.out
              have hnc107 := NB208_210.out
              have hnb108 := NB210_209.out
              have hnc108 := NB209_210.out
              have hcz109_0 := mZ BK210.out 0
              have hfz109_0 := blk_frozen BK210.out 0
              go_wp2
              repeat (go_quiet (fail); try go_wp2)
              refine bodyPost_ret (results_ct rfl _ _ gb210 26 #[.slice Ao15 y214.length co15] (0, 0) _ rfl (by (with_reducible repeat (first | refine blk_drewN ?_ _ | refine blk_drew ?_ | refine blk_alloc ?_ _)); refine blk_put (cs := #[.slice none 0 0]) ?_ 0 _ rfl; (with_reducible repeat (first | refine blk_drewN ?_ _ | refine blk_drew ?_ | refine blk_alloc ?_ _)); exact BK210.out) Try.underlying26 rfl (by kernel_rfl)) rfl ?_
              exact ⟨_, by first | rfl | (simp [errW_none, errW_some] <;> rfl) | (simp [*, errW_none, errW_some] <;> rfl), by (with_reducible repeat (first | apply Kd.R_alloc | apply Kd.R_drewN | apply Kd.R_drew)); exact Kd.R_mono (Kd.R_far (p := ⟨gb210, 0, none⟩) (Kd.R_types HO_218000.out BK210.out (by decide)) (fun _ hk => hk.2) (.slice Ao15 y214.length co15)) (fun _ hk => trivial), (mH4 HB.out GE208.out GE209.out GE210.out GE217.out)⟩
             ·rw [if_neg c102] at H
              have c102b0 : ((y214.length : Int) == 60) = false := beq_eq_false_iff_ne.mpr c102
              have c102b1 : ((y214.length : Int) != 60) = true := bne_iff_ne.mpr c102
              obtain ⟨y224, hy224⟩ : ∃ y_ : List (S35), y_ = (([] : List (S35))) := ⟨_, rfl⟩
              replace H : (if 0 ≤ x9_2 then (if x9_2 ≤ (y214.length : Int) then ((some (y214.take (x9_2 : Int).toNat : List (S35))).bind fun y227 => (if y224.length + y227.length < 2932031007402 then ((some (y224 ++ y227 : List (S35))).bind fun y231 => (if y231.length < 2932031007402 then ((some (y231 ++ [(⟨(⟨a1_0, a1_1, a1_2⟩ : S33), a2⟩ : S35)] : List (S35))).bind fun y234 => ((some (y214.drop (x9_2 : Int).toNat : List (S35))).bind fun y237 => (if y234.length + y237.length < 2932031007402 then (some ((y234 ++ y237), true)) else (none)))) else (none))) else (none))) else (none)) else (none)) = some (r1, r2) := by first | (rw [hy224]; with_reducible exact H) | (have H2_ := (Option.bind_some _ _).symm.trans H; rw [hy224]; with_reducible exact H2_) | (have H2_ := (Option.bind_some _ _).symm.trans H; with_reducible exact H2_) | with_reducible exact H | (rw [hy224]; exact H) | exact H
              have Ny224 := mS hy224
              clear hy224
              by_cases c110 : 0 ≤ x9_2
              ·rw [if_pos c110] at H
               have c110b0 := eq_true c110
               have c110b1 : decide (0 ≤ x9_2) = true := decide_eq_true c110
               clear c110
               by_cases c111 : x9_2 ≤ (y214.length : Int)
               ·rw [if_pos c111] at H
                have c111b0 := eq_true c111
                have c111b1 : decide (x9_2 ≤ (y214.length : Int)) = true := decide_eq_true c111
                clear c111
                obtain ⟨y227, hy227⟩ : ∃ y_ : List (S35), y_ = (y214.take (x9_2 : Int).toNat) := ⟨_, rfl⟩
                replace H : (if y224.length + y227.length < 2932031007402 then ((some (y224 ++ y227 : List (S35))).bind fun y231 => (if y231.length < 2932031007402 then ((some (y231 ++ [(⟨(⟨a1_0, a1_1, a1_2⟩ : S33), a2⟩ : S35)] : List (S35))).bind fun y234 => ((some (y214.drop (x9_2 : Int).toNat : List (S35))).bind fun y237 => (if y234.length + y237.length < 2932031007402 then (some ((y234 ++ y237), true)) else (none)))) else (none))) else (none)) = some (r1, r2) := by first | (rw [hy227]; with_reducible exact H) | (have H2_ := (Option.bind_some _ _).symm.trans H; rw [hy227]; with_reducible exact H2_) | (have H2_ := (Option.bind_some _ _).symm.trans H; with_reducible exact H2_) | with_reducible exact H | (rw [hy227]; exact H) | exact H
                have Ny227 := mS hy227
                clear hy227
                by_cases c112 : y224.length + y227.length < 2932031007402
                ·rw [if_pos c112] at H
                 have LMc112 := mS c112
                 clear c112
                 obtain ⟨y231, hy231⟩ : ∃ y_ : List (S35), y_ = (y224 ++ y227) := ⟨_, rfl⟩
                 replace H : (if y231.length < 2932031007402 then ((some (y231 ++ [(⟨(⟨a1_0, a1_1, a1_2⟩ : S33), a2⟩ : S35)] : List (S35))).bind fun y234 => ((some (y214.drop (x9_2 : Int).toNat : List (S35))).bind fun y237 => (if y234.length + y237.length < 2932031007402 then (some ((y234 ++ y237), true)) else (none)))) else (none)) = some (r1, r2) := by first | (rw [hy231]; with_reducible exact H) | (have H2_ := (Option.bind_some _ _).symm.trans H; rw [hy231]; with_reducible exact H2_) | (have H2_ := (Option.bind_some _ _).symm.trans H; with_reducible exact H2_) | with_reducible exact H | (rw [hy231]; exact H) | exact H
                 have Ny231 := mS hy231
                 clear hy231
                 by_cases c113 : y231.length < 2932031007402
                 ·rw [if_pos c113] at H
                  have LMc113 := mS c113
                  clear c113
                  obtain ⟨y234, hy234⟩ : ∃ y_ : List (S35), y_ = (y231 ++ [(⟨(⟨a1_0, a1_1, a1_2⟩ : S33), a2⟩ : S35)]) := ⟨_, rfl⟩
                  replace H : ((some (y214.drop (x9_2 : Int).toNat : List (S35))).bind fun y237 => (if y234.length + y237.length < 2932031007402 then (some ((y234 ++ y237), true)) else (none))) = some (r1, r2) := by first | (rw [hy234]; with_reducible exact H) | (have H2_ := (Option.bind_some _ _).symm.trans H; rw [hy234]; with_reducible exact H2_) | (have H2_ := (Option.bind_some _ _).symm.trans H; with_reducible exact H2_) | with_reducible exact H | (rw [hy234]; exact H) | exact H
                  have Ny234 := mS hy234
                  clear hy234
                  have c114b0 := eq_true (of_decide_eq_true (by first | (with_reducible assumption) | assumption) : 0 ≤ x9_2)
                  have c115b0 := eq_true (of_decide_eq_true (by first | (with_reducible assumption) | assumption) : x9_2 ≤ (y214.length : Int))
                  obtain ⟨y237, hy237⟩ : ∃ y_ : List (S35), y_ = (y214.drop (x9_2 : Int).toNat) := ⟨_, rfl⟩
                  replace H : (if y234.length + y237.length < 2932031007402 then (some ((y234 ++ y237), true)) else (none)) = some (r1, r2) := by first | (rw [hy237]; with_reducible exact H) | (have H2_ := (Option.bind_some _ _).symm.trans H; rw [hy237]; with_reducible exact H2_) | (have H2_ := (Option.bind_some _ _).symm.trans H; with_reducible exact H2_) | with_reducible exact H | (rw [hy237]; exact H) | exact H
                  have Ny237 := mS hy237
                  clear hy237
                  by_cases c116 : y234.length + y237.length < 2932031007402
                  ·rw [if_pos c116] at H
                   have LMc116 := mS c116
                   clear c116
                   obtain ⟨y241, hy241⟩ : ∃ y_ : List (S35), y_ = (y234 ++ y237) := ⟨_, rfl⟩
                   replace H : (some (y241, true)) = some (r1, r2) := by first | (rw [hy241]; with_reducible exact H) | (have H2_ := (Option.bind_some _ _).symm.trans H; rw [hy241]; with_reducible exact H2_) | (have H2_ := (Option.bind_some _ _).symm.trans H; with_reducible exact H2_) | with_reducible exact H | (rw [hy241]; exact H) | exact H
                   have Ny241 := mS hy241
                   clear hy241
                   simp only [Option.some.injEq, Prod.mk.injEq] at H
                   obtain ⟨rfl, rfl⟩ := H
                   have hnb117 := NB217_208.out
                   have hnc117 := NB208_217.out
                   have hnb118 := NB217_209.out
                   have hnc118 := NB209_217.out
                   have hnb119 := NB217_210.out
                   have hnc119 := NB210_217.out
                   have hcz120_0 := mZ BK217.out 0
                   have hfz120_0 := blk_frozen BK217.out 0
                   go_wp2_with (first | ((with_reducible refine gate_dst (N := 78) rfl ?_); refine Kd.R_lit k35 _ 35 ?hg (N := 78) ?hd (xs := ([] : List (S35))) (inner := []) (ok := fun _ => True) (okp := fun _ => True) ?hr ?hp (fun _ hk => hk) trivial (Below.refl _ _) (Nat.le_refl _) (by simp) ?_; (case hd => rfl); (case hg => rfl); (case hr => first | (go_simp; done) | (go_simp; rfl)); (case hp => exact (Reps.none _ _)); intro v225 w121 ho122 hb hg_ hnew_; clear hg_ hnew_; (first | rw [← Ny224.out] at ho122 | (simp only [Int.reduceToNat] at ho122; rw [← Ny224.out] at ho122)); have HO226 := mS (Kd.R_lower (Kd.R_new' ho122 (Kd.R_lt (mR HO_218000.out))) (below_size (mH4 HB.out GE208.out GE209.out GE210.out GE217.out))); replace HO_218000 := mS (Kd.R_elder' (mR HO_218000.out) (Kd.R_base ho122) hb); replace BK208 := mB BK208 hb; replace BK209 := mB BK209 hb; replace BK210 := mB BK210 hb; replace BK217 := mB BK217 hb; replace HB := mS (below_step (mH4 HB.out GE208.out GE209.out GE210.out GE217.out) hb); clear hb ho122; have hcz123_0 := mZ BK217.out 0; have hfz123_0 := blk_frozen BK217.out 0; have q124 : (x9_2 : Int) ≤ ((y214.length : Int) : Int) := of_decide_eq_true (by first | (with_reducible assumption) | assumption); obtain ⟨i0124, hi0124, _, hsz124, _⟩ := info_parts info35; have hroom124 : y214.length ≤ co15 := (Kd.R_reads' HO_218000.out).2.1; have hC124 : Kd.C k35 _ Ao15 y214.length y214 := (Kd.R_reads' HO_218000.out).2.2; have hcut124 := cut_to (P := Try.prog) 24 35 .i64 Try.underlying24 hi0124 Ao15 y214.length co15 x9_2 (of_decide_eq_true (by first | (with_reducible assumption) | assumption)) q124 hroom124; have hr124 := Kd.C_take (m := (x9_2 : Int).toNat) hC124 (by omega); have hy124 : y227.length = (x9_2 : Int).toNat := (by rw [Ny227.out, List.length_take]; omega); rw [← Ny227.out] at hr124; rw [← hy124] at hcut124; have HR230 := mS hr124; have HC230 := mS (show y227.length ≤ co15 from by omega); clear hr124 hC124 hroom124 hi0124 hsz124; have KY124 := mS hy124; clear hy124; have KL124 := mS (show (x9_2 : Int).toNat ≤ y214.length from by omega); replace q124 := eq_true q124) | ((with_reducible refine gate_builtin (b := .append) (xs := #[.tmp 78, .tmp 82]) rfl ?_); at_builtin; refine Kd.R_append_rows k35 (w0 := w) w.heap.size rfl (.tmp 78) (.tmp 82) 24 35 (.agg #[(.string ⟨#[]⟩), (.string ⟨#[]⟩), (.bool false), (.int .i64 0)]) 48 rfl Try.underlying24 info35 rfl (by decide) (by omega) v225 y224 y227 _ _ _ (fun k_ => some k_ ≠ (.slice Ao15 y214.length co15 : Value).ownBlock) (fun _ => False) rfl rfl ?aO ?aR (fun _ _ h => h) (fun _ h => h.elim) ?aF ?aB ?aS ?aL ?_; (case aR => repeat (first | exact (mC HR230.out) | (with_reducible refine Kd.C_alloc ?_ _) | (with_reducible refine Kd.C_drewN ?_ _) | (with_reducible refine Kd.C_drew ?_))); (case aB => exact (mH4 HB.out GE208.out GE209.out GE210.out GE217.out)); (case aF => exact (fun k_ hk => Kd.fresh' (Kd.R_lt (mR HO_218000.out)) k_ hk)); (case aO => exact (by (with_reducible repeat (first | apply Kd.R_alloc | apply Kd.R_drewN | apply Kd.R_drew)); exact Kd.R_mono HO226.out (fun _ hk => hk.2))); (case aS => exact (below_size (mH4 HB.out GE208.out GE209.out GE210.out GE217.out))); (case aL => have := LMc112.out; omega); intro v232 w125 ho hb hg hat; rw [← Ny231.out] at ho; replace BK208 := mS (blk_grown (g := gb208) (o := .cells #[.slice A0_0 l0_0.length c0_0] 26 (0, 0)) (mK BK208.out) hg (Kd.R_ne HO226.out BK208.out (by decide))); replace BK209 := mS (blk_grown (g := gb209) (o := .cells #[.string a1_0, .string a1_1, .bool a1_2] 33 (0, 0)) (mK BK209.out) hg (Kd.R_ne HO226.out BK209.out (by decide))); replace BK210 := mS (blk_grown (g := gb210) (o := .cells #[.slice none 0 0] 26 (0, 0)) (mK BK210.out) hg (Kd.R_ne HO226.out BK210.out (by decide))); replace BK217 := mS (blk_grown (g := gb217) (o := .cells #[.slice Ao15 y214.length co15] 26 (0, 0)) (mK BK217.out) hg (Kd.R_ne HO226.out BK217.out (by decide))); replace HB := mS (hb); replace HR230 := mS ((show Kd.C k35 w125 Ao15 y227.length y227 from by rw [Ny227.out]; exact Kd.C_take (m := (x9_2 : Int).toNat) ((Kd.R_reads' (Kd.R_after (ok := (fun _ => True)) (mR HO_218000.out) hg hat)).2.2) KL124.out)); replace HO_218000 := mS (Kd.R_after (ok := (fun _ => True)) (mR HO_218000.out) hg hat); have HO233 := mS (ho); clear HO226; clear ho hb hg hat; have hnb126 := NB209_208.out; have hnc126 := NB208_209.out; have hnb127 := NB209_210.out; have hnc127 := NB210_209.out; have hcz128_0 := mZ BK209.out 0; have hcz128_1 := mZ BK209.out 1; have hcz128_2 := mZ BK209.out 2; have hfz128_0 := blk_frozen BK209.out 0; have hfz128_1 := blk_frozen BK209.out 1; have hfz128_2 := blk_frozen BK209.out 2) | ((with_reducible refine gate_builtin (b := .append) (xs := #[.tmp 84, .tmp 88]) rfl ?_); at_builtin; refine Kd.R_append k35 (w0 := w) w.heap.size rfl (.tmp 84) (.tmp 88) 24 35 (.agg #[(.string ⟨#[]⟩), (.string ⟨#[]⟩), (.bool false), (.int .i64 0)]) 48 rfl Try.underlying24 info35 rfl (by decide) (by omega) v232 y231 (⟨(⟨a1_0, a1_1, a1_2⟩ : S33), a2⟩ : S35) [.string a1_0, .string a1_1, .bool a1_2, .int .i64 a2] (fun k_ => some k_ ≠ (.slice Ao15 y214.length co15 : Value).ownBlock) (fun _ => False) rfl rfl ?aP (fun _ hk => hk.elim) ?aF ?aO ?aB ?aS ?aL ?_; (case aP => exact k35_mkM _ _ _ (⟨(⟨a1_0, a1_1, a1_2⟩ : S33), a2⟩ : S35)); (case aB => exact (mH4 HB.out GE208.out GE209.out GE210.out GE217.out)); (case aF => exact (fun k_ hk => Kd.fresh' (Kd.R_lt (mR HO_218000.out)) k_ hk)); (case aO => exact (mR HO233.out)); (case aS => exact (below_size (mH4 HB.out GE208.out GE209.out GE210.out GE217.out))); (case aL => have := LMc113.out; omega); intro v235 w129 ho hb hg hat; rw [← Ny234.out] at ho; replace BK208 := mS (blk_grown (g := gb208) (o := .cells #[.slice A0_0 l0_0.length c0_0] 26 (0, 0)) (mK BK208.out) hg (Kd.R_ne HO233.out BK208.out (by decide))); replace BK209 := mS (blk_grown (g := gb209) (o := .cells #[.string a1_0, .string a1_1, .bool a1_2] 33 (0, 0)) (mK BK209.out) hg (Kd.R_ne HO233.out BK209.out (by decide))); replace BK210 := mS (blk_grown (g := gb210) (o := .cells #[.slice none 0 0] 26 (0, 0)) (mK BK210.out) hg (Kd.R_ne HO233.out BK210.out (by decide))); replace BK217 := mS (blk_grown (g := gb217) (o := .cells #[.slice Ao15 y214.length co15] 26 (0, 0)) (mK BK217.out) hg (Kd.R_ne HO233.out BK217.out (by decide))); replace HB := mS (hb); replace HR230 := mS ((show Kd.C k35 w129 Ao15 y227.length y227 from by rw [Ny227.out]; exact Kd.C_take (m := (x9_2 : Int).toNat) ((Kd.R_reads' (Kd.R_after (ok := (fun _ => True)) (mR HO_218000.out) hg hat)).2.2) KL124.out)); replace HO_218000 := mS (Kd.R_after (ok := (fun _ => True)) (mR HO_218000.out) hg hat); have HO236 := mS (ho); clear HO233; clear ho hb hg hat; have hcz130_0 := mZ BK217.out 0; have hfz130_0 := blk_frozen BK217.out 0; have q131 : (x9_2 : Int) ≤ ((y214.length : Int) : Int) := of_decide_eq_true (by first | (with_reducible assumption) | assumption); obtain ⟨i0131, hi0131, _, hsz131, _⟩ := info_parts info35; have hroom131 : y214.length ≤ co15 := (Kd.R_reads' HO_218000.out).2.1; have hC131 : Kd.C k35 _ Ao15 y214.length y214 := (Kd.R_reads' HO_218000.out).2.2; have q0131 : (0 : Int) ≤ (x9_2 : Int) := of_decide_eq_true (by first | (with_reducible assumption) | assumption); have hcut131 := cut_from (P := Try.prog) 24 35 .i64 Try.underlying24 hi0131 4 hsz131 Ao15 y214.length co15 x9_2 q0131 q131; have hr131 := Kd.C_drop (m := (x9_2 : Int).toNat) (c := co15) hC131 (by omega) hroom131; obtain ⟨A131, hA131⟩ : ∃ A1, A1 = (if co15 = (x9_2 : Int).toNat then Ao15 else (Ao15 : Option Addr).map (·.add ((x9_2 : Int).toNat * 4))) := ⟨_, rfl⟩; obtain ⟨c131, hc131⟩ : ∃ c1, c1 = co15 - (x9_2 : Int).toNat := ⟨_, rfl⟩; have hy131 : y237.length = y214.length - (x9_2 : Int).toNat := (by rw [Ny237.out, List.length_drop] <;> omega); rw [show (y214).drop (x9_2 : Int).toNat = y237 from Ny237.out.symm] at hr131; replace hr131 : Kd.C k35 _ A131 y237.length y237 := (by rw [hA131]; exact hr131); rw [← hy131, ← hA131, ← hc131] at hcut131; have HR240 := mS hr131; have HC240 := mS (show y237.length ≤ c131 from by rw [hy131, hc131]; exact Nat.sub_le_sub_right hroom131 _); clear hr131 hC131 hroom131 hi0131 hsz131 hc131; have KY131 := mS hy131; have KA131 := mS hA131; clear hy131 hA131; have KL131 := mS (show (x9_2 : Int).toNat ≤ y214.length from by omega); replace q131 := eq_true q131) | ((with_reducible refine gate_builtin (b := .append) (xs := #[.tmp 90, .tmp 94]) rfl ?_); at_builtin; refine Kd.R_append_rows k35 (w0 := w) w.heap.size rfl (.tmp 90) (.tmp 94) 24 35 (.agg #[(.string ⟨#[]⟩), (.string ⟨#[]⟩), (.bool false), (.int .i64 0)]) 48 rfl Try.underlying24 info35 rfl (by decide) (by omega) v235 y234 y237 _ _ _ (fun k_ => some k_ ≠ (.slice Ao15 y214.length co15 : Value).ownBlock) (fun _ => False) rfl rfl ?aO ?aR (fun _ _ h => h) (fun _ h => h.elim) ?aF ?aB ?aS ?aL ?_; (case aR => repeat (first | exact (mC HR240.out) | (with_reducible refine Kd.C_alloc ?_ _) | (with_reducible refine Kd.C_drewN ?_ _) | (with_reducible refine Kd.C_drew ?_))); (case aB => exact (mH4 HB.out GE208.out GE209.out GE210.out GE217.out)); (case aF => exact (fun k_ hk => Kd.fresh' (Kd.R_lt (mR HO_218000.out)) k_ hk)); (case aO => exact (mR HO236.out)); (case aS => exact (below_size (mH4 HB.out GE208.out GE209.out GE210.out GE217.out))); (case aL => have := LMc116.out; omega); intro v242 w132 ho hb hg hat; rw [← Ny241.out] at ho; replace BK208 := mS (blk_grown (g := gb208) (o := .cells #[.slice A0_0 l0_0.length c0_0] 26 (0, 0)) (mK BK208.out) hg (Kd.R_ne HO236.out BK208.out (by decide))); replace BK209 := mS (blk_grown (g := gb209) (o := .cells #[.string a1_0, .string a1_1, .bool a1_2] 33 (0, 0)) (mK BK209.out) hg (Kd.R_ne HO236.out BK209.out (by decide))); replace BK210 := mS (blk_grown (g := gb210) (o := .cells #[.slice none 0 0] 26 (0, 0)) (mK BK210.out) hg (Kd.R_ne HO236.out BK210.out (by decide))); replace BK217 := mS (blk_grown (g := gb217) (o := .cells #[.slice Ao15 y214.length co15] 26 (0, 0)) (mK BK217.out) hg (Kd.R_ne HO236.out BK217.out (by decide))); replace HB := mS (hb); replace HR230 := mS ((show Kd.C k35 w132 Ao15 y227.length y227 from by rw [Ny227.out]; exact Kd.C_take (m := (x9_2 : Int).toNat) ((Kd.R_reads' (Kd.R_after (ok := (fun _ => True)) (mR HO_218000.out) hg hat)).2.2) KL124.out)); replace HR240 := mS ((show Kd.C k35 w132 A131 y237.length y237 from by rw [Ny237.out, KA131.out]; exact Kd.C_drop (m := (x9_2 : Int).toNat) (c := co15) ((Kd.R_reads' (Kd.R_after (ok := (fun _ => True)) (mR HO_218000.out) hg hat)).2.2) KL131.out ((Kd.R_reads' (Kd.R_after (ok := (fun _ => True)) (mR HO_218000.out) hg hat)).2.1))); replace HO_218000 := mS (Kd.R_after (ok := (fun _ => True)) (mR HO_218000.out) hg hat); have HO243 := mS (ho); clear HO236; clear ho hb hg hat; obtain ⟨Ao133, co133, eo133⟩ := Kd.R_slice HO243.out; subst eo133; have hnb134 := NB210_208.out; have hnc134 := NB208_210.out; have hcz135_0 := mZ BK210.out 0; have hfz135_0 := blk_frozen BK210.out 0))
                   repeat (go_quiet (first | ((with_reducible refine gate_dst (N := 78) rfl ?_); refine Kd.R_lit k35 _ 35 ?hg (N := 78) ?hd (xs := ([] : List (S35))) (inner := []) (ok := fun _ => True) (okp := fun _ => True) ?hr ?hp (fun _ hk => hk) trivial (Below.refl _ _) (Nat.le_refl _) (by simp) ?_; (case hd => rfl); (case hg => rfl); (case hr => first | (go_simp; done) | (go_simp; rfl)); (case hp => exact (Reps.none _ _)); intro v225 w121 ho122 hb hg_ hnew_; clear hg_ hnew_; (first | rw [← Ny224.out] at ho122 | (simp only [Int.reduceToNat] at ho122; rw [← Ny224.out] at ho122)); have HO226 := mS (Kd.R_lower (Kd.R_new' ho122 (Kd.R_lt (mR HO_218000.out))) (below_size (mH4 HB.out GE208.out GE209.out GE210.out GE217.out))); replace HO_218000 := mS (Kd.R_elder' (mR HO_218000.out) (Kd.R_base ho122) hb); replace BK208 := mB BK208 hb; replace BK209 := mB BK209 hb; replace BK210 := mB BK210 hb; replace BK217 := mB BK217 hb; replace HB := mS (below_step (mH4 HB.out GE208.out GE209.out GE210.out GE217.out) hb); clear hb ho122; have hcz123_0 := mZ BK217.out 0; have hfz123_0 := blk_frozen BK217.out 0; have q124 : (x9_2 : Int) ≤ ((y214.length : Int) : Int) := of_decide_eq_true (by first | (with_reducible assumption) | assumption); obtain ⟨i0124, hi0124, _, hsz124, _⟩ := info_parts info35; have hroom124 : y214.length ≤ co15 := (Kd.R_reads' HO_218000.out).2.1; have hC124 : Kd.C k35 _ Ao15 y214.length y214 := (Kd.R_reads' HO_218000.out).2.2; have hcut124 := cut_to (P := Try.prog) 24 35 .i64 Try.underlying24 hi0124 Ao15 y214.length co15 x9_2 (of_decide_eq_true (by first | (with_reducible assumption) | assumption)) q124 hroom124; have hr124 := Kd.C_take (m := (x9_2 : Int).toNat) hC124 (by omega); have hy124 : y227.length = (x9_2 : Int).toNat := (by rw [Ny227.out, List.length_take]; omega); rw [← Ny227.out] at hr124; rw [← hy124] at hcut124; have HR230 := mS hr124; have HC230 := mS (show y227.length ≤ co15 from by omega); clear hr124 hC124 hroom124 hi0124 hsz124; have KY124 := mS hy124; clear hy124; have KL124 := mS (show (x9_2 : Int).toNat ≤ y214.length from by omega); replace q124 := eq_true q124) | ((with_reducible refine gate_builtin (b := .append) (xs := #[.tmp 78, .tmp 82]) rfl ?_); at_builtin; refine Kd.R_append_rows k35 (w0 := w) w.heap.size rfl (.tmp 78) (.tmp 82) 24 35 (.agg #[(.string ⟨#[]⟩), (.string ⟨#[]⟩), (.bool false), (.int .i64 0)]) 48 rfl Try.underlying24 info35 rfl (by decide) (by omega) v225 y224 y227 _ _ _ (fun k_ => some k_ ≠ (.slice Ao15 y214.length co15 : Value).ownBlock) (fun _ => False) rfl rfl ?aO ?aR (fun _ _ h => h) (fun _ h => h.elim) ?aF ?aB ?aS ?aL ?_; (case aR => repeat (first | exact (mC HR230.out) | (with_reducible refine Kd.C_alloc ?_ _) | (with_reducible refine Kd.C_drewN ?_ _) | (with_reducible refine Kd.C_drew ?_))); (case aB => exact (mH4 HB.out GE208.out GE209.out GE210.out GE217.out)); (case aF => exact (fun k_ hk => Kd.fresh' (Kd.R_lt (mR HO_218000.out)) k_ hk)); (case aO => exact (by (with_reducible repeat (first | apply Kd.R_alloc | apply Kd.R_drewN | apply Kd.R_drew)); exact Kd.R_mono HO226.out (fun _ hk => hk.2))); (case aS => exact (below_size (mH4 HB.out GE208.out GE209.out GE210.out GE217.out))); (case aL => have := LMc112.out; omega); intro v232 w125 ho hb hg hat; rw [← Ny231.out] at ho; replace BK208 := mS (blk_grown (g := gb208) (o := .cells #[.slice A0_0 l0_0.length c0_0] 26 (0, 0)) (mK BK208.out) hg (Kd.R_ne HO226.out BK208.out (by decide))); replace BK209 := mS (blk_grown (g := gb209) (o := .cells #[.string a1_0, .string a1_1, .bool a1_2] 33 (0, 0)) (mK BK209.out) hg (Kd.R_ne HO226.out BK209.out (by decide))); replace BK210 := mS (blk_grown (g := gb210) (o := .cells #[.slice none 0 0] 26 (0, 0)) (mK BK210.out) hg (Kd.R_ne HO226.out BK210.out (by decide))); replace BK217 := mS (blk_grown (g := gb217) (o := .cells #[.slice Ao15 y214.length co15] 26 (0, 0)) (mK BK217.out) hg (Kd.R_ne HO226.out BK217.out (by decide))); replace HB := mS (hb); replace HR230 := mS ((show Kd.C k35 w125 Ao15 y227.length y227 from by rw [Ny227.out]; exact Kd.C_take (m := (x9_2 : Int).toNat) ((Kd.R_reads' (Kd.R_after (ok := (fun _ => True)) (mR HO_218000.out) hg hat)).2.2) KL124.out)); replace HO_218000 := mS (Kd.R_after (ok := (fun _ => True)) (mR HO_218000.out) hg hat); have HO233 := mS (ho); clear HO226; clear ho hb hg hat; have hnb126 := NB209_208.out; have hnc126 := NB208_209.out; have hnb127 := NB209_210.out; have hnc127 := NB210_209.out; have hcz128_0 := mZ BK209.out 0; have hcz128_1 := mZ BK209.out 1; have hcz128_2 := mZ BK209.out 2; have hfz128_0 := blk_frozen BK209.out 0; have hfz128_1 := blk_frozen BK209.out 1; have hfz128_2 := blk_frozen BK209.out 2) | ((with_reducible refine gate_builtin (b := .append) (xs := #[.tmp 84, .tmp 88]) rfl ?_); at_builtin; refine Kd.R_append k35 (w0 := w) w.heap.size rfl (.tmp 84) (.tmp 88) 24 35 (.agg #[(.string ⟨#[]⟩), (.string ⟨#[]⟩), (.bool false), (.int .i64 0)]) 48 rfl Try.underlying24 info35 rfl (by decide) (by omega) v232 y231 (⟨(⟨a1_0, a1_1, a1_2⟩ : S33), a2⟩ : S35) [.string a1_0, .string a1_1, .bool a1_2, .int .i64 a2] (fun k_ => some k_ ≠ (.slice Ao15 y214.length co15 : Value).ownBlock) (fun _ => False) rfl rfl ?aP (fun _ hk => hk.elim) ?aF ?aO ?aB ?aS ?aL ?_; (case aP => exact k35_mkM _ _ _ (⟨(⟨a1_0, a1_1, a1_2⟩ : S33), a2⟩ : S35)); (case aB => exact (mH4 HB.out GE208.out GE209.out GE210.out GE217.out)); (case aF => exact (fun k_ hk => Kd.fresh' (Kd.R_lt (mR HO_218000.out)) k_ hk)); (case aO => exact (mR HO233.out)); (case aS => exact (below_size (mH4 HB.out GE208.out GE209.out GE210.out GE217.out))); (case aL => have := LMc113.out; omega); intro v235 w129 ho hb hg hat; rw [← Ny234.out] at ho; replace BK208 := mS (blk_grown (g := gb208) (o := .cells #[.slice A0_0 l0_0.length c0_0] 26 (0, 0)) (mK BK208.out) hg (Kd.R_ne HO233.out BK208.out (by decide))); replace BK209 := mS (blk_grown (g := gb209) (o := .cells #[.string a1_0, .string a1_1, .bool a1_2] 33 (0, 0)) (mK BK209.out) hg (Kd.R_ne HO233.out BK209.out (by decide))); replace BK210 := mS (blk_grown (g := gb210) (o := .cells #[.slice none 0 0] 26 (0, 0)) (mK BK210.out) hg (Kd.R_ne HO233.out BK210.out (by decide))); replace BK217 := mS (blk_grown (g := gb217) (o := .cells #[.slice Ao15 y214.length co15] 26 (0, 0)) (mK BK217.out) hg (Kd.R_ne HO233.out BK217.out (by decide))); replace HB := mS (hb); replace HR230 := mS ((show Kd.C k35 w129 Ao15 y227.length y227 from by rw [Ny227.out]; exact Kd.C_take (m := (x9_2 : Int).toNat) ((Kd.R_reads' (Kd.R_after (ok := (fun _ => True)) (mR HO_218000.out) hg hat)).2.2) KL124.out)); replace HO_218000 := mS (Kd.R_after (ok := (fun _ => True)) (mR HO_218000.out) hg hat); have HO236 := mS (ho); clear HO233; clear ho hb hg hat; have hcz130_0 := mZ BK217.out 0; have hfz130_0 := blk_frozen BK217.out 0; have q131 : (x9_2 : Int) ≤ ((y214.length : Int) : Int) := of_decide_eq_true (by first | (with_reducible assumption) | assumption); obtain ⟨i0131, hi0131, _, hsz131, _⟩ := info_parts info35; have hroom131 : y214.length ≤ co15 := (Kd.R_reads' HO_218000.out).2.1; have hC131 : Kd.C k35 _ Ao15 y214.length y214 := (Kd.R_reads' HO_218000.out).2.2; have q0131 : (0 : Int) ≤ (x9_2 : Int) := of_decide_eq_true (by first | (with_reducible assumption) | assumption); have hcut131 := cut_from (P := Try.prog) 24 35 .i64 Try.underlying24 hi0131 4 hsz131 Ao15 y214.length co15 x9_2 q0131 q131; have hr131 := Kd.C_drop (m := (x9_2 : Int).toNat) (c := co15) hC131 (by omega) hroom131; obtain ⟨A131, hA131⟩ : ∃ A1, A1 = (if co15 = (x9_2 : Int).toNat then Ao15 else (Ao15 : Option Addr).map (·.add ((x9_2 : Int).toNat * 4))) := ⟨_, rfl⟩; obtain ⟨c131, hc131⟩ : ∃ c1, c1 = co15 - (x9_2 : Int).toNat := ⟨_, rfl⟩; have hy131 : y237.length = y214.length - (x9_2 : Int).toNat := (by rw [Ny237.out, List.length_drop] <;> omega); rw [show (y214).drop (x9_2 : Int).toNat = y237 from Ny237.out.symm] at hr131; replace hr131 : Kd.C k35 _ A131 y237.length y237 := (by rw [hA131]; exact hr131); rw [← hy131, ← hA131, ← hc131] at hcut131; have HR240 := mS hr131; have HC240 := mS (show y237.length ≤ c131 from by rw [hy131, hc131]; exact Nat.sub_le_sub_right hroom131 _); clear hr131 hC131 hroom131 hi0131 hsz131 hc131; have KY131 := mS hy131; have KA131 := mS hA131; clear hy131 hA131; have KL131 := mS (show (x9_2 : Int).toNat ≤ y214.length from by omega); replace q131 := eq_true q131) | ((with_reducible refine gate_builtin (b := .append) (xs := #[.tmp 90, .tmp 94]) rfl ?_); at_builtin; refine Kd.R_append_rows k35 (w0 := w) w.heap.size rfl (.tmp 90) (.tmp 94) 24 35 (.agg #[(.string ⟨#[]⟩), (.string ⟨#[]⟩), (.bool false), (.int .i64 0)]) 48 rfl Try.underlying24 info35 rfl (by decide) (by omega) v235 y234 y237 _ _ _ (fun k_ => some k_ ≠ (.slice Ao15 y214.length co15 : Value).ownBlock) (fun _ => False) rfl rfl ?aO ?aR (fun _ _ h => h) (fun _ h => h.elim) ?aF ?aB ?aS ?aL ?_; (case aR => repeat (first | exact (mC HR240.out) | (with_reducible refine Kd.C_alloc ?_ _) | (with_reducible refine Kd.C_drewN ?_ _) | (with_reducible refine Kd.C_drew ?_))); (case aB => exact (mH4 HB.out GE208.out GE209.out GE210.out GE217.out)); (case aF => exact (fun k_ hk => Kd.fresh' (Kd.R_lt (mR HO_218000.out)) k_ hk)); (case aO => exact (mR HO236.out)); (case aS => exact (below_size (mH4 HB.out GE208.out GE209.out GE210.out GE217.out))); (case aL => have := LMc116.out; omega); intro v242 w132 ho hb hg hat; rw [← Ny241.out] at ho; replace BK208 := mS (blk_grown (g := gb208) (o := .cells #[.slice A0_0 l0_0.length c0_0] 26 (0, 0)) (mK BK208.out) hg (Kd.R_ne HO236.out BK208.out (by decide))); replace BK209 := mS (blk_grown (g := gb209) (o := .cells #[.string a1_0, .string a1_1, .bool a1_2] 33 (0, 0)) (mK BK209.out) hg (Kd.R_ne HO236.out BK209.out (by decide))); replace BK210 := mS (blk_grown (g := gb210) (o := .cells #[.slice none 0 0] 26 (0, 0)) (mK BK210.out) hg (Kd.R_ne HO236.out BK210.out (by decide))); replace BK217 := mS (blk_grown (g := gb217) (o := .cells #[.slice Ao15 y214.length co15] 26 (0, 0)) (mK BK217.out) hg (Kd.R_ne HO236.out BK217.out (by decide))); replace HB := mS (hb); replace HR230 := mS ((show Kd.C k35 w132 Ao15 y227.length y227 from by rw [Ny227.out]; exact Kd.C_take (m := (x9_2 : Int).toNat) ((Kd.R_reads' (Kd.R_after (ok := (fun _ => True)) (mR HO_218000.out) hg hat)).2.2) KL124.out)); replace HR240 := mS ((show Kd.C k35 w132 A131 y237.length y237 from by rw [Ny237.out, KA131.out]; exact Kd.C_drop (m := (x9_2 : Int).toNat) (c := co15) ((Kd.R_reads' (Kd.R_after (ok := (fun _ => True)) (mR HO_218000.out) hg hat)).2.2) KL131.out ((Kd.R_reads' (Kd.R_after (ok := (fun _ => True)) (mR HO_218000.out) hg hat)).2.1))); replace HO_218000 := mS (Kd.R_after (ok := (fun _ => True)) (mR HO_218000.out) hg hat); have HO243 := mS (ho); clear HO236; clear ho hb hg hat; obtain ⟨Ao133, co133, eo133⟩ := Kd.R_slice HO243.out; subst eo133; have hnb134 := NB210_208.out; have hnc134 := NB208_210.out; have hcz135_0 := mZ BK210.out 0; have hfz135_0 := blk_frozen BK210.out 0)); try go_wp2_with (first | ((with_reducible refine gate_dst (N := 78) rfl ?_); refine Kd.R_lit k35 _ 35 ?hg (N := 78) ?hd (xs := ([] : List (S35))) (inner := []) (ok := fun _ => True) (okp := fun _ => True) ?hr ?hp (fun _ hk => hk) trivial (Below.refl _ _) (Nat.le_refl _) (by simp) ?_; (case hd => rfl); (case hg => rfl); (case hr => first | (go_simp; done) | (go_simp; rfl)); (case hp => exact (Reps.none _ _)); intro v225 w121 ho122 hb hg_ hnew_; clear hg_ hnew_; (first | rw [← Ny224.out] at ho122 | (simp only [Int.reduceToNat] at ho122; rw [← Ny224.out] at ho122)); have HO226 := mS (Kd.R_lower (Kd.R_new' ho122 (Kd.R_lt (mR HO_218000.out))) (below_size (mH4 HB.out GE208.out GE209.out GE210.out GE217.out))); replace HO_218000 := mS (Kd.R_elder' (mR HO_218000.out) (Kd.R_base ho122) hb); replace BK208 := mB BK208 hb; replace BK209 := mB BK209 hb; replace BK210 := mB BK210 hb; replace BK217 := mB BK217 hb; replace HB := mS (below_step (mH4 HB.out GE208.out GE209.out GE210.out GE217.out) hb); clear hb ho122; have hcz123_0 := mZ BK217.out 0; have hfz123_0 := blk_frozen BK217.out 0; have q124 : (x9_2 : Int) ≤ ((y214.length : Int) : Int) := of_decide_eq_true (by first | (with_reducible assumption) | assumption); obtain ⟨i0124, hi0124, _, hsz124, _⟩ := info_parts info35; have hroom124 : y214.length ≤ co15 := (Kd.R_reads' HO_218000.out).2.1; have hC124 : Kd.C k35 _ Ao15 y214.length y214 := (Kd.R_reads' HO_218000.out).2.2; have hcut124 := cut_to (P := Try.prog) 24 35 .i64 Try.underlying24 hi0124 Ao15 y214.length co15 x9_2 (of_decide_eq_true (by first | (with_reducible assumption) | assumption)) q124 hroom124; have hr124 := Kd.C_take (m := (x9_2 : Int).toNat) hC124 (by omega); have hy124 : y227.length = (x9_2 : Int).toNat := (by rw [Ny227.out, List.length_take]; omega); rw [← Ny227.out] at hr124; rw [← hy124] at hcut124; have HR230 := mS hr124; have HC230 := mS (show y227.length ≤ co15 from by omega); clear hr124 hC124 hroom124 hi0124 hsz124; have KY124 := mS hy124; clear hy124; have KL124 := mS (show (x9_2 : Int).toNat ≤ y214.length from by omega); replace q124 := eq_true q124) | ((with_reducible refine gate_builtin (b := .append) (xs := #[.tmp 78, .tmp 82]) rfl ?_); at_builtin; refine Kd.R_append_rows k35 (w0 := w) w.heap.size rfl (.tmp 78) (.tmp 82) 24 35 (.agg #[(.string ⟨#[]⟩), (.string ⟨#[]⟩), (.bool false), (.int .i64 0)]) 48 rfl Try.underlying24 info35 rfl (by decide) (by omega) v225 y224 y227 _ _ _ (fun k_ => some k_ ≠ (.slice Ao15 y214.length co15 : Value).ownBlock) (fun _ => False) rfl rfl ?aO ?aR (fun _ _ h => h) (fun _ h => h.elim) ?aF ?aB ?aS ?aL ?_; (case aR => repeat (first | exact (mC HR230.out) | (with_reducible refine Kd.C_alloc ?_ _) | (with_reducible refine Kd.C_drewN ?_ _) | (with_reducible refine Kd.C_drew ?_))); (case aB => exact (mH4 HB.out GE208.out GE209.out GE210.out GE217.out)); (case aF => exact (fun k_ hk => Kd.fresh' (Kd.R_lt (mR HO_218000.out)) k_ hk)); (case aO => exact (by (with_reducible repeat (first | apply Kd.R_alloc | apply Kd.R_drewN | apply Kd.R_drew)); exact Kd.R_mono HO226.out (fun _ hk => hk.2))); (case aS => exact (below_size (mH4 HB.out GE208.out GE209.out GE210.out GE217.out))); (case aL => have := LMc112.out; omega); intro v232 w125 ho hb hg hat; rw [← Ny231.out] at ho; replace BK208 := mS (blk_grown (g := gb208) (o := .cells #[.slice A0_0 l0_0.length c0_0] 26 (0, 0)) (mK BK208.out) hg (Kd.R_ne HO226.out BK208.out (by decide))); replace BK209 := mS (blk_grown (g := gb209) (o := .cells #[.string a1_0, .string a1_1, .bool a1_2] 33 (0, 0)) (mK BK209.out) hg (Kd.R_ne HO226.out BK209.out (by decide))); replace BK210 := mS (blk_grown (g := gb210) (o := .cells #[.slice none 0 0] 26 (0, 0)) (mK BK210.out) hg (Kd.R_ne HO226.out BK210.out (by decide))); replace BK217 := mS (blk_grown (g := gb217) (o := .cells #[.slice Ao15 y214.length co15] 26 (0, 0)) (mK BK217.out) hg (Kd.R_ne HO226.out BK217.out (by decide))); replace HB := mS (hb); replace HR230 := mS ((show Kd.C k35 w125 Ao15 y227.length y227 from by rw [Ny227.out]; exact Kd.C_take (m := (x9_2 : Int).toNat) ((Kd.R_reads' (Kd.R_after (ok := (fun _ => True)) (mR HO_218000.out) hg hat)).2.2) KL124.out)); replace HO_218000 := mS (Kd.R_after (ok := (fun _ => True)) (mR HO_218000.out) hg hat); have HO233 := mS (ho); clear HO226; clear ho hb hg hat; have hnb126 := NB209_208.out; have hnc126 := NB208_209.out; have hnb127 := NB209_210.out; have hnc127 := NB210_209.out; have hcz128_0 := mZ BK209.out 0; have hcz128_1 := mZ BK209.out 1; have hcz128_2 := mZ BK209.out 2; have hfz128_0 := blk_frozen BK209.out 0; have hfz128_1 := blk_frozen BK209.out 1; have hfz128_2 := blk_frozen BK209.out 2) | ((with_reducible refine gate_builtin (b := .append) (xs := #[.tmp 84, .tmp 88]) rfl ?_); at_builtin; refine Kd.R_append k35 (w0 := w) w.heap.size rfl (.tmp 84) (.tmp 88) 24 35 (.agg #[(.string ⟨#[]⟩), (.string ⟨#[]⟩), (.bool false), (.int .i64 0)]) 48 rfl Try.underlying24 info35 rfl (by decide) (by omega) v232 y231 (⟨(⟨a1_0, a1_1, a1_2⟩ : S33), a2⟩ : S35) [.string a1_0, .string a1_1, .bool a1_2, .int .i64 a2] (fun k_ => some k_ ≠ (.slice Ao15 y214.length co15 : Value).ownBlock) (fun _ => False) rfl rfl ?aP (fun _ hk => hk.elim) ?aF ?aO ?aB ?aS ?aL ?_; (case aP => exact k35_mkM _ _ _ (⟨(⟨a1_0, a1_1, a1_2⟩ : S33), a2⟩ : S35)); (case aB => exact (mH4 HB.out GE208.out GE209.out GE210.out GE217.out)); (case aF => exact (fun k_ hk => Kd.fresh' (Kd.R_lt (mR HO_218000.out)) k_ hk)); (case aO => exact (mR HO233.out)); (case aS => exact (below_size (mH4 HB.out GE208.out GE209.out GE210.out GE217.out))); (case aL => have := LMc113.out; omega); intro v235 w129 ho hb hg hat; rw [← Ny234.out] at ho; replace BK208 := mS (blk_grown (g := gb208) (o := .cells #[.slice A0_0 l0_0.length c0_0] 26 (0, 0)) (mK BK208.out) hg (Kd.R_ne HO233.out BK208.out (by decide))); replace BK209 := mS (blk_grown (g := gb209) (o := .cells #[.string a1_0, .string a1_1, .bool a1_2] 33 (0, 0)) (mK BK209.out) hg (Kd.R_ne HO233.out BK209.out (by decide))); replace BK210 := mS (blk_grown (g := gb210) (o := .cells #[.slice none 0 0] 26 (0, 0)) (mK BK210.out) hg (Kd.R_ne HO233.out BK210.out (by decide))); replace BK217 := mS (blk_grown (g := gb217) (o := .cells #[.slice Ao15 y214.length co15] 26 (0, 0)) (mK BK217.out) hg (Kd.R_ne HO233.out BK217.out (by decide))); replace HB := mS (hb); replace HR230 := mS ((show Kd.C k35 w129 Ao15 y227.length y227 from by rw [Ny227.out]; exact Kd.C_take (m := (x9_2 : Int).toNat) ((Kd.R_reads' (Kd.R_after (ok := (fun _ => True)) (mR HO_218000.out) hg hat)).2.2) KL124.out)); replace HO_218000 := mS (Kd.R_after (ok := (fun _ => True)) (mR HO_218000.out) hg hat); have HO236 := mS (ho); clear HO233; clear ho hb hg hat; have hcz130_0 := mZ BK217.out 0; have hfz130_0 := blk_frozen BK217.out 0; have q131 : (x9_2 : Int) ≤ ((y214.length : Int) : Int) := of_decide_eq_true (by first | (with_reducible assumption) | assumption); obtain ⟨i0131, hi0131, _, hsz131, _⟩ := info_parts info35; have hroom131 : y214.length ≤ co15 := (Kd.R_reads' HO_218000.out).2.1; have hC131 : Kd.C k35 _ Ao15 y214.length y214 := (Kd.R_reads' HO_218000.out).2.2; have q0131 : (0 : Int) ≤ (x9_2 : Int) := of_decide_eq_true (by first | (with_reducible assumption) | assumption); have hcut131 := cut_from (P := Try.prog) 24 35 .i64 Try.underlying24 hi0131 4 hsz131 Ao15 y214.length co15 x9_2 q0131 q131; have hr131 := Kd.C_drop (m := (x9_2 : Int).toNat) (c := co15) hC131 (by omega) hroom131; obtain ⟨A131, hA131⟩ : ∃ A1, A1 = (if co15 = (x9_2 : Int).toNat then Ao15 else (Ao15 : Option Addr).map (·.add ((x9_2 : Int).toNat * 4))) := ⟨_, rfl⟩; obtain ⟨c131, hc131⟩ : ∃ c1, c1 = co15 - (x9_2 : Int).toNat := ⟨_, rfl⟩; have hy131 : y237.length = y214.length - (x9_2 : Int).toNat := (by rw [Ny237.out, List.length_drop] <;> omega); rw [show (y214).drop (x9_2 : Int).toNat = y237 from Ny237.out.symm] at hr131; replace hr131 : Kd.C k35 _ A131 y237.length y237 := (by rw [hA131]; exact hr131); rw [← hy131, ← hA131, ← hc131] at hcut131; have HR240 := mS hr131; have HC240 := mS (show y237.length ≤ c131 from by rw [hy131, hc131]; exact Nat.sub_le_sub_right hroom131 _); clear hr131 hC131 hroom131 hi0131 hsz131 hc131; have KY131 := mS hy131; have KA131 := mS hA131; clear hy131 hA131; have KL131 := mS (show (x9_2 : Int).toNat ≤ y214.length from by omega); replace q131 := eq_true q131) | ((with_reducible refine gate_builtin (b := .append) (xs := #[.tmp 90, .tmp 94]) rfl ?_); at_builtin; refine Kd.R_append_rows k35 (w0 := w) w.heap.size rfl (.tmp 90) (.tmp 94) 24 35 (.agg #[(.string ⟨#[]⟩), (.string ⟨#[]⟩), (.bool false), (.int .i64 0)]) 48 rfl Try.underlying24 info35 rfl (by decide) (by omega) v235 y234 y237 _ _ _ (fun k_ => some k_ ≠ (.slice Ao15 y214.length co15 : Value).ownBlock) (fun _ => False) rfl rfl ?aO ?aR (fun _ _ h => h) (fun _ h => h.elim) ?aF ?aB ?aS ?aL ?_; (case aR => repeat (first | exact (mC HR240.out) | (with_reducible refine Kd.C_alloc ?_ _) | (with_reducible refine Kd.C_drewN ?_ _) | (with_reducible refine Kd.C_drew ?_))); (case aB => exact (mH4 HB.out GE208.out GE209.out GE210.out GE217.out)); (case aF => exact (fun k_ hk => Kd.fresh' (Kd.R_lt (mR HO_218000.out)) k_ hk)); (case aO => exact (mR HO236.out)); (case aS => exact (below_size (mH4 HB.out GE208.out GE209.out GE210.out GE217.out))); (case aL => have := LMc116.out; omega); intro v242 w132 ho hb hg hat; rw [← Ny241.out] at ho; replace BK208 := mS (blk_grown (g := gb208) (o := .cells #[.slice A0_0 l0_0.length c0_0] 26 (0, 0)) (mK BK208.out) hg (Kd.R_ne HO236.out BK208.out (by decide))); replace BK209 := mS (blk_grown (g := gb209) (o := .cells #[.string a1_0, .string a1_1, .bool a1_2] 33 (0, 0)) (mK BK209.out) hg (Kd.R_ne HO236.out BK209.out (by decide))); replace BK210 := mS (blk_grown (g := gb210) (o := .cells #[.slice none 0 0] 26 (0, 0)) (mK BK210.out) hg (Kd.R_ne HO236.out BK210.out (by decide))); replace BK217 := mS (blk_grown (g := gb217) (o := .cells #[.slice Ao15 y214.length co15] 26 (0, 0)) (mK BK217.out) hg (Kd.R_ne HO236.out BK217.out (by decide))); replace HB := mS (hb); replace HR230 := mS ((show Kd.C k35 w132 Ao15 y227.length y227 from by rw [Ny227.out]; exact Kd.C_take (m := (x9_2 : Int).toNat) ((Kd.R_reads' (Kd.R_after (ok := (fun _ => True)) (mR HO_218000.out) hg hat)).2.2) KL124.out)); replace HR240 := mS ((show Kd.C k35 w132 A131 y237.length y237 from by rw [Ny237.out, KA131.out]; exact Kd.C_drop (m := (x9_2 : Int).toNat) (c := co15) ((Kd.R_reads' (Kd.R_after (ok := (fun _ => True)) (mR HO_218000.out) hg hat)).2.2) KL131.out ((Kd.R_reads' (Kd.R_after (ok := (fun _ => True)) (mR HO_218000.out) hg hat)).2.1))); replace HO_218000 := mS (Kd.R_after (ok := (fun _ => True)) (mR HO_218000.out) hg hat); have HO243 := mS (ho); clear HO236; clear ho hb hg hat; obtain ⟨Ao133, co133, eo133⟩ := Kd.R_slice HO243.out; subst eo133; have hnb134 := NB210_208.out; have hnc134 := NB208_210.out; have hcz135_0 := mZ BK210.out 0; have hfz135_0 := blk_frozen BK210.out 0)))
                   refine bodyPost_ret (results_ct rfl _ _ gb210 26 #[.slice Ao133 y241.length co133] (0, 0) _ rfl (by (with_reducible repeat (first | refine blk_drewN ?_ _ | refine blk_drew ?_ | refine blk_alloc ?_ _)); refine blk_put (cs := #[.slice none 0 0]) ?_ 0 _ rfl; (with_reducible repeat (first | refine blk_drewN ?_ _ | refine blk_drew ?_ | refine blk_alloc ?_ _)); exact BK210.out) Try.underlying26 rfl (by kernel_rfl)) rfl ?_
                   exact ⟨_, by first | rfl | (simp [errW_none, errW_some] <;> rfl) | (simp [*, errW_none, errW_some] <;> rfl), by (with_reducible repeat (first | apply Kd.R_alloc | apply Kd.R_drewN | apply Kd.R_drew)); exact Kd.R_mono (Kd.R_far (p := ⟨gb210, 0, none⟩) (Kd.R_types HO243.out BK210.out (by decide)) (fun _ hk => hk.2) (.slice Ao133 y241.length co133)) (fun _ hk => trivial), (mH4 HB.out GE208.out GE209.out GE210.out GE217.out)⟩
                  ·rw [if_neg c116] at H
                   exact absurd H (by simp)
                 ·rw [if_neg c113] at H
                  exact absurd H (by simp)
                ·rw [if_neg c112] at H
                 exact absurd H (by simp)
               ·rw [if_neg c111] at H
                exact absurd H (by simp)
              ·rw [if_neg c110] at H
               exact absurd H (by simp)
 ·rw [if_neg c4] at H
  exact absurd H (by simp)

end Go.Proofs.Ytbepbgfkajnlbaa.MFnMerged
