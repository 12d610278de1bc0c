-- Written by mp.py, this session's own printer (wip/mp.py).
import Derived.Test.YtbepbgfkajnlbaaVMShort
import Derived.Test.YtbepbgfkajnlbaaMFnExactMemPutx0
import Derived.Test.YtbepbgfkajnlbaaMFnExactMemPutx5
import Derived.Test.YtbepbgfkajnlbaaMFnExactMemPutx6
namespace Go.Proofs.Ytbepbgfkajnlbaa.MFnExactMemPut
open Go.RowKit Go.Proofs.YtbepbgfkajnlbaaW.PrintWords Go.Proofs.YtbepbgfkajnlbaaW.PrintLast Go.Proofs.YtbepbgfkajnlbaaW.PrintMore Go.Proofs.Ytbepbgfkajnlbaa.MWords
attribute [local go_sem] max2_int min2_int max_two min_two max_three min_three max_four min_four   -- for this text's walks alone
set_option linter.unusedVariables false
set_option linter.unusedSimpArgs false

/-! ### spec_MemPut: function 21 -/
mutual
def spec_MemPut.j0 : Nat → Int → Bool → ByteArray → ByteArray → Bool → List (S35) → Option ((List (S35)) × Bool)
 | 0, _, _, _, _, _, _ => none
 | k + 1, x2, x28, x158000, x158001, x158002, x166000 => if x28 = true then (some (x166000, false)) else (spec_MemPut.l0 k x2 0 x158000 x158001 x158002 x166000)
def spec_MemPut.j2 : Nat → Int → Int → ByteArray → ByteArray → Bool → List (S35) → Option ((List (S35)) × Bool)
 | 0, _, _, _, _, _, _ => none
 | k + 1, x2, x9, x158000, x158001, x158002, x166000 => if x9 < (x166000.length : Int) then (if 0 ≤ x9 then (spec_MemPut.j3 k x2 x9 (((rd_T35 x166000 x9).f0.f0).toList == x158000.toList) x158000 x158001 x158002 x166000) else (none)) else (spec_MemPut.j3 k x2 x9 false x158000 x158001 x158002 x166000)
def spec_MemPut.j3 : Nat → Int → Int → Bool → ByteArray → ByteArray → Bool → List (S35) → Option ((List (S35)) × Bool)
 | 0, _, _, _, _, _, _, _ => none
 | k + 1, x2, x9, x65, x158000, x158001, x158002, x166000 => if x65 = true then (if 0 ≤ x9 then (if x9 < (x166000.length : Int) then (some ((x166000.set (x9 : Int).toNat (⟨(⟨x158000, x158001, x158002⟩ : S33), (rd_T35 x166000 x9).f1⟩ : S35)), true)) else (none)) else (none)) else (if (x166000.length : Int) = 60 then (some (x166000, false)) else ((some (([] : List (S35)) : List (S35))).bind fun y172 => (if 0 ≤ x9 then (if x9 ≤ (x166000.length : Int) then ((some (x166000.take (x9 : Int).toNat : List (S35))).bind fun y175 => (if y172.length + y175.length < 2932031007402 then ((some (y172 ++ y175 : List (S35))).bind fun y179 => (if y179.length < 2932031007402 then ((some (y179 ++ [(⟨(⟨x158000, x158001, x158002⟩ : S33), x2⟩ : S35)] : List (S35))).bind fun y182 => ((some (x166000.drop (x9 : Int).toNat : List (S35))).bind fun y185 => (if y182.length + y185.length < 2932031007402 then (some ((y182 ++ y185), true)) else (none)))) else (none))) else (none))) else (none)) else (none))))
def spec_MemPut.l0 : Nat → Int → Int → ByteArray → ByteArray → Bool → List (S35) → Option ((List (S35)) × Bool)
 | 0, _, _, _, _, _, _ => none
 | k + 1, x2, x9, x158000, x158001, x158002, x166000 => if x9 < (x166000.length : Int) then (if 0 ≤ x9 then (if (Op.bytesLess (((rd_T35 x166000 x9).f0.f0).toList) x158000.toList) = true then (spec_MemPut.l0 k x2 (wrap64 (x9 + 1)) x158000 x158001 x158002 x166000) else (spec_MemPut.j2 k x2 x9 x158000 x158001 x158002 x166000)) else (none)) else (spec_MemPut.j2 k x2 x9 x158000 x158001 x158002 x166000)
end
def spec_MemPut.f (k : Nat) (l0_0 : List (S35)) (a1_0 : ByteArray) (a1_1 : ByteArray) (a1_2 : Bool) (a2 : Int) : Option ((List (S35)) × Bool) := (some (([] : List (S35)) : List (S35))).bind fun y159 => (if y159.length + l0_0.length < 2932031007402 then ((some (y159 ++ l0_0 : List (S35))).bind fun y162 => ((spec_MemOk.f k l0_0).bind fun t166 => (if t166 = true then ((spec_PairOk.f a1_0 a1_1 a1_2).bind fun t167 => (if t167 = true then ((spec_l1In.f a2 1 4).bind fun t168 => (spec_MemPut.j0 k a2 (!t168) a1_0 a1_1 a1_2 y162)) else (spec_MemPut.j0 k a2 true a1_0 a1_1 a1_2 y162))) else (spec_MemPut.j0 k a2 true a1_0 a1_1 a1_2 y162)))) else (none))
theorem spec_MemPut.mono_l : ∀ k, (∀ y0 y1 y2 y3 y4 y5, LeO (spec_MemPut.j0 k y0 y1 y2 y3 y4 y5) (spec_MemPut.j0 (k + 1) y0 y1 y2 y3 y4 y5)) ∧ (∀ y0 y1 y2 y3 y4 y5, LeO (spec_MemPut.j2 k y0 y1 y2 y3 y4 y5) (spec_MemPut.j2 (k + 1) y0 y1 y2 y3 y4 y5)) ∧ (∀ y0 y1 y2 y3 y4 y5 y6, LeO (spec_MemPut.j3 k y0 y1 y2 y3 y4 y5 y6) (spec_MemPut.j3 (k + 1) y0 y1 y2 y3 y4 y5 y6)) ∧ (∀ y0 y1 y2 y3 y4 y5, LeO (spec_MemPut.l0 k y0 y1 y2 y3 y4 y5) (spec_MemPut.l0 (k + 1) y0 y1 y2 y3 y4 y5))
 | 0 => ⟨fun _ _ _ _ _ _ r h => by simp [spec_MemPut.j0] at h, fun _ _ _ _ _ _ r h => by simp [spec_MemPut.j2] at h, fun _ _ _ _ _ _ _ r h => by simp [spec_MemPut.j3] at h, fun _ _ _ _ _ _ r h => by simp [spec_MemPut.l0] at h⟩
 | k + 1 => by
  obtain ⟨ih0, ih1, ih2, ih3⟩ := spec_MemPut.mono_l k
  refine ⟨?_, ?_, ?_, ?_⟩
  ·intro y0 y1 y2 y3 y4 y5
   unfold spec_MemPut.j0
   repeat' first
   | (with_reducible exact ih0 _ _ _ _ _ _)
   | (with_reducible exact ih1 _ _ _ _ _ _)
   | (with_reducible exact ih2 _ _ _ _ _ _ _)
   | (with_reducible exact ih3 _ _ _ _ _ _)
   | (with_reducible exact spec_MemOk.mono _ _)
   | (with_reducible exact LeO.refl _)
   | (with_reducible exact LeO.none _)
   | (with_reducible refine LeO.ite ?_ ?_)
   | (with_reducible refine LeO.bind ?_ (fun _ => ?_))
   | exact ih0 _ _ _ _ _ _
   | exact ih1 _ _ _ _ _ _
   | exact ih2 _ _ _ _ _ _ _
   | exact ih3 _ _ _ _ _ _
   | exact spec_MemOk.mono _ _
   | exact LeO.none _
   | refine LeO.ite ?_ ?_
   | refine LeO.bind ?_ (fun _ => ?_)
  ·intro y0 y1 y2 y3 y4 y5
   unfold spec_MemPut.j2
   repeat' first
   | (with_reducible exact ih0 _ _ _ _ _ _)
   | (with_reducible exact ih1 _ _ _ _ _ _)
   | (with_reducible exact ih2 _ _ _ _ _ _ _)
   | (with_reducible exact ih3 _ _ _ _ _ _)
   | (with_reducible exact spec_MemOk.mono _ _)
   | (with_reducible exact LeO.refl _)
   | (with_reducible exact LeO.none _)
   | (with_reducible refine LeO.ite ?_ ?_)
   | (with_reducible refine LeO.bind ?_ (fun _ => ?_))
   | exact ih0 _ _ _ _ _ _
   | exact ih1 _ _ _ _ _ _
   | exact ih2 _ _ _ _ _ _ _
   | exact ih3 _ _ _ _ _ _
   | exact spec_MemOk.mono _ _
   | exact LeO.none _
   | refine LeO.ite ?_ ?_
   | refine LeO.bind ?_ (fun _ => ?_)
  ·intro y0 y1 y2 y3 y4 y5 y6
   unfold spec_MemPut.j3
   repeat' first
   | (with_reducible exact ih0 _ _ _ _ _ _)
   | (with_reducible exact ih1 _ _ _ _ _ _)
   | (with_reducible exact ih2 _ _ _ _ _ _ _)
   | (with_reducible exact ih3 _ _ _ _ _ _)
   | (with_reducible exact spec_MemOk.mono _ _)
   | (with_reducible exact LeO.refl _)
   | (with_reducible exact LeO.none _)
   | (with_reducible refine LeO.ite ?_ ?_)
   | (with_reducible refine LeO.bind ?_ (fun _ => ?_))
   | exact ih0 _ _ _ _ _ _
   | exact ih1 _ _ _ _ _ _
   | exact ih2 _ _ _ _ _ _ _
   | exact ih3 _ _ _ _ _ _
   | exact spec_MemOk.mono _ _
   | exact LeO.none _
   | refine LeO.ite ?_ ?_
   | refine LeO.bind ?_ (fun _ => ?_)
  ·intro y0 y1 y2 y3 y4 y5
   unfold spec_MemPut.l0
   repeat' first
   | (with_reducible exact ih0 _ _ _ _ _ _)
   | (with_reducible exact ih1 _ _ _ _ _ _)
   | (with_reducible exact ih2 _ _ _ _ _ _ _)
   | (with_reducible exact ih3 _ _ _ _ _ _)
   | (with_reducible exact spec_MemOk.mono _ _)
   | (with_reducible exact LeO.refl _)
   | (with_reducible exact LeO.none _)
   | (with_reducible refine LeO.ite ?_ ?_)
   | (with_reducible refine LeO.bind ?_ (fun _ => ?_))
   | exact ih0 _ _ _ _ _ _
   | exact ih1 _ _ _ _ _ _
   | exact ih2 _ _ _ _ _ _ _
   | exact ih3 _ _ _ _ _ _
   | exact spec_MemOk.mono _ _
   | exact LeO.none _
   | refine LeO.ite ?_ ?_
   | refine LeO.bind ?_ (fun _ => ?_)
theorem spec_MemPut.mono : ∀ a0 a1 a2 a3 a4 k, LeO (spec_MemPut.f k a0 a1 a2 a3 a4) (spec_MemPut.f (k + 1) a0 a1 a2 a3 a4) := by
 intro a0 a1 a2 a3 a4 k
 obtain ⟨ih0, ih1, ih2, ih3⟩ := spec_MemPut.mono_l k
 unfold spec_MemPut.f
 repeat' first
   | (with_reducible exact ih0 _ _ _ _ _ _)
   | (with_reducible exact ih1 _ _ _ _ _ _)
   | (with_reducible exact ih2 _ _ _ _ _ _ _)
   | (with_reducible exact ih3 _ _ _ _ _ _)
   | (with_reducible exact spec_MemOk.mono _ _)
   | (with_reducible exact LeO.refl _)
   | (with_reducible exact LeO.none _)
   | (with_reducible refine LeO.ite ?_ ?_)
   | (with_reducible refine LeO.bind ?_ (fun _ => ?_))
   | exact ih0 _ _ _ _ _ _
   | exact ih1 _ _ _ _ _ _
   | exact ih2 _ _ _ _ _ _ _
   | exact ih3 _ _ _ _ _ _
   | exact spec_MemOk.mono _ _
   | exact LeO.none _
   | refine LeO.ite ?_ ?_
   | refine LeO.bind ?_ (fun _ => ?_)
set_option maxHeartbeats 8000000 in
set_option maxRecDepth 100000 in
theorem spec_MemPut.calls (k : Nat) (A0_0 : Option Addr) (c0_0 : Nat) (l0_0 : List (S35)) (a1_0 : ByteArray) (a1_1 : ByteArray) (a1_2 : Bool) (a2 : Int) (r1 : List (S35)) (r2 : Bool) (w : World) (hr0_0 : Kd.C k35 w A0_0 l0_0.length l0_0) (hc0_0 : l0_0.length ≤ c0_0) (h : spec_MemPut.f k l0_0 a1_0 a1_1 a1_2 a2 = some (r1, r2)) :
  Calls Try.prog 21 #[.agg #[.slice A0_0 l0_0.length c0_0], .agg #[.string a1_0, .string a1_1, .bool a1_2], .int .i64 a2] w fun e w' => ∃ v0_ : Value, e = .returned (.tuple #[.agg #[v0_], .bool r2]) ∧ Kd.R k35 35 w' w.heap.size (fun _ => True) v0_ r1 ∧ Below w.heap.size w w' := by
 have hu26 := Try.underlying26
 have hu33 := Try.underlying33
 have hu35 := Try.underlying35
 have HR0_0 := mS hr0_0
 have HC0_0 := mS hc0_0
 clear hr0_0 hc0_0
 have HB := mS (Below.refl w.heap.size w)
 have H : ((some (([] : List (S35)) : List (S35))).bind fun y159 => (if y159.length + l0_0.length < 2932031007402 then ((some (y159 ++ l0_0 : List (S35))).bind fun y162 => ((spec_MemOk.f k l0_0).bind fun t166 => (if t166 = true then ((spec_PairOk.f a1_0 a1_1 a1_2).bind fun t167 => (if t167 = true then ((spec_l1In.f a2 1 4).bind fun t168 => (spec_MemPut.j0 k a2 (!t168) a1_0 a1_1 a1_2 y162)) else (spec_MemPut.j0 k a2 true a1_0 a1_1 a1_2 y162))) else (spec_MemPut.j0 k a2 true a1_0 a1_1 a1_2 y162)))) else (none))) = some (r1, r2) := h
 clear h
 obtain ⟨y159, hy159⟩ : ∃ y_ : List (S35), y_ = (([] : List (S35))) := ⟨_, rfl⟩
 replace H : (if y159.length + l0_0.length < 2932031007402 then ((some (y159 ++ l0_0 : List (S35))).bind fun y162 => ((spec_MemOk.f k l0_0).bind fun t166 => (if t166 = true then ((spec_PairOk.f a1_0 a1_1 a1_2).bind fun t167 => (if t167 = true then ((spec_l1In.f a2 1 4).bind fun t168 => (spec_MemPut.j0 k a2 (!t168) a1_0 a1_1 a1_2 y162)) else (spec_MemPut.j0 k a2 true a1_0 a1_1 a1_2 y162))) else (spec_MemPut.j0 k a2 true a1_0 a1_1 a1_2 y162)))) else (none)) = some (r1, r2) := by first | (rw [hy159]; with_reducible exact H) | (have H2_ := (Option.bind_some _ _).symm.trans H; rw [hy159]; with_reducible exact H2_) | (have H2_ := (Option.bind_some _ _).symm.trans H; with_reducible exact H2_) | with_reducible exact H | (rw [hy159]; exact H) | exact H
 have Ny159 := mS hy159
 clear hy159
 by_cases c4 : y159.length + l0_0.length < 2932031007402
 ·rw [if_pos c4] at H
  have LMc4 := mS c4
  clear c4
  obtain ⟨y162, hy162⟩ : ∃ y_ : List (S35), y_ = (y159 ++ l0_0) := ⟨_, rfl⟩
  replace H : ((spec_MemOk.f k l0_0).bind fun t166 => (if t166 = true then ((spec_PairOk.f a1_0 a1_1 a1_2).bind fun t167 => (if t167 = true then ((spec_l1In.f a2 1 4).bind fun t168 => (spec_MemPut.j0 k a2 (!t168) a1_0 a1_1 a1_2 y162)) else (spec_MemPut.j0 k a2 true a1_0 a1_1 a1_2 y162))) else (spec_MemPut.j0 k a2 true a1_0 a1_1 a1_2 y162))) = some (r1, r2) := by first | (rw [hy162]; with_reducible exact H) | (have H2_ := (Option.bind_some _ _).symm.trans H; rw [hy162]; with_reducible exact H2_) | (have H2_ := (Option.bind_some _ _).symm.trans H; with_reducible exact H2_) | with_reducible exact H | (rw [hy162]; exact H) | exact H
  have Ny162 := mS hy162
  clear hy162
  have HC5 := mS H
  clear H
  go_enter Try.func21, Try.ntmps21
  go_upto_region 2 with (first | ((with_reducible refine gate_dst (N := 3) rfl ?_); refine box_event ?hg (N := 3) ?hd (cs := #[.slice A0_0 l0_0.length c0_0]) (t := 26) ?hr ?_; (case hd => rfl); (case hg => rfl); (case hr => first | (go_simp; done) | (go_simp; rfl)); intro gb156 hg w6 hbox hb; have BK156 := mS (hbox); have GW156 := mG hg (mH HB.out); have GE156 := mG hg (mH HB.out); replace HB := mS (below_step (mH HB.out) hb); clear hb hbox hg) | ((with_reducible refine gate_dst (N := 4) rfl ?_); refine box_event ?hg (N := 4) ?hd (cs := #[.string a1_0, .string a1_1, .bool a1_2]) (t := 33) ?hr ?_; (case hd => rfl); (case hg => rfl); (case hr => first | (go_simp; done) | (go_simp; rfl)); intro gb157 hg w7 hbox hb; have BK157 := mS (hbox); have GW157 := mG hg (mH1 HB.out GE156.out); have GE157 := mG hg (mH1 HB.out GE156.out); replace HB := mS (below_step (mH1 HB.out GE156.out) hb); have NB156_157 := mNl hg BK156.out; have NB157_156 := mNg hg BK156.out; replace BK156 := mB BK156 hb; clear hb hbox hg) | ((with_reducible refine gate_dst (N := 6) rfl ?_); refine box_event ?hg (N := 6) ?hd (cs := #[.slice none 0 0]) (t := 26) ?hr ?_; (case hd => rfl); (case hg => rfl); (case hr => first | (go_simp; done) | (go_simp; rfl)); intro gb158 hg w8 hbox hb; have BK158 := mS (hbox); have GW158 := mG hg (mH2 HB.out GE156.out GE157.out); have GE158 := mG hg (mH2 HB.out GE156.out GE157.out); replace HB := mS (below_step (mH2 HB.out GE156.out GE157.out) hb); have NB156_158 := mNl hg BK156.out; have NB158_156 := mNg hg BK156.out; replace BK156 := mB BK156 hb; have NB157_158 := mNl hg BK157.out; have NB158_157 := mNg hg BK157.out; replace BK157 := mB BK157 hb; clear hb hbox hg) | ((with_reducible refine gate_dst (N := 11) rfl ?_); refine Kd.R_lit k35 _ 35 ?hg (N := 11) ?hd (xs := ([] : List (S35))) (inner := []) (ok := fun _ => True) (okp := fun _ => True) ?hr ?hp (fun _ hk => hk) trivial (Below.refl _ _) (Nat.le_refl _) (by simp) ?_; (case hd => rfl); (case hg => rfl); (case hr => first | (go_simp; done) | (go_simp; rfl)); (case hp => exact (Reps.none _ _)); intro v160 w9 ho10 hb hg_ hnew_; clear hg_ hnew_; (first | rw [← Ny159.out] at ho10 | (simp only [Int.reduceToNat] at ho10; rw [← Ny159.out] at ho10)); have HO161 := mS (Kd.R_lower ho10 (below_size (mH3 HB.out GE156.out GE157.out GE158.out))); replace BK156 := mB BK156 hb; replace BK157 := mB BK157 hb; replace BK158 := mB BK158 hb; replace HB := mS (below_step (mH3 HB.out GE156.out GE157.out GE158.out) hb); clear hb ho10; have hnb11 := NB156_157.out; have hnc11 := NB157_156.out; have hnb12 := NB156_158.out; have hnc12 := NB158_156.out; have hcz13_0 : w9.cell? ⟨gb156, 0, none⟩ = some (.slice A0_0 l0_0.length c0_0) := (blk_cell BK156.out 0).trans rfl; have hfz13_0 := blk_frozen BK156.out 0) | ((with_reducible refine gate_builtin (b := .append) (xs := #[.tmp 11, .tmp 13]) rfl ?_); at_builtin; refine Kd.R_append_rows k35 (w0 := w) w.heap.size rfl (.tmp 11) (.tmp 13) 24 35 (.agg #[(.string ⟨#[]⟩), (.string ⟨#[]⟩), (.bool false), (.int .i64 0)]) 48 rfl Try.underlying24 info35 rfl (by decide) (by omega) v160 y159 l0_0 _ _ _ (fun _ => True) (fun _ => False) rfl rfl ?aO ?aR (fun _ _ h => h) (fun _ h => h.elim) ?aF ?aB ?aS ?aL ?_; (case aR => repeat (first | exact (Kd.C_below HR0_0.out HB.out) | (with_reducible refine Kd.C_alloc ?_ _) | (with_reducible refine Kd.C_drewN ?_ _) | (with_reducible refine Kd.C_drew ?_))); (case aB => exact (mH3 HB.out GE156.out GE157.out GE158.out)); (case aF => exact (fun _ _ => trivial)); (case aO => exact (mR HO161.out)); (case aS => exact (below_size (mH3 HB.out GE156.out GE157.out GE158.out))); (case aL => have := LMc4.out; omega); intro v163 w14 ho hb hg hat; rw [← Ny162.out] at ho; replace BK156 := mS (blk_grown (g := gb156) (o := .cells #[.slice A0_0 l0_0.length c0_0] 26 (0, 0)) (mK BK156.out) hg (Kd.R_ne HO161.out BK156.out (by decide))); replace BK157 := mS (blk_grown (g := gb157) (o := .cells #[.string a1_0, .string a1_1, .bool a1_2] 33 (0, 0)) (mK BK157.out) hg (Kd.R_ne HO161.out BK157.out (by decide))); replace BK158 := mS (blk_grown (g := gb158) (o := .cells #[.slice none 0 0] 26 (0, 0)) (mK BK158.out) hg (Kd.R_ne HO161.out BK158.out (by decide))); replace HB := mS (hb); have HO164 := mS (ho); clear HO161; clear ho hb hg hat; obtain ⟨Ao15, co15, eo15⟩ := Kd.R_slice HO164.out; subst eo15) | ((with_reducible refine gate_dst (N := 8) rfl ?_); refine box_event ?hg (N := 8) ?hd (cs := #[.slice none 0 0]) (t := 26) ?hr ?_; (case hd => rfl); (case hg => rfl); (case hr => first | (go_simp; done) | (go_simp; rfl)); intro gb165 hg w16 hbox hb; replace HO164 := mS (Kd.R_below (mR HO164.out) hb); have BK165 := mS (hbox); have GW165 := mG hg (mH3 HB.out GE156.out GE157.out GE158.out); have GE165 := mG hg (mH3 HB.out GE156.out GE157.out GE158.out); replace HB := mS (below_step (mH3 HB.out GE156.out GE157.out GE158.out) hb); have NB156_165 := mNl hg BK156.out; have NB165_156 := mNg hg BK156.out; replace BK156 := mB BK156 hb; have NB157_165 := mNl hg BK157.out; have NB165_157 := mNg hg BK157.out; replace BK157 := mB BK157 hb; have NB158_165 := mNl hg BK158.out; have NB165_158 := mNg hg BK158.out; replace BK158 := mB BK158 hb; clear hb hbox hg; have hnb17 := NB165_156.out; have hnc17 := NB156_165.out; have hnb18 := NB165_157.out; have hnc18 := NB157_165.out; have hnb19 := NB165_158.out; have hnc19 := NB158_165.out; have hcz20_0 : w16.cell? ⟨gb165, 0, none⟩ = some (.slice none 0 0) := (blk_cell BK165.out 0).trans rfl; have hfz20_0 := blk_frozen BK165.out 0))
  repeat (go_quiet (first | ((with_reducible refine gate_dst (N := 3) rfl ?_); refine box_event ?hg (N := 3) ?hd (cs := #[.slice A0_0 l0_0.length c0_0]) (t := 26) ?hr ?_; (case hd => rfl); (case hg => rfl); (case hr => first | (go_simp; done) | (go_simp; rfl)); intro gb156 hg w6 hbox hb; have BK156 := mS (hbox); have GW156 := mG hg (mH HB.out); have GE156 := mG hg (mH HB.out); replace HB := mS (below_step (mH HB.out) hb); clear hb hbox hg) | ((with_reducible refine gate_dst (N := 4) rfl ?_); refine box_event ?hg (N := 4) ?hd (cs := #[.string a1_0, .string a1_1, .bool a1_2]) (t := 33) ?hr ?_; (case hd => rfl); (case hg => rfl); (case hr => first | (go_simp; done) | (go_simp; rfl)); intro gb157 hg w7 hbox hb; have BK157 := mS (hbox); have GW157 := mG hg (mH1 HB.out GE156.out); have GE157 := mG hg (mH1 HB.out GE156.out); replace HB := mS (below_step (mH1 HB.out GE156.out) hb); have NB156_157 := mNl hg BK156.out; have NB157_156 := mNg hg BK156.out; replace BK156 := mB BK156 hb; clear hb hbox hg) | ((with_reducible refine gate_dst (N := 6) rfl ?_); refine box_event ?hg (N := 6) ?hd (cs := #[.slice none 0 0]) (t := 26) ?hr ?_; (case hd => rfl); (case hg => rfl); (case hr => first | (go_simp; done) | (go_simp; rfl)); intro gb158 hg w8 hbox hb; have BK158 := mS (hbox); have GW158 := mG hg (mH2 HB.out GE156.out GE157.out); have GE158 := mG hg (mH2 HB.out GE156.out GE157.out); replace HB := mS (below_step (mH2 HB.out GE156.out GE157.out) hb); have NB156_158 := mNl hg BK156.out; have NB158_156 := mNg hg BK156.out; replace BK156 := mB BK156 hb; have NB157_158 := mNl hg BK157.out; have NB158_157 := mNg hg BK157.out; replace BK157 := mB BK157 hb; clear hb hbox hg) | ((with_reducible refine gate_dst (N := 11) rfl ?_); refine Kd.R_lit k35 _ 35 ?hg (N := 11) ?hd (xs := ([] : List (S35))) (inner := []) (ok := fun _ => True) (okp := fun _ => True) ?hr ?hp (fun _ hk => hk) trivial (Below.refl _ _) (Nat.le_refl _) (by simp) ?_; (case hd => rfl); (case hg => rfl); (case hr => first | (go_simp; done) | (go_simp; rfl)); (case hp => exact (Reps.none _ _)); intro v160 w9 ho10 hb hg_ hnew_; clear hg_ hnew_; (first | rw [← Ny159.out] at ho10 | (simp only [Int.reduceToNat] at ho10; rw [← Ny159.out] at ho10)); have HO161 := mS (Kd.R_lower ho10 (below_size (mH3 HB.out GE156.out GE157.out GE158.out))); replace BK156 := mB BK156 hb; replace BK157 := mB BK157 hb; replace BK158 := mB BK158 hb; replace HB := mS (below_step (mH3 HB.out GE156.out GE157.out GE158.out) hb); clear hb ho10; have hnb11 := NB156_157.out; have hnc11 := NB157_156.out; have hnb12 := NB156_158.out; have hnc12 := NB158_156.out; have hcz13_0 : w9.cell? ⟨gb156, 0, none⟩ = some (.slice A0_0 l0_0.length c0_0) := (blk_cell BK156.out 0).trans rfl; have hfz13_0 := blk_frozen BK156.out 0) | ((with_reducible refine gate_builtin (b := .append) (xs := #[.tmp 11, .tmp 13]) rfl ?_); at_builtin; refine Kd.R_append_rows k35 (w0 := w) w.heap.size rfl (.tmp 11) (.tmp 13) 24 35 (.agg #[(.string ⟨#[]⟩), (.string ⟨#[]⟩), (.bool false), (.int .i64 0)]) 48 rfl Try.underlying24 info35 rfl (by decide) (by omega) v160 y159 l0_0 _ _ _ (fun _ => True) (fun _ => False) rfl rfl ?aO ?aR (fun _ _ h => h) (fun _ h => h.elim) ?aF ?aB ?aS ?aL ?_; (case aR => repeat (first | exact (Kd.C_below HR0_0.out HB.out) | (with_reducible refine Kd.C_alloc ?_ _) | (with_reducible refine Kd.C_drewN ?_ _) | (with_reducible refine Kd.C_drew ?_))); (case aB => exact (mH3 HB.out GE156.out GE157.out GE158.out)); (case aF => exact (fun _ _ => trivial)); (case aO => exact (mR HO161.out)); (case aS => exact (below_size (mH3 HB.out GE156.out GE157.out GE158.out))); (case aL => have := LMc4.out; omega); intro v163 w14 ho hb hg hat; rw [← Ny162.out] at ho; replace BK156 := mS (blk_grown (g := gb156) (o := .cells #[.slice A0_0 l0_0.length c0_0] 26 (0, 0)) (mK BK156.out) hg (Kd.R_ne HO161.out BK156.out (by decide))); replace BK157 := mS (blk_grown (g := gb157) (o := .cells #[.string a1_0, .string a1_1, .bool a1_2] 33 (0, 0)) (mK BK157.out) hg (Kd.R_ne HO161.out BK157.out (by decide))); replace BK158 := mS (blk_grown (g := gb158) (o := .cells #[.slice none 0 0] 26 (0, 0)) (mK BK158.out) hg (Kd.R_ne HO161.out BK158.out (by decide))); replace HB := mS (hb); have HO164 := mS (ho); clear HO161; clear ho hb hg hat; obtain ⟨Ao15, co15, eo15⟩ := Kd.R_slice HO164.out; subst eo15) | ((with_reducible refine gate_dst (N := 8) rfl ?_); refine box_event ?hg (N := 8) ?hd (cs := #[.slice none 0 0]) (t := 26) ?hr ?_; (case hd => rfl); (case hg => rfl); (case hr => first | (go_simp; done) | (go_simp; rfl)); intro gb165 hg w16 hbox hb; replace HO164 := mS (Kd.R_below (mR HO164.out) hb); have BK165 := mS (hbox); have GW165 := mG hg (mH3 HB.out GE156.out GE157.out GE158.out); have GE165 := mG hg (mH3 HB.out GE156.out GE157.out GE158.out); replace HB := mS (below_step (mH3 HB.out GE156.out GE157.out GE158.out) hb); have NB156_165 := mNl hg BK156.out; have NB165_156 := mNg hg BK156.out; replace BK156 := mB BK156 hb; have NB157_165 := mNl hg BK157.out; have NB165_157 := mNg hg BK157.out; replace BK157 := mB BK157 hb; have NB158_165 := mNl hg BK158.out; have NB165_158 := mNg hg BK158.out; replace BK158 := mB BK158 hb; clear hb hbox hg; have hnb17 := NB165_156.out; have hnc17 := NB156_165.out; have hnb18 := NB165_157.out; have hnc18 := NB157_165.out; have hnb19 := NB165_158.out; have hnc19 := NB158_165.out; have hcz20_0 : w16.cell? ⟨gb165, 0, none⟩ = some (.slice none 0 0) := (blk_cell BK165.out 0).trans rfl; have hfz20_0 := blk_frozen BK165.out 0)); go_upto_region 2 with (first | ((with_reducible refine gate_dst (N := 3) rfl ?_); refine box_event ?hg (N := 3) ?hd (cs := #[.slice A0_0 l0_0.length c0_0]) (t := 26) ?hr ?_; (case hd => rfl); (case hg => rfl); (case hr => first | (go_simp; done) | (go_simp; rfl)); intro gb156 hg w6 hbox hb; have BK156 := mS (hbox); have GW156 := mG hg (mH HB.out); have GE156 := mG hg (mH HB.out); replace HB := mS (below_step (mH HB.out) hb); clear hb hbox hg) | ((with_reducible refine gate_dst (N := 4) rfl ?_); refine box_event ?hg (N := 4) ?hd (cs := #[.string a1_0, .string a1_1, .bool a1_2]) (t := 33) ?hr ?_; (case hd => rfl); (case hg => rfl); (case hr => first | (go_simp; done) | (go_simp; rfl)); intro gb157 hg w7 hbox hb; have BK157 := mS (hbox); have GW157 := mG hg (mH1 HB.out GE156.out); have GE157 := mG hg (mH1 HB.out GE156.out); replace HB := mS (below_step (mH1 HB.out GE156.out) hb); have NB156_157 := mNl hg BK156.out; have NB157_156 := mNg hg BK156.out; replace BK156 := mB BK156 hb; clear hb hbox hg) | ((with_reducible refine gate_dst (N := 6) rfl ?_); refine box_event ?hg (N := 6) ?hd (cs := #[.slice none 0 0]) (t := 26) ?hr ?_; (case hd => rfl); (case hg => rfl); (case hr => first | (go_simp; done) | (go_simp; rfl)); intro gb158 hg w8 hbox hb; have BK158 := mS (hbox); have GW158 := mG hg (mH2 HB.out GE156.out GE157.out); have GE158 := mG hg (mH2 HB.out GE156.out GE157.out); replace HB := mS (below_step (mH2 HB.out GE156.out GE157.out) hb); have NB156_158 := mNl hg BK156.out; have NB158_156 := mNg hg BK156.out; replace BK156 := mB BK156 hb; have NB157_158 := mNl hg BK157.out; have NB158_157 := mNg hg BK157.out; replace BK157 := mB BK157 hb; clear hb hbox hg) | ((with_reducible refine gate_dst (N := 11) rfl ?_); refine Kd.R_lit k35 _ 35 ?hg (N := 11) ?hd (xs := ([] : List (S35))) (inner := []) (ok := fun _ => True) (okp := fun _ => True) ?hr ?hp (fun _ hk => hk) trivial (Below.refl _ _) (Nat.le_refl _) (by simp) ?_; (case hd => rfl); (case hg => rfl); (case hr => first | (go_simp; done) | (go_simp; rfl)); (case hp => exact (Reps.none _ _)); intro v160 w9 ho10 hb hg_ hnew_; clear hg_ hnew_; (first | rw [← Ny159.out] at ho10 | (simp only [Int.reduceToNat] at ho10; rw [← Ny159.out] at ho10)); have HO161 := mS (Kd.R_lower ho10 (below_size (mH3 HB.out GE156.out GE157.out GE158.out))); replace BK156 := mB BK156 hb; replace BK157 := mB BK157 hb; replace BK158 := mB BK158 hb; replace HB := mS (below_step (mH3 HB.out GE156.out GE157.out GE158.out) hb); clear hb ho10; have hnb11 := NB156_157.out; have hnc11 := NB157_156.out; have hnb12 := NB156_158.out; have hnc12 := NB158_156.out; have hcz13_0 : w9.cell? ⟨gb156, 0, none⟩ = some (.slice A0_0 l0_0.length c0_0) := (blk_cell BK156.out 0).trans rfl; have hfz13_0 := blk_frozen BK156.out 0) | ((with_reducible refine gate_builtin (b := .append) (xs := #[.tmp 11, .tmp 13]) rfl ?_); at_builtin; refine Kd.R_append_rows k35 (w0 := w) w.heap.size rfl (.tmp 11) (.tmp 13) 24 35 (.agg #[(.string ⟨#[]⟩), (.string ⟨#[]⟩), (.bool false), (.int .i64 0)]) 48 rfl Try.underlying24 info35 rfl (by decide) (by omega) v160 y159 l0_0 _ _ _ (fun _ => True) (fun _ => False) rfl rfl ?aO ?aR (fun _ _ h => h) (fun _ h => h.elim) ?aF ?aB ?aS ?aL ?_; (case aR => repeat (first | exact (Kd.C_below HR0_0.out HB.out) | (with_reducible refine Kd.C_alloc ?_ _) | (with_reducible refine Kd.C_drewN ?_ _) | (with_reducible refine Kd.C_drew ?_))); (case aB => exact (mH3 HB.out GE156.out GE157.out GE158.out)); (case aF => exact (fun _ _ => trivial)); (case aO => exact (mR HO161.out)); (case aS => exact (below_size (mH3 HB.out GE156.out GE157.out GE158.out))); (case aL => have := LMc4.out; omega); intro v163 w14 ho hb hg hat; rw [← Ny162.out] at ho; replace BK156 := mS (blk_grown (g := gb156) (o := .cells #[.slice A0_0 l0_0.length c0_0] 26 (0, 0)) (mK BK156.out) hg (Kd.R_ne HO161.out BK156.out (by decide))); replace BK157 := mS (blk_grown (g := gb157) (o := .cells #[.string a1_0, .string a1_1, .bool a1_2] 33 (0, 0)) (mK BK157.out) hg (Kd.R_ne HO161.out BK157.out (by decide))); replace BK158 := mS (blk_grown (g := gb158) (o := .cells #[.slice none 0 0] 26 (0, 0)) (mK BK158.out) hg (Kd.R_ne HO161.out BK158.out (by decide))); replace HB := mS (hb); have HO164 := mS (ho); clear HO161; clear ho hb hg hat; obtain ⟨Ao15, co15, eo15⟩ := Kd.R_slice HO164.out; subst eo15) | ((with_reducible refine gate_dst (N := 8) rfl ?_); refine box_event ?hg (N := 8) ?hd (cs := #[.slice none 0 0]) (t := 26) ?hr ?_; (case hd => rfl); (case hg => rfl); (case hr => first | (go_simp; done) | (go_simp; rfl)); intro gb165 hg w16 hbox hb; replace HO164 := mS (Kd.R_below (mR HO164.out) hb); have BK165 := mS (hbox); have GW165 := mG hg (mH3 HB.out GE156.out GE157.out GE158.out); have GE165 := mG hg (mH3 HB.out GE156.out GE157.out GE158.out); replace HB := mS (below_step (mH3 HB.out GE156.out GE157.out GE158.out) hb); have NB156_165 := mNl hg BK156.out; have NB165_156 := mNg hg BK156.out; replace BK156 := mB BK156 hb; have NB157_165 := mNl hg BK157.out; have NB165_157 := mNg hg BK157.out; replace BK157 := mB BK157 hb; have NB158_165 := mNl hg BK158.out; have NB165_158 := mNg hg BK158.out; replace BK158 := mB BK158 hb; clear hb hbox hg; have hnb17 := NB165_156.out; have hnc17 := NB156_165.out; have hnb18 := NB165_157.out; have hnc18 := NB157_165.out; have hnb19 := NB165_158.out; have hnc19 := NB158_165.out; have hcz20_0 : w16.cell? ⟨gb165, 0, none⟩ = some (.slice none 0 0) := (blk_cell BK165.out 0).trans rfl; have hfz20_0 := blk_frozen BK165.out 0)))
  (try simp only [Act.put, zA, zB, zC])
  go_cut [28] (fun v28 wc => ∃ (kq : Nat) (x28_4 : Bool), v28 = .bool x28_4 ∧ Aside0 (spec_MemPut.j0 kq a2 x28_4 a1_0 a1_1 a1_2 y162 = some (r1, r2)) ∧ Aside0 (kq ≤ k) ∧ Aside0 (Kd.R k35 35 wc w.heap.size (fun _ => True) (.slice Ao15 y162.length co15) y162) ∧ Aside0 (wc.heap[gb156]? = some (.cells #[(.slice A0_0 l0_0.length c0_0)] 26 (0, 0))) ∧ Aside0 (wc.heap[gb157]? = some (.cells #[.string a1_0, .string a1_1, .bool a1_2] 33 (0, 0))) ∧ Aside0 (wc.heap[gb158]? = some (.cells #[(.slice none 0 0)] 26 (0, 0))) ∧ Aside0 (wc.heap[gb165]? = some (.cells #[(.slice Ao15 y162.length co15)] 26 (0, 0))) ∧ Aside0 (Below w.heap.size w wc))
  case first =>
   have H := HC5.out
   clear HC5
   replace H := Option.bind_eq_some_iff.mp H
   obtain ⟨t166, A210, H⟩ := H
   replace H : (if t166 = true then ((spec_PairOk.f a1_0 a1_1 a1_2).bind fun t167 => (if t167 = true then ((spec_l1In.f a2 1 4).bind fun t168 => (spec_MemPut.j0 k a2 (!t168) a1_0 a1_1 a1_2 y162)) else (spec_MemPut.j0 k a2 true a1_0 a1_1 a1_2 y162))) else (spec_MemPut.j0 k a2 true a1_0 a1_1 a1_2 y162)) = some (r1, r2) := H
   have A21 := mS A210
   clear A210
   by_cases c22 : t166 = true
   ·subst c22
    have H1 : ((spec_PairOk.f a1_0 a1_1 a1_2).bind fun t167 => (if t167 = true then ((spec_l1In.f a2 1 4).bind fun t168 => (spec_MemPut.j0 k a2 (!t168) a1_0 a1_1 a1_2 y162)) else (spec_MemPut.j0 k a2 true a1_0 a1_1 a1_2 y162))) = some (r1, r2) := by rw [if_pos rfl] at H; exact H
    clear H
    have H := H1
    clear H1
    replace H := Option.bind_eq_some_iff.mp H
    obtain ⟨t167, A230, H⟩ := H
    replace H : (if t167 = true then ((spec_l1In.f a2 1 4).bind fun t168 => (spec_MemPut.j0 k a2 (!t168) a1_0 a1_1 a1_2 y162)) else (spec_MemPut.j0 k a2 true a1_0 a1_1 a1_2 y162)) = some (r1, r2) := H
    have A23 := mS A230
    clear A230
    by_cases c24 : t167 = true
    ·subst c24
     have H1 : ((spec_l1In.f a2 1 4).bind fun t168 => (spec_MemPut.j0 k a2 (!t168) a1_0 a1_1 a1_2 y162)) = some (r1, r2) := by rw [if_pos rfl] at H; exact H
     clear H
     have H := H1
     clear H1
     replace H := Option.bind_eq_some_iff.mp H
     obtain ⟨t168, A250, H⟩ := H
     replace H : (spec_MemPut.j0 k a2 (!t168) a1_0 a1_1 a1_2 y162) = some (r1, r2) := H
     have A25 := mS A250
     clear A250
     have H' := mS H
     clear H
     have hnb26 := NB156_157.out
     have hnc26 := NB157_156.out
     have hnb27 := NB156_158.out
     have hnc27 := NB158_156.out
     have hnb28 := NB156_165.out
     have hnc28 := NB165_156.out
     have hcz29_0 : w16.cell? ⟨gb156, 0, none⟩ = some (.slice A0_0 l0_0.length c0_0) := (blk_cell BK156.out 0).trans rfl
     have hfz29_0 := blk_frozen BK156.out 0
     go_wp2_with (first | (go_at_call 17; (with_reducible refine (spec_MemOk.calls k _ _ l0_0 true _ ?side1 ?side2 A21.out).mono ?_); (case side1 => exact Kd.C_below HR0_0.out (mH4 HB.out GE156.out GE157.out GE158.out GE165.out)); (case side2 => exact HC0_0.out); rintro e w30 ⟨rfl, hb⟩; replace HO164 := mS (Kd.R_below (by (with_reducible repeat (first | apply Kd.R_alloc | apply Kd.R_drewN | apply Kd.R_drew)); exact (Kd.R_mono (Kd.R_far (p := ⟨gb165, 0, none⟩) (Kd.R_types HO164.out BK165.out (by decide)) (fun _ hk => hk.2) (.slice Ao15 y162.length co15)) (fun _ h_ => h_.1))) hb); replace BK156 := mS (blk_below (g := gb156) (o := .cells #[.slice A0_0 l0_0.length c0_0] 26 (0, 0)) (by (with_reducible repeat (first | refine blk_drewN ?_ _ | refine blk_drew ?_ | refine blk_alloc ?_ _)); refine blk_far ?_ NB156_165.out _; (with_reducible repeat (first | refine blk_drewN ?_ _ | refine blk_drew ?_ | refine blk_alloc ?_ _)); exact BK156.out) hb); replace BK157 := mS (blk_below (g := gb157) (o := .cells #[.string a1_0, .string a1_1, .bool a1_2] 33 (0, 0)) (by (with_reducible repeat (first | refine blk_drewN ?_ _ | refine blk_drew ?_ | refine blk_alloc ?_ _)); refine blk_far ?_ NB157_165.out _; (with_reducible repeat (first | refine blk_drewN ?_ _ | refine blk_drew ?_ | refine blk_alloc ?_ _)); exact BK157.out) hb); replace BK158 := mS (blk_below (g := gb158) (o := .cells #[.slice none 0 0] 26 (0, 0)) (by (with_reducible repeat (first | refine blk_drewN ?_ _ | refine blk_drew ?_ | refine blk_alloc ?_ _)); refine blk_far ?_ NB158_165.out _; (with_reducible repeat (first | refine blk_drewN ?_ _ | refine blk_drew ?_ | refine blk_alloc ?_ _)); exact BK158.out) hb); replace BK165 := mS (blk_below (g := gb165) (o := .cells #[.slice Ao15 y162.length co15] 26 (0, 0)) (by (with_reducible repeat (first | refine blk_drewN ?_ _ | refine blk_drew ?_ | refine blk_alloc ?_ _)); refine blk_put (cs := #[.slice none 0 0]) ?_ 0 _ rfl; (with_reducible repeat (first | refine blk_drewN ?_ _ | refine blk_drew ?_ | refine blk_alloc ?_ _)); exact BK165.out) hb); replace HB := mS (below_step (mH4 HB.out GE156.out GE157.out GE158.out GE165.out) hb); (try clear hb); (try clear hb2); (try clear hk); (try clear hi); have hnb31 := NB157_158.out; have hnc31 := NB158_157.out; have hnb32 := NB157_165.out; have hnc32 := NB165_157.out; have hcz33_0 : w30.cell? ⟨gb157, 0, none⟩ = some (.string a1_0) := (blk_cell BK157.out 0).trans rfl; have hcz33_1 : w30.cell? ⟨gb157, 1, none⟩ = some (.string a1_1) := (blk_cell BK157.out 1).trans rfl; have hcz33_2 : w30.cell? ⟨gb157, 2, none⟩ = some (.bool a1_2) := (blk_cell BK157.out 2).trans rfl; have hfz33_0 := blk_frozen BK157.out 0; have hfz33_1 := blk_frozen BK157.out 1; have hfz33_2 := blk_frozen BK157.out 2) | (go_at_call 75; (with_reducible refine (spec_PairOk.calls a1_0 a1_1 a1_2 true _ A23.out).mono ?_); rintro e w34 ⟨rfl, hb⟩; replace HO164 := mS (Kd.R_below (mR HO164.out) hb); replace BK156 := mB BK156 hb; replace BK157 := mB BK157 hb; replace BK158 := mB BK158 hb; replace BK165 := mB BK165 hb; replace HB := mS (below_step (mH4 HB.out GE156.out GE157.out GE158.out GE165.out) hb); (try clear hb); (try clear hb2); (try clear hk); (try clear hi)) | (go_at_call 76; (with_reducible refine (spec_l1In.calls a2 1 4 t168 _ A25.out).mono ?_); rintro e w' ⟨rfl, ⟨nd, rfl⟩⟩; (try first | exact ⟨rfl, _, World.drewN_drewN _ _ _⟩ | exact ⟨rfl, _, Eq.trans (World.drewN_drewN _ _ _) (congrArg (World.drewN _) (Nat.add_assoc _ _ _))⟩)))
     repeat (go_quiet (first | (go_at_call 17; (with_reducible refine (spec_MemOk.calls k _ _ l0_0 true _ ?side1 ?side2 A21.out).mono ?_); (case side1 => exact Kd.C_below HR0_0.out (mH4 HB.out GE156.out GE157.out GE158.out GE165.out)); (case side2 => exact HC0_0.out); rintro e w30 ⟨rfl, hb⟩; replace HO164 := mS (Kd.R_below (by (with_reducible repeat (first | apply Kd.R_alloc | apply Kd.R_drewN | apply Kd.R_drew)); exact (Kd.R_mono (Kd.R_far (p := ⟨gb165, 0, none⟩) (Kd.R_types HO164.out BK165.out (by decide)) (fun _ hk => hk.2) (.slice Ao15 y162.length co15)) (fun _ h_ => h_.1))) hb); replace BK156 := mS (blk_below (g := gb156) (o := .cells #[.slice A0_0 l0_0.length c0_0] 26 (0, 0)) (by (with_reducible repeat (first | refine blk_drewN ?_ _ | refine blk_drew ?_ | refine blk_alloc ?_ _)); refine blk_far ?_ NB156_165.out _; (with_reducible repeat (first | refine blk_drewN ?_ _ | refine blk_drew ?_ | refine blk_alloc ?_ _)); exact BK156.out) hb); replace BK157 := mS (blk_below (g := gb157) (o := .cells #[.string a1_0, .string a1_1, .bool a1_2] 33 (0, 0)) (by (with_reducible repeat (first | refine blk_drewN ?_ _ | refine blk_drew ?_ | refine blk_alloc ?_ _)); refine blk_far ?_ NB157_165.out _; (with_reducible repeat (first | refine blk_drewN ?_ _ | refine blk_drew ?_ | refine blk_alloc ?_ _)); exact BK157.out) hb); replace BK158 := mS (blk_below (g := gb158) (o := .cells #[.slice none 0 0] 26 (0, 0)) (by (with_reducible repeat (first | refine blk_drewN ?_ _ | refine blk_drew ?_ | refine blk_alloc ?_ _)); refine blk_far ?_ NB158_165.out _; (with_reducible repeat (first | refine blk_drewN ?_ _ | refine blk_drew ?_ | refine blk_alloc ?_ _)); exact BK158.out) hb); replace BK165 := mS (blk_below (g := gb165) (o := .cells #[.slice Ao15 y162.length co15] 26 (0, 0)) (by (with_reducible repeat (first | refine blk_drewN ?_ _ | refine blk_drew ?_ | refine blk_alloc ?_ _)); refine blk_put (cs := #[.slice none 0 0]) ?_ 0 _ rfl; (with_reducible repeat (first | refine blk_drewN ?_ _ | refine blk_drew ?_ | refine blk_alloc ?_ _)); exact BK165.out) hb); replace HB := mS (below_step (mH4 HB.out GE156.out GE157.out GE158.out GE165.out) hb); (try clear hb); (try clear hb2); (try clear hk); (try clear hi); have hnb31 := NB157_158.out; have hnc31 := NB158_157.out; have hnb32 := NB157_165.out; have hnc32 := NB165_157.out; have hcz33_0 : w30.cell? ⟨gb157, 0, none⟩ = some (.string a1_0) := (blk_cell BK157.out 0).trans rfl; have hcz33_1 : w30.cell? ⟨gb157, 1, none⟩ = some (.string a1_1) := (blk_cell BK157.out 1).trans rfl; have hcz33_2 : w30.cell? ⟨gb157, 2, none⟩ = some (.bool a1_2) := (blk_cell BK157.out 2).trans rfl; have hfz33_0 := blk_frozen BK157.out 0; have hfz33_1 := blk_frozen BK157.out 1; have hfz33_2 := blk_frozen BK157.out 2) | (go_at_call 75; (with_reducible refine (spec_PairOk.calls a1_0 a1_1 a1_2 true _ A23.out).mono ?_); rintro e w34 ⟨rfl, hb⟩; replace HO164 := mS (Kd.R_below (mR HO164.out) hb); replace BK156 := mB BK156 hb; replace BK157 := mB BK157 hb; replace BK158 := mB BK158 hb; replace BK165 := mB BK165 hb; replace HB := mS (below_step (mH4 HB.out GE156.out GE157.out GE158.out GE165.out) hb); (try clear hb); (try clear hb2); (try clear hk); (try clear hi)) | (go_at_call 76; (with_reducible refine (spec_l1In.calls a2 1 4 t168 _ A25.out).mono ?_); rintro e w' ⟨rfl, ⟨nd, rfl⟩⟩; (try first | exact ⟨rfl, _, World.drewN_drewN _ _ _⟩ | exact ⟨rfl, _, Eq.trans (World.drewN_drewN _ _ _) (congrArg (World.drewN _) (Nat.add_assoc _ _ _))⟩))); try go_wp2_with (first | (go_at_call 17; (with_reducible refine (spec_MemOk.calls k _ _ l0_0 true _ ?side1 ?side2 A21.out).mono ?_); (case side1 => exact Kd.C_below HR0_0.out (mH4 HB.out GE156.out GE157.out GE158.out GE165.out)); (case side2 => exact HC0_0.out); rintro e w30 ⟨rfl, hb⟩; replace HO164 := mS (Kd.R_below (by (with_reducible repeat (first | apply Kd.R_alloc | apply Kd.R_drewN | apply Kd.R_drew)); exact (Kd.R_mono (Kd.R_far (p := ⟨gb165, 0, none⟩) (Kd.R_types HO164.out BK165.out (by decide)) (fun _ hk => hk.2) (.slice Ao15 y162.length co15)) (fun _ h_ => h_.1))) hb); replace BK156 := mS (blk_below (g := gb156) (o := .cells #[.slice A0_0 l0_0.length c0_0] 26 (0, 0)) (by (with_reducible repeat (first | refine blk_drewN ?_ _ | refine blk_drew ?_ | refine blk_alloc ?_ _)); refine blk_far ?_ NB156_165.out _; (with_reducible repeat (first | refine blk_drewN ?_ _ | refine blk_drew ?_ | refine blk_alloc ?_ _)); exact BK156.out) hb); replace BK157 := mS (blk_below (g := gb157) (o := .cells #[.string a1_0, .string a1_1, .bool a1_2] 33 (0, 0)) (by (with_reducible repeat (first | refine blk_drewN ?_ _ | refine blk_drew ?_ | refine blk_alloc ?_ _)); refine blk_far ?_ NB157_165.out _; (with_reducible repeat (first | refine blk_drewN ?_ _ | refine blk_drew ?_ | refine blk_alloc ?_ _)); exact BK157.out) hb); replace BK158 := mS (blk_below (g := gb158) (o := .cells #[.slice none 0 0] 26 (0, 0)) (by (with_reducible repeat (first | refine blk_drewN ?_ _ | refine blk_drew ?_ | refine blk_alloc ?_ _)); refine blk_far ?_ NB158_165.out _; (with_reducible repeat (first | refine blk_drewN ?_ _ | refine blk_drew ?_ | refine blk_alloc ?_ _)); exact BK158.out) hb); replace BK165 := mS (blk_below (g := gb165) (o := .cells #[.slice Ao15 y162.length co15] 26 (0, 0)) (by (with_reducible repeat (first | refine blk_drewN ?_ _ | refine blk_drew ?_ | refine blk_alloc ?_ _)); refine blk_put (cs := #[.slice none 0 0]) ?_ 0 _ rfl; (with_reducible repeat (first | refine blk_drewN ?_ _ | refine blk_drew ?_ | refine blk_alloc ?_ _)); exact BK165.out) hb); replace HB := mS (below_step (mH4 HB.out GE156.out GE157.out GE158.out GE165.out) hb); (try clear hb); (try clear hb2); (try clear hk); (try clear hi); have hnb31 := NB157_158.out; have hnc31 := NB158_157.out; have hnb32 := NB157_165.out; have hnc32 := NB165_157.out; have hcz33_0 : w30.cell? ⟨gb157, 0, none⟩ = some (.string a1_0) := (blk_cell BK157.out 0).trans rfl; have hcz33_1 : w30.cell? ⟨gb157, 1, none⟩ = some (.string a1_1) := (blk_cell BK157.out 1).trans rfl; have hcz33_2 : w30.cell? ⟨gb157, 2, none⟩ = some (.bool a1_2) := (blk_cell BK157.out 2).trans rfl; have hfz33_0 := blk_frozen BK157.out 0; have hfz33_1 := blk_frozen BK157.out 1; have hfz33_2 := blk_frozen BK157.out 2) | (go_at_call 75; (with_reducible refine (spec_PairOk.calls a1_0 a1_1 a1_2 true _ A23.out).mono ?_); rintro e w34 ⟨rfl, hb⟩; replace HO164 := mS (Kd.R_below (mR HO164.out) hb); replace BK156 := mB BK156 hb; replace BK157 := mB BK157 hb; replace BK158 := mB BK158 hb; replace BK165 := mB BK165 hb; replace HB := mS (below_step (mH4 HB.out GE156.out GE157.out GE158.out GE165.out) hb); (try clear hb); (try clear hb2); (try clear hk); (try clear hi)) | (go_at_call 76; (with_reducible refine (spec_l1In.calls a2 1 4 t168 _ A25.out).mono ?_); rintro e w' ⟨rfl, ⟨nd, rfl⟩⟩; (try first | exact ⟨rfl, _, World.drewN_drewN _ _ _⟩ | exact ⟨rfl, _, Eq.trans (World.drewN_drewN _ _ _) (congrArg (World.drewN _) (Nat.add_assoc _ _ _))⟩))))
     go_meet
     case rel => exact ⟨_, (!t168), (by first | rfl | (simp; done) | (simp [*]; done)), H', ⟨by first | omega | exact Nat.le_refl _⟩, ⟨by (with_reducible repeat (first | apply Kd.R_alloc | apply Kd.R_drewN | apply Kd.R_drew)); exact HO164.out⟩, ⟨by (with_reducible repeat (first | refine blk_drewN ?_ _ | refine blk_drew ?_ | refine blk_alloc ?_ _)); exact BK156.out⟩, ⟨by (with_reducible repeat (first | refine blk_drewN ?_ _ | refine blk_drew ?_ | refine blk_alloc ?_ _)); exact BK157.out⟩, ⟨by (with_reducible repeat (first | refine blk_drewN ?_ _ | refine blk_drew ?_ | refine blk_alloc ?_ _)); exact BK158.out⟩, ⟨by (with_reducible repeat (first | refine blk_drewN ?_ _ | refine blk_drew ?_ | refine blk_alloc ?_ _)); exact BK165.out⟩, ⟨(mH4 HB.out GE156.out GE157.out GE158.out GE165.out)⟩⟩
    ·replace c24 := Bool.eq_false_iff.mpr c24
     subst c24
     have H1 : (spec_MemPut.j0 k a2 true a1_0 a1_1 a1_2 y162) = some (r1, r2) := by rw [if_neg (show ¬ (false = true) by decide)] at H; exact H
     clear H
     have H := H1
     clear H1
     have H' := mS H
     clear H
     have hnb35 := NB156_157.out
     have hnc35 := NB157_156.out
     have hnb36 := NB156_158.out
     have hnc36 := NB158_156.out
     have hnb37 := NB156_165.out
     have hnc37 := NB165_156.out
     have hcz38_0 : w16.cell? ⟨gb156, 0, none⟩ = some (.slice A0_0 l0_0.length c0_0) := (blk_cell BK156.out 0).trans rfl
     have hfz38_0 := blk_frozen BK156.out 0
     go_wp2_with (first | (go_at_call 17; (with_reducible refine (spec_MemOk.calls k _ _ l0_0 true _ ?side1 ?side2 A21.out).mono ?_); (case side1 => exact Kd.C_below HR0_0.out (mH4 HB.out GE156.out GE157.out GE158.out GE165.out)); (case side2 => exact HC0_0.out); rintro e w39 ⟨rfl, hb⟩; replace HO164 := mS (Kd.R_below (by (with_reducible repeat (first | apply Kd.R_alloc | apply Kd.R_drewN | apply Kd.R_drew)); exact (Kd.R_mono (Kd.R_far (p := ⟨gb165, 0, none⟩) (Kd.R_types HO164.out BK165.out (by decide)) (fun _ hk => hk.2) (.slice Ao15 y162.length co15)) (fun _ h_ => h_.1))) hb); replace BK156 := mS (blk_below (g := gb156) (o := .cells #[.slice A0_0 l0_0.length c0_0] 26 (0, 0)) (by (with_reducible repeat (first | refine blk_drewN ?_ _ | refine blk_drew ?_ | refine blk_alloc ?_ _)); refine blk_far ?_ NB156_165.out _; (with_reducible repeat (first | refine blk_drewN ?_ _ | refine blk_drew ?_ | refine blk_alloc ?_ _)); exact BK156.out) hb); replace BK157 := mS (blk_below (g := gb157) (o := .cells #[.string a1_0, .string a1_1, .bool a1_2] 33 (0, 0)) (by (with_reducible repeat (first | refine blk_drewN ?_ _ | refine blk_drew ?_ | refine blk_alloc ?_ _)); refine blk_far ?_ NB157_165.out _; (with_reducible repeat (first | refine blk_drewN ?_ _ | refine blk_drew ?_ | refine blk_alloc ?_ _)); exact BK157.out) hb); replace BK158 := mS (blk_below (g := gb158) (o := .cells #[.slice none 0 0] 26 (0, 0)) (by (with_reducible repeat (first | refine blk_drewN ?_ _ | refine blk_drew ?_ | refine blk_alloc ?_ _)); refine blk_far ?_ NB158_165.out _; (with_reducible repeat (first | refine blk_drewN ?_ _ | refine blk_drew ?_ | refine blk_alloc ?_ _)); exact BK158.out) hb); replace BK165 := mS (blk_below (g := gb165) (o := .cells #[.slice Ao15 y162.length co15] 26 (0, 0)) (by (with_reducible repeat (first | refine blk_drewN ?_ _ | refine blk_drew ?_ | refine blk_alloc ?_ _)); refine blk_put (cs := #[.slice none 0 0]) ?_ 0 _ rfl; (with_reducible repeat (first | refine blk_drewN ?_ _ | refine blk_drew ?_ | refine blk_alloc ?_ _)); exact BK165.out) hb); replace HB := mS (below_step (mH4 HB.out GE156.out GE157.out GE158.out GE165.out) hb); (try clear hb); (try clear hb2); (try clear hk); (try clear hi); have hnb40 := NB157_158.out; have hnc40 := NB158_157.out; have hnb41 := NB157_165.out; have hnc41 := NB165_157.out; have hcz42_0 : w39.cell? ⟨gb157, 0, none⟩ = some (.string a1_0) := (blk_cell BK157.out 0).trans rfl; have hcz42_1 : w39.cell? ⟨gb157, 1, none⟩ = some (.string a1_1) := (blk_cell BK157.out 1).trans rfl; have hcz42_2 : w39.cell? ⟨gb157, 2, none⟩ = some (.bool a1_2) := (blk_cell BK157.out 2).trans rfl; have hfz42_0 := blk_frozen BK157.out 0; have hfz42_1 := blk_frozen BK157.out 1; have hfz42_2 := blk_frozen BK157.out 2) | (go_at_call 75; (with_reducible refine (spec_PairOk.calls a1_0 a1_1 a1_2 false _ A23.out).mono ?_); rintro e w43 ⟨rfl, hb⟩; replace HO164 := mS (Kd.R_below (mR HO164.out) hb); replace BK156 := mB BK156 hb; replace BK157 := mB BK157 hb; replace BK158 := mB BK158 hb; replace BK165 := mB BK165 hb; replace HB := mS (below_step (mH4 HB.out GE156.out GE157.out GE158.out GE165.out) hb); (try clear hb); (try clear hb2); (try clear hk); (try clear hi)))
     repeat (go_quiet (first | (go_at_call 17; (with_reducible refine (spec_MemOk.calls k _ _ l0_0 true _ ?side1 ?side2 A21.out).mono ?_); (case side1 => exact Kd.C_below HR0_0.out (mH4 HB.out GE156.out GE157.out GE158.out GE165.out)); (case side2 => exact HC0_0.out); rintro e w39 ⟨rfl, hb⟩; replace HO164 := mS (Kd.R_below (by (with_reducible repeat (first | apply Kd.R_alloc | apply Kd.R_drewN | apply Kd.R_drew)); exact (Kd.R_mono (Kd.R_far (p := ⟨gb165, 0, none⟩) (Kd.R_types HO164.out BK165.out (by decide)) (fun _ hk => hk.2) (.slice Ao15 y162.length co15)) (fun _ h_ => h_.1))) hb); replace BK156 := mS (blk_below (g := gb156) (o := .cells #[.slice A0_0 l0_0.length c0_0] 26 (0, 0)) (by (with_reducible repeat (first | refine blk_drewN ?_ _ | refine blk_drew ?_ | refine blk_alloc ?_ _)); refine blk_far ?_ NB156_165.out _; (with_reducible repeat (first | refine blk_drewN ?_ _ | refine blk_drew ?_ | refine blk_alloc ?_ _)); exact BK156.out) hb); replace BK157 := mS (blk_below (g := gb157) (o := .cells #[.string a1_0, .string a1_1, .bool a1_2] 33 (0, 0)) (by (with_reducible repeat (first | refine blk_drewN ?_ _ | refine blk_drew ?_ | refine blk_alloc ?_ _)); refine blk_far ?_ NB157_165.out _; (with_reducible repeat (first | refine blk_drewN ?_ _ | refine blk_drew ?_ | refine blk_alloc ?_ _)); exact BK157.out) hb); replace BK158 := mS (blk_below (g := gb158) (o := .cells #[.slice none 0 0] 26 (0, 0)) (by (with_reducible repeat (first | refine blk_drewN ?_ _ | refine blk_drew ?_ | refine blk_alloc ?_ _)); refine blk_far ?_ NB158_165.out _; (with_reducible repeat (first | refine blk_drewN ?_ _ | refine blk_drew ?_ | refine blk_alloc ?_ _)); exact BK158.out) hb); replace BK165 := mS (blk_below (g := gb165) (o := .cells #[.slice Ao15 y162.length co15] 26 (0, 0)) (by (with_reducible repeat (first | refine blk_drewN ?_ _ | refine blk_drew ?_ | refine blk_alloc ?_ _)); refine blk_put (cs := #[.slice none 0 0]) ?_ 0 _ rfl; (with_reducible repeat (first | refine blk_drewN ?_ _ | refine blk_drew ?_ | refine blk_alloc ?_ _)); exact BK165.out) hb); replace HB := mS (below_step (mH4 HB.out GE156.out GE157.out GE158.out GE165.out) hb); (try clear hb); (try clear hb2); (try clear hk); (try clear hi); have hnb40 := NB157_158.out; have hnc40 := NB158_157.out; have hnb41 := NB157_165.out; have hnc41 := NB165_157.out; have hcz42_0 : w39.cell? ⟨gb157, 0, none⟩ = some (.string a1_0) := (blk_cell BK157.out 0).trans rfl; have hcz42_1 : w39.cell? ⟨gb157, 1, none⟩ = some (.string a1_1) := (blk_cell BK157.out 1).trans rfl; have hcz42_2 : w39.cell? ⟨gb157, 2, none⟩ = some (.bool a1_2) := (blk_cell BK157.out 2).trans rfl; have hfz42_0 := blk_frozen BK157.out 0; have hfz42_1 := blk_frozen BK157.out 1; have hfz42_2 := blk_frozen BK157.out 2) | (go_at_call 75; (with_reducible refine (spec_PairOk.calls a1_0 a1_1 a1_2 false _ A23.out).mono ?_); rintro e w43 ⟨rfl, hb⟩; replace HO164 := mS (Kd.R_below (mR HO164.out) hb); replace BK156 := mB BK156 hb; replace BK157 := mB BK157 hb; replace BK158 := mB BK158 hb; replace BK165 := mB BK165 hb; replace HB := mS (below_step (mH4 HB.out GE156.out GE157.out GE158.out GE165.out) hb); (try clear hb); (try clear hb2); (try clear hk); (try clear hi))); try go_wp2_with (first | (go_at_call 17; (with_reducible refine (spec_MemOk.calls k _ _ l0_0 true _ ?side1 ?side2 A21.out).mono ?_); (case side1 => exact Kd.C_below HR0_0.out (mH4 HB.out GE156.out GE157.out GE158.out GE165.out)); (case side2 => exact HC0_0.out); rintro e w39 ⟨rfl, hb⟩; replace HO164 := mS (Kd.R_below (by (with_reducible repeat (first | apply Kd.R_alloc | apply Kd.R_drewN | apply Kd.R_drew)); exact (Kd.R_mono (Kd.R_far (p := ⟨gb165, 0, none⟩) (Kd.R_types HO164.out BK165.out (by decide)) (fun _ hk => hk.2) (.slice Ao15 y162.length co15)) (fun _ h_ => h_.1))) hb); replace BK156 := mS (blk_below (g := gb156) (o := .cells #[.slice A0_0 l0_0.length c0_0] 26 (0, 0)) (by (with_reducible repeat (first | refine blk_drewN ?_ _ | refine blk_drew ?_ | refine blk_alloc ?_ _)); refine blk_far ?_ NB156_165.out _; (with_reducible repeat (first | refine blk_drewN ?_ _ | refine blk_drew ?_ | refine blk_alloc ?_ _)); exact BK156.out) hb); replace BK157 := mS (blk_below (g := gb157) (o := .cells #[.string a1_0, .string a1_1, .bool a1_2] 33 (0, 0)) (by (with_reducible repeat (first | refine blk_drewN ?_ _ | refine blk_drew ?_ | refine blk_alloc ?_ _)); refine blk_far ?_ NB157_165.out _; (with_reducible repeat (first | refine blk_drewN ?_ _ | refine blk_drew ?_ | refine blk_alloc ?_ _)); exact BK157.out) hb); replace BK158 := mS (blk_below (g := gb158) (o := .cells #[.slice none 0 0] 26 (0, 0)) (by (with_reducible repeat (first | refine blk_drewN ?_ _ | refine blk_drew ?_ | refine blk_alloc ?_ _)); refine blk_far ?_ NB158_165.out _; (with_reducible repeat (first | refine blk_drewN ?_ _ | refine blk_drew ?_ | refine blk_alloc ?_ _)); exact BK158.out) hb); replace BK165 := mS (blk_below (g := gb165) (o := .cells #[.slice Ao15 y162.length co15] 26 (0, 0)) (by (with_reducible repeat (first | refine blk_drewN ?_ _ | refine blk_drew ?_ | refine blk_alloc ?_ _)); refine blk_put (cs := #[.slice none 0 0]) ?_ 0 _ rfl; (with_reducible repeat (first | refine blk_drewN ?_ _ | refine blk_drew ?_ | refine blk_alloc ?_ _)); exact BK165.out) hb); replace HB := mS (below_step (mH4 HB.out GE156.out GE157.out GE158.out GE165.out) hb); (try clear hb); (try clear hb2); (try clear hk); (try clear hi); have hnb40 := NB157_158.out; have hnc40 := NB158_157.out; have hnb41 := NB157_165.out; have hnc41 := NB165_157.out; have hcz42_0 : w39.cell? ⟨gb157, 0, none⟩ = some (.string a1_0) := (blk_cell BK157.out 0).trans rfl; have hcz42_1 : w39.cell? ⟨gb157, 1, none⟩ = some (.string a1_1) := (blk_cell BK157.out 1).trans rfl; have hcz42_2 : w39.cell? ⟨gb157, 2, none⟩ = some (.bool a1_2) := (blk_cell BK157.out 2).trans rfl; have hfz42_0 := blk_frozen BK157.out 0; have hfz42_1 := blk_frozen BK157.out 1; have hfz42_2 := blk_frozen BK157.out 2) | (go_at_call 75; (with_reducible refine (spec_PairOk.calls a1_0 a1_1 a1_2 false _ A23.out).mono ?_); rintro e w43 ⟨rfl, hb⟩; replace HO164 := mS (Kd.R_below (mR HO164.out) hb); replace BK156 := mB BK156 hb; replace BK157 := mB BK157 hb; replace BK158 := mB BK158 hb; replace BK165 := mB BK165 hb; replace HB := mS (below_step (mH4 HB.out GE156.out GE157.out GE158.out GE165.out) hb); (try clear hb); (try clear hb2); (try clear hk); (try clear hi))))
     go_meet
     case rel => exact ⟨_, (true), (by first | rfl | (simp; done) | (simp [*]; done)), H', ⟨by first | omega | exact Nat.le_refl _⟩, ⟨by (with_reducible repeat (first | apply Kd.R_alloc | apply Kd.R_drewN | apply Kd.R_drew)); exact HO164.out⟩, ⟨by (with_reducible repeat (first | refine blk_drewN ?_ _ | refine blk_drew ?_ | refine blk_alloc ?_ _)); exact BK156.out⟩, ⟨by (with_reducible repeat (first | refine blk_drewN ?_ _ | refine blk_drew ?_ | refine blk_alloc ?_ _)); exact BK157.out⟩, ⟨by (with_reducible repeat (first | refine blk_drewN ?_ _ | refine blk_drew ?_ | refine blk_alloc ?_ _)); exact BK158.out⟩, ⟨by (with_reducible repeat (first | refine blk_drewN ?_ _ | refine blk_drew ?_ | refine blk_alloc ?_ _)); exact BK165.out⟩, ⟨(mH4 HB.out GE156.out GE157.out GE158.out GE165.out)⟩⟩
   ·replace c22 := Bool.eq_false_iff.mpr c22
    subst c22
    have H1 : (spec_MemPut.j0 k a2 true a1_0 a1_1 a1_2 y162) = some (r1, r2) := by rw [if_neg (show ¬ (false = true) by decide)] at H; exact H
    clear H
    have H := H1
    clear H1
    have H' := mS H
    clear H
    have hnb44 := NB156_157.out
    have hnc44 := NB157_156.out
    have hnb45 := NB156_158.out
    have hnc45 := NB158_156.out
    have hnb46 := NB156_165.out
    have hnc46 := NB165_156.out
    have hcz47_0 : w16.cell? ⟨gb156, 0, none⟩ = some (.slice A0_0 l0_0.length c0_0) := (blk_cell BK156.out 0).trans rfl
    have hfz47_0 := blk_frozen BK156.out 0
    go_wp2_with (first | (go_at_call 17; (with_reducible refine (spec_MemOk.calls k _ _ l0_0 false _ ?side1 ?side2 A21.out).mono ?_); (case side1 => exact Kd.C_below HR0_0.out (mH4 HB.out GE156.out GE157.out GE158.out GE165.out)); (case side2 => exact HC0_0.out); rintro e w48 ⟨rfl, hb⟩; replace HO164 := mS (Kd.R_below (by (with_reducible repeat (first | apply Kd.R_alloc | apply Kd.R_drewN | apply Kd.R_drew)); exact (Kd.R_mono (Kd.R_far (p := ⟨gb165, 0, none⟩) (Kd.R_types HO164.out BK165.out (by decide)) (fun _ hk => hk.2) (.slice Ao15 y162.length co15)) (fun _ h_ => h_.1))) hb); replace BK156 := mS (blk_below (g := gb156) (o := .cells #[.slice A0_0 l0_0.length c0_0] 26 (0, 0)) (by (with_reducible repeat (first | refine blk_drewN ?_ _ | refine blk_drew ?_ | refine blk_alloc ?_ _)); refine blk_far ?_ NB156_165.out _; (with_reducible repeat (first | refine blk_drewN ?_ _ | refine blk_drew ?_ | refine blk_alloc ?_ _)); exact BK156.out) hb); replace BK157 := mS (blk_below (g := gb157) (o := .cells #[.string a1_0, .string a1_1, .bool a1_2] 33 (0, 0)) (by (with_reducible repeat (first | refine blk_drewN ?_ _ | refine blk_drew ?_ | refine blk_alloc ?_ _)); refine blk_far ?_ NB157_165.out _; (with_reducible repeat (first | refine blk_drewN ?_ _ | refine blk_drew ?_ | refine blk_alloc ?_ _)); exact BK157.out) hb); replace BK158 := mS (blk_below (g := gb158) (o := .cells #[.slice none 0 0] 26 (0, 0)) (by (with_reducible repeat (first | refine blk_drewN ?_ _ | refine blk_drew ?_ | refine blk_alloc ?_ _)); refine blk_far ?_ NB158_165.out _; (with_reducible repeat (first | refine blk_drewN ?_ _ | refine blk_drew ?_ | refine blk_alloc ?_ _)); exact BK158.out) hb); replace BK165 := mS (blk_below (g := gb165) (o := .cells #[.slice Ao15 y162.length co15] 26 (0, 0)) (by (with_reducible repeat (first | refine blk_drewN ?_ _ | refine blk_drew ?_ | refine blk_alloc ?_ _)); refine blk_put (cs := #[.slice none 0 0]) ?_ 0 _ rfl; (with_reducible repeat (first | refine blk_drewN ?_ _ | refine blk_drew ?_ | refine blk_alloc ?_ _)); exact BK165.out) hb); replace HB := mS (below_step (mH4 HB.out GE156.out GE157.out GE158.out GE165.out) hb); (try clear hb); (try clear hb2); (try clear hk); (try clear hi)))
    repeat (go_quiet (first | (go_at_call 17; (with_reducible refine (spec_MemOk.calls k _ _ l0_0 false _ ?side1 ?side2 A21.out).mono ?_); (case side1 => exact Kd.C_below HR0_0.out (mH4 HB.out GE156.out GE157.out GE158.out GE165.out)); (case side2 => exact HC0_0.out); rintro e w48 ⟨rfl, hb⟩; replace HO164 := mS (Kd.R_below (by (with_reducible repeat (first | apply Kd.R_alloc | apply Kd.R_drewN | apply Kd.R_drew)); exact (Kd.R_mono (Kd.R_far (p := ⟨gb165, 0, none⟩) (Kd.R_types HO164.out BK165.out (by decide)) (fun _ hk => hk.2) (.slice Ao15 y162.length co15)) (fun _ h_ => h_.1))) hb); replace BK156 := mS (blk_below (g := gb156) (o := .cells #[.slice A0_0 l0_0.length c0_0] 26 (0, 0)) (by (with_reducible repeat (first | refine blk_drewN ?_ _ | refine blk_drew ?_ | refine blk_alloc ?_ _)); refine blk_far ?_ NB156_165.out _; (with_reducible repeat (first | refine blk_drewN ?_ _ | refine blk_drew ?_ | refine blk_alloc ?_ _)); exact BK156.out) hb); replace BK157 := mS (blk_below (g := gb157) (o := .cells #[.string a1_0, .string a1_1, .bool a1_2] 33 (0, 0)) (by (with_reducible repeat (first | refine blk_drewN ?_ _ | refine blk_drew ?_ | refine blk_alloc ?_ _)); refine blk_far ?_ NB157_165.out _; (with_reducible repeat (first | refine blk_drewN ?_ _ | refine blk_drew ?_ | refine blk_alloc ?_ _)); exact BK157.out) hb); replace BK158 := mS (blk_below (g := gb158) (o := .cells #[.slice none 0 0] 26 (0, 0)) (by (with_reducible repeat (first | refine blk_drewN ?_ _ | refine blk_drew ?_ | refine blk_alloc ?_ _)); refine blk_far ?_ NB158_165.out _; (with_reducible repeat (first | refine blk_drewN ?_ _ | refine blk_drew ?_ | refine blk_alloc ?_ _)); exact BK158.out) hb); replace BK165 := mS (blk_below (g := gb165) (o := .cells #[.slice Ao15 y162.length co15] 26 (0, 0)) (by (with_reducible repeat (first | refine blk_drewN ?_ _ | refine blk_drew ?_ | refine blk_alloc ?_ _)); refine blk_put (cs := #[.slice none 0 0]) ?_ 0 _ rfl; (with_reducible repeat (first | refine blk_drewN ?_ _ | refine blk_drew ?_ | refine blk_alloc ?_ _)); exact BK165.out) hb); replace HB := mS (below_step (mH4 HB.out GE156.out GE157.out GE158.out GE165.out) hb); (try clear hb); (try clear hb2); (try clear hk); (try clear hi))); try go_wp2_with (first | (go_at_call 17; (with_reducible refine (spec_MemOk.calls k _ _ l0_0 false _ ?side1 ?side2 A21.out).mono ?_); (case side1 => exact Kd.C_below HR0_0.out (mH4 HB.out GE156.out GE157.out GE158.out GE165.out)); (case side2 => exact HC0_0.out); rintro e w48 ⟨rfl, hb⟩; replace HO164 := mS (Kd.R_below (by (with_reducible repeat (first | apply Kd.R_alloc | apply Kd.R_drewN | apply Kd.R_drew)); exact (Kd.R_mono (Kd.R_far (p := ⟨gb165, 0, none⟩) (Kd.R_types HO164.out BK165.out (by decide)) (fun _ hk => hk.2) (.slice Ao15 y162.length co15)) (fun _ h_ => h_.1))) hb); replace BK156 := mS (blk_below (g := gb156) (o := .cells #[.slice A0_0 l0_0.length c0_0] 26 (0, 0)) (by (with_reducible repeat (first | refine blk_drewN ?_ _ | refine blk_drew ?_ | refine blk_alloc ?_ _)); refine blk_far ?_ NB156_165.out _; (with_reducible repeat (first | refine blk_drewN ?_ _ | refine blk_drew ?_ | refine blk_alloc ?_ _)); exact BK156.out) hb); replace BK157 := mS (blk_below (g := gb157) (o := .cells #[.string a1_0, .string a1_1, .bool a1_2] 33 (0, 0)) (by (with_reducible repeat (first | refine blk_drewN ?_ _ | refine blk_drew ?_ | refine blk_alloc ?_ _)); refine blk_far ?_ NB157_165.out _; (with_reducible repeat (first | refine blk_drewN ?_ _ | refine blk_drew ?_ | refine blk_alloc ?_ _)); exact BK157.out) hb); replace BK158 := mS (blk_below (g := gb158) (o := .cells #[.slice none 0 0] 26 (0, 0)) (by (with_reducible repeat (first | refine blk_drewN ?_ _ | refine blk_drew ?_ | refine blk_alloc ?_ _)); refine blk_far ?_ NB158_165.out _; (with_reducible repeat (first | refine blk_drewN ?_ _ | refine blk_drew ?_ | refine blk_alloc ?_ _)); exact BK158.out) hb); replace BK165 := mS (blk_below (g := gb165) (o := .cells #[.slice Ao15 y162.length co15] 26 (0, 0)) (by (with_reducible repeat (first | refine blk_drewN ?_ _ | refine blk_drew ?_ | refine blk_alloc ?_ _)); refine blk_put (cs := #[.slice none 0 0]) ?_ 0 _ rfl; (with_reducible repeat (first | refine blk_drewN ?_ _ | refine blk_drew ?_ | refine blk_alloc ?_ _)); exact BK165.out) hb); replace HB := mS (below_step (mH4 HB.out GE156.out GE157.out GE158.out GE165.out) hb); (try clear hb); (try clear hb2); (try clear hk); (try clear hi))))
    go_meet
    case rel => exact ⟨_, (true), (by first | rfl | (simp; done) | (simp [*]; done)), H', ⟨by first | omega | exact Nat.le_refl _⟩, ⟨by (with_reducible repeat (first | apply Kd.R_alloc | apply Kd.R_drewN | apply Kd.R_drew)); exact HO164.out⟩, ⟨by (with_reducible repeat (first | refine blk_drewN ?_ _ | refine blk_drew ?_ | refine blk_alloc ?_ _)); exact BK156.out⟩, ⟨by (with_reducible repeat (first | refine blk_drewN ?_ _ | refine blk_drew ?_ | refine blk_alloc ?_ _)); exact BK157.out⟩, ⟨by (with_reducible repeat (first | refine blk_drewN ?_ _ | refine blk_drew ?_ | refine blk_alloc ?_ _)); exact BK158.out⟩, ⟨by (with_reducible repeat (first | refine blk_drewN ?_ _ | refine blk_drew ?_ | refine blk_alloc ?_ _)); exact BK165.out⟩, ⟨(mH4 HB.out GE156.out GE157.out GE158.out GE165.out)⟩⟩
  case rest =>
   clear HC5
   try clear c1
   try clear c2
   try clear p2
   try clear c3
   try clear c4
   try clear c11
   try clear c12
   try clear c17
   try clear c18
   try clear c19
   try clear c21
   try clear c22
   try clear c24
   try clear c26
   try clear c27
   try clear c28
   try clear c31
   try clear c32
   try clear c35
   try clear c36
   try clear c37
   try clear c40
   try clear c41
   try clear c44
   try clear c45
   try clear c46
   try clear hcz13_0
   try clear hcz20_0
   try clear hcz29_0
   try clear hcz33_0
   try clear hcz33_1
   try clear hcz33_2
   try clear hcz38_0
   try clear hcz42_0
   try clear hcz42_1
   try clear hcz42_2
   try clear hcz47_0
   try clear hfz13_0
   try clear hfz20_0
   try clear hfz29_0
   try clear hfz33_0
   try clear hfz33_1
   try clear hfz33_2
   try clear hfz38_0
   try clear hfz42_0
   try clear hfz42_1
   try clear hfz42_2
   try clear hfz47_0
   obtain ⟨kq, x28_4, rfl, HA, HJ4, HO_166000, BK156, BK157, BK158, BK165, HB⟩ := hcut
   cases kq with
   | zero => exact absurd HA.out (by simp [spec_MemPut.j0])
   | succ kj4 =>
    have H := HA.out
    clear HA
    simp only [spec_MemPut.j0] at H
    by_cases c49 : x28_4 = true
    ·subst c49
     have H1 : (some (y162, false)) = some (r1, r2) := by rw [if_pos rfl] at H; exact H
     clear H
     have H := H1
     clear H1
     simp only [Option.some.injEq, Prod.mk.injEq] at H
     obtain ⟨rfl, rfl⟩ := H
     have hnb50 := NB165_156.out
     have hnc50 := NB156_165.out
     have hnb51 := NB165_157.out
     have hnc51 := NB157_165.out
     have hnb52 := NB165_158.out
     have hnc52 := NB158_165.out
     have hcz53_0 : wc.cell? ⟨gb165, 0, none⟩ = some (.slice Ao15 y162.length co15) := (blk_cell BK165.out 0).trans rfl
     have hfz53_0 := blk_frozen BK165.out 0
     have hnb54 := NB158_156.out
     have hnc54 := NB156_158.out
     have hnb55 := NB158_157.out
     have hnc55 := NB157_158.out
     have hcz56_0 : wc.cell? ⟨gb158, 0, none⟩ = some (.slice none 0 0) := (blk_cell BK158.out 0).trans rfl
     have hfz56_0 := blk_frozen BK158.out 0
     go_wp2
     repeat (go_quiet (fail); try go_wp2)
     refine bodyPost_ret (results_ct rfl _ _ gb158 26 #[.slice Ao15 y162.length co15] (0, 0) _ rfl (by (with_reducible repeat (first | refine blk_drewN ?_ _ | refine blk_drew ?_ | refine blk_alloc ?_ _)); refine blk_put (cs := #[.slice none 0 0]) ?_ 0 _ rfl; (with_reducible repeat (first | refine blk_drewN ?_ _ | refine blk_drew ?_ | refine blk_alloc ?_ _)); exact BK158.out) Try.underlying26 rfl (by kernel_rfl)) rfl ?_
     exact ⟨_, by first | rfl | (simp [errW_none, errW_some] <;> rfl) | (simp [*, errW_none, errW_some] <;> rfl), by (with_reducible repeat (first | apply Kd.R_alloc | apply Kd.R_drewN | apply Kd.R_drew)); exact Kd.R_mono (Kd.R_far (p := ⟨gb158, 0, none⟩) (Kd.R_types HO_166000.out BK158.out (by decide)) (fun _ hk => hk.2) (.slice Ao15 y162.length co15)) (fun _ hk => trivial), (mH4 HB.out GE156.out GE157.out GE158.out GE165.out)⟩
    ·replace c49 := Bool.eq_false_iff.mpr c49
     subst c49
     have H1 : (spec_MemPut.l0 kj4 a2 0 a1_0 a1_1 a1_2 y162) = some (r1, r2) := by rw [if_neg (show ¬ (false = true) by decide)] at H; exact H
     clear H
     have H := H1
     clear H1
     have HC57 := mS H
     clear H
     go_upto_block 0 with (fail)
     repeat (go_quiet (fail); go_upto_block 0 with (fail))
     go_cut [9] (fun v9 wc => ∃ (kq : Nat) (x9_56 : Int), v9 = .int .i64 x9_56 ∧ Aside0 (spec_MemPut.j2 kq a2 x9_56 a1_0 a1_1 a1_2 y162 = some (r1, r2)) ∧ Aside0 (kq ≤ kj4) ∧ Aside0 (Kd.R k35 35 wc w.heap.size (fun _ => True) (.slice Ao15 y162.length co15) y162) ∧ Aside0 (wc.heap[gb156]? = some (.cells #[(.slice A0_0 l0_0.length c0_0)] 26 (0, 0))) ∧ Aside0 (wc.heap[gb157]? = some (.cells #[.string a1_0, .string a1_1, .bool a1_2] 33 (0, 0))) ∧ Aside0 (wc.heap[gb158]? = some (.cells #[(.slice none 0 0)] 26 (0, 0))) ∧ Aside0 (wc.heap[gb165]? = some (.cells #[(.slice Ao15 y162.length co15)] 26 (0, 0))) ∧ Aside0 (Below w.heap.size w wc))
     case first =>
      have H := HC57.out
      clear HC57
      have H' := mS H
      clear H
      go_wp2
      repeat (go_quiet (fail); try go_wp2)
      go_loopg [9] kj4 (fun kq v9 w' => ∃ (x9_2 : Int), v9 = .int .i64 x9_2 ∧ Aside0 (spec_MemPut.l0 kq a2 x9_2 a1_0 a1_1 a1_2 y162 = some (r1, r2)) ∧ Aside0 (kq ≤ kj4) ∧ Aside0 (Kd.R k35 35 w' w.heap.size (fun _ => True) (.slice Ao15 y162.length co15) y162) ∧ Aside0 (w'.heap[gb156]? = some (.cells #[(.slice A0_0 l0_0.length c0_0)] 26 (0, 0))) ∧ Aside0 (w'.heap[gb157]? = some (.cells #[.string a1_0, .string a1_1, .bool a1_2] 33 (0, 0))) ∧ Aside0 (w'.heap[gb158]? = some (.cells #[(.slice none 0 0)] 26 (0, 0))) ∧ Aside0 (w'.heap[gb165]? = some (.cells #[(.slice Ao15 y162.length co15)] 26 (0, 0))) ∧ Aside0 (Below w.heap.size w w'))
      case atStart => exact ⟨(0), (by first | rfl | (simp; done) | (simp [*]; done)), H', ⟨Nat.le_refl _⟩, ⟨by (with_reducible repeat (first | apply Kd.R_alloc | apply Kd.R_drewN | apply Kd.R_drew)); exact HO_166000.out⟩, ⟨by (with_reducible repeat (first | refine blk_drewN ?_ _ | refine blk_drew ?_ | refine blk_alloc ?_ _)); exact BK156.out⟩, ⟨by (with_reducible repeat (first | refine blk_drewN ?_ _ | refine blk_drew ?_ | refine blk_alloc ?_ _)); exact BK157.out⟩, ⟨by (with_reducible repeat (first | refine blk_drewN ?_ _ | refine blk_drew ?_ | refine blk_alloc ?_ _)); exact BK158.out⟩, ⟨by (with_reducible repeat (first | refine blk_drewN ?_ _ | refine blk_drew ?_ | refine blk_alloc ?_ _)); exact BK165.out⟩, ⟨(mH4 HB.out GE156.out GE157.out GE158.out GE165.out)⟩⟩
      case round =>
       clear H'
       try clear c1
       try clear c2
       try clear p2
       try clear c3
       try clear c4
       try clear c5
       try clear c11
       try clear c12
       try clear c17
       try clear c18
       try clear c19
       try clear c21
       try clear c22
       try clear c24
       try clear c26
       try clear c27
       try clear c28
       try clear c31
       try clear c32
       try clear c35
       try clear c36
       try clear c37
       try clear c40
       try clear c41
       try clear c44
       try clear c45
       try clear c46
       try clear c49
       try clear c50
       try clear c51
       try clear c52
       try clear c54
       try clear c55
       try clear hcz13_0
       try clear hcz20_0
       try clear hcz29_0
       try clear hcz33_0
       try clear hcz33_1
       try clear hcz33_2
       try clear hcz38_0
       try clear hcz42_0
       try clear hcz42_1
       try clear hcz42_2
       try clear hcz47_0
       try clear hcz53_0
       try clear hcz56_0
       try clear hfz13_0
       try clear hfz20_0
       try clear hfz29_0
       try clear hfz33_0
       try clear hfz33_1
       try clear hfz33_2
       try clear hfz38_0
       try clear hfz42_0
       try clear hfz42_1
       try clear hfz42_2
       try clear hfz47_0
       try clear hfz53_0
       try clear hfz56_0
       try clear p2
       obtain ⟨x9_2, rfl, HA, HK2, HO_166000, BK156, BK157, BK158, BK165, HB⟩ := hrel
       cases gk with
       | zero => exact absurd HA.out (by simp [spec_MemPut.l0])
       | succ k2 =>
        have H := HA.out
        clear HA
        simp only [spec_MemPut.l0] at H
        by_cases c58 : x9_2 < (y162.length : Int)
        ·rw [if_pos c58] at H
         have c58b0 : decide (x9_2 < (y162.length : Int)) = true := decide_eq_true c58
         clear c58
         (first | rw [c58b0] | (simp only [i64_w, i32_w]; rw [c58b0]) | skip)
         by_cases c59 : 0 ≤ x9_2
         ·rw [if_pos c59] at H
          have c59b0 : decide (0 ≤ x9_2) = true := decide_eq_true c59
          clear c59
          by_cases c60 : (Op.bytesLess (((rd_T35 y162 x9_2).f0.f0).toList) a1_0.toList) = true
          ·rw [if_pos c60] at H
           have c60b0 : (Op.bytesLess (((rd_T35 y162 x9_2).f0.f0).toList) a1_0.toList) = true := c60
           clear c60
           have H' := mS H
           clear H
           have hnb61 := NB165_156.out
           have hnc61 := NB156_165.out
           have hnb62 := NB165_157.out
           have hnc62 := NB157_165.out
           have hnb63 := NB165_158.out
           have hnc63 := NB158_165.out
           have hcz64_0 : wr.cell? ⟨gb165, 0, none⟩ = some (.slice Ao15 y162.length co15) := (blk_cell BK165.out 0).trans rfl
           have hfz64_0 := blk_frozen BK165.out 0
           have p169 : 0 ≤ (x9_2 : Int) := of_decide_eq_true (by first | (with_reducible assumption) | assumption)
           have q169 : x9_2 < (y162.length : Int) := of_decide_eq_true (by first | (with_reducible assumption) | assumption)
           obtain ⟨ad169, e169, hx169_0, hx169_1, hx169_2, hx169_3⟩ := at_T35 (Kd.R_reads' HO_166000.out).2.2 x9_2 p169 q169
           cases e169
           replace p169 := eq_true p169
           replace q169 := eq_true q169
           have hnb65 := NB157_156.out
           have hnc65 := NB156_157.out
           have hnb66 := NB157_158.out
           have hnc66 := NB158_157.out
           have hcz67_0 : wr.cell? ⟨gb157, 0, none⟩ = some (.string a1_0) := (blk_cell BK157.out 0).trans rfl
           have hcz67_1 : wr.cell? ⟨gb157, 1, none⟩ = some (.string a1_1) := (blk_cell BK157.out 1).trans rfl
           have hcz67_2 : wr.cell? ⟨gb157, 2, none⟩ = some (.bool a1_2) := (blk_cell BK157.out 2).trans rfl
           have hfz67_0 := blk_frozen BK157.out 0
           have hfz67_1 := blk_frozen BK157.out 1
           have hfz67_2 := blk_frozen BK157.out 2
           go_wp2
           repeat (go_quiet (fail); try go_wp2)
           go_roundg k2
           case measure => have := HJ4.out; have := HK2.out; omega
           case rel => exact ⟨(wrap64 (x9_2 + 1)), (by first | rfl | (simp; done) | (simp [*]; done)), H', ⟨by have := HJ4.out; have := HK2.out; omega⟩, ⟨by (with_reducible repeat (first | apply Kd.R_alloc | apply Kd.R_drewN | apply Kd.R_drew)); exact HO_166000.out⟩, ⟨by (with_reducible repeat (first | refine blk_drewN ?_ _ | refine blk_drew ?_ | refine blk_alloc ?_ _)); exact BK156.out⟩, ⟨by (with_reducible repeat (first | refine blk_drewN ?_ _ | refine blk_drew ?_ | refine blk_alloc ?_ _)); exact BK157.out⟩, ⟨by (with_reducible repeat (first | refine blk_drewN ?_ _ | refine blk_drew ?_ | refine blk_alloc ?_ _)); exact BK158.out⟩, ⟨by (with_reducible repeat (first | refine blk_drewN ?_ _ | refine blk_drew ?_ | refine blk_alloc ?_ _)); exact BK165.out⟩, ⟨(mH4 HB.out GE156.out GE157.out GE158.out GE165.out)⟩⟩
          ·rw [if_neg c60] at H
           have c60b0 : (Op.bytesLess (((rd_T35 y162 x9_2).f0.f0).toList) a1_0.toList) = false := by simpa using c60
           clear c60
           have H' := mS H
           clear H
           have hnb68 := NB165_156.out
           have hnc68 := NB156_165.out
           have hnb69 := NB165_157.out
           have hnc69 := NB157_165.out
           have hnb70 := NB165_158.out
           have hnc70 := NB158_165.out
           have hcz71_0 : wr.cell? ⟨gb165, 0, none⟩ = some (.slice Ao15 y162.length co15) := (blk_cell BK165.out 0).trans rfl
           have hfz71_0 := blk_frozen BK165.out 0
           have p169 : 0 ≤ (x9_2 : Int) := of_decide_eq_true (by first | (with_reducible assumption) | assumption)
           have q169 : x9_2 < (y162.length : Int) := of_decide_eq_true (by first | (with_reducible assumption) | assumption)
           obtain ⟨ad169, e169, hx169_0, hx169_1, hx169_2, hx169_3⟩ := at_T35 (Kd.R_reads' HO_166000.out).2.2 x9_2 p169 q169
           cases e169
           replace p169 := eq_true p169
           replace q169 := eq_true q169
           have hnb72 := NB157_156.out
           have hnc72 := NB156_157.out
           have hnb73 := NB157_158.out
           have hnc73 := NB158_157.out
           have hcz74_0 : wr.cell? ⟨gb157, 0, none⟩ = some (.string a1_0) := (blk_cell BK157.out 0).trans rfl
           have hcz74_1 : wr.cell? ⟨gb157, 1, none⟩ = some (.string a1_1) := (blk_cell BK157.out 1).trans rfl
           have hcz74_2 : wr.cell? ⟨gb157, 2, none⟩ = some (.bool a1_2) := (blk_cell BK157.out 2).trans rfl
           have hfz74_0 := blk_frozen BK157.out 0
           have hfz74_1 := blk_frozen BK157.out 1
           have hfz74_2 := blk_frozen BK157.out 2
           go_wp2
           repeat (go_quiet (fail); try go_wp2)
           go_meet
           case rel => exact ⟨_, (x9_2), (by first | rfl | (simp; done) | (simp [*]; done)), H', ⟨by have := HJ4.out; have := HK2.out; first | omega | exact Nat.le_refl _⟩, ⟨by (with_reducible repeat (first | apply Kd.R_alloc | apply Kd.R_drewN | apply Kd.R_drew)); exact HO_166000.out⟩, ⟨by (with_reducible repeat (first | refine blk_drewN ?_ _ | refine blk_drew ?_ | refine blk_alloc ?_ _)); exact BK156.out⟩, ⟨by (with_reducible repeat (first | refine blk_drewN ?_ _ | refine blk_drew ?_ | refine blk_alloc ?_ _)); exact BK157.out⟩, ⟨by (with_reducible repeat (first | refine blk_drewN ?_ _ | refine blk_drew ?_ | refine blk_alloc ?_ _)); exact BK158.out⟩, ⟨by (with_reducible repeat (first | refine blk_drewN ?_ _ | refine blk_drew ?_ | refine blk_alloc ?_ _)); exact BK165.out⟩, ⟨(mH4 HB.out GE156.out GE157.out GE158.out GE165.out)⟩⟩
         ·rw [if_neg c59] at H
          exact absurd H (by simp)
        ·rw [if_neg c58] at H
         have c58b0 : decide (x9_2 < (y162.length : Int)) = false := decide_eq_false c58
         clear c58
         (first | rw [c58b0] | (simp only [i64_w, i32_w]; rw [c58b0]) | skip)
         have H' := mS H
         clear H
         have hnb75 := NB165_156.out
         have hnc75 := NB156_165.out
         have hnb76 := NB165_157.out
         have hnc76 := NB157_165.out
         have hnb77 := NB165_158.out
         have hnc77 := NB158_165.out
         have hcz78_0 : wr.cell? ⟨gb165, 0, none⟩ = some (.slice Ao15 y162.length co15) := (blk_cell BK165.out 0).trans rfl
         have hfz78_0 := blk_frozen BK165.out 0
         go_wp2
         repeat (go_quiet (fail); try go_wp2)
         go_meet
         case rel => exact ⟨_, (x9_2), (by first | rfl | (simp; done) | (simp [*]; done)), H', ⟨by have := HJ4.out; have := HK2.out; first | omega | exact Nat.le_refl _⟩, ⟨by (with_reducible repeat (first | apply Kd.R_alloc | apply Kd.R_drewN | apply Kd.R_drew)); exact HO_166000.out⟩, ⟨by (with_reducible repeat (first | refine blk_drewN ?_ _ | refine blk_drew ?_ | refine blk_alloc ?_ _)); exact BK156.out⟩, ⟨by (with_reducible repeat (first | refine blk_drewN ?_ _ | refine blk_drew ?_ | refine blk_alloc ?_ _)); exact BK157.out⟩, ⟨by (with_reducible repeat (first | refine blk_drewN ?_ _ | refine blk_drew ?_ | refine blk_alloc ?_ _)); exact BK158.out⟩, ⟨by (with_reducible repeat (first | refine blk_drewN ?_ _ | refine blk_drew ?_ | refine blk_alloc ?_ _)); exact BK165.out⟩, ⟨(mH4 HB.out GE156.out GE157.out GE158.out GE165.out)⟩⟩
     case rest =>
      clear HC57
      try clear c1
      try clear p1
      try clear q1
      try clear hx1
      try clear c2
      try clear p2
      try clear c3
      try clear c4
      try clear c5
      try clear c6
      try clear p6
      try clear c7
      try clear c11
      try clear c12
      try clear p16
      try clear q16
      try clear hx16
      try clear c17
      try clear c18
      try clear c19
      try clear c21
      try clear c22
      try clear c24
      try clear c26
      try clear c27
      try clear c28
      try clear c31
      try clear c32
      try clear c35
      try clear c36
      try clear c37
      try clear c40
      try clear c41
      try clear c44
      try clear c45
      try clear c46
      try clear c49
      try clear c50
      try clear c51
      try clear c52
      try clear c54
      try clear c55
      try clear c58
      try clear c58b0
      try clear c59
      try clear c59b0
      try clear c60
      try clear c60b0
      try clear c61
      try clear c62
      try clear c63
      try clear p64
      try clear c65
      try clear c66
      try clear c68
      try clear c69
      try clear c70
      try clear c72
      try clear c73
      try clear c75
      try clear c76
      try clear c77
      try clear hcz13_0
      try clear hcz20_0
      try clear hcz29_0
      try clear hcz33_0
      try clear hcz33_1
      try clear hcz33_2
      try clear hcz38_0
      try clear hcz42_0
      try clear hcz42_1
      try clear hcz42_2
      try clear hcz47_0
      try clear hcz53_0
      try clear hcz56_0
      try clear hcz64_0
      try clear hcz67_0
      try clear hcz67_1
      try clear hcz67_2
      try clear hcz71_0
      try clear hcz74_0
      try clear hcz74_1
      try clear hcz74_2
      try clear hcz78_0
      try clear hfz13_0
      try clear hfz20_0
      try clear hfz29_0
      try clear hfz33_0
      try clear hfz33_1
      try clear hfz33_2
      try clear hfz38_0
      try clear hfz42_0
      try clear hfz42_1
      try clear hfz42_2
      try clear hfz47_0
      try clear hfz53_0
      try clear hfz56_0
      try clear hfz64_0
      try clear hfz67_0
      try clear hfz67_1
      try clear hfz67_2
      try clear hfz71_0
      try clear hfz74_0
      try clear hfz74_1
      try clear hfz74_2
      try clear hfz78_0
      try clear hx169_0
      try clear hx169_1
      try clear hx169_2
      try clear hx169_3
      try clear p169
      try clear p2
      try clear q169
      obtain ⟨kq, x9_56, rfl, HA, HJ56, HO_166000, BK156, BK157, BK158, BK165, HB⟩ := hcut
      cases kq with
      | zero => exact absurd HA.out (by simp [spec_MemPut.j2])
      | succ kj56 =>
       have H := HA.out
       clear HA
       simp only [spec_MemPut.j2] at H
       have HC79 := mS H
       clear H
       go_upto_region 7 with (fail)
       repeat (go_quiet (fail); go_upto_region 7 with (fail))
       go_cut [65] (fun v65 wc => ∃ (kq : Nat) (x65_78 : Bool), v65 = .bool x65_78 ∧ Aside0 (spec_MemPut.j3 kq a2 x9_56 x65_78 a1_0 a1_1 a1_2 y162 = some (r1, r2)) ∧ Aside0 (kq ≤ kj56) ∧ Aside0 (Kd.R k35 35 wc w.heap.size (fun _ => True) (.slice Ao15 y162.length co15) y162) ∧ Aside0 (wc.heap[gb156]? = some (.cells #[(.slice A0_0 l0_0.length c0_0)] 26 (0, 0))) ∧ Aside0 (wc.heap[gb157]? = some (.cells #[.string a1_0, .string a1_1, .bool a1_2] 33 (0, 0))) ∧ Aside0 (wc.heap[gb158]? = some (.cells #[(.slice none 0 0)] 26 (0, 0))) ∧ Aside0 (wc.heap[gb165]? = some (.cells #[(.slice Ao15 y162.length co15)] 26 (0, 0))) ∧ Aside0 (Below w.heap.size w wc))
       case first =>
        have H := HC79.out
        clear HC79
        by_cases c80 : x9_56 < (y162.length : Int)
        ·rw [if_pos c80] at H
         have c80b0 : decide (x9_56 < (y162.length : Int)) = true := decide_eq_true c80
         clear c80
         (first | rw [c80b0] | (simp only [i64_w, i32_w]; rw [c80b0]) | skip)
         by_cases c81 : 0 ≤ x9_56
         ·rw [if_pos c81] at H
          have c81b0 : decide (0 ≤ x9_56) = true := decide_eq_true c81
          clear c81
          have H' := mS H
          clear H
          have hnb82 := NB165_156.out
          have hnc82 := NB156_165.out
          have hnb83 := NB165_157.out
          have hnc83 := NB157_165.out
          have hnb84 := NB165_158.out
          have hnc84 := NB158_165.out
          have hcz85_0 : wc.cell? ⟨gb165, 0, none⟩ = some (.slice Ao15 y162.length co15) := (blk_cell BK165.out 0).trans rfl
          have hfz85_0 := blk_frozen BK165.out 0
          have p170 : 0 ≤ (x9_56 : Int) := of_decide_eq_true (by first | (with_reducible assumption) | assumption)
          have q170 : x9_56 < (y162.length : Int) := of_decide_eq_true (by first | (with_reducible assumption) | assumption)
          obtain ⟨ad170, e170, hx170_0, hx170_1, hx170_2, hx170_3⟩ := at_T35 (Kd.R_reads' HO_166000.out).2.2 x9_56 p170 q170
          cases e170
          replace p170 := eq_true p170
          replace q170 := eq_true q170
          have hnb86 := NB157_156.out
          have hnc86 := NB156_157.out
          have hnb87 := NB157_158.out
          have hnc87 := NB158_157.out
          have hcz88_0 : wc.cell? ⟨gb157, 0, none⟩ = some (.string a1_0) := (blk_cell BK157.out 0).trans rfl
          have hcz88_1 : wc.cell? ⟨gb157, 1, none⟩ = some (.string a1_1) := (blk_cell BK157.out 1).trans rfl
          have hcz88_2 : wc.cell? ⟨gb157, 2, none⟩ = some (.bool a1_2) := (blk_cell BK157.out 2).trans rfl
          have hfz88_0 := blk_frozen BK157.out 0
          have hfz88_1 := blk_frozen BK157.out 1
          have hfz88_2 := blk_frozen BK157.out 2
          go_wp2
          repeat (go_quiet (fail); try go_wp2)
          go_meet
          case rel => exact ⟨_, ((((rd_T35 y162 x9_56).f0.f0).toList == a1_0.toList)), (by first | rfl | (simp; done) | (simp [*]; done)), H', ⟨by have := HJ4.out; have := HJ56.out; first | omega | exact Nat.le_refl _⟩, ⟨by (with_reducible repeat (first | apply Kd.R_alloc | apply Kd.R_drewN | apply Kd.R_drew)); exact HO_166000.out⟩, ⟨by (with_reducible repeat (first | refine blk_drewN ?_ _ | refine blk_drew ?_ | refine blk_alloc ?_ _)); exact BK156.out⟩, ⟨by (with_reducible repeat (first | refine blk_drewN ?_ _ | refine blk_drew ?_ | refine blk_alloc ?_ _)); exact BK157.out⟩, ⟨by (with_reducible repeat (first | refine blk_drewN ?_ _ | refine blk_drew ?_ | refine blk_alloc ?_ _)); exact BK158.out⟩, ⟨by (with_reducible repeat (first | refine blk_drewN ?_ _ | refine blk_drew ?_ | refine blk_alloc ?_ _)); exact BK165.out⟩, ⟨(mH4 HB.out GE156.out GE157.out GE158.out GE165.out)⟩⟩
         ·rw [if_neg c81] at H
          exact absurd H (by simp)
        ·rw [if_neg c80] at H
         have c80b0 : decide (x9_56 < (y162.length : Int)) = false := decide_eq_false c80
         clear c80
         (first | rw [c80b0] | (simp only [i64_w, i32_w]; rw [c80b0]) | skip)
         have H' := mS H
         clear H
         have hnb89 := NB165_156.out
         have hnc89 := NB156_165.out
         have hnb90 := NB165_157.out
         have hnc90 := NB157_165.out
         have hnb91 := NB165_158.out
         have hnc91 := NB158_165.out
         have hcz92_0 : wc.cell? ⟨gb165, 0, none⟩ = some (.slice Ao15 y162.length co15) := (blk_cell BK165.out 0).trans rfl
         have hfz92_0 := blk_frozen BK165.out 0
         go_wp2
         repeat (go_quiet (fail); try go_wp2)
         go_meet
         case rel => exact ⟨_, (false), (by first | rfl | (simp; done) | (simp [*]; done)), H', ⟨by have := HJ4.out; have := HJ56.out; first | omega | exact Nat.le_refl _⟩, ⟨by (with_reducible repeat (first | apply Kd.R_alloc | apply Kd.R_drewN | apply Kd.R_drew)); exact HO_166000.out⟩, ⟨by (with_reducible repeat (first | refine blk_drewN ?_ _ | refine blk_drew ?_ | refine blk_alloc ?_ _)); exact BK156.out⟩, ⟨by (with_reducible repeat (first | refine blk_drewN ?_ _ | refine blk_drew ?_ | refine blk_alloc ?_ _)); exact BK157.out⟩, ⟨by (with_reducible repeat (first | refine blk_drewN ?_ _ | refine blk_drew ?_ | refine blk_alloc ?_ _)); exact BK158.out⟩, ⟨by (with_reducible repeat (first | refine blk_drewN ?_ _ | refine blk_drew ?_ | refine blk_alloc ?_ _)); exact BK165.out⟩, ⟨(mH4 HB.out GE156.out GE157.out GE158.out GE165.out)⟩⟩
       case rest =>
        clear HC79
        try clear c1
        try clear p1
        try clear q1
        try clear hx1
        try clear c2
        try clear p2
        try clear c3
        try clear c4
        try clear c5
        try clear c6
        try clear p6
        try clear c7
        try clear c8
        try clear c9
        try clear c11
        try clear c12
        try clear p16
        try clear q16
        try clear hx16
        try clear c17
        try clear p17
        try clear q17
        try clear hx17
        try clear c18
        try clear c19
        try clear c21
        try clear c22
        try clear c24
        try clear c26
        try clear c27
        try clear c28
        try clear c31
        try clear c32
        try clear c35
        try clear c36
        try clear c37
        try clear c40
        try clear c41
        try clear c44
        try clear c45
        try clear c46
        try clear c49
        try clear c50
        try clear c51
        try clear c52
        try clear c54
        try clear c55
        try clear c58
        try clear c58b0
        try clear c59
        try clear c59b0
        try clear c60
        try clear c60b0
        try clear c61
        try clear c62
        try clear c63
        try clear p64
        try clear c65
        try clear c66
        try clear c68
        try clear c69
        try clear c70
        try clear c72
        try clear c73
        try clear c75
        try clear c76
        try clear c77
        try clear c80
        try clear c80b0
        try clear c81
        try clear c81b0
        try clear c82
        try clear c83
        try clear c84
        try clear c86
        try clear c87
        try clear c89
        try clear c90
        try clear c91
        try clear hcz13_0
        try clear hcz20_0
        try clear hcz29_0
        try clear hcz33_0
        try clear hcz33_1
        try clear hcz33_2
        try clear hcz38_0
        try clear hcz42_0
        try clear hcz42_1
        try clear hcz42_2
        try clear hcz47_0
        try clear hcz53_0
        try clear hcz56_0
        try clear hcz64_0
        try clear hcz67_0
        try clear hcz67_1
        try clear hcz67_2
        try clear hcz71_0
        try clear hcz74_0
        try clear hcz74_1
        try clear hcz74_2
        try clear hcz78_0
        try clear hcz85_0
        try clear hcz88_0
        try clear hcz88_1
        try clear hcz88_2
        try clear hcz92_0
        try clear hfz13_0
        try clear hfz20_0
        try clear hfz29_0
        try clear hfz33_0
        try clear hfz33_1
        try clear hfz33_2
        try clear hfz38_0
        try clear hfz42_0
        try clear hfz42_1
        try clear hfz42_2
        try clear hfz47_0
        try clear hfz53_0
        try clear hfz56_0
        try clear hfz64_0
        try clear hfz67_0
        try clear hfz67_1
        try clear hfz67_2
        try clear hfz71_0
        try clear hfz74_0
        try clear hfz74_1
        try clear hfz74_2
        try clear hfz78_0
        try clear hfz85_0
        try clear hfz88_0
        try clear hfz88_1
        try clear hfz88_2
        try clear hfz92_0
        try clear hx169_0
        try clear hx169_1
        try clear hx169_2
        try clear hx169_3
        try clear hx170_0
        try clear hx170_1
        try clear hx170_2
        try clear hx170_3
        try clear p1
        try clear p16
        try clear p169
        try clear p170
        try clear p2
        try clear p6
        try clear p64
        try clear q1
        try clear q16
        try clear q169
        try clear q170
        obtain ⟨kq, x65_78, rfl, HA, HJ78, HO_166000, BK156, BK157, BK158, BK165, HB⟩ := hcut
        cases kq with
        | zero => exact absurd HA.out (by simp [spec_MemPut.j3])
        | succ kj78 =>
         have H := HA.out
         clear HA
         simp only [spec_MemPut.j3] at H
         by_cases c93 : x65_78 = true
         ·subst c93
          have H1 : (if 0 ≤ x9_56 then (if x9_56 < (y162.length : Int) then (some ((y162.set (x9_56 : Int).toNat (⟨(⟨a1_0, a1_1, a1_2⟩ : S33), (rd_T35 y162 x9_56).f1⟩ : S35)), true)) else (none)) else (none)) = some (r1, r2) := by rw [if_pos rfl] at H; exact H
          clear H
          have H := H1
          clear H1
          by_cases c94 : 0 ≤ x9_56
          ·rw [if_pos c94] at H
           have c94b0 : decide (0 ≤ x9_56) = true := decide_eq_true c94
           clear c94
           by_cases c95 : x9_56 < (y162.length : Int)
           ·rw [if_pos c95] at H
            have c95b0 : decide (x9_56 < (y162.length : Int)) = true := decide_eq_true c95
            clear c95
            obtain ⟨y171, hy171⟩ : ∃ y_ : List (S35), y_ = (y162.set (x9_56 : Int).toNat (⟨(⟨a1_0, a1_1, a1_2⟩ : S33), (rd_T35 y162 x9_56).f1⟩ : S35)) := ⟨_, rfl⟩
            replace H : (some (y171, true)) = some (r1, r2) := by first | (rw [hy171]; with_reducible exact H) | (have H2_ := (Option.bind_some _ _).symm.trans H; rw [hy171]; with_reducible exact H2_) | (have H2_ := (Option.bind_some _ _).symm.trans H; with_reducible exact H2_) | with_reducible exact H | (rw [hy171]; exact H) | exact H
            have Ny171 := mS hy171
            clear hy171
            simp only [Option.some.injEq, Prod.mk.injEq] at H
            obtain ⟨rfl, rfl⟩ := H
            have hnb97 := NB165_156.out
            have hnc97 := NB156_165.out
            have hnb98 := NB165_157.out
            have hnc98 := NB157_165.out
            have hnb99 := NB165_158.out
            have hnc99 := NB158_165.out
            have hcz100_0 : wc.cell? ⟨gb165, 0, none⟩ = some (.slice Ao15 y162.length co15) := (blk_cell BK165.out 0).trans rfl
            have hfz100_0 := blk_frozen BK165.out 0
            have hnb101 := NB157_156.out
            have hnc101 := NB156_157.out
            have hnb102 := NB157_158.out
            have hnc102 := NB158_157.out
            have hcz103_0 : wc.cell? ⟨gb157, 0, none⟩ = some (.string a1_0) := (blk_cell BK157.out 0).trans rfl
            have hcz103_1 : wc.cell? ⟨gb157, 1, none⟩ = some (.string a1_1) := (blk_cell BK157.out 1).trans rfl
            have hcz103_2 : wc.cell? ⟨gb157, 2, none⟩ = some (.bool a1_2) := (blk_cell BK157.out 2).trans rfl
            have hfz103_0 := blk_frozen BK157.out 0
            have hfz103_1 := blk_frozen BK157.out 1
            have hfz103_2 := blk_frozen BK157.out 2
            have p96 : 0 ≤ (x9_56 : Int) := of_decide_eq_true (by first | (with_reducible assumption) | assumption)
            have q96 : (x9_56 : Int) < ((y162.length : Int) : Int) := of_decide_eq_true (by first | (with_reducible assumption) | assumption)
            obtain ⟨go96, co96, eo96, gb96, gl96, cl96, HG96⟩ := Kd.R_form HO_166000.out (by omega)
            (first | cases eo96 | (injection eo96 with ea_ en_ ec_; (first | subst ea_ | (injection ea_ with ea_; subst ea_)); subst ec_; clear en_))
            have GB96 := mS gb96
            have GG96 := mS HG96
            clear gb96 gl96 HG96
            obtain ⟨ce96, hcl96, hM96, hcc96, hfr96⟩ := Kd.R_elem HO_166000.out z35 (x9_56 : Int) p96 q96
            obtain rfl := k35_openM hM96
            have hx96_0 : wc.cell? ⟨go96, (x9_56 : Int).toNat * 4, none⟩ = some (.string ((rd_T35 y162 x9_56).f0.f0)) := hcc96 0 _ rfl
            have hx96_1 : wc.cell? ⟨go96, (x9_56 : Int).toNat * 4 + 1, none⟩ = some (.string ((rd_T35 y162 x9_56).f0.f1)) := hcc96 1 _ rfl
            have hx96_2 : wc.cell? ⟨go96, (x9_56 : Int).toNat * 4 + 2, none⟩ = some (.bool ((rd_T35 y162 x9_56).f0.f2)) := hcc96 2 _ rfl
            have hx96_3 : wc.cell? ⟨go96, (x9_56 : Int).toNat * 4 + 3, none⟩ = some (.int .i64 ((rd_T35 y162 x9_56).f1)) := hcc96 3 _ rfl
            have hf96_0 : wc.frozen? ⟨go96, (x9_56 : Int).toNat * 4, none⟩ = false := hfr96 0
            have hf96_1 : wc.frozen? ⟨go96, (x9_56 : Int).toNat * 4 + 1, none⟩ = false := hfr96 1
            have hf96_2 : wc.frozen? ⟨go96, (x9_56 : Int).toNat * 4 + 2, none⟩ = false := hfr96 2
            have hf96_3 : wc.frozen? ⟨go96, (x9_56 : Int).toNat * 4 + 3, none⟩ = false := hfr96 3
            clear hcl96 hcc96 hfr96 hM96
            replace p96 := eq_true p96
            replace q96 := eq_true q96
            have HX104 := mS (show Kd.R k35 35 wc w.heap.size (fun _ => True) (.slice (some ⟨go96, 0, none⟩) y162.length co15) y162 from (mR HO_166000.out))
            obtain ⟨ce104, hcl104, hM104, hcc104, hfr104⟩ := Kd.R_elem HX104.out z35 (x9_56 : Int) (of_decide_eq_true (by first | (with_reducible assumption) | assumption)) (by have h_ : (x9_56 : Int) < ((y162.length : Int) : Int) := of_decide_eq_true (by first | (with_reducible assumption) | assumption); first | exact h_ | (have e_ := (Kd.R_reads' HO_166000.out).1; omega) | simpa using h_)
            obtain rfl := k35_openM hM104
            have HP104 := Kd.R_seg HX104.out (x9_56 : Int) (of_decide_eq_true (by first | (with_reducible assumption) | assumption)) (by have h_ : (x9_56 : Int) < ((y162.length : Int) : Int) := of_decide_eq_true (by first | (with_reducible assumption) | assumption); first | exact h_ | (have e_ := (Kd.R_reads' HO_166000.out).1; omega) | simpa using h_) (seg := [.string a1_0, .string a1_1, .bool a1_2]) (j := 0) hcl104 hcc104 (show 3 ≤ 4 from by decide) (x' := (⟨(⟨a1_0, a1_1, a1_2⟩ : S33), (rd_T35 y162 x9_56).f1⟩ : S35)) (k35_mkM _ _ _ (⟨(⟨a1_0, a1_1, a1_2⟩ : S33), (rd_T35 y162 x9_56).f1⟩ : S35) ) (fun _ hk => hk)
            have hx104_0 := hcc104 0 _ rfl
            (try simp only [show (k35).sz = 4 from rfl, Nat.mul_one, Nat.add_zero] at hx104_0)
            have hf104_0 := hfr104 0
            (try simp only [show (k35).sz = 4 from rfl, Nat.mul_one, Nat.add_zero] at hf104_0)
            have hx104_1 := hcc104 1 _ rfl
            (try simp only [show (k35).sz = 4 from rfl, Nat.mul_one, Nat.add_zero] at hx104_1)
            have hf104_1 := hfr104 1
            (try simp only [show (k35).sz = 4 from rfl, Nat.mul_one, Nat.add_zero] at hf104_1)
            have hx104_2 := hcc104 2 _ rfl
            (try simp only [show (k35).sz = 4 from rfl, Nat.mul_one, Nat.add_zero] at hx104_2)
            have hf104_2 := hfr104 2
            (try simp only [show (k35).sz = 4 from rfl, Nat.mul_one, Nat.add_zero] at hf104_2)
            clear hcl104 hcc104 hfr104 hM104
            go_wp2_with (first | ((with_reducible refine gate_store (t := 33) (p := 71) rfl ?_); (try (rw [drewN_self wc]; generalize hq_ : World.drewN wc _ = wc; have n0_ := mS (Kd.R_at hq_ HO_166000.out); have n1_ := mS (blk_at hq_ BK156.out); have n2_ := mS (blk_at hq_ BK157.out); have n3_ := mS (blk_at hq_ BK158.out); have n4_ := mS (blk_at hq_ BK165.out); have n5_ := mS (below_at hq_ HB.out); clear hq_ HO_166000 BK156 BK157 BK158 BK165 HB; have HO_166000 := n0_; have BK156 := n1_; have BK157 := n2_; have BK158 := n3_; have BK165 := n4_; have HB := n5_; clear n0_ n1_ n2_ n3_ n4_ n5_; (try (have HX104 := mS (show Kd.R k35 35 wc w.heap.size (fun _ => True) (.slice (some ⟨go96, 0, none⟩) y162.length co15) y162 from (mR HO_166000.out)))); (try (obtain ⟨ce104, hcl104, hM104, hcc104, hfr104⟩ := Kd.R_elem HX104.out z35 (x9_56 : Int) (of_decide_eq_true (by first | (with_reducible assumption) | assumption)) (by have h_ : (x9_56 : Int) < ((y162.length : Int) : Int) := of_decide_eq_true (by first | (with_reducible assumption) | assumption); first | exact h_ | (have e_ := (Kd.R_reads' HO_166000.out).1; omega) | simpa using h_))); (try (obtain rfl := k35_openM hM104)); (try (have HP104 := Kd.R_seg HX104.out (x9_56 : Int) (of_decide_eq_true (by first | (with_reducible assumption) | assumption)) (by have h_ : (x9_56 : Int) < ((y162.length : Int) : Int) := of_decide_eq_true (by first | (with_reducible assumption) | assumption); first | exact h_ | (have e_ := (Kd.R_reads' HO_166000.out).1; omega) | simpa using h_) (seg := [.string a1_0, .string a1_1, .bool a1_2]) (j := 0) hcl104 hcc104 (show 3 ≤ 4 from by decide) (x' := (⟨(⟨a1_0, a1_1, a1_2⟩ : S33), (rd_T35 y162 x9_56).f1⟩ : S35)) (k35_mkM _ _ _ (⟨(⟨a1_0, a1_1, a1_2⟩ : S33), (rd_T35 y162 x9_56).f1⟩ : S35) ) (fun _ hk => hk))); (try (have hx104_0 := hcc104 0 _ rfl)); (try (try simp only [show (k35).sz = 4 from rfl, Nat.mul_one, Nat.add_zero] at hx104_0)); (try (have hf104_0 := hfr104 0)); (try (try simp only [show (k35).sz = 4 from rfl, Nat.mul_one, Nat.add_zero] at hf104_0)); (try (have hx104_1 := hcc104 1 _ rfl)); (try (try simp only [show (k35).sz = 4 from rfl, Nat.mul_one, Nat.add_zero] at hx104_1)); (try (have hf104_1 := hfr104 1)); (try (try simp only [show (k35).sz = 4 from rfl, Nat.mul_one, Nat.add_zero] at hf104_1)); (try (have hx104_2 := hcc104 2 _ rfl)); (try (try simp only [show (k35).sz = 4 from rfl, Nat.mul_one, Nat.add_zero] at hx104_2)); (try (have hf104_2 := hfr104 2)); (try (try simp only [show (k35).sz = 4 from rfl, Nat.mul_one, Nat.add_zero] at hf104_2)); (try (clear hcl104 hcc104 hfr104 hM104)))); refine store_event (t := 33) (p := 71) (v := ?vo_w105) (w1 := (((wc.setCell ⟨go96, (x9_56 : Int).toNat * 4, none⟩ (.string a1_0)).setCell ⟨go96, (x9_56 : Int).toNat * 4 + 1, none⟩ (.string a1_1)).setCell ⟨go96, (x9_56 : Int).toNat * 4 + 2, none⟩ (.bool a1_2))) ?hg ?ho ?hn ?hr ?_; (case ho => rfl); (case hg => rfl); (case hn => rfl); (case hr => first | (go_simp; done) | (go_simp; rfl)); intro w105 hw; have hg : wc.grownBy w105 (some go96) := (by rw [hw]; exact HP104.2); have hp_ : Kd.R k35 35 w105 w.heap.size (fun _ => True) (.slice (some ⟨go96, 0, none⟩) y162.length co15) y171 := (by rw [hw, Ny171.out]; exact HP104.1); clear HP104; replace BK156 := mS (blk_grown (g := gb156) (o := .cells #[.slice A0_0 l0_0.length c0_0] 26 (0, 0)) (mK BK156.out) hg (Kd.R_ne HO_166000.out BK156.out (by decide))); replace BK157 := mS (blk_grown (g := gb157) (o := .cells #[.string a1_0, .string a1_1, .bool a1_2] 33 (0, 0)) (mK BK157.out) hg (Kd.R_ne HO_166000.out BK157.out (by decide))); replace BK158 := mS (blk_grown (g := gb158) (o := .cells #[.slice none 0 0] 26 (0, 0)) (mK BK158.out) hg (Kd.R_ne HO_166000.out BK158.out (by decide))); replace BK165 := mS (blk_grown (g := gb165) (o := .cells #[.slice (some ⟨go96, 0, none⟩) y162.length co15] 26 (0, 0)) (mK BK165.out) hg (Kd.R_ne HO_166000.out BK165.out (by decide))); replace HO_166000 := mS (hp_); replace HB := mS ((by rw [hw]; exact below_set (below_set (below_set (HB.out) GB96.out) GB96.out) GB96.out : Below w.heap.size w w105)); clear hg hw hp_; have hcz106_0 : w105.cell? ⟨gb165, 0, none⟩ = some (.slice (some ⟨go96, 0, none⟩) y162.length co15) := (blk_cell BK165.out 0).trans rfl; have hfz106_0 := blk_frozen BK165.out 0; have hnb107 := NB158_156.out; have hnc107 := NB156_158.out; have hcz108_0 : w105.cell? ⟨gb158, 0, none⟩ = some (.slice none 0 0) := (blk_cell BK158.out 0).trans rfl; have hfz108_0 := blk_frozen BK158.out 0))
            repeat (go_quiet (first | ((with_reducible refine gate_store (t := 33) (p := 71) rfl ?_); (try (rw [drewN_self wc]; generalize hq_ : World.drewN wc _ = wc; have n0_ := mS (Kd.R_at hq_ HO_166000.out); have n1_ := mS (blk_at hq_ BK156.out); have n2_ := mS (blk_at hq_ BK157.out); have n3_ := mS (blk_at hq_ BK158.out); have n4_ := mS (blk_at hq_ BK165.out); have n5_ := mS (below_at hq_ HB.out); clear hq_ HO_166000 BK156 BK157 BK158 BK165 HB; have HO_166000 := n0_; have BK156 := n1_; have BK157 := n2_; have BK158 := n3_; have BK165 := n4_; have HB := n5_; clear n0_ n1_ n2_ n3_ n4_ n5_; (try (have HX104 := mS (show Kd.R k35 35 wc w.heap.size (fun _ => True) (.slice (some ⟨go96, 0, none⟩) y162.length co15) y162 from (mR HO_166000.out)))); (try (obtain ⟨ce104, hcl104, hM104, hcc104, hfr104⟩ := Kd.R_elem HX104.out z35 (x9_56 : Int) (of_decide_eq_true (by first | (with_reducible assumption) | assumption)) (by have h_ : (x9_56 : Int) < ((y162.length : Int) : Int) := of_decide_eq_true (by first | (with_reducible assumption) | assumption); first | exact h_ | (have e_ := (Kd.R_reads' HO_166000.out).1; omega) | simpa using h_))); (try (obtain rfl := k35_openM hM104)); (try (have HP104 := Kd.R_seg HX104.out (x9_56 : Int) (of_decide_eq_true (by first | (with_reducible assumption) | assumption)) (by have h_ : (x9_56 : Int) < ((y162.length : Int) : Int) := of_decide_eq_true (by first | (with_reducible assumption) | assumption); first | exact h_ | (have e_ := (Kd.R_reads' HO_166000.out).1; omega) | simpa using h_) (seg := [.string a1_0, .string a1_1, .bool a1_2]) (j := 0) hcl104 hcc104 (show 3 ≤ 4 from by decide) (x' := (⟨(⟨a1_0, a1_1, a1_2⟩ : S33), (rd_T35 y162 x9_56).f1⟩ : S35)) (k35_mkM _ _ _ (⟨(⟨a1_0, a1_1, a1_2⟩ : S33), (rd_T35 y162 x9_56).f1⟩ : S35) ) (fun _ hk => hk))); (try (have hx104_0 := hcc104 0 _ rfl)); (try (try simp only [show (k35).sz = 4 from rfl, Nat.mul_one, Nat.add_zero] at hx104_0)); (try (have hf104_0 := hfr104 0)); (try (try simp only [show (k35).sz = 4 from rfl, Nat.mul_one, Nat.add_zero] at hf104_0)); (try (have hx104_1 := hcc104 1 _ rfl)); (try (try simp only [show (k35).sz = 4 from rfl, Nat.mul_one, Nat.add_zero] at hx104_1)); (try (have hf104_1 := hfr104 1)); (try (try simp only [show (k35).sz = 4 from rfl, Nat.mul_one, Nat.add_zero] at hf104_1)); (try (have hx104_2 := hcc104 2 _ rfl)); (try (try simp only [show (k35).sz = 4 from rfl, Nat.mul_one, Nat.add_zero] at hx104_2)); (try (have hf104_2 := hfr104 2)); (try (try simp only [show (k35).sz = 4 from rfl, Nat.mul_one, Nat.add_zero] at hf104_2)); (try (clear hcl104 hcc104 hfr104 hM104)))); refine store_event (t := 33) (p := 71) (v := ?vo_w105) (w1 := (((wc.setCell ⟨go96, (x9_56 : Int).toNat * 4, none⟩ (.string a1_0)).setCell ⟨go96, (x9_56 : Int).toNat * 4 + 1, none⟩ (.string a1_1)).setCell ⟨go96, (x9_56 : Int).toNat * 4 + 2, none⟩ (.bool a1_2))) ?hg ?ho ?hn ?hr ?_; (case ho => rfl); (case hg => rfl); (case hn => rfl); (case hr => first | (go_simp; done) | (go_simp; rfl)); intro w105 hw; have hg : wc.grownBy w105 (some go96) := (by rw [hw]; exact HP104.2); have hp_ : Kd.R k35 35 w105 w.heap.size (fun _ => True) (.slice (some ⟨go96, 0, none⟩) y162.length co15) y171 := (by rw [hw, Ny171.out]; exact HP104.1); clear HP104; replace BK156 := mS (blk_grown (g := gb156) (o := .cells #[.slice A0_0 l0_0.length c0_0] 26 (0, 0)) (mK BK156.out) hg (Kd.R_ne HO_166000.out BK156.out (by decide))); replace BK157 := mS (blk_grown (g := gb157) (o := .cells #[.string a1_0, .string a1_1, .bool a1_2] 33 (0, 0)) (mK BK157.out) hg (Kd.R_ne HO_166000.out BK157.out (by decide))); replace BK158 := mS (blk_grown (g := gb158) (o := .cells #[.slice none 0 0] 26 (0, 0)) (mK BK158.out) hg (Kd.R_ne HO_166000.out BK158.out (by decide))); replace BK165 := mS (blk_grown (g := gb165) (o := .cells #[.slice (some ⟨go96, 0, none⟩) y162.length co15] 26 (0, 0)) (mK BK165.out) hg (Kd.R_ne HO_166000.out BK165.out (by decide))); replace HO_166000 := mS (hp_); replace HB := mS ((by rw [hw]; exact below_set (below_set (below_set (HB.out) GB96.out) GB96.out) GB96.out : Below w.heap.size w w105)); clear hg hw hp_; have hcz106_0 : w105.cell? ⟨gb165, 0, none⟩ = some (.slice (some ⟨go96, 0, none⟩) y162.length co15) := (blk_cell BK165.out 0).trans rfl; have hfz106_0 := blk_frozen BK165.out 0; have hnb107 := NB158_156.out; have hnc107 := NB156_158.out; have hcz108_0 : w105.cell? ⟨gb158, 0, none⟩ = some (.slice none 0 0) := (blk_cell BK158.out 0).trans rfl; have hfz108_0 := blk_frozen BK158.out 0)); try go_wp2_with (first | ((with_reducible refine gate_store (t := 33) (p := 71) rfl ?_); (try (rw [drewN_self wc]; generalize hq_ : World.drewN wc _ = wc; have n0_ := mS (Kd.R_at hq_ HO_166000.out); have n1_ := mS (blk_at hq_ BK156.out); have n2_ := mS (blk_at hq_ BK157.out); have n3_ := mS (blk_at hq_ BK158.out); have n4_ := mS (blk_at hq_ BK165.out); have n5_ := mS (below_at hq_ HB.out); clear hq_ HO_166000 BK156 BK157 BK158 BK165 HB; have HO_166000 := n0_; have BK156 := n1_; have BK157 := n2_; have BK158 := n3_; have BK165 := n4_; have HB := n5_; clear n0_ n1_ n2_ n3_ n4_ n5_; (try (have HX104 := mS (show Kd.R k35 35 wc w.heap.size (fun _ => True) (.slice (some ⟨go96, 0, none⟩) y162.length co15) y162 from (mR HO_166000.out)))); (try (obtain ⟨ce104, hcl104, hM104, hcc104, hfr104⟩ := Kd.R_elem HX104.out z35 (x9_56 : Int) (of_decide_eq_true (by first | (with_reducible assumption) | assumption)) (by have h_ : (x9_56 : Int) < ((y162.length : Int) : Int) := of_decide_eq_true (by first | (with_reducible assumption) | assumption); first | exact h_ | (have e_ := (Kd.R_reads' HO_166000.out).1; omega) | simpa using h_))); (try (obtain rfl := k35_openM hM104)); (try (have HP104 := Kd.R_seg HX104.out (x9_56 : Int) (of_decide_eq_true (by first | (with_reducible assumption) | assumption)) (by have h_ : (x9_56 : Int) < ((y162.length : Int) : Int) := of_decide_eq_true (by first | (with_reducible assumption) | assumption); first | exact h_ | (have e_ := (Kd.R_reads' HO_166000.out).1; omega) | simpa using h_) (seg := [.string a1_0, .string a1_1, .bool a1_2]) (j := 0) hcl104 hcc104 (show 3 ≤ 4 from by decide) (x' := (⟨(⟨a1_0, a1_1, a1_2⟩ : S33), (rd_T35 y162 x9_56).f1⟩ : S35)) (k35_mkM _ _ _ (⟨(⟨a1_0, a1_1, a1_2⟩ : S33), (rd_T35 y162 x9_56).f1⟩ : S35) ) (fun _ hk => hk))); (try (have hx104_0 := hcc104 0 _ rfl)); (try (try simp only [show (k35).sz = 4 from rfl, Nat.mul_one, Nat.add_zero] at hx104_0)); (try (have hf104_0 := hfr104 0)); (try (try simp only [show (k35).sz = 4 from rfl, Nat.mul_one, Nat.add_zero] at hf104_0)); (try (have hx104_1 := hcc104 1 _ rfl)); (try (try simp only [show (k35).sz = 4 from rfl, Nat.mul_one, Nat.add_zero] at hx104_1)); (try (have hf104_1 := hfr104 1)); (try (try simp only [show (k35).sz = 4 from rfl, Nat.mul_one, Nat.add_zero] at hf104_1)); (try (have hx104_2 := hcc104 2 _ rfl)); (try (try simp only [show (k35).sz = 4 from rfl, Nat.mul_one, Nat.add_zero] at hx104_2)); (try (have hf104_2 := hfr104 2)); (try (try simp only [show (k35).sz = 4 from rfl, Nat.mul_one, Nat.add_zero] at hf104_2)); (try (clear hcl104 hcc104 hfr104 hM104)))); refine store_event (t := 33) (p := 71) (v := ?vo_w105) (w1 := (((wc.setCell ⟨go96, (x9_56 : Int).toNat * 4, none⟩ (.string a1_0)).setCell ⟨go96, (x9_56 : Int).toNat * 4 + 1, none⟩ (.string a1_1)).setCell ⟨go96, (x9_56 : Int).toNat * 4 + 2, none⟩ (.bool a1_2))) ?hg ?ho ?hn ?hr ?_; (case ho => rfl); (case hg => rfl); (case hn => rfl); (case hr => first | (go_simp; done) | (go_simp; rfl)); intro w105 hw; have hg : wc.grownBy w105 (some go96) := (by rw [hw]; exact HP104.2); have hp_ : Kd.R k35 35 w105 w.heap.size (fun _ => True) (.slice (some ⟨go96, 0, none⟩) y162.length co15) y171 := (by rw [hw, Ny171.out]; exact HP104.1); clear HP104; replace BK156 := mS (blk_grown (g := gb156) (o := .cells #[.slice A0_0 l0_0.length c0_0] 26 (0, 0)) (mK BK156.out) hg (Kd.R_ne HO_166000.out BK156.out (by decide))); replace BK157 := mS (blk_grown (g := gb157) (o := .cells #[.string a1_0, .string a1_1, .bool a1_2] 33 (0, 0)) (mK BK157.out) hg (Kd.R_ne HO_166000.out BK157.out (by decide))); replace BK158 := mS (blk_grown (g := gb158) (o := .cells #[.slice none 0 0] 26 (0, 0)) (mK BK158.out) hg (Kd.R_ne HO_166000.out BK158.out (by decide))); replace BK165 := mS (blk_grown (g := gb165) (o := .cells #[.slice (some ⟨go96, 0, none⟩) y162.length co15] 26 (0, 0)) (mK BK165.out) hg (Kd.R_ne HO_166000.out BK165.out (by decide))); replace HO_166000 := mS (hp_); replace HB := mS ((by rw [hw]; exact below_set (below_set (below_set (HB.out) GB96.out) GB96.out) GB96.out : Below w.heap.size w w105)); clear hg hw hp_; have hcz106_0 : w105.cell? ⟨gb165, 0, none⟩ = some (.slice (some ⟨go96, 0, none⟩) y162.length co15) := (blk_cell BK165.out 0).trans rfl; have hfz106_0 := blk_frozen BK165.out 0; have hnb107 := NB158_156.out; have hnc107 := NB156_158.out; have hcz108_0 : w105.cell? ⟨gb158, 0, none⟩ = some (.slice none 0 0) := (blk_cell BK158.out 0).trans rfl; have hfz108_0 := blk_frozen BK158.out 0)))
            refine bodyPost_ret (results_ct rfl _ _ gb158 26 #[.slice (some ⟨go96, 0, none⟩) y162.length co15] (0, 0) _ rfl (by (with_reducible repeat (first | refine blk_drewN ?_ _ | refine blk_drew ?_ | refine blk_alloc ?_ _)); refine blk_put (cs := #[.slice none 0 0]) ?_ 0 _ rfl; (with_reducible repeat (first | refine blk_drewN ?_ _ | refine blk_drew ?_ | refine blk_alloc ?_ _)); exact BK158.out) Try.underlying26 rfl (by kernel_rfl)) rfl ?_
            exact ⟨_, by first | rfl | (simp [errW_none, errW_some] <;> rfl) | (simp [*, errW_none, errW_some] <;> rfl), by (with_reducible repeat (first | apply Kd.R_alloc | apply Kd.R_drewN | apply Kd.R_drew)); exact Kd.R_mono (Kd.R_far (p := ⟨gb158, 0, none⟩) (Kd.R_types HO_166000.out BK158.out (by decide)) (fun _ hk => hk.2) (.slice (some ⟨go96, 0, none⟩) y162.length co15)) (fun _ hk => trivial), (mH4 HB.out GE156.out GE157.out GE158.out GE165.out)⟩
           ·rw [if_neg c95] at H
            exact absurd H (by simp)
          ·rw [if_neg c94] at H
           exact absurd H (by simp)
         ·replace c93 := Bool.eq_false_iff.mpr c93
          subst c93
          have H1 : (if (y162.length : Int) = 60 then (some (y162, false)) else ((some (([] : List (S35)) : List (S35))).bind fun y172 => (if 0 ≤ x9_56 then (if x9_56 ≤ (y162.length : Int) then ((some (y162.take (x9_56 : Int).toNat : List (S35))).bind fun y175 => (if y172.length + y175.length < 2932031007402 then ((some (y172 ++ y175 : List (S35))).bind fun y179 => (if y179.length < 2932031007402 then ((some (y179 ++ [(⟨(⟨a1_0, a1_1, a1_2⟩ : S33), a2⟩ : S35)] : List (S35))).bind fun y182 => ((some (y162.drop (x9_56 : Int).toNat : List (S35))).bind fun y185 => (if y182.length + y185.length < 2932031007402 then (some ((y182 ++ y185), true)) else (none)))) else (none))) else (none))) else (none)) else (none)))) = some (r1, r2) := by rw [if_neg (show ¬ (false = true) by decide)] at H; exact H
          clear H
          have H := H1
          clear H1
          by_cases c109 : (y162.length : Int) = 60
          ·rw [if_pos c109] at H
           have c109b0 : ((y162.length : Int) == 60) = true := beq_iff_eq.mpr c109
           have c109b1 : ((y162.length : Int) != 60) = false := bne_eq_false_iff_eq.mpr c109
           clear c109
           simp only [Option.some.injEq, Prod.mk.injEq] at H
           obtain ⟨rfl, rfl⟩ := H
           have hnb110 := NB165_156.out
           have hnc110 := NB156_165.out
           have hnb111 := NB165_157.out
           have hnc111 := NB157_165.out
           have hnb112 := NB165_158.out
           have hnc112 := NB158_165.out
           have hcz113_0 : wc.cell? ⟨gb165, 0, none⟩ = some (.slice Ao15 y162.length co15) := (blk_cell BK165.out 0).trans rfl
           have hfz113_0 := blk_frozen BK165.out 0
           have hnb114 := NB158_156.out
           have hnc114 := NB156_158.out
           have hnb115 := NB158_157.out
           have hnc115 := NB157_158.out
           have hcz116_0 : wc.cell? ⟨gb158, 0, none⟩ = some (.slice none 0 0) := (blk_cell BK158.out 0).trans rfl
           have hfz116_0 := blk_frozen BK158.out 0
           go_wp2
           repeat (go_quiet (fail); try go_wp2)
           refine bodyPost_ret (results_ct rfl _ _ gb158 26 #[.slice Ao15 y162.length co15] (0, 0) _ rfl (by (with_reducible repeat (first | refine blk_drewN ?_ _ | refine blk_drew ?_ | refine blk_alloc ?_ _)); refine blk_put (cs := #[.slice none 0 0]) ?_ 0 _ rfl; (with_reducible repeat (first | refine blk_drewN ?_ _ | refine blk_drew ?_ | refine blk_alloc ?_ _)); exact BK158.out) Try.underlying26 rfl (by kernel_rfl)) rfl ?_
           exact ⟨_, by first | rfl | (simp [errW_none, errW_some] <;> rfl) | (simp [*, errW_none, errW_some] <;> rfl), by (with_reducible repeat (first | apply Kd.R_alloc | apply Kd.R_drewN | apply Kd.R_drew)); exact Kd.R_mono (Kd.R_far (p := ⟨gb158, 0, none⟩) (Kd.R_types HO_166000.out BK158.out (by decide)) (fun _ hk => hk.2) (.slice Ao15 y162.length co15)) (fun _ hk => trivial), (mH4 HB.out GE156.out GE157.out GE158.out GE165.out)⟩
          ·rw [if_neg c109] at H
           have c109b0 : ((y162.length : Int) == 60) = false := beq_eq_false_iff_ne.mpr c109
           have c109b1 : ((y162.length : Int) != 60) = true := bne_iff_ne.mpr c109
           obtain ⟨y172, hy172⟩ : ∃ y_ : List (S35), y_ = (([] : List (S35))) := ⟨_, rfl⟩
           replace H : (if 0 ≤ x9_56 then (if x9_56 ≤ (y162.length : Int) then ((some (y162.take (x9_56 : Int).toNat : List (S35))).bind fun y175 => (if y172.length + y175.length < 2932031007402 then ((some (y172 ++ y175 : List (S35))).bind fun y179 => (if y179.length < 2932031007402 then ((some (y179 ++ [(⟨(⟨a1_0, a1_1, a1_2⟩ : S33), a2⟩ : S35)] : List (S35))).bind fun y182 => ((some (y162.drop (x9_56 : Int).toNat : List (S35))).bind fun y185 => (if y182.length + y185.length < 2932031007402 then (some ((y182 ++ y185), true)) else (none)))) else (none))) else (none))) else (none)) else (none)) = some (r1, r2) := by first | (rw [hy172]; with_reducible exact H) | (have H2_ := (Option.bind_some _ _).symm.trans H; rw [hy172]; with_reducible exact H2_) | (have H2_ := (Option.bind_some _ _).symm.trans H; with_reducible exact H2_) | with_reducible exact H | (rw [hy172]; exact H) | exact H
           have Ny172 := mS hy172
           clear hy172
           by_cases c117 : 0 ≤ x9_56
           ·rw [if_pos c117] at H
            have c117b0 := eq_true c117
            have c117b1 : decide (0 ≤ x9_56) = true := decide_eq_true c117
            clear c117
            by_cases c118 : x9_56 ≤ (y162.length : Int)
            ·rw [if_pos c118] at H
             have c118b0 := eq_true c118
             have c118b1 : decide (x9_56 ≤ (y162.length : Int)) = true := decide_eq_true c118
             clear c118
             obtain ⟨y175, hy175⟩ : ∃ y_ : List (S35), y_ = (y162.take (x9_56 : Int).toNat) := ⟨_, rfl⟩
             replace H : (if y172.length + y175.length < 2932031007402 then ((some (y172 ++ y175 : List (S35))).bind fun y179 => (if y179.length < 2932031007402 then ((some (y179 ++ [(⟨(⟨a1_0, a1_1, a1_2⟩ : S33), a2⟩ : S35)] : List (S35))).bind fun y182 => ((some (y162.drop (x9_56 : Int).toNat : List (S35))).bind fun y185 => (if y182.length + y185.length < 2932031007402 then (some ((y182 ++ y185), true)) else (none)))) else (none))) else (none)) = some (r1, r2) := by first | (rw [hy175]; with_reducible exact H) | (have H2_ := (Option.bind_some _ _).symm.trans H; rw [hy175]; with_reducible exact H2_) | (have H2_ := (Option.bind_some _ _).symm.trans H; with_reducible exact H2_) | with_reducible exact H | (rw [hy175]; exact H) | exact H
             have Ny175 := mS hy175
             clear hy175
             by_cases c119 : y172.length + y175.length < 2932031007402
             ·rw [if_pos c119] at H
              have LMc119 := mS c119
              clear c119
              obtain ⟨y179, hy179⟩ : ∃ y_ : List (S35), y_ = (y172 ++ y175) := ⟨_, rfl⟩
              replace H : (if y179.length < 2932031007402 then ((some (y179 ++ [(⟨(⟨a1_0, a1_1, a1_2⟩ : S33), a2⟩ : S35)] : List (S35))).bind fun y182 => ((some (y162.drop (x9_56 : Int).toNat : List (S35))).bind fun y185 => (if y182.length + y185.length < 2932031007402 then (some ((y182 ++ y185), true)) else (none)))) else (none)) = some (r1, r2) := by first | (rw [hy179]; with_reducible exact H) | (have H2_ := (Option.bind_some _ _).symm.trans H; rw [hy179]; with_reducible exact H2_) | (have H2_ := (Option.bind_some _ _).symm.trans H; with_reducible exact H2_) | with_reducible exact H | (rw [hy179]; exact H) | exact H
              have Ny179 := mS hy179
              clear hy179
              by_cases c120 : y179.length < 2932031007402
              ·rw [if_pos c120] at H
               have LMc120 := mS c120
               clear c120
               obtain ⟨y182, hy182⟩ : ∃ y_ : List (S35), y_ = (y179 ++ [(⟨(⟨a1_0, a1_1, a1_2⟩ : S33), a2⟩ : S35)]) := ⟨_, rfl⟩
               replace H : ((some (y162.drop (x9_56 : Int).toNat : List (S35))).bind fun y185 => (if y182.length + y185.length < 2932031007402 then (some ((y182 ++ y185), true)) else (none))) = some (r1, r2) := by first | (rw [hy182]; with_reducible exact H) | (have H2_ := (Option.bind_some _ _).symm.trans H; rw [hy182]; with_reducible exact H2_) | (have H2_ := (Option.bind_some _ _).symm.trans H; with_reducible exact H2_) | with_reducible exact H | (rw [hy182]; exact H) | exact H
               have Ny182 := mS hy182
               clear hy182
               have c121b0 := eq_true (of_decide_eq_true (by first | (with_reducible assumption) | assumption) : 0 ≤ x9_56)
               have c122b0 := eq_true (of_decide_eq_true (by first | (with_reducible assumption) | assumption) : x9_56 ≤ (y162.length : Int))
               obtain ⟨y185, hy185⟩ : ∃ y_ : List (S35), y_ = (y162.drop (x9_56 : Int).toNat) := ⟨_, rfl⟩
               replace H : (if y182.length + y185.length < 2932031007402 then (some ((y182 ++ y185), true)) else (none)) = some (r1, r2) := by first | (rw [hy185]; with_reducible exact H) | (have H2_ := (Option.bind_some _ _).symm.trans H; rw [hy185]; with_reducible exact H2_) | (have H2_ := (Option.bind_some _ _).symm.trans H; with_reducible exact H2_) | with_reducible exact H | (rw [hy185]; exact H) | exact H
               have Ny185 := mS hy185
               clear hy185
               by_cases c123 : y182.length + y185.length < 2932031007402
               ·rw [if_pos c123] at H
                have LMc123 := mS c123
                clear c123
                obtain ⟨y189, hy189⟩ : ∃ y_ : List (S35), y_ = (y182 ++ y185) := ⟨_, rfl⟩
                replace H : (some (y189, true)) = some (r1, r2) := by first | (rw [hy189]; with_reducible exact H) | (have H2_ := (Option.bind_some _ _).symm.trans H; rw [hy189]; with_reducible exact H2_) | (have H2_ := (Option.bind_some _ _).symm.trans H; with_reducible exact H2_) | with_reducible exact H | (rw [hy189]; exact H) | exact H
                have Ny189 := mS hy189
                clear hy189
                simp only [Option.some.injEq, Prod.mk.injEq] at H
                obtain ⟨rfl, rfl⟩ := H
                have hnb124 := NB165_156.out
                have hnc124 := NB156_165.out
                have hnb125 := NB165_157.out
                have hnc125 := NB157_165.out
                have hnb126 := NB165_158.out
                have hnc126 := NB158_165.out
                have hcz127_0 : wc.cell? ⟨gb165, 0, none⟩ = some (.slice Ao15 y162.length co15) := (blk_cell BK165.out 0).trans rfl
                have hfz127_0 := blk_frozen BK165.out 0
                go_wp2_with (first | ((with_reducible refine gate_dst (N := 78) rfl ?_); refine Kd.R_lit k35 _ 35 ?hg (N := 78) ?hd (xs := ([] : List (S35))) (inner := []) (ok := fun _ => True) (okp := fun _ => True) ?hr ?hp (fun _ hk => hk) trivial (Below.refl _ _) (Nat.le_refl _) (by simp) ?_; (case hd => rfl); (case hg => rfl); (case hr => first | (go_simp; done) | (go_simp; rfl)); (case hp => exact (Reps.none _ _)); intro v173 w128 ho129 hb hg_ hnew_; clear hg_ hnew_; (first | rw [← Ny172.out] at ho129 | (simp only [Int.reduceToNat] at ho129; rw [← Ny172.out] at ho129)); have HO174 := mS (Kd.R_lower (Kd.R_new' ho129 (Kd.R_lt (mR HO_166000.out))) (below_size (mH4 HB.out GE156.out GE157.out GE158.out GE165.out))); replace HO_166000 := mS (Kd.R_elder' (mR HO_166000.out) (Kd.R_base ho129) hb); replace BK156 := mB BK156 hb; replace BK157 := mB BK157 hb; replace BK158 := mB BK158 hb; replace BK165 := mB BK165 hb; replace HB := mS (below_step (mH4 HB.out GE156.out GE157.out GE158.out GE165.out) hb); clear hb ho129; have hcz130_0 : w128.cell? ⟨gb165, 0, none⟩ = some (.slice Ao15 y162.length co15) := (blk_cell BK165.out 0).trans rfl; have hfz130_0 := blk_frozen BK165.out 0; have q131 : (x9_56 : Int) ≤ ((y162.length : Int) : Int) := of_decide_eq_true (by first | (with_reducible assumption) | assumption); obtain ⟨i0131, hi0131, _, hsz131, _⟩ := info_parts info35; have hroom131 : y162.length ≤ co15 := (Kd.R_reads' HO_166000.out).2.1; have hC131 : Kd.C k35 _ Ao15 y162.length y162 := (Kd.R_reads' HO_166000.out).2.2; have hcut131 := cut_to (P := Try.prog) 24 35 .i64 Try.underlying24 hi0131 Ao15 y162.length co15 x9_56 (of_decide_eq_true (by first | (with_reducible assumption) | assumption)) q131 hroom131; have hr131 := Kd.C_take (m := (x9_56 : Int).toNat) hC131 (by omega); have hy131 : y175.length = (x9_56 : Int).toNat := (by rw [Ny175.out, List.length_take]; omega); rw [← Ny175.out] at hr131; rw [← hy131] at hcut131; have HR178 := mS hr131; have HC178 := mS (show y175.length ≤ co15 from by omega); clear hr131 hC131 hroom131 hi0131 hsz131; have KY131 := mS hy131; clear hy131; have KL131 := mS (show (x9_56 : Int).toNat ≤ y162.length from by omega); replace q131 := eq_true q131) | ((with_reducible refine gate_builtin (b := .append) (xs := #[.tmp 78, .tmp 82]) rfl ?_); at_builtin; refine Kd.R_append_rows k35 (w0 := w) w.heap.size rfl (.tmp 78) (.tmp 82) 24 35 (.agg #[(.string ⟨#[]⟩), (.string ⟨#[]⟩), (.bool false), (.int .i64 0)]) 48 rfl Try.underlying24 info35 rfl (by decide) (by omega) v173 y172 y175 _ _ _ (fun k_ => some k_ ≠ (.slice Ao15 y162.length co15 : Value).ownBlock) (fun _ => False) rfl rfl ?aO ?aR (fun _ _ h => h) (fun _ h => h.elim) ?aF ?aB ?aS ?aL ?_; (case aR => repeat (first | exact (mC HR178.out) | (with_reducible refine Kd.C_alloc ?_ _) | (with_reducible refine Kd.C_drewN ?_ _) | (with_reducible refine Kd.C_drew ?_))); (case aB => exact (mH4 HB.out GE156.out GE157.out GE158.out GE165.out)); (case aF => exact (fun k_ hk => Kd.fresh' (Kd.R_lt (mR HO_166000.out)) k_ hk)); (case aO => exact (by (with_reducible repeat (first | apply Kd.R_alloc | apply Kd.R_drewN | apply Kd.R_drew)); exact Kd.R_mono HO174.out (fun _ hk => hk.2))); (case aS => exact (below_size (mH4 HB.out GE156.out GE157.out GE158.out GE165.out))); (case aL => have := LMc119.out; omega); intro v180 w132 ho hb hg hat; rw [← Ny179.out] at ho; replace BK156 := mS (blk_grown (g := gb156) (o := .cells #[.slice A0_0 l0_0.length c0_0] 26 (0, 0)) (mK BK156.out) hg (Kd.R_ne HO174.out BK156.out (by decide))); replace BK157 := mS (blk_grown (g := gb157) (o := .cells #[.string a1_0, .string a1_1, .bool a1_2] 33 (0, 0)) (mK BK157.out) hg (Kd.R_ne HO174.out BK157.out (by decide))); replace BK158 := mS (blk_grown (g := gb158) (o := .cells #[.slice none 0 0] 26 (0, 0)) (mK BK158.out) hg (Kd.R_ne HO174.out BK158.out (by decide))); replace BK165 := mS (blk_grown (g := gb165) (o := .cells #[.slice Ao15 y162.length co15] 26 (0, 0)) (mK BK165.out) hg (Kd.R_ne HO174.out BK165.out (by decide))); replace HB := mS (hb); replace HR178 := mS ((show Kd.C k35 w132 Ao15 y175.length y175 from by rw [Ny175.out]; exact Kd.C_take (m := (x9_56 : Int).toNat) ((Kd.R_reads' (Kd.R_after (ok := (fun _ => True)) (mR HO_166000.out) hg hat)).2.2) KL131.out)); replace HO_166000 := mS (Kd.R_after (ok := (fun _ => True)) (mR HO_166000.out) hg hat); have HO181 := mS (ho); clear HO174; clear ho hb hg hat; have hnb133 := NB157_156.out; have hnc133 := NB156_157.out; have hnb134 := NB157_158.out; have hnc134 := NB158_157.out; have hcz135_0 : w132.cell? ⟨gb157, 0, none⟩ = some (.string a1_0) := (blk_cell BK157.out 0).trans rfl; have hcz135_1 : w132.cell? ⟨gb157, 1, none⟩ = some (.string a1_1) := (blk_cell BK157.out 1).trans rfl; have hcz135_2 : w132.cell? ⟨gb157, 2, none⟩ = some (.bool a1_2) := (blk_cell BK157.out 2).trans rfl; have hfz135_0 := blk_frozen BK157.out 0; have hfz135_1 := blk_frozen BK157.out 1; have hfz135_2 := blk_frozen BK157.out 2) | ((with_reducible refine gate_builtin (b := .append) (xs := #[.tmp 84, .tmp 88]) rfl ?_); at_builtin; refine Kd.R_append k35 (w0 := w) w.heap.size rfl (.tmp 84) (.tmp 88) 24 35 (.agg #[(.string ⟨#[]⟩), (.string ⟨#[]⟩), (.bool false), (.int .i64 0)]) 48 rfl Try.underlying24 info35 rfl (by decide) (by omega) v180 y179 (⟨(⟨a1_0, a1_1, a1_2⟩ : S33), a2⟩ : S35) [.string a1_0, .string a1_1, .bool a1_2, .int .i64 a2] (fun k_ => some k_ ≠ (.slice Ao15 y162.length co15 : Value).ownBlock) (fun _ => False) rfl rfl ?aP (fun _ hk => hk.elim) ?aF ?aO ?aB ?aS ?aL ?_; (case aP => exact k35_mkM _ _ _ (⟨(⟨a1_0, a1_1, a1_2⟩ : S33), a2⟩ : S35)); (case aB => exact (mH4 HB.out GE156.out GE157.out GE158.out GE165.out)); (case aF => exact (fun k_ hk => Kd.fresh' (Kd.R_lt (mR HO_166000.out)) k_ hk)); (case aO => exact (mR HO181.out)); (case aS => exact (below_size (mH4 HB.out GE156.out GE157.out GE158.out GE165.out))); (case aL => have := LMc120.out; omega); intro v183 w136 ho hb hg hat; rw [← Ny182.out] at ho; replace BK156 := mS (blk_grown (g := gb156) (o := .cells #[.slice A0_0 l0_0.length c0_0] 26 (0, 0)) (mK BK156.out) hg (Kd.R_ne HO181.out BK156.out (by decide))); replace BK157 := mS (blk_grown (g := gb157) (o := .cells #[.string a1_0, .string a1_1, .bool a1_2] 33 (0, 0)) (mK BK157.out) hg (Kd.R_ne HO181.out BK157.out (by decide))); replace BK158 := mS (blk_grown (g := gb158) (o := .cells #[.slice none 0 0] 26 (0, 0)) (mK BK158.out) hg (Kd.R_ne HO181.out BK158.out (by decide))); replace BK165 := mS (blk_grown (g := gb165) (o := .cells #[.slice Ao15 y162.length co15] 26 (0, 0)) (mK BK165.out) hg (Kd.R_ne HO181.out BK165.out (by decide))); replace HB := mS (hb); replace HR178 := mS ((show Kd.C k35 w136 Ao15 y175.length y175 from by rw [Ny175.out]; exact Kd.C_take (m := (x9_56 : Int).toNat) ((Kd.R_reads' (Kd.R_after (ok := (fun _ => True)) (mR HO_166000.out) hg hat)).2.2) KL131.out)); replace HO_166000 := mS (Kd.R_after (ok := (fun _ => True)) (mR HO_166000.out) hg hat); have HO184 := mS (ho); clear HO181; clear ho hb hg hat; have hcz137_0 : w136.cell? ⟨gb165, 0, none⟩ = some (.slice Ao15 y162.length co15) := (blk_cell BK165.out 0).trans rfl; have hfz137_0 := blk_frozen BK165.out 0; have q138 : (x9_56 : Int) ≤ ((y162.length : Int) : Int) := of_decide_eq_true (by first | (with_reducible assumption) | assumption); obtain ⟨i0138, hi0138, _, hsz138, _⟩ := info_parts info35; have hroom138 : y162.length ≤ co15 := (Kd.R_reads' HO_166000.out).2.1; have hC138 : Kd.C k35 _ Ao15 y162.length y162 := (Kd.R_reads' HO_166000.out).2.2; have q0138 : (0 : Int) ≤ (x9_56 : Int) := of_decide_eq_true (by first | (with_reducible assumption) | assumption); have hcut138 := cut_from (P := Try.prog) 24 35 .i64 Try.underlying24 hi0138 4 hsz138 Ao15 y162.length co15 x9_56 q0138 q138; have hr138 := Kd.C_drop (m := (x9_56 : Int).toNat) (c := co15) hC138 (by omega) hroom138; obtain ⟨A138, hA138⟩ : ∃ A1, A1 = (if co15 = (x9_56 : Int).toNat then Ao15 else (Ao15 : Option Addr).map (·.add ((x9_56 : Int).toNat * 4))) := ⟨_, rfl⟩; obtain ⟨c138, hc138⟩ : ∃ c1, c1 = co15 - (x9_56 : Int).toNat := ⟨_, rfl⟩; have hy138 : y185.length = y162.length - (x9_56 : Int).toNat := (by rw [Ny185.out, List.length_drop] <;> omega); rw [show (y162).drop (x9_56 : Int).toNat = y185 from Ny185.out.symm] at hr138; replace hr138 : Kd.C k35 _ A138 y185.length y185 := (by rw [hA138]; exact hr138); rw [← hy138, ← hA138, ← hc138] at hcut138; have HR188 := mS hr138; have HC188 := mS (show y185.length ≤ c138 from by rw [hy138, hc138]; exact Nat.sub_le_sub_right hroom138 _); clear hr138 hC138 hroom138 hi0138 hsz138 hc138; have KY138 := mS hy138; have KA138 := mS hA138; clear hy138 hA138; have KL138 := mS (show (x9_56 : Int).toNat ≤ y162.length from by omega); replace q138 := eq_true q138) | ((with_reducible refine gate_builtin (b := .append) (xs := #[.tmp 90, .tmp 94]) rfl ?_); at_builtin; refine Kd.R_append_rows k35 (w0 := w) w.heap.size rfl (.tmp 90) (.tmp 94) 24 35 (.agg #[(.string ⟨#[]⟩), (.string ⟨#[]⟩), (.bool false), (.int .i64 0)]) 48 rfl Try.underlying24 info35 rfl (by decide) (by omega) v183 y182 y185 _ _ _ (fun k_ => some k_ ≠ (.slice Ao15 y162.length co15 : Value).ownBlock) (fun _ => False) rfl rfl ?aO ?aR (fun _ _ h => h) (fun _ h => h.elim) ?aF ?aB ?aS ?aL ?_; (case aR => repeat (first | exact (mC HR188.out) | (with_reducible refine Kd.C_alloc ?_ _) | (with_reducible refine Kd.C_drewN ?_ _) | (with_reducible refine Kd.C_drew ?_))); (case aB => exact (mH4 HB.out GE156.out GE157.out GE158.out GE165.out)); (case aF => exact (fun k_ hk => Kd.fresh' (Kd.R_lt (mR HO_166000.out)) k_ hk)); (case aO => exact (mR HO184.out)); (case aS => exact (below_size (mH4 HB.out GE156.out GE157.out GE158.out GE165.out))); (case aL => have := LMc123.out; omega); intro v190 w139 ho hb hg hat; rw [← Ny189.out] at ho; replace BK156 := mS (blk_grown (g := gb156) (o := .cells #[.slice A0_0 l0_0.length c0_0] 26 (0, 0)) (mK BK156.out) hg (Kd.R_ne HO184.out BK156.out (by decide))); replace BK157 := mS (blk_grown (g := gb157) (o := .cells #[.string a1_0, .string a1_1, .bool a1_2] 33 (0, 0)) (mK BK157.out) hg (Kd.R_ne HO184.out BK157.out (by decide))); replace BK158 := mS (blk_grown (g := gb158) (o := .cells #[.slice none 0 0] 26 (0, 0)) (mK BK158.out) hg (Kd.R_ne HO184.out BK158.out (by decide))); replace BK165 := mS (blk_grown (g := gb165) (o := .cells #[.slice Ao15 y162.length co15] 26 (0, 0)) (mK BK165.out) hg (Kd.R_ne HO184.out BK165.out (by decide))); replace HB := mS (hb); replace HR178 := mS ((show Kd.C k35 w139 Ao15 y175.length y175 from by rw [Ny175.out]; exact Kd.C_take (m := (x9_56 : Int).toNat) ((Kd.R_reads' (Kd.R_after (ok := (fun _ => True)) (mR HO_166000.out) hg hat)).2.2) KL131.out)); replace HR188 := mS ((show Kd.C k35 w139 A138 y185.length y185 from by rw [Ny185.out, KA138.out]; exact Kd.C_drop (m := (x9_56 : Int).toNat) (c := co15) ((Kd.R_reads' (Kd.R_after (ok := (fun _ => True)) (mR HO_166000.out) hg hat)).2.2) KL138.out ((Kd.R_reads' (Kd.R_after (ok := (fun _ => True)) (mR HO_166000.out) hg hat)).2.1))); replace HO_166000 := mS (Kd.R_after (ok := (fun _ => True)) (mR HO_166000.out) hg hat); have HO191 := mS (ho); clear HO184; clear ho hb hg hat; obtain ⟨Ao140, co140, eo140⟩ := Kd.R_slice HO191.out; subst eo140; have hnb141 := NB158_156.out; have hnc141 := NB156_158.out; have hcz142_0 : w139.cell? ⟨gb158, 0, none⟩ = some (.slice none 0 0) := (blk_cell BK158.out 0).trans rfl; have hfz142_0 := blk_frozen BK158.out 0))
                repeat (go_quiet (first | ((with_reducible refine gate_dst (N := 78) rfl ?_); refine Kd.R_lit k35 _ 35 ?hg (N := 78) ?hd (xs := ([] : List (S35))) (inner := []) (ok := fun _ => True) (okp := fun _ => True) ?hr ?hp (fun _ hk => hk) trivial (Below.refl _ _) (Nat.le_refl _) (by simp) ?_; (case hd => rfl); (case hg => rfl); (case hr => first | (go_simp; done) | (go_simp; rfl)); (case hp => exact (Reps.none _ _)); intro v173 w128 ho129 hb hg_ hnew_; clear hg_ hnew_; (first | rw [← Ny172.out] at ho129 | (simp only [Int.reduceToNat] at ho129; rw [← Ny172.out] at ho129)); have HO174 := mS (Kd.R_lower (Kd.R_new' ho129 (Kd.R_lt (mR HO_166000.out))) (below_size (mH4 HB.out GE156.out GE157.out GE158.out GE165.out))); replace HO_166000 := mS (Kd.R_elder' (mR HO_166000.out) (Kd.R_base ho129) hb); replace BK156 := mB BK156 hb; replace BK157 := mB BK157 hb; replace BK158 := mB BK158 hb; replace BK165 := mB BK165 hb; replace HB := mS (below_step (mH4 HB.out GE156.out GE157.out GE158.out GE165.out) hb); clear hb ho129; have hcz130_0 : w128.cell? ⟨gb165, 0, none⟩ = some (.slice Ao15 y162.length co15) := (blk_cell BK165.out 0).trans rfl; have hfz130_0 := blk_frozen BK165.out 0; have q131 : (x9_56 : Int) ≤ ((y162.length : Int) : Int) := of_decide_eq_true (by first | (with_reducible assumption) | assumption); obtain ⟨i0131, hi0131, _, hsz131, _⟩ := info_parts info35; have hroom131 : y162.length ≤ co15 := (Kd.R_reads' HO_166000.out).2.1; have hC131 : Kd.C k35 _ Ao15 y162.length y162 := (Kd.R_reads' HO_166000.out).2.2; have hcut131 := cut_to (P := Try.prog) 24 35 .i64 Try.underlying24 hi0131 Ao15 y162.length co15 x9_56 (of_decide_eq_true (by first | (with_reducible assumption) | assumption)) q131 hroom131; have hr131 := Kd.C_take (m := (x9_56 : Int).toNat) hC131 (by omega); have hy131 : y175.length = (x9_56 : Int).toNat := (by rw [Ny175.out, List.length_take]; omega); rw [← Ny175.out] at hr131; rw [← hy131] at hcut131; have HR178 := mS hr131; have HC178 := mS (show y175.length ≤ co15 from by omega); clear hr131 hC131 hroom131 hi0131 hsz131; have KY131 := mS hy131; clear hy131; have KL131 := mS (show (x9_56 : Int).toNat ≤ y162.length from by omega); replace q131 := eq_true q131) | ((with_reducible refine gate_builtin (b := .append) (xs := #[.tmp 78, .tmp 82]) rfl ?_); at_builtin; refine Kd.R_append_rows k35 (w0 := w) w.heap.size rfl (.tmp 78) (.tmp 82) 24 35 (.agg #[(.string ⟨#[]⟩), (.string ⟨#[]⟩), (.bool false), (.int .i64 0)]) 48 rfl Try.underlying24 info35 rfl (by decide) (by omega) v173 y172 y175 _ _ _ (fun k_ => some k_ ≠ (.slice Ao15 y162.length co15 : Value).ownBlock) (fun _ => False) rfl rfl ?aO ?aR (fun _ _ h => h) (fun _ h => h.elim) ?aF ?aB ?aS ?aL ?_; (case aR => repeat (first | exact (mC HR178.out) | (with_reducible refine Kd.C_alloc ?_ _) | (with_reducible refine Kd.C_drewN ?_ _) | (with_reducible refine Kd.C_drew ?_))); (case aB => exact (mH4 HB.out GE156.out GE157.out GE158.out GE165.out)); (case aF => exact (fun k_ hk => Kd.fresh' (Kd.R_lt (mR HO_166000.out)) k_ hk)); (case aO => exact (by (with_reducible repeat (first | apply Kd.R_alloc | apply Kd.R_drewN | apply Kd.R_drew)); exact Kd.R_mono HO174.out (fun _ hk => hk.2))); (case aS => exact (below_size (mH4 HB.out GE156.out GE157.out GE158.out GE165.out))); (case aL => have := LMc119.out; omega); intro v180 w132 ho hb hg hat; rw [← Ny179.out] at ho; replace BK156 := mS (blk_grown (g := gb156) (o := .cells #[.slice A0_0 l0_0.length c0_0] 26 (0, 0)) (mK BK156.out) hg (Kd.R_ne HO174.out BK156.out (by decide))); replace BK157 := mS (blk_grown (g := gb157) (o := .cells #[.string a1_0, .string a1_1, .bool a1_2] 33 (0, 0)) (mK BK157.out) hg (Kd.R_ne HO174.out BK157.out (by decide))); replace BK158 := mS (blk_grown (g := gb158) (o := .cells #[.slice none 0 0] 26 (0, 0)) (mK BK158.out) hg (Kd.R_ne HO174.out BK158.out (by decide))); replace BK165 := mS (blk_grown (g := gb165) (o := .cells #[.slice Ao15 y162.length co15] 26 (0, 0)) (mK BK165.out) hg (Kd.R_ne HO174.out BK165.out (by decide))); replace HB := mS (hb); replace HR178 := mS ((show Kd.C k35 w132 Ao15 y175.length y175 from by rw [Ny175.out]; exact Kd.C_take (m := (x9_56 : Int).toNat) ((Kd.R_reads' (Kd.R_after (ok := (fun _ => True)) (mR HO_166000.out) hg hat)).2.2) KL131.out)); replace HO_166000 := mS (Kd.R_after (ok := (fun _ => True)) (mR HO_166000.out) hg hat); have HO181 := mS (ho); clear HO174; clear ho hb hg hat; have hnb133 := NB157_156.out; have hnc133 := NB156_157.out; have hnb134 := NB157_158.out; have hnc134 := NB158_157.out; have hcz135_0 : w132.cell? ⟨gb157, 0, none⟩ = some (.string a1_0) := (blk_cell BK157.out 0).trans rfl; have hcz135_1 : w132.cell? ⟨gb157, 1, none⟩ = some (.string a1_1) := (blk_cell BK157.out 1).trans rfl; have hcz135_2 : w132.cell? ⟨gb157, 2, none⟩ = some (.bool a1_2) := (blk_cell BK157.out 2).trans rfl; have hfz135_0 := blk_frozen BK157.out 0; have hfz135_1 := blk_frozen BK157.out 1; have hfz135_2 := blk_frozen BK157.out 2) | ((with_reducible refine gate_builtin (b := .append) (xs := #[.tmp 84, .tmp 88]) rfl ?_); at_builtin; refine Kd.R_append k35 (w0 := w) w.heap.size rfl (.tmp 84) (.tmp 88) 24 35 (.agg #[(.string ⟨#[]⟩), (.string ⟨#[]⟩), (.bool false), (.int .i64 0)]) 48 rfl Try.underlying24 info35 rfl (by decide) (by omega) v180 y179 (⟨(⟨a1_0, a1_1, a1_2⟩ : S33), a2⟩ : S35) [.string a1_0, .string a1_1, .bool a1_2, .int .i64 a2] (fun k_ => some k_ ≠ (.slice Ao15 y162.length co15 : Value).ownBlock) (fun _ => False) rfl rfl ?aP (fun _ hk => hk.elim) ?aF ?aO ?aB ?aS ?aL ?_; (case aP => exact k35_mkM _ _ _ (⟨(⟨a1_0, a1_1, a1_2⟩ : S33), a2⟩ : S35)); (case aB => exact (mH4 HB.out GE156.out GE157.out GE158.out GE165.out)); (case aF => exact (fun k_ hk => Kd.fresh' (Kd.R_lt (mR HO_166000.out)) k_ hk)); (case aO => exact (mR HO181.out)); (case aS => exact (below_size (mH4 HB.out GE156.out GE157.out GE158.out GE165.out))); (case aL => have := LMc120.out; omega); intro v183 w136 ho hb hg hat; rw [← Ny182.out] at ho; replace BK156 := mS (blk_grown (g := gb156) (o := .cells #[.slice A0_0 l0_0.length c0_0] 26 (0, 0)) (mK BK156.out) hg (Kd.R_ne HO181.out BK156.out (by decide))); replace BK157 := mS (blk_grown (g := gb157) (o := .cells #[.string a1_0, .string a1_1, .bool a1_2] 33 (0, 0)) (mK BK157.out) hg (Kd.R_ne HO181.out BK157.out (by decide))); replace BK158 := mS (blk_grown (g := gb158) (o := .cells #[.slice none 0 0] 26 (0, 0)) (mK BK158.out) hg (Kd.R_ne HO181.out BK158.out (by decide))); replace BK165 := mS (blk_grown (g := gb165) (o := .cells #[.slice Ao15 y162.length co15] 26 (0, 0)) (mK BK165.out) hg (Kd.R_ne HO181.out BK165.out (by decide))); replace HB := mS (hb); replace HR178 := mS ((show Kd.C k35 w136 Ao15 y175.length y175 from by rw [Ny175.out]; exact Kd.C_take (m := (x9_56 : Int).toNat) ((Kd.R_reads' (Kd.R_after (ok := (fun _ => True)) (mR HO_166000.out) hg hat)).2.2) KL131.out)); replace HO_166000 := mS (Kd.R_after (ok := (fun _ => True)) (mR HO_166000.out) hg hat); have HO184 := mS (ho); clear HO181; clear ho hb hg hat; have hcz137_0 : w136.cell? ⟨gb165, 0, none⟩ = some (.slice Ao15 y162.length co15) := (blk_cell BK165.out 0).trans rfl; have hfz137_0 := blk_frozen BK165.out 0; have q138 : (x9_56 : Int) ≤ ((y162.length : Int) : Int) := of_decide_eq_true (by first | (with_reducible assumption) | assumption); obtain ⟨i0138, hi0138, _, hsz138, _⟩ := info_parts info35; have hroom138 : y162.length ≤ co15 := (Kd.R_reads' HO_166000.out).2.1; have hC138 : Kd.C k35 _ Ao15 y162.length y162 := (Kd.R_reads' HO_166000.out).2.2; have q0138 : (0 : Int) ≤ (x9_56 : Int) := of_decide_eq_true (by first | (with_reducible assumption) | assumption); have hcut138 := cut_from (P := Try.prog) 24 35 .i64 Try.underlying24 hi0138 4 hsz138 Ao15 y162.length co15 x9_56 q0138 q138; have hr138 := Kd.C_drop (m := (x9_56 : Int).toNat) (c := co15) hC138 (by omega) hroom138; obtain ⟨A138, hA138⟩ : ∃ A1, A1 = (if co15 = (x9_56 : Int).toNat then Ao15 else (Ao15 : Option Addr).map (·.add ((x9_56 : Int).toNat * 4))) := ⟨_, rfl⟩; obtain ⟨c138, hc138⟩ : ∃ c1, c1 = co15 - (x9_56 : Int).toNat := ⟨_, rfl⟩; have hy138 : y185.length = y162.length - (x9_56 : Int).toNat := (by rw [Ny185.out, List.length_drop] <;> omega); rw [show (y162).drop (x9_56 : Int).toNat = y185 from Ny185.out.symm] at hr138; replace hr138 : Kd.C k35 _ A138 y185.length y185 := (by rw [hA138]; exact hr138); rw [← hy138, ← hA138, ← hc138] at hcut138; have HR188 := mS hr138; have HC188 := mS (show y185.length ≤ c138 from by rw [hy138, hc138]; exact Nat.sub_le_sub_right hroom138 _); clear hr138 hC138 hroom138 hi0138 hsz138 hc138; have KY138 := mS hy138; have KA138 := mS hA138; clear hy138 hA138; have KL138 := mS (show (x9_56 : Int).toNat ≤ y162.length from by omega); replace q138 := eq_true q138) | ((with_reducible refine gate_builtin (b := .append) (xs := #[.tmp 90, .tmp 94]) rfl ?_); at_builtin; refine Kd.R_append_rows k35 (w0 := w) w.heap.size rfl (.tmp 90) (.tmp 94) 24 35 (.agg #[(.string ⟨#[]⟩), (.string ⟨#[]⟩), (.bool false), (.int .i64 0)]) 48 rfl Try.underlying24 info35 rfl (by decide) (by omega) v183 y182 y185 _ _ _ (fun k_ => some k_ ≠ (.slice Ao15 y162.length co15 : Value).ownBlock) (fun _ => False) rfl rfl ?aO ?aR (fun _ _ h => h) (fun _ h => h.elim) ?aF ?aB ?aS ?aL ?_; (case aR => repeat (first | exact (mC HR188.out) | (with_reducible refine Kd.C_alloc ?_ _) | (with_reducible refine Kd.C_drewN ?_ _) | (with_reducible refine Kd.C_drew ?_))); (case aB => exact (mH4 HB.out GE156.out GE157.out GE158.out GE165.out)); (case aF => exact (fun k_ hk => Kd.fresh' (Kd.R_lt (mR HO_166000.out)) k_ hk)); (case aO => exact (mR HO184.out)); (case aS => exact (below_size (mH4 HB.out GE156.out GE157.out GE158.out GE165.out))); (case aL => have := LMc123.out; omega); intro v190 w139 ho hb hg hat; rw [← Ny189.out] at ho; replace BK156 := mS (blk_grown (g := gb156) (o := .cells #[.slice A0_0 l0_0.length c0_0] 26 (0, 0)) (mK BK156.out) hg (Kd.R_ne HO184.out BK156.out (by decide))); replace BK157 := mS (blk_grown (g := gb157) (o := .cells #[.string a1_0, .string a1_1, .bool a1_2] 33 (0, 0)) (mK BK157.out) hg (Kd.R_ne HO184.out BK157.out (by decide))); replace BK158 := mS (blk_grown (g := gb158) (o := .cells #[.slice none 0 0] 26 (0, 0)) (mK BK158.out) hg (Kd.R_ne HO184.out BK158.out (by decide))); replace BK165 := mS (blk_grown (g := gb165) (o := .cells #[.slice Ao15 y162.length co15] 26 (0, 0)) (mK BK165.out) hg (Kd.R_ne HO184.out BK165.out (by decide))); replace HB := mS (hb); replace HR178 := mS ((show Kd.C k35 w139 Ao15 y175.length y175 from by rw [Ny175.out]; exact Kd.C_take (m := (x9_56 : Int).toNat) ((Kd.R_reads' (Kd.R_after (ok := (fun _ => True)) (mR HO_166000.out) hg hat)).2.2) KL131.out)); replace HR188 := mS ((show Kd.C k35 w139 A138 y185.length y185 from by rw [Ny185.out, KA138.out]; exact Kd.C_drop (m := (x9_56 : Int).toNat) (c := co15) ((Kd.R_reads' (Kd.R_after (ok := (fun _ => True)) (mR HO_166000.out) hg hat)).2.2) KL138.out ((Kd.R_reads' (Kd.R_after (ok := (fun _ => True)) (mR HO_166000.out) hg hat)).2.1))); replace HO_166000 := mS (Kd.R_after (ok := (fun _ => True)) (mR HO_166000.out) hg hat); have HO191 := mS (ho); clear HO184; clear ho hb hg hat; obtain ⟨Ao140, co140, eo140⟩ := Kd.R_slice HO191.out; subst eo140; have hnb141 := NB158_156.out; have hnc141 := NB156_158.out; have hcz142_0 : w139.cell? ⟨gb158, 0, none⟩ = some (.slice none 0 0) := (blk_cell BK158.out 0).trans rfl; have hfz142_0 := blk_frozen BK158.out 0)); try go_wp2_with (first | ((with_reducible refine gate_dst (N := 78) rfl ?_); refine Kd.R_lit k35 _ 35 ?hg (N := 78) ?hd (xs := ([] : List (S35))) (inner := []) (ok := fun _ => True) (okp := fun _ => True) ?hr ?hp (fun _ hk => hk) trivial (Below.refl _ _) (Nat.le_refl _) (by simp) ?_; (case hd => rfl); (case hg => rfl); (case hr => first | (go_simp; done) | (go_simp; rfl)); (case hp => exact (Reps.none _ _)); intro v173 w128 ho129 hb hg_ hnew_; clear hg_ hnew_; (first | rw [← Ny172.out] at ho129 | (simp only [Int.reduceToNat] at ho129; rw [← Ny172.out] at ho129)); have HO174 := mS (Kd.R_lower (Kd.R_new' ho129 (Kd.R_lt (mR HO_166000.out))) (below_size (mH4 HB.out GE156.out GE157.out GE158.out GE165.out))); replace HO_166000 := mS (Kd.R_elder' (mR HO_166000.out) (Kd.R_base ho129) hb); replace BK156 := mB BK156 hb; replace BK157 := mB BK157 hb; replace BK158 := mB BK158 hb; replace BK165 := mB BK165 hb; replace HB := mS (below_step (mH4 HB.out GE156.out GE157.out GE158.out GE165.out) hb); clear hb ho129; have hcz130_0 : w128.cell? ⟨gb165, 0, none⟩ = some (.slice Ao15 y162.length co15) := (blk_cell BK165.out 0).trans rfl; have hfz130_0 := blk_frozen BK165.out 0; have q131 : (x9_56 : Int) ≤ ((y162.length : Int) : Int) := of_decide_eq_true (by first | (with_reducible assumption) | assumption); obtain ⟨i0131, hi0131, _, hsz131, _⟩ := info_parts info35; have hroom131 : y162.length ≤ co15 := (Kd.R_reads' HO_166000.out).2.1; have hC131 : Kd.C k35 _ Ao15 y162.length y162 := (Kd.R_reads' HO_166000.out).2.2; have hcut131 := cut_to (P := Try.prog) 24 35 .i64 Try.underlying24 hi0131 Ao15 y162.length co15 x9_56 (of_decide_eq_true (by first | (with_reducible assumption) | assumption)) q131 hroom131; have hr131 := Kd.C_take (m := (x9_56 : Int).toNat) hC131 (by omega); have hy131 : y175.length = (x9_56 : Int).toNat := (by rw [Ny175.out, List.length_take]; omega); rw [← Ny175.out] at hr131; rw [← hy131] at hcut131; have HR178 := mS hr131; have HC178 := mS (show y175.length ≤ co15 from by omega); clear hr131 hC131 hroom131 hi0131 hsz131; have KY131 := mS hy131; clear hy131; have KL131 := mS (show (x9_56 : Int).toNat ≤ y162.length from by omega); replace q131 := eq_true q131) | ((with_reducible refine gate_builtin (b := .append) (xs := #[.tmp 78, .tmp 82]) rfl ?_); at_builtin; refine Kd.R_append_rows k35 (w0 := w) w.heap.size rfl (.tmp 78) (.tmp 82) 24 35 (.agg #[(.string ⟨#[]⟩), (.string ⟨#[]⟩), (.bool false), (.int .i64 0)]) 48 rfl Try.underlying24 info35 rfl (by decide) (by omega) v173 y172 y175 _ _ _ (fun k_ => some k_ ≠ (.slice Ao15 y162.length co15 : Value).ownBlock) (fun _ => False) rfl rfl ?aO ?aR (fun _ _ h => h) (fun _ h => h.elim) ?aF ?aB ?aS ?aL ?_; (case aR => repeat (first | exact (mC HR178.out) | (with_reducible refine Kd.C_alloc ?_ _) | (with_reducible refine Kd.C_drewN ?_ _) | (with_reducible refine Kd.C_drew ?_))); (case aB => exact (mH4 HB.out GE156.out GE157.out GE158.out GE165.out)); (case aF => exact (fun k_ hk => Kd.fresh' (Kd.R_lt (mR HO_166000.out)) k_ hk)); (case aO => exact (by (with_reducible repeat (first | apply Kd.R_alloc | apply Kd.R_drewN | apply Kd.R_drew)); exact Kd.R_mono HO174.out (fun _ hk => hk.2))); (case aS => exact (below_size (mH4 HB.out GE156.out GE157.out GE158.out GE165.out))); (case aL => have := LMc119.out; omega); intro v180 w132 ho hb hg hat; rw [← Ny179.out] at ho; replace BK156 := mS (blk_grown (g := gb156) (o := .cells #[.slice A0_0 l0_0.length c0_0] 26 (0, 0)) (mK BK156.out) hg (Kd.R_ne HO174.out BK156.out (by decide))); replace BK157 := mS (blk_grown (g := gb157) (o := .cells #[.string a1_0, .string a1_1, .bool a1_2] 33 (0, 0)) (mK BK157.out) hg (Kd.R_ne HO174.out BK157.out (by decide))); replace BK158 := mS (blk_grown (g := gb158) (o := .cells #[.slice none 0 0] 26 (0, 0)) (mK BK158.out) hg (Kd.R_ne HO174.out BK158.out (by decide))); replace BK165 := mS (blk_grown (g := gb165) (o := .cells #[.slice Ao15 y162.length co15] 26 (0, 0)) (mK BK165.out) hg (Kd.R_ne HO174.out BK165.out (by decide))); replace HB := mS (hb); replace HR178 := mS ((show Kd.C k35 w132 Ao15 y175.length y175 from by rw [Ny175.out]; exact Kd.C_take (m := (x9_56 : Int).toNat) ((Kd.R_reads' (Kd.R_after (ok := (fun _ => True)) (mR HO_166000.out) hg hat)).2.2) KL131.out)); replace HO_166000 := mS (Kd.R_after (ok := (fun _ => True)) (mR HO_166000.out) hg hat); have HO181 := mS (ho); clear HO174; clear ho hb hg hat; have hnb133 := NB157_156.out; have hnc133 := NB156_157.out; have hnb134 := NB157_158.out; have hnc134 := NB158_157.out; have hcz135_0 : w132.cell? ⟨gb157, 0, none⟩ = some (.string a1_0) := (blk_cell BK157.out 0).trans rfl; have hcz135_1 : w132.cell? ⟨gb157, 1, none⟩ = some (.string a1_1) := (blk_cell BK157.out 1).trans rfl; have hcz135_2 : w132.cell? ⟨gb157, 2, none⟩ = some (.bool a1_2) := (blk_cell BK157.out 2).trans rfl; have hfz135_0 := blk_frozen BK157.out 0; have hfz135_1 := blk_frozen BK157.out 1; have hfz135_2 := blk_frozen BK157.out 2) | ((with_reducible refine gate_builtin (b := .append) (xs := #[.tmp 84, .tmp 88]) rfl ?_); at_builtin; refine Kd.R_append k35 (w0 := w) w.heap.size rfl (.tmp 84) (.tmp 88) 24 35 (.agg #[(.string ⟨#[]⟩), (.string ⟨#[]⟩), (.bool false), (.int .i64 0)]) 48 rfl Try.underlying24 info35 rfl (by decide) (by omega) v180 y179 (⟨(⟨a1_0, a1_1, a1_2⟩ : S33), a2⟩ : S35) [.string a1_0, .string a1_1, .bool a1_2, .int .i64 a2] (fun k_ => some k_ ≠ (.slice Ao15 y162.length co15 : Value).ownBlock) (fun _ => False) rfl rfl ?aP (fun _ hk => hk.elim) ?aF ?aO ?aB ?aS ?aL ?_; (case aP => exact k35_mkM _ _ _ (⟨(⟨a1_0, a1_1, a1_2⟩ : S33), a2⟩ : S35)); (case aB => exact (mH4 HB.out GE156.out GE157.out GE158.out GE165.out)); (case aF => exact (fun k_ hk => Kd.fresh' (Kd.R_lt (mR HO_166000.out)) k_ hk)); (case aO => exact (mR HO181.out)); (case aS => exact (below_size (mH4 HB.out GE156.out GE157.out GE158.out GE165.out))); (case aL => have := LMc120.out; omega); intro v183 w136 ho hb hg hat; rw [← Ny182.out] at ho; replace BK156 := mS (blk_grown (g := gb156) (o := .cells #[.slice A0_0 l0_0.length c0_0] 26 (0, 0)) (mK BK156.out) hg (Kd.R_ne HO181.out BK156.out (by decide))); replace BK157 := mS (blk_grown (g := gb157) (o := .cells #[.string a1_0, .string a1_1, .bool a1_2] 33 (0, 0)) (mK BK157.out) hg (Kd.R_ne HO181.out BK157.out (by decide))); replace BK158 := mS (blk_grown (g := gb158) (o := .cells #[.slice none 0 0] 26 (0, 0)) (mK BK158.out) hg (Kd.R_ne HO181.out BK158.out (by decide))); replace BK165 := mS (blk_grown (g := gb165) (o := .cells #[.slice Ao15 y162.length co15] 26 (0, 0)) (mK BK165.out) hg (Kd.R_ne HO181.out BK165.out (by decide))); replace HB := mS (hb); replace HR178 := mS ((show Kd.C k35 w136 Ao15 y175.length y175 from by rw [Ny175.out]; exact Kd.C_take (m := (x9_56 : Int).toNat) ((Kd.R_reads' (Kd.R_after (ok := (fun _ => True)) (mR HO_166000.out) hg hat)).2.2) KL131.out)); replace HO_166000 := mS (Kd.R_after (ok := (fun _ => True)) (mR HO_166000.out) hg hat); have HO184 := mS (ho); clear HO181; clear ho hb hg hat; have hcz137_0 : w136.cell? ⟨gb165, 0, none⟩ = some (.slice Ao15 y162.length co15) := (blk_cell BK165.out 0).trans rfl; have hfz137_0 := blk_frozen BK165.out 0; have q138 : (x9_56 : Int) ≤ ((y162.length : Int) : Int) := of_decide_eq_true (by first | (with_reducible assumption) | assumption); obtain ⟨i0138, hi0138, _, hsz138, _⟩ := info_parts info35; have hroom138 : y162.length ≤ co15 := (Kd.R_reads' HO_166000.out).2.1; have hC138 : Kd.C k35 _ Ao15 y162.length y162 := (Kd.R_reads' HO_166000.out).2.2; have q0138 : (0 : Int) ≤ (x9_56 : Int) := of_decide_eq_true (by first | (with_reducible assumption) | assumption); have hcut138 := cut_from (P := Try.prog) 24 35 .i64 Try.underlying24 hi0138 4 hsz138 Ao15 y162.length co15 x9_56 q0138 q138; have hr138 := Kd.C_drop (m := (x9_56 : Int).toNat) (c := co15) hC138 (by omega) hroom138; obtain ⟨A138, hA138⟩ : ∃ A1, A1 = (if co15 = (x9_56 : Int).toNat then Ao15 else (Ao15 : Option Addr).map (·.add ((x9_56 : Int).toNat * 4))) := ⟨_, rfl⟩; obtain ⟨c138, hc138⟩ : ∃ c1, c1 = co15 - (x9_56 : Int).toNat := ⟨_, rfl⟩; have hy138 : y185.length = y162.length - (x9_56 : Int).toNat := (by rw [Ny185.out, List.length_drop] <;> omega); rw [show (y162).drop (x9_56 : Int).toNat = y185 from Ny185.out.symm] at hr138; replace hr138 : Kd.C k35 _ A138 y185.length y185 := (by rw [hA138]; exact hr138); rw [← hy138, ← hA138, ← hc138] at hcut138; have HR188 := mS hr138; have HC188 := mS (show y185.length ≤ c138 from by rw [hy138, hc138]; exact Nat.sub_le_sub_right hroom138 _); clear hr138 hC138 hroom138 hi0138 hsz138 hc138; have KY138 := mS hy138; have KA138 := mS hA138; clear hy138 hA138; have KL138 := mS (show (x9_56 : Int).toNat ≤ y162.length from by omega); replace q138 := eq_true q138) | ((with_reducible refine gate_builtin (b := .append) (xs := #[.tmp 90, .tmp 94]) rfl ?_); at_builtin; refine Kd.R_append_rows k35 (w0 := w) w.heap.size rfl (.tmp 90) (.tmp 94) 24 35 (.agg #[(.string ⟨#[]⟩), (.string ⟨#[]⟩), (.bool false), (.int .i64 0)]) 48 rfl Try.underlying24 info35 rfl (by decide) (by omega) v183 y182 y185 _ _ _ (fun k_ => some k_ ≠ (.slice Ao15 y162.length co15 : Value).ownBlock) (fun _ => False) rfl rfl ?aO ?aR (fun _ _ h => h) (fun _ h => h.elim) ?aF ?aB ?aS ?aL ?_; (case aR => repeat (first | exact (mC HR188.out) | (with_reducible refine Kd.C_alloc ?_ _) | (with_reducible refine Kd.C_drewN ?_ _) | (with_reducible refine Kd.C_drew ?_))); (case aB => exact (mH4 HB.out GE156.out GE157.out GE158.out GE165.out)); (case aF => exact (fun k_ hk => Kd.fresh' (Kd.R_lt (mR HO_166000.out)) k_ hk)); (case aO => exact (mR HO184.out)); (case aS => exact (below_size (mH4 HB.out GE156.out GE157.out GE158.out GE165.out))); (case aL => have := LMc123.out; omega); intro v190 w139 ho hb hg hat; rw [← Ny189.out] at ho; replace BK156 := mS (blk_grown (g := gb156) (o := .cells #[.slice A0_0 l0_0.length c0_0] 26 (0, 0)) (mK BK156.out) hg (Kd.R_ne HO184.out BK156.out (by decide))); replace BK157 := mS (blk_grown (g := gb157) (o := .cells #[.string a1_0, .string a1_1, .bool a1_2] 33 (0, 0)) (mK BK157.out) hg (Kd.R_ne HO184.out BK157.out (by decide))); replace BK158 := mS (blk_grown (g := gb158) (o := .cells #[.slice none 0 0] 26 (0, 0)) (mK BK158.out) hg (Kd.R_ne HO184.out BK158.out (by decide))); replace BK165 := mS (blk_grown (g := gb165) (o := .cells #[.slice Ao15 y162.length co15] 26 (0, 0)) (mK BK165.out) hg (Kd.R_ne HO184.out BK165.out (by decide))); replace HB := mS (hb); replace HR178 := mS ((show Kd.C k35 w139 Ao15 y175.length y175 from by rw [Ny175.out]; exact Kd.C_take (m := (x9_56 : Int).toNat) ((Kd.R_reads' (Kd.R_after (ok := (fun _ => True)) (mR HO_166000.out) hg hat)).2.2) KL131.out)); replace HR188 := mS ((show Kd.C k35 w139 A138 y185.length y185 from by rw [Ny185.out, KA138.out]; exact Kd.C_drop (m := (x9_56 : Int).toNat) (c := co15) ((Kd.R_reads' (Kd.R_after (ok := (fun _ => True)) (mR HO_166000.out) hg hat)).2.2) KL138.out ((Kd.R_reads' (Kd.R_after (ok := (fun _ => True)) (mR HO_166000.out) hg hat)).2.1))); replace HO_166000 := mS (Kd.R_after (ok := (fun _ => True)) (mR HO_166000.out) hg hat); have HO191 := mS (ho); clear HO184; clear ho hb hg hat; obtain ⟨Ao140, co140, eo140⟩ := Kd.R_slice HO191.out; subst eo140; have hnb141 := NB158_156.out; have hnc141 := NB156_158.out; have hcz142_0 : w139.cell? ⟨gb158, 0, none⟩ = some (.slice none 0 0) := (blk_cell BK158.out 0).trans rfl; have hfz142_0 := blk_frozen BK158.out 0)))
                refine bodyPost_ret (results_ct rfl _ _ gb158 26 #[.slice Ao140 y189.length co140] (0, 0) _ rfl (by (with_reducible repeat (first | refine blk_drewN ?_ _ | refine blk_drew ?_ | refine blk_alloc ?_ _)); refine blk_put (cs := #[.slice none 0 0]) ?_ 0 _ rfl; (with_reducible repeat (first | refine blk_drewN ?_ _ | refine blk_drew ?_ | refine blk_alloc ?_ _)); exact BK158.out) Try.underlying26 rfl (by kernel_rfl)) rfl ?_
                exact ⟨_, by first | rfl | (simp [errW_none, errW_some] <;> rfl) | (simp [*, errW_none, errW_some] <;> rfl), by (with_reducible repeat (first | apply Kd.R_alloc | apply Kd.R_drewN | apply Kd.R_drew)); exact Kd.R_mono (Kd.R_far (p := ⟨gb158, 0, none⟩) (Kd.R_types HO191.out BK158.out (by decide)) (fun _ hk => hk.2) (.slice Ao140 y189.length co140)) (fun _ hk => trivial), (mH4 HB.out GE156.out GE157.out GE158.out GE165.out)⟩
               ·rw [if_neg c123] at H
                exact absurd H (by simp)
              ·rw [if_neg c120] at H
               exact absurd H (by simp)
             ·rw [if_neg c119] at H
              exact absurd H (by simp)
            ·rw [if_neg c118] at H
             exact absurd H (by simp)
           ·rw [if_neg c117] at H
            exact absurd H (by simp)
 ·rw [if_neg c4] at H
  exact absurd H (by simp)

end Go.Proofs.Ytbepbgfkajnlbaa.MFnExactMemPut
