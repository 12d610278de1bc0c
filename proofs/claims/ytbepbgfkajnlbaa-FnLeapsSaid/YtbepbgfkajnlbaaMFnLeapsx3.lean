-- Written by mp.py, this session's own printer (wip/mp.py).
import Derived.Test.YtbepbgfkajnlbaaVMShort
import Derived.Test.YtbepbgfkajnlbaaMFnLeapsx0
import Derived.Test.YtbepbgfkajnlbaaMFnLeapsx1
import Derived.Test.YtbepbgfkajnlbaaMFnLeapsx2
namespace Go.Proofs.Ytbepbgfkajnlbaa.MFnLeaps
open Go.RowKit Go.Proofs.YtbepbgfkajnlbaaW.PrintWords Go.Proofs.YtbepbgfkajnlbaaW.PrintLast Go.Proofs.YtbepbgfkajnlbaaW.PrintMore Go.Proofs.Ytbepbgfkajnlbaa.MWords
attribute [local go_sem] max2_int min2_int max_two min_two max_three min_three max_four min_four   -- for this text's walks alone
set_option linter.unusedVariables false
set_option linter.unusedSimpArgs false

/-! ### spec_MemPut: function 21 -/
mutual
def spec_MemPut.j0 : Nat → Int → Bool → ByteArray → ByteArray → Bool → List (S35) → Option ((List (S35)) × Bool)
 | 0, _, _, _, _, _, _ => none
 | k + 1, x2, x28, x169000, x169001, x169002, x177000 => if x28 = true then (some (x177000, false)) else (spec_MemPut.l0 k x2 0 x169000 x169001 x169002 x177000)
def spec_MemPut.l0 : Nat → Int → Int → ByteArray → ByteArray → Bool → List (S35) → Option ((List (S35)) × Bool)
 | 0, _, _, _, _, _, _ => none
 | k + 1, x2, x9, x169000, x169001, x169002, x177000 => if x9 < (x177000.length : Int) then (if 0 ≤ x9 then (spec_MemPut.j2 k x2 x9 (Op.bytesLess (((rd_T35 x177000 x9).f0.f0).toList) x169000.toList) x169000 x169001 x169002 x177000) else (none)) else (spec_MemPut.j2 k x2 x9 false x169000 x169001 x169002 x177000)
def spec_MemPut.j2 : Nat → Int → Int → Bool → ByteArray → ByteArray → Bool → List (S35) → Option ((List (S35)) × Bool)
 | 0, _, _, _, _, _, _, _ => none
 | k + 1, x2, x9, x46, x169000, x169001, x169002, x177000 => if x46 = true then (spec_MemPut.l0 k x2 (wrap64 (x9 + 1)) x169000 x169001 x169002 x177000) else (if x9 < (x177000.length : Int) then (if 0 ≤ x9 then (spec_MemPut.j3 k x2 x9 (((rd_T35 x177000 x9).f0.f0).toList == x169000.toList) x169000 x169001 x169002 x177000) else (none)) else (spec_MemPut.j3 k x2 x9 false x169000 x169001 x169002 x177000))
def spec_MemPut.j3 : Nat → Int → Int → Bool → ByteArray → ByteArray → Bool → List (S35) → Option ((List (S35)) × Bool)
 | 0, _, _, _, _, _, _, _ => none
 | k + 1, x2, x9, x65, x169000, x169001, x169002, x177000 => if x65 = true then (if 0 ≤ x9 then (if x9 < (x177000.length : Int) then (some ((x177000.set (x9 : Int).toNat (⟨(⟨x169000, x169001, x169002⟩ : S33), (rd_T35 x177000 x9).f1⟩ : S35)), true)) else (none)) else (none)) else (if (x177000.length : Int) = 60 then (some (x177000, false)) else ((some (([] : List (S35)) : List (S35))).bind fun y183 => (if 0 ≤ x9 then (if x9 ≤ (x177000.length : Int) then ((some (x177000.take (x9 : Int).toNat : List (S35))).bind fun y186 => (if y183.length + y186.length < 2932031007402 then ((some (y183 ++ y186 : List (S35))).bind fun y190 => (if y190.length < 2932031007402 then ((some (y190 ++ [(⟨(⟨x169000, x169001, x169002⟩ : S33), x2⟩ : S35)] : List (S35))).bind fun y193 => ((some (x177000.drop (x9 : Int).toNat : List (S35))).bind fun y196 => (if y193.length + y196.length < 2932031007402 then (some ((y193 ++ y196), true)) else (none)))) else (none))) else (none))) else (none)) else (none))))
end
def spec_MemPut.f (k : Nat) (l0_0 : List (S35)) (a1_0 : ByteArray) (a1_1 : ByteArray) (a1_2 : Bool) (a2 : Int) : Option ((List (S35)) × Bool) := (some (([] : List (S35)) : List (S35))).bind fun y170 => (if y170.length + l0_0.length < 2932031007402 then ((some (y170 ++ l0_0 : List (S35))).bind fun y173 => ((spec_MemOk.f k l0_0).bind fun t177 => (if t177 = true then ((spec_PairOk.f a1_0 a1_1 a1_2).bind fun t178 => (if t178 = true then ((spec_l1In.f a2 1 4).bind fun t179 => (spec_MemPut.j0 k a2 (!t179) a1_0 a1_1 a1_2 y173)) else (spec_MemPut.j0 k a2 true a1_0 a1_1 a1_2 y173))) else (spec_MemPut.j0 k a2 true a1_0 a1_1 a1_2 y173)))) else (none))
theorem spec_MemPut.mono_l : ∀ k, (∀ y0 y1 y2 y3 y4 y5, LeO (spec_MemPut.j0 k y0 y1 y2 y3 y4 y5) (spec_MemPut.j0 (k + 1) y0 y1 y2 y3 y4 y5)) ∧ (∀ y0 y1 y2 y3 y4 y5, LeO (spec_MemPut.l0 k y0 y1 y2 y3 y4 y5) (spec_MemPut.l0 (k + 1) y0 y1 y2 y3 y4 y5)) ∧ (∀ y0 y1 y2 y3 y4 y5 y6, LeO (spec_MemPut.j2 k y0 y1 y2 y3 y4 y5 y6) (spec_MemPut.j2 (k + 1) y0 y1 y2 y3 y4 y5 y6)) ∧ (∀ y0 y1 y2 y3 y4 y5 y6, LeO (spec_MemPut.j3 k y0 y1 y2 y3 y4 y5 y6) (spec_MemPut.j3 (k + 1) y0 y1 y2 y3 y4 y5 y6))
 | 0 => ⟨fun _ _ _ _ _ _ r h => by simp [spec_MemPut.j0] at h, fun _ _ _ _ _ _ r h => by simp [spec_MemPut.l0] at h, fun _ _ _ _ _ _ _ r h => by simp [spec_MemPut.j2] at h, fun _ _ _ _ _ _ _ r h => by simp [spec_MemPut.j3] at h⟩
 | k + 1 => by
  obtain ⟨ih0, ih1, ih2, ih3⟩ := spec_MemPut.mono_l k
  refine ⟨?_, ?_, ?_, ?_⟩
  ·intro y0 y1 y2 y3 y4 y5
   unfold spec_MemPut.j0
   repeat' first
   | (with_reducible exact ih0 _ _ _ _ _ _)
   | (with_reducible exact ih1 _ _ _ _ _ _)
   | (with_reducible exact ih2 _ _ _ _ _ _ _)
   | (with_reducible exact ih3 _ _ _ _ _ _ _)
   | (with_reducible exact spec_MemOk.mono _ _)
   | (with_reducible exact LeO.refl _)
   | (with_reducible exact LeO.none _)
   | (with_reducible refine LeO.ite ?_ ?_)
   | (with_reducible refine LeO.bind ?_ (fun _ => ?_))
   | exact ih0 _ _ _ _ _ _
   | exact ih1 _ _ _ _ _ _
   | exact ih2 _ _ _ _ _ _ _
   | exact ih3 _ _ _ _ _ _ _
   | exact spec_MemOk.mono _ _
   | exact LeO.none _
   | refine LeO.ite ?_ ?_
   | refine LeO.bind ?_ (fun _ => ?_)
  ·intro y0 y1 y2 y3 y4 y5
   unfold spec_MemPut.l0
   repeat' first
   | (with_reducible exact ih0 _ _ _ _ _ _)
   | (with_reducible exact ih1 _ _ _ _ _ _)
   | (with_reducible exact ih2 _ _ _ _ _ _ _)
   | (with_reducible exact ih3 _ _ _ _ _ _ _)
   | (with_reducible exact spec_MemOk.mono _ _)
   | (with_reducible exact LeO.refl _)
   | (with_reducible exact LeO.none _)
   | (with_reducible refine LeO.ite ?_ ?_)
   | (with_reducible refine LeO.bind ?_ (fun _ => ?_))
   | exact ih0 _ _ _ _ _ _
   | exact ih1 _ _ _ _ _ _
   | exact ih2 _ _ _ _ _ _ _
   | exact ih3 _ _ _ _ _ _ _
   | exact spec_MemOk.mono _ _
   | exact LeO.none _
   | refine LeO.ite ?_ ?_
   | refine LeO.bind ?_ (fun _ => ?_)
  ·intro y0 y1 y2 y3 y4 y5 y6
   unfold spec_MemPut.j2
   repeat' first
   | (with_reducible exact ih0 _ _ _ _ _ _)
   | (with_reducible exact ih1 _ _ _ _ _ _)
   | (with_reducible exact ih2 _ _ _ _ _ _ _)
   | (with_reducible exact ih3 _ _ _ _ _ _ _)
   | (with_reducible exact spec_MemOk.mono _ _)
   | (with_reducible exact LeO.refl _)
   | (with_reducible exact LeO.none _)
   | (with_reducible refine LeO.ite ?_ ?_)
   | (with_reducible refine LeO.bind ?_ (fun _ => ?_))
   | exact ih0 _ _ _ _ _ _
   | exact ih1 _ _ _ _ _ _
   | exact ih2 _ _ _ _ _ _ _
   | exact ih3 _ _ _ _ _ _ _
   | exact spec_MemOk.mono _ _
   | exact LeO.none _
   | refine LeO.ite ?_ ?_
   | refine LeO.bind ?_ (fun _ => ?_)
  ·intro y0 y1 y2 y3 y4 y5 y6
   unfold spec_MemPut.j3
   repeat' first
   | (with_reducible exact ih0 _ _ _ _ _ _)
   | (with_reducible exact ih1 _ _ _ _ _ _)
   | (with_reducible exact ih2 _ _ _ _ _ _ _)
   | (with_reducible exact ih3 _ _ _ _ _ _ _)
   | (with_reducible exact spec_MemOk.mono _ _)
   | (with_reducible exact LeO.refl _)
   | (with_reducible exact LeO.none _)
   | (with_reducible refine LeO.ite ?_ ?_)
   | (with_reducible refine LeO.bind ?_ (fun _ => ?_))
   | exact ih0 _ _ _ _ _ _
   | exact ih1 _ _ _ _ _ _
   | exact ih2 _ _ _ _ _ _ _
   | exact ih3 _ _ _ _ _ _ _
   | exact spec_MemOk.mono _ _
   | exact LeO.none _
   | refine LeO.ite ?_ ?_
   | refine LeO.bind ?_ (fun _ => ?_)
theorem spec_MemPut.mono : ∀ a0 a1 a2 a3 a4 k, LeO (spec_MemPut.f k a0 a1 a2 a3 a4) (spec_MemPut.f (k + 1) a0 a1 a2 a3 a4) := by
 intro a0 a1 a2 a3 a4 k
 obtain ⟨ih0, ih1, ih2, ih3⟩ := spec_MemPut.mono_l k
 unfold spec_MemPut.f
 repeat' first
   | (with_reducible exact ih0 _ _ _ _ _ _)
   | (with_reducible exact ih1 _ _ _ _ _ _)
   | (with_reducible exact ih2 _ _ _ _ _ _ _)
   | (with_reducible exact ih3 _ _ _ _ _ _ _)
   | (with_reducible exact spec_MemOk.mono _ _)
   | (with_reducible exact LeO.refl _)
   | (with_reducible exact LeO.none _)
   | (with_reducible refine LeO.ite ?_ ?_)
   | (with_reducible refine LeO.bind ?_ (fun _ => ?_))
   | exact ih0 _ _ _ _ _ _
   | exact ih1 _ _ _ _ _ _
   | exact ih2 _ _ _ _ _ _ _
   | exact ih3 _ _ _ _ _ _ _
   | exact spec_MemOk.mono _ _
   | exact LeO.none _
   | refine LeO.ite ?_ ?_
   | refine LeO.bind ?_ (fun _ => ?_)
set_option maxHeartbeats 8000000 in
set_option maxRecDepth 100000 in
theorem spec_MemPut.calls (k : Nat) (A0_0 : Option Addr) (c0_0 : Nat) (l0_0 : List (S35)) (a1_0 : ByteArray) (a1_1 : ByteArray) (a1_2 : Bool) (a2 : Int) (r1 : List (S35)) (r2 : Bool) (w : World) (hr0_0 : Kd.C k35 w A0_0 l0_0.length l0_0) (hc0_0 : l0_0.length ≤ c0_0) (h : spec_MemPut.f k l0_0 a1_0 a1_1 a1_2 a2 = some (r1, r2)) :
  Calls Try.prog 21 #[.agg #[.slice A0_0 l0_0.length c0_0], .agg #[.string a1_0, .string a1_1, .bool a1_2], .int .i64 a2] w fun e w' => ∃ v0_ : Value, e = .returned (.tuple #[.agg #[v0_], .bool r2]) ∧ Kd.R k35 35 w' w.heap.size (fun _ => True) v0_ r1 ∧ Below w.heap.size w w' := by
 have hu26 := Try.underlying26
 have hu33 := Try.underlying33
 have hu35 := Try.underlying35
 have HR0_0 := mS hr0_0
 have HC0_0 := mS hc0_0
 clear hr0_0 hc0_0
 have HB := mS (Below.refl w.heap.size w)
 have H : ((some (([] : List (S35)) : List (S35))).bind fun y170 => (if y170.length + l0_0.length < 2932031007402 then ((some (y170 ++ l0_0 : List (S35))).bind fun y173 => ((spec_MemOk.f k l0_0).bind fun t177 => (if t177 = true then ((spec_PairOk.f a1_0 a1_1 a1_2).bind fun t178 => (if t178 = true then ((spec_l1In.f a2 1 4).bind fun t179 => (spec_MemPut.j0 k a2 (!t179) a1_0 a1_1 a1_2 y173)) else (spec_MemPut.j0 k a2 true a1_0 a1_1 a1_2 y173))) else (spec_MemPut.j0 k a2 true a1_0 a1_1 a1_2 y173)))) else (none))) = some (r1, r2) := h
 clear h
 obtain ⟨y170, hy170⟩ : ∃ y_ : List (S35), y_ = (([] : List (S35))) := ⟨_, rfl⟩
 replace H : (if y170.length + l0_0.length < 2932031007402 then ((some (y170 ++ l0_0 : List (S35))).bind fun y173 => ((spec_MemOk.f k l0_0).bind fun t177 => (if t177 = true then ((spec_PairOk.f a1_0 a1_1 a1_2).bind fun t178 => (if t178 = true then ((spec_l1In.f a2 1 4).bind fun t179 => (spec_MemPut.j0 k a2 (!t179) a1_0 a1_1 a1_2 y173)) else (spec_MemPut.j0 k a2 true a1_0 a1_1 a1_2 y173))) else (spec_MemPut.j0 k a2 true a1_0 a1_1 a1_2 y173)))) else (none)) = some (r1, r2) := by first | (rw [hy170]; with_reducible exact H) | (have H2_ := (Option.bind_some _ _).symm.trans H; rw [hy170]; with_reducible exact H2_) | (have H2_ := (Option.bind_some _ _).symm.trans H; with_reducible exact H2_) | with_reducible exact H | (rw [hy170]; exact H) | exact H
 have Ny170 := mS hy170
 clear hy170
 by_cases c4 : y170.length + l0_0.length < 2932031007402
 ·rw [if_pos c4] at H
  have LMc4 := mS c4
  clear c4
  obtain ⟨y173, hy173⟩ : ∃ y_ : List (S35), y_ = (y170 ++ l0_0) := ⟨_, rfl⟩
  replace H : ((spec_MemOk.f k l0_0).bind fun t177 => (if t177 = true then ((spec_PairOk.f a1_0 a1_1 a1_2).bind fun t178 => (if t178 = true then ((spec_l1In.f a2 1 4).bind fun t179 => (spec_MemPut.j0 k a2 (!t179) a1_0 a1_1 a1_2 y173)) else (spec_MemPut.j0 k a2 true a1_0 a1_1 a1_2 y173))) else (spec_MemPut.j0 k a2 true a1_0 a1_1 a1_2 y173))) = some (r1, r2) := by first | (rw [hy173]; with_reducible exact H) | (have H2_ := (Option.bind_some _ _).symm.trans H; rw [hy173]; with_reducible exact H2_) | (have H2_ := (Option.bind_some _ _).symm.trans H; with_reducible exact H2_) | with_reducible exact H | (rw [hy173]; exact H) | exact H
  have Ny173 := mS hy173
  clear hy173
  have HC5 := mS H
  clear H
  go_enter Try.func21, Try.ntmps21
  go_upto_region 2 with (first | ((with_reducible refine gate_dst (N := 3) rfl ?_); refine mBx 3 #[.slice A0_0 l0_0.length c0_0] 26 ?_; intro gb167 hg w6 hbox hb; have BK167 := mS (hbox); have GW167 := mG hg (mH HB.out); have GE167 := mG hg (mH HB.out); replace HB := mS (below_step (mH HB.out) hb); clear hb hbox hg) | ((with_reducible refine gate_dst (N := 4) rfl ?_); refine mBx 4 #[.string a1_0, .string a1_1, .bool a1_2] 33 ?_; intro gb168 hg w7 hbox hb; have BK168 := mS (hbox); have GW168 := mG hg (mH1 HB.out GE167.out); have GE168 := mG hg (mH1 HB.out GE167.out); replace HB := mS (below_step (mH1 HB.out GE167.out) hb); have NB167_168 := mNl hg BK167.out; have NB168_167 := mNg hg BK167.out; replace BK167 := mB BK167 hb; clear hb hbox hg) | ((with_reducible refine gate_dst (N := 6) rfl ?_); refine mBx 6 #[.slice none 0 0] 26 ?_; intro gb169 hg w8 hbox hb; have BK169 := mS (hbox); have GW169 := mG hg (mH2 HB.out GE167.out GE168.out); have GE169 := mG hg (mH2 HB.out GE167.out GE168.out); replace HB := mS (below_step (mH2 HB.out GE167.out GE168.out) hb); have NB167_169 := mNl hg BK167.out; have NB169_167 := mNg hg BK167.out; replace BK167 := mB BK167 hb; have NB168_169 := mNl hg BK168.out; have NB169_168 := mNg hg BK168.out; replace BK168 := mB BK168 hb; clear hb hbox hg) | ((with_reducible refine gate_dst (N := 11) rfl ?_); refine Kd.R_lit k35 _ 35 ?hg (N := 11) ?hd (xs := ([] : List (S35))) (inner := []) (ok := fun _ => True) (okp := fun _ => True) ?hr ?hp (fun _ hk => hk) trivial (Below.refl _ _) (Nat.le_refl _) (by simp) ?_; (case hd => rfl); (case hg => rfl); (case hr => first | (go_simp; done) | (go_simp; rfl)); (case hp => exact (Reps.none _ _)); intro v171 w9 ho10 hb hg_ hnew_; clear hg_ hnew_; (first | rw [← Ny170.out] at ho10 | (simp only [Int.reduceToNat] at ho10; rw [← Ny170.out] at ho10)); have HO172 := mS (Kd.R_lower ho10 (below_size (mH3 HB.out GE167.out GE168.out GE169.out))); replace BK167 := mB BK167 hb; replace BK168 := mB BK168 hb; replace BK169 := mB BK169 hb; replace HB := mS (below_step (mH3 HB.out GE167.out GE168.out GE169.out) hb); clear hb ho10; have hnb11 := NB167_168.out; have hnc11 := NB168_167.out; have hnb12 := NB167_169.out; have hnc12 := NB169_167.out; have hcz13_0 := mZ BK167.out 0; have hfz13_0 := blk_frozen BK167.out 0) | ((with_reducible refine gate_builtin (b := .append) (xs := #[.tmp 11, .tmp 13]) rfl ?_); at_builtin; refine Kd.R_append_rows k35 (w0 := w) w.heap.size rfl (.tmp 11) (.tmp 13) 24 35 (.agg #[(.string ⟨#[]⟩), (.string ⟨#[]⟩), (.bool false), (.int .i64 0)]) 48 rfl Try.underlying24 info35 rfl (by decide) (by omega) v171 y170 l0_0 _ _ _ (fun _ => True) (fun _ => False) rfl rfl ?aO ?aR (fun _ _ h => h) (fun _ h => h.elim) ?aF ?aB ?aS ?aL ?_; (case aR => exact mC (Kd.C_below HR0_0.out HB.out)); (case aB => exact (mH3 HB.out GE167.out GE168.out GE169.out)); (case aF => exact (fun _ _ => trivial)); (case aO => exact (mR HO172.out)); (case aS => exact (below_size (mH3 HB.out GE167.out GE168.out GE169.out))); (case aL => have := LMc4.out; omega); intro v174 w14 ho hb hg hat; rw [← Ny173.out] at ho; replace BK167 := mS (blk_grown (g := gb167) (o := .cells #[.slice A0_0 l0_0.length c0_0] 26 (0, 0)) (mK BK167.out) hg (Kd.R_ne HO172.out BK167.out (by decide))); replace BK168 := mS (blk_grown (g := gb168) (o := .cells #[.string a1_0, .string a1_1, .bool a1_2] 33 (0, 0)) (mK BK168.out) hg (Kd.R_ne HO172.out BK168.out (by decide))); replace BK169 := mS (blk_grown (g := gb169) (o := .cells #[.slice none 0 0] 26 (0, 0)) (mK BK169.out) hg (Kd.R_ne HO172.out BK169.out (by decide))); replace HB := mS (hb); have HO175 := mS (ho); clear HO172; clear ho hb hg hat; obtain ⟨Ao15, co15, eo15⟩ := Kd.R_slice HO175.out; subst eo15) | ((with_reducible refine gate_dst (N := 8) rfl ?_); refine mBx 8 #[.slice none 0 0] 26 ?_; intro gb176 hg w16 hbox hb; replace HO175 := mS (Kd.R_below (mR HO175.out) hb); have BK176 := mS (hbox); have GW176 := mG hg (mH3 HB.out GE167.out GE168.out GE169.out); have GE176 := mG hg (mH3 HB.out GE167.out GE168.out GE169.out); replace HB := mS (below_step (mH3 HB.out GE167.out GE168.out GE169.out) hb); have NB167_176 := mNl hg BK167.out; have NB176_167 := mNg hg BK167.out; replace BK167 := mB BK167 hb; have NB168_176 := mNl hg BK168.out; have NB176_168 := mNg hg BK168.out; replace BK168 := mB BK168 hb; have NB169_176 := mNl hg BK169.out; have NB176_169 := mNg hg BK169.out; replace BK169 := mB BK169 hb; clear hb hbox hg; have hnb17 := NB176_167.out; have hnc17 := NB167_176.out; have hnb18 := NB176_168.out; have hnc18 := NB168_176.out; have hnb19 := NB176_169.out; have hnc19 := NB169_176.out; have hcz20_0 := mZ BK176.out 0; have hfz20_0 := blk_frozen BK176.out 0))
  repeat (go_quiet (first | ((with_reducible refine gate_dst (N := 3) rfl ?_); refine mBx 3 #[.slice A0_0 l0_0.length c0_0] 26 ?_; intro gb167 hg w6 hbox hb; have BK167 := mS (hbox); have GW167 := mG hg (mH HB.out); have GE167 := mG hg (mH HB.out); replace HB := mS (below_step (mH HB.out) hb); clear hb hbox hg) | ((with_reducible refine gate_dst (N := 4) rfl ?_); refine mBx 4 #[.string a1_0, .string a1_1, .bool a1_2] 33 ?_; intro gb168 hg w7 hbox hb; have BK168 := mS (hbox); have GW168 := mG hg (mH1 HB.out GE167.out); have GE168 := mG hg (mH1 HB.out GE167.out); replace HB := mS (below_step (mH1 HB.out GE167.out) hb); have NB167_168 := mNl hg BK167.out; have NB168_167 := mNg hg BK167.out; replace BK167 := mB BK167 hb; clear hb hbox hg) | ((with_reducible refine gate_dst (N := 6) rfl ?_); refine mBx 6 #[.slice none 0 0] 26 ?_; intro gb169 hg w8 hbox hb; have BK169 := mS (hbox); have GW169 := mG hg (mH2 HB.out GE167.out GE168.out); have GE169 := mG hg (mH2 HB.out GE167.out GE168.out); replace HB := mS (below_step (mH2 HB.out GE167.out GE168.out) hb); have NB167_169 := mNl hg BK167.out; have NB169_167 := mNg hg BK167.out; replace BK167 := mB BK167 hb; have NB168_169 := mNl hg BK168.out; have NB169_168 := mNg hg BK168.out; replace BK168 := mB BK168 hb; clear hb hbox hg) | ((with_reducible refine gate_dst (N := 11) rfl ?_); refine Kd.R_lit k35 _ 35 ?hg (N := 11) ?hd (xs := ([] : List (S35))) (inner := []) (ok := fun _ => True) (okp := fun _ => True) ?hr ?hp (fun _ hk => hk) trivial (Below.refl _ _) (Nat.le_refl _) (by simp) ?_; (case hd => rfl); (case hg => rfl); (case hr => first | (go_simp; done) | (go_simp; rfl)); (case hp => exact (Reps.none _ _)); intro v171 w9 ho10 hb hg_ hnew_; clear hg_ hnew_; (first | rw [← Ny170.out] at ho10 | (simp only [Int.reduceToNat] at ho10; rw [← Ny170.out] at ho10)); have HO172 := mS (Kd.R_lower ho10 (below_size (mH3 HB.out GE167.out GE168.out GE169.out))); replace BK167 := mB BK167 hb; replace BK168 := mB BK168 hb; replace BK169 := mB BK169 hb; replace HB := mS (below_step (mH3 HB.out GE167.out GE168.out GE169.out) hb); clear hb ho10; have hnb11 := NB167_168.out; have hnc11 := NB168_167.out; have hnb12 := NB167_169.out; have hnc12 := NB169_167.out; have hcz13_0 := mZ BK167.out 0; have hfz13_0 := blk_frozen BK167.out 0) | ((with_reducible refine gate_builtin (b := .append) (xs := #[.tmp 11, .tmp 13]) rfl ?_); at_builtin; refine Kd.R_append_rows k35 (w0 := w) w.heap.size rfl (.tmp 11) (.tmp 13) 24 35 (.agg #[(.string ⟨#[]⟩), (.string ⟨#[]⟩), (.bool false), (.int .i64 0)]) 48 rfl Try.underlying24 info35 rfl (by decide) (by omega) v171 y170 l0_0 _ _ _ (fun _ => True) (fun _ => False) rfl rfl ?aO ?aR (fun _ _ h => h) (fun _ h => h.elim) ?aF ?aB ?aS ?aL ?_; (case aR => exact mC (Kd.C_below HR0_0.out HB.out)); (case aB => exact (mH3 HB.out GE167.out GE168.out GE169.out)); (case aF => exact (fun _ _ => trivial)); (case aO => exact (mR HO172.out)); (case aS => exact (below_size (mH3 HB.out GE167.out GE168.out GE169.out))); (case aL => have := LMc4.out; omega); intro v174 w14 ho hb hg hat; rw [← Ny173.out] at ho; replace BK167 := mS (blk_grown (g := gb167) (o := .cells #[.slice A0_0 l0_0.length c0_0] 26 (0, 0)) (mK BK167.out) hg (Kd.R_ne HO172.out BK167.out (by decide))); replace BK168 := mS (blk_grown (g := gb168) (o := .cells #[.string a1_0, .string a1_1, .bool a1_2] 33 (0, 0)) (mK BK168.out) hg (Kd.R_ne HO172.out BK168.out (by decide))); replace BK169 := mS (blk_grown (g := gb169) (o := .cells #[.slice none 0 0] 26 (0, 0)) (mK BK169.out) hg (Kd.R_ne HO172.out BK169.out (by decide))); replace HB := mS (hb); have HO175 := mS (ho); clear HO172; clear ho hb hg hat; obtain ⟨Ao15, co15, eo15⟩ := Kd.R_slice HO175.out; subst eo15) | ((with_reducible refine gate_dst (N := 8) rfl ?_); refine mBx 8 #[.slice none 0 0] 26 ?_; intro gb176 hg w16 hbox hb; replace HO175 := mS (Kd.R_below (mR HO175.out) hb); have BK176 := mS (hbox); have GW176 := mG hg (mH3 HB.out GE167.out GE168.out GE169.out); have GE176 := mG hg (mH3 HB.out GE167.out GE168.out GE169.out); replace HB := mS (below_step (mH3 HB.out GE167.out GE168.out GE169.out) hb); have NB167_176 := mNl hg BK167.out; have NB176_167 := mNg hg BK167.out; replace BK167 := mB BK167 hb; have NB168_176 := mNl hg BK168.out; have NB176_168 := mNg hg BK168.out; replace BK168 := mB BK168 hb; have NB169_176 := mNl hg BK169.out; have NB176_169 := mNg hg BK169.out; replace BK169 := mB BK169 hb; clear hb hbox hg; have hnb17 := NB176_167.out; have hnc17 := NB167_176.out; have hnb18 := NB176_168.out; have hnc18 := NB168_176.out; have hnb19 := NB176_169.out; have hnc19 := NB169_176.out; have hcz20_0 := mZ BK176.out 0; have hfz20_0 := blk_frozen BK176.out 0)); go_upto_region 2 with (first | ((with_reducible refine gate_dst (N := 3) rfl ?_); refine mBx 3 #[.slice A0_0 l0_0.length c0_0] 26 ?_; intro gb167 hg w6 hbox hb; have BK167 := mS (hbox); have GW167 := mG hg (mH HB.out); have GE167 := mG hg (mH HB.out); replace HB := mS (below_step (mH HB.out) hb); clear hb hbox hg) | ((with_reducible refine gate_dst (N := 4) rfl ?_); refine mBx 4 #[.string a1_0, .string a1_1, .bool a1_2] 33 ?_; intro gb168 hg w7 hbox hb; have BK168 := mS (hbox); have GW168 := mG hg (mH1 HB.out GE167.out); have GE168 := mG hg (mH1 HB.out GE167.out); replace HB := mS (below_step (mH1 HB.out GE167.out) hb); have NB167_168 := mNl hg BK167.out; have NB168_167 := mNg hg BK167.out; replace BK167 := mB BK167 hb; clear hb hbox hg) | ((with_reducible refine gate_dst (N := 6) rfl ?_); refine mBx 6 #[.slice none 0 0] 26 ?_; intro gb169 hg w8 hbox hb; have BK169 := mS (hbox); have GW169 := mG hg (mH2 HB.out GE167.out GE168.out); have GE169 := mG hg (mH2 HB.out GE167.out GE168.out); replace HB := mS (below_step (mH2 HB.out GE167.out GE168.out) hb); have NB167_169 := mNl hg BK167.out; have NB169_167 := mNg hg BK167.out; replace BK167 := mB BK167 hb; have NB168_169 := mNl hg BK168.out; have NB169_168 := mNg hg BK168.out; replace BK168 := mB BK168 hb; clear hb hbox hg) | ((with_reducible refine gate_dst (N := 11) rfl ?_); refine Kd.R_lit k35 _ 35 ?hg (N := 11) ?hd (xs := ([] : List (S35))) (inner := []) (ok := fun _ => True) (okp := fun _ => True) ?hr ?hp (fun _ hk => hk) trivial (Below.refl _ _) (Nat.le_refl _) (by simp) ?_; (case hd => rfl); (case hg => rfl); (case hr => first | (go_simp; done) | (go_simp; rfl)); (case hp => exact (Reps.none _ _)); intro v171 w9 ho10 hb hg_ hnew_; clear hg_ hnew_; (first | rw [← Ny170.out] at ho10 | (simp only [Int.reduceToNat] at ho10; rw [← Ny170.out] at ho10)); have HO172 := mS (Kd.R_lower ho10 (below_size (mH3 HB.out GE167.out GE168.out GE169.out))); replace BK167 := mB BK167 hb; replace BK168 := mB BK168 hb; replace BK169 := mB BK169 hb; replace HB := mS (below_step (mH3 HB.out GE167.out GE168.out GE169.out) hb); clear hb ho10; have hnb11 := NB167_168.out; have hnc11 := NB168_167.out; have hnb12 := NB167_169.out; have hnc12 := NB169_167.out; have hcz13_0 := mZ BK167.out 0; have hfz13_0 := blk_frozen BK167.out 0) | ((with_reducible refine gate_builtin (b := .append) (xs := #[.tmp 11, .tmp 13]) rfl ?_); at_builtin; refine Kd.R_append_rows k35 (w0 := w) w.heap.size rfl (.tmp 11) (.tmp 13) 24 35 (.agg #[(.string ⟨#[]⟩), (.string ⟨#[]⟩), (.bool false), (.int .i64 0)]) 48 rfl Try.underlying24 info35 rfl (by decide) (by omega) v171 y170 l0_0 _ _ _ (fun _ => True) (fun _ => False) rfl rfl ?aO ?aR (fun _ _ h => h) (fun _ h => h.elim) ?aF ?aB ?aS ?aL ?_; (case aR => exact mC (Kd.C_below HR0_0.out HB.out)); (case aB => exact (mH3 HB.out GE167.out GE168.out GE169.out)); (case aF => exact (fun _ _ => trivial)); (case aO => exact (mR HO172.out)); (case aS => exact (below_size (mH3 HB.out GE167.out GE168.out GE169.out))); (case aL => have := LMc4.out; omega); intro v174 w14 ho hb hg hat; rw [← Ny173.out] at ho; replace BK167 := mS (blk_grown (g := gb167) (o := .cells #[.slice A0_0 l0_0.length c0_0] 26 (0, 0)) (mK BK167.out) hg (Kd.R_ne HO172.out BK167.out (by decide))); replace BK168 := mS (blk_grown (g := gb168) (o := .cells #[.string a1_0, .string a1_1, .bool a1_2] 33 (0, 0)) (mK BK168.out) hg (Kd.R_ne HO172.out BK168.out (by decide))); replace BK169 := mS (blk_grown (g := gb169) (o := .cells #[.slice none 0 0] 26 (0, 0)) (mK BK169.out) hg (Kd.R_ne HO172.out BK169.out (by decide))); replace HB := mS (hb); have HO175 := mS (ho); clear HO172; clear ho hb hg hat; obtain ⟨Ao15, co15, eo15⟩ := Kd.R_slice HO175.out; subst eo15) | ((with_reducible refine gate_dst (N := 8) rfl ?_); refine mBx 8 #[.slice none 0 0] 26 ?_; intro gb176 hg w16 hbox hb; replace HO175 := mS (Kd.R_below (mR HO175.out) hb); have BK176 := mS (hbox); have GW176 := mG hg (mH3 HB.out GE167.out GE168.out GE169.out); have GE176 := mG hg (mH3 HB.out GE167.out GE168.out GE169.out); replace HB := mS (below_step (mH3 HB.out GE167.out GE168.out GE169.out) hb); have NB167_176 := mNl hg BK167.out; have NB176_167 := mNg hg BK167.out; replace BK167 := mB BK167 hb; have NB168_176 := mNl hg BK168.out; have NB176_168 := mNg hg BK168.out; replace BK168 := mB BK168 hb; have NB169_176 := mNl hg BK169.out; have NB176_169 := mNg hg BK169.out; replace BK169 := mB BK169 hb; clear hb hbox hg; have hnb17 := NB176_167.out; have hnc17 := NB167_176.out; have hnb18 := NB176_168.out; have hnc18 := NB168_176.out; have hnb19 := NB176_169.out; have hnc19 := NB169_176.out; have hcz20_0 := mZ BK176.out 0; have hfz20_0 := blk_frozen BK176.out 0)))
  (try simp only [Act.put, zA, zB, zC])
  go_cut [28] (fun v28 wc => ∃ (kq : Nat) (x28_4 : Bool), v28 = .bool x28_4 ∧ Aside0 (spec_MemPut.j0 kq a2 x28_4 a1_0 a1_1 a1_2 y173 = some (r1, r2)) ∧ Aside0 (kq ≤ k) ∧ Aside0 (Kd.R k35 35 wc w.heap.size (fun _ => True) (.slice Ao15 y173.length co15) y173) ∧ Aside0 (wc.heap[gb167]? = some (.cells #[(.slice A0_0 l0_0.length c0_0)] 26 (0, 0))) ∧ Aside0 (wc.heap[gb168]? = some (.cells #[.string a1_0, .string a1_1, .bool a1_2] 33 (0, 0))) ∧ Aside0 (wc.heap[gb169]? = some (.cells #[(.slice none 0 0)] 26 (0, 0))) ∧ Aside0 (wc.heap[gb176]? = some (.cells #[(.slice Ao15 y173.length co15)] 26 (0, 0))) ∧ Aside0 (Below w.heap.size w wc))
  case first =>
   have H := HC5.out
   clear HC5
   replace H := Option.bind_eq_some_iff.mp H
   obtain ⟨t177, A210, H⟩ := H
   replace H : (if t177 = true then ((spec_PairOk.f a1_0 a1_1 a1_2).bind fun t178 => (if t178 = true then ((spec_l1In.f a2 1 4).bind fun t179 => (spec_MemPut.j0 k a2 (!t179) a1_0 a1_1 a1_2 y173)) else (spec_MemPut.j0 k a2 true a1_0 a1_1 a1_2 y173))) else (spec_MemPut.j0 k a2 true a1_0 a1_1 a1_2 y173)) = some (r1, r2) := H
   have A21 := mS A210
   clear A210
   by_cases c22 : t177 = true
   ·subst c22
    have H1 := H
    rw [if_pos rfl] at H1
    clear H
    have H := H1
    clear H1
    replace H := Option.bind_eq_some_iff.mp H
    obtain ⟨t178, A230, H⟩ := H
    replace H : (if t178 = true then ((spec_l1In.f a2 1 4).bind fun t179 => (spec_MemPut.j0 k a2 (!t179) a1_0 a1_1 a1_2 y173)) else (spec_MemPut.j0 k a2 true a1_0 a1_1 a1_2 y173)) = some (r1, r2) := H
    have A23 := mS A230
    clear A230
    by_cases c24 : t178 = true
    ·subst c24
     have H1 := H
     rw [if_pos rfl] at H1
     clear H
     have H := H1
     clear H1
     replace H := Option.bind_eq_some_iff.mp H
     obtain ⟨t179, A250, H⟩ := H
     replace H : (spec_MemPut.j0 k a2 (!t179) a1_0 a1_1 a1_2 y173) = some (r1, r2) := H
     have A25 := mS A250
     clear A250
     have H' := mS H
     clear H
     have hnb26 := NB167_168.out
     have hnc26 := NB168_167.out
     have hnb27 := NB167_169.out
     have hnc27 := NB169_167.out
     have hnb28 := NB167_176.out
     have hnc28 := NB176_167.out
     have hcz29_0 := mZ BK167.out 0
     have hfz29_0 := blk_frozen BK167.out 0
     go_wp2_with (first | (go_at_call 17; (with_reducible refine (spec_MemOk.calls k _ _ l0_0 true _ ?side1 ?side2 A21.out).mono ?_); (case side1 => exact Kd.C_below HR0_0.out (mH4 HB.out GE167.out GE168.out GE169.out GE176.out)); (case side2 => exact HC0_0.out); rintro e w30 ⟨rfl, hb⟩; replace HO175 := mS (Kd.R_below (by refine mR ?_; exact (Kd.R_mono (Kd.R_far (p := ⟨gb176, 0, none⟩) (Kd.R_types HO175.out BK176.out (by decide)) (fun _ hk => hk.2) (.slice Ao15 y173.length co15)) (fun _ h_ => h_.1))) hb); replace BK167 := mS (blk_below (g := gb167) (o := .cells #[.slice A0_0 l0_0.length c0_0] 26 (0, 0)) (mKf NB167_176.out BK167.out) hb); replace BK168 := mS (blk_below (g := gb168) (o := .cells #[.string a1_0, .string a1_1, .bool a1_2] 33 (0, 0)) (mKf NB168_176.out BK168.out) hb); replace BK169 := mS (blk_below (g := gb169) (o := .cells #[.slice none 0 0] 26 (0, 0)) (mKf NB169_176.out BK169.out) hb); replace BK176 := mS (blk_below (g := gb176) (o := .cells #[.slice Ao15 y173.length co15] 26 (0, 0)) (by refine mK ?_; refine blk_put (cs := #[.slice none 0 0]) ?_ 0 _ rfl; refine mK ?_; exact BK176.out) hb); replace HB := mS (below_step (mH4 HB.out GE167.out GE168.out GE169.out GE176.out) hb); (try clear hb); (try clear hb2); (try clear hk); (try clear hi); have hnb31 := NB168_169.out; have hnc31 := NB169_168.out; have hnb32 := NB168_176.out; have hnc32 := NB176_168.out; obtain ⟨hcz33_0, hcz33_1, hcz33_2, hfz33_0, hfz33_1, hfz33_2⟩ := mZ3 BK168.out) | (go_at_call 75; (with_reducible refine (spec_PairOk.calls a1_0 a1_1 a1_2 true _ A23.out).mono ?_); rintro e w34 ⟨rfl, hb⟩; replace HO175 := mS (Kd.R_below (mR HO175.out) hb); replace BK167 := mB BK167 hb; replace BK168 := mB BK168 hb; replace BK169 := mB BK169 hb; replace BK176 := mB BK176 hb; replace HB := mS (below_step (mH4 HB.out GE167.out GE168.out GE169.out GE176.out) hb); (try clear hb); (try clear hb2); (try clear hk); (try clear hi)) | (go_at_call 76; (with_reducible refine (spec_l1In.calls a2 1 4 t179 _ A25.out).mono ?_); rintro e w' ⟨rfl, ⟨nd, rfl⟩⟩; (try first | exact ⟨rfl, _, World.drewN_drewN _ _ _⟩ | exact ⟨rfl, _, Eq.trans (World.drewN_drewN _ _ _) (congrArg (World.drewN _) (Nat.add_assoc _ _ _))⟩)))
     repeat (go_quiet (first | (go_at_call 17; (with_reducible refine (spec_MemOk.calls k _ _ l0_0 true _ ?side1 ?side2 A21.out).mono ?_); (case side1 => exact Kd.C_below HR0_0.out (mH4 HB.out GE167.out GE168.out GE169.out GE176.out)); (case side2 => exact HC0_0.out); rintro e w30 ⟨rfl, hb⟩; replace HO175 := mS (Kd.R_below (by refine mR ?_; exact (Kd.R_mono (Kd.R_far (p := ⟨gb176, 0, none⟩) (Kd.R_types HO175.out BK176.out (by decide)) (fun _ hk => hk.2) (.slice Ao15 y173.length co15)) (fun _ h_ => h_.1))) hb); replace BK167 := mS (blk_below (g := gb167) (o := .cells #[.slice A0_0 l0_0.length c0_0] 26 (0, 0)) (mKf NB167_176.out BK167.out) hb); replace BK168 := mS (blk_below (g := gb168) (o := .cells #[.string a1_0, .string a1_1, .bool a1_2] 33 (0, 0)) (mKf NB168_176.out BK168.out) hb); replace BK169 := mS (blk_below (g := gb169) (o := .cells #[.slice none 0 0] 26 (0, 0)) (mKf NB169_176.out BK169.out) hb); replace BK176 := mS (blk_below (g := gb176) (o := .cells #[.slice Ao15 y173.length co15] 26 (0, 0)) (by refine mK ?_; refine blk_put (cs := #[.slice none 0 0]) ?_ 0 _ rfl; refine mK ?_; exact BK176.out) hb); replace HB := mS (below_step (mH4 HB.out GE167.out GE168.out GE169.out GE176.out) hb); (try clear hb); (try clear hb2); (try clear hk); (try clear hi); have hnb31 := NB168_169.out; have hnc31 := NB169_168.out; have hnb32 := NB168_176.out; have hnc32 := NB176_168.out; obtain ⟨hcz33_0, hcz33_1, hcz33_2, hfz33_0, hfz33_1, hfz33_2⟩ := mZ3 BK168.out) | (go_at_call 75; (with_reducible refine (spec_PairOk.calls a1_0 a1_1 a1_2 true _ A23.out).mono ?_); rintro e w34 ⟨rfl, hb⟩; replace HO175 := mS (Kd.R_below (mR HO175.out) hb); replace BK167 := mB BK167 hb; replace BK168 := mB BK168 hb; replace BK169 := mB BK169 hb; replace BK176 := mB BK176 hb; replace HB := mS (below_step (mH4 HB.out GE167.out GE168.out GE169.out GE176.out) hb); (try clear hb); (try clear hb2); (try clear hk); (try clear hi)) | (go_at_call 76; (with_reducible refine (spec_l1In.calls a2 1 4 t179 _ A25.out).mono ?_); rintro e w' ⟨rfl, ⟨nd, rfl⟩⟩; (try first | exact ⟨rfl, _, World.drewN_drewN _ _ _⟩ | exact ⟨rfl, _, Eq.trans (World.drewN_drewN _ _ _) (congrArg (World.drewN _) (Nat.add_assoc _ _ _))⟩))); try go_wp2_with (first | (go_at_call 17; (with_reducible refine (spec_MemOk.calls k _ _ l0_0 true _ ?side1 ?side2 A21.out).mono ?_); (case side1 => exact Kd.C_below HR0_0.out (mH4 HB.out GE167.out GE168.out GE169.out GE176.out)); (case side2 => exact HC0_0.out); rintro e w30 ⟨rfl, hb⟩; replace HO175 := mS (Kd.R_below (by refine mR ?_; exact (Kd.R_mono (Kd.R_far (p := ⟨gb176, 0, none⟩) (Kd.R_types HO175.out BK176.out (by decide)) (fun _ hk => hk.2) (.slice Ao15 y173.length co15)) (fun _ h_ => h_.1))) hb); replace BK167 := mS (blk_below (g := gb167) (o := .cells #[.slice A0_0 l0_0.length c0_0] 26 (0, 0)) (mKf NB167_176.out BK167.out) hb); replace BK168 := mS (blk_below (g := gb168) (o := .cells #[.string a1_0, .string a1_1, .bool a1_2] 33 (0, 0)) (mKf NB168_176.out BK168.out) hb); replace BK169 := mS (blk_below (g := gb169) (o := .cells #[.slice none 0 0] 26 (0, 0)) (mKf NB169_176.out BK169.out) hb); replace BK176 := mS (blk_below (g := gb176) (o := .cells #[.slice Ao15 y173.length co15] 26 (0, 0)) (by refine mK ?_; refine blk_put (cs := #[.slice none 0 0]) ?_ 0 _ rfl; refine mK ?_; exact BK176.out) hb); replace HB := mS (below_step (mH4 HB.out GE167.out GE168.out GE169.out GE176.out) hb); (try clear hb); (try clear hb2); (try clear hk); (try clear hi); have hnb31 := NB168_169.out; have hnc31 := NB169_168.out; have hnb32 := NB168_176.out; have hnc32 := NB176_168.out; obtain ⟨hcz33_0, hcz33_1, hcz33_2, hfz33_0, hfz33_1, hfz33_2⟩ := mZ3 BK168.out) | (go_at_call 75; (with_reducible refine (spec_PairOk.calls a1_0 a1_1 a1_2 true _ A23.out).mono ?_); rintro e w34 ⟨rfl, hb⟩; replace HO175 := mS (Kd.R_below (mR HO175.out) hb); replace BK167 := mB BK167 hb; replace BK168 := mB BK168 hb; replace BK169 := mB BK169 hb; replace BK176 := mB BK176 hb; replace HB := mS (below_step (mH4 HB.out GE167.out GE168.out GE169.out GE176.out) hb); (try clear hb); (try clear hb2); (try clear hk); (try clear hi)) | (go_at_call 76; (with_reducible refine (spec_l1In.calls a2 1 4 t179 _ A25.out).mono ?_); rintro e w' ⟨rfl, ⟨nd, rfl⟩⟩; (try first | exact ⟨rfl, _, World.drewN_drewN _ _ _⟩ | exact ⟨rfl, _, Eq.trans (World.drewN_drewN _ _ _) (congrArg (World.drewN _) (Nat.add_assoc _ _ _))⟩))))
     go_meet
     case rel => exact ⟨_, (!t179), mE, H', ⟨by first | omega | exact Nat.le_refl _⟩, ⟨mR HO175.out⟩, ⟨mK BK167.out⟩, ⟨mK BK168.out⟩, ⟨mK BK169.out⟩, ⟨mK BK176.out⟩, ⟨(mH4 HB.out GE167.out GE168.out GE169.out GE176.out)⟩⟩
    ·replace c24 := Bool.eq_false_iff.mpr c24
     subst c24
     have H1 := H
     rw [if_neg (show ¬ (false = true) by decide)] at H1
     clear H
     have H := H1
     clear H1
     have H' := mS H
     clear H
     have hnb35 := NB167_168.out
     have hnc35 := NB168_167.out
     have hnb36 := NB167_169.out
     have hnc36 := NB169_167.out
     have hnb37 := NB167_176.out
     have hnc37 := NB176_167.out
     have hcz38_0 := mZ BK167.out 0
     have hfz38_0 := blk_frozen BK167.out 0
     go_wp2_with (first | (go_at_call 17; (with_reducible refine (spec_MemOk.calls k _ _ l0_0 true _ ?side1 ?side2 A21.out).mono ?_); (case side1 => exact Kd.C_below HR0_0.out (mH4 HB.out GE167.out GE168.out GE169.out GE176.out)); (case side2 => exact HC0_0.out); rintro e w39 ⟨rfl, hb⟩; replace HO175 := mS (Kd.R_below (by refine mR ?_; exact (Kd.R_mono (Kd.R_far (p := ⟨gb176, 0, none⟩) (Kd.R_types HO175.out BK176.out (by decide)) (fun _ hk => hk.2) (.slice Ao15 y173.length co15)) (fun _ h_ => h_.1))) hb); replace BK167 := mS (blk_below (g := gb167) (o := .cells #[.slice A0_0 l0_0.length c0_0] 26 (0, 0)) (mKf NB167_176.out BK167.out) hb); replace BK168 := mS (blk_below (g := gb168) (o := .cells #[.string a1_0, .string a1_1, .bool a1_2] 33 (0, 0)) (mKf NB168_176.out BK168.out) hb); replace BK169 := mS (blk_below (g := gb169) (o := .cells #[.slice none 0 0] 26 (0, 0)) (mKf NB169_176.out BK169.out) hb); replace BK176 := mS (blk_below (g := gb176) (o := .cells #[.slice Ao15 y173.length co15] 26 (0, 0)) (by refine mK ?_; refine blk_put (cs := #[.slice none 0 0]) ?_ 0 _ rfl; refine mK ?_; exact BK176.out) hb); replace HB := mS (below_step (mH4 HB.out GE167.out GE168.out GE169.out GE176.out) hb); (try clear hb); (try clear hb2); (try clear hk); (try clear hi); have hnb40 := NB168_169.out; have hnc40 := NB169_168.out; have hnb41 := NB168_176.out; have hnc41 := NB176_168.out; obtain ⟨hcz42_0, hcz42_1, hcz42_2, hfz42_0, hfz42_1, hfz42_2⟩ := mZ3 BK168.out) | (go_at_call 75; (with_reducible refine (spec_PairOk.calls a1_0 a1_1 a1_2 false _ A23.out).mono ?_); rintro e w43 ⟨rfl, hb⟩; replace HO175 := mS (Kd.R_below (mR HO175.out) hb); replace BK167 := mB BK167 hb; replace BK168 := mB BK168 hb; replace BK169 := mB BK169 hb; replace BK176 := mB BK176 hb; replace HB := mS (below_step (mH4 HB.out GE167.out GE168.out GE169.out GE176.out) hb); (try clear hb); (try clear hb2); (try clear hk); (try clear hi)))
     repeat (go_quiet (first | (go_at_call 17; (with_reducible refine (spec_MemOk.calls k _ _ l0_0 true _ ?side1 ?side2 A21.out).mono ?_); (case side1 => exact Kd.C_below HR0_0.out (mH4 HB.out GE167.out GE168.out GE169.out GE176.out)); (case side2 => exact HC0_0.out); rintro e w39 ⟨rfl, hb⟩; replace HO175 := mS (Kd.R_below (by refine mR ?_; exact (Kd.R_mono (Kd.R_far (p := ⟨gb176, 0, none⟩) (Kd.R_types HO175.out BK176.out (by decide)) (fun _ hk => hk.2) (.slice Ao15 y173.length co15)) (fun _ h_ => h_.1))) hb); replace BK167 := mS (blk_below (g := gb167) (o := .cells #[.slice A0_0 l0_0.length c0_0] 26 (0, 0)) (mKf NB167_176.out BK167.out) hb); replace BK168 := mS (blk_below (g := gb168) (o := .cells #[.string a1_0, .string a1_1, .bool a1_2] 33 (0, 0)) (mKf NB168_176.out BK168.out) hb); replace BK169 := mS (blk_below (g := gb169) (o := .cells #[.slice none 0 0] 26 (0, 0)) (mKf NB169_176.out BK169.out) hb); replace BK176 := mS (blk_below (g := gb176) (o := .cells #[.slice Ao15 y173.length co15] 26 (0, 0)) (by refine mK ?_; refine blk_put (cs := #[.slice none 0 0]) ?_ 0 _ rfl; refine mK ?_; exact BK176.out) hb); replace HB := mS (below_step (mH4 HB.out GE167.out GE168.out GE169.out GE176.out) hb); (try clear hb); (try clear hb2); (try clear hk); (try clear hi); have hnb40 := NB168_169.out; have hnc40 := NB169_168.out; have hnb41 := NB168_176.out; have hnc41 := NB176_168.out; obtain ⟨hcz42_0, hcz42_1, hcz42_2, hfz42_0, hfz42_1, hfz42_2⟩ := mZ3 BK168.out) | (go_at_call 75; (with_reducible refine (spec_PairOk.calls a1_0 a1_1 a1_2 false _ A23.out).mono ?_); rintro e w43 ⟨rfl, hb⟩; replace HO175 := mS (Kd.R_below (mR HO175.out) hb); replace BK167 := mB BK167 hb; replace BK168 := mB BK168 hb; replace BK169 := mB BK169 hb; replace BK176 := mB BK176 hb; replace HB := mS (below_step (mH4 HB.out GE167.out GE168.out GE169.out GE176.out) hb); (try clear hb); (try clear hb2); (try clear hk); (try clear hi))); try go_wp2_with (first | (go_at_call 17; (with_reducible refine (spec_MemOk.calls k _ _ l0_0 true _ ?side1 ?side2 A21.out).mono ?_); (case side1 => exact Kd.C_below HR0_0.out (mH4 HB.out GE167.out GE168.out GE169.out GE176.out)); (case side2 => exact HC0_0.out); rintro e w39 ⟨rfl, hb⟩; replace HO175 := mS (Kd.R_below (by refine mR ?_; exact (Kd.R_mono (Kd.R_far (p := ⟨gb176, 0, none⟩) (Kd.R_types HO175.out BK176.out (by decide)) (fun _ hk => hk.2) (.slice Ao15 y173.length co15)) (fun _ h_ => h_.1))) hb); replace BK167 := mS (blk_below (g := gb167) (o := .cells #[.slice A0_0 l0_0.length c0_0] 26 (0, 0)) (mKf NB167_176.out BK167.out) hb); replace BK168 := mS (blk_below (g := gb168) (o := .cells #[.string a1_0, .string a1_1, .bool a1_2] 33 (0, 0)) (mKf NB168_176.out BK168.out) hb); replace BK169 := mS (blk_below (g := gb169) (o := .cells #[.slice none 0 0] 26 (0, 0)) (mKf NB169_176.out BK169.out) hb); replace BK176 := mS (blk_below (g := gb176) (o := .cells #[.slice Ao15 y173.length co15] 26 (0, 0)) (by refine mK ?_; refine blk_put (cs := #[.slice none 0 0]) ?_ 0 _ rfl; refine mK ?_; exact BK176.out) hb); replace HB := mS (below_step (mH4 HB.out GE167.out GE168.out GE169.out GE176.out) hb); (try clear hb); (try clear hb2); (try clear hk); (try clear hi); have hnb40 := NB168_169.out; have hnc40 := NB169_168.out; have hnb41 := NB168_176.out; have hnc41 := NB176_168.out; obtain ⟨hcz42_0, hcz42_1, hcz42_2, hfz42_0, hfz42_1, hfz42_2⟩ := mZ3 BK168.out) | (go_at_call 75; (with_reducible refine (spec_PairOk.calls a1_0 a1_1 a1_2 false _ A23.out).mono ?_); rintro e w43 ⟨rfl, hb⟩; replace HO175 := mS (Kd.R_below (mR HO175.out) hb); replace BK167 := mB BK167 hb; replace BK168 := mB BK168 hb; replace BK169 := mB BK169 hb; replace BK176 := mB BK176 hb; replace HB := mS (below_step (mH4 HB.out GE167.out GE168.out GE169.out GE176.out) hb); (try clear hb); (try clear hb2); (try clear hk); (try clear hi))))
     go_meet
     case rel => exact ⟨_, (true), mE, H', ⟨by first | omega | exact Nat.le_refl _⟩, ⟨mR HO175.out⟩, ⟨mK BK167.out⟩, ⟨mK BK168.out⟩, ⟨mK BK169.out⟩, ⟨mK BK176.out⟩, ⟨(mH4 HB.out GE167.out GE168.out GE169.out GE176.out)⟩⟩
   ·replace c22 := Bool.eq_false_iff.mpr c22
    subst c22
    have H1 := H
    rw [if_neg (show ¬ (false = true) by decide)] at H1
    clear H
    have H := H1
    clear H1
    have H' := mS H
    clear H
    have hnb44 := NB167_168.out
    have hnc44 := NB168_167.out
    have hnb45 := NB167_169.out
    have hnc45 := NB169_167.out
    have hnb46 := NB167_176.out
    have hnc46 := NB176_167.out
    have hcz47_0 := mZ BK167.out 0
    have hfz47_0 := blk_frozen BK167.out 0
    go_wp2_with (first | (go_at_call 17; (with_reducible refine (spec_MemOk.calls k _ _ l0_0 false _ ?side1 ?side2 A21.out).mono ?_); (case side1 => exact Kd.C_below HR0_0.out (mH4 HB.out GE167.out GE168.out GE169.out GE176.out)); (case side2 => exact HC0_0.out); rintro e w48 ⟨rfl, hb⟩; replace HO175 := mS (Kd.R_below (by refine mR ?_; exact (Kd.R_mono (Kd.R_far (p := ⟨gb176, 0, none⟩) (Kd.R_types HO175.out BK176.out (by decide)) (fun _ hk => hk.2) (.slice Ao15 y173.length co15)) (fun _ h_ => h_.1))) hb); replace BK167 := mS (blk_below (g := gb167) (o := .cells #[.slice A0_0 l0_0.length c0_0] 26 (0, 0)) (mKf NB167_176.out BK167.out) hb); replace BK168 := mS (blk_below (g := gb168) (o := .cells #[.string a1_0, .string a1_1, .bool a1_2] 33 (0, 0)) (mKf NB168_176.out BK168.out) hb); replace BK169 := mS (blk_below (g := gb169) (o := .cells #[.slice none 0 0] 26 (0, 0)) (mKf NB169_176.out BK169.out) hb); replace BK176 := mS (blk_below (g := gb176) (o := .cells #[.slice Ao15 y173.length co15] 26 (0, 0)) (by refine mK ?_; refine blk_put (cs := #[.slice none 0 0]) ?_ 0 _ rfl; refine mK ?_; exact BK176.out) hb); replace HB := mS (below_step (mH4 HB.out GE167.out GE168.out GE169.out GE176.out) hb); (try clear hb); (try clear hb2); (try clear hk); (try clear hi)))
    repeat (go_quiet (first | (go_at_call 17; (with_reducible refine (spec_MemOk.calls k _ _ l0_0 false _ ?side1 ?side2 A21.out).mono ?_); (case side1 => exact Kd.C_below HR0_0.out (mH4 HB.out GE167.out GE168.out GE169.out GE176.out)); (case side2 => exact HC0_0.out); rintro e w48 ⟨rfl, hb⟩; replace HO175 := mS (Kd.R_below (by refine mR ?_; exact (Kd.R_mono (Kd.R_far (p := ⟨gb176, 0, none⟩) (Kd.R_types HO175.out BK176.out (by decide)) (fun _ hk => hk.2) (.slice Ao15 y173.length co15)) (fun _ h_ => h_.1))) hb); replace BK167 := mS (blk_below (g := gb167) (o := .cells #[.slice A0_0 l0_0.length c0_0] 26 (0, 0)) (mKf NB167_176.out BK167.out) hb); replace BK168 := mS (blk_below (g := gb168) (o := .cells #[.string a1_0, .string a1_1, .bool a1_2] 33 (0, 0)) (mKf NB168_176.out BK168.out) hb); replace BK169 := mS (blk_below (g := gb169) (o := .cells #[.slice none 0 0] 26 (0, 0)) (mKf NB169_176.out BK169.out) hb); replace BK176 := mS (blk_below (g := gb176) (o := .cells #[.slice Ao15 y173.length co15] 26 (0, 0)) (by refine mK ?_; refine blk_put (cs := #[.slice none 0 0]) ?_ 0 _ rfl; refine mK ?_; exact BK176.out) hb); replace HB := mS (below_step (mH4 HB.out GE167.out GE168.out GE169.out GE176.out) hb); (try clear hb); (try clear hb2); (try clear hk); (try clear hi))); try go_wp2_with (first | (go_at_call 17; (with_reducible refine (spec_MemOk.calls k _ _ l0_0 false _ ?side1 ?side2 A21.out).mono ?_); (case side1 => exact Kd.C_below HR0_0.out (mH4 HB.out GE167.out GE168.out GE169.out GE176.out)); (case side2 => exact HC0_0.out); rintro e w48 ⟨rfl, hb⟩; replace HO175 := mS (Kd.R_below (by refine mR ?_; exact (Kd.R_mono (Kd.R_far (p := ⟨gb176, 0, none⟩) (Kd.R_types HO175.out BK176.out (by decide)) (fun _ hk => hk.2) (.slice Ao15 y173.length co15)) (fun _ h_ => h_.1))) hb); replace BK167 := mS (blk_below (g := gb167) (o := .cells #[.slice A0_0 l0_0.length c0_0] 26 (0, 0)) (mKf NB167_176.out BK167.out) hb); replace BK168 := mS (blk_below (g := gb168) (o := .cells #[.string a1_0, .string a1_1, .bool a1_2] 33 (0, 0)) (mKf NB168_176.out BK168.out) hb); replace BK169 := mS (blk_below (g := gb169) (o := .cells #[.slice none 0 0] 26 (0, 0)) (mKf NB169_176.out BK169.out) hb); replace BK176 := mS (blk_below (g := gb176) (o := .cells #[.slice Ao15 y173.length co15] 26 (0, 0)) (by refine mK ?_; refine blk_put (cs := #[.slice none 0 0]) ?_ 0 _ rfl; refine mK ?_; exact BK176.out) hb); replace HB := mS (below_step (mH4 HB.out GE167.out GE168.out GE169.out GE176.out) hb); (try clear hb); (try clear hb2); (try clear hk); (try clear hi))))
    go_meet
    case rel => exact ⟨_, (true), mE, H', ⟨by first | omega | exact Nat.le_refl _⟩, ⟨mR HO175.out⟩, ⟨mK BK167.out⟩, ⟨mK BK168.out⟩, ⟨mK BK169.out⟩, ⟨mK BK176.out⟩, ⟨(mH4 HB.out GE167.out GE168.out GE169.out GE176.out)⟩⟩
  case rest =>
   clear HC5
   try clear c1
   try clear c2
   try clear p2
   try clear c3
   try clear c4
   try clear c11
   try clear c12
   try clear c17
   try clear c18
   try clear c19
   try clear c21
   try clear c22
   try clear c24
   try clear c26
   try clear c27
   try clear c28
   try clear c31
   try clear c32
   try clear c35
   try clear c36
   try clear c37
   try clear c40
   try clear c41
   try clear c44
   try clear c45
   try clear c46
   try clear hcz13_0
   try clear hcz20_0
   try clear hcz29_0
   try clear hcz33_0
   try clear hcz33_1
   try clear hcz33_2
   try clear hcz38_0
   try clear hcz42_0
   try clear hcz42_1
   try clear hcz42_2
   try clear hcz47_0
   try clear hfz13_0
   try clear hfz20_0
   try clear hfz29_0
   try clear hfz33_0
   try clear hfz33_1
   try clear hfz33_2
   try clear hfz38_0
   try clear hfz42_0
   try clear hfz42_1
   try clear hfz42_2
   try clear hfz47_0
   obtain ⟨kq, x28_4, rfl, HA, HJ4, HO_177000, BK167, BK168, BK169, BK176, HB⟩ := hcut
   cases kq with
   | zero => exact absurd HA.out (by simp [spec_MemPut.j0])
   | succ kj4 =>
    have H := HA.out
    clear HA
    simp only [spec_MemPut.j0] at H
    by_cases c49 : x28_4 = true
    ·subst c49
     have H1 := H
     rw [if_pos rfl] at H1
     clear H
     have H := H1
     clear H1
     simp only [Option.some.injEq, Prod.mk.injEq] at H
     obtain ⟨rfl, rfl⟩ := H
     have hnb50 := NB176_167.out
     have hnc50 := NB167_176.out
     have hnb51 := NB176_168.out
     have hnc51 := NB168_176.out
     have hnb52 := NB176_169.out
     have hnc52 := NB169_176.out
     have hcz53_0 := mZ BK176.out 0
     have hfz53_0 := blk_frozen BK176.out 0
     have hnb54 := NB169_167.out
     have hnc54 := NB167_169.out
     have hnb55 := NB169_168.out
     have hnc55 := NB168_169.out
     have hcz56_0 := mZ BK169.out 0
     have hfz56_0 := blk_frozen BK169.out 0
     go_wp2
     repeat (go_quiet (fail); try go_wp2)
     refine bodyPost_ret (results_ct rfl _ _ gb169 26 #[.slice Ao15 y173.length co15] (0, 0) _ rfl (by refine mK ?_; refine blk_put (cs := #[.slice none 0 0]) ?_ 0 _ rfl; refine mK ?_; exact BK169.out) Try.underlying26 rfl (by kernel_rfl)) rfl ?_
     exact ⟨_, mEw, by refine mR ?_; exact Kd.R_mono (Kd.R_far (p := ⟨gb169, 0, none⟩) (Kd.R_types HO_177000.out BK169.out (by decide)) (fun _ hk => hk.2) (.slice Ao15 y173.length co15)) (fun _ hk => trivial), (mH4 HB.out GE167.out GE168.out GE169.out GE176.out)⟩
    ·replace c49 := Bool.eq_false_iff.mpr c49
     subst c49
     have H1 := H
     rw [if_neg (show ¬ (false = true) by decide)] at H1
     clear H
     have H := H1
     clear H1
     have H' := mS H
     clear H
     go_wp2
     repeat (go_quiet (fail); try go_wp2)
     go_loopg [9] kj4 (fun kq v9 w' => ∃ (x9_2 : Int), v9 = .int .i64 x9_2 ∧ Aside0 (spec_MemPut.l0 kq a2 x9_2 a1_0 a1_1 a1_2 y173 = some (r1, r2)) ∧ Aside0 (kq ≤ kj4) ∧ Aside0 (Kd.R k35 35 w' w.heap.size (fun _ => True) (.slice Ao15 y173.length co15) y173) ∧ Aside0 (w'.heap[gb167]? = some (.cells #[(.slice A0_0 l0_0.length c0_0)] 26 (0, 0))) ∧ Aside0 (w'.heap[gb168]? = some (.cells #[.string a1_0, .string a1_1, .bool a1_2] 33 (0, 0))) ∧ Aside0 (w'.heap[gb169]? = some (.cells #[(.slice none 0 0)] 26 (0, 0))) ∧ Aside0 (w'.heap[gb176]? = some (.cells #[(.slice Ao15 y173.length co15)] 26 (0, 0))) ∧ Aside0 (Below w.heap.size w w'))
     case atStart => exact ⟨(0), mE, H', ⟨Nat.le_refl _⟩, ⟨mR HO_177000.out⟩, ⟨mK BK167.out⟩, ⟨mK BK168.out⟩, ⟨mK BK169.out⟩, ⟨mK BK176.out⟩, ⟨(mH4 HB.out GE167.out GE168.out GE169.out GE176.out)⟩⟩
     case round =>
      clear H'
      try clear c1
      try clear c2
      try clear p2
      try clear c3
      try clear c4
      try clear c5
      try clear c11
      try clear c12
      try clear c17
      try clear c18
      try clear c19
      try clear c21
      try clear c22
      try clear c24
      try clear c26
      try clear c27
      try clear c28
      try clear c31
      try clear c32
      try clear c35
      try clear c36
      try clear c37
      try clear c40
      try clear c41
      try clear c44
      try clear c45
      try clear c46
      try clear c49
      try clear c50
      try clear c51
      try clear c52
      try clear c54
      try clear c55
      try clear hcz13_0
      try clear hcz20_0
      try clear hcz29_0
      try clear hcz33_0
      try clear hcz33_1
      try clear hcz33_2
      try clear hcz38_0
      try clear hcz42_0
      try clear hcz42_1
      try clear hcz42_2
      try clear hcz47_0
      try clear hcz53_0
      try clear hcz56_0
      try clear hfz13_0
      try clear hfz20_0
      try clear hfz29_0
      try clear hfz33_0
      try clear hfz33_1
      try clear hfz33_2
      try clear hfz38_0
      try clear hfz42_0
      try clear hfz42_1
      try clear hfz42_2
      try clear hfz47_0
      try clear hfz53_0
      try clear hfz56_0
      try clear p2
      obtain ⟨x9_2, rfl, HA, HK2, HO_177000, BK167, BK168, BK169, BK176, HB⟩ := hrel
      cases gk with
      | zero => exact absurd HA.out (by simp [spec_MemPut.l0])
      | succ k2 =>
       have H := HA.out
       clear HA
       simp only [spec_MemPut.l0] at H
       have HC57 := mS H
       clear H
       go_upto_region 5 with (fail)
       repeat (go_quiet (fail); go_upto_region 5 with (fail))
       go_cut [46] (fun v46 wc => ∃ (kq : Nat) (x46_56 : Bool), v46 = .bool x46_56 ∧ Aside0 (spec_MemPut.j2 kq a2 x9_2 x46_56 a1_0 a1_1 a1_2 y173 = some (r1, r2)) ∧ Aside0 (kq ≤ k2) ∧ Aside0 (Kd.R k35 35 wc w.heap.size (fun _ => True) (.slice Ao15 y173.length co15) y173) ∧ Aside0 (wc.heap[gb167]? = some (.cells #[(.slice A0_0 l0_0.length c0_0)] 26 (0, 0))) ∧ Aside0 (wc.heap[gb168]? = some (.cells #[.string a1_0, .string a1_1, .bool a1_2] 33 (0, 0))) ∧ Aside0 (wc.heap[gb169]? = some (.cells #[(.slice none 0 0)] 26 (0, 0))) ∧ Aside0 (wc.heap[gb176]? = some (.cells #[(.slice Ao15 y173.length co15)] 26 (0, 0))) ∧ Aside0 (Below w.heap.size w wc))
       case first =>
        have H := HC57.out
        clear HC57
        by_cases c58 : x9_2 < (y173.length : Int)
        ·rw [if_pos c58] at H
         have c58b0 := decide_eq_true c58
         clear c58
         (first | rw [c58b0] | (simp only [i64_w, i32_w]; rw [c58b0]) | skip)
         by_cases c59 : 0 ≤ x9_2
         ·rw [if_pos c59] at H
          have c59b0 := decide_eq_true c59
          clear c59
          have H' := mS H
          clear H
          have hnb60 := NB176_167.out
          have hnc60 := NB167_176.out
          have hnb61 := NB176_168.out
          have hnc61 := NB168_176.out
          have hnb62 := NB176_169.out
          have hnc62 := NB169_176.out
          have hcz63_0 := mZ BK176.out 0
          have hfz63_0 := blk_frozen BK176.out 0
          have p180 : 0 ≤ (x9_2 : Int) := mD
          have q180 : x9_2 < (y173.length : Int) := mD
          obtain ⟨ad180, e180, hx180_0, hx180_1, hx180_2, hx180_3⟩ := at_T35 (Kd.R_reads' HO_177000.out).2.2 x9_2 p180 q180
          cases e180
          replace p180 := eq_true p180
          replace q180 := eq_true q180
          have hnb64 := NB168_167.out
          have hnc64 := NB167_168.out
          have hnb65 := NB168_169.out
          have hnc65 := NB169_168.out
          obtain ⟨hcz66_0, hcz66_1, hcz66_2, hfz66_0, hfz66_1, hfz66_2⟩ := mZ3 BK168.out
          go_wp2
          repeat (go_quiet (fail); try go_wp2)
          go_meet
          case rel => exact ⟨_, ((Op.bytesLess (((rd_T35 y173 x9_2).f0.f0).toList) a1_0.toList)), mE, H', ⟨by have := HJ4.out; have := HK2.out; first | omega | exact Nat.le_refl _⟩, ⟨mR HO_177000.out⟩, ⟨mK BK167.out⟩, ⟨mK BK168.out⟩, ⟨mK BK169.out⟩, ⟨mK BK176.out⟩, ⟨(mH4 HB.out GE167.out GE168.out GE169.out GE176.out)⟩⟩
         ·rw [if_neg c59] at H
          exact absurd H (by simp)
        ·rw [if_neg c58] at H
         have c58b0 := decide_eq_false c58
         clear c58
         (first | rw [c58b0] | (simp only [i64_w, i32_w]; rw [c58b0]) | skip)
         have H' := mS H
         clear H
         have hnb67 := NB176_167.out
         have hnc67 := NB167_176.out
         have hnb68 := NB176_168.out
         have hnc68 := NB168_176.out
         have hnb69 := NB176_169.out
         have hnc69 := NB169_176.out
         have hcz70_0 := mZ BK176.out 0
         have hfz70_0 := blk_frozen BK176.out 0
         go_wp2
         repeat (go_quiet (fail); try go_wp2)
         go_meet
         case rel => exact ⟨_, (false), mE, H', ⟨by have := HJ4.out; have := HK2.out; first | omega | exact Nat.le_refl _⟩, ⟨mR HO_177000.out⟩, ⟨mK BK167.out⟩, ⟨mK BK168.out⟩, ⟨mK BK169.out⟩, ⟨mK BK176.out⟩, ⟨(mH4 HB.out GE167.out GE168.out GE169.out GE176.out)⟩⟩
       case rest =>
        clear HC57
        try clear c1
        try clear p1
        try clear q1
        try clear hx1
        try clear c2
        try clear p2
        try clear c3
        try clear c4
        try clear c5
        try clear c6
        try clear c11
        try clear c12
        try clear c17
        try clear c18
        try clear p18
        try clear q18
        try clear hx18
        try clear c19
        try clear c21
        try clear c22
        try clear c24
        try clear c26
        try clear c27
        try clear c28
        try clear c31
        try clear c32
        try clear c35
        try clear c36
        try clear c37
        try clear c40
        try clear c41
        try clear c44
        try clear c45
        try clear c46
        try clear c49
        try clear c50
        try clear c51
        try clear c52
        try clear c54
        try clear c55
        try clear c58
        try clear c58b0
        try clear c59
        try clear c59b0
        try clear c60
        try clear c61
        try clear c62
        try clear c64
        try clear c65
        try clear c67
        try clear c68
        try clear c69
        try clear hcz13_0
        try clear hcz20_0
        try clear hcz29_0
        try clear hcz33_0
        try clear hcz33_1
        try clear hcz33_2
        try clear hcz38_0
        try clear hcz42_0
        try clear hcz42_1
        try clear hcz42_2
        try clear hcz47_0
        try clear hcz53_0
        try clear hcz56_0
        try clear hcz63_0
        try clear hcz66_0
        try clear hcz66_1
        try clear hcz66_2
        try clear hcz70_0
        try clear hfz13_0
        try clear hfz20_0
        try clear hfz29_0
        try clear hfz33_0
        try clear hfz33_1
        try clear hfz33_2
        try clear hfz38_0
        try clear hfz42_0
        try clear hfz42_1
        try clear hfz42_2
        try clear hfz47_0
        try clear hfz53_0
        try clear hfz56_0
        try clear hfz63_0
        try clear hfz66_0
        try clear hfz66_1
        try clear hfz66_2
        try clear hfz70_0
        try clear hx180_0
        try clear hx180_1
        try clear hx180_2
        try clear hx180_3
        try clear p180
        try clear p2
        try clear q180
        obtain ⟨kq, x46_56, rfl, HA, HJ56, HO_177000, BK167, BK168, BK169, BK176, HB⟩ := hcut
        cases kq with
        | zero => exact absurd HA.out (by simp [spec_MemPut.j2])
        | succ kj56 =>
         have H := HA.out
         clear HA
         simp only [spec_MemPut.j2] at H
         by_cases c71 : x46_56 = true
         ·subst c71
          have H1 := H
          rw [if_pos rfl] at H1
          clear H
          have H := H1
          clear H1
          have H' := mS H
          clear H
          go_wp2
          repeat (go_quiet (fail); try go_wp2)
          go_roundg kj56
          case measure => have := HJ4.out; have := HK2.out; have := HJ56.out; omega
          case rel => exact ⟨(wrap64 (x9_2 + 1)), mE, H', ⟨by have := HJ4.out; have := HK2.out; have := HJ56.out; omega⟩, ⟨mR HO_177000.out⟩, ⟨mK BK167.out⟩, ⟨mK BK168.out⟩, ⟨mK BK169.out⟩, ⟨mK BK176.out⟩, ⟨(mH4 HB.out GE167.out GE168.out GE169.out GE176.out)⟩⟩
         ·replace c71 := Bool.eq_false_iff.mpr c71
          subst c71
          have H1 := H
          rw [if_neg (show ¬ (false = true) by decide)] at H1
          clear H
          have H := H1
          clear H1
          have HC72 := mS H
          clear H
          go_upto_region 7 with (fail)
          repeat (go_quiet (fail); go_upto_region 7 with (fail))
          go_cut [65] (fun v65 wc => ∃ (kq : Nat) (x65_71 : Bool), v65 = .bool x65_71 ∧ Aside0 (spec_MemPut.j3 kq a2 x9_2 x65_71 a1_0 a1_1 a1_2 y173 = some (r1, r2)) ∧ Aside0 (kq ≤ kj56) ∧ Aside0 (Kd.R k35 35 wc w.heap.size (fun _ => True) (.slice Ao15 y173.length co15) y173) ∧ Aside0 (wc.heap[gb167]? = some (.cells #[(.slice A0_0 l0_0.length c0_0)] 26 (0, 0))) ∧ Aside0 (wc.heap[gb168]? = some (.cells #[.string a1_0, .string a1_1, .bool a1_2] 33 (0, 0))) ∧ Aside0 (wc.heap[gb169]? = some (.cells #[(.slice none 0 0)] 26 (0, 0))) ∧ Aside0 (wc.heap[gb176]? = some (.cells #[(.slice Ao15 y173.length co15)] 26 (0, 0))) ∧ Aside0 (Below w.heap.size w wc))
          case first =>
           have H := HC72.out
           clear HC72
           by_cases c73 : x9_2 < (y173.length : Int)
           ·rw [if_pos c73] at H
            have c73b0 := decide_eq_true c73
            clear c73
            (first | rw [c73b0] | (simp only [i64_w, i32_w]; rw [c73b0]) | skip)
            by_cases c74 : 0 ≤ x9_2
            ·rw [if_pos c74] at H
             have c74b0 := decide_eq_true c74
             clear c74
             have H' := mS H
             clear H
             have hnb75 := NB176_167.out
             have hnc75 := NB167_176.out
             have hnb76 := NB176_168.out
             have hnc76 := NB168_176.out
             have hnb77 := NB176_169.out
             have hnc77 := NB169_176.out
             have hcz78_0 := mZ BK176.out 0
             have hfz78_0 := blk_frozen BK176.out 0
             have p181 : 0 ≤ (x9_2 : Int) := mD
             have q181 : x9_2 < (y173.length : Int) := mD
             obtain ⟨ad181, e181, hx181_0, hx181_1, hx181_2, hx181_3⟩ := at_T35 (Kd.R_reads' HO_177000.out).2.2 x9_2 p181 q181
             cases e181
             replace p181 := eq_true p181
             replace q181 := eq_true q181
             have hnb79 := NB168_167.out
             have hnc79 := NB167_168.out
             have hnb80 := NB168_169.out
             have hnc80 := NB169_168.out
             obtain ⟨hcz81_0, hcz81_1, hcz81_2, hfz81_0, hfz81_1, hfz81_2⟩ := mZ3 BK168.out
             go_wp2
             repeat (go_quiet (fail); try go_wp2)
             go_meet
             case rel => exact ⟨_, ((((rd_T35 y173 x9_2).f0.f0).toList == a1_0.toList)), mE, H', ⟨by have := HJ4.out; have := HK2.out; have := HJ56.out; first | omega | exact Nat.le_refl _⟩, ⟨mR HO_177000.out⟩, ⟨mK BK167.out⟩, ⟨mK BK168.out⟩, ⟨mK BK169.out⟩, ⟨mK BK176.out⟩, ⟨(mH4 HB.out GE167.out GE168.out GE169.out GE176.out)⟩⟩
            ·rw [if_neg c74] at H
             exact absurd H (by simp)
           ·rw [if_neg c73] at H
            have c73b0 := decide_eq_false c73
            clear c73
            (first | rw [c73b0] | (simp only [i64_w, i32_w]; rw [c73b0]) | skip)
            have H' := mS H
            clear H
            have hnb82 := NB176_167.out
            have hnc82 := NB167_176.out
            have hnb83 := NB176_168.out
            have hnc83 := NB168_176.out
            have hnb84 := NB176_169.out
            have hnc84 := NB169_176.out
            have hcz85_0 := mZ BK176.out 0
            have hfz85_0 := blk_frozen BK176.out 0
            go_wp2
            repeat (go_quiet (fail); try go_wp2)
            go_meet
            case rel => exact ⟨_, (false), mE, H', ⟨by have := HJ4.out; have := HK2.out; have := HJ56.out; first | omega | exact Nat.le_refl _⟩, ⟨mR HO_177000.out⟩, ⟨mK BK167.out⟩, ⟨mK BK168.out⟩, ⟨mK BK169.out⟩, ⟨mK BK176.out⟩, ⟨(mH4 HB.out GE167.out GE168.out GE169.out GE176.out)⟩⟩
          case rest =>
           clear HC72
           try clear c1
           try clear p1
           try clear q1
           try clear hx1
           try clear c2
           try clear p2
           try clear c3
           try clear c4
           try clear c5
           try clear c6
           try clear p6
           try clear c7
           try clear c8
           try clear c11
           try clear c12
           try clear c17
           try clear c18
           try clear p18
           try clear q18
           try clear hx18
           try clear c19
           try clear c21
           try clear c22
           try clear c24
           try clear c26
           try clear c27
           try clear c28
           try clear c31
           try clear c32
           try clear c35
           try clear c36
           try clear c37
           try clear c40
           try clear c41
           try clear c44
           try clear c45
           try clear c46
           try clear c49
           try clear c50
           try clear c51
           try clear c52
           try clear c54
           try clear c55
           try clear c58
           try clear c58b0
           try clear c59
           try clear c59b0
           try clear c60
           try clear c61
           try clear c62
           try clear c64
           try clear p64
           try clear c65
           try clear c67
           try clear c68
           try clear c69
           try clear c71
           try clear c73
           try clear c73b0
           try clear c74
           try clear c74b0
           try clear c75
           try clear c76
           try clear c77
           try clear c79
           try clear c80
           try clear c82
           try clear c83
           try clear c84
           try clear hcz13_0
           try clear hcz20_0
           try clear hcz29_0
           try clear hcz33_0
           try clear hcz33_1
           try clear hcz33_2
           try clear hcz38_0
           try clear hcz42_0
           try clear hcz42_1
           try clear hcz42_2
           try clear hcz47_0
           try clear hcz53_0
           try clear hcz56_0
           try clear hcz63_0
           try clear hcz66_0
           try clear hcz66_1
           try clear hcz66_2
           try clear hcz70_0
           try clear hcz78_0
           try clear hcz81_0
           try clear hcz81_1
           try clear hcz81_2
           try clear hcz85_0
           try clear hfz13_0
           try clear hfz20_0
           try clear hfz29_0
           try clear hfz33_0
           try clear hfz33_1
           try clear hfz33_2
           try clear hfz38_0
           try clear hfz42_0
           try clear hfz42_1
           try clear hfz42_2
           try clear hfz47_0
           try clear hfz53_0
           try clear hfz56_0
           try clear hfz63_0
           try clear hfz66_0
           try clear hfz66_1
           try clear hfz66_2
           try clear hfz70_0
           try clear hfz78_0
           try clear hfz81_0
           try clear hfz81_1
           try clear hfz81_2
           try clear hfz85_0
           try clear hx180_0
           try clear hx180_1
           try clear hx180_2
           try clear hx180_3
           try clear hx181_0
           try clear hx181_1
           try clear hx181_2
           try clear hx181_3
           try clear p1
           try clear p18
           try clear p180
           try clear p181
           try clear p2
           try clear q1
           try clear q18
           try clear q180
           try clear q181
           obtain ⟨kq, x65_71, rfl, HA, HJ71, HO_177000, BK167, BK168, BK169, BK176, HB⟩ := hcut
           cases kq with
           | zero => exact absurd HA.out (by simp [spec_MemPut.j3])
           | succ kj71 =>
            have H := HA.out
            clear HA
            simp only [spec_MemPut.j3] at H
            by_cases c86 : x65_71 = true
            ·subst c86
             have H1 := H
             rw [if_pos rfl] at H1
             clear H
             have H := H1
             clear H1
             by_cases c87 : 0 ≤ x9_2
             ·rw [if_pos c87] at H
              have c87b0 := decide_eq_true c87
              clear c87
              by_cases c88 : x9_2 < (y173.length : Int)
              ·rw [if_pos c88] at H
               have c88b0 := decide_eq_true c88
               clear c88
               obtain ⟨y182, hy182⟩ : ∃ y_ : List (S35), y_ = (y173.set (x9_2 : Int).toNat (⟨(⟨a1_0, a1_1, a1_2⟩ : S33), (rd_T35 y173 x9_2).f1⟩ : S35)) := ⟨_, rfl⟩
               replace H : (some (y182, true)) = some (r1, r2) := by first | (rw [hy182]; with_reducible exact H) | (have H2_ := (Option.bind_some _ _).symm.trans H; rw [hy182]; with_reducible exact H2_) | (have H2_ := (Option.bind_some _ _).symm.trans H; with_reducible exact H2_) | with_reducible exact H | (rw [hy182]; exact H) | exact H
               have Ny182 := mS hy182
               clear hy182
               simp only [Option.some.injEq, Prod.mk.injEq] at H
               obtain ⟨rfl, rfl⟩ := H
               have hnb90 := NB176_167.out
               have hnc90 := NB167_176.out
               have hnb91 := NB176_168.out
               have hnc91 := NB168_176.out
               have hnb92 := NB176_169.out
               have hnc92 := NB169_176.out
               have hcz93_0 := mZ BK176.out 0
               have hfz93_0 := blk_frozen BK176.out 0
               have hnb94 := NB168_167.out
               have hnc94 := NB167_168.out
               have hnb95 := NB168_169.out
               have hnc95 := NB169_168.out
               obtain ⟨hcz96_0, hcz96_1, hcz96_2, hfz96_0, hfz96_1, hfz96_2⟩ := mZ3 BK168.out
               have p89 : 0 ≤ (x9_2 : Int) := mD
               have q89 : (x9_2 : Int) < ((y173.length : Int) : Int) := mD
               obtain ⟨go89, co89, eo89, gb89, gl89, cl89, HG89⟩ := Kd.R_form HO_177000.out (by omega)
               (first | cases eo89 | (injection eo89 with ea_ en_ ec_; (first | subst ea_ | (injection ea_ with ea_; subst ea_)); subst ec_; clear en_))
               have GB89 := mS gb89
               have GG89 := mS HG89
               clear gb89 gl89 HG89
               obtain ⟨ce89, hcl89, hM89, hcc89, hfr89⟩ := Kd.R_elem HO_177000.out z35 (x9_2 : Int) p89 q89
               obtain rfl := k35_openM hM89
               have hx89_0 : wc.cell? ⟨go89, (x9_2 : Int).toNat * 4, none⟩ = some (.string ((rd_T35 y173 x9_2).f0.f0)) := hcc89 0 _ rfl
               have hx89_1 : wc.cell? ⟨go89, (x9_2 : Int).toNat * 4 + 1, none⟩ = some (.string ((rd_T35 y173 x9_2).f0.f1)) := hcc89 1 _ rfl
               have hx89_2 : wc.cell? ⟨go89, (x9_2 : Int).toNat * 4 + 2, none⟩ = some (.bool ((rd_T35 y173 x9_2).f0.f2)) := hcc89 2 _ rfl
               have hx89_3 : wc.cell? ⟨go89, (x9_2 : Int).toNat * 4 + 3, none⟩ = some (.int .i64 ((rd_T35 y173 x9_2).f1)) := hcc89 3 _ rfl
               have hf89_0 : wc.frozen? ⟨go89, (x9_2 : Int).toNat * 4, none⟩ = false := hfr89 0
               have hf89_1 : wc.frozen? ⟨go89, (x9_2 : Int).toNat * 4 + 1, none⟩ = false := hfr89 1
               have hf89_2 : wc.frozen? ⟨go89, (x9_2 : Int).toNat * 4 + 2, none⟩ = false := hfr89 2
               have hf89_3 : wc.frozen? ⟨go89, (x9_2 : Int).toNat * 4 + 3, none⟩ = false := hfr89 3
               clear hcl89 hcc89 hfr89 hM89
               replace p89 := eq_true p89
               replace q89 := eq_true q89
               have HX97 := mS (show Kd.R k35 35 wc w.heap.size (fun _ => True) (.slice (some ⟨go89, 0, none⟩) y173.length co15) y173 from (mR HO_177000.out))
               obtain ⟨ce97, hcl97, hM97, hcc97, hfr97⟩ := Kd.R_elem HX97.out z35 (x9_2 : Int) (mD) (by have h_ : (x9_2 : Int) < ((y173.length : Int) : Int) := mD; first | exact h_ | (have e_ := (Kd.R_reads' HO_177000.out).1; omega) | simpa using h_)
               obtain rfl := k35_openM hM97
               have HP97 := Kd.R_seg HX97.out (x9_2 : Int) (mD) (by have h_ : (x9_2 : Int) < ((y173.length : Int) : Int) := mD; first | exact h_ | (have e_ := (Kd.R_reads' HO_177000.out).1; omega) | simpa using h_) (seg := [.string a1_0, .string a1_1, .bool a1_2]) (j := 0) hcl97 hcc97 (show 3 ≤ 4 from by decide) (x' := (⟨(⟨a1_0, a1_1, a1_2⟩ : S33), (rd_T35 y173 x9_2).f1⟩ : S35)) (k35_mkM _ _ _ (⟨(⟨a1_0, a1_1, a1_2⟩ : S33), (rd_T35 y173 x9_2).f1⟩ : S35) ) (fun _ hk => hk)
               have hx97_0 := hcc97 0 _ rfl
               (try simp only [show (k35).sz = 4 from rfl, Nat.mul_one, Nat.add_zero] at hx97_0)
               have hf97_0 := hfr97 0
               (try simp only [show (k35).sz = 4 from rfl, Nat.mul_one, Nat.add_zero] at hf97_0)
               have hx97_1 := hcc97 1 _ rfl
               (try simp only [show (k35).sz = 4 from rfl, Nat.mul_one, Nat.add_zero] at hx97_1)
               have hf97_1 := hfr97 1
               (try simp only [show (k35).sz = 4 from rfl, Nat.mul_one, Nat.add_zero] at hf97_1)
               have hx97_2 := hcc97 2 _ rfl
               (try simp only [show (k35).sz = 4 from rfl, Nat.mul_one, Nat.add_zero] at hx97_2)
               have hf97_2 := hfr97 2
               (try simp only [show (k35).sz = 4 from rfl, Nat.mul_one, Nat.add_zero] at hf97_2)
               clear hcl97 hcc97 hfr97 hM97
               go_wp2_with (first | ((with_reducible refine gate_store (t := 33) (p := 71) rfl ?_); (try (rw [drewN_self wc]; generalize hq_ : World.drewN wc _ = wc; have n0_ := mS (Kd.R_at hq_ HO_177000.out); have n1_ := mS (blk_at hq_ BK167.out); have n2_ := mS (blk_at hq_ BK168.out); have n3_ := mS (blk_at hq_ BK169.out); have n4_ := mS (blk_at hq_ BK176.out); have n5_ := mS (below_at hq_ HB.out); clear hq_ HO_177000 BK167 BK168 BK169 BK176 HB; have HO_177000 := n0_; have BK167 := n1_; have BK168 := n2_; have BK169 := n3_; have BK176 := n4_; have HB := n5_; clear n0_ n1_ n2_ n3_ n4_ n5_; (try (have HX97 := mS (show Kd.R k35 35 wc w.heap.size (fun _ => True) (.slice (some ⟨go89, 0, none⟩) y173.length co15) y173 from (mR HO_177000.out)))); (try (obtain ⟨ce97, hcl97, hM97, hcc97, hfr97⟩ := Kd.R_elem HX97.out z35 (x9_2 : Int) (mD) (by have h_ : (x9_2 : Int) < ((y173.length : Int) : Int) := mD; first | exact h_ | (have e_ := (Kd.R_reads' HO_177000.out).1; omega) | simpa using h_))); (try (obtain rfl := k35_openM hM97)); (try (have HP97 := Kd.R_seg HX97.out (x9_2 : Int) (mD) (by have h_ : (x9_2 : Int) < ((y173.length : Int) : Int) := mD; first | exact h_ | (have e_ := (Kd.R_reads' HO_177000.out).1; omega) | simpa using h_) (seg := [.string a1_0, .string a1_1, .bool a1_2]) (j := 0) hcl97 hcc97 (show 3 ≤ 4 from by decide) (x' := (⟨(⟨a1_0, a1_1, a1_2⟩ : S33), (rd_T35 y173 x9_2).f1⟩ : S35)) (k35_mkM _ _ _ (⟨(⟨a1_0, a1_1, a1_2⟩ : S33), (rd_T35 y173 x9_2).f1⟩ : S35) ) (fun _ hk => hk))); (try (have hx97_0 := hcc97 0 _ rfl)); (try (try simp only [show (k35).sz = 4 from rfl, Nat.mul_one, Nat.add_zero] at hx97_0)); (try (have hf97_0 := hfr97 0)); (try (try simp only [show (k35).sz = 4 from rfl, Nat.mul_one, Nat.add_zero] at hf97_0)); (try (have hx97_1 := hcc97 1 _ rfl)); (try (try simp only [show (k35).sz = 4 from rfl, Nat.mul_one, Nat.add_zero] at hx97_1)); (try (have hf97_1 := hfr97 1)); (try (try simp only [show (k35).sz = 4 from rfl, Nat.mul_one, Nat.add_zero] at hf97_1)); (try (have hx97_2 := hcc97 2 _ rfl)); (try (try simp only [show (k35).sz = 4 from rfl, Nat.mul_one, Nat.add_zero] at hx97_2)); (try (have hf97_2 := hfr97 2)); (try (try simp only [show (k35).sz = 4 from rfl, Nat.mul_one, Nat.add_zero] at hf97_2)); (try (clear hcl97 hcc97 hfr97 hM97)))); refine store_event (t := 33) (p := 71) (v := ?vo_w98) (w1 := (((wc.setCell ⟨go89, (x9_2 : Int).toNat * 4, none⟩ (.string a1_0)).setCell ⟨go89, (x9_2 : Int).toNat * 4 + 1, none⟩ (.string a1_1)).setCell ⟨go89, (x9_2 : Int).toNat * 4 + 2, none⟩ (.bool a1_2))) ?hg ?ho ?hn ?hr ?_; (case ho => rfl); (case hg => rfl); (case hn => rfl); (case hr => first | (go_simp; done) | (go_simp; rfl)); intro w98 hw; have hg : wc.grownBy w98 (some go89) := (by rw [hw]; exact HP97.2); have hp_ : Kd.R k35 35 w98 w.heap.size (fun _ => True) (.slice (some ⟨go89, 0, none⟩) y173.length co15) y182 := (by rw [hw, Ny182.out]; exact HP97.1); clear HP97; replace BK167 := mS (blk_grown (g := gb167) (o := .cells #[.slice A0_0 l0_0.length c0_0] 26 (0, 0)) (mK BK167.out) hg (Kd.R_ne HO_177000.out BK167.out (by decide))); replace BK168 := mS (blk_grown (g := gb168) (o := .cells #[.string a1_0, .string a1_1, .bool a1_2] 33 (0, 0)) (mK BK168.out) hg (Kd.R_ne HO_177000.out BK168.out (by decide))); replace BK169 := mS (blk_grown (g := gb169) (o := .cells #[.slice none 0 0] 26 (0, 0)) (mK BK169.out) hg (Kd.R_ne HO_177000.out BK169.out (by decide))); replace BK176 := mS (blk_grown (g := gb176) (o := .cells #[.slice (some ⟨go89, 0, none⟩) y173.length co15] 26 (0, 0)) (mK BK176.out) hg (Kd.R_ne HO_177000.out BK176.out (by decide))); replace HO_177000 := mS (hp_); replace HB := mS ((by rw [hw]; exact below_set (below_set (below_set (HB.out) GB89.out) GB89.out) GB89.out : Below w.heap.size w w98)); clear hg hw hp_; have hcz99_0 := mZ BK176.out 0; have hfz99_0 := blk_frozen BK176.out 0; have hnb100 := NB169_167.out; have hnc100 := NB167_169.out; have hcz101_0 := mZ BK169.out 0; have hfz101_0 := blk_frozen BK169.out 0))
               repeat (go_quiet (first | ((with_reducible refine gate_store (t := 33) (p := 71) rfl ?_); (try (rw [drewN_self wc]; generalize hq_ : World.drewN wc _ = wc; have n0_ := mS (Kd.R_at hq_ HO_177000.out); have n1_ := mS (blk_at hq_ BK167.out); have n2_ := mS (blk_at hq_ BK168.out); have n3_ := mS (blk_at hq_ BK169.out); have n4_ := mS (blk_at hq_ BK176.out); have n5_ := mS (below_at hq_ HB.out); clear hq_ HO_177000 BK167 BK168 BK169 BK176 HB; have HO_177000 := n0_; have BK167 := n1_; have BK168 := n2_; have BK169 := n3_; have BK176 := n4_; have HB := n5_; clear n0_ n1_ n2_ n3_ n4_ n5_; (try (have HX97 := mS (show Kd.R k35 35 wc w.heap.size (fun _ => True) (.slice (some ⟨go89, 0, none⟩) y173.length co15) y173 from (mR HO_177000.out)))); (try (obtain ⟨ce97, hcl97, hM97, hcc97, hfr97⟩ := Kd.R_elem HX97.out z35 (x9_2 : Int) (mD) (by have h_ : (x9_2 : Int) < ((y173.length : Int) : Int) := mD; first | exact h_ | (have e_ := (Kd.R_reads' HO_177000.out).1; omega) | simpa using h_))); (try (obtain rfl := k35_openM hM97)); (try (have HP97 := Kd.R_seg HX97.out (x9_2 : Int) (mD) (by have h_ : (x9_2 : Int) < ((y173.length : Int) : Int) := mD; first | exact h_ | (have e_ := (Kd.R_reads' HO_177000.out).1; omega) | simpa using h_) (seg := [.string a1_0, .string a1_1, .bool a1_2]) (j := 0) hcl97 hcc97 (show 3 ≤ 4 from by decide) (x' := (⟨(⟨a1_0, a1_1, a1_2⟩ : S33), (rd_T35 y173 x9_2).f1⟩ : S35)) (k35_mkM _ _ _ (⟨(⟨a1_0, a1_1, a1_2⟩ : S33), (rd_T35 y173 x9_2).f1⟩ : S35) ) (fun _ hk => hk))); (try (have hx97_0 := hcc97 0 _ rfl)); (try (try simp only [show (k35).sz = 4 from rfl, Nat.mul_one, Nat.add_zero] at hx97_0)); (try (have hf97_0 := hfr97 0)); (try (try simp only [show (k35).sz = 4 from rfl, Nat.mul_one, Nat.add_zero] at hf97_0)); (try (have hx97_1 := hcc97 1 _ rfl)); (try (try simp only [show (k35).sz = 4 from rfl, Nat.mul_one, Nat.add_zero] at hx97_1)); (try (have hf97_1 := hfr97 1)); (try (try simp only [show (k35).sz = 4 from rfl, Nat.mul_one, Nat.add_zero] at hf97_1)); (try (have hx97_2 := hcc97 2 _ rfl)); (try (try simp only [show (k35).sz = 4 from rfl, Nat.mul_one, Nat.add_zero] at hx97_2)); (try (have hf97_2 := hfr97 2)); (try (try simp only [show (k35).sz = 4 from rfl, Nat.mul_one, Nat.add_zero] at hf97_2)); (try (clear hcl97 hcc97 hfr97 hM97)))); refine store_event (t := 33) (p := 71) (v := ?vo_w98) (w1 := (((wc.setCell ⟨go89, (x9_2 : Int).toNat * 4, none⟩ (.string a1_0)).setCell ⟨go89, (x9_2 : Int).toNat * 4 + 1, none⟩ (.string a1_1)).setCell ⟨go89, (x9_2 : Int).toNat * 4 + 2, none⟩ (.bool a1_2))) ?hg ?ho ?hn ?hr ?_; (case ho => rfl); (case hg => rfl); (case hn => rfl); (case hr => first | (go_simp; done) | (go_simp; rfl)); intro w98 hw; have hg : wc.grownBy w98 (some go89) := (by rw [hw]; exact HP97.2); have hp_ : Kd.R k35 35 w98 w.heap.size (fun _ => True) (.slice (some ⟨go89, 0, none⟩) y173.length co15) y182 := (by rw [hw, Ny182.out]; exact HP97.1); clear HP97; replace BK167 := mS (blk_grown (g := gb167) (o := .cells #[.slice A0_0 l0_0.length c0_0] 26 (0, 0)) (mK BK167.out) hg (Kd.R_ne HO_177000.out BK167.out (by decide))); replace BK168 := mS (blk_grown (g := gb168) (o := .cells #[.string a1_0, .string a1_1, .bool a1_2] 33 (0, 0)) (mK BK168.out) hg (Kd.R_ne HO_177000.out BK168.out (by decide))); replace BK169 := mS (blk_grown (g := gb169) (o := .cells #[.slice none 0 0] 26 (0, 0)) (mK BK169.out) hg (Kd.R_ne HO_177000.out BK169.out (by decide))); replace BK176 := mS (blk_grown (g := gb176) (o := .cells #[.slice (some ⟨go89, 0, none⟩) y173.length co15] 26 (0, 0)) (mK BK176.out) hg (Kd.R_ne HO_177000.out BK176.out (by decide))); replace HO_177000 := mS (hp_); replace HB := mS ((by rw [hw]; exact below_set (below_set (below_set (HB.out) GB89.out) GB89.out) GB89.out : Below w.heap.size w w98)); clear hg hw hp_; have hcz99_0 := mZ BK176.out 0; have hfz99_0 := blk_frozen BK176.out 0; have hnb100 := NB169_167.out; have hnc100 := NB167_169.out; have hcz101_0 := mZ BK169.out 0; have hfz101_0 := blk_frozen BK169.out 0)); try go_wp2_with (first | ((with_reducible refine gate_store (t := 33) (p := 71) rfl ?_); (try (rw [drewN_self wc]; generalize hq_ : World.drewN wc _ = wc; have n0_ := mS (Kd.R_at hq_ HO_177000.out); have n1_ := mS (blk_at hq_ BK167.out); have n2_ := mS (blk_at hq_ BK168.out); have n3_ := mS (blk_at hq_ BK169.out); have n4_ := mS (blk_at hq_ BK176.out); have n5_ := mS (below_at hq_ HB.out); clear hq_ HO_177000 BK167 BK168 BK169 BK176 HB; have HO_177000 := n0_; have BK167 := n1_; have BK168 := n2_; have BK169 := n3_; have BK176 := n4_; have HB := n5_; clear n0_ n1_ n2_ n3_ n4_ n5_; (try (have HX97 := mS (show Kd.R k35 35 wc w.heap.size (fun _ => True) (.slice (some ⟨go89, 0, none⟩) y173.length co15) y173 from (mR HO_177000.out)))); (try (obtain ⟨ce97, hcl97, hM97, hcc97, hfr97⟩ := Kd.R_elem HX97.out z35 (x9_2 : Int) (mD) (by have h_ : (x9_2 : Int) < ((y173.length : Int) : Int) := mD; first | exact h_ | (have e_ := (Kd.R_reads' HO_177000.out).1; omega) | simpa using h_))); (try (obtain rfl := k35_openM hM97)); (try (have HP97 := Kd.R_seg HX97.out (x9_2 : Int) (mD) (by have h_ : (x9_2 : Int) < ((y173.length : Int) : Int) := mD; first | exact h_ | (have e_ := (Kd.R_reads' HO_177000.out).1; omega) | simpa using h_) (seg := [.string a1_0, .string a1_1, .bool a1_2]) (j := 0) hcl97 hcc97 (show 3 ≤ 4 from by decide) (x' := (⟨(⟨a1_0, a1_1, a1_2⟩ : S33), (rd_T35 y173 x9_2).f1⟩ : S35)) (k35_mkM _ _ _ (⟨(⟨a1_0, a1_1, a1_2⟩ : S33), (rd_T35 y173 x9_2).f1⟩ : S35) ) (fun _ hk => hk))); (try (have hx97_0 := hcc97 0 _ rfl)); (try (try simp only [show (k35).sz = 4 from rfl, Nat.mul_one, Nat.add_zero] at hx97_0)); (try (have hf97_0 := hfr97 0)); (try (try simp only [show (k35).sz = 4 from rfl, Nat.mul_one, Nat.add_zero] at hf97_0)); (try (have hx97_1 := hcc97 1 _ rfl)); (try (try simp only [show (k35).sz = 4 from rfl, Nat.mul_one, Nat.add_zero] at hx97_1)); (try (have hf97_1 := hfr97 1)); (try (try simp only [show (k35).sz = 4 from rfl, Nat.mul_one, Nat.add_zero] at hf97_1)); (try (have hx97_2 := hcc97 2 _ rfl)); (try (try simp only [show (k35).sz = 4 from rfl, Nat.mul_one, Nat.add_zero] at hx97_2)); (try (have hf97_2 := hfr97 2)); (try (try simp only [show (k35).sz = 4 from rfl, Nat.mul_one, Nat.add_zero] at hf97_2)); (try (clear hcl97 hcc97 hfr97 hM97)))); refine store_event (t := 33) (p := 71) (v := ?vo_w98) (w1 := (((wc.setCell ⟨go89, (x9_2 : Int).toNat * 4, none⟩ (.string a1_0)).setCell ⟨go89, (x9_2 : Int).toNat * 4 + 1, none⟩ (.string a1_1)).setCell ⟨go89, (x9_2 : Int).toNat * 4 + 2, none⟩ (.bool a1_2))) ?hg ?ho ?hn ?hr ?_; (case ho => rfl); (case hg => rfl); (case hn => rfl); (case hr => first | (go_simp; done) | (go_simp; rfl)); intro w98 hw; have hg : wc.grownBy w98 (some go89) := (by rw [hw]; exact HP97.2); have hp_ : Kd.R k35 35 w98 w.heap.size (fun _ => True) (.slice (some ⟨go89, 0, none⟩) y173.length co15) y182 := (by rw [hw, Ny182.out]; exact HP97.1); clear HP97; replace BK167 := mS (blk_grown (g := gb167) (o := .cells #[.slice A0_0 l0_0.length c0_0] 26 (0, 0)) (mK BK167.out) hg (Kd.R_ne HO_177000.out BK167.out (by decide))); replace BK168 := mS (blk_grown (g := gb168) (o := .cells #[.string a1_0, .string a1_1, .bool a1_2] 33 (0, 0)) (mK BK168.out) hg (Kd.R_ne HO_177000.out BK168.out (by decide))); replace BK169 := mS (blk_grown (g := gb169) (o := .cells #[.slice none 0 0] 26 (0, 0)) (mK BK169.out) hg (Kd.R_ne HO_177000.out BK169.out (by decide))); replace BK176 := mS (blk_grown (g := gb176) (o := .cells #[.slice (some ⟨go89, 0, none⟩) y173.length co15] 26 (0, 0)) (mK BK176.out) hg (Kd.R_ne HO_177000.out BK176.out (by decide))); replace HO_177000 := mS (hp_); replace HB := mS ((by rw [hw]; exact below_set (below_set (below_set (HB.out) GB89.out) GB89.out) GB89.out : Below w.heap.size w w98)); clear hg hw hp_; have hcz99_0 := mZ BK176.out 0; have hfz99_0 := blk_frozen BK176.out 0; have hnb100 := NB169_167.out; have hnc100 := NB167_169.out; have hcz101_0 := mZ BK169.out 0; have hfz101_0 := blk_frozen BK169.out 0)))
               refine bodyPost_ret (results_ct rfl _ _ gb169 26 #[.slice (some ⟨go89, 0, none⟩) y173.length co15] (0, 0) _ rfl (by refine mK ?_; refine blk_put (cs := #[.slice none 0 0]) ?_ 0 _ rfl; refine mK ?_; exact BK169.out) Try.underlying26 rfl (by kernel_rfl)) rfl ?_
               exact ⟨_, mEw, by refine mR ?_; exact Kd.R_mono (Kd.R_far (p := ⟨gb169, 0, none⟩) (Kd.R_types HO_177000.out BK169.out (by decide)) (fun _ hk => hk.2) (.slice (some ⟨go89, 0, none⟩) y173.length co15)) (fun _ hk => trivial), (mH4 HB.out GE167.out GE168.out GE169.out GE176.out)⟩
              ·rw [if_neg c88] at H
               exact absurd H (by simp)
             ·rw [if_neg c87] at H
              exact absurd H (by simp)
            ·replace c86 := Bool.eq_false_iff.mpr c86
             subst c86
             have H1 := H
             rw [if_neg (show ¬ (false = true) by decide)] at H1
             clear H
             have H := H1
             clear H1
             by_cases c102 : (y173.length : Int) = 60
             ·rw [if_pos c102] at H
              have c102b0 : ((y173.length : Int) == 60) = true := beq_iff_eq.mpr c102
              have c102b1 : ((y173.length : Int) != 60) = false := bne_eq_false_iff_eq.mpr c102
              clear c102
              simp only [Option.some.injEq, Prod.mk.injEq] at H
              obtain ⟨rfl, rfl⟩ := H
              have hnb103 := NB176_167.out
              have hnc103 := NB167_176.out
              have hnb104 := NB176_168.out
              have hnc104 := NB168_176.out
              have hnb105 := NB176_169.out
              have hnc105 := NB169_176.out
              have hcz106_0 := mZ BK176.out 0
              have hfz106_0 := blk_frozen BK176.out 0
              have hnb107 := NB169_167.out
              have hnc107 := NB167_169.out
              have hnb108 := NB169_168.out
              have hnc108 := NB168_169.out
              have hcz109_0 := mZ BK169.out 0
              have hfz109_0 := blk_frozen BK169.out 0
              go_wp2
              repeat (go_quiet (fail); try go_wp2)
              refine bodyPost_ret (results_ct rfl _ _ gb169 26 #[.slice Ao15 y173.length co15] (0, 0) _ rfl (by refine mK ?_; refine blk_put (cs := #[.slice none 0 0]) ?_ 0 _ rfl; refine mK ?_; exact BK169.out) Try.underlying26 rfl (by kernel_rfl)) rfl ?_
              exact ⟨_, mEw, by refine mR ?_; exact Kd.R_mono (Kd.R_far (p := ⟨gb169, 0, none⟩) (Kd.R_types HO_177000.out BK169.out (by decide)) (fun _ hk => hk.2) (.slice Ao15 y173.length co15)) (fun _ hk => trivial), (mH4 HB.out GE167.out GE168.out GE169.out GE176.out)⟩
             ·rw [if_neg c102] at H
              have c102b0 : ((y173.length : Int) == 60) = false := beq_eq_false_iff_ne.mpr c102
              have c102b1 : ((y173.length : Int) != 60) = true := bne_iff_ne.mpr c102
              obtain ⟨y183, hy183⟩ : ∃ y_ : List (S35), y_ = (([] : List (S35))) := ⟨_, rfl⟩
              replace H : (if 0 ≤ x9_2 then (if x9_2 ≤ (y173.length : Int) then ((some (y173.take (x9_2 : Int).toNat : List (S35))).bind fun y186 => (if y183.length + y186.length < 2932031007402 then ((some (y183 ++ y186 : List (S35))).bind fun y190 => (if y190.length < 2932031007402 then ((some (y190 ++ [(⟨(⟨a1_0, a1_1, a1_2⟩ : S33), a2⟩ : S35)] : List (S35))).bind fun y193 => ((some (y173.drop (x9_2 : Int).toNat : List (S35))).bind fun y196 => (if y193.length + y196.length < 2932031007402 then (some ((y193 ++ y196), true)) else (none)))) else (none))) else (none))) else (none)) else (none)) = some (r1, r2) := by first | (rw [hy183]; with_reducible exact H) | (have H2_ := (Option.bind_some _ _).symm.trans H; rw [hy183]; with_reducible exact H2_) | (have H2_ := (Option.bind_some _ _).symm.trans H; with_reducible exact H2_) | with_reducible exact H | (rw [hy183]; exact H) | exact H
              have Ny183 := mS hy183
              clear hy183
              by_cases c110 : 0 ≤ x9_2
              ·rw [if_pos c110] at H
               have c110b0 := eq_true c110
               have c110b1 := decide_eq_true c110
               clear c110
               by_cases c111 : x9_2 ≤ (y173.length : Int)
               ·rw [if_pos c111] at H
                have c111b0 := eq_true c111
                have c111b1 := decide_eq_true c111
                clear c111
                obtain ⟨y186, hy186⟩ : ∃ y_ : List (S35), y_ = (y173.take (x9_2 : Int).toNat) := ⟨_, rfl⟩
                replace H : (if y183.length + y186.length < 2932031007402 then ((some (y183 ++ y186 : List (S35))).bind fun y190 => (if y190.length < 2932031007402 then ((some (y190 ++ [(⟨(⟨a1_0, a1_1, a1_2⟩ : S33), a2⟩ : S35)] : List (S35))).bind fun y193 => ((some (y173.drop (x9_2 : Int).toNat : List (S35))).bind fun y196 => (if y193.length + y196.length < 2932031007402 then (some ((y193 ++ y196), true)) else (none)))) else (none))) else (none)) = some (r1, r2) := by first | (rw [hy186]; with_reducible exact H) | (have H2_ := (Option.bind_some _ _).symm.trans H; rw [hy186]; with_reducible exact H2_) | (have H2_ := (Option.bind_some _ _).symm.trans H; with_reducible exact H2_) | with_reducible exact H | (rw [hy186]; exact H) | exact H
                have Ny186 := mS hy186
                clear hy186
                by_cases c112 : y183.length + y186.length < 2932031007402
                ·rw [if_pos c112] at H
                 have LMc112 := mS c112
                 clear c112
                 obtain ⟨y190, hy190⟩ : ∃ y_ : List (S35), y_ = (y183 ++ y186) := ⟨_, rfl⟩
                 replace H : (if y190.length < 2932031007402 then ((some (y190 ++ [(⟨(⟨a1_0, a1_1, a1_2⟩ : S33), a2⟩ : S35)] : List (S35))).bind fun y193 => ((some (y173.drop (x9_2 : Int).toNat : List (S35))).bind fun y196 => (if y193.length + y196.length < 2932031007402 then (some ((y193 ++ y196), true)) else (none)))) else (none)) = some (r1, r2) := by first | (rw [hy190]; with_reducible exact H) | (have H2_ := (Option.bind_some _ _).symm.trans H; rw [hy190]; with_reducible exact H2_) | (have H2_ := (Option.bind_some _ _).symm.trans H; with_reducible exact H2_) | with_reducible exact H | (rw [hy190]; exact H) | exact H
                 have Ny190 := mS hy190
                 clear hy190
                 by_cases c113 : y190.length < 2932031007402
                 ·rw [if_pos c113] at H
                  have LMc113 := mS c113
                  clear c113
                  obtain ⟨y193, hy193⟩ : ∃ y_ : List (S35), y_ = (y190 ++ [(⟨(⟨a1_0, a1_1, a1_2⟩ : S33), a2⟩ : S35)]) := ⟨_, rfl⟩
                  replace H : ((some (y173.drop (x9_2 : Int).toNat : List (S35))).bind fun y196 => (if y193.length + y196.length < 2932031007402 then (some ((y193 ++ y196), true)) else (none))) = some (r1, r2) := by first | (rw [hy193]; with_reducible exact H) | (have H2_ := (Option.bind_some _ _).symm.trans H; rw [hy193]; with_reducible exact H2_) | (have H2_ := (Option.bind_some _ _).symm.trans H; with_reducible exact H2_) | with_reducible exact H | (rw [hy193]; exact H) | exact H
                  have Ny193 := mS hy193
                  clear hy193
                  have c114b0 := eq_true (mD : 0 ≤ x9_2)
                  have c115b0 := eq_true (mD : x9_2 ≤ (y173.length : Int))
                  obtain ⟨y196, hy196⟩ : ∃ y_ : List (S35), y_ = (y173.drop (x9_2 : Int).toNat) := ⟨_, rfl⟩
                  replace H : (if y193.length + y196.length < 2932031007402 then (some ((y193 ++ y196), true)) else (none)) = some (r1, r2) := by first | (rw [hy196]; with_reducible exact H) | (have H2_ := (Option.bind_some _ _).symm.trans H; rw [hy196]; with_reducible exact H2_) | (have H2_ := (Option.bind_some _ _).symm.trans H; with_reducible exact H2_) | with_reducible exact H | (rw [hy196]; exact H) | exact H
                  have Ny196 := mS hy196
                  clear hy196
                  by_cases c116 : y193.length + y196.length < 2932031007402
                  ·rw [if_pos c116] at H
                   have LMc116 := mS c116
                   clear c116
                   obtain ⟨y200, hy200⟩ : ∃ y_ : List (S35), y_ = (y193 ++ y196) := ⟨_, rfl⟩
                   replace H : (some (y200, true)) = some (r1, r2) := by first | (rw [hy200]; with_reducible exact H) | (have H2_ := (Option.bind_some _ _).symm.trans H; rw [hy200]; with_reducible exact H2_) | (have H2_ := (Option.bind_some _ _).symm.trans H; with_reducible exact H2_) | with_reducible exact H | (rw [hy200]; exact H) | exact H
                   have Ny200 := mS hy200
                   clear hy200
                   simp only [Option.some.injEq, Prod.mk.injEq] at H
                   obtain ⟨rfl, rfl⟩ := H
                   have hnb117 := NB176_167.out
                   have hnc117 := NB167_176.out
                   have hnb118 := NB176_168.out
                   have hnc118 := NB168_176.out
                   have hnb119 := NB176_169.out
                   have hnc119 := NB169_176.out
                   have hcz120_0 := mZ BK176.out 0
                   have hfz120_0 := blk_frozen BK176.out 0
                   go_wp2_with (first | ((with_reducible refine gate_dst (N := 78) rfl ?_); refine Kd.R_lit k35 _ 35 ?hg (N := 78) ?hd (xs := ([] : List (S35))) (inner := []) (ok := fun _ => True) (okp := fun _ => True) ?hr ?hp (fun _ hk => hk) trivial (Below.refl _ _) (Nat.le_refl _) (by simp) ?_; (case hd => rfl); (case hg => rfl); (case hr => first | (go_simp; done) | (go_simp; rfl)); (case hp => exact (Reps.none _ _)); intro v184 w121 ho122 hb hg_ hnew_; clear hg_ hnew_; (first | rw [← Ny183.out] at ho122 | (simp only [Int.reduceToNat] at ho122; rw [← Ny183.out] at ho122)); have HO185 := mS (Kd.R_lower (Kd.R_new' ho122 (Kd.R_lt (mR HO_177000.out))) (below_size (mH4 HB.out GE167.out GE168.out GE169.out GE176.out))); replace HO_177000 := mS (Kd.R_elder' (mR HO_177000.out) (Kd.R_base ho122) hb); replace BK167 := mB BK167 hb; replace BK168 := mB BK168 hb; replace BK169 := mB BK169 hb; replace BK176 := mB BK176 hb; replace HB := mS (below_step (mH4 HB.out GE167.out GE168.out GE169.out GE176.out) hb); clear hb ho122; have hcz123_0 := mZ BK176.out 0; have hfz123_0 := blk_frozen BK176.out 0; have q124 : (x9_2 : Int) ≤ ((y173.length : Int) : Int) := mD; obtain ⟨i0124, hi0124, _, hsz124, _⟩ := info_parts info35; have hroom124 : y173.length ≤ co15 := (Kd.R_reads' HO_177000.out).2.1; have hC124 : Kd.C k35 _ Ao15 y173.length y173 := (Kd.R_reads' HO_177000.out).2.2; have hcut124 := cut_to (P := Try.prog) 24 35 .i64 Try.underlying24 hi0124 Ao15 y173.length co15 x9_2 (mD) q124 hroom124; have hr124 := Kd.C_take (m := (x9_2 : Int).toNat) hC124 (by omega); have hy124 : y186.length = (x9_2 : Int).toNat := (by rw [Ny186.out, List.length_take]; omega); rw [← Ny186.out] at hr124; rw [← hy124] at hcut124; have HR189 := mS hr124; have HC189 := mS (show y186.length ≤ co15 from by omega); clear hr124 hC124 hroom124 hi0124 hsz124; have KY124 := mS hy124; clear hy124; have KL124 := mS (show (x9_2 : Int).toNat ≤ y173.length from by omega); replace q124 := eq_true q124) | ((with_reducible refine gate_builtin (b := .append) (xs := #[.tmp 78, .tmp 82]) rfl ?_); at_builtin; refine Kd.R_append_rows k35 (w0 := w) w.heap.size rfl (.tmp 78) (.tmp 82) 24 35 (.agg #[(.string ⟨#[]⟩), (.string ⟨#[]⟩), (.bool false), (.int .i64 0)]) 48 rfl Try.underlying24 info35 rfl (by decide) (by omega) v184 y183 y186 _ _ _ (fun k_ => some k_ ≠ (.slice Ao15 y173.length co15 : Value).ownBlock) (fun _ => False) rfl rfl ?aO ?aR (fun _ _ h => h) (fun _ h => h.elim) ?aF ?aB ?aS ?aL ?_; (case aR => exact mC (mC HR189.out)); (case aB => exact (mH4 HB.out GE167.out GE168.out GE169.out GE176.out)); (case aF => exact (fun k_ hk => Kd.fresh' (Kd.R_lt (mR HO_177000.out)) k_ hk)); (case aO => exact (by refine mR ?_; exact Kd.R_mono HO185.out (fun _ hk => hk.2))); (case aS => exact (below_size (mH4 HB.out GE167.out GE168.out GE169.out GE176.out))); (case aL => have := LMc112.out; omega); intro v191 w125 ho hb hg hat; rw [← Ny190.out] at ho; replace BK167 := mS (blk_grown (g := gb167) (o := .cells #[.slice A0_0 l0_0.length c0_0] 26 (0, 0)) (mK BK167.out) hg (Kd.R_ne HO185.out BK167.out (by decide))); replace BK168 := mS (blk_grown (g := gb168) (o := .cells #[.string a1_0, .string a1_1, .bool a1_2] 33 (0, 0)) (mK BK168.out) hg (Kd.R_ne HO185.out BK168.out (by decide))); replace BK169 := mS (blk_grown (g := gb169) (o := .cells #[.slice none 0 0] 26 (0, 0)) (mK BK169.out) hg (Kd.R_ne HO185.out BK169.out (by decide))); replace BK176 := mS (blk_grown (g := gb176) (o := .cells #[.slice Ao15 y173.length co15] 26 (0, 0)) (mK BK176.out) hg (Kd.R_ne HO185.out BK176.out (by decide))); replace HB := mS (hb); replace HR189 := mS ((show Kd.C k35 w125 Ao15 y186.length y186 from by rw [Ny186.out]; exact Kd.C_take (m := (x9_2 : Int).toNat) ((Kd.R_reads' (Kd.R_after (ok := (fun _ => True)) (mR HO_177000.out) hg hat)).2.2) KL124.out)); replace HO_177000 := mS (Kd.R_after (ok := (fun _ => True)) (mR HO_177000.out) hg hat); have HO192 := mS (ho); clear HO185; clear ho hb hg hat; have hnb126 := NB168_167.out; have hnc126 := NB167_168.out; have hnb127 := NB168_169.out; have hnc127 := NB169_168.out; obtain ⟨hcz128_0, hcz128_1, hcz128_2, hfz128_0, hfz128_1, hfz128_2⟩ := mZ3 BK168.out) | ((with_reducible refine gate_builtin (b := .append) (xs := #[.tmp 84, .tmp 88]) rfl ?_); at_builtin; refine Kd.R_append k35 (w0 := w) w.heap.size rfl (.tmp 84) (.tmp 88) 24 35 (.agg #[(.string ⟨#[]⟩), (.string ⟨#[]⟩), (.bool false), (.int .i64 0)]) 48 rfl Try.underlying24 info35 rfl (by decide) (by omega) v191 y190 (⟨(⟨a1_0, a1_1, a1_2⟩ : S33), a2⟩ : S35) [.string a1_0, .string a1_1, .bool a1_2, .int .i64 a2] (fun k_ => some k_ ≠ (.slice Ao15 y173.length co15 : Value).ownBlock) (fun _ => False) rfl rfl ?aP (fun _ hk => hk.elim) ?aF ?aO ?aB ?aS ?aL ?_; (case aP => exact k35_mkM _ _ _ (⟨(⟨a1_0, a1_1, a1_2⟩ : S33), a2⟩ : S35)); (case aB => exact (mH4 HB.out GE167.out GE168.out GE169.out GE176.out)); (case aF => exact (fun k_ hk => Kd.fresh' (Kd.R_lt (mR HO_177000.out)) k_ hk)); (case aO => exact (mR HO192.out)); (case aS => exact (below_size (mH4 HB.out GE167.out GE168.out GE169.out GE176.out))); (case aL => have := LMc113.out; omega); intro v194 w129 ho hb hg hat; rw [← Ny193.out] at ho; replace BK167 := mS (blk_grown (g := gb167) (o := .cells #[.slice A0_0 l0_0.length c0_0] 26 (0, 0)) (mK BK167.out) hg (Kd.R_ne HO192.out BK167.out (by decide))); replace BK168 := mS (blk_grown (g := gb168) (o := .cells #[.string a1_0, .string a1_1, .bool a1_2] 33 (0, 0)) (mK BK168.out) hg (Kd.R_ne HO192.out BK168.out (by decide))); replace BK169 := mS (blk_grown (g := gb169) (o := .cells #[.slice none 0 0] 26 (0, 0)) (mK BK169.out) hg (Kd.R_ne HO192.out BK169.out (by decide))); replace BK176 := mS (blk_grown (g := gb176) (o := .cells #[.slice Ao15 y173.length co15] 26 (0, 0)) (mK BK176.out) hg (Kd.R_ne HO192.out BK176.out (by decide))); replace HB := mS (hb); replace HR189 := mS ((show Kd.C k35 w129 Ao15 y186.length y186 from by rw [Ny186.out]; exact Kd.C_take (m := (x9_2 : Int).toNat) ((Kd.R_reads' (Kd.R_after (ok := (fun _ => True)) (mR HO_177000.out) hg hat)).2.2) KL124.out)); replace HO_177000 := mS (Kd.R_after (ok := (fun _ => True)) (mR HO_177000.out) hg hat); have HO195 := mS (ho); clear HO192; clear ho hb hg hat; have hcz130_0 := mZ BK176.out 0; have hfz130_0 := blk_frozen BK176.out 0; have q131 : (x9_2 : Int) ≤ ((y173.length : Int) : Int) := mD; obtain ⟨i0131, hi0131, _, hsz131, _⟩ := info_parts info35; have hroom131 : y173.length ≤ co15 := (Kd.R_reads' HO_177000.out).2.1; have hC131 : Kd.C k35 _ Ao15 y173.length y173 := (Kd.R_reads' HO_177000.out).2.2; have q0131 : (0 : Int) ≤ (x9_2 : Int) := mD; have hcut131 := cut_from (P := Try.prog) 24 35 .i64 Try.underlying24 hi0131 4 hsz131 Ao15 y173.length co15 x9_2 q0131 q131; have hr131 := Kd.C_drop (m := (x9_2 : Int).toNat) (c := co15) hC131 (by omega) hroom131; obtain ⟨A131, hA131⟩ : ∃ A1, A1 = (if co15 = (x9_2 : Int).toNat then Ao15 else (Ao15 : Option Addr).map (·.add ((x9_2 : Int).toNat * 4))) := ⟨_, rfl⟩; obtain ⟨c131, hc131⟩ : ∃ c1, c1 = co15 - (x9_2 : Int).toNat := ⟨_, rfl⟩; have hy131 : y196.length = y173.length - (x9_2 : Int).toNat := (by rw [Ny196.out, List.length_drop] <;> omega); rw [show (y173).drop (x9_2 : Int).toNat = y196 from Ny196.out.symm] at hr131; replace hr131 : Kd.C k35 _ A131 y196.length y196 := (by rw [hA131]; exact hr131); rw [← hy131, ← hA131, ← hc131] at hcut131; have HR199 := mS hr131; have HC199 := mS (show y196.length ≤ c131 from by rw [hy131, hc131]; exact Nat.sub_le_sub_right hroom131 _); clear hr131 hC131 hroom131 hi0131 hsz131 hc131; have KY131 := mS hy131; have KA131 := mS hA131; clear hy131 hA131; have KL131 := mS (show (x9_2 : Int).toNat ≤ y173.length from by omega); replace q131 := eq_true q131) | ((with_reducible refine gate_builtin (b := .append) (xs := #[.tmp 90, .tmp 94]) rfl ?_); at_builtin; refine Kd.R_append_rows k35 (w0 := w) w.heap.size rfl (.tmp 90) (.tmp 94) 24 35 (.agg #[(.string ⟨#[]⟩), (.string ⟨#[]⟩), (.bool false), (.int .i64 0)]) 48 rfl Try.underlying24 info35 rfl (by decide) (by omega) v194 y193 y196 _ _ _ (fun k_ => some k_ ≠ (.slice Ao15 y173.length co15 : Value).ownBlock) (fun _ => False) rfl rfl ?aO ?aR (fun _ _ h => h) (fun _ h => h.elim) ?aF ?aB ?aS ?aL ?_; (case aR => exact mC (mC HR199.out)); (case aB => exact (mH4 HB.out GE167.out GE168.out GE169.out GE176.out)); (case aF => exact (fun k_ hk => Kd.fresh' (Kd.R_lt (mR HO_177000.out)) k_ hk)); (case aO => exact (mR HO195.out)); (case aS => exact (below_size (mH4 HB.out GE167.out GE168.out GE169.out GE176.out))); (case aL => have := LMc116.out; omega); intro v201 w132 ho hb hg hat; rw [← Ny200.out] at ho; replace BK167 := mS (blk_grown (g := gb167) (o := .cells #[.slice A0_0 l0_0.length c0_0] 26 (0, 0)) (mK BK167.out) hg (Kd.R_ne HO195.out BK167.out (by decide))); replace BK168 := mS (blk_grown (g := gb168) (o := .cells #[.string a1_0, .string a1_1, .bool a1_2] 33 (0, 0)) (mK BK168.out) hg (Kd.R_ne HO195.out BK168.out (by decide))); replace BK169 := mS (blk_grown (g := gb169) (o := .cells #[.slice none 0 0] 26 (0, 0)) (mK BK169.out) hg (Kd.R_ne HO195.out BK169.out (by decide))); replace BK176 := mS (blk_grown (g := gb176) (o := .cells #[.slice Ao15 y173.length co15] 26 (0, 0)) (mK BK176.out) hg (Kd.R_ne HO195.out BK176.out (by decide))); replace HB := mS (hb); replace HR189 := mS ((show Kd.C k35 w132 Ao15 y186.length y186 from by rw [Ny186.out]; exact Kd.C_take (m := (x9_2 : Int).toNat) ((Kd.R_reads' (Kd.R_after (ok := (fun _ => True)) (mR HO_177000.out) hg hat)).2.2) KL124.out)); replace HR199 := mS ((show Kd.C k35 w132 A131 y196.length y196 from by rw [Ny196.out, KA131.out]; exact Kd.C_drop (m := (x9_2 : Int).toNat) (c := co15) ((Kd.R_reads' (Kd.R_after (ok := (fun _ => True)) (mR HO_177000.out) hg hat)).2.2) KL131.out ((Kd.R_reads' (Kd.R_after (ok := (fun _ => True)) (mR HO_177000.out) hg hat)).2.1))); replace HO_177000 := mS (Kd.R_after (ok := (fun _ => True)) (mR HO_177000.out) hg hat); have HO202 := mS (ho); clear HO195; clear ho hb hg hat; obtain ⟨Ao133, co133, eo133⟩ := Kd.R_slice HO202.out; subst eo133; have hnb134 := NB169_167.out; have hnc134 := NB167_169.out; have hcz135_0 := mZ BK169.out 0; have hfz135_0 := blk_frozen BK169.out 0))
                   repeat (go_quiet (first | ((with_reducible refine gate_dst (N := 78) rfl ?_); refine Kd.R_lit k35 _ 35 ?hg (N := 78) ?hd (xs := ([] : List (S35))) (inner := []) (ok := fun _ => True) (okp := fun _ => True) ?hr ?hp (fun _ hk => hk) trivial (Below.refl _ _) (Nat.le_refl _) (by simp) ?_; (case hd => rfl); (case hg => rfl); (case hr => first | (go_simp; done) | (go_simp; rfl)); (case hp => exact (Reps.none _ _)); intro v184 w121 ho122 hb hg_ hnew_; clear hg_ hnew_; (first | rw [← Ny183.out] at ho122 | (simp only [Int.reduceToNat] at ho122; rw [← Ny183.out] at ho122)); have HO185 := mS (Kd.R_lower (Kd.R_new' ho122 (Kd.R_lt (mR HO_177000.out))) (below_size (mH4 HB.out GE167.out GE168.out GE169.out GE176.out))); replace HO_177000 := mS (Kd.R_elder' (mR HO_177000.out) (Kd.R_base ho122) hb); replace BK167 := mB BK167 hb; replace BK168 := mB BK168 hb; replace BK169 := mB BK169 hb; replace BK176 := mB BK176 hb; replace HB := mS (below_step (mH4 HB.out GE167.out GE168.out GE169.out GE176.out) hb); clear hb ho122; have hcz123_0 := mZ BK176.out 0; have hfz123_0 := blk_frozen BK176.out 0; have q124 : (x9_2 : Int) ≤ ((y173.length : Int) : Int) := mD; obtain ⟨i0124, hi0124, _, hsz124, _⟩ := info_parts info35; have hroom124 : y173.length ≤ co15 := (Kd.R_reads' HO_177000.out).2.1; have hC124 : Kd.C k35 _ Ao15 y173.length y173 := (Kd.R_reads' HO_177000.out).2.2; have hcut124 := cut_to (P := Try.prog) 24 35 .i64 Try.underlying24 hi0124 Ao15 y173.length co15 x9_2 (mD) q124 hroom124; have hr124 := Kd.C_take (m := (x9_2 : Int).toNat) hC124 (by omega); have hy124 : y186.length = (x9_2 : Int).toNat := (by rw [Ny186.out, List.length_take]; omega); rw [← Ny186.out] at hr124; rw [← hy124] at hcut124; have HR189 := mS hr124; have HC189 := mS (show y186.length ≤ co15 from by omega); clear hr124 hC124 hroom124 hi0124 hsz124; have KY124 := mS hy124; clear hy124; have KL124 := mS (show (x9_2 : Int).toNat ≤ y173.length from by omega); replace q124 := eq_true q124) | ((with_reducible refine gate_builtin (b := .append) (xs := #[.tmp 78, .tmp 82]) rfl ?_); at_builtin; refine Kd.R_append_rows k35 (w0 := w) w.heap.size rfl (.tmp 78) (.tmp 82) 24 35 (.agg #[(.string ⟨#[]⟩), (.string ⟨#[]⟩), (.bool false), (.int .i64 0)]) 48 rfl Try.underlying24 info35 rfl (by decide) (by omega) v184 y183 y186 _ _ _ (fun k_ => some k_ ≠ (.slice Ao15 y173.length co15 : Value).ownBlock) (fun _ => False) rfl rfl ?aO ?aR (fun _ _ h => h) (fun _ h => h.elim) ?aF ?aB ?aS ?aL ?_; (case aR => exact mC (mC HR189.out)); (case aB => exact (mH4 HB.out GE167.out GE168.out GE169.out GE176.out)); (case aF => exact (fun k_ hk => Kd.fresh' (Kd.R_lt (mR HO_177000.out)) k_ hk)); (case aO => exact (by refine mR ?_; exact Kd.R_mono HO185.out (fun _ hk => hk.2))); (case aS => exact (below_size (mH4 HB.out GE167.out GE168.out GE169.out GE176.out))); (case aL => have := LMc112.out; omega); intro v191 w125 ho hb hg hat; rw [← Ny190.out] at ho; replace BK167 := mS (blk_grown (g := gb167) (o := .cells #[.slice A0_0 l0_0.length c0_0] 26 (0, 0)) (mK BK167.out) hg (Kd.R_ne HO185.out BK167.out (by decide))); replace BK168 := mS (blk_grown (g := gb168) (o := .cells #[.string a1_0, .string a1_1, .bool a1_2] 33 (0, 0)) (mK BK168.out) hg (Kd.R_ne HO185.out BK168.out (by decide))); replace BK169 := mS (blk_grown (g := gb169) (o := .cells #[.slice none 0 0] 26 (0, 0)) (mK BK169.out) hg (Kd.R_ne HO185.out BK169.out (by decide))); replace BK176 := mS (blk_grown (g := gb176) (o := .cells #[.slice Ao15 y173.length co15] 26 (0, 0)) (mK BK176.out) hg (Kd.R_ne HO185.out BK176.out (by decide))); replace HB := mS (hb); replace HR189 := mS ((show Kd.C k35 w125 Ao15 y186.length y186 from by rw [Ny186.out]; exact Kd.C_take (m := (x9_2 : Int).toNat) ((Kd.R_reads' (Kd.R_after (ok := (fun _ => True)) (mR HO_177000.out) hg hat)).2.2) KL124.out)); replace HO_177000 := mS (Kd.R_after (ok := (fun _ => True)) (mR HO_177000.out) hg hat); have HO192 := mS (ho); clear HO185; clear ho hb hg hat; have hnb126 := NB168_167.out; have hnc126 := NB167_168.out; have hnb127 := NB168_169.out; have hnc127 := NB169_168.out; obtain ⟨hcz128_0, hcz128_1, hcz128_2, hfz128_0, hfz128_1, hfz128_2⟩ := mZ3 BK168.out) | ((with_reducible refine gate_builtin (b := .append) (xs := #[.tmp 84, .tmp 88]) rfl ?_); at_builtin; refine Kd.R_append k35 (w0 := w) w.heap.size rfl (.tmp 84) (.tmp 88) 24 35 (.agg #[(.string ⟨#[]⟩), (.string ⟨#[]⟩), (.bool false), (.int .i64 0)]) 48 rfl Try.underlying24 info35 rfl (by decide) (by omega) v191 y190 (⟨(⟨a1_0, a1_1, a1_2⟩ : S33), a2⟩ : S35) [.string a1_0, .string a1_1, .bool a1_2, .int .i64 a2] (fun k_ => some k_ ≠ (.slice Ao15 y173.length co15 : Value).ownBlock) (fun _ => False) rfl rfl ?aP (fun _ hk => hk.elim) ?aF ?aO ?aB ?aS ?aL ?_; (case aP => exact k35_mkM _ _ _ (⟨(⟨a1_0, a1_1, a1_2⟩ : S33), a2⟩ : S35)); (case aB => exact (mH4 HB.out GE167.out GE168.out GE169.out GE176.out)); (case aF => exact (fun k_ hk => Kd.fresh' (Kd.R_lt (mR HO_177000.out)) k_ hk)); (case aO => exact (mR HO192.out)); (case aS => exact (below_size (mH4 HB.out GE167.out GE168.out GE169.out GE176.out))); (case aL => have := LMc113.out; omega); intro v194 w129 ho hb hg hat; rw [← Ny193.out] at ho; replace BK167 := mS (blk_grown (g := gb167) (o := .cells #[.slice A0_0 l0_0.length c0_0] 26 (0, 0)) (mK BK167.out) hg (Kd.R_ne HO192.out BK167.out (by decide))); replace BK168 := mS (blk_grown (g := gb168) (o := .cells #[.string a1_0, .string a1_1, .bool a1_2] 33 (0, 0)) (mK BK168.out) hg (Kd.R_ne HO192.out BK168.out (by decide))); replace BK169 := mS (blk_grown (g := gb169) (o := .cells #[.slice none 0 0] 26 (0, 0)) (mK BK169.out) hg (Kd.R_ne HO192.out BK169.out (by decide))); replace BK176 := mS (blk_grown (g := gb176) (o := .cells #[.slice Ao15 y173.length co15] 26 (0, 0)) (mK BK176.out) hg (Kd.R_ne HO192.out BK176.out (by decide))); replace HB := mS (hb); replace HR189 := mS ((show Kd.C k35 w129 Ao15 y186.length y186 from by rw [Ny186.out]; exact Kd.C_take (m := (x9_2 : Int).toNat) ((Kd.R_reads' (Kd.R_after (ok := (fun _ => True)) (mR HO_177000.out) hg hat)).2.2) KL124.out)); replace HO_177000 := mS (Kd.R_after (ok := (fun _ => True)) (mR HO_177000.out) hg hat); have HO195 := mS (ho); clear HO192; clear ho hb hg hat; have hcz130_0 := mZ BK176.out 0; have hfz130_0 := blk_frozen BK176.out 0; have q131 : (x9_2 : Int) ≤ ((y173.length : Int) : Int) := mD; obtain ⟨i0131, hi0131, _, hsz131, _⟩ := info_parts info35; have hroom131 : y173.length ≤ co15 := (Kd.R_reads' HO_177000.out).2.1; have hC131 : Kd.C k35 _ Ao15 y173.length y173 := (Kd.R_reads' HO_177000.out).2.2; have q0131 : (0 : Int) ≤ (x9_2 : Int) := mD; have hcut131 := cut_from (P := Try.prog) 24 35 .i64 Try.underlying24 hi0131 4 hsz131 Ao15 y173.length co15 x9_2 q0131 q131; have hr131 := Kd.C_drop (m := (x9_2 : Int).toNat) (c := co15) hC131 (by omega) hroom131; obtain ⟨A131, hA131⟩ : ∃ A1, A1 = (if co15 = (x9_2 : Int).toNat then Ao15 else (Ao15 : Option Addr).map (·.add ((x9_2 : Int).toNat * 4))) := ⟨_, rfl⟩; obtain ⟨c131, hc131⟩ : ∃ c1, c1 = co15 - (x9_2 : Int).toNat := ⟨_, rfl⟩; have hy131 : y196.length = y173.length - (x9_2 : Int).toNat := (by rw [Ny196.out, List.length_drop] <;> omega); rw [show (y173).drop (x9_2 : Int).toNat = y196 from Ny196.out.symm] at hr131; replace hr131 : Kd.C k35 _ A131 y196.length y196 := (by rw [hA131]; exact hr131); rw [← hy131, ← hA131, ← hc131] at hcut131; have HR199 := mS hr131; have HC199 := mS (show y196.length ≤ c131 from by rw [hy131, hc131]; exact Nat.sub_le_sub_right hroom131 _); clear hr131 hC131 hroom131 hi0131 hsz131 hc131; have KY131 := mS hy131; have KA131 := mS hA131; clear hy131 hA131; have KL131 := mS (show (x9_2 : Int).toNat ≤ y173.length from by omega); replace q131 := eq_true q131) | ((with_reducible refine gate_builtin (b := .append) (xs := #[.tmp 90, .tmp 94]) rfl ?_); at_builtin; refine Kd.R_append_rows k35 (w0 := w) w.heap.size rfl (.tmp 90) (.tmp 94) 24 35 (.agg #[(.string ⟨#[]⟩), (.string ⟨#[]⟩), (.bool false), (.int .i64 0)]) 48 rfl Try.underlying24 info35 rfl (by decide) (by omega) v194 y193 y196 _ _ _ (fun k_ => some k_ ≠ (.slice Ao15 y173.length co15 : Value).ownBlock) (fun _ => False) rfl rfl ?aO ?aR (fun _ _ h => h) (fun _ h => h.elim) ?aF ?aB ?aS ?aL ?_; (case aR => exact mC (mC HR199.out)); (case aB => exact (mH4 HB.out GE167.out GE168.out GE169.out GE176.out)); (case aF => exact (fun k_ hk => Kd.fresh' (Kd.R_lt (mR HO_177000.out)) k_ hk)); (case aO => exact (mR HO195.out)); (case aS => exact (below_size (mH4 HB.out GE167.out GE168.out GE169.out GE176.out))); (case aL => have := LMc116.out; omega); intro v201 w132 ho hb hg hat; rw [← Ny200.out] at ho; replace BK167 := mS (blk_grown (g := gb167) (o := .cells #[.slice A0_0 l0_0.length c0_0] 26 (0, 0)) (mK BK167.out) hg (Kd.R_ne HO195.out BK167.out (by decide))); replace BK168 := mS (blk_grown (g := gb168) (o := .cells #[.string a1_0, .string a1_1, .bool a1_2] 33 (0, 0)) (mK BK168.out) hg (Kd.R_ne HO195.out BK168.out (by decide))); replace BK169 := mS (blk_grown (g := gb169) (o := .cells #[.slice none 0 0] 26 (0, 0)) (mK BK169.out) hg (Kd.R_ne HO195.out BK169.out (by decide))); replace BK176 := mS (blk_grown (g := gb176) (o := .cells #[.slice Ao15 y173.length co15] 26 (0, 0)) (mK BK176.out) hg (Kd.R_ne HO195.out BK176.out (by decide))); replace HB := mS (hb); replace HR189 := mS ((show Kd.C k35 w132 Ao15 y186.length y186 from by rw [Ny186.out]; exact Kd.C_take (m := (x9_2 : Int).toNat) ((Kd.R_reads' (Kd.R_after (ok := (fun _ => True)) (mR HO_177000.out) hg hat)).2.2) KL124.out)); replace HR199 := mS ((show Kd.C k35 w132 A131 y196.length y196 from by rw [Ny196.out, KA131.out]; exact Kd.C_drop (m := (x9_2 : Int).toNat) (c := co15) ((Kd.R_reads' (Kd.R_after (ok := (fun _ => True)) (mR HO_177000.out) hg hat)).2.2) KL131.out ((Kd.R_reads' (Kd.R_after (ok := (fun _ => True)) (mR HO_177000.out) hg hat)).2.1))); replace HO_177000 := mS (Kd.R_after (ok := (fun _ => True)) (mR HO_177000.out) hg hat); have HO202 := mS (ho); clear HO195; clear ho hb hg hat; obtain ⟨Ao133, co133, eo133⟩ := Kd.R_slice HO202.out; subst eo133; have hnb134 := NB169_167.out; have hnc134 := NB167_169.out; have hcz135_0 := mZ BK169.out 0; have hfz135_0 := blk_frozen BK169.out 0)); try go_wp2_with (first | ((with_reducible refine gate_dst (N := 78) rfl ?_); refine Kd.R_lit k35 _ 35 ?hg (N := 78) ?hd (xs := ([] : List (S35))) (inner := []) (ok := fun _ => True) (okp := fun _ => True) ?hr ?hp (fun _ hk => hk) trivial (Below.refl _ _) (Nat.le_refl _) (by simp) ?_; (case hd => rfl); (case hg => rfl); (case hr => first | (go_simp; done) | (go_simp; rfl)); (case hp => exact (Reps.none _ _)); intro v184 w121 ho122 hb hg_ hnew_; clear hg_ hnew_; (first | rw [← Ny183.out] at ho122 | (simp only [Int.reduceToNat] at ho122; rw [← Ny183.out] at ho122)); have HO185 := mS (Kd.R_lower (Kd.R_new' ho122 (Kd.R_lt (mR HO_177000.out))) (below_size (mH4 HB.out GE167.out GE168.out GE169.out GE176.out))); replace HO_177000 := mS (Kd.R_elder' (mR HO_177000.out) (Kd.R_base ho122) hb); replace BK167 := mB BK167 hb; replace BK168 := mB BK168 hb; replace BK169 := mB BK169 hb; replace BK176 := mB BK176 hb; replace HB := mS (below_step (mH4 HB.out GE167.out GE168.out GE169.out GE176.out) hb); clear hb ho122; have hcz123_0 := mZ BK176.out 0; have hfz123_0 := blk_frozen BK176.out 0; have q124 : (x9_2 : Int) ≤ ((y173.length : Int) : Int) := mD; obtain ⟨i0124, hi0124, _, hsz124, _⟩ := info_parts info35; have hroom124 : y173.length ≤ co15 := (Kd.R_reads' HO_177000.out).2.1; have hC124 : Kd.C k35 _ Ao15 y173.length y173 := (Kd.R_reads' HO_177000.out).2.2; have hcut124 := cut_to (P := Try.prog) 24 35 .i64 Try.underlying24 hi0124 Ao15 y173.length co15 x9_2 (mD) q124 hroom124; have hr124 := Kd.C_take (m := (x9_2 : Int).toNat) hC124 (by omega); have hy124 : y186.length = (x9_2 : Int).toNat := (by rw [Ny186.out, List.length_take]; omega); rw [← Ny186.out] at hr124; rw [← hy124] at hcut124; have HR189 := mS hr124; have HC189 := mS (show y186.length ≤ co15 from by omega); clear hr124 hC124 hroom124 hi0124 hsz124; have KY124 := mS hy124; clear hy124; have KL124 := mS (show (x9_2 : Int).toNat ≤ y173.length from by omega); replace q124 := eq_true q124) | ((with_reducible refine gate_builtin (b := .append) (xs := #[.tmp 78, .tmp 82]) rfl ?_); at_builtin; refine Kd.R_append_rows k35 (w0 := w) w.heap.size rfl (.tmp 78) (.tmp 82) 24 35 (.agg #[(.string ⟨#[]⟩), (.string ⟨#[]⟩), (.bool false), (.int .i64 0)]) 48 rfl Try.underlying24 info35 rfl (by decide) (by omega) v184 y183 y186 _ _ _ (fun k_ => some k_ ≠ (.slice Ao15 y173.length co15 : Value).ownBlock) (fun _ => False) rfl rfl ?aO ?aR (fun _ _ h => h) (fun _ h => h.elim) ?aF ?aB ?aS ?aL ?_; (case aR => exact mC (mC HR189.out)); (case aB => exact (mH4 HB.out GE167.out GE168.out GE169.out GE176.out)); (case aF => exact (fun k_ hk => Kd.fresh' (Kd.R_lt (mR HO_177000.out)) k_ hk)); (case aO => exact (by refine mR ?_; exact Kd.R_mono HO185.out (fun _ hk => hk.2))); (case aS => exact (below_size (mH4 HB.out GE167.out GE168.out GE169.out GE176.out))); (case aL => have := LMc112.out; omega); intro v191 w125 ho hb hg hat; rw [← Ny190.out] at ho; replace BK167 := mS (blk_grown (g := gb167) (o := .cells #[.slice A0_0 l0_0.length c0_0] 26 (0, 0)) (mK BK167.out) hg (Kd.R_ne HO185.out BK167.out (by decide))); replace BK168 := mS (blk_grown (g := gb168) (o := .cells #[.string a1_0, .string a1_1, .bool a1_2] 33 (0, 0)) (mK BK168.out) hg (Kd.R_ne HO185.out BK168.out (by decide))); replace BK169 := mS (blk_grown (g := gb169) (o := .cells #[.slice none 0 0] 26 (0, 0)) (mK BK169.out) hg (Kd.R_ne HO185.out BK169.out (by decide))); replace BK176 := mS (blk_grown (g := gb176) (o := .cells #[.slice Ao15 y173.length co15] 26 (0, 0)) (mK BK176.out) hg (Kd.R_ne HO185.out BK176.out (by decide))); replace HB := mS (hb); replace HR189 := mS ((show Kd.C k35 w125 Ao15 y186.length y186 from by rw [Ny186.out]; exact Kd.C_take (m := (x9_2 : Int).toNat) ((Kd.R_reads' (Kd.R_after (ok := (fun _ => True)) (mR HO_177000.out) hg hat)).2.2) KL124.out)); replace HO_177000 := mS (Kd.R_after (ok := (fun _ => True)) (mR HO_177000.out) hg hat); have HO192 := mS (ho); clear HO185; clear ho hb hg hat; have hnb126 := NB168_167.out; have hnc126 := NB167_168.out; have hnb127 := NB168_169.out; have hnc127 := NB169_168.out; obtain ⟨hcz128_0, hcz128_1, hcz128_2, hfz128_0, hfz128_1, hfz128_2⟩ := mZ3 BK168.out) | ((with_reducible refine gate_builtin (b := .append) (xs := #[.tmp 84, .tmp 88]) rfl ?_); at_builtin; refine Kd.R_append k35 (w0 := w) w.heap.size rfl (.tmp 84) (.tmp 88) 24 35 (.agg #[(.string ⟨#[]⟩), (.string ⟨#[]⟩), (.bool false), (.int .i64 0)]) 48 rfl Try.underlying24 info35 rfl (by decide) (by omega) v191 y190 (⟨(⟨a1_0, a1_1, a1_2⟩ : S33), a2⟩ : S35) [.string a1_0, .string a1_1, .bool a1_2, .int .i64 a2] (fun k_ => some k_ ≠ (.slice Ao15 y173.length co15 : Value).ownBlock) (fun _ => False) rfl rfl ?aP (fun _ hk => hk.elim) ?aF ?aO ?aB ?aS ?aL ?_; (case aP => exact k35_mkM _ _ _ (⟨(⟨a1_0, a1_1, a1_2⟩ : S33), a2⟩ : S35)); (case aB => exact (mH4 HB.out GE167.out GE168.out GE169.out GE176.out)); (case aF => exact (fun k_ hk => Kd.fresh' (Kd.R_lt (mR HO_177000.out)) k_ hk)); (case aO => exact (mR HO192.out)); (case aS => exact (below_size (mH4 HB.out GE167.out GE168.out GE169.out GE176.out))); (case aL => have := LMc113.out; omega); intro v194 w129 ho hb hg hat; rw [← Ny193.out] at ho; replace BK167 := mS (blk_grown (g := gb167) (o := .cells #[.slice A0_0 l0_0.length c0_0] 26 (0, 0)) (mK BK167.out) hg (Kd.R_ne HO192.out BK167.out (by decide))); replace BK168 := mS (blk_grown (g := gb168) (o := .cells #[.string a1_0, .string a1_1, .bool a1_2] 33 (0, 0)) (mK BK168.out) hg (Kd.R_ne HO192.out BK168.out (by decide))); replace BK169 := mS (blk_grown (g := gb169) (o := .cells #[.slice none 0 0] 26 (0, 0)) (mK BK169.out) hg (Kd.R_ne HO192.out BK169.out (by decide))); replace BK176 := mS (blk_grown (g := gb176) (o := .cells #[.slice Ao15 y173.length co15] 26 (0, 0)) (mK BK176.out) hg (Kd.R_ne HO192.out BK176.out (by decide))); replace HB := mS (hb); replace HR189 := mS ((show Kd.C k35 w129 Ao15 y186.length y186 from by rw [Ny186.out]; exact Kd.C_take (m := (x9_2 : Int).toNat) ((Kd.R_reads' (Kd.R_after (ok := (fun _ => True)) (mR HO_177000.out) hg hat)).2.2) KL124.out)); replace HO_177000 := mS (Kd.R_after (ok := (fun _ => True)) (mR HO_177000.out) hg hat); have HO195 := mS (ho); clear HO192; clear ho hb hg hat; have hcz130_0 := mZ BK176.out 0; have hfz130_0 := blk_frozen BK176.out 0; have q131 : (x9_2 : Int) ≤ ((y173.length : Int) : Int) := mD; obtain ⟨i0131, hi0131, _, hsz131, _⟩ := info_parts info35; have hroom131 : y173.length ≤ co15 := (Kd.R_reads' HO_177000.out).2.1; have hC131 : Kd.C k35 _ Ao15 y173.length y173 := (Kd.R_reads' HO_177000.out).2.2; have q0131 : (0 : Int) ≤ (x9_2 : Int) := mD; have hcut131 := cut_from (P := Try.prog) 24 35 .i64 Try.underlying24 hi0131 4 hsz131 Ao15 y173.length co15 x9_2 q0131 q131; have hr131 := Kd.C_drop (m := (x9_2 : Int).toNat) (c := co15) hC131 (by omega) hroom131; obtain ⟨A131, hA131⟩ : ∃ A1, A1 = (if co15 = (x9_2 : Int).toNat then Ao15 else (Ao15 : Option Addr).map (·.add ((x9_2 : Int).toNat * 4))) := ⟨_, rfl⟩; obtain ⟨c131, hc131⟩ : ∃ c1, c1 = co15 - (x9_2 : Int).toNat := ⟨_, rfl⟩; have hy131 : y196.length = y173.length - (x9_2 : Int).toNat := (by rw [Ny196.out, List.length_drop] <;> omega); rw [show (y173).drop (x9_2 : Int).toNat = y196 from Ny196.out.symm] at hr131; replace hr131 : Kd.C k35 _ A131 y196.length y196 := (by rw [hA131]; exact hr131); rw [← hy131, ← hA131, ← hc131] at hcut131; have HR199 := mS hr131; have HC199 := mS (show y196.length ≤ c131 from by rw [hy131, hc131]; exact Nat.sub_le_sub_right hroom131 _); clear hr131 hC131 hroom131 hi0131 hsz131 hc131; have KY131 := mS hy131; have KA131 := mS hA131; clear hy131 hA131; have KL131 := mS (show (x9_2 : Int).toNat ≤ y173.length from by omega); replace q131 := eq_true q131) | ((with_reducible refine gate_builtin (b := .append) (xs := #[.tmp 90, .tmp 94]) rfl ?_); at_builtin; refine Kd.R_append_rows k35 (w0 := w) w.heap.size rfl (.tmp 90) (.tmp 94) 24 35 (.agg #[(.string ⟨#[]⟩), (.string ⟨#[]⟩), (.bool false), (.int .i64 0)]) 48 rfl Try.underlying24 info35 rfl (by decide) (by omega) v194 y193 y196 _ _ _ (fun k_ => some k_ ≠ (.slice Ao15 y173.length co15 : Value).ownBlock) (fun _ => False) rfl rfl ?aO ?aR (fun _ _ h => h) (fun _ h => h.elim) ?aF ?aB ?aS ?aL ?_; (case aR => exact mC (mC HR199.out)); (case aB => exact (mH4 HB.out GE167.out GE168.out GE169.out GE176.out)); (case aF => exact (fun k_ hk => Kd.fresh' (Kd.R_lt (mR HO_177000.out)) k_ hk)); (case aO => exact (mR HO195.out)); (case aS => exact (below_size (mH4 HB.out GE167.out GE168.out GE169.out GE176.out))); (case aL => have := LMc116.out; omega); intro v201 w132 ho hb hg hat; rw [← Ny200.out] at ho; replace BK167 := mS (blk_grown (g := gb167) (o := .cells #[.slice A0_0 l0_0.length c0_0] 26 (0, 0)) (mK BK167.out) hg (Kd.R_ne HO195.out BK167.out (by decide))); replace BK168 := mS (blk_grown (g := gb168) (o := .cells #[.string a1_0, .string a1_1, .bool a1_2] 33 (0, 0)) (mK BK168.out) hg (Kd.R_ne HO195.out BK168.out (by decide))); replace BK169 := mS (blk_grown (g := gb169) (o := .cells #[.slice none 0 0] 26 (0, 0)) (mK BK169.out) hg (Kd.R_ne HO195.out BK169.out (by decide))); replace BK176 := mS (blk_grown (g := gb176) (o := .cells #[.slice Ao15 y173.length co15] 26 (0, 0)) (mK BK176.out) hg (Kd.R_ne HO195.out BK176.out (by decide))); replace HB := mS (hb); replace HR189 := mS ((show Kd.C k35 w132 Ao15 y186.length y186 from by rw [Ny186.out]; exact Kd.C_take (m := (x9_2 : Int).toNat) ((Kd.R_reads' (Kd.R_after (ok := (fun _ => True)) (mR HO_177000.out) hg hat)).2.2) KL124.out)); replace HR199 := mS ((show Kd.C k35 w132 A131 y196.length y196 from by rw [Ny196.out, KA131.out]; exact Kd.C_drop (m := (x9_2 : Int).toNat) (c := co15) ((Kd.R_reads' (Kd.R_after (ok := (fun _ => True)) (mR HO_177000.out) hg hat)).2.2) KL131.out ((Kd.R_reads' (Kd.R_after (ok := (fun _ => True)) (mR HO_177000.out) hg hat)).2.1))); replace HO_177000 := mS (Kd.R_after (ok := (fun _ => True)) (mR HO_177000.out) hg hat); have HO202 := mS (ho); clear HO195; clear ho hb hg hat; obtain ⟨Ao133, co133, eo133⟩ := Kd.R_slice HO202.out; subst eo133; have hnb134 := NB169_167.out; have hnc134 := NB167_169.out; have hcz135_0 := mZ BK169.out 0; have hfz135_0 := blk_frozen BK169.out 0)))
                   refine bodyPost_ret (results_ct rfl _ _ gb169 26 #[.slice Ao133 y200.length co133] (0, 0) _ rfl (by refine mK ?_; refine blk_put (cs := #[.slice none 0 0]) ?_ 0 _ rfl; refine mK ?_; exact BK169.out) Try.underlying26 rfl (by kernel_rfl)) rfl ?_
                   exact ⟨_, mEw, by refine mR ?_; exact Kd.R_mono (Kd.R_far (p := ⟨gb169, 0, none⟩) (Kd.R_types HO202.out BK169.out (by decide)) (fun _ hk => hk.2) (.slice Ao133 y200.length co133)) (fun _ hk => trivial), (mH4 HB.out GE167.out GE168.out GE169.out GE176.out)⟩
                  ·rw [if_neg c116] at H
                   exact absurd H (by simp)
                 ·rw [if_neg c113] at H
                  exact absurd H (by simp)
                ·rw [if_neg c112] at H
                 exact absurd H (by simp)
               ·rw [if_neg c111] at H
                exact absurd H (by simp)
              ·rw [if_neg c110] at H
               exact absurd H (by simp)
 ·rw [if_neg c4] at H
  exact absurd H (by simp)

end Go.Proofs.Ytbepbgfkajnlbaa.MFnLeaps
