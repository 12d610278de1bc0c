-- Written by mp.py, this session's own printer (wip/mp.py).
import Derived.Test.YtbepbgfkajnlbaaVMShort
import Derived.Test.YtbepbgfkajnlbaaMFnMergedx0
import Derived.Test.YtbepbgfkajnlbaaMFnMergedx1
import Derived.Test.YtbepbgfkajnlbaaMFnMergedx8
import Derived.Test.YtbepbgfkajnlbaaMFnMergedx11
namespace Go.Proofs.Ytbepbgfkajnlbaa.MFnMerged
open Go.RowKit Go.Proofs.YtbepbgfkajnlbaaW.PrintWords Go.Proofs.YtbepbgfkajnlbaaW.PrintLast Go.Proofs.YtbepbgfkajnlbaaW.PrintMore Go.Proofs.Ytbepbgfkajnlbaa.MWords
theorem mI63_0 {p q : Prop} (x : q) (h : q → p := by intro h_; repeat (first | (with_reducible first | exact h_ | apply IsS167.alloc | apply IsS167.drewN | apply IsS167.drew | apply IsS167.set_1 | apply IsS167.set_2) | exact h_)) : p := h x
theorem mH63_1 {p q a0 : Prop} (x : q) (g0 : a0) (h : q → a0 → p := by intro h_ g0_; repeat (first | (with_reducible first | exact h_ | apply below_alloc | apply pw_below_drewN | apply below_drew1 | refine below_set ?_ g0_) | exact h_)) : p := h x g0
attribute [local go_sem] max2_int min2_int max_two min_two max_three min_three max_four min_four   -- for this text's walks alone
set_option linter.unusedVariables false
set_option linter.unusedSimpArgs false

attribute [local go_sem high] eqA33
/-! ### spec_DrawMerge: function 63 -/
mutual
def spec_DrawMerge.l0 : Nat → List (List (S33)) → Int → List Int → Int → Int → Option ((List (List (S33))) × Bool)
 | 0, _, _, _, _, _ => none
 | k + 1, x5, x6, x334000, x334001, x334002 => if x6 > 0 then ((spec_l4List.f k x334000 x334001 x334002 8).bind fun bt340 => (if x5.length < 5864062014805 then (spec_DrawMerge.l0 k (x5 ++ [bt340.1]) (wrap64 (x6 - 1)) x334000 bt340.2.1 bt340.2.2) else (none))) else ((spec_l1Once.f x334000 x334001 x334002 8).bind fun bt348 => (if bt348.1 = true then ((spec_l4ListAny.f k x334000 bt348.2.1 bt348.2.2 8).bind fun bt351 => (if x5.length < 5864062014805 then (spec_DrawMerge.j1 k (x5 ++ [bt351.1]) x334000 bt351.2.1 bt351.2.2) else (none))) else (spec_DrawMerge.j1 k x5 x334000 bt348.2.1 bt348.2.2)))
def spec_DrawMerge.j1 : Nat → List (List (S33)) → List Int → Int → Int → Option ((List (List (S33))) × Bool)
 | 0, _, _, _, _ => none
 | k + 1, x5, x334000, x334001, x334002 => (spec_l1Once.f x334000 x334001 x334002 30).bind fun bt359 => (if bt359.1 = true then ((spec_l1Below.f x334000 bt359.2.1 bt359.2.2 2).bind fun bt362 => (if 0 ≤ (wrap64 (10 + bt362.1)) then (if (wrap64 (10 + bt362.1) : Int).toNat ≤ 11728124029610 then ((some (List.replicate (wrap64 (10 + bt362.1) : Int).toNat [] : List (List (S33)))).bind fun y365 => ((spec_l4List.f k x334000 bt362.2.1 bt362.2.2 5).bind fun bt368 => (if 0 < (y365.length : Int) then ((spec_l1Once.f x334000 bt368.2.1 bt368.2.2 2).bind fun bt374 => (some ((y365.set (0 : Int).toNat bt368.1), bt374.1))) else (none)))) else (none)) else (none))) else ((spec_l1Once.f x334000 bt359.2.1 bt359.2.2 2).bind fun bt377 => (some (x5, bt377.1))))
end
def spec_DrawMerge.f (k : Nat) (l0 : List Int) : Option ((List (List (S33))) × Bool) := (spec_l1New.f k l0).bind fun bt330 => ((spec_l1Below.f bt330.1 bt330.2.1 bt330.2.2 5).bind fun bt337 => (spec_DrawMerge.l0 k (([] : List (List (S33)))) bt337.1 bt330.1 bt337.2.1 bt337.2.2))
theorem spec_DrawMerge.mono_l : ∀ k, (∀ y0 y1 y2 y3 y4, LeO (spec_DrawMerge.l0 k y0 y1 y2 y3 y4) (spec_DrawMerge.l0 (k + 1) y0 y1 y2 y3 y4)) ∧ (∀ y0 y1 y2 y3, LeO (spec_DrawMerge.j1 k y0 y1 y2 y3) (spec_DrawMerge.j1 (k + 1) y0 y1 y2 y3))
 | 0 => ⟨fun _ _ _ _ _ r h => by simp [spec_DrawMerge.l0] at h, fun _ _ _ _ r h => by simp [spec_DrawMerge.j1] at h⟩
 | k + 1 => by
  obtain ⟨ih0, ih1⟩ := spec_DrawMerge.mono_l k
  refine ⟨?_, ?_⟩
  ·intro y0 y1 y2 y3 y4
   unfold spec_DrawMerge.l0
   repeat' first
   | (with_reducible exact ih0 _ _ _ _ _)
   | (with_reducible exact ih1 _ _ _ _)
   | (with_reducible exact spec_l1New.mono _ _)
   | (with_reducible exact spec_l4List.mono _ _ _ _ _)
   | (with_reducible exact spec_l4ListAny.mono _ _ _ _ _)
   | (with_reducible exact LeO.refl _)
   | (with_reducible exact LeO.none _)
   | (with_reducible refine LeO.ite ?_ ?_)
   | (with_reducible refine LeO.bind ?_ (fun _ => ?_))
   | exact ih0 _ _ _ _ _
   | exact ih1 _ _ _ _
   | exact spec_l1New.mono _ _
   | exact spec_l4List.mono _ _ _ _ _
   | exact spec_l4ListAny.mono _ _ _ _ _
   | exact LeO.none _
   | refine LeO.ite ?_ ?_
   | refine LeO.bind ?_ (fun _ => ?_)
  ·intro y0 y1 y2 y3
   unfold spec_DrawMerge.j1
   repeat' first
   | (with_reducible exact ih0 _ _ _ _ _)
   | (with_reducible exact ih1 _ _ _ _)
   | (with_reducible exact spec_l1New.mono _ _)
   | (with_reducible exact spec_l4List.mono _ _ _ _ _)
   | (with_reducible exact spec_l4ListAny.mono _ _ _ _ _)
   | (with_reducible exact LeO.refl _)
   | (with_reducible exact LeO.none _)
   | (with_reducible refine LeO.ite ?_ ?_)
   | (with_reducible refine LeO.bind ?_ (fun _ => ?_))
   | exact ih0 _ _ _ _ _
   | exact ih1 _ _ _ _
   | exact spec_l1New.mono _ _
   | exact spec_l4List.mono _ _ _ _ _
   | exact spec_l4ListAny.mono _ _ _ _ _
   | exact LeO.none _
   | refine LeO.ite ?_ ?_
   | refine LeO.bind ?_ (fun _ => ?_)
theorem spec_DrawMerge.mono : ∀ a0 k, LeO (spec_DrawMerge.f k a0) (spec_DrawMerge.f (k + 1) a0) := by
 intro a0 k
 obtain ⟨ih0, ih1⟩ := spec_DrawMerge.mono_l k
 unfold spec_DrawMerge.f
 repeat' first
   | (with_reducible exact ih0 _ _ _ _ _)
   | (with_reducible exact ih1 _ _ _ _)
   | (with_reducible exact spec_l1New.mono _ _)
   | (with_reducible exact spec_l4List.mono _ _ _ _ _)
   | (with_reducible exact spec_l4ListAny.mono _ _ _ _ _)
   | (with_reducible exact LeO.refl _)
   | (with_reducible exact LeO.none _)
   | (with_reducible refine LeO.ite ?_ ?_)
   | (with_reducible refine LeO.bind ?_ (fun _ => ?_))
   | exact ih0 _ _ _ _ _
   | exact ih1 _ _ _ _
   | exact spec_l1New.mono _ _
   | exact spec_l4List.mono _ _ _ _ _
   | exact spec_l4ListAny.mono _ _ _ _ _
   | exact LeO.none _
   | refine LeO.ite ?_ ?_
   | refine LeO.bind ?_ (fun _ => ?_)
set_option maxHeartbeats 8000000 in
set_option maxRecDepth 100000 in
theorem spec_DrawMerge.calls (k : Nat) (A0 : Option Addr) (c0 : Nat) (l0 : List Int) (r1 : List (List (S33))) (r2 : Bool) (w : World) (hr0 : Kd.C (Kd.int .u8) w A0 l0.length l0) (hc0 : l0.length ≤ c0) (h : spec_DrawMerge.f k l0 = some (r1, r2)) :
  Calls Try.prog 63 #[.slice A0 l0.length c0] w fun e w' => ∃ v0_ : Value, e = .returned (.tuple #[v0_, .bool r2]) ∧ Kd.S (Kd.slice 33 k33) 90 w' w.heap.size (fun _ => True) v0_ r1 ∧ Below w.heap.size w w' := by
 have HR0 := mS hr0
 have HC0 := mS hc0
 clear hr0 hc0
 have HB := mS (Below.refl w.heap.size w)
 have H : ((spec_l1New.f k l0).bind fun bt330 => ((spec_l1Below.f bt330.1 bt330.2.1 bt330.2.2 5).bind fun bt337 => (spec_DrawMerge.l0 k (([] : List (List (S33)))) bt337.1 bt330.1 bt337.2.1 bt337.2.2))) = some (r1, r2) := h
 clear h
 replace H := Option.bind_eq_some_iff.mp H
 obtain ⟨⟨t330, t331, t332⟩, A20, H⟩ := H
 replace H : ((spec_l1Below.f t330 t331 t332 5).bind fun bt337 => (spec_DrawMerge.l0 k (([] : List (List (S33)))) bt337.1 t330 bt337.2.1 bt337.2.2)) = some (r1, r2) := H
 have A2 := mS A20
 clear A20
 obtain ⟨y334, hy334⟩ : ∃ y_ : List (List (S33)), y_ = (([] : List (List (S33)))) := ⟨_, rfl⟩
 replace H : ((spec_l1Below.f t330 t331 t332 5).bind fun bt337 => (spec_DrawMerge.l0 k y334 bt337.1 t330 bt337.2.1 bt337.2.2)) = some (r1, r2) := by first | (rw [hy334]; with_reducible exact H) | (have H2_ := (Option.bind_some _ _).symm.trans H; rw [hy334]; with_reducible exact H2_) | (have H2_ := (Option.bind_some _ _).symm.trans H; with_reducible exact H2_) | with_reducible exact H | (rw [hy334]; exact H) | exact H
 have Ny334 := mS hy334
 clear hy334
 replace H := Option.bind_eq_some_iff.mp H
 obtain ⟨⟨t337, t338, t339⟩, A30, H⟩ := H
 replace H : (spec_DrawMerge.l0 k y334 t337 t330 t338 t339) = some (r1, r2) := H
 have A3 := mS A30
 clear A30
 have H' := mS H
 clear H
 go_enter Try.func63, Try.ntmps63
 go_wp2_with (first | ((with_reducible refine gate_callee (f := 78) rfl ?_); refine goesL_ (some 8) rfl rfl Try.func78 (by kernel_rfl) rfl #[.slice A0 l0.length c0] rfl mA ?_; (with_reducible refine (spec_l1New.calls k _ _ l0 t330 t331 t332 w _ ?side1 ?side2 ?side3 A2.out).mono ?_); (case side1 => repeat (first | (with_reducible first | exact HB.out | apply below_alloc | apply pw_below_drewN | apply below_drew1) | exact HB.out)); (case side2 => exact HR0.out); (case side3 => exact HC0.out); rintro e w4 ⟨g333, rfl, hi, hb, hb2⟩; refine ⟨_, rfl, ?_⟩; replace HB := mS (hb); have HI333 := mS (hi); (try clear hb); (try clear hb2); (try clear hk); (try clear hi)) | ((with_reducible refine gate_dst (N := 9) rfl ?_); refine Kd.S_lit (Kd.slice 33 k33) _ 90 ?hg (N := 9) ?hd (xs := ([] : List (List (S33)))) (inner := []) (ok := fun _ => True) (okp := fun _ => True) ?hr ?hp (fun _ hk => hk) trivial (Below.refl _ _) (Nat.le_refl _) (by simp) ?_; (case hd => rfl); (case hg => rfl); (case hr => first | (go_simp; done) | (go_simp; rfl)); (case hp => exact (Reps.none _ _)); intro v335 w5 ho6 hb hg_ hnew_; clear hg_ hnew_; (first | rw [← Ny334.out] at ho6 | (simp only [Int.reduceToNat] at ho6; rw [← Ny334.out] at ho6)); have HO336 := mS (Kd.S_lower ho6 (below_size (mH63_1 HB.out (IsS167.ge HI333.out)))); replace HB := mS (below_step (mH63_1 HB.out (IsS167.ge HI333.out)) hb); replace HI333 := mS (IsS167.below (mI63_0 HI333.out) hb); clear hb ho6) | ((with_reducible refine gate_callee (f := 82) rfl ?_); refine goesL_ (some 11) rfl rfl Try.func82 (by kernel_rfl) rfl #[.pointer (some ⟨g333, 0, none⟩), .int .i64 5] rfl mA ?_; (with_reducible refine (spec_l1Below.calls g333 t330 t331 t332 5 t337 t338 t339 w _ ?side1 ?side2 A3.out).mono ?_); (case side1 => repeat (first | (with_reducible first | exact HI333.out | apply IsS167.alloc | apply IsS167.drewN | apply IsS167.drew | apply IsS167.set_1 | apply IsS167.set_2) | exact HI333.out)); (case side2 => repeat (first | (with_reducible first | exact HB.out | apply below_alloc | apply pw_below_drewN | apply below_drew1 | refine below_set ?_ (IsS167.ge HI333.out)) | exact HB.out)); rintro e w7 ⟨rfl, hi, hb, hk⟩; refine ⟨_, rfl, ?_⟩; replace HO336 := mS (Kd.S_mono (Kd.S_keep (IsS167.apartS (show IsS167 w _ g333 t330 t331 t332 from mI63_0 HI333.out) (by (with_reducible repeat (first | apply Kd.S_alloc | apply Kd.S_drewN | apply Kd.S_drew)); exact HO336.out) (by decide)) hk (fun _ h => h.2)) (fun _ h => h.1)); replace HB := mS (hb); replace HI333 := mS (hi); (try clear hb); (try clear hb2); (try clear hk); (try clear hi)))
 go_loopg [5, 6] k (fun kq v5 v6 w' => ∃ (x5_1 : List (List (S33))) (x6_1 : Int) (x334001_1 : Int) (x334002_1 : Int), v6 = .int .i64 x6_1 ∧ Aside0 (spec_DrawMerge.l0 kq x5_1 x6_1 t330 x334001_1 x334002_1 = some (r1, r2)) ∧ Aside0 (kq ≤ k) ∧ Aside0 (Kd.S (Kd.slice 33 k33) 90 w' w.heap.size (fun _ => True) v5 x5_1) ∧ Aside0 (IsS167 w w' g333 t330 x334001_1 x334002_1) ∧ Aside0 (Below w.heap.size w w'))
 case atStart => exact ⟨(y334), (t337), (t338), (t339), (by first | rfl | (simp; done) | (simp [*]; done)), H', ⟨Nat.le_refl _⟩, ⟨by (with_reducible repeat (first | apply Kd.S_alloc | apply Kd.S_drewN | apply Kd.S_drew)); exact HO336.out⟩, ⟨mI63_0 HI333.out⟩, ⟨mH63_1 HB.out (IsS167.ge HI333.out)⟩⟩
 case round =>
  clear H'
  try clear p2
  try clear c6
  try clear c7
  obtain ⟨x5_1, x6_1, x334001_1, x334002_1, rfl, HA, HK1, HO_5, HI333, HB⟩ := hrel
  cases gk with
  | zero => exact absurd HA.out (by simp [spec_DrawMerge.l0])
  | succ k1 =>
   have H := HA.out
   clear HA
   simp only [spec_DrawMerge.l0] at H
   by_cases c8 : x6_1 > 0
   ·rw [if_pos c8] at H
    have c8b0 : decide (0 < x6_1) = true := decide_eq_true c8
    clear c8
    replace H := Option.bind_eq_some_iff.mp H
    obtain ⟨⟨t340, t343, t344⟩, A90, H⟩ := H
    replace H : (if x5_1.length < 5864062014805 then (spec_DrawMerge.l0 k1 (x5_1 ++ [t340]) (wrap64 (x6_1 - 1)) t330 t343 t344) else (none)) = some (r1, r2) := H
    have A9 := mS A90
    clear A90
    by_cases c10 : x5_1.length < 5864062014805
    ·rw [if_pos c10] at H
     have LMc10 := mS c10
     clear c10
     obtain ⟨y345, hy345⟩ : ∃ y_ : List (List (S33)), y_ = (x5_1 ++ [t340]) := ⟨_, rfl⟩
     replace H : (spec_DrawMerge.l0 k1 y345 (wrap64 (x6_1 - 1)) t330 t343 t344) = some (r1, r2) := by first | (rw [hy345]; with_reducible exact H) | (have H2_ := (Option.bind_some _ _).symm.trans H; rw [hy345]; with_reducible exact H2_) | (have H2_ := (Option.bind_some _ _).symm.trans H; with_reducible exact H2_) | with_reducible exact H | (rw [hy345]; exact H) | exact H
     have Ny345 := mS hy345
     clear hy345
     have H' := mS H
     clear H
     go_wp2_with (first | ((with_reducible refine gate_callee (f := 114) rfl ?_); refine goesL_ (some 18) rfl rfl Try.func114 (by kernel_rfl) rfl #[.pointer (some ⟨g333, 0, none⟩), .int .i64 8] rfl mA ?_; (with_reducible refine (spec_l4List.calls k1 g333 t330 x334001_1 x334002_1 8 t340 t343 t344 w _ ?side1 ?side2 A9.out).mono ?_); (case side1 => repeat (first | (with_reducible first | exact HI333.out | apply IsS167.alloc | apply IsS167.drewN | apply IsS167.drew | apply IsS167.set_1 | apply IsS167.set_2) | exact HI333.out)); (case side2 => repeat (first | (with_reducible first | exact HB.out | apply below_alloc | apply pw_below_drewN | apply below_drew1 | refine below_set ?_ (IsS167.ge HI333.out)) | exact HB.out)); rintro e w11 ⟨v341, rfl, ho0, hi, hb, hk⟩; refine ⟨_, rfl, ?_⟩; replace HO_5 := mS (Kd.S_mono (Kd.S_told (Kd.S_oldK (IsS167.apartS (show IsS167 w _ g333 t330 x334001_1 x334002_1 from mI63_0 HI333.out) (by (with_reducible repeat (first | apply Kd.S_alloc | apply Kd.S_drewN | apply Kd.S_drew)); exact HO_5.out) (by decide)) hk) (Kd.R_base ho0)) (fun _ h_ => h_.1)); have HO342 := mS (Kd.R_lower ho0 (below_size (mH63_1 HB.out (IsS167.ge HI333.out)))); replace HB := mS (hb); replace HI333 := mS (hi); (try clear hb); (try clear hb2); (try clear hk); (try clear hi); (try clear ho0); obtain ⟨Ao13, co13, eo13⟩ := Kd.R_slice HO342.out; subst eo13) | ((with_reducible refine gate_builtin (b := .append) (xs := #[.tmp 16, .tmp 19]) rfl ?_); at_builtin; refine Kd.S_append (Kd.slice 33 k33) (w0 := w) w.heap.size rfl (.tmp 16) (.tmp 19) 92 90 (.slice none 0 0) 24 rfl Try.underlying92 info90 rfl (by decide) (by omega) u5 x5_1 t340 [.slice Ao13 t340.length co13] (fun _ => True) (fun k_ => some k_ = (.slice Ao13 t340.length co13 : Value).ownBlock) rfl rfl ?aP (fun k_ hk_ => ((Kd.R_mono (ok' := fun k_ => ((fun _ => True)) k_ ∧ some k_ ≠ (u5 : Value).ownBlock) (Kd.R_apart' (HO342.out) (Kd.S_typed HO_5.out) (by decide)) (fun k_ hk => ⟨trivial, hk.2⟩))).1 k_ hk_.symm) ?aF ?aO ?aB ?aS ?aL ?_; (case aP => exact Kd.M_row (Kd.R_mono (Kd.R_tight rfl (Kd.R_mono (ok' := fun k_ => ((fun _ => True)) k_ ∧ some k_ ≠ (u5 : Value).ownBlock) (Kd.R_apart' (HO342.out) (Kd.S_typed HO_5.out) (by decide)) (fun k_ hk => ⟨trivial, hk.2⟩))) (fun _ h_ => h_))); (case aB => exact (mH63_1 HB.out (IsS167.ge HI333.out))); (case aF => exact (fun _ _ => trivial)); (case aO => exact (by (with_reducible repeat (first | apply Kd.S_alloc | apply Kd.S_drewN | apply Kd.S_drew)); exact Kd.S_mono HO_5.out (fun k_ hk => ⟨trivial, fun e_ => hk.2 e_⟩))); (case aS => exact (below_size (mH63_1 HB.out (IsS167.ge HI333.out)))); (case aL => have := LMc10.out; omega); intro v346 w12 ho hb hg hat; rw [← Ny345.out] at ho; replace HI333 := mS (IsS167.grown (mI63_0 HI333.out) hg (IsS167.own_neS HI333.out HO_5.out (by decide))); replace HB := mS (hb); have HO347 := mS (ho); clear HO_5; clear HO342; clear ho hb hg hat))
     go_roundg k1
     case measure => have := HK1.out; omega
     case rel => exact ⟨(y345), (wrap64 (x6_1 - 1)), (t343), (t344), (by first | rfl | (simp; done) | (simp [*]; done)), H', ⟨by have := HK1.out; omega⟩, ⟨by (with_reducible repeat (first | apply Kd.S_alloc | apply Kd.S_drewN | apply Kd.S_drew)); exact HO347.out⟩, ⟨mI63_0 HI333.out⟩, ⟨mH63_1 HB.out (IsS167.ge HI333.out)⟩⟩
    ·rw [if_neg c10] at H
     exact absurd H (by simp)
   ·rw [if_neg c8] at H
    have c8b0 : decide (0 < x6_1) = false := decide_eq_false c8
    clear c8
    replace H := Option.bind_eq_some_iff.mp H
    obtain ⟨⟨t348, t349, t350⟩, A140, H⟩ := H
    replace H : (if t348 = true then ((spec_l4ListAny.f k1 t330 t349 t350 8).bind fun bt351 => (if x5_1.length < 5864062014805 then (spec_DrawMerge.j1 k1 (x5_1 ++ [bt351.1]) t330 bt351.2.1 bt351.2.2) else (none))) else (spec_DrawMerge.j1 k1 x5_1 t330 t349 t350)) = some (r1, r2) := H
    have A14 := mS A140
    clear A140
    have HC15 := mS H
    clear H
    go_upto_if 22 with (first | ((with_reducible refine gate_callee (f := 81) rfl ?_); refine goesL_ (some 22) rfl rfl Try.func81 (by kernel_rfl) rfl #[.pointer (some ⟨g333, 0, none⟩), .int .i64 8] rfl mA ?_; (with_reducible refine (spec_l1Once.calls g333 t330 x334001_1 x334002_1 8 t348 t349 t350 w _ ?side1 ?side2 A14.out).mono ?_); (case side1 => repeat (first | (with_reducible first | exact HI333.out | apply IsS167.alloc | apply IsS167.drewN | apply IsS167.drew | apply IsS167.set_1 | apply IsS167.set_2) | exact HI333.out)); (case side2 => repeat (first | (with_reducible first | exact HB.out | apply below_alloc | apply pw_below_drewN | apply below_drew1 | refine below_set ?_ (IsS167.ge HI333.out)) | exact HB.out)); rintro e w16 ⟨rfl, hi, hb, hk⟩; refine ⟨_, rfl, ?_⟩; replace HO_5 := mS (Kd.S_mono (Kd.S_keep (IsS167.apartS (show IsS167 w _ g333 t330 x334001_1 x334002_1 from mI63_0 HI333.out) (by (with_reducible repeat (first | apply Kd.S_alloc | apply Kd.S_drewN | apply Kd.S_drew)); exact HO_5.out) (by decide)) hk (fun _ h => h.2)) (fun _ h => h.1)); replace HB := mS (hb); replace HI333 := mS (hi); (try clear hb); (try clear hb2); (try clear hk); (try clear hi)))
    (try simp only [Act.put, zA, zB, zC])
    go_cut [5] (fun v5 wc => ∃ (kq : Nat) (x5_14 : List (List (S33))) (x334001_14 : Int) (x334002_14 : Int), Aside0 (spec_DrawMerge.j1 kq x5_14 t330 x334001_14 x334002_14 = some (r1, r2)) ∧ Aside0 (kq ≤ k1) ∧ Aside0 (Kd.S (Kd.slice 33 k33) 90 wc w.heap.size (fun _ => True) v5 x5_14) ∧ Aside0 (IsS167 w wc g333 t330 x334001_14 x334002_14) ∧ Aside0 (Below w.heap.size w wc))
    case first =>
     have H := HC15.out
     clear HC15
     by_cases c17 : t348 = true
     ·subst c17
      have H1 : ((spec_l4ListAny.f k1 t330 t349 t350 8).bind fun bt351 => (if x5_1.length < 5864062014805 then (spec_DrawMerge.j1 k1 (x5_1 ++ [bt351.1]) t330 bt351.2.1 bt351.2.2) else (none))) = some (r1, r2) := by rw [if_pos rfl] at H; exact H
      clear H
      have H := H1
      clear H1
      replace H := Option.bind_eq_some_iff.mp H
      obtain ⟨⟨t351, t354, t355⟩, A180, H⟩ := H
      replace H : (if x5_1.length < 5864062014805 then (spec_DrawMerge.j1 k1 (x5_1 ++ [t351]) t330 t354 t355) else (none)) = some (r1, r2) := H
      have A18 := mS A180
      clear A180
      by_cases c19 : x5_1.length < 5864062014805
      ·rw [if_pos c19] at H
       have LMc19 := mS c19
       clear c19
       obtain ⟨y356, hy356⟩ : ∃ y_ : List (List (S33)), y_ = (x5_1 ++ [t351]) := ⟨_, rfl⟩
       replace H : (spec_DrawMerge.j1 k1 y356 t330 t354 t355) = some (r1, r2) := by first | (rw [hy356]; with_reducible exact H) | (have H2_ := (Option.bind_some _ _).symm.trans H; rw [hy356]; with_reducible exact H2_) | (have H2_ := (Option.bind_some _ _).symm.trans H; with_reducible exact H2_) | with_reducible exact H | (rw [hy356]; exact H) | exact H
       have Ny356 := mS hy356
       clear hy356
       have H' := mS H
       clear H
       go_wp2_with (first | ((with_reducible refine gate_callee (f := 115) rfl ?_); refine goesL_ (some 25) rfl rfl Try.func115 (by kernel_rfl) rfl #[.pointer (some ⟨g333, 0, none⟩), .int .i64 8] rfl mA ?_; (with_reducible refine (spec_l4ListAny.calls k1 g333 t330 t349 t350 8 t351 t354 t355 w _ ?side1 ?side2 A18.out).mono ?_); (case side1 => repeat (first | (with_reducible first | exact HI333.out | apply IsS167.alloc | apply IsS167.drewN | apply IsS167.drew | apply IsS167.set_1 | apply IsS167.set_2) | exact HI333.out)); (case side2 => repeat (first | (with_reducible first | exact HB.out | apply below_alloc | apply pw_below_drewN | apply below_drew1 | refine below_set ?_ (IsS167.ge HI333.out)) | exact HB.out)); rintro e w20 ⟨v352, rfl, ho0, hi, hb, hk⟩; refine ⟨_, rfl, ?_⟩; replace HO_5 := mS (Kd.S_mono (Kd.S_told (Kd.S_oldK (IsS167.apartS (show IsS167 w _ g333 t330 t349 t350 from mI63_0 HI333.out) (by (with_reducible repeat (first | apply Kd.S_alloc | apply Kd.S_drewN | apply Kd.S_drew)); exact HO_5.out) (by decide)) hk) (Kd.R_base ho0)) (fun _ h_ => h_.1)); have HO353 := mS (Kd.R_lower ho0 (below_size (mH63_1 HB.out (IsS167.ge HI333.out)))); replace HB := mS (hb); replace HI333 := mS (hi); (try clear hb); (try clear hb2); (try clear hk); (try clear hi); (try clear ho0); obtain ⟨Ao22, co22, eo22⟩ := Kd.R_slice HO353.out; subst eo22) | ((with_reducible refine gate_builtin (b := .append) (xs := #[.tmp 23, .tmp 26]) rfl ?_); at_builtin; refine Kd.S_append (Kd.slice 33 k33) (w0 := w) w.heap.size rfl (.tmp 23) (.tmp 26) 92 90 (.slice none 0 0) 24 rfl Try.underlying92 info90 rfl (by decide) (by omega) u5 x5_1 t351 [.slice Ao22 t351.length co22] (fun _ => True) (fun k_ => some k_ = (.slice Ao22 t351.length co22 : Value).ownBlock) rfl rfl ?aP (fun k_ hk_ => ((Kd.R_mono (ok' := fun k_ => ((fun _ => True)) k_ ∧ some k_ ≠ (u5 : Value).ownBlock) (Kd.R_apart' (HO353.out) (Kd.S_typed HO_5.out) (by decide)) (fun k_ hk => ⟨trivial, hk.2⟩))).1 k_ hk_.symm) ?aF ?aO ?aB ?aS ?aL ?_; (case aP => exact Kd.M_row (Kd.R_mono (Kd.R_tight rfl (Kd.R_mono (ok' := fun k_ => ((fun _ => True)) k_ ∧ some k_ ≠ (u5 : Value).ownBlock) (Kd.R_apart' (HO353.out) (Kd.S_typed HO_5.out) (by decide)) (fun k_ hk => ⟨trivial, hk.2⟩))) (fun _ h_ => h_))); (case aB => exact (mH63_1 HB.out (IsS167.ge HI333.out))); (case aF => exact (fun _ _ => trivial)); (case aO => exact (by (with_reducible repeat (first | apply Kd.S_alloc | apply Kd.S_drewN | apply Kd.S_drew)); exact Kd.S_mono HO_5.out (fun k_ hk => ⟨trivial, fun e_ => hk.2 e_⟩))); (case aS => exact (below_size (mH63_1 HB.out (IsS167.ge HI333.out)))); (case aL => have := LMc19.out; omega); intro v357 w21 ho hb hg hat; rw [← Ny356.out] at ho; replace HI333 := mS (IsS167.grown (mI63_0 HI333.out) hg (IsS167.own_neS HI333.out HO_5.out (by decide))); replace HB := mS (hb); have HO358 := mS (ho); clear HO_5; clear HO353; clear ho hb hg hat))
       go_meet
       case rel => exact ⟨_, (y356), (t354), (t355), H', ⟨by have := HK1.out; first | omega | exact Nat.le_refl _⟩, ⟨by (with_reducible repeat (first | apply Kd.S_alloc | apply Kd.S_drewN | apply Kd.S_drew)); exact HO358.out⟩, ⟨mI63_0 HI333.out⟩, ⟨mH63_1 HB.out (IsS167.ge HI333.out)⟩⟩
      ·rw [if_neg c19] at H
       exact absurd H (by simp)
     ·replace c17 := Bool.eq_false_iff.mpr c17
      subst c17
      have H1 : (spec_DrawMerge.j1 k1 x5_1 t330 t349 t350) = some (r1, r2) := by rw [if_neg (show ¬ (false = true) by decide)] at H; exact H
      clear H
      have H := H1
      clear H1
      have H' := mS H
      clear H
      go_wp2
      go_meet
      case rel => exact ⟨_, (x5_1), (t349), (t350), H', ⟨by have := HK1.out; first | omega | exact Nat.le_refl _⟩, ⟨by (with_reducible repeat (first | apply Kd.S_alloc | apply Kd.S_drewN | apply Kd.S_drew)); exact HO_5.out⟩, ⟨mI63_0 HI333.out⟩, ⟨mH63_1 HB.out (IsS167.ge HI333.out)⟩⟩
    case rest =>
     clear HC15
     try clear c1
     try clear p2
     try clear c6
     try clear p6
     try clear c7
     try clear c8
     try clear c8b0
     try clear c10
     try clear c11
     try clear c17
     try clear c19
     try clear p2
     obtain ⟨kq, x5_14, x334001_14, x334002_14, HA, HJ14, HO_5, HI333, HB⟩ := hcut
     cases kq with
     | zero => exact absurd HA.out (by simp [spec_DrawMerge.j1])
     | succ kj14 =>
      have H := HA.out
      clear HA
      simp only [spec_DrawMerge.j1] at H
      replace H := Option.bind_eq_some_iff.mp H
      obtain ⟨⟨t359, t360, t361⟩, A230, H⟩ := H
      replace H : (if t359 = true then ((spec_l1Below.f t330 t360 t361 2).bind fun bt362 => (if 0 ≤ (wrap64 (10 + bt362.1)) then (if (wrap64 (10 + bt362.1) : Int).toNat ≤ 11728124029610 then ((some (List.replicate (wrap64 (10 + bt362.1) : Int).toNat [] : List (List (S33)))).bind fun y365 => ((spec_l4List.f kj14 t330 bt362.2.1 bt362.2.2 5).bind fun bt368 => (if 0 < (y365.length : Int) then ((spec_l1Once.f t330 bt368.2.1 bt368.2.2 2).bind fun bt374 => (some ((y365.set (0 : Int).toNat bt368.1), bt374.1))) else (none)))) else (none)) else (none))) else ((spec_l1Once.f t330 t360 t361 2).bind fun bt377 => (some (x5_14, bt377.1)))) = some (r1, r2) := H
      have A23 := mS A230
      clear A230
      by_cases c24 : t359 = true
      ·subst c24
       have H1 : ((spec_l1Below.f t330 t360 t361 2).bind fun bt362 => (if 0 ≤ (wrap64 (10 + bt362.1)) then (if (wrap64 (10 + bt362.1) : Int).toNat ≤ 11728124029610 then ((some (List.replicate (wrap64 (10 + bt362.1) : Int).toNat [] : List (List (S33)))).bind fun y365 => ((spec_l4List.f kj14 t330 bt362.2.1 bt362.2.2 5).bind fun bt368 => (if 0 < (y365.length : Int) then ((spec_l1Once.f t330 bt368.2.1 bt368.2.2 2).bind fun bt374 => (some ((y365.set (0 : Int).toNat bt368.1), bt374.1))) else (none)))) else (none)) else (none))) = some (r1, r2) := by rw [if_pos rfl] at H; exact H
       clear H
       have H := H1
       clear H1
       replace H := Option.bind_eq_some_iff.mp H
       obtain ⟨⟨t362, t363, t364⟩, A250, H⟩ := H
       replace H : (if 0 ≤ (wrap64 (10 + t362)) then (if (wrap64 (10 + t362) : Int).toNat ≤ 11728124029610 then ((some (List.replicate (wrap64 (10 + t362) : Int).toNat [] : List (List (S33)))).bind fun y365 => ((spec_l4List.f kj14 t330 t363 t364 5).bind fun bt368 => (if 0 < (y365.length : Int) then ((spec_l1Once.f t330 bt368.2.1 bt368.2.2 2).bind fun bt374 => (some ((y365.set (0 : Int).toNat bt368.1), bt374.1))) else (none)))) else (none)) else (none)) = some (r1, r2) := H
       have A25 := mS A250
       clear A250
       obtain ⟨ji26, hji26⟩ : ∃ j_ : Int, (wrap64 (10 + t362)) = j_ := ⟨_, rfl⟩
       replace H : (if 0 ≤ (ji26) then (if (ji26 : Int).toNat ≤ 11728124029610 then ((some (List.replicate (ji26 : Int).toNat [] : List (List (S33)))).bind fun y365 => ((spec_l4List.f kj14 t330 t363 t364 5).bind fun bt368 => (if 0 < (y365.length : Int) then ((spec_l1Once.f t330 bt368.2.1 bt368.2.2 2).bind fun bt374 => (some ((y365.set (0 : Int).toNat bt368.1), bt374.1))) else (none)))) else (none)) else (none)) = some (r1, r2) := by first | (rw [hji26] at H; exact H) | (simp only [hji26] at H ⊢; exact H)
       (try rw [hji26] at A23)
       (try rw [hji26] at A25)
       have hji26w : (IntKind.i64.wrap (10 + t362)) = ji26 := (i64_w _).trans hji26
       by_cases c27 : 0 ≤ (ji26)
       ·rw [if_pos c27] at H
        have c27b0 := eq_true c27
        have c27b1 : decide (0 ≤ (ji26)) = true := decide_eq_true c27
        clear c27
        by_cases c28 : (ji26 : Int).toNat ≤ 11728124029610
        ·rw [if_pos c28] at H
         have c28b0 := eq_true c28
         have c28b1 : decide ((ji26 : Int).toNat ≤ 11728124029610) = true := decide_eq_true c28
         clear c28
         obtain ⟨y365, hy365⟩ : ∃ y_ : List (List (S33)), y_ = (List.replicate (ji26 : Int).toNat []) := ⟨_, rfl⟩
         replace H : ((spec_l4List.f kj14 t330 t363 t364 5).bind fun bt368 => (if 0 < (y365.length : Int) then ((spec_l1Once.f t330 bt368.2.1 bt368.2.2 2).bind fun bt374 => (some ((y365.set (0 : Int).toNat bt368.1), bt374.1))) else (none))) = some (r1, r2) := by first | (rw [hy365]; with_reducible exact H) | (have H2_ := (Option.bind_some _ _).symm.trans H; rw [hy365]; with_reducible exact H2_) | (have H2_ := (Option.bind_some _ _).symm.trans H; with_reducible exact H2_) | with_reducible exact H | (rw [hy365]; exact H) | exact H
         have Ny365 := mS hy365
         clear hy365
         replace H := Option.bind_eq_some_iff.mp H
         obtain ⟨⟨t368, t371, t372⟩, A290, H⟩ := H
         replace H : (if 0 < (y365.length : Int) then ((spec_l1Once.f t330 t371 t372 2).bind fun bt374 => (some ((y365.set (0 : Int).toNat t368), bt374.1))) else (none)) = some (r1, r2) := H
         have A29 := mS A290
         clear A290
         by_cases c30 : 0 < (y365.length : Int)
         ·rw [if_pos c30] at H
          have c30b0 : decide (0 < (y365.length : Int)) = true := decide_eq_true c30
          have c30b1 : decide (0 < y365.length) = true := decide_eq_true (by omega)
          clear c30
          obtain ⟨y373, hy373⟩ : ∃ y_ : List (List (S33)), y_ = (y365.set (0 : Int).toNat t368) := ⟨_, rfl⟩
          replace H : ((spec_l1Once.f t330 t371 t372 2).bind fun bt374 => (some (y373, bt374.1))) = some (r1, r2) := by first | (rw [hy373]; with_reducible exact H) | (have H2_ := (Option.bind_some _ _).symm.trans H; rw [hy373]; with_reducible exact H2_) | (have H2_ := (Option.bind_some _ _).symm.trans H; with_reducible exact H2_) | with_reducible exact H | (rw [hy373]; exact H) | exact H
          have Ny373 := mS hy373
          clear hy373
          replace H := Option.bind_eq_some_iff.mp H
          obtain ⟨⟨t374, t375, t376⟩, A320, H⟩ := H
          replace H : (some (y373, t374)) = some (r1, r2) := H
          have A32 := mS A320
          clear A320
          simp only [Option.some.injEq, Prod.mk.injEq] at H
          obtain ⟨rfl, rfl⟩ := H
          go_wp2_with (first | ((with_reducible refine gate_callee (f := 81) rfl ?_); refine goesL_ (some 29) rfl rfl Try.func81 (by kernel_rfl) rfl #[.pointer (some ⟨g333, 0, none⟩), .int .i64 30] rfl mA ?_; (with_reducible refine (spec_l1Once.calls g333 t330 x334001_14 x334002_14 30 true t360 t361 w _ ?side1 ?side2 A23.out).mono ?_); (case side1 => repeat (first | (with_reducible first | exact HI333.out | apply IsS167.alloc | apply IsS167.drewN | apply IsS167.drew | apply IsS167.set_1 | apply IsS167.set_2) | exact HI333.out)); (case side2 => repeat (first | (with_reducible first | exact HB.out | apply below_alloc | apply pw_below_drewN | apply below_drew1 | refine below_set ?_ (IsS167.ge HI333.out)) | exact HB.out)); rintro e w33 ⟨rfl, hi, hb, hk⟩; refine ⟨_, rfl, ?_⟩; replace HO_5 := mS (Kd.S_mono (Kd.S_keep (IsS167.apartS (show IsS167 w _ g333 t330 x334001_14 x334002_14 from mI63_0 HI333.out) (by (with_reducible repeat (first | apply Kd.S_alloc | apply Kd.S_drewN | apply Kd.S_drew)); exact HO_5.out) (by decide)) hk (fun _ h => h.2)) (fun _ h => h.1)); replace HB := mS (hb); replace HI333 := mS (hi); (try clear hb); (try clear hb2); (try clear hk); (try clear hi)) | ((with_reducible refine gate_callee (f := 82) rfl ?_); refine goesL_ (some 31) rfl rfl Try.func82 (by kernel_rfl) rfl #[.pointer (some ⟨g333, 0, none⟩), .int .i64 2] rfl mA ?_; (with_reducible refine (spec_l1Below.calls g333 t330 t360 t361 2 t362 t363 t364 w _ ?side1 ?side2 A25.out).mono ?_); (case side1 => repeat (first | (with_reducible first | exact HI333.out | apply IsS167.alloc | apply IsS167.drewN | apply IsS167.drew | apply IsS167.set_1 | apply IsS167.set_2) | exact HI333.out)); (case side2 => repeat (first | (with_reducible first | exact HB.out | apply below_alloc | apply pw_below_drewN | apply below_drew1 | refine below_set ?_ (IsS167.ge HI333.out)) | exact HB.out)); rintro e w34 ⟨rfl, hi, hb, hk⟩; refine ⟨_, rfl, ?_⟩; replace HO_5 := mS (Kd.S_mono (Kd.S_keep (IsS167.apartS (show IsS167 w _ g333 t330 t360 t361 from mI63_0 HI333.out) (by (with_reducible repeat (first | apply Kd.S_alloc | apply Kd.S_drewN | apply Kd.S_drew)); exact HO_5.out) (by decide)) hk (fun _ h => h.2)) (fun _ h => h.1)); replace HB := mS (hb); replace HI333 := mS (hi); (try clear hb); (try clear hb2); (try clear hk); (try clear hi)) | ((with_reducible refine gate_dst (N := 33) rfl ?_); refine Kd.S_make (Kd.slice 33 k33) _ 90 rfl (N := 33) rfl 92 _ _ rfl ji26 rfl rfl Try.underlying92 (.slice none 0 0) 24 info90 rfl (by decide) (by omega) [] (ok := fun _ => True) (okp := fun _ => True) ⟨_, rfl, Kd.R_nil _ _ _ _ _⟩ (fun _ hk => hk) trivial (of_decide_eq_true (by first | (with_reducible assumption) | assumption)) (Nat.le_trans (Nat.mul_le_mul_right _ (of_decide_eq_true (by first | (with_reducible assumption) | assumption) : ji26.toNat ≤ 11728124029610)) (by omega)) (Below.refl _ _) (Nat.le_refl _) ?_; intro v366 w35 ho36 hb hg_ hnew_; clear hg_ hnew_; (first | rw [← Ny365.out] at ho36 | (simp only [Int.reduceToNat] at ho36; rw [← Ny365.out] at ho36)); have HO367 := mS (Kd.S_lower (Kd.S_new' ho36 (Kd.S_lt (by (with_reducible repeat (first | apply Kd.S_alloc | apply Kd.S_drewN | apply Kd.S_drew)); exact HO_5.out))) (below_size (mH63_1 HB.out (IsS167.ge HI333.out)))); replace HO_5 := mS (Kd.S_elder' (by (with_reducible repeat (first | apply Kd.S_alloc | apply Kd.S_drewN | apply Kd.S_drew)); exact HO_5.out) (Kd.S_base ho36) hb); replace HB := mS (below_step (mH63_1 HB.out (IsS167.ge HI333.out)) hb); replace HI333 := mS (IsS167.below (mI63_0 HI333.out) hb); clear hb ho36) | ((with_reducible refine gate_callee (f := 114) rfl ?_); refine goesL_ (some 36) rfl rfl Try.func114 (by kernel_rfl) rfl #[.pointer (some ⟨g333, 0, none⟩), .int .i64 5] rfl mA ?_; (with_reducible refine (spec_l4List.calls kj14 g333 t330 t363 t364 5 t368 t371 t372 w _ ?side1 ?side2 A29.out).mono ?_); (case side1 => repeat (first | (with_reducible first | exact HI333.out | apply IsS167.alloc | apply IsS167.drewN | apply IsS167.drew | apply IsS167.set_1 | apply IsS167.set_2) | exact HI333.out)); (case side2 => repeat (first | (with_reducible first | exact HB.out | apply below_alloc | apply pw_below_drewN | apply below_drew1 | refine below_set ?_ (IsS167.ge HI333.out)) | exact HB.out)); rintro e w37 ⟨v369, rfl, ho0, hi, hb, hk⟩; refine ⟨_, rfl, ?_⟩; replace HO_5 := mS (Kd.S_mono (Kd.S_told (Kd.S_oldK (IsS167.apartS (show IsS167 w _ g333 t330 t363 t364 from mI63_0 HI333.out) (by (with_reducible repeat (first | apply Kd.S_alloc | apply Kd.S_drewN | apply Kd.S_drew)); exact HO_5.out) (by decide)) hk) (Kd.R_base ho0)) (fun _ h_ => h_.1)); replace HO367 := mS (Kd.S_mono (Kd.S_told (Kd.S_oldK (IsS167.apartS (show IsS167 w _ g333 t330 t363 t364 from mI63_0 HI333.out) (by (with_reducible repeat (first | apply Kd.S_alloc | apply Kd.S_drewN | apply Kd.S_drew)); exact HO367.out) (by decide)) hk) (Kd.R_base ho0)) (fun _ h_ => h_.1)); have HO370 := mS (Kd.R_lower ho0 (below_size (mH63_1 HB.out (IsS167.ge HI333.out)))); replace HB := mS (hb); replace HI333 := mS (hi); (try clear hb); (try clear hb2); (try clear hk); (try clear hi); (try clear ho0); have p31 : 0 ≤ (0 : Int) := (by omega); have q31 : (0 : Int) < ((y365.length : Int) : Int) := of_decide_eq_true (by first | (with_reducible assumption) | assumption); have qi31 : (0 < y365.length) = True := eq_true (by omega); obtain ⟨go31, co31, eo31, gb31, gl31, cl31, HG31⟩ := Kd.S_form HO367.out (by omega); (first | cases eo31 | (injection eo31 with ea_ en_ ec_; (first | subst ea_ | (injection ea_ with ea_; subst ea_)); subst ec_; clear en_)); have GB31 := mS gb31; have GG31 := mS HG31; clear gb31 gl31 HG31; obtain ⟨_, ce31, hcl31, hM31, hcc31, hfr31, _, _⟩ := Kd.S_elem HO367.out [] (0 : Int) p31 q31; obtain ⟨ve31_0, rfl, ge31_0⟩ := hM31; have hx31_0 := hcc31 0 _ rfl; have hf31_0 := hfr31 0; (try simp only [show ((Kd.slice 33 k33)).sz = 1 from rfl, Nat.mul_one, Nat.add_zero] at hx31_0); (try simp only [show ((Kd.slice 33 k33)).sz = 1 from rfl, Nat.mul_one, Nat.add_zero] at hf31_0); clear hcl31 hcc31 hfr31; (try clear hM31); (try rw [show ((0 : Int)).toNat = 0 from rfl] at hx31_0); (try simp only [Nat.reduceMul, Nat.zero_mul, Nat.zero_add, Nat.reduceAdd] at hx31_0); (try rw [show ((0 : Int)).toNat = 0 from rfl] at hf31_0); (try simp only [Nat.reduceMul, Nat.zero_mul, Nat.zero_add, Nat.reduceAdd] at hf31_0); replace p31 := eq_true p31; replace q31 := eq_true q31; have n_ := mS (Kd.S_mono (ok' := (fun k_ => some k_ ≠ (u5 : Value).ownBlock ∧ some k_ ≠ (v369 : Value).ownBlock)) HO367.out (fun k_ hk => ⟨hk.1.2, hk.2⟩)); clear HO367; have HO367 := n_; clear n_; have HX38 := mS (show Kd.S (Kd.slice 33 k33) 90 w37 w.heap.size (fun k_ => ((fun k_ => some k_ ≠ (u5 : Value).ownBlock)) k_ ∧ ¬ ((fun k_ => some k_ = (v369 : Value).ownBlock)) k_) (.slice (some ⟨go31, 0, none⟩) y365.length co31) y365 from (by (with_reducible repeat (first | apply Kd.S_alloc | apply Kd.S_drewN | apply Kd.S_drew)); exact Kd.S_mono HO367.out (fun k_ hk => ⟨hk.1, fun e_ => hk.2 e_⟩))); obtain ⟨oki38, ce38, hcl38, hM38, hcc38, hfr38, hoki38, hH38⟩ := Kd.S_elem HX38.out [] (0 : Int) (by omega) (by have h_ : (0 : Int) < ((y365.length : Int) : Int) := of_decide_eq_true (by first | (with_reducible assumption) | assumption); first | exact h_ | (have e_ := (Kd.S_reads' HO367.out).1; omega) | simpa using h_); obtain ⟨ve38_0, rfl, ge38_0⟩ := hM38; have HP38 := Kd.S_seg hH38 (by omega) (by have h_ : (0 : Int) < ((y365.length : Int) : Int) := of_decide_eq_true (by first | (with_reducible assumption) | assumption); first | exact h_ | (have e_ := (Kd.S_reads' HO367.out).1; omega) | simpa using h_) (seg := [v369]) (j := 0) (show 1 ≤ 1 from by decide) (x' := t368) (Kd.M_row (Kd.R_mono (Kd.R_tight rfl (Kd.R_mono (ok' := fun k_ => ((fun k_ => some k_ ≠ (u5 : Value).ownBlock)) k_ ∧ k_ ≠ go31) (Kd.R_apart' (Kd.R_apart' (HO370.out) (Kd.S_typed HO_5.out) (by decide)) (Kd.S_typed HO367.out) (by decide)) (fun k_ hk => ⟨hk.1.2, fun e_ => (hk.2) (by rw [e_]; rfl)⟩))) (fun _ h_ => Or.inr (h_)))) (fun _ hk => hk) (fun k_ hk_ => ((Kd.R_mono (ok' := fun k_ => ((fun k_ => some k_ ≠ (u5 : Value).ownBlock)) k_ ∧ k_ ≠ go31) (Kd.R_apart' (Kd.R_apart' (HO370.out) (Kd.S_typed HO_5.out) (by decide)) (Kd.S_typed HO367.out) (by decide)) (fun k_ hk => ⟨hk.1.2, fun e_ => (hk.2) (by rw [e_]; rfl)⟩))).1 k_ hk_.symm); have hx38_0 := hcc38 0 _ rfl; (try simp only [show ((Kd.slice 33 k33)).sz = 1 from rfl, Nat.mul_one, Nat.add_zero] at hx38_0); (try rw [show ((0 : Int)).toNat = 0 from rfl] at hx38_0); (try simp only [Nat.reduceMul, Nat.zero_mul, Nat.zero_add, Nat.reduceAdd] at hx38_0); have hf38_0 := hfr38 0; (try simp only [show ((Kd.slice 33 k33)).sz = 1 from rfl, Nat.mul_one, Nat.add_zero] at hf38_0); (try rw [show ((0 : Int)).toNat = 0 from rfl] at hf38_0); (try simp only [Nat.reduceMul, Nat.zero_mul, Nat.zero_add, Nat.reduceAdd] at hf38_0); clear hcl38 hcc38 hfr38 hoki38 hH38; (try clear hM38); (try simp only [show ((Kd.slice 33 k33)).sz = 1 from rfl, Nat.mul_one, Nat.add_zero] at HP38)) | ((with_reducible refine gate_store (t := 90) (p := 37) rfl ?_); refine store_event (t := 90) (p := 37) (v := ?vo_w39) (w1 := (w37.setCell ⟨go31, 0, none⟩ (v369))) ?hg ?ho ?hn ?hr ?_; (case ho => rfl); (case hg => rfl); (case hn => rfl); (case hr => first | (go_simp; done) | (go_simp; rfl) | (obtain ⟨Aq0_, cq0_, eq0_⟩ := Kd.R_slice (v := v369) (Aside0.out (by assumption)); rw [eq0_]; first | (go_simp; done) | (go_simp; rfl))); intro w39 hw; have hg : w37.grownBy w39 (some go31) := (by rw [hw]; exact HP38.2); have hp_ : Kd.S (Kd.slice 33 k33) 90 w39 w.heap.size (fun k_ => some k_ ≠ (u5 : Value).ownBlock) (.slice (some ⟨go31, 0, none⟩) y365.length co31) y373 := (by rw [hw, Ny373.out]; exact HP38.1); clear HP38; replace HO_5 := mS (Kd.S_after (v := (.slice (some ⟨go31, 0, none⟩) y365.length co31)) (v1 := (.slice (some ⟨go31, 0, none⟩) y365.length co31)) (ok := (fun k_ => some k_ ≠ (v369 : Value).ownBlock)) (by (with_reducible repeat (first | apply Kd.S_alloc | apply Kd.S_drewN | apply Kd.S_drew)); exact Kd.S_mono HO_5.out (fun _ hk => ⟨hk.2, hk.1.2⟩)) hg (.inl rfl)); replace HI333 := mS (IsS167.grown (mI63_0 HI333.out) hg (IsS167.own_neS HI333.out HO367.out (by decide))); replace HO367 := mS (hp_); replace HB := mS ((by rw [hw]; exact below_set (HB.out) GB31.out : Below w.heap.size w w39)); clear HO370; clear hg hw hp_) | ((with_reducible refine gate_callee (f := 81) rfl ?_); refine goesL_ (some 40) rfl rfl Try.func81 (by kernel_rfl) rfl #[.pointer (some ⟨g333, 0, none⟩), .int .i64 2] rfl mA ?_; (with_reducible refine (spec_l1Once.calls g333 t330 t371 t372 2 t374 t375 t376 w _ ?side1 ?side2 A32.out).mono ?_); (case side1 => repeat (first | (with_reducible first | exact HI333.out | apply IsS167.alloc | apply IsS167.drewN | apply IsS167.drew | apply IsS167.set_1 | apply IsS167.set_2) | exact HI333.out)); (case side2 => repeat (first | (with_reducible first | exact HB.out | apply below_alloc | apply pw_below_drewN | apply below_drew1 | refine below_set ?_ (IsS167.ge HI333.out)) | exact HB.out)); rintro e w40 ⟨rfl, hi, hb, hk⟩; refine ⟨_, rfl, ?_⟩; replace HO_5 := mS (Kd.S_mono (Kd.S_keep (IsS167.apartS (show IsS167 w _ g333 t330 t371 t372 from mI63_0 HI333.out) (by (with_reducible repeat (first | apply Kd.S_alloc | apply Kd.S_drewN | apply Kd.S_drew)); exact HO_5.out) (by decide)) hk (fun _ h => h.2)) (fun _ h => h.1)); replace HO367 := mS (Kd.S_mono (Kd.S_keep (IsS167.apartS (show IsS167 w _ g333 t330 t371 t372 from mI63_0 HI333.out) (by (with_reducible repeat (first | apply Kd.S_alloc | apply Kd.S_drewN | apply Kd.S_drew)); exact HO367.out) (by decide)) hk (fun _ h => h.2)) (fun _ h => h.1)); replace HB := mS (hb); replace HI333 := mS (hi); (try clear hb); (try clear hb2); (try clear hk); (try clear hi)))
          go_ret2
          exact ⟨_, by first | rfl | (simp [errW_none, errW_some] <;> rfl) | (simp only [← hji26]; first | rfl | (simp [errW_none, errW_some] <;> rfl)) | (simp [*, errW_none, errW_some] <;> rfl), by (with_reducible repeat (first | apply Kd.S_alloc | apply Kd.S_drewN | apply Kd.S_drew)); exact Kd.S_mono HO367.out (fun _ hk => trivial), mH63_1 HB.out (IsS167.ge HI333.out)⟩
         ·rw [if_neg c30] at H
          exact absurd H (by simp)
        ·rw [if_neg c28] at H
         exact absurd H (by simp)
       ·rw [if_neg c27] at H
        exact absurd H (by simp)
      ·replace c24 := Bool.eq_false_iff.mpr c24
       subst c24
       have H1 : ((spec_l1Once.f t330 t360 t361 2).bind fun bt377 => (some (x5_14, bt377.1))) = some (r1, r2) := by rw [if_neg (show ¬ (false = true) by decide)] at H; exact H
       clear H
       have H := H1
       clear H1
       replace H := Option.bind_eq_some_iff.mp H
       obtain ⟨⟨t377, t378, t379⟩, A410, H⟩ := H
       replace H : (some (x5_14, t377)) = some (r1, r2) := H
       have A41 := mS A410
       clear A410
       simp only [Option.some.injEq, Prod.mk.injEq] at H
       obtain ⟨rfl, rfl⟩ := H
       go_wp2_with (first | ((with_reducible refine gate_callee (f := 81) rfl ?_); refine goesL_ (some 29) rfl rfl Try.func81 (by kernel_rfl) rfl #[.pointer (some ⟨g333, 0, none⟩), .int .i64 30] rfl mA ?_; (with_reducible refine (spec_l1Once.calls g333 t330 x334001_14 x334002_14 30 false t360 t361 w _ ?side1 ?side2 A23.out).mono ?_); (case side1 => repeat (first | (with_reducible first | exact HI333.out | apply IsS167.alloc | apply IsS167.drewN | apply IsS167.drew | apply IsS167.set_1 | apply IsS167.set_2) | exact HI333.out)); (case side2 => repeat (first | (with_reducible first | exact HB.out | apply below_alloc | apply pw_below_drewN | apply below_drew1 | refine below_set ?_ (IsS167.ge HI333.out)) | exact HB.out)); rintro e w42 ⟨rfl, hi, hb, hk⟩; refine ⟨_, rfl, ?_⟩; replace HO_5 := mS (Kd.S_mono (Kd.S_keep (IsS167.apartS (show IsS167 w _ g333 t330 x334001_14 x334002_14 from mI63_0 HI333.out) (by (with_reducible repeat (first | apply Kd.S_alloc | apply Kd.S_drewN | apply Kd.S_drew)); exact HO_5.out) (by decide)) hk (fun _ h => h.2)) (fun _ h => h.1)); replace HB := mS (hb); replace HI333 := mS (hi); (try clear hb); (try clear hb2); (try clear hk); (try clear hi)) | ((with_reducible refine gate_callee (f := 81) rfl ?_); refine goesL_ (some 40) rfl rfl Try.func81 (by kernel_rfl) rfl #[.pointer (some ⟨g333, 0, none⟩), .int .i64 2] rfl mA ?_; (with_reducible refine (spec_l1Once.calls g333 t330 t360 t361 2 t377 t378 t379 w _ ?side1 ?side2 A41.out).mono ?_); (case side1 => repeat (first | (with_reducible first | exact HI333.out | apply IsS167.alloc | apply IsS167.drewN | apply IsS167.drew | apply IsS167.set_1 | apply IsS167.set_2) | exact HI333.out)); (case side2 => repeat (first | (with_reducible first | exact HB.out | apply below_alloc | apply pw_below_drewN | apply below_drew1 | refine below_set ?_ (IsS167.ge HI333.out)) | exact HB.out)); rintro e w43 ⟨rfl, hi, hb, hk⟩; refine ⟨_, rfl, ?_⟩; replace HO_5 := mS (Kd.S_mono (Kd.S_keep (IsS167.apartS (show IsS167 w _ g333 t330 t360 t361 from mI63_0 HI333.out) (by (with_reducible repeat (first | apply Kd.S_alloc | apply Kd.S_drewN | apply Kd.S_drew)); exact HO_5.out) (by decide)) hk (fun _ h => h.2)) (fun _ h => h.1)); replace HB := mS (hb); replace HI333 := mS (hi); (try clear hb); (try clear hb2); (try clear hk); (try clear hi)))
       go_ret2
       exact ⟨_, by first | rfl | (simp [errW_none, errW_some] <;> rfl) | (simp [*, errW_none, errW_some] <;> rfl), by (with_reducible repeat (first | apply Kd.S_alloc | apply Kd.S_drewN | apply Kd.S_drew)); exact HO_5.out, mH63_1 HB.out (IsS167.ge HI333.out)⟩

/-! ### laws_samePairs: function 64 -/
def laws_samePairs.l0 : Nat → List (S33) → List (S33) → Int → Option (Bool)
 | 0, _, _, _ => none
 | k + 1, x0, x1, x5 => if x5 < (x0.length : Int) then (if 0 ≤ x5 then (if x5 < (x1.length : Int) then (if (!((((rd_T33 x0 x5).f0).toList) == (((rd_T33 x1 x5).f0).toList)) || (!((((rd_T33 x0 x5).f1).toList) == (((rd_T33 x1 x5).f1).toList)) || (!(((rd_T33 x0 x5).f2) == ((rd_T33 x1 x5).f2))))) = true then (some false) else (laws_samePairs.l0 k x0 x1 (wrap64 (x5 + 1)))) else (none)) else (none)) else (some true)
def laws_samePairs.f (k : Nat) (l0 : List (S33)) (l1 : List (S33)) : Option (Bool) := if (l0.length : Int) = (l1.length : Int) then (laws_samePairs.l0 k l0 l1 0) else (some false)
theorem laws_samePairs.mono_l : ∀ k, (∀ y0 y1 y2, LeO (laws_samePairs.l0 k y0 y1 y2) (laws_samePairs.l0 (k + 1) y0 y1 y2))
 | 0 => fun _ _ _ r h => by simp [laws_samePairs.l0] at h
 | k + 1 => by
  have ih0 := laws_samePairs.mono_l k
  ·intro y0 y1 y2
   unfold laws_samePairs.l0
   repeat' first
   | (with_reducible exact ih0 _ _ _)
   | (with_reducible exact LeO.refl _)
   | (with_reducible exact LeO.none _)
   | (with_reducible refine LeO.ite ?_ ?_)
   | (with_reducible refine LeO.bind ?_ (fun _ => ?_))
   | exact ih0 _ _ _
   | exact LeO.none _
   | refine LeO.ite ?_ ?_
   | refine LeO.bind ?_ (fun _ => ?_)
theorem laws_samePairs.mono : ∀ a0 a1 k, LeO (laws_samePairs.f k a0 a1) (laws_samePairs.f (k + 1) a0 a1) := by
 intro a0 a1 k
 have ih0 := laws_samePairs.mono_l k
 unfold laws_samePairs.f
 repeat' first
   | (with_reducible exact ih0 _ _ _)
   | (with_reducible exact LeO.refl _)
   | (with_reducible exact LeO.none _)
   | (with_reducible refine LeO.ite ?_ ?_)
   | (with_reducible refine LeO.bind ?_ (fun _ => ?_))
   | exact ih0 _ _ _
   | exact LeO.none _
   | refine LeO.ite ?_ ?_
   | refine LeO.bind ?_ (fun _ => ?_)
set_option maxHeartbeats 8000000 in
set_option maxRecDepth 100000 in
theorem laws_samePairs.calls (k : Nat) (A0 : Option Addr) (c0 : Nat) (l0 : List (S33)) (A1 : Option Addr) (c1 : Nat) (l1 : List (S33)) (r : Bool) (w : World) (hr0 : Kd.C k33 w A0 l0.length l0) (hc0 : l0.length ≤ c0) (hr1 : Kd.C k33 w A1 l1.length l1) (hc1 : l1.length ≤ c1) (h : laws_samePairs.f k l0 l1 = some r) :
  Calls Try.prog 64 #[.slice A0 l0.length c0, .slice A1 l1.length c1] w fun e w' => e = .returned (.bool r) ∧ Drawn0 w w' := by
 have hu33 := Try.underlying33
 have HR0 := mS hr0
 have HC0 := mS hc0
 clear hr0 hc0
 have HR1 := mS hr1
 have HC1 := mS hc1
 clear hr1 hc1
 have H : (if (l0.length : Int) = (l1.length : Int) then (laws_samePairs.l0 k l0 l1 0) else (some false)) = some r := h
 clear h
 by_cases c3 : (l0.length : Int) = (l1.length : Int)
 ·rw [if_pos c3] at H
  have c3b0 : ((l0.length : Int) == (l1.length : Int)) = true := beq_iff_eq.mpr c3
  have c3b1 : ((l0.length : Int) != (l1.length : Int)) = false := bne_eq_false_iff_eq.mpr c3
  have c3b2 : (l0.length == l1.length) = true := by first | simpa using c3 | (simp at c3 ⊢; omega)
  clear c3
  have H' := mS H
  clear H
  go_enter Try.func64, Try.ntmps64
  go_wp2
  repeat (go_quiet (fail); try go_wp2)
  go_loopg [5] k (fun kq v5 w' => ∃ (x5_1 : Int), v5 = .int .i64 x5_1 ∧ Aside0 (laws_samePairs.l0 kq l0 l1 x5_1 = some r) ∧ Aside0 (kq ≤ k) ∧ Drawn0 w w')
  case atStart => exact ⟨(0), (by first | rfl | (simp; done) | (simp [*]; done)), H', ⟨Nat.le_refl _⟩, by repeat (first | exact Drawn0.refl _ | apply Drawn0.step)⟩
  case round =>
   clear H'
   try clear c1
   try clear p2
   try clear c3
   try clear c3b0
   try clear c3b1
   try clear c3b2
   obtain ⟨x5_1, rfl, HA, HK1, ⟨m1, rfl⟩⟩ := hrel
   cases gk with
   | zero => exact absurd HA.out (by simp [laws_samePairs.l0])
   | succ k1 =>
    have H := HA.out
    clear HA
    simp only [laws_samePairs.l0] at H
    by_cases c4 : x5_1 < (l0.length : Int)
    ·rw [if_pos c4] at H
     have c4b0 : decide (x5_1 < (l0.length : Int)) = true := decide_eq_true c4
     clear c4
     by_cases c5 : 0 ≤ x5_1
     ·rw [if_pos c5] at H
      have c5b0 : decide (0 ≤ x5_1) = true := decide_eq_true c5
      clear c5
      by_cases c6 : x5_1 < (l1.length : Int)
      ·rw [if_pos c6] at H
       have c6b0 : decide (x5_1 < (l1.length : Int)) = true := decide_eq_true c6
       clear c6
       by_cases c7 : (!((((rd_T33 l0 x5_1).f0).toList) == (((rd_T33 l1 x5_1).f0).toList)) || (!((((rd_T33 l0 x5_1).f1).toList) == (((rd_T33 l1 x5_1).f1).toList)) || (!(((rd_T33 l0 x5_1).f2) == ((rd_T33 l1 x5_1).f2))))) = true
       ·rw [if_pos c7] at H
        have c7b0 : (!((((rd_T33 l0 x5_1).f0).toList) == (((rd_T33 l1 x5_1).f0).toList)) || (!((((rd_T33 l0 x5_1).f1).toList) == (((rd_T33 l1 x5_1).f1).toList)) || (!(((rd_T33 l0 x5_1).f2) == ((rd_T33 l1 x5_1).f2))))) = true := c7
        clear c7
        obtain rfl := Option.some.inj H
        have p380 : 0 ≤ (x5_1 : Int) := of_decide_eq_true (by first | (with_reducible assumption) | assumption)
        have q380 : x5_1 < (l0.length : Int) := of_decide_eq_true (by first | (with_reducible assumption) | assumption)
        obtain ⟨ad380, e380, hx380_0, hx380_1, hx380_2⟩ := at_T33 HR0.out x5_1 p380 q380
        cases e380
        replace p380 := eq_true p380
        replace q380 := eq_true q380
        have p381 : 0 ≤ (x5_1 : Int) := of_decide_eq_true (by first | (with_reducible assumption) | assumption)
        have q381 : x5_1 < (l1.length : Int) := of_decide_eq_true (by first | (with_reducible assumption) | assumption)
        obtain ⟨ad381, e381, hx381_0, hx381_1, hx381_2⟩ := at_T33 HR1.out x5_1 p381 q381
        cases e381
        replace p381 := eq_true p381
        replace q381 := eq_true q381
        go_wp2
        repeat (go_quiet (fail); try go_wp2)
        go_ret
        exact ⟨by first | rfl | (simp; done) | (simp [*]; done), by repeat (first | exact Drawn0.refl _ | apply Drawn0.step)⟩
       ·rw [if_neg c7] at H
        have c7b0 : (!((((rd_T33 l0 x5_1).f0).toList) == (((rd_T33 l1 x5_1).f0).toList)) || (!((((rd_T33 l0 x5_1).f1).toList) == (((rd_T33 l1 x5_1).f1).toList)) || (!(((rd_T33 l0 x5_1).f2) == ((rd_T33 l1 x5_1).f2))))) = false := by simpa using c7
        clear c7
        have H' := mS H
        clear H
        have p380 : 0 ≤ (x5_1 : Int) := of_decide_eq_true (by first | (with_reducible assumption) | assumption)
        have q380 : x5_1 < (l0.length : Int) := of_decide_eq_true (by first | (with_reducible assumption) | assumption)
        obtain ⟨ad380, e380, hx380_0, hx380_1, hx380_2⟩ := at_T33 HR0.out x5_1 p380 q380
        cases e380
        replace p380 := eq_true p380
        replace q380 := eq_true q380
        have p381 : 0 ≤ (x5_1 : Int) := of_decide_eq_true (by first | (with_reducible assumption) | assumption)
        have q381 : x5_1 < (l1.length : Int) := of_decide_eq_true (by first | (with_reducible assumption) | assumption)
        obtain ⟨ad381, e381, hx381_0, hx381_1, hx381_2⟩ := at_T33 HR1.out x5_1 p381 q381
        cases e381
        replace p381 := eq_true p381
        replace q381 := eq_true q381
        go_wp2
        repeat (go_quiet (fail); try go_wp2)
        go_roundg k1
        case measure => have := HK1.out; omega
        case rel => exact ⟨(wrap64 (x5_1 + 1)), (by first | rfl | (simp; done) | (simp [*]; done)), H', ⟨by have := HK1.out; omega⟩, by repeat (first | exact Drawn0.refl _ | apply Drawn0.step)⟩
      ·rw [if_neg c6] at H
       exact absurd H (by simp)
     ·rw [if_neg c5] at H
      exact absurd H (by simp)
    ·rw [if_neg c4] at H
     have c4b0 : decide (x5_1 < (l0.length : Int)) = false := decide_eq_false c4
     clear c4
     obtain rfl := Option.some.inj H
     go_wp2
     repeat (go_quiet (fail); try go_wp2)
     go_ret
     exact ⟨by first | rfl | (simp; done) | (simp [*]; done), by repeat (first | exact Drawn0.refl _ | apply Drawn0.step)⟩
 ·rw [if_neg c3] at H
  have c3b0 : ((l0.length : Int) == (l1.length : Int)) = false := beq_eq_false_iff_ne.mpr c3
  have c3b1 : ((l0.length : Int) != (l1.length : Int)) = true := bne_iff_ne.mpr c3
  have c3b2 : (l0.length == l1.length) = false := by first | simpa using c3 | (simp at c3 ⊢; omega)
  obtain rfl := Option.some.inj H
  go_enter Try.func64, Try.ntmps64
  go_wp2
  repeat (go_quiet (fail); try go_wp2)
  go_ret
  exact ⟨by first | rfl | (simp; done) | (simp [*]; done), by repeat (first | exact Drawn0.refl _ | apply Drawn0.step)⟩

/-! ### impl_Range: function 65 -/
mutual
def impl_Range.l0 : Nat → ByteArray → ByteArray → List (S33) → List (S33) → Int → Int → Option ((List (S33)))
 | 0, _, _, _, _, _, _ => none
 | k + 1, x1, x2, x7, x10, x11, x12 => if x12 < x11 then (if 0 ≤ x12 then (if x12 < (x10.length : Int) then (if ((Op.bytesLess (((rd_T33 x10 x12).f0).toList) x1.toList) = true) then (impl_Range.j1 k x1 x2 x7 x10 x11 x12 false ((rd_T33 x10 x12).f0) ((rd_T33 x10 x12).f1) ((rd_T33 x10 x12).f2)) else (if x2.toList = ([] : List UInt8) then (impl_Range.j1 k x1 x2 x7 x10 x11 x12 true ((rd_T33 x10 x12).f0) ((rd_T33 x10 x12).f1) ((rd_T33 x10 x12).f2)) else (impl_Range.j1 k x1 x2 x7 x10 x11 x12 (Op.bytesLess (((rd_T33 x10 x12).f0).toList) x2.toList) ((rd_T33 x10 x12).f0) ((rd_T33 x10 x12).f1) ((rd_T33 x10 x12).f2)))) else (none)) else (none)) else (some x7)
def impl_Range.j1 : Nat → ByteArray → ByteArray → List (S33) → List (S33) → Int → Int → Bool → ByteArray → ByteArray → Bool → Option ((List (S33)))
 | 0, _, _, _, _, _, _, _, _, _, _ => none
 | k + 1, x1, x2, x7, x10, x11, x12, x29, x384000, x384001, x384002 => if x29 = true then (if x7.length < 3518437208883 then (impl_Range.l0 k x1 x2 (x7 ++ [(⟨x384000, x384001, x384002⟩ : S33)]) x10 x11 (wrap64 (x12 + 1))) else (none)) else (impl_Range.l0 k x1 x2 x7 x10 x11 (wrap64 (x12 + 1)))
end
def impl_Range.f (k : Nat) (l0 : List (S33)) (a1 : ByteArray) (a2 : ByteArray) : Option ((List (S33))) := impl_Range.l0 k a1 a2 ([] : List (S33)) l0 (l0.length : Int) 0
theorem impl_Range.mono_l : ∀ k, (∀ y0 y1 y2 y3 y4 y5, LeO (impl_Range.l0 k y0 y1 y2 y3 y4 y5) (impl_Range.l0 (k + 1) y0 y1 y2 y3 y4 y5)) ∧ (∀ y0 y1 y2 y3 y4 y5 y6 y7 y8 y9, LeO (impl_Range.j1 k y0 y1 y2 y3 y4 y5 y6 y7 y8 y9) (impl_Range.j1 (k + 1) y0 y1 y2 y3 y4 y5 y6 y7 y8 y9))
 | 0 => ⟨fun _ _ _ _ _ _ r h => by simp [impl_Range.l0] at h, fun _ _ _ _ _ _ _ _ _ _ r h => by simp [impl_Range.j1] at h⟩
 | k + 1 => by
  obtain ⟨ih0, ih1⟩ := impl_Range.mono_l k
  refine ⟨?_, ?_⟩
  ·intro y0 y1 y2 y3 y4 y5
   unfold impl_Range.l0
   repeat' first
   | (with_reducible exact ih0 _ _ _ _ _ _)
   | (with_reducible exact ih1 _ _ _ _ _ _ _ _ _ _)
   | (with_reducible exact LeO.refl _)
   | (with_reducible exact LeO.none _)
   | (with_reducible refine LeO.ite ?_ ?_)
   | (with_reducible refine LeO.bind ?_ (fun _ => ?_))
   | exact ih0 _ _ _ _ _ _
   | exact ih1 _ _ _ _ _ _ _ _ _ _
   | exact LeO.none _
   | refine LeO.ite ?_ ?_
   | refine LeO.bind ?_ (fun _ => ?_)
  ·intro y0 y1 y2 y3 y4 y5 y6 y7 y8 y9
   unfold impl_Range.j1
   repeat' first
   | (with_reducible exact ih0 _ _ _ _ _ _)
   | (with_reducible exact ih1 _ _ _ _ _ _ _ _ _ _)
   | (with_reducible exact LeO.refl _)
   | (with_reducible exact LeO.none _)
   | (with_reducible refine LeO.ite ?_ ?_)
   | (with_reducible refine LeO.bind ?_ (fun _ => ?_))
   | exact ih0 _ _ _ _ _ _
   | exact ih1 _ _ _ _ _ _ _ _ _ _
   | exact LeO.none _
   | refine LeO.ite ?_ ?_
   | refine LeO.bind ?_ (fun _ => ?_)
theorem impl_Range.mono : ∀ a0 a1 a2 k, LeO (impl_Range.f k a0 a1 a2) (impl_Range.f (k + 1) a0 a1 a2) := by
 intro a0 a1 a2 k
 obtain ⟨ih0, ih1⟩ := impl_Range.mono_l k
 unfold impl_Range.f
 repeat' first
   | (with_reducible exact ih0 _ _ _ _ _ _)
   | (with_reducible exact ih1 _ _ _ _ _ _ _ _ _ _)
   | (with_reducible exact LeO.refl _)
   | (with_reducible exact LeO.none _)
   | (with_reducible refine LeO.ite ?_ ?_)
   | (with_reducible refine LeO.bind ?_ (fun _ => ?_))
   | exact ih0 _ _ _ _ _ _
   | exact ih1 _ _ _ _ _ _ _ _ _ _
   | exact LeO.none _
   | refine LeO.ite ?_ ?_
   | refine LeO.bind ?_ (fun _ => ?_)
set_option maxHeartbeats 8000000 in
set_option maxRecDepth 100000 in
theorem impl_Range.calls (k : Nat) (A0 : Option Addr) (c0 : Nat) (l0 : List (S33)) (a1 : ByteArray) (a2 : ByteArray) (r : List (S33)) (w : World) (hr0 : Kd.C k33 w A0 l0.length l0) (hc0 : l0.length ≤ c0) (h : impl_Range.f k l0 a1 a2 = some r) :
  Calls Try.prog 65 #[.slice A0 l0.length c0, .string a1, .string a2] w fun e w' => ∃ v0_ : Value, e = .returned (v0_) ∧ Kd.R k33 33 w' w.heap.size (fun _ => True) v0_ r ∧ Below w.heap.size w w' := by
 have hu33 := Try.underlying33
 have HR0 := mS hr0
 have HC0 := mS hc0
 clear hr0 hc0
 have HB := mS (Below.refl w.heap.size w)
 have H : (impl_Range.l0 k a1 a2 ([] : List (S33)) l0 (l0.length : Int) 0) = some r := h
 clear h
 have H' := mS H
 clear H
 go_enter Try.func65, Try.ntmps65
 go_wp2
 go_loopg [7, 12] k (fun kq v7 v12 w' => ∃ (x7_1 : List (S33)) (x12_1 : Int), v12 = .int .i64 x12_1 ∧ Aside0 (impl_Range.l0 kq a1 a2 x7_1 l0 (l0.length : Int) x12_1 = some r) ∧ Aside0 (kq ≤ k) ∧ Aside0 (Kd.R k33 33 w' w.heap.size (fun _ => True) v7 x7_1) ∧ Aside0 (Below w.heap.size w w'))
 case atStart => exact ⟨(([] : List (S33))), (0), (by first | rfl | (simp; done) | (simp [*]; done)), H', ⟨Nat.le_refl _⟩, ⟨by first | exact Kd.R_nil _ _ _ _ _ | exact Kd.N_nil _ _ _ _ _ | exact Kd.V_nil _ _ _ _ _ | exact Kd.Q_nil _ _ _ _ _ | exact Kd.S_nil _ _ _ _ _⟩, ⟨(mH HB.out)⟩⟩
 case round =>
  clear H'
  try clear p2
  obtain ⟨x7_1, x12_1, rfl, HA, HK1, HO_7, HB⟩ := hrel
  cases gk with
  | zero => exact absurd HA.out (by simp [impl_Range.l0])
  | succ k1 =>
   have H := HA.out
   clear HA
   simp only [impl_Range.l0] at H
   by_cases c4 : x12_1 < (l0.length : Int)
   ·rw [if_pos c4] at H
    have c4b0 : decide (x12_1 < (l0.length : Int)) = true := decide_eq_true c4
    clear c4
    by_cases c5 : 0 ≤ x12_1
    ·rw [if_pos c5] at H
     have c5b0 : decide (0 ≤ x12_1) = true := decide_eq_true c5
     clear c5
     by_cases c6 : x12_1 < (l0.length : Int)
     ·rw [if_pos c6] at H
      have c6b0 : decide (x12_1 < (l0.length : Int)) = true := decide_eq_true c6
      clear c6
      have HC7 := mS H
      clear H
      have p382 : 0 ≤ (x12_1 : Int) := of_decide_eq_true (by first | (with_reducible assumption) | assumption)
      have q382 : x12_1 < (l0.length : Int) := of_decide_eq_true (by first | (with_reducible assumption) | assumption)
      obtain ⟨ad382, e382, hx382_0, hx382_1, hx382_2⟩ := at_T33 HR0.out x12_1 p382 q382
      cases e382
      replace hx382_0 := mX HB.out hx382_0
      replace hx382_1 := mX HB.out hx382_1
      replace hx382_2 := mX HB.out hx382_2
      replace p382 := eq_true p382
      replace q382 := eq_true q382
      go_upto_region 5 with (first | ((with_reducible refine gate_dst (N := 9) rfl ?_); refine box_event ?hg (N := 9) ?hd (cs := #[.string (⟨#[]⟩ : ByteArray), .string (⟨#[]⟩ : ByteArray), .bool false]) (t := 33) ?hr ?_; (case hd => rfl); (case hg => rfl); (case hr => first | (go_simp; done) | (go_simp; rfl)); intro gb383 hg w8 hbox hb; replace HO_7 := mS (Kd.R_below (Kd.R_elderB (mR HO_7.out) gb383 (Nat.le_of_eq hg.symm)) hb); have BK383 := mS (hbox); have GW383 := mG hg (mH HB.out); have GE383 := mG hg (mH HB.out); replace HB := mS (below_step (mH HB.out) hb); clear hb hbox hg; have hcz9_0 := mZ BK383.out 0; have hcz9_1 := mZ BK383.out 1; have hcz9_2 := mZ BK383.out 2; have hfz9_0 := blk_frozen BK383.out 0; have hfz9_1 := blk_frozen BK383.out 1; have hfz9_2 := blk_frozen BK383.out 2))
      (try simp only [Act.put, zA, zB, zC])
      go_cut [29] (fun v29 wc => ∃ (kq : Nat) (x29_6 : Bool), v29 = .bool x29_6 ∧ Aside0 (impl_Range.j1 kq a1 a2 x7_1 l0 (l0.length : Int) x12_1 x29_6 ((rd_T33 l0 x12_1).f0) ((rd_T33 l0 x12_1).f1) ((rd_T33 l0 x12_1).f2) = some r) ∧ Aside0 (kq ≤ k1) ∧ Aside0 (Kd.R k33 33 wc w.heap.size (fun k_ => k_ ≠ gb383) u7 x7_1) ∧ Aside0 (wc.heap[gb383]? = some (.cells #[.string ((rd_T33 l0 x12_1).f0), .string ((rd_T33 l0 x12_1).f1), .bool ((rd_T33 l0 x12_1).f2)] 33 (0, 0))) ∧ Aside0 (Below w.heap.size w wc))
      case first =>
       have H := HC7.out
       clear HC7
       by_cases c10 : ((Op.bytesLess (((rd_T33 l0 x12_1).f0).toList) a1.toList) = true)
       ·rw [if_pos c10] at H
        have c10b0 : (Op.bytesLess (((rd_T33 l0 x12_1).f0).toList) a1.toList) = true := c10
        clear c10
        (first | rw [c10b0] | (simp only [i64_w, i32_w]; rw [c10b0]) | skip)
        have H' := mS H
        clear H
        have hcz11_0 := mZ BK383.out 0
        have hcz11_1 := mZ BK383.out 1
        have hcz11_2 := mZ BK383.out 2
        have hfz11_0 := blk_frozen BK383.out 0
        have hfz11_1 := blk_frozen BK383.out 1
        have hfz11_2 := blk_frozen BK383.out 2
        go_wp2
        go_meet
        case rel => exact ⟨_, (false), (by first | rfl | (simp; done) | (simp [*]; done)), H', ⟨by have := HK1.out; first | omega | exact Nat.le_refl _⟩, ⟨by (with_reducible repeat (first | apply Kd.R_alloc | apply Kd.R_drewN | apply Kd.R_drew)); exact Kd.R_mono (Kd.R_far (p := ⟨gb383, 2, none⟩) (Kd.R_far (p := ⟨gb383, 1, none⟩) (Kd.R_far (p := ⟨gb383, 0, none⟩) (Kd.R_mono HO_7.out (fun k_ hk => (⟨hk, hk.2⟩ : _ ∧ k_ ≠ gb383))) (fun _ hk => hk.2) (.string ((rd_T33 l0 x12_1).f0))) (fun _ hk => hk.2) (.string ((rd_T33 l0 x12_1).f1))) (fun _ hk => hk.2) (.bool ((rd_T33 l0 x12_1).f2))) (fun _ hk => hk.1.2)⟩, ⟨by (with_reducible repeat (first | refine blk_drewN ?_ _ | refine blk_drew ?_ | refine blk_alloc ?_ _)); refine blk_put (cs := #[.string ((rd_T33 l0 x12_1).f0), .string ((rd_T33 l0 x12_1).f1), .bool false]) ?_ 2 _ rfl; (with_reducible repeat (first | refine blk_drewN ?_ _ | refine blk_drew ?_ | refine blk_alloc ?_ _)); refine blk_put (cs := #[.string ((rd_T33 l0 x12_1).f0), .string (⟨#[]⟩ : ByteArray), .bool false]) ?_ 1 _ rfl; (with_reducible repeat (first | refine blk_drewN ?_ _ | refine blk_drew ?_ | refine blk_alloc ?_ _)); refine blk_put (cs := #[.string (⟨#[]⟩ : ByteArray), .string (⟨#[]⟩ : ByteArray), .bool false]) ?_ 0 _ rfl; (with_reducible repeat (first | refine blk_drewN ?_ _ | refine blk_drew ?_ | refine blk_alloc ?_ _)); exact BK383.out⟩, ⟨(mH1 HB.out GE383.out)⟩⟩
       ·rw [if_neg c10] at H
        have c10b0 : (Op.bytesLess (((rd_T33 l0 x12_1).f0).toList) a1.toList) = false := by simpa using c10
        clear c10
        (first | rw [c10b0] | (simp only [i64_w, i32_w]; rw [c10b0]) | skip)
        by_cases c12 : a2.toList = ([] : List UInt8)
        ·rw [if_pos c12] at H
         have c12b0 : (a2.toList == ([] : List UInt8)) = true := beq_iff_eq.mpr c12
         have c12b1 : (a2.toList != ([] : List UInt8)) = false := bne_eq_false_iff_eq.mpr c12
         clear c12
         have H' := mS H
         clear H
         have hcz13_0 := mZ BK383.out 0
         have hcz13_1 := mZ BK383.out 1
         have hcz13_2 := mZ BK383.out 2
         have hfz13_0 := blk_frozen BK383.out 0
         have hfz13_1 := blk_frozen BK383.out 1
         have hfz13_2 := blk_frozen BK383.out 2
         go_wp2
         go_meet
         case rel => exact ⟨_, (true), (by first | rfl | (simp; done) | (simp [*]; done)), H', ⟨by have := HK1.out; first | omega | exact Nat.le_refl _⟩, ⟨by (with_reducible repeat (first | apply Kd.R_alloc | apply Kd.R_drewN | apply Kd.R_drew)); exact Kd.R_mono (Kd.R_far (p := ⟨gb383, 2, none⟩) (Kd.R_far (p := ⟨gb383, 1, none⟩) (Kd.R_far (p := ⟨gb383, 0, none⟩) (Kd.R_mono HO_7.out (fun k_ hk => (⟨hk, hk.2⟩ : _ ∧ k_ ≠ gb383))) (fun _ hk => hk.2) (.string ((rd_T33 l0 x12_1).f0))) (fun _ hk => hk.2) (.string ((rd_T33 l0 x12_1).f1))) (fun _ hk => hk.2) (.bool ((rd_T33 l0 x12_1).f2))) (fun _ hk => hk.1.2)⟩, ⟨by (with_reducible repeat (first | refine blk_drewN ?_ _ | refine blk_drew ?_ | refine blk_alloc ?_ _)); refine blk_put (cs := #[.string ((rd_T33 l0 x12_1).f0), .string ((rd_T33 l0 x12_1).f1), .bool false]) ?_ 2 _ rfl; (with_reducible repeat (first | refine blk_drewN ?_ _ | refine blk_drew ?_ | refine blk_alloc ?_ _)); refine blk_put (cs := #[.string ((rd_T33 l0 x12_1).f0), .string (⟨#[]⟩ : ByteArray), .bool false]) ?_ 1 _ rfl; (with_reducible repeat (first | refine blk_drewN ?_ _ | refine blk_drew ?_ | refine blk_alloc ?_ _)); refine blk_put (cs := #[.string (⟨#[]⟩ : ByteArray), .string (⟨#[]⟩ : ByteArray), .bool false]) ?_ 0 _ rfl; (with_reducible repeat (first | refine blk_drewN ?_ _ | refine blk_drew ?_ | refine blk_alloc ?_ _)); exact BK383.out⟩, ⟨(mH1 HB.out GE383.out)⟩⟩
        ·rw [if_neg c12] at H
         have c12b0 : (a2.toList == ([] : List UInt8)) = false := beq_eq_false_iff_ne.mpr c12
         have c12b1 : (a2.toList != ([] : List UInt8)) = true := bne_iff_ne.mpr c12
         have H' := mS H
         clear H
         have hcz14_0 := mZ BK383.out 0
         have hcz14_1 := mZ BK383.out 1
         have hcz14_2 := mZ BK383.out 2
         have hfz14_0 := blk_frozen BK383.out 0
         have hfz14_1 := blk_frozen BK383.out 1
         have hfz14_2 := blk_frozen BK383.out 2
         go_wp2
         go_meet
         case rel => exact ⟨_, ((Op.bytesLess (((rd_T33 l0 x12_1).f0).toList) a2.toList)), (by first | rfl | (simp; done) | (simp [*]; done)), H', ⟨by have := HK1.out; first | omega | exact Nat.le_refl _⟩, ⟨by (with_reducible repeat (first | apply Kd.R_alloc | apply Kd.R_drewN | apply Kd.R_drew)); exact Kd.R_mono (Kd.R_far (p := ⟨gb383, 2, none⟩) (Kd.R_far (p := ⟨gb383, 1, none⟩) (Kd.R_far (p := ⟨gb383, 0, none⟩) (Kd.R_mono HO_7.out (fun k_ hk => (⟨hk, hk.2⟩ : _ ∧ k_ ≠ gb383))) (fun _ hk => hk.2) (.string ((rd_T33 l0 x12_1).f0))) (fun _ hk => hk.2) (.string ((rd_T33 l0 x12_1).f1))) (fun _ hk => hk.2) (.bool ((rd_T33 l0 x12_1).f2))) (fun _ hk => hk.1.2)⟩, ⟨by (with_reducible repeat (first | refine blk_drewN ?_ _ | refine blk_drew ?_ | refine blk_alloc ?_ _)); refine blk_put (cs := #[.string ((rd_T33 l0 x12_1).f0), .string ((rd_T33 l0 x12_1).f1), .bool false]) ?_ 2 _ rfl; (with_reducible repeat (first | refine blk_drewN ?_ _ | refine blk_drew ?_ | refine blk_alloc ?_ _)); refine blk_put (cs := #[.string ((rd_T33 l0 x12_1).f0), .string (⟨#[]⟩ : ByteArray), .bool false]) ?_ 1 _ rfl; (with_reducible repeat (first | refine blk_drewN ?_ _ | refine blk_drew ?_ | refine blk_alloc ?_ _)); refine blk_put (cs := #[.string (⟨#[]⟩ : ByteArray), .string (⟨#[]⟩ : ByteArray), .bool false]) ?_ 0 _ rfl; (with_reducible repeat (first | refine blk_drewN ?_ _ | refine blk_drew ?_ | refine blk_alloc ?_ _)); exact BK383.out⟩, ⟨(mH1 HB.out GE383.out)⟩⟩
      case rest =>
       clear HC7
       try clear c1
       try clear p2
       try clear p3
       try clear q3
       try clear hx3
       try clear c4
       try clear c4b0
       try clear c5
       try clear c5b0
       try clear c6
       try clear c6b0
       try clear c10
       try clear c10b0
       try clear c12
       try clear c12b0
       try clear c12b1
       try clear hcz11_0
       try clear hcz11_1
       try clear hcz11_2
       try clear hcz13_0
       try clear hcz13_1
       try clear hcz13_2
       try clear hcz14_0
       try clear hcz14_1
       try clear hcz14_2
       try clear hcz9_0
       try clear hcz9_1
       try clear hcz9_2
       try clear hfz11_0
       try clear hfz11_1
       try clear hfz11_2
       try clear hfz13_0
       try clear hfz13_1
       try clear hfz13_2
       try clear hfz14_0
       try clear hfz14_1
       try clear hfz14_2
       try clear hfz9_0
       try clear hfz9_1
       try clear hfz9_2
       try clear hx382_0
       try clear hx382_1
       try clear hx382_2
       try clear p2
       try clear p382
       try clear q382
       obtain ⟨kq, x29_6, rfl, HA, HJ6, HO_7, BK383, HB⟩ := hcut
       cases kq with
       | zero => exact absurd HA.out (by simp [impl_Range.j1])
       | succ kj6 =>
        have H := HA.out
        clear HA
        simp only [impl_Range.j1] at H
        by_cases c15 : x29_6 = true
        ·subst c15
         have H1 : (if x7_1.length < 3518437208883 then (impl_Range.l0 kj6 a1 a2 (x7_1 ++ [(⟨((rd_T33 l0 x12_1).f0), ((rd_T33 l0 x12_1).f1), ((rd_T33 l0 x12_1).f2)⟩ : S33)]) l0 (l0.length : Int) (wrap64 (x12_1 + 1))) else (none)) = some r := by rw [if_pos rfl] at H; exact H
         clear H
         have H := H1
         clear H1
         by_cases c16 : x7_1.length < 3518437208883
         ·rw [if_pos c16] at H
          have LMc16 := mS c16
          clear c16
          obtain ⟨y384, hy384⟩ : ∃ y_ : List (S33), y_ = (x7_1 ++ [(⟨((rd_T33 l0 x12_1).f0), ((rd_T33 l0 x12_1).f1), ((rd_T33 l0 x12_1).f2)⟩ : S33)]) := ⟨_, rfl⟩
          replace H : (impl_Range.l0 kj6 a1 a2 y384 l0 (l0.length : Int) (wrap64 (x12_1 + 1))) = some r := by first | (rw [hy384]; with_reducible exact H) | (have H2_ := (Option.bind_some _ _).symm.trans H; rw [hy384]; with_reducible exact H2_) | (have H2_ := (Option.bind_some _ _).symm.trans H; with_reducible exact H2_) | with_reducible exact H | (rw [hy384]; exact H) | exact H
          have Ny384 := mS hy384
          clear hy384
          have H' := mS H
          clear H
          have hcz17_0 := mZ BK383.out 0
          have hcz17_1 := mZ BK383.out 1
          have hcz17_2 := mZ BK383.out 2
          have hfz17_0 := blk_frozen BK383.out 0
          have hfz17_1 := blk_frozen BK383.out 1
          have hfz17_2 := blk_frozen BK383.out 2
          go_wp2_with (first | ((with_reducible refine gate_builtin (b := .append) (xs := #[.tmp 30, .tmp 32]) rfl ?_); at_builtin; refine Kd.R_append k33 (w0 := w) w.heap.size rfl (.tmp 30) (.tmp 32) 90 33 (.agg #[(.string ⟨#[]⟩), (.string ⟨#[]⟩), (.bool false)]) 40 rfl Try.underlying90 info33 rfl (by decide) (by omega) u7 x7_1 (⟨((rd_T33 l0 x12_1).f0), ((rd_T33 l0 x12_1).f1), ((rd_T33 l0 x12_1).f2)⟩ : S33) [.string ((rd_T33 l0 x12_1).f0), .string ((rd_T33 l0 x12_1).f1), .bool ((rd_T33 l0 x12_1).f2)] (fun k_ => k_ ≠ gb383) (fun _ => False) rfl rfl ?aP (fun _ hk => hk.elim) ?aF ?aO ?aB ?aS ?aL ?_; (case aP => exact k33_mkM _ _ _ (⟨((rd_T33 l0 x12_1).f0), ((rd_T33 l0 x12_1).f1), ((rd_T33 l0 x12_1).f2)⟩ : S33)); (case aB => exact (mH1 HB.out GE383.out)); (case aF => exact (fun k_ hk => Kd.freshB (g := gb383) (o := .cells #[.string ((rd_T33 l0 x12_1).f0), .string ((rd_T33 l0 x12_1).f1), .bool ((rd_T33 l0 x12_1).f2)] 33 (0, 0)) (mK BK383.out) k_ hk)); (case aO => exact (mR HO_7.out)); (case aS => exact (below_size (mH1 HB.out GE383.out))); (case aL => have := LMc16.out; omega); intro v385 w18 ho hb hg hat; rw [← Ny384.out] at ho; replace BK383 := mS (blk_grown (g := gb383) (o := .cells #[.string ((rd_T33 l0 x12_1).f0), .string ((rd_T33 l0 x12_1).f1), .bool ((rd_T33 l0 x12_1).f2)] 33 (0, 0)) (mK BK383.out) hg (Kd.R_away HO_7.out (fun _ hk => hk))); replace HB := mS (hb); have HO386 := mS (ho); clear HO_7; clear ho hb hg hat))
          go_roundg kj6
          case measure => have := HK1.out; have := HJ6.out; omega
          case rel => exact ⟨(y384), (wrap64 (x12_1 + 1)), (by first | rfl | (simp; done) | (simp [*]; done)), H', ⟨by have := HK1.out; have := HJ6.out; omega⟩, ⟨by (with_reducible repeat (first | apply Kd.R_alloc | apply Kd.R_drewN | apply Kd.R_drew)); exact Kd.R_mono HO386.out (fun _ hk => trivial)⟩, ⟨(mH1 HB.out GE383.out)⟩⟩
         ·rw [if_neg c16] at H
          exact absurd H (by simp)
        ·replace c15 := Bool.eq_false_iff.mpr c15
         subst c15
         have H1 : (impl_Range.l0 kj6 a1 a2 x7_1 l0 (l0.length : Int) (wrap64 (x12_1 + 1))) = some r := by rw [if_neg (show ¬ (false = true) by decide)] at H; exact H
         clear H
         have H := H1
         clear H1
         have H' := mS H
         clear H
         go_wp2
         go_roundg kj6
         case measure => have := HK1.out; have := HJ6.out; omega
         case rel => exact ⟨(x7_1), (wrap64 (x12_1 + 1)), (by first | rfl | (simp; done) | (simp [*]; done)), H', ⟨by have := HK1.out; have := HJ6.out; omega⟩, ⟨by (with_reducible repeat (first | apply Kd.R_alloc | apply Kd.R_drewN | apply Kd.R_drew)); exact Kd.R_mono HO_7.out (fun _ hk => trivial)⟩, ⟨(mH1 HB.out GE383.out)⟩⟩
     ·rw [if_neg c6] at H
      exact absurd H (by simp)
    ·rw [if_neg c5] at H
     exact absurd H (by simp)
   ·rw [if_neg c4] at H
    have c4b0 : decide (x12_1 < (l0.length : Int)) = false := decide_eq_false c4
    clear c4
    obtain rfl := Option.some.inj H
    go_wp2
    go_ret
    exact ⟨_, by first | rfl | (simp [errW_none, errW_some] <;> rfl) | (simp [*, errW_none, errW_some] <;> rfl), by (with_reducible repeat (first | apply Kd.R_alloc | apply Kd.R_drewN | apply Kd.R_drew)); exact HO_7.out, (mH HB.out)⟩

end Go.Proofs.Ytbepbgfkajnlbaa.MFnMerged
