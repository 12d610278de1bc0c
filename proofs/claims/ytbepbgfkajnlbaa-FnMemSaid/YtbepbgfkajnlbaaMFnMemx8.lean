-- Written by mp.py, this session's own printer (wip/mp.py).
import Derived.Test.YtbepbgfkajnlbaaVMShort
import Derived.Test.YtbepbgfkajnlbaaMFnMemx0
import Derived.Test.YtbepbgfkajnlbaaMFnMemx4
import Derived.Test.YtbepbgfkajnlbaaMFnMemx7
namespace Go.Proofs.Ytbepbgfkajnlbaa.MFnMem
open Go.RowKit Go.Proofs.YtbepbgfkajnlbaaW.PrintWords Go.Proofs.YtbepbgfkajnlbaaW.PrintLast Go.Proofs.YtbepbgfkajnlbaaW.PrintMore Go.Proofs.Ytbepbgfkajnlbaa.MWords
theorem mI19_0 {p q a0 a1 : Prop} (x : q) (g0 : a0) (g1 : a1) (h : q → a0 → a1 → p := by intro h_ g0_ g1_; repeat (first | (with_reducible first | exact h_ | apply IsS167.alloc | apply IsS167.drewN | apply IsS167.drew | apply IsS167.set_1 | apply IsS167.set_2 | refine IsS167.far ?_ g0_ _ | refine IsS167.far ?_ g1_ _) | exact h_)) : p := h x g0 g1
theorem mI19_1 {p q a0 a1 a2 : Prop} (x : q) (g0 : a0) (g1 : a1) (g2 : a2) (h : q → a0 → a1 → a2 → p := by intro h_ g0_ g1_ g2_; repeat (first | (with_reducible first | exact h_ | apply IsS167.alloc | apply IsS167.drewN | apply IsS167.drew | apply IsS167.set_1 | apply IsS167.set_2 | refine IsS167.far ?_ g0_ _ | refine IsS167.far ?_ g1_ _ | refine IsS167.far ?_ g2_ _) | exact h_)) : p := h x g0 g1 g2
theorem mH19_2 {p q a0 a1 a2 : Prop} (x : q) (g0 : a0) (g1 : a1) (g2 : a2) (h : q → a0 → a1 → a2 → p := by intro h_ g0_ g1_ g2_; repeat (first | (with_reducible first | exact h_ | apply below_alloc | apply pw_below_drewN | apply below_drew1 | refine below_set ?_ g0_ | refine below_set ?_ g1_ | refine below_set ?_ g2_) | exact h_)) : p := h x g0 g1 g2
theorem mH19_3 {p q a0 a1 a2 a3 : Prop} (x : q) (g0 : a0) (g1 : a1) (g2 : a2) (g3 : a3) (h : q → a0 → a1 → a2 → a3 → p := by intro h_ g0_ g1_ g2_ g3_; repeat (first | (with_reducible first | exact h_ | apply below_alloc | apply pw_below_drewN | apply below_drew1 | refine below_set ?_ g0_ | refine below_set ?_ g1_ | refine below_set ?_ g2_ | refine below_set ?_ g3_) | exact h_)) : p := h x g0 g1 g2 g3
attribute [local go_sem] max2_int min2_int max_two min_two max_three min_three max_four min_four   -- for this text's walks alone
set_option linter.unusedVariables false
set_option linter.unusedSimpArgs false

/-! ### spec_DrawMemPut: function 19 -/
mutual
def spec_DrawMemPut.j1 : Nat → List Int → Int → Int → List (S35) → Option ((List (S35)) × ByteArray × ByteArray × Bool × Int)
 | 0, _, _, _, _ => none
 | k + 1, x260000, x260001, x260002, x267000 => (spec_l4PairAny.f x260000 x260001 x260002).bind fun bt279 => ((spec_l1Int.f x260000 bt279.2.2.2.1 bt279.2.2.2.2 (([1, 2, 4, 4, 0, 5] : List Int))).bind fun bt287 => (some (x267000, bt279.1, bt279.2.1, bt279.2.2.1, bt287.1)))
def spec_DrawMemPut.l0 : Nat → Int → List Int → Int → Int → List (S35) → Option ((List (S35)) × ByteArray × ByteArray × Bool × Int)
 | 0, _, _, _, _, _ => none
 | k + 1, x7, x260000, x260001, x260002, x267000 => (spec_l1Below.f x260000 x260001 x260002 2).bind fun bt270 => (if x7 < (wrap64 (60 - bt270.1)) then ((some (([(wrap64 (48 + (wrap64 (Int.tdiv x7 10)))) % 256, (wrap64 (48 + (Int.tmod x7 10))) % 256] : List Int) : List Int)).bind fun y273 => (if 1 + (strOfNums y273).size ≤ 9223372036854775807 then (if x267000.length < 2932031007402 then (spec_DrawMemPut.l0 k (wrap64 (x7 + 1)) x260000 bt270.2.1 bt270.2.2 (x267000 ++ [(⟨(⟨(⟨#[107]⟩ : ByteArray) ++ (strOfNums y273), (⟨#[]⟩ : ByteArray), false⟩ : S33), 1⟩ : S35)])) else (none)) else (none))) else (spec_DrawMemPut.j1 k x260000 bt270.2.1 bt270.2.2 x267000))
end
def spec_DrawMemPut.f (k : Nat) (l0 : List Int) : Option ((List (S35)) × ByteArray × ByteArray × Bool × Int) := (spec_l1New.f k l0).bind fun bt256 => ((spec_l1Size.f l0 14).bind fun t260 => ((spec_l4DrawAny.f k bt256.1 bt256.2.1 bt256.2.2 t260).bind fun bt261 => ((spec_l1Once.f bt256.1 bt261.2.1 bt261.2.2 30).bind fun bt267 => (if bt267.1 = true then (spec_DrawMemPut.l0 k 0 bt256.1 bt267.2.1 bt267.2.2 ([] : List (S35))) else (spec_DrawMemPut.j1 k bt256.1 bt267.2.1 bt267.2.2 bt261.1)))))
theorem spec_DrawMemPut.mono_l : ∀ k, (∀ y0 y1 y2 y3, LeO (spec_DrawMemPut.j1 k y0 y1 y2 y3) (spec_DrawMemPut.j1 (k + 1) y0 y1 y2 y3)) ∧ (∀ y0 y1 y2 y3 y4, LeO (spec_DrawMemPut.l0 k y0 y1 y2 y3 y4) (spec_DrawMemPut.l0 (k + 1) y0 y1 y2 y3 y4))
 | 0 => ⟨fun _ _ _ _ r h => by simp [spec_DrawMemPut.j1] at h, fun _ _ _ _ _ r h => by simp [spec_DrawMemPut.l0] at h⟩
 | k + 1 => by
  obtain ⟨ih0, ih1⟩ := spec_DrawMemPut.mono_l k
  refine ⟨?_, ?_⟩
  ·intro y0 y1 y2 y3
   unfold spec_DrawMemPut.j1
   repeat' first
   | (with_reducible exact ih0 _ _ _ _)
   | (with_reducible exact ih1 _ _ _ _ _)
   | (with_reducible exact spec_l1New.mono _ _)
   | (with_reducible exact spec_l4DrawAny.mono _ _ _ _ _)
   | (with_reducible exact LeO.refl _)
   | (with_reducible exact LeO.none _)
   | (with_reducible refine LeO.ite ?_ ?_)
   | (with_reducible refine LeO.bind ?_ (fun _ => ?_))
   | exact ih0 _ _ _ _
   | exact ih1 _ _ _ _ _
   | exact spec_l1New.mono _ _
   | exact spec_l4DrawAny.mono _ _ _ _ _
   | exact LeO.none _
   | refine LeO.ite ?_ ?_
   | refine LeO.bind ?_ (fun _ => ?_)
  ·intro y0 y1 y2 y3 y4
   unfold spec_DrawMemPut.l0
   repeat' first
   | (with_reducible exact ih0 _ _ _ _)
   | (with_reducible exact ih1 _ _ _ _ _)
   | (with_reducible exact spec_l1New.mono _ _)
   | (with_reducible exact spec_l4DrawAny.mono _ _ _ _ _)
   | (with_reducible exact LeO.refl _)
   | (with_reducible exact LeO.none _)
   | (with_reducible refine LeO.ite ?_ ?_)
   | (with_reducible refine LeO.bind ?_ (fun _ => ?_))
   | exact ih0 _ _ _ _
   | exact ih1 _ _ _ _ _
   | exact spec_l1New.mono _ _
   | exact spec_l4DrawAny.mono _ _ _ _ _
   | exact LeO.none _
   | refine LeO.ite ?_ ?_
   | refine LeO.bind ?_ (fun _ => ?_)
theorem spec_DrawMemPut.mono : ∀ a0 k, LeO (spec_DrawMemPut.f k a0) (spec_DrawMemPut.f (k + 1) a0) := by
 intro a0 k
 obtain ⟨ih0, ih1⟩ := spec_DrawMemPut.mono_l k
 unfold spec_DrawMemPut.f
 repeat' first
   | (with_reducible exact ih0 _ _ _ _)
   | (with_reducible exact ih1 _ _ _ _ _)
   | (with_reducible exact spec_l1New.mono _ _)
   | (with_reducible exact spec_l4DrawAny.mono _ _ _ _ _)
   | (with_reducible exact LeO.refl _)
   | (with_reducible exact LeO.none _)
   | (with_reducible refine LeO.ite ?_ ?_)
   | (with_reducible refine LeO.bind ?_ (fun _ => ?_))
   | exact ih0 _ _ _ _
   | exact ih1 _ _ _ _ _
   | exact spec_l1New.mono _ _
   | exact spec_l4DrawAny.mono _ _ _ _ _
   | exact LeO.none _
   | refine LeO.ite ?_ ?_
   | refine LeO.bind ?_ (fun _ => ?_)
def spec_DrawMemPut.T9 : Bool × List (List Nat × List Nat) := (true, [([], []), ([], []), ([1], [1]), ([], []), ([], []), ([3, 4, 2], [3, 4]), ([0, 5, 0], [0]), ([2, 6, 0, 1, 2, 6], [2]), ([5, 7, 0, 1, 2, 3, 4, 5, 6, 7], [5])])
def spec_DrawMemPut.B9 : List Nat := [0, 0, 2, 0, 0, 30, 63, 127, 255]
theorem spec_DrawMemPut.tab9 : rtab .any (opsOf Try.f19 9) = spec_DrawMemPut.T9 := by kernel_rfl
theorem spec_DrawMemPut.bits9 : waitsOk spec_DrawMemPut.T9.2 spec_DrawMemPut.B9 = true := by kernel_rfl
set_option maxHeartbeats 8000000 in
set_option maxRecDepth 100000 in
theorem spec_DrawMemPut.calls (k : Nat) (A0 : Option Addr) (c0 : Nat) (l0 : List Int) (r1 : List (S35)) (r2 : ByteArray) (r3 : ByteArray) (r4 : Bool) (r5 : Int) (w : World) (hr0 : Kd.C (Kd.int .u8) w A0 l0.length l0) (hc0 : l0.length ≤ c0) (h : spec_DrawMemPut.f k l0 = some (r1, r2, r3, r4, r5)) :
  Calls Try.prog 19 #[.slice A0 l0.length c0] w fun e w' => ∃ v0_ : Value, e = .returned (.tuple #[.agg #[v0_], .agg #[.string r2, .string r3, .bool r4], .int .i64 r5]) ∧ Kd.R k35 35 w' w.heap.size (fun _ => True) v0_ r1 ∧ Below w.heap.size w w' := by
 have hu26 := Try.underlying26
 have hu33 := Try.underlying33
 have hu35 := Try.underlying35
 have HR0 := mS hr0
 have HC0 := mS hc0
 clear hr0 hc0
 have HB := mS (Below.refl w.heap.size w)
 have H : ((spec_l1New.f k l0).bind fun bt256 => ((spec_l1Size.f l0 14).bind fun t260 => ((spec_l4DrawAny.f k bt256.1 bt256.2.1 bt256.2.2 t260).bind fun bt261 => ((spec_l1Once.f bt256.1 bt261.2.1 bt261.2.2 30).bind fun bt267 => (if bt267.1 = true then (spec_DrawMemPut.l0 k 0 bt256.1 bt267.2.1 bt267.2.2 ([] : List (S35))) else (spec_DrawMemPut.j1 k bt256.1 bt267.2.1 bt267.2.2 bt261.1)))))) = some (r1, r2, r3, r4, r5) := h
 clear h
 replace H := Option.bind_eq_some_iff.mp H
 obtain ⟨⟨t256, t257, t258⟩, A20, H⟩ := H
 replace H : ((spec_l1Size.f l0 14).bind fun t260 => ((spec_l4DrawAny.f k t256 t257 t258 t260).bind fun bt261 => ((spec_l1Once.f t256 bt261.2.1 bt261.2.2 30).bind fun bt267 => (if bt267.1 = true then (spec_DrawMemPut.l0 k 0 t256 bt267.2.1 bt267.2.2 ([] : List (S35))) else (spec_DrawMemPut.j1 k t256 bt267.2.1 bt267.2.2 bt261.1))))) = some (r1, r2, r3, r4, r5) := H
 have A2 := mS A20
 clear A20
 replace H := Option.bind_eq_some_iff.mp H
 obtain ⟨t260, A30, H⟩ := H
 replace H : ((spec_l4DrawAny.f k t256 t257 t258 t260).bind fun bt261 => ((spec_l1Once.f t256 bt261.2.1 bt261.2.2 30).bind fun bt267 => (if bt267.1 = true then (spec_DrawMemPut.l0 k 0 t256 bt267.2.1 bt267.2.2 ([] : List (S35))) else (spec_DrawMemPut.j1 k t256 bt267.2.1 bt267.2.2 bt261.1)))) = some (r1, r2, r3, r4, r5) := H
 have A3 := mS A30
 clear A30
 replace H := Option.bind_eq_some_iff.mp H
 obtain ⟨⟨t261, t264, t265⟩, A40, H⟩ := H
 replace H : ((spec_l1Once.f t256 t264 t265 30).bind fun bt267 => (if bt267.1 = true then (spec_DrawMemPut.l0 k 0 t256 bt267.2.1 bt267.2.2 ([] : List (S35))) else (spec_DrawMemPut.j1 k t256 bt267.2.1 bt267.2.2 t261))) = some (r1, r2, r3, r4, r5) := H
 have A4 := mS A40
 clear A40
 replace H := Option.bind_eq_some_iff.mp H
 obtain ⟨⟨t267, t268, t269⟩, A50, H⟩ := H
 replace H : (if t267 = true then (spec_DrawMemPut.l0 k 0 t256 t268 t269 ([] : List (S35))) else (spec_DrawMemPut.j1 k t256 t268 t269 t261)) = some (r1, r2, r3, r4, r5) := H
 have A5 := mS A50
 clear A50
 have HC6 := mS H
 clear H
 go_enter Try.func19, Try.ntmps19
 go_upto_if 15 with (first | ((with_reducible refine gate_dst (N := 2) rfl ?_); refine box_event ?hg (N := 2) ?hd (cs := #[.slice none 0 0]) (t := 26) ?hr ?_; (case hd => rfl); (case hg => rfl); (case hr => first | (go_simp; done) | (go_simp; rfl)); intro gb254 hg w7 hbox hb; have BK254 := mS (hbox); have GW254 := mG hg (mH HB.out); have GE254 := mG hg (mH HB.out); replace HB := mS (below_step (mH HB.out) hb); clear hb hbox hg) | ((with_reducible refine gate_dst (N := 3) rfl ?_); refine box_event ?hg (N := 3) ?hd (cs := #[.string (⟨#[]⟩ : ByteArray), .string (⟨#[]⟩ : ByteArray), .bool false]) (t := 33) ?hr ?_; (case hd => rfl); (case hg => rfl); (case hr => first | (go_simp; done) | (go_simp; rfl)); intro gb255 hg w8 hbox hb; have BK255 := mS (hbox); have GW255 := mG hg (mH1 HB.out GE254.out); have GE255 := mG hg (mH1 HB.out GE254.out); replace HB := mS (below_step (mH1 HB.out GE254.out) hb); have NB254_255 := mNl hg BK254.out; have NB255_254 := mNg hg BK254.out; replace BK254 := mB BK254 hb; clear hb hbox hg) | ((with_reducible refine gate_callee (f := 78) rfl ?_); refine goesL_ (some 9) rfl rfl Try.func78 (by kernel_rfl) rfl #[.slice A0 l0.length c0] rfl mA ?_; (with_reducible refine (spec_l1New.calls k _ _ l0 t256 t257 t258 w _ ?side1 ?side2 ?side3 A2.out).mono ?_); (case side1 => repeat (first | (with_reducible first | exact HB.out | apply below_alloc | apply pw_below_drewN | apply below_drew1 | refine below_set ?_ GE254.out | refine below_set ?_ GE255.out) | exact HB.out)); (case side2 => exact HR0.out); (case side3 => exact HC0.out); rintro e w9 ⟨g259, rfl, hi, hb, hb2⟩; refine ⟨_, rfl, ?_⟩; replace HB := mS (hb); have HI259 := mS (hi); have NB259_254 := mS (IsS167.ne_blk hi (mKb BK254.out hb2) (by decide)); have NB254_259 := mS (Ne.symm (IsS167.ne_blk hi (mKb BK254.out hb2) (by decide))); replace BK254 := mB BK254 hb2; have NB259_255 := mS (IsS167.ne_blk hi (mKb BK255.out hb2) (by decide)); have NB255_259 := mS (Ne.symm (IsS167.ne_blk hi (mKb BK255.out hb2) (by decide))); replace BK255 := mB BK255 hb2; (try clear hb); (try clear hb2); (try clear hk); (try clear hi)) | ((with_reducible refine gate_callee (f := 80) rfl ?_); refine goesL_ (some 12) rfl rfl Try.func80 (by kernel_rfl) rfl #[.slice A0 l0.length c0, .int .i64 14] rfl mA ?_; (with_reducible refine (spec_l1Size.calls _ _ l0 14 t260 _ ?side1 ?side2 A3.out).mono ?_); (case side1 => repeat (first | exact (Kd.C_below HR0.out HB.out) | (with_reducible refine Kd.C_alloc ?_ _) | (with_reducible refine Kd.C_drewN ?_ _) | (with_reducible refine Kd.C_drew ?_))); (case side2 => exact HC0.out); rintro e w' ⟨rfl, ⟨nd, rfl⟩⟩; refine ⟨_, rfl, ?_⟩; (try (rw [drewN_self w9]; generalize hq_ : World.drewN w9 _ = w9; have n0_ : Aside0 (w9.heap[gb254]? = some (.cells #[.slice none 0 0] 26 (0, 0))) := ⟨by rw [← hq_]; exact (mK BK254.out)⟩; have n1_ : Aside0 (w9.heap[gb255]? = some (.cells #[.string (⟨#[]⟩ : ByteArray), .string (⟨#[]⟩ : ByteArray), .bool false] 33 (0, 0))) := ⟨by rw [← hq_]; exact (mK BK255.out)⟩; have n2_ : Aside0 (IsS167 w w9 g259 t256 t257 t258) := ⟨by rw [← hq_]; exact (mI19_0 HI259.out NB259_254.out NB259_255.out)⟩; have n3_ : Aside0 (Below w.heap.size w w9) := ⟨by rw [← hq_]; exact (mH19_2 HB.out (IsS167.ge HI259.out) GE254.out GE255.out)⟩; clear BK254 BK255 HI259 HB hq_; have BK254 := n0_; have BK255 := n1_; have HI259 := n2_; have HB := n3_; clear n0_ n1_ n2_ n3_))) | ((with_reducible refine gate_callee (f := 79) rfl ?_); refine goesL_ (some 13) rfl rfl Try.func79 (by kernel_rfl) rfl #[.pointer (some ⟨g259, 0, none⟩), .int .i64 t260] rfl mA ?_; (with_reducible refine (spec_l4DrawAny.calls k g259 t256 t257 t258 t260 t261 t264 t265 w _ ?side1 ?side2 A4.out).mono ?_); (case side1 => repeat (first | (with_reducible first | exact HI259.out | apply IsS167.alloc | apply IsS167.drewN | apply IsS167.drew | apply IsS167.set_1 | apply IsS167.set_2 | refine IsS167.far ?_ NB259_254.out _ | refine IsS167.far ?_ NB259_255.out _) | exact HI259.out)); (case side2 => repeat (first | (with_reducible first | exact HB.out | apply below_alloc | apply pw_below_drewN | apply below_drew1 | refine below_set ?_ (IsS167.ge HI259.out) | refine below_set ?_ GE254.out | refine below_set ?_ GE255.out) | exact HB.out)); rintro e w10 ⟨v262, rfl, ho0, hi, hb, hk⟩; refine ⟨_, rfl, ?_⟩; replace BK254 := mS (KeepBut.blk hk (g' := gb254) (o := .cells #[.slice none 0 0] 26 (0, 0)) (mK BK254.out) NB254_259.out (by simp)); replace BK255 := mS (KeepBut.blk hk (g' := gb255) (o := .cells #[.string (⟨#[]⟩ : ByteArray), .string (⟨#[]⟩ : ByteArray), .bool false] 33 (0, 0)) (mK BK255.out) NB255_259.out (by simp)); have HO263 := mS (Kd.R_lower ho0 (below_size (mH19_2 HB.out (IsS167.ge HI259.out) GE254.out GE255.out))); replace HB := mS (hb); replace HI259 := mS (hi); (try clear hb); (try clear hb2); (try clear hk); (try clear hi); (try clear ho0)) | ((with_reducible refine gate_dst (N := 6) rfl ?_); refine box_event ?hg (N := 6) ?hd (cs := #[.slice none 0 0]) (t := 26) ?hr ?_; (case hd => rfl); (case hg => rfl); (case hr => first | (go_simp; done) | (go_simp; rfl)); intro gb266 hg w11 hbox hb; replace HO263 := mS (Kd.R_below (mR HO263.out) hb); have BK266 := mS (hbox); have GW266 := mS ((by rw [hg]; exact (below_size (mH19_2 HB.out (IsS167.ge HI259.out) GE254.out GE255.out)) : w.heap.size ≤ gb266)); have GE266 := mS ((by rw [hg]; exact (below_size (mH19_2 HB.out (IsS167.ge HI259.out) GE254.out GE255.out)) : w.heap.size ≤ gb266)); replace HB := mS (below_step (mH19_2 HB.out (IsS167.ge HI259.out) GE254.out GE255.out) hb); have NB254_266 := mNl hg BK254.out; have NB266_254 := mNg hg BK254.out; replace BK254 := mB BK254 hb; have NB255_266 := mNl hg BK255.out; have NB266_255 := mNg hg BK255.out; replace BK255 := mB BK255 hb; have NB259_266 := mS ((by rw [hg]; exact Nat.ne_of_lt (IsS167.lt (show IsS167 w _ g259 t256 t264 t265 from mI19_0 HI259.out NB259_254.out NB259_255.out)) : g259 ≠ gb266)); have NB266_259 := mS ((by rw [hg]; exact Nat.ne_of_gt (IsS167.lt (show IsS167 w _ g259 t256 t264 t265 from mI19_0 HI259.out NB259_254.out NB259_255.out)) : gb266 ≠ g259)); replace HI259 := mS (IsS167.below (mI19_0 HI259.out NB259_254.out NB259_255.out) hb); clear hb hbox hg; obtain ⟨Ao12, co12, eo12⟩ := Kd.R_slice HO263.out; subst eo12; have hnb13 := NB266_254.out; have hnc13 := NB254_266.out; have hnb14 := NB266_255.out; have hnc14 := NB255_266.out; have hnb15 := NB266_259.out; have hnc15 := NB259_266.out; have hcz16_0 := mZ BK266.out 0; have hfz16_0 := blk_frozen BK266.out 0) | ((with_reducible refine gate_callee (f := 81) rfl ?_); refine goesL_ (some 15) rfl rfl Try.func81 (by kernel_rfl) rfl #[.pointer (some ⟨g259, 0, none⟩), .int .i64 30] rfl mA ?_; (with_reducible refine (spec_l1Once.calls g259 t256 t264 t265 30 t267 t268 t269 w _ ?side1 ?side2 A5.out).mono ?_); (case side1 => repeat (first | (with_reducible first | exact HI259.out | apply IsS167.alloc | apply IsS167.drewN | apply IsS167.drew | apply IsS167.set_1 | apply IsS167.set_2 | refine IsS167.far ?_ NB259_254.out _ | refine IsS167.far ?_ NB259_255.out _ | refine IsS167.far ?_ NB259_266.out _) | exact HI259.out)); (case side2 => repeat (first | (with_reducible first | exact HB.out | apply below_alloc | apply pw_below_drewN | apply below_drew1 | refine below_set ?_ (IsS167.ge HI259.out) | refine below_set ?_ GE254.out | refine below_set ?_ GE255.out | refine below_set ?_ GE266.out) | exact HB.out)); rintro e w17 ⟨rfl, hi, hb, hk⟩; refine ⟨_, rfl, ?_⟩; replace BK254 := mS (KeepBut.blk hk (g' := gb254) (o := .cells #[.slice none 0 0] 26 (0, 0)) (by (with_reducible repeat (first | refine blk_drewN ?_ _ | refine blk_drew ?_ | refine blk_alloc ?_ _)); refine blk_far ?_ NB254_266.out _; (with_reducible repeat (first | refine blk_drewN ?_ _ | refine blk_drew ?_ | refine blk_alloc ?_ _)); exact BK254.out) NB254_259.out (by simp)); replace BK255 := mS (KeepBut.blk hk (g' := gb255) (o := .cells #[.string (⟨#[]⟩ : ByteArray), .string (⟨#[]⟩ : ByteArray), .bool false] 33 (0, 0)) (by (with_reducible repeat (first | refine blk_drewN ?_ _ | refine blk_drew ?_ | refine blk_alloc ?_ _)); refine blk_far ?_ NB255_266.out _; (with_reducible repeat (first | refine blk_drewN ?_ _ | refine blk_drew ?_ | refine blk_alloc ?_ _)); exact BK255.out) NB255_259.out (by simp)); replace HO263 := mS (Kd.R_mono (Kd.R_keep (IsS167.apart (show IsS167 w _ g259 t256 t264 t265 from mI19_1 HI259.out NB259_254.out NB259_255.out NB259_266.out) (by (with_reducible repeat (first | apply Kd.R_alloc | apply Kd.R_drewN | apply Kd.R_drew)); exact (Kd.R_mono (Kd.R_far (p := ⟨gb266, 0, none⟩) (Kd.R_types HO263.out BK266.out (by decide)) (fun _ hk => hk.2) (.slice Ao12 t261.length co12)) (fun _ h_ => h_.1))) (by decide)) hk (fun _ h => h.2)) (fun _ h => h.1)); replace BK266 := mS (KeepBut.blk hk (g' := gb266) (o := .cells #[.slice Ao12 t261.length co12] 26 (0, 0)) (by (with_reducible repeat (first | refine blk_drewN ?_ _ | refine blk_drew ?_ | refine blk_alloc ?_ _)); refine blk_put (cs := #[.slice none 0 0]) ?_ 0 _ rfl; (with_reducible repeat (first | refine blk_drewN ?_ _ | refine blk_drew ?_ | refine blk_alloc ?_ _)); exact BK266.out) NB266_259.out (by simp)); replace HB := mS (hb); replace HI259 := mS (hi); (try clear hb); (try clear hb2); (try clear hk); (try clear hi)))
 (try simp only [Act.put, zA, zB, zC])
 go_cut [] (fun wc => ∃ (kq : Nat) (x260001_5 : Int) (x260002_5 : Int) (x267000_5 : List (S35)) (u267000 : Value), Aside0 (spec_DrawMemPut.j1 kq t256 x260001_5 x260002_5 x267000_5 = some (r1, r2, r3, r4, r5)) ∧ Aside0 (kq ≤ k) ∧ Aside0 (Kd.R k35 35 wc w.heap.size (fun _ => True) u267000 x267000_5) ∧ Aside0 (wc.heap[gb254]? = some (.cells #[(.slice none 0 0)] 26 (0, 0))) ∧ Aside0 (wc.heap[gb255]? = some (.cells #[.string (⟨#[]⟩ : ByteArray), .string (⟨#[]⟩ : ByteArray), .bool false] 33 (0, 0))) ∧ Aside0 (wc.heap[gb266]? = some (.cells #[u267000] 26 (0, 0))) ∧ Aside0 (IsS167 w wc g259 t256 x260001_5 x260002_5) ∧ Aside0 (Below w.heap.size w wc))
 case first =>
  have H := HC6.out
  clear HC6
  by_cases c18 : t267 = true
  ·subst c18
   have H1 : (spec_DrawMemPut.l0 k 0 t256 t268 t269 ([] : List (S35))) = some (r1, r2, r3, r4, r5) := by rw [if_pos rfl] at H; exact H
   clear H
   have H := H1
   clear H1
   have H' := mS H
   clear H
   have hnb19 := NB266_254.out
   have hnc19 := NB254_266.out
   have hnb20 := NB266_255.out
   have hnc20 := NB255_266.out
   have hnb21 := NB266_259.out
   have hnc21 := NB259_266.out
   have hcz22_0 := mZ BK266.out 0
   have hfz22_0 := blk_frozen BK266.out 0
   go_wp2
   go_loopg [7] k (fun kq v7 w' => ∃ (x7_1 : Int) (x260001_1 : Int) (x260002_1 : Int) (x267000_1 : List (S35)) (u267000 : Value), v7 = .int .i64 x7_1 ∧ Aside0 (spec_DrawMemPut.l0 kq x7_1 t256 x260001_1 x260002_1 x267000_1 = some (r1, r2, r3, r4, r5)) ∧ Aside0 (kq ≤ k) ∧ Aside0 (Kd.R k35 35 w' w.heap.size (fun _ => True) u267000 x267000_1) ∧ Aside0 (w'.heap[gb254]? = some (.cells #[(.slice none 0 0)] 26 (0, 0))) ∧ Aside0 (w'.heap[gb255]? = some (.cells #[.string (⟨#[]⟩ : ByteArray), .string (⟨#[]⟩ : ByteArray), .bool false] 33 (0, 0))) ∧ Aside0 (w'.heap[gb266]? = some (.cells #[u267000] 26 (0, 0))) ∧ Aside0 (IsS167 w w' g259 t256 x260001_1 x260002_1) ∧ Aside0 (Below w.heap.size w w'))
   case atStart => exact ⟨(0), (t268), (t269), (([] : List (S35))), (.slice none 0 0), (by first | rfl | (simp; done) | (simp [*]; done)), H', ⟨Nat.le_refl _⟩, ⟨by first | exact Kd.R_nil _ _ _ _ _ | exact Kd.N_nil _ _ _ _ _ | exact Kd.V_nil _ _ _ _ _ | exact Kd.Q_nil _ _ _ _ _ | exact Kd.S_nil _ _ _ _ _⟩, ⟨by (with_reducible repeat (first | refine blk_drewN ?_ _ | refine blk_drew ?_ | refine blk_alloc ?_ _)); refine blk_far ?_ NB254_266.out _; (with_reducible repeat (first | refine blk_drewN ?_ _ | refine blk_drew ?_ | refine blk_alloc ?_ _)); exact BK254.out⟩, ⟨by (with_reducible repeat (first | refine blk_drewN ?_ _ | refine blk_drew ?_ | refine blk_alloc ?_ _)); refine blk_far ?_ NB255_266.out _; (with_reducible repeat (first | refine blk_drewN ?_ _ | refine blk_drew ?_ | refine blk_alloc ?_ _)); exact BK255.out⟩, ⟨by (with_reducible repeat (first | refine blk_drewN ?_ _ | refine blk_drew ?_ | refine blk_alloc ?_ _)); refine blk_put (cs := #[.slice Ao12 t261.length co12]) ?_ 0 _ rfl; (with_reducible repeat (first | refine blk_drewN ?_ _ | refine blk_drew ?_ | refine blk_alloc ?_ _)); exact BK266.out⟩, ⟨mI19_1 HI259.out NB259_254.out NB259_255.out NB259_266.out⟩, ⟨mH19_3 HB.out (IsS167.ge HI259.out) GE254.out GE255.out GE266.out⟩⟩
   case round =>
    clear H'
    try clear c1
    try clear c2
    try clear p2
    try clear c7
    try clear c8
    try clear c13
    try clear c14
    try clear c15
    try clear c18
    try clear c19
    try clear c20
    try clear c21
    try clear hcz16_0
    try clear hcz22_0
    try clear hfz16_0
    try clear hfz22_0
    obtain ⟨x7_1, x260001_1, x260002_1, x267000_1, u267000, rfl, HA, HK1, HO_267000, BK254, BK255, BK266, HI259, HB⟩ := hrel
    cases gk with
    | zero => exact absurd HA.out (by simp [spec_DrawMemPut.l0])
    | succ k1 =>
     have H := HA.out
     clear HA
     simp only [spec_DrawMemPut.l0] at H
     replace H := Option.bind_eq_some_iff.mp H
     obtain ⟨⟨t270, t271, t272⟩, A230, H⟩ := H
     replace H : (if x7_1 < (wrap64 (60 - t270)) then ((some (([(wrap64 (48 + (wrap64 (Int.tdiv x7_1 10)))) % 256, (wrap64 (48 + (Int.tmod x7_1 10))) % 256] : List Int) : List Int)).bind fun y273 => (if 1 + (strOfNums y273).size ≤ 9223372036854775807 then (if x267000_1.length < 2932031007402 then (spec_DrawMemPut.l0 k1 (wrap64 (x7_1 + 1)) t256 t271 t272 (x267000_1 ++ [(⟨(⟨(⟨#[107]⟩ : ByteArray) ++ (strOfNums y273), (⟨#[]⟩ : ByteArray), false⟩ : S33), 1⟩ : S35)])) else (none)) else (none))) else (spec_DrawMemPut.j1 k1 t256 t271 t272 x267000_1)) = some (r1, r2, r3, r4, r5) := H
     have A23 := mS A230
     clear A230
     by_cases c24 : x7_1 < (wrap64 (60 - t270))
     ·rw [if_pos c24] at H
      have c24b0 : decide (x7_1 < (wrap64 (60 - t270))) = true := decide_eq_true c24
      clear c24
      (first | rw [c24b0] | (simp only [i64_w, i32_w]; rw [c24b0]) | skip)
      obtain ⟨y273, hy273⟩ : ∃ y_ : List Int, y_ = (([(wrap64 (48 + (wrap64 (Int.tdiv x7_1 10)))) % 256, (wrap64 (48 + (Int.tmod x7_1 10))) % 256] : List Int)) := ⟨_, rfl⟩
      replace H : (if 1 + (strOfNums y273).size ≤ 9223372036854775807 then (if x267000_1.length < 2932031007402 then (spec_DrawMemPut.l0 k1 (wrap64 (x7_1 + 1)) t256 t271 t272 (x267000_1 ++ [(⟨(⟨(⟨#[107]⟩ : ByteArray) ++ (strOfNums y273), (⟨#[]⟩ : ByteArray), false⟩ : S33), 1⟩ : S35)])) else (none)) else (none)) = some (r1, r2, r3, r4, r5) := by first | (rw [hy273]; with_reducible exact H) | (have H2_ := (Option.bind_some _ _).symm.trans H; rw [hy273]; with_reducible exact H2_) | (have H2_ := (Option.bind_some _ _).symm.trans H; with_reducible exact H2_) | with_reducible exact H | (rw [hy273]; exact H) | exact H
      have Ny273 := mS hy273
      clear hy273
      by_cases c25 : 1 + (strOfNums y273).size ≤ 9223372036854775807
      ·rw [if_pos c25] at H
       have c25b0 := eq_true c25
       have c25b1 : decide (1 + (strOfNums y273).size ≤ 9223372036854775807) = true := decide_eq_true c25
       try have c25b2 : (9223372036854775807 < 1 + (strOfNums y273).size) = False := eq_false (Nat.not_lt.2 c25)
       by_cases c26 : x267000_1.length < 2932031007402
       ·rw [if_pos c26] at H
        have LMc26 := mS c26
        clear c26
        obtain ⟨y276, hy276⟩ : ∃ y_ : List (S35), y_ = (x267000_1 ++ [(⟨(⟨(⟨#[107]⟩ : ByteArray) ++ (strOfNums y273), (⟨#[]⟩ : ByteArray), false⟩ : S33), 1⟩ : S35)]) := ⟨_, rfl⟩
        replace H : (spec_DrawMemPut.l0 k1 (wrap64 (x7_1 + 1)) t256 t271 t272 y276) = some (r1, r2, r3, r4, r5) := by first | (rw [hy276]; with_reducible exact H) | (have H2_ := (Option.bind_some _ _).symm.trans H; rw [hy276]; with_reducible exact H2_) | (have H2_ := (Option.bind_some _ _).symm.trans H; with_reducible exact H2_) | with_reducible exact H | (rw [hy276]; exact H) | exact H
        have Ny276 := mS hy276
        clear hy276
        have H' := mS H
        clear H
        go_wp2_with (first | ((with_reducible refine gate_callee (f := 82) rfl ?_); refine goesL_ (some 19) rfl rfl Try.func82 (by kernel_rfl) rfl #[.pointer (some ⟨g259, 0, none⟩), .int .i64 2] rfl mA ?_; (with_reducible refine (spec_l1Below.calls g259 t256 x260001_1 x260002_1 2 t270 t271 t272 w _ ?side1 ?side2 A23.out).mono ?_); (case side1 => repeat (first | (with_reducible first | exact HI259.out | apply IsS167.alloc | apply IsS167.drewN | apply IsS167.drew | apply IsS167.set_1 | apply IsS167.set_2 | refine IsS167.far ?_ NB259_254.out _ | refine IsS167.far ?_ NB259_255.out _ | refine IsS167.far ?_ NB259_266.out _) | exact HI259.out)); (case side2 => repeat (first | (with_reducible first | exact HB.out | apply below_alloc | apply pw_below_drewN | apply below_drew1 | refine below_set ?_ (IsS167.ge HI259.out) | refine below_set ?_ GE254.out | refine below_set ?_ GE255.out | refine below_set ?_ GE266.out) | exact HB.out)); rintro e w27 ⟨rfl, hi, hb, hk⟩; refine ⟨_, rfl, ?_⟩; replace HO_267000 := mS (Kd.R_mono (Kd.R_keep (IsS167.apart (show IsS167 w _ g259 t256 x260001_1 x260002_1 from mI19_1 HI259.out NB259_254.out NB259_255.out NB259_266.out) (mR HO_267000.out) (by decide)) hk (fun _ h => h.2)) (fun _ h => h.1)); replace BK254 := mS (KeepBut.blk hk (g' := gb254) (o := .cells #[.slice none 0 0] 26 (0, 0)) (mK BK254.out) NB254_259.out (by simp)); replace BK255 := mS (KeepBut.blk hk (g' := gb255) (o := .cells #[.string (⟨#[]⟩ : ByteArray), .string (⟨#[]⟩ : ByteArray), .bool false] 33 (0, 0)) (mK BK255.out) NB255_259.out (by simp)); replace BK266 := mS (KeepBut.blk hk (g' := gb266) (o := .cells #[u267000] 26 (0, 0)) (mK BK266.out) NB266_259.out (by simp)); replace HB := mS (hb); replace HI259 := mS (hi); (try clear hb); (try clear hb2); (try clear hk); (try clear hi); have hnb28 := NB266_254.out; have hnc28 := NB254_266.out; have hnb29 := NB266_255.out; have hnc29 := NB255_266.out; have hnb30 := NB266_259.out; have hnc30 := NB259_266.out; have hcz31_0 := mZ BK266.out 0; have hfz31_0 := blk_frozen BK266.out 0) | ((with_reducible refine gate_dst (N := 34) rfl ?_); refine Kd.R_lit (Kd.int .u8) _ 5 ?hg (N := 34) ?hd (xs := ([(wrap64 (48 + (wrap64 (Int.tdiv x7_1 10)))) % 256, (wrap64 (48 + (Int.tmod x7_1 10))) % 256] : List Int)) (inner := [.int .u8 ((wrap64 (48 + (wrap64 (Int.tdiv x7_1 10)))) % 256), .int .u8 ((wrap64 (48 + (Int.tmod x7_1 10))) % 256)]) (ok := fun _ => True) (okp := fun _ => True) ?hr ?hp (fun _ hk => hk) trivial (Below.refl _ _) (Nat.le_refl _) (by simp) ?_; (case hd => rfl); (case hg => rfl); (case hr => first | (go_simp; done) | (go_simp; rfl)); (case hp => exact (Reps.one (show Kd.M (Kd.int .u8) _ _ _ ((wrap64 (48 + (wrap64 (Int.tdiv x7_1 10)))) % 256) [.int .u8 ((wrap64 (48 + (wrap64 (Int.tdiv x7_1 10)))) % 256)] from rfl) (Reps.one (show Kd.M (Kd.int .u8) _ _ _ ((wrap64 (48 + (Int.tmod x7_1 10))) % 256) [.int .u8 ((wrap64 (48 + (Int.tmod x7_1 10))) % 256)] from rfl) (Reps.none _ _)))); intro v274 w32 ho33 hb hg_ hnew_; clear hg_ hnew_; (first | rw [← Ny273.out] at ho33 | (simp only [Int.reduceToNat] at ho33; rw [← Ny273.out] at ho33)); replace HO_267000 := mS (Kd.R_below (mR HO_267000.out) hb); have HO275 := mS (Kd.R_lower ho33 (below_size (mH19_3 HB.out (IsS167.ge HI259.out) GE254.out GE255.out GE266.out))); replace BK254 := mB BK254 hb; replace BK255 := mB BK255 hb; replace BK266 := mB BK266 hb; replace HB := mS (below_step (mH19_3 HB.out (IsS167.ge HI259.out) GE254.out GE255.out GE266.out) hb); replace HI259 := mS (IsS167.below (mI19_1 HI259.out NB259_254.out NB259_255.out NB259_266.out) hb); clear hb ho33; have hcv34 := own_string (P := Try.prog) Try.underlying22 Try.underlying5 Try.underlying9 (Kd.own_of_R HO275.out)) | ((with_reducible refine gate_builtin (b := .append) (xs := #[.tmp 25, .tmp 39]) rfl ?_); at_builtin; refine Kd.R_append k35 (w0 := w) w.heap.size rfl (.tmp 25) (.tmp 39) 24 35 (.agg #[(.string ⟨#[]⟩), (.string ⟨#[]⟩), (.bool false), (.int .i64 0)]) 48 rfl Try.underlying24 info35 rfl (by decide) (by omega) u267000 x267000_1 (⟨(⟨(⟨#[107]⟩ : ByteArray) ++ (strOfNums y273), (⟨#[]⟩ : ByteArray), false⟩ : S33), 1⟩ : S35) [.string ((⟨#[107]⟩ : ByteArray) ++ (strOfNums y273)), .string (⟨#[]⟩ : ByteArray), .bool false, .int .i64 1] (fun _ => True) (fun _ => False) rfl rfl ?aP (fun _ hk => hk.elim) ?aF ?aO ?aB ?aS ?aL ?_; (case aP => exact k35_mkM _ _ _ (⟨(⟨(⟨#[107]⟩ : ByteArray) ++ (strOfNums y273), (⟨#[]⟩ : ByteArray), false⟩ : S33), 1⟩ : S35)); (case aB => exact (mH19_3 HB.out (IsS167.ge HI259.out) GE254.out GE255.out GE266.out)); (case aF => exact (fun _ _ => trivial)); (case aO => exact (mR HO_267000.out)); (case aS => exact (below_size (mH19_3 HB.out (IsS167.ge HI259.out) GE254.out GE255.out GE266.out))); (case aL => have := LMc26.out; omega); intro v277 w35 ho hb hg hat; rw [← Ny276.out] at ho; replace BK254 := mS (blk_grown (g := gb254) (o := .cells #[.slice none 0 0] 26 (0, 0)) (mK BK254.out) hg (Kd.R_ne HO_267000.out BK254.out (by decide))); replace BK255 := mS (blk_grown (g := gb255) (o := .cells #[.string (⟨#[]⟩ : ByteArray), .string (⟨#[]⟩ : ByteArray), .bool false] 33 (0, 0)) (mK BK255.out) hg (Kd.R_ne HO_267000.out BK255.out (by decide))); replace BK266 := mS (blk_grown (g := gb266) (o := .cells #[u267000] 26 (0, 0)) (mK BK266.out) hg (Kd.R_ne HO_267000.out BK266.out (by decide))); replace HI259 := mS (IsS167.grown (mI19_1 HI259.out NB259_254.out NB259_255.out NB259_266.out) hg (IsS167.own_ne HI259.out HO_267000.out (by decide))); replace HO275 := mS (Kd.R_over' (mR HO275.out) (Kd.R_typed (mR HO_267000.out)) (by decide) hg); replace HB := mS (hb); have HO278 := mS (ho); clear HO_267000; clear ho hb hg hat; obtain ⟨Ao36, co36, eo36⟩ := Kd.R_slice HO278.out; subst eo36; have hcz37_0 := mZ BK266.out 0; have hfz37_0 := blk_frozen BK266.out 0))
        go_roundg k1
        case measure => have := HK1.out; omega
        case rel => exact ⟨(wrap64 (x7_1 + 1)), (t271), (t272), (y276), (.slice Ao36 y276.length co36), (by first | rfl | (simp; done) | (simp [*]; done)), H', ⟨by have := HK1.out; omega⟩, ⟨by (with_reducible repeat (first | apply Kd.R_alloc | apply Kd.R_drewN | apply Kd.R_drew)); exact Kd.R_mono (Kd.R_far (p := ⟨gb266, 0, none⟩) (Kd.R_types HO278.out BK266.out (by decide)) (fun _ hk => hk.2) (.slice Ao36 y276.length co36)) (fun _ hk => trivial)⟩, ⟨by (with_reducible repeat (first | refine blk_drewN ?_ _ | refine blk_drew ?_ | refine blk_alloc ?_ _)); refine blk_far ?_ NB254_266.out _; (with_reducible repeat (first | refine blk_drewN ?_ _ | refine blk_drew ?_ | refine blk_alloc ?_ _)); exact BK254.out⟩, ⟨by (with_reducible repeat (first | refine blk_drewN ?_ _ | refine blk_drew ?_ | refine blk_alloc ?_ _)); refine blk_far ?_ NB255_266.out _; (with_reducible repeat (first | refine blk_drewN ?_ _ | refine blk_drew ?_ | refine blk_alloc ?_ _)); exact BK255.out⟩, ⟨by (with_reducible repeat (first | refine blk_drewN ?_ _ | refine blk_drew ?_ | refine blk_alloc ?_ _)); refine blk_put (cs := #[u267000]) ?_ 0 _ rfl; (with_reducible repeat (first | refine blk_drewN ?_ _ | refine blk_drew ?_ | refine blk_alloc ?_ _)); exact BK266.out⟩, ⟨mI19_1 HI259.out NB259_254.out NB259_255.out NB259_266.out⟩, ⟨mH19_3 HB.out (IsS167.ge HI259.out) GE254.out GE255.out GE266.out⟩⟩
       ·rw [if_neg c26] at H
        exact absurd H (by simp)
      ·rw [if_neg c25] at H
       exact absurd H (by simp)
     ·rw [if_neg c24] at H
      have c24b0 : decide (x7_1 < (wrap64 (60 - t270))) = false := decide_eq_false c24
      clear c24
      (first | rw [c24b0] | (simp only [i64_w, i32_w]; rw [c24b0]) | skip)
      have H' := mS H
      clear H
      go_wp2_with (first | ((with_reducible refine gate_callee (f := 82) rfl ?_); refine goesL_ (some 19) rfl rfl Try.func82 (by kernel_rfl) rfl #[.pointer (some ⟨g259, 0, none⟩), .int .i64 2] rfl mA ?_; (with_reducible refine (spec_l1Below.calls g259 t256 x260001_1 x260002_1 2 t270 t271 t272 w _ ?side1 ?side2 A23.out).mono ?_); (case side1 => repeat (first | (with_reducible first | exact HI259.out | apply IsS167.alloc | apply IsS167.drewN | apply IsS167.drew | apply IsS167.set_1 | apply IsS167.set_2 | refine IsS167.far ?_ NB259_254.out _ | refine IsS167.far ?_ NB259_255.out _ | refine IsS167.far ?_ NB259_266.out _) | exact HI259.out)); (case side2 => repeat (first | (with_reducible first | exact HB.out | apply below_alloc | apply pw_below_drewN | apply below_drew1 | refine below_set ?_ (IsS167.ge HI259.out) | refine below_set ?_ GE254.out | refine below_set ?_ GE255.out | refine below_set ?_ GE266.out) | exact HB.out)); rintro e w38 ⟨rfl, hi, hb, hk⟩; refine ⟨_, rfl, ?_⟩; replace HO_267000 := mS (Kd.R_mono (Kd.R_keep (IsS167.apart (show IsS167 w _ g259 t256 x260001_1 x260002_1 from mI19_1 HI259.out NB259_254.out NB259_255.out NB259_266.out) (mR HO_267000.out) (by decide)) hk (fun _ h => h.2)) (fun _ h => h.1)); replace BK254 := mS (KeepBut.blk hk (g' := gb254) (o := .cells #[.slice none 0 0] 26 (0, 0)) (mK BK254.out) NB254_259.out (by simp)); replace BK255 := mS (KeepBut.blk hk (g' := gb255) (o := .cells #[.string (⟨#[]⟩ : ByteArray), .string (⟨#[]⟩ : ByteArray), .bool false] 33 (0, 0)) (mK BK255.out) NB255_259.out (by simp)); replace BK266 := mS (KeepBut.blk hk (g' := gb266) (o := .cells #[u267000] 26 (0, 0)) (mK BK266.out) NB266_259.out (by simp)); replace HB := mS (hb); replace HI259 := mS (hi); (try clear hb); (try clear hb2); (try clear hk); (try clear hi)))
      go_meet
      case rel => exact ⟨_, (t271), (t272), (x267000_1), (u267000), H', ⟨by have := HK1.out; first | omega | exact Nat.le_refl _⟩, ⟨by (with_reducible repeat (first | apply Kd.R_alloc | apply Kd.R_drewN | apply Kd.R_drew)); exact HO_267000.out⟩, ⟨by (with_reducible repeat (first | refine blk_drewN ?_ _ | refine blk_drew ?_ | refine blk_alloc ?_ _)); exact BK254.out⟩, ⟨by (with_reducible repeat (first | refine blk_drewN ?_ _ | refine blk_drew ?_ | refine blk_alloc ?_ _)); exact BK255.out⟩, ⟨by (with_reducible repeat (first | refine blk_drewN ?_ _ | refine blk_drew ?_ | refine blk_alloc ?_ _)); exact BK266.out⟩, ⟨mI19_1 HI259.out NB259_254.out NB259_255.out NB259_266.out⟩, ⟨mH19_3 HB.out (IsS167.ge HI259.out) GE254.out GE255.out GE266.out⟩⟩
  ·replace c18 := Bool.eq_false_iff.mpr c18
   subst c18
   have H1 : (spec_DrawMemPut.j1 k t256 t268 t269 t261) = some (r1, r2, r3, r4, r5) := by rw [if_neg (show ¬ (false = true) by decide)] at H; exact H
   clear H
   have H := H1
   clear H1
   have H' := mS H
   clear H
   go_wp2
   go_meet
   case rel => exact ⟨_, (t268), (t269), (t261), (.slice Ao12 t261.length co12), H', ⟨by first | omega | exact Nat.le_refl _⟩, ⟨by (with_reducible repeat (first | apply Kd.R_alloc | apply Kd.R_drewN | apply Kd.R_drew)); exact HO263.out⟩, ⟨by (with_reducible repeat (first | refine blk_drewN ?_ _ | refine blk_drew ?_ | refine blk_alloc ?_ _)); exact BK254.out⟩, ⟨by (with_reducible repeat (first | refine blk_drewN ?_ _ | refine blk_drew ?_ | refine blk_alloc ?_ _)); exact BK255.out⟩, ⟨by (with_reducible repeat (first | refine blk_drewN ?_ _ | refine blk_drew ?_ | refine blk_alloc ?_ _)); exact BK266.out⟩, ⟨mI19_1 HI259.out NB259_254.out NB259_255.out NB259_266.out⟩, ⟨mH19_3 HB.out (IsS167.ge HI259.out) GE254.out GE255.out GE266.out⟩⟩
 case rest =>
  clear HC6
  try clear c1
  try clear c2
  try clear p2
  try clear c3
  try clear hcv3
  try clear p6
  try clear c7
  try clear c8
  try clear c13
  try clear c14
  try clear c15
  try clear c18
  try clear c19
  try clear c20
  try clear c21
  try clear c24
  try clear c24b0
  try clear c25
  try clear c25b0
  try clear c25b1
  try clear c25b2
  try clear c26
  try clear c28
  try clear c29
  try clear c30
  try clear hcv34
  try clear hcz16_0
  try clear hcz22_0
  try clear hcz31_0
  try clear hcz37_0
  try clear hfz16_0
  try clear hfz22_0
  try clear hfz31_0
  try clear hfz37_0
  try clear p2
  obtain ⟨kq, x260001_5, x260002_5, x267000_5, u267000, HA, HJ5, HO_267000, BK254, BK255, BK266, HI259, HB⟩ := hcut
  cases kq with
  | zero => exact absurd HA.out (by simp [spec_DrawMemPut.j1])
  | succ kj5 =>
   have H := HA.out
   clear HA
   simp only [spec_DrawMemPut.j1] at H
   replace H := Option.bind_eq_some_iff.mp H
   obtain ⟨⟨t279, t280, t281, t282, t283⟩, A390, H⟩ := H
   replace H : ((spec_l1Int.f t256 t282 t283 (([1, 2, 4, 4, 0, 5] : List Int))).bind fun bt287 => (some (x267000_5, t279, t280, t281, bt287.1))) = some (r1, r2, r3, r4, r5) := H
   have A39 := mS A390
   clear A390
   obtain ⟨y284, hy284⟩ : ∃ y_ : List Int, y_ = (([1, 2, 4, 4, 0, 5] : List Int)) := ⟨_, rfl⟩
   replace H : ((spec_l1Int.f t256 t282 t283 y284).bind fun bt287 => (some (x267000_5, t279, t280, t281, bt287.1))) = some (r1, r2, r3, r4, r5) := by first | (rw [hy284]; with_reducible exact H) | (have H2_ := (Option.bind_some _ _).symm.trans H; rw [hy284]; with_reducible exact H2_) | (have H2_ := (Option.bind_some _ _).symm.trans H; with_reducible exact H2_) | with_reducible exact H | (rw [hy284]; exact H) | exact H
   have Ny284 := mS hy284
   clear hy284
   replace H := Option.bind_eq_some_iff.mp H
   obtain ⟨⟨t287, t288, t289⟩, A400, H⟩ := H
   replace H : (some (x267000_5, t279, t280, t281, t287)) = some (r1, r2, r3, r4, r5) := H
   have A40 := mS A400
   clear A400
   simp only [Option.some.injEq, Prod.mk.injEq] at H
   obtain ⟨rfl, rfl, rfl, rfl, rfl⟩ := H
   try go_wp2
   have n0_ := mS (Kd.R_drew HO_267000.out)
   have n1_ := mS (blk_drew BK254.out)
   have n2_ := mS (blk_drew BK255.out)
   have n3_ := mS (blk_drew BK266.out)
   have n4_ := mS (IsS167.drew HI259.out)
   have n5_ := mS (below_drew1 HB.out)
   clear HO_267000
   clear BK254
   clear BK255
   clear BK266
   clear HI259
   clear HB
   have HO_267000 := n0_
   have BK254 := n1_
   have BK255 := n2_
   have BK266 := n3_
   have HI259 := n4_
   have HB := n5_
   clear n0_ n1_ n2_ n3_ n4_ n5_
   refine start_ (n := 9) (S := fun w' => w'.cell? ⟨gb266, 0, none⟩ = some (u267000)) (ds := []) (mb 0 9) (by kernel_rfl) rfl rfl (mZ BK266.out 0) (fun hHeld => ?_); refine with_tabW spec_DrawMemPut.tab9 spec_DrawMemPut.bits9 (fun HT_ HW_ => ?_)
   generalize wc.drew = w41 at HO_267000 BK254 BK255 BK266 HI259 HB hHeld ⊢
   refine pure_ (i := 1) (N := some 43) (v := ?_) (a' := ?_) #[false, true, false, false, false, false, false, false, false] rfl rfl (any_of HT_.out (by kernel_rfl)) (fun _ _ _ h => h) (Or.inl ⟨by rfl, ?_⟩) ?_ ?_
   rotate_left
   ·intro w'
    go_simp
    with_reducible rfl
   rotate_left
   ·simp only [Act.put, zA, zB, zC, i64_w, i32_w]
    rfl
   refine pure_ (i := 3) (N := some 45) (v := ?_) (a' := ?_) #[false, true, false, true, false, false, false, false, false] rfl rfl (any_of HT_.out (by kernel_rfl)) (fun _ _ _ h => h) (Or.inl ⟨by rfl, ?_⟩) ?_ ?_
   rotate_left
   ·intro w'
    go_simp
    with_reducible rfl
   rotate_left
   ·simp only [Act.put, zA, zB, zC, i64_w, i32_w]
    rfl
   refine take_ (i := 0) (N := some 42) (v := ?_) (a' := ?_) #[true, true, false, true, false, false, false, false, false] rfl rfl (take_ofW HT_.out HW_.out (by kernel_rfl)) (fun _ _ _ h => h) (Or.inl ⟨by rfl, ?_⟩) hHeld ?_ ?_
   rotate_left
   ·intro w' s0
    go_simp
    with_reducible rfl
   rotate_left
   ·simp only [Act.put, zA, zB, zC, i64_w, i32_w]
    rfl
   refine join_ (σ := Value) 4 (mb 5 4) (fun s_ => [(44, .agg #[.string t279, .string t280, .bool t281]), (46, s_)]) (fun s_ w' => (w'.cell? ⟨gb266, 0, none⟩ = some (u267000)) ∧ (Kd.R (Kd.int .i64) 3 w' w.heap.size (fun _ => True) s_ y284) ∧ (Kd.R k35 35 w' w.heap.size (fun _ => True) u267000 x267000_5) ∧ (w'.heap[gb254]? = some (.cells #[.slice none 0 0] 26 (0, 0))) ∧ (w'.heap[gb255]? = some (.cells #[.string (⟨#[]⟩ : ByteArray), .string (⟨#[]⟩ : ByteArray), .bool false] 33 (0, 0))) ∧ (w'.heap[gb266]? = some (.cells #[u267000] 26 (0, 0))) ∧ (IsS167 w w' g259 t256 t282 t283) ∧ (Below w.heap.size w w')) ?_ ?_
   rotate_left
   ·intro hCont
    refine two_ (i := 2) (j := 4) (Ni := some 44) (Nj := some 46) (mb 4 5) #[true, true, false, true, true, false, false, false, false] rfl rfl rfl rfl (two_of HT_.out (by kernel_rfl)) (by decide) (by decide) (fun K hK => ?_) (fun K hK => ?_)
    ·skip
     refine goes_ Try.func83 (by kernel_rfl) rfl #[.pointer (some ⟨g259, 0, none⟩)] (by rfl) rfl rfl mA ?_
     with_reducible refine (spec_l4PairAny.calls g259 t256 x260001_5 x260002_5 t279 t280 t281 t282 t283 w _ ?side1 ?side2 A39.out).mono ?_
     (case side1 => repeat (first | (with_reducible first | exact HI259.out | apply IsS167.alloc | apply IsS167.drewN | apply IsS167.drew | apply IsS167.set_1 | apply IsS167.set_2 | refine IsS167.far ?_ NB259_254.out _ | refine IsS167.far ?_ NB259_255.out _ | refine IsS167.far ?_ NB259_266.out _) | exact HI259.out))
     (case side2 => repeat (first | (with_reducible first | exact HB.out | apply below_alloc | apply pw_below_drewN | apply below_drew1 | refine below_set ?_ (IsS167.ge HI259.out) | refine below_set ?_ GE254.out | refine below_set ?_ GE255.out | refine below_set ?_ GE266.out) | exact HB.out))
     rintro e w42 ⟨rfl, hi, hb, hk⟩
     refine ⟨_, rfl, ?_⟩
     have n0_ := mS (Kd.R_mono (Kd.R_keep (IsS167.apart (show IsS167 w _ g259 t256 x260001_5 x260002_5 from mI19_1 HI259.out NB259_254.out NB259_255.out NB259_266.out) (mR HO_267000.out) (by decide)) hk (fun _ h => h.2)) (fun _ h => h.1))
     have n1_ := mS (KeepBut.blk hk (g' := gb254) (o := .cells #[.slice none 0 0] 26 (0, 0)) (mK BK254.out) NB254_259.out (by simp))
     have n2_ := mS (KeepBut.blk hk (g' := gb255) (o := .cells #[.string (⟨#[]⟩ : ByteArray), .string (⟨#[]⟩ : ByteArray), .bool false] 33 (0, 0)) (mK BK255.out) NB255_259.out (by simp))
     have n3_ := mS (KeepBut.blk hk (g' := gb266) (o := .cells #[u267000] 26 (0, 0)) (mK BK266.out) NB266_259.out (by simp))
     have n4_ := mS (hb)
     have n5_ := mS (hi)
     clear HO_267000
     clear BK254
     clear BK255
     clear BK266
     clear HB
     clear HI259
     have HO_267000 := n0_
     have BK254 := n1_
     have BK255 := n2_
     have BK266 := n3_
     have HB := n4_
     have HI259 := n5_
     clear n0_ n1_ n2_ n3_ n4_ n5_
     (try clear hb)
     (try clear hb2)
     (try clear hk)
     (try clear hi)
     refine hK.out _ _ (mZ BK266.out 0) (fun hHeld => ?_)
     clear hK K
     refine norm_ (a' := ?_) ?_ ?_
     rotate_left
     ·show Act.put _ (some 44) _ = _
      simp only [Act.put, zA, zB, zC, i64_w, i32_w]
      rfl
     refine one_ (i := 4) (N := some 46) (mb 5 4) rfl rfl (one_of HT_.out (by kernel_rfl)) (by decide) (fun K hK => ?_)
     refine Kd.R_lit_step (Kd.int .i64) _ 3 ?hg (N := 46) ?hd (xs := ([1, 2, 4, 4, 0, 5] : List Int)) (inner := [.int .i64 1, .int .i64 2, .int .i64 4, .int .i64 4, .int .i64 0, .int .i64 5]) (ok := fun _ => True) (okp := fun _ => True) ?hr ?hp (fun _ hk => hk) trivial (Below.refl _ _) (Nat.le_refl _) (by simp) ?_; (case hd => rfl); (case hg => rfl); (case hr => first | (go_simp; done) | (go_simp; rfl)); (case hp => exact (Reps.one (show Kd.M (Kd.int .i64) _ _ _ 1 [.int .i64 1] from rfl) (Reps.one (show Kd.M (Kd.int .i64) _ _ _ 2 [.int .i64 2] from rfl) (Reps.one (show Kd.M (Kd.int .i64) _ _ _ 4 [.int .i64 4] from rfl) (Reps.one (show Kd.M (Kd.int .i64) _ _ _ 4 [.int .i64 4] from rfl) (Reps.one (show Kd.M (Kd.int .i64) _ _ _ 0 [.int .i64 0] from rfl) (Reps.one (show Kd.M (Kd.int .i64) _ _ _ 5 [.int .i64 5] from rfl) (Reps.none _ _))))))))
     intro v285 w43 ho44 hb hg_ hnew_
     clear hg_ hnew_
     (first | rw [← Ny284.out] at ho44 | (simp only [Int.reduceToNat] at ho44; rw [← Ny284.out] at ho44))
     have n0_ := mS (Kd.R_below (mR HO_267000.out) hb)
     have n1_ := mS (Kd.R_lower ho44 (below_size (mH19_3 HB.out (IsS167.ge HI259.out) GE254.out GE255.out GE266.out)))
     have n2_ := mB BK254 hb
     have n3_ := mB BK255 hb
     have n4_ := mB BK266 hb
     have n5_ := mS (IsS167.below (mI19_1 HI259.out NB259_254.out NB259_255.out NB259_266.out) hb)
     have n6_ := mS (below_step (mH19_3 HB.out (IsS167.ge HI259.out) GE254.out GE255.out GE266.out) hb)
     clear HO_267000
     clear BK254
     clear BK255
     clear BK266
     clear HI259
     clear HB
     have HO_267000 := n0_
     have HO286 := n1_
     have BK254 := n2_
     have BK255 := n3_
     have BK266 := n4_
     have HI259 := n5_
     have HB := n6_
     clear n0_ n1_ n2_ n3_ n4_ n5_ n6_
     clear hb ho44
     refine hK.out _ _ (mZ BK266.out 0) (fun hHeld => ?_)
     clear hK K
     refine norm_ (a' := ?_) ?_ ?_
     rotate_left
     ·show Act.put _ (some 46) _ = _
      simp only [Act.put, zA, zB, zC, i64_w, i32_w]
      rfl
     exact norm_ mU (hCont (v285) _ ⟨hHeld, (mR HO286.out), (mR HO_267000.out), (mK BK254.out), (mK BK255.out), (mK BK266.out), (mI19_1 HI259.out NB259_254.out NB259_255.out NB259_266.out), (mH19_3 HB.out (IsS167.ge HI259.out) GE254.out GE255.out GE266.out)⟩)
    ·skip
     refine Kd.R_lit_step (Kd.int .i64) _ 3 ?hg (N := 46) ?hd (xs := ([1, 2, 4, 4, 0, 5] : List Int)) (inner := [.int .i64 1, .int .i64 2, .int .i64 4, .int .i64 4, .int .i64 0, .int .i64 5]) (ok := fun _ => True) (okp := fun _ => True) ?hr ?hp (fun _ hk => hk) trivial (Below.refl _ _) (Nat.le_refl _) (by simp) ?_; (case hd => rfl); (case hg => rfl); (case hr => first | (go_simp; done) | (go_simp; rfl)); (case hp => exact (Reps.one (show Kd.M (Kd.int .i64) _ _ _ 1 [.int .i64 1] from rfl) (Reps.one (show Kd.M (Kd.int .i64) _ _ _ 2 [.int .i64 2] from rfl) (Reps.one (show Kd.M (Kd.int .i64) _ _ _ 4 [.int .i64 4] from rfl) (Reps.one (show Kd.M (Kd.int .i64) _ _ _ 4 [.int .i64 4] from rfl) (Reps.one (show Kd.M (Kd.int .i64) _ _ _ 0 [.int .i64 0] from rfl) (Reps.one (show Kd.M (Kd.int .i64) _ _ _ 5 [.int .i64 5] from rfl) (Reps.none _ _))))))))
     intro v285 w42 ho43 hb hg_ hnew_
     clear hg_ hnew_
     (first | rw [← Ny284.out] at ho43 | (simp only [Int.reduceToNat] at ho43; rw [← Ny284.out] at ho43))
     have n0_ := mS (Kd.R_below (mR HO_267000.out) hb)
     have n1_ := mS (Kd.R_lower ho43 (below_size (mH19_3 HB.out (IsS167.ge HI259.out) GE254.out GE255.out GE266.out)))
     have n2_ := mB BK254 hb
     have n3_ := mB BK255 hb
     have n4_ := mB BK266 hb
     have n5_ := mS (IsS167.below (mI19_1 HI259.out NB259_254.out NB259_255.out NB259_266.out) hb)
     have n6_ := mS (below_step (mH19_3 HB.out (IsS167.ge HI259.out) GE254.out GE255.out GE266.out) hb)
     clear HO_267000
     clear BK254
     clear BK255
     clear BK266
     clear HI259
     clear HB
     have HO_267000 := n0_
     have HO286 := n1_
     have BK254 := n2_
     have BK255 := n3_
     have BK266 := n4_
     have HI259 := n5_
     have HB := n6_
     clear n0_ n1_ n2_ n3_ n4_ n5_ n6_
     clear hb ho43
     refine hK.out _ _ (mZ BK266.out 0) (fun hHeld => ?_)
     clear hK K
     refine norm_ (a' := ?_) ?_ ?_
     rotate_left
     ·show Act.put _ (some 46) _ = _
      simp only [Act.put, zA, zB, zC, i64_w, i32_w]
      rfl
     refine one_ (i := 2) (N := some 44) (mb 5 4) rfl rfl (one_of HT_.out (by kernel_rfl)) (by decide) (fun K hK => ?_)
     refine goes_ Try.func83 (by kernel_rfl) rfl #[.pointer (some ⟨g259, 0, none⟩)] (by rfl) rfl rfl mA ?_
     with_reducible refine (spec_l4PairAny.calls g259 t256 x260001_5 x260002_5 t279 t280 t281 t282 t283 w _ ?side1 ?side2 A39.out).mono ?_
     (case side1 => repeat (first | (with_reducible first | exact HI259.out | apply IsS167.alloc | apply IsS167.drewN | apply IsS167.drew | apply IsS167.set_1 | apply IsS167.set_2 | refine IsS167.far ?_ NB259_254.out _ | refine IsS167.far ?_ NB259_255.out _ | refine IsS167.far ?_ NB259_266.out _) | exact HI259.out))
     (case side2 => repeat (first | (with_reducible first | exact HB.out | apply below_alloc | apply pw_below_drewN | apply below_drew1 | refine below_set ?_ (IsS167.ge HI259.out) | refine below_set ?_ GE254.out | refine below_set ?_ GE255.out | refine below_set ?_ GE266.out) | exact HB.out))
     rintro e w44 ⟨rfl, hi, hb, hk⟩
     refine ⟨_, rfl, ?_⟩
     have n0_ := mS (Kd.R_mono (Kd.R_keep (IsS167.apart (show IsS167 w _ g259 t256 x260001_5 x260002_5 from mI19_1 HI259.out NB259_254.out NB259_255.out NB259_266.out) (mR HO_267000.out) (by decide)) hk (fun _ h => h.2)) (fun _ h => h.1))
     have n1_ := mS (KeepBut.blk hk (g' := gb254) (o := .cells #[.slice none 0 0] 26 (0, 0)) (mK BK254.out) NB254_259.out (by simp))
     have n2_ := mS (KeepBut.blk hk (g' := gb255) (o := .cells #[.string (⟨#[]⟩ : ByteArray), .string (⟨#[]⟩ : ByteArray), .bool false] 33 (0, 0)) (mK BK255.out) NB255_259.out (by simp))
     have n3_ := mS (KeepBut.blk hk (g' := gb266) (o := .cells #[u267000] 26 (0, 0)) (mK BK266.out) NB266_259.out (by simp))
     have n4_ := mS (Kd.R_mono (Kd.R_keep (IsS167.apart (show IsS167 w _ g259 t256 x260001_5 x260002_5 from mI19_1 HI259.out NB259_254.out NB259_255.out NB259_266.out) (mR HO286.out) (by decide)) hk (fun _ h => h.2)) (fun _ h => h.1))
     have n5_ := mS (hb)
     have n6_ := mS (hi)
     clear HO_267000
     clear BK254
     clear BK255
     clear BK266
     clear HO286
     clear HB
     clear HI259
     have HO_267000 := n0_
     have BK254 := n1_
     have BK255 := n2_
     have BK266 := n3_
     have HO286 := n4_
     have HB := n5_
     have HI259 := n6_
     clear n0_ n1_ n2_ n3_ n4_ n5_ n6_
     (try clear hb)
     (try clear hb2)
     (try clear hk)
     (try clear hi)
     refine hK.out _ _ (mZ BK266.out 0) (fun hHeld => ?_)
     clear hK K
     refine norm_ (a' := ?_) ?_ ?_
     rotate_left
     ·show Act.put _ (some 44) _ = _
      simp only [Act.put, zA, zB, zC, i64_w, i32_w]
      rfl
     exact norm_ mU (hCont (v285) _ ⟨hHeld, (mR HO286.out), (mR HO_267000.out), (mK BK254.out), (mK BK255.out), (mK BK266.out), (mI19_1 HI259.out NB259_254.out NB259_255.out NB259_266.out), (mH19_3 HB.out (IsS167.ge HI259.out) GE254.out GE255.out GE266.out)⟩)
   rintro v285 w45 ⟨hS_, h0_, h1_, h2_, h3_, h4_, h5_, h6_⟩
   have n0_ : Aside0 (Kd.R (Kd.int .i64) 3 w45 w.heap.size (fun _ => True) v285 y284) := ⟨h0_⟩
   have n1_ : Aside0 (Kd.R k35 35 w45 w.heap.size (fun _ => True) u267000 x267000_5) := ⟨h1_⟩
   have n2_ : Aside0 (w45.heap[gb254]? = some (.cells #[.slice none 0 0] 26 (0, 0))) := ⟨h2_⟩
   have n3_ : Aside0 (w45.heap[gb255]? = some (.cells #[.string (⟨#[]⟩ : ByteArray), .string (⟨#[]⟩ : ByteArray), .bool false] 33 (0, 0))) := ⟨h3_⟩
   have n4_ : Aside0 (w45.heap[gb266]? = some (.cells #[u267000] 26 (0, 0))) := ⟨h4_⟩
   have n5_ : Aside0 (IsS167 w w45 g259 t256 t282 t283) := ⟨h5_⟩
   have n6_ : Aside0 (Below w.heap.size w w45) := ⟨h6_⟩
   clear HO_267000
   clear BK254
   clear BK255
   clear BK266
   clear HI259
   clear HB
   clear h0_ h1_ h2_ h3_ h4_ h5_ h6_
   have HO286 := n0_
   have HO_267000 := n1_
   have BK254 := n2_
   have BK255 := n3_
   have BK266 := n4_
   have HI259 := n5_
   have HB := n6_
   clear n0_ n1_ n2_ n3_ n4_ n5_ n6_
   have hHeld : w45.cell? ⟨gb266, 0, none⟩ = some (u267000) := hS_
   obtain ⟨Ao46, co46, eo46⟩ := Kd.R_slice HO286.out
   (first | subst eo46 | (injection eo46 with f1_ f2_ f3_; have f4_ := f1_.symm; have f5_ := f3_.symm; clear f1_ f2_ f3_; subst f4_; subst f5_))
   refine norm_ (a' := ?_) ?_ ?_
   rotate_left
   ·simp only [putAll, Act.put, zA, zB, zC]
    rfl
   refine one_ (i := 5) (N := some 47) (mb 6 3) rfl rfl (one_of HT_.out (by kernel_rfl)) (by decide) (fun K hK => ?_)
   refine goes_ Try.func84 (by kernel_rfl) rfl #[.pointer (some ⟨g259, 0, none⟩), .slice Ao46 y284.length co46] (by rfl) rfl rfl mA ?_
   with_reducible refine (spec_l1Int.calls g259 t256 t282 t283 _ _ y284 t287 t288 t289 w _ ?side1 ?side2 ?side3 ?side4 ?side5 A40.out).mono ?_
   (case side1 => repeat (first | (with_reducible first | exact HI259.out | apply IsS167.alloc | apply IsS167.drewN | apply IsS167.drew | apply IsS167.set_1 | apply IsS167.set_2 | refine IsS167.far ?_ NB259_254.out _ | refine IsS167.far ?_ NB259_255.out _ | refine IsS167.far ?_ NB259_266.out _) | exact HI259.out))
   (case side2 => repeat (first | (with_reducible first | exact HB.out | apply below_alloc | apply pw_below_drewN | apply below_drew1 | refine below_set ?_ (IsS167.ge HI259.out) | refine below_set ?_ GE254.out | refine below_set ?_ GE255.out | refine below_set ?_ GE266.out) | exact HB.out))
   (case side3 => repeat (first | exact (Kd.R_reads' HO286.out).2.2 | (with_reducible refine Kd.C_alloc ?_ _) | (with_reducible refine Kd.C_drewN ?_ _) | (with_reducible refine Kd.C_drew ?_)))
   (case side4 => exact (Kd.R_reads' HO286.out).2.1)
   (case side5 => exact far_slice (IsS167.own_ne HI259.out HO286.out (by decide)))
   rintro e w47 ⟨rfl, hi, hb, hk⟩
   refine ⟨_, rfl, ?_⟩
   have n0_ := mS (Kd.R_mono (Kd.R_keep (IsS167.apart (show IsS167 w _ g259 t256 t282 t283 from mI19_1 HI259.out NB259_254.out NB259_255.out NB259_266.out) (mR HO_267000.out) (by decide)) hk (fun _ h => h.2)) (fun _ h => h.1))
   have n1_ := mS (KeepBut.blk hk (g' := gb254) (o := .cells #[.slice none 0 0] 26 (0, 0)) (mK BK254.out) NB254_259.out (by simp))
   have n2_ := mS (KeepBut.blk hk (g' := gb255) (o := .cells #[.string (⟨#[]⟩ : ByteArray), .string (⟨#[]⟩ : ByteArray), .bool false] 33 (0, 0)) (mK BK255.out) NB255_259.out (by simp))
   have n3_ := mS (KeepBut.blk hk (g' := gb266) (o := .cells #[u267000] 26 (0, 0)) (mK BK266.out) NB266_259.out (by simp))
   have n4_ := mS (Kd.R_mono (Kd.R_keep (IsS167.apart (show IsS167 w _ g259 t256 t282 t283 from mI19_1 HI259.out NB259_254.out NB259_255.out NB259_266.out) (mR HO286.out) (by decide)) hk (fun _ h => h.2)) (fun _ h => h.1))
   have n5_ := mS (hb)
   have n6_ := mS (hi)
   clear HO_267000
   clear BK254
   clear BK255
   clear BK266
   clear HO286
   clear HB
   clear HI259
   have HO_267000 := n0_
   have BK254 := n1_
   have BK255 := n2_
   have BK266 := n3_
   have HO286 := n4_
   have HB := n5_
   have HI259 := n6_
   clear n0_ n1_ n2_ n3_ n4_ n5_ n6_
   (try clear hb)
   (try clear hb2)
   (try clear hk)
   (try clear hi)
   obtain ⟨Ao48, co48, eo48⟩ := Kd.R_slice HO_267000.out
   (first | subst eo48 | (injection eo48 with f1_ f2_ f3_; have f4_ := f1_.symm; have f5_ := f3_.symm; clear f1_ f2_ f3_; subst f4_; subst f5_))
   refine hK.out _ _ (mZ BK266.out 0) (fun hHeld => ?_)
   clear hK K
   refine norm_ (a' := ?_) ?_ ?_
   rotate_left
   ·show Act.put _ (some 47) _ = _
    simp only [Act.put, zA, zB, zC, i64_w, i32_w]
    rfl
   refine one_ (i := 6) (N := none) (mb 7 2) rfl rfl (one_of HT_.out (by kernel_rfl)) (by decide) (fun K hK => ?_)
   have hs49 : w47.cell? ⟨gb254, 0, none⟩ = some (.slice none 0 0) := mZ BK254.out 0
   have hfs49 := blk_frozen BK254.out 0
   have hns49_1 := NB255_254.out
   have hns49_2 := NB266_254.out
   have hms49_1 := NB254_255.out
   have hms49_2 := NB254_266.out
   refine skip_ (w1 := ?_) (by rfl) rfl ?_ ?_
   rotate_left
   ·go_simp
    rfl
   refine hK.out _ _ (((cell_far (p := ⟨gb254, _, none⟩) NB266_254.out _).trans (hHeld))) (fun hHeld => ?_)
   clear hK K
   refine one_ (i := 7) (N := none) (mb 8 1) rfl rfl (one_of HT_.out (by kernel_rfl)) (by decide) (fun K hK => ?_)
   have hs50 : w47.cell? ⟨gb255, 0, none⟩ = some (.string (⟨#[]⟩ : ByteArray)) := mZ BK255.out 0
   have hfs50 := blk_frozen BK255.out 0
   have hns50_0 := NB254_255.out
   have hns50_2 := NB266_255.out
   have hms50_0 := NB255_254.out
   have hms50_2 := NB255_266.out
   have hs51 : w47.cell? ⟨gb255, 1, none⟩ = some (.string (⟨#[]⟩ : ByteArray)) := mZ BK255.out 1
   have hfs51 := blk_frozen BK255.out 1
   have hns51_0 := NB254_255.out
   have hns51_2 := NB266_255.out
   have hms51_0 := NB255_254.out
   have hms51_2 := NB255_266.out
   have hs52 : w47.cell? ⟨gb255, 2, none⟩ = some (.bool false) := mZ BK255.out 2
   have hfs52 := blk_frozen BK255.out 2
   have hns52_0 := NB254_255.out
   have hns52_2 := NB266_255.out
   have hms52_0 := NB255_254.out
   have hms52_2 := NB255_266.out
   refine skip_ (w1 := ?_) (by rfl) rfl ?_ ?_
   rotate_left
   ·go_simp
    rfl
   refine hK.out _ _ (((cell_far (p := ⟨gb255, _, none⟩) NB266_255.out _).trans (((cell_far (p := ⟨gb255, _, none⟩) NB266_255.out _).trans (((cell_far (p := ⟨gb255, _, none⟩) NB266_255.out _).trans (hHeld))))))) (fun hHeld => ?_)
   clear hK K
   refine pure_ (i := 8) (N := some 4) (v := ?_) (a' := ?_) (mb 9 0) rfl rfl (any_of HT_.out (by kernel_rfl)) (fun _ _ _ h => h) (Or.inl ⟨by rfl, ?_⟩) ?_ ?_
   rotate_left
   ·intro w'
    go_simp
    with_reducible rfl
   rotate_left
   ·simp only [Act.put, zA, zB, zC, i64_w, i32_w]
    rfl
   refine done_ (done_of HT_.out (by kernel_rfl)) ?_
   try go_wp2
   refine bodyPost_ret (results_list (rs := [.cell 2 26, .cell 3 33, .tmp 4]) rfl (by simp) (.cell gb254 26 #[.slice Ao48 x267000_5.length co48] (0, 0) _ rfl (by (with_reducible repeat (first | refine blk_drewN ?_ _ | refine blk_drew ?_ | refine blk_alloc ?_ _)); refine blk_far ?_ NB254_255.out _; (with_reducible repeat (first | refine blk_drewN ?_ _ | refine blk_drew ?_ | refine blk_alloc ?_ _)); refine blk_far ?_ NB254_255.out _; (with_reducible repeat (first | refine blk_drewN ?_ _ | refine blk_drew ?_ | refine blk_alloc ?_ _)); refine blk_far ?_ NB254_255.out _; (with_reducible repeat (first | refine blk_drewN ?_ _ | refine blk_drew ?_ | refine blk_alloc ?_ _)); refine blk_put (cs := #[.slice none 0 0]) ?_ 0 _ rfl; (with_reducible repeat (first | refine blk_drewN ?_ _ | refine blk_drew ?_ | refine blk_alloc ?_ _)); exact BK254.out) Try.underlying26 rfl (by kernel_rfl) (.cell gb255 33 #[.string t279, .string t280, .bool t281] (0, 0) _ rfl (by (with_reducible repeat (first | refine blk_drewN ?_ _ | refine blk_drew ?_ | refine blk_alloc ?_ _)); refine blk_put (cs := #[.string t279, .string t280, .bool false]) ?_ 2 _ rfl; (with_reducible repeat (first | refine blk_drewN ?_ _ | refine blk_drew ?_ | refine blk_alloc ?_ _)); refine blk_put (cs := #[.string t279, .string (⟨#[]⟩ : ByteArray), .bool false]) ?_ 1 _ rfl; (with_reducible repeat (first | refine blk_drewN ?_ _ | refine blk_drew ?_ | refine blk_alloc ?_ _)); refine blk_put (cs := #[.string (⟨#[]⟩ : ByteArray), .string (⟨#[]⟩ : ByteArray), .bool false]) ?_ 0 _ rfl; (with_reducible repeat (first | refine blk_drewN ?_ _ | refine blk_drew ?_ | refine blk_alloc ?_ _)); refine blk_far ?_ NB255_254.out _; (with_reducible repeat (first | refine blk_drewN ?_ _ | refine blk_drew ?_ | refine blk_alloc ?_ _)); exact BK255.out) Try.underlying33 rfl (by kernel_rfl) (.tmp .nil)))) rfl ?_
   exact ⟨_, by first | rfl | (simp [errW_none, errW_some] <;> rfl) | (simp [*, errW_none, errW_some] <;> rfl), by (with_reducible repeat (first | apply Kd.R_alloc | apply Kd.R_drewN | apply Kd.R_drew)); exact Kd.R_mono (Kd.R_far (p := ⟨gb255, 2, none⟩) (Kd.R_far (p := ⟨gb255, 1, none⟩) (Kd.R_far (p := ⟨gb255, 0, none⟩) (Kd.R_far (p := ⟨gb254, 0, none⟩) (Kd.R_types (Kd.R_types HO_267000.out BK254.out (by decide)) BK255.out (by decide)) (fun _ hk => hk.1.2) (.slice Ao48 x267000_5.length co48)) (fun _ hk => hk.2) (.string t279)) (fun _ hk => hk.2) (.string t280)) (fun _ hk => hk.2) (.bool t281)) (fun _ hk => trivial), mH19_3 HB.out (IsS167.ge HI259.out) GE254.out GE255.out GE266.out⟩

/-! ### impl_copyMem: function 85 -/
def impl_copyMem.f (l0_0 : List (S35)) : Option ((List (S35))) := if ([] : List (S35)).length + l0_0.length < 2932031007402 then (some (([] : List (S35)) ++ l0_0)) else (none)
set_option maxHeartbeats 8000000 in
set_option maxRecDepth 100000 in
theorem impl_copyMem.calls (A0_0 : Option Addr) (c0_0 : Nat) (l0_0 : List (S35)) (r : List (S35)) (w : World) (hr0_0 : Kd.C k35 w A0_0 l0_0.length l0_0) (hc0_0 : l0_0.length ≤ c0_0) (h : impl_copyMem.f l0_0 = some r) :
  Calls Try.prog 85 #[.agg #[.slice A0_0 l0_0.length c0_0]] w fun e w' => ∃ v0_ : Value, e = .returned (.agg #[v0_]) ∧ Kd.R k35 35 w' w.heap.size (fun _ => True) v0_ r ∧ Below w.heap.size w w' := by
 have hu26 := Try.underlying26
 have HR0_0 := mS hr0_0
 have HC0_0 := mS hc0_0
 clear hr0_0 hc0_0
 have HB := mS (Below.refl w.heap.size w)
 have H : (if ([] : List (S35)).length + l0_0.length < 2932031007402 then (some (([] : List (S35)) ++ l0_0)) else (none)) = some r := h
 clear h
 by_cases c2 : ([] : List (S35)).length + l0_0.length < 2932031007402
 ·rw [if_pos c2] at H
  have LMc2 := mS c2
  clear c2
  obtain ⟨y292, hy292⟩ : ∃ y_ : List (S35), y_ = (([] : List (S35)) ++ l0_0) := ⟨_, rfl⟩
  replace H : (some y292) = some r := by first | (rw [hy292]; with_reducible exact H) | (have H2_ := (Option.bind_some _ _).symm.trans H; rw [hy292]; with_reducible exact H2_) | (have H2_ := (Option.bind_some _ _).symm.trans H; with_reducible exact H2_) | with_reducible exact H | (rw [hy292]; exact H) | exact H
  have Ny292 := mS hy292
  clear hy292
  obtain rfl := Option.some.inj H
  go_enter Try.func85, Try.ntmps85
  go_wp2_with (first | ((with_reducible refine gate_dst (N := 1) rfl ?_); refine box_event ?hg (N := 1) ?hd (cs := #[.slice A0_0 l0_0.length c0_0]) (t := 26) ?hr ?_; (case hd => rfl); (case hg => rfl); (case hr => first | (go_simp; done) | (go_simp; rfl)); intro gb290 hg w3 hbox hb; have BK290 := mS (hbox); have GW290 := mG hg (mH HB.out); have GE290 := mG hg (mH HB.out); replace HB := mS (below_step (mH HB.out) hb); clear hb hbox hg) | ((with_reducible refine gate_dst (N := 2) rfl ?_); refine box_event ?hg (N := 2) ?hd (cs := #[.slice none 0 0]) (t := 26) ?hr ?_; (case hd => rfl); (case hg => rfl); (case hr => first | (go_simp; done) | (go_simp; rfl)); intro gb291 hg w4 hbox hb; have BK291 := mS (hbox); have GW291 := mG hg (mH1 HB.out GE290.out); have GE291 := mG hg (mH1 HB.out GE290.out); replace HB := mS (below_step (mH1 HB.out GE290.out) hb); have NB290_291 := mNl hg BK290.out; have NB291_290 := mNg hg BK290.out; replace BK290 := mB BK290 hb; clear hb hbox hg; have hnb5 := NB290_291.out; have hnc5 := NB291_290.out; have hcz6_0 := mZ BK290.out 0; have hfz6_0 := blk_frozen BK290.out 0) | ((with_reducible refine gate_builtin (b := .append) (xs := #[.const (.slice none 0 0), .tmp 4]) rfl ?_); at_builtin; refine Kd.R_append_rows k35 (w0 := w) w.heap.size rfl (.const (.slice none 0 0)) (.tmp 4) 24 35 (.agg #[(.string ⟨#[]⟩), (.string ⟨#[]⟩), (.bool false), (.int .i64 0)]) 48 rfl Try.underlying24 info35 rfl (by decide) (by omega) (.slice none 0 0) ([] : List (S35)) l0_0 _ _ _ (fun _ => True) (fun _ => False) rfl rfl ?aO ?aR (fun _ _ h => h) (fun _ h => h.elim) ?aF ?aB ?aS ?aL ?_; (case aR => repeat (first | exact (Kd.C_below HR0_0.out HB.out) | (with_reducible refine Kd.C_alloc ?_ _) | (with_reducible refine Kd.C_drewN ?_ _) | (with_reducible refine Kd.C_drew ?_))); (case aB => exact (mH2 HB.out GE290.out GE291.out)); (case aF => exact (fun _ _ => trivial)); (case aO => exact ((Kd.R_nil _ _ _ _ (fun _ => True)))); (case aS => exact (below_size (mH2 HB.out GE290.out GE291.out))); (case aL => have := LMc2.out; omega); intro v293 w7 ho hb hg hat; rw [← Ny292.out] at ho; replace BK290 := mS (blk_grown (g := gb290) (o := .cells #[.slice A0_0 l0_0.length c0_0] 26 (0, 0)) (mK BK290.out) hg (by simp [Value.ownBlock])); replace BK291 := mS (blk_grown (g := gb291) (o := .cells #[.slice none 0 0] 26 (0, 0)) (mK BK291.out) hg (by simp [Value.ownBlock])); replace HB := mS (hb); have HO294 := mS (ho); clear ho hb hg hat; obtain ⟨Ao8, co8, eo8⟩ := Kd.R_slice HO294.out; subst eo8; have hcz9_0 := mZ BK291.out 0; have hfz9_0 := blk_frozen BK291.out 0))
  refine bodyPost_ret (results_cell_row rfl _ _ gb291 26 #[.slice Ao8 y292.length co8] (0, 0) _ rfl (by (with_reducible repeat (first | refine blk_drewN ?_ _ | refine blk_drew ?_ | refine blk_alloc ?_ _)); refine blk_put (cs := #[.slice none 0 0]) ?_ 0 _ rfl; (with_reducible repeat (first | refine blk_drewN ?_ _ | refine blk_drew ?_ | refine blk_alloc ?_ _)); exact BK291.out) Try.underlying26 rfl (by kernel_rfl)) rfl ?_
  exact ⟨_, by first | rfl | (simp [errW_none, errW_some] <;> rfl) | (simp [*, errW_none, errW_some] <;> rfl), by (with_reducible repeat (first | apply Kd.R_alloc | apply Kd.R_drewN | apply Kd.R_drew)); exact Kd.R_mono (Kd.R_far (p := ⟨gb291, 0, none⟩) (Kd.R_types HO294.out BK291.out (by decide)) (fun _ hk => hk.2) (.slice Ao8 y292.length co8)) (fun _ hk => trivial), (mH2 HB.out GE290.out GE291.out)⟩
 ·rw [if_neg c2] at H
  exact absurd H (by simp)

end Go.Proofs.Ytbepbgfkajnlbaa.MFnMem
