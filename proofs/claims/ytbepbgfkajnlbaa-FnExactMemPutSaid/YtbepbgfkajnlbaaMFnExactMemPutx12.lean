-- Written by mp.py, this session's own printer (wip/mp.py).
import Derived.Test.YtbepbgfkajnlbaaVMShort
import Derived.Test.YtbepbgfkajnlbaaMFnExactMemPutx0
import Derived.Test.YtbepbgfkajnlbaaMFnExactMemPutx4
import Derived.Test.YtbepbgfkajnlbaaMFnExactMemPutx7
import Derived.Test.YtbepbgfkajnlbaaMFnExactMemPutx8
import Derived.Test.YtbepbgfkajnlbaaMFnExactMemPutx9
import Derived.Test.YtbepbgfkajnlbaaMFnExactMemPutx11
namespace Go.Proofs.Ytbepbgfkajnlbaa.MFnExactMemPut
open Go.RowKit Go.Proofs.YtbepbgfkajnlbaaW.PrintWords Go.Proofs.YtbepbgfkajnlbaaW.PrintLast Go.Proofs.YtbepbgfkajnlbaaW.PrintMore Go.Proofs.Ytbepbgfkajnlbaa.MWords
attribute [local go_sem] max2_int min2_int max_two min_two max_three min_three max_four min_four   -- for this text's walks alone
set_option linter.unusedVariables false
set_option linter.unusedSimpArgs false

/-! ### laws_FnExactMemPut: function 9 -/
mutual
def laws_FnExactMemPut.j0 : Nat → Int → Bool → Bool → Bool → List (S191) → ByteArray → ByteArray → Bool → List (S35) → List (S35) → List (S35) → Option (Bool)
 | 0, _, _, _, _, _, _, _, _, _, _, _ => none
 | k + 1, x2, x9, x12, x55, x255000, x256000, x256001, x256002, x269000, x273000, x281000 => if x55 = true then (some false) else ((laws_toMem.f k x255000).bind fun t282 => ((laws_eqMem.f k x273000 t282).bind fun t285 => (if t285 = true then ((laws_markMem.f k x273000 1).bind fun bt286 => (if bt286.1 < 0 then (laws_FnExactMemPut.j1 k x2 x9 true x255000 x256000 x256001 x256002 x269000 x281000) else ((laws_eqMem.f k x281000 x269000).bind fun t288 => (if t288 = true then (laws_FnExactMemPut.j1 k x2 x9 (x12 != x9) x255000 x256000 x256001 x256002 x269000 x281000) else (laws_FnExactMemPut.j1 k x2 x9 true x255000 x256000 x256001 x256002 x269000 x281000))))) else (some false))))
def laws_FnExactMemPut.j1 : Nat → Int → Bool → Bool → List (S191) → ByteArray → ByteArray → Bool → List (S35) → List (S35) → Option (Bool)
 | 0, _, _, _, _, _, _, _, _, _ => none
 | k + 1, x2, x9, x76, x255000, x256000, x256001, x256002, x269000, x281000 => if x76 = true then (some false) else ((laws_markMem.f k x281000 1).bind fun bt289 => ((laws_heldMem.f k bt289.2 1).bind fun t291 => (if t291 < 0 then (some false) else (if t291 = bt289.1 then ((laws_toMem.f k x255000).bind fun t292 => ((laws_toPair.f x256000 x256001 x256002).bind fun bt295 => ((impl_MemPut.f k t292 bt295.1 bt295.2.1 bt295.2.2 x2).bind fun bt298 => ((laws_eqMem.f k bt298.1 x269000).bind fun t303 => (if t303 = true then (laws_FnExactMemPut.j2 k bt289.1 (bt298.2 != x9) bt289.2) else (laws_FnExactMemPut.j2 k bt289.1 true bt289.2)))))) else (some false)))))
def laws_FnExactMemPut.j2 : Nat → Int → Bool → List (S35) → Option (Bool)
 | 0, _, _, _ => none
 | k + 1, x14, x105, x281000 => if x105 = true then (some false) else ((laws_heldMem.f k x281000 1).bind fun t304 => (if t304 < 0 then (some false) else (if t304 = x14 then (some true) else (some false))))
end
def laws_FnExactMemPut.f (k : Nat) (l0_0 : List (S191)) (a1_0 : ByteArray) (a1_1 : ByteArray) (a1_2 : Bool) (a2 : Int) : Option (Bool) := (laws_szMem.f k l0_0 1048576).bind fun t256 => (if t256 < 0 then (some true) else ((laws_szPair.f a1_0 a1_1 a1_2 t256).bind fun t257 => (if t257 < 0 then (some true) else ((laws_toMem.f k l0_0).bind fun t258 => ((laws_toPair.f a1_0 a1_1 a1_2).bind fun bt261 => ((spec_MemPut.f k t258 bt261.1 bt261.2.1 bt261.2.2 a2).bind fun bt264 => ((laws_toMem.f k l0_0).bind fun t269 => ((laws_toPair.f a1_0 a1_1 a1_2).bind fun bt273 => ((impl_MemPut.f k t269 bt273.1 bt273.2.1 bt273.2.2 a2).bind fun bt276 => ((laws_eqMem.f k bt276.1 bt264.1).bind fun t281 => (if t281 = true then (laws_FnExactMemPut.j0 k a2 bt264.2 bt276.2 (bt276.2 != bt264.2) l0_0 a1_0 a1_1 a1_2 bt264.1 t269 bt276.1) else (laws_FnExactMemPut.j0 k a2 bt264.2 bt276.2 true l0_0 a1_0 a1_1 a1_2 bt264.1 t269 bt276.1))))))))))))
theorem laws_FnExactMemPut.mono_l : ∀ k, (∀ y0 y1 y2 y3 y4 y5 y6 y7 y8 y9 y10, LeO (laws_FnExactMemPut.j0 k y0 y1 y2 y3 y4 y5 y6 y7 y8 y9 y10) (laws_FnExactMemPut.j0 (k + 1) y0 y1 y2 y3 y4 y5 y6 y7 y8 y9 y10)) ∧ (∀ y0 y1 y2 y3 y4 y5 y6 y7 y8, LeO (laws_FnExactMemPut.j1 k y0 y1 y2 y3 y4 y5 y6 y7 y8) (laws_FnExactMemPut.j1 (k + 1) y0 y1 y2 y3 y4 y5 y6 y7 y8)) ∧ (∀ y0 y1 y2, LeO (laws_FnExactMemPut.j2 k y0 y1 y2) (laws_FnExactMemPut.j2 (k + 1) y0 y1 y2))
 | 0 => ⟨fun _ _ _ _ _ _ _ _ _ _ _ r h => by simp [laws_FnExactMemPut.j0] at h, fun _ _ _ _ _ _ _ _ _ r h => by simp [laws_FnExactMemPut.j1] at h, fun _ _ _ r h => by simp [laws_FnExactMemPut.j2] at h⟩
 | k + 1 => by
  obtain ⟨ih0, ih1, ih2⟩ := laws_FnExactMemPut.mono_l k
  refine ⟨?_, ?_, ?_⟩
  ·intro y0 y1 y2 y3 y4 y5 y6 y7 y8 y9 y10
   unfold laws_FnExactMemPut.j0
   repeat' first
   | (with_reducible exact ih0 _ _ _ _ _ _ _ _ _ _ _)
   | (with_reducible exact ih1 _ _ _ _ _ _ _ _ _)
   | (with_reducible exact ih2 _ _ _)
   | (with_reducible exact impl_MemPut.mono _ _ _ _ _ _)
   | (with_reducible exact laws_eqMem.mono _ _ _)
   | (with_reducible exact laws_heldMem.mono _ _ _)
   | (with_reducible exact laws_markMem.mono _ _ _)
   | (with_reducible exact laws_szMem.mono _ _ _)
   | (with_reducible exact laws_toMem.mono _ _)
   | (with_reducible exact spec_MemPut.mono _ _ _ _ _ _)
   | (with_reducible exact LeO.refl _)
   | (with_reducible exact LeO.none _)
   | (with_reducible refine LeO.ite ?_ ?_)
   | (with_reducible refine LeO.bind ?_ (fun _ => ?_))
   | exact ih0 _ _ _ _ _ _ _ _ _ _ _
   | exact ih1 _ _ _ _ _ _ _ _ _
   | exact ih2 _ _ _
   | exact impl_MemPut.mono _ _ _ _ _ _
   | exact laws_eqMem.mono _ _ _
   | exact laws_heldMem.mono _ _ _
   | exact laws_markMem.mono _ _ _
   | exact laws_szMem.mono _ _ _
   | exact laws_toMem.mono _ _
   | exact spec_MemPut.mono _ _ _ _ _ _
   | exact LeO.none _
   | refine LeO.ite ?_ ?_
   | refine LeO.bind ?_ (fun _ => ?_)
  ·intro y0 y1 y2 y3 y4 y5 y6 y7 y8
   unfold laws_FnExactMemPut.j1
   repeat' first
   | (with_reducible exact ih0 _ _ _ _ _ _ _ _ _ _ _)
   | (with_reducible exact ih1 _ _ _ _ _ _ _ _ _)
   | (with_reducible exact ih2 _ _ _)
   | (with_reducible exact impl_MemPut.mono _ _ _ _ _ _)
   | (with_reducible exact laws_eqMem.mono _ _ _)
   | (with_reducible exact laws_heldMem.mono _ _ _)
   | (with_reducible exact laws_markMem.mono _ _ _)
   | (with_reducible exact laws_szMem.mono _ _ _)
   | (with_reducible exact laws_toMem.mono _ _)
   | (with_reducible exact spec_MemPut.mono _ _ _ _ _ _)
   | (with_reducible exact LeO.refl _)
   | (with_reducible exact LeO.none _)
   | (with_reducible refine LeO.ite ?_ ?_)
   | (with_reducible refine LeO.bind ?_ (fun _ => ?_))
   | exact ih0 _ _ _ _ _ _ _ _ _ _ _
   | exact ih1 _ _ _ _ _ _ _ _ _
   | exact ih2 _ _ _
   | exact impl_MemPut.mono _ _ _ _ _ _
   | exact laws_eqMem.mono _ _ _
   | exact laws_heldMem.mono _ _ _
   | exact laws_markMem.mono _ _ _
   | exact laws_szMem.mono _ _ _
   | exact laws_toMem.mono _ _
   | exact spec_MemPut.mono _ _ _ _ _ _
   | exact LeO.none _
   | refine LeO.ite ?_ ?_
   | refine LeO.bind ?_ (fun _ => ?_)
  ·intro y0 y1 y2
   unfold laws_FnExactMemPut.j2
   repeat' first
   | (with_reducible exact ih0 _ _ _ _ _ _ _ _ _ _ _)
   | (with_reducible exact ih1 _ _ _ _ _ _ _ _ _)
   | (with_reducible exact ih2 _ _ _)
   | (with_reducible exact impl_MemPut.mono _ _ _ _ _ _)
   | (with_reducible exact laws_eqMem.mono _ _ _)
   | (with_reducible exact laws_heldMem.mono _ _ _)
   | (with_reducible exact laws_markMem.mono _ _ _)
   | (with_reducible exact laws_szMem.mono _ _ _)
   | (with_reducible exact laws_toMem.mono _ _)
   | (with_reducible exact spec_MemPut.mono _ _ _ _ _ _)
   | (with_reducible exact LeO.refl _)
   | (with_reducible exact LeO.none _)
   | (with_reducible refine LeO.ite ?_ ?_)
   | (with_reducible refine LeO.bind ?_ (fun _ => ?_))
   | exact ih0 _ _ _ _ _ _ _ _ _ _ _
   | exact ih1 _ _ _ _ _ _ _ _ _
   | exact ih2 _ _ _
   | exact impl_MemPut.mono _ _ _ _ _ _
   | exact laws_eqMem.mono _ _ _
   | exact laws_heldMem.mono _ _ _
   | exact laws_markMem.mono _ _ _
   | exact laws_szMem.mono _ _ _
   | exact laws_toMem.mono _ _
   | exact spec_MemPut.mono _ _ _ _ _ _
   | exact LeO.none _
   | refine LeO.ite ?_ ?_
   | refine LeO.bind ?_ (fun _ => ?_)
theorem laws_FnExactMemPut.mono : ∀ a0 a1 a2 a3 a4 k, LeO (laws_FnExactMemPut.f k a0 a1 a2 a3 a4) (laws_FnExactMemPut.f (k + 1) a0 a1 a2 a3 a4) := by
 intro a0 a1 a2 a3 a4 k
 obtain ⟨ih0, ih1, ih2⟩ := laws_FnExactMemPut.mono_l k
 unfold laws_FnExactMemPut.f
 repeat' first
   | (with_reducible exact ih0 _ _ _ _ _ _ _ _ _ _ _)
   | (with_reducible exact ih1 _ _ _ _ _ _ _ _ _)
   | (with_reducible exact ih2 _ _ _)
   | (with_reducible exact impl_MemPut.mono _ _ _ _ _ _)
   | (with_reducible exact laws_eqMem.mono _ _ _)
   | (with_reducible exact laws_heldMem.mono _ _ _)
   | (with_reducible exact laws_markMem.mono _ _ _)
   | (with_reducible exact laws_szMem.mono _ _ _)
   | (with_reducible exact laws_toMem.mono _ _)
   | (with_reducible exact spec_MemPut.mono _ _ _ _ _ _)
   | (with_reducible exact LeO.refl _)
   | (with_reducible exact LeO.none _)
   | (with_reducible refine LeO.ite ?_ ?_)
   | (with_reducible refine LeO.bind ?_ (fun _ => ?_))
   | exact ih0 _ _ _ _ _ _ _ _ _ _ _
   | exact ih1 _ _ _ _ _ _ _ _ _
   | exact ih2 _ _ _
   | exact impl_MemPut.mono _ _ _ _ _ _
   | exact laws_eqMem.mono _ _ _
   | exact laws_heldMem.mono _ _ _
   | exact laws_markMem.mono _ _ _
   | exact laws_szMem.mono _ _ _
   | exact laws_toMem.mono _ _
   | exact spec_MemPut.mono _ _ _ _ _ _
   | exact LeO.none _
   | refine LeO.ite ?_ ?_
   | refine LeO.bind ?_ (fun _ => ?_)
def laws_FnExactMemPut.T8 : Bool × List (List Nat × List Nat) := (true, [([], []), ([0], [0]), ([], []), ([2, 1], [2]), ([], []), ([1, 3, 4, 3], [1, 3, 4]), ([5], [5]), ([6], [6]), ([6], [6]), ([], []), ([9, 7, 5, 0, 1, 2, 3, 4, 5, 6, 7, 9], [7, 9]), ([8, 10, 0, 1, 2, 3, 4, 5, 6, 7, 8, 9, 10], [8])])
def laws_FnExactMemPut.B8 : List Nat := [0, 1, 0, 7, 0, 31, 63, 127, 127, 0, 767, 2047]
theorem laws_FnExactMemPut.tab8 : rtab .any (opsOf Try.f9 8) = laws_FnExactMemPut.T8 := by kernel_rfl
theorem laws_FnExactMemPut.bits8 : waitsOk laws_FnExactMemPut.T8.2 laws_FnExactMemPut.B8 = true := by kernel_rfl
def laws_FnExactMemPut.T10 : Bool × List (List Nat × List Nat) := (true, [([], []), ([], []), ([1], [1]), ([], []), ([0, 2, 3, 2], [0, 2, 3]), ([4], [4]), ([5], [5]), ([5], [5]), ([], []), ([8, 6, 4, 0, 1, 2, 3, 4, 5, 6, 8], [6, 8]), ([7, 9, 0, 1, 2, 3, 4, 5, 6, 7, 8, 9], [7])])
def laws_FnExactMemPut.B10 : List Nat := [0, 0, 2, 0, 15, 31, 63, 63, 0, 383, 1023]
theorem laws_FnExactMemPut.tab10 : rtab .any (opsOf Try.f9 10) = laws_FnExactMemPut.T10 := by kernel_rfl
theorem laws_FnExactMemPut.bits10 : waitsOk laws_FnExactMemPut.T10.2 laws_FnExactMemPut.B10 = true := by kernel_rfl
def laws_FnExactMemPut.T27 : Bool × List (List Nat × List Nat) := (true, [([], []), ([0], [0]), ([], []), ([2, 1], [2]), ([], []), ([1, 3, 4, 3], [1, 3, 4]), ([5], [5]), ([6], [6]), ([6], [6]), ([], []), ([9, 7, 5, 0, 1, 2, 3, 4, 5, 6, 7, 9], [7, 9]), ([8, 10, 0, 1, 2, 3, 4, 5, 6, 7, 8, 9, 10], [8])])
def laws_FnExactMemPut.B27 : List Nat := [0, 1, 0, 7, 0, 31, 63, 127, 127, 0, 767, 2047]
theorem laws_FnExactMemPut.tab27 : rtab .any (opsOf Try.f9 27) = laws_FnExactMemPut.T27 := by kernel_rfl
theorem laws_FnExactMemPut.bits27 : waitsOk laws_FnExactMemPut.T27.2 laws_FnExactMemPut.B27 = true := by kernel_rfl
set_option maxHeartbeats 8000000 in
set_option maxRecDepth 100000 in
theorem laws_FnExactMemPut.calls (k : Nat) (A0_0 : Option Addr) (c0_0 : Nat) (l0_0 : List (S191)) (a1_0 : ByteArray) (a1_1 : ByteArray) (a1_2 : Bool) (a2 : Int) (r : Bool) (w : World) (hr0_0 : Kd.C k191 w A0_0 l0_0.length l0_0) (hc0_0 : l0_0.length ≤ c0_0) (h : laws_FnExactMemPut.f k l0_0 a1_0 a1_1 a1_2 a2 = some r) :
  Calls Try.prog 9 #[.agg #[.slice A0_0 l0_0.length c0_0], .agg #[.string a1_0, .string a1_1, .bool a1_2], .int .i64 a2] w fun e w' => e = .returned (.bool r) ∧ Below w.heap.size w w' := by
 have hu78 := Try.underlying78
 have hu84 := Try.underlying84
 have hu26 := Try.underlying26
 have HR0_0 := mS hr0_0
 have HC0_0 := mS hc0_0
 clear hr0_0 hc0_0
 have HB := mS (Below.refl w.heap.size w)
 have H : ((laws_szMem.f k l0_0 1048576).bind fun t256 => (if t256 < 0 then (some true) else ((laws_szPair.f a1_0 a1_1 a1_2 t256).bind fun t257 => (if t257 < 0 then (some true) else ((laws_toMem.f k l0_0).bind fun t258 => ((laws_toPair.f a1_0 a1_1 a1_2).bind fun bt261 => ((spec_MemPut.f k t258 bt261.1 bt261.2.1 bt261.2.2 a2).bind fun bt264 => ((laws_toMem.f k l0_0).bind fun t269 => ((laws_toPair.f a1_0 a1_1 a1_2).bind fun bt273 => ((impl_MemPut.f k t269 bt273.1 bt273.2.1 bt273.2.2 a2).bind fun bt276 => ((laws_eqMem.f k bt276.1 bt264.1).bind fun t281 => (if t281 = true then (laws_FnExactMemPut.j0 k a2 bt264.2 bt276.2 (bt276.2 != bt264.2) l0_0 a1_0 a1_1 a1_2 bt264.1 t269 bt276.1) else (laws_FnExactMemPut.j0 k a2 bt264.2 bt276.2 true l0_0 a1_0 a1_1 a1_2 bt264.1 t269 bt276.1))))))))))))) = some r := h
 clear h
 replace H := Option.bind_eq_some_iff.mp H
 obtain ⟨t256, A40, H⟩ := H
 replace H : (if t256 < 0 then (some true) else ((laws_szPair.f a1_0 a1_1 a1_2 t256).bind fun t257 => (if t257 < 0 then (some true) else ((laws_toMem.f k l0_0).bind fun t258 => ((laws_toPair.f a1_0 a1_1 a1_2).bind fun bt261 => ((spec_MemPut.f k t258 bt261.1 bt261.2.1 bt261.2.2 a2).bind fun bt264 => ((laws_toMem.f k l0_0).bind fun t269 => ((laws_toPair.f a1_0 a1_1 a1_2).bind fun bt273 => ((impl_MemPut.f k t269 bt273.1 bt273.2.1 bt273.2.2 a2).bind fun bt276 => ((laws_eqMem.f k bt276.1 bt264.1).bind fun t281 => (if t281 = true then (laws_FnExactMemPut.j0 k a2 bt264.2 bt276.2 (bt276.2 != bt264.2) l0_0 a1_0 a1_1 a1_2 bt264.1 t269 bt276.1) else (laws_FnExactMemPut.j0 k a2 bt264.2 bt276.2 true l0_0 a1_0 a1_1 a1_2 bt264.1 t269 bt276.1)))))))))))) = some r := H
 have A4 := mS A40
 clear A40
 by_cases c5 : t256 < 0
 ·rw [if_pos c5] at H
  have c5b0 : decide (t256 < 0) = true := decide_eq_true c5
  clear c5
  obtain rfl := Option.some.inj H
  go_enter Try.func9, Try.ntmps9
  go_wp2_with (first | ((with_reducible refine gate_dst (N := 3) rfl ?_); refine box_event ?hg (N := 3) ?hd (cs := #[.slice A0_0 l0_0.length c0_0]) (t := 78) ?hr ?_; (case hd => rfl); (case hg => rfl); (case hr => first | (go_simp; done) | (go_simp; rfl)); intro gb254 hg w6 hbox hb; have BK254 := mS (hbox); have GW254 := mG hg (mH HB.out); have GE254 := mG hg (mH HB.out); replace HB := mS (below_step (mH HB.out) hb); clear hb hbox hg) | ((with_reducible refine gate_dst (N := 4) rfl ?_); refine box_event ?hg (N := 4) ?hd (cs := #[.string a1_0, .string a1_1, .bool a1_2]) (t := 84) ?hr ?_; (case hd => rfl); (case hg => rfl); (case hr => first | (go_simp; done) | (go_simp; rfl)); intro gb255 hg w7 hbox hb; have BK255 := mS (hbox); have GW255 := mG hg (mH1 HB.out GE254.out); have GE255 := mG hg (mH1 HB.out GE254.out); replace HB := mS (below_step (mH1 HB.out GE254.out) hb); have NB254_255 := mNl hg BK254.out; have NB255_254 := mNg hg BK254.out; replace BK254 := mB BK254 hb; clear hb hbox hg; have hnb8 := NB254_255.out; have hnc8 := NB255_254.out; have hcz9_0 : w7.cell? ⟨gb254, 0, none⟩ = some (.slice A0_0 l0_0.length c0_0) := (blk_cell BK254.out 0).trans rfl; have hfz9_0 := blk_frozen BK254.out 0) | ((with_reducible refine gate_callee (f := 46) rfl ?_); refine goesL_ (some 20) rfl rfl Try.func46 (by kernel_rfl) rfl #[.agg #[.slice A0_0 l0_0.length c0_0], .int .i64 1048576] rfl mA ?_; (with_reducible refine (laws_szMem.calls k _ _ l0_0 1048576 t256 _ ?side1 ?side2 A4.out).mono ?_); (case side1 => repeat (first | exact (Kd.C_below HR0_0.out HB.out) | (with_reducible refine Kd.C_alloc ?_ _) | (with_reducible refine Kd.C_drewN ?_ _) | (with_reducible refine Kd.C_drew ?_))); (case side2 => exact HC0_0.out); rintro e w10 ⟨rfl, hb⟩; refine ⟨_, rfl, ?_⟩; replace BK254 := mB BK254 hb; replace BK255 := mB BK255 hb; replace HB := mS (below_step (mH2 HB.out GE254.out GE255.out) hb); (try clear hb); (try clear hb2); (try clear hk); (try clear hi)))
  go_ret
  exact ⟨by first | rfl | (simp [errW_none, errW_some] <;> rfl) | (simp [*, errW_none, errW_some] <;> rfl), (mH2 HB.out GE254.out GE255.out)⟩
 ·rw [if_neg c5] at H
  have c5b0 : decide (t256 < 0) = false := decide_eq_false c5
  clear c5
  replace H := Option.bind_eq_some_iff.mp H
  obtain ⟨t257, A110, H⟩ := H
  replace H : (if t257 < 0 then (some true) else ((laws_toMem.f k l0_0).bind fun t258 => ((laws_toPair.f a1_0 a1_1 a1_2).bind fun bt261 => ((spec_MemPut.f k t258 bt261.1 bt261.2.1 bt261.2.2 a2).bind fun bt264 => ((laws_toMem.f k l0_0).bind fun t269 => ((laws_toPair.f a1_0 a1_1 a1_2).bind fun bt273 => ((impl_MemPut.f k t269 bt273.1 bt273.2.1 bt273.2.2 a2).bind fun bt276 => ((laws_eqMem.f k bt276.1 bt264.1).bind fun t281 => (if t281 = true then (laws_FnExactMemPut.j0 k a2 bt264.2 bt276.2 (bt276.2 != bt264.2) l0_0 a1_0 a1_1 a1_2 bt264.1 t269 bt276.1) else (laws_FnExactMemPut.j0 k a2 bt264.2 bt276.2 true l0_0 a1_0 a1_1 a1_2 bt264.1 t269 bt276.1)))))))))) = some r := H
  have A11 := mS A110
  clear A110
  by_cases c12 : t257 < 0
  ·rw [if_pos c12] at H
   have c12b0 : decide (t257 < 0) = true := decide_eq_true c12
   clear c12
   obtain rfl := Option.some.inj H
   go_enter Try.func9, Try.ntmps9
   go_wp2_with (first | ((with_reducible refine gate_dst (N := 3) rfl ?_); refine box_event ?hg (N := 3) ?hd (cs := #[.slice A0_0 l0_0.length c0_0]) (t := 78) ?hr ?_; (case hd => rfl); (case hg => rfl); (case hr => first | (go_simp; done) | (go_simp; rfl)); intro gb254 hg w13 hbox hb; have BK254 := mS (hbox); have GW254 := mG hg (mH HB.out); have GE254 := mG hg (mH HB.out); replace HB := mS (below_step (mH HB.out) hb); clear hb hbox hg) | ((with_reducible refine gate_dst (N := 4) rfl ?_); refine box_event ?hg (N := 4) ?hd (cs := #[.string a1_0, .string a1_1, .bool a1_2]) (t := 84) ?hr ?_; (case hd => rfl); (case hg => rfl); (case hr => first | (go_simp; done) | (go_simp; rfl)); intro gb255 hg w14 hbox hb; have BK255 := mS (hbox); have GW255 := mG hg (mH1 HB.out GE254.out); have GE255 := mG hg (mH1 HB.out GE254.out); replace HB := mS (below_step (mH1 HB.out GE254.out) hb); have NB254_255 := mNl hg BK254.out; have NB255_254 := mNg hg BK254.out; replace BK254 := mB BK254 hb; clear hb hbox hg; have hnb15 := NB254_255.out; have hnc15 := NB255_254.out; have hcz16_0 : w14.cell? ⟨gb254, 0, none⟩ = some (.slice A0_0 l0_0.length c0_0) := (blk_cell BK254.out 0).trans rfl; have hfz16_0 := blk_frozen BK254.out 0) | ((with_reducible refine gate_callee (f := 46) rfl ?_); refine goesL_ (some 20) rfl rfl Try.func46 (by kernel_rfl) rfl #[.agg #[.slice A0_0 l0_0.length c0_0], .int .i64 1048576] rfl mA ?_; (with_reducible refine (laws_szMem.calls k _ _ l0_0 1048576 t256 _ ?side1 ?side2 A4.out).mono ?_); (case side1 => repeat (first | exact (Kd.C_below HR0_0.out HB.out) | (with_reducible refine Kd.C_alloc ?_ _) | (with_reducible refine Kd.C_drewN ?_ _) | (with_reducible refine Kd.C_drew ?_))); (case side2 => exact HC0_0.out); rintro e w17 ⟨rfl, hb⟩; refine ⟨_, rfl, ?_⟩; replace BK254 := mB BK254 hb; replace BK255 := mB BK255 hb; replace HB := mS (below_step (mH2 HB.out GE254.out GE255.out) hb); (try clear hb); (try clear hb2); (try clear hk); (try clear hi); have hcz18_0 : w17.cell? ⟨gb255, 0, none⟩ = some (.string a1_0) := (blk_cell BK255.out 0).trans rfl; have hcz18_1 : w17.cell? ⟨gb255, 1, none⟩ = some (.string a1_1) := (blk_cell BK255.out 1).trans rfl; have hcz18_2 : w17.cell? ⟨gb255, 2, none⟩ = some (.bool a1_2) := (blk_cell BK255.out 2).trans rfl; have hfz18_0 := blk_frozen BK255.out 0; have hfz18_1 := blk_frozen BK255.out 1; have hfz18_2 := blk_frozen BK255.out 2) | ((with_reducible refine gate_callee (f := 51) rfl ?_); refine goesL_ (some 25) rfl rfl Try.func51 (by kernel_rfl) rfl #[.agg #[.string a1_0, .string a1_1, .bool a1_2], .int .i64 t256] rfl mA ?_; (with_reducible refine (laws_szPair.calls a1_0 a1_1 a1_2 t256 t257 _ A11.out).mono ?_); rintro e w19 ⟨rfl, hb⟩; refine ⟨_, rfl, ?_⟩; replace BK254 := mB BK254 hb; replace BK255 := mB BK255 hb; replace HB := mS (below_step (mH2 HB.out GE254.out GE255.out) hb); (try clear hb); (try clear hb2); (try clear hk); (try clear hi)))
   go_ret
   exact ⟨by first | rfl | (simp [errW_none, errW_some] <;> rfl) | (simp [*, errW_none, errW_some] <;> rfl), (mH2 HB.out GE254.out GE255.out)⟩
  ·rw [if_neg c12] at H
   have c12b0 : decide (t257 < 0) = false := decide_eq_false c12
   clear c12
   replace H := Option.bind_eq_some_iff.mp H
   obtain ⟨t258, A200, H⟩ := H
   replace H : ((laws_toPair.f a1_0 a1_1 a1_2).bind fun bt261 => ((spec_MemPut.f k t258 bt261.1 bt261.2.1 bt261.2.2 a2).bind fun bt264 => ((laws_toMem.f k l0_0).bind fun t269 => ((laws_toPair.f a1_0 a1_1 a1_2).bind fun bt273 => ((impl_MemPut.f k t269 bt273.1 bt273.2.1 bt273.2.2 a2).bind fun bt276 => ((laws_eqMem.f k bt276.1 bt264.1).bind fun t281 => (if t281 = true then (laws_FnExactMemPut.j0 k a2 bt264.2 bt276.2 (bt276.2 != bt264.2) l0_0 a1_0 a1_1 a1_2 bt264.1 t269 bt276.1) else (laws_FnExactMemPut.j0 k a2 bt264.2 bt276.2 true l0_0 a1_0 a1_1 a1_2 bt264.1 t269 bt276.1)))))))) = some r := H
   have A20 := mS A200
   clear A200
   replace H := Option.bind_eq_some_iff.mp H
   obtain ⟨⟨t261, t262, t263⟩, A210, H⟩ := H
   replace H : ((spec_MemPut.f k t258 t261 t262 t263 a2).bind fun bt264 => ((laws_toMem.f k l0_0).bind fun t269 => ((laws_toPair.f a1_0 a1_1 a1_2).bind fun bt273 => ((impl_MemPut.f k t269 bt273.1 bt273.2.1 bt273.2.2 a2).bind fun bt276 => ((laws_eqMem.f k bt276.1 bt264.1).bind fun t281 => (if t281 = true then (laws_FnExactMemPut.j0 k a2 bt264.2 bt276.2 (bt276.2 != bt264.2) l0_0 a1_0 a1_1 a1_2 bt264.1 t269 bt276.1) else (laws_FnExactMemPut.j0 k a2 bt264.2 bt276.2 true l0_0 a1_0 a1_1 a1_2 bt264.1 t269 bt276.1))))))) = some r := H
   have A21 := mS A210
   clear A210
   replace H := Option.bind_eq_some_iff.mp H
   obtain ⟨⟨t264, t267⟩, A220, H⟩ := H
   replace H : ((laws_toMem.f k l0_0).bind fun t269 => ((laws_toPair.f a1_0 a1_1 a1_2).bind fun bt273 => ((impl_MemPut.f k t269 bt273.1 bt273.2.1 bt273.2.2 a2).bind fun bt276 => ((laws_eqMem.f k bt276.1 t264).bind fun t281 => (if t281 = true then (laws_FnExactMemPut.j0 k a2 t267 bt276.2 (bt276.2 != t267) l0_0 a1_0 a1_1 a1_2 t264 t269 bt276.1) else (laws_FnExactMemPut.j0 k a2 t267 bt276.2 true l0_0 a1_0 a1_1 a1_2 t264 t269 bt276.1)))))) = some r := H
   have A22 := mS A220
   clear A220
   replace H := Option.bind_eq_some_iff.mp H
   obtain ⟨t269, A230, H⟩ := H
   replace H : ((laws_toPair.f a1_0 a1_1 a1_2).bind fun bt273 => ((impl_MemPut.f k t269 bt273.1 bt273.2.1 bt273.2.2 a2).bind fun bt276 => ((laws_eqMem.f k bt276.1 t264).bind fun t281 => (if t281 = true then (laws_FnExactMemPut.j0 k a2 t267 bt276.2 (bt276.2 != t267) l0_0 a1_0 a1_1 a1_2 t264 t269 bt276.1) else (laws_FnExactMemPut.j0 k a2 t267 bt276.2 true l0_0 a1_0 a1_1 a1_2 t264 t269 bt276.1))))) = some r := H
   have A23 := mS A230
   clear A230
   replace H := Option.bind_eq_some_iff.mp H
   obtain ⟨⟨t273, t274, t275⟩, A240, H⟩ := H
   replace H : ((impl_MemPut.f k t269 t273 t274 t275 a2).bind fun bt276 => ((laws_eqMem.f k bt276.1 t264).bind fun t281 => (if t281 = true then (laws_FnExactMemPut.j0 k a2 t267 bt276.2 (bt276.2 != t267) l0_0 a1_0 a1_1 a1_2 t264 t269 bt276.1) else (laws_FnExactMemPut.j0 k a2 t267 bt276.2 true l0_0 a1_0 a1_1 a1_2 t264 t269 bt276.1)))) = some r := H
   have A24 := mS A240
   clear A240
   replace H := Option.bind_eq_some_iff.mp H
   obtain ⟨⟨t276, t279⟩, A250, H⟩ := H
   replace H : ((laws_eqMem.f k t276 t264).bind fun t281 => (if t281 = true then (laws_FnExactMemPut.j0 k a2 t267 t279 (t279 != t267) l0_0 a1_0 a1_1 a1_2 t264 t269 t276) else (laws_FnExactMemPut.j0 k a2 t267 t279 true l0_0 a1_0 a1_1 a1_2 t264 t269 t276))) = some r := H
   have A25 := mS A250
   clear A250
   have HC26 := mS H
   clear H
   go_enter Try.func9, Try.ntmps9
   try go_wp2_with (first | ((with_reducible refine gate_dst (N := 3) rfl ?_); refine box_event ?hg (N := 3) ?hd (cs := #[.slice A0_0 l0_0.length c0_0]) (t := 78) ?hr ?_; (case hd => rfl); (case hg => rfl); (case hr => first | (go_simp; done) | (go_simp; rfl)); intro gb254 hg w27 hbox hb; have BK254 := mS (hbox); have GW254 := mG hg (mH HB.out); have GE254 := mG hg (mH HB.out); replace HB := mS (below_step (mH HB.out) hb); clear hb hbox hg) | ((with_reducible refine gate_dst (N := 4) rfl ?_); refine box_event ?hg (N := 4) ?hd (cs := #[.string a1_0, .string a1_1, .bool a1_2]) (t := 84) ?hr ?_; (case hd => rfl); (case hg => rfl); (case hr => first | (go_simp; done) | (go_simp; rfl)); intro gb255 hg w28 hbox hb; have BK255 := mS (hbox); have GW255 := mG hg (mH1 HB.out GE254.out); have GE255 := mG hg (mH1 HB.out GE254.out); replace HB := mS (below_step (mH1 HB.out GE254.out) hb); have NB254_255 := mNl hg BK254.out; have NB255_254 := mNg hg BK254.out; replace BK254 := mB BK254 hb; clear hb hbox hg; have hnb29 := NB254_255.out; have hnc29 := NB255_254.out; have hcz30_0 : w28.cell? ⟨gb254, 0, none⟩ = some (.slice A0_0 l0_0.length c0_0) := (blk_cell BK254.out 0).trans rfl; have hfz30_0 := blk_frozen BK254.out 0) | ((with_reducible refine gate_callee (f := 46) rfl ?_); refine goesL_ (some 20) rfl rfl Try.func46 (by kernel_rfl) rfl #[.agg #[.slice A0_0 l0_0.length c0_0], .int .i64 1048576] rfl mA ?_; (with_reducible refine (laws_szMem.calls k _ _ l0_0 1048576 t256 _ ?side1 ?side2 A4.out).mono ?_); (case side1 => repeat (first | exact (Kd.C_below HR0_0.out HB.out) | (with_reducible refine Kd.C_alloc ?_ _) | (with_reducible refine Kd.C_drewN ?_ _) | (with_reducible refine Kd.C_drew ?_))); (case side2 => exact HC0_0.out); rintro e w31 ⟨rfl, hb⟩; refine ⟨_, rfl, ?_⟩; replace BK254 := mB BK254 hb; replace BK255 := mB BK255 hb; replace HB := mS (below_step (mH2 HB.out GE254.out GE255.out) hb); (try clear hb); (try clear hb2); (try clear hk); (try clear hi); have hcz32_0 : w31.cell? ⟨gb255, 0, none⟩ = some (.string a1_0) := (blk_cell BK255.out 0).trans rfl; have hcz32_1 : w31.cell? ⟨gb255, 1, none⟩ = some (.string a1_1) := (blk_cell BK255.out 1).trans rfl; have hcz32_2 : w31.cell? ⟨gb255, 2, none⟩ = some (.bool a1_2) := (blk_cell BK255.out 2).trans rfl; have hfz32_0 := blk_frozen BK255.out 0; have hfz32_1 := blk_frozen BK255.out 1; have hfz32_2 := blk_frozen BK255.out 2) | ((with_reducible refine gate_callee (f := 51) rfl ?_); refine goesL_ (some 25) rfl rfl Try.func51 (by kernel_rfl) rfl #[.agg #[.string a1_0, .string a1_1, .bool a1_2], .int .i64 t256] rfl mA ?_; (with_reducible refine (laws_szPair.calls a1_0 a1_1 a1_2 t256 t257 _ A11.out).mono ?_); rintro e w33 ⟨rfl, hb⟩; refine ⟨_, rfl, ?_⟩; replace BK254 := mB BK254 hb; replace BK255 := mB BK255 hb; replace HB := mS (below_step (mH2 HB.out GE254.out GE255.out) hb); (try clear hb); (try clear hb2); (try clear hk); (try clear hi)))
   have n0_ := mS (blk_drew BK254.out)
   have n1_ := mS (blk_drew BK255.out)
   have n2_ := mS (below_drew1 HB.out)
   clear BK254
   clear BK255
   clear HB
   have BK254 := n0_
   have BK255 := n1_
   have HB := n2_
   clear n0_ n1_ n2_
   refine start_ (n := 12) (S := fun w' => w'.cell? ⟨gb254, 0, none⟩ = some (.slice A0_0 l0_0.length c0_0) ∧ w'.cell? ⟨gb255, 0, none⟩ = some (.string a1_0) ∧ w'.cell? ⟨gb255, 1, none⟩ = some (.string a1_1) ∧ w'.cell? ⟨gb255, 2, none⟩ = some (.bool a1_2)) (ds := []) #[false, false, false, false, false, false, false, false, false, false, false, false] (by kernel_rfl) rfl rfl ⟨(blk_cell BK254.out 0).trans rfl, (blk_cell BK255.out 0).trans rfl, (blk_cell BK255.out 1).trans rfl, (blk_cell BK255.out 2).trans rfl⟩ (fun hHeld => ?_); refine with_tabW laws_FnExactMemPut.tab8 laws_FnExactMemPut.bits8 (fun HT_ HW_ => ?_)
   generalize w33.drew = w34 at BK254 BK255 HB hHeld ⊢
   refine pure_ (i := 4) (N := some 33) (v := ?_) (a' := ?_) #[false, false, false, false, true, false, false, false, false, false, false, false] rfl rfl (any_of HT_.out (by kernel_rfl)) (fun _ _ _ h => h) (Or.inl ⟨by rfl, ?_⟩) ?_ ?_
   rotate_left
   ·intro w'
    go_simp
    with_reducible rfl
   rotate_left
   ·simp only [Act.put, zA, zB, zC, i64_w, i32_w]
    rfl
   refine take_ (i := 0) (N := some 29) (v := ?_) (a' := ?_) #[true, false, false, false, true, false, false, false, false, false, false, false] rfl rfl (take_ofW HT_.out HW_.out (by kernel_rfl)) (fun _ _ _ h => h) (Or.inl ⟨by rfl, ?_⟩) hHeld ?_ ?_
   rotate_left
   ·rintro w' ⟨s0, s1, s2, s3⟩
    go_simp
    with_reducible rfl
   rotate_left
   ·simp only [Act.put, zA, zB, zC, i64_w, i32_w]
    rfl
   refine take_ (i := 2) (N := some 31) (v := ?_) (a' := ?_) #[true, false, true, false, true, false, false, false, false, false, false, false] rfl rfl (take_ofW HT_.out HW_.out (by kernel_rfl)) (fun _ _ _ h => h) (Or.inl ⟨by rfl, ?_⟩) hHeld ?_ ?_
   rotate_left
   ·rintro w' ⟨s0, s1, s2, s3⟩
    go_simp
    with_reducible rfl
   rotate_left
   ·simp only [Act.put, zA, zB, zC, i64_w, i32_w]
    rfl
   refine join_ (σ := Value × Value × Nat) 2 #[true, true, true, true, true, true, true, true, true, true, false, false] (fun s_ => [(30, .agg #[s_.1]), (32, .agg #[.string t261, .string t262, .bool t263]), (34, .tuple #[.agg #[s_.2.1], .bool t267]), (8, .pointer (some ⟨s_.2.2, 0, none⟩)), (28, .tuple #[.agg #[s_.2.1], .bool t267]), (35, .agg #[s_.2.1]), (36, .bool t267)]) (fun s_ w' => (w'.cell? ⟨gb254, 0, none⟩ = some (.slice A0_0 l0_0.length c0_0) ∧ w'.cell? ⟨gb255, 0, none⟩ = some (.string a1_0) ∧ w'.cell? ⟨gb255, 1, none⟩ = some (.string a1_1) ∧ w'.cell? ⟨gb255, 2, none⟩ = some (.bool a1_2)) ∧ (Kd.R k35 35 w' w.heap.size (fun k_ => some k_ ≠ (s_.2.1 : Value).ownBlock) s_.1 t258) ∧ (Kd.R k35 35 w' w.heap.size (fun k_ => some k_ ≠ (s_.1 : Value).ownBlock) s_.2.1 t264) ∧ (w'.heap[gb254]? = some (.cells #[.slice A0_0 l0_0.length c0_0] 78 (0, 0))) ∧ (w'.heap[gb255]? = some (.cells #[.string a1_0, .string a1_1, .bool a1_2] 84 (0, 0))) ∧ (w'.heap[s_.2.2]? = some (.cells #[.slice none 0 0] 26 (0, 0))) ∧ (w.heap.size ≤ s_.2.2) ∧ (w.heap.size ≤ s_.2.2) ∧ (gb254 ≠ s_.2.2) ∧ (s_.2.2 ≠ gb254) ∧ (gb255 ≠ s_.2.2) ∧ (s_.2.2 ≠ gb255) ∧ (Below w.heap.size w w')) ?_ ?_
   rotate_left
   ·intro hCont
    refine two_ (i := 1) (j := 9) (Ni := some 30) (Nj := some 8) #[true, true, true, false, true, false, false, false, false, false, false, false] #[true, false, true, false, true, false, false, false, false, true, false, false] rfl rfl rfl rfl (two_of HT_.out (by kernel_rfl)) (by decide) (by decide) (fun K hK => ?_) (fun K hK => ?_)
    ·skip
     refine goes_ Try.func48 (by kernel_rfl) rfl #[.agg #[.slice A0_0 l0_0.length c0_0]] (by rfl) rfl rfl mA ?_
     with_reducible refine (laws_toMem.calls k _ _ l0_0 t258 _ ?side1 ?side2 A20.out).mono ?_
     (case side1 => repeat (first | exact (Kd.C_below HR0_0.out HB.out) | (with_reducible refine Kd.C_alloc ?_ _) | (with_reducible refine Kd.C_drewN ?_ _) | (with_reducible refine Kd.C_drew ?_)))
     (case side2 => exact HC0_0.out)
     rintro e w35 ⟨v259, rfl, ho0, hb⟩
     refine ⟨_, rfl, ?_⟩
     have n0_ := mS (Kd.R_lower ho0 (below_size (mH2 HB.out GE254.out GE255.out)))
     have n1_ := mB BK254 hb
     have n2_ := mB BK255 hb
     have n3_ := mS (below_step (mH2 HB.out GE254.out GE255.out) hb)
     clear BK254
     clear BK255
     clear HB
     have HO260 := n0_
     have BK254 := n1_
     have BK255 := n2_
     have HB := n3_
     clear n0_ n1_ n2_ n3_
     (try clear hb)
     (try clear hb2)
     (try clear hk)
     (try clear hi)
     (try clear ho0)
     refine hK.out _ _ ⟨(blk_cell BK254.out 0).trans rfl, (blk_cell BK255.out 0).trans rfl, (blk_cell BK255.out 1).trans rfl, (blk_cell BK255.out 2).trans rfl⟩ (fun hHeld => ?_)
     clear hK K
     refine norm_ (a' := ?_) ?_ ?_
     rotate_left
     ·show Act.put _ (some 30) _ = _
      simp only [Act.put, zA, zB, zC, i64_w, i32_w]
      rfl
     refine two_ (i := 3) (j := 9) (Ni := some 32) (Nj := some 8) #[true, true, true, true, true, false, false, false, false, false, false, false] #[true, true, true, false, true, false, false, false, false, true, false, false] rfl rfl rfl rfl (two_of HT_.out (by kernel_rfl)) (by decide) (by decide) (fun K hK => ?_) (fun K hK => ?_)
     ·skip
      refine goes_ Try.func52 (by kernel_rfl) rfl #[.agg #[.string a1_0, .string a1_1, .bool a1_2]] (by rfl) rfl rfl mA ?_
      with_reducible refine (laws_toPair.calls a1_0 a1_1 a1_2 t261 t262 t263 _ A21.out).mono ?_
      rintro e w36 ⟨rfl, hb⟩
      refine ⟨_, rfl, ?_⟩
      have n0_ := mS (Kd.R_below (mR HO260.out) hb)
      have n1_ := mB BK254 hb
      have n2_ := mB BK255 hb
      have n3_ := mS (below_step (mH2 HB.out GE254.out GE255.out) hb)
      clear HO260
      clear BK254
      clear BK255
      clear HB
      have HO260 := n0_
      have BK254 := n1_
      have BK255 := n2_
      have HB := n3_
      clear n0_ n1_ n2_ n3_
      (try clear hb)
      (try clear hb2)
      (try clear hk)
      (try clear hi)
      obtain ⟨Ao37, co37, eo37⟩ := Kd.R_slice HO260.out
      (first | subst eo37 | (injection eo37 with f1_ f2_ f3_; have f4_ := f1_.symm; have f5_ := f3_.symm; clear f1_ f2_ f3_; subst f4_; subst f5_))
      refine hK.out _ _ ⟨(blk_cell BK254.out 0).trans rfl, (blk_cell BK255.out 0).trans rfl, (blk_cell BK255.out 1).trans rfl, (blk_cell BK255.out 2).trans rfl⟩ (fun hHeld => ?_)
      clear hK K
      refine norm_ (a' := ?_) ?_ ?_
      rotate_left
      ·show Act.put _ (some 32) _ = _
       simp only [Act.put, zA, zB, zC, i64_w, i32_w]
       rfl
      refine two_ (i := 5) (j := 9) (Ni := some 34) (Nj := some 8) #[true, true, true, true, true, true, false, false, false, false, false, false] #[true, true, true, true, true, false, false, false, false, true, false, false] rfl rfl rfl rfl (two_of HT_.out (by kernel_rfl)) (by decide) (by decide) (fun K hK => ?_) (fun K hK => ?_)
      ·skip
       refine goes_ Try.func21 (by kernel_rfl) rfl #[.agg #[.slice Ao37 t258.length co37], .agg #[.string t261, .string t262, .bool t263], .int .i64 a2] (by rfl) rfl rfl mA ?_
       with_reducible refine (spec_MemPut.calls k _ _ t258 t261 t262 t263 a2 t264 t267 _ ?side1 ?side2 A22.out).mono ?_
       (case side1 => repeat (first | exact (Kd.R_reads' HO260.out).2.2 | (with_reducible refine Kd.C_alloc ?_ _) | (with_reducible refine Kd.C_drewN ?_ _) | (with_reducible refine Kd.C_drew ?_)))
       (case side2 => exact (Kd.R_reads' HO260.out).2.1)
       rintro e w38 ⟨v265, rfl, ho0, hb⟩
       refine ⟨_, rfl, ?_⟩
       have n0_ := mS (Kd.R_elder' (mR HO260.out) (Kd.R_base ho0) hb)
       have n1_ := mS (Kd.R_lower (Kd.R_new' ho0 (Kd.R_lt (mR HO260.out))) (below_size (mH2 HB.out GE254.out GE255.out)))
       have n2_ := mB BK254 hb
       have n3_ := mB BK255 hb
       have n4_ := mS (below_step (mH2 HB.out GE254.out GE255.out) hb)
       clear HO260
       clear BK254
       clear BK255
       clear HB
       have HO260 := n0_
       have HO266 := n1_
       have BK254 := n2_
       have BK255 := n3_
       have HB := n4_
       clear n0_ n1_ n2_ n3_ n4_
       (try clear hb)
       (try clear hb2)
       (try clear hk)
       (try clear hi)
       (try clear ho0)
       refine hK.out _ _ ⟨(blk_cell BK254.out 0).trans rfl, (blk_cell BK255.out 0).trans rfl, (blk_cell BK255.out 1).trans rfl, (blk_cell BK255.out 2).trans rfl⟩ (fun hHeld => ?_)
       clear hK K
       refine norm_ (a' := ?_) ?_ ?_
       rotate_left
       ·show Act.put _ (some 34) _ = _
        simp only [Act.put, zA, zB, zC, i64_w, i32_w]
        rfl
       refine pure_ (i := 6) (N := some 28) (v := ?_) (a' := ?_) #[true, true, true, true, true, true, true, false, false, false, false, false] rfl rfl (any_of HT_.out (by kernel_rfl)) (fun _ _ _ h => h) (Or.inl ⟨by rfl, ?_⟩) ?_ ?_
       rotate_left
       ·intro w'
        go_simp
        with_reducible rfl
       rotate_left
       ·simp only [Act.put, zA, zB, zC, i64_w, i32_w]
        rfl
       refine pure_ (i := 7) (N := some 35) (v := ?_) (a' := ?_) #[true, true, true, true, true, true, true, true, false, false, false, false] rfl rfl (any_of HT_.out (by kernel_rfl)) (fun _ _ _ h => h) (Or.inl ⟨by rfl, ?_⟩) ?_ ?_
       rotate_left
       ·intro w'
        go_simp
        with_reducible rfl
       rotate_left
       ·simp only [Act.put, zA, zB, zC, i64_w, i32_w]
        rfl
       refine pure_ (i := 8) (N := some 36) (v := ?_) (a' := ?_) #[true, true, true, true, true, true, true, true, true, false, false, false] rfl rfl (any_of HT_.out (by kernel_rfl)) (fun _ _ _ h => h) (Or.inl ⟨by rfl, ?_⟩) ?_ ?_
       rotate_left
       ·intro w'
        go_simp
        with_reducible rfl
       rotate_left
       ·simp only [Act.put, zA, zB, zC, i64_w, i32_w]
        rfl
       refine one_ (i := 9) (N := some 8) #[true, true, true, true, true, true, true, true, true, true, false, false] rfl rfl (one_of HT_.out (by kernel_rfl)) (by decide) (fun K hK => ?_)
       refine box_step ?hg (N := 8) ?hd (cs := #[.slice none 0 0]) (t := 26) ?hr ?_; (case hd => rfl); (case hg => rfl); (case hr => first | (go_simp; done) | (go_simp; rfl))
       intro gb268 hg w39 hbox hb
       have n0_ := mS (Kd.R_below (mR HO260.out) hb)
       have n1_ := mS (Kd.R_below (mR HO266.out) hb)
       have n2_ := mB BK254 hb
       have n3_ := mB BK255 hb
       have n4_ := mS (below_step (mH2 HB.out GE254.out GE255.out) hb)
       have n5_ := mS (hbox)
       have n6_ := mG hg (mH2 HB.out GE254.out GE255.out)
       have n7_ := mG hg (mH2 HB.out GE254.out GE255.out)
       have n8_ := mNl hg BK254.out
       have n9_ := mNg hg BK254.out
       have n10_ := mNl hg BK255.out
       have n11_ := mNg hg BK255.out
       clear HO260
       clear HO266
       clear BK254
       clear BK255
       clear HB
       have HO260 := n0_
       have HO266 := n1_
       have BK254 := n2_
       have BK255 := n3_
       have HB := n4_
       have BK268 := n5_
       have GW268 := n6_
       have GE268 := n7_
       have NB254_268 := n8_
       have NB268_254 := n9_
       have NB255_268 := n10_
       have NB268_255 := n11_
       clear n0_ n1_ n2_ n3_ n4_ n5_ n6_ n7_ n8_ n9_ n10_ n11_
       clear hb hbox hg
       refine hK.out _ _ ⟨(blk_cell BK254.out 0).trans rfl, (blk_cell BK255.out 0).trans rfl, (blk_cell BK255.out 1).trans rfl, (blk_cell BK255.out 2).trans rfl⟩ (fun hHeld => ?_)
       clear hK K
       refine norm_ (a' := ?_) ?_ ?_
       rotate_left
       ·show Act.put _ (some 8) _ = _
        simp only [Act.put, zA, zB, zC, i64_w, i32_w]
        rfl
       exact norm_ mU (hCont (.slice Ao37 t258.length co37, v265, gb268) _ ⟨hHeld, (by (with_reducible repeat (first | apply Kd.R_alloc | apply Kd.R_drewN | apply Kd.R_drew)); exact Kd.R_mono HO260.out (fun _ hk => hk.2)), (by (with_reducible repeat (first | apply Kd.R_alloc | apply Kd.R_drewN | apply Kd.R_drew)); exact Kd.R_mono HO266.out (fun _ hk => hk.2)), (mK BK254.out), (mK BK255.out), (mK BK268.out), GW268.out, GE268.out, NB254_268.out, NB268_254.out, NB255_268.out, NB268_255.out, (mH3 HB.out GE254.out GE255.out GE268.out)⟩)
      ·skip
       refine box_step ?hg (N := 8) ?hd (cs := #[.slice none 0 0]) (t := 26) ?hr ?_; (case hd => rfl); (case hg => rfl); (case hr => first | (go_simp; done) | (go_simp; rfl))
       intro gb268 hg w37 hbox hb
       have n0_ := mS (Kd.R_below (mR HO260.out) hb)
       have n1_ := mB BK254 hb
       have n2_ := mB BK255 hb
       have n3_ := mS (below_step (mH2 HB.out GE254.out GE255.out) hb)
       have n4_ := mS (hbox)
       have n5_ := mG hg (mH2 HB.out GE254.out GE255.out)
       have n6_ := mG hg (mH2 HB.out GE254.out GE255.out)
       have n7_ := mNl hg BK254.out
       have n8_ := mNg hg BK254.out
       have n9_ := mNl hg BK255.out
       have n10_ := mNg hg BK255.out
       clear HO260
       clear BK254
       clear BK255
       clear HB
       have HO260 := n0_
       have BK254 := n1_
       have BK255 := n2_
       have HB := n3_
       have BK268 := n4_
       have GW268 := n5_
       have GE268 := n6_
       have NB254_268 := n7_
       have NB268_254 := n8_
       have NB255_268 := n9_
       have NB268_255 := n10_
       clear n0_ n1_ n2_ n3_ n4_ n5_ n6_ n7_ n8_ n9_ n10_
       clear hb hbox hg
       obtain ⟨Ao38, co38, eo38⟩ := Kd.R_slice HO260.out
       (first | subst eo38 | (injection eo38 with f1_ f2_ f3_; have f4_ := f1_.symm; have f5_ := f3_.symm; clear f1_ f2_ f3_; subst f4_; subst f5_))
       refine hK.out _ _ ⟨(blk_cell BK254.out 0).trans rfl, (blk_cell BK255.out 0).trans rfl, (blk_cell BK255.out 1).trans rfl, (blk_cell BK255.out 2).trans rfl⟩ (fun hHeld => ?_)
       clear hK K
       refine norm_ (a' := ?_) ?_ ?_
       rotate_left
       ·show Act.put _ (some 8) _ = _
        simp only [Act.put, zA, zB, zC, i64_w, i32_w]
        rfl
       refine one_ (i := 5) (N := some 34) #[true, true, true, true, true, true, false, false, false, true, false, false] rfl rfl (one_of HT_.out (by kernel_rfl)) (by decide) (fun K hK => ?_)
       refine goes_ Try.func21 (by kernel_rfl) rfl #[.agg #[.slice Ao38 t258.length co38], .agg #[.string t261, .string t262, .bool t263], .int .i64 a2] (by rfl) rfl rfl mA ?_
       with_reducible refine (spec_MemPut.calls k _ _ t258 t261 t262 t263 a2 t264 t267 _ ?side1 ?side2 A22.out).mono ?_
       (case side1 => repeat (first | exact (Kd.R_reads' HO260.out).2.2 | (with_reducible refine Kd.C_alloc ?_ _) | (with_reducible refine Kd.C_drewN ?_ _) | (with_reducible refine Kd.C_drew ?_)))
       (case side2 => exact (Kd.R_reads' HO260.out).2.1)
       rintro e w39 ⟨v265, rfl, ho0, hb⟩
       refine ⟨_, rfl, ?_⟩
       have n0_ := mS (Kd.R_elder' (mR HO260.out) (Kd.R_base ho0) hb)
       have n1_ := mS (Kd.R_lower (Kd.R_new' ho0 (Kd.R_lt (mR HO260.out))) (below_size (mH3 HB.out GE254.out GE255.out GE268.out)))
       have n2_ := mB BK254 hb
       have n3_ := mB BK255 hb
       have n4_ := mB BK268 hb
       have n5_ := mS (below_step (mH3 HB.out GE254.out GE255.out GE268.out) hb)
       clear HO260
       clear BK254
       clear BK255
       clear BK268
       clear HB
       have HO260 := n0_
       have HO266 := n1_
       have BK254 := n2_
       have BK255 := n3_
       have BK268 := n4_
       have HB := n5_
       clear n0_ n1_ n2_ n3_ n4_ n5_
       (try clear hb)
       (try clear hb2)
       (try clear hk)
       (try clear hi)
       (try clear ho0)
       refine hK.out _ _ ⟨(blk_cell BK254.out 0).trans rfl, (blk_cell BK255.out 0).trans rfl, (blk_cell BK255.out 1).trans rfl, (blk_cell BK255.out 2).trans rfl⟩ (fun hHeld => ?_)
       clear hK K
       refine norm_ (a' := ?_) ?_ ?_
       rotate_left
       ·show Act.put _ (some 34) _ = _
        simp only [Act.put, zA, zB, zC, i64_w, i32_w]
        rfl
       refine pure_ (i := 6) (N := some 28) (v := ?_) (a' := ?_) #[true, true, true, true, true, true, true, false, false, true, false, false] rfl rfl (any_of HT_.out (by kernel_rfl)) (fun _ _ _ h => h) (Or.inl ⟨by rfl, ?_⟩) ?_ ?_
       rotate_left
       ·intro w'
        go_simp
        with_reducible rfl
       rotate_left
       ·simp only [Act.put, zA, zB, zC, i64_w, i32_w]
        rfl
       refine pure_ (i := 7) (N := some 35) (v := ?_) (a' := ?_) #[true, true, true, true, true, true, true, true, false, true, false, false] rfl rfl (any_of HT_.out (by kernel_rfl)) (fun _ _ _ h => h) (Or.inl ⟨by rfl, ?_⟩) ?_ ?_
       rotate_left
       ·intro w'
        go_simp
        with_reducible rfl
       rotate_left
       ·simp only [Act.put, zA, zB, zC, i64_w, i32_w]
        rfl
       refine pure_ (i := 8) (N := some 36) (v := ?_) (a' := ?_) #[true, true, true, true, true, true, true, true, true, true, false, false] rfl rfl (any_of HT_.out (by kernel_rfl)) (fun _ _ _ h => h) (Or.inl ⟨by rfl, ?_⟩) ?_ ?_
       rotate_left
       ·intro w'
        go_simp
        with_reducible rfl
       rotate_left
       ·simp only [Act.put, zA, zB, zC, i64_w, i32_w]
        rfl
       exact norm_ mU (hCont (.slice Ao38 t258.length co38, v265, gb268) _ ⟨hHeld, (by (with_reducible repeat (first | apply Kd.R_alloc | apply Kd.R_drewN | apply Kd.R_drew)); exact Kd.R_mono HO260.out (fun _ hk => hk.2)), (by (with_reducible repeat (first | apply Kd.R_alloc | apply Kd.R_drewN | apply Kd.R_drew)); exact Kd.R_mono HO266.out (fun _ hk => hk.2)), (mK BK254.out), (mK BK255.out), (mK BK268.out), GW268.out, GE268.out, NB254_268.out, NB268_254.out, NB255_268.out, NB268_255.out, (mH3 HB.out GE254.out GE255.out GE268.out)⟩)
     ·skip
      refine box_step ?hg (N := 8) ?hd (cs := #[.slice none 0 0]) (t := 26) ?hr ?_; (case hd => rfl); (case hg => rfl); (case hr => first | (go_simp; done) | (go_simp; rfl))
      intro gb268 hg w36 hbox hb
      have n0_ := mS (Kd.R_below (mR HO260.out) hb)
      have n1_ := mB BK254 hb
      have n2_ := mB BK255 hb
      have n3_ := mS (below_step (mH2 HB.out GE254.out GE255.out) hb)
      have n4_ := mS (hbox)
      have n5_ := mG hg (mH2 HB.out GE254.out GE255.out)
      have n6_ := mG hg (mH2 HB.out GE254.out GE255.out)
      have n7_ := mNl hg BK254.out
      have n8_ := mNg hg BK254.out
      have n9_ := mNl hg BK255.out
      have n10_ := mNg hg BK255.out
      clear HO260
      clear BK254
      clear BK255
      clear HB
      have HO260 := n0_
      have BK254 := n1_
      have BK255 := n2_
      have HB := n3_
      have BK268 := n4_
      have GW268 := n5_
      have GE268 := n6_
      have NB254_268 := n7_
      have NB268_254 := n8_
      have NB255_268 := n9_
      have NB268_255 := n10_
      clear n0_ n1_ n2_ n3_ n4_ n5_ n6_ n7_ n8_ n9_ n10_
      clear hb hbox hg
      refine hK.out _ _ ⟨(blk_cell BK254.out 0).trans rfl, (blk_cell BK255.out 0).trans rfl, (blk_cell BK255.out 1).trans rfl, (blk_cell BK255.out 2).trans rfl⟩ (fun hHeld => ?_)
      clear hK K
      refine norm_ (a' := ?_) ?_ ?_
      rotate_left
      ·show Act.put _ (some 8) _ = _
       simp only [Act.put, zA, zB, zC, i64_w, i32_w]
       rfl
      refine one_ (i := 3) (N := some 32) #[true, true, true, true, true, false, false, false, false, true, false, false] rfl rfl (one_of HT_.out (by kernel_rfl)) (by decide) (fun K hK => ?_)
      refine goes_ Try.func52 (by kernel_rfl) rfl #[.agg #[.string a1_0, .string a1_1, .bool a1_2]] (by rfl) rfl rfl mA ?_
      with_reducible refine (laws_toPair.calls a1_0 a1_1 a1_2 t261 t262 t263 _ A21.out).mono ?_
      rintro e w37 ⟨rfl, hb⟩
      refine ⟨_, rfl, ?_⟩
      have n0_ := mS (Kd.R_below (mR HO260.out) hb)
      have n1_ := mB BK254 hb
      have n2_ := mB BK255 hb
      have n3_ := mB BK268 hb
      have n4_ := mS (below_step (mH3 HB.out GE254.out GE255.out GE268.out) hb)
      clear HO260
      clear BK254
      clear BK255
      clear BK268
      clear HB
      have HO260 := n0_
      have BK254 := n1_
      have BK255 := n2_
      have BK268 := n3_
      have HB := n4_
      clear n0_ n1_ n2_ n3_ n4_
      (try clear hb)
      (try clear hb2)
      (try clear hk)
      (try clear hi)
      obtain ⟨Ao38, co38, eo38⟩ := Kd.R_slice HO260.out
      (first | subst eo38 | (injection eo38 with f1_ f2_ f3_; have f4_ := f1_.symm; have f5_ := f3_.symm; clear f1_ f2_ f3_; subst f4_; subst f5_))
      refine hK.out _ _ ⟨(blk_cell BK254.out 0).trans rfl, (blk_cell BK255.out 0).trans rfl, (blk_cell BK255.out 1).trans rfl, (blk_cell BK255.out 2).trans rfl⟩ (fun hHeld => ?_)
      clear hK K
      refine norm_ (a' := ?_) ?_ ?_
      rotate_left
      ·show Act.put _ (some 32) _ = _
       simp only [Act.put, zA, zB, zC, i64_w, i32_w]
       rfl
      refine one_ (i := 5) (N := some 34) #[true, true, true, true, true, true, false, false, false, true, false, false] rfl rfl (one_of HT_.out (by kernel_rfl)) (by decide) (fun K hK => ?_)
      refine goes_ Try.func21 (by kernel_rfl) rfl #[.agg #[.slice Ao38 t258.length co38], .agg #[.string t261, .string t262, .bool t263], .int .i64 a2] (by rfl) rfl rfl mA ?_
      with_reducible refine (spec_MemPut.calls k _ _ t258 t261 t262 t263 a2 t264 t267 _ ?side1 ?side2 A22.out).mono ?_
      (case side1 => repeat (first | exact (Kd.R_reads' HO260.out).2.2 | (with_reducible refine Kd.C_alloc ?_ _) | (with_reducible refine Kd.C_drewN ?_ _) | (with_reducible refine Kd.C_drew ?_)))
      (case side2 => exact (Kd.R_reads' HO260.out).2.1)
      rintro e w39 ⟨v265, rfl, ho0, hb⟩
      refine ⟨_, rfl, ?_⟩
      have n0_ := mS (Kd.R_elder' (mR HO260.out) (Kd.R_base ho0) hb)
      have n1_ := mS (Kd.R_lower (Kd.R_new' ho0 (Kd.R_lt (mR HO260.out))) (below_size (mH3 HB.out GE254.out GE255.out GE268.out)))
      have n2_ := mB BK254 hb
      have n3_ := mB BK255 hb
      have n4_ := mB BK268 hb
      have n5_ := mS (below_step (mH3 HB.out GE254.out GE255.out GE268.out) hb)
      clear HO260
      clear BK254
      clear BK255
      clear BK268
      clear HB
      have HO260 := n0_
      have HO266 := n1_
      have BK254 := n2_
      have BK255 := n3_
      have BK268 := n4_
      have HB := n5_
      clear n0_ n1_ n2_ n3_ n4_ n5_
      (try clear hb)
      (try clear hb2)
      (try clear hk)
      (try clear hi)
      (try clear ho0)
      refine hK.out _ _ ⟨(blk_cell BK254.out 0).trans rfl, (blk_cell BK255.out 0).trans rfl, (blk_cell BK255.out 1).trans rfl, (blk_cell BK255.out 2).trans rfl⟩ (fun hHeld => ?_)
      clear hK K
      refine norm_ (a' := ?_) ?_ ?_
      rotate_left
      ·show Act.put _ (some 34) _ = _
       simp only [Act.put, zA, zB, zC, i64_w, i32_w]
       rfl
      refine pure_ (i := 6) (N := some 28) (v := ?_) (a' := ?_) #[true, true, true, true, true, true, true, false, false, true, false, false] rfl rfl (any_of HT_.out (by kernel_rfl)) (fun _ _ _ h => h) (Or.inl ⟨by rfl, ?_⟩) ?_ ?_
      rotate_left
      ·intro w'
       go_simp
       with_reducible rfl
      rotate_left
      ·simp only [Act.put, zA, zB, zC, i64_w, i32_w]
       rfl
      refine pure_ (i := 7) (N := some 35) (v := ?_) (a' := ?_) #[true, true, true, true, true, true, true, true, false, true, false, false] rfl rfl (any_of HT_.out (by kernel_rfl)) (fun _ _ _ h => h) (Or.inl ⟨by rfl, ?_⟩) ?_ ?_
      rotate_left
      ·intro w'
       go_simp
       with_reducible rfl
      rotate_left
      ·simp only [Act.put, zA, zB, zC, i64_w, i32_w]
       rfl
      refine pure_ (i := 8) (N := some 36) (v := ?_) (a' := ?_) #[true, true, true, true, true, true, true, true, true, true, false, false] rfl rfl (any_of HT_.out (by kernel_rfl)) (fun _ _ _ h => h) (Or.inl ⟨by rfl, ?_⟩) ?_ ?_
      rotate_left
      ·intro w'
       go_simp
       with_reducible rfl
      rotate_left
      ·simp only [Act.put, zA, zB, zC, i64_w, i32_w]
       rfl
      exact norm_ mU (hCont (.slice Ao38 t258.length co38, v265, gb268) _ ⟨hHeld, (by (with_reducible repeat (first | apply Kd.R_alloc | apply Kd.R_drewN | apply Kd.R_drew)); exact Kd.R_mono HO260.out (fun _ hk => hk.2)), (by (with_reducible repeat (first | apply Kd.R_alloc | apply Kd.R_drewN | apply Kd.R_drew)); exact Kd.R_mono HO266.out (fun _ hk => hk.2)), (mK BK254.out), (mK BK255.out), (mK BK268.out), GW268.out, GE268.out, NB254_268.out, NB268_254.out, NB255_268.out, NB268_255.out, (mH3 HB.out GE254.out GE255.out GE268.out)⟩)
    ·skip
     refine box_step ?hg (N := 8) ?hd (cs := #[.slice none 0 0]) (t := 26) ?hr ?_; (case hd => rfl); (case hg => rfl); (case hr => first | (go_simp; done) | (go_simp; rfl))
     intro gb268 hg w35 hbox hb
     have n0_ := mB BK254 hb
     have n1_ := mB BK255 hb
     have n2_ := mS (below_step (mH2 HB.out GE254.out GE255.out) hb)
     have n3_ := mS (hbox)
     have n4_ := mG hg (mH2 HB.out GE254.out GE255.out)
     have n5_ := mG hg (mH2 HB.out GE254.out GE255.out)
     have n6_ := mNl hg BK254.out
     have n7_ := mNg hg BK254.out
     have n8_ := mNl hg BK255.out
     have n9_ := mNg hg BK255.out
     clear BK254
     clear BK255
     clear HB
     have BK254 := n0_
     have BK255 := n1_
     have HB := n2_
     have BK268 := n3_
     have GW268 := n4_
     have GE268 := n5_
     have NB254_268 := n6_
     have NB268_254 := n7_
     have NB255_268 := n8_
     have NB268_255 := n9_
     clear n0_ n1_ n2_ n3_ n4_ n5_ n6_ n7_ n8_ n9_
     clear hb hbox hg
     refine hK.out _ _ ⟨(blk_cell BK254.out 0).trans rfl, (blk_cell BK255.out 0).trans rfl, (blk_cell BK255.out 1).trans rfl, (blk_cell BK255.out 2).trans rfl⟩ (fun hHeld => ?_)
     clear hK K
     refine norm_ (a' := ?_) ?_ ?_
     rotate_left
     ·show Act.put _ (some 8) _ = _
      simp only [Act.put, zA, zB, zC, i64_w, i32_w]
      rfl
     refine one_ (i := 1) (N := some 30) #[true, true, true, false, true, false, false, false, false, true, false, false] rfl rfl (one_of HT_.out (by kernel_rfl)) (by decide) (fun K hK => ?_)
     refine goes_ Try.func48 (by kernel_rfl) rfl #[.agg #[.slice A0_0 l0_0.length c0_0]] (by rfl) rfl rfl mA ?_
     with_reducible refine (laws_toMem.calls k _ _ l0_0 t258 _ ?side1 ?side2 A20.out).mono ?_
     (case side1 => repeat (first | exact (Kd.C_below HR0_0.out HB.out) | (with_reducible refine Kd.C_alloc ?_ _) | (with_reducible refine Kd.C_drewN ?_ _) | (with_reducible refine Kd.C_drew ?_)))
     (case side2 => exact HC0_0.out)
     rintro e w36 ⟨v259, rfl, ho0, hb⟩
     refine ⟨_, rfl, ?_⟩
     have n0_ := mS (Kd.R_lower ho0 (below_size (mH3 HB.out GE254.out GE255.out GE268.out)))
     have n1_ := mB BK254 hb
     have n2_ := mB BK255 hb
     have n3_ := mB BK268 hb
     have n4_ := mS (below_step (mH3 HB.out GE254.out GE255.out GE268.out) hb)
     clear BK254
     clear BK255
     clear BK268
     clear HB
     have HO260 := n0_
     have BK254 := n1_
     have BK255 := n2_
     have BK268 := n3_
     have HB := n4_
     clear n0_ n1_ n2_ n3_ n4_
     (try clear hb)
     (try clear hb2)
     (try clear hk)
     (try clear hi)
     (try clear ho0)
     refine hK.out _ _ ⟨(blk_cell BK254.out 0).trans rfl, (blk_cell BK255.out 0).trans rfl, (blk_cell BK255.out 1).trans rfl, (blk_cell BK255.out 2).trans rfl⟩ (fun hHeld => ?_)
     clear hK K
     refine norm_ (a' := ?_) ?_ ?_
     rotate_left
     ·show Act.put _ (some 30) _ = _
      simp only [Act.put, zA, zB, zC, i64_w, i32_w]
      rfl
     refine one_ (i := 3) (N := some 32) #[true, true, true, true, true, false, false, false, false, true, false, false] rfl rfl (one_of HT_.out (by kernel_rfl)) (by decide) (fun K hK => ?_)
     refine goes_ Try.func52 (by kernel_rfl) rfl #[.agg #[.string a1_0, .string a1_1, .bool a1_2]] (by rfl) rfl rfl mA ?_
     with_reducible refine (laws_toPair.calls a1_0 a1_1 a1_2 t261 t262 t263 _ A21.out).mono ?_
     rintro e w37 ⟨rfl, hb⟩
     refine ⟨_, rfl, ?_⟩
     have n0_ := mS (Kd.R_below (mR HO260.out) hb)
     have n1_ := mB BK254 hb
     have n2_ := mB BK255 hb
     have n3_ := mB BK268 hb
     have n4_ := mS (below_step (mH3 HB.out GE254.out GE255.out GE268.out) hb)
     clear HO260
     clear BK254
     clear BK255
     clear BK268
     clear HB
     have HO260 := n0_
     have BK254 := n1_
     have BK255 := n2_
     have BK268 := n3_
     have HB := n4_
     clear n0_ n1_ n2_ n3_ n4_
     (try clear hb)
     (try clear hb2)
     (try clear hk)
     (try clear hi)
     obtain ⟨Ao38, co38, eo38⟩ := Kd.R_slice HO260.out
     (first | subst eo38 | (injection eo38 with f1_ f2_ f3_; have f4_ := f1_.symm; have f5_ := f3_.symm; clear f1_ f2_ f3_; subst f4_; subst f5_))
     refine hK.out _ _ ⟨(blk_cell BK254.out 0).trans rfl, (blk_cell BK255.out 0).trans rfl, (blk_cell BK255.out 1).trans rfl, (blk_cell BK255.out 2).trans rfl⟩ (fun hHeld => ?_)
     clear hK K
     refine norm_ (a' := ?_) ?_ ?_
     rotate_left
     ·show Act.put _ (some 32) _ = _
      simp only [Act.put, zA, zB, zC, i64_w, i32_w]
      rfl
     refine one_ (i := 5) (N := some 34) #[true, true, true, true, true, true, false, false, false, true, false, false] rfl rfl (one_of HT_.out (by kernel_rfl)) (by decide) (fun K hK => ?_)
     refine goes_ Try.func21 (by kernel_rfl) rfl #[.agg #[.slice Ao38 t258.length co38], .agg #[.string t261, .string t262, .bool t263], .int .i64 a2] (by rfl) rfl rfl mA ?_
     with_reducible refine (spec_MemPut.calls k _ _ t258 t261 t262 t263 a2 t264 t267 _ ?side1 ?side2 A22.out).mono ?_
     (case side1 => repeat (first | exact (Kd.R_reads' HO260.out).2.2 | (with_reducible refine Kd.C_alloc ?_ _) | (with_reducible refine Kd.C_drewN ?_ _) | (with_reducible refine Kd.C_drew ?_)))
     (case side2 => exact (Kd.R_reads' HO260.out).2.1)
     rintro e w39 ⟨v265, rfl, ho0, hb⟩
     refine ⟨_, rfl, ?_⟩
     have n0_ := mS (Kd.R_elder' (mR HO260.out) (Kd.R_base ho0) hb)
     have n1_ := mS (Kd.R_lower (Kd.R_new' ho0 (Kd.R_lt (mR HO260.out))) (below_size (mH3 HB.out GE254.out GE255.out GE268.out)))
     have n2_ := mB BK254 hb
     have n3_ := mB BK255 hb
     have n4_ := mB BK268 hb
     have n5_ := mS (below_step (mH3 HB.out GE254.out GE255.out GE268.out) hb)
     clear HO260
     clear BK254
     clear BK255
     clear BK268
     clear HB
     have HO260 := n0_
     have HO266 := n1_
     have BK254 := n2_
     have BK255 := n3_
     have BK268 := n4_
     have HB := n5_
     clear n0_ n1_ n2_ n3_ n4_ n5_
     (try clear hb)
     (try clear hb2)
     (try clear hk)
     (try clear hi)
     (try clear ho0)
     refine hK.out _ _ ⟨(blk_cell BK254.out 0).trans rfl, (blk_cell BK255.out 0).trans rfl, (blk_cell BK255.out 1).trans rfl, (blk_cell BK255.out 2).trans rfl⟩ (fun hHeld => ?_)
     clear hK K
     refine norm_ (a' := ?_) ?_ ?_
     rotate_left
     ·show Act.put _ (some 34) _ = _
      simp only [Act.put, zA, zB, zC, i64_w, i32_w]
      rfl
     refine pure_ (i := 6) (N := some 28) (v := ?_) (a' := ?_) #[true, true, true, true, true, true, true, false, false, true, false, false] rfl rfl (any_of HT_.out (by kernel_rfl)) (fun _ _ _ h => h) (Or.inl ⟨by rfl, ?_⟩) ?_ ?_
     rotate_left
     ·intro w'
      go_simp
      with_reducible rfl
     rotate_left
     ·simp only [Act.put, zA, zB, zC, i64_w, i32_w]
      rfl
     refine pure_ (i := 7) (N := some 35) (v := ?_) (a' := ?_) #[true, true, true, true, true, true, true, true, false, true, false, false] rfl rfl (any_of HT_.out (by kernel_rfl)) (fun _ _ _ h => h) (Or.inl ⟨by rfl, ?_⟩) ?_ ?_
     rotate_left
     ·intro w'
      go_simp
      with_reducible rfl
     rotate_left
     ·simp only [Act.put, zA, zB, zC, i64_w, i32_w]
      rfl
     refine pure_ (i := 8) (N := some 36) (v := ?_) (a' := ?_) #[true, true, true, true, true, true, true, true, true, true, false, false] rfl rfl (any_of HT_.out (by kernel_rfl)) (fun _ _ _ h => h) (Or.inl ⟨by rfl, ?_⟩) ?_ ?_
     rotate_left
     ·intro w'
      go_simp
      with_reducible rfl
     rotate_left
     ·simp only [Act.put, zA, zB, zC, i64_w, i32_w]
      rfl
     exact norm_ mU (hCont (.slice Ao38 t258.length co38, v265, gb268) _ ⟨hHeld, (by (with_reducible repeat (first | apply Kd.R_alloc | apply Kd.R_drewN | apply Kd.R_drew)); exact Kd.R_mono HO260.out (fun _ hk => hk.2)), (by (with_reducible repeat (first | apply Kd.R_alloc | apply Kd.R_drewN | apply Kd.R_drew)); exact Kd.R_mono HO266.out (fun _ hk => hk.2)), (mK BK254.out), (mK BK255.out), (mK BK268.out), GW268.out, GE268.out, NB254_268.out, NB268_254.out, NB255_268.out, NB268_255.out, (mH3 HB.out GE254.out GE255.out GE268.out)⟩)
   rintro ⟨v259, v265, gb268⟩ w40 ⟨hS_, h0_, h1_, h2_, h3_, h4_, h5_, h6_, h7_, h8_, h9_, h10_, h11_⟩
   have n0_ : Aside0 (Kd.R k35 35 w40 w.heap.size (fun k_ => some k_ ≠ (v265 : Value).ownBlock) v259 t258) := ⟨h0_⟩
   have n1_ : Aside0 (Kd.R k35 35 w40 w.heap.size (fun k_ => some k_ ≠ (v259 : Value).ownBlock) v265 t264) := ⟨h1_⟩
   have n2_ : Aside0 (w40.heap[gb254]? = some (.cells #[.slice A0_0 l0_0.length c0_0] 78 (0, 0))) := ⟨h2_⟩
   have n3_ : Aside0 (w40.heap[gb255]? = some (.cells #[.string a1_0, .string a1_1, .bool a1_2] 84 (0, 0))) := ⟨h3_⟩
   have n4_ : Aside0 (w40.heap[gb268]? = some (.cells #[.slice none 0 0] 26 (0, 0))) := ⟨h4_⟩
   have n5_ : Aside0 (w.heap.size ≤ gb268) := ⟨h5_⟩
   have n6_ : Aside0 (w.heap.size ≤ gb268) := ⟨h6_⟩
   have n7_ : Aside0 (gb254 ≠ gb268) := ⟨h7_⟩
   have n8_ : Aside0 (gb268 ≠ gb254) := ⟨h8_⟩
   have n9_ : Aside0 (gb255 ≠ gb268) := ⟨h9_⟩
   have n10_ : Aside0 (gb268 ≠ gb255) := ⟨h10_⟩
   have n11_ : Aside0 (Below w.heap.size w w40) := ⟨h11_⟩
   clear BK254
   clear BK255
   clear HB
   clear h0_ h1_ h2_ h3_ h4_ h5_ h6_ h7_ h8_ h9_ h10_ h11_
   have HO260 := n0_
   have HO266 := n1_
   have BK254 := n2_
   have BK255 := n3_
   have BK268 := n4_
   have GW268 := n5_
   have GE268 := n6_
   have NB254_268 := n7_
   have NB268_254 := n8_
   have NB255_268 := n9_
   have NB268_255 := n10_
   have HB := n11_
   clear n0_ n1_ n2_ n3_ n4_ n5_ n6_ n7_ n8_ n9_ n10_ n11_
   have hHeld : w40.cell? ⟨gb254, 0, none⟩ = some (.slice A0_0 l0_0.length c0_0) ∧ w40.cell? ⟨gb255, 0, none⟩ = some (.string a1_0) ∧ w40.cell? ⟨gb255, 1, none⟩ = some (.string a1_1) ∧ w40.cell? ⟨gb255, 2, none⟩ = some (.bool a1_2) := hS_
   obtain ⟨Ao41, co41, eo41⟩ := Kd.R_slice HO266.out
   (first | subst eo41 | (injection eo41 with f1_ f2_ f3_; have f4_ := f1_.symm; have f5_ := f3_.symm; clear f1_ f2_ f3_; subst f4_; subst f5_))
   refine norm_ (a' := ?_) ?_ ?_
   rotate_left
   ·simp only [putAll, Act.put, zA, zB, zC]
    rfl
   refine one_ (i := 10) (N := none) #[true, true, true, true, true, true, true, true, true, true, true, false] rfl rfl (one_of HT_.out (by kernel_rfl)) (by decide) (fun K hK => ?_)
   have hs42 : w40.cell? ⟨gb268, 0, none⟩ = some (.slice none 0 0) := (blk_cell BK268.out 0).trans rfl
   have hfs42 := blk_frozen BK268.out 0
   have hns42_0 := NB254_268.out
   have hns42_1 := NB255_268.out
   have hms42_0 := NB268_254.out
   have hms42_1 := NB268_255.out
   refine skip_ (w1 := ?_) (by rfl) rfl ?_ ?_
   rotate_left
   ·go_simp
    rfl
   refine hK.out _ _ ⟨((cell_far (p := ⟨gb268, _, none⟩) NB254_268.out _).trans (hHeld.1)), ((cell_far (p := ⟨gb268, _, none⟩) NB255_268.out _).trans (hHeld.2.1)), ((cell_far (p := ⟨gb268, _, none⟩) NB255_268.out _).trans (hHeld.2.2.1)), ((cell_far (p := ⟨gb268, _, none⟩) NB255_268.out _).trans (hHeld.2.2.2))⟩ (fun hHeld => ?_)
   clear hK K
   refine pure_ (i := 11) (N := some 9) (v := ?_) (a' := ?_) #[true, true, true, true, true, true, true, true, true, true, true, true] rfl rfl (any_of HT_.out (by kernel_rfl)) (fun _ _ _ h => h) (Or.inl ⟨by rfl, ?_⟩) ?_ ?_
   rotate_left
   ·intro w'
    go_simp
    with_reducible rfl
   rotate_left
   ·simp only [Act.put, zA, zB, zC, i64_w, i32_w]
    rfl
   refine done_ (done_of HT_.out (by kernel_rfl)) ?_
   have hnb43 := NB254_268.out
   have hnc43 := NB268_254.out
   have hcz44_0 : w40.cell? ⟨gb254, 0, none⟩ = some (.slice A0_0 l0_0.length c0_0) := (blk_cell BK254.out 0).trans rfl
   have hfz44_0 := blk_frozen BK254.out 0
   try go_wp2_with (first | ((with_reducible refine gate_callee (f := 48) rfl ?_); refine goesL_ (some 38) rfl rfl Try.func48 (by kernel_rfl) rfl #[.agg #[.slice A0_0 l0_0.length c0_0]] rfl mA ?_; (with_reducible refine (laws_toMem.calls k _ _ l0_0 t269 _ ?side1 ?side2 A23.out).mono ?_); (case side1 => exact Kd.C_below HR0_0.out (mH3 HB.out GE254.out GE255.out GE268.out)); (case side2 => exact HC0_0.out); rintro e w45 ⟨v270, rfl, ho0, hb⟩; refine ⟨_, rfl, ?_⟩; have HO271 := mS (Kd.R_lower (Kd.R_new' (Kd.R_new' ho0 (Kd.R_lt (by (with_reducible repeat (first | apply Kd.R_alloc | apply Kd.R_drewN | apply Kd.R_drew)); exact (Kd.R_mono (Kd.R_far (p := ⟨gb268, 0, none⟩) (Kd.R_types HO260.out BK268.out (by decide)) (fun _ hk => hk.2) (.slice Ao41 t264.length co41)) (fun _ h_ => h_.1))))) (Kd.R_lt (by (with_reducible repeat (first | apply Kd.R_alloc | apply Kd.R_drewN | apply Kd.R_drew)); exact (Kd.R_mono (Kd.R_far (p := ⟨gb268, 0, none⟩) (Kd.R_types HO266.out BK268.out (by decide)) (fun _ hk => hk.2) (.slice Ao41 t264.length co41)) (fun _ h_ => h_.1))))) (below_size (mH3 HB.out GE254.out GE255.out GE268.out))); replace HO260 := mS (Kd.R_elder' (by (with_reducible repeat (first | apply Kd.R_alloc | apply Kd.R_drewN | apply Kd.R_drew)); exact (Kd.R_mono (Kd.R_far (p := ⟨gb268, 0, none⟩) (Kd.R_types HO260.out BK268.out (by decide)) (fun _ hk => hk.2) (.slice Ao41 t264.length co41)) (fun _ h_ => h_.1))) (Kd.R_base ho0) hb); replace HO266 := mS (Kd.R_elder' (by (with_reducible repeat (first | apply Kd.R_alloc | apply Kd.R_drewN | apply Kd.R_drew)); exact (Kd.R_mono (Kd.R_far (p := ⟨gb268, 0, none⟩) (Kd.R_types HO266.out BK268.out (by decide)) (fun _ hk => hk.2) (.slice Ao41 t264.length co41)) (fun _ h_ => h_.1))) (Kd.R_base ho0) hb); replace BK254 := mS (blk_below (g := gb254) (o := .cells #[.slice A0_0 l0_0.length c0_0] 78 (0, 0)) (by (with_reducible repeat (first | refine blk_drewN ?_ _ | refine blk_drew ?_ | refine blk_alloc ?_ _)); refine blk_far ?_ NB254_268.out _; (with_reducible repeat (first | refine blk_drewN ?_ _ | refine blk_drew ?_ | refine blk_alloc ?_ _)); exact BK254.out) hb); replace BK255 := mS (blk_below (g := gb255) (o := .cells #[.string a1_0, .string a1_1, .bool a1_2] 84 (0, 0)) (by (with_reducible repeat (first | refine blk_drewN ?_ _ | refine blk_drew ?_ | refine blk_alloc ?_ _)); refine blk_far ?_ NB255_268.out _; (with_reducible repeat (first | refine blk_drewN ?_ _ | refine blk_drew ?_ | refine blk_alloc ?_ _)); exact BK255.out) hb); replace BK268 := mS (blk_below (g := gb268) (o := .cells #[.slice Ao41 t264.length co41] 26 (0, 0)) (by (with_reducible repeat (first | refine blk_drewN ?_ _ | refine blk_drew ?_ | refine blk_alloc ?_ _)); refine blk_put (cs := #[.slice none 0 0]) ?_ 0 _ rfl; (with_reducible repeat (first | refine blk_drewN ?_ _ | refine blk_drew ?_ | refine blk_alloc ?_ _)); exact BK268.out) hb); replace HB := mS (below_step (mH3 HB.out GE254.out GE255.out GE268.out) hb); (try clear hb); (try clear hb2); (try clear hk); (try clear hi); (try clear ho0)) | ((with_reducible refine gate_dst (N := 10) rfl ?_); refine box_event ?hg (N := 10) ?hd (cs := #[.slice none 0 0]) (t := 26) ?hr ?_; (case hd => rfl); (case hg => rfl); (case hr => first | (go_simp; done) | (go_simp; rfl)); intro gb272 hg w46 hbox hb; replace HO260 := mS (Kd.R_below (mR HO260.out) hb); replace HO266 := mS (Kd.R_below (mR HO266.out) hb); replace HO271 := mS (Kd.R_below (mR HO271.out) hb); have BK272 := mS (hbox); have GW272 := mG hg (mH3 HB.out GE254.out GE255.out GE268.out); have GE272 := mG hg (mH3 HB.out GE254.out GE255.out GE268.out); replace HB := mS (below_step (mH3 HB.out GE254.out GE255.out GE268.out) hb); have NB254_272 := mNl hg BK254.out; have NB272_254 := mNg hg BK254.out; replace BK254 := mB BK254 hb; have NB255_272 := mNl hg BK255.out; have NB272_255 := mNg hg BK255.out; replace BK255 := mB BK255 hb; have NB268_272 := mNl hg BK268.out; have NB272_268 := mNg hg BK268.out; replace BK268 := mB BK268 hb; clear hb hbox hg; obtain ⟨Ao47, co47, eo47⟩ := Kd.R_slice HO271.out; subst eo47; have hnb48 := NB272_254.out; have hnc48 := NB254_272.out; have hnb49 := NB272_255.out; have hnc49 := NB255_272.out; have hnb50 := NB272_268.out; have hnc50 := NB268_272.out; have hcz51_0 : w46.cell? ⟨gb272, 0, none⟩ = some (.slice none 0 0) := (blk_cell BK272.out 0).trans rfl; have hfz51_0 := blk_frozen BK272.out 0))
   have n0_ : Aside0 (Kd.R k35 35 (w46.setCell ⟨gb272, 0, none⟩ (.slice Ao47 t269.length co47)) w.heap.size (fun k_ => some k_ ≠ (.slice Ao41 t264.length co41 : Value).ownBlock ∧ some k_ ≠ (.slice Ao47 t269.length co47 : Value).ownBlock) v259 t258) := ⟨by (with_reducible repeat (first | apply Kd.R_alloc | apply Kd.R_drewN | apply Kd.R_drew)); exact Kd.R_mono (Kd.R_far (p := ⟨gb272, 0, none⟩) (Kd.R_types HO260.out BK272.out (by decide)) (fun _ hk => hk.2) (.slice Ao47 t269.length co47)) (fun _ hk => ⟨hk.1.1, hk.1.2⟩)⟩
   have n1_ : Aside0 (Kd.R k35 35 (w46.setCell ⟨gb272, 0, none⟩ (.slice Ao47 t269.length co47)) w.heap.size (fun k_ => some k_ ≠ (v259 : Value).ownBlock ∧ some k_ ≠ (.slice Ao47 t269.length co47 : Value).ownBlock) (.slice Ao41 t264.length co41) t264) := ⟨by (with_reducible repeat (first | apply Kd.R_alloc | apply Kd.R_drewN | apply Kd.R_drew)); exact Kd.R_mono (Kd.R_far (p := ⟨gb272, 0, none⟩) (Kd.R_types HO266.out BK272.out (by decide)) (fun _ hk => hk.2) (.slice Ao47 t269.length co47)) (fun _ hk => ⟨hk.1.1, hk.1.2⟩)⟩
   have n2_ : Aside0 (Kd.R k35 35 (w46.setCell ⟨gb272, 0, none⟩ (.slice Ao47 t269.length co47)) w.heap.size (fun k_ => some k_ ≠ (v259 : Value).ownBlock ∧ some k_ ≠ (.slice Ao41 t264.length co41 : Value).ownBlock) (.slice Ao47 t269.length co47) t269) := ⟨by (with_reducible repeat (first | apply Kd.R_alloc | apply Kd.R_drewN | apply Kd.R_drew)); exact Kd.R_mono (Kd.R_far (p := ⟨gb272, 0, none⟩) (Kd.R_types HO271.out BK272.out (by decide)) (fun _ hk => hk.2) (.slice Ao47 t269.length co47)) (fun _ hk => ⟨hk.1.1.2, hk.1.2⟩)⟩
   have n3_ : Aside0 ((w46.setCell ⟨gb272, 0, none⟩ (.slice Ao47 t269.length co47)).heap[gb254]? = some (.cells #[.slice A0_0 l0_0.length c0_0] 78 (0, 0))) := ⟨by (with_reducible repeat (first | refine blk_drewN ?_ _ | refine blk_drew ?_ | refine blk_alloc ?_ _)); refine blk_far ?_ NB254_272.out _; (with_reducible repeat (first | refine blk_drewN ?_ _ | refine blk_drew ?_ | refine blk_alloc ?_ _)); exact BK254.out⟩
   have n4_ : Aside0 ((w46.setCell ⟨gb272, 0, none⟩ (.slice Ao47 t269.length co47)).heap[gb255]? = some (.cells #[.string a1_0, .string a1_1, .bool a1_2] 84 (0, 0))) := ⟨by (with_reducible repeat (first | refine blk_drewN ?_ _ | refine blk_drew ?_ | refine blk_alloc ?_ _)); refine blk_far ?_ NB255_272.out _; (with_reducible repeat (first | refine blk_drewN ?_ _ | refine blk_drew ?_ | refine blk_alloc ?_ _)); exact BK255.out⟩
   have n5_ : Aside0 ((w46.setCell ⟨gb272, 0, none⟩ (.slice Ao47 t269.length co47)).heap[gb268]? = some (.cells #[.slice Ao41 t264.length co41] 26 (0, 0))) := ⟨by (with_reducible repeat (first | refine blk_drewN ?_ _ | refine blk_drew ?_ | refine blk_alloc ?_ _)); refine blk_far ?_ NB268_272.out _; (with_reducible repeat (first | refine blk_drewN ?_ _ | refine blk_drew ?_ | refine blk_alloc ?_ _)); exact BK268.out⟩
   have n6_ : Aside0 ((w46.setCell ⟨gb272, 0, none⟩ (.slice Ao47 t269.length co47)).heap[gb272]? = some (.cells #[.slice Ao47 t269.length co47] 26 (0, 0))) := ⟨by (with_reducible repeat (first | refine blk_drewN ?_ _ | refine blk_drew ?_ | refine blk_alloc ?_ _)); refine blk_put (cs := #[.slice none 0 0]) ?_ 0 _ rfl; (with_reducible repeat (first | refine blk_drewN ?_ _ | refine blk_drew ?_ | refine blk_alloc ?_ _)); exact BK272.out⟩
   have n7_ : Aside0 (Below w.heap.size w (w46.setCell ⟨gb272, 0, none⟩ (.slice Ao47 t269.length co47))) := ⟨(mH4 HB.out GE254.out GE255.out GE268.out GE272.out)⟩
   (try clear HO260)
   (try clear HO266)
   (try clear HO271)
   (try clear BK254)
   (try clear BK255)
   (try clear BK268)
   (try clear BK272)
   (try clear HB)
   generalize (w46.setCell ⟨gb272, 0, none⟩ (.slice Ao47 t269.length co47)) = w52 at n0_ n1_ n2_ n3_ n4_ n5_ n6_ n7_ ⊢
   have HO260 := n0_
   have HO266 := n1_
   have HO271 := n2_
   have BK254 := n3_
   have BK255 := n4_
   have BK268 := n5_
   have BK272 := n6_
   have HB := n7_
   clear n0_ n1_ n2_ n3_ n4_ n5_ n6_ n7_
   have n0_ := mS (Kd.R_drew HO260.out)
   have n1_ := mS (Kd.R_drew HO266.out)
   have n2_ := mS (Kd.R_drew HO271.out)
   have n3_ := mS (blk_drew BK254.out)
   have n4_ := mS (blk_drew BK255.out)
   have n5_ := mS (blk_drew BK268.out)
   have n6_ := mS (blk_drew BK272.out)
   have n7_ := mS (below_drew1 HB.out)
   clear HO260
   clear HO266
   clear HO271
   clear BK254
   clear BK255
   clear BK268
   clear BK272
   clear HB
   have HO260 := n0_
   have HO266 := n1_
   have HO271 := n2_
   have BK254 := n3_
   have BK255 := n4_
   have BK268 := n5_
   have BK272 := n6_
   have HB := n7_
   clear n0_ n1_ n2_ n3_ n4_ n5_ n6_ n7_
   refine start_ (n := 11) (S := fun w' => w'.cell? ⟨gb272, 0, none⟩ = some (.slice Ao47 t269.length co47) ∧ w'.cell? ⟨gb255, 0, none⟩ = some (.string a1_0) ∧ w'.cell? ⟨gb255, 1, none⟩ = some (.string a1_1) ∧ w'.cell? ⟨gb255, 2, none⟩ = some (.bool a1_2)) (ds := []) #[false, false, false, false, false, false, false, false, false, false, false] (by kernel_rfl) rfl rfl ⟨(blk_cell BK272.out 0).trans rfl, (blk_cell BK255.out 0).trans rfl, (blk_cell BK255.out 1).trans rfl, (blk_cell BK255.out 2).trans rfl⟩ (fun hHeld => ?_); refine with_tabW laws_FnExactMemPut.tab10 laws_FnExactMemPut.bits10 (fun HT_ HW_ => ?_)
   generalize w52.drew = w53 at HO260 HO266 HO271 BK254 BK255 BK268 BK272 HB hHeld ⊢
   refine pure_ (i := 3) (N := some 43) (v := ?_) (a' := ?_) #[false, false, false, true, false, false, false, false, false, false, false] rfl rfl (any_of HT_.out (by kernel_rfl)) (fun _ _ _ h => h) (Or.inl ⟨by rfl, ?_⟩) ?_ ?_
   rotate_left
   ·intro w'
    go_simp
    with_reducible rfl
   rotate_left
   ·simp only [Act.put, zA, zB, zC, i64_w, i32_w]
    rfl
   refine take_ (i := 0) (N := some 40) (v := ?_) (a' := ?_) #[true, false, false, true, false, false, false, false, false, false, false] rfl rfl (take_ofW HT_.out HW_.out (by kernel_rfl)) (fun _ _ _ h => h) (Or.inl ⟨by rfl, ?_⟩) hHeld ?_ ?_
   rotate_left
   ·rintro w' ⟨s0, s1, s2, s3⟩
    go_simp
    with_reducible rfl
   rotate_left
   ·simp only [Act.put, zA, zB, zC, i64_w, i32_w]
    rfl
   refine take_ (i := 1) (N := some 41) (v := ?_) (a' := ?_) #[true, true, false, true, false, false, false, false, false, false, false] rfl rfl (take_ofW HT_.out HW_.out (by kernel_rfl)) (fun _ _ _ h => h) (Or.inl ⟨by rfl, ?_⟩) hHeld ?_ ?_
   rotate_left
   ·rintro w' ⟨s0, s1, s2, s3⟩
    go_simp
    with_reducible rfl
   rotate_left
   ·simp only [Act.put, zA, zB, zC, i64_w, i32_w]
    rfl
   refine join_ (σ := Value × Nat) 2 #[true, true, true, true, true, true, true, true, true, false, false] (fun s_ => [(42, .agg #[.string t273, .string t274, .bool t275]), (44, .tuple #[.agg #[s_.1], .bool t279]), (11, .pointer (some ⟨s_.2, 0, none⟩)), (39, .tuple #[.agg #[s_.1], .bool t279]), (45, .agg #[s_.1]), (46, .bool t279)]) (fun s_ w' => (w'.cell? ⟨gb272, 0, none⟩ = some (.slice Ao47 t269.length co47) ∧ w'.cell? ⟨gb255, 0, none⟩ = some (.string a1_0) ∧ w'.cell? ⟨gb255, 1, none⟩ = some (.string a1_1) ∧ w'.cell? ⟨gb255, 2, none⟩ = some (.bool a1_2)) ∧ (Kd.R k35 35 w' w.heap.size (fun k_ => some k_ ≠ (.slice Ao41 t264.length co41 : Value).ownBlock ∧ some k_ ≠ (.slice Ao47 t269.length co47 : Value).ownBlock ∧ some k_ ≠ (s_.1 : Value).ownBlock) v259 t258) ∧ (Kd.R k35 35 w' w.heap.size (fun k_ => some k_ ≠ (v259 : Value).ownBlock ∧ some k_ ≠ (.slice Ao47 t269.length co47 : Value).ownBlock ∧ some k_ ≠ (s_.1 : Value).ownBlock) (.slice Ao41 t264.length co41) t264) ∧ (Kd.R k35 35 w' w.heap.size (fun k_ => some k_ ≠ (v259 : Value).ownBlock ∧ some k_ ≠ (.slice Ao41 t264.length co41 : Value).ownBlock ∧ some k_ ≠ (s_.1 : Value).ownBlock) (.slice Ao47 t269.length co47) t269) ∧ (Kd.R k35 35 w' w.heap.size (fun k_ => some k_ ≠ (v259 : Value).ownBlock ∧ some k_ ≠ (.slice Ao41 t264.length co41 : Value).ownBlock ∧ some k_ ≠ (.slice Ao47 t269.length co47 : Value).ownBlock) s_.1 t276) ∧ (w'.heap[gb254]? = some (.cells #[.slice A0_0 l0_0.length c0_0] 78 (0, 0))) ∧ (w'.heap[gb255]? = some (.cells #[.string a1_0, .string a1_1, .bool a1_2] 84 (0, 0))) ∧ (w'.heap[gb268]? = some (.cells #[.slice Ao41 t264.length co41] 26 (0, 0))) ∧ (w'.heap[gb272]? = some (.cells #[.slice Ao47 t269.length co47] 26 (0, 0))) ∧ (w'.heap[s_.2]? = some (.cells #[.slice none 0 0] 26 (0, 0))) ∧ (w.heap.size ≤ s_.2) ∧ (w.heap.size ≤ s_.2) ∧ (gb254 ≠ s_.2) ∧ (s_.2 ≠ gb254) ∧ (gb255 ≠ s_.2) ∧ (s_.2 ≠ gb255) ∧ (gb268 ≠ s_.2) ∧ (s_.2 ≠ gb268) ∧ (gb272 ≠ s_.2) ∧ (s_.2 ≠ gb272) ∧ (Below w.heap.size w w')) ?_ ?_
   rotate_left
   ·intro hCont
    refine two_ (i := 2) (j := 8) (Ni := some 42) (Nj := some 11) #[true, true, true, true, false, false, false, false, false, false, false] #[true, true, false, true, false, false, false, false, true, false, false] rfl rfl rfl rfl (two_of HT_.out (by kernel_rfl)) (by decide) (by decide) (fun K hK => ?_) (fun K hK => ?_)
    ·skip
     refine goes_ Try.func52 (by kernel_rfl) rfl #[.agg #[.string a1_0, .string a1_1, .bool a1_2]] (by rfl) rfl rfl mA ?_
     with_reducible refine (laws_toPair.calls a1_0 a1_1 a1_2 t273 t274 t275 _ A24.out).mono ?_
     rintro e w54 ⟨rfl, hb⟩
     refine ⟨_, rfl, ?_⟩
     have n0_ := mS (Kd.R_below (mR HO260.out) hb)
     have n1_ := mS (Kd.R_below (mR HO266.out) hb)
     have n2_ := mS (Kd.R_below (mR HO271.out) hb)
     have n3_ := mB BK254 hb
     have n4_ := mB BK255 hb
     have n5_ := mB BK268 hb
     have n6_ := mB BK272 hb
     have n7_ := mS (below_step (mH4 HB.out GE254.out GE255.out GE268.out GE272.out) hb)
     clear HO260
     clear HO266
     clear HO271
     clear BK254
     clear BK255
     clear BK268
     clear BK272
     clear HB
     have HO260 := n0_
     have HO266 := n1_
     have HO271 := n2_
     have BK254 := n3_
     have BK255 := n4_
     have BK268 := n5_
     have BK272 := n6_
     have HB := n7_
     clear n0_ n1_ n2_ n3_ n4_ n5_ n6_ n7_
     (try clear hb)
     (try clear hb2)
     (try clear hk)
     (try clear hi)
     refine hK.out _ _ ⟨(blk_cell BK272.out 0).trans rfl, (blk_cell BK255.out 0).trans rfl, (blk_cell BK255.out 1).trans rfl, (blk_cell BK255.out 2).trans rfl⟩ (fun hHeld => ?_)
     clear hK K
     refine norm_ (a' := ?_) ?_ ?_
     rotate_left
     ·show Act.put _ (some 42) _ = _
      simp only [Act.put, zA, zB, zC, i64_w, i32_w]
      rfl
     refine two_ (i := 4) (j := 8) (Ni := some 44) (Nj := some 11) #[true, true, true, true, true, false, false, false, false, false, false] #[true, true, true, true, false, false, false, false, true, false, false] rfl rfl rfl rfl (two_of HT_.out (by kernel_rfl)) (by decide) (by decide) (fun K hK => ?_) (fun K hK => ?_)
     ·skip
      refine goes_ Try.func20 (by kernel_rfl) rfl #[.agg #[.slice Ao47 t269.length co47], .agg #[.string t273, .string t274, .bool t275], .int .i64 a2] (by rfl) rfl rfl mA ?_
      with_reducible refine (impl_MemPut.calls k _ _ t269 t273 t274 t275 a2 t276 t279 _ ?side1 ?side2 A25.out).mono ?_
      (case side1 => repeat (first | exact (Kd.R_reads' HO271.out).2.2 | (with_reducible refine Kd.C_alloc ?_ _) | (with_reducible refine Kd.C_drewN ?_ _) | (with_reducible refine Kd.C_drew ?_)))
      (case side2 => exact (Kd.R_reads' HO271.out).2.1)
      rintro e w55 ⟨v277, rfl, ho0, hb⟩
      refine ⟨_, rfl, ?_⟩
      have n0_ := mS (Kd.R_elder' (mR HO260.out) (Kd.R_base ho0) hb)
      have n1_ := mS (Kd.R_elder' (mR HO266.out) (Kd.R_base ho0) hb)
      have n2_ := mS (Kd.R_elder' (mR HO271.out) (Kd.R_base ho0) hb)
      have n3_ := mS (Kd.R_lower (Kd.R_new' (Kd.R_new' (Kd.R_new' ho0 (Kd.R_lt (mR HO260.out))) (Kd.R_lt (mR HO266.out))) (Kd.R_lt (mR HO271.out))) (below_size (mH4 HB.out GE254.out GE255.out GE268.out GE272.out)))
      have n4_ := mB BK254 hb
      have n5_ := mB BK255 hb
      have n6_ := mB BK268 hb
      have n7_ := mB BK272 hb
      have n8_ := mS (below_step (mH4 HB.out GE254.out GE255.out GE268.out GE272.out) hb)
      clear HO260
      clear HO266
      clear HO271
      clear BK254
      clear BK255
      clear BK268
      clear BK272
      clear HB
      have HO260 := n0_
      have HO266 := n1_
      have HO271 := n2_
      have HO278 := n3_
      have BK254 := n4_
      have BK255 := n5_
      have BK268 := n6_
      have BK272 := n7_
      have HB := n8_
      clear n0_ n1_ n2_ n3_ n4_ n5_ n6_ n7_ n8_
      (try clear hb)
      (try clear hb2)
      (try clear hk)
      (try clear hi)
      (try clear ho0)
      refine hK.out _ _ ⟨(blk_cell BK272.out 0).trans rfl, (blk_cell BK255.out 0).trans rfl, (blk_cell BK255.out 1).trans rfl, (blk_cell BK255.out 2).trans rfl⟩ (fun hHeld => ?_)
      clear hK K
      refine norm_ (a' := ?_) ?_ ?_
      rotate_left
      ·show Act.put _ (some 44) _ = _
       simp only [Act.put, zA, zB, zC, i64_w, i32_w]
       rfl
      refine pure_ (i := 5) (N := some 39) (v := ?_) (a' := ?_) #[true, true, true, true, true, true, false, false, false, false, false] rfl rfl (any_of HT_.out (by kernel_rfl)) (fun _ _ _ h => h) (Or.inl ⟨by rfl, ?_⟩) ?_ ?_
      rotate_left
      ·intro w'
       go_simp
       with_reducible rfl
      rotate_left
      ·simp only [Act.put, zA, zB, zC, i64_w, i32_w]
       rfl
      refine pure_ (i := 6) (N := some 45) (v := ?_) (a' := ?_) #[true, true, true, true, true, true, true, false, false, false, false] rfl rfl (any_of HT_.out (by kernel_rfl)) (fun _ _ _ h => h) (Or.inl ⟨by rfl, ?_⟩) ?_ ?_
      rotate_left
      ·intro w'
       go_simp
       with_reducible rfl
      rotate_left
      ·simp only [Act.put, zA, zB, zC, i64_w, i32_w]
       rfl
      refine pure_ (i := 7) (N := some 46) (v := ?_) (a' := ?_) #[true, true, true, true, true, true, true, true, false, false, false] rfl rfl (any_of HT_.out (by kernel_rfl)) (fun _ _ _ h => h) (Or.inl ⟨by rfl, ?_⟩) ?_ ?_
      rotate_left
      ·intro w'
       go_simp
       with_reducible rfl
      rotate_left
      ·simp only [Act.put, zA, zB, zC, i64_w, i32_w]
       rfl
      refine one_ (i := 8) (N := some 11) #[true, true, true, true, true, true, true, true, true, false, false] rfl rfl (one_of HT_.out (by kernel_rfl)) (by decide) (fun K hK => ?_)
      refine box_step ?hg (N := 11) ?hd (cs := #[.slice none 0 0]) (t := 26) ?hr ?_; (case hd => rfl); (case hg => rfl); (case hr => first | (go_simp; done) | (go_simp; rfl))
      intro gb280 hg w56 hbox hb
      have n0_ := mS (Kd.R_below (mR HO260.out) hb)
      have n1_ := mS (Kd.R_below (mR HO266.out) hb)
      have n2_ := mS (Kd.R_below (mR HO271.out) hb)
      have n3_ := mS (Kd.R_below (mR HO278.out) hb)
      have n4_ := mB BK254 hb
      have n5_ := mB BK255 hb
      have n6_ := mB BK268 hb
      have n7_ := mB BK272 hb
      have n8_ := mS (below_step (mH4 HB.out GE254.out GE255.out GE268.out GE272.out) hb)
      have n9_ := mS (hbox)
      have n10_ := mG hg (mH4 HB.out GE254.out GE255.out GE268.out GE272.out)
      have n11_ := mG hg (mH4 HB.out GE254.out GE255.out GE268.out GE272.out)
      have n12_ := mNl hg BK254.out
      have n13_ := mNg hg BK254.out
      have n14_ := mNl hg BK255.out
      have n15_ := mNg hg BK255.out
      have n16_ := mNl hg BK268.out
      have n17_ := mNg hg BK268.out
      have n18_ := mNl hg BK272.out
      have n19_ := mNg hg BK272.out
      clear HO260
      clear HO266
      clear HO271
      clear HO278
      clear BK254
      clear BK255
      clear BK268
      clear BK272
      clear HB
      have HO260 := n0_
      have HO266 := n1_
      have HO271 := n2_
      have HO278 := n3_
      have BK254 := n4_
      have BK255 := n5_
      have BK268 := n6_
      have BK272 := n7_
      have HB := n8_
      have BK280 := n9_
      have GW280 := n10_
      have GE280 := n11_
      have NB254_280 := n12_
      have NB280_254 := n13_
      have NB255_280 := n14_
      have NB280_255 := n15_
      have NB268_280 := n16_
      have NB280_268 := n17_
      have NB272_280 := n18_
      have NB280_272 := n19_
      clear n0_ n1_ n2_ n3_ n4_ n5_ n6_ n7_ n8_ n9_ n10_ n11_ n12_ n13_ n14_ n15_ n16_ n17_ n18_ n19_
      clear hb hbox hg
      refine hK.out _ _ ⟨(blk_cell BK272.out 0).trans rfl, (blk_cell BK255.out 0).trans rfl, (blk_cell BK255.out 1).trans rfl, (blk_cell BK255.out 2).trans rfl⟩ (fun hHeld => ?_)
      clear hK K
      refine norm_ (a' := ?_) ?_ ?_
      rotate_left
      ·show Act.put _ (some 11) _ = _
       simp only [Act.put, zA, zB, zC, i64_w, i32_w]
       rfl
      exact norm_ mU (hCont (v277, gb280) _ ⟨hHeld, (by (with_reducible repeat (first | apply Kd.R_alloc | apply Kd.R_drewN | apply Kd.R_drew)); exact Kd.R_mono HO260.out (fun _ hk => ⟨hk.1.1, ⟨hk.1.2, hk.2⟩⟩)), (by (with_reducible repeat (first | apply Kd.R_alloc | apply Kd.R_drewN | apply Kd.R_drew)); exact Kd.R_mono HO266.out (fun _ hk => ⟨hk.1.1, ⟨hk.1.2, hk.2⟩⟩)), (by (with_reducible repeat (first | apply Kd.R_alloc | apply Kd.R_drewN | apply Kd.R_drew)); exact Kd.R_mono HO271.out (fun _ hk => ⟨hk.1.1, ⟨hk.1.2, hk.2⟩⟩)), (by (with_reducible repeat (first | apply Kd.R_alloc | apply Kd.R_drewN | apply Kd.R_drew)); exact Kd.R_mono HO278.out (fun _ hk => ⟨hk.1.1.2, ⟨hk.1.2, hk.2⟩⟩)), (mK BK254.out), (mK BK255.out), (mK BK268.out), (mK BK272.out), (mK BK280.out), GW280.out, GE280.out, NB254_280.out, NB280_254.out, NB255_280.out, NB280_255.out, NB268_280.out, NB280_268.out, NB272_280.out, NB280_272.out, (mH5 HB.out GE254.out GE255.out GE268.out GE272.out GE280.out)⟩)
     ·skip
      refine box_step ?hg (N := 11) ?hd (cs := #[.slice none 0 0]) (t := 26) ?hr ?_; (case hd => rfl); (case hg => rfl); (case hr => first | (go_simp; done) | (go_simp; rfl))
      intro gb280 hg w55 hbox hb
      have n0_ := mS (Kd.R_below (mR HO260.out) hb)
      have n1_ := mS (Kd.R_below (mR HO266.out) hb)
      have n2_ := mS (Kd.R_below (mR HO271.out) hb)
      have n3_ := mB BK254 hb
      have n4_ := mB BK255 hb
      have n5_ := mB BK268 hb
      have n6_ := mB BK272 hb
      have n7_ := mS (below_step (mH4 HB.out GE254.out GE255.out GE268.out GE272.out) hb)
      have n8_ := mS (hbox)
      have n9_ := mG hg (mH4 HB.out GE254.out GE255.out GE268.out GE272.out)
      have n10_ := mG hg (mH4 HB.out GE254.out GE255.out GE268.out GE272.out)
      have n11_ := mNl hg BK254.out
      have n12_ := mNg hg BK254.out
      have n13_ := mNl hg BK255.out
      have n14_ := mNg hg BK255.out
      have n15_ := mNl hg BK268.out
      have n16_ := mNg hg BK268.out
      have n17_ := mNl hg BK272.out
      have n18_ := mNg hg BK272.out
      clear HO260
      clear HO266
      clear HO271
      clear BK254
      clear BK255
      clear BK268
      clear BK272
      clear HB
      have HO260 := n0_
      have HO266 := n1_
      have HO271 := n2_
      have BK254 := n3_
      have BK255 := n4_
      have BK268 := n5_
      have BK272 := n6_
      have HB := n7_
      have BK280 := n8_
      have GW280 := n9_
      have GE280 := n10_
      have NB254_280 := n11_
      have NB280_254 := n12_
      have NB255_280 := n13_
      have NB280_255 := n14_
      have NB268_280 := n15_
      have NB280_268 := n16_
      have NB272_280 := n17_
      have NB280_272 := n18_
      clear n0_ n1_ n2_ n3_ n4_ n5_ n6_ n7_ n8_ n9_ n10_ n11_ n12_ n13_ n14_ n15_ n16_ n17_ n18_
      clear hb hbox hg
      refine hK.out _ _ ⟨(blk_cell BK272.out 0).trans rfl, (blk_cell BK255.out 0).trans rfl, (blk_cell BK255.out 1).trans rfl, (blk_cell BK255.out 2).trans rfl⟩ (fun hHeld => ?_)
      clear hK K
      refine norm_ (a' := ?_) ?_ ?_
      rotate_left
      ·show Act.put _ (some 11) _ = _
       simp only [Act.put, zA, zB, zC, i64_w, i32_w]
       rfl
      refine one_ (i := 4) (N := some 44) #[true, true, true, true, true, false, false, false, true, false, false] rfl rfl (one_of HT_.out (by kernel_rfl)) (by decide) (fun K hK => ?_)
      refine goes_ Try.func20 (by kernel_rfl) rfl #[.agg #[.slice Ao47 t269.length co47], .agg #[.string t273, .string t274, .bool t275], .int .i64 a2] (by rfl) rfl rfl mA ?_
      with_reducible refine (impl_MemPut.calls k _ _ t269 t273 t274 t275 a2 t276 t279 _ ?side1 ?side2 A25.out).mono ?_
      (case side1 => repeat (first | exact (Kd.R_reads' HO271.out).2.2 | (with_reducible refine Kd.C_alloc ?_ _) | (with_reducible refine Kd.C_drewN ?_ _) | (with_reducible refine Kd.C_drew ?_)))
      (case side2 => exact (Kd.R_reads' HO271.out).2.1)
      rintro e w56 ⟨v277, rfl, ho0, hb⟩
      refine ⟨_, rfl, ?_⟩
      have n0_ := mS (Kd.R_elder' (mR HO260.out) (Kd.R_base ho0) hb)
      have n1_ := mS (Kd.R_elder' (mR HO266.out) (Kd.R_base ho0) hb)
      have n2_ := mS (Kd.R_elder' (mR HO271.out) (Kd.R_base ho0) hb)
      have n3_ := mS (Kd.R_lower (Kd.R_new' (Kd.R_new' (Kd.R_new' ho0 (Kd.R_lt (mR HO260.out))) (Kd.R_lt (mR HO266.out))) (Kd.R_lt (mR HO271.out))) (below_size (mH5 HB.out GE254.out GE255.out GE268.out GE272.out GE280.out)))
      have n4_ := mB BK254 hb
      have n5_ := mB BK255 hb
      have n6_ := mB BK268 hb
      have n7_ := mB BK272 hb
      have n8_ := mB BK280 hb
      have n9_ := mS (below_step (mH5 HB.out GE254.out GE255.out GE268.out GE272.out GE280.out) hb)
      clear HO260
      clear HO266
      clear HO271
      clear BK254
      clear BK255
      clear BK268
      clear BK272
      clear BK280
      clear HB
      have HO260 := n0_
      have HO266 := n1_
      have HO271 := n2_
      have HO278 := n3_
      have BK254 := n4_
      have BK255 := n5_
      have BK268 := n6_
      have BK272 := n7_
      have BK280 := n8_
      have HB := n9_
      clear n0_ n1_ n2_ n3_ n4_ n5_ n6_ n7_ n8_ n9_
      (try clear hb)
      (try clear hb2)
      (try clear hk)
      (try clear hi)
      (try clear ho0)
      refine hK.out _ _ ⟨(blk_cell BK272.out 0).trans rfl, (blk_cell BK255.out 0).trans rfl, (blk_cell BK255.out 1).trans rfl, (blk_cell BK255.out 2).trans rfl⟩ (fun hHeld => ?_)
      clear hK K
      refine norm_ (a' := ?_) ?_ ?_
      rotate_left
      ·show Act.put _ (some 44) _ = _
       simp only [Act.put, zA, zB, zC, i64_w, i32_w]
       rfl
      refine pure_ (i := 5) (N := some 39) (v := ?_) (a' := ?_) #[true, true, true, true, true, true, false, false, true, false, false] rfl rfl (any_of HT_.out (by kernel_rfl)) (fun _ _ _ h => h) (Or.inl ⟨by rfl, ?_⟩) ?_ ?_
      rotate_left
      ·intro w'
       go_simp
       with_reducible rfl
      rotate_left
      ·simp only [Act.put, zA, zB, zC, i64_w, i32_w]
       rfl
      refine pure_ (i := 6) (N := some 45) (v := ?_) (a' := ?_) #[true, true, true, true, true, true, true, false, true, false, false] rfl rfl (any_of HT_.out (by kernel_rfl)) (fun _ _ _ h => h) (Or.inl ⟨by rfl, ?_⟩) ?_ ?_
      rotate_left
      ·intro w'
       go_simp
       with_reducible rfl
      rotate_left
      ·simp only [Act.put, zA, zB, zC, i64_w, i32_w]
       rfl
      refine pure_ (i := 7) (N := some 46) (v := ?_) (a' := ?_) #[true, true, true, true, true, true, true, true, true, false, false] rfl rfl (any_of HT_.out (by kernel_rfl)) (fun _ _ _ h => h) (Or.inl ⟨by rfl, ?_⟩) ?_ ?_
      rotate_left
      ·intro w'
       go_simp
       with_reducible rfl
      rotate_left
      ·simp only [Act.put, zA, zB, zC, i64_w, i32_w]
       rfl
      exact norm_ mU (hCont (v277, gb280) _ ⟨hHeld, (by (with_reducible repeat (first | apply Kd.R_alloc | apply Kd.R_drewN | apply Kd.R_drew)); exact Kd.R_mono HO260.out (fun _ hk => ⟨hk.1.1, ⟨hk.1.2, hk.2⟩⟩)), (by (with_reducible repeat (first | apply Kd.R_alloc | apply Kd.R_drewN | apply Kd.R_drew)); exact Kd.R_mono HO266.out (fun _ hk => ⟨hk.1.1, ⟨hk.1.2, hk.2⟩⟩)), (by (with_reducible repeat (first | apply Kd.R_alloc | apply Kd.R_drewN | apply Kd.R_drew)); exact Kd.R_mono HO271.out (fun _ hk => ⟨hk.1.1, ⟨hk.1.2, hk.2⟩⟩)), (by (with_reducible repeat (first | apply Kd.R_alloc | apply Kd.R_drewN | apply Kd.R_drew)); exact Kd.R_mono HO278.out (fun _ hk => ⟨hk.1.1.2, ⟨hk.1.2, hk.2⟩⟩)), (mK BK254.out), (mK BK255.out), (mK BK268.out), (mK BK272.out), (mK BK280.out), GW280.out, GE280.out, NB254_280.out, NB280_254.out, NB255_280.out, NB280_255.out, NB268_280.out, NB280_268.out, NB272_280.out, NB280_272.out, (mH5 HB.out GE254.out GE255.out GE268.out GE272.out GE280.out)⟩)
    ·skip
     refine box_step ?hg (N := 11) ?hd (cs := #[.slice none 0 0]) (t := 26) ?hr ?_; (case hd => rfl); (case hg => rfl); (case hr => first | (go_simp; done) | (go_simp; rfl))
     intro gb280 hg w54 hbox hb
     have n0_ := mS (Kd.R_below (mR HO260.out) hb)
     have n1_ := mS (Kd.R_below (mR HO266.out) hb)
     have n2_ := mS (Kd.R_below (mR HO271.out) hb)
     have n3_ := mB BK254 hb
     have n4_ := mB BK255 hb
     have n5_ := mB BK268 hb
     have n6_ := mB BK272 hb
     have n7_ := mS (below_step (mH4 HB.out GE254.out GE255.out GE268.out GE272.out) hb)
     have n8_ := mS (hbox)
     have n9_ := mG hg (mH4 HB.out GE254.out GE255.out GE268.out GE272.out)
     have n10_ := mG hg (mH4 HB.out GE254.out GE255.out GE268.out GE272.out)
     have n11_ := mNl hg BK254.out
     have n12_ := mNg hg BK254.out
     have n13_ := mNl hg BK255.out
     have n14_ := mNg hg BK255.out
     have n15_ := mNl hg BK268.out
     have n16_ := mNg hg BK268.out
     have n17_ := mNl hg BK272.out
     have n18_ := mNg hg BK272.out
     clear HO260
     clear HO266
     clear HO271
     clear BK254
     clear BK255
     clear BK268
     clear BK272
     clear HB
     have HO260 := n0_
     have HO266 := n1_
     have HO271 := n2_
     have BK254 := n3_
     have BK255 := n4_
     have BK268 := n5_
     have BK272 := n6_
     have HB := n7_
     have BK280 := n8_
     have GW280 := n9_
     have GE280 := n10_
     have NB254_280 := n11_
     have NB280_254 := n12_
     have NB255_280 := n13_
     have NB280_255 := n14_
     have NB268_280 := n15_
     have NB280_268 := n16_
     have NB272_280 := n17_
     have NB280_272 := n18_
     clear n0_ n1_ n2_ n3_ n4_ n5_ n6_ n7_ n8_ n9_ n10_ n11_ n12_ n13_ n14_ n15_ n16_ n17_ n18_
     clear hb hbox hg
     refine hK.out _ _ ⟨(blk_cell BK272.out 0).trans rfl, (blk_cell BK255.out 0).trans rfl, (blk_cell BK255.out 1).trans rfl, (blk_cell BK255.out 2).trans rfl⟩ (fun hHeld => ?_)
     clear hK K
     refine norm_ (a' := ?_) ?_ ?_
     rotate_left
     ·show Act.put _ (some 11) _ = _
      simp only [Act.put, zA, zB, zC, i64_w, i32_w]
      rfl
     refine one_ (i := 2) (N := some 42) #[true, true, true, true, false, false, false, false, true, false, false] rfl rfl (one_of HT_.out (by kernel_rfl)) (by decide) (fun K hK => ?_)
     refine goes_ Try.func52 (by kernel_rfl) rfl #[.agg #[.string a1_0, .string a1_1, .bool a1_2]] (by rfl) rfl rfl mA ?_
     with_reducible refine (laws_toPair.calls a1_0 a1_1 a1_2 t273 t274 t275 _ A24.out).mono ?_
     rintro e w55 ⟨rfl, hb⟩
     refine ⟨_, rfl, ?_⟩
     have n0_ := mS (Kd.R_below (mR HO260.out) hb)
     have n1_ := mS (Kd.R_below (mR HO266.out) hb)
     have n2_ := mS (Kd.R_below (mR HO271.out) hb)
     have n3_ := mB BK254 hb
     have n4_ := mB BK255 hb
     have n5_ := mB BK268 hb
     have n6_ := mB BK272 hb
     have n7_ := mB BK280 hb
     have n8_ := mS (below_step (mH5 HB.out GE254.out GE255.out GE268.out GE272.out GE280.out) hb)
     clear HO260
     clear HO266
     clear HO271
     clear BK254
     clear BK255
     clear BK268
     clear BK272
     clear BK280
     clear HB
     have HO260 := n0_
     have HO266 := n1_
     have HO271 := n2_
     have BK254 := n3_
     have BK255 := n4_
     have BK268 := n5_
     have BK272 := n6_
     have BK280 := n7_
     have HB := n8_
     clear n0_ n1_ n2_ n3_ n4_ n5_ n6_ n7_ n8_
     (try clear hb)
     (try clear hb2)
     (try clear hk)
     (try clear hi)
     refine hK.out _ _ ⟨(blk_cell BK272.out 0).trans rfl, (blk_cell BK255.out 0).trans rfl, (blk_cell BK255.out 1).trans rfl, (blk_cell BK255.out 2).trans rfl⟩ (fun hHeld => ?_)
     clear hK K
     refine norm_ (a' := ?_) ?_ ?_
     rotate_left
     ·show Act.put _ (some 42) _ = _
      simp only [Act.put, zA, zB, zC, i64_w, i32_w]
      rfl
     refine one_ (i := 4) (N := some 44) #[true, true, true, true, true, false, false, false, true, false, false] rfl rfl (one_of HT_.out (by kernel_rfl)) (by decide) (fun K hK => ?_)
     refine goes_ Try.func20 (by kernel_rfl) rfl #[.agg #[.slice Ao47 t269.length co47], .agg #[.string t273, .string t274, .bool t275], .int .i64 a2] (by rfl) rfl rfl mA ?_
     with_reducible refine (impl_MemPut.calls k _ _ t269 t273 t274 t275 a2 t276 t279 _ ?side1 ?side2 A25.out).mono ?_
     (case side1 => repeat (first | exact (Kd.R_reads' HO271.out).2.2 | (with_reducible refine Kd.C_alloc ?_ _) | (with_reducible refine Kd.C_drewN ?_ _) | (with_reducible refine Kd.C_drew ?_)))
     (case side2 => exact (Kd.R_reads' HO271.out).2.1)
     rintro e w56 ⟨v277, rfl, ho0, hb⟩
     refine ⟨_, rfl, ?_⟩
     have n0_ := mS (Kd.R_elder' (mR HO260.out) (Kd.R_base ho0) hb)
     have n1_ := mS (Kd.R_elder' (mR HO266.out) (Kd.R_base ho0) hb)
     have n2_ := mS (Kd.R_elder' (mR HO271.out) (Kd.R_base ho0) hb)
     have n3_ := mS (Kd.R_lower (Kd.R_new' (Kd.R_new' (Kd.R_new' ho0 (Kd.R_lt (mR HO260.out))) (Kd.R_lt (mR HO266.out))) (Kd.R_lt (mR HO271.out))) (below_size (mH5 HB.out GE254.out GE255.out GE268.out GE272.out GE280.out)))
     have n4_ := mB BK254 hb
     have n5_ := mB BK255 hb
     have n6_ := mB BK268 hb
     have n7_ := mB BK272 hb
     have n8_ := mB BK280 hb
     have n9_ := mS (below_step (mH5 HB.out GE254.out GE255.out GE268.out GE272.out GE280.out) hb)
     clear HO260
     clear HO266
     clear HO271
     clear BK254
     clear BK255
     clear BK268
     clear BK272
     clear BK280
     clear HB
     have HO260 := n0_
     have HO266 := n1_
     have HO271 := n2_
     have HO278 := n3_
     have BK254 := n4_
     have BK255 := n5_
     have BK268 := n6_
     have BK272 := n7_
     have BK280 := n8_
     have HB := n9_
     clear n0_ n1_ n2_ n3_ n4_ n5_ n6_ n7_ n8_ n9_
     (try clear hb)
     (try clear hb2)
     (try clear hk)
     (try clear hi)
     (try clear ho0)
     refine hK.out _ _ ⟨(blk_cell BK272.out 0).trans rfl, (blk_cell BK255.out 0).trans rfl, (blk_cell BK255.out 1).trans rfl, (blk_cell BK255.out 2).trans rfl⟩ (fun hHeld => ?_)
     clear hK K
     refine norm_ (a' := ?_) ?_ ?_
     rotate_left
     ·show Act.put _ (some 44) _ = _
      simp only [Act.put, zA, zB, zC, i64_w, i32_w]
      rfl
     refine pure_ (i := 5) (N := some 39) (v := ?_) (a' := ?_) #[true, true, true, true, true, true, false, false, true, false, false] rfl rfl (any_of HT_.out (by kernel_rfl)) (fun _ _ _ h => h) (Or.inl ⟨by rfl, ?_⟩) ?_ ?_
     rotate_left
     ·intro w'
      go_simp
      with_reducible rfl
     rotate_left
     ·simp only [Act.put, zA, zB, zC, i64_w, i32_w]
      rfl
     refine pure_ (i := 6) (N := some 45) (v := ?_) (a' := ?_) #[true, true, true, true, true, true, true, false, true, false, false] rfl rfl (any_of HT_.out (by kernel_rfl)) (fun _ _ _ h => h) (Or.inl ⟨by rfl, ?_⟩) ?_ ?_
     rotate_left
     ·intro w'
      go_simp
      with_reducible rfl
     rotate_left
     ·simp only [Act.put, zA, zB, zC, i64_w, i32_w]
      rfl
     refine pure_ (i := 7) (N := some 46) (v := ?_) (a' := ?_) #[true, true, true, true, true, true, true, true, true, false, false] rfl rfl (any_of HT_.out (by kernel_rfl)) (fun _ _ _ h => h) (Or.inl ⟨by rfl, ?_⟩) ?_ ?_
     rotate_left
     ·intro w'
      go_simp
      with_reducible rfl
     rotate_left
     ·simp only [Act.put, zA, zB, zC, i64_w, i32_w]
      rfl
     exact norm_ mU (hCont (v277, gb280) _ ⟨hHeld, (by (with_reducible repeat (first | apply Kd.R_alloc | apply Kd.R_drewN | apply Kd.R_drew)); exact Kd.R_mono HO260.out (fun _ hk => ⟨hk.1.1, ⟨hk.1.2, hk.2⟩⟩)), (by (with_reducible repeat (first | apply Kd.R_alloc | apply Kd.R_drewN | apply Kd.R_drew)); exact Kd.R_mono HO266.out (fun _ hk => ⟨hk.1.1, ⟨hk.1.2, hk.2⟩⟩)), (by (with_reducible repeat (first | apply Kd.R_alloc | apply Kd.R_drewN | apply Kd.R_drew)); exact Kd.R_mono HO271.out (fun _ hk => ⟨hk.1.1, ⟨hk.1.2, hk.2⟩⟩)), (by (with_reducible repeat (first | apply Kd.R_alloc | apply Kd.R_drewN | apply Kd.R_drew)); exact Kd.R_mono HO278.out (fun _ hk => ⟨hk.1.1.2, ⟨hk.1.2, hk.2⟩⟩)), (mK BK254.out), (mK BK255.out), (mK BK268.out), (mK BK272.out), (mK BK280.out), GW280.out, GE280.out, NB254_280.out, NB280_254.out, NB255_280.out, NB280_255.out, NB268_280.out, NB280_268.out, NB272_280.out, NB280_272.out, (mH5 HB.out GE254.out GE255.out GE268.out GE272.out GE280.out)⟩)
   rintro ⟨v277, gb280⟩ w57 ⟨hS_, h0_, h1_, h2_, h3_, h4_, h5_, h6_, h7_, h8_, h9_, h10_, h11_, h12_, h13_, h14_, h15_, h16_, h17_, h18_, h19_⟩
   have n0_ : Aside0 (Kd.R k35 35 w57 w.heap.size (fun k_ => some k_ ≠ (.slice Ao41 t264.length co41 : Value).ownBlock ∧ some k_ ≠ (.slice Ao47 t269.length co47 : Value).ownBlock ∧ some k_ ≠ (v277 : Value).ownBlock) v259 t258) := ⟨h0_⟩
   have n1_ : Aside0 (Kd.R k35 35 w57 w.heap.size (fun k_ => some k_ ≠ (v259 : Value).ownBlock ∧ some k_ ≠ (.slice Ao47 t269.length co47 : Value).ownBlock ∧ some k_ ≠ (v277 : Value).ownBlock) (.slice Ao41 t264.length co41) t264) := ⟨h1_⟩
   have n2_ : Aside0 (Kd.R k35 35 w57 w.heap.size (fun k_ => some k_ ≠ (v259 : Value).ownBlock ∧ some k_ ≠ (.slice Ao41 t264.length co41 : Value).ownBlock ∧ some k_ ≠ (v277 : Value).ownBlock) (.slice Ao47 t269.length co47) t269) := ⟨h2_⟩
   have n3_ : Aside0 (Kd.R k35 35 w57 w.heap.size (fun k_ => some k_ ≠ (v259 : Value).ownBlock ∧ some k_ ≠ (.slice Ao41 t264.length co41 : Value).ownBlock ∧ some k_ ≠ (.slice Ao47 t269.length co47 : Value).ownBlock) v277 t276) := ⟨h3_⟩
   have n4_ : Aside0 (w57.heap[gb254]? = some (.cells #[.slice A0_0 l0_0.length c0_0] 78 (0, 0))) := ⟨h4_⟩
   have n5_ : Aside0 (w57.heap[gb255]? = some (.cells #[.string a1_0, .string a1_1, .bool a1_2] 84 (0, 0))) := ⟨h5_⟩
   have n6_ : Aside0 (w57.heap[gb268]? = some (.cells #[.slice Ao41 t264.length co41] 26 (0, 0))) := ⟨h6_⟩
   have n7_ : Aside0 (w57.heap[gb272]? = some (.cells #[.slice Ao47 t269.length co47] 26 (0, 0))) := ⟨h7_⟩
   have n8_ : Aside0 (w57.heap[gb280]? = some (.cells #[.slice none 0 0] 26 (0, 0))) := ⟨h8_⟩
   have n9_ : Aside0 (w.heap.size ≤ gb280) := ⟨h9_⟩
   have n10_ : Aside0 (w.heap.size ≤ gb280) := ⟨h10_⟩
   have n11_ : Aside0 (gb254 ≠ gb280) := ⟨h11_⟩
   have n12_ : Aside0 (gb280 ≠ gb254) := ⟨h12_⟩
   have n13_ : Aside0 (gb255 ≠ gb280) := ⟨h13_⟩
   have n14_ : Aside0 (gb280 ≠ gb255) := ⟨h14_⟩
   have n15_ : Aside0 (gb268 ≠ gb280) := ⟨h15_⟩
   have n16_ : Aside0 (gb280 ≠ gb268) := ⟨h16_⟩
   have n17_ : Aside0 (gb272 ≠ gb280) := ⟨h17_⟩
   have n18_ : Aside0 (gb280 ≠ gb272) := ⟨h18_⟩
   have n19_ : Aside0 (Below w.heap.size w w57) := ⟨h19_⟩
   clear HO260
   clear HO266
   clear HO271
   clear BK254
   clear BK255
   clear BK268
   clear BK272
   clear HB
   clear h0_ h1_ h2_ h3_ h4_ h5_ h6_ h7_ h8_ h9_ h10_ h11_ h12_ h13_ h14_ h15_ h16_ h17_ h18_ h19_
   have HO260 := n0_
   have HO266 := n1_
   have HO271 := n2_
   have HO278 := n3_
   have BK254 := n4_
   have BK255 := n5_
   have BK268 := n6_
   have BK272 := n7_
   have BK280 := n8_
   have GW280 := n9_
   have GE280 := n10_
   have NB254_280 := n11_
   have NB280_254 := n12_
   have NB255_280 := n13_
   have NB280_255 := n14_
   have NB268_280 := n15_
   have NB280_268 := n16_
   have NB272_280 := n17_
   have NB280_272 := n18_
   have HB := n19_
   clear n0_ n1_ n2_ n3_ n4_ n5_ n6_ n7_ n8_ n9_ n10_ n11_ n12_ n13_ n14_ n15_ n16_ n17_ n18_ n19_
   have hHeld : w57.cell? ⟨gb272, 0, none⟩ = some (.slice Ao47 t269.length co47) ∧ w57.cell? ⟨gb255, 0, none⟩ = some (.string a1_0) ∧ w57.cell? ⟨gb255, 1, none⟩ = some (.string a1_1) ∧ w57.cell? ⟨gb255, 2, none⟩ = some (.bool a1_2) := hS_
   obtain ⟨Ao58, co58, eo58⟩ := Kd.R_slice HO278.out
   (first | subst eo58 | (injection eo58 with f1_ f2_ f3_; have f4_ := f1_.symm; have f5_ := f3_.symm; clear f1_ f2_ f3_; subst f4_; subst f5_))
   refine norm_ (a' := ?_) ?_ ?_
   rotate_left
   ·simp only [putAll, Act.put, zA, zB, zC]
    rfl
   refine one_ (i := 9) (N := none) #[true, true, true, true, true, true, true, true, true, true, false] rfl rfl (one_of HT_.out (by kernel_rfl)) (by decide) (fun K hK => ?_)
   have hs59 : w57.cell? ⟨gb280, 0, none⟩ = some (.slice none 0 0) := (blk_cell BK280.out 0).trans rfl
   have hfs59 := blk_frozen BK280.out 0
   have hns59_0 := NB254_280.out
   have hns59_1 := NB255_280.out
   have hns59_2 := NB268_280.out
   have hns59_3 := NB272_280.out
   have hms59_0 := NB280_254.out
   have hms59_1 := NB280_255.out
   have hms59_2 := NB280_268.out
   have hms59_3 := NB280_272.out
   refine skip_ (w1 := ?_) (by rfl) rfl ?_ ?_
   rotate_left
   ·go_simp
    rfl
   refine hK.out _ _ ⟨((cell_far (p := ⟨gb280, _, none⟩) NB272_280.out _).trans (hHeld.1)), ((cell_far (p := ⟨gb280, _, none⟩) NB255_280.out _).trans (hHeld.2.1)), ((cell_far (p := ⟨gb280, _, none⟩) NB255_280.out _).trans (hHeld.2.2.1)), ((cell_far (p := ⟨gb280, _, none⟩) NB255_280.out _).trans (hHeld.2.2.2))⟩ (fun hHeld => ?_)
   clear hK K
   refine pure_ (i := 10) (N := some 12) (v := ?_) (a' := ?_) #[true, true, true, true, true, true, true, true, true, true, true] rfl rfl (any_of HT_.out (by kernel_rfl)) (fun _ _ _ h => h) (Or.inl ⟨by rfl, ?_⟩) ?_ ?_
   rotate_left
   ·intro w'
    go_simp
    with_reducible rfl
   rotate_left
   ·simp only [Act.put, zA, zB, zC, i64_w, i32_w]
    rfl
   refine done_ (done_of HT_.out (by kernel_rfl)) ?_
   go_upto_region 11 with (fail)
   go_cut [55] (fun v55 wc => ∃ (kq : Nat) (x55_25 : Bool), v55 = .bool x55_25 ∧ Aside0 (laws_FnExactMemPut.j0 kq a2 t267 t279 x55_25 l0_0 a1_0 a1_1 a1_2 t264 t269 t276 = some r) ∧ Aside0 (kq ≤ k) ∧ Aside0 (Kd.R k35 35 wc w.heap.size (fun k_ => some k_ ≠ ((.slice Ao47 t269.length co47) : Value).ownBlock ∧ some k_ ≠ ((.slice Ao58 t276.length co58) : Value).ownBlock) (.slice Ao41 t264.length co41) t264) ∧ Aside0 (Kd.R k35 35 wc w.heap.size (fun k_ => some k_ ≠ ((.slice Ao41 t264.length co41) : Value).ownBlock ∧ some k_ ≠ ((.slice Ao58 t276.length co58) : Value).ownBlock) (.slice Ao47 t269.length co47) t269) ∧ Aside0 (Kd.R k35 35 wc w.heap.size (fun k_ => some k_ ≠ ((.slice Ao41 t264.length co41) : Value).ownBlock ∧ some k_ ≠ ((.slice Ao47 t269.length co47) : Value).ownBlock) (.slice Ao58 t276.length co58) t276) ∧ Aside0 (wc.heap[gb254]? = some (.cells #[(.slice A0_0 l0_0.length c0_0)] 78 (0, 0))) ∧ Aside0 (wc.heap[gb255]? = some (.cells #[.string a1_0, .string a1_1, .bool a1_2] 84 (0, 0))) ∧ Aside0 (wc.heap[gb268]? = some (.cells #[(.slice Ao41 t264.length co41)] 26 (0, 0))) ∧ Aside0 (wc.heap[gb272]? = some (.cells #[(.slice Ao47 t269.length co47)] 26 (0, 0))) ∧ Aside0 (wc.heap[gb280]? = some (.cells #[(.slice Ao58 t276.length co58)] 26 (0, 0))) ∧ Aside0 (Below w.heap.size w wc))
   case first =>
    have H := HC26.out
    clear HC26
    replace H := Option.bind_eq_some_iff.mp H
    obtain ⟨t281, A600, H⟩ := H
    replace H : (if t281 = true then (laws_FnExactMemPut.j0 k a2 t267 t279 (t279 != t267) l0_0 a1_0 a1_1 a1_2 t264 t269 t276) else (laws_FnExactMemPut.j0 k a2 t267 t279 true l0_0 a1_0 a1_1 a1_2 t264 t269 t276)) = some r := H
    have A60 := mS A600
    clear A600
    by_cases c61 : t281 = true
    ·subst c61
     have H1 : (laws_FnExactMemPut.j0 k a2 t267 t279 (t279 != t267) l0_0 a1_0 a1_1 a1_2 t264 t269 t276) = some r := by rw [if_pos rfl] at H; exact H
     clear H
     have H := H1
     clear H1
     have H' := mS H
     clear H
     have hnb62 := NB280_254.out
     have hnc62 := NB254_280.out
     have hnb63 := NB280_255.out
     have hnc63 := NB255_280.out
     have hnb64 := NB280_268.out
     have hnc64 := NB268_280.out
     have hnb65 := NB280_272.out
     have hnc65 := NB272_280.out
     have hcz66_0 : w57.cell? ⟨gb280, 0, none⟩ = some (.slice none 0 0) := (blk_cell BK280.out 0).trans rfl
     have hfz66_0 := blk_frozen BK280.out 0
     have hnb67 := NB268_254.out
     have hnc67 := NB254_268.out
     have hnb68 := NB268_255.out
     have hnc68 := NB255_268.out
     have hnb69 := NB268_272.out
     have hnc69 := NB272_268.out
     have hcz70_0 : w57.cell? ⟨gb268, 0, none⟩ = some (.slice Ao41 t264.length co41) := (blk_cell BK268.out 0).trans rfl
     have hfz70_0 := blk_frozen BK268.out 0
     go_wp2_with (first | ((with_reducible refine gate_callee (f := 49) rfl ?_); refine goesL_ (some 49) rfl rfl Try.func49 (by kernel_rfl) rfl #[.agg #[.slice Ao58 t276.length co58], .agg #[.slice Ao41 t264.length co41]] rfl mA ?_; (with_reducible refine (laws_eqMem.calls k _ _ t276 _ _ t264 true _ ?side1 ?side2 ?side3 ?side4 A60.out).mono ?_); (case side1 => refine (Kd.R_reads' (e := 35) (base := w.heap.size) (ok := fun k_ => (some k_ ≠ (v259 : Value).ownBlock ∧ (some k_ ≠ (.slice Ao41 t264.length co41 : Value).ownBlock ∧ some k_ ≠ (.slice Ao47 t269.length co47 : Value).ownBlock))) (n := t276.length) (c := co58) ?_).2.2; exact (by (with_reducible repeat (first | apply Kd.R_alloc | apply Kd.R_drewN | apply Kd.R_drew)); exact (Kd.R_mono (Kd.R_far (p := ⟨gb280, 0, none⟩) (Kd.R_types HO278.out BK280.out (by decide)) (fun _ hk => hk.2) (.slice Ao58 t276.length co58)) (fun _ h_ => h_.1)))); (case side2 => exact (Kd.R_reads' HO278.out).2.1); (case side3 => refine (Kd.R_reads' (e := 35) (base := w.heap.size) (ok := fun k_ => (some k_ ≠ (v259 : Value).ownBlock ∧ (some k_ ≠ (.slice Ao47 t269.length co47 : Value).ownBlock ∧ some k_ ≠ (.slice Ao58 t276.length co58 : Value).ownBlock))) (n := t264.length) (c := co41) ?_).2.2; exact (by (with_reducible repeat (first | apply Kd.R_alloc | apply Kd.R_drewN | apply Kd.R_drew)); exact (Kd.R_mono (Kd.R_far (p := ⟨gb280, 0, none⟩) (Kd.R_types HO266.out BK280.out (by decide)) (fun _ hk => hk.2) (.slice Ao58 t276.length co58)) (fun _ h_ => h_.1)))); (case side4 => exact (Kd.R_reads' HO266.out).2.1); rintro e w71 ⟨rfl, hb⟩; refine ⟨_, rfl, ?_⟩; replace HO260 := mS (Kd.R_below (by (with_reducible repeat (first | apply Kd.R_alloc | apply Kd.R_drewN | apply Kd.R_drew)); exact (Kd.R_mono (Kd.R_far (p := ⟨gb280, 0, none⟩) (Kd.R_types HO260.out BK280.out (by decide)) (fun _ hk => hk.2) (.slice Ao58 t276.length co58)) (fun _ h_ => h_.1))) hb); replace HO266 := mS (Kd.R_below (by (with_reducible repeat (first | apply Kd.R_alloc | apply Kd.R_drewN | apply Kd.R_drew)); exact (Kd.R_mono (Kd.R_far (p := ⟨gb280, 0, none⟩) (Kd.R_types HO266.out BK280.out (by decide)) (fun _ hk => hk.2) (.slice Ao58 t276.length co58)) (fun _ h_ => h_.1))) hb); replace HO271 := mS (Kd.R_below (by (with_reducible repeat (first | apply Kd.R_alloc | apply Kd.R_drewN | apply Kd.R_drew)); exact (Kd.R_mono (Kd.R_far (p := ⟨gb280, 0, none⟩) (Kd.R_types HO271.out BK280.out (by decide)) (fun _ hk => hk.2) (.slice Ao58 t276.length co58)) (fun _ h_ => h_.1))) hb); replace HO278 := mS (Kd.R_below (by (with_reducible repeat (first | apply Kd.R_alloc | apply Kd.R_drewN | apply Kd.R_drew)); exact (Kd.R_mono (Kd.R_far (p := ⟨gb280, 0, none⟩) (Kd.R_types HO278.out BK280.out (by decide)) (fun _ hk => hk.2) (.slice Ao58 t276.length co58)) (fun _ h_ => h_.1))) hb); replace BK254 := mS (blk_below (g := gb254) (o := .cells #[.slice A0_0 l0_0.length c0_0] 78 (0, 0)) (by (with_reducible repeat (first | refine blk_drewN ?_ _ | refine blk_drew ?_ | refine blk_alloc ?_ _)); refine blk_far ?_ NB254_280.out _; (with_reducible repeat (first | refine blk_drewN ?_ _ | refine blk_drew ?_ | refine blk_alloc ?_ _)); exact BK254.out) hb); replace BK255 := mS (blk_below (g := gb255) (o := .cells #[.string a1_0, .string a1_1, .bool a1_2] 84 (0, 0)) (by (with_reducible repeat (first | refine blk_drewN ?_ _ | refine blk_drew ?_ | refine blk_alloc ?_ _)); refine blk_far ?_ NB255_280.out _; (with_reducible repeat (first | refine blk_drewN ?_ _ | refine blk_drew ?_ | refine blk_alloc ?_ _)); exact BK255.out) hb); replace BK268 := mS (blk_below (g := gb268) (o := .cells #[.slice Ao41 t264.length co41] 26 (0, 0)) (by (with_reducible repeat (first | refine blk_drewN ?_ _ | refine blk_drew ?_ | refine blk_alloc ?_ _)); refine blk_far ?_ NB268_280.out _; (with_reducible repeat (first | refine blk_drewN ?_ _ | refine blk_drew ?_ | refine blk_alloc ?_ _)); exact BK268.out) hb); replace BK272 := mS (blk_below (g := gb272) (o := .cells #[.slice Ao47 t269.length co47] 26 (0, 0)) (by (with_reducible repeat (first | refine blk_drewN ?_ _ | refine blk_drew ?_ | refine blk_alloc ?_ _)); refine blk_far ?_ NB272_280.out _; (with_reducible repeat (first | refine blk_drewN ?_ _ | refine blk_drew ?_ | refine blk_alloc ?_ _)); exact BK272.out) hb); replace BK280 := mS (blk_below (g := gb280) (o := .cells #[.slice Ao58 t276.length co58] 26 (0, 0)) (by (with_reducible repeat (first | refine blk_drewN ?_ _ | refine blk_drew ?_ | refine blk_alloc ?_ _)); refine blk_put (cs := #[.slice none 0 0]) ?_ 0 _ rfl; (with_reducible repeat (first | refine blk_drewN ?_ _ | refine blk_drew ?_ | refine blk_alloc ?_ _)); exact BK280.out) hb); replace HB := mS (below_step (mH5 HB.out GE254.out GE255.out GE268.out GE272.out GE280.out) hb); (try clear hb); (try clear hb2); (try clear hk); (try clear hi)))
     go_meet
     case rel => exact ⟨_, ((t279 != t267)), (by first | rfl | (simp; done) | (simp [*]; done)), H', ⟨by first | omega | exact Nat.le_refl _⟩, ⟨by (with_reducible repeat (first | apply Kd.R_alloc | apply Kd.R_drewN | apply Kd.R_drew)); exact Kd.R_mono HO266.out (fun _ hk => ⟨hk.2.1, hk.2.2⟩)⟩, ⟨by (with_reducible repeat (first | apply Kd.R_alloc | apply Kd.R_drewN | apply Kd.R_drew)); exact Kd.R_mono HO271.out (fun _ hk => ⟨hk.2.1, hk.2.2⟩)⟩, ⟨by (with_reducible repeat (first | apply Kd.R_alloc | apply Kd.R_drewN | apply Kd.R_drew)); exact Kd.R_mono HO278.out (fun _ hk => ⟨hk.2.1, hk.2.2⟩)⟩, ⟨by (with_reducible repeat (first | refine blk_drewN ?_ _ | refine blk_drew ?_ | refine blk_alloc ?_ _)); exact BK254.out⟩, ⟨by (with_reducible repeat (first | refine blk_drewN ?_ _ | refine blk_drew ?_ | refine blk_alloc ?_ _)); exact BK255.out⟩, ⟨by (with_reducible repeat (first | refine blk_drewN ?_ _ | refine blk_drew ?_ | refine blk_alloc ?_ _)); exact BK268.out⟩, ⟨by (with_reducible repeat (first | refine blk_drewN ?_ _ | refine blk_drew ?_ | refine blk_alloc ?_ _)); exact BK272.out⟩, ⟨by (with_reducible repeat (first | refine blk_drewN ?_ _ | refine blk_drew ?_ | refine blk_alloc ?_ _)); exact BK280.out⟩, ⟨(mH5 HB.out GE254.out GE255.out GE268.out GE272.out GE280.out)⟩⟩
    ·replace c61 := Bool.eq_false_iff.mpr c61
     subst c61
     have H1 : (laws_FnExactMemPut.j0 k a2 t267 t279 true l0_0 a1_0 a1_1 a1_2 t264 t269 t276) = some r := by rw [if_neg (show ¬ (false = true) by decide)] at H; exact H
     clear H
     have H := H1
     clear H1
     have H' := mS H
     clear H
     have hnb72 := NB280_254.out
     have hnc72 := NB254_280.out
     have hnb73 := NB280_255.out
     have hnc73 := NB255_280.out
     have hnb74 := NB280_268.out
     have hnc74 := NB268_280.out
     have hnb75 := NB280_272.out
     have hnc75 := NB272_280.out
     have hcz76_0 : w57.cell? ⟨gb280, 0, none⟩ = some (.slice none 0 0) := (blk_cell BK280.out 0).trans rfl
     have hfz76_0 := blk_frozen BK280.out 0
     have hnb77 := NB268_254.out
     have hnc77 := NB254_268.out
     have hnb78 := NB268_255.out
     have hnc78 := NB255_268.out
     have hnb79 := NB268_272.out
     have hnc79 := NB272_268.out
     have hcz80_0 : w57.cell? ⟨gb268, 0, none⟩ = some (.slice Ao41 t264.length co41) := (blk_cell BK268.out 0).trans rfl
     have hfz80_0 := blk_frozen BK268.out 0
     go_wp2_with (first | ((with_reducible refine gate_callee (f := 49) rfl ?_); refine goesL_ (some 49) rfl rfl Try.func49 (by kernel_rfl) rfl #[.agg #[.slice Ao58 t276.length co58], .agg #[.slice Ao41 t264.length co41]] rfl mA ?_; (with_reducible refine (laws_eqMem.calls k _ _ t276 _ _ t264 false _ ?side1 ?side2 ?side3 ?side4 A60.out).mono ?_); (case side1 => refine (Kd.R_reads' (e := 35) (base := w.heap.size) (ok := fun k_ => (some k_ ≠ (v259 : Value).ownBlock ∧ (some k_ ≠ (.slice Ao41 t264.length co41 : Value).ownBlock ∧ some k_ ≠ (.slice Ao47 t269.length co47 : Value).ownBlock))) (n := t276.length) (c := co58) ?_).2.2; exact (by (with_reducible repeat (first | apply Kd.R_alloc | apply Kd.R_drewN | apply Kd.R_drew)); exact (Kd.R_mono (Kd.R_far (p := ⟨gb280, 0, none⟩) (Kd.R_types HO278.out BK280.out (by decide)) (fun _ hk => hk.2) (.slice Ao58 t276.length co58)) (fun _ h_ => h_.1)))); (case side2 => exact (Kd.R_reads' HO278.out).2.1); (case side3 => refine (Kd.R_reads' (e := 35) (base := w.heap.size) (ok := fun k_ => (some k_ ≠ (v259 : Value).ownBlock ∧ (some k_ ≠ (.slice Ao47 t269.length co47 : Value).ownBlock ∧ some k_ ≠ (.slice Ao58 t276.length co58 : Value).ownBlock))) (n := t264.length) (c := co41) ?_).2.2; exact (by (with_reducible repeat (first | apply Kd.R_alloc | apply Kd.R_drewN | apply Kd.R_drew)); exact (Kd.R_mono (Kd.R_far (p := ⟨gb280, 0, none⟩) (Kd.R_types HO266.out BK280.out (by decide)) (fun _ hk => hk.2) (.slice Ao58 t276.length co58)) (fun _ h_ => h_.1)))); (case side4 => exact (Kd.R_reads' HO266.out).2.1); rintro e w81 ⟨rfl, hb⟩; refine ⟨_, rfl, ?_⟩; replace HO260 := mS (Kd.R_below (by (with_reducible repeat (first | apply Kd.R_alloc | apply Kd.R_drewN | apply Kd.R_drew)); exact (Kd.R_mono (Kd.R_far (p := ⟨gb280, 0, none⟩) (Kd.R_types HO260.out BK280.out (by decide)) (fun _ hk => hk.2) (.slice Ao58 t276.length co58)) (fun _ h_ => h_.1))) hb); replace HO266 := mS (Kd.R_below (by (with_reducible repeat (first | apply Kd.R_alloc | apply Kd.R_drewN | apply Kd.R_drew)); exact (Kd.R_mono (Kd.R_far (p := ⟨gb280, 0, none⟩) (Kd.R_types HO266.out BK280.out (by decide)) (fun _ hk => hk.2) (.slice Ao58 t276.length co58)) (fun _ h_ => h_.1))) hb); replace HO271 := mS (Kd.R_below (by (with_reducible repeat (first | apply Kd.R_alloc | apply Kd.R_drewN | apply Kd.R_drew)); exact (Kd.R_mono (Kd.R_far (p := ⟨gb280, 0, none⟩) (Kd.R_types HO271.out BK280.out (by decide)) (fun _ hk => hk.2) (.slice Ao58 t276.length co58)) (fun _ h_ => h_.1))) hb); replace HO278 := mS (Kd.R_below (by (with_reducible repeat (first | apply Kd.R_alloc | apply Kd.R_drewN | apply Kd.R_drew)); exact (Kd.R_mono (Kd.R_far (p := ⟨gb280, 0, none⟩) (Kd.R_types HO278.out BK280.out (by decide)) (fun _ hk => hk.2) (.slice Ao58 t276.length co58)) (fun _ h_ => h_.1))) hb); replace BK254 := mS (blk_below (g := gb254) (o := .cells #[.slice A0_0 l0_0.length c0_0] 78 (0, 0)) (by (with_reducible repeat (first | refine blk_drewN ?_ _ | refine blk_drew ?_ | refine blk_alloc ?_ _)); refine blk_far ?_ NB254_280.out _; (with_reducible repeat (first | refine blk_drewN ?_ _ | refine blk_drew ?_ | refine blk_alloc ?_ _)); exact BK254.out) hb); replace BK255 := mS (blk_below (g := gb255) (o := .cells #[.string a1_0, .string a1_1, .bool a1_2] 84 (0, 0)) (by (with_reducible repeat (first | refine blk_drewN ?_ _ | refine blk_drew ?_ | refine blk_alloc ?_ _)); refine blk_far ?_ NB255_280.out _; (with_reducible repeat (first | refine blk_drewN ?_ _ | refine blk_drew ?_ | refine blk_alloc ?_ _)); exact BK255.out) hb); replace BK268 := mS (blk_below (g := gb268) (o := .cells #[.slice Ao41 t264.length co41] 26 (0, 0)) (by (with_reducible repeat (first | refine blk_drewN ?_ _ | refine blk_drew ?_ | refine blk_alloc ?_ _)); refine blk_far ?_ NB268_280.out _; (with_reducible repeat (first | refine blk_drewN ?_ _ | refine blk_drew ?_ | refine blk_alloc ?_ _)); exact BK268.out) hb); replace BK272 := mS (blk_below (g := gb272) (o := .cells #[.slice Ao47 t269.length co47] 26 (0, 0)) (by (with_reducible repeat (first | refine blk_drewN ?_ _ | refine blk_drew ?_ | refine blk_alloc ?_ _)); refine blk_far ?_ NB272_280.out _; (with_reducible repeat (first | refine blk_drewN ?_ _ | refine blk_drew ?_ | refine blk_alloc ?_ _)); exact BK272.out) hb); replace BK280 := mS (blk_below (g := gb280) (o := .cells #[.slice Ao58 t276.length co58] 26 (0, 0)) (by (with_reducible repeat (first | refine blk_drewN ?_ _ | refine blk_drew ?_ | refine blk_alloc ?_ _)); refine blk_put (cs := #[.slice none 0 0]) ?_ 0 _ rfl; (with_reducible repeat (first | refine blk_drewN ?_ _ | refine blk_drew ?_ | refine blk_alloc ?_ _)); exact BK280.out) hb); replace HB := mS (below_step (mH5 HB.out GE254.out GE255.out GE268.out GE272.out GE280.out) hb); (try clear hb); (try clear hb2); (try clear hk); (try clear hi)))
     go_meet
     case rel => exact ⟨_, (true), (by first | rfl | (simp; done) | (simp [*]; done)), H', ⟨by first | omega | exact Nat.le_refl _⟩, ⟨by (with_reducible repeat (first | apply Kd.R_alloc | apply Kd.R_drewN | apply Kd.R_drew)); exact Kd.R_mono HO266.out (fun _ hk => ⟨hk.2.1, hk.2.2⟩)⟩, ⟨by (with_reducible repeat (first | apply Kd.R_alloc | apply Kd.R_drewN | apply Kd.R_drew)); exact Kd.R_mono HO271.out (fun _ hk => ⟨hk.2.1, hk.2.2⟩)⟩, ⟨by (with_reducible repeat (first | apply Kd.R_alloc | apply Kd.R_drewN | apply Kd.R_drew)); exact Kd.R_mono HO278.out (fun _ hk => ⟨hk.2.1, hk.2.2⟩)⟩, ⟨by (with_reducible repeat (first | refine blk_drewN ?_ _ | refine blk_drew ?_ | refine blk_alloc ?_ _)); exact BK254.out⟩, ⟨by (with_reducible repeat (first | refine blk_drewN ?_ _ | refine blk_drew ?_ | refine blk_alloc ?_ _)); exact BK255.out⟩, ⟨by (with_reducible repeat (first | refine blk_drewN ?_ _ | refine blk_drew ?_ | refine blk_alloc ?_ _)); exact BK268.out⟩, ⟨by (with_reducible repeat (first | refine blk_drewN ?_ _ | refine blk_drew ?_ | refine blk_alloc ?_ _)); exact BK272.out⟩, ⟨by (with_reducible repeat (first | refine blk_drewN ?_ _ | refine blk_drew ?_ | refine blk_alloc ?_ _)); exact BK280.out⟩, ⟨(mH5 HB.out GE254.out GE255.out GE268.out GE272.out GE280.out)⟩⟩
   case rest =>
    clear HC26
    try clear c2
    try clear p2
    try clear c4
    try clear c5
    try clear c6
    try clear c7
    try clear c20
    try clear c49
    try clear c52
    try clear c61
    try clear c62
    try clear c63
    try clear c64
    try clear c65
    try clear c67
    try clear c68
    try clear c69
    try clear c72
    try clear c73
    try clear c74
    try clear c75
    try clear c77
    try clear c78
    try clear c79
    try clear hcz66_0
    try clear hcz70_0
    try clear hcz76_0
    try clear hcz80_0
    try clear hfz66_0
    try clear hfz70_0
    try clear hfz76_0
    try clear hfz80_0
    obtain ⟨kq, x55_25, rfl, HA, HJ25, HO_269000, HO_273000, HO_281000, BK254, BK255, BK268, BK272, BK280, HB⟩ := hcut
    cases kq with
    | zero => exact absurd HA.out (by simp [laws_FnExactMemPut.j0])
    | succ kj25 =>
     have H := HA.out
     clear HA
     simp only [laws_FnExactMemPut.j0] at H
     by_cases c82 : x55_25 = true
     ·subst c82
      have H1 : (some false) = some r := by rw [if_pos rfl] at H; exact H
      clear H
      have H := H1
      clear H1
      obtain rfl := Option.some.inj H
      go_wp2
      go_ret
      exact ⟨by first | rfl | (simp [errW_none, errW_some] <;> rfl) | (simp [*, errW_none, errW_some] <;> rfl), (mH5 HB.out GE254.out GE255.out GE268.out GE272.out GE280.out)⟩
     ·replace c82 := Bool.eq_false_iff.mpr c82
      subst c82
      have H1 : ((laws_toMem.f kj25 l0_0).bind fun t282 => ((laws_eqMem.f kj25 t269 t282).bind fun t285 => (if t285 = true then ((laws_markMem.f kj25 t269 1).bind fun bt286 => (if bt286.1 < 0 then (laws_FnExactMemPut.j1 kj25 a2 t267 true l0_0 a1_0 a1_1 a1_2 t264 t276) else ((laws_eqMem.f kj25 t276 t264).bind fun t288 => (if t288 = true then (laws_FnExactMemPut.j1 kj25 a2 t267 (t279 != t267) l0_0 a1_0 a1_1 a1_2 t264 t276) else (laws_FnExactMemPut.j1 kj25 a2 t267 true l0_0 a1_0 a1_1 a1_2 t264 t276))))) else (some false)))) = some r := by rw [if_neg (show ¬ (false = true) by decide)] at H; exact H
      clear H
      have H := H1
      clear H1
      replace H := Option.bind_eq_some_iff.mp H
      obtain ⟨t282, A830, H⟩ := H
      replace H : ((laws_eqMem.f kj25 t269 t282).bind fun t285 => (if t285 = true then ((laws_markMem.f kj25 t269 1).bind fun bt286 => (if bt286.1 < 0 then (laws_FnExactMemPut.j1 kj25 a2 t267 true l0_0 a1_0 a1_1 a1_2 t264 t276) else ((laws_eqMem.f kj25 t276 t264).bind fun t288 => (if t288 = true then (laws_FnExactMemPut.j1 kj25 a2 t267 (t279 != t267) l0_0 a1_0 a1_1 a1_2 t264 t276) else (laws_FnExactMemPut.j1 kj25 a2 t267 true l0_0 a1_0 a1_1 a1_2 t264 t276))))) else (some false))) = some r := H
      have A83 := mS A830
      clear A830
      replace H := Option.bind_eq_some_iff.mp H
      obtain ⟨t285, A840, H⟩ := H
      replace H : (if t285 = true then ((laws_markMem.f kj25 t269 1).bind fun bt286 => (if bt286.1 < 0 then (laws_FnExactMemPut.j1 kj25 a2 t267 true l0_0 a1_0 a1_1 a1_2 t264 t276) else ((laws_eqMem.f kj25 t276 t264).bind fun t288 => (if t288 = true then (laws_FnExactMemPut.j1 kj25 a2 t267 (t279 != t267) l0_0 a1_0 a1_1 a1_2 t264 t276) else (laws_FnExactMemPut.j1 kj25 a2 t267 true l0_0 a1_0 a1_1 a1_2 t264 t276))))) else (some false)) = some r := H
      have A84 := mS A840
      clear A840
      by_cases c85 : t285 = true
      ·subst c85
       have H1 : ((laws_markMem.f kj25 t269 1).bind fun bt286 => (if bt286.1 < 0 then (laws_FnExactMemPut.j1 kj25 a2 t267 true l0_0 a1_0 a1_1 a1_2 t264 t276) else ((laws_eqMem.f kj25 t276 t264).bind fun t288 => (if t288 = true then (laws_FnExactMemPut.j1 kj25 a2 t267 (t279 != t267) l0_0 a1_0 a1_1 a1_2 t264 t276) else (laws_FnExactMemPut.j1 kj25 a2 t267 true l0_0 a1_0 a1_1 a1_2 t264 t276))))) = some r := by rw [if_pos rfl] at H; exact H
       clear H
       have H := H1
       clear H1
       replace H := Option.bind_eq_some_iff.mp H
       obtain ⟨⟨t286, t287⟩, A860, H⟩ := H
       replace H : (if t286 < 0 then (laws_FnExactMemPut.j1 kj25 a2 t267 true l0_0 a1_0 a1_1 a1_2 t264 t276) else ((laws_eqMem.f kj25 t276 t264).bind fun t288 => (if t288 = true then (laws_FnExactMemPut.j1 kj25 a2 t267 (t279 != t267) l0_0 a1_0 a1_1 a1_2 t264 t276) else (laws_FnExactMemPut.j1 kj25 a2 t267 true l0_0 a1_0 a1_1 a1_2 t264 t276)))) = some r := H
       have A86 := mS A860
       clear A860
       have HC87 := mS H
       clear H
       try go_wp2
       have n0_ := mS (Kd.R_drew HO_269000.out)
       have n1_ := mS (Kd.R_drew HO_273000.out)
       have n2_ := mS (Kd.R_drew HO_281000.out)
       have n3_ := mS (blk_drew BK254.out)
       have n4_ := mS (blk_drew BK255.out)
       have n5_ := mS (blk_drew BK268.out)
       have n6_ := mS (blk_drew BK272.out)
       have n7_ := mS (blk_drew BK280.out)
       have n8_ := mS (below_drew1 HB.out)
       clear HO_269000
       clear HO_273000
       clear HO_281000
       clear BK254
       clear BK255
       clear BK268
       clear BK272
       clear BK280
       clear HB
       have HO_269000 := n0_
       have HO_273000 := n1_
       have HO_281000 := n2_
       have BK254 := n3_
       have BK255 := n4_
       have BK268 := n5_
       have BK272 := n6_
       have BK280 := n7_
       have HB := n8_
       clear n0_ n1_ n2_ n3_ n4_ n5_ n6_ n7_ n8_
       refine start_ (n := 5) (S := fun w' => w'.cell? ⟨gb272, 0, none⟩ = some (.slice Ao47 t269.length co47) ∧ w'.cell? ⟨gb254, 0, none⟩ = some (.slice A0_0 l0_0.length c0_0)) (ds := []) #[false, false, false, false, false] (by kernel_rfl) rfl rfl ⟨(blk_cell BK272.out 0).trans rfl, (blk_cell BK254.out 0).trans rfl⟩ (fun hHeld => ?_)
       generalize wc.drew = w88 at HO_269000 HO_273000 HO_281000 BK254 BK255 BK268 BK272 BK280 HB hHeld ⊢
       refine take_ (i := 0) (N := some 56) (v := ?_) (a' := ?_) #[true, false, false, false, false] rfl rfl (by kernel_rfl) (fun _ _ _ h => h) (Or.inl ⟨by rfl, ?_⟩) hHeld ?_ ?_
       rotate_left
       ·rintro w' ⟨s0, s1⟩
        go_simp
        with_reducible rfl
       rotate_left
       ·simp only [Act.put, zA, zB, zC, i64_w, i32_w]
        rfl
       refine take_ (i := 1) (N := some 57) (v := ?_) (a' := ?_) #[true, true, false, false, false] rfl rfl (by kernel_rfl) (fun _ _ _ h => h) (Or.inl ⟨by rfl, ?_⟩) hHeld ?_ ?_
       rotate_left
       ·rintro w' ⟨s0, s1⟩
        go_simp
        with_reducible rfl
       rotate_left
       ·simp only [Act.put, zA, zB, zC, i64_w, i32_w]
        rfl
       refine one_ (i := 2) (N := some 58) #[true, true, true, false, false] rfl rfl (by kernel_rfl) (by decide) (fun K hK => ?_)
       refine goes_ Try.func48 (by kernel_rfl) rfl #[.agg #[.slice A0_0 l0_0.length c0_0]] (by rfl) rfl rfl mA ?_
       with_reducible refine (laws_toMem.calls kj25 _ _ l0_0 t282 _ ?side1 ?side2 A83.out).mono ?_
       (case side1 => repeat (first | exact (Kd.C_below HR0_0.out HB.out) | (with_reducible refine Kd.C_alloc ?_ _) | (with_reducible refine Kd.C_drewN ?_ _) | (with_reducible refine Kd.C_drew ?_)))
       (case side2 => exact HC0_0.out)
       rintro e w89 ⟨v283, rfl, ho0, hb⟩
       refine ⟨_, rfl, ?_⟩
       have n0_ := mS (Kd.R_elder' (mR HO_269000.out) (Kd.R_base ho0) hb)
       have n1_ := mS (Kd.R_elder' (mR HO_273000.out) (Kd.R_base ho0) hb)
       have n2_ := mS (Kd.R_elder' (mR HO_281000.out) (Kd.R_base ho0) hb)
       have n3_ := mS (Kd.R_lower (Kd.R_new' (Kd.R_new' (Kd.R_new' ho0 (Kd.R_lt (mR HO_269000.out))) (Kd.R_lt (mR HO_273000.out))) (Kd.R_lt (mR HO_281000.out))) (below_size (mH5 HB.out GE254.out GE255.out GE268.out GE272.out GE280.out)))
       have n4_ := mB BK254 hb
       have n5_ := mB BK255 hb
       have n6_ := mB BK268 hb
       have n7_ := mB BK272 hb
       have n8_ := mB BK280 hb
       have n9_ := mS (below_step (mH5 HB.out GE254.out GE255.out GE268.out GE272.out GE280.out) hb)
       clear HO_269000
       clear HO_273000
       clear HO_281000
       clear BK254
       clear BK255
       clear BK268
       clear BK272
       clear BK280
       clear HB
       have HO_269000 := n0_
       have HO_273000 := n1_
       have HO_281000 := n2_
       have HO284 := n3_
       have BK254 := n4_
       have BK255 := n5_
       have BK268 := n6_
       have BK272 := n7_
       have BK280 := n8_
       have HB := n9_
       clear n0_ n1_ n2_ n3_ n4_ n5_ n6_ n7_ n8_ n9_
       (try clear hb)
       (try clear hb2)
       (try clear hk)
       (try clear hi)
       (try clear ho0)
       obtain ⟨Ao90, co90, eo90⟩ := Kd.R_slice HO284.out
       (first | subst eo90 | (injection eo90 with f1_ f2_ f3_; have f4_ := f1_.symm; have f5_ := f3_.symm; clear f1_ f2_ f3_; subst f4_; subst f5_))
       refine hK.out _ _ ⟨(blk_cell BK272.out 0).trans rfl, (blk_cell BK254.out 0).trans rfl⟩ (fun hHeld => ?_)
       clear hK K
       refine norm_ (a' := ?_) ?_ ?_
       rotate_left
       ·show Act.put _ (some 58) _ = _
        simp only [Act.put, zA, zB, zC, i64_w, i32_w]
        rfl
       refine one_ (i := 3) (N := some 59) #[true, true, true, true, false] rfl rfl (by kernel_rfl) (by decide) (fun K hK => ?_)
       refine goes_ Try.func49 (by kernel_rfl) rfl #[.agg #[.slice Ao47 t269.length co47], .agg #[.slice Ao90 t282.length co90]] (by rfl) rfl rfl mA ?_
       with_reducible refine (laws_eqMem.calls kj25 _ _ t269 _ _ t282 true _ ?side1 ?side2 ?side3 ?side4 A84.out).mono ?_
       (case side1 => repeat (first | exact (Kd.R_reads' HO_273000.out).2.2 | (with_reducible refine Kd.C_alloc ?_ _) | (with_reducible refine Kd.C_drewN ?_ _) | (with_reducible refine Kd.C_drew ?_)))
       (case side2 => exact (Kd.R_reads' HO_273000.out).2.1)
       (case side3 => repeat (first | exact (Kd.R_reads' HO284.out).2.2 | (with_reducible refine Kd.C_alloc ?_ _) | (with_reducible refine Kd.C_drewN ?_ _) | (with_reducible refine Kd.C_drew ?_)))
       (case side4 => exact (Kd.R_reads' HO284.out).2.1)
       rintro e w91 ⟨rfl, hb⟩
       refine ⟨_, rfl, ?_⟩
       have n0_ := mS (Kd.R_below (mR HO_269000.out) hb)
       have n1_ := mS (Kd.R_below (mR HO_273000.out) hb)
       have n2_ := mS (Kd.R_below (mR HO_281000.out) hb)
       have n3_ := mS (Kd.R_below (mR HO284.out) hb)
       have n4_ := mB BK254 hb
       have n5_ := mB BK255 hb
       have n6_ := mB BK268 hb
       have n7_ := mB BK272 hb
       have n8_ := mB BK280 hb
       have n9_ := mS (below_step (mH5 HB.out GE254.out GE255.out GE268.out GE272.out GE280.out) hb)
       clear HO_269000
       clear HO_273000
       clear HO_281000
       clear HO284
       clear BK254
       clear BK255
       clear BK268
       clear BK272
       clear BK280
       clear HB
       have HO_269000 := n0_
       have HO_273000 := n1_
       have HO_281000 := n2_
       have HO284 := n3_
       have BK254 := n4_
       have BK255 := n5_
       have BK268 := n6_
       have BK272 := n7_
       have BK280 := n8_
       have HB := n9_
       clear n0_ n1_ n2_ n3_ n4_ n5_ n6_ n7_ n8_ n9_
       (try clear hb)
       (try clear hb2)
       (try clear hk)
       (try clear hi)
       refine hK.out _ _ ⟨(blk_cell BK272.out 0).trans rfl, (blk_cell BK254.out 0).trans rfl⟩ (fun hHeld => ?_)
       clear hK K
       refine norm_ (a' := ?_) ?_ ?_
       rotate_left
       ·show Act.put _ (some 59) _ = _
        simp only [Act.put, zA, zB, zC, i64_w, i32_w]
        rfl
       refine pure_ (i := 4) (N := some 60) (v := ?_) (a' := ?_) #[true, true, true, true, true] rfl rfl (by kernel_rfl) (fun _ _ _ h => h) (Or.inl ⟨by rfl, ?_⟩) ?_ ?_
       rotate_left
       ·intro w'
        go_simp
        with_reducible rfl
       rotate_left
       ·simp only [Act.put, zA, zB, zC, i64_w, i32_w]
        rfl
       refine done_ (by kernel_rfl) ?_
       have hnb92 := NB272_254.out
       have hnc92 := NB254_272.out
       have hnb93 := NB272_255.out
       have hnc93 := NB255_272.out
       have hnb94 := NB272_268.out
       have hnc94 := NB268_272.out
       have hnb95 := NB272_280.out
       have hnc95 := NB280_272.out
       have hcz96_0 : w91.cell? ⟨gb272, 0, none⟩ = some (.slice Ao47 t269.length co47) := (blk_cell BK272.out 0).trans rfl
       have hfz96_0 := blk_frozen BK272.out 0
       go_upto_region 17 with (first | ((with_reducible refine gate_callee (f := 50) rfl ?_); refine goesL_ (some 63) rfl rfl Try.func50 (by kernel_rfl) rfl #[.agg #[.slice Ao47 t269.length co47], .int .i64 1] rfl mA ?_; (with_reducible refine (laws_markMem.calls kj25 (fun k_ => some k_ = (.slice Ao47 t269.length co47 : Value).ownBlock) (.slice Ao47 t269.length co47) t269 1 t286 t287 w _ ?side1 ?side2 A86.out).mono ?_); (case side1 => repeat (first | (with_reducible first | exact HB.out | apply below_alloc | apply pw_below_drewN | apply below_drew1 | refine below_set ?_ GE254.out | refine below_set ?_ GE255.out | refine below_set ?_ GE268.out | refine below_set ?_ GE272.out | refine below_set ?_ GE280.out) | exact HB.out)); (case side2 => exact Kd.R_tight rfl HO_273000.out); rintro e w97 ⟨rfl, hy0, hb, hkp⟩; refine ⟨_, rfl, ?_⟩; replace HO_269000 := mS (Kd.R_mono (ok' := fun k_ => some k_ ≠ (.slice Ao47 t269.length co47 : Value).ownBlock ∧ some k_ ≠ (.slice Ao58 t276.length co58 : Value).ownBlock ∧ some k_ ≠ (.slice Ao90 t282.length co90 : Value).ownBlock) (Kd.R_keptB (HO_269000.out) hkp (fun k_ hk_ hs_ => (hk_.1.1) hs_)) (fun k_ hk_ => ⟨hk_.1.1.1, hk_.1.1.2, hk_.1.2⟩)); replace HO_281000 := mS (Kd.R_mono (ok' := fun k_ => some k_ ≠ (.slice Ao41 t264.length co41 : Value).ownBlock ∧ some k_ ≠ (.slice Ao47 t269.length co47 : Value).ownBlock ∧ some k_ ≠ (.slice Ao90 t282.length co90 : Value).ownBlock) (Kd.R_keptB (HO_281000.out) hkp (fun k_ hk_ hs_ => (hk_.1.2) hs_)) (fun k_ hk_ => ⟨hk_.1.1.1, hk_.1.1.2, hk_.1.2⟩)); replace BK254 := mS (blk_kept (mK BK254.out) hkp (fun hs_ => (fun e_ => (Kd.R_ne HO_273000.out BK254.out (by decide)) e_) hs_)); replace BK255 := mS (blk_kept (mK BK255.out) hkp (fun hs_ => (fun e_ => (Kd.R_ne HO_273000.out BK255.out (by decide)) e_) hs_)); replace BK268 := mS (blk_kept (mK BK268.out) hkp (fun hs_ => (fun e_ => (Kd.R_ne HO_273000.out BK268.out (by decide)) e_) hs_)); replace BK272 := mS (blk_kept (mK BK272.out) hkp (fun hs_ => (fun e_ => (Kd.R_ne HO_273000.out BK272.out (by decide)) e_) hs_)); replace BK280 := mS (blk_kept (mK BK280.out) hkp (fun hs_ => (fun e_ => (Kd.R_ne HO_273000.out BK280.out (by decide)) e_) hs_)); replace HO_273000 := mS (Kd.R_reok rfl hy0 (fun k_ e_ => HO_273000.out.1 k_ e_)); replace HO284 := mS (Kd.R_mono (ok' := fun k_ => some k_ ≠ (.slice Ao41 t264.length co41 : Value).ownBlock ∧ some k_ ≠ (.slice Ao47 t269.length co47 : Value).ownBlock ∧ some k_ ≠ (.slice Ao58 t276.length co58 : Value).ownBlock) (Kd.R_keptB (HO284.out) hkp (fun k_ hk_ hs_ => (hk_.1.2) hs_)) (fun k_ hk_ => ⟨hk_.1.1.1.2, hk_.1.1.2, hk_.1.2⟩)); replace HB := mS (hb); (try clear hb); (try clear hkp); (try clear hy0)))
       (try simp only [Act.put, zA, zB, zC])
       go_cut [76] (fun v76 wc => ∃ (kq : Nat) (x76_86 : Bool), v76 = .bool x76_86 ∧ Aside0 (laws_FnExactMemPut.j1 kq a2 t267 x76_86 l0_0 a1_0 a1_1 a1_2 t264 t276 = some r) ∧ Aside0 (kq ≤ kj25) ∧ Aside0 (Kd.R k35 35 wc w.heap.size (fun k_ => some k_ ≠ ((.slice Ao47 t269.length co47) : Value).ownBlock ∧ some k_ ≠ ((.slice Ao58 t276.length co58) : Value).ownBlock) (.slice Ao41 t264.length co41) t264) ∧ Aside0 (Kd.R k35 35 wc w.heap.size (fun k_ => some k_ ≠ ((.slice Ao41 t264.length co41) : Value).ownBlock ∧ some k_ ≠ ((.slice Ao58 t276.length co58) : Value).ownBlock) (.slice Ao47 t269.length co47) t287) ∧ Aside0 (Kd.R k35 35 wc w.heap.size (fun k_ => some k_ ≠ ((.slice Ao41 t264.length co41) : Value).ownBlock ∧ some k_ ≠ ((.slice Ao47 t269.length co47) : Value).ownBlock) (.slice Ao58 t276.length co58) t276) ∧ Aside0 (wc.heap[gb254]? = some (.cells #[(.slice A0_0 l0_0.length c0_0)] 78 (0, 0))) ∧ Aside0 (wc.heap[gb255]? = some (.cells #[.string a1_0, .string a1_1, .bool a1_2] 84 (0, 0))) ∧ Aside0 (wc.heap[gb268]? = some (.cells #[(.slice Ao41 t264.length co41)] 26 (0, 0))) ∧ Aside0 (wc.heap[gb272]? = some (.cells #[(.slice Ao47 t269.length co47)] 26 (0, 0))) ∧ Aside0 (wc.heap[gb280]? = some (.cells #[(.slice Ao58 t276.length co58)] 26 (0, 0))) ∧ Aside0 (Below w.heap.size w wc))
       case first =>
        have H := HC87.out
        clear HC87
        by_cases c98 : t286 < 0
        ·rw [if_pos c98] at H
         have c98b0 : decide (t286 < 0) = true := decide_eq_true c98
         clear c98
         (first | rw [c98b0] | (simp only [i64_w, i32_w]; rw [c98b0]) | skip)
         have H' := mS H
         clear H
         go_wp2
         go_meet
         case rel => exact ⟨_, (true), (by first | rfl | (simp; done) | (simp [*]; done)), H', ⟨by have := HJ25.out; first | omega | exact Nat.le_refl _⟩, ⟨by (with_reducible repeat (first | apply Kd.R_alloc | apply Kd.R_drewN | apply Kd.R_drew)); exact Kd.R_mono HO_269000.out (fun _ hk => ⟨hk.1, hk.2.1⟩)⟩, ⟨by (with_reducible repeat (first | apply Kd.R_alloc | apply Kd.R_drewN | apply Kd.R_drew)); exact Kd.R_mono HO_273000.out (fun _ hk => ⟨hk.1.1, hk.1.2⟩)⟩, ⟨by (with_reducible repeat (first | apply Kd.R_alloc | apply Kd.R_drewN | apply Kd.R_drew)); exact Kd.R_mono HO_281000.out (fun _ hk => ⟨hk.1, hk.2.1⟩)⟩, ⟨by (with_reducible repeat (first | refine blk_drewN ?_ _ | refine blk_drew ?_ | refine blk_alloc ?_ _)); exact BK254.out⟩, ⟨by (with_reducible repeat (first | refine blk_drewN ?_ _ | refine blk_drew ?_ | refine blk_alloc ?_ _)); exact BK255.out⟩, ⟨by (with_reducible repeat (first | refine blk_drewN ?_ _ | refine blk_drew ?_ | refine blk_alloc ?_ _)); exact BK268.out⟩, ⟨by (with_reducible repeat (first | refine blk_drewN ?_ _ | refine blk_drew ?_ | refine blk_alloc ?_ _)); exact BK272.out⟩, ⟨by (with_reducible repeat (first | refine blk_drewN ?_ _ | refine blk_drew ?_ | refine blk_alloc ?_ _)); exact BK280.out⟩, ⟨(mH5 HB.out GE254.out GE255.out GE268.out GE272.out GE280.out)⟩⟩
        ·rw [if_neg c98] at H
         have c98b0 : decide (t286 < 0) = false := decide_eq_false c98
         clear c98
         (first | rw [c98b0] | (simp only [i64_w, i32_w]; rw [c98b0]) | skip)
         replace H := Option.bind_eq_some_iff.mp H
         obtain ⟨t288, A990, H⟩ := H
         replace H : (if t288 = true then (laws_FnExactMemPut.j1 kj25 a2 t267 (t279 != t267) l0_0 a1_0 a1_1 a1_2 t264 t276) else (laws_FnExactMemPut.j1 kj25 a2 t267 true l0_0 a1_0 a1_1 a1_2 t264 t276)) = some r := H
         have A99 := mS A990
         clear A990
         by_cases c100 : t288 = true
         ·subst c100
          have H1 : (laws_FnExactMemPut.j1 kj25 a2 t267 (t279 != t267) l0_0 a1_0 a1_1 a1_2 t264 t276) = some r := by rw [if_pos rfl] at H; exact H
          clear H
          have H := H1
          clear H1
          have H' := mS H
          clear H
          have hnb101 := NB280_254.out
          have hnc101 := NB254_280.out
          have hnb102 := NB280_255.out
          have hnc102 := NB255_280.out
          have hnb103 := NB280_268.out
          have hnc103 := NB268_280.out
          have hnb104 := NB280_272.out
          have hnc104 := NB272_280.out
          have hcz105_0 : w97.cell? ⟨gb280, 0, none⟩ = some (.slice Ao58 t276.length co58) := (blk_cell BK280.out 0).trans rfl
          have hfz105_0 := blk_frozen BK280.out 0
          have hnb106 := NB268_254.out
          have hnc106 := NB254_268.out
          have hnb107 := NB268_255.out
          have hnc107 := NB255_268.out
          have hnb108 := NB268_272.out
          have hnc108 := NB272_268.out
          have hcz109_0 : w97.cell? ⟨gb268, 0, none⟩ = some (.slice Ao41 t264.length co41) := (blk_cell BK268.out 0).trans rfl
          have hfz109_0 := blk_frozen BK268.out 0
          go_wp2_with (first | (go_at_call 49; (with_reducible refine (laws_eqMem.calls kj25 _ _ t276 _ _ t264 true _ ?side1 ?side2 ?side3 ?side4 A99.out).mono ?_); (case side1 => repeat (first | exact (Kd.R_reads' HO_281000.out).2.2 | (with_reducible refine Kd.C_alloc ?_ _) | (with_reducible refine Kd.C_drewN ?_ _) | (with_reducible refine Kd.C_drew ?_))); (case side2 => exact (Kd.R_reads' HO_281000.out).2.1); (case side3 => repeat (first | exact (Kd.R_reads' HO_269000.out).2.2 | (with_reducible refine Kd.C_alloc ?_ _) | (with_reducible refine Kd.C_drewN ?_ _) | (with_reducible refine Kd.C_drew ?_))); (case side4 => exact (Kd.R_reads' HO_269000.out).2.1); rintro e w110 ⟨rfl, hb⟩; replace HO_269000 := mS (Kd.R_below (mR HO_269000.out) hb); replace HO_273000 := mS (Kd.R_below (mR HO_273000.out) hb); replace HO_281000 := mS (Kd.R_below (mR HO_281000.out) hb); replace HO284 := mS (Kd.R_below (mR HO284.out) hb); replace BK254 := mB BK254 hb; replace BK255 := mB BK255 hb; replace BK268 := mB BK268 hb; replace BK272 := mB BK272 hb; replace BK280 := mB BK280 hb; replace HB := mS (below_step (mH5 HB.out GE254.out GE255.out GE268.out GE272.out GE280.out) hb); (try clear hb); (try clear hb2); (try clear hk); (try clear hi)))
          go_meet
          case rel => exact ⟨_, ((t279 != t267)), (by first | rfl | (simp; done) | (simp [*]; done)), H', ⟨by have := HJ25.out; first | omega | exact Nat.le_refl _⟩, ⟨by (with_reducible repeat (first | apply Kd.R_alloc | apply Kd.R_drewN | apply Kd.R_drew)); exact Kd.R_mono HO_269000.out (fun _ hk => ⟨hk.1, hk.2.1⟩)⟩, ⟨by (with_reducible repeat (first | apply Kd.R_alloc | apply Kd.R_drewN | apply Kd.R_drew)); exact Kd.R_mono HO_273000.out (fun _ hk => ⟨hk.1.1, hk.1.2⟩)⟩, ⟨by (with_reducible repeat (first | apply Kd.R_alloc | apply Kd.R_drewN | apply Kd.R_drew)); exact Kd.R_mono HO_281000.out (fun _ hk => ⟨hk.1, hk.2.1⟩)⟩, ⟨by (with_reducible repeat (first | refine blk_drewN ?_ _ | refine blk_drew ?_ | refine blk_alloc ?_ _)); exact BK254.out⟩, ⟨by (with_reducible repeat (first | refine blk_drewN ?_ _ | refine blk_drew ?_ | refine blk_alloc ?_ _)); exact BK255.out⟩, ⟨by (with_reducible repeat (first | refine blk_drewN ?_ _ | refine blk_drew ?_ | refine blk_alloc ?_ _)); exact BK268.out⟩, ⟨by (with_reducible repeat (first | refine blk_drewN ?_ _ | refine blk_drew ?_ | refine blk_alloc ?_ _)); exact BK272.out⟩, ⟨by (with_reducible repeat (first | refine blk_drewN ?_ _ | refine blk_drew ?_ | refine blk_alloc ?_ _)); exact BK280.out⟩, ⟨(mH5 HB.out GE254.out GE255.out GE268.out GE272.out GE280.out)⟩⟩
         ·replace c100 := Bool.eq_false_iff.mpr c100
          subst c100
          have H1 : (laws_FnExactMemPut.j1 kj25 a2 t267 true l0_0 a1_0 a1_1 a1_2 t264 t276) = some r := by rw [if_neg (show ¬ (false = true) by decide)] at H; exact H
          clear H
          have H := H1
          clear H1
          have H' := mS H
          clear H
          have hnb111 := NB280_254.out
          have hnc111 := NB254_280.out
          have hnb112 := NB280_255.out
          have hnc112 := NB255_280.out
          have hnb113 := NB280_268.out
          have hnc113 := NB268_280.out
          have hnb114 := NB280_272.out
          have hnc114 := NB272_280.out
          have hcz115_0 : w97.cell? ⟨gb280, 0, none⟩ = some (.slice Ao58 t276.length co58) := (blk_cell BK280.out 0).trans rfl
          have hfz115_0 := blk_frozen BK280.out 0
          have hnb116 := NB268_254.out
          have hnc116 := NB254_268.out
          have hnb117 := NB268_255.out
          have hnc117 := NB255_268.out
          have hnb118 := NB268_272.out
          have hnc118 := NB272_268.out
          have hcz119_0 : w97.cell? ⟨gb268, 0, none⟩ = some (.slice Ao41 t264.length co41) := (blk_cell BK268.out 0).trans rfl
          have hfz119_0 := blk_frozen BK268.out 0
          go_wp2_with (first | (go_at_call 49; (with_reducible refine (laws_eqMem.calls kj25 _ _ t276 _ _ t264 false _ ?side1 ?side2 ?side3 ?side4 A99.out).mono ?_); (case side1 => repeat (first | exact (Kd.R_reads' HO_281000.out).2.2 | (with_reducible refine Kd.C_alloc ?_ _) | (with_reducible refine Kd.C_drewN ?_ _) | (with_reducible refine Kd.C_drew ?_))); (case side2 => exact (Kd.R_reads' HO_281000.out).2.1); (case side3 => repeat (first | exact (Kd.R_reads' HO_269000.out).2.2 | (with_reducible refine Kd.C_alloc ?_ _) | (with_reducible refine Kd.C_drewN ?_ _) | (with_reducible refine Kd.C_drew ?_))); (case side4 => exact (Kd.R_reads' HO_269000.out).2.1); rintro e w120 ⟨rfl, hb⟩; replace HO_269000 := mS (Kd.R_below (mR HO_269000.out) hb); replace HO_273000 := mS (Kd.R_below (mR HO_273000.out) hb); replace HO_281000 := mS (Kd.R_below (mR HO_281000.out) hb); replace HO284 := mS (Kd.R_below (mR HO284.out) hb); replace BK254 := mB BK254 hb; replace BK255 := mB BK255 hb; replace BK268 := mB BK268 hb; replace BK272 := mB BK272 hb; replace BK280 := mB BK280 hb; replace HB := mS (below_step (mH5 HB.out GE254.out GE255.out GE268.out GE272.out GE280.out) hb); (try clear hb); (try clear hb2); (try clear hk); (try clear hi)))
          go_meet
          case rel => exact ⟨_, (true), (by first | rfl | (simp; done) | (simp [*]; done)), H', ⟨by have := HJ25.out; first | omega | exact Nat.le_refl _⟩, ⟨by (with_reducible repeat (first | apply Kd.R_alloc | apply Kd.R_drewN | apply Kd.R_drew)); exact Kd.R_mono HO_269000.out (fun _ hk => ⟨hk.1, hk.2.1⟩)⟩, ⟨by (with_reducible repeat (first | apply Kd.R_alloc | apply Kd.R_drewN | apply Kd.R_drew)); exact Kd.R_mono HO_273000.out (fun _ hk => ⟨hk.1.1, hk.1.2⟩)⟩, ⟨by (with_reducible repeat (first | apply Kd.R_alloc | apply Kd.R_drewN | apply Kd.R_drew)); exact Kd.R_mono HO_281000.out (fun _ hk => ⟨hk.1, hk.2.1⟩)⟩, ⟨by (with_reducible repeat (first | refine blk_drewN ?_ _ | refine blk_drew ?_ | refine blk_alloc ?_ _)); exact BK254.out⟩, ⟨by (with_reducible repeat (first | refine blk_drewN ?_ _ | refine blk_drew ?_ | refine blk_alloc ?_ _)); exact BK255.out⟩, ⟨by (with_reducible repeat (first | refine blk_drewN ?_ _ | refine blk_drew ?_ | refine blk_alloc ?_ _)); exact BK268.out⟩, ⟨by (with_reducible repeat (first | refine blk_drewN ?_ _ | refine blk_drew ?_ | refine blk_alloc ?_ _)); exact BK272.out⟩, ⟨by (with_reducible repeat (first | refine blk_drewN ?_ _ | refine blk_drew ?_ | refine blk_alloc ?_ _)); exact BK280.out⟩, ⟨(mH5 HB.out GE254.out GE255.out GE268.out GE272.out GE280.out)⟩⟩
       case rest =>
        clear HC87
        try clear c1
        try clear c2
        try clear p2
        try clear c4
        try clear c5
        try clear c6
        try clear c7
        try clear c8
        try clear c9
        try clear c10
        try clear c11
        try clear c20
        try clear c48
        try clear c49
        try clear c50
        try clear c52
        try clear c61
        try clear c62
        try clear c63
        try clear c64
        try clear c65
        try clear c67
        try clear c68
        try clear c69
        try clear c72
        try clear c73
        try clear c74
        try clear c75
        try clear c77
        try clear c78
        try clear c79
        try clear c82
        try clear c85
        try clear c92
        try clear c93
        try clear c94
        try clear c95
        try clear c98
        try clear c98b0
        try clear c100
        try clear c101
        try clear c102
        try clear c103
        try clear c104
        try clear c106
        try clear c107
        try clear c108
        try clear c111
        try clear c112
        try clear c113
        try clear c114
        try clear c116
        try clear c117
        try clear c118
        try clear hcz105_0
        try clear hcz109_0
        try clear hcz115_0
        try clear hcz119_0
        try clear hcz66_0
        try clear hcz70_0
        try clear hcz76_0
        try clear hcz80_0
        try clear hcz96_0
        try clear hfz105_0
        try clear hfz109_0
        try clear hfz115_0
        try clear hfz119_0
        try clear hfz66_0
        try clear hfz70_0
        try clear hfz76_0
        try clear hfz80_0
        try clear hfz96_0
        try clear p2
        obtain ⟨kq, x76_86, rfl, HA, HJ86, HO_269000, HO_273000, HO_281000, BK254, BK255, BK268, BK272, BK280, HB⟩ := hcut
        have hl273000_86 := (Kd.R_reads' HO_273000.out).1
        rw [hl273000_86] at HO_273000
        (try simp only [hl273000_86])
        (try simp only [hl273000_86] at BK254)
        (try simp only [hl273000_86] at BK255)
        (try simp only [hl273000_86] at BK268)
        (try simp only [hl273000_86] at BK272)
        (try simp only [hl273000_86] at BK280)
        (try simp only [hl273000_86] at HO_269000)
        (try simp only [hl273000_86] at HO_281000)
        cases kq with
        | zero => exact absurd HA.out (by simp [laws_FnExactMemPut.j1])
        | succ kj86 =>
         have H := HA.out
         clear HA
         simp only [laws_FnExactMemPut.j1] at H
         by_cases c121 : x76_86 = true
         ·subst c121
          have H1 : (some false) = some r := by rw [if_pos rfl] at H; exact H
          clear H
          have H := H1
          clear H1
          obtain rfl := Option.some.inj H
          go_wp2
          go_ret
          exact ⟨by first | rfl | (simp [errW_none, errW_some] <;> rfl) | (simp [*, errW_none, errW_some] <;> rfl), (mH5 HB.out GE254.out GE255.out GE268.out GE272.out GE280.out)⟩
         ·replace c121 := Bool.eq_false_iff.mpr c121
          subst c121
          have H1 : ((laws_markMem.f kj86 t276 1).bind fun bt289 => ((laws_heldMem.f kj86 bt289.2 1).bind fun t291 => (if t291 < 0 then (some false) else (if t291 = bt289.1 then ((laws_toMem.f kj86 l0_0).bind fun t292 => ((laws_toPair.f a1_0 a1_1 a1_2).bind fun bt295 => ((impl_MemPut.f kj86 t292 bt295.1 bt295.2.1 bt295.2.2 a2).bind fun bt298 => ((laws_eqMem.f kj86 bt298.1 t264).bind fun t303 => (if t303 = true then (laws_FnExactMemPut.j2 kj86 bt289.1 (bt298.2 != t267) bt289.2) else (laws_FnExactMemPut.j2 kj86 bt289.1 true bt289.2)))))) else (some false))))) = some r := by rw [if_neg (show ¬ (false = true) by decide)] at H; exact H
          clear H
          have H := H1
          clear H1
          replace H := Option.bind_eq_some_iff.mp H
          obtain ⟨⟨t289, t290⟩, A1220, H⟩ := H
          replace H : ((laws_heldMem.f kj86 t290 1).bind fun t291 => (if t291 < 0 then (some false) else (if t291 = t289 then ((laws_toMem.f kj86 l0_0).bind fun t292 => ((laws_toPair.f a1_0 a1_1 a1_2).bind fun bt295 => ((impl_MemPut.f kj86 t292 bt295.1 bt295.2.1 bt295.2.2 a2).bind fun bt298 => ((laws_eqMem.f kj86 bt298.1 t264).bind fun t303 => (if t303 = true then (laws_FnExactMemPut.j2 kj86 t289 (bt298.2 != t267) t290) else (laws_FnExactMemPut.j2 kj86 t289 true t290)))))) else (some false)))) = some r := H
          have A122 := mS A1220
          clear A1220
          replace H := Option.bind_eq_some_iff.mp H
          obtain ⟨t291, A1230, H⟩ := H
          replace H : (if t291 < 0 then (some false) else (if t291 = t289 then ((laws_toMem.f kj86 l0_0).bind fun t292 => ((laws_toPair.f a1_0 a1_1 a1_2).bind fun bt295 => ((impl_MemPut.f kj86 t292 bt295.1 bt295.2.1 bt295.2.2 a2).bind fun bt298 => ((laws_eqMem.f kj86 bt298.1 t264).bind fun t303 => (if t303 = true then (laws_FnExactMemPut.j2 kj86 t289 (bt298.2 != t267) t290) else (laws_FnExactMemPut.j2 kj86 t289 true t290)))))) else (some false))) = some r := H
          have A123 := mS A1230
          clear A1230
          by_cases c124 : t291 < 0
          ·rw [if_pos c124] at H
           have c124b0 : decide (t291 < 0) = true := decide_eq_true c124
           clear c124
           obtain rfl := Option.some.inj H
           have hnb125 := NB280_254.out
           have hnc125 := NB254_280.out
           have hnb126 := NB280_255.out
           have hnc126 := NB255_280.out
           have hnb127 := NB280_268.out
           have hnc127 := NB268_280.out
           have hnb128 := NB280_272.out
           have hnc128 := NB272_280.out
           have hcz129_0 : wc.cell? ⟨gb280, 0, none⟩ = some (.slice Ao58 t276.length co58) := (blk_cell BK280.out 0).trans rfl
           have hfz129_0 := blk_frozen BK280.out 0
           go_wp2_with (first | ((with_reducible refine gate_callee (f := 50) rfl ?_); refine goesL_ (some 79) rfl rfl Try.func50 (by kernel_rfl) rfl #[.agg #[.slice Ao58 t276.length co58], .int .i64 1] rfl mA ?_; (with_reducible refine (laws_markMem.calls kj86 (fun k_ => some k_ = (.slice Ao58 t276.length co58 : Value).ownBlock) (.slice Ao58 t276.length co58) t276 1 t289 t290 w _ ?side1 ?side2 A122.out).mono ?_); (case side1 => repeat (first | (with_reducible first | exact HB.out | apply below_alloc | apply pw_below_drewN | apply below_drew1 | refine below_set ?_ GE254.out | refine below_set ?_ GE255.out | refine below_set ?_ GE268.out | refine below_set ?_ GE272.out | refine below_set ?_ GE280.out) | exact HB.out)); (case side2 => exact Kd.R_tight rfl HO_281000.out); rintro e w130 ⟨rfl, hy0, hb, hkp⟩; refine ⟨_, rfl, ?_⟩; replace HO_269000 := mS (Kd.R_mono (ok' := fun k_ => some k_ ≠ (.slice Ao47 t287.length co47 : Value).ownBlock ∧ some k_ ≠ (.slice Ao58 t276.length co58 : Value).ownBlock) (Kd.R_keptB (HO_269000.out) hkp (fun k_ hk_ hs_ => (hk_.2) hs_)) (fun k_ hk_ => ⟨hk_.1.1, hk_.1.2⟩)); replace HO_273000 := mS (Kd.R_mono (ok' := fun k_ => some k_ ≠ (.slice Ao41 t264.length co41 : Value).ownBlock ∧ some k_ ≠ (.slice Ao58 t276.length co58 : Value).ownBlock) (Kd.R_keptB (HO_273000.out) hkp (fun k_ hk_ hs_ => (hk_.2) hs_)) (fun k_ hk_ => ⟨hk_.1.1, hk_.1.2⟩)); replace BK254 := mS (blk_kept (mK BK254.out) hkp (fun hs_ => (fun e_ => (Kd.R_ne HO_281000.out BK254.out (by decide)) e_) hs_)); replace BK255 := mS (blk_kept (mK BK255.out) hkp (fun hs_ => (fun e_ => (Kd.R_ne HO_281000.out BK255.out (by decide)) e_) hs_)); replace BK268 := mS (blk_kept (mK BK268.out) hkp (fun hs_ => (fun e_ => (Kd.R_ne HO_281000.out BK268.out (by decide)) e_) hs_)); replace BK272 := mS (blk_kept (mK BK272.out) hkp (fun hs_ => (fun e_ => (Kd.R_ne HO_281000.out BK272.out (by decide)) e_) hs_)); replace BK280 := mS (blk_kept (mK BK280.out) hkp (fun hs_ => (fun e_ => (Kd.R_ne HO_281000.out BK280.out (by decide)) e_) hs_)); replace HO_281000 := mS (Kd.R_reok rfl hy0 (fun k_ e_ => HO_281000.out.1 k_ e_)); replace HB := mS (hb); (try clear hb); (try clear hkp); (try clear hy0); have hcz131_0 : w130.cell? ⟨gb280, 0, none⟩ = some (.slice Ao58 t276.length co58) := (blk_cell BK280.out 0).trans rfl; have hfz131_0 := blk_frozen BK280.out 0) | ((with_reducible refine gate_callee (f := 53) rfl ?_); refine goesL_ (some 82) rfl rfl Try.func53 (by kernel_rfl) rfl #[.agg #[.slice Ao58 t290.length co58], .int .i64 1] rfl (by (try simp only [List.map_toArray, List.map_cons, List.map_nil]); first | done | (rw [show t290.length = t276.length from (Kd.R_reads' HO_281000.out).1.symm] <;> rfl) | rfl | (simp only [List.length_drop, List.length_take]; rfl)) ?_; (with_reducible refine (laws_heldMem.calls kj86 _ _ t290 1 t291 _ ?side1 ?side2 A123.out).mono ?_); (case side1 => repeat (first | exact (Kd.R_reads' HO_281000.out).2.2 | (with_reducible refine Kd.C_alloc ?_ _) | (with_reducible refine Kd.C_drewN ?_ _) | (with_reducible refine Kd.C_drew ?_))); (case side2 => rw [show t290.length = t276.length from (Kd.R_reads' HO_281000.out).1.symm]; exact (Kd.R_reads' HO_281000.out).2.1); rintro e w132 ⟨rfl, hb⟩; refine ⟨_, rfl, ?_⟩; replace HO_269000 := mS (Kd.R_below (mR HO_269000.out) hb); replace HO_273000 := mS (Kd.R_below (mR HO_273000.out) hb); replace HO_281000 := mS (Kd.R_below (mR HO_281000.out) hb); replace BK254 := mB BK254 hb; replace BK255 := mB BK255 hb; replace BK268 := mB BK268 hb; replace BK272 := mB BK272 hb; replace BK280 := mB BK280 hb; replace HB := mS (below_step (mH5 HB.out GE254.out GE255.out GE268.out GE272.out GE280.out) hb); (try clear hb); (try clear hb2); (try clear hk); (try clear hi)))
           go_ret
           exact ⟨by first | rfl | (simp [errW_none, errW_some] <;> rfl) | (simp [*, errW_none, errW_some] <;> rfl), (mH5 HB.out GE254.out GE255.out GE268.out GE272.out GE280.out)⟩
          ·rw [if_neg c124] at H
           have c124b0 : decide (t291 < 0) = false := decide_eq_false c124
           clear c124
           by_cases c133 : t291 = t289
           ·rw [if_pos c133] at H
            have c133b0 : (t291 == t289) = true := beq_iff_eq.mpr c133
            have c133b1 : (t291 != t289) = false := bne_eq_false_iff_eq.mpr c133
            clear c133
            replace H := Option.bind_eq_some_iff.mp H
            obtain ⟨t292, A1340, H⟩ := H
            replace H : ((laws_toPair.f a1_0 a1_1 a1_2).bind fun bt295 => ((impl_MemPut.f kj86 t292 bt295.1 bt295.2.1 bt295.2.2 a2).bind fun bt298 => ((laws_eqMem.f kj86 bt298.1 t264).bind fun t303 => (if t303 = true then (laws_FnExactMemPut.j2 kj86 t289 (bt298.2 != t267) t290) else (laws_FnExactMemPut.j2 kj86 t289 true t290))))) = some r := H
            have A134 := mS A1340
            clear A1340
            replace H := Option.bind_eq_some_iff.mp H
            obtain ⟨⟨t295, t296, t297⟩, A1350, H⟩ := H
            replace H : ((impl_MemPut.f kj86 t292 t295 t296 t297 a2).bind fun bt298 => ((laws_eqMem.f kj86 bt298.1 t264).bind fun t303 => (if t303 = true then (laws_FnExactMemPut.j2 kj86 t289 (bt298.2 != t267) t290) else (laws_FnExactMemPut.j2 kj86 t289 true t290)))) = some r := H
            have A135 := mS A1350
            clear A1350
            replace H := Option.bind_eq_some_iff.mp H
            obtain ⟨⟨t298, t301⟩, A1360, H⟩ := H
            replace H : ((laws_eqMem.f kj86 t298 t264).bind fun t303 => (if t303 = true then (laws_FnExactMemPut.j2 kj86 t289 (t301 != t267) t290) else (laws_FnExactMemPut.j2 kj86 t289 true t290))) = some r := H
            have A136 := mS A1360
            clear A1360
            have HC137 := mS H
            clear H
            have hnb138 := NB280_254.out
            have hnc138 := NB254_280.out
            have hnb139 := NB280_255.out
            have hnc139 := NB255_280.out
            have hnb140 := NB280_268.out
            have hnc140 := NB268_280.out
            have hnb141 := NB280_272.out
            have hnc141 := NB272_280.out
            have hcz142_0 : wc.cell? ⟨gb280, 0, none⟩ = some (.slice Ao58 t276.length co58) := (blk_cell BK280.out 0).trans rfl
            have hfz142_0 := blk_frozen BK280.out 0
            try go_wp2_with (first | ((with_reducible refine gate_callee (f := 50) rfl ?_); refine goesL_ (some 79) rfl rfl Try.func50 (by kernel_rfl) rfl #[.agg #[.slice Ao58 t276.length co58], .int .i64 1] rfl mA ?_; (with_reducible refine (laws_markMem.calls kj86 (fun k_ => some k_ = (.slice Ao58 t276.length co58 : Value).ownBlock) (.slice Ao58 t276.length co58) t276 1 t289 t290 w _ ?side1 ?side2 A122.out).mono ?_); (case side1 => repeat (first | (with_reducible first | exact HB.out | apply below_alloc | apply pw_below_drewN | apply below_drew1 | refine below_set ?_ GE254.out | refine below_set ?_ GE255.out | refine below_set ?_ GE268.out | refine below_set ?_ GE272.out | refine below_set ?_ GE280.out) | exact HB.out)); (case side2 => exact Kd.R_tight rfl HO_281000.out); rintro e w143 ⟨rfl, hy0, hb, hkp⟩; refine ⟨_, rfl, ?_⟩; replace HO_269000 := mS (Kd.R_mono (ok' := fun k_ => some k_ ≠ (.slice Ao47 t287.length co47 : Value).ownBlock ∧ some k_ ≠ (.slice Ao58 t276.length co58 : Value).ownBlock) (Kd.R_keptB (HO_269000.out) hkp (fun k_ hk_ hs_ => (hk_.2) hs_)) (fun k_ hk_ => ⟨hk_.1.1, hk_.1.2⟩)); replace HO_273000 := mS (Kd.R_mono (ok' := fun k_ => some k_ ≠ (.slice Ao41 t264.length co41 : Value).ownBlock ∧ some k_ ≠ (.slice Ao58 t276.length co58 : Value).ownBlock) (Kd.R_keptB (HO_273000.out) hkp (fun k_ hk_ hs_ => (hk_.2) hs_)) (fun k_ hk_ => ⟨hk_.1.1, hk_.1.2⟩)); replace BK254 := mS (blk_kept (mK BK254.out) hkp (fun hs_ => (fun e_ => (Kd.R_ne HO_281000.out BK254.out (by decide)) e_) hs_)); replace BK255 := mS (blk_kept (mK BK255.out) hkp (fun hs_ => (fun e_ => (Kd.R_ne HO_281000.out BK255.out (by decide)) e_) hs_)); replace BK268 := mS (blk_kept (mK BK268.out) hkp (fun hs_ => (fun e_ => (Kd.R_ne HO_281000.out BK268.out (by decide)) e_) hs_)); replace BK272 := mS (blk_kept (mK BK272.out) hkp (fun hs_ => (fun e_ => (Kd.R_ne HO_281000.out BK272.out (by decide)) e_) hs_)); replace BK280 := mS (blk_kept (mK BK280.out) hkp (fun hs_ => (fun e_ => (Kd.R_ne HO_281000.out BK280.out (by decide)) e_) hs_)); replace HO_281000 := mS (Kd.R_reok rfl hy0 (fun k_ e_ => HO_281000.out.1 k_ e_)); replace HB := mS (hb); (try clear hb); (try clear hkp); (try clear hy0); have hcz144_0 : w143.cell? ⟨gb280, 0, none⟩ = some (.slice Ao58 t276.length co58) := (blk_cell BK280.out 0).trans rfl; have hfz144_0 := blk_frozen BK280.out 0) | ((with_reducible refine gate_callee (f := 53) rfl ?_); refine goesL_ (some 82) rfl rfl Try.func53 (by kernel_rfl) rfl #[.agg #[.slice Ao58 t290.length co58], .int .i64 1] rfl (by (try simp only [List.map_toArray, List.map_cons, List.map_nil]); first | done | (rw [show t290.length = t276.length from (Kd.R_reads' HO_281000.out).1.symm] <;> rfl) | rfl | (simp only [List.length_drop, List.length_take]; rfl)) ?_; (with_reducible refine (laws_heldMem.calls kj86 _ _ t290 1 t291 _ ?side1 ?side2 A123.out).mono ?_); (case side1 => repeat (first | exact (Kd.R_reads' HO_281000.out).2.2 | (with_reducible refine Kd.C_alloc ?_ _) | (with_reducible refine Kd.C_drewN ?_ _) | (with_reducible refine Kd.C_drew ?_))); (case side2 => rw [show t290.length = t276.length from (Kd.R_reads' HO_281000.out).1.symm]; exact (Kd.R_reads' HO_281000.out).2.1); rintro e w145 ⟨rfl, hb⟩; refine ⟨_, rfl, ?_⟩; replace HO_269000 := mS (Kd.R_below (mR HO_269000.out) hb); replace HO_273000 := mS (Kd.R_below (mR HO_273000.out) hb); replace HO_281000 := mS (Kd.R_below (mR HO_281000.out) hb); replace BK254 := mB BK254 hb; replace BK255 := mB BK255 hb; replace BK268 := mB BK268 hb; replace BK272 := mB BK272 hb; replace BK280 := mB BK280 hb; replace HB := mS (below_step (mH5 HB.out GE254.out GE255.out GE268.out GE272.out GE280.out) hb); (try clear hb); (try clear hb2); (try clear hk); (try clear hi)))
            have n0_ := mS (Kd.R_drew HO_269000.out)
            have n1_ := mS (Kd.R_drew HO_273000.out)
            have n2_ := mS (Kd.R_drew HO_281000.out)
            have n3_ := mS (blk_drew BK254.out)
            have n4_ := mS (blk_drew BK255.out)
            have n5_ := mS (blk_drew BK268.out)
            have n6_ := mS (blk_drew BK272.out)
            have n7_ := mS (blk_drew BK280.out)
            have n8_ := mS (below_drew1 HB.out)
            clear HO_269000
            clear HO_273000
            clear HO_281000
            clear BK254
            clear BK255
            clear BK268
            clear BK272
            clear BK280
            clear HB
            have HO_269000 := n0_
            have HO_273000 := n1_
            have HO_281000 := n2_
            have BK254 := n3_
            have BK255 := n4_
            have BK268 := n5_
            have BK272 := n6_
            have BK280 := n7_
            have HB := n8_
            clear n0_ n1_ n2_ n3_ n4_ n5_ n6_ n7_ n8_
            refine start_ (n := 12) (S := fun w' => w'.cell? ⟨gb254, 0, none⟩ = some (.slice A0_0 l0_0.length c0_0) ∧ w'.cell? ⟨gb255, 0, none⟩ = some (.string a1_0) ∧ w'.cell? ⟨gb255, 1, none⟩ = some (.string a1_1) ∧ w'.cell? ⟨gb255, 2, none⟩ = some (.bool a1_2)) (ds := []) #[false, false, false, false, false, false, false, false, false, false, false, false] (by kernel_rfl) rfl rfl ⟨(blk_cell BK254.out 0).trans rfl, (blk_cell BK255.out 0).trans rfl, (blk_cell BK255.out 1).trans rfl, (blk_cell BK255.out 2).trans rfl⟩ (fun hHeld => ?_); refine with_tabW laws_FnExactMemPut.tab27 laws_FnExactMemPut.bits27 (fun HT_ HW_ => ?_)
            generalize w145.drew = w146 at HO_269000 HO_273000 HO_281000 BK254 BK255 BK268 BK272 BK280 HB hHeld ⊢
            refine pure_ (i := 4) (N := some 93) (v := ?_) (a' := ?_) #[false, false, false, false, true, false, false, false, false, false, false, false] rfl rfl (any_of HT_.out (by kernel_rfl)) (fun _ _ _ h => h) (Or.inl ⟨by rfl, ?_⟩) ?_ ?_
            rotate_left
            ·intro w'
             go_simp
             with_reducible rfl
            rotate_left
            ·simp only [Act.put, zA, zB, zC, i64_w, i32_w]
             rfl
            refine take_ (i := 0) (N := some 89) (v := ?_) (a' := ?_) #[true, false, false, false, true, false, false, false, false, false, false, false] rfl rfl (take_ofW HT_.out HW_.out (by kernel_rfl)) (fun _ _ _ h => h) (Or.inl ⟨by rfl, ?_⟩) hHeld ?_ ?_
            rotate_left
            ·rintro w' ⟨s0, s1, s2, s3⟩
             go_simp
             with_reducible rfl
            rotate_left
            ·simp only [Act.put, zA, zB, zC, i64_w, i32_w]
             rfl
            refine take_ (i := 2) (N := some 91) (v := ?_) (a' := ?_) #[true, false, true, false, true, false, false, false, false, false, false, false] rfl rfl (take_ofW HT_.out HW_.out (by kernel_rfl)) (fun _ _ _ h => h) (Or.inl ⟨by rfl, ?_⟩) hHeld ?_ ?_
            rotate_left
            ·rintro w' ⟨s0, s1, s2, s3⟩
             go_simp
             with_reducible rfl
            rotate_left
            ·simp only [Act.put, zA, zB, zC, i64_w, i32_w]
             rfl
            refine join_ (σ := Value × Value × Nat) 2 #[true, true, true, true, true, true, true, true, true, true, false, false] (fun s_ => [(90, .agg #[s_.1]), (92, .agg #[.string t295, .string t296, .bool t297]), (94, .tuple #[.agg #[s_.2.1], .bool t301]), (16, .pointer (some ⟨s_.2.2, 0, none⟩)), (88, .tuple #[.agg #[s_.2.1], .bool t301]), (95, .agg #[s_.2.1]), (96, .bool t301)]) (fun s_ w' => (w'.cell? ⟨gb254, 0, none⟩ = some (.slice A0_0 l0_0.length c0_0) ∧ w'.cell? ⟨gb255, 0, none⟩ = some (.string a1_0) ∧ w'.cell? ⟨gb255, 1, none⟩ = some (.string a1_1) ∧ w'.cell? ⟨gb255, 2, none⟩ = some (.bool a1_2)) ∧ (Kd.R k35 35 w' w.heap.size (fun k_ => some k_ ≠ (s_.2.1 : Value).ownBlock ∧ some k_ ≠ (.slice Ao41 t264.length co41 : Value).ownBlock ∧ some k_ ≠ (.slice Ao47 t287.length co47 : Value).ownBlock ∧ some k_ ≠ (.slice Ao58 t276.length co58 : Value).ownBlock) s_.1 t292) ∧ (Kd.R k35 35 w' w.heap.size (fun k_ => some k_ ≠ (s_.1 : Value).ownBlock ∧ some k_ ≠ (.slice Ao41 t264.length co41 : Value).ownBlock ∧ some k_ ≠ (.slice Ao47 t287.length co47 : Value).ownBlock ∧ some k_ ≠ (.slice Ao58 t276.length co58 : Value).ownBlock) s_.2.1 t298) ∧ (Kd.R k35 35 w' w.heap.size (fun k_ => some k_ ≠ (s_.1 : Value).ownBlock ∧ some k_ ≠ (s_.2.1 : Value).ownBlock ∧ some k_ ≠ (.slice Ao47 t287.length co47 : Value).ownBlock ∧ some k_ ≠ (.slice Ao58 t276.length co58 : Value).ownBlock) (.slice Ao41 t264.length co41) t264) ∧ (Kd.R k35 35 w' w.heap.size (fun k_ => some k_ ≠ (s_.1 : Value).ownBlock ∧ some k_ ≠ (s_.2.1 : Value).ownBlock ∧ some k_ ≠ (.slice Ao41 t264.length co41 : Value).ownBlock ∧ some k_ ≠ (.slice Ao58 t276.length co58 : Value).ownBlock) (.slice Ao47 t287.length co47) t287) ∧ (Kd.R k35 35 w' w.heap.size (fun k_ => some k_ ≠ (s_.1 : Value).ownBlock ∧ some k_ ≠ (s_.2.1 : Value).ownBlock ∧ some k_ ≠ (.slice Ao41 t264.length co41 : Value).ownBlock ∧ some k_ ≠ (.slice Ao47 t287.length co47 : Value).ownBlock) (.slice Ao58 t276.length co58) t290) ∧ (w'.heap[gb254]? = some (.cells #[.slice A0_0 l0_0.length c0_0] 78 (0, 0))) ∧ (w'.heap[gb255]? = some (.cells #[.string a1_0, .string a1_1, .bool a1_2] 84 (0, 0))) ∧ (w'.heap[gb268]? = some (.cells #[.slice Ao41 t264.length co41] 26 (0, 0))) ∧ (w'.heap[gb272]? = some (.cells #[.slice Ao47 t287.length co47] 26 (0, 0))) ∧ (w'.heap[gb280]? = some (.cells #[.slice Ao58 t276.length co58] 26 (0, 0))) ∧ (w'.heap[s_.2.2]? = some (.cells #[.slice none 0 0] 26 (0, 0))) ∧ (w.heap.size ≤ s_.2.2) ∧ (w.heap.size ≤ s_.2.2) ∧ (gb254 ≠ s_.2.2) ∧ (s_.2.2 ≠ gb254) ∧ (gb255 ≠ s_.2.2) ∧ (s_.2.2 ≠ gb255) ∧ (gb268 ≠ s_.2.2) ∧ (s_.2.2 ≠ gb268) ∧ (gb272 ≠ s_.2.2) ∧ (s_.2.2 ≠ gb272) ∧ (gb280 ≠ s_.2.2) ∧ (s_.2.2 ≠ gb280) ∧ (Below w.heap.size w w')) ?_ ?_
            rotate_left
            ·intro hCont
             refine two_ (i := 1) (j := 9) (Ni := some 90) (Nj := some 16) #[true, true, true, false, true, false, false, false, false, false, false, false] #[true, false, true, false, true, false, false, false, false, true, false, false] rfl rfl rfl rfl (two_of HT_.out (by kernel_rfl)) (by decide) (by decide) (fun K hK => ?_) (fun K hK => ?_)
             ·skip
              refine goes_ Try.func48 (by kernel_rfl) rfl #[.agg #[.slice A0_0 l0_0.length c0_0]] (by rfl) rfl rfl mA ?_
              with_reducible refine (laws_toMem.calls kj86 _ _ l0_0 t292 _ ?side1 ?side2 A134.out).mono ?_
              (case side1 => repeat (first | exact (Kd.C_below HR0_0.out HB.out) | (with_reducible refine Kd.C_alloc ?_ _) | (with_reducible refine Kd.C_drewN ?_ _) | (with_reducible refine Kd.C_drew ?_)))
              (case side2 => exact HC0_0.out)
              rintro e w147 ⟨v293, rfl, ho0, hb⟩
              refine ⟨_, rfl, ?_⟩
              have n0_ := mS (Kd.R_elder' (mR HO_269000.out) (Kd.R_base ho0) hb)
              have n1_ := mS (Kd.R_elder' (mR HO_273000.out) (Kd.R_base ho0) hb)
              have n2_ := mS (Kd.R_elder' (mR HO_281000.out) (Kd.R_base ho0) hb)
              have n3_ := mS (Kd.R_lower (Kd.R_new' (Kd.R_new' (Kd.R_new' ho0 (Kd.R_lt (mR HO_269000.out))) (Kd.R_lt (mR HO_273000.out))) (Kd.R_lt (mR HO_281000.out))) (below_size (mH5 HB.out GE254.out GE255.out GE268.out GE272.out GE280.out)))
              have n4_ := mB BK254 hb
              have n5_ := mB BK255 hb
              have n6_ := mB BK268 hb
              have n7_ := mB BK272 hb
              have n8_ := mB BK280 hb
              have n9_ := mS (below_step (mH5 HB.out GE254.out GE255.out GE268.out GE272.out GE280.out) hb)
              clear HO_269000
              clear HO_273000
              clear HO_281000
              clear BK254
              clear BK255
              clear BK268
              clear BK272
              clear BK280
              clear HB
              have HO_269000 := n0_
              have HO_273000 := n1_
              have HO_281000 := n2_
              have HO294 := n3_
              have BK254 := n4_
              have BK255 := n5_
              have BK268 := n6_
              have BK272 := n7_
              have BK280 := n8_
              have HB := n9_
              clear n0_ n1_ n2_ n3_ n4_ n5_ n6_ n7_ n8_ n9_
              (try clear hb)
              (try clear hb2)
              (try clear hk)
              (try clear hi)
              (try clear ho0)
              refine hK.out _ _ ⟨(blk_cell BK254.out 0).trans rfl, (blk_cell BK255.out 0).trans rfl, (blk_cell BK255.out 1).trans rfl, (blk_cell BK255.out 2).trans rfl⟩ (fun hHeld => ?_)
              clear hK K
              refine norm_ (a' := ?_) ?_ ?_
              rotate_left
              ·show Act.put _ (some 90) _ = _
               simp only [Act.put, zA, zB, zC, i64_w, i32_w]
               rfl
              refine two_ (i := 3) (j := 9) (Ni := some 92) (Nj := some 16) #[true, true, true, true, true, false, false, false, false, false, false, false] #[true, true, true, false, true, false, false, false, false, true, false, false] rfl rfl rfl rfl (two_of HT_.out (by kernel_rfl)) (by decide) (by decide) (fun K hK => ?_) (fun K hK => ?_)
              ·skip
               refine goes_ Try.func52 (by kernel_rfl) rfl #[.agg #[.string a1_0, .string a1_1, .bool a1_2]] (by rfl) rfl rfl mA ?_
               with_reducible refine (laws_toPair.calls a1_0 a1_1 a1_2 t295 t296 t297 _ A135.out).mono ?_
               rintro e w148 ⟨rfl, hb⟩
               refine ⟨_, rfl, ?_⟩
               have n0_ := mS (Kd.R_below (mR HO_269000.out) hb)
               have n1_ := mS (Kd.R_below (mR HO_273000.out) hb)
               have n2_ := mS (Kd.R_below (mR HO_281000.out) hb)
               have n3_ := mS (Kd.R_below (mR HO294.out) hb)
               have n4_ := mB BK254 hb
               have n5_ := mB BK255 hb
               have n6_ := mB BK268 hb
               have n7_ := mB BK272 hb
               have n8_ := mB BK280 hb
               have n9_ := mS (below_step (mH5 HB.out GE254.out GE255.out GE268.out GE272.out GE280.out) hb)
               clear HO_269000
               clear HO_273000
               clear HO_281000
               clear HO294
               clear BK254
               clear BK255
               clear BK268
               clear BK272
               clear BK280
               clear HB
               have HO_269000 := n0_
               have HO_273000 := n1_
               have HO_281000 := n2_
               have HO294 := n3_
               have BK254 := n4_
               have BK255 := n5_
               have BK268 := n6_
               have BK272 := n7_
               have BK280 := n8_
               have HB := n9_
               clear n0_ n1_ n2_ n3_ n4_ n5_ n6_ n7_ n8_ n9_
               (try clear hb)
               (try clear hb2)
               (try clear hk)
               (try clear hi)
               obtain ⟨Ao149, co149, eo149⟩ := Kd.R_slice HO294.out
               (first | subst eo149 | (injection eo149 with f1_ f2_ f3_; have f4_ := f1_.symm; have f5_ := f3_.symm; clear f1_ f2_ f3_; subst f4_; subst f5_))
               refine hK.out _ _ ⟨(blk_cell BK254.out 0).trans rfl, (blk_cell BK255.out 0).trans rfl, (blk_cell BK255.out 1).trans rfl, (blk_cell BK255.out 2).trans rfl⟩ (fun hHeld => ?_)
               clear hK K
               refine norm_ (a' := ?_) ?_ ?_
               rotate_left
               ·show Act.put _ (some 92) _ = _
                simp only [Act.put, zA, zB, zC, i64_w, i32_w]
                rfl
               refine two_ (i := 5) (j := 9) (Ni := some 94) (Nj := some 16) #[true, true, true, true, true, true, false, false, false, false, false, false] #[true, true, true, true, true, false, false, false, false, true, false, false] rfl rfl rfl rfl (two_of HT_.out (by kernel_rfl)) (by decide) (by decide) (fun K hK => ?_) (fun K hK => ?_)
               ·skip
                refine goes_ Try.func20 (by kernel_rfl) rfl #[.agg #[.slice Ao149 t292.length co149], .agg #[.string t295, .string t296, .bool t297], .int .i64 a2] (by rfl) rfl rfl mA ?_
                with_reducible refine (impl_MemPut.calls kj86 _ _ t292 t295 t296 t297 a2 t298 t301 _ ?side1 ?side2 A136.out).mono ?_
                (case side1 => repeat (first | exact (Kd.R_reads' HO294.out).2.2 | (with_reducible refine Kd.C_alloc ?_ _) | (with_reducible refine Kd.C_drewN ?_ _) | (with_reducible refine Kd.C_drew ?_)))
                (case side2 => exact (Kd.R_reads' HO294.out).2.1)
                rintro e w150 ⟨v299, rfl, ho0, hb⟩
                refine ⟨_, rfl, ?_⟩
                have n0_ := mS (Kd.R_elder' (mR HO_269000.out) (Kd.R_base ho0) hb)
                have n1_ := mS (Kd.R_elder' (mR HO_273000.out) (Kd.R_base ho0) hb)
                have n2_ := mS (Kd.R_elder' (mR HO_281000.out) (Kd.R_base ho0) hb)
                have n3_ := mS (Kd.R_elder' (mR HO294.out) (Kd.R_base ho0) hb)
                have n4_ := mS (Kd.R_lower (Kd.R_new' (Kd.R_new' (Kd.R_new' (Kd.R_new' ho0 (Kd.R_lt (mR HO_269000.out))) (Kd.R_lt (mR HO_273000.out))) (Kd.R_lt (mR HO_281000.out))) (Kd.R_lt (mR HO294.out))) (below_size (mH5 HB.out GE254.out GE255.out GE268.out GE272.out GE280.out)))
                have n5_ := mB BK254 hb
                have n6_ := mB BK255 hb
                have n7_ := mB BK268 hb
                have n8_ := mB BK272 hb
                have n9_ := mB BK280 hb
                have n10_ := mS (below_step (mH5 HB.out GE254.out GE255.out GE268.out GE272.out GE280.out) hb)
                clear HO_269000
                clear HO_273000
                clear HO_281000
                clear HO294
                clear BK254
                clear BK255
                clear BK268
                clear BK272
                clear BK280
                clear HB
                have HO_269000 := n0_
                have HO_273000 := n1_
                have HO_281000 := n2_
                have HO294 := n3_
                have HO300 := n4_
                have BK254 := n5_
                have BK255 := n6_
                have BK268 := n7_
                have BK272 := n8_
                have BK280 := n9_
                have HB := n10_
                clear n0_ n1_ n2_ n3_ n4_ n5_ n6_ n7_ n8_ n9_ n10_
                (try clear hb)
                (try clear hb2)
                (try clear hk)
                (try clear hi)
                (try clear ho0)
                refine hK.out _ _ ⟨(blk_cell BK254.out 0).trans rfl, (blk_cell BK255.out 0).trans rfl, (blk_cell BK255.out 1).trans rfl, (blk_cell BK255.out 2).trans rfl⟩ (fun hHeld => ?_)
                clear hK K
                refine norm_ (a' := ?_) ?_ ?_
                rotate_left
                ·show Act.put _ (some 94) _ = _
                 simp only [Act.put, zA, zB, zC, i64_w, i32_w]
                 rfl
                refine pure_ (i := 6) (N := some 88) (v := ?_) (a' := ?_) #[true, true, true, true, true, true, true, false, false, false, false, false] rfl rfl (any_of HT_.out (by kernel_rfl)) (fun _ _ _ h => h) (Or.inl ⟨by rfl, ?_⟩) ?_ ?_
                rotate_left
                ·intro w'
                 go_simp
                 with_reducible rfl
                rotate_left
                ·simp only [Act.put, zA, zB, zC, i64_w, i32_w]
                 rfl
                refine pure_ (i := 7) (N := some 95) (v := ?_) (a' := ?_) #[true, true, true, true, true, true, true, true, false, false, false, false] rfl rfl (any_of HT_.out (by kernel_rfl)) (fun _ _ _ h => h) (Or.inl ⟨by rfl, ?_⟩) ?_ ?_
                rotate_left
                ·intro w'
                 go_simp
                 with_reducible rfl
                rotate_left
                ·simp only [Act.put, zA, zB, zC, i64_w, i32_w]
                 rfl
                refine pure_ (i := 8) (N := some 96) (v := ?_) (a' := ?_) #[true, true, true, true, true, true, true, true, true, false, false, false] rfl rfl (any_of HT_.out (by kernel_rfl)) (fun _ _ _ h => h) (Or.inl ⟨by rfl, ?_⟩) ?_ ?_
                rotate_left
                ·intro w'
                 go_simp
                 with_reducible rfl
                rotate_left
                ·simp only [Act.put, zA, zB, zC, i64_w, i32_w]
                 rfl
                refine one_ (i := 9) (N := some 16) #[true, true, true, true, true, true, true, true, true, true, false, false] rfl rfl (one_of HT_.out (by kernel_rfl)) (by decide) (fun K hK => ?_)
                refine box_step ?hg (N := 16) ?hd (cs := #[.slice none 0 0]) (t := 26) ?hr ?_; (case hd => rfl); (case hg => rfl); (case hr => first | (go_simp; done) | (go_simp; rfl))
                intro gb302 hg w151 hbox hb
                have n0_ := mS (Kd.R_below (mR HO_269000.out) hb)
                have n1_ := mS (Kd.R_below (mR HO_273000.out) hb)
                have n2_ := mS (Kd.R_below (mR HO_281000.out) hb)
                have n3_ := mS (Kd.R_below (mR HO294.out) hb)
                have n4_ := mS (Kd.R_below (mR HO300.out) hb)
                have n5_ := mB BK254 hb
                have n6_ := mB BK255 hb
                have n7_ := mB BK268 hb
                have n8_ := mB BK272 hb
                have n9_ := mB BK280 hb
                have n10_ := mS (below_step (mH5 HB.out GE254.out GE255.out GE268.out GE272.out GE280.out) hb)
                have n11_ := mS (hbox)
                have n12_ := mG hg (mH5 HB.out GE254.out GE255.out GE268.out GE272.out GE280.out)
                have n13_ := mG hg (mH5 HB.out GE254.out GE255.out GE268.out GE272.out GE280.out)
                have n14_ := mNl hg BK254.out
                have n15_ := mNg hg BK254.out
                have n16_ := mNl hg BK255.out
                have n17_ := mNg hg BK255.out
                have n18_ := mNl hg BK268.out
                have n19_ := mNg hg BK268.out
                have n20_ := mNl hg BK272.out
                have n21_ := mNg hg BK272.out
                have n22_ := mNl hg BK280.out
                have n23_ := mNg hg BK280.out
                clear HO_269000
                clear HO_273000
                clear HO_281000
                clear HO294
                clear HO300
                clear BK254
                clear BK255
                clear BK268
                clear BK272
                clear BK280
                clear HB
                have HO_269000 := n0_
                have HO_273000 := n1_
                have HO_281000 := n2_
                have HO294 := n3_
                have HO300 := n4_
                have BK254 := n5_
                have BK255 := n6_
                have BK268 := n7_
                have BK272 := n8_
                have BK280 := n9_
                have HB := n10_
                have BK302 := n11_
                have GW302 := n12_
                have GE302 := n13_
                have NB254_302 := n14_
                have NB302_254 := n15_
                have NB255_302 := n16_
                have NB302_255 := n17_
                have NB268_302 := n18_
                have NB302_268 := n19_
                have NB272_302 := n20_
                have NB302_272 := n21_
                have NB280_302 := n22_
                have NB302_280 := n23_
                clear n0_ n1_ n2_ n3_ n4_ n5_ n6_ n7_ n8_ n9_ n10_ n11_ n12_ n13_ n14_ n15_ n16_ n17_ n18_ n19_ n20_ n21_ n22_ n23_
                clear hb hbox hg
                refine hK.out _ _ ⟨(blk_cell BK254.out 0).trans rfl, (blk_cell BK255.out 0).trans rfl, (blk_cell BK255.out 1).trans rfl, (blk_cell BK255.out 2).trans rfl⟩ (fun hHeld => ?_)
                clear hK K
                refine norm_ (a' := ?_) ?_ ?_
                rotate_left
                ·show Act.put _ (some 16) _ = _
                 simp only [Act.put, zA, zB, zC, i64_w, i32_w]
                 rfl
                exact norm_ mU (hCont (.slice Ao149 t292.length co149, v299, gb302) _ ⟨hHeld, (by (with_reducible repeat (first | apply Kd.R_alloc | apply Kd.R_drewN | apply Kd.R_drew)); exact Kd.R_mono HO294.out (fun _ hk => ⟨hk.2, ⟨hk.1.1.1.2, ⟨hk.1.1.2, hk.1.2⟩⟩⟩)), (by (with_reducible repeat (first | apply Kd.R_alloc | apply Kd.R_drewN | apply Kd.R_drew)); exact Kd.R_mono HO300.out (fun _ hk => ⟨hk.2, ⟨hk.1.1.1.2, ⟨hk.1.1.2, hk.1.2⟩⟩⟩)), (by (with_reducible repeat (first | apply Kd.R_alloc | apply Kd.R_drewN | apply Kd.R_drew)); exact Kd.R_mono HO_269000.out (fun _ hk => ⟨hk.1.2, ⟨hk.2, ⟨hk.1.1.1, hk.1.1.2⟩⟩⟩)), (by (with_reducible repeat (first | apply Kd.R_alloc | apply Kd.R_drewN | apply Kd.R_drew)); exact Kd.R_mono HO_273000.out (fun _ hk => ⟨hk.1.2, ⟨hk.2, ⟨hk.1.1.1, hk.1.1.2⟩⟩⟩)), (by (with_reducible repeat (first | apply Kd.R_alloc | apply Kd.R_drewN | apply Kd.R_drew)); exact Kd.R_mono HO_281000.out (fun _ hk => ⟨hk.1.2, ⟨hk.2, ⟨hk.1.1.1, hk.1.1.2⟩⟩⟩)), (mK BK254.out), (mK BK255.out), (mK BK268.out), (mK BK272.out), (mK BK280.out), (mK BK302.out), GW302.out, GE302.out, NB254_302.out, NB302_254.out, NB255_302.out, NB302_255.out, NB268_302.out, NB302_268.out, NB272_302.out, NB302_272.out, NB280_302.out, NB302_280.out, (mH6 HB.out GE254.out GE255.out GE268.out GE272.out GE280.out GE302.out)⟩)
               ·skip
                refine box_step ?hg (N := 16) ?hd (cs := #[.slice none 0 0]) (t := 26) ?hr ?_; (case hd => rfl); (case hg => rfl); (case hr => first | (go_simp; done) | (go_simp; rfl))
                intro gb302 hg w149 hbox hb
                have n0_ := mS (Kd.R_below (mR HO_269000.out) hb)
                have n1_ := mS (Kd.R_below (mR HO_273000.out) hb)
                have n2_ := mS (Kd.R_below (mR HO_281000.out) hb)
                have n3_ := mS (Kd.R_below (mR HO294.out) hb)
                have n4_ := mB BK254 hb
                have n5_ := mB BK255 hb
                have n6_ := mB BK268 hb
                have n7_ := mB BK272 hb
                have n8_ := mB BK280 hb
                have n9_ := mS (below_step (mH5 HB.out GE254.out GE255.out GE268.out GE272.out GE280.out) hb)
                have n10_ := mS (hbox)
                have n11_ := mG hg (mH5 HB.out GE254.out GE255.out GE268.out GE272.out GE280.out)
                have n12_ := mG hg (mH5 HB.out GE254.out GE255.out GE268.out GE272.out GE280.out)
                have n13_ := mNl hg BK254.out
                have n14_ := mNg hg BK254.out
                have n15_ := mNl hg BK255.out
                have n16_ := mNg hg BK255.out
                have n17_ := mNl hg BK268.out
                have n18_ := mNg hg BK268.out
                have n19_ := mNl hg BK272.out
                have n20_ := mNg hg BK272.out
                have n21_ := mNl hg BK280.out
                have n22_ := mNg hg BK280.out
                clear HO_269000
                clear HO_273000
                clear HO_281000
                clear HO294
                clear BK254
                clear BK255
                clear BK268
                clear BK272
                clear BK280
                clear HB
                have HO_269000 := n0_
                have HO_273000 := n1_
                have HO_281000 := n2_
                have HO294 := n3_
                have BK254 := n4_
                have BK255 := n5_
                have BK268 := n6_
                have BK272 := n7_
                have BK280 := n8_
                have HB := n9_
                have BK302 := n10_
                have GW302 := n11_
                have GE302 := n12_
                have NB254_302 := n13_
                have NB302_254 := n14_
                have NB255_302 := n15_
                have NB302_255 := n16_
                have NB268_302 := n17_
                have NB302_268 := n18_
                have NB272_302 := n19_
                have NB302_272 := n20_
                have NB280_302 := n21_
                have NB302_280 := n22_
                clear n0_ n1_ n2_ n3_ n4_ n5_ n6_ n7_ n8_ n9_ n10_ n11_ n12_ n13_ n14_ n15_ n16_ n17_ n18_ n19_ n20_ n21_ n22_
                clear hb hbox hg
                obtain ⟨Ao150, co150, eo150⟩ := Kd.R_slice HO294.out
                (first | subst eo150 | (injection eo150 with f1_ f2_ f3_; have f4_ := f1_.symm; have f5_ := f3_.symm; clear f1_ f2_ f3_; subst f4_; subst f5_))
                refine hK.out _ _ ⟨(blk_cell BK254.out 0).trans rfl, (blk_cell BK255.out 0).trans rfl, (blk_cell BK255.out 1).trans rfl, (blk_cell BK255.out 2).trans rfl⟩ (fun hHeld => ?_)
                clear hK K
                refine norm_ (a' := ?_) ?_ ?_
                rotate_left
                ·show Act.put _ (some 16) _ = _
                 simp only [Act.put, zA, zB, zC, i64_w, i32_w]
                 rfl
                refine one_ (i := 5) (N := some 94) #[true, true, true, true, true, true, false, false, false, true, false, false] rfl rfl (one_of HT_.out (by kernel_rfl)) (by decide) (fun K hK => ?_)
                refine goes_ Try.func20 (by kernel_rfl) rfl #[.agg #[.slice Ao150 t292.length co150], .agg #[.string t295, .string t296, .bool t297], .int .i64 a2] (by rfl) rfl rfl mA ?_
                with_reducible refine (impl_MemPut.calls kj86 _ _ t292 t295 t296 t297 a2 t298 t301 _ ?side1 ?side2 A136.out).mono ?_
                (case side1 => repeat (first | exact (Kd.R_reads' HO294.out).2.2 | (with_reducible refine Kd.C_alloc ?_ _) | (with_reducible refine Kd.C_drewN ?_ _) | (with_reducible refine Kd.C_drew ?_)))
                (case side2 => exact (Kd.R_reads' HO294.out).2.1)
                rintro e w151 ⟨v299, rfl, ho0, hb⟩
                refine ⟨_, rfl, ?_⟩
                have n0_ := mS (Kd.R_elder' (mR HO_269000.out) (Kd.R_base ho0) hb)
                have n1_ := mS (Kd.R_elder' (mR HO_273000.out) (Kd.R_base ho0) hb)
                have n2_ := mS (Kd.R_elder' (mR HO_281000.out) (Kd.R_base ho0) hb)
                have n3_ := mS (Kd.R_elder' (mR HO294.out) (Kd.R_base ho0) hb)
                have n4_ := mS (Kd.R_lower (Kd.R_new' (Kd.R_new' (Kd.R_new' (Kd.R_new' ho0 (Kd.R_lt (mR HO_269000.out))) (Kd.R_lt (mR HO_273000.out))) (Kd.R_lt (mR HO_281000.out))) (Kd.R_lt (mR HO294.out))) (below_size (mH6 HB.out GE254.out GE255.out GE268.out GE272.out GE280.out GE302.out)))
                have n5_ := mB BK254 hb
                have n6_ := mB BK255 hb
                have n7_ := mB BK268 hb
                have n8_ := mB BK272 hb
                have n9_ := mB BK280 hb
                have n10_ := mB BK302 hb
                have n11_ := mS (below_step (mH6 HB.out GE254.out GE255.out GE268.out GE272.out GE280.out GE302.out) hb)
                clear HO_269000
                clear HO_273000
                clear HO_281000
                clear HO294
                clear BK254
                clear BK255
                clear BK268
                clear BK272
                clear BK280
                clear BK302
                clear HB
                have HO_269000 := n0_
                have HO_273000 := n1_
                have HO_281000 := n2_
                have HO294 := n3_
                have HO300 := n4_
                have BK254 := n5_
                have BK255 := n6_
                have BK268 := n7_
                have BK272 := n8_
                have BK280 := n9_
                have BK302 := n10_
                have HB := n11_
                clear n0_ n1_ n2_ n3_ n4_ n5_ n6_ n7_ n8_ n9_ n10_ n11_
                (try clear hb)
                (try clear hb2)
                (try clear hk)
                (try clear hi)
                (try clear ho0)
                refine hK.out _ _ ⟨(blk_cell BK254.out 0).trans rfl, (blk_cell BK255.out 0).trans rfl, (blk_cell BK255.out 1).trans rfl, (blk_cell BK255.out 2).trans rfl⟩ (fun hHeld => ?_)
                clear hK K
                refine norm_ (a' := ?_) ?_ ?_
                rotate_left
                ·show Act.put _ (some 94) _ = _
                 simp only [Act.put, zA, zB, zC, i64_w, i32_w]
                 rfl
                refine pure_ (i := 6) (N := some 88) (v := ?_) (a' := ?_) #[true, true, true, true, true, true, true, false, false, true, false, false] rfl rfl (any_of HT_.out (by kernel_rfl)) (fun _ _ _ h => h) (Or.inl ⟨by rfl, ?_⟩) ?_ ?_
                rotate_left
                ·intro w'
                 go_simp
                 with_reducible rfl
                rotate_left
                ·simp only [Act.put, zA, zB, zC, i64_w, i32_w]
                 rfl
                refine pure_ (i := 7) (N := some 95) (v := ?_) (a' := ?_) #[true, true, true, true, true, true, true, true, false, true, false, false] rfl rfl (any_of HT_.out (by kernel_rfl)) (fun _ _ _ h => h) (Or.inl ⟨by rfl, ?_⟩) ?_ ?_
                rotate_left
                ·intro w'
                 go_simp
                 with_reducible rfl
                rotate_left
                ·simp only [Act.put, zA, zB, zC, i64_w, i32_w]
                 rfl
                refine pure_ (i := 8) (N := some 96) (v := ?_) (a' := ?_) #[true, true, true, true, true, true, true, true, true, true, false, false] rfl rfl (any_of HT_.out (by kernel_rfl)) (fun _ _ _ h => h) (Or.inl ⟨by rfl, ?_⟩) ?_ ?_
                rotate_left
                ·intro w'
                 go_simp
                 with_reducible rfl
                rotate_left
                ·simp only [Act.put, zA, zB, zC, i64_w, i32_w]
                 rfl
                exact norm_ mU (hCont (.slice Ao150 t292.length co150, v299, gb302) _ ⟨hHeld, (by (with_reducible repeat (first | apply Kd.R_alloc | apply Kd.R_drewN | apply Kd.R_drew)); exact Kd.R_mono HO294.out (fun _ hk => ⟨hk.2, ⟨hk.1.1.1.2, ⟨hk.1.1.2, hk.1.2⟩⟩⟩)), (by (with_reducible repeat (first | apply Kd.R_alloc | apply Kd.R_drewN | apply Kd.R_drew)); exact Kd.R_mono HO300.out (fun _ hk => ⟨hk.2, ⟨hk.1.1.1.2, ⟨hk.1.1.2, hk.1.2⟩⟩⟩)), (by (with_reducible repeat (first | apply Kd.R_alloc | apply Kd.R_drewN | apply Kd.R_drew)); exact Kd.R_mono HO_269000.out (fun _ hk => ⟨hk.1.2, ⟨hk.2, ⟨hk.1.1.1, hk.1.1.2⟩⟩⟩)), (by (with_reducible repeat (first | apply Kd.R_alloc | apply Kd.R_drewN | apply Kd.R_drew)); exact Kd.R_mono HO_273000.out (fun _ hk => ⟨hk.1.2, ⟨hk.2, ⟨hk.1.1.1, hk.1.1.2⟩⟩⟩)), (by (with_reducible repeat (first | apply Kd.R_alloc | apply Kd.R_drewN | apply Kd.R_drew)); exact Kd.R_mono HO_281000.out (fun _ hk => ⟨hk.1.2, ⟨hk.2, ⟨hk.1.1.1, hk.1.1.2⟩⟩⟩)), (mK BK254.out), (mK BK255.out), (mK BK268.out), (mK BK272.out), (mK BK280.out), (mK BK302.out), GW302.out, GE302.out, NB254_302.out, NB302_254.out, NB255_302.out, NB302_255.out, NB268_302.out, NB302_268.out, NB272_302.out, NB302_272.out, NB280_302.out, NB302_280.out, (mH6 HB.out GE254.out GE255.out GE268.out GE272.out GE280.out GE302.out)⟩)
              ·skip
               refine box_step ?hg (N := 16) ?hd (cs := #[.slice none 0 0]) (t := 26) ?hr ?_; (case hd => rfl); (case hg => rfl); (case hr => first | (go_simp; done) | (go_simp; rfl))
               intro gb302 hg w148 hbox hb
               have n0_ := mS (Kd.R_below (mR HO_269000.out) hb)
               have n1_ := mS (Kd.R_below (mR HO_273000.out) hb)
               have n2_ := mS (Kd.R_below (mR HO_281000.out) hb)
               have n3_ := mS (Kd.R_below (mR HO294.out) hb)
               have n4_ := mB BK254 hb
               have n5_ := mB BK255 hb
               have n6_ := mB BK268 hb
               have n7_ := mB BK272 hb
               have n8_ := mB BK280 hb
               have n9_ := mS (below_step (mH5 HB.out GE254.out GE255.out GE268.out GE272.out GE280.out) hb)
               have n10_ := mS (hbox)
               have n11_ := mG hg (mH5 HB.out GE254.out GE255.out GE268.out GE272.out GE280.out)
               have n12_ := mG hg (mH5 HB.out GE254.out GE255.out GE268.out GE272.out GE280.out)
               have n13_ := mNl hg BK254.out
               have n14_ := mNg hg BK254.out
               have n15_ := mNl hg BK255.out
               have n16_ := mNg hg BK255.out
               have n17_ := mNl hg BK268.out
               have n18_ := mNg hg BK268.out
               have n19_ := mNl hg BK272.out
               have n20_ := mNg hg BK272.out
               have n21_ := mNl hg BK280.out
               have n22_ := mNg hg BK280.out
               clear HO_269000
               clear HO_273000
               clear HO_281000
               clear HO294
               clear BK254
               clear BK255
               clear BK268
               clear BK272
               clear BK280
               clear HB
               have HO_269000 := n0_
               have HO_273000 := n1_
               have HO_281000 := n2_
               have HO294 := n3_
               have BK254 := n4_
               have BK255 := n5_
               have BK268 := n6_
               have BK272 := n7_
               have BK280 := n8_
               have HB := n9_
               have BK302 := n10_
               have GW302 := n11_
               have GE302 := n12_
               have NB254_302 := n13_
               have NB302_254 := n14_
               have NB255_302 := n15_
               have NB302_255 := n16_
               have NB268_302 := n17_
               have NB302_268 := n18_
               have NB272_302 := n19_
               have NB302_272 := n20_
               have NB280_302 := n21_
               have NB302_280 := n22_
               clear n0_ n1_ n2_ n3_ n4_ n5_ n6_ n7_ n8_ n9_ n10_ n11_ n12_ n13_ n14_ n15_ n16_ n17_ n18_ n19_ n20_ n21_ n22_
               clear hb hbox hg
               refine hK.out _ _ ⟨(blk_cell BK254.out 0).trans rfl, (blk_cell BK255.out 0).trans rfl, (blk_cell BK255.out 1).trans rfl, (blk_cell BK255.out 2).trans rfl⟩ (fun hHeld => ?_)
               clear hK K
               refine norm_ (a' := ?_) ?_ ?_
               rotate_left
               ·show Act.put _ (some 16) _ = _
                simp only [Act.put, zA, zB, zC, i64_w, i32_w]
                rfl
               refine one_ (i := 3) (N := some 92) #[true, true, true, true, true, false, false, false, false, true, false, false] rfl rfl (one_of HT_.out (by kernel_rfl)) (by decide) (fun K hK => ?_)
               refine goes_ Try.func52 (by kernel_rfl) rfl #[.agg #[.string a1_0, .string a1_1, .bool a1_2]] (by rfl) rfl rfl mA ?_
               with_reducible refine (laws_toPair.calls a1_0 a1_1 a1_2 t295 t296 t297 _ A135.out).mono ?_
               rintro e w149 ⟨rfl, hb⟩
               refine ⟨_, rfl, ?_⟩
               have n0_ := mS (Kd.R_below (mR HO_269000.out) hb)
               have n1_ := mS (Kd.R_below (mR HO_273000.out) hb)
               have n2_ := mS (Kd.R_below (mR HO_281000.out) hb)
               have n3_ := mS (Kd.R_below (mR HO294.out) hb)
               have n4_ := mB BK254 hb
               have n5_ := mB BK255 hb
               have n6_ := mB BK268 hb
               have n7_ := mB BK272 hb
               have n8_ := mB BK280 hb
               have n9_ := mB BK302 hb
               have n10_ := mS (below_step (mH6 HB.out GE254.out GE255.out GE268.out GE272.out GE280.out GE302.out) hb)
               clear HO_269000
               clear HO_273000
               clear HO_281000
               clear HO294
               clear BK254
               clear BK255
               clear BK268
               clear BK272
               clear BK280
               clear BK302
               clear HB
               have HO_269000 := n0_
               have HO_273000 := n1_
               have HO_281000 := n2_
               have HO294 := n3_
               have BK254 := n4_
               have BK255 := n5_
               have BK268 := n6_
               have BK272 := n7_
               have BK280 := n8_
               have BK302 := n9_
               have HB := n10_
               clear n0_ n1_ n2_ n3_ n4_ n5_ n6_ n7_ n8_ n9_ n10_
               (try clear hb)
               (try clear hb2)
               (try clear hk)
               (try clear hi)
               obtain ⟨Ao150, co150, eo150⟩ := Kd.R_slice HO294.out
               (first | subst eo150 | (injection eo150 with f1_ f2_ f3_; have f4_ := f1_.symm; have f5_ := f3_.symm; clear f1_ f2_ f3_; subst f4_; subst f5_))
               refine hK.out _ _ ⟨(blk_cell BK254.out 0).trans rfl, (blk_cell BK255.out 0).trans rfl, (blk_cell BK255.out 1).trans rfl, (blk_cell BK255.out 2).trans rfl⟩ (fun hHeld => ?_)
               clear hK K
               refine norm_ (a' := ?_) ?_ ?_
               rotate_left
               ·show Act.put _ (some 92) _ = _
                simp only [Act.put, zA, zB, zC, i64_w, i32_w]
                rfl
               refine one_ (i := 5) (N := some 94) #[true, true, true, true, true, true, false, false, false, true, false, false] rfl rfl (one_of HT_.out (by kernel_rfl)) (by decide) (fun K hK => ?_)
               refine goes_ Try.func20 (by kernel_rfl) rfl #[.agg #[.slice Ao150 t292.length co150], .agg #[.string t295, .string t296, .bool t297], .int .i64 a2] (by rfl) rfl rfl mA ?_
               with_reducible refine (impl_MemPut.calls kj86 _ _ t292 t295 t296 t297 a2 t298 t301 _ ?side1 ?side2 A136.out).mono ?_
               (case side1 => repeat (first | exact (Kd.R_reads' HO294.out).2.2 | (with_reducible refine Kd.C_alloc ?_ _) | (with_reducible refine Kd.C_drewN ?_ _) | (with_reducible refine Kd.C_drew ?_)))
               (case side2 => exact (Kd.R_reads' HO294.out).2.1)
               rintro e w151 ⟨v299, rfl, ho0, hb⟩
               refine ⟨_, rfl, ?_⟩
               have n0_ := mS (Kd.R_elder' (mR HO_269000.out) (Kd.R_base ho0) hb)
               have n1_ := mS (Kd.R_elder' (mR HO_273000.out) (Kd.R_base ho0) hb)
               have n2_ := mS (Kd.R_elder' (mR HO_281000.out) (Kd.R_base ho0) hb)
               have n3_ := mS (Kd.R_elder' (mR HO294.out) (Kd.R_base ho0) hb)
               have n4_ := mS (Kd.R_lower (Kd.R_new' (Kd.R_new' (Kd.R_new' (Kd.R_new' ho0 (Kd.R_lt (mR HO_269000.out))) (Kd.R_lt (mR HO_273000.out))) (Kd.R_lt (mR HO_281000.out))) (Kd.R_lt (mR HO294.out))) (below_size (mH6 HB.out GE254.out GE255.out GE268.out GE272.out GE280.out GE302.out)))
               have n5_ := mB BK254 hb
               have n6_ := mB BK255 hb
               have n7_ := mB BK268 hb
               have n8_ := mB BK272 hb
               have n9_ := mB BK280 hb
               have n10_ := mB BK302 hb
               have n11_ := mS (below_step (mH6 HB.out GE254.out GE255.out GE268.out GE272.out GE280.out GE302.out) hb)
               clear HO_269000
               clear HO_273000
               clear HO_281000
               clear HO294
               clear BK254
               clear BK255
               clear BK268
               clear BK272
               clear BK280
               clear BK302
               clear HB
               have HO_269000 := n0_
               have HO_273000 := n1_
               have HO_281000 := n2_
               have HO294 := n3_
               have HO300 := n4_
               have BK254 := n5_
               have BK255 := n6_
               have BK268 := n7_
               have BK272 := n8_
               have BK280 := n9_
               have BK302 := n10_
               have HB := n11_
               clear n0_ n1_ n2_ n3_ n4_ n5_ n6_ n7_ n8_ n9_ n10_ n11_
               (try clear hb)
               (try clear hb2)
               (try clear hk)
               (try clear hi)
               (try clear ho0)
               refine hK.out _ _ ⟨(blk_cell BK254.out 0).trans rfl, (blk_cell BK255.out 0).trans rfl, (blk_cell BK255.out 1).trans rfl, (blk_cell BK255.out 2).trans rfl⟩ (fun hHeld => ?_)
               clear hK K
               refine norm_ (a' := ?_) ?_ ?_
               rotate_left
               ·show Act.put _ (some 94) _ = _
                simp only [Act.put, zA, zB, zC, i64_w, i32_w]
                rfl
               refine pure_ (i := 6) (N := some 88) (v := ?_) (a' := ?_) #[true, true, true, true, true, true, true, false, false, true, false, false] rfl rfl (any_of HT_.out (by kernel_rfl)) (fun _ _ _ h => h) (Or.inl ⟨by rfl, ?_⟩) ?_ ?_
               rotate_left
               ·intro w'
                go_simp
                with_reducible rfl
               rotate_left
               ·simp only [Act.put, zA, zB, zC, i64_w, i32_w]
                rfl
               refine pure_ (i := 7) (N := some 95) (v := ?_) (a' := ?_) #[true, true, true, true, true, true, true, true, false, true, false, false] rfl rfl (any_of HT_.out (by kernel_rfl)) (fun _ _ _ h => h) (Or.inl ⟨by rfl, ?_⟩) ?_ ?_
               rotate_left
               ·intro w'
                go_simp
                with_reducible rfl
               rotate_left
               ·simp only [Act.put, zA, zB, zC, i64_w, i32_w]
                rfl
               refine pure_ (i := 8) (N := some 96) (v := ?_) (a' := ?_) #[true, true, true, true, true, true, true, true, true, true, false, false] rfl rfl (any_of HT_.out (by kernel_rfl)) (fun _ _ _ h => h) (Or.inl ⟨by rfl, ?_⟩) ?_ ?_
               rotate_left
               ·intro w'
                go_simp
                with_reducible rfl
               rotate_left
               ·simp only [Act.put, zA, zB, zC, i64_w, i32_w]
                rfl
               exact norm_ mU (hCont (.slice Ao150 t292.length co150, v299, gb302) _ ⟨hHeld, (by (with_reducible repeat (first | apply Kd.R_alloc | apply Kd.R_drewN | apply Kd.R_drew)); exact Kd.R_mono HO294.out (fun _ hk => ⟨hk.2, ⟨hk.1.1.1.2, ⟨hk.1.1.2, hk.1.2⟩⟩⟩)), (by (with_reducible repeat (first | apply Kd.R_alloc | apply Kd.R_drewN | apply Kd.R_drew)); exact Kd.R_mono HO300.out (fun _ hk => ⟨hk.2, ⟨hk.1.1.1.2, ⟨hk.1.1.2, hk.1.2⟩⟩⟩)), (by (with_reducible repeat (first | apply Kd.R_alloc | apply Kd.R_drewN | apply Kd.R_drew)); exact Kd.R_mono HO_269000.out (fun _ hk => ⟨hk.1.2, ⟨hk.2, ⟨hk.1.1.1, hk.1.1.2⟩⟩⟩)), (by (with_reducible repeat (first | apply Kd.R_alloc | apply Kd.R_drewN | apply Kd.R_drew)); exact Kd.R_mono HO_273000.out (fun _ hk => ⟨hk.1.2, ⟨hk.2, ⟨hk.1.1.1, hk.1.1.2⟩⟩⟩)), (by (with_reducible repeat (first | apply Kd.R_alloc | apply Kd.R_drewN | apply Kd.R_drew)); exact Kd.R_mono HO_281000.out (fun _ hk => ⟨hk.1.2, ⟨hk.2, ⟨hk.1.1.1, hk.1.1.2⟩⟩⟩)), (mK BK254.out), (mK BK255.out), (mK BK268.out), (mK BK272.out), (mK BK280.out), (mK BK302.out), GW302.out, GE302.out, NB254_302.out, NB302_254.out, NB255_302.out, NB302_255.out, NB268_302.out, NB302_268.out, NB272_302.out, NB302_272.out, NB280_302.out, NB302_280.out, (mH6 HB.out GE254.out GE255.out GE268.out GE272.out GE280.out GE302.out)⟩)
             ·skip
              refine box_step ?hg (N := 16) ?hd (cs := #[.slice none 0 0]) (t := 26) ?hr ?_; (case hd => rfl); (case hg => rfl); (case hr => first | (go_simp; done) | (go_simp; rfl))
              intro gb302 hg w147 hbox hb
              have n0_ := mS (Kd.R_below (mR HO_269000.out) hb)
              have n1_ := mS (Kd.R_below (mR HO_273000.out) hb)
              have n2_ := mS (Kd.R_below (mR HO_281000.out) hb)
              have n3_ := mB BK254 hb
              have n4_ := mB BK255 hb
              have n5_ := mB BK268 hb
              have n6_ := mB BK272 hb
              have n7_ := mB BK280 hb
              have n8_ := mS (below_step (mH5 HB.out GE254.out GE255.out GE268.out GE272.out GE280.out) hb)
              have n9_ := mS (hbox)
              have n10_ := mG hg (mH5 HB.out GE254.out GE255.out GE268.out GE272.out GE280.out)
              have n11_ := mG hg (mH5 HB.out GE254.out GE255.out GE268.out GE272.out GE280.out)
              have n12_ := mNl hg BK254.out
              have n13_ := mNg hg BK254.out
              have n14_ := mNl hg BK255.out
              have n15_ := mNg hg BK255.out
              have n16_ := mNl hg BK268.out
              have n17_ := mNg hg BK268.out
              have n18_ := mNl hg BK272.out
              have n19_ := mNg hg BK272.out
              have n20_ := mNl hg BK280.out
              have n21_ := mNg hg BK280.out
              clear HO_269000
              clear HO_273000
              clear HO_281000
              clear BK254
              clear BK255
              clear BK268
              clear BK272
              clear BK280
              clear HB
              have HO_269000 := n0_
              have HO_273000 := n1_
              have HO_281000 := n2_
              have BK254 := n3_
              have BK255 := n4_
              have BK268 := n5_
              have BK272 := n6_
              have BK280 := n7_
              have HB := n8_
              have BK302 := n9_
              have GW302 := n10_
              have GE302 := n11_
              have NB254_302 := n12_
              have NB302_254 := n13_
              have NB255_302 := n14_
              have NB302_255 := n15_
              have NB268_302 := n16_
              have NB302_268 := n17_
              have NB272_302 := n18_
              have NB302_272 := n19_
              have NB280_302 := n20_
              have NB302_280 := n21_
              clear n0_ n1_ n2_ n3_ n4_ n5_ n6_ n7_ n8_ n9_ n10_ n11_ n12_ n13_ n14_ n15_ n16_ n17_ n18_ n19_ n20_ n21_
              clear hb hbox hg
              refine hK.out _ _ ⟨(blk_cell BK254.out 0).trans rfl, (blk_cell BK255.out 0).trans rfl, (blk_cell BK255.out 1).trans rfl, (blk_cell BK255.out 2).trans rfl⟩ (fun hHeld => ?_)
              clear hK K
              refine norm_ (a' := ?_) ?_ ?_
              rotate_left
              ·show Act.put _ (some 16) _ = _
               simp only [Act.put, zA, zB, zC, i64_w, i32_w]
               rfl
              refine one_ (i := 1) (N := some 90) #[true, true, true, false, true, false, false, false, false, true, false, false] rfl rfl (one_of HT_.out (by kernel_rfl)) (by decide) (fun K hK => ?_)
              refine goes_ Try.func48 (by kernel_rfl) rfl #[.agg #[.slice A0_0 l0_0.length c0_0]] (by rfl) rfl rfl mA ?_
              with_reducible refine (laws_toMem.calls kj86 _ _ l0_0 t292 _ ?side1 ?side2 A134.out).mono ?_
              (case side1 => repeat (first | exact (Kd.C_below HR0_0.out HB.out) | (with_reducible refine Kd.C_alloc ?_ _) | (with_reducible refine Kd.C_drewN ?_ _) | (with_reducible refine Kd.C_drew ?_)))
              (case side2 => exact HC0_0.out)
              rintro e w148 ⟨v293, rfl, ho0, hb⟩
              refine ⟨_, rfl, ?_⟩
              have n0_ := mS (Kd.R_elder' (mR HO_269000.out) (Kd.R_base ho0) hb)
              have n1_ := mS (Kd.R_elder' (mR HO_273000.out) (Kd.R_base ho0) hb)
              have n2_ := mS (Kd.R_elder' (mR HO_281000.out) (Kd.R_base ho0) hb)
              have n3_ := mS (Kd.R_lower (Kd.R_new' (Kd.R_new' (Kd.R_new' ho0 (Kd.R_lt (mR HO_269000.out))) (Kd.R_lt (mR HO_273000.out))) (Kd.R_lt (mR HO_281000.out))) (below_size (mH6 HB.out GE254.out GE255.out GE268.out GE272.out GE280.out GE302.out)))
              have n4_ := mB BK254 hb
              have n5_ := mB BK255 hb
              have n6_ := mB BK268 hb
              have n7_ := mB BK272 hb
              have n8_ := mB BK280 hb
              have n9_ := mB BK302 hb
              have n10_ := mS (below_step (mH6 HB.out GE254.out GE255.out GE268.out GE272.out GE280.out GE302.out) hb)
              clear HO_269000
              clear HO_273000
              clear HO_281000
              clear BK254
              clear BK255
              clear BK268
              clear BK272
              clear BK280
              clear BK302
              clear HB
              have HO_269000 := n0_
              have HO_273000 := n1_
              have HO_281000 := n2_
              have HO294 := n3_
              have BK254 := n4_
              have BK255 := n5_
              have BK268 := n6_
              have BK272 := n7_
              have BK280 := n8_
              have BK302 := n9_
              have HB := n10_
              clear n0_ n1_ n2_ n3_ n4_ n5_ n6_ n7_ n8_ n9_ n10_
              (try clear hb)
              (try clear hb2)
              (try clear hk)
              (try clear hi)
              (try clear ho0)
              refine hK.out _ _ ⟨(blk_cell BK254.out 0).trans rfl, (blk_cell BK255.out 0).trans rfl, (blk_cell BK255.out 1).trans rfl, (blk_cell BK255.out 2).trans rfl⟩ (fun hHeld => ?_)
              clear hK K
              refine norm_ (a' := ?_) ?_ ?_
              rotate_left
              ·show Act.put _ (some 90) _ = _
               simp only [Act.put, zA, zB, zC, i64_w, i32_w]
               rfl
              refine one_ (i := 3) (N := some 92) #[true, true, true, true, true, false, false, false, false, true, false, false] rfl rfl (one_of HT_.out (by kernel_rfl)) (by decide) (fun K hK => ?_)
              refine goes_ Try.func52 (by kernel_rfl) rfl #[.agg #[.string a1_0, .string a1_1, .bool a1_2]] (by rfl) rfl rfl mA ?_
              with_reducible refine (laws_toPair.calls a1_0 a1_1 a1_2 t295 t296 t297 _ A135.out).mono ?_
              rintro e w149 ⟨rfl, hb⟩
              refine ⟨_, rfl, ?_⟩
              have n0_ := mS (Kd.R_below (mR HO_269000.out) hb)
              have n1_ := mS (Kd.R_below (mR HO_273000.out) hb)
              have n2_ := mS (Kd.R_below (mR HO_281000.out) hb)
              have n3_ := mS (Kd.R_below (mR HO294.out) hb)
              have n4_ := mB BK254 hb
              have n5_ := mB BK255 hb
              have n6_ := mB BK268 hb
              have n7_ := mB BK272 hb
              have n8_ := mB BK280 hb
              have n9_ := mB BK302 hb
              have n10_ := mS (below_step (mH6 HB.out GE254.out GE255.out GE268.out GE272.out GE280.out GE302.out) hb)
              clear HO_269000
              clear HO_273000
              clear HO_281000
              clear HO294
              clear BK254
              clear BK255
              clear BK268
              clear BK272
              clear BK280
              clear BK302
              clear HB
              have HO_269000 := n0_
              have HO_273000 := n1_
              have HO_281000 := n2_
              have HO294 := n3_
              have BK254 := n4_
              have BK255 := n5_
              have BK268 := n6_
              have BK272 := n7_
              have BK280 := n8_
              have BK302 := n9_
              have HB := n10_
              clear n0_ n1_ n2_ n3_ n4_ n5_ n6_ n7_ n8_ n9_ n10_
              (try clear hb)
              (try clear hb2)
              (try clear hk)
              (try clear hi)
              obtain ⟨Ao150, co150, eo150⟩ := Kd.R_slice HO294.out
              (first | subst eo150 | (injection eo150 with f1_ f2_ f3_; have f4_ := f1_.symm; have f5_ := f3_.symm; clear f1_ f2_ f3_; subst f4_; subst f5_))
              refine hK.out _ _ ⟨(blk_cell BK254.out 0).trans rfl, (blk_cell BK255.out 0).trans rfl, (blk_cell BK255.out 1).trans rfl, (blk_cell BK255.out 2).trans rfl⟩ (fun hHeld => ?_)
              clear hK K
              refine norm_ (a' := ?_) ?_ ?_
              rotate_left
              ·show Act.put _ (some 92) _ = _
               simp only [Act.put, zA, zB, zC, i64_w, i32_w]
               rfl
              refine one_ (i := 5) (N := some 94) #[true, true, true, true, true, true, false, false, false, true, false, false] rfl rfl (one_of HT_.out (by kernel_rfl)) (by decide) (fun K hK => ?_)
              refine goes_ Try.func20 (by kernel_rfl) rfl #[.agg #[.slice Ao150 t292.length co150], .agg #[.string t295, .string t296, .bool t297], .int .i64 a2] (by rfl) rfl rfl mA ?_
              with_reducible refine (impl_MemPut.calls kj86 _ _ t292 t295 t296 t297 a2 t298 t301 _ ?side1 ?side2 A136.out).mono ?_
              (case side1 => repeat (first | exact (Kd.R_reads' HO294.out).2.2 | (with_reducible refine Kd.C_alloc ?_ _) | (with_reducible refine Kd.C_drewN ?_ _) | (with_reducible refine Kd.C_drew ?_)))
              (case side2 => exact (Kd.R_reads' HO294.out).2.1)
              rintro e w151 ⟨v299, rfl, ho0, hb⟩
              refine ⟨_, rfl, ?_⟩
              have n0_ := mS (Kd.R_elder' (mR HO_269000.out) (Kd.R_base ho0) hb)
              have n1_ := mS (Kd.R_elder' (mR HO_273000.out) (Kd.R_base ho0) hb)
              have n2_ := mS (Kd.R_elder' (mR HO_281000.out) (Kd.R_base ho0) hb)
              have n3_ := mS (Kd.R_elder' (mR HO294.out) (Kd.R_base ho0) hb)
              have n4_ := mS (Kd.R_lower (Kd.R_new' (Kd.R_new' (Kd.R_new' (Kd.R_new' ho0 (Kd.R_lt (mR HO_269000.out))) (Kd.R_lt (mR HO_273000.out))) (Kd.R_lt (mR HO_281000.out))) (Kd.R_lt (mR HO294.out))) (below_size (mH6 HB.out GE254.out GE255.out GE268.out GE272.out GE280.out GE302.out)))
              have n5_ := mB BK254 hb
              have n6_ := mB BK255 hb
              have n7_ := mB BK268 hb
              have n8_ := mB BK272 hb
              have n9_ := mB BK280 hb
              have n10_ := mB BK302 hb
              have n11_ := mS (below_step (mH6 HB.out GE254.out GE255.out GE268.out GE272.out GE280.out GE302.out) hb)
              clear HO_269000
              clear HO_273000
              clear HO_281000
              clear HO294
              clear BK254
              clear BK255
              clear BK268
              clear BK272
              clear BK280
              clear BK302
              clear HB
              have HO_269000 := n0_
              have HO_273000 := n1_
              have HO_281000 := n2_
              have HO294 := n3_
              have HO300 := n4_
              have BK254 := n5_
              have BK255 := n6_
              have BK268 := n7_
              have BK272 := n8_
              have BK280 := n9_
              have BK302 := n10_
              have HB := n11_
              clear n0_ n1_ n2_ n3_ n4_ n5_ n6_ n7_ n8_ n9_ n10_ n11_
              (try clear hb)
              (try clear hb2)
              (try clear hk)
              (try clear hi)
              (try clear ho0)
              refine hK.out _ _ ⟨(blk_cell BK254.out 0).trans rfl, (blk_cell BK255.out 0).trans rfl, (blk_cell BK255.out 1).trans rfl, (blk_cell BK255.out 2).trans rfl⟩ (fun hHeld => ?_)
              clear hK K
              refine norm_ (a' := ?_) ?_ ?_
              rotate_left
              ·show Act.put _ (some 94) _ = _
               simp only [Act.put, zA, zB, zC, i64_w, i32_w]
               rfl
              refine pure_ (i := 6) (N := some 88) (v := ?_) (a' := ?_) #[true, true, true, true, true, true, true, false, false, true, false, false] rfl rfl (any_of HT_.out (by kernel_rfl)) (fun _ _ _ h => h) (Or.inl ⟨by rfl, ?_⟩) ?_ ?_
              rotate_left
              ·intro w'
               go_simp
               with_reducible rfl
              rotate_left
              ·simp only [Act.put, zA, zB, zC, i64_w, i32_w]
               rfl
              refine pure_ (i := 7) (N := some 95) (v := ?_) (a' := ?_) #[true, true, true, true, true, true, true, true, false, true, false, false] rfl rfl (any_of HT_.out (by kernel_rfl)) (fun _ _ _ h => h) (Or.inl ⟨by rfl, ?_⟩) ?_ ?_
              rotate_left
              ·intro w'
               go_simp
               with_reducible rfl
              rotate_left
              ·simp only [Act.put, zA, zB, zC, i64_w, i32_w]
               rfl
              refine pure_ (i := 8) (N := some 96) (v := ?_) (a' := ?_) #[true, true, true, true, true, true, true, true, true, true, false, false] rfl rfl (any_of HT_.out (by kernel_rfl)) (fun _ _ _ h => h) (Or.inl ⟨by rfl, ?_⟩) ?_ ?_
              rotate_left
              ·intro w'
               go_simp
               with_reducible rfl
              rotate_left
              ·simp only [Act.put, zA, zB, zC, i64_w, i32_w]
               rfl
              exact norm_ mU (hCont (.slice Ao150 t292.length co150, v299, gb302) _ ⟨hHeld, (by (with_reducible repeat (first | apply Kd.R_alloc | apply Kd.R_drewN | apply Kd.R_drew)); exact Kd.R_mono HO294.out (fun _ hk => ⟨hk.2, ⟨hk.1.1.1.2, ⟨hk.1.1.2, hk.1.2⟩⟩⟩)), (by (with_reducible repeat (first | apply Kd.R_alloc | apply Kd.R_drewN | apply Kd.R_drew)); exact Kd.R_mono HO300.out (fun _ hk => ⟨hk.2, ⟨hk.1.1.1.2, ⟨hk.1.1.2, hk.1.2⟩⟩⟩)), (by (with_reducible repeat (first | apply Kd.R_alloc | apply Kd.R_drewN | apply Kd.R_drew)); exact Kd.R_mono HO_269000.out (fun _ hk => ⟨hk.1.2, ⟨hk.2, ⟨hk.1.1.1, hk.1.1.2⟩⟩⟩)), (by (with_reducible repeat (first | apply Kd.R_alloc | apply Kd.R_drewN | apply Kd.R_drew)); exact Kd.R_mono HO_273000.out (fun _ hk => ⟨hk.1.2, ⟨hk.2, ⟨hk.1.1.1, hk.1.1.2⟩⟩⟩)), (by (with_reducible repeat (first | apply Kd.R_alloc | apply Kd.R_drewN | apply Kd.R_drew)); exact Kd.R_mono HO_281000.out (fun _ hk => ⟨hk.1.2, ⟨hk.2, ⟨hk.1.1.1, hk.1.1.2⟩⟩⟩)), (mK BK254.out), (mK BK255.out), (mK BK268.out), (mK BK272.out), (mK BK280.out), (mK BK302.out), GW302.out, GE302.out, NB254_302.out, NB302_254.out, NB255_302.out, NB302_255.out, NB268_302.out, NB302_268.out, NB272_302.out, NB302_272.out, NB280_302.out, NB302_280.out, (mH6 HB.out GE254.out GE255.out GE268.out GE272.out GE280.out GE302.out)⟩)
            rintro ⟨v293, v299, gb302⟩ w152 ⟨hS_, h0_, h1_, h2_, h3_, h4_, h5_, h6_, h7_, h8_, h9_, h10_, h11_, h12_, h13_, h14_, h15_, h16_, h17_, h18_, h19_, h20_, h21_, h22_, h23_⟩
            have n0_ : Aside0 (Kd.R k35 35 w152 w.heap.size (fun k_ => some k_ ≠ (v299 : Value).ownBlock ∧ some k_ ≠ (.slice Ao41 t264.length co41 : Value).ownBlock ∧ some k_ ≠ (.slice Ao47 t287.length co47 : Value).ownBlock ∧ some k_ ≠ (.slice Ao58 t276.length co58 : Value).ownBlock) v293 t292) := ⟨h0_⟩
            have n1_ : Aside0 (Kd.R k35 35 w152 w.heap.size (fun k_ => some k_ ≠ (v293 : Value).ownBlock ∧ some k_ ≠ (.slice Ao41 t264.length co41 : Value).ownBlock ∧ some k_ ≠ (.slice Ao47 t287.length co47 : Value).ownBlock ∧ some k_ ≠ (.slice Ao58 t276.length co58 : Value).ownBlock) v299 t298) := ⟨h1_⟩
            have n2_ : Aside0 (Kd.R k35 35 w152 w.heap.size (fun k_ => some k_ ≠ (v293 : Value).ownBlock ∧ some k_ ≠ (v299 : Value).ownBlock ∧ some k_ ≠ (.slice Ao47 t287.length co47 : Value).ownBlock ∧ some k_ ≠ (.slice Ao58 t276.length co58 : Value).ownBlock) (.slice Ao41 t264.length co41) t264) := ⟨h2_⟩
            have n3_ : Aside0 (Kd.R k35 35 w152 w.heap.size (fun k_ => some k_ ≠ (v293 : Value).ownBlock ∧ some k_ ≠ (v299 : Value).ownBlock ∧ some k_ ≠ (.slice Ao41 t264.length co41 : Value).ownBlock ∧ some k_ ≠ (.slice Ao58 t276.length co58 : Value).ownBlock) (.slice Ao47 t287.length co47) t287) := ⟨h3_⟩
            have n4_ : Aside0 (Kd.R k35 35 w152 w.heap.size (fun k_ => some k_ ≠ (v293 : Value).ownBlock ∧ some k_ ≠ (v299 : Value).ownBlock ∧ some k_ ≠ (.slice Ao41 t264.length co41 : Value).ownBlock ∧ some k_ ≠ (.slice Ao47 t287.length co47 : Value).ownBlock) (.slice Ao58 t276.length co58) t290) := ⟨h4_⟩
            have n5_ : Aside0 (w152.heap[gb254]? = some (.cells #[.slice A0_0 l0_0.length c0_0] 78 (0, 0))) := ⟨h5_⟩
            have n6_ : Aside0 (w152.heap[gb255]? = some (.cells #[.string a1_0, .string a1_1, .bool a1_2] 84 (0, 0))) := ⟨h6_⟩
            have n7_ : Aside0 (w152.heap[gb268]? = some (.cells #[.slice Ao41 t264.length co41] 26 (0, 0))) := ⟨h7_⟩
            have n8_ : Aside0 (w152.heap[gb272]? = some (.cells #[.slice Ao47 t287.length co47] 26 (0, 0))) := ⟨h8_⟩
            have n9_ : Aside0 (w152.heap[gb280]? = some (.cells #[.slice Ao58 t276.length co58] 26 (0, 0))) := ⟨h9_⟩
            have n10_ : Aside0 (w152.heap[gb302]? = some (.cells #[.slice none 0 0] 26 (0, 0))) := ⟨h10_⟩
            have n11_ : Aside0 (w.heap.size ≤ gb302) := ⟨h11_⟩
            have n12_ : Aside0 (w.heap.size ≤ gb302) := ⟨h12_⟩
            have n13_ : Aside0 (gb254 ≠ gb302) := ⟨h13_⟩
            have n14_ : Aside0 (gb302 ≠ gb254) := ⟨h14_⟩
            have n15_ : Aside0 (gb255 ≠ gb302) := ⟨h15_⟩
            have n16_ : Aside0 (gb302 ≠ gb255) := ⟨h16_⟩
            have n17_ : Aside0 (gb268 ≠ gb302) := ⟨h17_⟩
            have n18_ : Aside0 (gb302 ≠ gb268) := ⟨h18_⟩
            have n19_ : Aside0 (gb272 ≠ gb302) := ⟨h19_⟩
            have n20_ : Aside0 (gb302 ≠ gb272) := ⟨h20_⟩
            have n21_ : Aside0 (gb280 ≠ gb302) := ⟨h21_⟩
            have n22_ : Aside0 (gb302 ≠ gb280) := ⟨h22_⟩
            have n23_ : Aside0 (Below w.heap.size w w152) := ⟨h23_⟩
            clear HO_269000
            clear HO_273000
            clear HO_281000
            clear BK254
            clear BK255
            clear BK268
            clear BK272
            clear BK280
            clear HB
            clear h0_ h1_ h2_ h3_ h4_ h5_ h6_ h7_ h8_ h9_ h10_ h11_ h12_ h13_ h14_ h15_ h16_ h17_ h18_ h19_ h20_ h21_ h22_ h23_
            have HO294 := n0_
            have HO300 := n1_
            have HO_269000 := n2_
            have HO_273000 := n3_
            have HO_281000 := n4_
            have BK254 := n5_
            have BK255 := n6_
            have BK268 := n7_
            have BK272 := n8_
            have BK280 := n9_
            have BK302 := n10_
            have GW302 := n11_
            have GE302 := n12_
            have NB254_302 := n13_
            have NB302_254 := n14_
            have NB255_302 := n15_
            have NB302_255 := n16_
            have NB268_302 := n17_
            have NB302_268 := n18_
            have NB272_302 := n19_
            have NB302_272 := n20_
            have NB280_302 := n21_
            have NB302_280 := n22_
            have HB := n23_
            clear n0_ n1_ n2_ n3_ n4_ n5_ n6_ n7_ n8_ n9_ n10_ n11_ n12_ n13_ n14_ n15_ n16_ n17_ n18_ n19_ n20_ n21_ n22_ n23_
            have hHeld : w152.cell? ⟨gb254, 0, none⟩ = some (.slice A0_0 l0_0.length c0_0) ∧ w152.cell? ⟨gb255, 0, none⟩ = some (.string a1_0) ∧ w152.cell? ⟨gb255, 1, none⟩ = some (.string a1_1) ∧ w152.cell? ⟨gb255, 2, none⟩ = some (.bool a1_2) := hS_
            obtain ⟨Ao153, co153, eo153⟩ := Kd.R_slice HO300.out
            (first | subst eo153 | (injection eo153 with f1_ f2_ f3_; have f4_ := f1_.symm; have f5_ := f3_.symm; clear f1_ f2_ f3_; subst f4_; subst f5_))
            refine norm_ (a' := ?_) ?_ ?_
            rotate_left
            ·simp only [putAll, Act.put, zA, zB, zC]
             rfl
            refine one_ (i := 10) (N := none) #[true, true, true, true, true, true, true, true, true, true, true, false] rfl rfl (one_of HT_.out (by kernel_rfl)) (by decide) (fun K hK => ?_)
            have hs154 : w152.cell? ⟨gb302, 0, none⟩ = some (.slice none 0 0) := (blk_cell BK302.out 0).trans rfl
            have hfs154 := blk_frozen BK302.out 0
            have hns154_0 := NB254_302.out
            have hns154_1 := NB255_302.out
            have hns154_2 := NB268_302.out
            have hns154_3 := NB272_302.out
            have hns154_4 := NB280_302.out
            have hms154_0 := NB302_254.out
            have hms154_1 := NB302_255.out
            have hms154_2 := NB302_268.out
            have hms154_3 := NB302_272.out
            have hms154_4 := NB302_280.out
            refine skip_ (w1 := ?_) (by rfl) rfl ?_ ?_
            rotate_left
            ·go_simp
             rfl
            refine hK.out _ _ ⟨((cell_far (p := ⟨gb302, _, none⟩) NB254_302.out _).trans (hHeld.1)), ((cell_far (p := ⟨gb302, _, none⟩) NB255_302.out _).trans (hHeld.2.1)), ((cell_far (p := ⟨gb302, _, none⟩) NB255_302.out _).trans (hHeld.2.2.1)), ((cell_far (p := ⟨gb302, _, none⟩) NB255_302.out _).trans (hHeld.2.2.2))⟩ (fun hHeld => ?_)
            clear hK K
            refine pure_ (i := 11) (N := some 17) (v := ?_) (a' := ?_) #[true, true, true, true, true, true, true, true, true, true, true, true] rfl rfl (any_of HT_.out (by kernel_rfl)) (fun _ _ _ h => h) (Or.inl ⟨by rfl, ?_⟩) ?_ ?_
            rotate_left
            ·intro w'
             go_simp
             with_reducible rfl
            rotate_left
            ·simp only [Act.put, zA, zB, zC, i64_w, i32_w]
             rfl
            refine done_ (done_of HT_.out (by kernel_rfl)) ?_
            go_upto_region 28 with (fail)
            go_cut [105] (fun v105 wc => ∃ (kq : Nat) (x105_136 : Bool), v105 = .bool x105_136 ∧ Aside0 (laws_FnExactMemPut.j2 kq t289 x105_136 t290 = some r) ∧ Aside0 (kq ≤ kj86) ∧ Aside0 (Kd.R k35 35 wc w.heap.size (fun k_ => some k_ ≠ ((.slice Ao47 t287.length co47) : Value).ownBlock ∧ some k_ ≠ ((.slice Ao58 t276.length co58) : Value).ownBlock ∧ some k_ ≠ ((.slice Ao153 t298.length co153) : Value).ownBlock) (.slice Ao41 t264.length co41) t264) ∧ Aside0 (Kd.R k35 35 wc w.heap.size (fun k_ => some k_ ≠ ((.slice Ao41 t264.length co41) : Value).ownBlock ∧ some k_ ≠ ((.slice Ao58 t276.length co58) : Value).ownBlock ∧ some k_ ≠ ((.slice Ao153 t298.length co153) : Value).ownBlock) (.slice Ao47 t287.length co47) t287) ∧ Aside0 (Kd.R k35 35 wc w.heap.size (fun k_ => some k_ ≠ ((.slice Ao41 t264.length co41) : Value).ownBlock ∧ some k_ ≠ ((.slice Ao47 t287.length co47) : Value).ownBlock ∧ some k_ ≠ ((.slice Ao153 t298.length co153) : Value).ownBlock) (.slice Ao58 t276.length co58) t290) ∧ Aside0 (Kd.R k35 35 wc w.heap.size (fun k_ => some k_ ≠ ((.slice Ao41 t264.length co41) : Value).ownBlock ∧ some k_ ≠ ((.slice Ao47 t287.length co47) : Value).ownBlock ∧ some k_ ≠ ((.slice Ao58 t276.length co58) : Value).ownBlock) (.slice Ao153 t298.length co153) t298) ∧ Aside0 (wc.heap[gb254]? = some (.cells #[(.slice A0_0 l0_0.length c0_0)] 78 (0, 0))) ∧ Aside0 (wc.heap[gb255]? = some (.cells #[.string a1_0, .string a1_1, .bool a1_2] 84 (0, 0))) ∧ Aside0 (wc.heap[gb268]? = some (.cells #[(.slice Ao41 t264.length co41)] 26 (0, 0))) ∧ Aside0 (wc.heap[gb272]? = some (.cells #[(.slice Ao47 t287.length co47)] 26 (0, 0))) ∧ Aside0 (wc.heap[gb280]? = some (.cells #[(.slice Ao58 t276.length co58)] 26 (0, 0))) ∧ Aside0 (wc.heap[gb302]? = some (.cells #[(.slice Ao153 t298.length co153)] 26 (0, 0))) ∧ Aside0 (Below w.heap.size w wc))
            case first =>
             have H := HC137.out
             clear HC137
             replace H := Option.bind_eq_some_iff.mp H
             obtain ⟨t303, A1550, H⟩ := H
             replace H : (if t303 = true then (laws_FnExactMemPut.j2 kj86 t289 (t301 != t267) t290) else (laws_FnExactMemPut.j2 kj86 t289 true t290)) = some r := H
             have A155 := mS A1550
             clear A1550
             by_cases c156 : t303 = true
             ·subst c156
              have H1 : (laws_FnExactMemPut.j2 kj86 t289 (t301 != t267) t290) = some r := by rw [if_pos rfl] at H; exact H
              clear H
              have H := H1
              clear H1
              have H' := mS H
              clear H
              have hnb157 := NB302_254.out
              have hnc157 := NB254_302.out
              have hnb158 := NB302_255.out
              have hnc158 := NB255_302.out
              have hnb159 := NB302_268.out
              have hnc159 := NB268_302.out
              have hnb160 := NB302_272.out
              have hnc160 := NB272_302.out
              have hnb161 := NB302_280.out
              have hnc161 := NB280_302.out
              have hcz162_0 : w152.cell? ⟨gb302, 0, none⟩ = some (.slice none 0 0) := (blk_cell BK302.out 0).trans rfl
              have hfz162_0 := blk_frozen BK302.out 0
              have hnb163 := NB268_254.out
              have hnc163 := NB254_268.out
              have hnb164 := NB268_255.out
              have hnc164 := NB255_268.out
              have hnb165 := NB268_272.out
              have hnc165 := NB272_268.out
              have hnb166 := NB268_280.out
              have hnc166 := NB280_268.out
              have hcz167_0 : w152.cell? ⟨gb268, 0, none⟩ = some (.slice Ao41 t264.length co41) := (blk_cell BK268.out 0).trans rfl
              have hfz167_0 := blk_frozen BK268.out 0
              go_wp2_with (first | ((with_reducible refine gate_callee (f := 49) rfl ?_); refine goesL_ (some 99) rfl rfl Try.func49 (by kernel_rfl) rfl #[.agg #[.slice Ao153 t298.length co153], .agg #[.slice Ao41 t264.length co41]] rfl mA ?_; (with_reducible refine (laws_eqMem.calls kj86 _ _ t298 _ _ t264 true _ ?side1 ?side2 ?side3 ?side4 A155.out).mono ?_); (case side1 => refine (Kd.R_reads' (e := 35) (base := w.heap.size) (ok := fun k_ => (some k_ ≠ (v293 : Value).ownBlock ∧ (some k_ ≠ (.slice Ao41 t264.length co41 : Value).ownBlock ∧ (some k_ ≠ (.slice Ao47 t287.length co47 : Value).ownBlock ∧ some k_ ≠ (.slice Ao58 t276.length co58 : Value).ownBlock)))) (n := t298.length) (c := co153) ?_).2.2; exact (by (with_reducible repeat (first | apply Kd.R_alloc | apply Kd.R_drewN | apply Kd.R_drew)); exact (Kd.R_mono (Kd.R_far (p := ⟨gb302, 0, none⟩) (Kd.R_types HO300.out BK302.out (by decide)) (fun _ hk => hk.2) (.slice Ao153 t298.length co153)) (fun _ h_ => h_.1)))); (case side2 => exact (Kd.R_reads' HO300.out).2.1); (case side3 => refine (Kd.R_reads' (e := 35) (base := w.heap.size) (ok := fun k_ => (some k_ ≠ (v293 : Value).ownBlock ∧ (some k_ ≠ (.slice Ao153 t298.length co153 : Value).ownBlock ∧ (some k_ ≠ (.slice Ao47 t287.length co47 : Value).ownBlock ∧ some k_ ≠ (.slice Ao58 t276.length co58 : Value).ownBlock)))) (n := t264.length) (c := co41) ?_).2.2; exact (by (with_reducible repeat (first | apply Kd.R_alloc | apply Kd.R_drewN | apply Kd.R_drew)); exact (Kd.R_mono (Kd.R_far (p := ⟨gb302, 0, none⟩) (Kd.R_types HO_269000.out BK302.out (by decide)) (fun _ hk => hk.2) (.slice Ao153 t298.length co153)) (fun _ h_ => h_.1)))); (case side4 => exact (Kd.R_reads' HO_269000.out).2.1); rintro e w168 ⟨rfl, hb⟩; refine ⟨_, rfl, ?_⟩; replace HO_269000 := mS (Kd.R_below (by (with_reducible repeat (first | apply Kd.R_alloc | apply Kd.R_drewN | apply Kd.R_drew)); exact (Kd.R_mono (Kd.R_far (p := ⟨gb302, 0, none⟩) (Kd.R_types HO_269000.out BK302.out (by decide)) (fun _ hk => hk.2) (.slice Ao153 t298.length co153)) (fun _ h_ => h_.1))) hb); replace HO_273000 := mS (Kd.R_below (by (with_reducible repeat (first | apply Kd.R_alloc | apply Kd.R_drewN | apply Kd.R_drew)); exact (Kd.R_mono (Kd.R_far (p := ⟨gb302, 0, none⟩) (Kd.R_types HO_273000.out BK302.out (by decide)) (fun _ hk => hk.2) (.slice Ao153 t298.length co153)) (fun _ h_ => h_.1))) hb); replace HO_281000 := mS (Kd.R_below (by (with_reducible repeat (first | apply Kd.R_alloc | apply Kd.R_drewN | apply Kd.R_drew)); exact (Kd.R_mono (Kd.R_far (p := ⟨gb302, 0, none⟩) (Kd.R_types HO_281000.out BK302.out (by decide)) (fun _ hk => hk.2) (.slice Ao153 t298.length co153)) (fun _ h_ => h_.1))) hb); replace HO294 := mS (Kd.R_below (by (with_reducible repeat (first | apply Kd.R_alloc | apply Kd.R_drewN | apply Kd.R_drew)); exact (Kd.R_mono (Kd.R_far (p := ⟨gb302, 0, none⟩) (Kd.R_types HO294.out BK302.out (by decide)) (fun _ hk => hk.2) (.slice Ao153 t298.length co153)) (fun _ h_ => h_.1))) hb); replace HO300 := mS (Kd.R_below (by (with_reducible repeat (first | apply Kd.R_alloc | apply Kd.R_drewN | apply Kd.R_drew)); exact (Kd.R_mono (Kd.R_far (p := ⟨gb302, 0, none⟩) (Kd.R_types HO300.out BK302.out (by decide)) (fun _ hk => hk.2) (.slice Ao153 t298.length co153)) (fun _ h_ => h_.1))) hb); replace BK254 := mS (blk_below (g := gb254) (o := .cells #[.slice A0_0 l0_0.length c0_0] 78 (0, 0)) (by (with_reducible repeat (first | refine blk_drewN ?_ _ | refine blk_drew ?_ | refine blk_alloc ?_ _)); refine blk_far ?_ NB254_302.out _; (with_reducible repeat (first | refine blk_drewN ?_ _ | refine blk_drew ?_ | refine blk_alloc ?_ _)); exact BK254.out) hb); replace BK255 := mS (blk_below (g := gb255) (o := .cells #[.string a1_0, .string a1_1, .bool a1_2] 84 (0, 0)) (by (with_reducible repeat (first | refine blk_drewN ?_ _ | refine blk_drew ?_ | refine blk_alloc ?_ _)); refine blk_far ?_ NB255_302.out _; (with_reducible repeat (first | refine blk_drewN ?_ _ | refine blk_drew ?_ | refine blk_alloc ?_ _)); exact BK255.out) hb); replace BK268 := mS (blk_below (g := gb268) (o := .cells #[.slice Ao41 t264.length co41] 26 (0, 0)) (by (with_reducible repeat (first | refine blk_drewN ?_ _ | refine blk_drew ?_ | refine blk_alloc ?_ _)); refine blk_far ?_ NB268_302.out _; (with_reducible repeat (first | refine blk_drewN ?_ _ | refine blk_drew ?_ | refine blk_alloc ?_ _)); exact BK268.out) hb); replace BK272 := mS (blk_below (g := gb272) (o := .cells #[.slice Ao47 t287.length co47] 26 (0, 0)) (by (with_reducible repeat (first | refine blk_drewN ?_ _ | refine blk_drew ?_ | refine blk_alloc ?_ _)); refine blk_far ?_ NB272_302.out _; (with_reducible repeat (first | refine blk_drewN ?_ _ | refine blk_drew ?_ | refine blk_alloc ?_ _)); exact BK272.out) hb); replace BK280 := mS (blk_below (g := gb280) (o := .cells #[.slice Ao58 t276.length co58] 26 (0, 0)) (by (with_reducible repeat (first | refine blk_drewN ?_ _ | refine blk_drew ?_ | refine blk_alloc ?_ _)); refine blk_far ?_ NB280_302.out _; (with_reducible repeat (first | refine blk_drewN ?_ _ | refine blk_drew ?_ | refine blk_alloc ?_ _)); exact BK280.out) hb); replace BK302 := mS (blk_below (g := gb302) (o := .cells #[.slice Ao153 t298.length co153] 26 (0, 0)) (by (with_reducible repeat (first | refine blk_drewN ?_ _ | refine blk_drew ?_ | refine blk_alloc ?_ _)); refine blk_put (cs := #[.slice none 0 0]) ?_ 0 _ rfl; (with_reducible repeat (first | refine blk_drewN ?_ _ | refine blk_drew ?_ | refine blk_alloc ?_ _)); exact BK302.out) hb); replace HB := mS (below_step (mH6 HB.out GE254.out GE255.out GE268.out GE272.out GE280.out GE302.out) hb); (try clear hb); (try clear hb2); (try clear hk); (try clear hi)))
              go_meet
              case rel => exact ⟨_, ((t301 != t267)), (by first | rfl | (simp; done) | (simp [*]; done)), H', ⟨by have := HJ25.out; have := HJ86.out; first | omega | exact Nat.le_refl _⟩, ⟨by (try simp only [hl273000_86]); (with_reducible repeat (first | apply Kd.R_alloc | apply Kd.R_drewN | apply Kd.R_drew)); exact Kd.R_mono HO_269000.out (fun _ hk => ⟨hk.2.2.1, ⟨hk.2.2.2, hk.2.1⟩⟩)⟩, ⟨by (try simp only [hl273000_86]); (with_reducible repeat (first | apply Kd.R_alloc | apply Kd.R_drewN | apply Kd.R_drew)); exact Kd.R_mono HO_273000.out (fun _ hk => ⟨hk.2.2.1, ⟨hk.2.2.2, hk.2.1⟩⟩)⟩, ⟨by (try simp only [hl273000_86]); (with_reducible repeat (first | apply Kd.R_alloc | apply Kd.R_drewN | apply Kd.R_drew)); exact Kd.R_mono HO_281000.out (fun _ hk => ⟨hk.2.2.1, ⟨hk.2.2.2, hk.2.1⟩⟩)⟩, ⟨by (try simp only [hl273000_86]); (with_reducible repeat (first | apply Kd.R_alloc | apply Kd.R_drewN | apply Kd.R_drew)); exact Kd.R_mono HO300.out (fun _ hk => ⟨hk.2.1, ⟨hk.2.2.1, hk.2.2.2⟩⟩)⟩, ⟨by (try simp only [hl273000_86]); (with_reducible repeat (first | refine blk_drewN ?_ _ | refine blk_drew ?_ | refine blk_alloc ?_ _)); exact BK254.out⟩, ⟨by (try simp only [hl273000_86]); (with_reducible repeat (first | refine blk_drewN ?_ _ | refine blk_drew ?_ | refine blk_alloc ?_ _)); exact BK255.out⟩, ⟨by (try simp only [hl273000_86]); (with_reducible repeat (first | refine blk_drewN ?_ _ | refine blk_drew ?_ | refine blk_alloc ?_ _)); exact BK268.out⟩, ⟨by (try simp only [hl273000_86]); (with_reducible repeat (first | refine blk_drewN ?_ _ | refine blk_drew ?_ | refine blk_alloc ?_ _)); exact BK272.out⟩, ⟨by (try simp only [hl273000_86]); (with_reducible repeat (first | refine blk_drewN ?_ _ | refine blk_drew ?_ | refine blk_alloc ?_ _)); exact BK280.out⟩, ⟨by (try simp only [hl273000_86]); (with_reducible repeat (first | refine blk_drewN ?_ _ | refine blk_drew ?_ | refine blk_alloc ?_ _)); exact BK302.out⟩, ⟨(mH6 HB.out GE254.out GE255.out GE268.out GE272.out GE280.out GE302.out)⟩⟩
             ·replace c156 := Bool.eq_false_iff.mpr c156
              subst c156
              have H1 : (laws_FnExactMemPut.j2 kj86 t289 true t290) = some r := by rw [if_neg (show ¬ (false = true) by decide)] at H; exact H
              clear H
              have H := H1
              clear H1
              have H' := mS H
              clear H
              have hnb169 := NB302_254.out
              have hnc169 := NB254_302.out
              have hnb170 := NB302_255.out
              have hnc170 := NB255_302.out
              have hnb171 := NB302_268.out
              have hnc171 := NB268_302.out
              have hnb172 := NB302_272.out
              have hnc172 := NB272_302.out
              have hnb173 := NB302_280.out
              have hnc173 := NB280_302.out
              have hcz174_0 : w152.cell? ⟨gb302, 0, none⟩ = some (.slice none 0 0) := (blk_cell BK302.out 0).trans rfl
              have hfz174_0 := blk_frozen BK302.out 0
              have hnb175 := NB268_254.out
              have hnc175 := NB254_268.out
              have hnb176 := NB268_255.out
              have hnc176 := NB255_268.out
              have hnb177 := NB268_272.out
              have hnc177 := NB272_268.out
              have hnb178 := NB268_280.out
              have hnc178 := NB280_268.out
              have hcz179_0 : w152.cell? ⟨gb268, 0, none⟩ = some (.slice Ao41 t264.length co41) := (blk_cell BK268.out 0).trans rfl
              have hfz179_0 := blk_frozen BK268.out 0
              go_wp2_with (first | ((with_reducible refine gate_callee (f := 49) rfl ?_); refine goesL_ (some 99) rfl rfl Try.func49 (by kernel_rfl) rfl #[.agg #[.slice Ao153 t298.length co153], .agg #[.slice Ao41 t264.length co41]] rfl mA ?_; (with_reducible refine (laws_eqMem.calls kj86 _ _ t298 _ _ t264 false _ ?side1 ?side2 ?side3 ?side4 A155.out).mono ?_); (case side1 => refine (Kd.R_reads' (e := 35) (base := w.heap.size) (ok := fun k_ => (some k_ ≠ (v293 : Value).ownBlock ∧ (some k_ ≠ (.slice Ao41 t264.length co41 : Value).ownBlock ∧ (some k_ ≠ (.slice Ao47 t287.length co47 : Value).ownBlock ∧ some k_ ≠ (.slice Ao58 t276.length co58 : Value).ownBlock)))) (n := t298.length) (c := co153) ?_).2.2; exact (by (with_reducible repeat (first | apply Kd.R_alloc | apply Kd.R_drewN | apply Kd.R_drew)); exact (Kd.R_mono (Kd.R_far (p := ⟨gb302, 0, none⟩) (Kd.R_types HO300.out BK302.out (by decide)) (fun _ hk => hk.2) (.slice Ao153 t298.length co153)) (fun _ h_ => h_.1)))); (case side2 => exact (Kd.R_reads' HO300.out).2.1); (case side3 => refine (Kd.R_reads' (e := 35) (base := w.heap.size) (ok := fun k_ => (some k_ ≠ (v293 : Value).ownBlock ∧ (some k_ ≠ (.slice Ao153 t298.length co153 : Value).ownBlock ∧ (some k_ ≠ (.slice Ao47 t287.length co47 : Value).ownBlock ∧ some k_ ≠ (.slice Ao58 t276.length co58 : Value).ownBlock)))) (n := t264.length) (c := co41) ?_).2.2; exact (by (with_reducible repeat (first | apply Kd.R_alloc | apply Kd.R_drewN | apply Kd.R_drew)); exact (Kd.R_mono (Kd.R_far (p := ⟨gb302, 0, none⟩) (Kd.R_types HO_269000.out BK302.out (by decide)) (fun _ hk => hk.2) (.slice Ao153 t298.length co153)) (fun _ h_ => h_.1)))); (case side4 => exact (Kd.R_reads' HO_269000.out).2.1); rintro e w180 ⟨rfl, hb⟩; refine ⟨_, rfl, ?_⟩; replace HO_269000 := mS (Kd.R_below (by (with_reducible repeat (first | apply Kd.R_alloc | apply Kd.R_drewN | apply Kd.R_drew)); exact (Kd.R_mono (Kd.R_far (p := ⟨gb302, 0, none⟩) (Kd.R_types HO_269000.out BK302.out (by decide)) (fun _ hk => hk.2) (.slice Ao153 t298.length co153)) (fun _ h_ => h_.1))) hb); replace HO_273000 := mS (Kd.R_below (by (with_reducible repeat (first | apply Kd.R_alloc | apply Kd.R_drewN | apply Kd.R_drew)); exact (Kd.R_mono (Kd.R_far (p := ⟨gb302, 0, none⟩) (Kd.R_types HO_273000.out BK302.out (by decide)) (fun _ hk => hk.2) (.slice Ao153 t298.length co153)) (fun _ h_ => h_.1))) hb); replace HO_281000 := mS (Kd.R_below (by (with_reducible repeat (first | apply Kd.R_alloc | apply Kd.R_drewN | apply Kd.R_drew)); exact (Kd.R_mono (Kd.R_far (p := ⟨gb302, 0, none⟩) (Kd.R_types HO_281000.out BK302.out (by decide)) (fun _ hk => hk.2) (.slice Ao153 t298.length co153)) (fun _ h_ => h_.1))) hb); replace HO294 := mS (Kd.R_below (by (with_reducible repeat (first | apply Kd.R_alloc | apply Kd.R_drewN | apply Kd.R_drew)); exact (Kd.R_mono (Kd.R_far (p := ⟨gb302, 0, none⟩) (Kd.R_types HO294.out BK302.out (by decide)) (fun _ hk => hk.2) (.slice Ao153 t298.length co153)) (fun _ h_ => h_.1))) hb); replace HO300 := mS (Kd.R_below (by (with_reducible repeat (first | apply Kd.R_alloc | apply Kd.R_drewN | apply Kd.R_drew)); exact (Kd.R_mono (Kd.R_far (p := ⟨gb302, 0, none⟩) (Kd.R_types HO300.out BK302.out (by decide)) (fun _ hk => hk.2) (.slice Ao153 t298.length co153)) (fun _ h_ => h_.1))) hb); replace BK254 := mS (blk_below (g := gb254) (o := .cells #[.slice A0_0 l0_0.length c0_0] 78 (0, 0)) (by (with_reducible repeat (first | refine blk_drewN ?_ _ | refine blk_drew ?_ | refine blk_alloc ?_ _)); refine blk_far ?_ NB254_302.out _; (with_reducible repeat (first | refine blk_drewN ?_ _ | refine blk_drew ?_ | refine blk_alloc ?_ _)); exact BK254.out) hb); replace BK255 := mS (blk_below (g := gb255) (o := .cells #[.string a1_0, .string a1_1, .bool a1_2] 84 (0, 0)) (by (with_reducible repeat (first | refine blk_drewN ?_ _ | refine blk_drew ?_ | refine blk_alloc ?_ _)); refine blk_far ?_ NB255_302.out _; (with_reducible repeat (first | refine blk_drewN ?_ _ | refine blk_drew ?_ | refine blk_alloc ?_ _)); exact BK255.out) hb); replace BK268 := mS (blk_below (g := gb268) (o := .cells #[.slice Ao41 t264.length co41] 26 (0, 0)) (by (with_reducible repeat (first | refine blk_drewN ?_ _ | refine blk_drew ?_ | refine blk_alloc ?_ _)); refine blk_far ?_ NB268_302.out _; (with_reducible repeat (first | refine blk_drewN ?_ _ | refine blk_drew ?_ | refine blk_alloc ?_ _)); exact BK268.out) hb); replace BK272 := mS (blk_below (g := gb272) (o := .cells #[.slice Ao47 t287.length co47] 26 (0, 0)) (by (with_reducible repeat (first | refine blk_drewN ?_ _ | refine blk_drew ?_ | refine blk_alloc ?_ _)); refine blk_far ?_ NB272_302.out _; (with_reducible repeat (first | refine blk_drewN ?_ _ | refine blk_drew ?_ | refine blk_alloc ?_ _)); exact BK272.out) hb); replace BK280 := mS (blk_below (g := gb280) (o := .cells #[.slice Ao58 t276.length co58] 26 (0, 0)) (by (with_reducible repeat (first | refine blk_drewN ?_ _ | refine blk_drew ?_ | refine blk_alloc ?_ _)); refine blk_far ?_ NB280_302.out _; (with_reducible repeat (first | refine blk_drewN ?_ _ | refine blk_drew ?_ | refine blk_alloc ?_ _)); exact BK280.out) hb); replace BK302 := mS (blk_below (g := gb302) (o := .cells #[.slice Ao153 t298.length co153] 26 (0, 0)) (by (with_reducible repeat (first | refine blk_drewN ?_ _ | refine blk_drew ?_ | refine blk_alloc ?_ _)); refine blk_put (cs := #[.slice none 0 0]) ?_ 0 _ rfl; (with_reducible repeat (first | refine blk_drewN ?_ _ | refine blk_drew ?_ | refine blk_alloc ?_ _)); exact BK302.out) hb); replace HB := mS (below_step (mH6 HB.out GE254.out GE255.out GE268.out GE272.out GE280.out GE302.out) hb); (try clear hb); (try clear hb2); (try clear hk); (try clear hi)))
              go_meet
              case rel => exact ⟨_, (true), (by first | rfl | (simp; done) | (simp [*]; done)), H', ⟨by have := HJ25.out; have := HJ86.out; first | omega | exact Nat.le_refl _⟩, ⟨by (try simp only [hl273000_86]); (with_reducible repeat (first | apply Kd.R_alloc | apply Kd.R_drewN | apply Kd.R_drew)); exact Kd.R_mono HO_269000.out (fun _ hk => ⟨hk.2.2.1, ⟨hk.2.2.2, hk.2.1⟩⟩)⟩, ⟨by (try simp only [hl273000_86]); (with_reducible repeat (first | apply Kd.R_alloc | apply Kd.R_drewN | apply Kd.R_drew)); exact Kd.R_mono HO_273000.out (fun _ hk => ⟨hk.2.2.1, ⟨hk.2.2.2, hk.2.1⟩⟩)⟩, ⟨by (try simp only [hl273000_86]); (with_reducible repeat (first | apply Kd.R_alloc | apply Kd.R_drewN | apply Kd.R_drew)); exact Kd.R_mono HO_281000.out (fun _ hk => ⟨hk.2.2.1, ⟨hk.2.2.2, hk.2.1⟩⟩)⟩, ⟨by (try simp only [hl273000_86]); (with_reducible repeat (first | apply Kd.R_alloc | apply Kd.R_drewN | apply Kd.R_drew)); exact Kd.R_mono HO300.out (fun _ hk => ⟨hk.2.1, ⟨hk.2.2.1, hk.2.2.2⟩⟩)⟩, ⟨by (try simp only [hl273000_86]); (with_reducible repeat (first | refine blk_drewN ?_ _ | refine blk_drew ?_ | refine blk_alloc ?_ _)); exact BK254.out⟩, ⟨by (try simp only [hl273000_86]); (with_reducible repeat (first | refine blk_drewN ?_ _ | refine blk_drew ?_ | refine blk_alloc ?_ _)); exact BK255.out⟩, ⟨by (try simp only [hl273000_86]); (with_reducible repeat (first | refine blk_drewN ?_ _ | refine blk_drew ?_ | refine blk_alloc ?_ _)); exact BK268.out⟩, ⟨by (try simp only [hl273000_86]); (with_reducible repeat (first | refine blk_drewN ?_ _ | refine blk_drew ?_ | refine blk_alloc ?_ _)); exact BK272.out⟩, ⟨by (try simp only [hl273000_86]); (with_reducible repeat (first | refine blk_drewN ?_ _ | refine blk_drew ?_ | refine blk_alloc ?_ _)); exact BK280.out⟩, ⟨by (try simp only [hl273000_86]); (with_reducible repeat (first | refine blk_drewN ?_ _ | refine blk_drew ?_ | refine blk_alloc ?_ _)); exact BK302.out⟩, ⟨(mH6 HB.out GE254.out GE255.out GE268.out GE272.out GE280.out GE302.out)⟩⟩
            case rest =>
             clear HC137
             try clear c1
             try clear c2
             try clear p2
             try clear c4
             try clear c5
             try clear c15
             try clear c16
             try clear c17
             try clear c20
             try clear c48
             try clear c49
             try clear c52
             try clear c156
             try clear c157
             try clear c158
             try clear c159
             try clear c160
             try clear c161
             try clear c163
             try clear c164
             try clear c165
             try clear c166
             try clear c169
             try clear c170
             try clear c171
             try clear c172
             try clear c173
             try clear c175
             try clear c176
             try clear c177
             try clear c178
             try clear hcz162_0
             try clear hcz167_0
             try clear hcz174_0
             try clear hcz179_0
             try clear hfz162_0
             try clear hfz167_0
             try clear hfz174_0
             try clear hfz179_0
             obtain ⟨kq, x105_136, rfl, HA, HJ136, HO_269000, HO_273000, HO_281000, HO_303000, BK254, BK255, BK268, BK272, BK280, BK302, HB⟩ := hcut
             have hl281000_136 := (Kd.R_reads' HO_281000.out).1
             rw [hl281000_136] at HO_281000
             (try simp only [hl281000_136])
             (try simp only [hl281000_136] at BK254)
             (try simp only [hl281000_136] at BK255)
             (try simp only [hl281000_136] at BK268)
             (try simp only [hl281000_136] at BK272)
             (try simp only [hl281000_136] at BK280)
             (try simp only [hl281000_136] at BK302)
             (try simp only [hl281000_136] at HO_269000)
             (try simp only [hl281000_136] at HO_273000)
             (try simp only [hl281000_136] at HO_303000)
             cases kq with
             | zero => exact absurd HA.out (by simp [laws_FnExactMemPut.j2])
             | succ kj136 =>
              have H := HA.out
              clear HA
              simp only [laws_FnExactMemPut.j2] at H
              by_cases c181 : x105_136 = true
              ·subst c181
               have H1 : (some false) = some r := by rw [if_pos rfl] at H; exact H
               clear H
               have H := H1
               clear H1
               obtain rfl := Option.some.inj H
               go_wp2
               go_ret
               exact ⟨by first | rfl | (simp [errW_none, errW_some] <;> rfl) | (simp [*, errW_none, errW_some] <;> rfl), (mH6 HB.out GE254.out GE255.out GE268.out GE272.out GE280.out GE302.out)⟩
              ·replace c181 := Bool.eq_false_iff.mpr c181
               subst c181
               have H1 : ((laws_heldMem.f kj136 t290 1).bind fun t304 => (if t304 < 0 then (some false) else (if t304 = t289 then (some true) else (some false)))) = some r := by rw [if_neg (show ¬ (false = true) by decide)] at H; exact H
               clear H
               have H := H1
               clear H1
               replace H := Option.bind_eq_some_iff.mp H
               obtain ⟨t304, A1820, H⟩ := H
               replace H : (if t304 < 0 then (some false) else (if t304 = t289 then (some true) else (some false))) = some r := H
               have A182 := mS A1820
               clear A1820
               by_cases c183 : t304 < 0
               ·rw [if_pos c183] at H
                have c183b0 : decide (t304 < 0) = true := decide_eq_true c183
                clear c183
                obtain rfl := Option.some.inj H
                have hnb184 := NB280_254.out
                have hnc184 := NB254_280.out
                have hnb185 := NB280_255.out
                have hnc185 := NB255_280.out
                have hnb186 := NB280_268.out
                have hnc186 := NB268_280.out
                have hnb187 := NB280_272.out
                have hnc187 := NB272_280.out
                have hnb188 := NB280_302.out
                have hnc188 := NB302_280.out
                have hcz189_0 : wc.cell? ⟨gb280, 0, none⟩ = some (.slice Ao58 t290.length co58) := (blk_cell BK280.out 0).trans rfl
                have hfz189_0 := blk_frozen BK280.out 0
                go_wp2_with (first | ((with_reducible refine gate_callee (f := 53) rfl ?_); refine goesL_ (some 108) rfl rfl Try.func53 (by kernel_rfl) rfl #[.agg #[.slice Ao58 t290.length co58], .int .i64 1] rfl mA ?_; (with_reducible refine (laws_heldMem.calls kj136 _ _ t290 1 t304 _ ?side1 ?side2 A182.out).mono ?_); (case side1 => repeat (first | exact (Kd.R_reads' HO_281000.out).2.2 | (with_reducible refine Kd.C_alloc ?_ _) | (with_reducible refine Kd.C_drewN ?_ _) | (with_reducible refine Kd.C_drew ?_))); (case side2 => exact (Kd.R_reads' HO_281000.out).2.1); rintro e w190 ⟨rfl, hb⟩; refine ⟨_, rfl, ?_⟩; replace HO_269000 := mS (Kd.R_below (mR HO_269000.out) hb); replace HO_273000 := mS (Kd.R_below (mR HO_273000.out) hb); replace HO_281000 := mS (Kd.R_below (mR HO_281000.out) hb); replace HO_303000 := mS (Kd.R_below (mR HO_303000.out) hb); replace BK254 := mB BK254 hb; replace BK255 := mB BK255 hb; replace BK268 := mB BK268 hb; replace BK272 := mB BK272 hb; replace BK280 := mB BK280 hb; replace BK302 := mB BK302 hb; replace HB := mS (below_step (mH6 HB.out GE254.out GE255.out GE268.out GE272.out GE280.out GE302.out) hb); (try clear hb); (try clear hb2); (try clear hk); (try clear hi)))
                go_ret
                exact ⟨by first | rfl | (simp [errW_none, errW_some] <;> rfl) | (simp [*, errW_none, errW_some] <;> rfl), (mH6 HB.out GE254.out GE255.out GE268.out GE272.out GE280.out GE302.out)⟩
               ·rw [if_neg c183] at H
                have c183b0 : decide (t304 < 0) = false := decide_eq_false c183
                clear c183
                by_cases c191 : t304 = t289
                ·rw [if_pos c191] at H
                 have c191b0 : (t304 == t289) = true := beq_iff_eq.mpr c191
                 have c191b1 : (t304 != t289) = false := bne_eq_false_iff_eq.mpr c191
                 clear c191
                 obtain rfl := Option.some.inj H
                 have hnb192 := NB280_254.out
                 have hnc192 := NB254_280.out
                 have hnb193 := NB280_255.out
                 have hnc193 := NB255_280.out
                 have hnb194 := NB280_268.out
                 have hnc194 := NB268_280.out
                 have hnb195 := NB280_272.out
                 have hnc195 := NB272_280.out
                 have hnb196 := NB280_302.out
                 have hnc196 := NB302_280.out
                 have hcz197_0 : wc.cell? ⟨gb280, 0, none⟩ = some (.slice Ao58 t290.length co58) := (blk_cell BK280.out 0).trans rfl
                 have hfz197_0 := blk_frozen BK280.out 0
                 go_wp2_with (first | ((with_reducible refine gate_callee (f := 53) rfl ?_); refine goesL_ (some 108) rfl rfl Try.func53 (by kernel_rfl) rfl #[.agg #[.slice Ao58 t290.length co58], .int .i64 1] rfl mA ?_; (with_reducible refine (laws_heldMem.calls kj136 _ _ t290 1 t304 _ ?side1 ?side2 A182.out).mono ?_); (case side1 => repeat (first | exact (Kd.R_reads' HO_281000.out).2.2 | (with_reducible refine Kd.C_alloc ?_ _) | (with_reducible refine Kd.C_drewN ?_ _) | (with_reducible refine Kd.C_drew ?_))); (case side2 => exact (Kd.R_reads' HO_281000.out).2.1); rintro e w198 ⟨rfl, hb⟩; refine ⟨_, rfl, ?_⟩; replace HO_269000 := mS (Kd.R_below (mR HO_269000.out) hb); replace HO_273000 := mS (Kd.R_below (mR HO_273000.out) hb); replace HO_281000 := mS (Kd.R_below (mR HO_281000.out) hb); replace HO_303000 := mS (Kd.R_below (mR HO_303000.out) hb); replace BK254 := mB BK254 hb; replace BK255 := mB BK255 hb; replace BK268 := mB BK268 hb; replace BK272 := mB BK272 hb; replace BK280 := mB BK280 hb; replace BK302 := mB BK302 hb; replace HB := mS (below_step (mH6 HB.out GE254.out GE255.out GE268.out GE272.out GE280.out GE302.out) hb); (try clear hb); (try clear hb2); (try clear hk); (try clear hi)))
                 go_ret
                 exact ⟨by first | rfl | (simp [errW_none, errW_some] <;> rfl) | (simp [*, errW_none, errW_some] <;> rfl), (mH6 HB.out GE254.out GE255.out GE268.out GE272.out GE280.out GE302.out)⟩
                ·rw [if_neg c191] at H
                 have c191b0 : (t304 == t289) = false := beq_eq_false_iff_ne.mpr c191
                 have c191b1 : (t304 != t289) = true := bne_iff_ne.mpr c191
                 obtain rfl := Option.some.inj H
                 have hnb199 := NB280_254.out
                 have hnc199 := NB254_280.out
                 have hnb200 := NB280_255.out
                 have hnc200 := NB255_280.out
                 have hnb201 := NB280_268.out
                 have hnc201 := NB268_280.out
                 have hnb202 := NB280_272.out
                 have hnc202 := NB272_280.out
                 have hnb203 := NB280_302.out
                 have hnc203 := NB302_280.out
                 have hcz204_0 : wc.cell? ⟨gb280, 0, none⟩ = some (.slice Ao58 t290.length co58) := (blk_cell BK280.out 0).trans rfl
                 have hfz204_0 := blk_frozen BK280.out 0
                 go_wp2_with (first | ((with_reducible refine gate_callee (f := 53) rfl ?_); refine goesL_ (some 108) rfl rfl Try.func53 (by kernel_rfl) rfl #[.agg #[.slice Ao58 t290.length co58], .int .i64 1] rfl mA ?_; (with_reducible refine (laws_heldMem.calls kj136 _ _ t290 1 t304 _ ?side1 ?side2 A182.out).mono ?_); (case side1 => repeat (first | exact (Kd.R_reads' HO_281000.out).2.2 | (with_reducible refine Kd.C_alloc ?_ _) | (with_reducible refine Kd.C_drewN ?_ _) | (with_reducible refine Kd.C_drew ?_))); (case side2 => exact (Kd.R_reads' HO_281000.out).2.1); rintro e w205 ⟨rfl, hb⟩; refine ⟨_, rfl, ?_⟩; replace HO_269000 := mS (Kd.R_below (mR HO_269000.out) hb); replace HO_273000 := mS (Kd.R_below (mR HO_273000.out) hb); replace HO_281000 := mS (Kd.R_below (mR HO_281000.out) hb); replace HO_303000 := mS (Kd.R_below (mR HO_303000.out) hb); replace BK254 := mB BK254 hb; replace BK255 := mB BK255 hb; replace BK268 := mB BK268 hb; replace BK272 := mB BK272 hb; replace BK280 := mB BK280 hb; replace BK302 := mB BK302 hb; replace HB := mS (below_step (mH6 HB.out GE254.out GE255.out GE268.out GE272.out GE280.out GE302.out) hb); (try clear hb); (try clear hb2); (try clear hk); (try clear hi)))
                 go_ret
                 exact ⟨by first | rfl | (simp [errW_none, errW_some] <;> rfl) | (simp [*, errW_none, errW_some] <;> rfl), (mH6 HB.out GE254.out GE255.out GE268.out GE272.out GE280.out GE302.out)⟩
           ·rw [if_neg c133] at H
            have c133b0 : (t291 == t289) = false := beq_eq_false_iff_ne.mpr c133
            have c133b1 : (t291 != t289) = true := bne_iff_ne.mpr c133
            obtain rfl := Option.some.inj H
            have hnb206 := NB280_254.out
            have hnc206 := NB254_280.out
            have hnb207 := NB280_255.out
            have hnc207 := NB255_280.out
            have hnb208 := NB280_268.out
            have hnc208 := NB268_280.out
            have hnb209 := NB280_272.out
            have hnc209 := NB272_280.out
            have hcz210_0 : wc.cell? ⟨gb280, 0, none⟩ = some (.slice Ao58 t276.length co58) := (blk_cell BK280.out 0).trans rfl
            have hfz210_0 := blk_frozen BK280.out 0
            go_wp2_with (first | ((with_reducible refine gate_callee (f := 50) rfl ?_); refine goesL_ (some 79) rfl rfl Try.func50 (by kernel_rfl) rfl #[.agg #[.slice Ao58 t276.length co58], .int .i64 1] rfl mA ?_; (with_reducible refine (laws_markMem.calls kj86 (fun k_ => some k_ = (.slice Ao58 t276.length co58 : Value).ownBlock) (.slice Ao58 t276.length co58) t276 1 t289 t290 w _ ?side1 ?side2 A122.out).mono ?_); (case side1 => repeat (first | (with_reducible first | exact HB.out | apply below_alloc | apply pw_below_drewN | apply below_drew1 | refine below_set ?_ GE254.out | refine below_set ?_ GE255.out | refine below_set ?_ GE268.out | refine below_set ?_ GE272.out | refine below_set ?_ GE280.out) | exact HB.out)); (case side2 => exact Kd.R_tight rfl HO_281000.out); rintro e w211 ⟨rfl, hy0, hb, hkp⟩; refine ⟨_, rfl, ?_⟩; replace HO_269000 := mS (Kd.R_mono (ok' := fun k_ => some k_ ≠ (.slice Ao47 t287.length co47 : Value).ownBlock ∧ some k_ ≠ (.slice Ao58 t276.length co58 : Value).ownBlock) (Kd.R_keptB (HO_269000.out) hkp (fun k_ hk_ hs_ => (hk_.2) hs_)) (fun k_ hk_ => ⟨hk_.1.1, hk_.1.2⟩)); replace HO_273000 := mS (Kd.R_mono (ok' := fun k_ => some k_ ≠ (.slice Ao41 t264.length co41 : Value).ownBlock ∧ some k_ ≠ (.slice Ao58 t276.length co58 : Value).ownBlock) (Kd.R_keptB (HO_273000.out) hkp (fun k_ hk_ hs_ => (hk_.2) hs_)) (fun k_ hk_ => ⟨hk_.1.1, hk_.1.2⟩)); replace BK254 := mS (blk_kept (mK BK254.out) hkp (fun hs_ => (fun e_ => (Kd.R_ne HO_281000.out BK254.out (by decide)) e_) hs_)); replace BK255 := mS (blk_kept (mK BK255.out) hkp (fun hs_ => (fun e_ => (Kd.R_ne HO_281000.out BK255.out (by decide)) e_) hs_)); replace BK268 := mS (blk_kept (mK BK268.out) hkp (fun hs_ => (fun e_ => (Kd.R_ne HO_281000.out BK268.out (by decide)) e_) hs_)); replace BK272 := mS (blk_kept (mK BK272.out) hkp (fun hs_ => (fun e_ => (Kd.R_ne HO_281000.out BK272.out (by decide)) e_) hs_)); replace BK280 := mS (blk_kept (mK BK280.out) hkp (fun hs_ => (fun e_ => (Kd.R_ne HO_281000.out BK280.out (by decide)) e_) hs_)); replace HO_281000 := mS (Kd.R_reok rfl hy0 (fun k_ e_ => HO_281000.out.1 k_ e_)); replace HB := mS (hb); (try clear hb); (try clear hkp); (try clear hy0); have hcz212_0 : w211.cell? ⟨gb280, 0, none⟩ = some (.slice Ao58 t276.length co58) := (blk_cell BK280.out 0).trans rfl; have hfz212_0 := blk_frozen BK280.out 0) | ((with_reducible refine gate_callee (f := 53) rfl ?_); refine goesL_ (some 82) rfl rfl Try.func53 (by kernel_rfl) rfl #[.agg #[.slice Ao58 t290.length co58], .int .i64 1] rfl (by (try simp only [List.map_toArray, List.map_cons, List.map_nil]); first | done | (rw [show t290.length = t276.length from (Kd.R_reads' HO_281000.out).1.symm] <;> rfl) | rfl | (simp only [List.length_drop, List.length_take]; rfl)) ?_; (with_reducible refine (laws_heldMem.calls kj86 _ _ t290 1 t291 _ ?side1 ?side2 A123.out).mono ?_); (case side1 => repeat (first | exact (Kd.R_reads' HO_281000.out).2.2 | (with_reducible refine Kd.C_alloc ?_ _) | (with_reducible refine Kd.C_drewN ?_ _) | (with_reducible refine Kd.C_drew ?_))); (case side2 => rw [show t290.length = t276.length from (Kd.R_reads' HO_281000.out).1.symm]; exact (Kd.R_reads' HO_281000.out).2.1); rintro e w213 ⟨rfl, hb⟩; refine ⟨_, rfl, ?_⟩; replace HO_269000 := mS (Kd.R_below (mR HO_269000.out) hb); replace HO_273000 := mS (Kd.R_below (mR HO_273000.out) hb); replace HO_281000 := mS (Kd.R_below (mR HO_281000.out) hb); replace BK254 := mB BK254 hb; replace BK255 := mB BK255 hb; replace BK268 := mB BK268 hb; replace BK272 := mB BK272 hb; replace BK280 := mB BK280 hb; replace HB := mS (below_step (mH5 HB.out GE254.out GE255.out GE268.out GE272.out GE280.out) hb); (try clear hb); (try clear hb2); (try clear hk); (try clear hi)))
            go_ret
            exact ⟨by first | rfl | (simp [errW_none, errW_some] <;> rfl) | (simp [*, errW_none, errW_some] <;> rfl), (mH5 HB.out GE254.out GE255.out GE268.out GE272.out GE280.out)⟩
      ·replace c85 := Bool.eq_false_iff.mpr c85
       subst c85
       have H1 : (some false) = some r := by rw [if_neg (show ¬ (false = true) by decide)] at H; exact H
       clear H
       have H := H1
       clear H1
       obtain rfl := Option.some.inj H
       try go_wp2
       have n0_ := mS (Kd.R_drew HO_269000.out)
       have n1_ := mS (Kd.R_drew HO_273000.out)
       have n2_ := mS (Kd.R_drew HO_281000.out)
       have n3_ := mS (blk_drew BK254.out)
       have n4_ := mS (blk_drew BK255.out)
       have n5_ := mS (blk_drew BK268.out)
       have n6_ := mS (blk_drew BK272.out)
       have n7_ := mS (blk_drew BK280.out)
       have n8_ := mS (below_drew1 HB.out)
       clear HO_269000
       clear HO_273000
       clear HO_281000
       clear BK254
       clear BK255
       clear BK268
       clear BK272
       clear BK280
       clear HB
       have HO_269000 := n0_
       have HO_273000 := n1_
       have HO_281000 := n2_
       have BK254 := n3_
       have BK255 := n4_
       have BK268 := n5_
       have BK272 := n6_
       have BK280 := n7_
       have HB := n8_
       clear n0_ n1_ n2_ n3_ n4_ n5_ n6_ n7_ n8_
       refine start_ (n := 5) (S := fun w' => w'.cell? ⟨gb272, 0, none⟩ = some (.slice Ao47 t269.length co47) ∧ w'.cell? ⟨gb254, 0, none⟩ = some (.slice A0_0 l0_0.length c0_0)) (ds := []) #[false, false, false, false, false] (by kernel_rfl) rfl rfl ⟨(blk_cell BK272.out 0).trans rfl, (blk_cell BK254.out 0).trans rfl⟩ (fun hHeld => ?_)
       generalize wc.drew = w214 at HO_269000 HO_273000 HO_281000 BK254 BK255 BK268 BK272 BK280 HB hHeld ⊢
       refine take_ (i := 0) (N := some 56) (v := ?_) (a' := ?_) #[true, false, false, false, false] rfl rfl (by kernel_rfl) (fun _ _ _ h => h) (Or.inl ⟨by rfl, ?_⟩) hHeld ?_ ?_
       rotate_left
       ·rintro w' ⟨s0, s1⟩
        go_simp
        with_reducible rfl
       rotate_left
       ·simp only [Act.put, zA, zB, zC, i64_w, i32_w]
        rfl
       refine take_ (i := 1) (N := some 57) (v := ?_) (a' := ?_) #[true, true, false, false, false] rfl rfl (by kernel_rfl) (fun _ _ _ h => h) (Or.inl ⟨by rfl, ?_⟩) hHeld ?_ ?_
       rotate_left
       ·rintro w' ⟨s0, s1⟩
        go_simp
        with_reducible rfl
       rotate_left
       ·simp only [Act.put, zA, zB, zC, i64_w, i32_w]
        rfl
       refine one_ (i := 2) (N := some 58) #[true, true, true, false, false] rfl rfl (by kernel_rfl) (by decide) (fun K hK => ?_)
       refine goes_ Try.func48 (by kernel_rfl) rfl #[.agg #[.slice A0_0 l0_0.length c0_0]] (by rfl) rfl rfl mA ?_
       with_reducible refine (laws_toMem.calls kj25 _ _ l0_0 t282 _ ?side1 ?side2 A83.out).mono ?_
       (case side1 => repeat (first | exact (Kd.C_below HR0_0.out HB.out) | (with_reducible refine Kd.C_alloc ?_ _) | (with_reducible refine Kd.C_drewN ?_ _) | (with_reducible refine Kd.C_drew ?_)))
       (case side2 => exact HC0_0.out)
       rintro e w215 ⟨v283, rfl, ho0, hb⟩
       refine ⟨_, rfl, ?_⟩
       have n0_ := mS (Kd.R_elder' (mR HO_269000.out) (Kd.R_base ho0) hb)
       have n1_ := mS (Kd.R_elder' (mR HO_273000.out) (Kd.R_base ho0) hb)
       have n2_ := mS (Kd.R_elder' (mR HO_281000.out) (Kd.R_base ho0) hb)
       have n3_ := mS (Kd.R_lower (Kd.R_new' (Kd.R_new' (Kd.R_new' ho0 (Kd.R_lt (mR HO_269000.out))) (Kd.R_lt (mR HO_273000.out))) (Kd.R_lt (mR HO_281000.out))) (below_size (mH5 HB.out GE254.out GE255.out GE268.out GE272.out GE280.out)))
       have n4_ := mB BK254 hb
       have n5_ := mB BK255 hb
       have n6_ := mB BK268 hb
       have n7_ := mB BK272 hb
       have n8_ := mB BK280 hb
       have n9_ := mS (below_step (mH5 HB.out GE254.out GE255.out GE268.out GE272.out GE280.out) hb)
       clear HO_269000
       clear HO_273000
       clear HO_281000
       clear BK254
       clear BK255
       clear BK268
       clear BK272
       clear BK280
       clear HB
       have HO_269000 := n0_
       have HO_273000 := n1_
       have HO_281000 := n2_
       have HO284 := n3_
       have BK254 := n4_
       have BK255 := n5_
       have BK268 := n6_
       have BK272 := n7_
       have BK280 := n8_
       have HB := n9_
       clear n0_ n1_ n2_ n3_ n4_ n5_ n6_ n7_ n8_ n9_
       (try clear hb)
       (try clear hb2)
       (try clear hk)
       (try clear hi)
       (try clear ho0)
       obtain ⟨Ao216, co216, eo216⟩ := Kd.R_slice HO284.out
       (first | subst eo216 | (injection eo216 with f1_ f2_ f3_; have f4_ := f1_.symm; have f5_ := f3_.symm; clear f1_ f2_ f3_; subst f4_; subst f5_))
       refine hK.out _ _ ⟨(blk_cell BK272.out 0).trans rfl, (blk_cell BK254.out 0).trans rfl⟩ (fun hHeld => ?_)
       clear hK K
       refine norm_ (a' := ?_) ?_ ?_
       rotate_left
       ·show Act.put _ (some 58) _ = _
        simp only [Act.put, zA, zB, zC, i64_w, i32_w]
        rfl
       refine one_ (i := 3) (N := some 59) #[true, true, true, true, false] rfl rfl (by kernel_rfl) (by decide) (fun K hK => ?_)
       refine goes_ Try.func49 (by kernel_rfl) rfl #[.agg #[.slice Ao47 t269.length co47], .agg #[.slice Ao216 t282.length co216]] (by rfl) rfl rfl mA ?_
       with_reducible refine (laws_eqMem.calls kj25 _ _ t269 _ _ t282 false _ ?side1 ?side2 ?side3 ?side4 A84.out).mono ?_
       (case side1 => repeat (first | exact (Kd.R_reads' HO_273000.out).2.2 | (with_reducible refine Kd.C_alloc ?_ _) | (with_reducible refine Kd.C_drewN ?_ _) | (with_reducible refine Kd.C_drew ?_)))
       (case side2 => exact (Kd.R_reads' HO_273000.out).2.1)
       (case side3 => repeat (first | exact (Kd.R_reads' HO284.out).2.2 | (with_reducible refine Kd.C_alloc ?_ _) | (with_reducible refine Kd.C_drewN ?_ _) | (with_reducible refine Kd.C_drew ?_)))
       (case side4 => exact (Kd.R_reads' HO284.out).2.1)
       rintro e w217 ⟨rfl, hb⟩
       refine ⟨_, rfl, ?_⟩
       have n0_ := mS (Kd.R_below (mR HO_269000.out) hb)
       have n1_ := mS (Kd.R_below (mR HO_273000.out) hb)
       have n2_ := mS (Kd.R_below (mR HO_281000.out) hb)
       have n3_ := mS (Kd.R_below (mR HO284.out) hb)
       have n4_ := mB BK254 hb
       have n5_ := mB BK255 hb
       have n6_ := mB BK268 hb
       have n7_ := mB BK272 hb
       have n8_ := mB BK280 hb
       have n9_ := mS (below_step (mH5 HB.out GE254.out GE255.out GE268.out GE272.out GE280.out) hb)
       clear HO_269000
       clear HO_273000
       clear HO_281000
       clear HO284
       clear BK254
       clear BK255
       clear BK268
       clear BK272
       clear BK280
       clear HB
       have HO_269000 := n0_
       have HO_273000 := n1_
       have HO_281000 := n2_
       have HO284 := n3_
       have BK254 := n4_
       have BK255 := n5_
       have BK268 := n6_
       have BK272 := n7_
       have BK280 := n8_
       have HB := n9_
       clear n0_ n1_ n2_ n3_ n4_ n5_ n6_ n7_ n8_ n9_
       (try clear hb)
       (try clear hb2)
       (try clear hk)
       (try clear hi)
       refine hK.out _ _ ⟨(blk_cell BK272.out 0).trans rfl, (blk_cell BK254.out 0).trans rfl⟩ (fun hHeld => ?_)
       clear hK K
       refine norm_ (a' := ?_) ?_ ?_
       rotate_left
       ·show Act.put _ (some 59) _ = _
        simp only [Act.put, zA, zB, zC, i64_w, i32_w]
        rfl
       refine pure_ (i := 4) (N := some 60) (v := ?_) (a' := ?_) #[true, true, true, true, true] rfl rfl (by kernel_rfl) (fun _ _ _ h => h) (Or.inl ⟨by rfl, ?_⟩) ?_ ?_
       rotate_left
       ·intro w'
        go_simp
        with_reducible rfl
       rotate_left
       ·simp only [Act.put, zA, zB, zC, i64_w, i32_w]
        rfl
       refine done_ (by kernel_rfl) ?_
       try go_wp2
       go_ret
       exact ⟨by first | rfl | (simp [errW_none, errW_some] <;> rfl) | (simp [*, errW_none, errW_some] <;> rfl), (mH5 HB.out GE254.out GE255.out GE268.out GE272.out GE280.out)⟩

end Go.Proofs.Ytbepbgfkajnlbaa.MFnExactMemPut
