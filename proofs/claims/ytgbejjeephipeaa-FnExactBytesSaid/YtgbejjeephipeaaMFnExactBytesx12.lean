-- Written by mp.py, this session's own printer (wip/mp.py).
import Derived.Test.YtgbejjeephipeaaVMShort
import Derived.Test.YtgbejjeephipeaaMFnExactBytesx0
import Derived.Test.YtgbejjeephipeaaMFnExactBytesx1
import Derived.Test.YtgbejjeephipeaaMFnExactBytesx2
import Derived.Test.YtgbejjeephipeaaMFnExactBytesx3
import Derived.Test.YtgbejjeephipeaaMFnExactBytesx4
import Derived.Test.YtgbejjeephipeaaMFnExactBytesx7
import Derived.Test.YtgbejjeephipeaaMFnExactBytesx11
namespace Go.Proofs.Ytgbejjeephipeaa.MFnExactBytes
open Go.RowKit Go.Proofs.YtgbejjeephipeaaW.PrintWords Go.Proofs.YtgbejjeephipeaaW.PrintLast Go.Proofs.YtgbejjeephipeaaW.PrintMore Go.Proofs.Ytgbejjeephipeaa.MWords
attribute [local go_sem] max2_int min2_int max_two min_two max_three min_three max_four min_four   -- for this text's walks alone
set_option linter.unusedVariables false
set_option linter.unusedSimpArgs false

/-! ### laws_FnExactBytes: function 11 -/
mutual
def laws_FnExactBytes.j0 : Nat → ByteArray → List Int → Bool → List Int → Bool → Bool → List (S144) → List (S146) → List (S146) → Int → List (S120) → List (S126) → List (S126) → Int → Option (Bool)
 | 0, _, _, _, _, _, _, _, _, _, _, _, _, _, _ => none
 | k + 1, x1, x6, x7, x9, x10, x47, x281000, x281001, x281002, x281003, x307000, x307001, x307002, x307003 => if x47 = true then (some false) else ((laws_toDisk.f k x281000 x281001 x281002 x281003).bind fun bt312 => ((laws_eqDisk.f k x307000 x307001 x307002 x307003 bt312.1 bt312.2.1 bt312.2.2.1 bt312.2.2.2).bind fun t322 => (if t322 = true then ((laws_markDisk.f k x307000 x307001 x307002 x307003 1).bind fun bt323 => (if bt323.1 < 0 then (laws_FnExactBytes.j1 k x1 x6 x7 x9 true x281000 x281001 x281002 x281003) else ((laws_eqByteS.f k x9 x6).bind fun t327 => (if t327 = true then (laws_FnExactBytes.j1 k x1 x6 x7 x9 (x10 != x7) x281000 x281001 x281002 x281003) else (laws_FnExactBytes.j1 k x1 x6 x7 x9 true x281000 x281001 x281002 x281003))))) else (some false))))
def laws_FnExactBytes.j1 : Nat → ByteArray → List Int → Bool → List Int → Bool → List (S144) → List (S146) → List (S146) → Int → Option (Bool)
 | 0, _, _, _, _, _, _, _, _, _ => none
 | k + 1, x1, x6, x7, x9, x68, x281000, x281001, x281002, x281003 => if x68 = true then (some false) else ((laws_markByteS.f k x9 1).bind fun bt328 => ((laws_heldByteS.f k bt328.2 1).bind fun t330 => (if t330 < 0 then (some false) else (if t330 = bt328.1 then ((laws_toDisk.f k x281000 x281001 x281002 x281003).bind fun bt331 => ((impl_Bytes.f k bt331.1 bt331.2.1 bt331.2.2.1 bt331.2.2.2 x1).bind fun bt341 => ((laws_eqByteS.f k bt341.1 x6).bind fun t345 => (if t345 = true then (laws_FnExactBytes.j2 k bt328.2 bt328.1 (bt341.2 != x7)) else (laws_FnExactBytes.j2 k bt328.2 bt328.1 true))))) else (some false)))))
def laws_FnExactBytes.j2 : Nat → List Int → Int → Bool → Option (Bool)
 | 0, _, _, _ => none
 | k + 1, x9, x12, x95 => if x95 = true then (some false) else ((laws_heldByteS.f k x9 1).bind fun t346 => (if t346 < 0 then (some false) else (if t346 = x12 then (some true) else (some false))))
end
def laws_FnExactBytes.f (k : Nat) (l0_0 : List (S144)) (l0_1 : List (S146)) (l0_2 : List (S146)) (a0_3 : Int) (a1 : ByteArray) : Option (Bool) := if (a1.size : Int) > 1048576 then (some true) else ((laws_szDisk.f k l0_0 l0_1 l0_2 a0_3 1048576).bind fun t281 => (if t281 < 0 then (some true) else ((laws_toDisk.f k l0_0 l0_1 l0_2 a0_3).bind fun bt282 => ((spec_Bytes.f k bt282.1 bt282.2.1 bt282.2.2.1 bt282.2.2.2 a1).bind fun bt292 => ((laws_toDisk.f k l0_0 l0_1 l0_2 a0_3).bind fun bt296 => ((impl_Bytes.f k bt296.1 bt296.2.1 bt296.2.2.1 bt296.2.2.2 a1).bind fun bt307 => ((laws_eqByteS.f k bt307.1 bt292.1).bind fun t311 => (if t311 = true then (laws_FnExactBytes.j0 k a1 bt292.1 bt292.2 bt307.1 bt307.2 (bt307.2 != bt292.2) l0_0 l0_1 l0_2 a0_3 bt296.1 bt296.2.1 bt296.2.2.1 bt296.2.2.2) else (laws_FnExactBytes.j0 k a1 bt292.1 bt292.2 bt307.1 bt307.2 true l0_0 l0_1 l0_2 a0_3 bt296.1 bt296.2.1 bt296.2.2.1 bt296.2.2.2)))))))))
theorem laws_FnExactBytes.mono_l : ∀ k, (∀ y0 y1 y2 y3 y4 y5 y6 y7 y8 y9 y10 y11 y12 y13, LeO (laws_FnExactBytes.j0 k y0 y1 y2 y3 y4 y5 y6 y7 y8 y9 y10 y11 y12 y13) (laws_FnExactBytes.j0 (k + 1) y0 y1 y2 y3 y4 y5 y6 y7 y8 y9 y10 y11 y12 y13)) ∧ (∀ y0 y1 y2 y3 y4 y5 y6 y7 y8, LeO (laws_FnExactBytes.j1 k y0 y1 y2 y3 y4 y5 y6 y7 y8) (laws_FnExactBytes.j1 (k + 1) y0 y1 y2 y3 y4 y5 y6 y7 y8)) ∧ (∀ y0 y1 y2, LeO (laws_FnExactBytes.j2 k y0 y1 y2) (laws_FnExactBytes.j2 (k + 1) y0 y1 y2))
 | 0 => ⟨fun _ _ _ _ _ _ _ _ _ _ _ _ _ _ r h => by simp [laws_FnExactBytes.j0] at h, fun _ _ _ _ _ _ _ _ _ r h => by simp [laws_FnExactBytes.j1] at h, fun _ _ _ r h => by simp [laws_FnExactBytes.j2] at h⟩
 | k + 1 => by
  obtain ⟨ih0, ih1, ih2⟩ := laws_FnExactBytes.mono_l k
  refine ⟨?_, ?_, ?_⟩
  ·intro y0 y1 y2 y3 y4 y5 y6 y7 y8 y9 y10 y11 y12 y13
   unfold laws_FnExactBytes.j0
   repeat' first
   | (with_reducible exact ih0 _ _ _ _ _ _ _ _ _ _ _ _ _ _)
   | (with_reducible exact ih1 _ _ _ _ _ _ _ _ _)
   | (with_reducible exact ih2 _ _ _)
   | (with_reducible exact impl_Bytes.mono _ _ _ _ _ _)
   | (with_reducible exact laws_eqByteS.mono _ _ _)
   | (with_reducible exact laws_eqDisk.mono _ _ _ _ _ _ _ _ _)
   | (with_reducible exact laws_heldByteS.mono _ _ _)
   | (with_reducible exact laws_markByteS.mono _ _ _)
   | (with_reducible exact laws_markDisk.mono _ _ _ _ _ _)
   | (with_reducible exact laws_szDisk.mono _ _ _ _ _ _)
   | (with_reducible exact laws_toDisk.mono _ _ _ _ _)
   | (with_reducible exact spec_Bytes.mono _ _ _ _ _ _)
   | (with_reducible exact LeO.refl _)
   | (with_reducible exact LeO.none _)
   | (with_reducible refine LeO.ite ?_ ?_)
   | (with_reducible refine LeO.bind ?_ (fun _ => ?_))
   | exact ih0 _ _ _ _ _ _ _ _ _ _ _ _ _ _
   | exact ih1 _ _ _ _ _ _ _ _ _
   | exact ih2 _ _ _
   | exact impl_Bytes.mono _ _ _ _ _ _
   | exact laws_eqByteS.mono _ _ _
   | exact laws_eqDisk.mono _ _ _ _ _ _ _ _ _
   | exact laws_heldByteS.mono _ _ _
   | exact laws_markByteS.mono _ _ _
   | exact laws_markDisk.mono _ _ _ _ _ _
   | exact laws_szDisk.mono _ _ _ _ _ _
   | exact laws_toDisk.mono _ _ _ _ _
   | exact spec_Bytes.mono _ _ _ _ _ _
   | exact LeO.none _
   | refine LeO.ite ?_ ?_
   | refine LeO.bind ?_ (fun _ => ?_)
  ·intro y0 y1 y2 y3 y4 y5 y6 y7 y8
   unfold laws_FnExactBytes.j1
   repeat' first
   | (with_reducible exact ih0 _ _ _ _ _ _ _ _ _ _ _ _ _ _)
   | (with_reducible exact ih1 _ _ _ _ _ _ _ _ _)
   | (with_reducible exact ih2 _ _ _)
   | (with_reducible exact impl_Bytes.mono _ _ _ _ _ _)
   | (with_reducible exact laws_eqByteS.mono _ _ _)
   | (with_reducible exact laws_eqDisk.mono _ _ _ _ _ _ _ _ _)
   | (with_reducible exact laws_heldByteS.mono _ _ _)
   | (with_reducible exact laws_markByteS.mono _ _ _)
   | (with_reducible exact laws_markDisk.mono _ _ _ _ _ _)
   | (with_reducible exact laws_szDisk.mono _ _ _ _ _ _)
   | (with_reducible exact laws_toDisk.mono _ _ _ _ _)
   | (with_reducible exact spec_Bytes.mono _ _ _ _ _ _)
   | (with_reducible exact LeO.refl _)
   | (with_reducible exact LeO.none _)
   | (with_reducible refine LeO.ite ?_ ?_)
   | (with_reducible refine LeO.bind ?_ (fun _ => ?_))
   | exact ih0 _ _ _ _ _ _ _ _ _ _ _ _ _ _
   | exact ih1 _ _ _ _ _ _ _ _ _
   | exact ih2 _ _ _
   | exact impl_Bytes.mono _ _ _ _ _ _
   | exact laws_eqByteS.mono _ _ _
   | exact laws_eqDisk.mono _ _ _ _ _ _ _ _ _
   | exact laws_heldByteS.mono _ _ _
   | exact laws_markByteS.mono _ _ _
   | exact laws_markDisk.mono _ _ _ _ _ _
   | exact laws_szDisk.mono _ _ _ _ _ _
   | exact laws_toDisk.mono _ _ _ _ _
   | exact spec_Bytes.mono _ _ _ _ _ _
   | exact LeO.none _
   | refine LeO.ite ?_ ?_
   | refine LeO.bind ?_ (fun _ => ?_)
  ·intro y0 y1 y2
   unfold laws_FnExactBytes.j2
   repeat' first
   | (with_reducible exact ih0 _ _ _ _ _ _ _ _ _ _ _ _ _ _)
   | (with_reducible exact ih1 _ _ _ _ _ _ _ _ _)
   | (with_reducible exact ih2 _ _ _)
   | (with_reducible exact impl_Bytes.mono _ _ _ _ _ _)
   | (with_reducible exact laws_eqByteS.mono _ _ _)
   | (with_reducible exact laws_eqDisk.mono _ _ _ _ _ _ _ _ _)
   | (with_reducible exact laws_heldByteS.mono _ _ _)
   | (with_reducible exact laws_markByteS.mono _ _ _)
   | (with_reducible exact laws_markDisk.mono _ _ _ _ _ _)
   | (with_reducible exact laws_szDisk.mono _ _ _ _ _ _)
   | (with_reducible exact laws_toDisk.mono _ _ _ _ _)
   | (with_reducible exact spec_Bytes.mono _ _ _ _ _ _)
   | (with_reducible exact LeO.refl _)
   | (with_reducible exact LeO.none _)
   | (with_reducible refine LeO.ite ?_ ?_)
   | (with_reducible refine LeO.bind ?_ (fun _ => ?_))
   | exact ih0 _ _ _ _ _ _ _ _ _ _ _ _ _ _
   | exact ih1 _ _ _ _ _ _ _ _ _
   | exact ih2 _ _ _
   | exact impl_Bytes.mono _ _ _ _ _ _
   | exact laws_eqByteS.mono _ _ _
   | exact laws_eqDisk.mono _ _ _ _ _ _ _ _ _
   | exact laws_heldByteS.mono _ _ _
   | exact laws_markByteS.mono _ _ _
   | exact laws_markDisk.mono _ _ _ _ _ _
   | exact laws_szDisk.mono _ _ _ _ _ _
   | exact laws_toDisk.mono _ _ _ _ _
   | exact spec_Bytes.mono _ _ _ _ _ _
   | exact LeO.none _
   | refine LeO.ite ?_ ?_
   | refine LeO.bind ?_ (fun _ => ?_)
theorem laws_FnExactBytes.mono : ∀ a0 a1 a2 a3 a4 k, LeO (laws_FnExactBytes.f k a0 a1 a2 a3 a4) (laws_FnExactBytes.f (k + 1) a0 a1 a2 a3 a4) := by
 intro a0 a1 a2 a3 a4 k
 obtain ⟨ih0, ih1, ih2⟩ := laws_FnExactBytes.mono_l k
 unfold laws_FnExactBytes.f
 repeat' first
   | (with_reducible exact ih0 _ _ _ _ _ _ _ _ _ _ _ _ _ _)
   | (with_reducible exact ih1 _ _ _ _ _ _ _ _ _)
   | (with_reducible exact ih2 _ _ _)
   | (with_reducible exact impl_Bytes.mono _ _ _ _ _ _)
   | (with_reducible exact laws_eqByteS.mono _ _ _)
   | (with_reducible exact laws_eqDisk.mono _ _ _ _ _ _ _ _ _)
   | (with_reducible exact laws_heldByteS.mono _ _ _)
   | (with_reducible exact laws_markByteS.mono _ _ _)
   | (with_reducible exact laws_markDisk.mono _ _ _ _ _ _)
   | (with_reducible exact laws_szDisk.mono _ _ _ _ _ _)
   | (with_reducible exact laws_toDisk.mono _ _ _ _ _)
   | (with_reducible exact spec_Bytes.mono _ _ _ _ _ _)
   | (with_reducible exact LeO.refl _)
   | (with_reducible exact LeO.none _)
   | (with_reducible refine LeO.ite ?_ ?_)
   | (with_reducible refine LeO.bind ?_ (fun _ => ?_))
   | exact ih0 _ _ _ _ _ _ _ _ _ _ _ _ _ _
   | exact ih1 _ _ _ _ _ _ _ _ _
   | exact ih2 _ _ _
   | exact impl_Bytes.mono _ _ _ _ _ _
   | exact laws_eqByteS.mono _ _ _
   | exact laws_eqDisk.mono _ _ _ _ _ _ _ _ _
   | exact laws_heldByteS.mono _ _ _
   | exact laws_markByteS.mono _ _ _
   | exact laws_markDisk.mono _ _ _ _ _ _
   | exact laws_szDisk.mono _ _ _ _ _ _
   | exact laws_toDisk.mono _ _ _ _ _
   | exact spec_Bytes.mono _ _ _ _ _ _
   | exact LeO.none _
   | refine LeO.ite ?_ ?_
   | refine LeO.bind ?_ (fun _ => ?_)
set_option maxHeartbeats 8000000 in
set_option maxRecDepth 100000 in
theorem laws_FnExactBytes.calls (k : Nat) (A0_0 : Option Addr) (c0_0 : Nat) (l0_0 : List (S144)) (A0_1 : Option Addr) (c0_1 : Nat) (l0_1 : List (S146)) (A0_2 : Option Addr) (c0_2 : Nat) (l0_2 : List (S146)) (a0_3 : Int) (a1 : ByteArray) (r : Bool) (w : World) (hr0_0 : Kd.C k144 w A0_0 l0_0.length l0_0) (hc0_0 : l0_0.length ≤ c0_0) (hr0_1 : Kd.C k146 w A0_1 l0_1.length l0_1) (hc0_1 : l0_1.length ≤ c0_1) (hr0_2 : Kd.C k146 w A0_2 l0_2.length l0_2) (hc0_2 : l0_2.length ≤ c0_2) (ht_ : r = true) (h : laws_FnExactBytes.f k l0_0 l0_1 l0_2 a0_3 a1 = some r) :
  Calls Try.prog 11 #[.agg #[.slice A0_0 l0_0.length c0_0, .slice A0_1 l0_1.length c0_1, .slice A0_2 l0_2.length c0_2, .int .i64 a0_3], .string a1] w fun e w' => e = .returned (.bool r) ∧ Below w.heap.size w w' := by
 have hu71 := Try.underlying71
 have hu63 := Try.underlying63
 have HR0_0 := mS hr0_0
 have HC0_0 := mS hc0_0
 clear hr0_0 hc0_0
 have HR0_1 := mS hr0_1
 have HC0_1 := mS hc0_1
 clear hr0_1 hc0_1
 have HR0_2 := mS hr0_2
 have HC0_2 := mS hc0_2
 clear hr0_2 hc0_2
 have HB := mS (Below.refl w.heap.size w)
 have H : (if (a1.size : Int) > 1048576 then (some true) else ((laws_szDisk.f k l0_0 l0_1 l0_2 a0_3 1048576).bind fun t281 => (if t281 < 0 then (some true) else ((laws_toDisk.f k l0_0 l0_1 l0_2 a0_3).bind fun bt282 => ((spec_Bytes.f k bt282.1 bt282.2.1 bt282.2.2.1 bt282.2.2.2 a1).bind fun bt292 => ((laws_toDisk.f k l0_0 l0_1 l0_2 a0_3).bind fun bt296 => ((impl_Bytes.f k bt296.1 bt296.2.1 bt296.2.2.1 bt296.2.2.2 a1).bind fun bt307 => ((laws_eqByteS.f k bt307.1 bt292.1).bind fun t311 => (if t311 = true then (laws_FnExactBytes.j0 k a1 bt292.1 bt292.2 bt307.1 bt307.2 (bt307.2 != bt292.2) l0_0 l0_1 l0_2 a0_3 bt296.1 bt296.2.1 bt296.2.2.1 bt296.2.2.2) else (laws_FnExactBytes.j0 k a1 bt292.1 bt292.2 bt307.1 bt307.2 true l0_0 l0_1 l0_2 a0_3 bt296.1 bt296.2.1 bt296.2.2.1 bt296.2.2.2)))))))))) = some r := h
 clear h
 by_cases c3 : (a1.size : Int) > 1048576
 ·rw [if_pos c3] at H
  have c3b0 : decide (1048576 < (a1.size : Int)) = true := decide_eq_true c3
  have c3b1 : decide (1048576 < a1.size) = true := decide_eq_true (by omega)
  clear c3
  obtain rfl := Option.some.inj H
  go_enter Try.func11, Try.ntmps11
  go_wp2_with (first | ((with_reducible refine gate_dst (N := 2) rfl ?_); refine box_event ?hg (N := 2) ?hd (cs := #[.slice A0_0 l0_0.length c0_0, .slice A0_1 l0_1.length c0_1, .slice A0_2 l0_2.length c0_2, .int .i64 a0_3]) (t := 71) ?hr ?_; (case hd => rfl); (case hg => rfl); (case hr => first | (go_simp; done) | (go_simp; rfl)); intro gb280 hg w4 hbox hb; have BK280 := mS (hbox); have GW280 := mG hg (mH HB.out); have GE280 := mG hg (mH HB.out); replace HB := mS (below_step (mH HB.out) hb); clear hb hbox hg))
  go_ret
  exact ⟨by first | rfl | (simp [errW_none, errW_some] <;> rfl) | (simp [*, errW_none, errW_some] <;> rfl), (mH1 HB.out GE280.out)⟩
 ·rw [if_neg c3] at H
  have c3b0 : decide (1048576 < (a1.size : Int)) = false := decide_eq_false c3
  have c3b1 : decide (1048576 < a1.size) = false := decide_eq_false (by omega)
  clear c3
  replace H := Option.bind_eq_some_iff.mp H
  obtain ⟨t281, A50, H⟩ := H
  replace H : (if t281 < 0 then (some true) else ((laws_toDisk.f k l0_0 l0_1 l0_2 a0_3).bind fun bt282 => ((spec_Bytes.f k bt282.1 bt282.2.1 bt282.2.2.1 bt282.2.2.2 a1).bind fun bt292 => ((laws_toDisk.f k l0_0 l0_1 l0_2 a0_3).bind fun bt296 => ((impl_Bytes.f k bt296.1 bt296.2.1 bt296.2.2.1 bt296.2.2.2 a1).bind fun bt307 => ((laws_eqByteS.f k bt307.1 bt292.1).bind fun t311 => (if t311 = true then (laws_FnExactBytes.j0 k a1 bt292.1 bt292.2 bt307.1 bt307.2 (bt307.2 != bt292.2) l0_0 l0_1 l0_2 a0_3 bt296.1 bt296.2.1 bt296.2.2.1 bt296.2.2.2) else (laws_FnExactBytes.j0 k a1 bt292.1 bt292.2 bt307.1 bt307.2 true l0_0 l0_1 l0_2 a0_3 bt296.1 bt296.2.1 bt296.2.2.1 bt296.2.2.2)))))))) = some r := H
  have A5 := mS A50
  clear A50
  by_cases c6 : t281 < 0
  ·rw [if_pos c6] at H
   have c6b0 : decide (t281 < 0) = true := decide_eq_true c6
   clear c6
   obtain rfl := Option.some.inj H
   go_enter Try.func11, Try.ntmps11
   go_wp2_with (first | ((with_reducible refine gate_dst (N := 2) rfl ?_); refine box_event ?hg (N := 2) ?hd (cs := #[.slice A0_0 l0_0.length c0_0, .slice A0_1 l0_1.length c0_1, .slice A0_2 l0_2.length c0_2, .int .i64 a0_3]) (t := 71) ?hr ?_; (case hd => rfl); (case hg => rfl); (case hr => first | (go_simp; done) | (go_simp; rfl)); intro gb280 hg w7 hbox hb; have BK280 := mS (hbox); have GW280 := mG hg (mH HB.out); have GE280 := mG hg (mH HB.out); replace HB := mS (below_step (mH HB.out) hb); clear hb hbox hg; have hcz8_0 := mZ BK280.out 0; have hcz8_1 := mZ BK280.out 1; have hcz8_2 := mZ BK280.out 2; have hcz8_3 := mZ BK280.out 3; have hfz8_0 := blk_frozen BK280.out 0; have hfz8_1 := blk_frozen BK280.out 1; have hfz8_2 := blk_frozen BK280.out 2; have hfz8_3 := blk_frozen BK280.out 3) | ((with_reducible refine gate_callee (f := 43) rfl ?_); refine goesL_ (some 21) rfl rfl Try.func43 (by kernel_rfl) rfl #[.agg #[.slice A0_0 l0_0.length c0_0, .slice A0_1 l0_1.length c0_1, .slice A0_2 l0_2.length c0_2, .int .i64 a0_3], .int .i64 1048576] rfl mA ?_; (with_reducible refine (laws_szDisk.calls k _ _ l0_0 _ _ l0_1 _ _ l0_2 a0_3 1048576 t281 _ ?side1 ?side2 ?side3 ?side4 ?side5 ?side6 A5.out).mono ?_); (case side1 => repeat (first | exact (Kd.C_below HR0_0.out HB.out) | (with_reducible refine Kd.C_alloc ?_ _) | (with_reducible refine Kd.C_drewN ?_ _) | (with_reducible refine Kd.C_drew ?_))); (case side2 => exact HC0_0.out); (case side3 => repeat (first | exact (Kd.C_below HR0_1.out HB.out) | (with_reducible refine Kd.C_alloc ?_ _) | (with_reducible refine Kd.C_drewN ?_ _) | (with_reducible refine Kd.C_drew ?_))); (case side4 => exact HC0_1.out); (case side5 => repeat (first | exact (Kd.C_below HR0_2.out HB.out) | (with_reducible refine Kd.C_alloc ?_ _) | (with_reducible refine Kd.C_drewN ?_ _) | (with_reducible refine Kd.C_drew ?_))); (case side6 => exact HC0_2.out); rintro e w9 ⟨rfl, hb⟩; refine ⟨_, rfl, ?_⟩; replace BK280 := mB BK280 hb; replace HB := mS (below_step (mH1 HB.out GE280.out) hb); (try clear hb); (try clear hb2); (try clear hk); (try clear hi)))
   go_ret
   exact ⟨by first | rfl | (simp [errW_none, errW_some] <;> rfl) | (simp [*, errW_none, errW_some] <;> rfl), (mH1 HB.out GE280.out)⟩
  ·rw [if_neg c6] at H
   have c6b0 : decide (t281 < 0) = false := decide_eq_false c6
   clear c6
   replace H := Option.bind_eq_some_iff.mp H
   obtain ⟨⟨t282, t285, t288, t291⟩, A100, H⟩ := H
   replace H : ((spec_Bytes.f k t282 t285 t288 t291 a1).bind fun bt292 => ((laws_toDisk.f k l0_0 l0_1 l0_2 a0_3).bind fun bt296 => ((impl_Bytes.f k bt296.1 bt296.2.1 bt296.2.2.1 bt296.2.2.2 a1).bind fun bt307 => ((laws_eqByteS.f k bt307.1 bt292.1).bind fun t311 => (if t311 = true then (laws_FnExactBytes.j0 k a1 bt292.1 bt292.2 bt307.1 bt307.2 (bt307.2 != bt292.2) l0_0 l0_1 l0_2 a0_3 bt296.1 bt296.2.1 bt296.2.2.1 bt296.2.2.2) else (laws_FnExactBytes.j0 k a1 bt292.1 bt292.2 bt307.1 bt307.2 true l0_0 l0_1 l0_2 a0_3 bt296.1 bt296.2.1 bt296.2.2.1 bt296.2.2.2)))))) = some r := H
   have A10 := mS A100
   clear A100
   replace H := Option.bind_eq_some_iff.mp H
   obtain ⟨⟨t292, t295⟩, A110, H⟩ := H
   replace H : ((laws_toDisk.f k l0_0 l0_1 l0_2 a0_3).bind fun bt296 => ((impl_Bytes.f k bt296.1 bt296.2.1 bt296.2.2.1 bt296.2.2.2 a1).bind fun bt307 => ((laws_eqByteS.f k bt307.1 t292).bind fun t311 => (if t311 = true then (laws_FnExactBytes.j0 k a1 t292 t295 bt307.1 bt307.2 (bt307.2 != t295) l0_0 l0_1 l0_2 a0_3 bt296.1 bt296.2.1 bt296.2.2.1 bt296.2.2.2) else (laws_FnExactBytes.j0 k a1 t292 t295 bt307.1 bt307.2 true l0_0 l0_1 l0_2 a0_3 bt296.1 bt296.2.1 bt296.2.2.1 bt296.2.2.2))))) = some r := H
   have A11 := mS A110
   clear A110
   replace H := Option.bind_eq_some_iff.mp H
   obtain ⟨⟨t296, t299, t302, t305⟩, A120, H⟩ := H
   replace H : ((impl_Bytes.f k t296 t299 t302 t305 a1).bind fun bt307 => ((laws_eqByteS.f k bt307.1 t292).bind fun t311 => (if t311 = true then (laws_FnExactBytes.j0 k a1 t292 t295 bt307.1 bt307.2 (bt307.2 != t295) l0_0 l0_1 l0_2 a0_3 t296 t299 t302 t305) else (laws_FnExactBytes.j0 k a1 t292 t295 bt307.1 bt307.2 true l0_0 l0_1 l0_2 a0_3 t296 t299 t302 t305)))) = some r := H
   have A12 := mS A120
   clear A120
   replace H := Option.bind_eq_some_iff.mp H
   obtain ⟨⟨t307, t310⟩, A130, H⟩ := H
   replace H : ((laws_eqByteS.f k t307 t292).bind fun t311 => (if t311 = true then (laws_FnExactBytes.j0 k a1 t292 t295 t307 t310 (t310 != t295) l0_0 l0_1 l0_2 a0_3 t296 t299 t302 t305) else (laws_FnExactBytes.j0 k a1 t292 t295 t307 t310 true l0_0 l0_1 l0_2 a0_3 t296 t299 t302 t305))) = some r := H
   have A13 := mS A130
   clear A130
   have HC14 := mS H
   clear H
   go_enter Try.func11, Try.ntmps11
   go_upto_region 10 with (first | ((with_reducible refine gate_dst (N := 2) rfl ?_); refine box_event ?hg (N := 2) ?hd (cs := #[.slice A0_0 l0_0.length c0_0, .slice A0_1 l0_1.length c0_1, .slice A0_2 l0_2.length c0_2, .int .i64 a0_3]) (t := 71) ?hr ?_; (case hd => rfl); (case hg => rfl); (case hr => first | (go_simp; done) | (go_simp; rfl)); intro gb280 hg w15 hbox hb; have BK280 := mS (hbox); have GW280 := mG hg (mH HB.out); have GE280 := mG hg (mH HB.out); replace HB := mS (below_step (mH HB.out) hb); clear hb hbox hg; have hcz16_0 := mZ BK280.out 0; have hcz16_1 := mZ BK280.out 1; have hcz16_2 := mZ BK280.out 2; have hcz16_3 := mZ BK280.out 3; have hfz16_0 := blk_frozen BK280.out 0; have hfz16_1 := blk_frozen BK280.out 1; have hfz16_2 := blk_frozen BK280.out 2; have hfz16_3 := blk_frozen BK280.out 3) | ((with_reducible refine gate_callee (f := 43) rfl ?_); refine goesL_ (some 21) rfl rfl Try.func43 (by kernel_rfl) rfl #[.agg #[.slice A0_0 l0_0.length c0_0, .slice A0_1 l0_1.length c0_1, .slice A0_2 l0_2.length c0_2, .int .i64 a0_3], .int .i64 1048576] rfl mA ?_; (with_reducible refine (laws_szDisk.calls k _ _ l0_0 _ _ l0_1 _ _ l0_2 a0_3 1048576 t281 _ ?side1 ?side2 ?side3 ?side4 ?side5 ?side6 A5.out).mono ?_); (case side1 => repeat (first | exact (Kd.C_below HR0_0.out HB.out) | (with_reducible refine Kd.C_alloc ?_ _) | (with_reducible refine Kd.C_drewN ?_ _) | (with_reducible refine Kd.C_drew ?_))); (case side2 => exact HC0_0.out); (case side3 => repeat (first | exact (Kd.C_below HR0_1.out HB.out) | (with_reducible refine Kd.C_alloc ?_ _) | (with_reducible refine Kd.C_drewN ?_ _) | (with_reducible refine Kd.C_drew ?_))); (case side4 => exact HC0_1.out); (case side5 => repeat (first | exact (Kd.C_below HR0_2.out HB.out) | (with_reducible refine Kd.C_alloc ?_ _) | (with_reducible refine Kd.C_drewN ?_ _) | (with_reducible refine Kd.C_drew ?_))); (case side6 => exact HC0_2.out); rintro e w17 ⟨rfl, hb⟩; refine ⟨_, rfl, ?_⟩; replace BK280 := mB BK280 hb; replace HB := mS (below_step (mH1 HB.out GE280.out) hb); (try clear hb); (try clear hb2); (try clear hk); (try clear hi); have hcz18_0 := mZ BK280.out 0; have hcz18_1 := mZ BK280.out 1; have hcz18_2 := mZ BK280.out 2; have hcz18_3 := mZ BK280.out 3; have hfz18_0 := blk_frozen BK280.out 0; have hfz18_1 := blk_frozen BK280.out 1; have hfz18_2 := blk_frozen BK280.out 2; have hfz18_3 := blk_frozen BK280.out 3) | ((with_reducible refine gate_callee (f := 45) rfl ?_); refine goesL_ (some 26) rfl rfl Try.func45 (by kernel_rfl) rfl #[.agg #[.slice A0_0 l0_0.length c0_0, .slice A0_1 l0_1.length c0_1, .slice A0_2 l0_2.length c0_2, .int .i64 a0_3]] rfl mA ?_; (with_reducible refine (laws_toDisk.calls k _ _ l0_0 _ _ l0_1 _ _ l0_2 a0_3 t282 t285 t288 t291 _ ?side1 ?side2 ?side3 ?side4 ?side5 ?side6 A10.out).mono ?_); (case side1 => repeat (first | exact (Kd.C_below HR0_0.out HB.out) | (with_reducible refine Kd.C_alloc ?_ _) | (with_reducible refine Kd.C_drewN ?_ _) | (with_reducible refine Kd.C_drew ?_))); (case side2 => exact HC0_0.out); (case side3 => repeat (first | exact (Kd.C_below HR0_1.out HB.out) | (with_reducible refine Kd.C_alloc ?_ _) | (with_reducible refine Kd.C_drewN ?_ _) | (with_reducible refine Kd.C_drew ?_))); (case side4 => exact HC0_1.out); (case side5 => repeat (first | exact (Kd.C_below HR0_2.out HB.out) | (with_reducible refine Kd.C_alloc ?_ _) | (with_reducible refine Kd.C_drewN ?_ _) | (with_reducible refine Kd.C_drew ?_))); (case side6 => exact HC0_2.out); rintro e w19 ⟨v283, v286, v289, rfl, ho0, ho1, ho2, hb⟩; refine ⟨_, rfl, ?_⟩; obtain ⟨z20, hz20⟩ := MWords.mp_size hb; have HO284 := mS (Kd.S_lower (MWords.mp_geS ho0 hz20) (below_size (mH1 HB.out GE280.out))); have HO287 := mS (Kd.R_lower ho1 (below_size (mH1 HB.out GE280.out))); have HO290 := mS (Kd.R_lower ho2 (below_size (mH1 HB.out GE280.out))); replace BK280 := mB BK280 hb; replace HB := mS (below_step (mH1 HB.out GE280.out) hb); (try clear hb); (try clear hb2); (try clear hk); (try clear hi); (try clear ho0); (try clear ho1); (try clear ho2); obtain ⟨Ao21, co21, eo21⟩ := Kd.S_slice HO284.out; subst eo21; obtain ⟨Ao22, co22, eo22⟩ := Kd.R_slice HO287.out; subst eo22; obtain ⟨Ao23, co23, eo23⟩ := Kd.R_slice HO290.out; subst eo23) | ((with_reducible refine gate_callee (f := 52) rfl ?_); refine goesL_ (some 28) rfl rfl Try.func52 (by kernel_rfl) rfl #[.agg #[.slice Ao21 t282.length co21, .slice Ao22 t285.length co22, .slice Ao23 t288.length co23, .int .i64 t291], .string a1] rfl mA ?_; (with_reducible refine (spec_Bytes.calls k _ _ t282 _ _ t285 _ _ t288 t291 a1 t292 t295 _ ?side1 ?side2 ?side3 ?side4 ?side5 ?side6 A11.out).mono ?_); (case side1 => repeat (first | exact (Kd.S_reads' HO284.out).2.2 | (with_reducible refine Kd.C_alloc ?_ _) | (with_reducible refine Kd.C_drewN ?_ _) | (with_reducible refine Kd.C_drew ?_))); (case side2 => exact (Kd.S_reads' HO284.out).2.1); (case side3 => repeat (first | exact (Kd.R_reads' HO287.out).2.2 | (with_reducible refine Kd.C_alloc ?_ _) | (with_reducible refine Kd.C_drewN ?_ _) | (with_reducible refine Kd.C_drew ?_))); (case side4 => exact (Kd.R_reads' HO287.out).2.1); (case side5 => repeat (first | exact (Kd.R_reads' HO290.out).2.2 | (with_reducible refine Kd.C_alloc ?_ _) | (with_reducible refine Kd.C_drewN ?_ _) | (with_reducible refine Kd.C_drew ?_))); (case side6 => exact (Kd.R_reads' HO290.out).2.1); rintro e w24 ⟨v293, rfl, ho0, hb⟩; refine ⟨_, rfl, ?_⟩; replace HO284 := mS (Kd.S_elder' (by (with_reducible repeat (first | apply Kd.S_alloc | apply Kd.S_drewN | apply Kd.S_drew)); exact HO284.out) (Kd.R_base ho0) hb); replace HO287 := mS (Kd.R_below (mR HO287.out) hb); replace HO290 := mS (Kd.R_below (mR HO290.out) hb); have HO294 := mS (Kd.R_lower ho0 (below_size (mH1 HB.out GE280.out))); replace BK280 := mB BK280 hb; replace HB := mS (below_step (mH1 HB.out GE280.out) hb); (try clear hb); (try clear hb2); (try clear hk); (try clear hi); (try clear ho0); have hcz25_0 := mZ BK280.out 0; have hcz25_1 := mZ BK280.out 1; have hcz25_2 := mZ BK280.out 2; have hcz25_3 := mZ BK280.out 3; have hfz25_0 := blk_frozen BK280.out 0; have hfz25_1 := blk_frozen BK280.out 1; have hfz25_2 := blk_frozen BK280.out 2; have hfz25_3 := blk_frozen BK280.out 3) | ((with_reducible refine gate_callee (f := 45) rfl ?_); refine goesL_ (some 32) rfl rfl Try.func45 (by kernel_rfl) rfl #[.agg #[.slice A0_0 l0_0.length c0_0, .slice A0_1 l0_1.length c0_1, .slice A0_2 l0_2.length c0_2, .int .i64 a0_3]] rfl mA ?_; (with_reducible refine (laws_toDisk.calls k _ _ l0_0 _ _ l0_1 _ _ l0_2 a0_3 t296 t299 t302 t305 _ ?side1 ?side2 ?side3 ?side4 ?side5 ?side6 A12.out).mono ?_); (case side1 => repeat (first | exact (Kd.C_below HR0_0.out HB.out) | (with_reducible refine Kd.C_alloc ?_ _) | (with_reducible refine Kd.C_drewN ?_ _) | (with_reducible refine Kd.C_drew ?_))); (case side2 => exact HC0_0.out); (case side3 => repeat (first | exact (Kd.C_below HR0_1.out HB.out) | (with_reducible refine Kd.C_alloc ?_ _) | (with_reducible refine Kd.C_drewN ?_ _) | (with_reducible refine Kd.C_drew ?_))); (case side4 => exact HC0_1.out); (case side5 => repeat (first | exact (Kd.C_below HR0_2.out HB.out) | (with_reducible refine Kd.C_alloc ?_ _) | (with_reducible refine Kd.C_drewN ?_ _) | (with_reducible refine Kd.C_drew ?_))); (case side6 => exact HC0_2.out); rintro e w26 ⟨v297, v300, v303, rfl, ho0, ho1, ho2, hb⟩; refine ⟨_, rfl, ?_⟩; obtain ⟨z27, hz27⟩ := MWords.mp_size hb; have HO298 := mS (Kd.S_lower (Kd.S_new' (Kd.S_new' (MWords.mp_geS ho0 hz27) (Kd.S_lt (by (with_reducible repeat (first | apply Kd.S_alloc | apply Kd.S_drewN | apply Kd.S_drew)); exact HO284.out))) (Kd.R_lt (mR HO294.out))) (below_size (mH1 HB.out GE280.out))); replace HO284 := mS (MWords.mp_ltS (Kd.S_told (Kd.S_old (by (with_reducible repeat (first | apply Kd.S_alloc | apply Kd.S_drewN | apply Kd.S_drew)); exact HO284.out) hb) (Kd.S_base ho0)) hz27); replace HO294 := mS (Kd.R_below (mR HO294.out) hb); have HO301 := mS (Kd.R_lower (Kd.R_new' (Kd.R_new' ho1 (Kd.R_lt (mR HO287.out))) (Kd.R_lt (mR HO290.out))) (below_size (mH1 HB.out GE280.out))); have HO304 := mS (Kd.R_lower (Kd.R_new' (Kd.R_new' ho2 (Kd.R_lt (mR HO287.out))) (Kd.R_lt (mR HO290.out))) (below_size (mH1 HB.out GE280.out))); replace HO287 := mS (Kd.R_mono (Kd.R_told (Kd.R_told (Kd.R_old (mR HO287.out) hb) (Kd.R_base ho1)) (Kd.R_base ho2)) (fun _ h_ => h_.1)); replace HO290 := mS (Kd.R_mono (Kd.R_told (Kd.R_told (Kd.R_old (mR HO290.out) hb) (Kd.R_base ho1)) (Kd.R_base ho2)) (fun _ h_ => h_.1)); replace BK280 := mB BK280 hb; replace HB := mS (below_step (mH1 HB.out GE280.out) hb); (try clear hb); (try clear hb2); (try clear hk); (try clear hi); (try clear ho0); (try clear ho1); (try clear ho2)) | ((with_reducible refine gate_dst (N := 8) rfl ?_); refine box_event ?hg (N := 8) ?hd (cs := #[.slice none 0 0, .slice none 0 0, .slice none 0 0, .int .i64 0]) (t := 63) ?hr ?_; (case hd => rfl); (case hg => rfl); (case hr => first | (go_simp; done) | (go_simp; rfl)); intro gb306 hg w28 hbox hb; replace HO284 := mS (Kd.S_below (by (with_reducible repeat (first | apply Kd.S_alloc | apply Kd.S_drewN | apply Kd.S_drew)); exact HO284.out) hb); replace HO287 := mS (Kd.R_below (mR HO287.out) hb); replace HO290 := mS (Kd.R_below (mR HO290.out) hb); replace HO294 := mS (Kd.R_below (mR HO294.out) hb); replace HO298 := mS (Kd.S_below (by (with_reducible repeat (first | apply Kd.S_alloc | apply Kd.S_drewN | apply Kd.S_drew)); exact HO298.out) hb); replace HO301 := mS (Kd.R_below (mR HO301.out) hb); replace HO304 := mS (Kd.R_below (mR HO304.out) hb); have BK306 := mS (hbox); have GW306 := mG hg (mH1 HB.out GE280.out); have GE306 := mG hg (mH1 HB.out GE280.out); replace HB := mS (below_step (mH1 HB.out GE280.out) hb); have NB280_306 := mNl hg BK280.out; have NB306_280 := mNg hg BK280.out; replace BK280 := mB BK280 hb; clear hb hbox hg; obtain ⟨Ao29, co29, eo29⟩ := Kd.S_slice HO298.out; subst eo29; have hnb30 := NB306_280.out; have hnc30 := NB280_306.out; have hcz31_0 := mZ BK306.out 0; have hcz31_1 := mZ BK306.out 1; have hcz31_2 := mZ BK306.out 2; have hcz31_3 := mZ BK306.out 3; have hfz31_0 := blk_frozen BK306.out 0; have hfz31_1 := blk_frozen BK306.out 1; have hfz31_2 := blk_frozen BK306.out 2; have hfz31_3 := blk_frozen BK306.out 3; obtain ⟨Ao32, co32, eo32⟩ := Kd.R_slice HO301.out; subst eo32; obtain ⟨Ao33, co33, eo33⟩ := Kd.R_slice HO304.out; subst eo33) | ((with_reducible refine gate_callee (f := 53) rfl ?_); refine goesL_ (some 36) rfl rfl Try.func53 (by kernel_rfl) rfl #[.agg #[.slice Ao29 t296.length co29, .slice Ao32 t299.length co32, .slice Ao33 t302.length co33, .int .i64 t305], .string a1] rfl mA ?_; (with_reducible refine (impl_Bytes.calls k _ _ t296 _ _ t299 _ _ t302 t305 a1 t307 t310 _ ?side1 ?side2 ?side3 ?side4 ?side5 ?side6 A13.out).mono ?_); (case side1 => refine (Kd.S_reads' (e := 120) (base := w.heap.size) (ok := fun k_ => (((True ∧ z27 ≤ k_) ∧ some k_ ≠ (.slice Ao21 t282.length co21 : Value).ownBlock) ∧ some k_ ≠ (v293 : Value).ownBlock)) (n := t296.length) (c := co29) ?_).2.2; exact (by (with_reducible repeat (first | apply Kd.S_alloc | apply Kd.S_drewN | apply Kd.S_drew)); exact (Kd.S_mono (Kd.S_far (p := ⟨gb306, 3, none⟩) (Kd.S_far (p := ⟨gb306, 2, none⟩) (Kd.S_far (p := ⟨gb306, 1, none⟩) (Kd.S_far (p := ⟨gb306, 0, none⟩) (Kd.S_types HO298.out BK306.out (by decide)) (fun _ hk => hk.2) (.slice Ao29 t296.length co29)) (fun _ hk => hk.2) (.slice Ao32 t299.length co32)) (fun _ hk => hk.2) (.slice Ao33 t302.length co33)) (fun _ hk => hk.2) (.int .i64 t305)) (fun _ h_ => h_.1)))); (case side2 => exact (Kd.S_reads' HO298.out).2.1); (case side3 => refine (Kd.R_reads' (e := 126) (base := w.heap.size) (ok := fun k_ => ((some k_ ≠ (.slice Ao33 t302.length co33 : Value).ownBlock ∧ some k_ ≠ (.slice Ao22 t285.length co22 : Value).ownBlock) ∧ some k_ ≠ (.slice Ao23 t288.length co23 : Value).ownBlock)) (n := t299.length) (c := co32) ?_).2.2; exact (by (with_reducible repeat (first | apply Kd.R_alloc | apply Kd.R_drewN | apply Kd.R_drew)); exact (Kd.R_mono (Kd.R_far (p := ⟨gb306, 3, none⟩) (Kd.R_far (p := ⟨gb306, 2, none⟩) (Kd.R_far (p := ⟨gb306, 1, none⟩) (Kd.R_far (p := ⟨gb306, 0, none⟩) (Kd.R_types HO301.out BK306.out (by decide)) (fun _ hk => hk.2) (.slice Ao29 t296.length co29)) (fun _ hk => hk.2) (.slice Ao32 t299.length co32)) (fun _ hk => hk.2) (.slice Ao33 t302.length co33)) (fun _ hk => hk.2) (.int .i64 t305)) (fun _ h_ => h_.1)))); (case side4 => exact (Kd.R_reads' HO301.out).2.1); (case side5 => refine (Kd.R_reads' (e := 126) (base := w.heap.size) (ok := fun k_ => ((some k_ ≠ (.slice Ao32 t299.length co32 : Value).ownBlock ∧ some k_ ≠ (.slice Ao22 t285.length co22 : Value).ownBlock) ∧ some k_ ≠ (.slice Ao23 t288.length co23 : Value).ownBlock)) (n := t302.length) (c := co33) ?_).2.2; exact (by (with_reducible repeat (first | apply Kd.R_alloc | apply Kd.R_drewN | apply Kd.R_drew)); exact (Kd.R_mono (Kd.R_far (p := ⟨gb306, 3, none⟩) (Kd.R_far (p := ⟨gb306, 2, none⟩) (Kd.R_far (p := ⟨gb306, 1, none⟩) (Kd.R_far (p := ⟨gb306, 0, none⟩) (Kd.R_types HO304.out BK306.out (by decide)) (fun _ hk => hk.2) (.slice Ao29 t296.length co29)) (fun _ hk => hk.2) (.slice Ao32 t299.length co32)) (fun _ hk => hk.2) (.slice Ao33 t302.length co33)) (fun _ hk => hk.2) (.int .i64 t305)) (fun _ h_ => h_.1)))); (case side6 => exact (Kd.R_reads' HO304.out).2.1); rintro e w34 ⟨v308, rfl, ho0, hb⟩; refine ⟨_, rfl, ?_⟩; replace HO284 := mS (Kd.S_elder' (by (with_reducible repeat (first | apply Kd.S_alloc | apply Kd.S_drewN | apply Kd.S_drew)); exact (Kd.S_mono (Kd.S_far (p := ⟨gb306, 3, none⟩) (Kd.S_far (p := ⟨gb306, 2, none⟩) (Kd.S_far (p := ⟨gb306, 1, none⟩) (Kd.S_far (p := ⟨gb306, 0, none⟩) (Kd.S_types HO284.out BK306.out (by decide)) (fun _ hk => hk.2) (.slice Ao29 t296.length co29)) (fun _ hk => hk.2) (.slice Ao32 t299.length co32)) (fun _ hk => hk.2) (.slice Ao33 t302.length co33)) (fun _ hk => hk.2) (.int .i64 t305)) (fun _ h_ => h_.1))) (Kd.R_base ho0) hb); replace HO287 := mS (Kd.R_below (by (with_reducible repeat (first | apply Kd.R_alloc | apply Kd.R_drewN | apply Kd.R_drew)); exact (Kd.R_mono (Kd.R_far (p := ⟨gb306, 3, none⟩) (Kd.R_far (p := ⟨gb306, 2, none⟩) (Kd.R_far (p := ⟨gb306, 1, none⟩) (Kd.R_far (p := ⟨gb306, 0, none⟩) (Kd.R_types HO287.out BK306.out (by decide)) (fun _ hk => hk.2) (.slice Ao29 t296.length co29)) (fun _ hk => hk.2) (.slice Ao32 t299.length co32)) (fun _ hk => hk.2) (.slice Ao33 t302.length co33)) (fun _ hk => hk.2) (.int .i64 t305)) (fun _ h_ => h_.1))) hb); replace HO290 := mS (Kd.R_below (by (with_reducible repeat (first | apply Kd.R_alloc | apply Kd.R_drewN | apply Kd.R_drew)); exact (Kd.R_mono (Kd.R_far (p := ⟨gb306, 3, none⟩) (Kd.R_far (p := ⟨gb306, 2, none⟩) (Kd.R_far (p := ⟨gb306, 1, none⟩) (Kd.R_far (p := ⟨gb306, 0, none⟩) (Kd.R_types HO290.out BK306.out (by decide)) (fun _ hk => hk.2) (.slice Ao29 t296.length co29)) (fun _ hk => hk.2) (.slice Ao32 t299.length co32)) (fun _ hk => hk.2) (.slice Ao33 t302.length co33)) (fun _ hk => hk.2) (.int .i64 t305)) (fun _ h_ => h_.1))) hb); replace HO298 := mS (Kd.S_elder' (by (with_reducible repeat (first | apply Kd.S_alloc | apply Kd.S_drewN | apply Kd.S_drew)); exact (Kd.S_mono (Kd.S_far (p := ⟨gb306, 3, none⟩) (Kd.S_far (p := ⟨gb306, 2, none⟩) (Kd.S_far (p := ⟨gb306, 1, none⟩) (Kd.S_far (p := ⟨gb306, 0, none⟩) (Kd.S_types HO298.out BK306.out (by decide)) (fun _ hk => hk.2) (.slice Ao29 t296.length co29)) (fun _ hk => hk.2) (.slice Ao32 t299.length co32)) (fun _ hk => hk.2) (.slice Ao33 t302.length co33)) (fun _ hk => hk.2) (.int .i64 t305)) (fun _ h_ => h_.1))) (Kd.R_base ho0) hb); replace HO301 := mS (Kd.R_below (by (with_reducible repeat (first | apply Kd.R_alloc | apply Kd.R_drewN | apply Kd.R_drew)); exact (Kd.R_mono (Kd.R_far (p := ⟨gb306, 3, none⟩) (Kd.R_far (p := ⟨gb306, 2, none⟩) (Kd.R_far (p := ⟨gb306, 1, none⟩) (Kd.R_far (p := ⟨gb306, 0, none⟩) (Kd.R_types HO301.out BK306.out (by decide)) (fun _ hk => hk.2) (.slice Ao29 t296.length co29)) (fun _ hk => hk.2) (.slice Ao32 t299.length co32)) (fun _ hk => hk.2) (.slice Ao33 t302.length co33)) (fun _ hk => hk.2) (.int .i64 t305)) (fun _ h_ => h_.1))) hb); replace HO304 := mS (Kd.R_below (by (with_reducible repeat (first | apply Kd.R_alloc | apply Kd.R_drewN | apply Kd.R_drew)); exact (Kd.R_mono (Kd.R_far (p := ⟨gb306, 3, none⟩) (Kd.R_far (p := ⟨gb306, 2, none⟩) (Kd.R_far (p := ⟨gb306, 1, none⟩) (Kd.R_far (p := ⟨gb306, 0, none⟩) (Kd.R_types HO304.out BK306.out (by decide)) (fun _ hk => hk.2) (.slice Ao29 t296.length co29)) (fun _ hk => hk.2) (.slice Ao32 t299.length co32)) (fun _ hk => hk.2) (.slice Ao33 t302.length co33)) (fun _ hk => hk.2) (.int .i64 t305)) (fun _ h_ => h_.1))) hb); have HO309 := mS (Kd.R_lower (Kd.R_new' ho0 (Kd.R_lt (by (with_reducible repeat (first | apply Kd.R_alloc | apply Kd.R_drewN | apply Kd.R_drew)); exact (Kd.R_mono (Kd.R_far (p := ⟨gb306, 3, none⟩) (Kd.R_far (p := ⟨gb306, 2, none⟩) (Kd.R_far (p := ⟨gb306, 1, none⟩) (Kd.R_far (p := ⟨gb306, 0, none⟩) (Kd.R_types HO294.out BK306.out (by decide)) (fun _ hk => hk.2) (.slice Ao29 t296.length co29)) (fun _ hk => hk.2) (.slice Ao32 t299.length co32)) (fun _ hk => hk.2) (.slice Ao33 t302.length co33)) (fun _ hk => hk.2) (.int .i64 t305)) (fun _ h_ => h_.1))))) (below_size (mH2 HB.out GE280.out GE306.out))); replace HO294 := mS (Kd.R_elder' (by (with_reducible repeat (first | apply Kd.R_alloc | apply Kd.R_drewN | apply Kd.R_drew)); exact (Kd.R_mono (Kd.R_far (p := ⟨gb306, 3, none⟩) (Kd.R_far (p := ⟨gb306, 2, none⟩) (Kd.R_far (p := ⟨gb306, 1, none⟩) (Kd.R_far (p := ⟨gb306, 0, none⟩) (Kd.R_types HO294.out BK306.out (by decide)) (fun _ hk => hk.2) (.slice Ao29 t296.length co29)) (fun _ hk => hk.2) (.slice Ao32 t299.length co32)) (fun _ hk => hk.2) (.slice Ao33 t302.length co33)) (fun _ hk => hk.2) (.int .i64 t305)) (fun _ h_ => h_.1))) (Kd.R_base ho0) hb); replace BK280 := mS (blk_below (g := gb280) (o := .cells #[.slice A0_0 l0_0.length c0_0, .slice A0_1 l0_1.length c0_1, .slice A0_2 l0_2.length c0_2, .int .i64 a0_3] 71 (0, 0)) (by (with_reducible repeat (first | refine blk_drewN ?_ _ | refine blk_drew ?_ | refine blk_alloc ?_ _)); refine blk_far ?_ NB280_306.out _; (with_reducible repeat (first | refine blk_drewN ?_ _ | refine blk_drew ?_ | refine blk_alloc ?_ _)); refine blk_far ?_ NB280_306.out _; (with_reducible repeat (first | refine blk_drewN ?_ _ | refine blk_drew ?_ | refine blk_alloc ?_ _)); refine blk_far ?_ NB280_306.out _; (with_reducible repeat (first | refine blk_drewN ?_ _ | refine blk_drew ?_ | refine blk_alloc ?_ _)); refine blk_far ?_ NB280_306.out _; (with_reducible repeat (first | refine blk_drewN ?_ _ | refine blk_drew ?_ | refine blk_alloc ?_ _)); exact BK280.out) hb); replace BK306 := mS (blk_below (g := gb306) (o := .cells #[.slice Ao29 t296.length co29, .slice Ao32 t299.length co32, .slice Ao33 t302.length co33, .int .i64 t305] 63 (0, 0)) (by (with_reducible repeat (first | refine blk_drewN ?_ _ | refine blk_drew ?_ | refine blk_alloc ?_ _)); refine blk_put (cs := #[.slice Ao29 t296.length co29, .slice Ao32 t299.length co32, .slice Ao33 t302.length co33, .int .i64 0]) ?_ 3 _ rfl; (with_reducible repeat (first | refine blk_drewN ?_ _ | refine blk_drew ?_ | refine blk_alloc ?_ _)); refine blk_put (cs := #[.slice Ao29 t296.length co29, .slice Ao32 t299.length co32, .slice none 0 0, .int .i64 0]) ?_ 2 _ rfl; (with_reducible repeat (first | refine blk_drewN ?_ _ | refine blk_drew ?_ | refine blk_alloc ?_ _)); refine blk_put (cs := #[.slice Ao29 t296.length co29, .slice none 0 0, .slice none 0 0, .int .i64 0]) ?_ 1 _ rfl; (with_reducible repeat (first | refine blk_drewN ?_ _ | refine blk_drew ?_ | refine blk_alloc ?_ _)); refine blk_put (cs := #[.slice none 0 0, .slice none 0 0, .slice none 0 0, .int .i64 0]) ?_ 0 _ rfl; (with_reducible repeat (first | refine blk_drewN ?_ _ | refine blk_drew ?_ | refine blk_alloc ?_ _)); exact BK306.out) hb); replace HB := mS (below_step (mH2 HB.out GE280.out GE306.out) hb); (try clear hb); (try clear hb2); (try clear hk); (try clear hi); (try clear ho0)))
   (try simp only [Act.put, zA, zB, zC])
   go_cut [47] (fun v47 wc => ∃ (kq : Nat) (x47_13 : Bool), v47 = .bool x47_13 ∧ Aside0 (laws_FnExactBytes.j0 kq a1 t292 t295 t307 t310 x47_13 l0_0 l0_1 l0_2 a0_3 t296 t299 t302 t305 = some r) ∧ Aside0 (kq ≤ k) ∧ Aside0 (Kd.R (Kd.int .u8) 5 wc w.heap.size (fun k_ => some k_ ≠ (v308 : Value).ownBlock) v293 t292) ∧ Aside0 (Kd.R (Kd.int .u8) 5 wc w.heap.size (fun k_ => some k_ ≠ (v293 : Value).ownBlock) v308 t307) ∧ Aside0 (Kd.S k120 120 wc w.heap.size (fun k_ => some k_ ≠ (v293 : Value).ownBlock ∧ some k_ ≠ (v308 : Value).ownBlock) (.slice Ao29 t296.length co29) t296) ∧ Aside0 (Kd.R k126 126 wc w.heap.size (fun k_ => some k_ ≠ ((.slice Ao33 t302.length co33) : Value).ownBlock) (.slice Ao32 t299.length co32) t299) ∧ Aside0 (Kd.R k126 126 wc w.heap.size (fun k_ => some k_ ≠ ((.slice Ao32 t299.length co32) : Value).ownBlock) (.slice Ao33 t302.length co33) t302) ∧ Aside0 (wc.heap[gb280]? = some (.cells #[(.slice A0_0 l0_0.length c0_0), (.slice A0_1 l0_1.length c0_1), (.slice A0_2 l0_2.length c0_2), .int .i64 a0_3] 71 (0, 0))) ∧ Aside0 (wc.heap[gb306]? = some (.cells #[(.slice Ao29 t296.length co29), (.slice Ao32 t299.length co32), (.slice Ao33 t302.length co33), .int .i64 t305] 63 (0, 0))) ∧ Aside0 (Below w.heap.size w wc))
   case first =>
    have H := HC14.out
    clear HC14
    replace H := Option.bind_eq_some_iff.mp H
    obtain ⟨t311, A350, H⟩ := H
    replace H : (if t311 = true then (laws_FnExactBytes.j0 k a1 t292 t295 t307 t310 (t310 != t295) l0_0 l0_1 l0_2 a0_3 t296 t299 t302 t305) else (laws_FnExactBytes.j0 k a1 t292 t295 t307 t310 true l0_0 l0_1 l0_2 a0_3 t296 t299 t302 t305)) = some r := H
    have A35 := mS A350
    clear A350
    by_cases c36 : t311 = true
    ·subst c36
     have H1 : (laws_FnExactBytes.j0 k a1 t292 t295 t307 t310 (t310 != t295) l0_0 l0_1 l0_2 a0_3 t296 t299 t302 t305) = some r := by rw [if_pos rfl] at H; exact H
     clear H
     have H := H1
     clear H1
     have H' := mS H
     clear H
     obtain ⟨Ao37, co37, eo37⟩ := Kd.R_slice HO309.out
     subst eo37
     obtain ⟨Ao38, co38, eo38⟩ := Kd.R_slice HO294.out
     subst eo38
     go_wp2_with (first | ((with_reducible refine gate_callee (f := 54) rfl ?_); refine goesL_ (some 41) rfl rfl Try.func54 (by kernel_rfl) rfl #[.slice Ao37 t307.length co37, .slice Ao38 t292.length co38] rfl mA ?_; (with_reducible refine (laws_eqByteS.calls k _ _ t307 _ _ t292 true _ ?side1 ?side2 ?side3 ?side4 A35.out).mono ?_); (case side1 => repeat (first | exact (Kd.R_reads' HO309.out).2.2 | (with_reducible refine Kd.C_alloc ?_ _) | (with_reducible refine Kd.C_drewN ?_ _) | (with_reducible refine Kd.C_drew ?_))); (case side2 => exact (Kd.R_reads' HO309.out).2.1); (case side3 => repeat (first | exact (Kd.R_reads' HO294.out).2.2 | (with_reducible refine Kd.C_alloc ?_ _) | (with_reducible refine Kd.C_drewN ?_ _) | (with_reducible refine Kd.C_drew ?_))); (case side4 => exact (Kd.R_reads' HO294.out).2.1); rintro e w' ⟨rfl, ⟨nd, rfl⟩⟩; refine ⟨_, rfl, ?_⟩))
     go_meet
     case rel => exact ⟨_, ((t310 != t295)), (by first | rfl | (simp; done) | (simp [*]; done)), H', ⟨by first | omega | exact Nat.le_refl _⟩, ⟨by (with_reducible repeat (first | apply Kd.R_alloc | apply Kd.R_drewN | apply Kd.R_drew)); exact Kd.R_mono HO294.out (fun _ hk => hk.2)⟩, ⟨by (with_reducible repeat (first | apply Kd.R_alloc | apply Kd.R_drewN | apply Kd.R_drew)); exact Kd.R_mono HO309.out (fun _ hk => hk.2)⟩, ⟨by (with_reducible repeat (first | apply Kd.S_alloc | apply Kd.S_drewN | apply Kd.S_drew)); exact Kd.S_mono HO298.out (fun _ hk => ⟨hk.1.2, hk.2⟩)⟩, ⟨by (with_reducible repeat (first | apply Kd.R_alloc | apply Kd.R_drewN | apply Kd.R_drew)); exact Kd.R_mono HO301.out (fun _ hk => hk.1.1)⟩, ⟨by (with_reducible repeat (first | apply Kd.R_alloc | apply Kd.R_drewN | apply Kd.R_drew)); exact Kd.R_mono HO304.out (fun _ hk => hk.1.1)⟩, ⟨by (with_reducible repeat (first | refine blk_drewN ?_ _ | refine blk_drew ?_ | refine blk_alloc ?_ _)); exact BK280.out⟩, ⟨by (with_reducible repeat (first | refine blk_drewN ?_ _ | refine blk_drew ?_ | refine blk_alloc ?_ _)); exact BK306.out⟩, ⟨(mH2 HB.out GE280.out GE306.out)⟩⟩
    ·replace c36 := Bool.eq_false_iff.mpr c36
     subst c36
     have H1 : (laws_FnExactBytes.j0 k a1 t292 t295 t307 t310 true l0_0 l0_1 l0_2 a0_3 t296 t299 t302 t305) = some r := by rw [if_neg (show ¬ (false = true) by decide)] at H; exact H
     clear H
     have H := H1
     clear H1
     have H' := mS H
     clear H
     obtain ⟨Ao39, co39, eo39⟩ := Kd.R_slice HO309.out
     subst eo39
     obtain ⟨Ao40, co40, eo40⟩ := Kd.R_slice HO294.out
     subst eo40
     go_wp2_with (first | ((with_reducible refine gate_callee (f := 54) rfl ?_); refine goesL_ (some 41) rfl rfl Try.func54 (by kernel_rfl) rfl #[.slice Ao39 t307.length co39, .slice Ao40 t292.length co40] rfl mA ?_; (with_reducible refine (laws_eqByteS.calls k _ _ t307 _ _ t292 false _ ?side1 ?side2 ?side3 ?side4 A35.out).mono ?_); (case side1 => repeat (first | exact (Kd.R_reads' HO309.out).2.2 | (with_reducible refine Kd.C_alloc ?_ _) | (with_reducible refine Kd.C_drewN ?_ _) | (with_reducible refine Kd.C_drew ?_))); (case side2 => exact (Kd.R_reads' HO309.out).2.1); (case side3 => repeat (first | exact (Kd.R_reads' HO294.out).2.2 | (with_reducible refine Kd.C_alloc ?_ _) | (with_reducible refine Kd.C_drewN ?_ _) | (with_reducible refine Kd.C_drew ?_))); (case side4 => exact (Kd.R_reads' HO294.out).2.1); rintro e w' ⟨rfl, ⟨nd, rfl⟩⟩; refine ⟨_, rfl, ?_⟩))
     go_meet
     case rel => exact ⟨_, (true), (by first | rfl | (simp; done) | (simp [*]; done)), H', ⟨by first | omega | exact Nat.le_refl _⟩, ⟨by (with_reducible repeat (first | apply Kd.R_alloc | apply Kd.R_drewN | apply Kd.R_drew)); exact Kd.R_mono HO294.out (fun _ hk => hk.2)⟩, ⟨by (with_reducible repeat (first | apply Kd.R_alloc | apply Kd.R_drewN | apply Kd.R_drew)); exact Kd.R_mono HO309.out (fun _ hk => hk.2)⟩, ⟨by (with_reducible repeat (first | apply Kd.S_alloc | apply Kd.S_drewN | apply Kd.S_drew)); exact Kd.S_mono HO298.out (fun _ hk => ⟨hk.1.2, hk.2⟩)⟩, ⟨by (with_reducible repeat (first | apply Kd.R_alloc | apply Kd.R_drewN | apply Kd.R_drew)); exact Kd.R_mono HO301.out (fun _ hk => hk.1.1)⟩, ⟨by (with_reducible repeat (first | apply Kd.R_alloc | apply Kd.R_drewN | apply Kd.R_drew)); exact Kd.R_mono HO304.out (fun _ hk => hk.1.1)⟩, ⟨by (with_reducible repeat (first | refine blk_drewN ?_ _ | refine blk_drew ?_ | refine blk_alloc ?_ _)); exact BK280.out⟩, ⟨by (with_reducible repeat (first | refine blk_drewN ?_ _ | refine blk_drew ?_ | refine blk_alloc ?_ _)); exact BK306.out⟩, ⟨(mH2 HB.out GE280.out GE306.out)⟩⟩
   case rest =>
    clear HC14
    try clear c1
    try clear p2
    try clear c3
    try clear c3b0
    try clear c3b1
    try clear c4
    try clear c5
    try clear c6
    try clear c6b0
    try clear c11
    try clear c30
    try clear c36
    try clear hcz16_0
    try clear hcz16_1
    try clear hcz16_2
    try clear hcz16_3
    try clear hcz18_0
    try clear hcz18_1
    try clear hcz18_2
    try clear hcz18_3
    try clear hcz25_0
    try clear hcz25_1
    try clear hcz25_2
    try clear hcz25_3
    try clear hcz31_0
    try clear hcz31_1
    try clear hcz31_2
    try clear hcz31_3
    try clear hcz8_0
    try clear hcz8_1
    try clear hcz8_2
    try clear hcz8_3
    try clear hfz16_0
    try clear hfz16_1
    try clear hfz16_2
    try clear hfz16_3
    try clear hfz18_0
    try clear hfz18_1
    try clear hfz18_2
    try clear hfz18_3
    try clear hfz25_0
    try clear hfz25_1
    try clear hfz25_2
    try clear hfz25_3
    try clear hfz31_0
    try clear hfz31_1
    try clear hfz31_2
    try clear hfz31_3
    try clear hfz8_0
    try clear hfz8_1
    try clear hfz8_2
    try clear hfz8_3
    obtain ⟨kq, x47_13, rfl, HA, HJ13, HO_6, HO_9, HO_307000, HO_307001, HO_307002, BK280, BK306, HB⟩ := hcut
    cases kq with
    | zero => exact absurd HA.out (by simp [laws_FnExactBytes.j0])
    | succ kj13 =>
     have H := HA.out
     clear HA
     simp only [laws_FnExactBytes.j0] at H
     by_cases c41 : x47_13 = true
     ·subst c41
      have H1 : (some false) = some r := by rw [if_pos rfl] at H; exact H
      clear H
      have H := H1
      clear H1
      exact absurd ((Option.some.inj H).trans ht_) (by decide)
     ·replace c41 := Bool.eq_false_iff.mpr c41
      subst c41
      have H1 : ((laws_toDisk.f kj13 l0_0 l0_1 l0_2 a0_3).bind fun bt312 => ((laws_eqDisk.f kj13 t296 t299 t302 t305 bt312.1 bt312.2.1 bt312.2.2.1 bt312.2.2.2).bind fun t322 => (if t322 = true then ((laws_markDisk.f kj13 t296 t299 t302 t305 1).bind fun bt323 => (if bt323.1 < 0 then (laws_FnExactBytes.j1 kj13 a1 t292 t295 t307 true l0_0 l0_1 l0_2 a0_3) else ((laws_eqByteS.f kj13 t307 t292).bind fun t327 => (if t327 = true then (laws_FnExactBytes.j1 kj13 a1 t292 t295 t307 (t310 != t295) l0_0 l0_1 l0_2 a0_3) else (laws_FnExactBytes.j1 kj13 a1 t292 t295 t307 true l0_0 l0_1 l0_2 a0_3))))) else (some false)))) = some r := by rw [if_neg (show ¬ (false = true) by decide)] at H; exact H
      clear H
      have H := H1
      clear H1
      replace H := Option.bind_eq_some_iff.mp H
      obtain ⟨⟨t312, t315, t318, t321⟩, A420, H⟩ := H
      replace H : ((laws_eqDisk.f kj13 t296 t299 t302 t305 t312 t315 t318 t321).bind fun t322 => (if t322 = true then ((laws_markDisk.f kj13 t296 t299 t302 t305 1).bind fun bt323 => (if bt323.1 < 0 then (laws_FnExactBytes.j1 kj13 a1 t292 t295 t307 true l0_0 l0_1 l0_2 a0_3) else ((laws_eqByteS.f kj13 t307 t292).bind fun t327 => (if t327 = true then (laws_FnExactBytes.j1 kj13 a1 t292 t295 t307 (t310 != t295) l0_0 l0_1 l0_2 a0_3) else (laws_FnExactBytes.j1 kj13 a1 t292 t295 t307 true l0_0 l0_1 l0_2 a0_3))))) else (some false))) = some r := H
      have A42 := mS A420
      clear A420
      replace H := Option.bind_eq_some_iff.mp H
      obtain ⟨t322, A430, H⟩ := H
      replace H : (if t322 = true then ((laws_markDisk.f kj13 t296 t299 t302 t305 1).bind fun bt323 => (if bt323.1 < 0 then (laws_FnExactBytes.j1 kj13 a1 t292 t295 t307 true l0_0 l0_1 l0_2 a0_3) else ((laws_eqByteS.f kj13 t307 t292).bind fun t327 => (if t327 = true then (laws_FnExactBytes.j1 kj13 a1 t292 t295 t307 (t310 != t295) l0_0 l0_1 l0_2 a0_3) else (laws_FnExactBytes.j1 kj13 a1 t292 t295 t307 true l0_0 l0_1 l0_2 a0_3))))) else (some false)) = some r := H
      have A43 := mS A430
      clear A430
      by_cases c44 : t322 = true
      ·subst c44
       have H1 : ((laws_markDisk.f kj13 t296 t299 t302 t305 1).bind fun bt323 => (if bt323.1 < 0 then (laws_FnExactBytes.j1 kj13 a1 t292 t295 t307 true l0_0 l0_1 l0_2 a0_3) else ((laws_eqByteS.f kj13 t307 t292).bind fun t327 => (if t327 = true then (laws_FnExactBytes.j1 kj13 a1 t292 t295 t307 (t310 != t295) l0_0 l0_1 l0_2 a0_3) else (laws_FnExactBytes.j1 kj13 a1 t292 t295 t307 true l0_0 l0_1 l0_2 a0_3))))) = some r := by rw [if_pos rfl] at H; exact H
       clear H
       have H := H1
       clear H1
       replace H := Option.bind_eq_some_iff.mp H
       obtain ⟨⟨t323, t324, t325, t326⟩, A450, H⟩ := H
       replace H : (if t323 < 0 then (laws_FnExactBytes.j1 kj13 a1 t292 t295 t307 true l0_0 l0_1 l0_2 a0_3) else ((laws_eqByteS.f kj13 t307 t292).bind fun t327 => (if t327 = true then (laws_FnExactBytes.j1 kj13 a1 t292 t295 t307 (t310 != t295) l0_0 l0_1 l0_2 a0_3) else (laws_FnExactBytes.j1 kj13 a1 t292 t295 t307 true l0_0 l0_1 l0_2 a0_3)))) = some r := H
       have A45 := mS A450
       clear A450
       have HC46 := mS H
       clear H
       try go_wp2
       have n0_ := mS (Kd.R_drew HO_6.out)
       have n1_ := mS (Kd.R_drew HO_9.out)
       have n2_ := mS (Kd.S_drew HO_307000.out)
       have n3_ := mS (Kd.R_drew HO_307001.out)
       have n4_ := mS (Kd.R_drew HO_307002.out)
       have n5_ := mS (blk_drew BK280.out)
       have n6_ := mS (blk_drew BK306.out)
       have n7_ := mS (below_drew1 HB.out)
       clear HO_6
       clear HO_9
       clear HO_307000
       clear HO_307001
       clear HO_307002
       clear BK280
       clear BK306
       clear HB
       have HO_6 := n0_
       have HO_9 := n1_
       have HO_307000 := n2_
       have HO_307001 := n3_
       have HO_307002 := n4_
       have BK280 := n5_
       have BK306 := n6_
       have HB := n7_
       clear n0_ n1_ n2_ n3_ n4_ n5_ n6_ n7_
       refine start_ (n := 5) (S := fun w' => w'.cell? ⟨gb306, 0, none⟩ = some (.slice Ao29 t296.length co29) ∧ w'.cell? ⟨gb306, 1, none⟩ = some (.slice Ao32 t299.length co32) ∧ w'.cell? ⟨gb306, 2, none⟩ = some (.slice Ao33 t302.length co33) ∧ w'.cell? ⟨gb306, 3, none⟩ = some (.int .i64 t305) ∧ w'.cell? ⟨gb280, 0, none⟩ = some (.slice A0_0 l0_0.length c0_0) ∧ w'.cell? ⟨gb280, 1, none⟩ = some (.slice A0_1 l0_1.length c0_1) ∧ w'.cell? ⟨gb280, 2, none⟩ = some (.slice A0_2 l0_2.length c0_2) ∧ w'.cell? ⟨gb280, 3, none⟩ = some (.int .i64 a0_3)) (ds := []) (mb 0 5) (by kernel_rfl) rfl rfl ⟨mZ BK306.out 0, mZ BK306.out 1, mZ BK306.out 2, mZ BK306.out 3, mZ BK280.out 0, mZ BK280.out 1, mZ BK280.out 2, mZ BK280.out 3⟩ (fun hHeld => ?_)
       generalize wc.drew = w47 at HO_6 HO_9 HO_307000 HO_307001 HO_307002 BK280 BK306 HB hHeld ⊢
       refine take_ (i := 0) (N := some 48) (v := ?_) (a' := ?_) (mb 1 4) rfl rfl (by kernel_rfl) (fun _ _ _ h => h) (Or.inl ⟨by rfl, ?_⟩) hHeld ?_ ?_
       rotate_left
       ·rintro w' ⟨s0, s1, s2, s3, s4, s5, s6, s7⟩
        go_simp
        with_reducible rfl
       rotate_left
       ·simp only [Act.put, zA, zB, zC, i64_w, i32_w]
        rfl
       refine take_ (i := 1) (N := some 49) (v := ?_) (a' := ?_) (mb 2 3) rfl rfl (by kernel_rfl) (fun _ _ _ h => h) (Or.inl ⟨by rfl, ?_⟩) hHeld ?_ ?_
       rotate_left
       ·rintro w' ⟨s0, s1, s2, s3, s4, s5, s6, s7⟩
        go_simp
        with_reducible rfl
       rotate_left
       ·simp only [Act.put, zA, zB, zC, i64_w, i32_w]
        rfl
       refine one_ (i := 2) (N := some 50) (mb 3 2) rfl rfl (by kernel_rfl) (by decide) (fun K hK => ?_)
       refine goes_ Try.func45 (by kernel_rfl) rfl #[.agg #[.slice A0_0 l0_0.length c0_0, .slice A0_1 l0_1.length c0_1, .slice A0_2 l0_2.length c0_2, .int .i64 a0_3]] (by rfl) rfl rfl mA ?_
       with_reducible refine (laws_toDisk.calls kj13 _ _ l0_0 _ _ l0_1 _ _ l0_2 a0_3 t312 t315 t318 t321 _ ?side1 ?side2 ?side3 ?side4 ?side5 ?side6 A42.out).mono ?_
       (case side1 => repeat (first | exact (Kd.C_below HR0_0.out HB.out) | (with_reducible refine Kd.C_alloc ?_ _) | (with_reducible refine Kd.C_drewN ?_ _) | (with_reducible refine Kd.C_drew ?_)))
       (case side2 => exact HC0_0.out)
       (case side3 => repeat (first | exact (Kd.C_below HR0_1.out HB.out) | (with_reducible refine Kd.C_alloc ?_ _) | (with_reducible refine Kd.C_drewN ?_ _) | (with_reducible refine Kd.C_drew ?_)))
       (case side4 => exact HC0_1.out)
       (case side5 => repeat (first | exact (Kd.C_below HR0_2.out HB.out) | (with_reducible refine Kd.C_alloc ?_ _) | (with_reducible refine Kd.C_drewN ?_ _) | (with_reducible refine Kd.C_drew ?_)))
       (case side6 => exact HC0_2.out)
       rintro e w48 ⟨v313, v316, v319, rfl, ho0, ho1, ho2, hb⟩
       refine ⟨_, rfl, ?_⟩
       obtain ⟨z49, hz49⟩ := MWords.mp_size hb
       have n0_ := mS (Kd.R_below (mR HO_6.out) hb)
       have n1_ := mS (Kd.R_below (mR HO_9.out) hb)
       have n2_ := mS (MWords.mp_ltS (Kd.S_told (Kd.S_old (by (with_reducible repeat (first | apply Kd.S_alloc | apply Kd.S_drewN | apply Kd.S_drew)); exact HO_307000.out) hb) (Kd.S_base ho0)) hz49)
       have n3_ := mS (Kd.R_mono (Kd.R_told (Kd.R_told (Kd.R_old (mR HO_307001.out) hb) (Kd.R_base ho1)) (Kd.R_base ho2)) (fun _ h_ => h_.1))
       have n4_ := mS (Kd.R_mono (Kd.R_told (Kd.R_told (Kd.R_old (mR HO_307002.out) hb) (Kd.R_base ho1)) (Kd.R_base ho2)) (fun _ h_ => h_.1))
       have n5_ := mS (Kd.S_lower (Kd.S_new' (Kd.S_new' (Kd.S_new' (MWords.mp_geS ho0 hz49) (Kd.R_lt (mR HO_6.out))) (Kd.R_lt (mR HO_9.out))) (Kd.S_lt (by (with_reducible repeat (first | apply Kd.S_alloc | apply Kd.S_drewN | apply Kd.S_drew)); exact HO_307000.out))) (below_size (mH2 HB.out GE280.out GE306.out)))
       have n6_ := mS (Kd.R_lower (Kd.R_new' (Kd.R_new' ho1 (Kd.R_lt (mR HO_307001.out))) (Kd.R_lt (mR HO_307002.out))) (below_size (mH2 HB.out GE280.out GE306.out)))
       have n7_ := mS (Kd.R_lower (Kd.R_new' (Kd.R_new' ho2 (Kd.R_lt (mR HO_307001.out))) (Kd.R_lt (mR HO_307002.out))) (below_size (mH2 HB.out GE280.out GE306.out)))
       have n8_ := mB BK280 hb
       have n9_ := mB BK306 hb
       have n10_ := mS (below_step (mH2 HB.out GE280.out GE306.out) hb)
       clear HO_6
       clear HO_9
       clear HO_307000
       clear HO_307001
       clear HO_307002
       clear BK280
       clear BK306
       clear HB
       have HO_6 := n0_
       have HO_9 := n1_
       have HO_307000 := n2_
       have HO_307001 := n3_
       have HO_307002 := n4_
       have HO314 := n5_
       have HO317 := n6_
       have HO320 := n7_
       have BK280 := n8_
       have BK306 := n9_
       have HB := n10_
       clear n0_ n1_ n2_ n3_ n4_ n5_ n6_ n7_ n8_ n9_ n10_
       (try clear hb)
       (try clear hb2)
       (try clear hk)
       (try clear hi)
       (try clear ho0)
       (try clear ho1)
       (try clear ho2)
       obtain ⟨Ao50, co50, eo50⟩ := Kd.S_slice HO314.out
       (first | subst eo50 | (injection eo50 with f1_ f2_ f3_; have f4_ := f1_.symm; have f5_ := f3_.symm; clear f1_ f2_ f3_; subst f4_; subst f5_))
       obtain ⟨Ao51, co51, eo51⟩ := Kd.R_slice HO317.out
       (first | subst eo51 | (injection eo51 with f1_ f2_ f3_; have f4_ := f1_.symm; have f5_ := f3_.symm; clear f1_ f2_ f3_; subst f4_; subst f5_))
       obtain ⟨Ao52, co52, eo52⟩ := Kd.R_slice HO320.out
       (first | subst eo52 | (injection eo52 with f1_ f2_ f3_; have f4_ := f1_.symm; have f5_ := f3_.symm; clear f1_ f2_ f3_; subst f4_; subst f5_))
       refine hK.out _ _ ⟨mZ BK306.out 0, mZ BK306.out 1, mZ BK306.out 2, mZ BK306.out 3, mZ BK280.out 0, mZ BK280.out 1, mZ BK280.out 2, mZ BK280.out 3⟩ (fun hHeld => ?_)
       clear hK K
       refine norm_ (a' := ?_) ?_ ?_
       rotate_left
       ·show Act.put _ (some 50) _ = _
        simp only [Act.put, zA, zB, zC, i64_w, i32_w]
        rfl
       refine one_ (i := 3) (N := some 51) (mb 4 1) rfl rfl (by kernel_rfl) (by decide) (fun K hK => ?_)
       refine goes_ Try.func40 (by kernel_rfl) rfl #[.agg #[.slice Ao29 t296.length co29, .slice Ao32 t299.length co32, .slice Ao33 t302.length co33, .int .i64 t305], .agg #[.slice Ao50 t312.length co50, .slice Ao51 t315.length co51, .slice Ao52 t318.length co52, .int .i64 t321]] (by rfl) rfl rfl mA ?_
       with_reducible refine (laws_eqDisk.calls kj13 _ _ t296 _ _ t299 _ _ t302 t305 _ _ t312 _ _ t315 _ _ t318 t321 true _ ?side1 ?side2 ?side3 ?side4 ?side5 ?side6 ?side7 ?side8 ?side9 ?side10 ?side11 ?side12 A43.out).mono ?_
       (case side1 => repeat (first | exact (Kd.S_reads' HO_307000.out).2.2 | (with_reducible refine Kd.C_alloc ?_ _) | (with_reducible refine Kd.C_drewN ?_ _) | (with_reducible refine Kd.C_drew ?_)))
       (case side2 => exact (Kd.S_reads' HO_307000.out).2.1)
       (case side3 => repeat (first | exact (Kd.R_reads' HO_307001.out).2.2 | (with_reducible refine Kd.C_alloc ?_ _) | (with_reducible refine Kd.C_drewN ?_ _) | (with_reducible refine Kd.C_drew ?_)))
       (case side4 => exact (Kd.R_reads' HO_307001.out).2.1)
       (case side5 => repeat (first | exact (Kd.R_reads' HO_307002.out).2.2 | (with_reducible refine Kd.C_alloc ?_ _) | (with_reducible refine Kd.C_drewN ?_ _) | (with_reducible refine Kd.C_drew ?_)))
       (case side6 => exact (Kd.R_reads' HO_307002.out).2.1)
       (case side7 => repeat (first | exact (Kd.S_reads' HO314.out).2.2 | (with_reducible refine Kd.C_alloc ?_ _) | (with_reducible refine Kd.C_drewN ?_ _) | (with_reducible refine Kd.C_drew ?_)))
       (case side8 => exact (Kd.S_reads' HO314.out).2.1)
       (case side9 => repeat (first | exact (Kd.R_reads' HO317.out).2.2 | (with_reducible refine Kd.C_alloc ?_ _) | (with_reducible refine Kd.C_drewN ?_ _) | (with_reducible refine Kd.C_drew ?_)))
       (case side10 => exact (Kd.R_reads' HO317.out).2.1)
       (case side11 => repeat (first | exact (Kd.R_reads' HO320.out).2.2 | (with_reducible refine Kd.C_alloc ?_ _) | (with_reducible refine Kd.C_drewN ?_ _) | (with_reducible refine Kd.C_drew ?_)))
       (case side12 => exact (Kd.R_reads' HO320.out).2.1)
       rintro e w53 ⟨rfl, hb⟩
       refine ⟨_, rfl, ?_⟩
       have n0_ := mS (Kd.R_below (mR HO_6.out) hb)
       have n1_ := mS (Kd.R_below (mR HO_9.out) hb)
       have n2_ := mS (Kd.S_below (by (with_reducible repeat (first | apply Kd.S_alloc | apply Kd.S_drewN | apply Kd.S_drew)); exact HO_307000.out) hb)
       have n3_ := mS (Kd.R_below (mR HO_307001.out) hb)
       have n4_ := mS (Kd.R_below (mR HO_307002.out) hb)
       have n5_ := mS (Kd.S_below (by (with_reducible repeat (first | apply Kd.S_alloc | apply Kd.S_drewN | apply Kd.S_drew)); exact HO314.out) hb)
       have n6_ := mS (Kd.R_below (mR HO317.out) hb)
       have n7_ := mS (Kd.R_below (mR HO320.out) hb)
       have n8_ := mB BK280 hb
       have n9_ := mB BK306 hb
       have n10_ := mS (below_step (mH2 HB.out GE280.out GE306.out) hb)
       clear HO_6
       clear HO_9
       clear HO_307000
       clear HO_307001
       clear HO_307002
       clear HO314
       clear HO317
       clear HO320
       clear BK280
       clear BK306
       clear HB
       have HO_6 := n0_
       have HO_9 := n1_
       have HO_307000 := n2_
       have HO_307001 := n3_
       have HO_307002 := n4_
       have HO314 := n5_
       have HO317 := n6_
       have HO320 := n7_
       have BK280 := n8_
       have BK306 := n9_
       have HB := n10_
       clear n0_ n1_ n2_ n3_ n4_ n5_ n6_ n7_ n8_ n9_ n10_
       (try clear hb)
       (try clear hb2)
       (try clear hk)
       (try clear hi)
       refine hK.out _ _ ⟨mZ BK306.out 0, mZ BK306.out 1, mZ BK306.out 2, mZ BK306.out 3, mZ BK280.out 0, mZ BK280.out 1, mZ BK280.out 2, mZ BK280.out 3⟩ (fun hHeld => ?_)
       clear hK K
       refine norm_ (a' := ?_) ?_ ?_
       rotate_left
       ·show Act.put _ (some 51) _ = _
        simp only [Act.put, zA, zB, zC, i64_w, i32_w]
        rfl
       refine pure_ (i := 4) (N := some 52) (v := ?_) (a' := ?_) (mb 5 0) rfl rfl (by kernel_rfl) (fun _ _ _ h => h) (Or.inl ⟨by rfl, ?_⟩) ?_ ?_
       rotate_left
       ·intro w'
        go_simp
        with_reducible rfl
       rotate_left
       ·simp only [Act.put, zA, zB, zC, i64_w, i32_w]
        rfl
       refine done_ (by kernel_rfl) ?_
       have hnb54 := NB306_280.out
       have hnc54 := NB280_306.out
       have hcz55_0 := mZ BK306.out 0
       have hcz55_1 := mZ BK306.out 1
       have hcz55_2 := mZ BK306.out 2
       have hcz55_3 := mZ BK306.out 3
       have hfz55_0 := blk_frozen BK306.out 0
       have hfz55_1 := blk_frozen BK306.out 1
       have hfz55_2 := blk_frozen BK306.out 2
       have hfz55_3 := blk_frozen BK306.out 3
       go_upto_region 16 with (first | ((with_reducible refine gate_callee (f := 41) rfl ?_); refine goesL_ (some 55) rfl rfl Try.func41 (by kernel_rfl) rfl #[.agg #[.slice Ao29 t296.length co29, .slice Ao32 t299.length co32, .slice Ao33 t302.length co33, .int .i64 t305], .int .i64 1] rfl mA ?_; (with_reducible refine (laws_markDisk.calls kj13 (fun k_ => (((((((((some k_ ≠ (v293 : Value).ownBlock ∧ some k_ ≠ (v308 : Value).ownBlock) ∧ some k_ ≠ (.slice Ao50 t312.length co50 : Value).ownBlock) ∧ k_ < z49) ∧ some k_ ≠ (.slice Ao32 t299.length co32 : Value).ownBlock) ∧ some k_ ≠ (.slice Ao33 t302.length co33 : Value).ownBlock) ∧ some k_ ≠ (.slice Ao51 t315.length co51 : Value).ownBlock) ∧ some k_ ≠ (.slice Ao52 t318.length co52 : Value).ownBlock) ∧ k_ ≠ gb280) ∧ k_ ≠ gb306) ∧ w.heap.size ≤ k_) (.slice Ao29 t296.length co29) t296 (fun k_ => some k_ = (.slice Ao32 t299.length co32 : Value).ownBlock) (.slice Ao32 t299.length co32) t299 (fun k_ => some k_ = (.slice Ao33 t302.length co33 : Value).ownBlock) (.slice Ao33 t302.length co33) t302 t305 1 t323 t324 t325 t326 w _ ?side1 ?side2 ?side3 ?side4 ?side5 ?side6 A45.out).mono ?_); (case side1 => repeat (first | (with_reducible first | exact HB.out | apply below_alloc | apply pw_below_drewN | apply below_drew1 | refine below_set ?_ GE280.out | refine below_set ?_ GE306.out) | exact HB.out)); (case side2 => exact Kd.S_mono (Kd.S_bound (Kd.S_types (Kd.S_types (Kd.S_apart' (Kd.S_apart' (Kd.S_apart' (Kd.S_apart' HO_307000.out (Kd.R_typed HO_307001.out) (by decide)) (Kd.R_typed HO_307002.out) (by decide)) (Kd.R_typed HO317.out) (by decide)) (Kd.R_typed HO320.out) (by decide)) BK280.out (by decide)) BK306.out (by decide))) (fun k_ h_ => (⟨h_.1, h_.2.1⟩ : _ ∧ _))); (case side3 => exact Kd.R_tight rfl HO_307001.out); (case side4 => exact fun k_ e_ => (HO_307001.out.1 k_ e_.symm).1.1); (case side5 => exact Kd.R_tight rfl HO_307002.out); (case side6 => exact fun k_ e_ => (HO_307002.out.1 k_ e_.symm).1.1); rintro e w56 ⟨rfl, hy0, hy1, hy2, hb, hkp⟩; refine ⟨_, rfl, ?_⟩; replace HO_6 := mS (Kd.R_mono (ok' := fun k_ => some k_ ≠ (v308 : Value).ownBlock) (Kd.R_keptB ((Kd.R_apart' (Kd.R_apart' (Kd.R_tight2 rfl HO_6.out) (Kd.R_typed HO_307001.out) (by decide)) (Kd.R_typed HO_307002.out) (by decide))) hkp (fun k_ hk_ hs_ => Or.elim hs_ (fun e_ => (fun e_ => (e_.1.1.1.1.1.1.1.1.1.1) (hk_.1.1.1)) e_) (fun e_ => Or.elim e_ (fun e_ => (hk_.1.2) e_) (fun e_ => (hk_.2) e_)))) (fun k_ hk_ => hk_.1.1.1.2)); replace HO_9 := mS (Kd.R_mono (ok' := fun k_ => some k_ ≠ (v293 : Value).ownBlock) (Kd.R_keptB ((Kd.R_apart' (Kd.R_apart' (Kd.R_tight2 rfl HO_9.out) (Kd.R_typed HO_307001.out) (by decide)) (Kd.R_typed HO_307002.out) (by decide))) hkp (fun k_ hk_ hs_ => Or.elim hs_ (fun e_ => (fun e_ => (e_.1.1.1.1.1.1.1.1.1.2) (hk_.1.1.1)) e_) (fun e_ => Or.elim e_ (fun e_ => (hk_.1.2) e_) (fun e_ => (hk_.2) e_)))) (fun k_ hk_ => hk_.1.1.1.2)); replace HO_307000 := mS (Kd.S_mono (ok' := fun k_ => (((some k_ ≠ (v293 : Value).ownBlock ∧ some k_ ≠ (v308 : Value).ownBlock) ∧ some k_ ≠ (.slice Ao50 t312.length co50 : Value).ownBlock) ∧ k_ < z49)) hy0 (fun k_ h_ => ⟨⟨⟨h_.1.1.1.1.1.1.1.1.1.1, h_.1.1.1.1.1.1.1.1.1.2⟩, h_.1.1.1.1.1.1.1.1.2⟩, h_.1.1.1.1.1.1.1.2⟩)); replace BK280 := mS (blk_kept (mK BK280.out) hkp (fun hs_ => Or.elim hs_ (fun e_ => (fun e_ => (e_.1.1.2) rfl) e_) (fun e_ => Or.elim e_ (fun e_ => (fun e_ => (Kd.R_ne HO_307001.out BK280.out (by decide)) e_) e_) (fun e_ => (fun e_ => (Kd.R_ne HO_307002.out BK280.out (by decide)) e_) e_)))); replace BK306 := mS (blk_kept (mK BK306.out) hkp (fun hs_ => Or.elim hs_ (fun e_ => (fun e_ => (e_.1.2) rfl) e_) (fun e_ => Or.elim e_ (fun e_ => (fun e_ => (Kd.R_ne HO_307001.out BK306.out (by decide)) e_) e_) (fun e_ => (fun e_ => (Kd.R_ne HO_307002.out BK306.out (by decide)) e_) e_)))); replace HO314 := mS (Kd.S_mono (ok' := fun k_ => some k_ ≠ (v293 : Value).ownBlock ∧ some k_ ≠ (v308 : Value).ownBlock ∧ some k_ ≠ (.slice Ao29 t296.length co29 : Value).ownBlock ∧ z49 ≤ k_) (Kd.S_keptB ((Kd.S_apart' (Kd.S_apart' HO314.out (Kd.R_typed HO_307001.out) (by decide)) (Kd.R_typed HO_307002.out) (by decide))) hkp (fun k_ hk_ hs_ => Or.elim hs_ (fun e_ => (fun e_ => Nat.lt_irrefl _ (Nat.lt_of_lt_of_le (e_.1.1.1.1.1.1.1.2) (hk_.1.1.1.1.1.2))) e_) (fun e_ => Or.elim e_ (fun e_ => (hk_.1.2) e_) (fun e_ => (hk_.2) e_)))) (fun k_ hk_ => ⟨hk_.1.1.1.1.1.2, hk_.1.1.1.1.2, hk_.1.1.1.2, hk_.1.1.1.1.1.1.2⟩)); replace HO_307001 := mS (Kd.R_reok rfl hy1 (fun k_ e_ => HO_307001.out.1 k_ e_)); replace HO_307002 := mS (Kd.R_reok rfl hy2 (fun k_ e_ => HO_307002.out.1 k_ e_)); replace HO317 := mS (Kd.R_mono (ok' := fun k_ => some k_ ≠ (.slice Ao32 t299.length co32 : Value).ownBlock ∧ some k_ ≠ (.slice Ao33 t302.length co33 : Value).ownBlock ∧ some k_ ≠ (.slice Ao52 t318.length co52 : Value).ownBlock) (Kd.R_keptB ((Kd.R_tight2 rfl HO317.out)) hkp (fun k_ hk_ hs_ => Or.elim hs_ (fun e_ => (fun e_ => (e_.1.1.1.1.2) (hk_.1)) e_) (fun e_ => Or.elim e_ (fun e_ => (hk_.2.1.2) e_) (fun e_ => (hk_.2.2) e_)))) (fun k_ hk_ => ⟨hk_.1.2.1.2, hk_.1.2.2, hk_.1.2.1.1⟩)); replace HO320 := mS (Kd.R_mono (ok' := fun k_ => some k_ ≠ (.slice Ao32 t299.length co32 : Value).ownBlock ∧ some k_ ≠ (.slice Ao33 t302.length co33 : Value).ownBlock ∧ some k_ ≠ (.slice Ao51 t315.length co51 : Value).ownBlock) (Kd.R_keptB ((Kd.R_tight2 rfl HO320.out)) hkp (fun k_ hk_ hs_ => Or.elim hs_ (fun e_ => (fun e_ => (e_.1.1.1.2) (hk_.1)) e_) (fun e_ => Or.elim e_ (fun e_ => (hk_.2.1.2) e_) (fun e_ => (hk_.2.2) e_)))) (fun k_ hk_ => ⟨hk_.1.2.1.2, hk_.1.2.2, hk_.1.2.1.1⟩)); replace HB := mS (hb); (try clear hb); (try clear hkp); (try clear hy0); (try clear hy1); (try clear hy2)))
       (try simp only [Act.put, zA, zB, zC])
       go_cut [68] (fun v68 wc => ∃ (kq : Nat) (x68_45 : Bool), v68 = .bool x68_45 ∧ Aside0 (laws_FnExactBytes.j1 kq a1 t292 t295 t307 x68_45 l0_0 l0_1 l0_2 a0_3 = some r) ∧ Aside0 (kq ≤ kj13) ∧ Aside0 (Kd.R (Kd.int .u8) 5 wc w.heap.size (fun k_ => some k_ ≠ (v308 : Value).ownBlock) v293 t292) ∧ Aside0 (Kd.R (Kd.int .u8) 5 wc w.heap.size (fun k_ => some k_ ≠ (v293 : Value).ownBlock) v308 t307) ∧ Aside0 (Kd.S k120 120 wc w.heap.size (fun k_ => some k_ ≠ (v293 : Value).ownBlock ∧ some k_ ≠ (v308 : Value).ownBlock) (.slice Ao29 t296.length co29) t324) ∧ Aside0 (Kd.R k126 126 wc w.heap.size (fun k_ => some k_ ≠ ((.slice Ao33 t302.length co33) : Value).ownBlock) (.slice Ao32 t299.length co32) t325) ∧ Aside0 (Kd.R k126 126 wc w.heap.size (fun k_ => some k_ ≠ ((.slice Ao32 t299.length co32) : Value).ownBlock) (.slice Ao33 t302.length co33) t326) ∧ Aside0 (wc.heap[gb280]? = some (.cells #[(.slice A0_0 l0_0.length c0_0), (.slice A0_1 l0_1.length c0_1), (.slice A0_2 l0_2.length c0_2), .int .i64 a0_3] 71 (0, 0))) ∧ Aside0 (wc.heap[gb306]? = some (.cells #[(.slice Ao29 t296.length co29), (.slice Ao32 t299.length co32), (.slice Ao33 t302.length co33), .int .i64 t305] 63 (0, 0))) ∧ Aside0 (Below w.heap.size w wc))
       case first =>
        have H := HC46.out
        clear HC46
        by_cases c57 : t323 < 0
        ·rw [if_pos c57] at H
         have c57b0 : decide (t323 < 0) = true := decide_eq_true c57
         clear c57
         (first | rw [c57b0] | (simp only [i64_w, i32_w]; rw [c57b0]) | skip)
         have H' := mS H
         clear H
         go_wp2
         go_meet
         case rel => exact ⟨_, (true), (by first | rfl | (simp; done) | (simp [*]; done)), H', ⟨by have := HJ13.out; first | omega | exact Nat.le_refl _⟩, ⟨by (with_reducible repeat (first | apply Kd.R_alloc | apply Kd.R_drewN | apply Kd.R_drew)); exact HO_6.out⟩, ⟨by (with_reducible repeat (first | apply Kd.R_alloc | apply Kd.R_drewN | apply Kd.R_drew)); exact HO_9.out⟩, ⟨by (with_reducible repeat (first | apply Kd.S_alloc | apply Kd.S_drewN | apply Kd.S_drew)); exact Kd.S_mono HO_307000.out (fun _ hk => ⟨hk.1.1.1, hk.1.1.2⟩)⟩, ⟨by (with_reducible repeat (first | apply Kd.R_alloc | apply Kd.R_drewN | apply Kd.R_drew)); exact Kd.R_mono HO_307001.out (fun _ hk => hk.1.1)⟩, ⟨by (with_reducible repeat (first | apply Kd.R_alloc | apply Kd.R_drewN | apply Kd.R_drew)); exact Kd.R_mono HO_307002.out (fun _ hk => hk.1.1)⟩, ⟨by (with_reducible repeat (first | refine blk_drewN ?_ _ | refine blk_drew ?_ | refine blk_alloc ?_ _)); exact BK280.out⟩, ⟨by (with_reducible repeat (first | refine blk_drewN ?_ _ | refine blk_drew ?_ | refine blk_alloc ?_ _)); exact BK306.out⟩, ⟨(mH2 HB.out GE280.out GE306.out)⟩⟩
        ·rw [if_neg c57] at H
         have c57b0 : decide (t323 < 0) = false := decide_eq_false c57
         clear c57
         (first | rw [c57b0] | (simp only [i64_w, i32_w]; rw [c57b0]) | skip)
         replace H := Option.bind_eq_some_iff.mp H
         obtain ⟨t327, A580, H⟩ := H
         replace H : (if t327 = true then (laws_FnExactBytes.j1 kj13 a1 t292 t295 t307 (t310 != t295) l0_0 l0_1 l0_2 a0_3) else (laws_FnExactBytes.j1 kj13 a1 t292 t295 t307 true l0_0 l0_1 l0_2 a0_3)) = some r := H
         have A58 := mS A580
         clear A580
         by_cases c59 : t327 = true
         ·subst c59
          have H1 : (laws_FnExactBytes.j1 kj13 a1 t292 t295 t307 (t310 != t295) l0_0 l0_1 l0_2 a0_3) = some r := by rw [if_pos rfl] at H; exact H
          clear H
          have H := H1
          clear H1
          have H' := mS H
          clear H
          obtain ⟨Ao60, co60, eo60⟩ := Kd.R_slice HO_9.out
          subst eo60
          obtain ⟨Ao61, co61, eo61⟩ := Kd.R_slice HO_6.out
          subst eo61
          go_wp2_with (first | (go_at_call 54; (with_reducible refine (laws_eqByteS.calls kj13 _ _ t307 _ _ t292 true _ ?side1 ?side2 ?side3 ?side4 A58.out).mono ?_); (case side1 => repeat (first | exact (Kd.R_reads' HO_9.out).2.2 | (with_reducible refine Kd.C_alloc ?_ _) | (with_reducible refine Kd.C_drewN ?_ _) | (with_reducible refine Kd.C_drew ?_))); (case side2 => exact (Kd.R_reads' HO_9.out).2.1); (case side3 => repeat (first | exact (Kd.R_reads' HO_6.out).2.2 | (with_reducible refine Kd.C_alloc ?_ _) | (with_reducible refine Kd.C_drewN ?_ _) | (with_reducible refine Kd.C_drew ?_))); (case side4 => exact (Kd.R_reads' HO_6.out).2.1); rintro e w' ⟨rfl, ⟨nd, rfl⟩⟩))
          go_meet
          case rel => exact ⟨_, ((t310 != t295)), (by first | rfl | (simp; done) | (simp [*]; done)), H', ⟨by have := HJ13.out; first | omega | exact Nat.le_refl _⟩, ⟨by (with_reducible repeat (first | apply Kd.R_alloc | apply Kd.R_drewN | apply Kd.R_drew)); exact HO_6.out⟩, ⟨by (with_reducible repeat (first | apply Kd.R_alloc | apply Kd.R_drewN | apply Kd.R_drew)); exact HO_9.out⟩, ⟨by (with_reducible repeat (first | apply Kd.S_alloc | apply Kd.S_drewN | apply Kd.S_drew)); exact Kd.S_mono HO_307000.out (fun _ hk => ⟨hk.1.1.1, hk.1.1.2⟩)⟩, ⟨by (with_reducible repeat (first | apply Kd.R_alloc | apply Kd.R_drewN | apply Kd.R_drew)); exact Kd.R_mono HO_307001.out (fun _ hk => hk.1.1)⟩, ⟨by (with_reducible repeat (first | apply Kd.R_alloc | apply Kd.R_drewN | apply Kd.R_drew)); exact Kd.R_mono HO_307002.out (fun _ hk => hk.1.1)⟩, ⟨by (with_reducible repeat (first | refine blk_drewN ?_ _ | refine blk_drew ?_ | refine blk_alloc ?_ _)); exact BK280.out⟩, ⟨by (with_reducible repeat (first | refine blk_drewN ?_ _ | refine blk_drew ?_ | refine blk_alloc ?_ _)); exact BK306.out⟩, ⟨(mH2 HB.out GE280.out GE306.out)⟩⟩
         ·replace c59 := Bool.eq_false_iff.mpr c59
          subst c59
          have H1 : (laws_FnExactBytes.j1 kj13 a1 t292 t295 t307 true l0_0 l0_1 l0_2 a0_3) = some r := by rw [if_neg (show ¬ (false = true) by decide)] at H; exact H
          clear H
          have H := H1
          clear H1
          have H' := mS H
          clear H
          obtain ⟨Ao62, co62, eo62⟩ := Kd.R_slice HO_9.out
          subst eo62
          obtain ⟨Ao63, co63, eo63⟩ := Kd.R_slice HO_6.out
          subst eo63
          go_wp2_with (first | (go_at_call 54; (with_reducible refine (laws_eqByteS.calls kj13 _ _ t307 _ _ t292 false _ ?side1 ?side2 ?side3 ?side4 A58.out).mono ?_); (case side1 => repeat (first | exact (Kd.R_reads' HO_9.out).2.2 | (with_reducible refine Kd.C_alloc ?_ _) | (with_reducible refine Kd.C_drewN ?_ _) | (with_reducible refine Kd.C_drew ?_))); (case side2 => exact (Kd.R_reads' HO_9.out).2.1); (case side3 => repeat (first | exact (Kd.R_reads' HO_6.out).2.2 | (with_reducible refine Kd.C_alloc ?_ _) | (with_reducible refine Kd.C_drewN ?_ _) | (with_reducible refine Kd.C_drew ?_))); (case side4 => exact (Kd.R_reads' HO_6.out).2.1); rintro e w' ⟨rfl, ⟨nd, rfl⟩⟩))
          go_meet
          case rel => exact ⟨_, (true), (by first | rfl | (simp; done) | (simp [*]; done)), H', ⟨by have := HJ13.out; first | omega | exact Nat.le_refl _⟩, ⟨by (with_reducible repeat (first | apply Kd.R_alloc | apply Kd.R_drewN | apply Kd.R_drew)); exact HO_6.out⟩, ⟨by (with_reducible repeat (first | apply Kd.R_alloc | apply Kd.R_drewN | apply Kd.R_drew)); exact HO_9.out⟩, ⟨by (with_reducible repeat (first | apply Kd.S_alloc | apply Kd.S_drewN | apply Kd.S_drew)); exact Kd.S_mono HO_307000.out (fun _ hk => ⟨hk.1.1.1, hk.1.1.2⟩)⟩, ⟨by (with_reducible repeat (first | apply Kd.R_alloc | apply Kd.R_drewN | apply Kd.R_drew)); exact Kd.R_mono HO_307001.out (fun _ hk => hk.1.1)⟩, ⟨by (with_reducible repeat (first | apply Kd.R_alloc | apply Kd.R_drewN | apply Kd.R_drew)); exact Kd.R_mono HO_307002.out (fun _ hk => hk.1.1)⟩, ⟨by (with_reducible repeat (first | refine blk_drewN ?_ _ | refine blk_drew ?_ | refine blk_alloc ?_ _)); exact BK280.out⟩, ⟨by (with_reducible repeat (first | refine blk_drewN ?_ _ | refine blk_drew ?_ | refine blk_alloc ?_ _)); exact BK306.out⟩, ⟨(mH2 HB.out GE280.out GE306.out)⟩⟩
       case rest =>
        clear HC46
        try clear c1
        try clear p2
        try clear c3
        try clear c3b0
        try clear c3b1
        try clear c4
        try clear c5
        try clear c6
        try clear c6b0
        try clear c11
        try clear c30
        try clear c36
        try clear c40
        try clear c41
        try clear c43
        try clear c44
        try clear c45
        try clear c52
        try clear c53
        try clear c54
        try clear c57
        try clear c57b0
        try clear c59
        try clear hcz16_0
        try clear hcz16_1
        try clear hcz16_2
        try clear hcz16_3
        try clear hcz18_0
        try clear hcz18_1
        try clear hcz18_2
        try clear hcz18_3
        try clear hcz25_0
        try clear hcz25_1
        try clear hcz25_2
        try clear hcz25_3
        try clear hcz31_0
        try clear hcz31_1
        try clear hcz31_2
        try clear hcz31_3
        try clear hcz55_0
        try clear hcz55_1
        try clear hcz55_2
        try clear hcz55_3
        try clear hcz8_0
        try clear hcz8_1
        try clear hcz8_2
        try clear hcz8_3
        try clear hfz16_0
        try clear hfz16_1
        try clear hfz16_2
        try clear hfz16_3
        try clear hfz18_0
        try clear hfz18_1
        try clear hfz18_2
        try clear hfz18_3
        try clear hfz25_0
        try clear hfz25_1
        try clear hfz25_2
        try clear hfz25_3
        try clear hfz31_0
        try clear hfz31_1
        try clear hfz31_2
        try clear hfz31_3
        try clear hfz55_0
        try clear hfz55_1
        try clear hfz55_2
        try clear hfz55_3
        try clear hfz8_0
        try clear hfz8_1
        try clear hfz8_2
        try clear hfz8_3
        try clear p2
        obtain ⟨kq, x68_45, rfl, HA, HJ45, HO_6, HO_9, HO_307000, HO_307001, HO_307002, BK280, BK306, HB⟩ := hcut
        have hl307000_45 := (Kd.S_reads' HO_307000.out).1
        rw [hl307000_45] at HO_307000
        (try simp only [hl307000_45])
        (try simp only [hl307000_45] at BK280)
        (try simp only [hl307000_45] at BK306)
        (try simp only [hl307000_45] at HO_6)
        (try simp only [hl307000_45] at HO_9)
        (try simp only [hl307000_45] at HO_307001)
        (try simp only [hl307000_45] at HO_307002)
        have hl307001_45 := (Kd.R_reads' HO_307001.out).1
        rw [hl307001_45] at HO_307001
        (try simp only [hl307001_45])
        (try simp only [hl307001_45] at BK280)
        (try simp only [hl307001_45] at BK306)
        (try simp only [hl307001_45] at HO_6)
        (try simp only [hl307001_45] at HO_9)
        (try simp only [hl307001_45] at HO_307000)
        (try simp only [hl307001_45] at HO_307002)
        have hl307002_45 := (Kd.R_reads' HO_307002.out).1
        rw [hl307002_45] at HO_307002
        (try simp only [hl307002_45])
        (try simp only [hl307002_45] at BK280)
        (try simp only [hl307002_45] at BK306)
        (try simp only [hl307002_45] at HO_6)
        (try simp only [hl307002_45] at HO_9)
        (try simp only [hl307002_45] at HO_307000)
        (try simp only [hl307002_45] at HO_307001)
        cases kq with
        | zero => exact absurd HA.out (by simp [laws_FnExactBytes.j1])
        | succ kj45 =>
         have H := HA.out
         clear HA
         simp only [laws_FnExactBytes.j1] at H
         by_cases c64 : x68_45 = true
         ·subst c64
          have H1 : (some false) = some r := by rw [if_pos rfl] at H; exact H
          clear H
          have H := H1
          clear H1
          exact absurd ((Option.some.inj H).trans ht_) (by decide)
         ·replace c64 := Bool.eq_false_iff.mpr c64
          subst c64
          have H1 : ((laws_markByteS.f kj45 t307 1).bind fun bt328 => ((laws_heldByteS.f kj45 bt328.2 1).bind fun t330 => (if t330 < 0 then (some false) else (if t330 = bt328.1 then ((laws_toDisk.f kj45 l0_0 l0_1 l0_2 a0_3).bind fun bt331 => ((impl_Bytes.f kj45 bt331.1 bt331.2.1 bt331.2.2.1 bt331.2.2.2 a1).bind fun bt341 => ((laws_eqByteS.f kj45 bt341.1 t292).bind fun t345 => (if t345 = true then (laws_FnExactBytes.j2 kj45 bt328.2 bt328.1 (bt341.2 != t295)) else (laws_FnExactBytes.j2 kj45 bt328.2 bt328.1 true))))) else (some false))))) = some r := by rw [if_neg (show ¬ (false = true) by decide)] at H; exact H
          clear H
          have H := H1
          clear H1
          replace H := Option.bind_eq_some_iff.mp H
          obtain ⟨⟨t328, t329⟩, A650, H⟩ := H
          replace H : ((laws_heldByteS.f kj45 t329 1).bind fun t330 => (if t330 < 0 then (some false) else (if t330 = t328 then ((laws_toDisk.f kj45 l0_0 l0_1 l0_2 a0_3).bind fun bt331 => ((impl_Bytes.f kj45 bt331.1 bt331.2.1 bt331.2.2.1 bt331.2.2.2 a1).bind fun bt341 => ((laws_eqByteS.f kj45 bt341.1 t292).bind fun t345 => (if t345 = true then (laws_FnExactBytes.j2 kj45 t329 t328 (bt341.2 != t295)) else (laws_FnExactBytes.j2 kj45 t329 t328 true))))) else (some false)))) = some r := H
          have A65 := mS A650
          clear A650
          replace H := Option.bind_eq_some_iff.mp H
          obtain ⟨t330, A660, H⟩ := H
          replace H : (if t330 < 0 then (some false) else (if t330 = t328 then ((laws_toDisk.f kj45 l0_0 l0_1 l0_2 a0_3).bind fun bt331 => ((impl_Bytes.f kj45 bt331.1 bt331.2.1 bt331.2.2.1 bt331.2.2.2 a1).bind fun bt341 => ((laws_eqByteS.f kj45 bt341.1 t292).bind fun t345 => (if t345 = true then (laws_FnExactBytes.j2 kj45 t329 t328 (bt341.2 != t295)) else (laws_FnExactBytes.j2 kj45 t329 t328 true))))) else (some false))) = some r := H
          have A66 := mS A660
          clear A660
          by_cases c67 : t330 < 0
          ·rw [if_pos c67] at H
           have c67b0 : decide (t330 < 0) = true := decide_eq_true c67
           clear c67
           exact absurd ((Option.some.inj H).trans ht_) (by decide)
          ·rw [if_neg c67] at H
           have c67b0 : decide (t330 < 0) = false := decide_eq_false c67
           clear c67
           by_cases c68 : t330 = t328
           ·rw [if_pos c68] at H
            have c68b0 : (t330 == t328) = true := beq_iff_eq.mpr c68
            have c68b1 : (t330 != t328) = false := bne_eq_false_iff_eq.mpr c68
            clear c68
            replace H := Option.bind_eq_some_iff.mp H
            obtain ⟨⟨t331, t334, t337, t340⟩, A690, H⟩ := H
            replace H : ((impl_Bytes.f kj45 t331 t334 t337 t340 a1).bind fun bt341 => ((laws_eqByteS.f kj45 bt341.1 t292).bind fun t345 => (if t345 = true then (laws_FnExactBytes.j2 kj45 t329 t328 (bt341.2 != t295)) else (laws_FnExactBytes.j2 kj45 t329 t328 true)))) = some r := H
            have A69 := mS A690
            clear A690
            replace H := Option.bind_eq_some_iff.mp H
            obtain ⟨⟨t341, t344⟩, A700, H⟩ := H
            replace H : ((laws_eqByteS.f kj45 t341 t292).bind fun t345 => (if t345 = true then (laws_FnExactBytes.j2 kj45 t329 t328 (t344 != t295)) else (laws_FnExactBytes.j2 kj45 t329 t328 true))) = some r := H
            have A70 := mS A700
            clear A700
            have HC71 := mS H
            clear H
            obtain ⟨Ao72, co72, eo72⟩ := Kd.R_slice HO_9.out
            subst eo72
            go_upto_region 27 with (first | ((with_reducible refine gate_callee (f := 55) rfl ?_); refine goesL_ (some 71) rfl rfl Try.func55 (by kernel_rfl) rfl #[.slice Ao72 t307.length co72, .int .i64 1] rfl mA ?_; (with_reducible refine (laws_markByteS.calls kj45 (fun k_ => some k_ = (.slice Ao72 t307.length co72 : Value).ownBlock) (.slice Ao72 t307.length co72) t307 1 t328 t329 w _ ?side1 ?side2 A65.out).mono ?_); (case side1 => repeat (first | (with_reducible first | exact HB.out | apply below_alloc | apply pw_below_drewN | apply below_drew1 | refine below_set ?_ GE280.out | refine below_set ?_ GE306.out) | exact HB.out)); (case side2 => exact Kd.R_tight rfl HO_9.out); rintro e w73 ⟨rfl, hy0, hb, hkp⟩; refine ⟨_, rfl, ?_⟩; replace HO_6 := mS (Kd.R_mono (ok' := fun k_ => some k_ ≠ (.slice Ao72 t307.length co72 : Value).ownBlock) (Kd.R_keptB (HO_6.out) hkp (fun k_ hk_ hs_ => (hk_) hs_)) (fun k_ hk_ => hk_.1)); replace HO_307000 := mS (Kd.S_mono (ok' := fun k_ => some k_ ≠ (v293 : Value).ownBlock ∧ some k_ ≠ (.slice Ao72 t307.length co72 : Value).ownBlock) (Kd.S_keptB (HO_307000.out) hkp (fun k_ hk_ hs_ => (hk_.2) hs_)) (fun k_ hk_ => ⟨hk_.1.1, hk_.1.2⟩)); replace HO_307001 := mS (Kd.R_mono (ok' := fun k_ => some k_ ≠ (.slice Ao33 t326.length co33 : Value).ownBlock) (Kd.R_keptB ((Kd.R_apart' HO_307001.out (Kd.R_typed HO_9.out) (by decide))) hkp (fun k_ hk_ hs_ => (hk_.2) hs_)) (fun k_ hk_ => hk_.1.1)); replace HO_307002 := mS (Kd.R_mono (ok' := fun k_ => some k_ ≠ (.slice Ao32 t325.length co32 : Value).ownBlock) (Kd.R_keptB ((Kd.R_apart' HO_307002.out (Kd.R_typed HO_9.out) (by decide))) hkp (fun k_ hk_ hs_ => (hk_.2) hs_)) (fun k_ hk_ => hk_.1.1)); replace BK280 := mS (blk_kept (mK BK280.out) hkp (fun hs_ => (fun e_ => (Kd.R_ne HO_9.out BK280.out (by decide)) e_) hs_)); replace BK306 := mS (blk_kept (mK BK306.out) hkp (fun hs_ => (fun e_ => (Kd.R_ne HO_9.out BK306.out (by decide)) e_) hs_)); replace HO_9 := mS (Kd.R_reok rfl hy0 (fun k_ e_ => HO_9.out.1 k_ e_)); replace HB := mS (hb); (try clear hb); (try clear hkp); (try clear hy0)) | ((with_reducible refine gate_callee (f := 56) rfl ?_); refine goesL_ (some 74) rfl rfl Try.func56 (by kernel_rfl) rfl #[.slice Ao72 t329.length co72, .int .i64 1] rfl (by (try simp only [List.map_toArray, List.map_cons, List.map_nil]); first | done | (rw [show t329.length = t307.length from (Kd.R_reads' HO_9.out).1.symm] <;> rfl) | rfl | (simp only [List.length_drop, List.length_take]; rfl)) ?_; (with_reducible refine (laws_heldByteS.calls kj45 _ _ t329 1 t330 _ ?side1 ?side2 A66.out).mono ?_); (case side1 => repeat (first | exact (Kd.R_reads' HO_9.out).2.2 | (with_reducible refine Kd.C_alloc ?_ _) | (with_reducible refine Kd.C_drewN ?_ _) | (with_reducible refine Kd.C_drew ?_))); (case side2 => rw [show t329.length = t307.length from (Kd.R_reads' HO_9.out).1.symm]; exact (Kd.R_reads' HO_9.out).2.1); rintro e w' ⟨rfl, ⟨nd, rfl⟩⟩; refine ⟨_, rfl, ?_⟩; have hnb74 := NB280_306.out; have hnc74 := NB306_280.out; have hcz75_0 := mZ BK280.out 0; have hcz75_1 := mZ BK280.out 1; have hcz75_2 := mZ BK280.out 2; have hcz75_3 := mZ BK280.out 3; have hfz75_0 := blk_frozen BK280.out 0; have hfz75_1 := blk_frozen BK280.out 1; have hfz75_2 := blk_frozen BK280.out 2; have hfz75_3 := blk_frozen BK280.out 3) | ((with_reducible refine gate_callee (f := 45) rfl ?_); refine goesL_ (some 82) rfl rfl Try.func45 (by kernel_rfl) rfl #[.agg #[.slice A0_0 l0_0.length c0_0, .slice A0_1 l0_1.length c0_1, .slice A0_2 l0_2.length c0_2, .int .i64 a0_3]] rfl mA ?_; (with_reducible refine (laws_toDisk.calls kj45 _ _ l0_0 _ _ l0_1 _ _ l0_2 a0_3 t331 t334 t337 t340 _ ?side1 ?side2 ?side3 ?side4 ?side5 ?side6 A69.out).mono ?_); (case side1 => repeat (first | exact (Kd.C_below HR0_0.out (mH2 HB.out GE280.out GE306.out)) | (with_reducible refine Kd.C_alloc ?_ _) | (with_reducible refine Kd.C_drewN ?_ _) | (with_reducible refine Kd.C_drew ?_))); (case side2 => exact HC0_0.out); (case side3 => repeat (first | exact (Kd.C_below HR0_1.out (mH2 HB.out GE280.out GE306.out)) | (with_reducible refine Kd.C_alloc ?_ _) | (with_reducible refine Kd.C_drewN ?_ _) | (with_reducible refine Kd.C_drew ?_))); (case side4 => exact HC0_1.out); (case side5 => repeat (first | exact (Kd.C_below HR0_2.out (mH2 HB.out GE280.out GE306.out)) | (with_reducible refine Kd.C_alloc ?_ _) | (with_reducible refine Kd.C_drewN ?_ _) | (with_reducible refine Kd.C_drew ?_))); (case side6 => exact HC0_2.out); rintro e w76 ⟨v332, v335, v338, rfl, ho0, ho1, ho2, hb⟩; refine ⟨_, rfl, ?_⟩; obtain ⟨z77, hz77⟩ := MWords.mp_size hb; have HO333 := mS (Kd.S_lower (Kd.S_new' (Kd.S_new' (Kd.S_new' (MWords.mp_geS ho0 hz77) (Kd.R_lt (mR HO_6.out))) (Kd.R_lt (mR HO_9.out))) (Kd.S_lt (by (with_reducible repeat (first | apply Kd.S_alloc | apply Kd.S_drewN | apply Kd.S_drew)); exact HO_307000.out))) (below_size (mH2 HB.out GE280.out GE306.out))); replace HO_6 := mS (Kd.R_below (mR HO_6.out) hb); replace HO_9 := mS (Kd.R_below (mR HO_9.out) hb); replace HO_307000 := mS (MWords.mp_ltS (Kd.S_told (Kd.S_old (by (with_reducible repeat (first | apply Kd.S_alloc | apply Kd.S_drewN | apply Kd.S_drew)); exact HO_307000.out) hb) (Kd.S_base ho0)) hz77); have HO336 := mS (Kd.R_lower (Kd.R_new' (Kd.R_new' ho1 (Kd.R_lt (mR HO_307001.out))) (Kd.R_lt (mR HO_307002.out))) (below_size (mH2 HB.out GE280.out GE306.out))); have HO339 := mS (Kd.R_lower (Kd.R_new' (Kd.R_new' ho2 (Kd.R_lt (mR HO_307001.out))) (Kd.R_lt (mR HO_307002.out))) (below_size (mH2 HB.out GE280.out GE306.out))); replace HO_307001 := mS (Kd.R_mono (Kd.R_told (Kd.R_told (Kd.R_old (mR HO_307001.out) hb) (Kd.R_base ho1)) (Kd.R_base ho2)) (fun _ h_ => h_.1)); replace HO_307002 := mS (Kd.R_mono (Kd.R_told (Kd.R_told (Kd.R_old (mR HO_307002.out) hb) (Kd.R_base ho1)) (Kd.R_base ho2)) (fun _ h_ => h_.1)); replace BK280 := mB BK280 hb; replace BK306 := mB BK306 hb; replace HB := mS (below_step (mH2 HB.out GE280.out GE306.out) hb); (try clear hb); (try clear hb2); (try clear hk); (try clear hi); (try clear ho0); (try clear ho1); (try clear ho2); obtain ⟨Ao78, co78, eo78⟩ := Kd.S_slice HO333.out; subst eo78; obtain ⟨Ao79, co79, eo79⟩ := Kd.R_slice HO336.out; subst eo79; obtain ⟨Ao80, co80, eo80⟩ := Kd.R_slice HO339.out; subst eo80) | ((with_reducible refine gate_callee (f := 53) rfl ?_); refine goesL_ (some 84) rfl rfl Try.func53 (by kernel_rfl) rfl #[.agg #[.slice Ao78 t331.length co78, .slice Ao79 t334.length co79, .slice Ao80 t337.length co80, .int .i64 t340], .string a1] rfl mA ?_; (with_reducible refine (impl_Bytes.calls kj45 _ _ t331 _ _ t334 _ _ t337 t340 a1 t341 t344 _ ?side1 ?side2 ?side3 ?side4 ?side5 ?side6 A70.out).mono ?_); (case side1 => repeat (first | exact (Kd.S_reads' HO333.out).2.2 | (with_reducible refine Kd.C_alloc ?_ _) | (with_reducible refine Kd.C_drewN ?_ _) | (with_reducible refine Kd.C_drew ?_))); (case side2 => exact (Kd.S_reads' HO333.out).2.1); (case side3 => repeat (first | exact (Kd.R_reads' HO336.out).2.2 | (with_reducible refine Kd.C_alloc ?_ _) | (with_reducible refine Kd.C_drewN ?_ _) | (with_reducible refine Kd.C_drew ?_))); (case side4 => exact (Kd.R_reads' HO336.out).2.1); (case side5 => repeat (first | exact (Kd.R_reads' HO339.out).2.2 | (with_reducible refine Kd.C_alloc ?_ _) | (with_reducible refine Kd.C_drewN ?_ _) | (with_reducible refine Kd.C_drew ?_))); (case side6 => exact (Kd.R_reads' HO339.out).2.1); rintro e w81 ⟨v342, rfl, ho0, hb⟩; refine ⟨_, rfl, ?_⟩; replace HO_307000 := mS (Kd.S_elder' (by (with_reducible repeat (first | apply Kd.S_alloc | apply Kd.S_drewN | apply Kd.S_drew)); exact HO_307000.out) (Kd.R_base ho0) hb); replace HO_307001 := mS (Kd.R_below (mR HO_307001.out) hb); replace HO_307002 := mS (Kd.R_below (mR HO_307002.out) hb); replace HO333 := mS (Kd.S_elder' (by (with_reducible repeat (first | apply Kd.S_alloc | apply Kd.S_drewN | apply Kd.S_drew)); exact HO333.out) (Kd.R_base ho0) hb); replace HO336 := mS (Kd.R_below (mR HO336.out) hb); replace HO339 := mS (Kd.R_below (mR HO339.out) hb); have HO343 := mS (Kd.R_lower (Kd.R_new' (Kd.R_new' ho0 (Kd.R_lt (mR HO_6.out))) (Kd.R_lt (mR HO_9.out))) (below_size (mH2 HB.out GE280.out GE306.out))); replace HO_6 := mS (Kd.R_elder' (mR HO_6.out) (Kd.R_base ho0) hb); replace HO_9 := mS (Kd.R_elder' (mR HO_9.out) (Kd.R_base ho0) hb); replace BK280 := mB BK280 hb; replace BK306 := mB BK306 hb; replace HB := mS (below_step (mH2 HB.out GE280.out GE306.out) hb); (try clear hb); (try clear hb2); (try clear hk); (try clear hi); (try clear ho0)))
            (try simp only [Act.put, zA, zB, zC])
            go_cut [95] (fun v95 wc => ∃ (kq : Nat) (x95_70 : Bool), v95 = .bool x95_70 ∧ Aside0 (laws_FnExactBytes.j2 kq t329 t328 x95_70 = some r) ∧ Aside0 (kq ≤ kj45) ∧ Aside0 (Kd.R (Kd.int .u8) 5 wc w.heap.size (fun _ => True) (.slice Ao72 t307.length co72) t329) ∧ Aside0 (Kd.S k120 120 wc w.heap.size (fun k_ => some k_ ≠ ((.slice Ao72 t307.length co72) : Value).ownBlock) (.slice Ao29 t324.length co29) t324) ∧ Aside0 (Kd.R k126 126 wc w.heap.size (fun k_ => some k_ ≠ ((.slice Ao33 t326.length co33) : Value).ownBlock) (.slice Ao32 t325.length co32) t325) ∧ Aside0 (Kd.R k126 126 wc w.heap.size (fun k_ => some k_ ≠ ((.slice Ao32 t325.length co32) : Value).ownBlock) (.slice Ao33 t326.length co33) t326) ∧ Aside0 (wc.heap[gb280]? = some (.cells #[(.slice A0_0 l0_0.length c0_0), (.slice A0_1 l0_1.length c0_1), (.slice A0_2 l0_2.length c0_2), .int .i64 a0_3] 71 (0, 0))) ∧ Aside0 (wc.heap[gb306]? = some (.cells #[(.slice Ao29 t324.length co29), (.slice Ao32 t325.length co32), (.slice Ao33 t326.length co33), .int .i64 t305] 63 (0, 0))) ∧ Aside0 (Below w.heap.size w wc))
            case first =>
             have H := HC71.out
             clear HC71
             replace H := Option.bind_eq_some_iff.mp H
             obtain ⟨t345, A820, H⟩ := H
             replace H : (if t345 = true then (laws_FnExactBytes.j2 kj45 t329 t328 (t344 != t295)) else (laws_FnExactBytes.j2 kj45 t329 t328 true)) = some r := H
             have A82 := mS A820
             clear A820
             by_cases c83 : t345 = true
             ·subst c83
              have H1 : (laws_FnExactBytes.j2 kj45 t329 t328 (t344 != t295)) = some r := by rw [if_pos rfl] at H; exact H
              clear H
              have H := H1
              clear H1
              have H' := mS H
              clear H
              obtain ⟨Ao84, co84, eo84⟩ := Kd.R_slice HO343.out
              subst eo84
              obtain ⟨Ao85, co85, eo85⟩ := Kd.R_slice HO_6.out
              subst eo85
              go_wp2_with (first | ((with_reducible refine gate_callee (f := 54) rfl ?_); refine goesL_ (some 89) rfl rfl Try.func54 (by kernel_rfl) rfl #[.slice Ao84 t341.length co84, .slice Ao85 t292.length co85] rfl mA ?_; (with_reducible refine (laws_eqByteS.calls kj45 _ _ t341 _ _ t292 true _ ?side1 ?side2 ?side3 ?side4 A82.out).mono ?_); (case side1 => repeat (first | exact (Kd.R_reads' HO343.out).2.2 | (with_reducible refine Kd.C_alloc ?_ _) | (with_reducible refine Kd.C_drewN ?_ _) | (with_reducible refine Kd.C_drew ?_))); (case side2 => exact (Kd.R_reads' HO343.out).2.1); (case side3 => repeat (first | exact (Kd.R_reads' HO_6.out).2.2 | (with_reducible refine Kd.C_alloc ?_ _) | (with_reducible refine Kd.C_drewN ?_ _) | (with_reducible refine Kd.C_drew ?_))); (case side4 => exact (Kd.R_reads' HO_6.out).2.1); rintro e w' ⟨rfl, ⟨nd, rfl⟩⟩; refine ⟨_, rfl, ?_⟩))
              go_meet
              case rel => exact ⟨_, ((t344 != t295)), (by first | rfl | (simp; done) | (simp [*]; done)), H', ⟨by have := HJ13.out; have := HJ45.out; first | omega | exact Nat.le_refl _⟩, ⟨by (try simp only [hl307000_45]); (try simp only [hl307001_45]); (try simp only [hl307002_45]); (with_reducible repeat (first | apply Kd.R_alloc | apply Kd.R_drewN | apply Kd.R_drew)); exact Kd.R_mono HO_9.out (fun _ hk => trivial)⟩, ⟨by (try simp only [hl307000_45]); (try simp only [hl307001_45]); (try simp only [hl307002_45]); (with_reducible repeat (first | apply Kd.S_alloc | apply Kd.S_drewN | apply Kd.S_drew)); exact Kd.S_mono HO_307000.out (fun _ hk => hk.1.1.1.2)⟩, ⟨by (try simp only [hl307000_45]); (try simp only [hl307001_45]); (try simp only [hl307002_45]); (with_reducible repeat (first | apply Kd.R_alloc | apply Kd.R_drewN | apply Kd.R_drew)); exact Kd.R_mono HO_307001.out (fun _ hk => hk.1.1)⟩, ⟨by (try simp only [hl307000_45]); (try simp only [hl307001_45]); (try simp only [hl307002_45]); (with_reducible repeat (first | apply Kd.R_alloc | apply Kd.R_drewN | apply Kd.R_drew)); exact Kd.R_mono HO_307002.out (fun _ hk => hk.1.1)⟩, ⟨by (try simp only [hl307000_45]); (try simp only [hl307001_45]); (try simp only [hl307002_45]); (with_reducible repeat (first | refine blk_drewN ?_ _ | refine blk_drew ?_ | refine blk_alloc ?_ _)); exact BK280.out⟩, ⟨by (try simp only [hl307000_45]); (try simp only [hl307001_45]); (try simp only [hl307002_45]); (with_reducible repeat (first | refine blk_drewN ?_ _ | refine blk_drew ?_ | refine blk_alloc ?_ _)); exact BK306.out⟩, ⟨(mH2 HB.out GE280.out GE306.out)⟩⟩
             ·replace c83 := Bool.eq_false_iff.mpr c83
              subst c83
              have H1 : (laws_FnExactBytes.j2 kj45 t329 t328 true) = some r := by rw [if_neg (show ¬ (false = true) by decide)] at H; exact H
              clear H
              have H := H1
              clear H1
              have H' := mS H
              clear H
              obtain ⟨Ao86, co86, eo86⟩ := Kd.R_slice HO343.out
              subst eo86
              obtain ⟨Ao87, co87, eo87⟩ := Kd.R_slice HO_6.out
              subst eo87
              go_wp2_with (first | ((with_reducible refine gate_callee (f := 54) rfl ?_); refine goesL_ (some 89) rfl rfl Try.func54 (by kernel_rfl) rfl #[.slice Ao86 t341.length co86, .slice Ao87 t292.length co87] rfl mA ?_; (with_reducible refine (laws_eqByteS.calls kj45 _ _ t341 _ _ t292 false _ ?side1 ?side2 ?side3 ?side4 A82.out).mono ?_); (case side1 => repeat (first | exact (Kd.R_reads' HO343.out).2.2 | (with_reducible refine Kd.C_alloc ?_ _) | (with_reducible refine Kd.C_drewN ?_ _) | (with_reducible refine Kd.C_drew ?_))); (case side2 => exact (Kd.R_reads' HO343.out).2.1); (case side3 => repeat (first | exact (Kd.R_reads' HO_6.out).2.2 | (with_reducible refine Kd.C_alloc ?_ _) | (with_reducible refine Kd.C_drewN ?_ _) | (with_reducible refine Kd.C_drew ?_))); (case side4 => exact (Kd.R_reads' HO_6.out).2.1); rintro e w' ⟨rfl, ⟨nd, rfl⟩⟩; refine ⟨_, rfl, ?_⟩))
              go_meet
              case rel => exact ⟨_, (true), (by first | rfl | (simp; done) | (simp [*]; done)), H', ⟨by have := HJ13.out; have := HJ45.out; first | omega | exact Nat.le_refl _⟩, ⟨by (try simp only [hl307000_45]); (try simp only [hl307001_45]); (try simp only [hl307002_45]); (with_reducible repeat (first | apply Kd.R_alloc | apply Kd.R_drewN | apply Kd.R_drew)); exact Kd.R_mono HO_9.out (fun _ hk => trivial)⟩, ⟨by (try simp only [hl307000_45]); (try simp only [hl307001_45]); (try simp only [hl307002_45]); (with_reducible repeat (first | apply Kd.S_alloc | apply Kd.S_drewN | apply Kd.S_drew)); exact Kd.S_mono HO_307000.out (fun _ hk => hk.1.1.1.2)⟩, ⟨by (try simp only [hl307000_45]); (try simp only [hl307001_45]); (try simp only [hl307002_45]); (with_reducible repeat (first | apply Kd.R_alloc | apply Kd.R_drewN | apply Kd.R_drew)); exact Kd.R_mono HO_307001.out (fun _ hk => hk.1.1)⟩, ⟨by (try simp only [hl307000_45]); (try simp only [hl307001_45]); (try simp only [hl307002_45]); (with_reducible repeat (first | apply Kd.R_alloc | apply Kd.R_drewN | apply Kd.R_drew)); exact Kd.R_mono HO_307002.out (fun _ hk => hk.1.1)⟩, ⟨by (try simp only [hl307000_45]); (try simp only [hl307001_45]); (try simp only [hl307002_45]); (with_reducible repeat (first | refine blk_drewN ?_ _ | refine blk_drew ?_ | refine blk_alloc ?_ _)); exact BK280.out⟩, ⟨by (try simp only [hl307000_45]); (try simp only [hl307001_45]); (try simp only [hl307002_45]); (with_reducible repeat (first | refine blk_drewN ?_ _ | refine blk_drew ?_ | refine blk_alloc ?_ _)); exact BK306.out⟩, ⟨(mH2 HB.out GE280.out GE306.out)⟩⟩
            case rest =>
             clear HC71
             try clear c1
             try clear p2
             try clear c3
             try clear c3b0
             try clear c3b1
             try clear c4
             try clear c5
             try clear c6
             try clear c6b0
             try clear c7
             try clear c8
             try clear c11
             try clear c30
             try clear c36
             try clear c40
             try clear c41
             try clear c43
             try clear c44
             try clear c45
             try clear c52
             try clear c53
             try clear c54
             try clear c55
             try clear c56
             try clear c57
             try clear c57b0
             try clear c59
             try clear c64
             try clear c67
             try clear c67b0
             try clear c68
             try clear c68b0
             try clear c68b1
             try clear c74
             try clear c83
             try clear hcz16_0
             try clear hcz16_1
             try clear hcz16_2
             try clear hcz16_3
             try clear hcz18_0
             try clear hcz18_1
             try clear hcz18_2
             try clear hcz18_3
             try clear hcz25_0
             try clear hcz25_1
             try clear hcz25_2
             try clear hcz25_3
             try clear hcz31_0
             try clear hcz31_1
             try clear hcz31_2
             try clear hcz31_3
             try clear hcz55_0
             try clear hcz55_1
             try clear hcz55_2
             try clear hcz55_3
             try clear hcz75_0
             try clear hcz75_1
             try clear hcz75_2
             try clear hcz75_3
             try clear hcz8_0
             try clear hcz8_1
             try clear hcz8_2
             try clear hcz8_3
             try clear hfz16_0
             try clear hfz16_1
             try clear hfz16_2
             try clear hfz16_3
             try clear hfz18_0
             try clear hfz18_1
             try clear hfz18_2
             try clear hfz18_3
             try clear hfz25_0
             try clear hfz25_1
             try clear hfz25_2
             try clear hfz25_3
             try clear hfz31_0
             try clear hfz31_1
             try clear hfz31_2
             try clear hfz31_3
             try clear hfz55_0
             try clear hfz55_1
             try clear hfz55_2
             try clear hfz55_3
             try clear hfz75_0
             try clear hfz75_1
             try clear hfz75_2
             try clear hfz75_3
             try clear hfz8_0
             try clear hfz8_1
             try clear hfz8_2
             try clear hfz8_3
             try clear p2
             obtain ⟨kq, x95_70, rfl, HA, HJ70, HO_9, HO_307000, HO_307001, HO_307002, BK280, BK306, HB⟩ := hcut
             have hl9_70 := (Kd.R_reads' HO_9.out).1
             rw [hl9_70] at HO_9
             (try simp only [hl9_70])
             (try simp only [hl9_70] at BK280)
             (try simp only [hl9_70] at BK306)
             (try simp only [hl9_70] at HO_307000)
             (try simp only [hl9_70] at HO_307001)
             (try simp only [hl9_70] at HO_307002)
             cases kq with
             | zero => exact absurd HA.out (by simp [laws_FnExactBytes.j2])
             | succ kj70 =>
              have H := HA.out
              clear HA
              simp only [laws_FnExactBytes.j2] at H
              by_cases c88 : x95_70 = true
              ·subst c88
               have H1 : (some false) = some r := by rw [if_pos rfl] at H; exact H
               clear H
               have H := H1
               clear H1
               exact absurd ((Option.some.inj H).trans ht_) (by decide)
              ·replace c88 := Bool.eq_false_iff.mpr c88
               subst c88
               have H1 : ((laws_heldByteS.f kj70 t329 1).bind fun t346 => (if t346 < 0 then (some false) else (if t346 = t328 then (some true) else (some false)))) = some r := by rw [if_neg (show ¬ (false = true) by decide)] at H; exact H
               clear H
               have H := H1
               clear H1
               replace H := Option.bind_eq_some_iff.mp H
               obtain ⟨t346, A890, H⟩ := H
               replace H : (if t346 < 0 then (some false) else (if t346 = t328 then (some true) else (some false))) = some r := H
               have A89 := mS A890
               clear A890
               by_cases c90 : t346 < 0
               ·rw [if_pos c90] at H
                have c90b0 : decide (t346 < 0) = true := decide_eq_true c90
                clear c90
                exact absurd ((Option.some.inj H).trans ht_) (by decide)
               ·rw [if_neg c90] at H
                have c90b0 : decide (t346 < 0) = false := decide_eq_false c90
                clear c90
                by_cases c91 : t346 = t328
                ·rw [if_pos c91] at H
                 have c91b0 : (t346 == t328) = true := beq_iff_eq.mpr c91
                 have c91b1 : (t346 != t328) = false := bne_eq_false_iff_eq.mpr c91
                 clear c91
                 obtain rfl := Option.some.inj H
                 go_wp2_with (first | ((with_reducible refine gate_callee (f := 56) rfl ?_); refine goesL_ (some 98) rfl rfl Try.func56 (by kernel_rfl) rfl #[.slice Ao72 t329.length co72, .int .i64 1] rfl mA ?_; (with_reducible refine (laws_heldByteS.calls kj70 _ _ t329 1 t346 _ ?side1 ?side2 A89.out).mono ?_); (case side1 => repeat (first | exact (Kd.R_reads' HO_9.out).2.2 | (with_reducible refine Kd.C_alloc ?_ _) | (with_reducible refine Kd.C_drewN ?_ _) | (with_reducible refine Kd.C_drew ?_))); (case side2 => exact (Kd.R_reads' HO_9.out).2.1); rintro e w' ⟨rfl, ⟨nd, rfl⟩⟩; refine ⟨_, rfl, ?_⟩))
                 go_ret
                 exact ⟨by first | rfl | (simp [errW_none, errW_some] <;> rfl) | (simp [*, errW_none, errW_some] <;> rfl), (mH2 HB.out GE280.out GE306.out)⟩
                ·rw [if_neg c91] at H
                 have c91b0 : (t346 == t328) = false := beq_eq_false_iff_ne.mpr c91
                 have c91b1 : (t346 != t328) = true := bne_iff_ne.mpr c91
                 exact absurd ((Option.some.inj H).trans ht_) (by decide)
           ·rw [if_neg c68] at H
            have c68b0 : (t330 == t328) = false := beq_eq_false_iff_ne.mpr c68
            have c68b1 : (t330 != t328) = true := bne_iff_ne.mpr c68
            exact absurd ((Option.some.inj H).trans ht_) (by decide)
      ·replace c44 := Bool.eq_false_iff.mpr c44
       subst c44
       have H1 : (some false) = some r := by rw [if_neg (show ¬ (false = true) by decide)] at H; exact H
       clear H
       have H := H1
       clear H1
       exact absurd ((Option.some.inj H).trans ht_) (by decide)

end Go.Proofs.Ytgbejjeephipeaa.MFnExactBytes
