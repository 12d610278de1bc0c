-- Written by mp.py, this session's own printer (wip/mp.py).
import Derived.Test.YtecjamgajlpfdaaVMShort
import Derived.Test.YtecjamgajlpfdaaMFnExactRecordsx0
import Derived.Test.YtecjamgajlpfdaaMFnExactRecordsx1
import Derived.Test.YtecjamgajlpfdaaMFnExactRecordsx2
import Derived.Test.YtecjamgajlpfdaaMFnExactRecordsx4
namespace Go.Proofs.Ytecjamgajlpfdaa.MFnExactRecords
open Go.RowKit Go.Proofs.YtecjamgajlpfdaaW.PrintWords Go.Proofs.YtecjamgajlpfdaaW.PrintLast Go.Proofs.YtecjamgajlpfdaaW.PrintMore Go.Proofs.Ytecjamgajlpfdaa.MWords
attribute [local go_sem] max2_int min2_int max_two min_two max_three min_three max_four min_four   -- for this text's walks alone
set_option linter.unusedVariables false
set_option linter.unusedSimpArgs false

/-! ### laws_FnExactRecords: function 4 -/
mutual
def laws_FnExactRecords.j0 : Nat → List Int → List (List Int) → Int → List Int → List (List Int) → Int → Bool → Option (Bool)
 | 0, _, _, _, _, _, _, _ => none
 | k + 1, x0, x3, x4, x5, x6, x7, x37 => if x37 = true then (some false) else ((laws_toByteS.f k x0).bind fun t199 => ((laws_eqByteS.f k x5 t199).bind fun t202 => (if t202 = true then ((laws_markByteS.f k x5 1).bind fun bt203 => (if bt203.1 < 0 then (laws_FnExactRecords.j1 k x0 x3 x4 x6 true) else ((laws_eqByteSS.f k x6 x3).bind fun t205 => (if t205 = true then (laws_FnExactRecords.j1 k x0 x3 x4 x6 (x7 != x4)) else (laws_FnExactRecords.j1 k x0 x3 x4 x6 true))))) else (some false))))
def laws_FnExactRecords.j1 : Nat → List Int → List (List Int) → Int → List (List Int) → Bool → Option (Bool)
 | 0, _, _, _, _, _ => none
 | k + 1, x0, x3, x4, x6, x58 => if x58 = true then (some false) else ((laws_markByteSS.f k x6 1).bind fun bt206 => ((laws_heldByteSS.f k bt206.2 1).bind fun t208 => (if t208 < 0 then (some false) else (if t208 = bt206.1 then ((laws_toByteS.f k x0).bind fun t209 => ((impl_Records.f k t209).bind fun bt212 => ((laws_eqByteSS.f k bt212.1 x3).bind fun t216 => (if t216 = true then (laws_FnExactRecords.j2 k bt206.2 bt206.1 (bt212.2 != x4)) else (laws_FnExactRecords.j2 k bt206.2 bt206.1 true))))) else (some false)))))
def laws_FnExactRecords.j2 : Nat → List (List Int) → Int → Bool → Option (Bool)
 | 0, _, _, _ => none
 | k + 1, x6, x9, x84 => if x84 = true then (some false) else ((laws_heldByteSS.f k x6 1).bind fun t217 => (if t217 < 0 then (some false) else (if t217 = x9 then (some true) else (some false))))
end
def laws_FnExactRecords.f (k : Nat) (l0 : List Int) : Option (Bool) := if (l0.length : Int) > 1048576 then (some true) else ((laws_toByteS.f k l0).bind fun t184 => ((spec_Records.f k t184).bind fun bt187 => ((laws_toByteS.f k l0).bind fun t191 => ((impl_Records.f k t191).bind fun bt194 => ((laws_eqByteSS.f k bt194.1 bt187.1).bind fun t198 => (if t198 = true then (laws_FnExactRecords.j0 k l0 bt187.1 bt187.2 t191 bt194.1 bt194.2 (bt194.2 != bt187.2)) else (laws_FnExactRecords.j0 k l0 bt187.1 bt187.2 t191 bt194.1 bt194.2 true)))))))
theorem laws_FnExactRecords.mono_l : ∀ k, (∀ y0 y1 y2 y3 y4 y5 y6, LeO (laws_FnExactRecords.j0 k y0 y1 y2 y3 y4 y5 y6) (laws_FnExactRecords.j0 (k + 1) y0 y1 y2 y3 y4 y5 y6)) ∧ (∀ y0 y1 y2 y3 y4, LeO (laws_FnExactRecords.j1 k y0 y1 y2 y3 y4) (laws_FnExactRecords.j1 (k + 1) y0 y1 y2 y3 y4)) ∧ (∀ y0 y1 y2, LeO (laws_FnExactRecords.j2 k y0 y1 y2) (laws_FnExactRecords.j2 (k + 1) y0 y1 y2))
 | 0 => ⟨fun _ _ _ _ _ _ _ r h => by simp [laws_FnExactRecords.j0] at h, fun _ _ _ _ _ r h => by simp [laws_FnExactRecords.j1] at h, fun _ _ _ r h => by simp [laws_FnExactRecords.j2] at h⟩
 | k + 1 => by
  obtain ⟨ih0, ih1, ih2⟩ := laws_FnExactRecords.mono_l k
  refine ⟨?_, ?_, ?_⟩
  ·intro y0 y1 y2 y3 y4 y5 y6
   unfold laws_FnExactRecords.j0
   repeat' first
   | (with_reducible exact ih0 _ _ _ _ _ _ _)
   | (with_reducible exact ih1 _ _ _ _ _)
   | (with_reducible exact ih2 _ _ _)
   | (with_reducible exact impl_Records.mono _ _)
   | (with_reducible exact laws_eqByteS.mono _ _ _)
   | (with_reducible exact laws_eqByteSS.mono _ _ _)
   | (with_reducible exact laws_heldByteSS.mono _ _ _)
   | (with_reducible exact laws_markByteS.mono _ _ _)
   | (with_reducible exact laws_markByteSS.mono _ _ _)
   | (with_reducible exact laws_toByteS.mono _ _)
   | (with_reducible exact spec_Records.mono _ _)
   | (with_reducible exact LeO.refl _)
   | (with_reducible exact LeO.none _)
   | (with_reducible refine LeO.ite ?_ ?_)
   | (with_reducible refine LeO.bind ?_ (fun _ => ?_))
   | exact ih0 _ _ _ _ _ _ _
   | exact ih1 _ _ _ _ _
   | exact ih2 _ _ _
   | exact impl_Records.mono _ _
   | exact laws_eqByteS.mono _ _ _
   | exact laws_eqByteSS.mono _ _ _
   | exact laws_heldByteSS.mono _ _ _
   | exact laws_markByteS.mono _ _ _
   | exact laws_markByteSS.mono _ _ _
   | exact laws_toByteS.mono _ _
   | exact spec_Records.mono _ _
   | exact LeO.none _
   | refine LeO.ite ?_ ?_
   | refine LeO.bind ?_ (fun _ => ?_)
  ·intro y0 y1 y2 y3 y4
   unfold laws_FnExactRecords.j1
   repeat' first
   | (with_reducible exact ih0 _ _ _ _ _ _ _)
   | (with_reducible exact ih1 _ _ _ _ _)
   | (with_reducible exact ih2 _ _ _)
   | (with_reducible exact impl_Records.mono _ _)
   | (with_reducible exact laws_eqByteS.mono _ _ _)
   | (with_reducible exact laws_eqByteSS.mono _ _ _)
   | (with_reducible exact laws_heldByteSS.mono _ _ _)
   | (with_reducible exact laws_markByteS.mono _ _ _)
   | (with_reducible exact laws_markByteSS.mono _ _ _)
   | (with_reducible exact laws_toByteS.mono _ _)
   | (with_reducible exact spec_Records.mono _ _)
   | (with_reducible exact LeO.refl _)
   | (with_reducible exact LeO.none _)
   | (with_reducible refine LeO.ite ?_ ?_)
   | (with_reducible refine LeO.bind ?_ (fun _ => ?_))
   | exact ih0 _ _ _ _ _ _ _
   | exact ih1 _ _ _ _ _
   | exact ih2 _ _ _
   | exact impl_Records.mono _ _
   | exact laws_eqByteS.mono _ _ _
   | exact laws_eqByteSS.mono _ _ _
   | exact laws_heldByteSS.mono _ _ _
   | exact laws_markByteS.mono _ _ _
   | exact laws_markByteSS.mono _ _ _
   | exact laws_toByteS.mono _ _
   | exact spec_Records.mono _ _
   | exact LeO.none _
   | refine LeO.ite ?_ ?_
   | refine LeO.bind ?_ (fun _ => ?_)
  ·intro y0 y1 y2
   unfold laws_FnExactRecords.j2
   repeat' first
   | (with_reducible exact ih0 _ _ _ _ _ _ _)
   | (with_reducible exact ih1 _ _ _ _ _)
   | (with_reducible exact ih2 _ _ _)
   | (with_reducible exact impl_Records.mono _ _)
   | (with_reducible exact laws_eqByteS.mono _ _ _)
   | (with_reducible exact laws_eqByteSS.mono _ _ _)
   | (with_reducible exact laws_heldByteSS.mono _ _ _)
   | (with_reducible exact laws_markByteS.mono _ _ _)
   | (with_reducible exact laws_markByteSS.mono _ _ _)
   | (with_reducible exact laws_toByteS.mono _ _)
   | (with_reducible exact spec_Records.mono _ _)
   | (with_reducible exact LeO.refl _)
   | (with_reducible exact LeO.none _)
   | (with_reducible refine LeO.ite ?_ ?_)
   | (with_reducible refine LeO.bind ?_ (fun _ => ?_))
   | exact ih0 _ _ _ _ _ _ _
   | exact ih1 _ _ _ _ _
   | exact ih2 _ _ _
   | exact impl_Records.mono _ _
   | exact laws_eqByteS.mono _ _ _
   | exact laws_eqByteSS.mono _ _ _
   | exact laws_heldByteSS.mono _ _ _
   | exact laws_markByteS.mono _ _ _
   | exact laws_markByteSS.mono _ _ _
   | exact laws_toByteS.mono _ _
   | exact spec_Records.mono _ _
   | exact LeO.none _
   | refine LeO.ite ?_ ?_
   | refine LeO.bind ?_ (fun _ => ?_)
theorem laws_FnExactRecords.mono : ∀ a0 k, LeO (laws_FnExactRecords.f k a0) (laws_FnExactRecords.f (k + 1) a0) := by
 intro a0 k
 obtain ⟨ih0, ih1, ih2⟩ := laws_FnExactRecords.mono_l k
 unfold laws_FnExactRecords.f
 repeat' first
   | (with_reducible exact ih0 _ _ _ _ _ _ _)
   | (with_reducible exact ih1 _ _ _ _ _)
   | (with_reducible exact ih2 _ _ _)
   | (with_reducible exact impl_Records.mono _ _)
   | (with_reducible exact laws_eqByteS.mono _ _ _)
   | (with_reducible exact laws_eqByteSS.mono _ _ _)
   | (with_reducible exact laws_heldByteSS.mono _ _ _)
   | (with_reducible exact laws_markByteS.mono _ _ _)
   | (with_reducible exact laws_markByteSS.mono _ _ _)
   | (with_reducible exact laws_toByteS.mono _ _)
   | (with_reducible exact spec_Records.mono _ _)
   | (with_reducible exact LeO.refl _)
   | (with_reducible exact LeO.none _)
   | (with_reducible refine LeO.ite ?_ ?_)
   | (with_reducible refine LeO.bind ?_ (fun _ => ?_))
   | exact ih0 _ _ _ _ _ _ _
   | exact ih1 _ _ _ _ _
   | exact ih2 _ _ _
   | exact impl_Records.mono _ _
   | exact laws_eqByteS.mono _ _ _
   | exact laws_eqByteSS.mono _ _ _
   | exact laws_heldByteSS.mono _ _ _
   | exact laws_markByteS.mono _ _ _
   | exact laws_markByteSS.mono _ _ _
   | exact laws_toByteS.mono _ _
   | exact spec_Records.mono _ _
   | exact LeO.none _
   | refine LeO.ite ?_ ?_
   | refine LeO.bind ?_ (fun _ => ?_)
set_option maxHeartbeats 8000000 in
set_option maxRecDepth 100000 in
theorem laws_FnExactRecords.calls (k : Nat) (A0 : Option Addr) (c0 : Nat) (l0 : List Int) (r : Bool) (w : World) (hr0 : Kd.C (Kd.int .u8) w A0 l0.length l0) (hc0 : l0.length ≤ c0) (ht_ : r = true) (h : laws_FnExactRecords.f k l0 = some r) :
  Calls Try.prog 4 #[.slice A0 l0.length c0] w fun e w' => e = .returned (.bool r) ∧ Below w.heap.size w w' := by
 have HR0 := mS hr0
 have HC0 := mS hc0
 clear hr0 hc0
 have HB := mS (Below.refl w.heap.size w)
 have H : (if (l0.length : Int) > 1048576 then (some true) else ((laws_toByteS.f k l0).bind fun t184 => ((spec_Records.f k t184).bind fun bt187 => ((laws_toByteS.f k l0).bind fun t191 => ((impl_Records.f k t191).bind fun bt194 => ((laws_eqByteSS.f k bt194.1 bt187.1).bind fun t198 => (if t198 = true then (laws_FnExactRecords.j0 k l0 bt187.1 bt187.2 t191 bt194.1 bt194.2 (bt194.2 != bt187.2)) else (laws_FnExactRecords.j0 k l0 bt187.1 bt187.2 t191 bt194.1 bt194.2 true)))))))) = some r := h
 clear h
 by_cases c2 : (l0.length : Int) > 1048576
 ·rw [if_pos c2] at H
  have c2b0 : decide (1048576 < (l0.length : Int)) = true := decide_eq_true c2
  have c2b1 : decide (1048576 < l0.length) = true := decide_eq_true (by omega)
  clear c2
  obtain rfl := Option.some.inj H
  go_enter Try.func4, Try.ntmps4
  go_wp2
  go_ret
  exact ⟨mEw, (mH HB.out)⟩
 ·rw [if_neg c2] at H
  have c2b0 : decide (1048576 < (l0.length : Int)) = false := decide_eq_false c2
  have c2b1 : decide (1048576 < l0.length) = false := decide_eq_false (by omega)
  clear c2
  replace H := Option.bind_eq_some_iff.mp H
  obtain ⟨t184, A30, H⟩ := H
  replace H : ((spec_Records.f k t184).bind fun bt187 => ((laws_toByteS.f k l0).bind fun t191 => ((impl_Records.f k t191).bind fun bt194 => ((laws_eqByteSS.f k bt194.1 bt187.1).bind fun t198 => (if t198 = true then (laws_FnExactRecords.j0 k l0 bt187.1 bt187.2 t191 bt194.1 bt194.2 (bt194.2 != bt187.2)) else (laws_FnExactRecords.j0 k l0 bt187.1 bt187.2 t191 bt194.1 bt194.2 true)))))) = some r := H
  have A3 := mS A30
  clear A30
  replace H := Option.bind_eq_some_iff.mp H
  obtain ⟨⟨t187, t188⟩, A40, H⟩ := H
  replace H : ((laws_toByteS.f k l0).bind fun t191 => ((impl_Records.f k t191).bind fun bt194 => ((laws_eqByteSS.f k bt194.1 t187).bind fun t198 => (if t198 = true then (laws_FnExactRecords.j0 k l0 t187 t188 t191 bt194.1 bt194.2 (bt194.2 != t188)) else (laws_FnExactRecords.j0 k l0 t187 t188 t191 bt194.1 bt194.2 true))))) = some r := H
  have A4 := mS A40
  clear A40
  replace H := Option.bind_eq_some_iff.mp H
  obtain ⟨t191, A50, H⟩ := H
  replace H : ((impl_Records.f k t191).bind fun bt194 => ((laws_eqByteSS.f k bt194.1 t187).bind fun t198 => (if t198 = true then (laws_FnExactRecords.j0 k l0 t187 t188 t191 bt194.1 bt194.2 (bt194.2 != t188)) else (laws_FnExactRecords.j0 k l0 t187 t188 t191 bt194.1 bt194.2 true)))) = some r := H
  have A5 := mS A50
  clear A50
  replace H := Option.bind_eq_some_iff.mp H
  obtain ⟨⟨t194, t195⟩, A60, H⟩ := H
  replace H : ((laws_eqByteSS.f k t194 t187).bind fun t198 => (if t198 = true then (laws_FnExactRecords.j0 k l0 t187 t188 t191 t194 t195 (t195 != t188)) else (laws_FnExactRecords.j0 k l0 t187 t188 t191 t194 t195 true))) = some r := H
  have A6 := mS A60
  clear A60
  have HC7 := mS H
  clear H
  go_enter Try.func4, Try.ntmps4
  go_upto_region 6 with (first | ((with_reducible refine gate_callee (f := 8) rfl ?_); refine mGo 18 Try.func8 #[.slice A0 l0.length c0] ?_; (with_reducible refine (laws_toByteS.calls k _ _ l0 t184 _ ?side1 ?side2 A3.out).mono ?_); (case side1 => exact mC HR0.out); (case side2 => exact HC0.out); rintro e w8 ⟨v185, rfl, ho0, hb⟩; refine ⟨_, rfl, ?_⟩; replace ho0 := Mz.of ho0; have HO186 := mS (Mz.Z_lower ho0 (below_size (mH HB.out))); replace HB := mS (below_step (mH HB.out) hb); (try clear hb); (try clear ho0); obtain ⟨Ao9, co9, eo9⟩ := Mz.Z_slice HO186.out; subst eo9) | ((with_reducible refine gate_callee (f := 13) rfl ?_); refine mGo 19 Try.func13 #[.slice Ao9 t184.length co9] ?_; (with_reducible refine (spec_Records.calls k _ _ t184 t187 t188 _ ?side1 ?side2 A4.out).mono ?_); (case side1 => exact mC (Mz.Z_reads' HO186.out).2.2); (case side2 => exact (Mz.Z_reads' HO186.out).2.1); rintro e w10 ⟨v189, rfl, ho0, hb⟩; refine ⟨_, rfl, ?_⟩; replace ho0 := Mz.S_of ho0; obtain ⟨z11, hz11⟩ := MWords.mp_size hb; have HO190 := mS (Kd.S_lower (Kd.S_new' (MWords.mp_geS ho0 hz11) (Mz.Z_lt (by (with_reducible repeat (first | apply Mz.Z_alloc | apply Mz.Z_drewN | apply Mz.Z_drew)); exact HO186.out))) (below_size (mH HB.out))); replace HO186 := mS (Mz.Z_below (by (with_reducible repeat (first | apply Mz.Z_alloc | apply Mz.Z_drewN | apply Mz.Z_drew)); exact HO186.out) hb); replace HB := mS (below_step (mH HB.out) hb); (try clear hb); (try clear ho0)) | ((with_reducible refine gate_callee (f := 8) rfl ?_); refine mGo 23 Try.func8 #[.slice A0 l0.length c0] ?_; (with_reducible refine (laws_toByteS.calls k _ _ l0 t191 _ ?side1 ?side2 A5.out).mono ?_); (case side1 => exact mC (Kd.C_below HR0.out HB.out)); (case side2 => exact HC0.out); rintro e w12 ⟨v192, rfl, ho0, hb⟩; refine ⟨_, rfl, ?_⟩; replace ho0 := Mz.of ho0; replace HO190 := mS (Kd.S_elder' (mSd HO190.out) (Mz.Z_base ho0) hb); have HO193 := mS (Mz.Z_lower (Mz.Z_new' ho0 (Mz.Z_lt (by (with_reducible repeat (first | apply Mz.Z_alloc | apply Mz.Z_drewN | apply Mz.Z_drew)); exact HO186.out))) (below_size (mH HB.out))); replace HO186 := mS (Mz.Z_elder' (by (with_reducible repeat (first | apply Mz.Z_alloc | apply Mz.Z_drewN | apply Mz.Z_drew)); exact HO186.out) (Mz.Z_base ho0) hb); replace HB := mS (below_step (mH HB.out) hb); (try clear hb); (try clear ho0); obtain ⟨Ao13, co13, eo13⟩ := Mz.Z_slice HO193.out; subst eo13) | ((with_reducible refine gate_callee (f := 14) rfl ?_); refine mGo 26 Try.func14 #[.slice Ao13 t191.length co13] ?_; (with_reducible refine (impl_Records.calls k _ _ t191 t194 t195 _ ?side1 ?side2 A6.out).mono ?_); (case side1 => exact mC (Mz.Z_reads' HO193.out).2.2); (case side2 => exact (Mz.Z_reads' HO193.out).2.1); rintro e w14 ⟨v196, rfl, ho0, hb⟩; refine ⟨_, rfl, ?_⟩; obtain ⟨z15, hz15⟩ := MWords.mp_size hb; have HO197 := mS (Kd.S_lower (Kd.S_new' (Kd.S_new' (Kd.S_new' (MWords.mp_geS ho0 hz15) (Mz.Z_lt (by (with_reducible repeat (first | apply Mz.Z_alloc | apply Mz.Z_drewN | apply Mz.Z_drew)); exact HO186.out))) (Kd.S_lt (mSd HO190.out))) (Mz.Z_lt (by (with_reducible repeat (first | apply Mz.Z_alloc | apply Mz.Z_drewN | apply Mz.Z_drew)); exact HO193.out))) (below_size (mH HB.out))); replace HO186 := mS (Mz.Z_below (by (with_reducible repeat (first | apply Mz.Z_alloc | apply Mz.Z_drewN | apply Mz.Z_drew)); exact HO186.out) hb); replace HO190 := mS (MWords.mp_ltS (Kd.S_told (Kd.S_old (mSd HO190.out) hb) (Kd.S_base ho0)) hz15); replace HO193 := mS (Mz.Z_below (by (with_reducible repeat (first | apply Mz.Z_alloc | apply Mz.Z_drewN | apply Mz.Z_drew)); exact HO193.out) hb); replace HB := mS (below_step (mH HB.out) hb); (try clear hb); (try clear ho0)))
  (try simp only [Act.put, zA, zB, zC])
  go_cut [37] (fun v37 wc => ∃ (kq : Nat) (x37_6 : Bool), v37 = .bool x37_6 ∧ Aside0 (laws_FnExactRecords.j0 kq l0 t187 t188 t191 t194 t195 x37_6 = some r) ∧ Aside0 (kq ≤ k) ∧ Aside0 (Kd.S (Mz.kz 5) 22 wc w.heap.size (fun k_ => some k_ ≠ ((.slice Ao13 t191.length co13) : Value).ownBlock ∧ some k_ ≠ (v196 : Value).ownBlock ∧ z11 ≤ k_ ∧ k_ < z15) v189 t187) ∧ Aside0 (Mz.Z 5 wc w.heap.size (fun _ => True) (.slice Ao13 t191.length co13) t191) ∧ Aside0 (Kd.S (Mz.kz 5) 22 wc w.heap.size (fun k_ => some k_ ≠ (v189 : Value).ownBlock ∧ some k_ ≠ ((.slice Ao13 t191.length co13) : Value).ownBlock ∧ z15 ≤ k_) v196 t194) ∧ Aside0 (Below w.heap.size w wc))
  case first =>
   have H := HC7.out
   clear HC7
   replace H := Option.bind_eq_some_iff.mp H
   obtain ⟨t198, A160, H⟩ := H
   replace H : (if t198 = true then (laws_FnExactRecords.j0 k l0 t187 t188 t191 t194 t195 (t195 != t188)) else (laws_FnExactRecords.j0 k l0 t187 t188 t191 t194 t195 true)) = some r := H
   have A16 := mS A160
   clear A160
   by_cases c17 : t198 = true
   ·subst c17
    have H1 := H
    rw [if_pos rfl] at H1
    clear H
    have H := H1
    clear H1
    have H' := mS H
    clear H
    obtain ⟨Ao18, co18, eo18⟩ := Kd.S_slice HO197.out
    subst eo18
    obtain ⟨Ao19, co19, eo19⟩ := Kd.S_slice HO190.out
    subst eo19
    go_wp2_with (first | ((with_reducible refine gate_callee (f := 15) rfl ?_); refine mGo 31 Try.func15 #[.slice Ao18 t194.length co18, .slice Ao19 t187.length co19] ?_; (with_reducible refine (laws_eqByteSS.calls k _ _ t194 _ _ t187 true _ ?side1 ?side2 ?side3 ?side4 A16.out).mono ?_); (case side1 => exact mC (Mz.S_C (Kd.S_reads' HO197.out).2.2)); (case side2 => exact (Kd.S_reads' HO197.out).2.1); (case side3 => exact mC (Mz.S_C (Kd.S_reads' HO190.out).2.2)); (case side4 => exact (Kd.S_reads' HO190.out).2.1); rintro e w' ⟨rfl, ⟨nd, rfl⟩⟩; refine ⟨_, rfl, ?_⟩))
    go_meet
    case rel => exact ⟨_, ((t195 != t188)), mE, H', ⟨by first | omega | exact Nat.le_refl _⟩, ⟨by refine mSd ?_; exact Kd.S_mono HO190.out (fun _ hk => ⟨hk.1.1.2, ⟨hk.1.2, ⟨hk.1.1.1.1.2, hk.2⟩⟩⟩)⟩, ⟨by (with_reducible repeat (first | apply Mz.Z_alloc | apply Mz.Z_drewN | apply Mz.Z_drew)); exact Mz.Z_mono HO193.out (fun _ hk => trivial)⟩, ⟨by refine mSd ?_; exact Kd.S_mono HO197.out (fun _ hk => ⟨hk.1.2, ⟨hk.2, hk.1.1.1.2⟩⟩)⟩, ⟨(mH HB.out)⟩⟩
   ·replace c17 := Bool.eq_false_iff.mpr c17
    subst c17
    have H1 := H
    rw [if_neg (show ¬ (false = true) by decide)] at H1
    clear H
    have H := H1
    clear H1
    have H' := mS H
    clear H
    obtain ⟨Ao20, co20, eo20⟩ := Kd.S_slice HO197.out
    subst eo20
    obtain ⟨Ao21, co21, eo21⟩ := Kd.S_slice HO190.out
    subst eo21
    go_wp2_with (first | ((with_reducible refine gate_callee (f := 15) rfl ?_); refine mGo 31 Try.func15 #[.slice Ao20 t194.length co20, .slice Ao21 t187.length co21] ?_; (with_reducible refine (laws_eqByteSS.calls k _ _ t194 _ _ t187 false _ ?side1 ?side2 ?side3 ?side4 A16.out).mono ?_); (case side1 => exact mC (Mz.S_C (Kd.S_reads' HO197.out).2.2)); (case side2 => exact (Kd.S_reads' HO197.out).2.1); (case side3 => exact mC (Mz.S_C (Kd.S_reads' HO190.out).2.2)); (case side4 => exact (Kd.S_reads' HO190.out).2.1); rintro e w' ⟨rfl, ⟨nd, rfl⟩⟩; refine ⟨_, rfl, ?_⟩))
    go_meet
    case rel => exact ⟨_, (true), mE, H', ⟨by first | omega | exact Nat.le_refl _⟩, ⟨by refine mSd ?_; exact Kd.S_mono HO190.out (fun _ hk => ⟨hk.1.1.2, ⟨hk.1.2, ⟨hk.1.1.1.1.2, hk.2⟩⟩⟩)⟩, ⟨by (with_reducible repeat (first | apply Mz.Z_alloc | apply Mz.Z_drewN | apply Mz.Z_drew)); exact Mz.Z_mono HO193.out (fun _ hk => trivial)⟩, ⟨by refine mSd ?_; exact Kd.S_mono HO197.out (fun _ hk => ⟨hk.1.2, ⟨hk.2, hk.1.1.1.2⟩⟩)⟩, ⟨(mH HB.out)⟩⟩
  case rest =>
   clear HC7
   try clear c1
   try clear c2
   try clear c2b0
   try clear c2b1
   try clear p2
   try clear c4
   try clear c8
   try clear c13
   try clear c14
   try clear c15
   try clear c17
   obtain ⟨kq, x37_6, rfl, HA, HJ6, HO_3, HO_5, HO_6, HB⟩ := hcut
   cases kq with
   | zero => exact absurd HA.out (by simp [laws_FnExactRecords.j0])
   | succ kj6 =>
    have H := HA.out
    clear HA
    simp only [laws_FnExactRecords.j0] at H
    by_cases c22 : x37_6 = true
    ·subst c22
     have H1 := H
     rw [if_pos rfl] at H1
     clear H
     have H := H1
     clear H1
     exact absurd ((Option.some.inj H).trans ht_) (by decide)
    ·replace c22 := Bool.eq_false_iff.mpr c22
     subst c22
     have H1 := H
     rw [if_neg (show ¬ (false = true) by decide)] at H1
     clear H
     have H := H1
     clear H1
     replace H := Option.bind_eq_some_iff.mp H
     obtain ⟨t199, A230, H⟩ := H
     replace H : ((laws_eqByteS.f kj6 t191 t199).bind fun t202 => (if t202 = true then ((laws_markByteS.f kj6 t191 1).bind fun bt203 => (if bt203.1 < 0 then (laws_FnExactRecords.j1 kj6 l0 t187 t188 t194 true) else ((laws_eqByteSS.f kj6 t194 t187).bind fun t205 => (if t205 = true then (laws_FnExactRecords.j1 kj6 l0 t187 t188 t194 (t195 != t188)) else (laws_FnExactRecords.j1 kj6 l0 t187 t188 t194 true))))) else (some false))) = some r := H
     have A23 := mS A230
     clear A230
     replace H := Option.bind_eq_some_iff.mp H
     obtain ⟨t202, A240, H⟩ := H
     replace H : (if t202 = true then ((laws_markByteS.f kj6 t191 1).bind fun bt203 => (if bt203.1 < 0 then (laws_FnExactRecords.j1 kj6 l0 t187 t188 t194 true) else ((laws_eqByteSS.f kj6 t194 t187).bind fun t205 => (if t205 = true then (laws_FnExactRecords.j1 kj6 l0 t187 t188 t194 (t195 != t188)) else (laws_FnExactRecords.j1 kj6 l0 t187 t188 t194 true))))) else (some false)) = some r := H
     have A24 := mS A240
     clear A240
     by_cases c25 : t202 = true
     ·subst c25
      have H1 := H
      rw [if_pos rfl] at H1
      clear H
      have H := H1
      clear H1
      replace H := Option.bind_eq_some_iff.mp H
      obtain ⟨⟨t203, t204⟩, A260, H⟩ := H
      replace H : (if t203 < 0 then (laws_FnExactRecords.j1 kj6 l0 t187 t188 t194 true) else ((laws_eqByteSS.f kj6 t194 t187).bind fun t205 => (if t205 = true then (laws_FnExactRecords.j1 kj6 l0 t187 t188 t194 (t195 != t188)) else (laws_FnExactRecords.j1 kj6 l0 t187 t188 t194 true)))) = some r := H
      have A26 := mS A260
      clear A260
      have HC27 := mS H
      clear H
      go_upto_region 12 with (first | ((with_reducible refine gate_callee (f := 8) rfl ?_); refine mGo 40 Try.func8 #[.slice A0 l0.length c0] ?_; (with_reducible refine (laws_toByteS.calls kj6 _ _ l0 t199 _ ?side1 ?side2 A23.out).mono ?_); (case side1 => exact mC (Kd.C_below HR0.out HB.out)); (case side2 => exact HC0.out); rintro e w28 ⟨v200, rfl, ho0, hb⟩; refine ⟨_, rfl, ?_⟩; replace ho0 := Mz.of ho0; replace HO_3 := mS (Kd.S_elder' (mSd HO_3.out) (Mz.Z_base ho0) hb); replace HO_6 := mS (Kd.S_elder' (mSd HO_6.out) (Mz.Z_base ho0) hb); have HO201 := mS (Mz.Z_lower (Mz.Z_new' ho0 (Mz.Z_lt (by (with_reducible repeat (first | apply Mz.Z_alloc | apply Mz.Z_drewN | apply Mz.Z_drew)); exact HO_5.out))) (below_size (mH HB.out))); replace HO_5 := mS (Mz.Z_elder' (by (with_reducible repeat (first | apply Mz.Z_alloc | apply Mz.Z_drewN | apply Mz.Z_drew)); exact HO_5.out) (Mz.Z_base ho0) hb); replace HB := mS (below_step (mH HB.out) hb); (try clear hb); (try clear ho0); obtain ⟨Ao29, co29, eo29⟩ := Mz.Z_slice HO201.out; subst eo29) | ((with_reducible refine gate_callee (f := 10) rfl ?_); refine mGo 41 Try.func10 #[.slice Ao13 t191.length co13, .slice Ao29 t199.length co29] ?_; (with_reducible refine (laws_eqByteS.calls kj6 _ _ t191 _ _ t199 true _ ?side1 ?side2 ?side3 ?side4 A24.out).mono ?_); (case side1 => exact mC (Mz.Z_reads' HO_5.out).2.2); (case side2 => exact (Mz.Z_reads' HO_5.out).2.1); (case side3 => exact mC (Mz.Z_reads' HO201.out).2.2); (case side4 => exact (Mz.Z_reads' HO201.out).2.1); rintro e w' ⟨rfl, ⟨nd, rfl⟩⟩; refine ⟨_, rfl, ?_⟩) | ((with_reducible refine gate_callee (f := 11) rfl ?_); refine mGo 45 Try.func11 #[.slice Ao13 t191.length co13, .int .i64 1] ?_; (with_reducible refine (laws_markByteS.calls kj6 (fun k_ => some k_ = (.slice Ao13 t191.length co13 : Value).ownBlock) (.slice Ao13 t191.length co13) t191 1 t203 t204 w _ ?side1 ?side2 A26.out).mono ?_); (case side1 => exact mH HB.out); (case side2 => exact Mz.Z_tight rfl HO_5.out); rintro e w30 ⟨rfl, hy0, hb, hkp⟩; refine ⟨_, rfl, ?_⟩; replace HO_3 := mS (Kd.S_mono (ok' := fun k_ => some k_ ≠ (.slice Ao13 t191.length co13 : Value).ownBlock ∧ some k_ ≠ (v196 : Value).ownBlock ∧ some k_ ≠ (.slice Ao29 t199.length co29 : Value).ownBlock ∧ z11 ≤ k_ ∧ k_ < z15) (Kd.S_keptB (HO_3.out) hkp (fun k_ hk_ hs_ => (hk_.1.1) hs_)) (fun k_ hk_ => ⟨hk_.1.1.1, hk_.1.1.2.1, hk_.1.2, hk_.1.1.2.2.1, hk_.1.1.2.2.2⟩)); replace HO_5 := mS (Mz.Z_reok rfl hy0 (fun k_ e_ => HO_5.out.1 k_ e_)); replace HO_6 := mS (Kd.S_mono (ok' := fun k_ => some k_ ≠ (v189 : Value).ownBlock ∧ some k_ ≠ (.slice Ao13 t191.length co13 : Value).ownBlock ∧ some k_ ≠ (.slice Ao29 t199.length co29 : Value).ownBlock ∧ z15 ≤ k_) (Kd.S_keptB (HO_6.out) hkp (fun k_ hk_ hs_ => (hk_.1.2.1) hs_)) (fun k_ hk_ => ⟨hk_.1.1.1, hk_.1.1.2.1, hk_.1.2, hk_.1.1.2.2⟩)); replace HO201 := mS (Mz.Z_mono (ok' := fun k_ => some k_ ≠ (.slice Ao13 t191.length co13 : Value).ownBlock) (Mz.Z_keptB (HO201.out) hkp (fun k_ hk_ hs_ => (hk_.2) hs_)) (fun k_ hk_ => hk_.1.2)); replace HB := mS (hb); (try clear hb); (try clear hkp); (try clear hy0)))
      (try simp only [Act.put, zA, zB, zC])
      go_cut [58] (fun v58 wc => ∃ (kq : Nat) (x58_26 : Bool), v58 = .bool x58_26 ∧ Aside0 (laws_FnExactRecords.j1 kq l0 t187 t188 t194 x58_26 = some r) ∧ Aside0 (kq ≤ kj6) ∧ Aside0 (Kd.S (Mz.kz 5) 22 wc w.heap.size (fun k_ => some k_ ≠ (v196 : Value).ownBlock ∧ z11 ≤ k_ ∧ k_ < z15) v189 t187) ∧ Aside0 (Kd.S (Mz.kz 5) 22 wc w.heap.size (fun k_ => some k_ ≠ (v189 : Value).ownBlock ∧ z15 ≤ k_) v196 t194) ∧ Aside0 (Below w.heap.size w wc))
      case first =>
       have H := HC27.out
       clear HC27
       by_cases c31 : t203 < 0
       ·rw [if_pos c31] at H
        have c31b0 := decide_eq_true c31
        clear c31
        (first | rw [c31b0] | (simp only [i64_w, i32_w]; rw [c31b0]) | skip)
        have H' := mS H
        clear H
        go_wp2
        go_meet
        case rel => exact ⟨_, (true), mE, H', ⟨by have := HJ6.out; first | omega | exact Nat.le_refl _⟩, ⟨by refine mSd ?_; exact Kd.S_mono HO_3.out (fun _ hk => ⟨hk.2.1, ⟨hk.2.2.2.1, hk.2.2.2.2⟩⟩)⟩, ⟨by refine mSd ?_; exact Kd.S_mono HO_6.out (fun _ hk => ⟨hk.1, hk.2.2.2⟩)⟩, ⟨(mH HB.out)⟩⟩
       ·rw [if_neg c31] at H
        have c31b0 := decide_eq_false c31
        clear c31
        (first | rw [c31b0] | (simp only [i64_w, i32_w]; rw [c31b0]) | skip)
        replace H := Option.bind_eq_some_iff.mp H
        obtain ⟨t205, A320, H⟩ := H
        replace H : (if t205 = true then (laws_FnExactRecords.j1 kj6 l0 t187 t188 t194 (t195 != t188)) else (laws_FnExactRecords.j1 kj6 l0 t187 t188 t194 true)) = some r := H
        have A32 := mS A320
        clear A320
        by_cases c33 : t205 = true
        ·subst c33
         have H1 := H
         rw [if_pos rfl] at H1
         clear H
         have H := H1
         clear H1
         have H' := mS H
         clear H
         obtain ⟨Ao34, co34, eo34⟩ := Kd.S_slice HO_6.out
         subst eo34
         obtain ⟨Ao35, co35, eo35⟩ := Kd.S_slice HO_3.out
         subst eo35
         go_wp2_with (first | (go_at_call 15; (with_reducible refine (laws_eqByteSS.calls kj6 _ _ t194 _ _ t187 true _ ?side1 ?side2 ?side3 ?side4 A32.out).mono ?_); (case side1 => exact mC (Mz.S_C (Kd.S_reads' HO_6.out).2.2)); (case side2 => exact (Kd.S_reads' HO_6.out).2.1); (case side3 => exact mC (Mz.S_C (Kd.S_reads' HO_3.out).2.2)); (case side4 => exact (Kd.S_reads' HO_3.out).2.1); rintro e w' ⟨rfl, ⟨nd, rfl⟩⟩))
         go_meet
         case rel => exact ⟨_, ((t195 != t188)), mE, H', ⟨by have := HJ6.out; first | omega | exact Nat.le_refl _⟩, ⟨by refine mSd ?_; exact Kd.S_mono HO_3.out (fun _ hk => ⟨hk.2.1, ⟨hk.2.2.2.1, hk.2.2.2.2⟩⟩)⟩, ⟨by refine mSd ?_; exact Kd.S_mono HO_6.out (fun _ hk => ⟨hk.1, hk.2.2.2⟩)⟩, ⟨(mH HB.out)⟩⟩
        ·replace c33 := Bool.eq_false_iff.mpr c33
         subst c33
         have H1 := H
         rw [if_neg (show ¬ (false = true) by decide)] at H1
         clear H
         have H := H1
         clear H1
         have H' := mS H
         clear H
         obtain ⟨Ao36, co36, eo36⟩ := Kd.S_slice HO_6.out
         subst eo36
         obtain ⟨Ao37, co37, eo37⟩ := Kd.S_slice HO_3.out
         subst eo37
         go_wp2_with (first | (go_at_call 15; (with_reducible refine (laws_eqByteSS.calls kj6 _ _ t194 _ _ t187 false _ ?side1 ?side2 ?side3 ?side4 A32.out).mono ?_); (case side1 => exact mC (Mz.S_C (Kd.S_reads' HO_6.out).2.2)); (case side2 => exact (Kd.S_reads' HO_6.out).2.1); (case side3 => exact mC (Mz.S_C (Kd.S_reads' HO_3.out).2.2)); (case side4 => exact (Kd.S_reads' HO_3.out).2.1); rintro e w' ⟨rfl, ⟨nd, rfl⟩⟩))
         go_meet
         case rel => exact ⟨_, (true), mE, H', ⟨by have := HJ6.out; first | omega | exact Nat.le_refl _⟩, ⟨by refine mSd ?_; exact Kd.S_mono HO_3.out (fun _ hk => ⟨hk.2.1, ⟨hk.2.2.2.1, hk.2.2.2.2⟩⟩)⟩, ⟨by refine mSd ?_; exact Kd.S_mono HO_6.out (fun _ hk => ⟨hk.1, hk.2.2.2⟩)⟩, ⟨(mH HB.out)⟩⟩
      case rest =>
       clear HC27
       try clear c1
       try clear c2
       try clear c2b0
       try clear c2b1
       try clear p2
       try clear c3
       try clear c4
       try clear c8
       try clear c10
       try clear c11
       try clear c13
       try clear c14
       try clear c15
       try clear c17
       try clear c22
       try clear c25
       try clear c31
       try clear c31b0
       try clear c33
       try clear p2
       obtain ⟨kq, x58_26, rfl, HA, HJ26, HO_3, HO_6, HB⟩ := hcut
       cases kq with
       | zero => exact absurd HA.out (by simp [laws_FnExactRecords.j1])
       | succ kj26 =>
        have H := HA.out
        clear HA
        simp only [laws_FnExactRecords.j1] at H
        by_cases c38 : x58_26 = true
        ·subst c38
         have H1 := H
         rw [if_pos rfl] at H1
         clear H
         have H := H1
         clear H1
         exact absurd ((Option.some.inj H).trans ht_) (by decide)
        ·replace c38 := Bool.eq_false_iff.mpr c38
         subst c38
         have H1 := H
         rw [if_neg (show ¬ (false = true) by decide)] at H1
         clear H
         have H := H1
         clear H1
         replace H := Option.bind_eq_some_iff.mp H
         obtain ⟨⟨t206, t207⟩, A390, H⟩ := H
         replace H : ((laws_heldByteSS.f kj26 t207 1).bind fun t208 => (if t208 < 0 then (some false) else (if t208 = t206 then ((laws_toByteS.f kj26 l0).bind fun t209 => ((impl_Records.f kj26 t209).bind fun bt212 => ((laws_eqByteSS.f kj26 bt212.1 t187).bind fun t216 => (if t216 = true then (laws_FnExactRecords.j2 kj26 t207 t206 (bt212.2 != t188)) else (laws_FnExactRecords.j2 kj26 t207 t206 true))))) else (some false)))) = some r := H
         have A39 := mS A390
         clear A390
         replace H := Option.bind_eq_some_iff.mp H
         obtain ⟨t208, A400, H⟩ := H
         replace H : (if t208 < 0 then (some false) else (if t208 = t206 then ((laws_toByteS.f kj26 l0).bind fun t209 => ((impl_Records.f kj26 t209).bind fun bt212 => ((laws_eqByteSS.f kj26 bt212.1 t187).bind fun t216 => (if t216 = true then (laws_FnExactRecords.j2 kj26 t207 t206 (bt212.2 != t188)) else (laws_FnExactRecords.j2 kj26 t207 t206 true))))) else (some false))) = some r := H
         have A40 := mS A400
         clear A400
         by_cases c41 : t208 < 0
         ·rw [if_pos c41] at H
          have c41b0 := decide_eq_true c41
          clear c41
          exact absurd ((Option.some.inj H).trans ht_) (by decide)
         ·rw [if_neg c41] at H
          have c41b0 := decide_eq_false c41
          clear c41
          by_cases c42 : t208 = t206
          ·rw [if_pos c42] at H
           have c42b0 : (t208 == t206) = true := beq_iff_eq.mpr c42
           have c42b1 : (t208 != t206) = false := bne_eq_false_iff_eq.mpr c42
           clear c42
           replace H := Option.bind_eq_some_iff.mp H
           obtain ⟨t209, A430, H⟩ := H
           replace H : ((impl_Records.f kj26 t209).bind fun bt212 => ((laws_eqByteSS.f kj26 bt212.1 t187).bind fun t216 => (if t216 = true then (laws_FnExactRecords.j2 kj26 t207 t206 (bt212.2 != t188)) else (laws_FnExactRecords.j2 kj26 t207 t206 true)))) = some r := H
           have A43 := mS A430
           clear A430
           replace H := Option.bind_eq_some_iff.mp H
           obtain ⟨⟨t212, t213⟩, A440, H⟩ := H
           replace H : ((laws_eqByteSS.f kj26 t212 t187).bind fun t216 => (if t216 = true then (laws_FnExactRecords.j2 kj26 t207 t206 (t213 != t188)) else (laws_FnExactRecords.j2 kj26 t207 t206 true))) = some r := H
           have A44 := mS A440
           clear A440
           have HC45 := mS H
           clear H
           obtain ⟨Ao46, co46, eo46⟩ := Kd.S_slice HO_6.out
           subst eo46
           go_upto_region 23 with (first | ((with_reducible refine gate_callee (f := 16) rfl ?_); refine mGo 61 Try.func16 #[.slice Ao46 t194.length co46, .int .i64 1] ?_; (with_reducible refine (laws_markByteSS.calls kj26 (fun k_ => (some k_ ≠ (v189 : Value).ownBlock ∧ z15 ≤ k_) ∧ w.heap.size ≤ k_) (.slice Ao46 t194.length co46) t194 1 t206 t207 w _ ?side1 ?side2 A39.out).mono ?_); (case side1 => exact mH HB.out); (case side2 => exact Kd.S_mono (Kd.S_bound HO_6.out) (fun k_ h_ => (⟨h_.1, h_.2.1⟩ : _ ∧ _))); rintro e w47 ⟨rfl, hy0, hb, hkp⟩; refine ⟨_, rfl, ?_⟩; replace HO_3 := mS (Kd.S_mono (ok' := fun k_ => some k_ ≠ (.slice Ao46 t194.length co46 : Value).ownBlock ∧ z11 ≤ k_ ∧ k_ < z15) (Kd.S_keptB (HO_3.out) hkp (fun k_ hk_ hs_ => (fun e_ => Nat.lt_irrefl _ (Nat.lt_of_lt_of_le (hk_.2.2) (e_.1.2))) hs_)) (fun k_ hk_ => ⟨hk_.1.1, hk_.1.2.1, hk_.1.2.2⟩)); replace HO_6 := mS (Kd.S_mono (ok' := fun k_ => (some k_ ≠ (v189 : Value).ownBlock ∧ z15 ≤ k_)) hy0 (fun k_ h_ => ⟨h_.1.1, h_.1.2⟩)); replace HB := mS (hb); (try clear hb); (try clear hkp); (try clear hy0)) | ((with_reducible refine gate_callee (f := 17) rfl ?_); refine goesL_ (some 64) rfl rfl Try.func17 (by kernel_rfl) rfl #[.slice Ao46 t207.length co46, .int .i64 1] rfl (by (try simp only [List.map_toArray, List.map_cons, List.map_nil]); first | done | (rw [show t207.length = t194.length from (Kd.S_reads' HO_6.out).1.symm] <;> rfl) | rfl | (simp only [List.length_drop, List.length_take]; rfl)) ?_; (with_reducible refine (laws_heldByteSS.calls kj26 _ _ t207 1 t208 _ ?side1 ?side2 A40.out).mono ?_); (case side1 => exact mC (Mz.S_C (Kd.S_reads' HO_6.out).2.2)); (case side2 => rw [show t207.length = t194.length from (Kd.S_reads' HO_6.out).1.symm]; exact (Kd.S_reads' HO_6.out).2.1); rintro e w' ⟨rfl, ⟨nd, rfl⟩⟩; refine ⟨_, rfl, ?_⟩) | ((with_reducible refine gate_callee (f := 8) rfl ?_); refine mGo 72 Try.func8 #[.slice A0 l0.length c0] ?_; (with_reducible refine (laws_toByteS.calls kj26 _ _ l0 t209 _ ?side1 ?side2 A43.out).mono ?_); (case side1 => exact mC (Kd.C_below HR0.out (mH HB.out))); (case side2 => exact HC0.out); rintro e w48 ⟨v210, rfl, ho0, hb⟩; refine ⟨_, rfl, ?_⟩; replace ho0 := Mz.of ho0; replace HO_3 := mS (Kd.S_elder' (mSd HO_3.out) (Mz.Z_base ho0) hb); replace HO_6 := mS (Kd.S_elder' (mSd HO_6.out) (Mz.Z_base ho0) hb); have HO211 := mS (Mz.Z_lower ho0 (below_size (mH HB.out))); replace HB := mS (below_step (mH HB.out) hb); (try clear hb); (try clear ho0); obtain ⟨Ao49, co49, eo49⟩ := Mz.Z_slice HO211.out; subst eo49) | ((with_reducible refine gate_callee (f := 14) rfl ?_); refine mGo 73 Try.func14 #[.slice Ao49 t209.length co49] ?_; (with_reducible refine (impl_Records.calls kj26 _ _ t209 t212 t213 _ ?side1 ?side2 A44.out).mono ?_); (case side1 => exact mC (Mz.Z_reads' HO211.out).2.2); (case side2 => exact (Mz.Z_reads' HO211.out).2.1); rintro e w50 ⟨v214, rfl, ho0, hb⟩; refine ⟨_, rfl, ?_⟩; obtain ⟨z51, hz51⟩ := MWords.mp_size hb; have HO215 := mS (Kd.S_lower (Kd.S_new' (Kd.S_new' (Kd.S_new' (MWords.mp_geS ho0 hz51) (Kd.S_lt (mSd HO_3.out))) (Kd.S_lt (mSd HO_6.out))) (Mz.Z_lt (by (with_reducible repeat (first | apply Mz.Z_alloc | apply Mz.Z_drewN | apply Mz.Z_drew)); exact HO211.out))) (below_size (mH HB.out))); replace HO_3 := mS (MWords.mp_ltS (Kd.S_told (Kd.S_old (mSd HO_3.out) hb) (Kd.S_base ho0)) hz51); replace HO_6 := mS (MWords.mp_ltS (Kd.S_told (Kd.S_old (mSd HO_6.out) hb) (Kd.S_base ho0)) hz51); replace HO211 := mS (Mz.Z_below (by (with_reducible repeat (first | apply Mz.Z_alloc | apply Mz.Z_drewN | apply Mz.Z_drew)); exact HO211.out) hb); replace HB := mS (below_step (mH HB.out) hb); (try clear hb); (try clear ho0)))
           (try simp only [Act.put, zA, zB, zC])
           go_cut [84] (fun v84 wc => ∃ (kq : Nat) (x84_44 : Bool), v84 = .bool x84_44 ∧ Aside0 (laws_FnExactRecords.j2 kq t207 t206 x84_44 = some r) ∧ Aside0 (kq ≤ kj26) ∧ Aside0 (Kd.S (Mz.kz 5) 22 wc w.heap.size (fun k_ => z15 ≤ k_ ∧ k_ < z51) (.slice Ao46 t194.length co46) t207) ∧ Aside0 (Below w.heap.size w wc))
           case first =>
            have H := HC45.out
            clear HC45
            replace H := Option.bind_eq_some_iff.mp H
            obtain ⟨t216, A520, H⟩ := H
            replace H : (if t216 = true then (laws_FnExactRecords.j2 kj26 t207 t206 (t213 != t188)) else (laws_FnExactRecords.j2 kj26 t207 t206 true)) = some r := H
            have A52 := mS A520
            clear A520
            by_cases c53 : t216 = true
            ·subst c53
             have H1 := H
             rw [if_pos rfl] at H1
             clear H
             have H := H1
             clear H1
             have H' := mS H
             clear H
             obtain ⟨Ao54, co54, eo54⟩ := Kd.S_slice HO215.out
             subst eo54
             obtain ⟨Ao55, co55, eo55⟩ := Kd.S_slice HO_3.out
             subst eo55
             go_wp2_with (first | ((with_reducible refine gate_callee (f := 15) rfl ?_); refine mGo 78 Try.func15 #[.slice Ao54 t212.length co54, .slice Ao55 t187.length co55] ?_; (with_reducible refine (laws_eqByteSS.calls kj26 _ _ t212 _ _ t187 true _ ?side1 ?side2 ?side3 ?side4 A52.out).mono ?_); (case side1 => exact mC (Mz.S_C (Kd.S_reads' HO215.out).2.2)); (case side2 => exact (Kd.S_reads' HO215.out).2.1); (case side3 => exact mC (Mz.S_C (Kd.S_reads' HO_3.out).2.2)); (case side4 => exact (Kd.S_reads' HO_3.out).2.1); rintro e w' ⟨rfl, ⟨nd, rfl⟩⟩; refine ⟨_, rfl, ?_⟩))
             go_meet
             case rel => exact ⟨_, ((t213 != t188)), mE, H', ⟨by have := HJ6.out; have := HJ26.out; first | omega | exact Nat.le_refl _⟩, ⟨by refine mSd ?_; exact Kd.S_mono HO_6.out (fun _ hk => ⟨hk.1.1.1.2, hk.2⟩)⟩, ⟨(mH HB.out)⟩⟩
            ·replace c53 := Bool.eq_false_iff.mpr c53
             subst c53
             have H1 := H
             rw [if_neg (show ¬ (false = true) by decide)] at H1
             clear H
             have H := H1
             clear H1
             have H' := mS H
             clear H
             obtain ⟨Ao56, co56, eo56⟩ := Kd.S_slice HO215.out
             subst eo56
             obtain ⟨Ao57, co57, eo57⟩ := Kd.S_slice HO_3.out
             subst eo57
             go_wp2_with (first | ((with_reducible refine gate_callee (f := 15) rfl ?_); refine mGo 78 Try.func15 #[.slice Ao56 t212.length co56, .slice Ao57 t187.length co57] ?_; (with_reducible refine (laws_eqByteSS.calls kj26 _ _ t212 _ _ t187 false _ ?side1 ?side2 ?side3 ?side4 A52.out).mono ?_); (case side1 => exact mC (Mz.S_C (Kd.S_reads' HO215.out).2.2)); (case side2 => exact (Kd.S_reads' HO215.out).2.1); (case side3 => exact mC (Mz.S_C (Kd.S_reads' HO_3.out).2.2)); (case side4 => exact (Kd.S_reads' HO_3.out).2.1); rintro e w' ⟨rfl, ⟨nd, rfl⟩⟩; refine ⟨_, rfl, ?_⟩))
             go_meet
             case rel => exact ⟨_, (true), mE, H', ⟨by have := HJ6.out; have := HJ26.out; first | omega | exact Nat.le_refl _⟩, ⟨by refine mSd ?_; exact Kd.S_mono HO_6.out (fun _ hk => ⟨hk.1.1.1.2, hk.2⟩)⟩, ⟨(mH HB.out)⟩⟩
           case rest =>
            clear HC45
            try clear c1
            try clear c2
            try clear c2b0
            try clear c2b1
            try clear p2
            try clear c3
            try clear c4
            try clear c5
            try clear c8
            try clear c10
            try clear c11
            try clear c13
            try clear c14
            try clear c15
            try clear c16
            try clear c17
            try clear c22
            try clear c25
            try clear c31
            try clear c31b0
            try clear c33
            try clear c38
            try clear c41
            try clear c41b0
            try clear c42
            try clear c42b0
            try clear c42b1
            try clear c53
            try clear p2
            obtain ⟨kq, x84_44, rfl, HA, HJ44, HO_6, HB⟩ := hcut
            have hl6_44 := (Kd.S_reads' HO_6.out).1
            rw [hl6_44] at HO_6
            (try simp only [hl6_44])
            cases kq with
            | zero => exact absurd HA.out (by simp [laws_FnExactRecords.j2])
            | succ kj44 =>
             have H := HA.out
             clear HA
             simp only [laws_FnExactRecords.j2] at H
             by_cases c58 : x84_44 = true
             ·subst c58
              have H1 := H
              rw [if_pos rfl] at H1
              clear H
              have H := H1
              clear H1
              exact absurd ((Option.some.inj H).trans ht_) (by decide)
             ·replace c58 := Bool.eq_false_iff.mpr c58
              subst c58
              have H1 := H
              rw [if_neg (show ¬ (false = true) by decide)] at H1
              clear H
              have H := H1
              clear H1
              replace H := Option.bind_eq_some_iff.mp H
              obtain ⟨t217, A590, H⟩ := H
              replace H : (if t217 < 0 then (some false) else (if t217 = t206 then (some true) else (some false))) = some r := H
              have A59 := mS A590
              clear A590
              by_cases c60 : t217 < 0
              ·rw [if_pos c60] at H
               have c60b0 := decide_eq_true c60
               clear c60
               exact absurd ((Option.some.inj H).trans ht_) (by decide)
              ·rw [if_neg c60] at H
               have c60b0 := decide_eq_false c60
               clear c60
               by_cases c61 : t217 = t206
               ·rw [if_pos c61] at H
                have c61b0 : (t217 == t206) = true := beq_iff_eq.mpr c61
                have c61b1 : (t217 != t206) = false := bne_eq_false_iff_eq.mpr c61
                clear c61
                obtain rfl := Option.some.inj H
                go_wp2_with (first | ((with_reducible refine gate_callee (f := 17) rfl ?_); refine mGo 87 Try.func17 #[.slice Ao46 t207.length co46, .int .i64 1] ?_; (with_reducible refine (laws_heldByteSS.calls kj44 _ _ t207 1 t217 _ ?side1 ?side2 A59.out).mono ?_); (case side1 => exact mC (Mz.S_C (Kd.S_reads' HO_6.out).2.2)); (case side2 => exact (Kd.S_reads' HO_6.out).2.1); rintro e w' ⟨rfl, ⟨nd, rfl⟩⟩; refine ⟨_, rfl, ?_⟩))
                go_ret
                exact ⟨mEw, (mH HB.out)⟩
               ·rw [if_neg c61] at H
                have c61b0 : (t217 == t206) = false := beq_eq_false_iff_ne.mpr c61
                have c61b1 : (t217 != t206) = true := bne_iff_ne.mpr c61
                exact absurd ((Option.some.inj H).trans ht_) (by decide)
          ·rw [if_neg c42] at H
           have c42b0 : (t208 == t206) = false := beq_eq_false_iff_ne.mpr c42
           have c42b1 : (t208 != t206) = true := bne_iff_ne.mpr c42
           exact absurd ((Option.some.inj H).trans ht_) (by decide)
     ·replace c25 := Bool.eq_false_iff.mpr c25
      subst c25
      have H1 := H
      rw [if_neg (show ¬ (false = true) by decide)] at H1
      clear H
      have H := H1
      clear H1
      exact absurd ((Option.some.inj H).trans ht_) (by decide)

end Go.Proofs.Ytecjamgajlpfdaa.MFnExactRecords
