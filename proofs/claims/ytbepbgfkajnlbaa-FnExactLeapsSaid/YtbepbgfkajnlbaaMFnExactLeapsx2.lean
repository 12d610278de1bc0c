-- Written by mp.py, this session's own printer (wip/mp.py).
import Derived.Test.YtbepbgfkajnlbaaVMShort
import Derived.Test.YtbepbgfkajnlbaaMFnExactLeapsx0
namespace Go.Proofs.Ytbepbgfkajnlbaa.MFnExactLeaps
open Go.RowKit Go.Proofs.YtbepbgfkajnlbaaW.PrintWords Go.Proofs.YtbepbgfkajnlbaaW.PrintLast Go.Proofs.YtbepbgfkajnlbaaW.PrintMore Go.Proofs.Ytbepbgfkajnlbaa.MWords
attribute [local go_sem] max2_int min2_int max_two min_two max_three min_three max_four min_four   -- for this text's walks alone
set_option linter.unusedVariables false
set_option linter.unusedSimpArgs false

/-! ### laws_szPair: function 51 -/
def laws_szPair.f (a0_0 : ByteArray) (a0_1 : ByteArray) (a0_2 : Bool) (a1 : Int) : Option (Int) := if (wrap64 (a1 - (a0_0.size : Int))) < 0 then (some (-1)) else (if (wrap64 ((wrap64 (a1 - (a0_0.size : Int))) - (a0_1.size : Int))) < 0 then (some (-1)) else (some (wrap64 ((wrap64 (a1 - (a0_0.size : Int))) - (a0_1.size : Int)))))
set_option maxHeartbeats 8000000 in
set_option maxRecDepth 100000 in
theorem laws_szPair.calls (a0_0 : ByteArray) (a0_1 : ByteArray) (a0_2 : Bool) (a1 : Int) (r : Int) (w : World) (h : laws_szPair.f a0_0 a0_1 a0_2 a1 = some r) :
  Calls Try.prog 51 #[.agg #[.string a0_0, .string a0_1, .bool a0_2], .int .i64 a1] w fun e w' => e = .returned (.int .i64 r) ∧ Below w.heap.size w w' := by
 have hu84 := Try.underlying84
 have HB := mS (Below.refl w.heap.size w)
 have H : (if (wrap64 (a1 - (a0_0.size : Int))) < 0 then (some (-1)) else (if (wrap64 ((wrap64 (a1 - (a0_0.size : Int))) - (a0_1.size : Int))) < 0 then (some (-1)) else (some (wrap64 ((wrap64 (a1 - (a0_0.size : Int))) - (a0_1.size : Int)))))) = some r := h
 clear h
 by_cases c3 : (wrap64 (a1 - (a0_0.size : Int))) < 0
 ·rw [if_pos c3] at H
  have c3b0 := decide_eq_true c3
  clear c3
  obtain rfl := Option.some.inj H
  go_enter Try.func51, Try.ntmps51
  go_wp2_with (first | ((with_reducible refine gate_dst (N := 2) rfl ?_); refine mBx 2 #[.string a0_0, .string a0_1, .bool a0_2] 84 ?_; intro gb106 hg w4 hbox hb; have BK106 := mS (hbox); have GW106 := mG hg (mH HB.out); have GE106 := mG hg (mH HB.out); replace HB := mS (below_step (mH HB.out) hb); clear hb hbox hg; obtain ⟨hcz5_0, hcz5_1, hcz5_2, hfz5_0, hfz5_1, hfz5_2⟩ := mZ3 BK106.out))
  go_ret
  exact ⟨mEw, (mH1 HB.out GE106.out)⟩
 ·rw [if_neg c3] at H
  have c3b0 := decide_eq_false c3
  clear c3
  by_cases c6 : (wrap64 ((wrap64 (a1 - (a0_0.size : Int))) - (a0_1.size : Int))) < 0
  ·rw [if_pos c6] at H
   have c6b0 := decide_eq_true c6
   clear c6
   obtain rfl := Option.some.inj H
   go_enter Try.func51, Try.ntmps51
   go_wp2_with (first | ((with_reducible refine gate_dst (N := 2) rfl ?_); refine mBx 2 #[.string a0_0, .string a0_1, .bool a0_2] 84 ?_; intro gb106 hg w7 hbox hb; have BK106 := mS (hbox); have GW106 := mG hg (mH HB.out); have GE106 := mG hg (mH HB.out); replace HB := mS (below_step (mH HB.out) hb); clear hb hbox hg; obtain ⟨hcz8_0, hcz8_1, hcz8_2, hfz8_0, hfz8_1, hfz8_2⟩ := mZ3 BK106.out))
   go_ret
   exact ⟨mEw, (mH1 HB.out GE106.out)⟩
  ·rw [if_neg c6] at H
   have c6b0 := decide_eq_false c6
   clear c6
   obtain rfl := Option.some.inj H
   go_enter Try.func51, Try.ntmps51
   go_wp2_with (first | ((with_reducible refine gate_dst (N := 2) rfl ?_); refine mBx 2 #[.string a0_0, .string a0_1, .bool a0_2] 84 ?_; intro gb106 hg w9 hbox hb; have BK106 := mS (hbox); have GW106 := mG hg (mH HB.out); have GE106 := mG hg (mH HB.out); replace HB := mS (below_step (mH HB.out) hb); clear hb hbox hg; obtain ⟨hcz10_0, hcz10_1, hcz10_2, hfz10_0, hfz10_1, hfz10_2⟩ := mZ3 BK106.out))
   go_ret
   exact ⟨mEw, (mH1 HB.out GE106.out)⟩

/-! ### laws_szNode: function 152 -/
def laws_szNode.f (a0_0 : ByteArray) (a0_1 : ByteArray) (a0_2 : Bool) (a0_3 : Int) (a1 : Int) : Option (Int) := (laws_szPair.f a0_0 a0_1 a0_2 a1).bind fun t108 => (if t108 < 0 then (some (-1)) else (some t108))
set_option maxHeartbeats 8000000 in
set_option maxRecDepth 100000 in
theorem laws_szNode.calls (a0_0 : ByteArray) (a0_1 : ByteArray) (a0_2 : Bool) (a0_3 : Int) (a1 : Int) (r : Int) (w : World) (h : laws_szNode.f a0_0 a0_1 a0_2 a0_3 a1 = some r) :
  Calls Try.prog 152 #[.agg #[.string a0_0, .string a0_1, .bool a0_2, .int .i64 a0_3], .int .i64 a1] w fun e w' => e = .returned (.int .i64 r) ∧ Below w.heap.size w w' := by
 have hu191 := Try.underlying191
 have hu84 := Try.underlying84
 have HB := mS (Below.refl w.heap.size w)
 have H : ((laws_szPair.f a0_0 a0_1 a0_2 a1).bind fun t108 => (if t108 < 0 then (some (-1)) else (some t108))) = some r := h
 clear h
 replace H := Option.bind_eq_some_iff.mp H
 obtain ⟨t108, A30, H⟩ := H
 replace H : (if t108 < 0 then (some (-1)) else (some t108)) = some r := H
 have A3 := mS A30
 clear A30
 by_cases c4 : t108 < 0
 ·rw [if_pos c4] at H
  have c4b0 := decide_eq_true c4
  clear c4
  obtain rfl := Option.some.inj H
  go_enter Try.func152, Try.ntmps152
  go_wp2_with (first | ((with_reducible refine gate_dst (N := 2) rfl ?_); refine mBx 2 #[.string a0_0, .string a0_1, .bool a0_2, .int .i64 a0_3] 191 ?_; intro gb107 hg w5 hbox hb; have BK107 := mS (hbox); have GW107 := mG hg (mH HB.out); have GE107 := mG hg (mH HB.out); replace HB := mS (below_step (mH HB.out) hb); clear hb hbox hg; obtain ⟨hcz6_0, hcz6_1, hcz6_2, hcz6_3, hfz6_0, hfz6_1, hfz6_2, hfz6_3⟩ := mZ4 BK107.out) | ((with_reducible refine gate_callee (f := 51) rfl ?_); refine mGo 8 Try.func51 #[.agg #[.string a0_0, .string a0_1, .bool a0_2], .int .i64 a1] ?_; (with_reducible refine (laws_szPair.calls a0_0 a0_1 a0_2 a1 t108 _ A3.out).mono ?_); rintro e w7 ⟨rfl, hb⟩; refine ⟨_, rfl, ?_⟩; replace BK107 := mB BK107 hb; replace HB := mS (below_step (mH1 HB.out GE107.out) hb); (try clear hb)))
  go_ret
  exact ⟨mEw, (mH1 HB.out GE107.out)⟩
 ·rw [if_neg c4] at H
  have c4b0 := decide_eq_false c4
  clear c4
  obtain rfl := Option.some.inj H
  go_enter Try.func152, Try.ntmps152
  go_wp2_with (first | ((with_reducible refine gate_dst (N := 2) rfl ?_); refine mBx 2 #[.string a0_0, .string a0_1, .bool a0_2, .int .i64 a0_3] 191 ?_; intro gb107 hg w8 hbox hb; have BK107 := mS (hbox); have GW107 := mG hg (mH HB.out); have GE107 := mG hg (mH HB.out); replace HB := mS (below_step (mH HB.out) hb); clear hb hbox hg; obtain ⟨hcz9_0, hcz9_1, hcz9_2, hcz9_3, hfz9_0, hfz9_1, hfz9_2, hfz9_3⟩ := mZ4 BK107.out) | ((with_reducible refine gate_callee (f := 51) rfl ?_); refine mGo 8 Try.func51 #[.agg #[.string a0_0, .string a0_1, .bool a0_2], .int .i64 a1] ?_; (with_reducible refine (laws_szPair.calls a0_0 a0_1 a0_2 a1 t108 _ A3.out).mono ?_); rintro e w10 ⟨rfl, hb⟩; refine ⟨_, rfl, ?_⟩; replace BK107 := mB BK107 hb; replace HB := mS (below_step (mH1 HB.out GE107.out) hb); (try clear hb)))
  go_ret
  exact ⟨mEw, (mH1 HB.out GE107.out)⟩

/-! ### laws_szNodeS: function 102 -/
def laws_szNodeS.l0 : Nat → List (S191) → Int → Int → Option (Int)
 | 0, _, _, _ => none
 | k + 1, x0, x1, x5 => if x5 < (x0.length : Int) then (if 0 ≤ x5 then ((laws_szNode.f ((rd_T191 x0 x5).f0.f0) ((rd_T191 x0 x5).f0.f1) ((rd_T191 x0 x5).f0.f2) ((rd_T191 x0 x5).f1) x1).bind fun t110 => (if t110 < 0 then (some (-1)) else (laws_szNodeS.l0 k x0 t110 (wrap64 (x5 + 1))))) else (none)) else (some x1)
def laws_szNodeS.f (k : Nat) (l0 : List (S191)) (a1 : Int) : Option (Int) := if (wrap64 (a1 - (l0.length : Int))) < 0 then (some (-1)) else (laws_szNodeS.l0 k l0 (wrap64 (a1 - (l0.length : Int))) 0)
theorem laws_szNodeS.mono_l : ∀ k, (∀ y0 y1 y2, LeO (laws_szNodeS.l0 k y0 y1 y2) (laws_szNodeS.l0 (k + 1) y0 y1 y2))
 | 0 => fun _ _ _ r h => by simp [laws_szNodeS.l0] at h
 | k + 1 => by
  have ih0 := laws_szNodeS.mono_l k
  ·intro y0 y1 y2
   unfold laws_szNodeS.l0
   repeat' first
   | (with_reducible exact ih0 _ _ _)
   | (with_reducible exact LeO.refl _)
   | (with_reducible exact LeO.none _)
   | (with_reducible refine LeO.ite ?_ ?_)
   | (with_reducible refine LeO.bind ?_ (fun _ => ?_))
   | exact ih0 _ _ _
   | exact LeO.none _
   | refine LeO.ite ?_ ?_
   | refine LeO.bind ?_ (fun _ => ?_)
theorem laws_szNodeS.mono : ∀ a0 a1 k, LeO (laws_szNodeS.f k a0 a1) (laws_szNodeS.f (k + 1) a0 a1) := by
 intro a0 a1 k
 have ih0 := laws_szNodeS.mono_l k
 unfold laws_szNodeS.f
 repeat' first
   | (with_reducible exact ih0 _ _ _)
   | (with_reducible exact LeO.refl _)
   | (with_reducible exact LeO.none _)
   | (with_reducible refine LeO.ite ?_ ?_)
   | (with_reducible refine LeO.bind ?_ (fun _ => ?_))
   | exact ih0 _ _ _
   | exact LeO.none _
   | refine LeO.ite ?_ ?_
   | refine LeO.bind ?_ (fun _ => ?_)
set_option maxHeartbeats 8000000 in
set_option maxRecDepth 100000 in
theorem laws_szNodeS.calls (k : Nat) (A0 : Option Addr) (c0 : Nat) (l0 : List (S191)) (a1 : Int) (r : Int) (w : World) (hr0 : Kd.C k191 w A0 l0.length l0) (hc0 : l0.length ≤ c0) (h : laws_szNodeS.f k l0 a1 = some r) :
  Calls Try.prog 102 #[.slice A0 l0.length c0, .int .i64 a1] w fun e w' => e = .returned (.int .i64 r) ∧ Below w.heap.size w w' := by
 have hu191 := Try.underlying191
 have HR0 := mS hr0
 have HC0 := mS hc0
 clear hr0 hc0
 have HB := mS (Below.refl w.heap.size w)
 have H : (if (wrap64 (a1 - (l0.length : Int))) < 0 then (some (-1)) else (laws_szNodeS.l0 k l0 (wrap64 (a1 - (l0.length : Int))) 0)) = some r := h
 clear h
 by_cases c3 : (wrap64 (a1 - (l0.length : Int))) < 0
 ·rw [if_pos c3] at H
  have c3b0 := decide_eq_true c3
  clear c3
  obtain rfl := Option.some.inj H
  go_enter Try.func102, Try.ntmps102
  go_wp2
  go_ret
  exact ⟨mEw, (mH HB.out)⟩
 ·rw [if_neg c3] at H
  have c3b0 := decide_eq_false c3
  clear c3
  have H' := mS H
  clear H
  go_enter Try.func102, Try.ntmps102
  go_wp2
  go_loopg [1, 5] k (fun kq v1 v5 w' => ∃ (x1_1 : Int) (x5_1 : Int), v1 = .int .i64 x1_1 ∧ v5 = .int .i64 x5_1 ∧ Aside0 (laws_szNodeS.l0 kq l0 x1_1 x5_1 = some r) ∧ Aside0 (kq ≤ k) ∧ Aside0 (Below w.heap.size w w'))
  case atStart => exact ⟨(wrap64 (a1 - (l0.length : Int))), (0), mE, mE, H', ⟨Nat.le_refl _⟩, ⟨(mH HB.out)⟩⟩
  case round =>
   clear H'
   try clear c1
   try clear p2
   try clear c3
   try clear c3b0
   obtain ⟨x1_1, x5_1, rfl, rfl, HA, HK1, HB⟩ := hrel
   cases gk with
   | zero => exact absurd HA.out (by simp [laws_szNodeS.l0])
   | succ k1 =>
    have H := HA.out
    clear HA
    simp only [laws_szNodeS.l0] at H
    by_cases c4 : x5_1 < (l0.length : Int)
    ·rw [if_pos c4] at H
     have c4b0 := decide_eq_true c4
     clear c4
     by_cases c5 : 0 ≤ x5_1
     ·rw [if_pos c5] at H
      have c5b0 := decide_eq_true c5
      clear c5
      replace H := Option.bind_eq_some_iff.mp H
      obtain ⟨t110, A60, H⟩ := H
      replace H : (if t110 < 0 then (some (-1)) else (laws_szNodeS.l0 k1 l0 t110 (wrap64 (x5_1 + 1)))) = some r := H
      have A6 := mS A60
      clear A60
      by_cases c7 : t110 < 0
      ·rw [if_pos c7] at H
       have c7b0 := decide_eq_true c7
       clear c7
       obtain rfl := Option.some.inj H
       have p109 : 0 ≤ (x5_1 : Int) := mD
       have q109 : x5_1 < (l0.length : Int) := mD
       obtain ⟨ad109, e109, hx109_0, hx109_1, hx109_2, hx109_3⟩ := at_T191 HR0.out x5_1 p109 q109
       cases e109
       replace hx109_0 := mX HB.out hx109_0
       replace hx109_1 := mX HB.out hx109_1
       replace hx109_2 := mX HB.out hx109_2
       replace hx109_3 := mX HB.out hx109_3
       replace p109 := eq_true p109
       replace q109 := eq_true q109
       go_wp2_with (first | ((with_reducible refine gate_callee (f := 152) rfl ?_); refine mGo 23 Try.func152 #[.agg #[.string ((rd_T191 l0 x5_1).f0.f0), .string ((rd_T191 l0 x5_1).f0.f1), .bool ((rd_T191 l0 x5_1).f0.f2), .int .i64 ((rd_T191 l0 x5_1).f1)], .int .i64 x1_1] ?_; (with_reducible refine (laws_szNode.calls ((rd_T191 l0 x5_1).f0.f0) ((rd_T191 l0 x5_1).f0.f1) ((rd_T191 l0 x5_1).f0.f2) ((rd_T191 l0 x5_1).f1) x1_1 t110 _ A6.out).mono ?_); rintro e w8 ⟨rfl, hb⟩; refine ⟨_, rfl, ?_⟩; replace HB := mS (below_step (mH HB.out) hb); (try clear hb)))
       go_ret
       exact ⟨mEw, (mH HB.out)⟩
      ·rw [if_neg c7] at H
       have c7b0 := decide_eq_false c7
       clear c7
       have H' := mS H
       clear H
       have p109 : 0 ≤ (x5_1 : Int) := mD
       have q109 : x5_1 < (l0.length : Int) := mD
       obtain ⟨ad109, e109, hx109_0, hx109_1, hx109_2, hx109_3⟩ := at_T191 HR0.out x5_1 p109 q109
       cases e109
       replace hx109_0 := mX HB.out hx109_0
       replace hx109_1 := mX HB.out hx109_1
       replace hx109_2 := mX HB.out hx109_2
       replace hx109_3 := mX HB.out hx109_3
       replace p109 := eq_true p109
       replace q109 := eq_true q109
       go_wp2_with (first | ((with_reducible refine gate_callee (f := 152) rfl ?_); refine mGo 23 Try.func152 #[.agg #[.string ((rd_T191 l0 x5_1).f0.f0), .string ((rd_T191 l0 x5_1).f0.f1), .bool ((rd_T191 l0 x5_1).f0.f2), .int .i64 ((rd_T191 l0 x5_1).f1)], .int .i64 x1_1] ?_; (with_reducible refine (laws_szNode.calls ((rd_T191 l0 x5_1).f0.f0) ((rd_T191 l0 x5_1).f0.f1) ((rd_T191 l0 x5_1).f0.f2) ((rd_T191 l0 x5_1).f1) x1_1 t110 _ A6.out).mono ?_); rintro e w9 ⟨rfl, hb⟩; refine ⟨_, rfl, ?_⟩; replace HB := mS (below_step (mH HB.out) hb); (try clear hb)))
       go_roundg k1
       case measure => have := HK1.out; omega
       case rel => exact ⟨(t110), (wrap64 (x5_1 + 1)), mE, mE, H', ⟨by have := HK1.out; omega⟩, ⟨(mH HB.out)⟩⟩
     ·rw [if_neg c5] at H
      exact absurd H (by simp)
    ·rw [if_neg c4] at H
     have c4b0 := decide_eq_false c4
     clear c4
     obtain rfl := Option.some.inj H
     go_wp2
     go_ret
     exact ⟨mEw, (mH HB.out)⟩

/-! ### laws_szMem: function 46 -/
def laws_szMem.f (k : Nat) (l0_0 : List (S191)) (a1 : Int) : Option (Int) := (laws_szNodeS.f k l0_0 a1).bind fun t112 => (if t112 < 0 then (some (-1)) else (some t112))
theorem laws_szMem.mono : ∀ a0 a1 k, LeO (laws_szMem.f k a0 a1) (laws_szMem.f (k + 1) a0 a1) := by
 intro a0 a1 k
 unfold laws_szMem.f
 repeat' first
   | (with_reducible exact laws_szNodeS.mono _ _ _)
   | (with_reducible exact LeO.refl _)
   | (with_reducible exact LeO.none _)
   | (with_reducible refine LeO.ite ?_ ?_)
   | (with_reducible refine LeO.bind ?_ (fun _ => ?_))
   | exact laws_szNodeS.mono _ _ _
   | exact LeO.none _
   | refine LeO.ite ?_ ?_
   | refine LeO.bind ?_ (fun _ => ?_)
set_option maxHeartbeats 8000000 in
set_option maxRecDepth 100000 in
theorem laws_szMem.calls (k : Nat) (A0_0 : Option Addr) (c0_0 : Nat) (l0_0 : List (S191)) (a1 : Int) (r : Int) (w : World) (hr0_0 : Kd.C k191 w A0_0 l0_0.length l0_0) (hc0_0 : l0_0.length ≤ c0_0) (h : laws_szMem.f k l0_0 a1 = some r) :
  Calls Try.prog 46 #[.agg #[.slice A0_0 l0_0.length c0_0], .int .i64 a1] w fun e w' => e = .returned (.int .i64 r) ∧ Below w.heap.size w w' := by
 have hu78 := Try.underlying78
 have HR0_0 := mS hr0_0
 have HC0_0 := mS hc0_0
 clear hr0_0 hc0_0
 have HB := mS (Below.refl w.heap.size w)
 have H : ((laws_szNodeS.f k l0_0 a1).bind fun t112 => (if t112 < 0 then (some (-1)) else (some t112))) = some r := h
 clear h
 replace H := Option.bind_eq_some_iff.mp H
 obtain ⟨t112, A30, H⟩ := H
 replace H : (if t112 < 0 then (some (-1)) else (some t112)) = some r := H
 have A3 := mS A30
 clear A30
 by_cases c4 : t112 < 0
 ·rw [if_pos c4] at H
  have c4b0 := decide_eq_true c4
  clear c4
  obtain rfl := Option.some.inj H
  go_enter Try.func46, Try.ntmps46
  go_wp2_with (first | ((with_reducible refine gate_dst (N := 2) rfl ?_); refine mBx 2 #[.slice A0_0 l0_0.length c0_0] 78 ?_; intro gb111 hg w5 hbox hb; have BK111 := mS (hbox); have GW111 := mG hg (mH HB.out); have GE111 := mG hg (mH HB.out); replace HB := mS (below_step (mH HB.out) hb); clear hb hbox hg; have hcz6_0 := mZ BK111.out 0; have hfz6_0 := blk_frozen BK111.out 0) | ((with_reducible refine gate_callee (f := 102) rfl ?_); refine mGo 8 Try.func102 #[.slice A0_0 l0_0.length c0_0, .int .i64 a1] ?_; (with_reducible refine (laws_szNodeS.calls k _ _ l0_0 a1 t112 _ ?side1 ?side2 A3.out).mono ?_); (case side1 => exact mC (Kd.C_below HR0_0.out HB.out)); (case side2 => exact HC0_0.out); rintro e w7 ⟨rfl, hb⟩; refine ⟨_, rfl, ?_⟩; replace BK111 := mB BK111 hb; replace HB := mS (below_step (mH1 HB.out GE111.out) hb); (try clear hb)))
  go_ret
  exact ⟨mEw, (mH1 HB.out GE111.out)⟩
 ·rw [if_neg c4] at H
  have c4b0 := decide_eq_false c4
  clear c4
  obtain rfl := Option.some.inj H
  go_enter Try.func46, Try.ntmps46
  go_wp2_with (first | ((with_reducible refine gate_dst (N := 2) rfl ?_); refine mBx 2 #[.slice A0_0 l0_0.length c0_0] 78 ?_; intro gb111 hg w8 hbox hb; have BK111 := mS (hbox); have GW111 := mG hg (mH HB.out); have GE111 := mG hg (mH HB.out); replace HB := mS (below_step (mH HB.out) hb); clear hb hbox hg; have hcz9_0 := mZ BK111.out 0; have hfz9_0 := blk_frozen BK111.out 0) | ((with_reducible refine gate_callee (f := 102) rfl ?_); refine mGo 8 Try.func102 #[.slice A0_0 l0_0.length c0_0, .int .i64 a1] ?_; (with_reducible refine (laws_szNodeS.calls k _ _ l0_0 a1 t112 _ ?side1 ?side2 A3.out).mono ?_); (case side1 => exact mC (Kd.C_below HR0_0.out HB.out)); (case side2 => exact HC0_0.out); rintro e w10 ⟨rfl, hb⟩; refine ⟨_, rfl, ?_⟩; replace BK111 := mB BK111 hb; replace HB := mS (below_step (mH1 HB.out GE111.out) hb); (try clear hb)))
  go_ret
  exact ⟨mEw, (mH1 HB.out GE111.out)⟩

/-! ### spec_Leaps: function 47 -/
mutual
def spec_Leaps.l0 : Nat → ByteArray → List Int → Int → Int → List (S35) → Option (List Int)
 | 0, _, _, _, _, _ => none
 | k + 1, x1, x5, x6, x7, x114000 => if x7 > 0 then (spec_Leaps.l1 k x1 x5 x6 x7 (wrap64 (x6 + 1)) x114000) else (some x5)
def spec_Leaps.l1 : Nat → ByteArray → List Int → Int → Int → Int → List (S35) → Option (List Int)
 | 0, _, _, _, _, _, _ => none
 | k + 1, x1, x5, x6, x7, x8, x114000 => if x8 < (x114000.length : Int) then (if 0 ≤ x8 then (if ((rd_T35 x114000 x8).f1) < x7 then (spec_Leaps.l1 k x1 x5 x6 x7 (wrap64 (x8 + 1)) x114000) else (if ((Op.bytesLess (((rd_T35 x114000 x8).f0.f0).toList) x1.toList) = true) then (if x5.length < 17592186044416 then (spec_Leaps.l1 k x1 (x5 ++ [x8]) x8 x7 (wrap64 (x8 + 1)) x114000) else (none)) else (spec_Leaps.l0 k x1 x5 x6 (wrap64 (x7 - 1)) x114000))) else (none)) else (spec_Leaps.l0 k x1 x5 x6 (wrap64 (x7 - 1)) x114000)
end
def spec_Leaps.f (k : Nat) (l0_0 : List (S35)) (a1 : ByteArray) : Option (List Int) := spec_Leaps.l0 k a1 (([] : List Int)) (-1) 4 l0_0
theorem spec_Leaps.mono_l : ∀ k, (∀ y0 y1 y2 y3 y4, LeO (spec_Leaps.l0 k y0 y1 y2 y3 y4) (spec_Leaps.l0 (k + 1) y0 y1 y2 y3 y4)) ∧ (∀ y0 y1 y2 y3 y4 y5, LeO (spec_Leaps.l1 k y0 y1 y2 y3 y4 y5) (spec_Leaps.l1 (k + 1) y0 y1 y2 y3 y4 y5))
 | 0 => ⟨fun _ _ _ _ _ r h => by simp [spec_Leaps.l0] at h, fun _ _ _ _ _ _ r h => by simp [spec_Leaps.l1] at h⟩
 | k + 1 => by
  obtain ⟨ih0, ih1⟩ := spec_Leaps.mono_l k
  refine ⟨?_, ?_⟩
  ·intro y0 y1 y2 y3 y4
   unfold spec_Leaps.l0
   repeat' first
   | (with_reducible exact ih0 _ _ _ _ _)
   | (with_reducible exact ih1 _ _ _ _ _ _)
   | (with_reducible exact LeO.refl _)
   | (with_reducible exact LeO.none _)
   | (with_reducible refine LeO.ite ?_ ?_)
   | (with_reducible refine LeO.bind ?_ (fun _ => ?_))
   | exact ih0 _ _ _ _ _
   | exact ih1 _ _ _ _ _ _
   | exact LeO.none _
   | refine LeO.ite ?_ ?_
   | refine LeO.bind ?_ (fun _ => ?_)
  ·intro y0 y1 y2 y3 y4 y5
   unfold spec_Leaps.l1
   repeat' first
   | (with_reducible exact ih0 _ _ _ _ _)
   | (with_reducible exact ih1 _ _ _ _ _ _)
   | (with_reducible exact LeO.refl _)
   | (with_reducible exact LeO.none _)
   | (with_reducible refine LeO.ite ?_ ?_)
   | (with_reducible refine LeO.bind ?_ (fun _ => ?_))
   | exact ih0 _ _ _ _ _
   | exact ih1 _ _ _ _ _ _
   | exact LeO.none _
   | refine LeO.ite ?_ ?_
   | refine LeO.bind ?_ (fun _ => ?_)
theorem spec_Leaps.mono : ∀ a0 a1 k, LeO (spec_Leaps.f k a0 a1) (spec_Leaps.f (k + 1) a0 a1) := by
 intro a0 a1 k
 obtain ⟨ih0, ih1⟩ := spec_Leaps.mono_l k
 unfold spec_Leaps.f
 repeat' first
   | (with_reducible exact ih0 _ _ _ _ _)
   | (with_reducible exact ih1 _ _ _ _ _ _)
   | (with_reducible exact LeO.refl _)
   | (with_reducible exact LeO.none _)
   | (with_reducible refine LeO.ite ?_ ?_)
   | (with_reducible refine LeO.bind ?_ (fun _ => ?_))
   | exact ih0 _ _ _ _ _
   | exact ih1 _ _ _ _ _ _
   | exact LeO.none _
   | refine LeO.ite ?_ ?_
   | refine LeO.bind ?_ (fun _ => ?_)
set_option maxHeartbeats 8000000 in
set_option maxRecDepth 100000 in
theorem spec_Leaps.calls (k : Nat) (A0_0 : Option Addr) (c0_0 : Nat) (l0_0 : List (S35)) (a1 : ByteArray) (r : List Int) (w : World) (hr0_0 : Kd.C k35 w A0_0 l0_0.length l0_0) (hc0_0 : l0_0.length ≤ c0_0) (h : spec_Leaps.f k l0_0 a1 = some r) :
  Calls Try.prog 47 #[.agg #[.slice A0_0 l0_0.length c0_0], .string a1] w fun e w' => ∃ v0_ : Value, e = .returned (v0_) ∧ Kd.R (Kd.int .i64) 3 w' w.heap.size (fun _ => True) v0_ r ∧ Below w.heap.size w w' := by
 have hu26 := Try.underlying26
 have HR0_0 := mS hr0_0
 have HC0_0 := mS hc0_0
 clear hr0_0 hc0_0
 have HB := mS (Below.refl w.heap.size w)
 have H : (spec_Leaps.l0 k a1 (([] : List Int)) (-1) 4 l0_0) = some r := h
 clear h
 obtain ⟨y114, hy114⟩ : ∃ y_ : List Int, y_ = (([] : List Int)) := ⟨_, rfl⟩
 replace H : (spec_Leaps.l0 k a1 y114 (-1) 4 l0_0) = some r := by first | (rw [hy114]; with_reducible exact H) | (have H2_ := (Option.bind_some _ _).symm.trans H; rw [hy114]; with_reducible exact H2_) | (have H2_ := (Option.bind_some _ _).symm.trans H; with_reducible exact H2_) | with_reducible exact H | (rw [hy114]; exact H) | exact H
 have Ny114 := mS hy114
 clear hy114
 have H' := mS H
 clear H
 go_enter Try.func47, Try.ntmps47
 go_wp2_with (first | ((with_reducible refine gate_dst (N := 2) rfl ?_); refine mBx 2 #[.slice A0_0 l0_0.length c0_0] 26 ?_; intro gb113 hg w3 hbox hb; have BK113 := mS (hbox); have GW113 := mG hg (mH HB.out); have GE113 := mG hg (mH HB.out); replace HB := mS (below_step (mH HB.out) hb); clear hb hbox hg) | ((with_reducible refine gate_dst (N := 9) rfl ?_); refine Kd.R_lit (Kd.int .i64) _ 3 ?hg (N := 9) ?hd (xs := ([] : List Int)) (inner := []) (ok := fun _ => True) (okp := fun _ => True) ?hr ?hp (fun _ hk => hk) trivial (Below.refl _ _) (Nat.le_refl _) (by simp) ?_; (case hd => rfl); (case hg => rfl); (case hr => first | (go_simp; done) | (go_simp; rfl)); (case hp => exact (Reps.none _ _)); intro v115 w4 ho5 hb hg_ hnew_; clear hg_ hnew_; (first | rw [← Ny114.out] at ho5 | (simp only [Int.reduceToNat] at ho5; rw [← Ny114.out] at ho5)); have HO116 := mS (Kd.R_lower ho5 (below_size (mH1 HB.out GE113.out))); replace BK113 := mB BK113 hb; replace HB := mS (below_step (mH1 HB.out GE113.out) hb); clear hb ho5))
 go_loopg [5, 6, 7] k (fun kq v5 v6 v7 w' => ∃ (x5_1 : List Int) (x6_1 : Int) (x7_1 : Int), v6 = .int .i64 x6_1 ∧ v7 = .int .i64 x7_1 ∧ Aside0 (spec_Leaps.l0 kq a1 x5_1 x6_1 x7_1 l0_0 = some r) ∧ Aside0 (kq ≤ k) ∧ Aside0 (Kd.R (Kd.int .i64) 3 w' w.heap.size (fun _ => True) v5 x5_1) ∧ Aside0 (w'.heap[gb113]? = some (.cells #[(.slice A0_0 l0_0.length c0_0)] 26 (0, 0))) ∧ Aside0 (Below w.heap.size w w'))
 case atStart => exact ⟨(y114), ((-1)), (4), mE, mE, H', ⟨Nat.le_refl _⟩, ⟨mR HO116.out⟩, ⟨mK BK113.out⟩, ⟨(mH1 HB.out GE113.out)⟩⟩
 case round =>
  clear H'
  try clear p2
  try clear c4
  obtain ⟨x5_1, x6_1, x7_1, rfl, rfl, HA, HK1, HO_5, BK113, HB⟩ := hrel
  cases gk with
  | zero => exact absurd HA.out (by simp [spec_Leaps.l0])
  | succ k1 =>
   have H := HA.out
   clear HA
   simp only [spec_Leaps.l0] at H
   by_cases c6 : x7_1 > 0
   ·rw [if_pos c6] at H
    have c6b0 : decide (0 < x7_1) = true := decide_eq_true c6
    clear c6
    have H' := mS H
    clear H
    go_wp2
    go_loopg [5, 6, 8] k1 (fun kq v5 v6 v8 w' => ∃ (x5_2 : List Int) (x6_2 : Int) (x8_2 : Int), v6 = .int .i64 x6_2 ∧ v8 = .int .i64 x8_2 ∧ Aside0 (spec_Leaps.l1 kq a1 x5_2 x6_2 x7_1 x8_2 l0_0 = some r) ∧ Aside0 (kq ≤ k1) ∧ Aside0 (Kd.R (Kd.int .i64) 3 w' w.heap.size (fun _ => True) v5 x5_2) ∧ Aside0 (w'.heap[gb113]? = some (.cells #[(.slice A0_0 l0_0.length c0_0)] 26 (0, 0))) ∧ Aside0 (Below w.heap.size w w'))
    case atStart => exact ⟨(x5_1), (x6_1), (wrap64 (x6_1 + 1)), mE, mE, H', ⟨Nat.le_refl _⟩, ⟨mR HO_5.out⟩, ⟨mK BK113.out⟩, ⟨(mH1 HB.out GE113.out)⟩⟩
    case round =>
     clear H'
     try clear p2
     try clear c4
     try clear c6
     try clear c6b0
     try clear p6
     try clear p2
     obtain ⟨x5_2, x6_2, x8_2, rfl, rfl, HA, HK2, HO_5, BK113, HB⟩ := hrel
     cases gk with
     | zero => exact absurd HA.out (by simp [spec_Leaps.l1])
     | succ k2 =>
      have H := HA.out
      clear HA
      simp only [spec_Leaps.l1] at H
      by_cases c7 : x8_2 < (l0_0.length : Int)
      ·rw [if_pos c7] at H
       have c7b0 := decide_eq_true c7
       clear c7
       by_cases c8 : 0 ≤ x8_2
       ·rw [if_pos c8] at H
        have c8b0 := decide_eq_true c8
        clear c8
        by_cases c9 : ((rd_T35 l0_0 x8_2).f1) < x7_1
        ·rw [if_pos c9] at H
         have c9b0 := decide_eq_true c9
         clear c9
         have H' := mS H
         clear H
         have hcz10_0 := mZ BK113.out 0
         have hfz10_0 := blk_frozen BK113.out 0
         have p117 : 0 ≤ (x8_2 : Int) := mD
         have q117 : x8_2 < (l0_0.length : Int) := mD
         obtain ⟨ad117, e117, hx117_0, hx117_1, hx117_2, hx117_3⟩ := at_T35 HR0_0.out x8_2 p117 q117
         cases e117
         replace hx117_0 := mX HB.out hx117_0
         replace hx117_1 := mX HB.out hx117_1
         replace hx117_2 := mX HB.out hx117_2
         replace hx117_3 := mX HB.out hx117_3
         replace p117 := eq_true p117
         replace q117 := eq_true q117
         go_wp2
         go_roundg k2
         case measure => have := HK1.out; have := HK2.out; omega
         case rel => exact ⟨(x5_2), (x6_2), (wrap64 (x8_2 + 1)), mE, mE, H', ⟨by have := HK1.out; have := HK2.out; omega⟩, ⟨mR HO_5.out⟩, ⟨mK BK113.out⟩, ⟨(mH1 HB.out GE113.out)⟩⟩
        ·rw [if_neg c9] at H
         have c9b0 := decide_eq_false c9
         clear c9
         by_cases c11 : ((Op.bytesLess (((rd_T35 l0_0 x8_2).f0.f0).toList) a1.toList) = true)
         ·rw [if_pos c11] at H
          have c11b0 : (Op.bytesLess (((rd_T35 l0_0 x8_2).f0.f0).toList) a1.toList) = true := c11
          clear c11
          by_cases c12 : x5_2.length < 17592186044416
          ·rw [if_pos c12] at H
           have LMc12 := mS c12
           clear c12
           obtain ⟨y119, hy119⟩ : ∃ y_ : List Int, y_ = (x5_2 ++ [x8_2]) := ⟨_, rfl⟩
           replace H : (spec_Leaps.l1 k2 a1 y119 x8_2 x7_1 (wrap64 (x8_2 + 1)) l0_0) = some r := by first | (rw [hy119]; with_reducible exact H) | (have H2_ := (Option.bind_some _ _).symm.trans H; rw [hy119]; with_reducible exact H2_) | (have H2_ := (Option.bind_some _ _).symm.trans H; with_reducible exact H2_) | with_reducible exact H | (rw [hy119]; exact H) | exact H
           have Ny119 := mS hy119
           clear hy119
           have H' := mS H
           clear H
           have hcz13_0 := mZ BK113.out 0
           have hfz13_0 := blk_frozen BK113.out 0
           have p117 : 0 ≤ (x8_2 : Int) := mD
           have q117 : x8_2 < (l0_0.length : Int) := mD
           obtain ⟨ad117, e117, hx117_0, hx117_1, hx117_2, hx117_3⟩ := at_T35 HR0_0.out x8_2 p117 q117
           cases e117
           replace hx117_0 := mX HB.out hx117_0
           replace hx117_1 := mX HB.out hx117_1
           replace hx117_2 := mX HB.out hx117_2
           replace hx117_3 := mX HB.out hx117_3
           replace p117 := eq_true p117
           replace q117 := eq_true q117
           have p118 : 0 ≤ (x8_2 : Int) := mD
           have q118 : x8_2 < (l0_0.length : Int) := mD
           obtain ⟨ad118, e118, hx118_0, hx118_1, hx118_2, hx118_3⟩ := at_T35 HR0_0.out x8_2 p118 q118
           obtain rfl : ad117 = ad118 := (by injection e118)
           replace hx118_0 := mX HB.out hx118_0
           replace hx118_1 := mX HB.out hx118_1
           replace hx118_2 := mX HB.out hx118_2
           replace hx118_3 := mX HB.out hx118_3
           replace p118 := eq_true p118
           replace q118 := eq_true q118
           go_wp2_with (first | ((with_reducible refine gate_builtin (b := .append) (xs := #[.tmp 41, .tmp 43]) rfl ?_); at_builtin; refine Kd.R_append (Kd.int .i64) (w0 := w) w.heap.size rfl (.tmp 41) (.tmp 43) 29 3 (.int .i64 0) 8 rfl Try.underlying29 info3 rfl (by decide) (by omega) u5 x5_2 x8_2 [.int .i64 x8_2] (fun _ => True) (fun _ => False) rfl rfl ?aP (fun _ hk => hk.elim) ?aF ?aO ?aB ?aS ?aL ?_; (case aP => exact rfl); (case aB => exact (mH1 HB.out GE113.out)); (case aF => exact (fun _ _ => trivial)); (case aO => exact (mR HO_5.out)); (case aS => exact (below_size (mH1 HB.out GE113.out))); (case aL => have := LMc12.out; omega); intro v120 w14 ho hb hg hat; rw [← Ny119.out] at ho; replace BK113 := mS (blk_grown (g := gb113) (o := .cells #[.slice (some ad117) l0_0.length c0_0] 26 (0, 0)) (mK BK113.out) hg (Kd.R_ne HO_5.out BK113.out (by decide))); replace HB := mS (hb); have HO121 := mS (ho); clear HO_5; clear ho hb hg hat))
           go_roundg k2
           case measure => have := HK1.out; have := HK2.out; omega
           case rel => exact ⟨(y119), (x8_2), (wrap64 (x8_2 + 1)), mE, mE, H', ⟨by have := HK1.out; have := HK2.out; omega⟩, ⟨mR HO121.out⟩, ⟨mK BK113.out⟩, ⟨(mH1 HB.out GE113.out)⟩⟩
          ·rw [if_neg c12] at H
           exact absurd H (by simp)
         ·rw [if_neg c11] at H
          have c11b0 : (Op.bytesLess (((rd_T35 l0_0 x8_2).f0.f0).toList) a1.toList) = false := by simpa using c11
          clear c11
          have H' := mS H
          clear H
          have hcz15_0 := mZ BK113.out 0
          have hfz15_0 := blk_frozen BK113.out 0
          have p117 : 0 ≤ (x8_2 : Int) := mD
          have q117 : x8_2 < (l0_0.length : Int) := mD
          obtain ⟨ad117, e117, hx117_0, hx117_1, hx117_2, hx117_3⟩ := at_T35 HR0_0.out x8_2 p117 q117
          cases e117
          replace hx117_0 := mX HB.out hx117_0
          replace hx117_1 := mX HB.out hx117_1
          replace hx117_2 := mX HB.out hx117_2
          replace hx117_3 := mX HB.out hx117_3
          replace p117 := eq_true p117
          replace q117 := eq_true q117
          have p118 : 0 ≤ (x8_2 : Int) := mD
          have q118 : x8_2 < (l0_0.length : Int) := mD
          obtain ⟨ad118, e118, hx118_0, hx118_1, hx118_2, hx118_3⟩ := at_T35 HR0_0.out x8_2 p118 q118
          obtain rfl : ad117 = ad118 := (by injection e118)
          replace hx118_0 := mX HB.out hx118_0
          replace hx118_1 := mX HB.out hx118_1
          replace hx118_2 := mX HB.out hx118_2
          replace hx118_3 := mX HB.out hx118_3
          replace p118 := eq_true p118
          replace q118 := eq_true q118
          go_wp2
          go_roundg k2
          case measure => have := HK1.out; have := HK2.out; omega
          case rel => exact ⟨(x5_2), (x6_2), (wrap64 (x7_1 - 1)), mE, mE, H', ⟨by have := HK1.out; have := HK2.out; omega⟩, ⟨mR HO_5.out⟩, ⟨mK BK113.out⟩, ⟨(mH1 HB.out GE113.out)⟩⟩
       ·rw [if_neg c8] at H
        exact absurd H (by simp)
      ·rw [if_neg c7] at H
       have c7b0 := decide_eq_false c7
       clear c7
       have H' := mS H
       clear H
       have hcz16_0 := mZ BK113.out 0
       have hfz16_0 := blk_frozen BK113.out 0
       go_wp2
       go_roundg k2
       case measure => have := HK1.out; have := HK2.out; omega
       case rel => exact ⟨(x5_2), (x6_2), (wrap64 (x7_1 - 1)), mE, mE, H', ⟨by have := HK1.out; have := HK2.out; omega⟩, ⟨mR HO_5.out⟩, ⟨mK BK113.out⟩, ⟨(mH1 HB.out GE113.out)⟩⟩
   ·rw [if_neg c6] at H
    have c6b0 : decide (0 < x7_1) = false := decide_eq_false c6
    clear c6
    obtain rfl := Option.some.inj H
    go_wp2
    go_ret
    exact ⟨_, mEw, mR HO_5.out, (mH1 HB.out GE113.out)⟩

/-! ### laws_toPair: function 52 -/
def laws_toPair.f (a0_0 : ByteArray) (a0_1 : ByteArray) (a0_2 : Bool) : Option (ByteArray × ByteArray × Bool) := some (a0_0, a0_1, a0_2)
set_option maxHeartbeats 8000000 in
set_option maxRecDepth 100000 in
theorem laws_toPair.calls (a0_0 : ByteArray) (a0_1 : ByteArray) (a0_2 : Bool) (r1 : ByteArray) (r2 : ByteArray) (r3 : Bool) (w : World) (h : laws_toPair.f a0_0 a0_1 a0_2 = some (r1, r2, r3)) :
  Calls Try.prog 52 #[.agg #[.string a0_0, .string a0_1, .bool a0_2]] w fun e w' => e = .returned (.agg #[.string r1, .string r2, .bool r3]) ∧ Below w.heap.size w w' := by
 have hu84 := Try.underlying84
 have hu33 := Try.underlying33
 have HB := mS (Below.refl w.heap.size w)
 have H : (some (a0_0, a0_1, a0_2)) = some (r1, r2, r3) := h
 clear h
 simp only [Option.some.injEq, Prod.mk.injEq] at H
 obtain ⟨rfl, rfl, rfl⟩ := H
 go_enter Try.func52, Try.ntmps52
 go_wp2_with (first | ((with_reducible refine gate_dst (N := 1) rfl ?_); refine mBx 1 #[.string a0_0, .string a0_1, .bool a0_2] 84 ?_; intro gb122 hg w2 hbox hb; have BK122 := mS (hbox); have GW122 := mG hg (mH HB.out); have GE122 := mG hg (mH HB.out); replace HB := mS (below_step (mH HB.out) hb); clear hb hbox hg) | ((with_reducible refine gate_dst (N := 2) rfl ?_); refine mBx 2 #[.string (⟨#[]⟩ : ByteArray), .string (⟨#[]⟩ : ByteArray), .bool false] 33 ?_; intro gb123 hg w3 hbox hb; have BK123 := mS (hbox); have GW123 := mG hg (mH1 HB.out GE122.out); have GE123 := mG hg (mH1 HB.out GE122.out); replace HB := mS (below_step (mH1 HB.out GE122.out) hb); have NB122_123 := mNl hg BK122.out; have NB123_122 := mNg hg BK122.out; replace BK122 := mB BK122 hb; clear hb hbox hg) | ((with_reducible refine gate_dst (N := 3) rfl ?_); refine mBx 3 #[.string (⟨#[]⟩ : ByteArray), .string (⟨#[]⟩ : ByteArray), .bool false] 33 ?_; intro gb124 hg w4 hbox hb; have BK124 := mS (hbox); have GW124 := mG hg (mH2 HB.out GE122.out GE123.out); have GE124 := mG hg (mH2 HB.out GE122.out GE123.out); replace HB := mS (below_step (mH2 HB.out GE122.out GE123.out) hb); have NB122_124 := mNl hg BK122.out; have NB124_122 := mNg hg BK122.out; replace BK122 := mB BK122 hb; have NB123_124 := mNl hg BK123.out; have NB124_123 := mNg hg BK123.out; replace BK123 := mB BK123 hb; clear hb hbox hg; have hnb5 := NB122_123.out; have hnc5 := NB123_122.out; have hnb6 := NB122_124.out; have hnc6 := NB124_122.out; obtain ⟨hcz7_0, hcz7_1, hcz7_2, hfz7_0, hfz7_1, hfz7_2⟩ := mZ3 BK122.out; have hnb8 := NB124_123.out; have hnc8 := NB123_124.out; obtain ⟨hcz9_0, hcz9_1, hcz9_2, hfz9_0, hfz9_1, hfz9_2⟩ := mZ3 BK124.out; obtain ⟨hcz10_0, hcz10_1, hcz10_2, hfz10_0, hfz10_1, hfz10_2⟩ := mZ3 BK123.out))
 refine bodyPost_ret (results_cell_row rfl _ _ gb123 33 #[.string a0_0, .string a0_1, .bool a0_2] (0, 0) _ rfl (by refine mK ?_; refine blk_put (cs := #[.string a0_0, .string a0_1, .bool false]) ?_ 2 _ rfl; refine mK ?_; refine blk_put (cs := #[.string a0_0, .string (⟨#[]⟩ : ByteArray), .bool false]) ?_ 1 _ rfl; refine mK ?_; refine blk_put (cs := #[.string (⟨#[]⟩ : ByteArray), .string (⟨#[]⟩ : ByteArray), .bool false]) ?_ 0 _ rfl; exact mKf NB123_124.out BK123.out) Try.underlying33 rfl (by kernel_rfl)) rfl ?_
 exact ⟨mEw, (mH3 HB.out GE122.out GE123.out GE124.out)⟩

/-! ### laws_toNode: function 153 -/
def laws_toNode.f (a0_0 : ByteArray) (a0_1 : ByteArray) (a0_2 : Bool) (a0_3 : Int) : Option (ByteArray × ByteArray × Bool × Int) := (laws_toPair.f a0_0 a0_1 a0_2).bind fun bt128 => (some (bt128.1, bt128.2.1, bt128.2.2, a0_3))
set_option maxHeartbeats 8000000 in
set_option maxRecDepth 100000 in
theorem laws_toNode.calls (a0_0 : ByteArray) (a0_1 : ByteArray) (a0_2 : Bool) (a0_3 : Int) (r1 : ByteArray) (r2 : ByteArray) (r3 : Bool) (r4 : Int) (w : World) (h : laws_toNode.f a0_0 a0_1 a0_2 a0_3 = some (r1, r2, r3, r4)) :
  Calls Try.prog 153 #[.agg #[.string a0_0, .string a0_1, .bool a0_2, .int .i64 a0_3]] w fun e w' => e = .returned (.agg #[.string r1, .string r2, .bool r3, .int .i64 r4]) ∧ Below w.heap.size w w' := by
 have hu191 := Try.underlying191
 have hu35 := Try.underlying35
 have hu84 := Try.underlying84
 have hu33 := Try.underlying33
 have HB := mS (Below.refl w.heap.size w)
 have H : ((laws_toPair.f a0_0 a0_1 a0_2).bind fun bt128 => (some (bt128.1, bt128.2.1, bt128.2.2, a0_3))) = some (r1, r2, r3, r4) := h
 clear h
 replace H := Option.bind_eq_some_iff.mp H
 obtain ⟨⟨t128, t129, t130⟩, A20, H⟩ := H
 replace H : (some (t128, t129, t130, a0_3)) = some (r1, r2, r3, r4) := H
 have A2 := mS A20
 clear A20
 simp only [Option.some.injEq, Prod.mk.injEq] at H
 obtain ⟨rfl, rfl, rfl, rfl⟩ := H
 go_enter Try.func153, Try.ntmps153
 go_wp2_with (first | ((with_reducible refine gate_dst (N := 1) rfl ?_); refine mBx 1 #[.string a0_0, .string a0_1, .bool a0_2, .int .i64 a0_3] 191 ?_; intro gb125 hg w3 hbox hb; have BK125 := mS (hbox); have GW125 := mG hg (mH HB.out); have GE125 := mG hg (mH HB.out); replace HB := mS (below_step (mH HB.out) hb); clear hb hbox hg) | ((with_reducible refine gate_dst (N := 2) rfl ?_); refine mBx 2 #[.string (⟨#[]⟩ : ByteArray), .string (⟨#[]⟩ : ByteArray), .bool false, .int .i64 0] 35 ?_; intro gb126 hg w4 hbox hb; have BK126 := mS (hbox); have GW126 := mG hg (mH1 HB.out GE125.out); have GE126 := mG hg (mH1 HB.out GE125.out); replace HB := mS (below_step (mH1 HB.out GE125.out) hb); have NB125_126 := mNl hg BK125.out; have NB126_125 := mNg hg BK125.out; replace BK125 := mB BK125 hb; clear hb hbox hg) | ((with_reducible refine gate_dst (N := 3) rfl ?_); refine mBx 3 #[.string (⟨#[]⟩ : ByteArray), .string (⟨#[]⟩ : ByteArray), .bool false, .int .i64 0] 35 ?_; intro gb127 hg w5 hbox hb; have BK127 := mS (hbox); have GW127 := mG hg (mH2 HB.out GE125.out GE126.out); have GE127 := mG hg (mH2 HB.out GE125.out GE126.out); replace HB := mS (below_step (mH2 HB.out GE125.out GE126.out) hb); have NB125_127 := mNl hg BK125.out; have NB127_125 := mNg hg BK125.out; replace BK125 := mB BK125 hb; have NB126_127 := mNl hg BK126.out; have NB127_126 := mNg hg BK126.out; replace BK126 := mB BK126 hb; clear hb hbox hg; have hnb6 := NB125_126.out; have hnc6 := NB126_125.out; have hnb7 := NB125_127.out; have hnc7 := NB127_125.out; obtain ⟨hcz8_0, hcz8_1, hcz8_2, hcz8_3, hfz8_0, hfz8_1, hfz8_2, hfz8_3⟩ := mZ4 BK125.out) | ((with_reducible refine gate_callee (f := 52) rfl ?_); refine mGo 6 Try.func52 #[.agg #[.string a0_0, .string a0_1, .bool a0_2]] ?_; (with_reducible refine (laws_toPair.calls a0_0 a0_1 a0_2 t128 t129 t130 _ A2.out).mono ?_); rintro e w9 ⟨rfl, hb⟩; refine ⟨_, rfl, ?_⟩; replace BK125 := mB BK125 hb; replace BK126 := mB BK126 hb; replace BK127 := mB BK127 hb; replace HB := mS (below_step (mH3 HB.out GE125.out GE126.out GE127.out) hb); (try clear hb); have hnb10 := NB127_126.out; have hnc10 := NB126_127.out; obtain ⟨hcz11_0, hcz11_1, hcz11_2, hcz11_3, hfz11_0, hfz11_1, hfz11_2, hfz11_3⟩ := mZ4 BK127.out; obtain ⟨hcz12_0, hcz12_1, hcz12_2, hcz12_3, hfz12_0, hfz12_1, hfz12_2, hfz12_3⟩ := mZ4 BK125.out; obtain ⟨hcz13_0, hcz13_1, hcz13_2, hcz13_3, hfz13_0, hfz13_1, hfz13_2, hfz13_3⟩ := mZ4 BK126.out))
 refine bodyPost_ret (results_cell_row rfl _ _ gb126 35 #[.string t128, .string t129, .bool t130, .int .i64 a0_3] (0, 0) _ rfl (by refine mK ?_; refine blk_put (cs := #[.string t128, .string t129, .bool t130, .int .i64 0]) ?_ 3 _ rfl; refine mK ?_; refine blk_put (cs := #[.string t128, .string t129, .bool false, .int .i64 0]) ?_ 2 _ rfl; refine mK ?_; refine blk_put (cs := #[.string t128, .string (⟨#[]⟩ : ByteArray), .bool false, .int .i64 0]) ?_ 1 _ rfl; refine mK ?_; refine blk_put (cs := #[.string (⟨#[]⟩ : ByteArray), .string (⟨#[]⟩ : ByteArray), .bool false, .int .i64 0]) ?_ 0 _ rfl; exact mKf NB126_127.out BK126.out) Try.underlying35 rfl (by kernel_rfl)) rfl ?_
 exact ⟨mEw, (mH3 HB.out GE125.out GE126.out GE127.out)⟩

/-! ### laws_toNodeS: function 103 -/
def laws_toNodeS.l0 : Nat → List (S191) → List (S35) → Int → Option ((List (S35)))
 | 0, _, _, _ => none
 | k + 1, x0, x3, x4 => if x4 < (x0.length : Int) then (if 0 ≤ x4 then ((laws_toNode.f ((rd_T191 x0 x4).f0.f0) ((rd_T191 x0 x4).f0.f1) ((rd_T191 x0 x4).f0.f2) ((rd_T191 x0 x4).f1)).bind fun bt135 => (if x4 < (x3.length : Int) then (laws_toNodeS.l0 k x0 (x3.set (x4 : Int).toNat (⟨(⟨bt135.1, bt135.2.1, bt135.2.2.1⟩ : S33), bt135.2.2.2⟩ : S35)) (wrap64 (x4 + 1))) else (none))) else (none)) else (some x3)
def laws_toNodeS.f (k : Nat) (l0 : List (S191)) : Option ((List (S35))) := if 0 ≤ (l0.length : Int) then (if ((l0.length : Int) : Int).toNat ≤ 5864062014805 then (laws_toNodeS.l0 k l0 (List.replicate ((l0.length : Int) : Int).toNat z35) 0) else (none)) else (none)
theorem laws_toNodeS.mono_l : ∀ k, (∀ y0 y1 y2, LeO (laws_toNodeS.l0 k y0 y1 y2) (laws_toNodeS.l0 (k + 1) y0 y1 y2))
 | 0 => fun _ _ _ r h => by simp [laws_toNodeS.l0] at h
 | k + 1 => by
  have ih0 := laws_toNodeS.mono_l k
  ·intro y0 y1 y2
   unfold laws_toNodeS.l0
   repeat' first
   | (with_reducible exact ih0 _ _ _)
   | (with_reducible exact LeO.refl _)
   | (with_reducible exact LeO.none _)
   | (with_reducible refine LeO.ite ?_ ?_)
   | (with_reducible refine LeO.bind ?_ (fun _ => ?_))
   | exact ih0 _ _ _
   | exact LeO.none _
   | refine LeO.ite ?_ ?_
   | refine LeO.bind ?_ (fun _ => ?_)
theorem laws_toNodeS.mono : ∀ a0 k, LeO (laws_toNodeS.f k a0) (laws_toNodeS.f (k + 1) a0) := by
 intro a0 k
 have ih0 := laws_toNodeS.mono_l k
 unfold laws_toNodeS.f
 repeat' first
   | (with_reducible exact ih0 _ _ _)
   | (with_reducible exact LeO.refl _)
   | (with_reducible exact LeO.none _)
   | (with_reducible refine LeO.ite ?_ ?_)
   | (with_reducible refine LeO.bind ?_ (fun _ => ?_))
   | exact ih0 _ _ _
   | exact LeO.none _
   | refine LeO.ite ?_ ?_
   | refine LeO.bind ?_ (fun _ => ?_)
set_option maxHeartbeats 8000000 in
set_option maxRecDepth 100000 in
theorem laws_toNodeS.calls (k : Nat) (A0 : Option Addr) (c0 : Nat) (l0 : List (S191)) (r : List (S35)) (w : World) (hr0 : Kd.C k191 w A0 l0.length l0) (hc0 : l0.length ≤ c0) (h : laws_toNodeS.f k l0 = some r) :
  Calls Try.prog 103 #[.slice A0 l0.length c0] w fun e w' => ∃ v0_ : Value, e = .returned (v0_) ∧ Kd.R k35 35 w' w.heap.size (fun _ => True) v0_ r ∧ Below w.heap.size w w' := by
 have hu191 := Try.underlying191
 have hu35 := Try.underlying35
 have HR0 := mS hr0
 have HC0 := mS hc0
 clear hr0 hc0
 have HB := mS (Below.refl w.heap.size w)
 have H : (if 0 ≤ (l0.length : Int) then (if ((l0.length : Int) : Int).toNat ≤ 5864062014805 then (laws_toNodeS.l0 k l0 (List.replicate ((l0.length : Int) : Int).toNat z35) 0) else (none)) else (none)) = some r := h
 clear h
 by_cases c2 : 0 ≤ (l0.length : Int)
 ·rw [if_pos c2] at H
  have c2b0 := eq_true c2
  have c2b1 := decide_eq_true c2
  clear c2
  by_cases c3 : ((l0.length : Int) : Int).toNat ≤ 5864062014805
  ·rw [if_pos c3] at H
   have c3b0 := eq_true c3
   have c3b1 := decide_eq_true c3
   clear c3
   obtain ⟨y131, hy131⟩ : ∃ y_ : List (S35), y_ = (List.replicate ((l0.length : Int) : Int).toNat z35) := ⟨_, rfl⟩
   replace H : (laws_toNodeS.l0 k l0 y131 0) = some r := by first | (rw [hy131]; with_reducible exact H) | (have H2_ := (Option.bind_some _ _).symm.trans H; rw [hy131]; with_reducible exact H2_) | (have H2_ := (Option.bind_some _ _).symm.trans H; with_reducible exact H2_) | with_reducible exact H | (rw [hy131]; exact H) | exact H
   have Ny131 := mS hy131
   clear hy131
   have H' := mS H
   clear H
   go_enter Try.func103, Try.ntmps103
   go_wp2_with (first | ((with_reducible refine gate_dst (N := 7) rfl ?_); refine Kd.R_make k35 _ 35 rfl (N := 7) rfl 24 _ _ rfl (l0.length : Int) rfl rfl Try.underlying24 (.agg #[(.string ⟨#[]⟩), (.string ⟨#[]⟩), (.bool false), (.int .i64 0)]) 48 info35 rfl (by decide) (by omega) z35 (ok := fun _ => True) (okp := fun _ => True) (k35_mkM _ _ _ z35 ) (fun _ hk => hk) trivial (mD) (Nat.le_trans (Nat.mul_le_mul_right _ (mD : (l0.length : Int).toNat ≤ 5864062014805)) (by omega)) (Below.refl _ _) (Nat.le_refl _) ?_; intro v132 w4 ho5 hb hg_ hnew_; clear hg_ hnew_; (first | rw [← Ny131.out] at ho5 | (simp only [Int.reduceToNat] at ho5; rw [← Ny131.out] at ho5)); have HO133 := mS (Kd.R_lower ho5 (below_size (mH HB.out))); replace HB := mS (below_step (mH HB.out) hb); clear hb ho5))
   go_loopg [4] k (fun kq v4 w' => ∃ (x3_1 : List (S35)) (x4_1 : Int), v4 = .int .i64 x4_1 ∧ Aside0 (laws_toNodeS.l0 kq l0 x3_1 x4_1 = some r) ∧ Aside0 (kq ≤ k) ∧ Aside0 (Kd.R k35 35 w' w.heap.size (fun _ => True) v132 x3_1) ∧ Aside0 (Below w.heap.size w w'))
   case atStart => exact ⟨(y131), (0), mE, H', ⟨Nat.le_refl _⟩, ⟨mR HO133.out⟩, ⟨(mH HB.out)⟩⟩
   case round =>
    clear H'
    try clear c1
    try clear c2
    try clear c2b0
    try clear c2b1
    try clear p2
    try clear c3
    try clear c3b0
    try clear c3b1
    obtain ⟨x3_1, x4_1, rfl, HA, HK1, HO_3, HB⟩ := hrel
    cases gk with
    | zero => exact absurd HA.out (by simp [laws_toNodeS.l0])
    | succ k1 =>
     have H := HA.out
     clear HA
     simp only [laws_toNodeS.l0] at H
     by_cases c6 : x4_1 < (l0.length : Int)
     ·rw [if_pos c6] at H
      have c6b0 := decide_eq_true c6
      clear c6
      by_cases c7 : 0 ≤ x4_1
      ·rw [if_pos c7] at H
       have c7b0 := decide_eq_true c7
       clear c7
       replace H := Option.bind_eq_some_iff.mp H
       obtain ⟨⟨t135, t136, t137, t138⟩, A80, H⟩ := H
       replace H : (if x4_1 < (x3_1.length : Int) then (laws_toNodeS.l0 k1 l0 (x3_1.set (x4_1 : Int).toNat (⟨(⟨t135, t136, t137⟩ : S33), t138⟩ : S35)) (wrap64 (x4_1 + 1))) else (none)) = some r := H
       have A8 := mS A80
       clear A80
       by_cases c9 : x4_1 < (x3_1.length : Int)
       ·rw [if_pos c9] at H
        have c9b0 := decide_eq_true c9
        clear c9
        obtain ⟨y139, hy139⟩ : ∃ y_ : List (S35), y_ = (x3_1.set (x4_1 : Int).toNat (⟨(⟨t135, t136, t137⟩ : S33), t138⟩ : S35)) := ⟨_, rfl⟩
        replace H : (laws_toNodeS.l0 k1 l0 y139 (wrap64 (x4_1 + 1))) = some r := by first | (rw [hy139]; with_reducible exact H) | (have H2_ := (Option.bind_some _ _).symm.trans H; rw [hy139]; with_reducible exact H2_) | (have H2_ := (Option.bind_some _ _).symm.trans H; with_reducible exact H2_) | with_reducible exact H | (rw [hy139]; exact H) | exact H
        have Ny139 := mS hy139
        clear hy139
        have H' := mS H
        clear H
        have p134 : 0 ≤ (x4_1 : Int) := mD
        have q134 : x4_1 < (l0.length : Int) := mD
        obtain ⟨ad134, e134, hx134_0, hx134_1, hx134_2, hx134_3⟩ := at_T191 HR0.out x4_1 p134 q134
        cases e134
        replace hx134_0 := mX HB.out hx134_0
        replace hx134_1 := mX HB.out hx134_1
        replace hx134_2 := mX HB.out hx134_2
        replace hx134_3 := mX HB.out hx134_3
        replace p134 := eq_true p134
        replace q134 := eq_true q134
        go_wp2_with (first | ((with_reducible refine gate_callee (f := 153) rfl ?_); refine mGo 20 Try.func153 #[.agg #[.string ((rd_T191 l0 x4_1).f0.f0), .string ((rd_T191 l0 x4_1).f0.f1), .bool ((rd_T191 l0 x4_1).f0.f2), .int .i64 ((rd_T191 l0 x4_1).f1)]] ?_; (with_reducible refine (laws_toNode.calls ((rd_T191 l0 x4_1).f0.f0) ((rd_T191 l0 x4_1).f0.f1) ((rd_T191 l0 x4_1).f0.f2) ((rd_T191 l0 x4_1).f1) t135 t136 t137 t138 _ A8.out).mono ?_); rintro e w11 ⟨rfl, hb⟩; refine ⟨_, rfl, ?_⟩; replace HO_3 := mS (Kd.R_below (mR HO_3.out) hb); replace HB := mS (below_step (mH HB.out) hb); (try clear hb); have p10 : 0 ≤ (x4_1 : Int) := mD; have q10 : (x4_1 : Int) < ((x3_1.length : Int) : Int) := mD; obtain ⟨go10, co10, eo10, gb10, gl10, cl10, HG10⟩ := Kd.R_form HO_3.out (by omega); (first | cases eo10 | (injection eo10 with ea_ en_ ec_; (first | subst ea_ | (injection ea_ with ea_; subst ea_)); subst ec_; clear en_)); have GB10 := mS gb10; have GG10 := mS HG10; clear gb10 gl10 HG10; obtain ⟨ce10, hcl10, hM10, hcc10, hfr10⟩ := Kd.R_elem HO_3.out z35 (x4_1 : Int) p10 q10; obtain rfl := k35_openM hM10; have hx10_0 : w11.cell? ⟨go10, (x4_1 : Int).toNat * 4, none⟩ = some (.string ((rd_T35 x3_1 x4_1).f0.f0)) := hcc10 0 _ rfl; have hx10_1 : w11.cell? ⟨go10, (x4_1 : Int).toNat * 4 + 1, none⟩ = some (.string ((rd_T35 x3_1 x4_1).f0.f1)) := hcc10 1 _ rfl; have hx10_2 : w11.cell? ⟨go10, (x4_1 : Int).toNat * 4 + 2, none⟩ = some (.bool ((rd_T35 x3_1 x4_1).f0.f2)) := hcc10 2 _ rfl; have hx10_3 : w11.cell? ⟨go10, (x4_1 : Int).toNat * 4 + 3, none⟩ = some (.int .i64 ((rd_T35 x3_1 x4_1).f1)) := hcc10 3 _ rfl; have hf10_0 : w11.frozen? ⟨go10, (x4_1 : Int).toNat * 4, none⟩ = false := hfr10 0; have hf10_1 : w11.frozen? ⟨go10, (x4_1 : Int).toNat * 4 + 1, none⟩ = false := hfr10 1; have hf10_2 : w11.frozen? ⟨go10, (x4_1 : Int).toNat * 4 + 2, none⟩ = false := hfr10 2; have hf10_3 : w11.frozen? ⟨go10, (x4_1 : Int).toNat * 4 + 3, none⟩ = false := hfr10 3; clear hcl10 hcc10 hfr10; (try clear hM10); replace p10 := eq_true p10; replace q10 := eq_true q10; have HX12 := mS (show Kd.R k35 35 w11 w.heap.size (fun _ => True) (.slice (some ⟨go10, 0, none⟩) x3_1.length co10) x3_1 from (mR HO_3.out)); obtain ⟨ce12, hcl12, hM12, hcc12, hfr12⟩ := Kd.R_elem HX12.out z35 (x4_1 : Int) (mD) (by have h_ : (x4_1 : Int) < ((x3_1.length : Int) : Int) := mD; first | exact h_ | (have e_ := (Kd.R_reads' HO_3.out).1; omega) | simpa using h_); obtain rfl := k35_openM hM12; have HP12 := Kd.R_seg HX12.out (x4_1 : Int) (mD) (by have h_ : (x4_1 : Int) < ((x3_1.length : Int) : Int) := mD; first | exact h_ | (have e_ := (Kd.R_reads' HO_3.out).1; omega) | simpa using h_) (seg := [.string t135, .string t136, .bool t137, .int .i64 t138]) (j := 0) hcl12 hcc12 (show 4 ≤ 4 from by decide) (x' := (⟨(⟨t135, t136, t137⟩ : S33), t138⟩ : S35)) (k35_mkM _ _ _ (⟨(⟨t135, t136, t137⟩ : S33), t138⟩ : S35) ) (fun _ hk => hk); have hx12_0 := hcc12 0 _ rfl; (try simp only [show (k35).sz = 4 from rfl, Nat.mul_one, Nat.add_zero] at hx12_0); have hf12_0 := hfr12 0; (try simp only [show (k35).sz = 4 from rfl, Nat.mul_one, Nat.add_zero] at hf12_0); have hx12_1 := hcc12 1 _ rfl; (try simp only [show (k35).sz = 4 from rfl, Nat.mul_one, Nat.add_zero] at hx12_1); have hf12_1 := hfr12 1; (try simp only [show (k35).sz = 4 from rfl, Nat.mul_one, Nat.add_zero] at hf12_1); have hx12_2 := hcc12 2 _ rfl; (try simp only [show (k35).sz = 4 from rfl, Nat.mul_one, Nat.add_zero] at hx12_2); have hf12_2 := hfr12 2; (try simp only [show (k35).sz = 4 from rfl, Nat.mul_one, Nat.add_zero] at hf12_2); have hx12_3 := hcc12 3 _ rfl; (try simp only [show (k35).sz = 4 from rfl, Nat.mul_one, Nat.add_zero] at hx12_3); have hf12_3 := hfr12 3; (try simp only [show (k35).sz = 4 from rfl, Nat.mul_one, Nat.add_zero] at hf12_3); clear hcl12 hcc12 hfr12 hM12) | ((with_reducible refine gate_store (t := 35) (p := 21) rfl ?_); refine store_event (t := 35) (p := 21) (v := ?vo_w13) (w1 := ((((w11.setCell ⟨go10, (x4_1 : Int).toNat * 4, none⟩ (.string t135)).setCell ⟨go10, (x4_1 : Int).toNat * 4 + 1, none⟩ (.string t136)).setCell ⟨go10, (x4_1 : Int).toNat * 4 + 2, none⟩ (.bool t137)).setCell ⟨go10, (x4_1 : Int).toNat * 4 + 3, none⟩ (.int .i64 t138))) ?hg ?ho ?hn ?hr ?_; (case ho => rfl); (case hg => rfl); (case hn => rfl); (case hr => first | (go_simp; done) | (go_simp; rfl)); intro w13 hw; have hg : w11.grownBy w13 (some go10) := (by rw [hw]; exact HP12.2); have hp_ : Kd.R k35 35 w13 w.heap.size (fun _ => True) (.slice (some ⟨go10, 0, none⟩) x3_1.length co10) y139 := (by rw [hw, Ny139.out]; exact HP12.1); clear HP12; replace HO_3 := mS (hp_); replace HB := mS ((by rw [hw]; exact below_set (below_set (below_set (below_set (HB.out) GB10.out) GB10.out) GB10.out) GB10.out : Below w.heap.size w w13)); clear hg hw hp_))
        go_roundg k1
        case measure => have := HK1.out; omega
        case rel => exact ⟨(y139), (wrap64 (x4_1 + 1)), mE, H', ⟨by have := HK1.out; omega⟩, ⟨mR HO_3.out⟩, ⟨(mH HB.out)⟩⟩
       ·rw [if_neg c9] at H
        exact absurd H (by simp)
      ·rw [if_neg c7] at H
       exact absurd H (by simp)
     ·rw [if_neg c6] at H
      have c6b0 := decide_eq_false c6
      clear c6
      obtain rfl := Option.some.inj H
      go_wp2
      go_ret
      exact ⟨_, mEw, mR HO_3.out, (mH HB.out)⟩
  ·rw [if_neg c3] at H
   exact absurd H (by simp)
 ·rw [if_neg c2] at H
  exact absurd H (by simp)

/-! ### laws_toMem: function 48 -/
def laws_toMem.f (k : Nat) (l0_0 : List (S191)) : Option ((List (S35))) := (laws_toNodeS.f k l0_0).bind fun t143 => (some t143)
theorem laws_toMem.mono : ∀ a0 k, LeO (laws_toMem.f k a0) (laws_toMem.f (k + 1) a0) := by
 intro a0 k
 unfold laws_toMem.f
 repeat' first
   | (with_reducible exact laws_toNodeS.mono _ _)
   | (with_reducible exact LeO.refl _)
   | (with_reducible exact LeO.none _)
   | (with_reducible refine LeO.ite ?_ ?_)
   | (with_reducible refine LeO.bind ?_ (fun _ => ?_))
   | exact laws_toNodeS.mono _ _
   | exact LeO.none _
   | refine LeO.ite ?_ ?_
   | refine LeO.bind ?_ (fun _ => ?_)
set_option maxHeartbeats 8000000 in
set_option maxRecDepth 100000 in
theorem laws_toMem.calls (k : Nat) (A0_0 : Option Addr) (c0_0 : Nat) (l0_0 : List (S191)) (r : List (S35)) (w : World) (hr0_0 : Kd.C k191 w A0_0 l0_0.length l0_0) (hc0_0 : l0_0.length ≤ c0_0) (h : laws_toMem.f k l0_0 = some r) :
  Calls Try.prog 48 #[.agg #[.slice A0_0 l0_0.length c0_0]] w fun e w' => ∃ v0_ : Value, e = .returned (.agg #[v0_]) ∧ Kd.R k35 35 w' w.heap.size (fun _ => True) v0_ r ∧ Below w.heap.size w w' := by
 have hu78 := Try.underlying78
 have hu26 := Try.underlying26
 have HR0_0 := mS hr0_0
 have HC0_0 := mS hc0_0
 clear hr0_0 hc0_0
 have HB := mS (Below.refl w.heap.size w)
 have H : ((laws_toNodeS.f k l0_0).bind fun t143 => (some t143)) = some r := h
 clear h
 replace H := Option.bind_eq_some_iff.mp H
 obtain ⟨t143, A20, H⟩ := H
 replace H : (some t143) = some r := H
 have A2 := mS A20
 clear A20
 obtain rfl := Option.some.inj H
 go_enter Try.func48, Try.ntmps48
 go_wp2_with (first | ((with_reducible refine gate_dst (N := 1) rfl ?_); refine mBx 1 #[.slice A0_0 l0_0.length c0_0] 78 ?_; intro gb140 hg w3 hbox hb; have BK140 := mS (hbox); have GW140 := mG hg (mH HB.out); have GE140 := mG hg (mH HB.out); replace HB := mS (below_step (mH HB.out) hb); clear hb hbox hg) | ((with_reducible refine gate_dst (N := 2) rfl ?_); refine mBx 2 #[.slice none 0 0] 26 ?_; intro gb141 hg w4 hbox hb; have BK141 := mS (hbox); have GW141 := mG hg (mH1 HB.out GE140.out); have GE141 := mG hg (mH1 HB.out GE140.out); replace HB := mS (below_step (mH1 HB.out GE140.out) hb); have NB140_141 := mNl hg BK140.out; have NB141_140 := mNg hg BK140.out; replace BK140 := mB BK140 hb; clear hb hbox hg) | ((with_reducible refine gate_dst (N := 3) rfl ?_); refine mBx 3 #[.slice none 0 0] 26 ?_; intro gb142 hg w5 hbox hb; have BK142 := mS (hbox); have GW142 := mG hg (mH2 HB.out GE140.out GE141.out); have GE142 := mG hg (mH2 HB.out GE140.out GE141.out); replace HB := mS (below_step (mH2 HB.out GE140.out GE141.out) hb); have NB140_142 := mNl hg BK140.out; have NB142_140 := mNg hg BK140.out; replace BK140 := mB BK140 hb; have NB141_142 := mNl hg BK141.out; have NB142_141 := mNg hg BK141.out; replace BK141 := mB BK141 hb; clear hb hbox hg; have hnb6 := NB140_141.out; have hnc6 := NB141_140.out; have hnb7 := NB140_142.out; have hnc7 := NB142_140.out; have hcz8_0 := mZ BK140.out 0; have hfz8_0 := blk_frozen BK140.out 0) | ((with_reducible refine gate_callee (f := 103) rfl ?_); refine mGo 6 Try.func103 #[.slice A0_0 l0_0.length c0_0] ?_; (with_reducible refine (laws_toNodeS.calls k _ _ l0_0 t143 _ ?side1 ?side2 A2.out).mono ?_); (case side1 => exact mC (Kd.C_below HR0_0.out HB.out)); (case side2 => exact HC0_0.out); rintro e w9 ⟨v144, rfl, ho0, hb⟩; refine ⟨_, rfl, ?_⟩; have HO145 := mS (Kd.R_lower ho0 (below_size (mH3 HB.out GE140.out GE141.out GE142.out))); replace BK140 := mB BK140 hb; replace BK141 := mB BK141 hb; replace BK142 := mB BK142 hb; replace HB := mS (below_step (mH3 HB.out GE140.out GE141.out GE142.out) hb); (try clear hb); (try clear ho0); obtain ⟨Ao10, co10, eo10⟩ := Kd.R_slice HO145.out; subst eo10; have hnb11 := NB142_141.out; have hnc11 := NB141_142.out; have hcz12_0 := mZ BK142.out 0; have hfz12_0 := blk_frozen BK142.out 0; have hcz13_0 := mZ BK141.out 0; have hfz13_0 := blk_frozen BK141.out 0))
 refine bodyPost_ret (results_cell_row rfl _ _ gb141 26 #[.slice Ao10 t143.length co10] (0, 0) _ rfl (by refine mK ?_; refine blk_put (cs := #[.slice none 0 0]) ?_ 0 _ rfl; exact mKf NB141_142.out BK141.out) Try.underlying26 rfl (by kernel_rfl)) rfl ?_
 exact ⟨_, mEw, by refine mR ?_; exact Kd.R_mono (Kd.R_far (p := ⟨gb141, 0, none⟩) (Kd.R_far (p := ⟨gb142, 0, none⟩) (Kd.R_types (Kd.R_types HO145.out BK142.out (by decide)) BK141.out (by decide)) (fun _ hk => hk.1.2) (.slice Ao10 t143.length co10)) (fun _ hk => hk.2) (.slice Ao10 t143.length co10)) (fun _ hk => trivial), (mH3 HB.out GE140.out GE141.out GE142.out)⟩

/-! ### laws_eqPair: function 112 -/
def laws_eqPair.f (a0_0 : ByteArray) (a0_1 : ByteArray) (a0_2 : Bool) (a1_0 : ByteArray) (a1_1 : ByteArray) (a1_2 : Bool) : Option (Bool) := if a0_0.toList = a1_0.toList then (if a0_1.toList = a1_1.toList then (if (a0_2 != a1_2) = true then (some false) else (some true)) else (some false)) else (some false)
set_option maxHeartbeats 8000000 in
set_option maxRecDepth 100000 in
theorem laws_eqPair.calls (a0_0 : ByteArray) (a0_1 : ByteArray) (a0_2 : Bool) (a1_0 : ByteArray) (a1_1 : ByteArray) (a1_2 : Bool) (r : Bool) (w : World) (h : laws_eqPair.f a0_0 a0_1 a0_2 a1_0 a1_1 a1_2 = some r) :
  Calls Try.prog 112 #[.agg #[.string a0_0, .string a0_1, .bool a0_2], .agg #[.string a1_0, .string a1_1, .bool a1_2]] w fun e w' => e = .returned (.bool r) ∧ Below w.heap.size w w' := by
 have hu33 := Try.underlying33
 have HB := mS (Below.refl w.heap.size w)
 have H : (if a0_0.toList = a1_0.toList then (if a0_1.toList = a1_1.toList then (if (a0_2 != a1_2) = true then (some false) else (some true)) else (some false)) else (some false)) = some r := h
 clear h
 by_cases c3 : a0_0.toList = a1_0.toList
 ·rw [if_pos c3] at H
  have c3b0 : (a0_0.toList == a1_0.toList) = true := beq_iff_eq.mpr c3
  have c3b1 : (a0_0.toList != a1_0.toList) = false := bne_eq_false_iff_eq.mpr c3
  clear c3
  by_cases c4 : a0_1.toList = a1_1.toList
  ·rw [if_pos c4] at H
   have c4b0 : (a0_1.toList == a1_1.toList) = true := beq_iff_eq.mpr c4
   have c4b1 : (a0_1.toList != a1_1.toList) = false := bne_eq_false_iff_eq.mpr c4
   clear c4
   by_cases c5 : (a0_2 != a1_2) = true
   ·rw [if_pos c5] at H
    have c5b0 : (a0_2 != a1_2) = true := c5
    (try (have c5b1 : decide (a0_2 = a1_2) = false := by simpa using c5))
    (try (have c5b2 : (a0_2 == a1_2) = false := by simpa using c5))
    (try (have c5b3 : ¬ (a0_2 = a1_2) := by simpa using c5))
    clear c5
    obtain rfl := Option.some.inj H
    go_enter Try.func112, Try.ntmps112
    go_wp2_with (first | ((with_reducible refine gate_dst (N := 2) rfl ?_); refine mBx 2 #[.string a0_0, .string a0_1, .bool a0_2] 33 ?_; intro gb146 hg w6 hbox hb; have BK146 := mS (hbox); have GW146 := mG hg (mH HB.out); have GE146 := mG hg (mH HB.out); replace HB := mS (below_step (mH HB.out) hb); clear hb hbox hg) | ((with_reducible refine gate_dst (N := 3) rfl ?_); refine mBx 3 #[.string a1_0, .string a1_1, .bool a1_2] 33 ?_; intro gb147 hg w7 hbox hb; have BK147 := mS (hbox); have GW147 := mG hg (mH1 HB.out GE146.out); have GE147 := mG hg (mH1 HB.out GE146.out); replace HB := mS (below_step (mH1 HB.out GE146.out) hb); have NB146_147 := mNl hg BK146.out; have NB147_146 := mNg hg BK146.out; replace BK146 := mB BK146 hb; clear hb hbox hg; have hnb8 := NB146_147.out; have hnc8 := NB147_146.out; obtain ⟨hcz9_0, hcz9_1, hcz9_2, hfz9_0, hfz9_1, hfz9_2⟩ := mZ3 BK146.out; obtain ⟨hcz10_0, hcz10_1, hcz10_2, hfz10_0, hfz10_1, hfz10_2⟩ := mZ3 BK147.out))
    go_ret
    exact ⟨mEw, (mH2 HB.out GE146.out GE147.out)⟩
   ·rw [if_neg c5] at H
    have c5b0 : (a0_2 != a1_2) = false := by simpa using c5
    (try (have c5b1 : decide (a0_2 = a1_2) = true := by simpa using c5))
    (try (have c5b2 : (a0_2 == a1_2) = true := by simpa using c5))
    clear c5
    obtain rfl := Option.some.inj H
    go_enter Try.func112, Try.ntmps112
    go_wp2_with (first | ((with_reducible refine gate_dst (N := 2) rfl ?_); refine mBx 2 #[.string a0_0, .string a0_1, .bool a0_2] 33 ?_; intro gb146 hg w11 hbox hb; have BK146 := mS (hbox); have GW146 := mG hg (mH HB.out); have GE146 := mG hg (mH HB.out); replace HB := mS (below_step (mH HB.out) hb); clear hb hbox hg) | ((with_reducible refine gate_dst (N := 3) rfl ?_); refine mBx 3 #[.string a1_0, .string a1_1, .bool a1_2] 33 ?_; intro gb147 hg w12 hbox hb; have BK147 := mS (hbox); have GW147 := mG hg (mH1 HB.out GE146.out); have GE147 := mG hg (mH1 HB.out GE146.out); replace HB := mS (below_step (mH1 HB.out GE146.out) hb); have NB146_147 := mNl hg BK146.out; have NB147_146 := mNg hg BK146.out; replace BK146 := mB BK146 hb; clear hb hbox hg; have hnb13 := NB146_147.out; have hnc13 := NB147_146.out; obtain ⟨hcz14_0, hcz14_1, hcz14_2, hfz14_0, hfz14_1, hfz14_2⟩ := mZ3 BK146.out; obtain ⟨hcz15_0, hcz15_1, hcz15_2, hfz15_0, hfz15_1, hfz15_2⟩ := mZ3 BK147.out))
    go_ret
    exact ⟨mEw, (mH2 HB.out GE146.out GE147.out)⟩
  ·rw [if_neg c4] at H
   have c4b0 : (a0_1.toList == a1_1.toList) = false := beq_eq_false_iff_ne.mpr c4
   have c4b1 : (a0_1.toList != a1_1.toList) = true := bne_iff_ne.mpr c4
   obtain rfl := Option.some.inj H
   go_enter Try.func112, Try.ntmps112
   go_wp2_with (first | ((with_reducible refine gate_dst (N := 2) rfl ?_); refine mBx 2 #[.string a0_0, .string a0_1, .bool a0_2] 33 ?_; intro gb146 hg w16 hbox hb; have BK146 := mS (hbox); have GW146 := mG hg (mH HB.out); have GE146 := mG hg (mH HB.out); replace HB := mS (below_step (mH HB.out) hb); clear hb hbox hg) | ((with_reducible refine gate_dst (N := 3) rfl ?_); refine mBx 3 #[.string a1_0, .string a1_1, .bool a1_2] 33 ?_; intro gb147 hg w17 hbox hb; have BK147 := mS (hbox); have GW147 := mG hg (mH1 HB.out GE146.out); have GE147 := mG hg (mH1 HB.out GE146.out); replace HB := mS (below_step (mH1 HB.out GE146.out) hb); have NB146_147 := mNl hg BK146.out; have NB147_146 := mNg hg BK146.out; replace BK146 := mB BK146 hb; clear hb hbox hg; have hnb18 := NB146_147.out; have hnc18 := NB147_146.out; obtain ⟨hcz19_0, hcz19_1, hcz19_2, hfz19_0, hfz19_1, hfz19_2⟩ := mZ3 BK146.out; obtain ⟨hcz20_0, hcz20_1, hcz20_2, hfz20_0, hfz20_1, hfz20_2⟩ := mZ3 BK147.out))
   go_ret
   exact ⟨mEw, (mH2 HB.out GE146.out GE147.out)⟩
 ·rw [if_neg c3] at H
  have c3b0 : (a0_0.toList == a1_0.toList) = false := beq_eq_false_iff_ne.mpr c3
  have c3b1 : (a0_0.toList != a1_0.toList) = true := bne_iff_ne.mpr c3
  obtain rfl := Option.some.inj H
  go_enter Try.func112, Try.ntmps112
  go_wp2_with (first | ((with_reducible refine gate_dst (N := 2) rfl ?_); refine mBx 2 #[.string a0_0, .string a0_1, .bool a0_2] 33 ?_; intro gb146 hg w21 hbox hb; have BK146 := mS (hbox); have GW146 := mG hg (mH HB.out); have GE146 := mG hg (mH HB.out); replace HB := mS (below_step (mH HB.out) hb); clear hb hbox hg) | ((with_reducible refine gate_dst (N := 3) rfl ?_); refine mBx 3 #[.string a1_0, .string a1_1, .bool a1_2] 33 ?_; intro gb147 hg w22 hbox hb; have BK147 := mS (hbox); have GW147 := mG hg (mH1 HB.out GE146.out); have GE147 := mG hg (mH1 HB.out GE146.out); replace HB := mS (below_step (mH1 HB.out GE146.out) hb); have NB146_147 := mNl hg BK146.out; have NB147_146 := mNg hg BK146.out; replace BK146 := mB BK146 hb; clear hb hbox hg; have hnb23 := NB146_147.out; have hnc23 := NB147_146.out; obtain ⟨hcz24_0, hcz24_1, hcz24_2, hfz24_0, hfz24_1, hfz24_2⟩ := mZ3 BK146.out; obtain ⟨hcz25_0, hcz25_1, hcz25_2, hfz25_0, hfz25_1, hfz25_2⟩ := mZ3 BK147.out))
  go_ret
  exact ⟨mEw, (mH2 HB.out GE146.out GE147.out)⟩

/-! ### laws_eqNode: function 154 -/
def laws_eqNode.f (a0_0 : ByteArray) (a0_1 : ByteArray) (a0_2 : Bool) (a0_3 : Int) (a1_0 : ByteArray) (a1_1 : ByteArray) (a1_2 : Bool) (a1_3 : Int) : Option (Bool) := (laws_eqPair.f a0_0 a0_1 a0_2 a1_0 a1_1 a1_2).bind fun t150 => (if t150 = true then (if a0_3 = a1_3 then (some true) else (some false)) else (some false))
set_option maxHeartbeats 8000000 in
set_option maxRecDepth 100000 in
theorem laws_eqNode.calls (a0_0 : ByteArray) (a0_1 : ByteArray) (a0_2 : Bool) (a0_3 : Int) (a1_0 : ByteArray) (a1_1 : ByteArray) (a1_2 : Bool) (a1_3 : Int) (r : Bool) (w : World) (h : laws_eqNode.f a0_0 a0_1 a0_2 a0_3 a1_0 a1_1 a1_2 a1_3 = some r) :
  Calls Try.prog 154 #[.agg #[.string a0_0, .string a0_1, .bool a0_2, .int .i64 a0_3], .agg #[.string a1_0, .string a1_1, .bool a1_2, .int .i64 a1_3]] w fun e w' => e = .returned (.bool r) ∧ Below w.heap.size w w' := by
 have hu35 := Try.underlying35
 have hu33 := Try.underlying33
 have HB := mS (Below.refl w.heap.size w)
 have H : ((laws_eqPair.f a0_0 a0_1 a0_2 a1_0 a1_1 a1_2).bind fun t150 => (if t150 = true then (if a0_3 = a1_3 then (some true) else (some false)) else (some false))) = some r := h
 clear h
 replace H := Option.bind_eq_some_iff.mp H
 obtain ⟨t150, A30, H⟩ := H
 replace H : (if t150 = true then (if a0_3 = a1_3 then (some true) else (some false)) else (some false)) = some r := H
 have A3 := mS A30
 clear A30
 by_cases c4 : t150 = true
 ·subst c4
  have H1 := H
  rw [if_pos rfl] at H1
  clear H
  have H := H1
  clear H1
  by_cases c5 : a0_3 = a1_3
  ·rw [if_pos c5] at H
   have c5b0 : (a0_3 == a1_3) = true := beq_iff_eq.mpr c5
   have c5b1 : (a0_3 != a1_3) = false := bne_eq_false_iff_eq.mpr c5
   clear c5
   obtain rfl := Option.some.inj H
   go_enter Try.func154, Try.ntmps154
   go_wp2_with (first | ((with_reducible refine gate_dst (N := 2) rfl ?_); refine mBx 2 #[.string a0_0, .string a0_1, .bool a0_2, .int .i64 a0_3] 35 ?_; intro gb148 hg w6 hbox hb; have BK148 := mS (hbox); have GW148 := mG hg (mH HB.out); have GE148 := mG hg (mH HB.out); replace HB := mS (below_step (mH HB.out) hb); clear hb hbox hg) | ((with_reducible refine gate_dst (N := 3) rfl ?_); refine mBx 3 #[.string a1_0, .string a1_1, .bool a1_2, .int .i64 a1_3] 35 ?_; intro gb149 hg w7 hbox hb; have BK149 := mS (hbox); have GW149 := mG hg (mH1 HB.out GE148.out); have GE149 := mG hg (mH1 HB.out GE148.out); replace HB := mS (below_step (mH1 HB.out GE148.out) hb); have NB148_149 := mNl hg BK148.out; have NB149_148 := mNg hg BK148.out; replace BK148 := mB BK148 hb; clear hb hbox hg; have hnb8 := NB148_149.out; have hnc8 := NB149_148.out; obtain ⟨hcz9_0, hcz9_1, hcz9_2, hcz9_3, hfz9_0, hfz9_1, hfz9_2, hfz9_3⟩ := mZ4 BK148.out; obtain ⟨hcz10_0, hcz10_1, hcz10_2, hcz10_3, hfz10_0, hfz10_1, hfz10_2, hfz10_3⟩ := mZ4 BK149.out) | ((with_reducible refine gate_callee (f := 112) rfl ?_); refine mGo 9 Try.func112 #[.agg #[.string a0_0, .string a0_1, .bool a0_2], .agg #[.string a1_0, .string a1_1, .bool a1_2]] ?_; (with_reducible refine (laws_eqPair.calls a0_0 a0_1 a0_2 a1_0 a1_1 a1_2 true _ A3.out).mono ?_); rintro e w11 ⟨rfl, hb⟩; refine ⟨_, rfl, ?_⟩; replace BK148 := mB BK148 hb; replace BK149 := mB BK149 hb; replace HB := mS (below_step (mH2 HB.out GE148.out GE149.out) hb); (try clear hb); obtain ⟨hcz12_0, hcz12_1, hcz12_2, hcz12_3, hfz12_0, hfz12_1, hfz12_2, hfz12_3⟩ := mZ4 BK148.out; obtain ⟨hcz13_0, hcz13_1, hcz13_2, hcz13_3, hfz13_0, hfz13_1, hfz13_2, hfz13_3⟩ := mZ4 BK149.out))
   go_ret
   exact ⟨mEw, (mH2 HB.out GE148.out GE149.out)⟩
  ·rw [if_neg c5] at H
   have c5b0 : (a0_3 == a1_3) = false := beq_eq_false_iff_ne.mpr c5
   have c5b1 : (a0_3 != a1_3) = true := bne_iff_ne.mpr c5
   obtain rfl := Option.some.inj H
   go_enter Try.func154, Try.ntmps154
   go_wp2_with (first | ((with_reducible refine gate_dst (N := 2) rfl ?_); refine mBx 2 #[.string a0_0, .string a0_1, .bool a0_2, .int .i64 a0_3] 35 ?_; intro gb148 hg w14 hbox hb; have BK148 := mS (hbox); have GW148 := mG hg (mH HB.out); have GE148 := mG hg (mH HB.out); replace HB := mS (below_step (mH HB.out) hb); clear hb hbox hg) | ((with_reducible refine gate_dst (N := 3) rfl ?_); refine mBx 3 #[.string a1_0, .string a1_1, .bool a1_2, .int .i64 a1_3] 35 ?_; intro gb149 hg w15 hbox hb; have BK149 := mS (hbox); have GW149 := mG hg (mH1 HB.out GE148.out); have GE149 := mG hg (mH1 HB.out GE148.out); replace HB := mS (below_step (mH1 HB.out GE148.out) hb); have NB148_149 := mNl hg BK148.out; have NB149_148 := mNg hg BK148.out; replace BK148 := mB BK148 hb; clear hb hbox hg; have hnb16 := NB148_149.out; have hnc16 := NB149_148.out; obtain ⟨hcz17_0, hcz17_1, hcz17_2, hcz17_3, hfz17_0, hfz17_1, hfz17_2, hfz17_3⟩ := mZ4 BK148.out; obtain ⟨hcz18_0, hcz18_1, hcz18_2, hcz18_3, hfz18_0, hfz18_1, hfz18_2, hfz18_3⟩ := mZ4 BK149.out) | ((with_reducible refine gate_callee (f := 112) rfl ?_); refine mGo 9 Try.func112 #[.agg #[.string a0_0, .string a0_1, .bool a0_2], .agg #[.string a1_0, .string a1_1, .bool a1_2]] ?_; (with_reducible refine (laws_eqPair.calls a0_0 a0_1 a0_2 a1_0 a1_1 a1_2 true _ A3.out).mono ?_); rintro e w19 ⟨rfl, hb⟩; refine ⟨_, rfl, ?_⟩; replace BK148 := mB BK148 hb; replace BK149 := mB BK149 hb; replace HB := mS (below_step (mH2 HB.out GE148.out GE149.out) hb); (try clear hb); obtain ⟨hcz20_0, hcz20_1, hcz20_2, hcz20_3, hfz20_0, hfz20_1, hfz20_2, hfz20_3⟩ := mZ4 BK148.out; obtain ⟨hcz21_0, hcz21_1, hcz21_2, hcz21_3, hfz21_0, hfz21_1, hfz21_2, hfz21_3⟩ := mZ4 BK149.out))
   go_ret
   exact ⟨mEw, (mH2 HB.out GE148.out GE149.out)⟩
 ·replace c4 := Bool.eq_false_iff.mpr c4
  subst c4
  have H1 := H
  rw [if_neg (show ¬ (false = true) by decide)] at H1
  clear H
  have H := H1
  clear H1
  obtain rfl := Option.some.inj H
  go_enter Try.func154, Try.ntmps154
  go_wp2_with (first | ((with_reducible refine gate_dst (N := 2) rfl ?_); refine mBx 2 #[.string a0_0, .string a0_1, .bool a0_2, .int .i64 a0_3] 35 ?_; intro gb148 hg w22 hbox hb; have BK148 := mS (hbox); have GW148 := mG hg (mH HB.out); have GE148 := mG hg (mH HB.out); replace HB := mS (below_step (mH HB.out) hb); clear hb hbox hg) | ((with_reducible refine gate_dst (N := 3) rfl ?_); refine mBx 3 #[.string a1_0, .string a1_1, .bool a1_2, .int .i64 a1_3] 35 ?_; intro gb149 hg w23 hbox hb; have BK149 := mS (hbox); have GW149 := mG hg (mH1 HB.out GE148.out); have GE149 := mG hg (mH1 HB.out GE148.out); replace HB := mS (below_step (mH1 HB.out GE148.out) hb); have NB148_149 := mNl hg BK148.out; have NB149_148 := mNg hg BK148.out; replace BK148 := mB BK148 hb; clear hb hbox hg; have hnb24 := NB148_149.out; have hnc24 := NB149_148.out; obtain ⟨hcz25_0, hcz25_1, hcz25_2, hcz25_3, hfz25_0, hfz25_1, hfz25_2, hfz25_3⟩ := mZ4 BK148.out; obtain ⟨hcz26_0, hcz26_1, hcz26_2, hcz26_3, hfz26_0, hfz26_1, hfz26_2, hfz26_3⟩ := mZ4 BK149.out) | ((with_reducible refine gate_callee (f := 112) rfl ?_); refine mGo 9 Try.func112 #[.agg #[.string a0_0, .string a0_1, .bool a0_2], .agg #[.string a1_0, .string a1_1, .bool a1_2]] ?_; (with_reducible refine (laws_eqPair.calls a0_0 a0_1 a0_2 a1_0 a1_1 a1_2 false _ A3.out).mono ?_); rintro e w27 ⟨rfl, hb⟩; refine ⟨_, rfl, ?_⟩; replace BK148 := mB BK148 hb; replace BK149 := mB BK149 hb; replace HB := mS (below_step (mH2 HB.out GE148.out GE149.out) hb); (try clear hb)))
  go_ret
  exact ⟨mEw, (mH2 HB.out GE148.out GE149.out)⟩

end Go.Proofs.Ytbepbgfkajnlbaa.MFnExactLeaps
