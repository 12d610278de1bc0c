-- Written by mp.py, our own printer (wip/mp.py), and made shorter by wip/mp_shrink*.py.
import Derived.Test.YtgbejjeephipeaaVMShort
import Derived.Test.YtgbejjeephipeaaMFnExactFallx0
import Derived.Test.YtgbejjeephipeaaMFnExactFallx2
namespace Go.Proofs.Ytgbejjeephipeaa.MFnExactFall
open Go.RowKit Go.Proofs.YtgbejjeephipeaaW.PrintWords Go.Proofs.YtgbejjeephipeaaW.PrintLast Go.Proofs.YtgbejjeephipeaaW.PrintMore Go.Proofs.Ytgbejjeephipeaa.MWords
attribute [local go_sem] max2_int min2_int max_two min_two max_three min_three max_four min_four
set_option linter.unusedVariables false
set_option linter.unusedSimpArgs false
def laws_markEntryS.l0 : Nat → List (S126) → Int → Int → Option (Int × (List (S126)))
 | 0, _, _, _ => none
 | k + 1, x0, x1, x5 => if x5 < (x0.length : Int) then ((laws_markText.f k x1).bind fun t123 => (if 0 ≤ x5 then ((some (x0.set (x5 : Int).toNat (⟨t123, (rd_T126 x0 x5).f1⟩ : S126) : List (S126))).bind fun y124 => (laws_markEntryS.l0 k (y124.set (x5 : Int).toNat (⟨(rd_T126 y124 x5).f0, wrap64 (x1 + 1)⟩ : S126)) (wrap64 ((wrap64 (x1 + 1)) + 1)) (wrap64 (x5 + 1)))) else (none))) else (some (x1, x0))
def laws_markEntryS.f (k : Nat) (l0 : List (S126)) (a1 : Int) : Option (Int × (List (S126))) := laws_markEntryS.l0 k l0 a1 0
set_option maxHeartbeats 8000000 in
set_option maxRecDepth 100000 in
theorem laws_markEntryS.calls (k : Nat) (P0_ : Nat → Prop) (u9000_ : Value) (l0 : List (S126)) (a1 : Int) (r1 : Int) (r2 : List (S126)) (w0 w : World) (hB : Below w0.heap.size w0 w) (ho0 : Kd.R k126 126 w w0.heap.size P0_ u9000_ l0) (h : laws_markEntryS.f k l0 a1 = some (r1, r2)) :
  Calls Try.prog 88 #[u9000_, .int .i64 a1] w fun e w' => e = .returned (.int .i64 r1) ∧ Kd.R k126 126 w' w0.heap.size (fun k_ => (P0_ k_ ∨ w.heap.size ≤ k_)) u9000_ r2 ∧ Below w0.heap.size w0 w' ∧ Kept w w' (fun k_ => P0_ k_) := by
 have HO0 := mS (show Kd.R k126 126 w w0.heap.size (fun k_ => (P0_ k_ ∨ w.heap.size ≤ k_)) u9000_ l0 from Kd.R_mono ho0 (fun k_ hk => (.inl hk)))
 have HK := mS (Kept.refl w (fun k_ => P0_ k_))
 have HW0 := mS hB.size
 have HB := mS hB
 clear hB
 have H : (laws_markEntryS.l0 k l0 a1 0) = some (r1, r2) := h
 clear h
 have H' := mS H
 clear H
 go_enter Try.func88, Try.ntmps88
 go_wp2
 go_loopg [1, 5] k (fun kq v1 v5 w' => ∃ (x0_1 : List (S126)) (x1_1 : Int) (x5_1 : Int), v1 = .int .i64 x1_1 ∧ v5 = .int .i64 x5_1 ∧ Aside0 (laws_markEntryS.l0 kq x0_1 x1_1 x5_1 = some (r1, r2)) ∧ Aside0 (kq ≤ k) ∧ Aside0 (Kd.R k126 126 w' w0.heap.size (fun k_ => (P0_ k_ ∨ w.heap.size ≤ k_)) u9000_ x0_1) ∧ Aside0 (Kept w w' (fun k_ => P0_ k_)) ∧ Aside0 (Below w0.heap.size w0 w'))
 case atStart => exact ⟨(l0), (a1), (0), mE, mE, H', ⟨Nat.le_refl _⟩, ⟨mR HO0.out⟩, ⟨(mP HK.out)⟩, ⟨(mH HB.out)⟩⟩
 case round =>
  clear H'
  try clear p2
  obtain ⟨x0_1, x1_1, x5_1, rfl, rfl, HA, HK1, HO_0, HK, HB⟩ := hrel
  cases gk with
  | zero => exact absurd HA.out (by simp [laws_markEntryS.l0])
  | succ k1 =>
   have H := HA.out
   clear HA
   simp only [laws_markEntryS.l0] at H
   by_cases c3 : x5_1 < (x0_1.length : Int)
   ·rw [if_pos c3] at H
    have c3b0 := decide_eq_true c3
    clear c3
    replace H := Option.bind_eq_some_iff.mp H
    obtain ⟨t123, A40, H⟩ := H
    replace H : (if 0 ≤ x5_1 then ((some (x0_1.set (x5_1 : Int).toNat (⟨t123, (rd_T126 x0_1 x5_1).f1⟩ : S126) : List (S126))).bind fun y124 => (laws_markEntryS.l0 k1 (y124.set (x5_1 : Int).toNat (⟨(rd_T126 y124 x5_1).f0, wrap64 (x1_1 + 1)⟩ : S126)) (wrap64 ((wrap64 (x1_1 + 1)) + 1)) (wrap64 (x5_1 + 1)))) else (none)) = some (r1, r2) := H
    have A4 := mS A40
    clear A40
    by_cases c5 : 0 ≤ x5_1
    ·rw [if_pos c5] at H
     have c5b0 := decide_eq_true c5
     clear c5
     obtain ⟨y124, hy124⟩ : ∃ y_ : List (S126), y_ = (x0_1.set (x5_1 : Int).toNat (⟨t123, (rd_T126 x0_1 x5_1).f1⟩ : S126)) := ⟨_, rfl⟩
     replace H : (laws_markEntryS.l0 k1 (y124.set (x5_1 : Int).toNat (⟨(rd_T126 y124 x5_1).f0, wrap64 (x1_1 + 1)⟩ : S126)) (wrap64 ((wrap64 (x1_1 + 1)) + 1)) (wrap64 (x5_1 + 1))) = some (r1, r2) := by first | (rw [hy124]; with_reducible exact H) | (have H2_ := (Option.bind_some _ _).symm.trans H; rw [hy124]; with_reducible exact H2_) | (have H2_ := (Option.bind_some _ _).symm.trans H; with_reducible exact H2_) | with_reducible exact H | (rw [hy124]; exact H) | exact H
     have Ny124 := mS hy124
     clear hy124
     obtain ⟨y125, hy125⟩ : ∃ y_ : List (S126), y_ = (y124.set (x5_1 : Int).toNat (⟨(rd_T126 y124 x5_1).f0, wrap64 (x1_1 + 1)⟩ : S126)) := ⟨_, rfl⟩
     replace H : (laws_markEntryS.l0 k1 y125 (wrap64 ((wrap64 (x1_1 + 1)) + 1)) (wrap64 (x5_1 + 1))) = some (r1, r2) := by first | (rw [hy125]; with_reducible exact H) | (have H2_ := (Option.bind_some _ _).symm.trans H; rw [hy125]; with_reducible exact H2_) | (have H2_ := (Option.bind_some _ _).symm.trans H; with_reducible exact H2_) | with_reducible exact H | (rw [hy125]; exact H) | exact H
     have Ny125 := mS hy125
     clear hy125
     have H' := mS H
     clear H
     obtain ⟨Ao8, co8, eo8⟩ := Kd.R_slice HO_0.out
     subst eo8
     go_wp2_with (first | ((with_reducible refine gate_callee (f := 101) rfl ?_); refine mGo 15 Try.func101 #[.int .i64 x1_1] ?_; (with_reducible refine (laws_markText.calls k1 x1_1 t123 _ A4.out).mono ?_); rintro e w9 ⟨rfl, hb⟩; refine ⟨_, rfl, ?_⟩; replace HO_0 := mS (Kd.R_below (mR HO_0.out) hb); replace HK := mS (Kept.below (S := (fun k_ => P0_ k_)) (mP HK.out) hb); replace HB := mS (below_step (mH HB.out) hb); (try clear hb); have p6 : 0 ≤ (x5_1 : Int) := mD; have q6 : (x5_1 : Int) < ((x0_1.length : Int) : Int) := mD; obtain ⟨go6, co6, eo6, gb6, gl6, cl6, HG6⟩ := Kd.R_form HO_0.out (by omega); (first | cases eo6 | (injection eo6 with ea_ en_ ec_; (first | subst ea_ | (injection ea_ with ea_; subst ea_)); subst ec_; clear en_)); have GB6 := mS gb6; have GG6 := mS HG6; clear gb6 gl6 HG6; have HMgo6 := mS (show (P0_ go6 ∨ w.heap.size ≤ go6) from (HO_0.out.1 _ rfl)); obtain ⟨ce6, hcl6, hM6, hcc6, hfr6⟩ := Kd.R_elem HO_0.out z126 (x5_1 : Int) p6 q6; obtain rfl := k126_openM hM6; have hx6_0 : w9.cell? ⟨go6, (x5_1 : Int).toNat * 2, none⟩ = some (.string ((rd_T126 x0_1 x5_1).f0)) := hcc6 0 _ rfl; have hx6_1 : w9.cell? ⟨go6, (x5_1 : Int).toNat * 2 + 1, none⟩ = some (.int .i64 ((rd_T126 x0_1 x5_1).f1)) := hcc6 1 _ rfl; have hf6_0 : w9.frozen? ⟨go6, (x5_1 : Int).toNat * 2, none⟩ = false := hfr6 0; have hf6_1 : w9.frozen? ⟨go6, (x5_1 : Int).toNat * 2 + 1, none⟩ = false := hfr6 1; clear hcl6 hcc6 hfr6; (try clear hM6); replace p6 := eq_true p6; replace q6 := eq_true q6; have HX10 := mS (show Kd.R k126 126 w9 w0.heap.size (fun k_ => (P0_ k_ ∨ w.heap.size ≤ k_)) (.slice (some ⟨go6, 0, none⟩) x0_1.length co8) x0_1 from (mR HO_0.out)); obtain ⟨ce10, hcl10, hM10, hcc10, hfr10⟩ := Kd.R_elem HX10.out z126 (x5_1 : Int) (mD) (by have h_ : (x5_1 : Int) < ((x0_1.length : Int) : Int) := mD; first | exact h_ | (have e_ := (Kd.R_reads' HO_0.out).1; omega) | simpa using h_); obtain rfl := k126_openM hM10; have HP10 := Kd.R_seg HX10.out (x5_1 : Int) (mD) (by have h_ : (x5_1 : Int) < ((x0_1.length : Int) : Int) := mD; first | exact h_ | (have e_ := (Kd.R_reads' HO_0.out).1; omega) | simpa using h_) (seg := [.string t123]) (j := 0) hcl10 hcc10 (show 1 ≤ 2 from by decide) (x' := (⟨t123, (rd_T126 x0_1 x5_1).f1⟩ : S126)) (k126_mkM _ _ _ (⟨t123, (rd_T126 x0_1 x5_1).f1⟩ : S126) ) (fun _ hk => hk); have hx10_0 := hcc10 0 _ rfl; (try simp only [show (k126).sz = 2 from rfl, Nat.mul_one, Nat.add_zero] at hx10_0); have hf10_0 := hfr10 0; (try simp only [show (k126).sz = 2 from rfl, Nat.mul_one, Nat.add_zero] at hf10_0); clear hcl10 hcc10 hfr10 hM10) | ((with_reducible refine gate_store (t := 9) (p := 17) rfl ?_); refine store_event (t := 9) (p := 17) (v := ?vo_w11) (w1 := (w9.setCell ⟨go6, (x5_1 : Int).toNat * 2, none⟩ (.string t123))) ?hg ?ho ?hn ?hr ?_; (case ho => rfl); (case hg => rfl); (case hn => rfl); (case hr => first | (go_simp; done) | (go_simp; rfl)); intro w11 hw; have hg : w9.grownBy w11 (some go6) := (by rw [hw]; exact HP10.2); have hp_ : Kd.R k126 126 w11 w0.heap.size (fun k_ => (P0_ k_ ∨ w.heap.size ≤ k_)) (.slice (some ⟨go6, 0, none⟩) x0_1.length co8) y124 := (by rw [hw, Ny124.out]; exact HP10.1); clear HP10; replace HB := mS ((by rw [hw]; exact below_set (HB.out) GB6.out : Below w0.heap.size w0 w11)); replace HK := mS (Kept.of_grown (S := (fun k_ => P0_ k_)) hg (mP HK.out) (fun k_ e_ => (HO_0.out.1 k_ e_))); replace HO_0 := mS (hp_); clear hg hw hp_; have p7 : 0 ≤ (x5_1 : Int) := mD; have q7 : (x5_1 : Int) < ((x0_1.length : Int) : Int) := mD; obtain ⟨ce7, hcl7, hM7, hcc7, hfr7⟩ := Kd.R_elem HO_0.out z126 (x5_1 : Int) p7 q7; obtain rfl := k126_openM hM7; have hx7_0 : w11.cell? ⟨go6, (x5_1 : Int).toNat * 2, none⟩ = some (.string ((rd_T126 y124 x5_1).f0)) := hcc7 0 _ rfl; have hx7_1 : w11.cell? ⟨go6, (x5_1 : Int).toNat * 2 + 1, none⟩ = some (.int .i64 ((rd_T126 y124 x5_1).f1)) := hcc7 1 _ rfl; have hf7_0 : w11.frozen? ⟨go6, (x5_1 : Int).toNat * 2, none⟩ = false := hfr7 0; have hf7_1 : w11.frozen? ⟨go6, (x5_1 : Int).toNat * 2 + 1, none⟩ = false := hfr7 1; clear hcl7 hcc7 hfr7; (try clear hM7); replace p7 := eq_true p7; replace q7 := eq_true q7; have HX12 := mS (show Kd.R k126 126 w11 w0.heap.size (fun k_ => (P0_ k_ ∨ w.heap.size ≤ k_)) (.slice (some ⟨go6, 0, none⟩) x0_1.length co8) y124 from (mR HO_0.out)); obtain ⟨ce12, hcl12, hM12, hcc12, hfr12⟩ := Kd.R_elem HX12.out z126 (x5_1 : Int) (mD) (by have h_ : (x5_1 : Int) < ((x0_1.length : Int) : Int) := mD; first | exact h_ | (have e_ := (Kd.R_reads' HO_0.out).1; omega) | simpa using h_); obtain rfl := k126_openM hM12; have HP12 := Kd.R_seg HX12.out (x5_1 : Int) (mD) (by have h_ : (x5_1 : Int) < ((x0_1.length : Int) : Int) := mD; first | exact h_ | (have e_ := (Kd.R_reads' HO_0.out).1; omega) | simpa using h_) (seg := [.int .i64 (wrap64 (x1_1 + 1))]) (j := 1) hcl12 hcc12 (show 2 ≤ 2 from by decide) (x' := (⟨(rd_T126 y124 x5_1).f0, wrap64 (x1_1 + 1)⟩ : S126)) (k126_mkM _ _ _ (⟨(rd_T126 y124 x5_1).f0, wrap64 (x1_1 + 1)⟩ : S126) ) (fun _ hk => hk); have hx12_1 := hcc12 1 _ rfl; (try simp only [show (k126).sz = 2 from rfl, Nat.mul_one, Nat.add_zero] at hx12_1); have hf12_1 := hfr12 1; (try simp only [show (k126).sz = 2 from rfl, Nat.mul_one, Nat.add_zero] at hf12_1); clear hcl12 hcc12 hfr12 hM12) | ((with_reducible refine gate_store (t := 3) (p := 24) rfl ?_); refine store_event (t := 3) (p := 24) (v := ?vo_w13) (w1 := (w11.setCell ⟨go6, (x5_1 : Int).toNat * 2 + 1, none⟩ (.int .i64 (wrap64 (x1_1 + 1))))) ?hg ?ho ?hn ?hr ?_; (case ho => rfl); (case hg => rfl); (case hn => rfl); (case hr => first | (go_simp; done) | (go_simp; rfl)); intro w13 hw; have hg : w11.grownBy w13 (some go6) := (by rw [hw]; exact HP12.2); have hp_ : Kd.R k126 126 w13 w0.heap.size (fun k_ => (P0_ k_ ∨ w.heap.size ≤ k_)) (.slice (some ⟨go6, 0, none⟩) x0_1.length co8) y125 := (by rw [hw, Ny125.out]; exact HP12.1); clear HP12; replace HB := mS ((by rw [hw]; exact below_set (HB.out) GB6.out : Below w0.heap.size w0 w13)); replace HK := mS (Kept.of_grown (S := (fun k_ => P0_ k_)) hg (mP HK.out) (fun k_ e_ => (HO_0.out.1 k_ e_))); replace HO_0 := mS (hp_); clear hg hw hp_))
     go_roundg k1
     case measure => have := HK1.out; omega
     case rel => exact ⟨(y125), (wrap64 ((wrap64 (x1_1 + 1)) + 1)), (wrap64 (x5_1 + 1)), mE, mE, H', ⟨by have := HK1.out; omega⟩, ⟨mR HO_0.out⟩, ⟨(mP HK.out)⟩, ⟨(mH HB.out)⟩⟩
    ·rw [if_neg c5] at H
     exact absurd H (by simp)
   ·rw [if_neg c3] at H
    have c3b0 := decide_eq_false c3
    clear c3
    simp only [Option.some.injEq, Prod.mk.injEq] at H
    obtain ⟨rfl, rfl⟩ := H
    obtain ⟨Ao14, co14, eo14⟩ := Kd.R_slice HO_0.out
    subst eo14
    go_wp2
    go_ret
    exact ⟨mEw, mR HO_0.out, (mH HB.out), (mP HK.out)⟩
def laws_markDisk.f (k : Nat) (l0_0 : List S120) (l0_1 : List S126) (l0_2 : List S126) (a0_3 : Int) (a1 : Int) : Option (Int × List S120 × List S126 × List S126) := (laws_markInodeS.f k l0_0 a1).bind fun x => (laws_markEntryS.f k l0_1 x.1).bind fun y => (laws_markEntryS.f k l0_2 y.1).bind fun z => (some (z.1, x.2, y.2, z.2))
theorem laws_markDisk.apart {w : World} {b : Nat} {P : Nat → Prop} {u : Value} {l : List S126} (h : Kd.R k126 126 w b P u l) : ∀ k, some k = u.ownBlock → ¬ (∃ q, q ∈ 120 :: (k120).E ∧ ∃ cells, w.heap[k]? = some (.cells cells q (0, 0))) := by
 intro k hk ⟨q, hq, cells, hc⟩
 obtain ⟨c2, h2⟩ := Kd.R_typed h k hk.symm
 rw [h2] at hc
 injection hc with hc
 injection hc with _ hc
 exact absurd hc.symm ((by decide : ∀ q, q ∈ 120 :: (k120).E → q ≠ 126) q hq)
theorem laws_markDisk.apartB {w : World} {g : Nat} {cs : Array Value} (h : w.heap[g]? = some (.cells cs 63 (0, 0))) : ¬ (∃ q, q ∈ 120 :: (k120).E ∧ ∃ cells, w.heap[g]? = some (.cells cells q (0, 0))) := by
 rintro ⟨q, hq, cells, hc⟩
 rw [h] at hc
 injection hc with hc
 injection hc with _ hc
 exact absurd hc.symm ((by decide : ∀ q, q ∈ 120 :: (k120).E → q ≠ 63) q hq)
set_option maxHeartbeats 8000000 in
set_option maxRecDepth 100000 in
theorem laws_markDisk.calls (k : Nat) (P0_0_ : Nat → Prop) (u9000_ : Value) (l0_0 : List S120) (P0_1_ : Nat → Prop) (u9001_ : Value) (l0_1 : List S126) (P0_2_ : Nat → Prop) (u9002_ : Value) (l0_2 : List S126) (a0_3 : Int) (a1 : Int) (r1 : Int) (r2 : List S120) (r3 r4 : List S126) (w0 w : World) (hB : Below w0.heap.size w0 w) (ho0_0 : Kd.S k120 120 w w0.heap.size P0_0_ u9000_ l0_0) (ho0_1 : Kd.R k126 126 w w0.heap.size P0_1_ u9001_ l0_1) (hp0_1 : ∀ k_, P0_1_ k_ → some k_ ≠ u9002_.ownBlock) (ho0_2 : Kd.R k126 126 w w0.heap.size P0_2_ u9002_ l0_2) (hp0_2 : ∀ k_, P0_2_ k_ → some k_ ≠ u9001_.ownBlock) (h : laws_markDisk.f k l0_0 l0_1 l0_2 a0_3 a1 = some (r1, r2, r3, r4)) :
  Calls Try.prog 41 #[.agg #[u9000_, u9001_, u9002_, .int .i64 a0_3], .int .i64 a1] w fun e w' => e = .returned (.int .i64 r1) ∧ Kd.S k120 120 w' w0.heap.size P0_0_ u9000_ r2 ∧ Kd.R k126 126 w' w0.heap.size P0_1_ u9001_ r3 ∧ Kd.R k126 126 w' w0.heap.size P0_2_ u9002_ r4 ∧ Below w0.heap.size w0 w' ∧ Kept w w' (fun k_ => P0_0_ k_ ∨ P0_1_ k_ ∨ P0_2_ k_) := by
 have hu63 := Try.underlying63
 have HO0 := mS ho0_0
 have HO1 := mS ho0_1
 have HO2 := mS ho0_2
 have HP1 := mS hp0_1
 have HP2 := mS hp0_2
 have HQ1 := mS (fun k_ e_ => ho0_1.1 k_ e_)
 have HQ2 := mS (fun k_ e_ => ho0_2.1 k_ e_)
 have HK := mS (Kept.refl w (fun k_ => P0_0_ k_ ∨ P0_1_ k_ ∨ P0_2_ k_))
 have HB := mS hB
 clear hB ho0_0 ho0_1 ho0_2 hp0_1 hp0_2
 unfold laws_markDisk.f at h
 obtain ⟨⟨x1, x2⟩, hx, h⟩ := Option.bind_eq_some_iff.mp h
 obtain ⟨⟨y1, y2⟩, hy, h⟩ := Option.bind_eq_some_iff.mp h
 obtain ⟨⟨z1, z2⟩, hz, h⟩ := Option.bind_eq_some_iff.mp h
 simp only [Option.some.injEq, Prod.mk.injEq] at h
 obtain ⟨rfl, rfl, rfl, rfl⟩ := h
 have AX := mS hx
 have AY := mS hy
 have AZ := mS hz
 clear hx hy hz
 obtain ⟨A0, c0, e0⟩ := Kd.S_slice HO0.out
 subst e0
 obtain ⟨A1, c1, e1⟩ := Kd.R_slice HO1.out
 subst e1
 obtain ⟨A2, c2, e2⟩ := Kd.R_slice HO2.out
 subst e2
 go_enter Try.func41, Try.ntmps41
 go_wp2_with (first | ((with_reducible refine gate_dst (N := 2) rfl ?_); refine mBx 2 #[.slice A0 l0_0.length c0, .slice A1 l0_1.length c1, .slice A2 l0_2.length c2, .int .i64 a0_3] 63 ?_; intro gb hg w5 hbox hb; replace HO0 := mS (Kd.S_bound (Kd.S_below (mSd HO0.out) hb)); replace HO1 := mS (Kd.R_below (mR HO1.out) hb); replace HO2 := mS (Kd.R_below (mR HO2.out) hb); have BK := mS (hbox); replace HK := mS (Kept.below (S := (fun k_ => P0_0_ k_ ∨ P0_1_ k_ ∨ P0_2_ k_)) (mP HK.out) hb); replace HB := mS (below_step (mH HB.out) hb); clear hb hbox hg; have hcz_0 : w5.cell? ⟨gb, 0, none⟩ = some (.slice A0 l0_0.length c0) := (blk_cell BK.out 0).trans rfl; have hfz_0 := blk_frozen BK.out 0) | ((with_reducible refine gate_callee (f := 87) rfl ?_); refine goesL_ (some 8) rfl rfl Try.func87 (by kernel_rfl) rfl #[.slice A0 l0_0.length c0, .int .i64 a1] rfl (by (try simp only [List.map_toArray, List.map_cons, List.map_nil]); first | done | rfl) ?_; (refine (laws_markInodeS.calls k _ (.slice A0 l0_0.length c0) l0_0 a1 x1 x2 w0 _ HB.out HO0.out AX.out).mono ?_); rintro e w7 ⟨rfl, hy0, hb, hkp⟩; refine ⟨_, rfl, ?_⟩; replace HK := mS (Kept.then_ (S := (fun k_ => P0_0_ k_ ∨ P0_1_ k_ ∨ P0_2_ k_)) (mP HK.out) hkp (fun k_ hs_ => .inl (.inl hs_.1))); replace HO1 := mS (Kd.R_kept (Kd.R_tight rfl HO1.out) hkp (fun k_ e_ hs_ => laws_markDisk.apart HO1.out k_ e_ hs_.2.2.2)); replace HO2 := mS (Kd.R_kept (Kd.R_tight rfl HO2.out) hkp (fun k_ e_ hs_ => laws_markDisk.apart HO2.out k_ e_ hs_.2.2.2)); replace BK := mS (blk_kept BK.out hkp (fun hs_ => laws_markDisk.apartB BK.out hs_.2.2.2)); replace HO0 := mS (Kd.S_bound (Kd.S_mono (ok' := P0_0_) hy0 (fun k_ hk => hk.1))); replace HB := mS (hb); (try clear hb); (try clear hkp); (try clear hy0); clear hcz_0 hfz_0; have hcy_1 : w7.cell? ⟨gb, 1, none⟩ = some (.slice A1 l0_1.length c1) := (blk_cell BK.out 1).trans rfl; have hfy_1 := blk_frozen BK.out 1) | ((with_reducible refine gate_callee (f := 88) rfl ?_); refine goesL_ (some 12) rfl rfl Try.func88 (by kernel_rfl) rfl #[.slice A1 l0_1.length c1, .int .i64 x1] rfl (by (try simp only [List.map_toArray, List.map_cons, List.map_nil]); first | done | rfl) ?_; (refine (laws_markEntryS.calls k (fun k_ => some k_ = (.slice A1 l0_1.length c1 : Value).ownBlock) (.slice A1 l0_1.length c1) l0_1 x1 y1 y2 w0 _ HB.out (Kd.R_tight rfl HO1.out) AY.out).mono ?_); rintro e w8 ⟨rfl, hy0, hb, hkp⟩; refine ⟨_, rfl, ?_⟩; replace HK := mS (Kept.then_ (S := (fun k_ => P0_0_ k_ ∨ P0_1_ k_ ∨ P0_2_ k_)) HK.out hkp (fun k_ hs_ => .inl (.inr (.inl (HQ1.out k_ hs_.symm))))); replace HO0 := mS (Kd.S_bound (Kd.S_mono (ok' := P0_0_) (Kd.S_kept HO0.out hkp (fun k_ hk hs_ => laws_markDisk.apart HO1.out k_ hs_ hk.2.2.2)) (fun k_ hk => hk.1))); replace HO2 := mS (Kd.R_kept (Kd.R_tight rfl HO2.out) hkp (fun k_ e_ hs_ => HP2.out k_ (HQ2.out k_ e_.symm) hs_)); replace BK := mS (blk_kept BK.out hkp (fun hs_ => Kd.R_ne HO1.out BK.out (by decide) hs_)); replace HO1 := mS (Kd.R_reok (ok := P0_1_) rfl hy0 (fun k_ e_ => HQ1.out k_ e_)); replace HB := mS (hb); (try clear hb); (try clear hkp); (try clear hy0); clear hcy_1 hfy_1; have hcx_2 : w8.cell? ⟨gb, 2, none⟩ = some (.slice A2 l0_2.length c2) := (blk_cell BK.out 2).trans rfl; have hfx_2 := blk_frozen BK.out 2) | ((with_reducible refine gate_callee (f := 88) rfl ?_); refine goesL_ (some 16) rfl rfl Try.func88 (by kernel_rfl) rfl #[.slice A2 l0_2.length c2, .int .i64 y1] rfl (by (try simp only [List.map_toArray, List.map_cons, List.map_nil]); first | done | rfl) ?_; (refine (laws_markEntryS.calls k (fun k_ => some k_ = (.slice A2 l0_2.length c2 : Value).ownBlock) (.slice A2 l0_2.length c2) l0_2 y1 z1 z2 w0 _ HB.out (Kd.R_tight rfl HO2.out) AZ.out).mono ?_); rintro e w9 ⟨rfl, hy0, hb, hkp⟩; refine ⟨_, rfl, ?_⟩; replace HK := mS (Kept.then_ (S := (fun k_ => P0_0_ k_ ∨ P0_1_ k_ ∨ P0_2_ k_)) HK.out hkp (fun k_ hs_ => .inl (.inr (.inr (HQ2.out k_ hs_.symm))))); replace HO0 := mS (Kd.S_mono (ok' := P0_0_) (Kd.S_kept HO0.out hkp (fun k_ hk hs_ => laws_markDisk.apart HO2.out k_ hs_ hk.2.2.2)) (fun k_ hk => hk.1)); replace HO1 := mS (Kd.R_reok (ok := P0_1_) rfl (Kd.R_kept (Kd.R_tight rfl HO1.out) hkp (fun k_ e_ hs_ => HP1.out k_ (HQ1.out k_ e_.symm) hs_)) (fun k_ e_ => HQ1.out k_ e_)); replace HO2 := mS (Kd.R_reok (ok := P0_2_) rfl hy0 (fun k_ e_ => HQ2.out k_ e_)); replace HB := mS (hb); (try clear hb); (try clear hkp); (try clear hy0); clear hcx_2 hfx_2))
 go_ret
 exact ⟨rfl, mSd HO0.out, mR HO1.out, mR HO2.out, (mH HB.out), (mP HK.out)⟩
def laws_heldByteS.l0 : Nat → List Int → Int → Int → Option (Int)
 | 0, _, _, _ => none
 | k + 1, x0, x1, x5 => if x5 < (x0.length : Int) then (if 0 ≤ x5 then (if (rd x0 x5) = ((x1) % 256) then (laws_heldByteS.l0 k x0 (wrap64 (x1 + 1)) (wrap64 (x5 + 1))) else (some (-1))) else (none)) else (some x1)
def laws_heldByteS.f (k : Nat) (l0 : List Int) (a1 : Int) : Option (Int) := laws_heldByteS.l0 k l0 a1 0
set_option maxHeartbeats 8000000 in
set_option maxRecDepth 100000 in
theorem laws_heldByteS.calls (k : Nat) (A0 : Option Addr) (c0 : Nat) (l0 : List Int) (a1 : Int) (r : Int) (w : World) (hr0 : Kd.C (Kd.int .u8) w A0 l0.length l0) (hc0 : l0.length ≤ c0) (h : laws_heldByteS.f k l0 a1 = some r) :
  Calls Try.prog 56 #[.slice A0 l0.length c0, .int .i64 a1] w fun e w' => e = .returned (.int .i64 r) ∧ Drawn0 w w' := by
 have HR0 := mS hr0
 have HC0 := mS hc0
 clear hr0 hc0
 have H : (laws_heldByteS.l0 k l0 a1 0) = some r := h
 clear h
 have H' := mS H
 clear H
 go_enter Try.func56, Try.ntmps56
 go_wp2
 go_loopg [1, 5] k (fun kq v1 v5 w' => ∃ (x1_1 : Int) (x5_1 : Int), v1 = .int .i64 x1_1 ∧ v5 = .int .i64 x5_1 ∧ Aside0 (laws_heldByteS.l0 kq l0 x1_1 x5_1 = some r) ∧ Aside0 (kq ≤ k) ∧ Drawn0 w w')
 case atStart => exact ⟨(a1), (0), mE, mE, H', ⟨Nat.le_refl _⟩, by repeat (first | exact Drawn0.refl _ | apply Drawn0.step)⟩
 case round =>
  clear H'
  try clear p2
  obtain ⟨x1_1, x5_1, rfl, rfl, HA, HK1, ⟨m1, rfl⟩⟩ := hrel
  cases gk with
  | zero => exact absurd HA.out (by simp [laws_heldByteS.l0])
  | succ k1 =>
   have H := HA.out
   clear HA
   simp only [laws_heldByteS.l0] at H
   by_cases c3 : x5_1 < (l0.length : Int)
   ·rw [if_pos c3] at H
    have c3b0 := decide_eq_true c3
    clear c3
    by_cases c4 : 0 ≤ x5_1
    ·rw [if_pos c4] at H
     have c4b0 := decide_eq_true c4
     clear c4
     by_cases c5 : (rd l0 x5_1) = ((x1_1) % 256)
     ·rw [if_pos c5] at H
      have c5b0 : ((rd l0 x5_1) == ((x1_1) % 256)) = true := beq_iff_eq.mpr c5
      have c5b1 : ((rd l0 x5_1) != ((x1_1) % 256)) = false := bne_eq_false_iff_eq.mpr c5
      clear c5
      have H' := mS H
      clear H
      have p126 : 0 ≤ (x5_1 : Int) := mD
      have q126 : x5_1 < (l0.length : Int) := mD
      obtain ⟨ad126, e126, hx126_0⟩ := Kd.at_int HR0.out x5_1 p126 q126
      cases e126
      replace p126 := eq_true p126
      replace q126 := eq_true q126
      go_wp2
      go_roundg k1
      case measure => have := HK1.out; omega
      case rel => exact ⟨(wrap64 (x1_1 + 1)), (wrap64 (x5_1 + 1)), mE, mE, H', ⟨by have := HK1.out; omega⟩, by repeat (first | exact Drawn0.refl _ | apply Drawn0.step)⟩
     ·rw [if_neg c5] at H
      have c5b0 : ((rd l0 x5_1) == ((x1_1) % 256)) = false := beq_eq_false_iff_ne.mpr c5
      have c5b1 : ((rd l0 x5_1) != ((x1_1) % 256)) = true := bne_iff_ne.mpr c5
      obtain rfl := Option.some.inj H
      have p126 : 0 ≤ (x5_1 : Int) := mD
      have q126 : x5_1 < (l0.length : Int) := mD
      obtain ⟨ad126, e126, hx126_0⟩ := Kd.at_int HR0.out x5_1 p126 q126
      cases e126
      replace p126 := eq_true p126
      replace q126 := eq_true q126
      go_wp2
      go_ret
      exact ⟨mE, by repeat (first | exact Drawn0.refl _ | apply Drawn0.step)⟩
    ·rw [if_neg c4] at H
     exact absurd H (by simp)
   ·rw [if_neg c3] at H
    have c3b0 := decide_eq_false c3
    clear c3
    obtain rfl := Option.some.inj H
    go_wp2
    go_ret
    exact ⟨mE, by repeat (first | exact Drawn0.refl _ | apply Drawn0.step)⟩
def laws_heldInodeS.l0 : Nat → List (S120) → Int → Int → Option (Int)
 | 0, _, _, _ => none
 | k + 1, x0, x1, x5 => if x5 < (x0.length : Int) then (if 0 ≤ x5 then (if ((rd_T120 x0 x5).f0) = x1 then ((laws_heldByteS.f k ((rd_T120 x0 x5).f1) (wrap64 (x1 + 1))).bind fun t129 => (if t129 < 0 then (some (-1)) else (if ((rd_T120 x0 x5).f2) = t129 then (laws_heldInodeS.l0 k x0 (wrap64 (t129 + 1)) (wrap64 (x5 + 1))) else (some (-1))))) else (some (-1))) else (none)) else (some x1)
def laws_heldInodeS.f (k : Nat) (l0 : List (S120)) (a1 : Int) : Option (Int) := laws_heldInodeS.l0 k l0 a1 0
set_option maxHeartbeats 8000000 in
set_option maxRecDepth 100000 in
theorem laws_heldInodeS.calls (k : Nat) (A0 : Option Addr) (c0 : Nat) (l0 : List (S120)) (a1 : Int) (r : Int) (w : World) (hr0 : Kd.C k120 w A0 l0.length l0) (hc0 : l0.length ≤ c0) (h : laws_heldInodeS.f k l0 a1 = some r) :
  Calls Try.prog 89 #[.slice A0 l0.length c0, .int .i64 a1] w fun e w' => e = .returned (.int .i64 r) ∧ Drawn0 w w' := by
 have HR0 := mS hr0
 have HC0 := mS hc0
 clear hr0 hc0
 have H : (laws_heldInodeS.l0 k l0 a1 0) = some r := h
 clear h
 have H' := mS H
 clear H
 go_enter Try.func89, Try.ntmps89
 go_wp2
 go_loopg [1, 5] k (fun kq v1 v5 w' => ∃ (x1_1 : Int) (x5_1 : Int), v1 = .int .i64 x1_1 ∧ v5 = .int .i64 x5_1 ∧ Aside0 (laws_heldInodeS.l0 kq l0 x1_1 x5_1 = some r) ∧ Aside0 (kq ≤ k) ∧ Drawn0 w w')
 case atStart => exact ⟨(a1), (0), mE, mE, H', ⟨Nat.le_refl _⟩, by repeat (first | exact Drawn0.refl _ | apply Drawn0.step)⟩
 case round =>
  clear H'
  try clear p2
  obtain ⟨x1_1, x5_1, rfl, rfl, HA, HK1, ⟨m1, rfl⟩⟩ := hrel
  cases gk with
  | zero => exact absurd HA.out (by simp [laws_heldInodeS.l0])
  | succ k1 =>
   have H := HA.out
   clear HA
   simp only [laws_heldInodeS.l0] at H
   by_cases c3 : x5_1 < (l0.length : Int)
   ·rw [if_pos c3] at H
    have c3b0 := decide_eq_true c3
    clear c3
    by_cases c4 : 0 ≤ x5_1
    ·rw [if_pos c4] at H
     have c4b0 := decide_eq_true c4
     clear c4
     by_cases c5 : ((rd_T120 l0 x5_1).f0) = x1_1
     ·rw [if_pos c5] at H
      have c5b0 : (((rd_T120 l0 x5_1).f0) == x1_1) = true := beq_iff_eq.mpr c5
      have c5b1 : (((rd_T120 l0 x5_1).f0) != x1_1) = false := bne_eq_false_iff_eq.mpr c5
      clear c5
      replace H := Option.bind_eq_some_iff.mp H
      obtain ⟨t129, A60, H⟩ := H
      replace H : (if t129 < 0 then (some (-1)) else (if ((rd_T120 l0 x5_1).f2) = t129 then (laws_heldInodeS.l0 k1 l0 (wrap64 (t129 + 1)) (wrap64 (x5_1 + 1))) else (some (-1)))) = some r := H
      have A6 := mS A60
      clear A60
      by_cases c7 : t129 < 0
      ·rw [if_pos c7] at H
       have c7b0 := decide_eq_true c7
       clear c7
       obtain rfl := Option.some.inj H
       have p127 : 0 ≤ (x5_1 : Int) := mD
       have q127 : x5_1 < (l0.length : Int) := mD
       obtain ⟨ad127, A127_1, c127_1, e127, hx127_0, hx127_1, hx127_2, hl127_1, hi127_1⟩ := at_T120 HR0.out x5_1 p127 q127
       cases e127
       have HR127_1 := mS hi127_1
       have HC127_1 := mS hl127_1
       clear hi127_1 hl127_1
       replace p127 := eq_true p127
       replace q127 := eq_true q127
       have p128 : 0 ≤ (x5_1 : Int) := mD
       have q128 : x5_1 < (l0.length : Int) := mD
       obtain ⟨ad128, A128_1, c128_1, e128, hx128_0, hx128_1, hx128_2, hl128_1, hi128_1⟩ := at_T120 HR0.out x5_1 p128 q128
       obtain rfl : ad127 = ad128 := (by injection e128)
       have HR128_1 := mS hi128_1
       have HC128_1 := mS hl128_1
       clear hi128_1 hl128_1
       replace p128 := eq_true p128
       replace q128 := eq_true q128
       have ea_ := Option.some.inj (hx127_1.symm.trans hx128_1)
       injection ea_ with ea_ en_ ec_
       subst ea_
       subst ec_
       clear en_
       go_wp2_with (first | ((with_reducible refine gate_callee (f := 56) rfl ?_); refine mGo 27 Try.func56 #[.slice A127_1 ((rd_T120 l0 x5_1).f1).length c127_1, .int .i64 (wrap64 (x1_1 + 1))] ?_; (with_reducible refine (laws_heldByteS.calls k1 _ _ ((rd_T120 l0 x5_1).f1) (wrap64 (x1_1 + 1)) t129 _ ?side1 ?side2 A6.out).mono ?_); (case side1 => exact mC HR128_1.out); (case side2 => exact HC128_1.out); rintro e w' ⟨rfl, ⟨nd, rfl⟩⟩; refine ⟨_, rfl, ?_⟩))
       go_ret
       exact ⟨mE, by repeat (first | exact Drawn0.refl _ | apply Drawn0.step)⟩
      ·rw [if_neg c7] at H
       have c7b0 := decide_eq_false c7
       clear c7
       by_cases c8 : ((rd_T120 l0 x5_1).f2) = t129
       ·rw [if_pos c8] at H
        have c8b0 : (((rd_T120 l0 x5_1).f2) == t129) = true := beq_iff_eq.mpr c8
        have c8b1 : (((rd_T120 l0 x5_1).f2) != t129) = false := bne_eq_false_iff_eq.mpr c8
        clear c8
        have H' := mS H
        clear H
        have p127 : 0 ≤ (x5_1 : Int) := mD
        have q127 : x5_1 < (l0.length : Int) := mD
        obtain ⟨ad127, A127_1, c127_1, e127, hx127_0, hx127_1, hx127_2, hl127_1, hi127_1⟩ := at_T120 HR0.out x5_1 p127 q127
        cases e127
        have HR127_1 := mS hi127_1
        have HC127_1 := mS hl127_1
        clear hi127_1 hl127_1
        replace p127 := eq_true p127
        replace q127 := eq_true q127
        have p128 : 0 ≤ (x5_1 : Int) := mD
        have q128 : x5_1 < (l0.length : Int) := mD
        obtain ⟨ad128, A128_1, c128_1, e128, hx128_0, hx128_1, hx128_2, hl128_1, hi128_1⟩ := at_T120 HR0.out x5_1 p128 q128
        obtain rfl : ad127 = ad128 := (by injection e128)
        have HR128_1 := mS hi128_1
        have HC128_1 := mS hl128_1
        clear hi128_1 hl128_1
        replace p128 := eq_true p128
        replace q128 := eq_true q128
        have ea_ := Option.some.inj (hx127_1.symm.trans hx128_1)
        injection ea_ with ea_ en_ ec_
        subst ea_
        subst ec_
        clear en_
        go_wp2_with (first | ((with_reducible refine gate_callee (f := 56) rfl ?_); refine mGo 27 Try.func56 #[.slice A127_1 ((rd_T120 l0 x5_1).f1).length c127_1, .int .i64 (wrap64 (x1_1 + 1))] ?_; (with_reducible refine (laws_heldByteS.calls k1 _ _ ((rd_T120 l0 x5_1).f1) (wrap64 (x1_1 + 1)) t129 _ ?side1 ?side2 A6.out).mono ?_); (case side1 => exact mC HR128_1.out); (case side2 => exact HC128_1.out); rintro e w' ⟨rfl, ⟨nd, rfl⟩⟩; refine ⟨_, rfl, ?_⟩; have p130 : 0 ≤ (x5_1 : Int) := mD; have q130 : x5_1 < (l0.length : Int) := mD; obtain ⟨ad130, A130_1, c130_1, e130, hx130_0, hx130_1, hx130_2, hl130_1, hi130_1⟩ := at_T120 HR0.out x5_1 p130 q130; obtain rfl : ad127 = ad130 := (by injection e130); have HR130_1 := mS hi130_1; have HC130_1 := mS hl130_1; clear hi130_1 hl130_1; replace p130 := eq_true p130; replace q130 := eq_true q130; have ea_ := Option.some.inj (hx127_1.symm.trans hx130_1); injection ea_ with ea_ en_ ec_; subst ea_; subst ec_; clear en_))
        go_roundg k1
        case measure => have := HK1.out; omega
        case rel => exact ⟨(wrap64 (t129 + 1)), (wrap64 (x5_1 + 1)), mE, mE, H', ⟨by have := HK1.out; omega⟩, by repeat (first | exact Drawn0.refl _ | apply Drawn0.step)⟩
       ·rw [if_neg c8] at H
        have c8b0 : (((rd_T120 l0 x5_1).f2) == t129) = false := beq_eq_false_iff_ne.mpr c8
        have c8b1 : (((rd_T120 l0 x5_1).f2) != t129) = true := bne_iff_ne.mpr c8
        obtain rfl := Option.some.inj H
        have p127 : 0 ≤ (x5_1 : Int) := mD
        have q127 : x5_1 < (l0.length : Int) := mD
        obtain ⟨ad127, A127_1, c127_1, e127, hx127_0, hx127_1, hx127_2, hl127_1, hi127_1⟩ := at_T120 HR0.out x5_1 p127 q127
        cases e127
        have HR127_1 := mS hi127_1
        have HC127_1 := mS hl127_1
        clear hi127_1 hl127_1
        replace p127 := eq_true p127
        replace q127 := eq_true q127
        have p128 : 0 ≤ (x5_1 : Int) := mD
        have q128 : x5_1 < (l0.length : Int) := mD
        obtain ⟨ad128, A128_1, c128_1, e128, hx128_0, hx128_1, hx128_2, hl128_1, hi128_1⟩ := at_T120 HR0.out x5_1 p128 q128
        obtain rfl : ad127 = ad128 := (by injection e128)
        have HR128_1 := mS hi128_1
        have HC128_1 := mS hl128_1
        clear hi128_1 hl128_1
        replace p128 := eq_true p128
        replace q128 := eq_true q128
        have ea_ := Option.some.inj (hx127_1.symm.trans hx128_1)
        injection ea_ with ea_ en_ ec_
        subst ea_
        subst ec_
        clear en_
        go_wp2_with (first | ((with_reducible refine gate_callee (f := 56) rfl ?_); refine mGo 27 Try.func56 #[.slice A127_1 ((rd_T120 l0 x5_1).f1).length c127_1, .int .i64 (wrap64 (x1_1 + 1))] ?_; (with_reducible refine (laws_heldByteS.calls k1 _ _ ((rd_T120 l0 x5_1).f1) (wrap64 (x1_1 + 1)) t129 _ ?side1 ?side2 A6.out).mono ?_); (case side1 => exact mC HR128_1.out); (case side2 => exact HC128_1.out); rintro e w' ⟨rfl, ⟨nd, rfl⟩⟩; refine ⟨_, rfl, ?_⟩; have p130 : 0 ≤ (x5_1 : Int) := mD; have q130 : x5_1 < (l0.length : Int) := mD; obtain ⟨ad130, A130_1, c130_1, e130, hx130_0, hx130_1, hx130_2, hl130_1, hi130_1⟩ := at_T120 HR0.out x5_1 p130 q130; obtain rfl : ad127 = ad130 := (by injection e130); have HR130_1 := mS hi130_1; have HC130_1 := mS hl130_1; clear hi130_1 hl130_1; replace p130 := eq_true p130; replace q130 := eq_true q130; have ea_ := Option.some.inj (hx127_1.symm.trans hx130_1); injection ea_ with ea_ en_ ec_; subst ea_; subst ec_; clear en_))
        go_ret
        exact ⟨mE, by repeat (first | exact Drawn0.refl _ | apply Drawn0.step)⟩
     ·rw [if_neg c5] at H
      have c5b0 : (((rd_T120 l0 x5_1).f0) == x1_1) = false := beq_eq_false_iff_ne.mpr c5
      have c5b1 : (((rd_T120 l0 x5_1).f0) != x1_1) = true := bne_iff_ne.mpr c5
      obtain rfl := Option.some.inj H
      have p127 : 0 ≤ (x5_1 : Int) := mD
      have q127 : x5_1 < (l0.length : Int) := mD
      obtain ⟨ad127, A127_1, c127_1, e127, hx127_0, hx127_1, hx127_2, hl127_1, hi127_1⟩ := at_T120 HR0.out x5_1 p127 q127
      cases e127
      have HR127_1 := mS hi127_1
      have HC127_1 := mS hl127_1
      clear hi127_1 hl127_1
      replace p127 := eq_true p127
      replace q127 := eq_true q127
      go_wp2
      go_ret
      exact ⟨mE, by repeat (first | exact Drawn0.refl _ | apply Drawn0.step)⟩
    ·rw [if_neg c4] at H
     exact absurd H (by simp)
   ·rw [if_neg c3] at H
    have c3b0 := decide_eq_false c3
    clear c3
    obtain rfl := Option.some.inj H
    go_wp2
    go_ret
    exact ⟨mE, by repeat (first | exact Drawn0.refl _ | apply Drawn0.step)⟩
def laws_heldEntryS.l0 : Nat → List (S126) → Int → Int → Option (Int)
 | 0, _, _, _ => none
 | k + 1, x0, x1, x5 => if x5 < (x0.length : Int) then (if 0 ≤ x5 then ((laws_markText.f k x1).bind fun t132 => (if ((rd_T126 x0 x5).f0).toList = t132.toList then (if ((rd_T126 x0 x5).f1) = (wrap64 (x1 + 1)) then (laws_heldEntryS.l0 k x0 (wrap64 ((wrap64 (x1 + 1)) + 1)) (wrap64 (x5 + 1))) else (some (-1))) else (some (-1)))) else (none)) else (some x1)
def laws_heldEntryS.f (k : Nat) (l0 : List (S126)) (a1 : Int) : Option (Int) := laws_heldEntryS.l0 k l0 a1 0
def laws_heldEntryS.T4 : Bool × List (List Nat × List Nat) := (true, [([], []), ([], []), ([0, 1], [0, 1]), ([2], [2]), ([3], [3]), ([], []), ([5], [5]), ([4, 6], [4, 6])])
def laws_heldEntryS.B4 : List Nat := [0, 0, 3, 7, 15, 0, 32, 127]
theorem laws_heldEntryS.tab4 : rtab .any (opsOf Try.f90 4) = laws_heldEntryS.T4 := by kernel_rfl
theorem laws_heldEntryS.bits4 : waitsOk laws_heldEntryS.T4.2 laws_heldEntryS.B4 = true := by kernel_rfl
set_option maxHeartbeats 8000000 in
set_option maxRecDepth 100000 in
theorem laws_heldEntryS.calls (k : Nat) (A0 : Option Addr) (c0 : Nat) (l0 : List (S126)) (a1 : Int) (r : Int) (w : World) (hr0 : Kd.C k126 w A0 l0.length l0) (hc0 : l0.length ≤ c0) (h : laws_heldEntryS.f k l0 a1 = some r) :
  Calls Try.prog 90 #[.slice A0 l0.length c0, .int .i64 a1] w fun e w' => e = .returned (.int .i64 r) ∧ Below w.heap.size w w' := by
 have HR0 := mS hr0
 have HC0 := mS hc0
 clear hr0 hc0
 have HB := mS (Below.refl w.heap.size w)
 have H : (laws_heldEntryS.l0 k l0 a1 0) = some r := h
 clear h
 have H' := mS H
 clear H
 go_enter Try.func90, Try.ntmps90
 go_wp2
 go_loopg [1, 5] k (fun kq v1 v5 w' => ∃ (x1_1 : Int) (x5_1 : Int), v1 = .int .i64 x1_1 ∧ v5 = .int .i64 x5_1 ∧ Aside0 (laws_heldEntryS.l0 kq l0 x1_1 x5_1 = some r) ∧ Aside0 (kq ≤ k) ∧ Aside0 (Below w.heap.size w w'))
 case atStart => exact ⟨(a1), (0), mE, mE, H', ⟨Nat.le_refl _⟩, ⟨(mH HB.out)⟩⟩
 case round =>
  clear H'
  try clear p2
  obtain ⟨x1_1, x5_1, rfl, rfl, HA, HK1, HB⟩ := hrel
  cases gk with
  | zero => exact absurd HA.out (by simp [laws_heldEntryS.l0])
  | succ k1 =>
   have H := HA.out
   clear HA
   simp only [laws_heldEntryS.l0] at H
   by_cases c3 : x5_1 < (l0.length : Int)
   ·rw [if_pos c3] at H
    have c3b0 := decide_eq_true c3
    clear c3
    by_cases c4 : 0 ≤ x5_1
    ·rw [if_pos c4] at H
     have c4b0 := decide_eq_true c4
     clear c4
     replace H := Option.bind_eq_some_iff.mp H
     obtain ⟨t132, A50, H⟩ := H
     replace H : (if ((rd_T126 l0 x5_1).f0).toList = t132.toList then (if ((rd_T126 l0 x5_1).f1) = (wrap64 (x1_1 + 1)) then (laws_heldEntryS.l0 k1 l0 (wrap64 ((wrap64 (x1_1 + 1)) + 1)) (wrap64 (x5_1 + 1))) else (some (-1))) else (some (-1))) = some r := H
     have A5 := mS A50
     clear A50
     by_cases c6 : ((rd_T126 l0 x5_1).f0).toList = t132.toList
     ·rw [if_pos c6] at H
      have c6b0 : (((rd_T126 l0 x5_1).f0).toList == t132.toList) = true := beq_iff_eq.mpr c6
      have c6b1 : (((rd_T126 l0 x5_1).f0).toList != t132.toList) = false := bne_eq_false_iff_eq.mpr c6
      clear c6
      by_cases c7 : ((rd_T126 l0 x5_1).f1) = (wrap64 (x1_1 + 1))
      ·rw [if_pos c7] at H
       have c7b0 : (((rd_T126 l0 x5_1).f1) == (wrap64 (x1_1 + 1))) = true := beq_iff_eq.mpr c7
       have c7b1 : (((rd_T126 l0 x5_1).f1) != (wrap64 (x1_1 + 1))) = false := bne_eq_false_iff_eq.mpr c7
       clear c7
       have H' := mS H
       clear H
       try go_wp2
       replace HB := mS (below_drew1 HB.out)
       have p131 : 0 ≤ (x5_1 : Int) := mD
       have q131 : x5_1 < (l0.length : Int) := mD
       obtain ⟨ad131, e131, hx131_0, hx131_1⟩ := at_T126 HR0.out x5_1 p131 q131
       have hw131_1 := hx131_1
       have hw131_0 := hx131_0
       cases e131
       replace hx131_0 := mX HB.out hx131_0
       replace hx131_1 := mX HB.out hx131_1
       replace p131 := eq_true p131
       replace q131 := eq_true q131
       refine start_ (n := 8) (S := fun w' => w'.cell? (ad131.add ((x5_1).toNat * 2)) = some (.string ((rd_T126 l0 x5_1).f0)) ∧ w'.cell? ⟨(ad131.add ((x5_1).toNat * 2)).block, (ad131.add ((x5_1).toNat * 2)).off + 1, none⟩ = some (.int .i64 ((rd_T126 l0 x5_1).f1))) (ds := []) (mb 0 8) (by kernel_rfl) rfl rfl ⟨(mX HB.out hw131_0 :), (mX HB.out hw131_1 :)⟩ (fun hHeld => ?_); refine with_tabW laws_heldEntryS.tab4 laws_heldEntryS.bits4 (fun HT_ HW_ => ?_)
       generalize wr.drew = w8 at HB hx131_0 hx131_1 hHeld ⊢
       refine mpu 0 12 HT_.out (mb 1 7) ?_
       refine mpu 1 13 HT_.out (mb 2 6) ?_
       refine mpu 2 14 HT_.out (mb 3 5) ?_
       refine mpu 3 15 HT_.out (mb 4 4) ?_
       refine mpu 5 17 HT_.out (mr [4,1,1,2]) ?_
       refine mpt 4 16 HT_.out HW_.out (mb 6 2) hHeld ?_
       refine mone 6 (some 18) HT_.out (mb 7 1) (fun K hK => ?_)
       refine goes_ Try.func101 (by kernel_rfl) rfl #[.int .i64 x1_1] (by rfl) rfl rfl mA ?_
       with_reducible refine (laws_markText.calls k1 x1_1 t132 _ A5.out).mono ?_
       rintro e w9 ⟨rfl, hb⟩
       refine ⟨_, rfl, ?_⟩
       replace HB := mS (below_step (mH HB.out) hb)
       (try clear hb)
       (try clear hb2)
       (try clear hk)
       (try clear hi)
       refine hK.out _ _ ⟨(mX HB.out hw131_0 :), (mX HB.out hw131_1 :)⟩ (fun hHeld => ?_)
       clear hK K
       refine mno 18 ?_
       refine mpu 7 19 HT_.out (mb 8 0) ?_
       refine done_ (done_of HT_.out (by kernel_rfl)) ?_
       have p133 : 0 ≤ (x5_1 : Int) := mD
       have q133 : x5_1 < (l0.length : Int) := mD
       obtain ⟨ad133, e133, hx133_0, hx133_1⟩ := at_T126 HR0.out x5_1 p133 q133
       obtain rfl : ad131 = ad133 := (by injection e133)
       replace hx133_0 := mX HB.out hx133_0
       replace hx133_1 := mX HB.out hx133_1
       replace p133 := eq_true p133
       replace q133 := eq_true q133
       try go_wp2
       go_roundg k1
       case measure => have := HK1.out; omega
       case rel => exact ⟨(wrap64 ((wrap64 (x1_1 + 1)) + 1)), (wrap64 (x5_1 + 1)), mE, mE, H', ⟨by have := HK1.out; omega⟩, ⟨(mH HB.out)⟩⟩
      ·rw [if_neg c7] at H
       have c7b0 : (((rd_T126 l0 x5_1).f1) == (wrap64 (x1_1 + 1))) = false := beq_eq_false_iff_ne.mpr c7
       have c7b1 : (((rd_T126 l0 x5_1).f1) != (wrap64 (x1_1 + 1))) = true := bne_iff_ne.mpr c7
       obtain rfl := Option.some.inj H
       try go_wp2
       replace HB := mS (below_drew1 HB.out)
       have p131 : 0 ≤ (x5_1 : Int) := mD
       have q131 : x5_1 < (l0.length : Int) := mD
       obtain ⟨ad131, e131, hx131_0, hx131_1⟩ := at_T126 HR0.out x5_1 p131 q131
       have hw131_1 := hx131_1
       have hw131_0 := hx131_0
       cases e131
       replace hx131_0 := mX HB.out hx131_0
       replace hx131_1 := mX HB.out hx131_1
       replace p131 := eq_true p131
       replace q131 := eq_true q131
       refine start_ (n := 8) (S := fun w' => w'.cell? (ad131.add ((x5_1).toNat * 2)) = some (.string ((rd_T126 l0 x5_1).f0)) ∧ w'.cell? ⟨(ad131.add ((x5_1).toNat * 2)).block, (ad131.add ((x5_1).toNat * 2)).off + 1, none⟩ = some (.int .i64 ((rd_T126 l0 x5_1).f1))) (ds := []) (mb 0 8) (by kernel_rfl) rfl rfl ⟨(mX HB.out hw131_0 :), (mX HB.out hw131_1 :)⟩ (fun hHeld => ?_); refine with_tabW laws_heldEntryS.tab4 laws_heldEntryS.bits4 (fun HT_ HW_ => ?_)
       generalize wr.drew = w10 at HB hx131_0 hx131_1 hHeld ⊢
       refine mpu 0 12 HT_.out (mb 1 7) ?_
       refine mpu 1 13 HT_.out (mb 2 6) ?_
       refine mpu 2 14 HT_.out (mb 3 5) ?_
       refine mpu 3 15 HT_.out (mb 4 4) ?_
       refine mpu 5 17 HT_.out (mr [4,1,1,2]) ?_
       refine mpt 4 16 HT_.out HW_.out (mb 6 2) hHeld ?_
       refine mone 6 (some 18) HT_.out (mb 7 1) (fun K hK => ?_)
       refine goes_ Try.func101 (by kernel_rfl) rfl #[.int .i64 x1_1] (by rfl) rfl rfl mA ?_
       with_reducible refine (laws_markText.calls k1 x1_1 t132 _ A5.out).mono ?_
       rintro e w11 ⟨rfl, hb⟩
       refine ⟨_, rfl, ?_⟩
       replace HB := mS (below_step (mH HB.out) hb)
       (try clear hb)
       (try clear hb2)
       (try clear hk)
       (try clear hi)
       refine hK.out _ _ ⟨(mX HB.out hw131_0 :), (mX HB.out hw131_1 :)⟩ (fun hHeld => ?_)
       clear hK K
       refine mno 18 ?_
       refine mpu 7 19 HT_.out (mb 8 0) ?_
       refine done_ (done_of HT_.out (by kernel_rfl)) ?_
       have p133 : 0 ≤ (x5_1 : Int) := mD
       have q133 : x5_1 < (l0.length : Int) := mD
       obtain ⟨ad133, e133, hx133_0, hx133_1⟩ := at_T126 HR0.out x5_1 p133 q133
       obtain rfl : ad131 = ad133 := (by injection e133)
       replace hx133_0 := mX HB.out hx133_0
       replace hx133_1 := mX HB.out hx133_1
       replace p133 := eq_true p133
       replace q133 := eq_true q133
       try go_wp2
       go_ret
       exact ⟨mEw, (mH HB.out)⟩
     ·rw [if_neg c6] at H
      have c6b0 : (((rd_T126 l0 x5_1).f0).toList == t132.toList) = false := beq_eq_false_iff_ne.mpr c6
      have c6b1 : (((rd_T126 l0 x5_1).f0).toList != t132.toList) = true := bne_iff_ne.mpr c6
      obtain rfl := Option.some.inj H
      try go_wp2
      replace HB := mS (below_drew1 HB.out)
      have p131 : 0 ≤ (x5_1 : Int) := mD
      have q131 : x5_1 < (l0.length : Int) := mD
      obtain ⟨ad131, e131, hx131_0, hx131_1⟩ := at_T126 HR0.out x5_1 p131 q131
      have hw131_1 := hx131_1
      have hw131_0 := hx131_0
      cases e131
      replace hx131_0 := mX HB.out hx131_0
      replace hx131_1 := mX HB.out hx131_1
      replace p131 := eq_true p131
      replace q131 := eq_true q131
      refine start_ (n := 8) (S := fun w' => w'.cell? (ad131.add ((x5_1).toNat * 2)) = some (.string ((rd_T126 l0 x5_1).f0)) ∧ w'.cell? ⟨(ad131.add ((x5_1).toNat * 2)).block, (ad131.add ((x5_1).toNat * 2)).off + 1, none⟩ = some (.int .i64 ((rd_T126 l0 x5_1).f1))) (ds := []) (mb 0 8) (by kernel_rfl) rfl rfl ⟨(mX HB.out hw131_0 :), (mX HB.out hw131_1 :)⟩ (fun hHeld => ?_); refine with_tabW laws_heldEntryS.tab4 laws_heldEntryS.bits4 (fun HT_ HW_ => ?_)
      generalize wr.drew = w12 at HB hx131_0 hx131_1 hHeld ⊢
      refine mpu 0 12 HT_.out (mb 1 7) ?_
      refine mpu 1 13 HT_.out (mb 2 6) ?_
      refine mpu 2 14 HT_.out (mb 3 5) ?_
      refine mpu 3 15 HT_.out (mb 4 4) ?_
      refine mpu 5 17 HT_.out (mr [4,1,1,2]) ?_
      refine mpt 4 16 HT_.out HW_.out (mb 6 2) hHeld ?_
      refine mone 6 (some 18) HT_.out (mb 7 1) (fun K hK => ?_)
      refine goes_ Try.func101 (by kernel_rfl) rfl #[.int .i64 x1_1] (by rfl) rfl rfl mA ?_
      with_reducible refine (laws_markText.calls k1 x1_1 t132 _ A5.out).mono ?_
      rintro e w13 ⟨rfl, hb⟩
      refine ⟨_, rfl, ?_⟩
      replace HB := mS (below_step (mH HB.out) hb)
      (try clear hb)
      (try clear hb2)
      (try clear hk)
      (try clear hi)
      refine hK.out _ _ ⟨(mX HB.out hw131_0 :), (mX HB.out hw131_1 :)⟩ (fun hHeld => ?_)
      clear hK K
      refine mno 18 ?_
      refine mpu 7 19 HT_.out (mb 8 0) ?_
      refine done_ (done_of HT_.out (by kernel_rfl)) ?_
      try go_wp2
      go_ret
      exact ⟨mEw, (mH HB.out)⟩
    ·rw [if_neg c4] at H
     exact absurd H (by simp)
   ·rw [if_neg c3] at H
    have c3b0 := decide_eq_false c3
    clear c3
    obtain rfl := Option.some.inj H
    go_wp2
    go_ret
    exact ⟨mEw, (mH HB.out)⟩
end Go.Proofs.Ytgbejjeephipeaa.MFnExactFall
