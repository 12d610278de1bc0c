-- Written by mp.py, our own printer (wip/mp.py), and made shorter by wip/mp_shrink*.py.
import Derived.Test.YtgbejjeephipeaaVMShort
import Derived.Test.YtgbejjeephipeaaMFnExactFallx0
import Derived.Test.YtgbejjeephipeaaMFnExactFallx4
namespace Go.Proofs.Ytgbejjeephipeaa.MFnExactFall
open Go.RowKit Go.Proofs.YtgbejjeephipeaaW.PrintWords Go.Proofs.YtgbejjeephipeaaW.PrintLast Go.Proofs.YtgbejjeephipeaaW.PrintMore Go.Proofs.Ytgbejjeephipeaa.MWords
attribute [local go_sem] max2_int min2_int max_two min_two max_three min_three max_four min_four
set_option linter.unusedVariables false
set_option linter.unusedSimpArgs false
def laws_toEntryS.l0 : Nat → List (S146) → List (S126) → Int → Option ((List (S126)))
 | 0, _, _, _ => none
 | k + 1, x0, x3, x4 => if x4 < (x0.length : Int) then (if 0 ≤ x4 then ((laws_toEntry.f ((rd_T146 x0 x4).f0) ((rd_T146 x0 x4).f1)).bind fun bt177 => (if x4 < (x3.length : Int) then (laws_toEntryS.l0 k x0 (x3.set (x4 : Int).toNat (⟨bt177.1, bt177.2⟩ : S126)) (wrap64 (x4 + 1))) else (none))) else (none)) else (some x3)
def laws_toEntryS.f (k : Nat) (l0 : List (S146)) : Option ((List (S126))) := if 0 ≤ (l0.length : Int) then (if ((l0.length : Int) : Int).toNat ≤ 11728124029610 then (laws_toEntryS.l0 k l0 (List.replicate ((l0.length : Int) : Int).toNat z126) 0) else (none)) else (none)
set_option maxHeartbeats 8000000 in
set_option maxRecDepth 100000 in
theorem laws_toEntryS.calls (k : Nat) (A0 : Option Addr) (c0 : Nat) (l0 : List (S146)) (r : List (S126)) (w : World) (hr0 : Kd.C k146 w A0 l0.length l0) (hc0 : l0.length ≤ c0) (h : laws_toEntryS.f k l0 = some r) :
  Calls Try.prog 97 #[.slice A0 l0.length c0] w fun e w' => ∃ v0_ : Value, e = .returned (v0_) ∧ Kd.R k126 126 w' w.heap.size (fun _ => True) v0_ r ∧ Below w.heap.size w w' := by
 have hu146 := Try.underlying146
 have hu126 := Try.underlying126
 have HR0 := mS hr0
 have HC0 := mS hc0
 clear hr0 hc0
 have HB := mS (Below.refl w.heap.size w)
 have H : (if 0 ≤ (l0.length : Int) then (if ((l0.length : Int) : Int).toNat ≤ 11728124029610 then (laws_toEntryS.l0 k l0 (List.replicate ((l0.length : Int) : Int).toNat z126) 0) else (none)) else (none)) = some r := h
 clear h
 by_cases c2 : 0 ≤ (l0.length : Int)
 ·rw [if_pos c2] at H
  have c2b0 := eq_true c2
  have c2b1 := decide_eq_true c2
  clear c2
  by_cases c3 : ((l0.length : Int) : Int).toNat ≤ 11728124029610
  ·rw [if_pos c3] at H
   have c3b0 := eq_true c3
   have c3b1 := decide_eq_true c3
   clear c3
   obtain ⟨y173, hy173⟩ : ∃ y_ : List (S126), y_ = (List.replicate ((l0.length : Int) : Int).toNat z126) := ⟨_, rfl⟩
   replace H : (laws_toEntryS.l0 k l0 y173 0) = some r := by first | (rw [hy173]; with_reducible exact H) | (have H2_ := (Option.bind_some _ _).symm.trans H; rw [hy173]; with_reducible exact H2_) | (have H2_ := (Option.bind_some _ _).symm.trans H; with_reducible exact H2_) | with_reducible exact H | (rw [hy173]; exact H) | exact H
   have Ny173 := mS hy173
   clear hy173
   have H' := mS H
   clear H
   go_enter Try.func97, Try.ntmps97
   go_wp2_with (first | ((with_reducible refine gate_dst (N := 7) rfl ?_); refine Kd.R_make k126 _ 126 rfl (N := 7) rfl 61 _ _ rfl (l0.length : Int) rfl rfl Try.underlying61 (.agg #[(.string ⟨#[]⟩), (.int .i64 0)]) 24 info126 rfl (by decide) (by omega) z126 (ok := fun _ => True) (okp := fun _ => True) (k126_mkM _ _ _ z126 ) (fun _ hk => hk) trivial (mD) (Nat.le_trans (Nat.mul_le_mul_right _ (mD : (l0.length : Int).toNat ≤ 11728124029610)) (by omega)) (Below.refl _ _) (Nat.le_refl _) ?_; intro v174 w4 ho5 hb hg_ hnew_; clear hg_ hnew_; (first | rw [← Ny173.out] at ho5 | (simp only [Int.reduceToNat] at ho5; rw [← Ny173.out] at ho5)); have HO175 := mS (Kd.R_lower ho5 (below_size (mH HB.out))); replace HB := mS (below_step (mH HB.out) hb); clear hb ho5))
   go_loopg [4] k (fun kq v4 w' => ∃ (x3_1 : List (S126)) (x4_1 : Int), v4 = .int .i64 x4_1 ∧ Aside0 (laws_toEntryS.l0 kq l0 x3_1 x4_1 = some r) ∧ Aside0 (kq ≤ k) ∧ Aside0 (Kd.R k126 126 w' w.heap.size (fun _ => True) v174 x3_1) ∧ Aside0 (Below w.heap.size w w'))
   case atStart => exact ⟨(y173), (0), mE, H', ⟨Nat.le_refl _⟩, ⟨mR HO175.out⟩, ⟨(mH HB.out)⟩⟩
   case round =>
    clear H'
    try clear c2
    try clear c2b0
    try clear c2b1
    try clear p2
    try clear c3
    try clear c3b0
    try clear c3b1
    obtain ⟨x3_1, x4_1, rfl, HA, HK1, HO_3, HB⟩ := hrel
    cases gk with
    | zero => exact absurd HA.out (by simp [laws_toEntryS.l0])
    | succ k1 =>
     have H := HA.out
     clear HA
     simp only [laws_toEntryS.l0] at H
     by_cases c6 : x4_1 < (l0.length : Int)
     ·rw [if_pos c6] at H
      have c6b0 := decide_eq_true c6
      clear c6
      by_cases c7 : 0 ≤ x4_1
      ·rw [if_pos c7] at H
       have c7b0 := decide_eq_true c7
       clear c7
       replace H := Option.bind_eq_some_iff.mp H
       obtain ⟨⟨t177, t178⟩, A80, H⟩ := H
       replace H : (if x4_1 < (x3_1.length : Int) then (laws_toEntryS.l0 k1 l0 (x3_1.set (x4_1 : Int).toNat (⟨t177, t178⟩ : S126)) (wrap64 (x4_1 + 1))) else (none)) = some r := H
       have A8 := mS A80
       clear A80
       by_cases c9 : x4_1 < (x3_1.length : Int)
       ·rw [if_pos c9] at H
        have c9b0 := decide_eq_true c9
        clear c9
        obtain ⟨y179, hy179⟩ : ∃ y_ : List (S126), y_ = (x3_1.set (x4_1 : Int).toNat (⟨t177, t178⟩ : S126)) := ⟨_, rfl⟩
        replace H : (laws_toEntryS.l0 k1 l0 y179 (wrap64 (x4_1 + 1))) = some r := by first | (rw [hy179]; with_reducible exact H) | (have H2_ := (Option.bind_some _ _).symm.trans H; rw [hy179]; with_reducible exact H2_) | (have H2_ := (Option.bind_some _ _).symm.trans H; with_reducible exact H2_) | with_reducible exact H | (rw [hy179]; exact H) | exact H
        have Ny179 := mS hy179
        clear hy179
        have H' := mS H
        clear H
        have p176 : 0 ≤ (x4_1 : Int) := mD
        have q176 : x4_1 < (l0.length : Int) := mD
        obtain ⟨ad176, e176, hx176_0, hx176_1⟩ := at_T146 HR0.out x4_1 p176 q176
        cases e176
        replace hx176_0 := mX HB.out hx176_0
        replace hx176_1 := mX HB.out hx176_1
        replace p176 := eq_true p176
        replace q176 := eq_true q176
        go_wp2_with (first | ((with_reducible refine gate_callee (f := 123) rfl ?_); refine mGo 20 Try.func123 #[.agg #[.string ((rd_T146 l0 x4_1).f0), .int .i64 ((rd_T146 l0 x4_1).f1)]] ?_; (with_reducible refine (laws_toEntry.calls ((rd_T146 l0 x4_1).f0) ((rd_T146 l0 x4_1).f1) t177 t178 _ A8.out).mono ?_); rintro e w11 ⟨rfl, hb⟩; refine ⟨_, rfl, ?_⟩; replace HO_3 := mS (Kd.R_below (mR HO_3.out) hb); replace HB := mS (below_step (mH HB.out) hb); (try clear hb); have p10 : 0 ≤ (x4_1 : Int) := mD; have q10 : (x4_1 : Int) < ((x3_1.length : Int) : Int) := mD; obtain ⟨go10, co10, eo10, gb10, gl10, cl10, HG10⟩ := Kd.R_form HO_3.out (by omega); (first | cases eo10 | (injection eo10 with ea_ en_ ec_; (first | subst ea_ | (injection ea_ with ea_; subst ea_)); subst ec_; clear en_)); have GB10 := mS gb10; have GG10 := mS HG10; clear gb10 gl10 HG10; obtain ⟨ce10, hcl10, hM10, hcc10, hfr10⟩ := Kd.R_elem HO_3.out z126 (x4_1 : Int) p10 q10; obtain rfl := k126_openM hM10; have hx10_0 : w11.cell? ⟨go10, (x4_1 : Int).toNat * 2, none⟩ = some (.string ((rd_T126 x3_1 x4_1).f0)) := hcc10 0 _ rfl; have hx10_1 : w11.cell? ⟨go10, (x4_1 : Int).toNat * 2 + 1, none⟩ = some (.int .i64 ((rd_T126 x3_1 x4_1).f1)) := hcc10 1 _ rfl; have hf10_0 : w11.frozen? ⟨go10, (x4_1 : Int).toNat * 2, none⟩ = false := hfr10 0; have hf10_1 : w11.frozen? ⟨go10, (x4_1 : Int).toNat * 2 + 1, none⟩ = false := hfr10 1; clear hcl10 hcc10 hfr10; (try clear hM10); replace p10 := eq_true p10; replace q10 := eq_true q10; have HX12 := mS (show Kd.R k126 126 w11 w.heap.size (fun _ => True) (.slice (some ⟨go10, 0, none⟩) x3_1.length co10) x3_1 from (mR HO_3.out)); obtain ⟨ce12, hcl12, hM12, hcc12, hfr12⟩ := Kd.R_elem HX12.out z126 (x4_1 : Int) (mD) (by have h_ : (x4_1 : Int) < ((x3_1.length : Int) : Int) := mD; first | exact h_ | (have e_ := (Kd.R_reads' HO_3.out).1; omega) | simpa using h_); obtain rfl := k126_openM hM12; have HP12 := Kd.R_seg HX12.out (x4_1 : Int) (mD) (by have h_ : (x4_1 : Int) < ((x3_1.length : Int) : Int) := mD; first | exact h_ | (have e_ := (Kd.R_reads' HO_3.out).1; omega) | simpa using h_) (seg := [.string t177, .int .i64 t178]) (j := 0) hcl12 hcc12 (show 2 ≤ 2 from by decide) (x' := (⟨t177, t178⟩ : S126)) (k126_mkM _ _ _ (⟨t177, t178⟩ : S126) ) (fun _ hk => hk); have hx12_0 := hcc12 0 _ rfl; (try simp only [show (k126).sz = 2 from rfl, Nat.mul_one, Nat.add_zero] at hx12_0); have hf12_0 := hfr12 0; (try simp only [show (k126).sz = 2 from rfl, Nat.mul_one, Nat.add_zero] at hf12_0); have hx12_1 := hcc12 1 _ rfl; (try simp only [show (k126).sz = 2 from rfl, Nat.mul_one, Nat.add_zero] at hx12_1); have hf12_1 := hfr12 1; (try simp only [show (k126).sz = 2 from rfl, Nat.mul_one, Nat.add_zero] at hf12_1); clear hcl12 hcc12 hfr12 hM12) | ((with_reducible refine gate_store (t := 126) (p := 21) rfl ?_); refine store_event (t := 126) (p := 21) (v := ?vo_w13) (w1 := ((w11.setCell ⟨go10, (x4_1 : Int).toNat * 2, none⟩ (.string t177)).setCell ⟨go10, (x4_1 : Int).toNat * 2 + 1, none⟩ (.int .i64 t178))) ?hg ?ho ?hn ?hr ?_; (case ho => rfl); (case hg => rfl); (case hn => rfl); (case hr => first | (go_simp; done) | (go_simp; rfl)); intro w13 hw; have hg : w11.grownBy w13 (some go10) := (by rw [hw]; exact HP12.2); have hp_ : Kd.R k126 126 w13 w.heap.size (fun _ => True) (.slice (some ⟨go10, 0, none⟩) x3_1.length co10) y179 := (by rw [hw, Ny179.out]; exact HP12.1); clear HP12; replace HO_3 := mS (hp_); replace HB := mS ((by rw [hw]; exact below_set (below_set (HB.out) GB10.out) GB10.out : Below w.heap.size w w13)); clear hg hw hp_))
        go_roundg k1
        case measure => have := HK1.out; omega
        case rel => exact ⟨(y179), (wrap64 (x4_1 + 1)), mE, H', ⟨by have := HK1.out; omega⟩, ⟨mR HO_3.out⟩, ⟨(mH HB.out)⟩⟩
       ·rw [if_neg c9] at H
        exact absurd H (by simp)
      ·rw [if_neg c7] at H
       exact absurd H (by simp)
     ·rw [if_neg c6] at H
      have c6b0 := decide_eq_false c6
      clear c6
      obtain rfl := Option.some.inj H
      go_wp2
      go_ret
      exact ⟨_, mEw, mR HO_3.out, (mH HB.out)⟩
  ·rw [if_neg c3] at H
   exact absurd H (by simp)
 ·rw [if_neg c2] at H
  exact absurd H (by simp)
def laws_toDisk.f (k : Nat) (l0_0 : List (S144)) (l0_1 : List (S146)) (l0_2 : List (S146)) (a0_3 : Int) : Option ((List (S120)) × (List (S126)) × (List (S126)) × Int) := (laws_toInodeS.f k l0_0).bind fun t183 => ((laws_toEntryS.f k l0_1).bind fun t186 => ((laws_toEntryS.f k l0_2).bind fun t189 => (some (t183, t186, t189, a0_3))))
set_option maxHeartbeats 8000000 in
set_option maxRecDepth 100000 in
theorem laws_toDisk.calls (k : Nat) (A0_0 : Option Addr) (c0_0 : Nat) (l0_0 : List (S144)) (A0_1 : Option Addr) (c0_1 : Nat) (l0_1 : List (S146)) (A0_2 : Option Addr) (c0_2 : Nat) (l0_2 : List (S146)) (a0_3 : Int) (r1 : List (S120)) (r2 : List (S126)) (r3 : List (S126)) (r4 : Int) (w : World) (hr0_0 : Kd.C k144 w A0_0 l0_0.length l0_0) (hc0_0 : l0_0.length ≤ c0_0) (hr0_1 : Kd.C k146 w A0_1 l0_1.length l0_1) (hc0_1 : l0_1.length ≤ c0_1) (hr0_2 : Kd.C k146 w A0_2 l0_2.length l0_2) (hc0_2 : l0_2.length ≤ c0_2) (h : laws_toDisk.f k l0_0 l0_1 l0_2 a0_3 = some (r1, r2, r3, r4)) :
  Calls Try.prog 45 #[.agg #[.slice A0_0 l0_0.length c0_0, .slice A0_1 l0_1.length c0_1, .slice A0_2 l0_2.length c0_2, .int .i64 a0_3]] w fun e w' => ∃ v0_ v1_ v2_ : Value, e = .returned (.agg #[v0_, v1_, v2_, .int .i64 r4]) ∧ Kd.S k120 120 w' w.heap.size (fun _ => True) v0_ r1 ∧ Kd.R k126 126 w' w.heap.size (fun k_ => some k_ ≠ (v2_ : Value).ownBlock) v1_ r2 ∧ Kd.R k126 126 w' w.heap.size (fun k_ => some k_ ≠ (v1_ : Value).ownBlock) v2_ r3 ∧ Below w.heap.size w w' := by
 have hu71 := Try.underlying71
 have hu63 := Try.underlying63
 have HR0_0 := mS hr0_0
 have HC0_0 := mS hc0_0
 clear hr0_0 hc0_0
 have HR0_1 := mS hr0_1
 have HC0_1 := mS hc0_1
 clear hr0_1 hc0_1
 have HR0_2 := mS hr0_2
 have HC0_2 := mS hc0_2
 clear hr0_2 hc0_2
 have HB := mS (Below.refl w.heap.size w)
 have H : ((laws_toInodeS.f k l0_0).bind fun t183 => ((laws_toEntryS.f k l0_1).bind fun t186 => ((laws_toEntryS.f k l0_2).bind fun t189 => (some (t183, t186, t189, a0_3))))) = some (r1, r2, r3, r4) := h
 clear h
 replace H := Option.bind_eq_some_iff.mp H
 obtain ⟨t183, A20, H⟩ := H
 replace H : ((laws_toEntryS.f k l0_1).bind fun t186 => ((laws_toEntryS.f k l0_2).bind fun t189 => (some (t183, t186, t189, a0_3)))) = some (r1, r2, r3, r4) := H
 have A2 := mS A20
 clear A20
 replace H := Option.bind_eq_some_iff.mp H
 obtain ⟨t186, A30, H⟩ := H
 replace H : ((laws_toEntryS.f k l0_2).bind fun t189 => (some (t183, t186, t189, a0_3))) = some (r1, r2, r3, r4) := H
 have A3 := mS A30
 clear A30
 replace H := Option.bind_eq_some_iff.mp H
 obtain ⟨t189, A40, H⟩ := H
 replace H : (some (t183, t186, t189, a0_3)) = some (r1, r2, r3, r4) := H
 have A4 := mS A40
 clear A40
 simp only [Option.some.injEq, Prod.mk.injEq] at H
 obtain ⟨rfl, rfl, rfl, rfl⟩ := H
 go_enter Try.func45, Try.ntmps45
 go_wp2_with (first | ((with_reducible refine gate_dst (N := 1) rfl ?_); refine mBx 1 #[.slice A0_0 l0_0.length c0_0, .slice A0_1 l0_1.length c0_1, .slice A0_2 l0_2.length c0_2, .int .i64 a0_3] 71 ?_; intro gb180 hg w5 hbox hb; have BK180 := mS (hbox); have GW180 := mG hg (mH HB.out); have GE180 := mG hg (mH HB.out); replace HB := mS (below_step (mH HB.out) hb); clear hb hbox hg) | ((with_reducible refine gate_dst (N := 2) rfl ?_); refine mBx 2 #[.slice none 0 0, .slice none 0 0, .slice none 0 0, .int .i64 0] 63 ?_; intro gb181 hg w6 hbox hb; have BK181 := mS (hbox); have GW181 := mG hg (mH1 HB.out GE180.out); have GE181 := mG hg (mH1 HB.out GE180.out); replace HB := mS (below_step (mH1 HB.out GE180.out) hb); have NB180_181 := mNl hg BK180.out; have NB181_180 := mNg hg BK180.out; replace BK180 := mB BK180 hb; clear hb hbox hg) | ((with_reducible refine gate_dst (N := 3) rfl ?_); refine mBx 3 #[.slice none 0 0, .slice none 0 0, .slice none 0 0, .int .i64 0] 63 ?_; intro gb182 hg w7 hbox hb; have BK182 := mS (hbox); have GW182 := mG hg (mH2 HB.out GE180.out GE181.out); have GE182 := mG hg (mH2 HB.out GE180.out GE181.out); replace HB := mS (below_step (mH2 HB.out GE180.out GE181.out) hb); have NB180_182 := mNl hg BK180.out; have NB182_180 := mNg hg BK180.out; replace BK180 := mB BK180 hb; have NB181_182 := mNl hg BK181.out; have NB182_181 := mNg hg BK181.out; replace BK181 := mB BK181 hb; clear hb hbox hg; have hnb8 := NB180_181.out; have hnc8 := NB181_180.out; have hnb9 := NB180_182.out; have hnc9 := NB182_180.out; obtain ⟨hcz10_0, hcz10_1, hcz10_2, hcz10_3, hfz10_0, hfz10_1, hfz10_2, hfz10_3⟩ := mZ4 BK180.out) | ((with_reducible refine gate_callee (f := 96) rfl ?_); refine mGo 6 Try.func96 #[.slice A0_0 l0_0.length c0_0] ?_; (with_reducible refine (laws_toInodeS.calls k _ _ l0_0 t183 _ ?side1 ?side2 A2.out).mono ?_); (case side1 => exact mC (Kd.C_below HR0_0.out HB.out)); (case side2 => exact HC0_0.out); rintro e w11 ⟨v184, rfl, ho0, hb⟩; refine ⟨_, rfl, ?_⟩; have HO185 := mS (Kd.S_lower ho0 (below_size (mH3 HB.out GE180.out GE181.out GE182.out))); replace BK180 := mB BK180 hb; replace BK181 := mB BK181 hb; replace BK182 := mB BK182 hb; replace HB := mS (below_step (mH3 HB.out GE180.out GE181.out GE182.out) hb); (try clear hb); (try clear ho0); obtain ⟨Ao12, co12, eo12⟩ := Kd.S_slice HO185.out; subst eo12; have hnb13 := NB182_181.out; have hnc13 := NB181_182.out; obtain ⟨hcz14_0, hcz14_1, hcz14_2, hcz14_3, hfz14_0, hfz14_1, hfz14_2, hfz14_3⟩ := mZ4 BK182.out; obtain ⟨hcz15_0, hcz15_1, hcz15_2, hcz15_3, hfz15_0, hfz15_1, hfz15_2, hfz15_3⟩ := mZ4 BK180.out) | ((with_reducible refine gate_callee (f := 97) rfl ?_); refine mGo 10 Try.func97 #[.slice A0_1 l0_1.length c0_1] ?_; (with_reducible refine (laws_toEntryS.calls k _ _ l0_1 t186 _ ?side1 ?side2 A3.out).mono ?_); (case side1 => exact Kd.C_below HR0_1.out (mH3 HB.out GE180.out GE181.out GE182.out)); (case side2 => exact HC0_1.out); rintro e w16 ⟨v187, rfl, ho0, hb⟩; refine ⟨_, rfl, ?_⟩; replace HO185 := mS (Kd.S_below (by refine mSd ?_; exact (Kd.S_mono (Kd.S_far (p := ⟨gb182, 0, none⟩) (Kd.S_types HO185.out BK182.out (by decide)) (fun _ hk => hk.2) (.slice Ao12 t183.length co12)) (fun _ h_ => h_.1))) hb); have HO188 := mS (Kd.R_lower ho0 (below_size (mH3 HB.out GE180.out GE181.out GE182.out))); replace BK180 := mS (blk_below (g := gb180) (o := .cells #[.slice A0_0 l0_0.length c0_0, .slice A0_1 l0_1.length c0_1, .slice A0_2 l0_2.length c0_2, .int .i64 a0_3] 71 (0, 0)) (mKf NB180_182.out BK180.out) hb); replace BK181 := mS (blk_below (g := gb181) (o := .cells #[.slice none 0 0, .slice none 0 0, .slice none 0 0, .int .i64 0] 63 (0, 0)) (mKf NB181_182.out BK181.out) hb); replace BK182 := mS (blk_below (g := gb182) (o := .cells #[.slice Ao12 t183.length co12, .slice none 0 0, .slice none 0 0, .int .i64 0] 63 (0, 0)) (by refine mK ?_; refine blk_put (cs := #[.slice none 0 0, .slice none 0 0, .slice none 0 0, .int .i64 0]) ?_ 0 _ rfl; refine mK ?_; exact BK182.out) hb); replace HB := mS (below_step (mH3 HB.out GE180.out GE181.out GE182.out) hb); (try clear hb); (try clear ho0); obtain ⟨Ao17, co17, eo17⟩ := Kd.R_slice HO188.out; subst eo17; obtain ⟨hcz18_0, hcz18_1, hcz18_2, hcz18_3, hfz18_0, hfz18_1, hfz18_2, hfz18_3⟩ := mZ4 BK182.out; obtain ⟨hcz19_0, hcz19_1, hcz19_2, hcz19_3, hfz19_0, hfz19_1, hfz19_2, hfz19_3⟩ := mZ4 BK180.out) | ((with_reducible refine gate_callee (f := 97) rfl ?_); refine mGo 14 Try.func97 #[.slice A0_2 l0_2.length c0_2] ?_; (with_reducible refine (laws_toEntryS.calls k _ _ l0_2 t189 _ ?side1 ?side2 A4.out).mono ?_); (case side1 => exact Kd.C_below HR0_2.out (mH3 HB.out GE180.out GE181.out GE182.out)); (case side2 => exact HC0_2.out); rintro e w20 ⟨v190, rfl, ho0, hb⟩; refine ⟨_, rfl, ?_⟩; replace HO185 := mS (Kd.S_below (by refine mSd ?_; exact (Kd.S_mono (Kd.S_far (p := ⟨gb182, 1, none⟩) (Kd.S_types HO185.out BK182.out (by decide)) (fun _ hk => hk.2) (.slice Ao17 t186.length co17)) (fun _ h_ => h_.1))) hb); have HO191 := mS (Kd.R_lower (Kd.R_new' ho0 (Kd.R_lt (by refine mR ?_; exact (Kd.R_mono (Kd.R_far (p := ⟨gb182, 1, none⟩) (Kd.R_types HO188.out BK182.out (by decide)) (fun _ hk => hk.2) (.slice Ao17 t186.length co17)) (fun _ h_ => h_.1))))) (below_size (mH3 HB.out GE180.out GE181.out GE182.out))); replace HO188 := mS (Kd.R_elder' (by refine mR ?_; exact (Kd.R_mono (Kd.R_far (p := ⟨gb182, 1, none⟩) (Kd.R_types HO188.out BK182.out (by decide)) (fun _ hk => hk.2) (.slice Ao17 t186.length co17)) (fun _ h_ => h_.1))) (Kd.R_base ho0) hb); replace BK180 := mS (blk_below (g := gb180) (o := .cells #[.slice A0_0 l0_0.length c0_0, .slice A0_1 l0_1.length c0_1, .slice A0_2 l0_2.length c0_2, .int .i64 a0_3] 71 (0, 0)) (mKf NB180_182.out BK180.out) hb); replace BK181 := mS (blk_below (g := gb181) (o := .cells #[.slice none 0 0, .slice none 0 0, .slice none 0 0, .int .i64 0] 63 (0, 0)) (mKf NB181_182.out BK181.out) hb); replace BK182 := mS (blk_below (g := gb182) (o := .cells #[.slice Ao12 t183.length co12, .slice Ao17 t186.length co17, .slice none 0 0, .int .i64 0] 63 (0, 0)) (by refine mK ?_; refine blk_put (cs := #[.slice Ao12 t183.length co12, .slice none 0 0, .slice none 0 0, .int .i64 0]) ?_ 1 _ rfl; refine mK ?_; exact BK182.out) hb); replace HB := mS (below_step (mH3 HB.out GE180.out GE181.out GE182.out) hb); (try clear hb); (try clear ho0); obtain ⟨Ao21, co21, eo21⟩ := Kd.R_slice HO191.out; subst eo21; obtain ⟨hcz22_0, hcz22_1, hcz22_2, hcz22_3, hfz22_0, hfz22_1, hfz22_2, hfz22_3⟩ := mZ4 BK182.out; obtain ⟨hcz23_0, hcz23_1, hcz23_2, hcz23_3, hfz23_0, hfz23_1, hfz23_2, hfz23_3⟩ := mZ4 BK180.out; obtain ⟨hcz24_0, hcz24_1, hcz24_2, hcz24_3, hfz24_0, hfz24_1, hfz24_2, hfz24_3⟩ := mZ4 BK181.out))
 refine bodyPost_ret (results_cell_row rfl _ _ gb181 63 #[.slice Ao12 t183.length co12, .slice Ao17 t186.length co17, .slice Ao21 t189.length co21, .int .i64 a0_3] (0, 0) _ rfl (by refine mK ?_; refine blk_put (cs := #[.slice Ao12 t183.length co12, .slice Ao17 t186.length co17, .slice Ao21 t189.length co21, .int .i64 0]) ?_ 3 _ rfl; refine mK ?_; refine blk_put (cs := #[.slice Ao12 t183.length co12, .slice Ao17 t186.length co17, .slice none 0 0, .int .i64 0]) ?_ 2 _ rfl; refine mK ?_; refine blk_put (cs := #[.slice Ao12 t183.length co12, .slice none 0 0, .slice none 0 0, .int .i64 0]) ?_ 1 _ rfl; refine mK ?_; refine blk_put (cs := #[.slice none 0 0, .slice none 0 0, .slice none 0 0, .int .i64 0]) ?_ 0 _ rfl; exact mKf NB181_182.out BK181.out) Try.underlying63 rfl (by kernel_rfl)) rfl ?_
 exact ⟨_, _, _, mEw, by refine mSd ?_; exact Kd.S_mono (mSf4 (Kd.S_far (p := ⟨gb182, 3, none⟩) (Kd.S_far (p := ⟨gb182, 2, none⟩) (Kd.S_types (Kd.S_types HO185.out BK182.out (by decide)) BK181.out (by decide)) (fun _ hk => hk.1.2) (.slice Ao21 t189.length co21)) (fun _ hk => hk.1.2) (.int .i64 a0_3))) (fun _ hk => trivial), by refine mR ?_; exact Kd.R_mono (mRf4 (Kd.R_far (p := ⟨gb182, 3, none⟩) (Kd.R_far (p := ⟨gb182, 2, none⟩) (Kd.R_types (Kd.R_types HO188.out BK182.out (by decide)) BK181.out (by decide)) (fun _ hk => hk.1.2) (.slice Ao21 t189.length co21)) (fun _ hk => hk.1.2) (.int .i64 a0_3))) (fun _ hk => hk.1.1.2), by refine mR ?_; exact Kd.R_mono (mRf4 (Kd.R_far (p := ⟨gb182, 3, none⟩) (Kd.R_far (p := ⟨gb182, 2, none⟩) (Kd.R_types (Kd.R_types HO191.out BK182.out (by decide)) BK181.out (by decide)) (fun _ hk => hk.1.2) (.slice Ao21 t189.length co21)) (fun _ hk => hk.1.2) (.int .i64 a0_3))) (fun _ hk => hk.1.1.2), (mH3 HB.out GE180.out GE181.out GE182.out)⟩
def spec_l1In.f (a0 : Int) (a1 : Int) (a2 : Int) : Option (Bool) := if a0 ≥ a1 then (some (decide (a0 ≤ a2))) else (some false)
set_option maxHeartbeats 8000000 in
set_option maxRecDepth 100000 in
theorem spec_l1In.calls (a0 : Int) (a1 : Int) (a2 : Int) (r : Bool) (w : World) (h : spec_l1In.f a0 a1 a2 = some r) :
  Calls Try.prog 93 #[.int .i64 a0, .int .i64 a1, .int .i64 a2] w fun e w' => e = .returned (.bool r) ∧ Drawn0 w w' := by
 have H : (if a0 ≥ a1 then (some (decide (a0 ≤ a2))) else (some false)) = some r := h
 clear h
 by_cases c4 : a0 ≥ a1
 ·rw [if_pos c4] at H
  have c4b0 : decide (a1 ≤ a0) = true := decide_eq_true c4
  clear c4
  obtain rfl := Option.some.inj H
  go_enter Try.func93, Try.ntmps93
  go_wp2
  go_ret
  exact ⟨mE, by repeat (first | exact Drawn0.refl _ | apply Drawn0.step)⟩
 ·rw [if_neg c4] at H
  have c4b0 : decide (a1 ≤ a0) = false := decide_eq_false c4
  clear c4
  obtain rfl := Option.some.inj H
  go_enter Try.func93, Try.ntmps93
  go_wp2
  go_ret
  exact ⟨mE, by repeat (first | exact Drawn0.refl _ | apply Drawn0.step)⟩
def spec_l2Named.l0 : Nat → List (S126) → Int → Int → Option (Bool)
 | 0, _, _, _ => none
 | k + 1, x0, x1, x5 => if x5 < (x0.length : Int) then (if 0 ≤ x5 then (if ((rd_T126 x0 x5).f1) = x1 then (some true) else (spec_l2Named.l0 k x0 x1 (wrap64 (x5 + 1)))) else (none)) else (some false)
def spec_l2Named.f (k : Nat) (l0 : List (S126)) (a1 : Int) : Option (Bool) := spec_l2Named.l0 k l0 a1 0
set_option maxHeartbeats 8000000 in
set_option maxRecDepth 100000 in
theorem spec_l2Named.calls (k : Nat) (A0 : Option Addr) (c0 : Nat) (l0 : List (S126)) (a1 : Int) (r : Bool) (w : World) (hr0 : Kd.C k126 w A0 l0.length l0) (hc0 : l0.length ≤ c0) (h : spec_l2Named.f k l0 a1 = some r) :
  Calls Try.prog 94 #[.slice A0 l0.length c0, .int .i64 a1] w fun e w' => e = .returned (.bool r) ∧ Drawn0 w w' := by
 have HR0 := mS hr0
 have HC0 := mS hc0
 clear hr0 hc0
 have H : (spec_l2Named.l0 k l0 a1 0) = some r := h
 clear h
 have H' := mS H
 clear H
 go_enter Try.func94, Try.ntmps94
 go_wp2
 go_loopg [5] k (fun kq v5 w' => ∃ (x5_1 : Int), v5 = .int .i64 x5_1 ∧ Aside0 (spec_l2Named.l0 kq l0 a1 x5_1 = some r) ∧ Aside0 (kq ≤ k) ∧ Drawn0 w w')
 case atStart => exact ⟨(0), mE, H', ⟨Nat.le_refl _⟩, by repeat (first | exact Drawn0.refl _ | apply Drawn0.step)⟩
 case round =>
  clear H'
  try clear p2
  obtain ⟨x5_1, rfl, HA, HK1, ⟨m1, rfl⟩⟩ := hrel
  cases gk with
  | zero => exact absurd HA.out (by simp [spec_l2Named.l0])
  | succ k1 =>
   have H := HA.out
   clear HA
   simp only [spec_l2Named.l0] at H
   by_cases c3 : x5_1 < (l0.length : Int)
   ·rw [if_pos c3] at H
    have c3b0 := decide_eq_true c3
    clear c3
    by_cases c4 : 0 ≤ x5_1
    ·rw [if_pos c4] at H
     have c4b0 := decide_eq_true c4
     clear c4
     by_cases c5 : ((rd_T126 l0 x5_1).f1) = a1
     ·rw [if_pos c5] at H
      have c5b0 : (((rd_T126 l0 x5_1).f1) == a1) = true := beq_iff_eq.mpr c5
      have c5b1 : (((rd_T126 l0 x5_1).f1) != a1) = false := bne_eq_false_iff_eq.mpr c5
      clear c5
      obtain rfl := Option.some.inj H
      have p192 : 0 ≤ (x5_1 : Int) := mD
      have q192 : x5_1 < (l0.length : Int) := mD
      obtain ⟨ad192, e192, hx192_0, hx192_1⟩ := at_T126 HR0.out x5_1 p192 q192
      cases e192
      replace p192 := eq_true p192
      replace q192 := eq_true q192
      go_wp2
      go_ret
      exact ⟨mE, by repeat (first | exact Drawn0.refl _ | apply Drawn0.step)⟩
     ·rw [if_neg c5] at H
      have c5b0 : (((rd_T126 l0 x5_1).f1) == a1) = false := beq_eq_false_iff_ne.mpr c5
      have c5b1 : (((rd_T126 l0 x5_1).f1) != a1) = true := bne_iff_ne.mpr c5
      have H' := mS H
      clear H
      have p192 : 0 ≤ (x5_1 : Int) := mD
      have q192 : x5_1 < (l0.length : Int) := mD
      obtain ⟨ad192, e192, hx192_0, hx192_1⟩ := at_T126 HR0.out x5_1 p192 q192
      cases e192
      replace p192 := eq_true p192
      replace q192 := eq_true q192
      go_wp2
      go_roundg k1
      case measure => have := HK1.out; omega
      case rel => exact ⟨(wrap64 (x5_1 + 1)), mE, H', ⟨by have := HK1.out; omega⟩, by repeat (first | exact Drawn0.refl _ | apply Drawn0.step)⟩
    ·rw [if_neg c4] at H
     exact absurd H (by simp)
   ·rw [if_neg c3] at H
    have c3b0 := decide_eq_false c3
    clear c3
    obtain rfl := Option.some.inj H
    go_wp2
    go_ret
    exact ⟨mE, by repeat (first | exact Drawn0.refl _ | apply Drawn0.step)⟩
def spec_l2Inode.l0 : Nat → Int → Int → List (S120) → List (S126) → List (S126) → Int → Option (Int)
 | 0, _, _, _, _, _, _ => none
 | k + 1, x1, x5, x194000, x194001, x194002, x194003 => if x5 < (x194000.length : Int) then (if 0 ≤ x5 then (if ((rd_T120 x194000 x5).f0) = x1 then (some x5) else (spec_l2Inode.l0 k x1 (wrap64 (x5 + 1)) x194000 x194001 x194002 x194003)) else (none)) else (some (-1))
def spec_l2Inode.f (k : Nat) (l0_0 : List (S120)) (l0_1 : List (S126)) (l0_2 : List (S126)) (a0_3 : Int) (a1 : Int) : Option (Int) := spec_l2Inode.l0 k a1 0 l0_0 l0_1 l0_2 a0_3
set_option maxHeartbeats 8000000 in
set_option maxRecDepth 100000 in
theorem spec_l2Inode.calls (k : Nat) (A0_0 : Option Addr) (c0_0 : Nat) (l0_0 : List (S120)) (A0_1 : Option Addr) (c0_1 : Nat) (l0_1 : List (S126)) (A0_2 : Option Addr) (c0_2 : Nat) (l0_2 : List (S126)) (a0_3 : Int) (a1 : Int) (r : Int) (w : World) (hr0_0 : Kd.C k120 w A0_0 l0_0.length l0_0) (hc0_0 : l0_0.length ≤ c0_0) (hr0_1 : Kd.C k126 w A0_1 l0_1.length l0_1) (hc0_1 : l0_1.length ≤ c0_1) (hr0_2 : Kd.C k126 w A0_2 l0_2.length l0_2) (hc0_2 : l0_2.length ≤ c0_2) (h : spec_l2Inode.f k l0_0 l0_1 l0_2 a0_3 a1 = some r) :
  Calls Try.prog 103 #[.agg #[.slice A0_0 l0_0.length c0_0, .slice A0_1 l0_1.length c0_1, .slice A0_2 l0_2.length c0_2, .int .i64 a0_3], .int .i64 a1] w fun e w' => e = .returned (.int .i64 r) ∧ Below w.heap.size w w' := by
 have hu63 := Try.underlying63
 have HR0_0 := mS hr0_0
 have HC0_0 := mS hc0_0
 clear hr0_0 hc0_0
 have HR0_1 := mS hr0_1
 have HC0_1 := mS hc0_1
 clear hr0_1 hc0_1
 have HR0_2 := mS hr0_2
 have HC0_2 := mS hc0_2
 clear hr0_2 hc0_2
 have HB := mS (Below.refl w.heap.size w)
 have H : (spec_l2Inode.l0 k a1 0 l0_0 l0_1 l0_2 a0_3) = some r := h
 clear h
 have H' := mS H
 clear H
 go_enter Try.func103, Try.ntmps103
 go_wp2_with (first | ((with_reducible refine gate_dst (N := 2) rfl ?_); refine mBx 2 #[.slice A0_0 l0_0.length c0_0, .slice A0_1 l0_1.length c0_1, .slice A0_2 l0_2.length c0_2, .int .i64 a0_3] 63 ?_; intro gb193 hg w3 hbox hb; have BK193 := mS (hbox); have GW193 := mG hg (mH HB.out); have GE193 := mG hg (mH HB.out); replace HB := mS (below_step (mH HB.out) hb); clear hb hbox hg))
 go_loopg [5] k (fun kq v5 w' => ∃ (x5_1 : Int), v5 = .int .i64 x5_1 ∧ Aside0 (spec_l2Inode.l0 kq a1 x5_1 l0_0 l0_1 l0_2 a0_3 = some r) ∧ Aside0 (kq ≤ k) ∧ Aside0 (w'.heap[gb193]? = some (.cells #[(.slice A0_0 l0_0.length c0_0), (.slice A0_1 l0_1.length c0_1), (.slice A0_2 l0_2.length c0_2), .int .i64 a0_3] 63 (0, 0))) ∧ Aside0 (Below w.heap.size w w'))
 case atStart => exact ⟨(0), mE, H', ⟨Nat.le_refl _⟩, ⟨mK BK193.out⟩, ⟨(mH1 HB.out GE193.out)⟩⟩
 case round =>
  clear H'
  try clear c1
  try clear p2
  obtain ⟨x5_1, rfl, HA, HK1, BK193, HB⟩ := hrel
  cases gk with
  | zero => exact absurd HA.out (by simp [spec_l2Inode.l0])
  | succ k1 =>
   have H := HA.out
   clear HA
   simp only [spec_l2Inode.l0] at H
   by_cases c4 : x5_1 < (l0_0.length : Int)
   ·rw [if_pos c4] at H
    have c4b0 := decide_eq_true c4
    clear c4
    by_cases c5 : 0 ≤ x5_1
    ·rw [if_pos c5] at H
     have c5b0 := decide_eq_true c5
     clear c5
     by_cases c6 : ((rd_T120 l0_0 x5_1).f0) = a1
     ·rw [if_pos c6] at H
      have c6b0 : (((rd_T120 l0_0 x5_1).f0) == a1) = true := beq_iff_eq.mpr c6
      have c6b1 : (((rd_T120 l0_0 x5_1).f0) != a1) = false := bne_eq_false_iff_eq.mpr c6
      clear c6
      obtain rfl := Option.some.inj H
      obtain ⟨hcz7_0, hcz7_1, hcz7_2, hcz7_3, hfz7_0, hfz7_1, hfz7_2, hfz7_3⟩ := mZ4 BK193.out
      have p194 : 0 ≤ (x5_1 : Int) := mD
      have q194 : x5_1 < (l0_0.length : Int) := mD
      obtain ⟨ad194, A194_1, c194_1, e194, hx194_0, hx194_1, hx194_2, hl194_1, hi194_1⟩ := at_T120 HR0_0.out x5_1 p194 q194
      cases e194
      replace hx194_0 := mX HB.out hx194_0
      replace hx194_1 := mX HB.out hx194_1
      replace hx194_2 := mX HB.out hx194_2
      have HR194_1 := mS hi194_1
      have HC194_1 := mS hl194_1
      clear hi194_1 hl194_1
      replace p194 := eq_true p194
      replace q194 := eq_true q194
      go_wp2
      go_ret
      exact ⟨mEw, (mH1 HB.out GE193.out)⟩
     ·rw [if_neg c6] at H
      have c6b0 : (((rd_T120 l0_0 x5_1).f0) == a1) = false := beq_eq_false_iff_ne.mpr c6
      have c6b1 : (((rd_T120 l0_0 x5_1).f0) != a1) = true := bne_iff_ne.mpr c6
      have H' := mS H
      clear H
      obtain ⟨hcz8_0, hcz8_1, hcz8_2, hcz8_3, hfz8_0, hfz8_1, hfz8_2, hfz8_3⟩ := mZ4 BK193.out
      have p194 : 0 ≤ (x5_1 : Int) := mD
      have q194 : x5_1 < (l0_0.length : Int) := mD
      obtain ⟨ad194, A194_1, c194_1, e194, hx194_0, hx194_1, hx194_2, hl194_1, hi194_1⟩ := at_T120 HR0_0.out x5_1 p194 q194
      cases e194
      replace hx194_0 := mX HB.out hx194_0
      replace hx194_1 := mX HB.out hx194_1
      replace hx194_2 := mX HB.out hx194_2
      have HR194_1 := mS hi194_1
      have HC194_1 := mS hl194_1
      clear hi194_1 hl194_1
      replace p194 := eq_true p194
      replace q194 := eq_true q194
      go_wp2
      go_roundg k1
      case measure => have := HK1.out; omega
      case rel => exact ⟨(wrap64 (x5_1 + 1)), mE, H', ⟨by have := HK1.out; omega⟩, ⟨mK BK193.out⟩, ⟨(mH1 HB.out GE193.out)⟩⟩
    ·rw [if_neg c5] at H
     exact absurd H (by simp)
   ·rw [if_neg c4] at H
    have c4b0 := decide_eq_false c4
    clear c4
    obtain rfl := Option.some.inj H
    obtain ⟨hcz9_0, hcz9_1, hcz9_2, hcz9_3, hfz9_0, hfz9_1, hfz9_2, hfz9_3⟩ := mZ4 BK193.out
    go_wp2
    go_ret
    exact ⟨mEw, (mH1 HB.out GE193.out)⟩
mutual
def spec_l2Name.l0 : Nat → ByteArray → Int → Option (Bool)
 | 0, _, _ => none
 | k + 1, x0, x3 => if x3 < (x0.size : Int) then (if 0 ≤ x3 then ((spec_l1In.f (wrap64 (bt x0 x3)) 97 122).bind fun t196 => (if t196 = true then (spec_l2Name.j1 k x0 x3 false) else ((spec_l1In.f (wrap64 (bt x0 x3)) 48 57).bind fun t197 => (if t197 = true then (spec_l2Name.j1 k x0 x3 false) else (if (wrap64 (bt x0 x3)) = 45 then (spec_l2Name.j1 k x0 x3 false) else (spec_l2Name.j1 k x0 x3 ((wrap64 (bt x0 x3)) != 46))))))) else (none)) else (some true)
def spec_l2Name.j1 : Nat → ByteArray → Int → Bool → Option (Bool)
 | 0, _, _, _ => none
 | k + 1, x0, x3, x34 => if x34 = true then (some false) else (spec_l2Name.l0 k x0 (wrap64 (x3 + 1)))
end
def spec_l2Name.f (k : Nat) (a0 : ByteArray) : Option (Bool) := (spec_l1In.f (a0.size : Int) 1 12).bind fun t195 => (if t195 = true then (spec_l2Name.l0 k a0 0) else (some false))
set_option maxHeartbeats 8000000 in
set_option maxRecDepth 100000 in
theorem spec_l2Name.calls (k : Nat) (a0 : ByteArray) (r : Bool) (w : World) (h : spec_l2Name.f k a0 = some r) :
  Calls Try.prog 121 #[.string a0] w fun e w' => e = .returned (.bool r) ∧ Drawn0 w w' := by
 have H : ((spec_l1In.f (a0.size : Int) 1 12).bind fun t195 => (if t195 = true then (spec_l2Name.l0 k a0 0) else (some false))) = some r := h
 clear h
 replace H := Option.bind_eq_some_iff.mp H
 obtain ⟨t195, A20, H⟩ := H
 replace H : (if t195 = true then (spec_l2Name.l0 k a0 0) else (some false)) = some r := H
 have A2 := mS A20
 clear A20
 by_cases c3 : t195 = true
 ·subst c3
  have H1 := H
  rw [if_pos rfl] at H1
  clear H
  have H := H1
  clear H1
  have H' := mS H
  clear H
  go_enter Try.func121, Try.ntmps121
  go_wp2_with (first | ((with_reducible refine gate_callee (f := 93) rfl ?_); refine mGo 7 Try.func93 #[.int .i64 (a0.size : Int), .int .i64 1, .int .i64 12] ?_; (with_reducible refine (spec_l1In.calls (a0.size : Int) 1 12 true _ A2.out).mono ?_); rintro e w' ⟨rfl, ⟨nd, rfl⟩⟩; refine ⟨_, rfl, ?_⟩))
  go_loopg [3] k (fun kq v3 w' => ∃ (x3_1 : Int), v3 = .int .i64 x3_1 ∧ Aside0 (spec_l2Name.l0 kq a0 x3_1 = some r) ∧ Aside0 (kq ≤ k) ∧ Drawn0 w w')
  case atStart => exact ⟨(0), mE, H', ⟨Nat.le_refl _⟩, by repeat (first | exact Drawn0.refl _ | apply Drawn0.step)⟩
  case round =>
   clear H'
   try clear c1
   try clear p2
   try clear c3
   obtain ⟨x3_1, rfl, HA, HK1, ⟨m1, rfl⟩⟩ := hrel
   cases gk with
   | zero => exact absurd HA.out (by simp [spec_l2Name.l0])
   | succ k1 =>
    have H := HA.out
    clear HA
    simp only [spec_l2Name.l0] at H
    by_cases c4 : x3_1 < (a0.size : Int)
    ·rw [if_pos c4] at H
     have c4b0 := decide_eq_true c4
     clear c4
     by_cases c5 : 0 ≤ x3_1
     ·rw [if_pos c5] at H
      have c5b0 := decide_eq_true c5
      clear c5
      have HC7 := mS H
      clear H
      have p6 : 0 ≤ (x3_1 : Int) := mD
      have q6 : x3_1 < (a0.size : Int) := mD
      have hx6 := bt_at a0 x3_1
      replace p6 := eq_true p6
      replace q6 := eq_true q6
      go_upto_region 7 with (fail)
      go_cut [34] (fun v34 wc => ∃ (kq : Nat) (x34_6 : Bool), v34 = .bool x34_6 ∧ Aside0 (spec_l2Name.j1 kq a0 x3_1 x34_6 = some r) ∧ Aside0 (kq ≤ k1) ∧ Drawn0 w wc)
      case first =>
       have H := HC7.out
       clear HC7
       replace H := Option.bind_eq_some_iff.mp H
       obtain ⟨t196, A80, H⟩ := H
       replace H : (if t196 = true then (spec_l2Name.j1 k1 a0 x3_1 false) else ((spec_l1In.f (wrap64 (bt a0 x3_1)) 48 57).bind fun t197 => (if t197 = true then (spec_l2Name.j1 k1 a0 x3_1 false) else (if (wrap64 (bt a0 x3_1)) = 45 then (spec_l2Name.j1 k1 a0 x3_1 false) else (spec_l2Name.j1 k1 a0 x3_1 ((wrap64 (bt a0 x3_1)) != 46)))))) = some r := H
       have A8 := mS A80
       clear A80
       by_cases c9 : t196 = true
       ·subst c9
        have H1 := H
        rw [if_pos rfl] at H1
        clear H
        have H := H1
        clear H1
        have H' := mS H
        clear H
        go_wp2_with (first | ((with_reducible refine gate_callee (f := 93) rfl ?_); refine mGo 20 Try.func93 #[.int .i64 (wrap64 (bt a0 x3_1)), .int .i64 97, .int .i64 122] ?_; (with_reducible refine (spec_l1In.calls (wrap64 (bt a0 x3_1)) 97 122 true _ A8.out).mono ?_); rintro e w' ⟨rfl, ⟨nd, rfl⟩⟩; refine ⟨_, rfl, ?_⟩))
        go_meet
        case rel => exact ⟨_, (false), mE, H', ⟨by have := HK1.out; first | omega | exact Nat.le_refl _⟩, by repeat (first | exact Drawn0.refl _ | apply Drawn0.step)⟩
       ·replace c9 := Bool.eq_false_iff.mpr c9
        subst c9
        have H1 := H
        rw [if_neg (show ¬ (false = true) by decide)] at H1
        clear H
        have H := H1
        clear H1
        replace H := Option.bind_eq_some_iff.mp H
        obtain ⟨t197, A100, H⟩ := H
        replace H : (if t197 = true then (spec_l2Name.j1 k1 a0 x3_1 false) else (if (wrap64 (bt a0 x3_1)) = 45 then (spec_l2Name.j1 k1 a0 x3_1 false) else (spec_l2Name.j1 k1 a0 x3_1 ((wrap64 (bt a0 x3_1)) != 46)))) = some r := H
        have A10 := mS A100
        clear A100
        by_cases c11 : t197 = true
        ·subst c11
         have H1 := H
         rw [if_pos rfl] at H1
         clear H
         have H := H1
         clear H1
         have H' := mS H
         clear H
         go_wp2_with (first | ((with_reducible refine gate_callee (f := 93) rfl ?_); refine mGo 20 Try.func93 #[.int .i64 (wrap64 (bt a0 x3_1)), .int .i64 97, .int .i64 122] ?_; (with_reducible refine (spec_l1In.calls (wrap64 (bt a0 x3_1)) 97 122 false _ A8.out).mono ?_); rintro e w' ⟨rfl, ⟨nd, rfl⟩⟩; refine ⟨_, rfl, ?_⟩) | (go_at_call 93; (with_reducible refine (spec_l1In.calls (wrap64 (bt a0 x3_1)) 48 57 true _ A10.out).mono ?_); rintro e w' ⟨rfl, ⟨nd, rfl⟩⟩))
         go_meet
         case rel => exact ⟨_, (false), mE, H', ⟨by have := HK1.out; first | omega | exact Nat.le_refl _⟩, by repeat (first | exact Drawn0.refl _ | apply Drawn0.step)⟩
        ·replace c11 := Bool.eq_false_iff.mpr c11
         subst c11
         have H1 := H
         rw [if_neg (show ¬ (false = true) by decide)] at H1
         clear H
         have H := H1
         clear H1
         by_cases c12 : (wrap64 (bt a0 x3_1)) = 45
         ·rw [if_pos c12] at H
          have c12b0 : ((wrap64 (bt a0 x3_1)) == 45) = true := beq_iff_eq.mpr c12
          have c12b1 : ((wrap64 (bt a0 x3_1)) != 45) = false := bne_eq_false_iff_eq.mpr c12
          clear c12
          (first | rw [c12b0] | (simp only [i64_w, i32_w]; rw [c12b0]) | skip)
          have H' := mS H
          clear H
          go_wp2_with (first | ((with_reducible refine gate_callee (f := 93) rfl ?_); refine mGo 20 Try.func93 #[.int .i64 (wrap64 (bt a0 x3_1)), .int .i64 97, .int .i64 122] ?_; (with_reducible refine (spec_l1In.calls (wrap64 (bt a0 x3_1)) 97 122 false _ A8.out).mono ?_); rintro e w' ⟨rfl, ⟨nd, rfl⟩⟩; refine ⟨_, rfl, ?_⟩) | (go_at_call 93; (with_reducible refine (spec_l1In.calls (wrap64 (bt a0 x3_1)) 48 57 false _ A10.out).mono ?_); rintro e w' ⟨rfl, ⟨nd, rfl⟩⟩))
          go_meet
          case rel => exact ⟨_, (false), mE, H', ⟨by have := HK1.out; first | omega | exact Nat.le_refl _⟩, by repeat (first | exact Drawn0.refl _ | apply Drawn0.step)⟩
         ·rw [if_neg c12] at H
          have c12b0 : ((wrap64 (bt a0 x3_1)) == 45) = false := beq_eq_false_iff_ne.mpr c12
          have c12b1 : ((wrap64 (bt a0 x3_1)) != 45) = true := bne_iff_ne.mpr c12
          (first | rw [c12b0] | (simp only [i64_w, i32_w]; rw [c12b0]) | skip)
          have H' := mS H
          clear H
          go_wp2_with (first | ((with_reducible refine gate_callee (f := 93) rfl ?_); refine mGo 20 Try.func93 #[.int .i64 (wrap64 (bt a0 x3_1)), .int .i64 97, .int .i64 122] ?_; (with_reducible refine (spec_l1In.calls (wrap64 (bt a0 x3_1)) 97 122 false _ A8.out).mono ?_); rintro e w' ⟨rfl, ⟨nd, rfl⟩⟩; refine ⟨_, rfl, ?_⟩) | (go_at_call 93; (with_reducible refine (spec_l1In.calls (wrap64 (bt a0 x3_1)) 48 57 false _ A10.out).mono ?_); rintro e w' ⟨rfl, ⟨nd, rfl⟩⟩))
          go_meet
          case rel => exact ⟨_, (((wrap64 (bt a0 x3_1)) != 46)), mE, H', ⟨by have := HK1.out; first | omega | exact Nat.le_refl _⟩, by repeat (first | exact Drawn0.refl _ | apply Drawn0.step)⟩
      case rest =>
       clear HC7
       try clear c1
       try clear p2
       try clear c3
       try clear c4
       try clear c4b0
       try clear c5
       try clear c5b0
       try clear p6
       try clear q6
       try clear hx6
       try clear c9
       try clear c11
       try clear c12
       try clear c12b0
       try clear c12b1
       try clear p2
       try clear p6
       try clear q6
       obtain ⟨kq, x34_6, rfl, HA, HJ6, ⟨mc6, rfl⟩⟩ := hcut
       cases kq with
       | zero => exact absurd HA.out (by simp [spec_l2Name.j1])
       | succ kj6 =>
        have H := HA.out
        clear HA
        simp only [spec_l2Name.j1] at H
        by_cases c13 : x34_6 = true
        ·subst c13
         have H1 := H
         rw [if_pos rfl] at H1
         clear H
         have H := H1
         clear H1
         obtain rfl := Option.some.inj H
         go_wp2
         go_ret
         exact ⟨mE, by repeat (first | exact Drawn0.refl _ | apply Drawn0.step)⟩
        ·replace c13 := Bool.eq_false_iff.mpr c13
         subst c13
         have H1 := H
         rw [if_neg (show ¬ (false = true) by decide)] at H1
         clear H
         have H := H1
         clear H1
         have H' := mS H
         clear H
         go_wp2
         go_roundg kj6
         case measure => have := HK1.out; have := HJ6.out; omega
         case rel => exact ⟨(wrap64 (x3_1 + 1)), mE, H', ⟨by have := HK1.out; have := HJ6.out; omega⟩, by repeat (first | exact Drawn0.refl _ | apply Drawn0.step)⟩
     ·rw [if_neg c5] at H
      exact absurd H (by simp)
    ·rw [if_neg c4] at H
     have c4b0 := decide_eq_false c4
     clear c4
     obtain rfl := Option.some.inj H
     go_wp2
     go_ret
     exact ⟨mE, by repeat (first | exact Drawn0.refl _ | apply Drawn0.step)⟩
 ·replace c3 := Bool.eq_false_iff.mpr c3
  subst c3
  have H1 := H
  rw [if_neg (show ¬ (false = true) by decide)] at H1
  clear H
  have H := H1
  clear H1
  obtain rfl := Option.some.inj H
  go_enter Try.func121, Try.ntmps121
  go_wp2_with (first | ((with_reducible refine gate_callee (f := 93) rfl ?_); refine mGo 7 Try.func93 #[.int .i64 (a0.size : Int), .int .i64 1, .int .i64 12] ?_; (with_reducible refine (spec_l1In.calls (a0.size : Int) 1 12 false _ A2.out).mono ?_); rintro e w' ⟨rfl, ⟨nd, rfl⟩⟩; refine ⟨_, rfl, ?_⟩))
  go_ret
  exact ⟨mE, by repeat (first | exact Drawn0.refl _ | apply Drawn0.step)⟩
end Go.Proofs.Ytgbejjeephipeaa.MFnExactFall
