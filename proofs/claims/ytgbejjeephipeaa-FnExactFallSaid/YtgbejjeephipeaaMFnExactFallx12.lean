-- Written by mp.py, our own printer (wip/mp.py), and made shorter by wip/mp_shrink*.py.
import Derived.Test.YtgbejjeephipeaaVMShort
import Derived.Test.YtgbejjeephipeaaMFnExactFallx0
import Derived.Test.YtgbejjeephipeaaMFnExactFallx11
namespace Go.Proofs.Ytgbejjeephipeaa.MFnExactFall
open Go.RowKit Go.Proofs.YtgbejjeephipeaaW.PrintWords Go.Proofs.YtgbejjeephipeaaW.PrintLast Go.Proofs.YtgbejjeephipeaaW.PrintMore Go.Proofs.Ytgbejjeephipeaa.MWords
attribute [local go_sem] max2_int min2_int max_two min_two max_three min_three max_four min_four
set_option linter.unusedVariables false
set_option linter.unusedSimpArgs false
mutual
def impl_namesOk.l0 : Nat → List (S126) → List (S126) → Int → Int → List (S120) → List (S126) → List (S126) → Int → Option (Bool)
 | 0, _, _, _, _, _, _, _, _ => none
 | k + 1, x1, x7, x8, x9, x309000, x309001, x309002, x309003 => if x9 < x8 then (if 0 ≤ x9 then (if x9 < (x7.length : Int) then ((impl_nameOk.f k ((rd_T126 x7 x9).f0)).bind fun t311 => (if t311 = true then ((impl_inodeAt.f k x309000 x309001 x309002 x309003 ((rd_T126 x7 x9).f1)).bind fun t312 => (if t312 < 0 then (impl_namesOk.j1 k x1 x7 x8 x9 true x309000 x309001 x309002 x309003) else (if x9 > 0 then (if 0 ≤ (wrap64 (x9 - 1)) then (if (wrap64 (x9 - 1)) < (x1.length : Int) then (if ((Op.bytesLess (((rd_T126 x1 (wrap64 (x9 - 1))).f0).toList) (((rd_T126 x7 x9).f0).toList)) = true) then (if x9 ≤ (x1.length : Int) then ((impl_hasId.f k (x1.take (x9 : Int).toNat) ((rd_T126 x7 x9).f1)).bind fun t318 => (impl_namesOk.j1 k x1 x7 x8 x9 t318 x309000 x309001 x309002 x309003)) else (none)) else (impl_namesOk.j1 k x1 x7 x8 x9 true x309000 x309001 x309002 x309003)) else (none)) else (none)) else (if x9 ≤ (x1.length : Int) then ((impl_hasId.f k (x1.take (x9 : Int).toNat) ((rd_T126 x7 x9).f1)).bind fun t323 => (impl_namesOk.j1 k x1 x7 x8 x9 t323 x309000 x309001 x309002 x309003)) else (none))))) else (impl_namesOk.j1 k x1 x7 x8 x9 true x309000 x309001 x309002 x309003))) else (none)) else (none)) else (some (decide ((x1.length : Int) ≤ 30)))
def impl_namesOk.j1 : Nat → List (S126) → List (S126) → Int → Int → Bool → List (S120) → List (S126) → List (S126) → Int → Option (Bool)
 | 0, _, _, _, _, _, _, _, _, _ => none
 | k + 1, x1, x7, x8, x9, x47, x309000, x309001, x309002, x309003 => if x47 = true then (some false) else (impl_namesOk.l0 k x1 x7 x8 (wrap64 (x9 + 1)) x309000 x309001 x309002 x309003)
end
def impl_namesOk.f (k : Nat) (l0_0 : List (S120)) (l0_1 : List (S126)) (l0_2 : List (S126)) (a0_3 : Int) (l1 : List (S126)) : Option (Bool) := impl_namesOk.l0 k l1 l1 (l1.length : Int) 0 l0_0 l0_1 l0_2 a0_3
def impl_namesOk.T4 : Bool × List (List Nat × List Nat) := (true, [([], []), ([0], [0]), ([1], [1]), ([2], [2]), ([3, 2], [3]), ([4], [4]), ([4], [4]), ([6, 4], [4, 6]), ([5, 7, 4, 4], [4, 5, 7]), ([8, 4], [4, 8]), ([4, 9], [4, 9]), ([10, 8], [10]), ([11], [11]), ([12, 11], [11, 12]), ([13, 11, 11], [11, 13]), ([14], [14]), ([14], [14]), ([16, 14], [14, 16]), ([15, 17, 14], [14, 15, 17]), ([18, 14], [14, 18]), ([19, 14], [14, 19]), ([14], [14]), ([21, 14], [14, 21]), ([20, 22, 14], [14, 20, 22]), ([14, 23, 11], [11, 14, 23]), ([11, 24], [11, 24]), ([25, 14], [25]), ([26], [26]), ([26], [26]), ([27, 28, 26], [26, 27, 28]), ([26], [26]), ([30, 26], [26, 30]), ([29, 31, 26, 26], [26, 29, 31]), ([26, 32], [26, 32])])
def impl_namesOk.B4 : List Nat := [0, 1, 3, 7, 15, 31, 31, 95, 255, 511, 1023, 2047, 4095, 8191, 16383, 32767, 32767, 98303, 262143, 524287, 1048575, 32767, 2129919, 8388607, 16777215, 33554431, 67108863, 134217727, 134217727, 536870911, 134217727, 1207959551, 4294967295, 8589934591]
theorem impl_namesOk.tab4 : rtab .any (opsOf Try.f100 4) = impl_namesOk.T4 := by kernel_rfl
theorem impl_namesOk.bits4 : waitsOk impl_namesOk.T4.2 impl_namesOk.B4 = true := by kernel_rfl
set_option maxHeartbeats 8000000 in
set_option maxRecDepth 100000 in
theorem impl_namesOk.calls (k : Nat) (A0_0 : Option Addr) (c0_0 : Nat) (l0_0 : List (S120)) (A0_1 : Option Addr) (c0_1 : Nat) (l0_1 : List (S126)) (A0_2 : Option Addr) (c0_2 : Nat) (l0_2 : List (S126)) (a0_3 : Int) (A1 : Option Addr) (c1 : Nat) (l1 : List (S126)) (r : Bool) (w : World) (hr0_0 : Kd.C k120 w A0_0 l0_0.length l0_0) (hc0_0 : l0_0.length ≤ c0_0) (hr0_1 : Kd.C k126 w A0_1 l0_1.length l0_1) (hc0_1 : l0_1.length ≤ c0_1) (hr0_2 : Kd.C k126 w A0_2 l0_2.length l0_2) (hc0_2 : l0_2.length ≤ c0_2) (hr1 : Kd.C k126 w A1 l1.length l1) (hc1 : l1.length ≤ c1) (h : impl_namesOk.f k l0_0 l0_1 l0_2 a0_3 l1 = some r) :
  Calls Try.prog 100 #[.agg #[.slice A0_0 l0_0.length c0_0, .slice A0_1 l0_1.length c0_1, .slice A0_2 l0_2.length c0_2, .int .i64 a0_3], .slice A1 l1.length c1] w fun e w' => e = .returned (.bool r) ∧ Below w.heap.size w w' := by
 have hu63 := Try.underlying63
 have hu126 := Try.underlying126
 have HR0_0 := mS hr0_0
 have HC0_0 := mS hc0_0
 clear hr0_0 hc0_0
 have HR0_1 := mS hr0_1
 have HC0_1 := mS hc0_1
 clear hr0_1 hc0_1
 have HR0_2 := mS hr0_2
 have HC0_2 := mS hc0_2
 clear hr0_2 hc0_2
 have HR1 := mS hr1
 have HC1 := mS hc1
 clear hr1 hc1
 have HB := mS (Below.refl w.heap.size w)
 have H : (impl_namesOk.l0 k l1 l1 (l1.length : Int) 0 l0_0 l0_1 l0_2 a0_3) = some r := h
 clear h
 have H' := mS H
 clear H
 go_enter Try.func100, Try.ntmps100
 go_wp2_with (first | ((with_reducible refine gate_dst (N := 2) rfl ?_); refine mBx 2 #[.slice A0_0 l0_0.length c0_0, .slice A0_1 l0_1.length c0_1, .slice A0_2 l0_2.length c0_2, .int .i64 a0_3] 63 ?_; intro gb308 hg w3 hbox hb; have BK308 := mS (hbox); have GW308 := mG hg (mH HB.out); have GE308 := mG hg (mH HB.out); replace HB := mS (below_step (mH HB.out) hb); clear hb hbox hg))
 go_loopg [9] k (fun kq v9 w' => ∃ (x9_1 : Int), v9 = .int .i64 x9_1 ∧ Aside0 (impl_namesOk.l0 kq l1 l1 (l1.length : Int) x9_1 l0_0 l0_1 l0_2 a0_3 = some r) ∧ Aside0 (kq ≤ k) ∧ Aside0 (w'.heap[gb308]? = some (.cells #[(.slice A0_0 l0_0.length c0_0), (.slice A0_1 l0_1.length c0_1), (.slice A0_2 l0_2.length c0_2), .int .i64 a0_3] 63 (0, 0))) ∧ Aside0 (Below w.heap.size w w'))
 case atStart => exact ⟨(0), mE, H', ⟨Nat.le_refl _⟩, ⟨mK BK308.out⟩, ⟨(mH1 HB.out GE308.out)⟩⟩
 case round =>
  clear H'
  try clear c1
  try clear p2
  obtain ⟨x9_1, rfl, HA, HK1, BK308, HB⟩ := hrel
  cases gk with
  | zero => exact absurd HA.out (by simp [impl_namesOk.l0])
  | succ k1 =>
   have H := HA.out
   clear HA
   simp only [impl_namesOk.l0] at H
   by_cases c4 : x9_1 < (l1.length : Int)
   ·rw [if_pos c4] at H
    have c4b0 := decide_eq_true c4
    clear c4
    by_cases c5 : 0 ≤ x9_1
    ·rw [if_pos c5] at H
     have c5b0 := decide_eq_true c5
     clear c5
     by_cases c6 : x9_1 < (l1.length : Int)
     ·rw [if_pos c6] at H
      have c6b0 := decide_eq_true c6
      clear c6
      have HC7 := mS H
      clear H
      have p309 : 0 ≤ (x9_1 : Int) := mD
      have q309 : x9_1 < (l1.length : Int) := mD
      obtain ⟨ad309, e309, hx309_0, hx309_1⟩ := at_T126 HR1.out x9_1 p309 q309
      cases e309
      replace hx309_0 := mX HB.out hx309_0
      replace hx309_1 := mX HB.out hx309_1
      replace p309 := eq_true p309
      replace q309 := eq_true q309
      go_upto_region 4 with (first | ((with_reducible refine gate_dst (N := 6) rfl ?_); refine mBx 6 #[.string (⟨#[]⟩ : ByteArray), .int .i64 0] 126 ?_; intro gb310 hg w8 hbox hb; have BK310 := mS (hbox); have GW310 := mG hg (mH1 HB.out GE308.out); have GE310 := mG hg (mH1 HB.out GE308.out); replace HB := mS (below_step (mH1 HB.out GE308.out) hb); have NB308_310 := mNl hg BK308.out; have NB310_308 := mNg hg BK308.out; replace BK308 := mB BK308 hb; clear hb hbox hg; have hnb9 := NB310_308.out; have hnc9 := NB308_310.out; obtain ⟨hcz10_0, hcz10_1, hfz10_0, hfz10_1⟩ := mZ2 BK310.out))
      (try simp only [Act.put, zA, zB, zC])
      go_cut [47] (fun v47 wc => ∃ (kq : Nat) (x47_6 : Bool), v47 = .bool x47_6 ∧ Aside0 (impl_namesOk.j1 kq l1 l1 (l1.length : Int) x9_1 x47_6 l0_0 l0_1 l0_2 a0_3 = some r) ∧ Aside0 (kq ≤ k1) ∧ Aside0 (wc.heap[gb308]? = some (.cells #[(.slice A0_0 l0_0.length c0_0), (.slice A0_1 l0_1.length c0_1), (.slice A0_2 l0_2.length c0_2), .int .i64 a0_3] 63 (0, 0))) ∧ Aside0 (wc.heap[gb310]? = some (.cells #[.string ((rd_T126 l1 x9_1).f0), .int .i64 ((rd_T126 l1 x9_1).f1)] 126 (0, 0))) ∧ Aside0 (Below w.heap.size w wc))
      case first =>
       have H := HC7.out
       clear HC7
       replace H := Option.bind_eq_some_iff.mp H
       obtain ⟨t311, A110, H⟩ := H
       replace H : (if t311 = true then ((impl_inodeAt.f k1 l0_0 l0_1 l0_2 a0_3 ((rd_T126 l1 x9_1).f1)).bind fun t312 => (if t312 < 0 then (impl_namesOk.j1 k1 l1 l1 (l1.length : Int) x9_1 true l0_0 l0_1 l0_2 a0_3) else (if x9_1 > 0 then (if 0 ≤ (wrap64 (x9_1 - 1)) then (if (wrap64 (x9_1 - 1)) < (l1.length : Int) then (if ((Op.bytesLess (((rd_T126 l1 (wrap64 (x9_1 - 1))).f0).toList) (((rd_T126 l1 x9_1).f0).toList)) = true) then (if x9_1 ≤ (l1.length : Int) then ((impl_hasId.f k1 (l1.take (x9_1 : Int).toNat) ((rd_T126 l1 x9_1).f1)).bind fun t318 => (impl_namesOk.j1 k1 l1 l1 (l1.length : Int) x9_1 t318 l0_0 l0_1 l0_2 a0_3)) else (none)) else (impl_namesOk.j1 k1 l1 l1 (l1.length : Int) x9_1 true l0_0 l0_1 l0_2 a0_3)) else (none)) else (none)) else (if x9_1 ≤ (l1.length : Int) then ((impl_hasId.f k1 (l1.take (x9_1 : Int).toNat) ((rd_T126 l1 x9_1).f1)).bind fun t323 => (impl_namesOk.j1 k1 l1 l1 (l1.length : Int) x9_1 t323 l0_0 l0_1 l0_2 a0_3)) else (none))))) else (impl_namesOk.j1 k1 l1 l1 (l1.length : Int) x9_1 true l0_0 l0_1 l0_2 a0_3)) = some r := H
       have A11 := mS A110
       clear A110
       by_cases c12 : t311 = true
       ·subst c12
        have H1 := H
        rw [if_pos rfl] at H1
        clear H
        have H := H1
        clear H1
        replace H := Option.bind_eq_some_iff.mp H
        obtain ⟨t312, A130, H⟩ := H
        replace H : (if t312 < 0 then (impl_namesOk.j1 k1 l1 l1 (l1.length : Int) x9_1 true l0_0 l0_1 l0_2 a0_3) else (if x9_1 > 0 then (if 0 ≤ (wrap64 (x9_1 - 1)) then (if (wrap64 (x9_1 - 1)) < (l1.length : Int) then (if ((Op.bytesLess (((rd_T126 l1 (wrap64 (x9_1 - 1))).f0).toList) (((rd_T126 l1 x9_1).f0).toList)) = true) then (if x9_1 ≤ (l1.length : Int) then ((impl_hasId.f k1 (l1.take (x9_1 : Int).toNat) ((rd_T126 l1 x9_1).f1)).bind fun t318 => (impl_namesOk.j1 k1 l1 l1 (l1.length : Int) x9_1 t318 l0_0 l0_1 l0_2 a0_3)) else (none)) else (impl_namesOk.j1 k1 l1 l1 (l1.length : Int) x9_1 true l0_0 l0_1 l0_2 a0_3)) else (none)) else (none)) else (if x9_1 ≤ (l1.length : Int) then ((impl_hasId.f k1 (l1.take (x9_1 : Int).toNat) ((rd_T126 l1 x9_1).f1)).bind fun t323 => (impl_namesOk.j1 k1 l1 l1 (l1.length : Int) x9_1 t323 l0_0 l0_1 l0_2 a0_3)) else (none)))) = some r := H
        have A13 := mS A130
        clear A130
        by_cases c14 : t312 < 0
        ·rw [if_pos c14] at H
         have c14b0 := decide_eq_true c14
         clear c14
         (first | rw [c14b0] | (simp only [i64_w, i32_w]; rw [c14b0]) | skip)
         have H' := mS H
         clear H
         try go_wp2
         generalize hW_ : ((w8.setCell ⟨gb310, 0, none⟩ (.string ((rd_T126 l1 x9_1).f0))).setCell ⟨gb310, 1, none⟩ (.int .i64 ((rd_T126 l1 x9_1).f1))) = w15
         replace BK308 : Aside0 (w15.heap[gb308]? = some (.cells #[.slice A0_0 l0_0.length c0_0, .slice A0_1 l0_1.length c0_1, .slice A0_2 l0_2.length c0_2, .int .i64 a0_3] 63 (0, 0))) := by rw [← hW_]; exact ⟨mKf NB308_310.out BK308.out⟩
         replace BK310 : Aside0 (w15.heap[gb310]? = some (.cells #[.string ((rd_T126 l1 x9_1).f0), .int .i64 ((rd_T126 l1 x9_1).f1)] 126 (0, 0))) := by rw [← hW_]; exact ⟨by refine mK ?_; refine blk_put (cs := #[.string ((rd_T126 l1 x9_1).f0), .int .i64 0]) ?_ 1 _ rfl; refine mK ?_; refine blk_put (cs := #[.string (⟨#[]⟩ : ByteArray), .int .i64 0]) ?_ 0 _ rfl; refine mK ?_; exact BK310.out⟩
         replace HB : Aside0 (Below w.heap.size w w15) := by rw [← hW_]; exact ⟨(mH2 HB.out GE308.out GE310.out)⟩
         clear hW_
         replace BK308 := mS (blk_drew BK308.out)
         replace BK310 := mS (blk_drew BK310.out)
         replace HB := mS (below_drew1 HB.out)
         refine start_ (n := 34) (S := fun w' => w'.cell? ⟨gb310, 0, none⟩ = some (.string ((rd_T126 l1 x9_1).f0)) ∧ w'.cell? ⟨gb310, 1, none⟩ = some (.int .i64 ((rd_T126 l1 x9_1).f1)) ∧ w'.cell? ⟨gb308, 0, none⟩ = some (.slice A0_0 l0_0.length c0_0) ∧ w'.cell? ⟨gb308, 1, none⟩ = some (.slice A0_1 l0_1.length c0_1) ∧ w'.cell? ⟨gb308, 2, none⟩ = some (.slice A0_2 l0_2.length c0_2) ∧ w'.cell? ⟨gb308, 3, none⟩ = some (.int .i64 a0_3)) (ds := []) (mb 0 34) (by kernel_rfl) rfl rfl (mb2 BK310.out (mc4 BK308.out)) (fun hHeld => ?_); refine with_tabW impl_namesOk.tab4 impl_namesOk.bits4 (fun HT_ HW_ => ?_)
         generalize w15.drew = w16 at BK308 BK310 HB hHeld ⊢
         refine mpu 0 14 HT_.out (mb 1 33) ?_
         refine mpt 1 15 HT_.out HW_.out (mb 2 32) hHeld ?_
         refine mone 2 (some 16) HT_.out (mb 3 31) (fun K hK => ?_)
         refine goes_ Try.func124 (by kernel_rfl) rfl #[.string ((rd_T126 l1 x9_1).f0)] (by rfl) rfl rfl mA ?_
         with_reducible refine (impl_nameOk.calls k1 ((rd_T126 l1 x9_1).f0) true _ A11.out).mono ?_
         rintro e w' ⟨rfl, ⟨nd, rfl⟩⟩
         refine ⟨_, rfl, ?_⟩
         refine hK.out _ _ (mb2 BK310.out (mc4 BK308.out)) (fun hHeld => ?_)
         clear hK K
         refine mno 16 ?_
         refine mpu 3 17 HT_.out (mb 4 30) ?_
         refine mpu 4 18 HT_.out (mb 5 29) ?_
         refine mpu 6 20 HT_.out (mr [5,1,1,27]) ?_
         refine mpt 5 19 HT_.out HW_.out (mb 7 27) hHeld ?_
         refine mpt 7 21 HT_.out HW_.out (mb 8 26) hHeld ?_
         refine mone 8 (some 22) HT_.out (mb 9 25) (fun K hK => ?_)
         refine goes_ Try.func105 (by kernel_rfl) rfl #[.agg #[.slice A0_0 l0_0.length c0_0, .slice A0_1 l0_1.length c0_1, .slice A0_2 l0_2.length c0_2, .int .i64 a0_3], .int .i64 ((rd_T126 l1 x9_1).f1)] (by rfl) rfl rfl mA ?_
         with_reducible refine (impl_inodeAt.calls k1 _ _ l0_0 _ _ l0_1 _ _ l0_2 a0_3 ((rd_T126 l1 x9_1).f1) t312 _ ?side1 ?side2 ?side3 ?side4 ?side5 ?side6 A13.out).mono ?_
         (case side1 => exact mC (Kd.C_below HR0_0.out (mH2 HB.out GE308.out GE310.out)))
         (case side2 => exact HC0_0.out)
         (case side3 => exact mC (Kd.C_below HR0_1.out (mH2 HB.out GE308.out GE310.out)))
         (case side4 => exact HC0_1.out)
         (case side5 => exact mC (Kd.C_below HR0_2.out (mH2 HB.out GE308.out GE310.out)))
         (case side6 => exact HC0_2.out)
         rintro e w17 ⟨rfl, hb⟩
         refine ⟨_, rfl, ?_⟩
         replace BK308 := mB BK308 hb
         replace BK310 := mB BK310 hb
         replace HB := mS (below_step (mH2 HB.out GE308.out GE310.out) hb)
         (try clear hb)
         (try clear hb2)
         (try clear hk)
         (try clear hi)
         refine hK.out _ _ (mb2 BK310.out (mc4 BK308.out)) (fun hHeld => ?_)
         clear hK K
         refine mno 22 ?_
         refine mpu 9 23 HT_.out (mb 10 24) ?_
         refine mpu 10 24 HT_.out (mb 11 23) ?_
         refine mpu 11 25 HT_.out (mb 12 22) ?_
         refine mpf 12 26 HT_.out (mb 13 21) ?_
         refine mpf 13 27 HT_.out (mb 14 20) ?_
         refine mpf 14 28 HT_.out (mb 15 19) ?_
         refine mpf 15 29 HT_.out (mb 16 18) ?_
         refine mpf 16 30 HT_.out (mb 17 17) ?_
         refine mpf 17 31 HT_.out (mb 18 16) ?_
         refine mpf 18 32 HT_.out (mb 19 15) ?_
         refine mpf 19 33 HT_.out (mb 20 14) ?_
         refine mpf 20 34 HT_.out (mb 21 13) ?_
         refine mpf 21 35 HT_.out (mb 22 12) ?_
         refine mpf 22 36 HT_.out (mb 23 11) ?_
         refine mpf 23 37 HT_.out (mb 24 10) ?_
         refine mpf 24 38 HT_.out (mb 25 9) ?_
         refine mpu 25 39 HT_.out (mb 26 8) ?_
         refine mpu 26 40 HT_.out (mb 27 7) ?_
         refine mpf 27 41 HT_.out (mb 28 6) ?_
         refine mpf 28 42 HT_.out (mb 29 5) ?_
         refine mpf 29 43 HT_.out (mb 30 4) ?_
         refine mpf 30 44 HT_.out (mb 31 3) ?_
         refine mpf 31 45 HT_.out (mb 32 2) ?_
         refine mpf 32 46 HT_.out (mb 33 1) ?_
         refine mpu 33 47 HT_.out (mb 34 0) ?_
         refine done_ (done_of HT_.out (by kernel_rfl)) ?_
         try go_wp2
         go_meet
         case rel => exact ⟨_, (true), mE, H', ⟨by have := HK1.out; first | omega | exact Nat.le_refl _⟩, ⟨mK BK308.out⟩, ⟨mK BK310.out⟩, ⟨(mH2 HB.out GE308.out GE310.out)⟩⟩
        ·rw [if_neg c14] at H
         have c14b0 := decide_eq_false c14
         clear c14
         (first | rw [c14b0] | (simp only [i64_w, i32_w]; rw [c14b0]) | skip)
         by_cases c18 : x9_1 > 0
         ·rw [if_pos c18] at H
          have c18b0 : decide (0 < x9_1) = true := decide_eq_true c18
          clear c18
          obtain ⟨ji19, hji19⟩ : ∃ j_ : Int, (wrap64 (x9_1 - 1)) = j_ := ⟨_, rfl⟩
          replace H : (if 0 ≤ (ji19) then (if (ji19) < (l1.length : Int) then (if ((Op.bytesLess (((rd_T126 l1 (ji19)).f0).toList) (((rd_T126 l1 x9_1).f0).toList)) = true) then (if x9_1 ≤ (l1.length : Int) then ((impl_hasId.f k1 (l1.take (x9_1 : Int).toNat) ((rd_T126 l1 x9_1).f1)).bind fun t318 => (impl_namesOk.j1 k1 l1 l1 (l1.length : Int) x9_1 t318 l0_0 l0_1 l0_2 a0_3)) else (none)) else (impl_namesOk.j1 k1 l1 l1 (l1.length : Int) x9_1 true l0_0 l0_1 l0_2 a0_3)) else (none)) else (none)) = some r := by first | (rw [hji19] at H; exact H) | (simp only [hji19] at H ⊢; exact H)
          (try rw [hji19] at A11)
          (try rw [hji19] at A13)
          have hji19w : (IntKind.i64.wrap (x9_1 - 1)) = ji19 := (i64_w _).trans hji19
          by_cases c20 : 0 ≤ (ji19)
          ·rw [if_pos c20] at H
           have c20b0 := decide_eq_true c20
           clear c20
           by_cases c21 : (ji19) < (l1.length : Int)
           ·rw [if_pos c21] at H
            have c21b0 := decide_eq_true c21
            clear c21
            by_cases c22 : ((Op.bytesLess (((rd_T126 l1 (ji19)).f0).toList) (((rd_T126 l1 x9_1).f0).toList)) = true)
            ·rw [if_pos c22] at H
             have c22b0 : (Op.bytesLess (((rd_T126 l1 (ji19)).f0).toList) (((rd_T126 l1 x9_1).f0).toList)) = true := c22
             clear c22
             have c23b0 := eq_true (mD : 0 ≤ x9_1)
             by_cases c24 : x9_1 ≤ (l1.length : Int)
             ·rw [if_pos c24] at H
              have c24b0 := eq_true c24
              have c24b1 := decide_eq_true c24
              clear c24
              obtain ⟨y314, hy314⟩ : ∃ y_ : List (S126), y_ = (l1.take (x9_1 : Int).toNat) := ⟨_, rfl⟩
              replace H : ((impl_hasId.f k1 y314 ((rd_T126 l1 x9_1).f1)).bind fun t318 => (impl_namesOk.j1 k1 l1 l1 (l1.length : Int) x9_1 t318 l0_0 l0_1 l0_2 a0_3)) = some r := by first | (rw [hy314]; with_reducible exact H) | (have H2_ := (Option.bind_some _ _).symm.trans H; rw [hy314]; with_reducible exact H2_) | (have H2_ := (Option.bind_some _ _).symm.trans H; with_reducible exact H2_) | with_reducible exact H | (rw [hy314]; exact H) | exact H
              have Ny314 := mS hy314
              clear hy314
              replace H := Option.bind_eq_some_iff.mp H
              obtain ⟨t318, A250, H⟩ := H
              replace H : (impl_namesOk.j1 k1 l1 l1 (l1.length : Int) x9_1 t318 l0_0 l0_1 l0_2 a0_3) = some r := H
              have A25 := mS A250
              clear A250
              have H' := mS H
              clear H
              try go_wp2
              generalize hW_ : ((w8.setCell ⟨gb310, 0, none⟩ (.string ((rd_T126 l1 x9_1).f0))).setCell ⟨gb310, 1, none⟩ (.int .i64 ((rd_T126 l1 x9_1).f1))) = w26
              replace BK308 : Aside0 (w26.heap[gb308]? = some (.cells #[.slice A0_0 l0_0.length c0_0, .slice A0_1 l0_1.length c0_1, .slice A0_2 l0_2.length c0_2, .int .i64 a0_3] 63 (0, 0))) := by rw [← hW_]; exact ⟨mKf NB308_310.out BK308.out⟩
              replace BK310 : Aside0 (w26.heap[gb310]? = some (.cells #[.string ((rd_T126 l1 x9_1).f0), .int .i64 ((rd_T126 l1 x9_1).f1)] 126 (0, 0))) := by rw [← hW_]; exact ⟨by refine mK ?_; refine blk_put (cs := #[.string ((rd_T126 l1 x9_1).f0), .int .i64 0]) ?_ 1 _ rfl; refine mK ?_; refine blk_put (cs := #[.string (⟨#[]⟩ : ByteArray), .int .i64 0]) ?_ 0 _ rfl; refine mK ?_; exact BK310.out⟩
              replace HB : Aside0 (Below w.heap.size w w26) := by rw [← hW_]; exact ⟨(mH2 HB.out GE308.out GE310.out)⟩
              clear hW_
              replace BK308 := mS (blk_drew BK308.out)
              replace BK310 := mS (blk_drew BK310.out)
              replace HB := mS (below_drew1 HB.out)
              have p313 : 0 ≤ ((ji19) : Int) := mD
              have q313 : (ji19) < (l1.length : Int) := mD
              obtain ⟨ad313, e313, hx313_0, hx313_1⟩ := at_T126 HR1.out (ji19) p313 q313
              have hw313_1 := hx313_1
              have hw313_0 := hx313_0
              obtain rfl : ad309 = ad313 := (by injection e313)
              replace hx313_0 := mX HB.out hx313_0
              replace hx313_1 := mX HB.out hx313_1
              replace p313 := eq_true p313
              replace q313 := eq_true q313
              refine start_ (n := 34) (S := fun w' => w'.cell? ⟨gb310, 0, none⟩ = some (.string ((rd_T126 l1 x9_1).f0)) ∧ w'.cell? ⟨gb310, 1, none⟩ = some (.int .i64 ((rd_T126 l1 x9_1).f1)) ∧ w'.cell? ⟨gb308, 0, none⟩ = some (.slice A0_0 l0_0.length c0_0) ∧ w'.cell? ⟨gb308, 1, none⟩ = some (.slice A0_1 l0_1.length c0_1) ∧ w'.cell? ⟨gb308, 2, none⟩ = some (.slice A0_2 l0_2.length c0_2) ∧ w'.cell? ⟨gb308, 3, none⟩ = some (.int .i64 a0_3) ∧ w'.cell? (ad309.add (((ji19)).toNat * 2)) = some (.string ((rd_T126 l1 (ji19)).f0)) ∧ w'.cell? ⟨(ad309.add (((ji19)).toNat * 2)).block, (ad309.add (((ji19)).toNat * 2)).off + 1, none⟩ = some (.int .i64 ((rd_T126 l1 (ji19)).f1))) (ds := []) (mb 0 34) (by kernel_rfl) rfl rfl (mb2 BK310.out (mb4 BK308.out ⟨(mX HB.out hw313_0 :), (mX HB.out hw313_1 :)⟩)) (fun hHeld => ?_); refine with_tabW impl_namesOk.tab4 impl_namesOk.bits4 (fun HT_ HW_ => ?_)
              generalize w26.drew = w27 at BK308 BK310 HB hx313_0 hx313_1 hHeld ⊢
              refine mpu 0 14 HT_.out (mb 1 33) ?_
              refine mpt 1 15 HT_.out HW_.out (mb 2 32) hHeld ?_
              refine mone 2 (some 16) HT_.out (mb 3 31) (fun K hK => ?_)
              refine goes_ Try.func124 (by kernel_rfl) rfl #[.string ((rd_T126 l1 x9_1).f0)] (by rfl) rfl rfl mA ?_
              with_reducible refine (impl_nameOk.calls k1 ((rd_T126 l1 x9_1).f0) true _ A11.out).mono ?_
              rintro e w' ⟨rfl, ⟨nd, rfl⟩⟩
              refine ⟨_, rfl, ?_⟩
              refine hK.out _ _ (mb2 BK310.out (mb4 BK308.out ⟨(mX HB.out hw313_0 :), (mX HB.out hw313_1 :)⟩)) (fun hHeld => ?_)
              clear hK K
              refine mno 16 ?_
              refine mpu 3 17 HT_.out (mb 4 30) ?_
              refine mpu 4 18 HT_.out (mb 5 29) ?_
              refine mpu 6 20 HT_.out (mr [5,1,1,27]) ?_
              refine mpt 5 19 HT_.out HW_.out (mb 7 27) hHeld ?_
              refine mpt 7 21 HT_.out HW_.out (mb 8 26) hHeld ?_
              refine mone 8 (some 22) HT_.out (mb 9 25) (fun K hK => ?_)
              refine goes_ Try.func105 (by kernel_rfl) rfl #[.agg #[.slice A0_0 l0_0.length c0_0, .slice A0_1 l0_1.length c0_1, .slice A0_2 l0_2.length c0_2, .int .i64 a0_3], .int .i64 ((rd_T126 l1 x9_1).f1)] (by rfl) rfl rfl mA ?_
              with_reducible refine (impl_inodeAt.calls k1 _ _ l0_0 _ _ l0_1 _ _ l0_2 a0_3 ((rd_T126 l1 x9_1).f1) t312 _ ?side1 ?side2 ?side3 ?side4 ?side5 ?side6 A13.out).mono ?_
              (case side1 => exact mC (Kd.C_below HR0_0.out (mH2 HB.out GE308.out GE310.out)))
              (case side2 => exact HC0_0.out)
              (case side3 => exact mC (Kd.C_below HR0_1.out (mH2 HB.out GE308.out GE310.out)))
              (case side4 => exact HC0_1.out)
              (case side5 => exact mC (Kd.C_below HR0_2.out (mH2 HB.out GE308.out GE310.out)))
              (case side6 => exact HC0_2.out)
              rintro e w28 ⟨rfl, hb⟩
              refine ⟨_, rfl, ?_⟩
              replace BK308 := mB BK308 hb
              replace BK310 := mB BK310 hb
              replace HB := mS (below_step (mH2 HB.out GE308.out GE310.out) hb)
              (try clear hb)
              (try clear hb2)
              (try clear hk)
              (try clear hi)
              have q29 : (x9_1 : Int) ≤ ((l1.length : Int) : Int) := mD
              obtain ⟨i029, hi029, _, hsz29, _⟩ := info_parts info126
              have hroom29 : l1.length ≤ c1 := HC1.out
              have hC29 : Kd.C k126 _ (some ad309) l1.length l1 := HR1.out
              have hcut29 := cut_to (P := Try.prog) 61 126 .i64 Try.underlying61 hi029 (some ad309) l1.length c1 x9_1 (mD) q29 hroom29
              have hr29 := Kd.C_take (m := (x9_1 : Int).toNat) hC29 (by omega)
              have hy29 : y314.length = (x9_1 : Int).toNat := (by rw [Ny314.out, List.length_take]; omega)
              rw [← Ny314.out] at hr29
              rw [← hy29] at hcut29
              have HR317 := mS hr29
              have HC317 := mS (show y314.length ≤ c1 from by omega)
              clear hr29 hC29 hroom29 hi029 hsz29
              have KY29 := mS hy29
              clear hy29
              replace q29 := eq_true q29
              refine hK.out _ _ (mb2 BK310.out (mb4 BK308.out ⟨(mX HB.out hw313_0 :), (mX HB.out hw313_1 :)⟩)) (fun hHeld => ?_)
              clear hK K
              refine mno 22 ?_
              refine mpu 9 23 HT_.out (mb 10 24) ?_
              refine mpu 10 24 HT_.out (mb 11 23) ?_
              refine mpu 11 25 HT_.out (mb 12 22) ?_
              refine mpu 12 26 HT_.out (mb 13 21) ?_
              refine mpu 13 27 HT_.out (mb 14 20) ?_
              refine mpu 14 28 HT_.out (mb 15 19) ?_
              refine mpu 15 29 HT_.out (mb 16 18) ?_
              refine mpu 16 30 HT_.out (mb 17 17) ?_
              refine mpu 17 31 HT_.out (mb 18 16) ?_
              refine mpu 18 32 HT_.out (mb 19 15) ?_
              refine mpu 19 33 HT_.out (mb 20 14) ?_
              refine mpu 21 35 HT_.out (mr [20,1,1,12]) ?_
              refine mpt 20 34 HT_.out HW_.out (mb 22 12) hHeld ?_
              refine mpt 22 36 HT_.out HW_.out (mb 23 11) hHeld ?_
              refine mpu 23 37 HT_.out (mb 24 10) ?_
              refine mpu 24 38 HT_.out (mb 25 9) ?_
              refine mpu 25 39 HT_.out (mb 26 8) ?_
              refine mpu 26 40 HT_.out (mb 27 7) ?_
              refine mpu 27 41 HT_.out (mb 28 6) ?_
              refine mpu 28 42 HT_.out (mb 29 5) ?_
              refine mpu 29 43 HT_.out (mb 30 4) ?_
              refine mpu 30 44 HT_.out (mb 31 3) ?_
              refine mpt 31 45 HT_.out HW_.out (mb 32 2) hHeld ?_
              refine mone 32 (some 46) HT_.out (mb 33 1) (fun K hK => ?_)
              refine goes_ Try.func99 (by kernel_rfl) rfl #[.slice (some ad309) y314.length c1, .int .i64 ((rd_T126 l1 x9_1).f1)] (by rfl) rfl rfl mA ?_
              with_reducible refine (impl_hasId.calls k1 _ _ y314 ((rd_T126 l1 x9_1).f1) t318 _ ?side1 ?side2 A25.out).mono ?_
              (case side1 => exact mC (Kd.C_below HR317.out HB.out))
              (case side2 => exact HC317.out)
              rintro e w30 ⟨rfl, hb⟩
              refine ⟨_, rfl, ?_⟩
              replace BK308 := mB BK308 hb
              replace BK310 := mB BK310 hb
              replace HB := mS (below_step (mH2 HB.out GE308.out GE310.out) hb)
              (try clear hb)
              (try clear hb2)
              (try clear hk)
              (try clear hi)
              refine hK.out _ _ (mb2 BK310.out (mb4 BK308.out ⟨(mX HB.out hw313_0 :), (mX HB.out hw313_1 :)⟩)) (fun hHeld => ?_)
              clear hK K
              refine mno 46 ?_
              refine mpu 33 47 HT_.out (mb 34 0) ?_
              refine done_ (done_of HT_.out (by kernel_rfl)) ?_
              try go_wp2
              go_meet
              case rel => exact ⟨_, (t318), mE, H', ⟨by have := HK1.out; first | omega | exact Nat.le_refl _⟩, ⟨mK BK308.out⟩, ⟨mK BK310.out⟩, ⟨(mH2 HB.out GE308.out GE310.out)⟩⟩
             ·rw [if_neg c24] at H
              exact absurd H (by simp)
            ·rw [if_neg c22] at H
             have c22b0 : (Op.bytesLess (((rd_T126 l1 (ji19)).f0).toList) (((rd_T126 l1 x9_1).f0).toList)) = false := by simpa using c22
             clear c22
             have H' := mS H
             clear H
             try go_wp2
             generalize hW_ : ((w8.setCell ⟨gb310, 0, none⟩ (.string ((rd_T126 l1 x9_1).f0))).setCell ⟨gb310, 1, none⟩ (.int .i64 ((rd_T126 l1 x9_1).f1))) = w31
             replace BK308 : Aside0 (w31.heap[gb308]? = some (.cells #[.slice A0_0 l0_0.length c0_0, .slice A0_1 l0_1.length c0_1, .slice A0_2 l0_2.length c0_2, .int .i64 a0_3] 63 (0, 0))) := by rw [← hW_]; exact ⟨mKf NB308_310.out BK308.out⟩
             replace BK310 : Aside0 (w31.heap[gb310]? = some (.cells #[.string ((rd_T126 l1 x9_1).f0), .int .i64 ((rd_T126 l1 x9_1).f1)] 126 (0, 0))) := by rw [← hW_]; exact ⟨by refine mK ?_; refine blk_put (cs := #[.string ((rd_T126 l1 x9_1).f0), .int .i64 0]) ?_ 1 _ rfl; refine mK ?_; refine blk_put (cs := #[.string (⟨#[]⟩ : ByteArray), .int .i64 0]) ?_ 0 _ rfl; refine mK ?_; exact BK310.out⟩
             replace HB : Aside0 (Below w.heap.size w w31) := by rw [← hW_]; exact ⟨(mH2 HB.out GE308.out GE310.out)⟩
             clear hW_
             replace BK308 := mS (blk_drew BK308.out)
             replace BK310 := mS (blk_drew BK310.out)
             replace HB := mS (below_drew1 HB.out)
             have p313 : 0 ≤ ((ji19) : Int) := mD
             have q313 : (ji19) < (l1.length : Int) := mD
             obtain ⟨ad313, e313, hx313_0, hx313_1⟩ := at_T126 HR1.out (ji19) p313 q313
             have hw313_1 := hx313_1
             have hw313_0 := hx313_0
             obtain rfl : ad309 = ad313 := (by injection e313)
             replace hx313_0 := mX HB.out hx313_0
             replace hx313_1 := mX HB.out hx313_1
             replace p313 := eq_true p313
             replace q313 := eq_true q313
             refine start_ (n := 34) (S := fun w' => w'.cell? ⟨gb310, 0, none⟩ = some (.string ((rd_T126 l1 x9_1).f0)) ∧ w'.cell? ⟨gb310, 1, none⟩ = some (.int .i64 ((rd_T126 l1 x9_1).f1)) ∧ w'.cell? ⟨gb308, 0, none⟩ = some (.slice A0_0 l0_0.length c0_0) ∧ w'.cell? ⟨gb308, 1, none⟩ = some (.slice A0_1 l0_1.length c0_1) ∧ w'.cell? ⟨gb308, 2, none⟩ = some (.slice A0_2 l0_2.length c0_2) ∧ w'.cell? ⟨gb308, 3, none⟩ = some (.int .i64 a0_3) ∧ w'.cell? (ad309.add (((ji19)).toNat * 2)) = some (.string ((rd_T126 l1 (ji19)).f0)) ∧ w'.cell? ⟨(ad309.add (((ji19)).toNat * 2)).block, (ad309.add (((ji19)).toNat * 2)).off + 1, none⟩ = some (.int .i64 ((rd_T126 l1 (ji19)).f1))) (ds := []) (mb 0 34) (by kernel_rfl) rfl rfl (mb2 BK310.out (mb4 BK308.out ⟨(mX HB.out hw313_0 :), (mX HB.out hw313_1 :)⟩)) (fun hHeld => ?_); refine with_tabW impl_namesOk.tab4 impl_namesOk.bits4 (fun HT_ HW_ => ?_)
             generalize w31.drew = w32 at BK308 BK310 HB hx313_0 hx313_1 hHeld ⊢
             refine mpu 0 14 HT_.out (mb 1 33) ?_
             refine mpt 1 15 HT_.out HW_.out (mb 2 32) hHeld ?_
             refine mone 2 (some 16) HT_.out (mb 3 31) (fun K hK => ?_)
             refine goes_ Try.func124 (by kernel_rfl) rfl #[.string ((rd_T126 l1 x9_1).f0)] (by rfl) rfl rfl mA ?_
             with_reducible refine (impl_nameOk.calls k1 ((rd_T126 l1 x9_1).f0) true _ A11.out).mono ?_
             rintro e w' ⟨rfl, ⟨nd, rfl⟩⟩
             refine ⟨_, rfl, ?_⟩
             refine hK.out _ _ (mb2 BK310.out (mb4 BK308.out ⟨(mX HB.out hw313_0 :), (mX HB.out hw313_1 :)⟩)) (fun hHeld => ?_)
             clear hK K
             refine mno 16 ?_
             refine mpu 3 17 HT_.out (mb 4 30) ?_
             refine mpu 4 18 HT_.out (mb 5 29) ?_
             refine mpu 6 20 HT_.out (mr [5,1,1,27]) ?_
             refine mpt 5 19 HT_.out HW_.out (mb 7 27) hHeld ?_
             refine mpt 7 21 HT_.out HW_.out (mb 8 26) hHeld ?_
             refine mone 8 (some 22) HT_.out (mb 9 25) (fun K hK => ?_)
             refine goes_ Try.func105 (by kernel_rfl) rfl #[.agg #[.slice A0_0 l0_0.length c0_0, .slice A0_1 l0_1.length c0_1, .slice A0_2 l0_2.length c0_2, .int .i64 a0_3], .int .i64 ((rd_T126 l1 x9_1).f1)] (by rfl) rfl rfl mA ?_
             with_reducible refine (impl_inodeAt.calls k1 _ _ l0_0 _ _ l0_1 _ _ l0_2 a0_3 ((rd_T126 l1 x9_1).f1) t312 _ ?side1 ?side2 ?side3 ?side4 ?side5 ?side6 A13.out).mono ?_
             (case side1 => exact mC (Kd.C_below HR0_0.out (mH2 HB.out GE308.out GE310.out)))
             (case side2 => exact HC0_0.out)
             (case side3 => exact mC (Kd.C_below HR0_1.out (mH2 HB.out GE308.out GE310.out)))
             (case side4 => exact HC0_1.out)
             (case side5 => exact mC (Kd.C_below HR0_2.out (mH2 HB.out GE308.out GE310.out)))
             (case side6 => exact HC0_2.out)
             rintro e w33 ⟨rfl, hb⟩
             refine ⟨_, rfl, ?_⟩
             replace BK308 := mB BK308 hb
             replace BK310 := mB BK310 hb
             replace HB := mS (below_step (mH2 HB.out GE308.out GE310.out) hb)
             (try clear hb)
             (try clear hb2)
             (try clear hk)
             (try clear hi)
             refine hK.out _ _ (mb2 BK310.out (mb4 BK308.out ⟨(mX HB.out hw313_0 :), (mX HB.out hw313_1 :)⟩)) (fun hHeld => ?_)
             clear hK K
             refine mno 22 ?_
             refine mpu 9 23 HT_.out (mb 10 24) ?_
             refine mpu 10 24 HT_.out (mb 11 23) ?_
             refine mpu 11 25 HT_.out (mb 12 22) ?_
             refine mpu 12 26 HT_.out (mb 13 21) ?_
             refine mpu 13 27 HT_.out (mb 14 20) ?_
             refine mpu 14 28 HT_.out (mb 15 19) ?_
             refine mpu 15 29 HT_.out (mb 16 18) ?_
             refine mpu 16 30 HT_.out (mb 17 17) ?_
             refine mpu 17 31 HT_.out (mb 18 16) ?_
             refine mpu 18 32 HT_.out (mb 19 15) ?_
             refine mpu 19 33 HT_.out (mb 20 14) ?_
             refine mpu 21 35 HT_.out (mr [20,1,1,12]) ?_
             refine mpt 20 34 HT_.out HW_.out (mb 22 12) hHeld ?_
             refine mpt 22 36 HT_.out HW_.out (mb 23 11) hHeld ?_
             refine mpu 23 37 HT_.out (mb 24 10) ?_
             refine mpu 24 38 HT_.out (mb 25 9) ?_
             refine mpu 25 39 HT_.out (mb 26 8) ?_
             refine mpu 26 40 HT_.out (mb 27 7) ?_
             refine mpf 27 41 HT_.out (mb 28 6) ?_
             refine mpf 28 42 HT_.out (mb 29 5) ?_
             refine mpf 29 43 HT_.out (mb 30 4) ?_
             refine mpf 30 44 HT_.out (mb 31 3) ?_
             refine mpf 31 45 HT_.out (mb 32 2) ?_
             refine mpf 32 46 HT_.out (mb 33 1) ?_
             refine mpu 33 47 HT_.out (mb 34 0) ?_
             refine done_ (done_of HT_.out (by kernel_rfl)) ?_
             try go_wp2
             go_meet
             case rel => exact ⟨_, (true), mE, H', ⟨by have := HK1.out; first | omega | exact Nat.le_refl _⟩, ⟨mK BK308.out⟩, ⟨mK BK310.out⟩, ⟨(mH2 HB.out GE308.out GE310.out)⟩⟩
           ·rw [if_neg c21] at H
            exact absurd H (by simp)
          ·rw [if_neg c20] at H
           exact absurd H (by simp)
         ·rw [if_neg c18] at H
          have c18b0 : decide (0 < x9_1) = false := decide_eq_false c18
          clear c18
          have c34b0 := eq_true (mD : 0 ≤ x9_1)
          by_cases c35 : x9_1 ≤ (l1.length : Int)
          ·rw [if_pos c35] at H
           have c35b0 := eq_true c35
           have c35b1 := decide_eq_true c35
           clear c35
           obtain ⟨y319, hy319⟩ : ∃ y_ : List (S126), y_ = (l1.take (x9_1 : Int).toNat) := ⟨_, rfl⟩
           replace H : ((impl_hasId.f k1 y319 ((rd_T126 l1 x9_1).f1)).bind fun t323 => (impl_namesOk.j1 k1 l1 l1 (l1.length : Int) x9_1 t323 l0_0 l0_1 l0_2 a0_3)) = some r := by first | (rw [hy319]; with_reducible exact H) | (have H2_ := (Option.bind_some _ _).symm.trans H; rw [hy319]; with_reducible exact H2_) | (have H2_ := (Option.bind_some _ _).symm.trans H; with_reducible exact H2_) | with_reducible exact H | (rw [hy319]; exact H) | exact H
           have Ny319 := mS hy319
           clear hy319
           replace H := Option.bind_eq_some_iff.mp H
           obtain ⟨t323, A360, H⟩ := H
           replace H : (impl_namesOk.j1 k1 l1 l1 (l1.length : Int) x9_1 t323 l0_0 l0_1 l0_2 a0_3) = some r := H
           have A36 := mS A360
           clear A360
           have H' := mS H
           clear H
           try go_wp2
           generalize hW_ : ((w8.setCell ⟨gb310, 0, none⟩ (.string ((rd_T126 l1 x9_1).f0))).setCell ⟨gb310, 1, none⟩ (.int .i64 ((rd_T126 l1 x9_1).f1))) = w37
           replace BK308 : Aside0 (w37.heap[gb308]? = some (.cells #[.slice A0_0 l0_0.length c0_0, .slice A0_1 l0_1.length c0_1, .slice A0_2 l0_2.length c0_2, .int .i64 a0_3] 63 (0, 0))) := by rw [← hW_]; exact ⟨mKf NB308_310.out BK308.out⟩
           replace BK310 : Aside0 (w37.heap[gb310]? = some (.cells #[.string ((rd_T126 l1 x9_1).f0), .int .i64 ((rd_T126 l1 x9_1).f1)] 126 (0, 0))) := by rw [← hW_]; exact ⟨by refine mK ?_; refine blk_put (cs := #[.string ((rd_T126 l1 x9_1).f0), .int .i64 0]) ?_ 1 _ rfl; refine mK ?_; refine blk_put (cs := #[.string (⟨#[]⟩ : ByteArray), .int .i64 0]) ?_ 0 _ rfl; refine mK ?_; exact BK310.out⟩
           replace HB : Aside0 (Below w.heap.size w w37) := by rw [← hW_]; exact ⟨(mH2 HB.out GE308.out GE310.out)⟩
           clear hW_
           replace BK308 := mS (blk_drew BK308.out)
           replace BK310 := mS (blk_drew BK310.out)
           replace HB := mS (below_drew1 HB.out)
           refine start_ (n := 34) (S := fun w' => w'.cell? ⟨gb310, 0, none⟩ = some (.string ((rd_T126 l1 x9_1).f0)) ∧ w'.cell? ⟨gb310, 1, none⟩ = some (.int .i64 ((rd_T126 l1 x9_1).f1)) ∧ w'.cell? ⟨gb308, 0, none⟩ = some (.slice A0_0 l0_0.length c0_0) ∧ w'.cell? ⟨gb308, 1, none⟩ = some (.slice A0_1 l0_1.length c0_1) ∧ w'.cell? ⟨gb308, 2, none⟩ = some (.slice A0_2 l0_2.length c0_2) ∧ w'.cell? ⟨gb308, 3, none⟩ = some (.int .i64 a0_3)) (ds := []) (mb 0 34) (by kernel_rfl) rfl rfl (mb2 BK310.out (mc4 BK308.out)) (fun hHeld => ?_); refine with_tabW impl_namesOk.tab4 impl_namesOk.bits4 (fun HT_ HW_ => ?_)
           generalize w37.drew = w38 at BK308 BK310 HB hHeld ⊢
           refine mpu 0 14 HT_.out (mb 1 33) ?_
           refine mpt 1 15 HT_.out HW_.out (mb 2 32) hHeld ?_
           refine mone 2 (some 16) HT_.out (mb 3 31) (fun K hK => ?_)
           refine goes_ Try.func124 (by kernel_rfl) rfl #[.string ((rd_T126 l1 x9_1).f0)] (by rfl) rfl rfl mA ?_
           with_reducible refine (impl_nameOk.calls k1 ((rd_T126 l1 x9_1).f0) true _ A11.out).mono ?_
           rintro e w' ⟨rfl, ⟨nd, rfl⟩⟩
           refine ⟨_, rfl, ?_⟩
           refine hK.out _ _ (mb2 BK310.out (mc4 BK308.out)) (fun hHeld => ?_)
           clear hK K
           refine mno 16 ?_
           refine mpu 3 17 HT_.out (mb 4 30) ?_
           refine mpu 4 18 HT_.out (mb 5 29) ?_
           refine mpu 6 20 HT_.out (mr [5,1,1,27]) ?_
           refine mpt 5 19 HT_.out HW_.out (mb 7 27) hHeld ?_
           refine mpt 7 21 HT_.out HW_.out (mb 8 26) hHeld ?_
           refine mone 8 (some 22) HT_.out (mb 9 25) (fun K hK => ?_)
           refine goes_ Try.func105 (by kernel_rfl) rfl #[.agg #[.slice A0_0 l0_0.length c0_0, .slice A0_1 l0_1.length c0_1, .slice A0_2 l0_2.length c0_2, .int .i64 a0_3], .int .i64 ((rd_T126 l1 x9_1).f1)] (by rfl) rfl rfl mA ?_
           with_reducible refine (impl_inodeAt.calls k1 _ _ l0_0 _ _ l0_1 _ _ l0_2 a0_3 ((rd_T126 l1 x9_1).f1) t312 _ ?side1 ?side2 ?side3 ?side4 ?side5 ?side6 A13.out).mono ?_
           (case side1 => exact mC (Kd.C_below HR0_0.out (mH2 HB.out GE308.out GE310.out)))
           (case side2 => exact HC0_0.out)
           (case side3 => exact mC (Kd.C_below HR0_1.out (mH2 HB.out GE308.out GE310.out)))
           (case side4 => exact HC0_1.out)
           (case side5 => exact mC (Kd.C_below HR0_2.out (mH2 HB.out GE308.out GE310.out)))
           (case side6 => exact HC0_2.out)
           rintro e w39 ⟨rfl, hb⟩
           refine ⟨_, rfl, ?_⟩
           replace BK308 := mB BK308 hb
           replace BK310 := mB BK310 hb
           replace HB := mS (below_step (mH2 HB.out GE308.out GE310.out) hb)
           (try clear hb)
           (try clear hb2)
           (try clear hk)
           (try clear hi)
           have q40 : (x9_1 : Int) ≤ ((l1.length : Int) : Int) := mD
           obtain ⟨i040, hi040, _, hsz40, _⟩ := info_parts info126
           have hroom40 : l1.length ≤ c1 := HC1.out
           have hC40 : Kd.C k126 _ (some ad309) l1.length l1 := HR1.out
           have hcut40 := cut_to (P := Try.prog) 61 126 .i64 Try.underlying61 hi040 (some ad309) l1.length c1 x9_1 (mD) q40 hroom40
           have hr40 := Kd.C_take (m := (x9_1 : Int).toNat) hC40 (by omega)
           have hy40 : y319.length = (x9_1 : Int).toNat := (by rw [Ny319.out, List.length_take]; omega)
           rw [← Ny319.out] at hr40
           rw [← hy40] at hcut40
           have HR322 := mS hr40
           have HC322 := mS (show y319.length ≤ c1 from by omega)
           clear hr40 hC40 hroom40 hi040 hsz40
           have KY40 := mS hy40
           clear hy40
           replace q40 := eq_true q40
           refine hK.out _ _ (mb2 BK310.out (mc4 BK308.out)) (fun hHeld => ?_)
           clear hK K
           refine mno 22 ?_
           refine mpu 9 23 HT_.out (mb 10 24) ?_
           refine mpu 10 24 HT_.out (mb 11 23) ?_
           refine mpu 11 25 HT_.out (mb 12 22) ?_
           refine mpu 12 26 HT_.out (mb 13 21) ?_
           refine mpu 13 27 HT_.out (mb 14 20) ?_
           refine mpu 14 28 HT_.out (mb 15 19) ?_
           refine mpf 15 29 HT_.out (mb 16 18) ?_
           refine mpf 16 30 HT_.out (mb 17 17) ?_
           refine mpf 17 31 HT_.out (mb 18 16) ?_
           refine mpf 18 32 HT_.out (mb 19 15) ?_
           refine mpf 19 33 HT_.out (mb 20 14) ?_
           refine mpf 20 34 HT_.out (mb 21 13) ?_
           refine mpf 21 35 HT_.out (mb 22 12) ?_
           refine mpf 22 36 HT_.out (mb 23 11) ?_
           refine mpf 23 37 HT_.out (mb 24 10) ?_
           refine mpu 24 38 HT_.out (mb 25 9) ?_
           refine mpu 25 39 HT_.out (mb 26 8) ?_
           refine mpu 26 40 HT_.out (mb 27 7) ?_
           refine mpu 27 41 HT_.out (mb 28 6) ?_
           refine mpu 28 42 HT_.out (mb 29 5) ?_
           refine mpu 29 43 HT_.out (mb 30 4) ?_
           refine mpu 30 44 HT_.out (mb 31 3) ?_
           refine mpt 31 45 HT_.out HW_.out (mb 32 2) hHeld ?_
           refine mone 32 (some 46) HT_.out (mb 33 1) (fun K hK => ?_)
           refine goes_ Try.func99 (by kernel_rfl) rfl #[.slice (some ad309) y319.length c1, .int .i64 ((rd_T126 l1 x9_1).f1)] (by rfl) rfl rfl mA ?_
           with_reducible refine (impl_hasId.calls k1 _ _ y319 ((rd_T126 l1 x9_1).f1) t323 _ ?side1 ?side2 A36.out).mono ?_
           (case side1 => exact mC (Kd.C_below HR322.out HB.out))
           (case side2 => exact HC322.out)
           rintro e w41 ⟨rfl, hb⟩
           refine ⟨_, rfl, ?_⟩
           replace BK308 := mB BK308 hb
           replace BK310 := mB BK310 hb
           replace HB := mS (below_step (mH2 HB.out GE308.out GE310.out) hb)
           (try clear hb)
           (try clear hb2)
           (try clear hk)
           (try clear hi)
           refine hK.out _ _ (mb2 BK310.out (mc4 BK308.out)) (fun hHeld => ?_)
           clear hK K
           refine mno 46 ?_
           refine mpu 33 47 HT_.out (mb 34 0) ?_
           refine done_ (done_of HT_.out (by kernel_rfl)) ?_
           try go_wp2
           go_meet
           case rel => exact ⟨_, (t323), mE, H', ⟨by have := HK1.out; first | omega | exact Nat.le_refl _⟩, ⟨mK BK308.out⟩, ⟨mK BK310.out⟩, ⟨(mH2 HB.out GE308.out GE310.out)⟩⟩
          ·rw [if_neg c35] at H
           exact absurd H (by simp)
       ·replace c12 := Bool.eq_false_iff.mpr c12
        subst c12
        have H1 := H
        rw [if_neg (show ¬ (false = true) by decide)] at H1
        clear H
        have H := H1
        clear H1
        have H' := mS H
        clear H
        try go_wp2
        generalize hW_ : ((w8.setCell ⟨gb310, 0, none⟩ (.string ((rd_T126 l1 x9_1).f0))).setCell ⟨gb310, 1, none⟩ (.int .i64 ((rd_T126 l1 x9_1).f1))) = w42
        replace BK308 : Aside0 (w42.heap[gb308]? = some (.cells #[.slice A0_0 l0_0.length c0_0, .slice A0_1 l0_1.length c0_1, .slice A0_2 l0_2.length c0_2, .int .i64 a0_3] 63 (0, 0))) := by rw [← hW_]; exact ⟨mKf NB308_310.out BK308.out⟩
        replace BK310 : Aside0 (w42.heap[gb310]? = some (.cells #[.string ((rd_T126 l1 x9_1).f0), .int .i64 ((rd_T126 l1 x9_1).f1)] 126 (0, 0))) := by rw [← hW_]; exact ⟨by refine mK ?_; refine blk_put (cs := #[.string ((rd_T126 l1 x9_1).f0), .int .i64 0]) ?_ 1 _ rfl; refine mK ?_; refine blk_put (cs := #[.string (⟨#[]⟩ : ByteArray), .int .i64 0]) ?_ 0 _ rfl; refine mK ?_; exact BK310.out⟩
        replace HB : Aside0 (Below w.heap.size w w42) := by rw [← hW_]; exact ⟨(mH2 HB.out GE308.out GE310.out)⟩
        clear hW_
        replace BK308 := mS (blk_drew BK308.out)
        replace BK310 := mS (blk_drew BK310.out)
        replace HB := mS (below_drew1 HB.out)
        refine start_ (n := 34) (S := fun w' => w'.cell? ⟨gb310, 0, none⟩ = some (.string ((rd_T126 l1 x9_1).f0)) ∧ w'.cell? ⟨gb310, 1, none⟩ = some (.int .i64 ((rd_T126 l1 x9_1).f1))) (ds := []) (mb 0 34) (by kernel_rfl) rfl rfl (mc2 BK310.out) (fun hHeld => ?_); refine with_tabW impl_namesOk.tab4 impl_namesOk.bits4 (fun HT_ HW_ => ?_)
        generalize w42.drew = w43 at BK308 BK310 HB hHeld ⊢
        refine mpu 0 14 HT_.out (mb 1 33) ?_
        refine mpt 1 15 HT_.out HW_.out (mb 2 32) hHeld ?_
        refine mone 2 (some 16) HT_.out (mb 3 31) (fun K hK => ?_)
        refine goes_ Try.func124 (by kernel_rfl) rfl #[.string ((rd_T126 l1 x9_1).f0)] (by rfl) rfl rfl mA ?_
        with_reducible refine (impl_nameOk.calls k1 ((rd_T126 l1 x9_1).f0) false _ A11.out).mono ?_
        rintro e w' ⟨rfl, ⟨nd, rfl⟩⟩
        refine ⟨_, rfl, ?_⟩
        refine hK.out _ _ (mc2 BK310.out) (fun hHeld => ?_)
        clear hK K
        refine mno 16 ?_
        refine mpu 3 17 HT_.out (mb 4 30) ?_
        refine mpu 4 18 HT_.out (mb 5 29) ?_
        refine mpf 5 19 HT_.out (mb 6 28) ?_
        refine mpf 6 20 HT_.out (mb 7 27) ?_
        refine mpf 7 21 HT_.out (mb 8 26) ?_
        refine mpf 8 22 HT_.out (mb 9 25) ?_
        refine mpf 9 23 HT_.out (mb 10 24) ?_
        refine mpu 10 24 HT_.out (mb 11 23) ?_
        refine mpu 11 25 HT_.out (mb 12 22) ?_
        refine mpf 12 26 HT_.out (mb 13 21) ?_
        refine mpf 13 27 HT_.out (mb 14 20) ?_
        refine mpf 14 28 HT_.out (mb 15 19) ?_
        refine mpf 15 29 HT_.out (mb 16 18) ?_
        refine mpf 16 30 HT_.out (mb 17 17) ?_
        refine mpf 17 31 HT_.out (mb 18 16) ?_
        refine mpf 18 32 HT_.out (mb 19 15) ?_
        refine mpf 19 33 HT_.out (mb 20 14) ?_
        refine mpf 20 34 HT_.out (mb 21 13) ?_
        refine mpf 21 35 HT_.out (mb 22 12) ?_
        refine mpf 22 36 HT_.out (mb 23 11) ?_
        refine mpf 23 37 HT_.out (mb 24 10) ?_
        refine mpf 24 38 HT_.out (mb 25 9) ?_
        refine mpu 25 39 HT_.out (mb 26 8) ?_
        refine mpu 26 40 HT_.out (mb 27 7) ?_
        refine mpf 27 41 HT_.out (mb 28 6) ?_
        refine mpf 28 42 HT_.out (mb 29 5) ?_
        refine mpf 29 43 HT_.out (mb 30 4) ?_
        refine mpf 30 44 HT_.out (mb 31 3) ?_
        refine mpf 31 45 HT_.out (mb 32 2) ?_
        refine mpf 32 46 HT_.out (mb 33 1) ?_
        refine mpu 33 47 HT_.out (mb 34 0) ?_
        refine done_ (done_of HT_.out (by kernel_rfl)) ?_
        try go_wp2
        go_meet
        case rel => exact ⟨_, (true), mE, H', ⟨by have := HK1.out; first | omega | exact Nat.le_refl _⟩, ⟨mK BK308.out⟩, ⟨mK BK310.out⟩, ⟨(mH2 HB.out GE308.out GE310.out)⟩⟩
      case rest =>
       clear HC7
       try clear c1
       try clear c2
       try clear p2
       try clear c3
       try clear q4
       try clear c9
       try clear c10
       try clear c12
       try clear c18
       try clear c18b0
       try clear c20
       try clear c21
       try clear c34
       try clear c34b0
       try clear c35
       try clear c35b0
       try clear c35b1
       try clear q40
       try clear q40
       obtain ⟨kq, x47_6, rfl, HA, HJ6, BK308, BK310, HB⟩ := hcut
       cases kq with
       | zero => exact absurd HA.out (by simp [impl_namesOk.j1])
       | succ kj6 =>
        have H := HA.out
        clear HA
        simp only [impl_namesOk.j1] at H
        by_cases c44 : x47_6 = true
        ·subst c44
         have H1 := H
         rw [if_pos rfl] at H1
         clear H
         have H := H1
         clear H1
         obtain rfl := Option.some.inj H
         go_wp2
         go_ret
         exact ⟨mEw, (mH2 HB.out GE308.out GE310.out)⟩
        ·replace c44 := Bool.eq_false_iff.mpr c44
         subst c44
         have H1 := H
         rw [if_neg (show ¬ (false = true) by decide)] at H1
         clear H
         have H := H1
         clear H1
         have H' := mS H
         clear H
         go_wp2
         go_roundg kj6
         case measure => have := HK1.out; have := HJ6.out; omega
         case rel => exact ⟨(wrap64 (x9_1 + 1)), mE, H', ⟨by have := HK1.out; have := HJ6.out; omega⟩, ⟨mK BK308.out⟩, ⟨(mH2 HB.out GE308.out GE310.out)⟩⟩
     ·rw [if_neg c6] at H
      exact absurd H (by simp)
    ·rw [if_neg c5] at H
     exact absurd H (by simp)
   ·rw [if_neg c4] at H
    have c4b0 := decide_eq_false c4
    clear c4
    obtain rfl := Option.some.inj H
    go_wp2
    go_ret
    exact ⟨mEw, (mH1 HB.out GE308.out)⟩
end Go.Proofs.Ytgbejjeephipeaa.MFnExactFall
