-- Written by mp.py, our own printer (wip/mp.py), and made shorter by wip/mp_shrink*.py.
import Derived.Test.YtgbejjeephipeaaVMShort
import Derived.Test.YtgbejjeephipeaaMFnExactFallx0
namespace Go.Proofs.Ytgbejjeephipeaa.MFnExactFall
open Go.RowKit Go.Proofs.YtgbejjeephipeaaW.PrintWords Go.Proofs.YtgbejjeephipeaaW.PrintLast Go.Proofs.YtgbejjeephipeaaW.PrintMore Go.Proofs.Ytgbejjeephipeaa.MWords
attribute [local go_sem] max2_int min2_int max_two min_two max_three min_three max_four min_four
set_option linter.unusedVariables false
set_option linter.unusedSimpArgs false
def impl_copyBytes.f (l0 : List Int) : Option (List Int) := if ([] : List Int).length + l0.length < 140737488355328 then (some (([] : List Int) ++ l0)) else (none)
set_option maxHeartbeats 8000000 in
set_option maxRecDepth 100000 in
theorem impl_copyBytes.calls (A0 : Option Addr) (c0 : Nat) (l0 : List Int) (r : List Int) (w : World) (hr0 : Kd.C (Kd.int .u8) w A0 l0.length l0) (hc0 : l0.length ≤ c0) (h : impl_copyBytes.f l0 = some r) :
  Calls Try.prog 107 #[.slice A0 l0.length c0] w fun e w' => ∃ v0_ : Value, e = .returned (v0_) ∧ Kd.R (Kd.int .u8) 5 w' w.heap.size (fun _ => True) v0_ r ∧ Below w.heap.size w w' := by
 have HR0 := mS hr0
 have HC0 := mS hc0
 clear hr0 hc0
 have HB := mS (Below.refl w.heap.size w)
 have H : (if ([] : List Int).length + l0.length < 140737488355328 then (some (([] : List Int) ++ l0)) else (none)) = some r := h
 clear h
 by_cases c2 : ([] : List Int).length + l0.length < 140737488355328
 ·rw [if_pos c2] at H
  have LMc2 := mS c2
  clear c2
  obtain ⟨y337, hy337⟩ : ∃ y_ : List Int, y_ = (([] : List Int) ++ l0) := ⟨_, rfl⟩
  replace H : (some y337) = some r := by first | (rw [hy337]; with_reducible exact H) | (have H2_ := (Option.bind_some _ _).symm.trans H; rw [hy337]; with_reducible exact H2_) | (have H2_ := (Option.bind_some _ _).symm.trans H; with_reducible exact H2_) | with_reducible exact H | (rw [hy337]; exact H) | exact H
  have Ny337 := mS hy337
  clear hy337
  obtain rfl := Option.some.inj H
  go_enter Try.func107, Try.ntmps107
  go_wp2_with (first | ((with_reducible refine gate_builtin (b := .append) (xs := #[.const (.slice none 0 0), .tmp 3]) rfl ?_); at_builtin; refine Kd.R_append_rows (Kd.int .u8) (w0 := w) w.heap.size rfl (.const (.slice none 0 0)) (.tmp 3) 22 5 (.int .u8 0) 1 rfl Try.underlying22 info5 rfl (by decide) (by omega) (.slice none 0 0) ([] : List Int) l0 _ _ _ (fun _ => True) (fun _ => False) rfl rfl ?aO ?aR (fun _ _ h => h) (fun _ h => h.elim) ?aF ?aB ?aS ?aL ?_; (case aR => exact mC HR0.out); (case aB => exact (mH HB.out)); (case aF => exact (fun _ _ => trivial)); (case aO => exact ((Kd.R_nil _ _ _ _ (fun _ => True)))); (case aS => exact (below_size (mH HB.out))); (case aL => have := LMc2.out; omega); intro v338 w3 ho hb hg hat; rw [← Ny337.out] at ho; replace HB := mS (hb); have HO339 := mS (ho); clear ho hb hg hat))
  go_ret
  exact ⟨_, mEw, mR HO339.out, (mH HB.out)⟩
 ·rw [if_neg c2] at H
  exact absurd H (by simp)
def impl_copyDisk.l0 : Nat → List (S120) → Int → Int → List (S120) → List (S126) → List (S126) → Int → Option ((List (S120)) × (List (S126)) × (List (S126)) × Int)
 | 0, _, _, _, _, _, _, _ => none
 | k + 1, x16, x17, x18, x349000, x349001, x349002, x349003 => if x18 < x17 then (if 0 ≤ x18 then (if x18 < (x16.length : Int) then ((impl_copyBytes.f ((rd_T120 x16 x18).f1)).bind fun t351 => (if x349000.length < 3518437208883 then (impl_copyDisk.l0 k x16 x17 (wrap64 (x18 + 1)) (x349000 ++ [(⟨(rd_T120 x16 x18).f0, t351, (rd_T120 x16 x18).f2⟩ : S120)]) x349001 x349002 x349003) else (none))) else (none)) else (none)) else (some (x349000, x349001, x349002, x349003))
def impl_copyDisk.f (k : Nat) (l0_0 : List (S120)) (l0_1 : List (S126)) (l0_2 : List (S126)) (a0_3 : Int) : Option ((List (S120)) × (List (S126)) × (List (S126)) × Int) := if ([] : List (S126)).length + l0_1.length < 5864062014805 then (if ([] : List (S126)).length + l0_2.length < 5864062014805 then (impl_copyDisk.l0 k l0_0 (l0_0.length : Int) 0 ([] : List (S120)) (([] : List (S126)) ++ l0_1) (([] : List (S126)) ++ l0_2) a0_3) else (none)) else (none)
def impl_copyDisk.T1 : Bool × List (List Nat × List Nat) := (true, [([], []), ([0], [0]), ([1], [1]), ([], []), ([3], [3]), ([4, 2], [4]), ([], []), ([6], [6]), ([2, 5, 7], [2, 5, 7]), ([], []), ([9, 8, 5, 0, 1, 2, 3, 4, 5, 6, 7, 8, 9], [8, 9])])
def impl_copyDisk.B1 : List Nat := [0, 1, 3, 0, 8, 31, 0, 64, 255, 0, 1023]
theorem impl_copyDisk.tab1 : rtab .any (opsOf Try.f110 1) = impl_copyDisk.T1 := by kernel_rfl
theorem impl_copyDisk.bits1 : waitsOk impl_copyDisk.T1.2 impl_copyDisk.B1 = true := by kernel_rfl
set_option maxHeartbeats 8000000 in
set_option maxRecDepth 100000 in
theorem impl_copyDisk.calls (k : Nat) (A0_0 : Option Addr) (c0_0 : Nat) (l0_0 : List (S120)) (A0_1 : Option Addr) (c0_1 : Nat) (l0_1 : List (S126)) (A0_2 : Option Addr) (c0_2 : Nat) (l0_2 : List (S126)) (a0_3 : Int) (r1 : List (S120)) (r2 : List (S126)) (r3 : List (S126)) (r4 : Int) (w : World) (hr0_0 : Kd.C k120 w A0_0 l0_0.length l0_0) (hc0_0 : l0_0.length ≤ c0_0) (hr0_1 : Kd.C k126 w A0_1 l0_1.length l0_1) (hc0_1 : l0_1.length ≤ c0_1) (hr0_2 : Kd.C k126 w A0_2 l0_2.length l0_2) (hc0_2 : l0_2.length ≤ c0_2) (h : impl_copyDisk.f k l0_0 l0_1 l0_2 a0_3 = some (r1, r2, r3, r4)) :
  Calls Try.prog 110 #[.agg #[.slice A0_0 l0_0.length c0_0, .slice A0_1 l0_1.length c0_1, .slice A0_2 l0_2.length c0_2, .int .i64 a0_3]] w fun e w' => ∃ v0_ v1_ v2_ : Value, e = .returned (.agg #[v0_, v1_, v2_, .int .i64 r4]) ∧ Kd.S k120 120 w' w.heap.size (fun _ => True) v0_ r1 ∧ Kd.R k126 126 w' w.heap.size (fun k_ => some k_ ≠ (v2_ : Value).ownBlock) v1_ r2 ∧ Kd.R k126 126 w' w.heap.size (fun k_ => some k_ ≠ (v1_ : Value).ownBlock) v2_ r3 ∧ Below w.heap.size w w' := by
 have hu63 := Try.underlying63
 have hu120 := Try.underlying120
 have HR0_0 := mS hr0_0
 have HC0_0 := mS hc0_0
 clear hr0_0 hc0_0
 have HR0_1 := mS hr0_1
 have HC0_1 := mS hc0_1
 clear hr0_1 hc0_1
 have HR0_2 := mS hr0_2
 have HC0_2 := mS hc0_2
 clear hr0_2 hc0_2
 have HB := mS (Below.refl w.heap.size w)
 have H : (if ([] : List (S126)).length + l0_1.length < 5864062014805 then (if ([] : List (S126)).length + l0_2.length < 5864062014805 then (impl_copyDisk.l0 k l0_0 (l0_0.length : Int) 0 ([] : List (S120)) (([] : List (S126)) ++ l0_1) (([] : List (S126)) ++ l0_2) a0_3) else (none)) else (none)) = some (r1, r2, r3, r4) := h
 clear h
 by_cases c2 : ([] : List (S126)).length + l0_1.length < 5864062014805
 ·rw [if_pos c2] at H
  have LMc2 := mS c2
  clear c2
  obtain ⟨y342, hy342⟩ : ∃ y_ : List (S126), y_ = (([] : List (S126)) ++ l0_1) := ⟨_, rfl⟩
  replace H : (if ([] : List (S126)).length + l0_2.length < 5864062014805 then (impl_copyDisk.l0 k l0_0 (l0_0.length : Int) 0 ([] : List (S120)) y342 (([] : List (S126)) ++ l0_2) a0_3) else (none)) = some (r1, r2, r3, r4) := by first | (rw [hy342]; with_reducible exact H) | (have H2_ := (Option.bind_some _ _).symm.trans H; rw [hy342]; with_reducible exact H2_) | (have H2_ := (Option.bind_some _ _).symm.trans H; with_reducible exact H2_) | with_reducible exact H | (rw [hy342]; exact H) | exact H
  have Ny342 := mS hy342
  clear hy342
  by_cases c3 : ([] : List (S126)).length + l0_2.length < 5864062014805
  ·rw [if_pos c3] at H
   have LMc3 := mS c3
   clear c3
   obtain ⟨y345, hy345⟩ : ∃ y_ : List (S126), y_ = (([] : List (S126)) ++ l0_2) := ⟨_, rfl⟩
   replace H : (impl_copyDisk.l0 k l0_0 (l0_0.length : Int) 0 ([] : List (S120)) y342 y345 a0_3) = some (r1, r2, r3, r4) := by first | (rw [hy345]; with_reducible exact H) | (have H2_ := (Option.bind_some _ _).symm.trans H; rw [hy345]; with_reducible exact H2_) | (have H2_ := (Option.bind_some _ _).symm.trans H; with_reducible exact H2_) | with_reducible exact H | (rw [hy345]; exact H) | exact H
   have Ny345 := mS hy345
   clear hy345
   have H' := mS H
   clear H
   go_enter Try.func110, Try.ntmps110
   try go_wp2_with (first | ((with_reducible refine gate_dst (N := 1) rfl ?_); refine mBx 1 #[.slice A0_0 l0_0.length c0_0, .slice A0_1 l0_1.length c0_1, .slice A0_2 l0_2.length c0_2, .int .i64 a0_3] 63 ?_; intro gb340 hg w4 hbox hb; have BK340 := mS (hbox); have GW340 := mG hg (mH HB.out); have GE340 := mG hg (mH HB.out); replace HB := mS (below_step (mH HB.out) hb); clear hb hbox hg) | ((with_reducible refine gate_dst (N := 2) rfl ?_); refine mBx 2 #[.slice none 0 0, .slice none 0 0, .slice none 0 0, .int .i64 0] 63 ?_; intro gb341 hg w5 hbox hb; have BK341 := mS (hbox); have GW341 := mG hg (mH1 HB.out GE340.out); have GE341 := mG hg (mH1 HB.out GE340.out); replace HB := mS (below_step (mH1 HB.out GE340.out) hb); have NB340_341 := mNl hg BK340.out; have NB341_340 := mNg hg BK340.out; replace BK340 := mB BK340 hb; clear hb hbox hg))
   replace BK340 := mS (blk_drew BK340.out)
   replace BK341 := mS (blk_drew BK341.out)
   replace HB := mS (below_drew1 HB.out)
   refine start_ (n := 11) (S := fun w' => w'.cell? ⟨gb340, 0, none⟩ = some (.slice A0_0 l0_0.length c0_0) ∧ w'.cell? ⟨gb340, 1, none⟩ = some (.slice A0_1 l0_1.length c0_1) ∧ w'.cell? ⟨gb340, 2, none⟩ = some (.slice A0_2 l0_2.length c0_2) ∧ w'.cell? ⟨gb340, 3, none⟩ = some (.int .i64 a0_3)) (ds := []) (mb 0 11) (by kernel_rfl) rfl rfl (mc4 BK340.out) (fun hHeld => ?_); refine with_tabW impl_copyDisk.tab1 impl_copyDisk.bits1 (fun HT_ HW_ => ?_)
   generalize w5.drew = w6 at BK340 BK341 HB hHeld ⊢
   refine mpu 0 6 HT_.out (mb 1 10) ?_
   refine mpu 3 9 HT_.out (mr [1,2,1,7]) ?_
   refine mpu 6 12 HT_.out (mr [1,2,1,2,1,4]) ?_
   refine mpt 1 7 HT_.out HW_.out (mr [2,1,1,2,1,4]) hHeld ?_
   refine mpt 4 10 HT_.out HW_.out (mr [2,1,2,1,1,4]) hHeld ?_
   refine mpt 7 13 HT_.out HW_.out (mr [2,1,2,1,2,3]) hHeld ?_
   refine join_ (σ := Value × Value × Nat) 1 (mb 10 1) (fun s_ => [(8, s_.1), (11, s_.2.1), (3, .pointer (some ⟨s_.2.2, 0, none⟩)), (14, .agg #[.slice none 0 0, s_.1, s_.2.1, .int .i64 a0_3])]) (fun s_ w' => (w'.cell? ⟨gb340, 0, none⟩ = some (.slice A0_0 l0_0.length c0_0) ∧ w'.cell? ⟨gb340, 1, none⟩ = some (.slice A0_1 l0_1.length c0_1) ∧ w'.cell? ⟨gb340, 2, none⟩ = some (.slice A0_2 l0_2.length c0_2) ∧ w'.cell? ⟨gb340, 3, none⟩ = some (.int .i64 a0_3)) ∧ (Kd.R k126 126 w' w.heap.size (fun k_ => some k_ ≠ (s_.2.1 : Value).ownBlock) s_.1 y342) ∧ (Kd.R k126 126 w' w.heap.size (fun k_ => some k_ ≠ (s_.1 : Value).ownBlock) s_.2.1 y345) ∧ (w'.heap[gb340]? = some (.cells #[.slice A0_0 l0_0.length c0_0, .slice A0_1 l0_1.length c0_1, .slice A0_2 l0_2.length c0_2, .int .i64 a0_3] 63 (0, 0))) ∧ (w'.heap[gb341]? = some (.cells #[.slice none 0 0, .slice none 0 0, .slice none 0 0, .int .i64 0] 63 (0, 0))) ∧ (w'.heap[s_.2.2]? = some (.cells #[.slice none 0 0, .slice none 0 0, .slice none 0 0, .int .i64 0] 63 (0, 0))) ∧ (w.heap.size ≤ s_.2.2) ∧ (w.heap.size ≤ s_.2.2) ∧ (gb340 ≠ s_.2.2) ∧ (s_.2.2 ≠ gb340) ∧ (gb341 ≠ s_.2.2) ∧ (s_.2.2 ≠ gb341) ∧ (Below w.heap.size w w')) ?_ ?_
   rotate_left
   ·intro hCont
    refine two_ (i := 2) (j := 9) (Ni := some 8) (Nj := some 3) (mr [5,1,2,3]) (mr [2,1,2,1,2,1,1,1]) rfl rfl rfl rfl (two_of HT_.out (by kernel_rfl)) (by decide) (by decide) (fun K hK => ?_) (fun K hK => ?_)
    ·skip
     refine Kd.R_append_rows_step k126 (w0 := w) w.heap.size rfl (.const (.slice none 0 0)) (.tmp 7) 61 126 (.agg #[(.string ⟨#[]⟩), (.int .i64 0)]) 24 rfl Try.underlying61 info126 rfl (by decide) (by omega) (.slice none 0 0) ([] : List (S126)) l0_1 _ _ _ (fun _ => True) (fun _ => False) rfl rfl ?aO ?aR (fun _ _ h => h) (fun _ h => h.elim) ?aF ?aB ?aS ?aL ?_
     (case aR => exact mC (Kd.C_below HR0_1.out HB.out))
     (case aB => exact (mH2 HB.out GE340.out GE341.out))
     (case aF => exact (fun _ _ => trivial))
     (case aO => exact ((Kd.R_nil _ _ _ _ (fun _ => True))))
     (case aS => exact (below_size (mH2 HB.out GE340.out GE341.out)))
     (case aL => have := LMc2.out; omega)
     intro v343 w7 ho hb hg hat
     rw [← Ny342.out] at ho
     replace BK340 := mS (blk_grown (g := gb340) (o := .cells #[.slice A0_0 l0_0.length c0_0, .slice A0_1 l0_1.length c0_1, .slice A0_2 l0_2.length c0_2, .int .i64 a0_3] 63 (0, 0)) (mK BK340.out) hg (by simp [Value.ownBlock]))
     replace BK341 := mS (blk_grown (g := gb341) (o := .cells #[.slice none 0 0, .slice none 0 0, .slice none 0 0, .int .i64 0] 63 (0, 0)) (mK BK341.out) hg (by simp [Value.ownBlock]))
     replace HB := mS (hb)
     have HO344 := mS (ho)
     clear ho hb hg hat
     refine hK.out _ _ (mc4 BK340.out) (fun hHeld => ?_)
     clear hK K
     refine mno 8 ?_
     refine two_ (i := 5) (j := 9) (Ni := some 11) (Nj := some 3) (mb 8 3) (mr [5,1,2,1,1,1]) rfl rfl rfl rfl (two_of HT_.out (by kernel_rfl)) (by decide) (by decide) (fun K hK => ?_) (fun K hK => ?_)
     ·skip
      refine Kd.R_append_rows_step k126 (w0 := w) w.heap.size rfl (.const (.slice none 0 0)) (.tmp 10) 61 126 (.agg #[(.string ⟨#[]⟩), (.int .i64 0)]) 24 rfl Try.underlying61 info126 rfl (by decide) (by omega) (.slice none 0 0) ([] : List (S126)) l0_2 _ _ _ (fun k_ => some k_ ≠ (v343 : Value).ownBlock) (fun _ => False) rfl rfl ?aO ?aR (fun _ _ h => h) (fun _ h => h.elim) ?aF ?aB ?aS ?aL ?_
      (case aR => exact mC (Kd.C_below HR0_2.out HB.out))
      (case aB => exact (mH2 HB.out GE340.out GE341.out))
      (case aF => exact (fun k_ hk => Kd.fresh' (Kd.R_lt (mR HO344.out)) k_ hk))
      (case aO => exact ((Kd.R_nil _ _ _ _ (fun k_ => some k_ ≠ (v343 : Value).ownBlock))))
      (case aS => exact (below_size (mH2 HB.out GE340.out GE341.out)))
      (case aL => have := LMc3.out; omega)
      intro v346 w8 ho hb hg hat
      rw [← Ny345.out] at ho
      replace BK340 := mS (blk_grown (g := gb340) (o := .cells #[.slice A0_0 l0_0.length c0_0, .slice A0_1 l0_1.length c0_1, .slice A0_2 l0_2.length c0_2, .int .i64 a0_3] 63 (0, 0)) (mK BK340.out) hg (by simp [Value.ownBlock]))
      replace BK341 := mS (blk_grown (g := gb341) (o := .cells #[.slice none 0 0, .slice none 0 0, .slice none 0 0, .int .i64 0] 63 (0, 0)) (mK BK341.out) hg (by simp [Value.ownBlock]))
      replace HO344 := mS (Kd.R_after (Kd.R_apart_nil (mR HO344.out)) hg hat)
      replace HB := mS (hb)
      have HO347 := mS (ho)
      clear ho hb hg hat
      obtain ⟨Ao9, co9, eo9⟩ := Kd.R_slice HO347.out
      (first | subst eo9 | (injection eo9 with f1_ f2_ f3_; have f4_ := f1_.symm; have f5_ := f3_.symm; clear f1_ f2_ f3_; subst f4_; subst f5_))
      obtain ⟨Ao10, co10, eo10⟩ := Kd.R_slice HO344.out
      (first | subst eo10 | (injection eo10 with f1_ f2_ f3_; have f4_ := f1_.symm; have f5_ := f3_.symm; clear f1_ f2_ f3_; subst f4_; subst f5_))
      refine hK.out _ _ (mc4 BK340.out) (fun hHeld => ?_)
      clear hK K
      refine mno 11 ?_
      refine mpu 8 14 HT_.out (mb 9 2) ?_
      refine mone 9 (some 3) HT_.out (mb 10 1) (fun K hK => ?_)
      refine box_step ?hg (N := 3) ?hd (cs := #[.slice none 0 0, .slice none 0 0, .slice none 0 0, .int .i64 0]) (t := 63) ?hr ?_; (case hd => rfl); (case hg => rfl); (case hr => first | (go_simp; done) | (go_simp; rfl))
      intro gb348 hg w11 hbox hb
      replace HO344 := mS (Kd.R_below (mR HO344.out) hb)
      replace HO347 := mS (Kd.R_below (mR HO347.out) hb)
      have BK348 := mS (hbox)
      have GW348 := mG hg (mH2 HB.out GE340.out GE341.out)
      have GE348 := mG hg (mH2 HB.out GE340.out GE341.out)
      replace HB := mS (below_step (mH2 HB.out GE340.out GE341.out) hb)
      have NB340_348 := mNl hg BK340.out
      have NB348_340 := mNg hg BK340.out
      replace BK340 := mB BK340 hb
      have NB341_348 := mNl hg BK341.out
      have NB348_341 := mNg hg BK341.out
      replace BK341 := mB BK341 hb
      clear hb hbox hg
      refine hK.out _ _ (mc4 BK340.out) (fun hHeld => ?_)
      clear hK K
      refine mno 3 ?_
      exact norm_ mU (hCont (.slice Ao10 y342.length co10, .slice Ao9 y345.length co9, gb348) _ ⟨hHeld, (by refine mR ?_; exact Kd.R_mono HO344.out (fun _ hk => hk.2)), (mR HO347.out), (mK BK340.out), (mK BK341.out), (mK BK348.out), GW348.out, GE348.out, NB340_348.out, NB348_340.out, NB341_348.out, NB348_341.out, (mH3 HB.out GE340.out GE341.out GE348.out)⟩)
     ·skip
      refine box_step ?hg (N := 3) ?hd (cs := #[.slice none 0 0, .slice none 0 0, .slice none 0 0, .int .i64 0]) (t := 63) ?hr ?_; (case hd => rfl); (case hg => rfl); (case hr => first | (go_simp; done) | (go_simp; rfl))
      intro gb348 hg w8 hbox hb
      replace HO344 := mS (Kd.R_below (mR HO344.out) hb)
      have BK348 := mS (hbox)
      have GW348 := mG hg (mH2 HB.out GE340.out GE341.out)
      have GE348 := mG hg (mH2 HB.out GE340.out GE341.out)
      replace HB := mS (below_step (mH2 HB.out GE340.out GE341.out) hb)
      have NB340_348 := mNl hg BK340.out
      have NB348_340 := mNg hg BK340.out
      replace BK340 := mB BK340 hb
      have NB341_348 := mNl hg BK341.out
      have NB348_341 := mNg hg BK341.out
      replace BK341 := mB BK341 hb
      clear hb hbox hg
      refine hK.out _ _ (mc4 BK340.out) (fun hHeld => ?_)
      clear hK K
      refine mno 3 ?_
      refine mone 5 (some 11) HT_.out (mr [8,1,1,1]) (fun K hK => ?_)
      refine Kd.R_append_rows_step k126 (w0 := w) w.heap.size rfl (.const (.slice none 0 0)) (.tmp 10) 61 126 (.agg #[(.string ⟨#[]⟩), (.int .i64 0)]) 24 rfl Try.underlying61 info126 rfl (by decide) (by omega) (.slice none 0 0) ([] : List (S126)) l0_2 _ _ _ (fun k_ => some k_ ≠ (v343 : Value).ownBlock) (fun _ => False) rfl rfl ?aO ?aR (fun _ _ h => h) (fun _ h => h.elim) ?aF ?aB ?aS ?aL ?_
      (case aR => exact mC (Kd.C_below HR0_2.out HB.out))
      (case aB => exact (mH3 HB.out GE340.out GE341.out GE348.out))
      (case aF => exact (fun k_ hk => Kd.fresh' (Kd.R_lt (mR HO344.out)) k_ hk))
      (case aO => exact ((Kd.R_nil _ _ _ _ (fun k_ => some k_ ≠ (v343 : Value).ownBlock))))
      (case aS => exact (below_size (mH3 HB.out GE340.out GE341.out GE348.out)))
      (case aL => have := LMc3.out; omega)
      intro v346 w9 ho hb hg hat
      rw [← Ny345.out] at ho
      replace BK340 := mS (blk_grown (g := gb340) (o := .cells #[.slice A0_0 l0_0.length c0_0, .slice A0_1 l0_1.length c0_1, .slice A0_2 l0_2.length c0_2, .int .i64 a0_3] 63 (0, 0)) (mK BK340.out) hg (by simp [Value.ownBlock]))
      replace BK341 := mS (blk_grown (g := gb341) (o := .cells #[.slice none 0 0, .slice none 0 0, .slice none 0 0, .int .i64 0] 63 (0, 0)) (mK BK341.out) hg (by simp [Value.ownBlock]))
      replace HO344 := mS (Kd.R_after (Kd.R_apart_nil (mR HO344.out)) hg hat)
      replace BK348 := mS (blk_grown (g := gb348) (o := .cells #[.slice none 0 0, .slice none 0 0, .slice none 0 0, .int .i64 0] 63 (0, 0)) (mK BK348.out) hg (by simp [Value.ownBlock]))
      replace HB := mS (hb)
      have HO347 := mS (ho)
      clear ho hb hg hat
      obtain ⟨Ao10, co10, eo10⟩ := Kd.R_slice HO347.out
      (first | subst eo10 | (injection eo10 with f1_ f2_ f3_; have f4_ := f1_.symm; have f5_ := f3_.symm; clear f1_ f2_ f3_; subst f4_; subst f5_))
      obtain ⟨Ao11, co11, eo11⟩ := Kd.R_slice HO344.out
      (first | subst eo11 | (injection eo11 with f1_ f2_ f3_; have f4_ := f1_.symm; have f5_ := f3_.symm; clear f1_ f2_ f3_; subst f4_; subst f5_))
      refine hK.out _ _ (mc4 BK340.out) (fun hHeld => ?_)
      clear hK K
      refine mno 11 ?_
      refine mpu 8 14 HT_.out (mb 10 1) ?_
      exact norm_ mU (hCont (.slice Ao11 y342.length co11, .slice Ao10 y345.length co10, gb348) _ ⟨hHeld, (by refine mR ?_; exact Kd.R_mono HO344.out (fun _ hk => hk.2)), (mR HO347.out), (mK BK340.out), (mK BK341.out), (mK BK348.out), GW348.out, GE348.out, NB340_348.out, NB348_340.out, NB341_348.out, NB348_341.out, (mH3 HB.out GE340.out GE341.out GE348.out)⟩)
    ·skip
     refine box_step ?hg (N := 3) ?hd (cs := #[.slice none 0 0, .slice none 0 0, .slice none 0 0, .int .i64 0]) (t := 63) ?hr ?_; (case hd => rfl); (case hg => rfl); (case hr => first | (go_simp; done) | (go_simp; rfl))
     intro gb348 hg w7 hbox hb
     have BK348 := mS (hbox)
     have GW348 := mG hg (mH2 HB.out GE340.out GE341.out)
     have GE348 := mG hg (mH2 HB.out GE340.out GE341.out)
     replace HB := mS (below_step (mH2 HB.out GE340.out GE341.out) hb)
     have NB340_348 := mNl hg BK340.out
     have NB348_340 := mNg hg BK340.out
     replace BK340 := mB BK340 hb
     have NB341_348 := mNl hg BK341.out
     have NB348_341 := mNg hg BK341.out
     replace BK341 := mB BK341 hb
     clear hb hbox hg
     refine hK.out _ _ (mc4 BK340.out) (fun hHeld => ?_)
     clear hK K
     refine mno 3 ?_
     refine mone 2 (some 8) HT_.out (mr [5,1,2,1,1,1]) (fun K hK => ?_)
     refine Kd.R_append_rows_step k126 (w0 := w) w.heap.size rfl (.const (.slice none 0 0)) (.tmp 7) 61 126 (.agg #[(.string ⟨#[]⟩), (.int .i64 0)]) 24 rfl Try.underlying61 info126 rfl (by decide) (by omega) (.slice none 0 0) ([] : List (S126)) l0_1 _ _ _ (fun _ => True) (fun _ => False) rfl rfl ?aO ?aR (fun _ _ h => h) (fun _ h => h.elim) ?aF ?aB ?aS ?aL ?_
     (case aR => exact mC (Kd.C_below HR0_1.out HB.out))
     (case aB => exact (mH3 HB.out GE340.out GE341.out GE348.out))
     (case aF => exact (fun _ _ => trivial))
     (case aO => exact ((Kd.R_nil _ _ _ _ (fun _ => True))))
     (case aS => exact (below_size (mH3 HB.out GE340.out GE341.out GE348.out)))
     (case aL => have := LMc2.out; omega)
     intro v343 w8 ho hb hg hat
     rw [← Ny342.out] at ho
     replace BK340 := mS (blk_grown (g := gb340) (o := .cells #[.slice A0_0 l0_0.length c0_0, .slice A0_1 l0_1.length c0_1, .slice A0_2 l0_2.length c0_2, .int .i64 a0_3] 63 (0, 0)) (mK BK340.out) hg (by simp [Value.ownBlock]))
     replace BK341 := mS (blk_grown (g := gb341) (o := .cells #[.slice none 0 0, .slice none 0 0, .slice none 0 0, .int .i64 0] 63 (0, 0)) (mK BK341.out) hg (by simp [Value.ownBlock]))
     replace BK348 := mS (blk_grown (g := gb348) (o := .cells #[.slice none 0 0, .slice none 0 0, .slice none 0 0, .int .i64 0] 63 (0, 0)) (mK BK348.out) hg (by simp [Value.ownBlock]))
     replace HB := mS (hb)
     have HO344 := mS (ho)
     clear ho hb hg hat
     refine hK.out _ _ (mc4 BK340.out) (fun hHeld => ?_)
     clear hK K
     refine mno 8 ?_
     refine mone 5 (some 11) HT_.out (mr [8,1,1,1]) (fun K hK => ?_)
     refine Kd.R_append_rows_step k126 (w0 := w) w.heap.size rfl (.const (.slice none 0 0)) (.tmp 10) 61 126 (.agg #[(.string ⟨#[]⟩), (.int .i64 0)]) 24 rfl Try.underlying61 info126 rfl (by decide) (by omega) (.slice none 0 0) ([] : List (S126)) l0_2 _ _ _ (fun k_ => some k_ ≠ (v343 : Value).ownBlock) (fun _ => False) rfl rfl ?aO ?aR (fun _ _ h => h) (fun _ h => h.elim) ?aF ?aB ?aS ?aL ?_
     (case aR => exact mC (Kd.C_below HR0_2.out HB.out))
     (case aB => exact (mH3 HB.out GE340.out GE341.out GE348.out))
     (case aF => exact (fun k_ hk => Kd.fresh' (Kd.R_lt (mR HO344.out)) k_ hk))
     (case aO => exact ((Kd.R_nil _ _ _ _ (fun k_ => some k_ ≠ (v343 : Value).ownBlock))))
     (case aS => exact (below_size (mH3 HB.out GE340.out GE341.out GE348.out)))
     (case aL => have := LMc3.out; omega)
     intro v346 w9 ho hb hg hat
     rw [← Ny345.out] at ho
     replace BK340 := mS (blk_grown (g := gb340) (o := .cells #[.slice A0_0 l0_0.length c0_0, .slice A0_1 l0_1.length c0_1, .slice A0_2 l0_2.length c0_2, .int .i64 a0_3] 63 (0, 0)) (mK BK340.out) hg (by simp [Value.ownBlock]))
     replace BK341 := mS (blk_grown (g := gb341) (o := .cells #[.slice none 0 0, .slice none 0 0, .slice none 0 0, .int .i64 0] 63 (0, 0)) (mK BK341.out) hg (by simp [Value.ownBlock]))
     replace BK348 := mS (blk_grown (g := gb348) (o := .cells #[.slice none 0 0, .slice none 0 0, .slice none 0 0, .int .i64 0] 63 (0, 0)) (mK BK348.out) hg (by simp [Value.ownBlock]))
     replace HO344 := mS (Kd.R_after (Kd.R_apart_nil (mR HO344.out)) hg hat)
     replace HB := mS (hb)
     have HO347 := mS (ho)
     clear ho hb hg hat
     obtain ⟨Ao10, co10, eo10⟩ := Kd.R_slice HO347.out
     (first | subst eo10 | (injection eo10 with f1_ f2_ f3_; have f4_ := f1_.symm; have f5_ := f3_.symm; clear f1_ f2_ f3_; subst f4_; subst f5_))
     obtain ⟨Ao11, co11, eo11⟩ := Kd.R_slice HO344.out
     (first | subst eo11 | (injection eo11 with f1_ f2_ f3_; have f4_ := f1_.symm; have f5_ := f3_.symm; clear f1_ f2_ f3_; subst f4_; subst f5_))
     refine hK.out _ _ (mc4 BK340.out) (fun hHeld => ?_)
     clear hK K
     refine mno 11 ?_
     refine mpu 8 14 HT_.out (mb 10 1) ?_
     exact norm_ mU (hCont (.slice Ao11 y342.length co11, .slice Ao10 y345.length co10, gb348) _ ⟨hHeld, (by refine mR ?_; exact Kd.R_mono HO344.out (fun _ hk => hk.2)), (mR HO347.out), (mK BK340.out), (mK BK341.out), (mK BK348.out), GW348.out, GE348.out, NB340_348.out, NB348_340.out, NB341_348.out, NB348_341.out, (mH3 HB.out GE340.out GE341.out GE348.out)⟩)
   rintro ⟨v343, v346, gb348⟩ w12 ⟨hS_, h0_, h1_, h2_, h3_, h4_, h5_, h6_, h7_, h8_, h9_, h10_, h11_⟩
   have HO344 : Aside0 (Kd.R k126 126 w12 w.heap.size (fun k_ => some k_ ≠ (v346 : Value).ownBlock) v343 y342) := ⟨h0_⟩
   have HO347 : Aside0 (Kd.R k126 126 w12 w.heap.size (fun k_ => some k_ ≠ (v343 : Value).ownBlock) v346 y345) := ⟨h1_⟩
   replace BK340 : Aside0 (w12.heap[gb340]? = some (.cells #[.slice A0_0 l0_0.length c0_0, .slice A0_1 l0_1.length c0_1, .slice A0_2 l0_2.length c0_2, .int .i64 a0_3] 63 (0, 0))) := ⟨h2_⟩
   replace BK341 : Aside0 (w12.heap[gb341]? = some (.cells #[.slice none 0 0, .slice none 0 0, .slice none 0 0, .int .i64 0] 63 (0, 0))) := ⟨h3_⟩
   have BK348 : Aside0 (w12.heap[gb348]? = some (.cells #[.slice none 0 0, .slice none 0 0, .slice none 0 0, .int .i64 0] 63 (0, 0))) := ⟨h4_⟩
   have GW348 : Aside0 (w.heap.size ≤ gb348) := ⟨h5_⟩
   have GE348 : Aside0 (w.heap.size ≤ gb348) := ⟨h6_⟩
   have NB340_348 : Aside0 (gb340 ≠ gb348) := ⟨h7_⟩
   have NB348_340 : Aside0 (gb348 ≠ gb340) := ⟨h8_⟩
   have NB341_348 : Aside0 (gb341 ≠ gb348) := ⟨h9_⟩
   have NB348_341 : Aside0 (gb348 ≠ gb341) := ⟨h10_⟩
   replace HB : Aside0 (Below w.heap.size w w12) := ⟨h11_⟩
   clear h0_ h1_ h2_ h3_ h4_ h5_ h6_ h7_ h8_ h9_ h10_ h11_
   have hHeld : w12.cell? ⟨gb340, 0, none⟩ = some (.slice A0_0 l0_0.length c0_0) ∧ w12.cell? ⟨gb340, 1, none⟩ = some (.slice A0_1 l0_1.length c0_1) ∧ w12.cell? ⟨gb340, 2, none⟩ = some (.slice A0_2 l0_2.length c0_2) ∧ w12.cell? ⟨gb340, 3, none⟩ = some (.int .i64 a0_3) := hS_
   obtain ⟨Ao13, co13, eo13⟩ := Kd.R_slice HO347.out
   (first | subst eo13 | (injection eo13 with f1_ f2_ f3_; have f4_ := f1_.symm; have f5_ := f3_.symm; clear f1_ f2_ f3_; subst f4_; subst f5_))
   obtain ⟨Ao14, co14, eo14⟩ := Kd.R_slice HO344.out
   (first | subst eo14 | (injection eo14 with f1_ f2_ f3_; have f4_ := f1_.symm; have f5_ := f3_.symm; clear f1_ f2_ f3_; subst f4_; subst f5_))
   refine mnp ?_
   refine mone 10 none HT_.out (mb 11 0) (fun K hK => ?_)
   have hs15 : w12.cell? ⟨gb348, 0, none⟩ = some (.slice none 0 0) := mZ BK348.out 0
   have hfs15 := blk_frozen BK348.out 0
   have hns15_0 := NB340_348.out
   have hns15_1 := NB341_348.out
   have hms15_0 := NB348_340.out
   have hms15_1 := NB348_341.out
   have hs16 : w12.cell? ⟨gb348, 1, none⟩ = some (.slice none 0 0) := mZ BK348.out 1
   have hfs16 := blk_frozen BK348.out 1
   have hns16_0 := NB340_348.out
   have hns16_1 := NB341_348.out
   have hms16_0 := NB348_340.out
   have hms16_1 := NB348_341.out
   have hs17 : w12.cell? ⟨gb348, 2, none⟩ = some (.slice none 0 0) := mZ BK348.out 2
   have hfs17 := blk_frozen BK348.out 2
   have hns17_0 := NB340_348.out
   have hns17_1 := NB341_348.out
   have hms17_0 := NB348_340.out
   have hms17_1 := NB348_341.out
   have hs18 : w12.cell? ⟨gb348, 3, none⟩ = some (.int .i64 0) := mZ BK348.out 3
   have hfs18 := blk_frozen BK348.out 3
   have hns18_0 := NB340_348.out
   have hns18_1 := NB341_348.out
   have hms18_0 := NB348_340.out
   have hms18_1 := NB348_341.out
   refine skip_ (w1 := ?_) (by rfl) rfl ?_ ?_
   rotate_left
   ·go_simp
    rfl
   refine hK.out _ _ ⟨((cell_far (p := ⟨gb348, _, none⟩) NB340_348.out _).trans (((cell_far (p := ⟨gb348, _, none⟩) NB340_348.out _).trans (((cell_far (p := ⟨gb348, _, none⟩) NB340_348.out _).trans (((cell_far (p := ⟨gb348, _, none⟩) NB340_348.out _).trans (hHeld.1)))))))), ((cell_far (p := ⟨gb348, _, none⟩) NB340_348.out _).trans (((cell_far (p := ⟨gb348, _, none⟩) NB340_348.out _).trans (((cell_far (p := ⟨gb348, _, none⟩) NB340_348.out _).trans (((cell_far (p := ⟨gb348, _, none⟩) NB340_348.out _).trans (hHeld.2.1)))))))), ((cell_far (p := ⟨gb348, _, none⟩) NB340_348.out _).trans (((cell_far (p := ⟨gb348, _, none⟩) NB340_348.out _).trans (((cell_far (p := ⟨gb348, _, none⟩) NB340_348.out _).trans (((cell_far (p := ⟨gb348, _, none⟩) NB340_348.out _).trans (hHeld.2.2.1)))))))), ((cell_far (p := ⟨gb348, _, none⟩) NB340_348.out _).trans (((cell_far (p := ⟨gb348, _, none⟩) NB340_348.out _).trans (((cell_far (p := ⟨gb348, _, none⟩) NB340_348.out _).trans (((cell_far (p := ⟨gb348, _, none⟩) NB340_348.out _).trans (hHeld.2.2.2))))))))⟩ (fun hHeld => ?_)
   clear hK K
   refine done_ (done_of HT_.out (by kernel_rfl)) ?_
   have hnb19 := NB340_341.out
   have hnc19 := NB341_340.out
   have hnb20 := NB340_348.out
   have hnc20 := NB348_340.out
   obtain ⟨hcz21_0, hcz21_1, hcz21_2, hcz21_3, hfz21_0, hfz21_1, hfz21_2, hfz21_3⟩ := mZ4 BK340.out
   try go_wp2
   go_loopg [18] k (fun kq v18 w' => ∃ (x18_1 : Int) (x349000_1 : List (S120)) (u349000 : Value), v18 = .int .i64 x18_1 ∧ Aside0 (impl_copyDisk.l0 kq l0_0 (l0_0.length : Int) x18_1 x349000_1 y342 y345 a0_3 = some (r1, r2, r3, r4)) ∧ Aside0 (kq ≤ k) ∧ Aside0 (Kd.S k120 120 w' w.heap.size (fun _ => True) u349000 x349000_1) ∧ Aside0 (Kd.R k126 126 w' w.heap.size (fun k_ => some k_ ≠ ((.slice Ao13 y345.length co13) : Value).ownBlock) (.slice Ao14 y342.length co14) y342) ∧ Aside0 (Kd.R k126 126 w' w.heap.size (fun k_ => some k_ ≠ ((.slice Ao14 y342.length co14) : Value).ownBlock) (.slice Ao13 y345.length co13) y345) ∧ Aside0 (w'.heap[gb340]? = some (.cells #[(.slice A0_0 l0_0.length c0_0), (.slice A0_1 l0_1.length c0_1), (.slice A0_2 l0_2.length c0_2), .int .i64 a0_3] 63 (0, 0))) ∧ Aside0 (w'.heap[gb341]? = some (.cells #[(.slice none 0 0), (.slice none 0 0), (.slice none 0 0), .int .i64 0] 63 (0, 0))) ∧ Aside0 (w'.heap[gb348]? = some (.cells #[u349000, (.slice Ao14 y342.length co14), (.slice Ao13 y345.length co13), .int .i64 a0_3] 63 (0, 0))) ∧ Aside0 (Below w.heap.size w w'))
   case atStart => exact ⟨(0), (([] : List (S120))), (.slice none 0 0), mE, H', ⟨Nat.le_refl _⟩, ⟨by first | exact Kd.S_nil _ _ _ _ _ | exact Kd.N_nil _ _ _ _ _ | exact Kd.V_nil _ _ _ _ _ | exact Kd.Q_nil _ _ _ _ _ | exact Kd.R_nil _ _ _ _ _⟩, ⟨by refine mR ?_; exact Kd.R_mono (mRf4 (Kd.R_types HO344.out BK348.out (by decide))) (fun _ hk => hk.1)⟩, ⟨by refine mR ?_; exact Kd.R_mono (mRf4 (Kd.R_types HO347.out BK348.out (by decide))) (fun _ hk => hk.1)⟩, ⟨mKf NB340_348.out BK340.out⟩, ⟨mKf NB341_348.out BK341.out⟩, ⟨by refine mK ?_; refine blk_put (cs := #[.slice none 0 0, .slice Ao14 y342.length co14, .slice Ao13 y345.length co13, .int .i64 0]) ?_ 3 _ rfl; refine mK ?_; refine blk_put (cs := #[.slice none 0 0, .slice Ao14 y342.length co14, .slice none 0 0, .int .i64 0]) ?_ 2 _ rfl; refine mK ?_; refine blk_put (cs := #[.slice none 0 0, .slice none 0 0, .slice none 0 0, .int .i64 0]) ?_ 1 _ rfl; refine mK ?_; refine blk_put (cs := #[.slice none 0 0, .slice none 0 0, .slice none 0 0, .int .i64 0]) ?_ 0 _ rfl; refine mK ?_; exact BK348.out⟩, ⟨(mH3 HB.out GE340.out GE341.out GE348.out)⟩⟩
   case round =>
    clear H'
    try clear c1
    try clear c2
    try clear p2
    try clear c3
    try clear c11
    try clear c19
    try clear c20
    try clear hcz21_0
    try clear hcz21_1
    try clear hcz21_2
    try clear hcz21_3
    try clear hfz21_0
    try clear hfz21_1
    try clear hfz21_2
    try clear hfz21_3
    obtain ⟨x18_1, x349000_1, u349000, rfl, HA, HK1, HO_349000, HO_349001, HO_349002, BK340, BK341, BK348, HB⟩ := hrel
    cases gk with
    | zero => exact absurd HA.out (by simp [impl_copyDisk.l0])
    | succ k1 =>
     have H := HA.out
     clear HA
     simp only [impl_copyDisk.l0] at H
     by_cases c22 : x18_1 < (l0_0.length : Int)
     ·rw [if_pos c22] at H
      have c22b0 := decide_eq_true c22
      clear c22
      by_cases c23 : 0 ≤ x18_1
      ·rw [if_pos c23] at H
       have c23b0 := decide_eq_true c23
       clear c23
       by_cases c24 : x18_1 < (l0_0.length : Int)
       ·rw [if_pos c24] at H
        have c24b0 := decide_eq_true c24
        clear c24
        replace H := Option.bind_eq_some_iff.mp H
        obtain ⟨t351, A250, H⟩ := H
        replace H : (if x349000_1.length < 3518437208883 then (impl_copyDisk.l0 k1 l0_0 (l0_0.length : Int) (wrap64 (x18_1 + 1)) (x349000_1 ++ [(⟨(rd_T120 l0_0 x18_1).f0, t351, (rd_T120 l0_0 x18_1).f2⟩ : S120)]) y342 y345 a0_3) else (none)) = some (r1, r2, r3, r4) := H
        have A25 := mS A250
        clear A250
        by_cases c26 : x349000_1.length < 3518437208883
        ·rw [if_pos c26] at H
         have LMc26 := mS c26
         clear c26
         obtain ⟨y354, hy354⟩ : ∃ y_ : List (S120), y_ = (x349000_1 ++ [(⟨(rd_T120 l0_0 x18_1).f0, t351, (rd_T120 l0_0 x18_1).f2⟩ : S120)]) := ⟨_, rfl⟩
         replace H : (impl_copyDisk.l0 k1 l0_0 (l0_0.length : Int) (wrap64 (x18_1 + 1)) y354 y342 y345 a0_3) = some (r1, r2, r3, r4) := by first | (rw [hy354]; with_reducible exact H) | (have H2_ := (Option.bind_some _ _).symm.trans H; rw [hy354]; with_reducible exact H2_) | (have H2_ := (Option.bind_some _ _).symm.trans H; with_reducible exact H2_) | with_reducible exact H | (rw [hy354]; exact H) | exact H
         have Ny354 := mS hy354
         clear hy354
         have H' := mS H
         clear H
         have p349 : 0 ≤ (x18_1 : Int) := mD
         have q349 : x18_1 < (l0_0.length : Int) := mD
         obtain ⟨ad349, A349_1, c349_1, e349, hx349_0, hx349_1, hx349_2, hl349_1, hi349_1⟩ := at_T120 HR0_0.out x18_1 p349 q349
         cases e349
         replace hx349_0 := mX HB.out hx349_0
         replace hx349_1 := mX HB.out hx349_1
         replace hx349_2 := mX HB.out hx349_2
         have HR349_1 := mS hi349_1
         have HC349_1 := mS hl349_1
         clear hi349_1 hl349_1
         replace p349 := eq_true p349
         replace q349 := eq_true q349
         go_wp2_with (first | ((with_reducible refine gate_dst (N := 5) rfl ?_); refine mBx 5 #[.int .i64 0, .slice none 0 0, .int .i64 0] 120 ?_; intro gb350 hg w27 hbox hb; replace HO_349000 := mS (Kd.S_below (Kd.S_elderB (mSd HO_349000.out) gb350 (Nat.le_of_eq hg.symm)) hb); replace HO_349001 := mS (Kd.R_below (mR HO_349001.out) hb); replace HO_349002 := mS (Kd.R_below (mR HO_349002.out) hb); have BK350 := mS (hbox); have GW350 := mG hg (mH3 HB.out GE340.out GE341.out GE348.out); have GE350 := mG hg (mH3 HB.out GE340.out GE341.out GE348.out); replace HB := mS (below_step (mH3 HB.out GE340.out GE341.out GE348.out) hb); have NB340_350 := mNl hg BK340.out; have NB350_340 := mNg hg BK340.out; replace BK340 := mB BK340 hb; have NB341_350 := mNl hg BK341.out; have NB350_341 := mNg hg BK341.out; replace BK341 := mB BK341 hb; have NB348_350 := mNl hg BK348.out; have NB350_348 := mNg hg BK348.out; replace BK348 := mB BK348 hb; clear hb hbox hg; have hnb28 := NB350_340.out; have hnc28 := NB340_350.out; have hnb29 := NB350_341.out; have hnc29 := NB341_350.out; have hnb30 := NB350_348.out; have hnc30 := NB348_350.out; obtain ⟨hcz31_0, hcz31_1, hcz31_2, hfz31_0, hfz31_1, hfz31_2⟩ := mZ3 BK350.out) | ((with_reducible refine gate_callee (f := 107) rfl ?_); refine mGo 24 Try.func107 #[.slice A349_1 ((rd_T120 l0_0 x18_1).f1).length c349_1] ?_; (with_reducible refine (impl_copyBytes.calls _ _ ((rd_T120 l0_0 x18_1).f1) t351 _ ?side1 ?side2 A25.out).mono ?_); (case side1 => exact Kd.C_below HR349_1.out (mH4 HB.out GE340.out GE341.out GE348.out GE350.out)); (case side2 => exact HC349_1.out); rintro e w32 ⟨v352, rfl, ho0, hb⟩; refine ⟨_, rfl, ?_⟩; replace HO_349000 := mS (Kd.S_elder' (by refine mSd ?_; exact (Kd.S_mono (mSf3 (Kd.S_mono HO_349000.out (fun k_ hk => (⟨hk, hk.2⟩ : _ ∧ k_ ≠ gb350)))) (fun _ h_ => h_.1))) (Kd.R_base ho0) hb); replace HO_349001 := mS (Kd.R_below (by refine mR ?_; exact (Kd.R_mono (mRf3 (Kd.R_types HO_349001.out BK350.out (by decide))) (fun _ h_ => h_.1))) hb); replace HO_349002 := mS (Kd.R_below (by refine mR ?_; exact (Kd.R_mono (mRf3 (Kd.R_types HO_349002.out BK350.out (by decide))) (fun _ h_ => h_.1))) hb); have HO353 := mS (Kd.R_lower ho0 (below_size (mH4 HB.out GE340.out GE341.out GE348.out GE350.out))); replace BK340 := mS (blk_below (g := gb340) (o := .cells #[.slice (some ad349) l0_0.length c0_0, .slice A0_1 l0_1.length c0_1, .slice A0_2 l0_2.length c0_2, .int .i64 a0_3] 63 (0, 0)) (mKf NB340_350.out BK340.out) hb); replace BK341 := mS (blk_below (g := gb341) (o := .cells #[.slice none 0 0, .slice none 0 0, .slice none 0 0, .int .i64 0] 63 (0, 0)) (mKf NB341_350.out BK341.out) hb); replace BK348 := mS (blk_below (g := gb348) (o := .cells #[u349000, .slice Ao14 y342.length co14, .slice Ao13 y345.length co13, .int .i64 a0_3] 63 (0, 0)) (mKf NB348_350.out BK348.out) hb); replace BK350 := mS (blk_below (g := gb350) (o := .cells #[.int .i64 ((rd_T120 l0_0 x18_1).f0), .slice A349_1 ((rd_T120 l0_0 x18_1).f1).length c349_1, .int .i64 ((rd_T120 l0_0 x18_1).f2)] 120 (0, 0)) (by refine mK ?_; refine blk_put (cs := #[.int .i64 ((rd_T120 l0_0 x18_1).f0), .slice A349_1 ((rd_T120 l0_0 x18_1).f1).length c349_1, .int .i64 0]) ?_ 2 _ rfl; refine mK ?_; refine blk_put (cs := #[.int .i64 ((rd_T120 l0_0 x18_1).f0), .slice none 0 0, .int .i64 0]) ?_ 1 _ rfl; refine mK ?_; refine blk_put (cs := #[.int .i64 0, .slice none 0 0, .int .i64 0]) ?_ 0 _ rfl; refine mK ?_; exact BK350.out) hb); replace HB := mS (below_step (mH4 HB.out GE340.out GE341.out GE348.out GE350.out) hb); (try clear hb); (try clear ho0); obtain ⟨Ao33, co33, eo33⟩ := Kd.R_slice HO353.out; subst eo33; obtain ⟨hcz34_0, hcz34_1, hcz34_2, hfz34_0, hfz34_1, hfz34_2⟩ := mZ3 BK350.out) | ((with_reducible refine gate_store (t := 22) (p := 25) rfl ?_); refine store_event (t := 22) (p := 25) (v := ?vo_w35) (w1 := (w32.setCell ⟨gb350, 1, none⟩ (.slice Ao33 t351.length co33))) ?hg ?ho ?hn ?hr ?_; (case ho => rfl); (case hg => rfl); (case hn => rfl); (case hr => first | (go_simp; done) | (go_simp; rfl)); intro w35 hw; have n0_ : Aside0 (Kd.S k120 120 w35 w.heap.size (fun k_ => some k_ ≠ (.slice Ao33 t351.length co33 : Value).ownBlock ∧ k_ ≠ gb350) u349000 x349000_1) := ⟨(by rw [hw]; exact (by refine mSd ?_; exact Kd.S_mono (Kd.S_far (p := ⟨gb350, 1, none⟩) (Kd.S_mono HO_349000.out (fun k_ hk => (⟨hk, hk.1.2⟩ : _ ∧ k_ ≠ gb350))) (fun _ hk => hk.2) (.slice Ao33 t351.length co33)) (fun _ hk => ⟨hk.1.2, hk.1.1.2⟩)))⟩; have n1_ : Aside0 (Kd.R k126 126 w35 w.heap.size (fun k_ => some k_ ≠ (.slice Ao13 y345.length co13 : Value).ownBlock) (.slice Ao14 y342.length co14) y342) := ⟨(by rw [hw]; exact (by refine mR ?_; exact Kd.R_mono (Kd.R_far (p := ⟨gb350, 1, none⟩) (Kd.R_types HO_349001.out BK350.out (by decide)) (fun _ hk => hk.2) (.slice Ao33 t351.length co33)) (fun _ hk => hk.1)))⟩; have n2_ : Aside0 (Kd.R k126 126 w35 w.heap.size (fun k_ => some k_ ≠ (.slice Ao14 y342.length co14 : Value).ownBlock) (.slice Ao13 y345.length co13) y345) := ⟨(by rw [hw]; exact (by refine mR ?_; exact Kd.R_mono (Kd.R_far (p := ⟨gb350, 1, none⟩) (Kd.R_types HO_349002.out BK350.out (by decide)) (fun _ hk => hk.2) (.slice Ao33 t351.length co33)) (fun _ hk => hk.1)))⟩; have n3_ : Aside0 (Kd.R (Kd.int .u8) 5 w35 w.heap.size (fun _ => True) (.slice Ao33 t351.length co33) t351) := ⟨(by rw [hw]; exact (by refine mR ?_; exact Kd.R_mono (Kd.R_far (p := ⟨gb350, 1, none⟩) (Kd.R_types HO353.out BK350.out (by decide)) (fun _ hk => hk.2) (.slice Ao33 t351.length co33)) (fun _ hk => trivial)))⟩; have n4_ : Aside0 (w35.heap[gb340]? = some (.cells #[.slice (some ad349) l0_0.length c0_0, .slice A0_1 l0_1.length c0_1, .slice A0_2 l0_2.length c0_2, .int .i64 a0_3] 63 (0, 0))) := ⟨(by rw [hw]; exact (mKf NB340_350.out BK340.out))⟩; have n5_ : Aside0 (w35.heap[gb341]? = some (.cells #[.slice none 0 0, .slice none 0 0, .slice none 0 0, .int .i64 0] 63 (0, 0))) := ⟨(by rw [hw]; exact (mKf NB341_350.out BK341.out))⟩; have n6_ : Aside0 (w35.heap[gb348]? = some (.cells #[u349000, .slice Ao14 y342.length co14, .slice Ao13 y345.length co13, .int .i64 a0_3] 63 (0, 0))) := ⟨(by rw [hw]; exact (mKf NB348_350.out BK348.out))⟩; have n7_ : Aside0 (w35.heap[gb350]? = some (.cells #[.int .i64 ((rd_T120 l0_0 x18_1).f0), .slice Ao33 t351.length co33, .int .i64 ((rd_T120 l0_0 x18_1).f2)] 120 (0, 0))) := ⟨(by rw [hw]; exact (by refine mK ?_; refine blk_put (cs := #[.int .i64 ((rd_T120 l0_0 x18_1).f0), .slice A349_1 ((rd_T120 l0_0 x18_1).f1).length c349_1, .int .i64 ((rd_T120 l0_0 x18_1).f2)]) ?_ 1 _ rfl; refine mK ?_; exact BK350.out))⟩; have n8_ : Aside0 (Below w.heap.size w w35) := ⟨(by rw [hw]; exact (mH4 HB.out GE340.out GE341.out GE348.out GE350.out))⟩; clear hw; clear HO_349000; clear HO_349001; clear HO_349002; clear HO353; clear BK340; clear BK341; clear BK348; clear BK350; clear HB; have HO_349000 := n0_; have HO_349001 := n1_; have HO_349002 := n2_; have HO353 := n3_; have BK340 := n4_; have BK341 := n5_; have BK348 := n6_; have BK350 := n7_; have HB := n8_; clear n0_ n1_ n2_ n3_ n4_ n5_ n6_ n7_ n8_; have hnb36 := NB348_340.out; have hnc36 := NB340_348.out; have hnb37 := NB348_341.out; have hnc37 := NB341_348.out; obtain ⟨hcz38_0, hcz38_1, hcz38_2, hcz38_3, hfz38_0, hfz38_1, hfz38_2, hfz38_3⟩ := mZ4 BK348.out; obtain ⟨hcz39_0, hcz39_1, hcz39_2, hfz39_0, hfz39_1, hfz39_2⟩ := mZ3 BK350.out) | ((with_reducible refine gate_builtin (b := .append) (xs := #[.tmp 27, .tmp 29]) rfl ?_); at_builtin; refine Kd.S_append k120 (w0 := w) w.heap.size rfl (.tmp 27) (.tmp 29) 60 120 (.agg #[(.int .i64 0), (.slice none 0 0), (.int .i64 0)]) 40 rfl Try.underlying60 info120 rfl (by decide) (by omega) u349000 x349000_1 (⟨(rd_T120 l0_0 x18_1).f0, t351, (rd_T120 l0_0 x18_1).f2⟩ : S120) [.int .i64 ((rd_T120 l0_0 x18_1).f0), .slice Ao33 t351.length co33, .int .i64 ((rd_T120 l0_0 x18_1).f2)] (fun k_ => k_ ≠ gb350) (fun k_ => some k_ = (.slice Ao33 t351.length co33 : Value).ownBlock) rfl rfl ?aP (fun k_ hk_ => ((Kd.R_mono (ok' := fun k_ => ((fun k_ => k_ ≠ gb350)) k_ ∧ some k_ ≠ (u349000 : Value).ownBlock) (Kd.R_types (Kd.R_apart' (HO353.out) (Kd.S_typed HO_349000.out) (by decide)) BK350.out (by decide)) (fun k_ hk => ⟨hk.2, hk.1.2⟩))).1 k_ hk_.symm) ?aF ?aO ?aB ?aS ?aL ?_; (case aP => exact k120_mkM _ _ _ (⟨(rd_T120 l0_0 x18_1).f0, t351, (rd_T120 l0_0 x18_1).f2⟩ : S120) (Kd.R_mono (Kd.R_tight rfl (Kd.R_mono (ok' := fun k_ => ((fun k_ => k_ ≠ gb350)) k_ ∧ some k_ ≠ (u349000 : Value).ownBlock) (Kd.R_types (Kd.R_apart' (HO353.out) (Kd.S_typed HO_349000.out) (by decide)) BK350.out (by decide)) (fun k_ hk => ⟨hk.2, hk.1.2⟩))) (fun _ h_ => h_))); (case aB => exact (mH4 HB.out GE340.out GE341.out GE348.out GE350.out)); (case aF => exact (fun k_ hk => Kd.freshB (g := gb350) (o := .cells #[.int .i64 ((rd_T120 l0_0 x18_1).f0), .slice Ao33 t351.length co33, .int .i64 ((rd_T120 l0_0 x18_1).f2)] 120 (0, 0)) (mK BK350.out) k_ hk)); (case aO => exact (by refine mSd ?_; exact Kd.S_mono HO_349000.out (fun k_ hk => ⟨hk.2, fun e_ => hk.1 e_⟩))); (case aS => exact (below_size (mH4 HB.out GE340.out GE341.out GE348.out GE350.out))); (case aL => have := LMc26.out; omega); intro v355 w40 ho hb hg hat; rw [← Ny354.out] at ho; replace HO_349001 := mS (Kd.R_over' (mR HO_349001.out) (Kd.S_typed (mSd HO_349000.out)) (by decide) hg); replace HO_349002 := mS (Kd.R_over' (mR HO_349002.out) (Kd.S_typed (mSd HO_349000.out)) (by decide) hg); replace BK340 := mS (blk_grown (g := gb340) (o := .cells #[.slice (some ad349) l0_0.length c0_0, .slice A0_1 l0_1.length c0_1, .slice A0_2 l0_2.length c0_2, .int .i64 a0_3] 63 (0, 0)) (mK BK340.out) hg (Kd.S_ne HO_349000.out BK340.out (by decide))); replace BK341 := mS (blk_grown (g := gb341) (o := .cells #[.slice none 0 0, .slice none 0 0, .slice none 0 0, .int .i64 0] 63 (0, 0)) (mK BK341.out) hg (Kd.S_ne HO_349000.out BK341.out (by decide))); replace BK348 := mS (blk_grown (g := gb348) (o := .cells #[u349000, .slice Ao14 y342.length co14, .slice Ao13 y345.length co13, .int .i64 a0_3] 63 (0, 0)) (mK BK348.out) hg (Kd.S_ne HO_349000.out BK348.out (by decide))); replace BK350 := mS (blk_grown (g := gb350) (o := .cells #[.int .i64 ((rd_T120 l0_0 x18_1).f0), .slice Ao33 t351.length co33, .int .i64 ((rd_T120 l0_0 x18_1).f2)] 120 (0, 0)) (mK BK350.out) hg (Kd.S_away HO_349000.out (fun _ hk => hk.2))); replace HB := mS (hb); have HO356 := mS (ho); clear HO_349000; clear HO353; clear ho hb hg hat; obtain ⟨Ao41, co41, eo41⟩ := Kd.S_slice HO356.out; subst eo41; obtain ⟨hcz42_0, hcz42_1, hcz42_2, hcz42_3, hfz42_0, hfz42_1, hfz42_2, hfz42_3⟩ := mZ4 BK348.out))
         go_roundg k1
         case measure => have := HK1.out; omega
         case rel => exact ⟨(wrap64 (x18_1 + 1)), (y354), (.slice Ao41 y354.length co41), mE, H', ⟨by have := HK1.out; omega⟩, ⟨by refine mSd ?_; exact Kd.S_mono (Kd.S_far (p := ⟨gb348, 0, none⟩) (Kd.S_types HO356.out BK348.out (by decide)) (fun _ hk => hk.2) (.slice Ao41 y354.length co41)) (fun _ hk => trivial)⟩, ⟨by refine mR ?_; exact Kd.R_mono (Kd.R_far (p := ⟨gb348, 0, none⟩) (Kd.R_types HO_349001.out BK348.out (by decide)) (fun _ hk => hk.2) (.slice Ao41 y354.length co41)) (fun _ hk => hk.1)⟩, ⟨by refine mR ?_; exact Kd.R_mono (Kd.R_far (p := ⟨gb348, 0, none⟩) (Kd.R_types HO_349002.out BK348.out (by decide)) (fun _ hk => hk.2) (.slice Ao41 y354.length co41)) (fun _ hk => hk.1)⟩, ⟨mKf NB340_348.out BK340.out⟩, ⟨mKf NB341_348.out BK341.out⟩, ⟨by refine mK ?_; refine blk_put (cs := #[u349000, .slice Ao14 y342.length co14, .slice Ao13 y345.length co13, .int .i64 a0_3]) ?_ 0 _ rfl; refine mK ?_; exact BK348.out⟩, ⟨(mH4 HB.out GE340.out GE341.out GE348.out GE350.out)⟩⟩
        ·rw [if_neg c26] at H
         exact absurd H (by simp)
       ·rw [if_neg c24] at H
        exact absurd H (by simp)
      ·rw [if_neg c23] at H
       exact absurd H (by simp)
     ·rw [if_neg c22] at H
      have c22b0 := decide_eq_false c22
      clear c22
      simp only [Option.some.injEq, Prod.mk.injEq] at H
      obtain ⟨rfl, rfl, rfl, rfl⟩ := H
      have hnb43 := NB348_340.out
      have hnc43 := NB340_348.out
      have hnb44 := NB348_341.out
      have hnc44 := NB341_348.out
      obtain ⟨hcz45_0, hcz45_1, hcz45_2, hcz45_3, hfz45_0, hfz45_1, hfz45_2, hfz45_3⟩ := mZ4 BK348.out
      obtain ⟨Ao46, co46, eo46⟩ := Kd.S_slice HO_349000.out
      subst eo46
      have hnb47 := NB341_340.out
      have hnc47 := NB340_341.out
      obtain ⟨hcz48_0, hcz48_1, hcz48_2, hcz48_3, hfz48_0, hfz48_1, hfz48_2, hfz48_3⟩ := mZ4 BK341.out
      go_wp2
      refine bodyPost_ret (results_cell_row rfl _ _ gb341 63 #[.slice Ao46 x349000_1.length co46, .slice Ao14 y342.length co14, .slice Ao13 y345.length co13, .int .i64 a0_3] (0, 0) _ rfl (by refine mK ?_; refine blk_put (cs := #[.slice Ao46 x349000_1.length co46, .slice Ao14 y342.length co14, .slice Ao13 y345.length co13, .int .i64 0]) ?_ 3 _ rfl; refine mK ?_; refine blk_put (cs := #[.slice Ao46 x349000_1.length co46, .slice Ao14 y342.length co14, .slice none 0 0, .int .i64 0]) ?_ 2 _ rfl; refine mK ?_; refine blk_put (cs := #[.slice Ao46 x349000_1.length co46, .slice none 0 0, .slice none 0 0, .int .i64 0]) ?_ 1 _ rfl; refine mK ?_; refine blk_put (cs := #[.slice none 0 0, .slice none 0 0, .slice none 0 0, .int .i64 0]) ?_ 0 _ rfl; refine mK ?_; exact BK341.out) Try.underlying63 rfl (by kernel_rfl)) rfl ?_
      exact ⟨_, _, _, mEw, by refine mSd ?_; exact Kd.S_mono (mSf4 (Kd.S_types HO_349000.out BK341.out (by decide))) (fun _ hk => trivial), by refine mR ?_; exact Kd.R_mono (mRf4 (Kd.R_types HO_349001.out BK341.out (by decide))) (fun _ hk => hk.1), by refine mR ?_; exact Kd.R_mono (mRf4 (Kd.R_types HO_349002.out BK341.out (by decide))) (fun _ hk => hk.1), (mH3 HB.out GE340.out GE341.out GE348.out)⟩
  ·rw [if_neg c3] at H
   exact absurd H (by simp)
 ·rw [if_neg c2] at H
  exact absurd H (by simp)
end Go.Proofs.Ytgbejjeephipeaa.MFnExactFall
