-- Written by mp.py, this session's own printer (wip/mp.py).
import Derived.Test.YtecjamgajlpfdaaVMShort
import Derived.Test.YtecjamgajlpfdaaMFnExactTablePairsx0
import Derived.Test.YtecjamgajlpfdaaMFnExactTablePairsx18
namespace Go.Proofs.Ytecjamgajlpfdaa.MFnExactTablePairs
open Go.RowKit Go.Proofs.YtecjamgajlpfdaaW.PrintWords Go.Proofs.YtecjamgajlpfdaaW.PrintLast Go.Proofs.YtecjamgajlpfdaaW.PrintMore Go.Proofs.Ytecjamgajlpfdaa.MWords
attribute [local go_sem] max2_int min2_int max_two min_two max_three min_three max_four min_four
set_option linter.unusedVariables false
set_option linter.unusedSimpArgs false
def laws_heldPairS.l0:Nat→List (S87)→Int→Int→Option (Int)
 |0,_,_,_=>none
 |k+1,x0,x1,x5=>if x5<(x0.length:Int) then (if 0≤x5 then ((laws_markText.f k x1).bind fun t611=>(if ((rd_T87 x0 x5).f0).toList=t611.toList then ((laws_markText.f k (wrap64 (x1+1))).bind fun t613=>(if ((rd_T87 x0 x5).f1).toList=t613.toList then (if (((rd_T87 x0 x5).f2) != ((Int.tmod (wrap64 ((wrap64 (x1+1))+1)) 3) == 0))=true then (some (-1)) else (laws_heldPairS.l0 k x0 (wrap64 ((wrap64 ((wrap64 (x1+1))+1))+1)) (wrap64 (x5+1)))) else (some (-1)))) else (some (-1)))) else (none)) else (some x1)
def laws_heldPairS.f (k:Nat) (l0:List (S87)) (a1:Int):Option (Int):=laws_heldPairS.l0 k l0 a1 0
theorem laws_heldPairS.mono_l:∀k,(∀y0 y1 y2,LeO (laws_heldPairS.l0 k y0 y1 y2) (laws_heldPairS.l0 (k+1) y0 y1 y2))
 |0=>fun _ _ _ r h=>by simp[laws_heldPairS.l0]at h
 |k+1=>by
  have ih0:=laws_heldPairS.mono_l k
  ·intro y0 y1 y2;unfold laws_heldPairS.l0
   repeat' first
   |(with_reducible exact ih0 _ _ _)
   |(with_reducible exact laws_markText.mono _ _)
   |(with_reducible exact LeO.refl _)
   |(with_reducible exact LeO.none _)
   |(with_reducible refine LeO.ite ?_ ?_)
   |(with_reducible refine LeO.bind ?_ (fun _=>?_))
   |exact ih0 _ _ _
   |exact laws_markText.mono _ _
   |exact LeO.none _
   |refine LeO.ite ?_ ?_
   |refine LeO.bind ?_ (fun _=>?_)
theorem laws_heldPairS.mono:∀a0 a1 k,LeO (laws_heldPairS.f k a0 a1) (laws_heldPairS.f (k+1) a0 a1):=by
 intro a0 a1 k;have ih0:=laws_heldPairS.mono_l k;unfold laws_heldPairS.f
 repeat' first
  |(with_reducible exact ih0 _ _ _)
  |(with_reducible exact laws_markText.mono _ _)
  |(with_reducible exact LeO.refl _)
  |(with_reducible exact LeO.none _)
  |(with_reducible refine LeO.ite ?_ ?_)
  |(with_reducible refine LeO.bind ?_ (fun _=>?_))
  |exact ih0 _ _ _
  |exact laws_markText.mono _ _
  |exact LeO.none _
  |refine LeO.ite ?_ ?_
  |refine LeO.bind ?_ (fun _=>?_)
def laws_heldPairS.T4:Bool × List (List Nat × List Nat):=(true,[([],[]),([],[]),([0,1],[0,1]),([2],[2]),([3],[3]),([],[]),([5],[5]),([4,6],[4,6])])
def laws_heldPairS.B4:List Nat:=[0,0,3,7,15,0,32,127]
theorem laws_heldPairS.tab4:rtab .any (opsOf Try.f22 4)=laws_heldPairS.T4:=by kernel_rfl
theorem laws_heldPairS.bits4:waitsOk laws_heldPairS.T4.2 laws_heldPairS.B4=true:=by kernel_rfl
def laws_heldPairS.T7:Bool × List (List Nat × List Nat):=(true,[([],[]),([],[]),([0,1],[0,1]),([2],[2]),([3],[3]),([],[]),([5],[5]),([4,6],[4,6])])
def laws_heldPairS.B7:List Nat:=[0,0,3,7,15,0,32,127]
theorem laws_heldPairS.tab7:rtab .any (opsOf Try.f22 7)=laws_heldPairS.T7:=by kernel_rfl
theorem laws_heldPairS.bits7:waitsOk laws_heldPairS.T7.2 laws_heldPairS.B7=true:=by kernel_rfl
set_option maxHeartbeats 8000000 in
set_option maxRecDepth 100000 in
theorem laws_heldPairS.calls (k:Nat) (A0:Option Addr) (c0:Nat) (l0:List (S87)) (a1:Int) (r:Int) (w:World) (hr0:Kd.C k87 w A0 l0.length l0) (hc0:l0.length≤c0) (h:laws_heldPairS.f k l0 a1=some r) :
 Calls Try.prog 22 #[.slice A0 l0.length c0,.int .i64 a1] w fun e w'=>e = .returned (.int .i64 r)∧Below w.heap.size w w':=by
 have HR0:=mS hr0;have HC0:=mS hc0;clear hr0 hc0;have HB:=mS (Below.refl w.heap.size w);have H:(laws_heldPairS.l0 k l0 a1 0)=some r:=h;clear h;have H':=mS H;clear H;go_enter Try.func22,Try.ntmps22;go_wp2;go_loopg [1,5] k (fun kq v1 v5 w'=>∃(x1_1:Int) (x5_1:Int),v1 = .int .i64 x1_1∧v5 = .int .i64 x5_1∧Aside0 (laws_heldPairS.l0 kq l0 x1_1 x5_1=some r)∧Aside0 (kq≤k)∧Aside0 (Below w.heap.size w w'))
 case atStart=>exact⟨(a1),(0),mE,mE,H',⟨Nat.le_refl _⟩,⟨(mH HB.out)⟩⟩
 case round=>
  clear H'
  try clear c2
  try clear p2
  obtain⟨x1_1,x5_1,rfl,rfl,HA,HK1,HB⟩:=hrel;cases gk with
  |zero=>exact absurd HA.out (by simp[laws_heldPairS.l0])
  |succ k1=>
   have H:=HA.out;clear HA;simp only[laws_heldPairS.l0]at H;by_cases c3:x5_1<(l0.length:Int)
   ·rw[if_pos c3]at H;have c3b0:=decide_eq_true c3;clear c3;by_cases c4:0≤x5_1
    ·rw[if_pos c4]at H;have c4b0:=decide_eq_true c4;clear c4;replace H:=Option.bind_eq_some_iff.mp H;obtain⟨t611,A50,H⟩:=H;replace H:(if ((rd_T87 l0 x5_1).f0).toList=t611.toList then ((laws_markText.f k1 (wrap64 (x1_1+1))).bind fun t613=>(if ((rd_T87 l0 x5_1).f1).toList=t613.toList then (if (((rd_T87 l0 x5_1).f2) != ((Int.tmod (wrap64 ((wrap64 (x1_1+1))+1)) 3) == 0))=true then (some (-1)) else (laws_heldPairS.l0 k1 l0 (wrap64 ((wrap64 ((wrap64 (x1_1+1))+1))+1)) (wrap64 (x5_1+1)))) else (some (-1)))) else (some (-1)))=some r:=H;have A5:=mS A50;clear A50;by_cases c6:((rd_T87 l0 x5_1).f0).toList=t611.toList
     ·rw[if_pos c6]at H;have c6b0:(((rd_T87 l0 x5_1).f0).toList == t611.toList)=true:=beq_iff_eq.mpr c6;have c6b1:(((rd_T87 l0 x5_1).f0).toList != t611.toList)=false:=bne_eq_false_iff_eq.mpr c6;clear c6;replace H:=Option.bind_eq_some_iff.mp H;obtain⟨t613,A70,H⟩:=H;replace H:(if ((rd_T87 l0 x5_1).f1).toList=t613.toList then (if (((rd_T87 l0 x5_1).f2) != ((Int.tmod (wrap64 ((wrap64 (x1_1+1))+1)) 3) == 0))=true then (some (-1)) else (laws_heldPairS.l0 k1 l0 (wrap64 ((wrap64 ((wrap64 (x1_1+1))+1))+1)) (wrap64 (x5_1+1)))) else (some (-1)))=some r:=H;have A7:=mS A70;clear A70;by_cases c8:((rd_T87 l0 x5_1).f1).toList=t613.toList
      ·rw[if_pos c8]at H;have c8b0:(((rd_T87 l0 x5_1).f1).toList == t613.toList)=true:=beq_iff_eq.mpr c8;have c8b1:(((rd_T87 l0 x5_1).f1).toList != t613.toList)=false:=bne_eq_false_iff_eq.mpr c8;clear c8;by_cases c9:(((rd_T87 l0 x5_1).f2) != ((Int.tmod (wrap64 ((wrap64 (x1_1+1))+1)) 3) == 0))=true
       ·rw[if_pos c9]at H;have c9b0:(((rd_T87 l0 x5_1).f2) != ((Int.tmod (wrap64 ((wrap64 (x1_1+1))+1)) 3) == 0))=true:=c9
        (try (have c9b1:decide (((rd_T87 l0 x5_1).f2)=((Int.tmod (wrap64 ((wrap64 (x1_1+1))+1)) 3) == 0))=false:=by simpa using c9))
        (try (have c9b2:(((rd_T87 l0 x5_1).f2) == ((Int.tmod (wrap64 ((wrap64 (x1_1+1))+1)) 3) == 0))=false:=by simpa using c9))
        (try (have c9b3:¬(((rd_T87 l0 x5_1).f2)=((Int.tmod (wrap64 ((wrap64 (x1_1+1))+1)) 3) == 0)):=by simpa using c9))
        clear c9;obtain rfl:=Option.some.inj H
        try go_wp2
        replace HB:=mS (below_drew1 HB.out);have p610:0≤(x5_1:Int):=mD;have q610:x5_1<(l0.length:Int):=mD;obtain⟨ad610,e610,hx610_0,hx610_1,hx610_2⟩:=at_T87 HR0.out x5_1 p610 q610;have hw610_2:=hx610_2;have hw610_1:=hx610_1;have hw610_0:=hx610_0;cases e610
        replace hx610_0:=mX HB.out hx610_0;replace hx610_1:=mX HB.out hx610_1;replace hx610_2:=mX HB.out hx610_2;replace p610:=eq_true p610;replace q610:=eq_true q610;refine start_ (n:=8) (S:=fun w'=>w'.cell? (ad610.add ((x5_1).toNat*3))=some (.string ((rd_T87 l0 x5_1).f0))∧w'.cell? ⟨(ad610.add ((x5_1).toNat*3)).block,(ad610.add ((x5_1).toNat*3)).off+1,none⟩=some (.string ((rd_T87 l0 x5_1).f1))∧w'.cell? ⟨(ad610.add ((x5_1).toNat*3)).block,(ad610.add ((x5_1).toNat*3)).off+2,none⟩=some (.bool ((rd_T87 l0 x5_1).f2))) (ds:=[]) (mb 0 8) (by kernel_rfl) rfl rfl ⟨(mX HB.out hw610_0 :),(mX HB.out hw610_1 :),(mX HB.out hw610_2 :)⟩ (fun hHeld=>?_);refine with_tabW laws_heldPairS.tab4 laws_heldPairS.bits4 (fun HT_ HW_=>?_);generalize wr.drew=w10 at HB hx610_0 hx610_1 hx610_2 hHeld ⊢
        refine mpu 0 12 HT_.out (mb 1 7) ?_;refine mpu 1 13 HT_.out (mb 2 6) ?_;refine mpu 2 14 HT_.out (mb 3 5) ?_;refine mpu 3 15 HT_.out (mb 4 4) ?_;refine mpu 5 17 HT_.out (mr [4,1,1,2]) ?_;refine mpt 4 16 HT_.out HW_.out (mb 6 2) hHeld ?_;refine mone 6 (some 18) HT_.out (mb 7 1) (fun K hK=>?_);refine goes_ Try.func49 (by kernel_rfl) rfl #[.int .i64 x1_1] (by rfl) rfl rfl mA ?_
        with_reducible refine(laws_markText.calls k1 x1_1 t611 _ A5.out).mono ?_
        rintro e w11 ⟨rfl,hb⟩;refine⟨_,rfl,?_⟩;replace HB:=mS (below_step (mH HB.out) hb)
        (try clear hb)
        (try clear hb2)
        (try clear hk)
        (try clear hi)
        refine hK.out _ _ ⟨(mX HB.out hw610_0 :),(mX HB.out hw610_1 :),(mX HB.out hw610_2 :)⟩ (fun hHeld=>?_);clear hK K;refine mno 18 ?_;refine mpu 7 19 HT_.out (mb 8 0) ?_;refine done_ (done_of HT_.out (by kernel_rfl)) ?_
        try go_wp2
        replace HB:=mS (below_drew1 HB.out);have p612:0≤(x5_1:Int):=mD;have q612:x5_1<(l0.length:Int):=mD;obtain⟨ad612,e612,hx612_0,hx612_1,hx612_2⟩:=at_T87 HR0.out x5_1 p612 q612;have hw612_2:=hx612_2;have hw612_1:=hx612_1;have hw612_0:=hx612_0;obtain rfl:ad610=ad612:=(by injection e612);replace hx612_0:=mX HB.out hx612_0;replace hx612_1:=mX HB.out hx612_1;replace hx612_2:=mX HB.out hx612_2;replace p612:=eq_true p612;replace q612:=eq_true q612;refine start_ (n:=8) (S:=fun w'=>w'.cell? (ad610.add ((x5_1).toNat*3))=some (.string ((rd_T87 l0 x5_1).f0))∧w'.cell? ⟨(ad610.add ((x5_1).toNat*3)).block,(ad610.add ((x5_1).toNat*3)).off+1,none⟩=some (.string ((rd_T87 l0 x5_1).f1))∧w'.cell? ⟨(ad610.add ((x5_1).toNat*3)).block,(ad610.add ((x5_1).toNat*3)).off+2,none⟩=some (.bool ((rd_T87 l0 x5_1).f2))) (ds:=[]) (mb 0 8) (by kernel_rfl) rfl rfl ⟨(mX HB.out hw612_0 :),(mX HB.out hw612_1 :),(mX HB.out hw612_2 :)⟩ (fun hHeld=>?_);refine with_tabW laws_heldPairS.tab7 laws_heldPairS.bits7 (fun HT_ HW_=>?_);generalize w11.drew=w12 at HB hx612_0 hx612_1 hx612_2 hHeld ⊢
        refine mpu 0 22 HT_.out (mb 1 7) ?_;refine mpu 1 23 HT_.out (mb 2 6) ?_;refine mpu 2 24 HT_.out (mb 3 5) ?_;refine mpu 3 25 HT_.out (mb 4 4) ?_;refine mpu 5 27 HT_.out (mr [4,1,1,2]) ?_;refine mpt 4 26 HT_.out HW_.out (mb 6 2) hHeld ?_;refine mone 6 (some 28) HT_.out (mb 7 1) (fun K hK=>?_);refine goes_ Try.func49 (by kernel_rfl) rfl #[.int .i64 (wrap64 (x1_1+1))] (by rfl) rfl rfl mA ?_
        with_reducible refine(laws_markText.calls k1 (wrap64 (x1_1+1)) t613 _ A7.out).mono ?_
        rintro e w13 ⟨rfl,hb⟩;refine⟨_,rfl,?_⟩;replace HB:=mS (below_step (mH HB.out) hb)
        (try clear hb)
        (try clear hb2)
        (try clear hk)
        (try clear hi)
        refine hK.out _ _ ⟨(mX HB.out hw612_0 :),(mX HB.out hw612_1 :),(mX HB.out hw612_2 :)⟩ (fun hHeld=>?_);clear hK K;refine mno 28 ?_;refine mpu 7 29 HT_.out (mb 8 0) ?_;refine done_ (done_of HT_.out (by kernel_rfl)) ?_;have p614:0≤(x5_1:Int):=mD;have q614:x5_1<(l0.length:Int):=mD;obtain⟨ad614,e614,hx614_0,hx614_1,hx614_2⟩:=at_T87 HR0.out x5_1 p614 q614;obtain rfl:ad610=ad614:=(by injection e614);replace hx614_0:=mX HB.out hx614_0;replace hx614_1:=mX HB.out hx614_1;replace hx614_2:=mX HB.out hx614_2;replace p614:=eq_true p614;replace q614:=eq_true q614
        try go_wp2
        go_ret;exact⟨mEw,(mH HB.out)⟩
       ·rw[if_neg c9]at H;have c9b0:(((rd_T87 l0 x5_1).f2) != ((Int.tmod (wrap64 ((wrap64 (x1_1+1))+1)) 3) == 0))=false:=by simpa using c9
        (try (have c9b1:decide (((rd_T87 l0 x5_1).f2)=((Int.tmod (wrap64 ((wrap64 (x1_1+1))+1)) 3) == 0))=true:=by simpa using c9))
        (try (have c9b2:(((rd_T87 l0 x5_1).f2) == ((Int.tmod (wrap64 ((wrap64 (x1_1+1))+1)) 3) == 0))=true:=by simpa using c9))
        clear c9;have H':=mS H;clear H
        try go_wp2
        replace HB:=mS (below_drew1 HB.out);have p610:0≤(x5_1:Int):=mD;have q610:x5_1<(l0.length:Int):=mD;obtain⟨ad610,e610,hx610_0,hx610_1,hx610_2⟩:=at_T87 HR0.out x5_1 p610 q610;have hw610_2:=hx610_2;have hw610_1:=hx610_1;have hw610_0:=hx610_0;cases e610
        replace hx610_0:=mX HB.out hx610_0;replace hx610_1:=mX HB.out hx610_1;replace hx610_2:=mX HB.out hx610_2;replace p610:=eq_true p610;replace q610:=eq_true q610;refine start_ (n:=8) (S:=fun w'=>w'.cell? (ad610.add ((x5_1).toNat*3))=some (.string ((rd_T87 l0 x5_1).f0))∧w'.cell? ⟨(ad610.add ((x5_1).toNat*3)).block,(ad610.add ((x5_1).toNat*3)).off+1,none⟩=some (.string ((rd_T87 l0 x5_1).f1))∧w'.cell? ⟨(ad610.add ((x5_1).toNat*3)).block,(ad610.add ((x5_1).toNat*3)).off+2,none⟩=some (.bool ((rd_T87 l0 x5_1).f2))) (ds:=[]) (mb 0 8) (by kernel_rfl) rfl rfl ⟨(mX HB.out hw610_0 :),(mX HB.out hw610_1 :),(mX HB.out hw610_2 :)⟩ (fun hHeld=>?_);refine with_tabW laws_heldPairS.tab4 laws_heldPairS.bits4 (fun HT_ HW_=>?_);generalize wr.drew=w14 at HB hx610_0 hx610_1 hx610_2 hHeld ⊢
        refine mpu 0 12 HT_.out (mb 1 7) ?_;refine mpu 1 13 HT_.out (mb 2 6) ?_;refine mpu 2 14 HT_.out (mb 3 5) ?_;refine mpu 3 15 HT_.out (mb 4 4) ?_;refine mpu 5 17 HT_.out (mr [4,1,1,2]) ?_;refine mpt 4 16 HT_.out HW_.out (mb 6 2) hHeld ?_;refine mone 6 (some 18) HT_.out (mb 7 1) (fun K hK=>?_);refine goes_ Try.func49 (by kernel_rfl) rfl #[.int .i64 x1_1] (by rfl) rfl rfl mA ?_
        with_reducible refine(laws_markText.calls k1 x1_1 t611 _ A5.out).mono ?_
        rintro e w15 ⟨rfl,hb⟩;refine⟨_,rfl,?_⟩;replace HB:=mS (below_step (mH HB.out) hb)
        (try clear hb)
        (try clear hb2)
        (try clear hk)
        (try clear hi)
        refine hK.out _ _ ⟨(mX HB.out hw610_0 :),(mX HB.out hw610_1 :),(mX HB.out hw610_2 :)⟩ (fun hHeld=>?_);clear hK K;refine mno 18 ?_;refine mpu 7 19 HT_.out (mb 8 0) ?_;refine done_ (done_of HT_.out (by kernel_rfl)) ?_
        try go_wp2
        replace HB:=mS (below_drew1 HB.out);have p612:0≤(x5_1:Int):=mD;have q612:x5_1<(l0.length:Int):=mD;obtain⟨ad612,e612,hx612_0,hx612_1,hx612_2⟩:=at_T87 HR0.out x5_1 p612 q612;have hw612_2:=hx612_2;have hw612_1:=hx612_1;have hw612_0:=hx612_0;obtain rfl:ad610=ad612:=(by injection e612);replace hx612_0:=mX HB.out hx612_0;replace hx612_1:=mX HB.out hx612_1;replace hx612_2:=mX HB.out hx612_2;replace p612:=eq_true p612;replace q612:=eq_true q612;refine start_ (n:=8) (S:=fun w'=>w'.cell? (ad610.add ((x5_1).toNat*3))=some (.string ((rd_T87 l0 x5_1).f0))∧w'.cell? ⟨(ad610.add ((x5_1).toNat*3)).block,(ad610.add ((x5_1).toNat*3)).off+1,none⟩=some (.string ((rd_T87 l0 x5_1).f1))∧w'.cell? ⟨(ad610.add ((x5_1).toNat*3)).block,(ad610.add ((x5_1).toNat*3)).off+2,none⟩=some (.bool ((rd_T87 l0 x5_1).f2))) (ds:=[]) (mb 0 8) (by kernel_rfl) rfl rfl ⟨(mX HB.out hw612_0 :),(mX HB.out hw612_1 :),(mX HB.out hw612_2 :)⟩ (fun hHeld=>?_);refine with_tabW laws_heldPairS.tab7 laws_heldPairS.bits7 (fun HT_ HW_=>?_);generalize w15.drew=w16 at HB hx612_0 hx612_1 hx612_2 hHeld ⊢
        refine mpu 0 22 HT_.out (mb 1 7) ?_;refine mpu 1 23 HT_.out (mb 2 6) ?_;refine mpu 2 24 HT_.out (mb 3 5) ?_;refine mpu 3 25 HT_.out (mb 4 4) ?_;refine mpu 5 27 HT_.out (mr [4,1,1,2]) ?_;refine mpt 4 26 HT_.out HW_.out (mb 6 2) hHeld ?_;refine mone 6 (some 28) HT_.out (mb 7 1) (fun K hK=>?_);refine goes_ Try.func49 (by kernel_rfl) rfl #[.int .i64 (wrap64 (x1_1+1))] (by rfl) rfl rfl mA ?_
        with_reducible refine(laws_markText.calls k1 (wrap64 (x1_1+1)) t613 _ A7.out).mono ?_
        rintro e w17 ⟨rfl,hb⟩;refine⟨_,rfl,?_⟩;replace HB:=mS (below_step (mH HB.out) hb)
        (try clear hb)
        (try clear hb2)
        (try clear hk)
        (try clear hi)
        refine hK.out _ _ ⟨(mX HB.out hw612_0 :),(mX HB.out hw612_1 :),(mX HB.out hw612_2 :)⟩ (fun hHeld=>?_);clear hK K;refine mno 28 ?_;refine mpu 7 29 HT_.out (mb 8 0) ?_;refine done_ (done_of HT_.out (by kernel_rfl)) ?_;have p614:0≤(x5_1:Int):=mD;have q614:x5_1<(l0.length:Int):=mD;obtain⟨ad614,e614,hx614_0,hx614_1,hx614_2⟩:=at_T87 HR0.out x5_1 p614 q614;obtain rfl:ad610=ad614:=(by injection e614);replace hx614_0:=mX HB.out hx614_0;replace hx614_1:=mX HB.out hx614_1;replace hx614_2:=mX HB.out hx614_2;replace p614:=eq_true p614;replace q614:=eq_true q614
        try go_wp2
        go_roundg k1
        case measure=>have:=HK1.out;omega
        case rel=>exact⟨(wrap64 ((wrap64 ((wrap64 (x1_1+1))+1))+1)),(wrap64 (x5_1+1)),mE,mE,H',⟨by have:=HK1.out;omega⟩,⟨(mH HB.out)⟩⟩
      ·rw[if_neg c8]at H;have c8b0:(((rd_T87 l0 x5_1).f1).toList == t613.toList)=false:=beq_eq_false_iff_ne.mpr c8;have c8b1:(((rd_T87 l0 x5_1).f1).toList != t613.toList)=true:=bne_iff_ne.mpr c8;obtain rfl:=Option.some.inj H
       try go_wp2
       replace HB:=mS (below_drew1 HB.out);have p610:0≤(x5_1:Int):=mD;have q610:x5_1<(l0.length:Int):=mD;obtain⟨ad610,e610,hx610_0,hx610_1,hx610_2⟩:=at_T87 HR0.out x5_1 p610 q610;have hw610_2:=hx610_2;have hw610_1:=hx610_1;have hw610_0:=hx610_0;cases e610
       replace hx610_0:=mX HB.out hx610_0;replace hx610_1:=mX HB.out hx610_1;replace hx610_2:=mX HB.out hx610_2;replace p610:=eq_true p610;replace q610:=eq_true q610;refine start_ (n:=8) (S:=fun w'=>w'.cell? (ad610.add ((x5_1).toNat*3))=some (.string ((rd_T87 l0 x5_1).f0))∧w'.cell? ⟨(ad610.add ((x5_1).toNat*3)).block,(ad610.add ((x5_1).toNat*3)).off+1,none⟩=some (.string ((rd_T87 l0 x5_1).f1))∧w'.cell? ⟨(ad610.add ((x5_1).toNat*3)).block,(ad610.add ((x5_1).toNat*3)).off+2,none⟩=some (.bool ((rd_T87 l0 x5_1).f2))) (ds:=[]) (mb 0 8) (by kernel_rfl) rfl rfl ⟨(mX HB.out hw610_0 :),(mX HB.out hw610_1 :),(mX HB.out hw610_2 :)⟩ (fun hHeld=>?_);refine with_tabW laws_heldPairS.tab4 laws_heldPairS.bits4 (fun HT_ HW_=>?_);generalize wr.drew=w18 at HB hx610_0 hx610_1 hx610_2 hHeld ⊢
       refine mpu 0 12 HT_.out (mb 1 7) ?_;refine mpu 1 13 HT_.out (mb 2 6) ?_;refine mpu 2 14 HT_.out (mb 3 5) ?_;refine mpu 3 15 HT_.out (mb 4 4) ?_;refine mpu 5 17 HT_.out (mr [4,1,1,2]) ?_;refine mpt 4 16 HT_.out HW_.out (mb 6 2) hHeld ?_;refine mone 6 (some 18) HT_.out (mb 7 1) (fun K hK=>?_);refine goes_ Try.func49 (by kernel_rfl) rfl #[.int .i64 x1_1] (by rfl) rfl rfl mA ?_
       with_reducible refine(laws_markText.calls k1 x1_1 t611 _ A5.out).mono ?_
       rintro e w19 ⟨rfl,hb⟩;refine⟨_,rfl,?_⟩;replace HB:=mS (below_step (mH HB.out) hb)
       (try clear hb)
       (try clear hb2)
       (try clear hk)
       (try clear hi)
       refine hK.out _ _ ⟨(mX HB.out hw610_0 :),(mX HB.out hw610_1 :),(mX HB.out hw610_2 :)⟩ (fun hHeld=>?_);clear hK K;refine mno 18 ?_;refine mpu 7 19 HT_.out (mb 8 0) ?_;refine done_ (done_of HT_.out (by kernel_rfl)) ?_
       try go_wp2
       replace HB:=mS (below_drew1 HB.out);have p612:0≤(x5_1:Int):=mD;have q612:x5_1<(l0.length:Int):=mD;obtain⟨ad612,e612,hx612_0,hx612_1,hx612_2⟩:=at_T87 HR0.out x5_1 p612 q612;have hw612_2:=hx612_2;have hw612_1:=hx612_1;have hw612_0:=hx612_0;obtain rfl:ad610=ad612:=(by injection e612);replace hx612_0:=mX HB.out hx612_0;replace hx612_1:=mX HB.out hx612_1;replace hx612_2:=mX HB.out hx612_2;replace p612:=eq_true p612;replace q612:=eq_true q612;refine start_ (n:=8) (S:=fun w'=>w'.cell? (ad610.add ((x5_1).toNat*3))=some (.string ((rd_T87 l0 x5_1).f0))∧w'.cell? ⟨(ad610.add ((x5_1).toNat*3)).block,(ad610.add ((x5_1).toNat*3)).off+1,none⟩=some (.string ((rd_T87 l0 x5_1).f1))∧w'.cell? ⟨(ad610.add ((x5_1).toNat*3)).block,(ad610.add ((x5_1).toNat*3)).off+2,none⟩=some (.bool ((rd_T87 l0 x5_1).f2))) (ds:=[]) (mb 0 8) (by kernel_rfl) rfl rfl ⟨(mX HB.out hw612_0 :),(mX HB.out hw612_1 :),(mX HB.out hw612_2 :)⟩ (fun hHeld=>?_);refine with_tabW laws_heldPairS.tab7 laws_heldPairS.bits7 (fun HT_ HW_=>?_);generalize w19.drew=w20 at HB hx612_0 hx612_1 hx612_2 hHeld ⊢
       refine mpu 0 22 HT_.out (mb 1 7) ?_;refine mpu 1 23 HT_.out (mb 2 6) ?_;refine mpu 2 24 HT_.out (mb 3 5) ?_;refine mpu 3 25 HT_.out (mb 4 4) ?_;refine mpu 5 27 HT_.out (mr [4,1,1,2]) ?_;refine mpt 4 26 HT_.out HW_.out (mb 6 2) hHeld ?_;refine mone 6 (some 28) HT_.out (mb 7 1) (fun K hK=>?_);refine goes_ Try.func49 (by kernel_rfl) rfl #[.int .i64 (wrap64 (x1_1+1))] (by rfl) rfl rfl mA ?_
       with_reducible refine(laws_markText.calls k1 (wrap64 (x1_1+1)) t613 _ A7.out).mono ?_
       rintro e w21 ⟨rfl,hb⟩;refine⟨_,rfl,?_⟩;replace HB:=mS (below_step (mH HB.out) hb)
       (try clear hb)
       (try clear hb2)
       (try clear hk)
       (try clear hi)
       refine hK.out _ _ ⟨(mX HB.out hw612_0 :),(mX HB.out hw612_1 :),(mX HB.out hw612_2 :)⟩ (fun hHeld=>?_);clear hK K;refine mno 28 ?_;refine mpu 7 29 HT_.out (mb 8 0) ?_;refine done_ (done_of HT_.out (by kernel_rfl)) ?_
       try go_wp2
       go_ret;exact⟨mEw,(mH HB.out)⟩
     ·rw[if_neg c6]at H;have c6b0:(((rd_T87 l0 x5_1).f0).toList == t611.toList)=false:=beq_eq_false_iff_ne.mpr c6;have c6b1:(((rd_T87 l0 x5_1).f0).toList != t611.toList)=true:=bne_iff_ne.mpr c6;obtain rfl:=Option.some.inj H
      try go_wp2
      replace HB:=mS (below_drew1 HB.out);have p610:0≤(x5_1:Int):=mD;have q610:x5_1<(l0.length:Int):=mD;obtain⟨ad610,e610,hx610_0,hx610_1,hx610_2⟩:=at_T87 HR0.out x5_1 p610 q610;have hw610_2:=hx610_2;have hw610_1:=hx610_1;have hw610_0:=hx610_0;cases e610
      replace hx610_0:=mX HB.out hx610_0;replace hx610_1:=mX HB.out hx610_1;replace hx610_2:=mX HB.out hx610_2;replace p610:=eq_true p610;replace q610:=eq_true q610;refine start_ (n:=8) (S:=fun w'=>w'.cell? (ad610.add ((x5_1).toNat*3))=some (.string ((rd_T87 l0 x5_1).f0))∧w'.cell? ⟨(ad610.add ((x5_1).toNat*3)).block,(ad610.add ((x5_1).toNat*3)).off+1,none⟩=some (.string ((rd_T87 l0 x5_1).f1))∧w'.cell? ⟨(ad610.add ((x5_1).toNat*3)).block,(ad610.add ((x5_1).toNat*3)).off+2,none⟩=some (.bool ((rd_T87 l0 x5_1).f2))) (ds:=[]) (mb 0 8) (by kernel_rfl) rfl rfl ⟨(mX HB.out hw610_0 :),(mX HB.out hw610_1 :),(mX HB.out hw610_2 :)⟩ (fun hHeld=>?_);refine with_tabW laws_heldPairS.tab4 laws_heldPairS.bits4 (fun HT_ HW_=>?_);generalize wr.drew=w22 at HB hx610_0 hx610_1 hx610_2 hHeld ⊢
      refine mpu 0 12 HT_.out (mb 1 7) ?_;refine mpu 1 13 HT_.out (mb 2 6) ?_;refine mpu 2 14 HT_.out (mb 3 5) ?_;refine mpu 3 15 HT_.out (mb 4 4) ?_;refine mpu 5 17 HT_.out (mr [4,1,1,2]) ?_;refine mpt 4 16 HT_.out HW_.out (mb 6 2) hHeld ?_;refine mone 6 (some 18) HT_.out (mb 7 1) (fun K hK=>?_);refine goes_ Try.func49 (by kernel_rfl) rfl #[.int .i64 x1_1] (by rfl) rfl rfl mA ?_
      with_reducible refine(laws_markText.calls k1 x1_1 t611 _ A5.out).mono ?_
      rintro e w23 ⟨rfl,hb⟩;refine⟨_,rfl,?_⟩;replace HB:=mS (below_step (mH HB.out) hb)
      (try clear hb)
      (try clear hb2)
      (try clear hk)
      (try clear hi)
      refine hK.out _ _ ⟨(mX HB.out hw610_0 :),(mX HB.out hw610_1 :),(mX HB.out hw610_2 :)⟩ (fun hHeld=>?_);clear hK K;refine mno 18 ?_;refine mpu 7 19 HT_.out (mb 8 0) ?_;refine done_ (done_of HT_.out (by kernel_rfl)) ?_
      try go_wp2
      go_ret;exact⟨mEw,(mH HB.out)⟩
    ·rw[if_neg c4]at H;exact absurd H (by simp)
   ·rw[if_neg c3]at H;have c3b0:=decide_eq_false c3;clear c3;obtain rfl:=Option.some.inj H;go_wp2;go_ret;exact⟨mEw,(mH HB.out)⟩
end Go.Proofs.Ytecjamgajlpfdaa.MFnExactTablePairs
