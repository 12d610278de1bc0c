-- Written by mp.py, our own printer (wip/mp.py), and made shorter by wip/mp_shrink*.py.
import Derived.Test.YtgpkdbnikcghgaaVMShort
import Derived.Test.YtgpkdbnikcghgaaMDx0
import Derived.Test.YtgpkdbnikcghgaaMDx4
namespace Go.Proofs.Ytgpkdbnikcghgaa.MD
open Go.RowKit Go.Proofs.YtgpkdbnikcghgaaW.PrintWords Go.Proofs.YtgpkdbnikcghgaaW.PrintLast Go.Proofs.YtgpkdbnikcghgaaW.PrintMore Go.Proofs.Ytgpkdbnikcghgaa.MWords
attribute [local go_sem] max2_int min2_int max_two min_two max_three min_three max_four min_four
set_option linter.unusedVariables false
set_option linter.unusedSimpArgs false
def mL.l0:Nat→List Int→Int→Int→Option (Int)
 |0,_,_,_=>none
 |k+1,x0,x1,x5=>if x5<(x0.length:Int) then (if 0≤x5 then (if (rd x0 x5)=((x1) % 256) then (mL.l0 k x0 (wrap64 (x1+1)) (wrap64 (x5+1))) else (some (-1))) else (none)) else (some x1)
def mL.f (k:Nat) (l0:List Int) (a1:Int):Option (Int):=mL.l0 k l0 a1 0
set_option maxHeartbeats 8000000 in
set_option maxRecDepth 100000 in
theorem mL.calls (k:Nat) (A0:Option Addr) (c0:Nat) (l0:List Int) (a1:Int) (r:Int) (w:World) (gF:Kd.C (Kd.int .u8) w A0 l0.length l0) (fi:l0.length≤c0) (h:mL.f k l0 a1=some r) :
 Calls Try.prog 99 #[.slice A0 l0.length c0,.int .i64 a1] w fun e w'=>e = .returned (.int .i64 r)∧bW w w':=by
 have fL:=J gF;have rG:=J fi;clear gF fi;have H:(mL.l0 k l0 a1 0)=some r:=h;clear h;have H':=J H;clear H;go_enter Try.func99,Try.ntmps99;go_wp2;go_loopg [1,5] k (fun kq v1 v5 w'=>∃(dw:Int) (al:Int),v1 = .int .i64 dw∧v5 = .int .i64 al∧Aside0 (mL.l0 kq l0 dw al=some r)∧Aside0 (kq≤k)∧bW w w')
 case atStart=>exact⟨(a1),(0),mE,mE,H',⟨Nat.le_refl _⟩,by repeat (first|exact bW.refl _|apply bW.step)⟩
 case round=>
  clear H'
  obtain⟨dw,al,rfl,rfl,HA,bI,⟨m1,rfl⟩⟩:=hrel;cases gk with
  |zero=>exact absurd HA.1 (by simp[mL.l0])
  |succ k1=>
   have H:=HA.1;clear HA;simp only[mL.l0]at H;by_cases c3:al<(l0.length:Int)
   ·rw[if_pos c3]at H;have jf:=decide_eq_true c3;clear c3;by_cases c4:0≤al
    ·rw[if_pos c4]at H;have jm:=decide_eq_true c4;clear c4;by_cases c5:(rd l0 al)=((dw) % 256)
     ·rw[if_pos c5]at H;have nI:((rd l0 al) == ((dw) % 256))=true:=beq_iff_eq.mpr c5;have Dw:((rd l0 al) != ((dw) % 256))=false:=bne_eq_false_iff_eq.mpr c5;clear c5;have H':=J H;clear H;have QS:0≤(al:Int):=mD;have Ri:al<(l0.length:Int):=mD;obtain⟨aym,agW,aGS⟩:=Kd.JP fL.1 al QS Ri;cases agW
      replace QS:=eq_true QS;replace Ri:=eq_true Ri;go_wp2;go_roundg k1
      case measure=>have:=bI.1;omega
      case rel=>exact⟨(wrap64 (dw+1)),(wrap64 (al+1)),mE,mE,H',⟨by have:=bI.1;omega⟩,by repeat (first|exact bW.refl _|apply bW.step)⟩
     ·rw[if_neg c5]at H;have nI:((rd l0 al) == ((dw) % 256))=false:=beq_eq_false_iff_ne.mpr c5;have Dw:((rd l0 al) != ((dw) % 256))=true:=bne_iff_ne.mpr c5;obtain rfl:=Option.some.inj H;have QS:0≤(al:Int):=mD;have Ri:al<(l0.length:Int):=mD;obtain⟨aym,agW,aGS⟩:=Kd.JP fL.1 al QS Ri;cases agW
      replace QS:=eq_true QS;replace Ri:=eq_true Ri;go_wp2;go_ret;exact⟨mE,by repeat (first|exact bW.refl _|apply bW.step)⟩
    ·rw[if_neg c4]at H;exact absurd H (by simp)
   ·rw[if_neg c3]at H;have jf:=decide_eq_false c3;clear c3;obtain rfl:=Option.some.inj H;go_wp2;go_ret;exact⟨mE,by repeat (first|exact bW.refl _|apply bW.step)⟩
def nQ.l0:Nat→List (ak)→Int→Int→Option (Int)
 |0,_,_,_=>none
 |k+1,x0,x1,x5=>if x5<(x0.length:Int) then (if 0≤x5 then (if ((aa x0 x5).f0)=x1 then ((mL.f k ((aa x0 x5).f1) (wrap64 (x1+1))).bind fun t183=>(if t183<0 then (some (-1)) else (if ((aa x0 x5).f2)=t183 then (nQ.l0 k x0 (wrap64 (t183+1)) (wrap64 (x5+1))) else (some (-1))))) else (some (-1))) else (none)) else (some x1)
def nQ.f (k:Nat) (l0:List (ak)) (a1:Int):Option (Int):=nQ.l0 k l0 a1 0
set_option maxHeartbeats 8000000 in
set_option maxRecDepth 100000 in
theorem nQ.calls (k:Nat) (A0:Option Addr) (c0:Nat) (l0:List (ak)) (a1:Int) (r:Int) (w:World) (gF:Kd.C bF w A0 l0.length l0) (fi:l0.length≤c0) (h:nQ.f k l0 a1=some r) :
 Calls Try.prog 64 #[.slice A0 l0.length c0,.int .i64 a1] w fun e w'=>e = .returned (.int .i64 r)∧bW w w':=by
 have fL:=J gF;have rG:=J fi;clear gF fi;have H:(nQ.l0 k l0 a1 0)=some r:=h;clear h;have H':=J H;clear H;go_enter Try.func64,Try.ntmps64;go_wp2;go_loopg [1,5] k (fun kq v1 v5 w'=>∃(dw:Int) (al:Int),v1 = .int .i64 dw∧v5 = .int .i64 al∧Aside0 (nQ.l0 kq l0 dw al=some r)∧Aside0 (kq≤k)∧bW w w')
 case atStart=>exact⟨(a1),(0),mE,mE,H',⟨Nat.le_refl _⟩,by repeat (first|exact bW.refl _|apply bW.step)⟩
 case round=>
  clear H'
  obtain⟨dw,al,rfl,rfl,HA,bI,⟨m1,rfl⟩⟩:=hrel;cases gk with
  |zero=>exact absurd HA.1 (by simp[nQ.l0])
  |succ k1=>
   have H:=HA.1;clear HA;simp only[nQ.l0]at H;by_cases c3:al<(l0.length:Int)
   ·rw[if_pos c3]at H;have jf:=decide_eq_true c3;clear c3;by_cases c4:0≤al
    ·rw[if_pos c4]at H;have jm:=decide_eq_true c4;clear c4;by_cases c5:((aa l0 al).f0)=dw
     ·rw[if_pos c5]at H;have nI:(((aa l0 al).f0) == dw)=true:=beq_iff_eq.mpr c5;have Dw:(((aa l0 al).f0) != dw)=false:=bne_eq_false_iff_eq.mpr c5;clear c5;replace H:=Option.bind_eq_some_iff.mp H;obtain⟨t183,LB,H⟩:=H;replace H:(if t183<0 then (some (-1)) else (if ((aa l0 al).f2)=t183 then (nQ.l0 k1 l0 (wrap64 (t183+1)) (wrap64 (al+1))) else (some (-1))))=some r:=H;have A6:=J LB;clear LB;by_cases c7:t183<0
      ·rw[if_pos c7]at H;have um:=decide_eq_true c7;clear c7;obtain rfl:=Option.some.inj H;have tw:0≤(al:Int):=mD;have tx:al<(l0.length:Int):=mD;obtain⟨Ih,R2,SP,FR,KC,Nw,aj2,Gr,Gn⟩:=ny fL.1 al tw tx;cases FR
       have afn:=J Gn;have ae8:=J Gr;clear Gn Gr;replace tw:=eq_true tw;replace tx:=eq_true tx;have G0:0≤(al:Int):=mD;have G6:al<(l0.length:Int):=mD;obtain⟨WO,alR,an7,Xo,as4,Zq,as5,No,Ng⟩:=ny fL.1 al G0 G6;obtain rfl:Ih=WO:=(by injection Xo);have We:=J Ng;have VO:=J No;clear Ng No;replace G0:=eq_true G0;replace G6:=eq_true G6;have ea_:=Option.some.inj (Nw.symm.trans Zq);injection ea_ with ea_ en_ ec_
       subst ea_;subst ec_;clear en_;go_wp2_with (first|((with_reducible refine bw (f:=99) rfl ?_);refine bH 27 Try.func99 #[.slice R2 ((aa l0 al).f1).length SP,.int .i64 (wrap64 (dw+1))] ?_;(with_reducible refine(mL.calls k1 _ _ ((aa l0 al).f1) (wrap64 (dw+1)) t183 _ ?ar ?au A6.1).mono ?_);(case ar=>exact mC We.1);(case au=>exact VO.1);rintro e w' ⟨rfl,⟨nd,rfl⟩⟩;refine⟨_,rfl,?_⟩));go_ret;exact⟨mE,by repeat (first|exact bW.refl _|apply bW.step)⟩
      ·rw[if_neg c7]at H;have um:=decide_eq_false c7;clear c7;by_cases c8:((aa l0 al).f2)=t183
       ·rw[if_pos c8]at H;have s8:(((aa l0 al).f2) == t183)=true:=beq_iff_eq.mpr c8;have SY:(((aa l0 al).f2) != t183)=false:=bne_eq_false_iff_eq.mpr c8;clear c8;have H':=J H;clear H;have tw:0≤(al:Int):=mD;have tx:al<(l0.length:Int):=mD;obtain⟨Ih,R2,SP,FR,KC,Nw,aj2,Gr,Gn⟩:=ny fL.1 al tw tx;cases FR
        have afn:=J Gn;have ae8:=J Gr;clear Gn Gr;replace tw:=eq_true tw;replace tx:=eq_true tx;have G0:0≤(al:Int):=mD;have G6:al<(l0.length:Int):=mD;obtain⟨WO,alR,an7,Xo,as4,Zq,as5,No,Ng⟩:=ny fL.1 al G0 G6;obtain rfl:Ih=WO:=(by injection Xo);have We:=J Ng;have VO:=J No;clear Ng No;replace G0:=eq_true G0;replace G6:=eq_true G6;have ea_:=Option.some.inj (Nw.symm.trans Zq);injection ea_ with ea_ en_ ec_
        subst ea_;subst ec_;clear en_;go_wp2_with (first|((with_reducible refine bw (f:=99) rfl ?_);refine bH 27 Try.func99 #[.slice R2 ((aa l0 al).f1).length SP,.int .i64 (wrap64 (dw+1))] ?_;(with_reducible refine(mL.calls k1 _ _ ((aa l0 al).f1) (wrap64 (dw+1)) t183 _ ?ar ?au A6.1).mono ?_);(case ar=>exact mC We.1);(case au=>exact VO.1);rintro e w' ⟨rfl,⟨nd,rfl⟩⟩;refine⟨_,rfl,?_⟩;have QT:0≤(al:Int):=mD;have Rj:al<(l0.length:Int):=mD;obtain⟨agk,avm,ayU,agX,aGT,aj3,aGU,YS,YI⟩:=ny fL.1 al QT Rj;obtain rfl:Ih=agk:=(by injection agX);have awn:=J YI;have avW:=J YS;clear YI YS;replace QT:=eq_true QT;replace Rj:=eq_true Rj;have ea_:=Option.some.inj (Nw.symm.trans aj3);injection ea_ with ea_ en_ ec_;subst ea_;subst ec_;clear en_));go_roundg k1
        case measure=>have:=bI.1;omega
        case rel=>exact⟨(wrap64 (t183+1)),(wrap64 (al+1)),mE,mE,H',⟨by have:=bI.1;omega⟩,by repeat (first|exact bW.refl _|apply bW.step)⟩
       ·rw[if_neg c8]at H;have s8:(((aa l0 al).f2) == t183)=false:=beq_eq_false_iff_ne.mpr c8;have SY:(((aa l0 al).f2) != t183)=true:=bne_iff_ne.mpr c8;obtain rfl:=Option.some.inj H;have tw:0≤(al:Int):=mD;have tx:al<(l0.length:Int):=mD;obtain⟨Ih,R2,SP,FR,KC,Nw,aj2,Gr,Gn⟩:=ny fL.1 al tw tx;cases FR
        have afn:=J Gn;have ae8:=J Gr;clear Gn Gr;replace tw:=eq_true tw;replace tx:=eq_true tx;have G0:0≤(al:Int):=mD;have G6:al<(l0.length:Int):=mD;obtain⟨WO,alR,an7,Xo,as4,Zq,as5,No,Ng⟩:=ny fL.1 al G0 G6;obtain rfl:Ih=WO:=(by injection Xo);have We:=J Ng;have VO:=J No;clear Ng No;replace G0:=eq_true G0;replace G6:=eq_true G6;have ea_:=Option.some.inj (Nw.symm.trans Zq);injection ea_ with ea_ en_ ec_
        subst ea_;subst ec_;clear en_;go_wp2_with (first|((with_reducible refine bw (f:=99) rfl ?_);refine bH 27 Try.func99 #[.slice R2 ((aa l0 al).f1).length SP,.int .i64 (wrap64 (dw+1))] ?_;(with_reducible refine(mL.calls k1 _ _ ((aa l0 al).f1) (wrap64 (dw+1)) t183 _ ?ar ?au A6.1).mono ?_);(case ar=>exact mC We.1);(case au=>exact VO.1);rintro e w' ⟨rfl,⟨nd,rfl⟩⟩;refine⟨_,rfl,?_⟩;have QT:0≤(al:Int):=mD;have Rj:al<(l0.length:Int):=mD;obtain⟨agk,avm,ayU,agX,aGT,aj3,aGU,YS,YI⟩:=ny fL.1 al QT Rj;obtain rfl:Ih=agk:=(by injection agX);have awn:=J YI;have avW:=J YS;clear YI YS;replace QT:=eq_true QT;replace Rj:=eq_true Rj;have ea_:=Option.some.inj (Nw.symm.trans aj3);injection ea_ with ea_ en_ ec_;subst ea_;subst ec_;clear en_));go_ret;exact⟨mE,by repeat (first|exact bW.refl _|apply bW.step)⟩
     ·rw[if_neg c5]at H;have nI:(((aa l0 al).f0) == dw)=false:=beq_eq_false_iff_ne.mpr c5;have Dw:(((aa l0 al).f0) != dw)=true:=bne_iff_ne.mpr c5;obtain rfl:=Option.some.inj H;have tw:0≤(al:Int):=mD;have tx:al<(l0.length:Int):=mD;obtain⟨Ih,R2,SP,FR,KC,Nw,aj2,Gr,Gn⟩:=ny fL.1 al tw tx;cases FR
      have afn:=J Gn;have ae8:=J Gr;clear Gn Gr;replace tw:=eq_true tw;replace tx:=eq_true tx;go_wp2;go_ret;exact⟨mE,by repeat (first|exact bW.refl _|apply bW.step)⟩
    ·rw[if_neg c4]at H;exact absurd H (by simp)
   ·rw[if_neg c3]at H;have jf:=decide_eq_false c3;clear c3;obtain rfl:=Option.some.inj H;go_wp2;go_ret;exact⟨mE,by repeat (first|exact bW.refl _|apply bW.step)⟩
def jQ.l0:Nat→List (ai)→Int→Int→Option (Int)
 |0,_,_,_=>none
 |k+1,x0,x1,x5=>if x5<(x0.length:Int) then (if 0≤x5 then ((lU.f k x1).bind fun t186=>(if ((aq x0 x5).f0).toList=t186.toList then (if ((aq x0 x5).f1)=(wrap64 (x1+1)) then (jQ.l0 k x0 (wrap64 ((wrap64 (x1+1))+1)) (wrap64 (x5+1))) else (some (-1))) else (some (-1)))) else (none)) else (some x1)
def jQ.f (k:Nat) (l0:List (ai)) (a1:Int):Option (Int):=jQ.l0 k l0 a1 0
def jQ.T4:Bool × List (List Nat × List Nat):=(true,[([],[]),([],[]),([0,1],[0,1]),([2],[2]),([3],[3]),([],[]),([5],[5]),([4,6],[4,6])])
def jQ.B4:List Nat:=[0,0,3,7,15,0,32,127]
theorem jQ.zw:kS .any (opsOf Try.f65 4)=jQ.T4:=by kernel_rfl
theorem jQ.y6:qw jQ.T4.2 jQ.B4=true:=by kernel_rfl
set_option maxHeartbeats 8000000 in
set_option maxRecDepth 100000 in
theorem jQ.calls (k:Nat) (A0:Option Addr) (c0:Nat) (l0:List (ai)) (a1:Int) (r:Int) (w:World) (gF:Kd.C aK w A0 l0.length l0) (fi:l0.length≤c0) (h:jQ.f k l0 a1=some r) :
 Calls Try.prog 65 #[.slice A0 l0.length c0,.int .i64 a1] w fun e w'=>e = .returned (.int .i64 r)∧Below w.heap.size w w':=by
 have fL:=J gF;have rG:=J fi;clear gF fi;have HB:=J (Below.refl w.heap.size w);have H:(jQ.l0 k l0 a1 0)=some r:=h;clear h;have H':=J H;clear H;go_enter Try.func65,Try.ntmps65;go_wp2;go_loopg [1,5] k (fun kq v1 v5 w'=>∃(dw:Int) (al:Int),v1 = .int .i64 dw∧v5 = .int .i64 al∧Aside0 (jQ.l0 kq l0 dw al=some r)∧Aside0 (kq≤k)∧Aside0 (Below w.heap.size w w'))
 case atStart=>exact⟨(a1),(0),mE,mE,H',⟨Nat.le_refl _⟩,⟨(mH HB.1)⟩⟩
 case round=>
  clear H'
  obtain⟨dw,al,rfl,rfl,HA,bI,HB⟩:=hrel;cases gk with
  |zero=>exact absurd HA.1 (by simp[jQ.l0])
  |succ k1=>
   have H:=HA.1;clear HA;simp only[jQ.l0]at H;by_cases c3:al<(l0.length:Int)
   ·rw[if_pos c3]at H;have jf:=decide_eq_true c3;clear c3;by_cases c4:0≤al
    ·rw[if_pos c4]at H;have jm:=decide_eq_true c4;clear c4;replace H:=Option.bind_eq_some_iff.mp H;obtain⟨t186,qV,H⟩:=H;replace H:(if ((aq l0 al).f0).toList=t186.toList then (if ((aq l0 al).f1)=(wrap64 (dw+1)) then (jQ.l0 k1 l0 (wrap64 ((wrap64 (dw+1))+1)) (wrap64 (al+1))) else (some (-1))) else (some (-1)))=some r:=H;have A5:=J qV;clear qV;by_cases c6:((aq l0 al).f0).toList=t186.toList
     ·rw[if_pos c6]at H;have iW:(((aq l0 al).f0).toList == t186.toList)=true:=beq_iff_eq.mpr c6;have qo:(((aq l0 al).f0).toList != t186.toList)=false:=bne_eq_false_iff_eq.mpr c6;clear c6;by_cases c7:((aq l0 al).f1)=(wrap64 (dw+1))
      ·rw[if_pos c7]at H;have um:(((aq l0 al).f1) == (wrap64 (dw+1)))=true:=beq_iff_eq.mpr c7;have W9:(((aq l0 al).f1) != (wrap64 (dw+1)))=false:=bne_eq_false_iff_eq.mpr c7;clear c7;have H':=J H;clear H
       try go_wp2
       replace HB:=J (hG HB.1);have G1:0≤(al:Int):=mD;have G7:al<(l0.length:Int):=mD;obtain⟨Ds,Xp,Cf,Cg⟩:=lB fL.1 al G1 G7;have Nt:=Cg;have Ns:=Cf;cases Xp
       replace Cf:=mX HB.1 Cf;replace Cg:=mX HB.1 Cg;replace G1:=eq_true G1;replace G7:=eq_true G7;refine j5 (n:=8) (S:=fun w'=>w'.cell? (Ds.add ((al).toNat*2))=some (.string ((aq l0 al).f0))∧w'.cell? ⟨(Ds.add ((al).toNat*2)).block,(Ds.add ((al).toNat*2)).off+1,none⟩=some (.int .i64 ((aq l0 al).f1))) (ds:=[]) (mb 0 8) (by kernel_rfl) rfl rfl ⟨(mX HB.1 Ns :),(mX HB.1 Nt :)⟩ (fun hHeld=>?_);refine kK jQ.zw jQ.y6 (fun HT_ HW_=>?_);generalize wr.drew=w8 at HB Cf Cg hHeld ⊢
       refine an 0 12 HT_.1 (mb 1 7) ?_;refine an 1 13 HT_.1 (mb 2 6) ?_;refine an 2 14 HT_.1 (mb 3 5) ?_;refine an 3 15 HT_.1 (mb 4 4) ?_;refine an 5 17 HT_.1 (mr [4,1,1,2]) ?_;refine bC 4 16 HT_.1 HW_.1 (mb 6 2) hHeld ?_;refine dA 6 (some 18) HT_.1 (mb 7 1) (fun K hK=>?_);refine e8 Try.func98 (by kernel_rfl) rfl #[.int .i64 dw] (by rfl) rfl rfl mA ?_
       with_reducible refine(lU.calls k1 dw t186 _ A5.1).mono ?_
       rintro e w9 ⟨rfl,hb⟩;refine⟨_,rfl,?_⟩;replace HB:=J (aG (mH HB.1) hb)
       (try clear hb)
       (try clear ff)
       (try clear hk)
       (try clear hi)
       refine hK.out _ _ ⟨(mX HB.1 Ns :),(mX HB.1 Nt :)⟩ (fun hHeld=>?_);clear hK K;refine cO 18 ?_;refine an 7 19 HT_.1 (mb 8 0) ?_;refine jX (kC HT_.1 (by kernel_rfl)) ?_;have QU:0≤(al:Int):=mD;have Rk:al<(l0.length:Int):=mD;obtain⟨agl,agY,Zr,Zs⟩:=lB fL.1 al QU Rk;obtain rfl:Ds=agl:=(by injection agY);replace Zr:=mX HB.1 Zr;replace Zs:=mX HB.1 Zs;replace QU:=eq_true QU;replace Rk:=eq_true Rk
       try go_wp2
       go_roundg k1
       case measure=>have:=bI.1;omega
       case rel=>exact⟨(wrap64 ((wrap64 (dw+1))+1)),(wrap64 (al+1)),mE,mE,H',⟨by have:=bI.1;omega⟩,⟨(mH HB.1)⟩⟩
      ·rw[if_neg c7]at H;have um:(((aq l0 al).f1) == (wrap64 (dw+1)))=false:=beq_eq_false_iff_ne.mpr c7;have W9:(((aq l0 al).f1) != (wrap64 (dw+1)))=true:=bne_iff_ne.mpr c7;obtain rfl:=Option.some.inj H
       try go_wp2
       replace HB:=J (hG HB.1);have G1:0≤(al:Int):=mD;have G7:al<(l0.length:Int):=mD;obtain⟨Ds,Xp,Cf,Cg⟩:=lB fL.1 al G1 G7;have Nt:=Cg;have Ns:=Cf;cases Xp
       replace Cf:=mX HB.1 Cf;replace Cg:=mX HB.1 Cg;replace G1:=eq_true G1;replace G7:=eq_true G7;refine j5 (n:=8) (S:=fun w'=>w'.cell? (Ds.add ((al).toNat*2))=some (.string ((aq l0 al).f0))∧w'.cell? ⟨(Ds.add ((al).toNat*2)).block,(Ds.add ((al).toNat*2)).off+1,none⟩=some (.int .i64 ((aq l0 al).f1))) (ds:=[]) (mb 0 8) (by kernel_rfl) rfl rfl ⟨(mX HB.1 Ns :),(mX HB.1 Nt :)⟩ (fun hHeld=>?_);refine kK jQ.zw jQ.y6 (fun HT_ HW_=>?_);generalize wr.drew=lI at HB Cf Cg hHeld ⊢
       refine an 0 12 HT_.1 (mb 1 7) ?_;refine an 1 13 HT_.1 (mb 2 6) ?_;refine an 2 14 HT_.1 (mb 3 5) ?_;refine an 3 15 HT_.1 (mb 4 4) ?_;refine an 5 17 HT_.1 (mr [4,1,1,2]) ?_;refine bC 4 16 HT_.1 HW_.1 (mb 6 2) hHeld ?_;refine dA 6 (some 18) HT_.1 (mb 7 1) (fun K hK=>?_);refine e8 Try.func98 (by kernel_rfl) rfl #[.int .i64 dw] (by rfl) rfl rfl mA ?_
       with_reducible refine(lU.calls k1 dw t186 _ A5.1).mono ?_
       rintro e e9 ⟨rfl,hb⟩;refine⟨_,rfl,?_⟩;replace HB:=J (aG (mH HB.1) hb)
       (try clear hb)
       (try clear ff)
       (try clear hk)
       (try clear hi)
       refine hK.out _ _ ⟨(mX HB.1 Ns :),(mX HB.1 Nt :)⟩ (fun hHeld=>?_);clear hK K;refine cO 18 ?_;refine an 7 19 HT_.1 (mb 8 0) ?_;refine jX (kC HT_.1 (by kernel_rfl)) ?_;have QU:0≤(al:Int):=mD;have Rk:al<(l0.length:Int):=mD;obtain⟨agl,agY,Zr,Zs⟩:=lB fL.1 al QU Rk;obtain rfl:Ds=agl:=(by injection agY);replace Zr:=mX HB.1 Zr;replace Zs:=mX HB.1 Zs;replace QU:=eq_true QU;replace Rk:=eq_true Rk
       try go_wp2
       go_ret;exact⟨cS,(mH HB.1)⟩
     ·rw[if_neg c6]at H;have iW:(((aq l0 al).f0).toList == t186.toList)=false:=beq_eq_false_iff_ne.mpr c6;have qo:(((aq l0 al).f0).toList != t186.toList)=true:=bne_iff_ne.mpr c6;obtain rfl:=Option.some.inj H
      try go_wp2
      replace HB:=J (hG HB.1);have G1:0≤(al:Int):=mD;have G7:al<(l0.length:Int):=mD;obtain⟨Ds,Xp,Cf,Cg⟩:=lB fL.1 al G1 G7;have Nt:=Cg;have Ns:=Cf;cases Xp
      replace Cf:=mX HB.1 Cf;replace Cg:=mX HB.1 Cg;replace G1:=eq_true G1;replace G7:=eq_true G7;refine j5 (n:=8) (S:=fun w'=>w'.cell? (Ds.add ((al).toNat*2))=some (.string ((aq l0 al).f0))∧w'.cell? ⟨(Ds.add ((al).toNat*2)).block,(Ds.add ((al).toNat*2)).off+1,none⟩=some (.int .i64 ((aq l0 al).f1))) (ds:=[]) (mb 0 8) (by kernel_rfl) rfl rfl ⟨(mX HB.1 Ns :),(mX HB.1 Nt :)⟩ (fun hHeld=>?_);refine kK jQ.zw jQ.y6 (fun HT_ HW_=>?_);generalize wr.drew=jE at HB Cf Cg hHeld ⊢
      refine an 0 12 HT_.1 (mb 1 7) ?_;refine an 1 13 HT_.1 (mb 2 6) ?_;refine an 2 14 HT_.1 (mb 3 5) ?_;refine an 3 15 HT_.1 (mb 4 4) ?_;refine an 5 17 HT_.1 (mr [4,1,1,2]) ?_;refine bC 4 16 HT_.1 HW_.1 (mb 6 2) hHeld ?_;refine dA 6 (some 18) HT_.1 (mb 7 1) (fun K hK=>?_);refine e8 Try.func98 (by kernel_rfl) rfl #[.int .i64 dw] (by rfl) rfl rfl mA ?_
      with_reducible refine(lU.calls k1 dw t186 _ A5.1).mono ?_
      rintro e nN ⟨rfl,hb⟩;refine⟨_,rfl,?_⟩;replace HB:=J (aG (mH HB.1) hb)
      (try clear hb)
      (try clear ff)
      (try clear hk)
      (try clear hi)
      refine hK.out _ _ ⟨(mX HB.1 Ns :),(mX HB.1 Nt :)⟩ (fun hHeld=>?_);clear hK K;refine cO 18 ?_;refine an 7 19 HT_.1 (mb 8 0) ?_;refine jX (kC HT_.1 (by kernel_rfl)) ?_
      try go_wp2
      go_ret;exact⟨cS,(mH HB.1)⟩
    ·rw[if_neg c4]at H;exact absurd H (by simp)
   ·rw[if_neg c3]at H;have jf:=decide_eq_false c3;clear c3;obtain rfl:=Option.some.inj H;go_wp2;go_ret;exact⟨cS,(mH HB.1)⟩
def pM.f (k:Nat) (U:List (ak)) (ab:List (ai)) (af:List (ai)) (ah:Int) (a1:Int):Option (Int):=(nQ.f k U a1).bind fun t189=>(if t189<0 then (some (-1)) else ((jQ.f k ab t189).bind fun t190=>(if t190<0 then (some (-1)) else ((jQ.f k af t190).bind fun t191=>(if t191<0 then (some (-1)) else (some t191))))))
set_option maxHeartbeats 8000000 in
set_option maxRecDepth 100000 in
theorem pM.calls (k:Nat) (aE:Option Addr) (az:Nat) (U:List (ak)) (aw:Option Addr) (ax:Nat) (ab:List (ai)) (aA:Option Addr) (aC:Nat) (af:List (ai)) (ah:Int) (a1:Int) (r:Int) (w:World) (eZ:Kd.C bF w aE U.length U) (eX:U.length≤az) (ek:Kd.C aK w aw ab.length ab) (ej:ab.length≤ax) (e6:Kd.C aK w aA af.length af) (eY:af.length≤aC) (h:pM.f k U ab af ah a1=some r) :
 Calls Try.prog 18 #[.agg #[.slice aE U.length az,.slice aw ab.length ax,.slice aA af.length aC,.int .i64 ah],.int .i64 a1] w fun e w'=>e = .returned (.int .i64 r)∧Below w.heap.size w w':=by
 have qj:=Try.underlying30;have cF:=J eZ;have db:=J eX;clear eZ eX;have cr:=J ek;have cz:=J ej;clear ek ej;have cV:=J e6;have dc:=J eY;clear e6 eY;have HB:=J (Below.refl w.heap.size w);have H:((nQ.f k U a1).bind fun t189=>(if t189<0 then (some (-1)) else ((jQ.f k ab t189).bind fun t190=>(if t190<0 then (some (-1)) else ((jQ.f k af t190).bind fun t191=>(if t191<0 then (some (-1)) else (some t191)))))))=some r:=h;clear h;replace H:=Option.bind_eq_some_iff.mp H;obtain⟨t189,oK,H⟩:=H;replace H:(if t189<0 then (some (-1)) else ((jQ.f k ab t189).bind fun t190=>(if t190<0 then (some (-1)) else ((jQ.f k af t190).bind fun t191=>(if t191<0 then (some (-1)) else (some t191))))))=some r:=H;have A3:=J oK;clear oK;by_cases c4:t189<0
 ·rw[if_pos c4]at H;have jm:=decide_eq_true c4;clear c4;obtain rfl:=Option.some.inj H;go_enter Try.func18,Try.ntmps18;go_wp2_with (first|((with_reducible refine bB (N:=2) rfl ?_);refine bO 2 #[.slice aE U.length az,.slice aw ab.length ax,.slice aA af.length aC,.int .i64 ah] 30 ?_;intro ahF hg w5 hbox hb;have vv:=J (hbox);have aeX:=mG hg (mH HB.1);have zN:=mG hg (mH HB.1);replace HB:=J (aG (mH HB.1) hb);clear hb hbox hg;obtain⟨aiv,aiw,aix,apM,ajj,ajk,ajl,aqT⟩:=bb vv.1)|((with_reducible refine bw (f:=64) rfl ?_);refine bH 8 Try.func64 #[.slice aE U.length az,.int .i64 a1] ?_;(with_reducible refine(nQ.calls k _ _ U a1 t189 _ ?ar ?au A3.1).mono ?_);(case ar=>exact mC (Kd.aX cF.1 HB.1));(case au=>exact db.1);rintro e w' ⟨rfl,⟨nd,rfl⟩⟩;refine⟨_,rfl,?_⟩));go_ret;exact⟨cS,(aY HB.1 zN.1)⟩
 ·rw[if_neg c4]at H;have jm:=decide_eq_false c4;clear c4;replace H:=Option.bind_eq_some_iff.mp H;obtain⟨t190,tG,H⟩:=H;replace H:(if t190<0 then (some (-1)) else ((jQ.f k af t190).bind fun t191=>(if t191<0 then (some (-1)) else (some t191))))=some r:=H;have A7:=J tG;clear tG;by_cases c8:t190<0
  ·rw[if_pos c8]at H;have s8:=decide_eq_true c8;clear c8;obtain rfl:=Option.some.inj H;go_enter Try.func18,Try.ntmps18;go_wp2_with (first|((with_reducible refine bB (N:=2) rfl ?_);refine bO 2 #[.slice aE U.length az,.slice aw ab.length ax,.slice aA af.length aC,.int .i64 ah] 30 ?_;intro ahF hg w9 hbox hb;have vv:=J (hbox);have aeX:=mG hg (mH HB.1);have zN:=mG hg (mH HB.1);replace HB:=J (aG (mH HB.1) hb);clear hb hbox hg;obtain⟨wW,wX,BQ,Ga,wY,wZ,BV,Gi⟩:=bb vv.1)|((with_reducible refine bw (f:=64) rfl ?_);refine bH 8 Try.func64 #[.slice aE U.length az,.int .i64 a1] ?_;(with_reducible refine(nQ.calls k _ _ U a1 t189 _ ?ar ?au A3.1).mono ?_);(case ar=>exact mC (Kd.aX cF.1 HB.1));(case au=>exact db.1);rintro e w' ⟨rfl,⟨nd,rfl⟩⟩;refine⟨_,rfl,?_⟩)|((with_reducible refine bw (f:=65) rfl ?_);refine bH 14 Try.func65 #[.slice aw ab.length ax,.int .i64 t189] ?_;(with_reducible refine(jQ.calls k _ _ ab t189 t190 _ ?ar ?au A7.1).mono ?_);(case ar=>exact mC (Kd.aX cr.1 (aY HB.1 zN.1)));(case au=>exact cz.1);rintro e e9 ⟨rfl,hb⟩;refine⟨_,rfl,?_⟩;replace vv:=mB vv hb;replace HB:=J (aG (aY HB.1 zN.1) hb);(try clear hb)));go_ret;exact⟨cS,(aY HB.1 zN.1)⟩
  ·rw[if_neg c8]at H;have s8:=decide_eq_false c8;clear c8;replace H:=Option.bind_eq_some_iff.mp H;obtain⟨t191,U3,H⟩:=H;replace H:(if t191<0 then (some (-1)) else (some t191))=some r:=H;have A12:=J U3;clear U3;by_cases mi:t191<0
   ·rw[if_pos mi]at H;have Pm:=decide_eq_true mi;clear mi;obtain rfl:=Option.some.inj H;go_enter Try.func18,Try.ntmps18;go_wp2_with (first|((with_reducible refine bB (N:=2) rfl ?_);refine bO 2 #[.slice aE U.length az,.slice aw ab.length ax,.slice aA af.length aC,.int .i64 ah] 30 ?_;intro ahF hg w14 hbox hb;have vv:=J (hbox);have aeX:=mG hg (mH HB.1);have zN:=mG hg (mH HB.1);replace HB:=J (aG (mH HB.1) hb);clear hb hbox hg;obtain⟨Ka,PS,PT,ach,Ki,P5,P6,acz⟩:=bb vv.1)|((with_reducible refine bw (f:=64) rfl ?_);refine bH 8 Try.func64 #[.slice aE U.length az,.int .i64 a1] ?_;(with_reducible refine(nQ.calls k _ _ U a1 t189 _ ?ar ?au A3.1).mono ?_);(case ar=>exact mC (Kd.aX cF.1 HB.1));(case au=>exact db.1);rintro e w' ⟨rfl,⟨nd,rfl⟩⟩;refine⟨_,rfl,?_⟩)|((with_reducible refine bw (f:=65) rfl ?_);refine bH 14 Try.func65 #[.slice aw ab.length ax,.int .i64 t189] ?_;(with_reducible refine(jQ.calls k _ _ ab t189 t190 _ ?ar ?au A7.1).mono ?_);(case ar=>exact mC (Kd.aX cr.1 (aY HB.1 zN.1)));(case au=>exact cz.1);rintro e tB ⟨rfl,hb⟩;refine⟨_,rfl,?_⟩;replace vv:=mB vv hb;replace HB:=J (aG (aY HB.1 zN.1) hb);(try clear hb);obtain⟨ah4,apg,aph,api,aiT,aqo,aqp,aqq⟩:=bb vv.1)|((with_reducible refine bw (f:=65) rfl ?_);refine bH 20 Try.func65 #[.slice aA af.length aC,.int .i64 t190] ?_;(with_reducible refine(jQ.calls k _ _ af t190 t191 _ ?ar ?au A12.1).mono ?_);(case ar=>exact mC (Kd.aX cV.1 HB.1));(case au=>exact dc.1);rintro e T7 ⟨rfl,hb⟩;refine⟨_,rfl,?_⟩;replace vv:=mB vv hb;replace HB:=J (aG (aY HB.1 zN.1) hb);(try clear hb)));go_ret;exact⟨cS,(aY HB.1 zN.1)⟩
   ·rw[if_neg mi]at H;have Pm:=decide_eq_false mi;clear mi;obtain rfl:=Option.some.inj H;go_enter Try.func18,Try.ntmps18;go_wp2_with (first|((with_reducible refine bB (N:=2) rfl ?_);refine bO 2 #[.slice aE U.length az,.slice aw ab.length ax,.slice aA af.length aC,.int .i64 ah] 30 ?_;intro ahF hg RR hbox hb;have vv:=J (hbox);have aeX:=mG hg (mH HB.1);have zN:=mG hg (mH HB.1);replace HB:=J (aG (mH HB.1) hb);clear hb hbox hg;obtain⟨X5,X6,X7,aci,Yq,Yr,Ys,acA⟩:=bb vv.1)|((with_reducible refine bw (f:=64) rfl ?_);refine bH 8 Try.func64 #[.slice aE U.length az,.int .i64 a1] ?_;(with_reducible refine(nQ.calls k _ _ U a1 t189 _ ?ar ?au A3.1).mono ?_);(case ar=>exact mC (Kd.aX cF.1 HB.1));(case au=>exact db.1);rintro e w' ⟨rfl,⟨nd,rfl⟩⟩;refine⟨_,rfl,?_⟩)|((with_reducible refine bw (f:=65) rfl ?_);refine bH 14 Try.func65 #[.slice aw ab.length ax,.int .i64 t189] ?_;(with_reducible refine(jQ.calls k _ _ ab t189 t190 _ ?ar ?au A7.1).mono ?_);(case ar=>exact mC (Kd.aX cr.1 (aY HB.1 zN.1)));(case au=>exact cz.1);rintro e Ua ⟨rfl,hb⟩;refine⟨_,rfl,?_⟩;replace vv:=mB vv hb;replace HB:=J (aG (aY HB.1 zN.1) hb);(try clear hb);obtain⟨X8,X9,Ya,Yb,Yt,Yu,Yv,Yw⟩:=bb vv.1)|((with_reducible refine bw (f:=65) rfl ?_);refine bH 20 Try.func65 #[.slice aA af.length aC,.int .i64 t190] ?_;(with_reducible refine(jQ.calls k _ _ af t190 t191 _ ?ar ?au A12.1).mono ?_);(case ar=>exact mC (Kd.aX cV.1 HB.1));(case au=>exact dc.1);rintro e N4 ⟨rfl,hb⟩;refine⟨_,rfl,?_⟩;replace vv:=mB vv hb;replace HB:=J (aG (aY HB.1 zN.1) hb);(try clear hb)));go_ret;exact⟨cS,(aY HB.1 zN.1)⟩
end Go.Proofs.Ytgpkdbnikcghgaa.MD
