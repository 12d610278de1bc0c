-- Written by mp.py, our own printer (wip/mp.py), and made shorter by wip/mp_shrink*.py.
import Derived.Test.YtingkpnoiekliaaGreatVAll
import Derived.Test.YtingkpnoiekliaaGreatG1
import Derived.Test.YtingkpnoiekliaaGreatMZx4
namespace Go.Proofs.YtingkpnoiekliaaGreat.MZ
open Go.RowKit Go.Proofs.YtingkpnoiekliaaGreatW.PrintWords Go.Proofs.YtingkpnoiekliaaGreatW.PrintLast Go.Proofs.YtingkpnoiekliaaGreatW.PrintMore Go.Proofs.YtingkpnoiekliaaGreat.MWords
attribute [local go_sem] max2_int min2_int max_two min_two max_three min_three max_four min_four
set_option linter.unusedVariables false
set_option linter.unusedSimpArgs false
def jB.U:Nat→List Int→Int→Int→Option (Int)
 |0,_,_,_=>none
 |k+1,x0,x1,x5=>if x5<(x0.length:Int) then (if 0≤x5 then (if (rd x0 x5)=((x1) % 256) then (jB.U k x0 (wrap64 (x1+1)) (wrap64 (x5+1))) else (some (-1))) else (none)) else (some x1)
def jB.f (k:Nat) (U:List Int) (a1:Int):Option (Int):=jB.U k U a1 0
set_option maxHeartbeats 8000000 in
set_option maxRecDepth 100000 in
theorem jB.calls (k:Nat) (A0:Option Addr) (c0:Nat) (U:List Int) (a1:Int) (r:Int) (w:World) (bJ:Kd.C (Kd.int .u8) w A0 U.length U) (bz:U.length≤c0) (h:jB.f k U a1=some r) :
 Calls Tryz.prog 55 #[.slice A0 U.length c0,.int .i64 a1] w fun e w'=>e = .returned (.int .i64 r)∧ay w w':=by
 have bB:=J bJ;have eb:=J bz;clear bJ bz;have H:(jB.U k U a1 0)=some r:=h;clear h;have H':=J H;clear H;go_enter Tryz.func55,Tryz.ntmps55;go_wp2;go_loopg [1,5] k (fun kq v1 v5 w'=>∃(bp:Int) (ah:Int),v1 = .int .i64 bp∧v5 = .int .i64 ah∧Aside0 (jB.U kq U bp ah=some r)∧Aside0 (kq≤k)∧ay w w')
 case atStart=>exact⟨(a1),(0),mE,mE,H',⟨Nat.le_refl _⟩,by repeat (first|exact ay.refl _|apply ay.step)⟩
 case round=>
  clear H'
  obtain⟨bp,ah,rfl,rfl,HA,aQ,⟨m1,rfl⟩⟩:=hrel;cases gk with
  |zero=>exact absurd HA.1 (by simp[jB.U])
  |succ k1=>
   have H:=HA.1;clear HA;simp only[jB.U]at H;by_cases c3:ah<(U.length:Int)
   ·rw[if_pos c3]at H;have cS:=decide_eq_true c3;clear c3;by_cases c4:0≤ah
    ·rw[if_pos c4]at H;have cV:=decide_eq_true c4;clear c4;by_cases c5:(rd U ah)=((bp) % 256)
     ·rw[if_pos c5]at H;have eS:((rd U ah) == ((bp) % 256))=true:=beq_iff_eq.mpr c5;have rU:((rd U ah) != ((bp) % 256))=false:=bne_eq_false_iff_eq.mpr c5;clear c5;have H':=J H;clear H;have z7:0≤(ah:Int):=mD;have AE:ah<(U.length:Int):=mD;obtain⟨aeK,O1,ak7⟩:=Kd.lB bB.1 ah z7 AE;cases O1
      replace z7:=eq_true z7;replace AE:=eq_true AE;go_wp2;go_roundg k1
      case measure=>have:=aQ.1;omega
      case rel=>exact⟨(wrap64 (bp+1)),(wrap64 (ah+1)),mE,mE,H',⟨by have:=aQ.1;omega⟩,by repeat (first|exact ay.refl _|apply ay.step)⟩
     ·rw[if_neg c5]at H;have eS:((rd U ah) == ((bp) % 256))=false:=beq_eq_false_iff_ne.mpr c5;have rU:((rd U ah) != ((bp) % 256))=true:=bne_iff_ne.mpr c5;obtain rfl:=Option.some.inj H;have z7:0≤(ah:Int):=mD;have AE:ah<(U.length:Int):=mD;obtain⟨aeK,O1,ak7⟩:=Kd.lB bB.1 ah z7 AE;cases O1
      replace z7:=eq_true z7;replace AE:=eq_true AE;go_wp2;go_ret;exact⟨mE,by repeat (first|exact ay.refl _|apply ay.step)⟩
    ·rw[if_neg c4]at H;exact absurd H (by simp)
   ·rw[if_neg c3]at H;have cS:=decide_eq_false c3;clear c3;obtain rfl:=Option.some.inj H;go_wp2;go_ret;exact⟨mE,by repeat (first|exact ay.refl _|apply ay.step)⟩
def kE.U:Nat→List (al)→Int→Int→Option (Int)
 |0,_,_,_=>none
 |k+1,x0,x1,x5=>if x5<(x0.length:Int) then (if 0≤x5 then (if ((ai x0 x5).f0)=x1 then ((jB.f k ((ai x0 x5).f1) (wrap64 (x1+1))).bind fun ny=>(if ny<0 then (some (-1)) else (if ((ai x0 x5).f2)=ny then (kE.U k x0 (wrap64 (ny+1)) (wrap64 (x5+1))) else (some (-1))))) else (some (-1))) else (none)) else (some x1)
def kE.f (k:Nat) (U:List (al)) (a1:Int):Option (Int):=kE.U k U a1 0
set_option maxHeartbeats 8000000 in
set_option maxRecDepth 100000 in
theorem kE.calls (k:Nat) (A0:Option Addr) (c0:Nat) (U:List (al)) (a1:Int) (r:Int) (w:World) (bJ:Kd.C bc w A0 U.length U) (bz:U.length≤c0) (h:kE.f k U a1=some r) :
 Calls Tryz.prog 53 #[.slice A0 U.length c0,.int .i64 a1] w fun e w'=>e = .returned (.int .i64 r)∧ay w w':=by
 have bB:=J bJ;have eb:=J bz;clear bJ bz;have H:(kE.U k U a1 0)=some r:=h;clear h;have H':=J H;clear H;go_enter Tryz.func53,Tryz.ntmps53;go_wp2;go_loopg [1,5] k (fun kq v1 v5 w'=>∃(bp:Int) (ah:Int),v1 = .int .i64 bp∧v5 = .int .i64 ah∧Aside0 (kE.U kq U bp ah=some r)∧Aside0 (kq≤k)∧ay w w')
 case atStart=>exact⟨(a1),(0),mE,mE,H',⟨Nat.le_refl _⟩,by repeat (first|exact ay.refl _|apply ay.step)⟩
 case round=>
  clear H'
  obtain⟨bp,ah,rfl,rfl,HA,aQ,⟨m1,rfl⟩⟩:=hrel;cases gk with
  |zero=>exact absurd HA.1 (by simp[kE.U])
  |succ k1=>
   have H:=HA.1;clear HA;simp only[kE.U]at H;by_cases c3:ah<(U.length:Int)
   ·rw[if_pos c3]at H;have cS:=decide_eq_true c3;clear c3;by_cases c4:0≤ah
    ·rw[if_pos c4]at H;have cV:=decide_eq_true c4;clear c4;by_cases c5:((ai U ah).f0)=bp
     ·rw[if_pos c5]at H;have eS:(((ai U ah).f0) == bp)=true:=beq_iff_eq.mpr c5;have rU:(((ai U ah).f0) != bp)=false:=bne_eq_false_iff_eq.mpr c5;clear c5;replace H:=Option.bind_eq_some_iff.mp H;obtain⟨ny,rk,H⟩:=H;replace H:(if ny<0 then (some (-1)) else (if ((ai U ah).f2)=ny then (kE.U k1 U (wrap64 (ny+1)) (wrap64 (ah+1))) else (some (-1))))=some r:=H;have A6:=J rk;clear rk;by_cases c7:ny<0
      ·rw[if_pos c7]at H;have jN:=decide_eq_true c7;clear c7;obtain rfl:=Option.some.inj H;have oG:0≤(ah:Int):=mD;have oH:ah<(U.length:Int):=mD;obtain⟨vL,Bb,BJ,yL,QU,wW,QV,sl,sk⟩:=hY bB.1 ah oG oH;cases yL
       have M5:=J sk;have MN:=J sl;clear sk sl;replace oG:=eq_true oG;replace oH:=eq_true oH;have sB:0≤(ah:Int):=mD;have sG:ah<(U.length:Int):=mD;obtain⟨Ea,Tg,Vv,EC,YC,Gy,YD,wO,wK⟩:=hY bB.1 ah sB sG;obtain rfl:vL=Ea:=(by injection EC);have DO:=J wK;have Dx:=J wO;clear wK wO;replace sB:=eq_true sB;replace sG:=eq_true sG;have ea_:=Option.some.inj (wW.symm.trans Gy);injection ea_ with ea_ en_ ec_
       subst ea_;subst ec_;clear en_;go_wp2_with (first|((with_reducible refine aJ (f:=55) rfl ?_);refine bA 27 Tryz.func55 #[.slice Bb ((ai U ah).f1).length BJ,.int .i64 (wrap64 (bp+1))] ?_;(with_reducible refine(jB.calls k1 _ _ ((ai U ah).f1) (wrap64 (bp+1)) ny _ ?az ?aA A6.1).mono ?_);(case az=>exact mC DO.1);(case aA=>exact Dx.1);rintro e w' ⟨rfl,⟨nd,rfl⟩⟩;refine⟨_,rfl,?_⟩));go_ret;exact⟨mE,by repeat (first|exact ay.refl _|apply ay.step)⟩
      ·rw[if_neg c7]at H;have jN:=decide_eq_false c7;clear c7;by_cases c8:((ai U ah).f2)=ny
       ·rw[if_pos c8]at H;have nL:(((ai U ah).f2) == ny)=true:=beq_iff_eq.mpr c8;have yI:(((ai U ah).f2) != ny)=false:=bne_eq_false_iff_eq.mpr c8;clear c8;have H':=J H;clear H;have oG:0≤(ah:Int):=mD;have oH:ah<(U.length:Int):=mD;obtain⟨vL,Bb,BJ,yL,QU,wW,QV,sl,sk⟩:=hY bB.1 ah oG oH;cases yL
        have M5:=J sk;have MN:=J sl;clear sk sl;replace oG:=eq_true oG;replace oH:=eq_true oH;have sB:0≤(ah:Int):=mD;have sG:ah<(U.length:Int):=mD;obtain⟨Ea,Tg,Vv,EC,YC,Gy,YD,wO,wK⟩:=hY bB.1 ah sB sG;obtain rfl:vL=Ea:=(by injection EC);have DO:=J wK;have Dx:=J wO;clear wK wO;replace sB:=eq_true sB;replace sG:=eq_true sG;have ea_:=Option.some.inj (wW.symm.trans Gy);injection ea_ with ea_ en_ ec_
        subst ea_;subst ec_;clear en_;go_wp2_with (first|((with_reducible refine aJ (f:=55) rfl ?_);refine bA 27 Tryz.func55 #[.slice Bb ((ai U ah).f1).length BJ,.int .i64 (wrap64 (bp+1))] ?_;(with_reducible refine(jB.calls k1 _ _ ((ai U ah).f1) (wrap64 (bp+1)) ny _ ?az ?aA A6.1).mono ?_);(case az=>exact mC DO.1);(case aA=>exact Dx.1);rintro e w' ⟨rfl,⟨nd,rfl⟩⟩;refine⟨_,rfl,?_⟩;have z8:0≤(ah:Int):=mD;have AF:ah<(U.length:Int):=mD;obtain⟨NW,abh,afg,O2,ak8,QW,ak9,FE,Fu⟩:=hY bB.1 ah z8 AF;obtain rfl:vL=NW:=(by injection O2);have ack:=J Fu;have abQ:=J FE;clear Fu FE;replace z8:=eq_true z8;replace AF:=eq_true AF;have ea_:=Option.some.inj (wW.symm.trans QW);injection ea_ with ea_ en_ ec_;subst ea_;subst ec_;clear en_));go_roundg k1
        case measure=>have:=aQ.1;omega
        case rel=>exact⟨(wrap64 (ny+1)),(wrap64 (ah+1)),mE,mE,H',⟨by have:=aQ.1;omega⟩,by repeat (first|exact ay.refl _|apply ay.step)⟩
       ·rw[if_neg c8]at H;have nL:(((ai U ah).f2) == ny)=false:=beq_eq_false_iff_ne.mpr c8;have yI:(((ai U ah).f2) != ny)=true:=bne_iff_ne.mpr c8;obtain rfl:=Option.some.inj H;have oG:0≤(ah:Int):=mD;have oH:ah<(U.length:Int):=mD;obtain⟨vL,Bb,BJ,yL,QU,wW,QV,sl,sk⟩:=hY bB.1 ah oG oH;cases yL
        have M5:=J sk;have MN:=J sl;clear sk sl;replace oG:=eq_true oG;replace oH:=eq_true oH;have sB:0≤(ah:Int):=mD;have sG:ah<(U.length:Int):=mD;obtain⟨Ea,Tg,Vv,EC,YC,Gy,YD,wO,wK⟩:=hY bB.1 ah sB sG;obtain rfl:vL=Ea:=(by injection EC);have DO:=J wK;have Dx:=J wO;clear wK wO;replace sB:=eq_true sB;replace sG:=eq_true sG;have ea_:=Option.some.inj (wW.symm.trans Gy);injection ea_ with ea_ en_ ec_
        subst ea_;subst ec_;clear en_;go_wp2_with (first|((with_reducible refine aJ (f:=55) rfl ?_);refine bA 27 Tryz.func55 #[.slice Bb ((ai U ah).f1).length BJ,.int .i64 (wrap64 (bp+1))] ?_;(with_reducible refine(jB.calls k1 _ _ ((ai U ah).f1) (wrap64 (bp+1)) ny _ ?az ?aA A6.1).mono ?_);(case az=>exact mC DO.1);(case aA=>exact Dx.1);rintro e w' ⟨rfl,⟨nd,rfl⟩⟩;refine⟨_,rfl,?_⟩;have z8:0≤(ah:Int):=mD;have AF:ah<(U.length:Int):=mD;obtain⟨NW,abh,afg,O2,ak8,QW,ak9,FE,Fu⟩:=hY bB.1 ah z8 AF;obtain rfl:vL=NW:=(by injection O2);have ack:=J Fu;have abQ:=J FE;clear Fu FE;replace z8:=eq_true z8;replace AF:=eq_true AF;have ea_:=Option.some.inj (wW.symm.trans QW);injection ea_ with ea_ en_ ec_;subst ea_;subst ec_;clear en_));go_ret;exact⟨mE,by repeat (first|exact ay.refl _|apply ay.step)⟩
     ·rw[if_neg c5]at H;have eS:(((ai U ah).f0) == bp)=false:=beq_eq_false_iff_ne.mpr c5;have rU:(((ai U ah).f0) != bp)=true:=bne_iff_ne.mpr c5;obtain rfl:=Option.some.inj H;have oG:0≤(ah:Int):=mD;have oH:ah<(U.length:Int):=mD;obtain⟨vL,Bb,BJ,yL,QU,wW,QV,sl,sk⟩:=hY bB.1 ah oG oH;cases yL
      have M5:=J sk;have MN:=J sl;clear sk sl;replace oG:=eq_true oG;replace oH:=eq_true oH;go_wp2;go_ret;exact⟨mE,by repeat (first|exact ay.refl _|apply ay.step)⟩
    ·rw[if_neg c4]at H;exact absurd H (by simp)
   ·rw[if_neg c3]at H;have cS:=decide_eq_false c3;clear c3;obtain rfl:=Option.some.inj H;go_wp2;go_ret;exact⟨mE,by repeat (first|exact ay.refl _|apply ay.step)⟩
def fq.U:Nat→List (aa)→Int→Int→Option (Int)
 |0,_,_,_=>none
 |k+1,x0,x1,x5=>if x5<(x0.length:Int) then (if 0≤x5 then ((jW.f k x1).bind fun sN=>(if ((aG x0 x5).f0).toList=sN.toList then (if ((aG x0 x5).f1)=(wrap64 (x1+1)) then (fq.U k x0 (wrap64 ((wrap64 (x1+1))+1)) (wrap64 (x5+1))) else (some (-1))) else (some (-1)))) else (none)) else (some x1)
def fq.f (k:Nat) (U:List (aa)) (a1:Int):Option (Int):=fq.U k U a1 0
def fq.T4:Bool × List (List Nat × List Nat):=(true,[([],[]),([],[]),([0,1],[0,1]),([2],[2]),([3],[3]),([],[]),([5],[5]),([4,6],[4,6])])
def fq.B4:List Nat:=[0,0,3,7,15,0,32,127]
theorem fq.AR:ez .any (opsOf Tryz.f54 4)=fq.T4:=by kernel_rfl
theorem fq.yB:jr fq.T4.2 fq.B4=true:=by kernel_rfl
set_option maxHeartbeats 8000000 in
set_option maxRecDepth 100000 in
theorem fq.calls (k:Nat) (A0:Option Addr) (c0:Nat) (U:List (aa)) (a1:Int) (r:Int) (w:World) (bJ:Kd.C an w A0 U.length U) (bz:U.length≤c0) (h:fq.f k U a1=some r) :
 Calls Tryz.prog 54 #[.slice A0 U.length c0,.int .i64 a1] w fun e w'=>e = .returned (.int .i64 r)∧Below w.heap.size w w':=by
 have bB:=J bJ;have eb:=J bz;clear bJ bz;have HB:=J (Below.refl w.heap.size w);have H:(fq.U k U a1 0)=some r:=h;clear h;have H':=J H;clear H;go_enter Tryz.func54,Tryz.ntmps54;go_wp2;go_loopg [1,5] k (fun kq v1 v5 w'=>∃(bp:Int) (ah:Int),v1 = .int .i64 bp∧v5 = .int .i64 ah∧Aside0 (fq.U kq U bp ah=some r)∧Aside0 (kq≤k)∧Aside0 (Below w.heap.size w w'))
 case atStart=>exact⟨(a1),(0),mE,mE,H',⟨Nat.le_refl _⟩,⟨(mH HB.1)⟩⟩
 case round=>
  clear H'
  obtain⟨bp,ah,rfl,rfl,HA,aQ,HB⟩:=hrel;cases gk with
  |zero=>exact absurd HA.1 (by simp[fq.U])
  |succ k1=>
   have H:=HA.1;clear HA;simp only[fq.U]at H;by_cases c3:ah<(U.length:Int)
   ·rw[if_pos c3]at H;have cS:=decide_eq_true c3;clear c3;by_cases c4:0≤ah
    ·rw[if_pos c4]at H;have cV:=decide_eq_true c4;clear c4;replace H:=Option.bind_eq_some_iff.mp H;obtain⟨sN,iQ,H⟩:=H;replace H:(if ((aG U ah).f0).toList=sN.toList then (if ((aG U ah).f1)=(wrap64 (bp+1)) then (fq.U k1 U (wrap64 ((wrap64 (bp+1))+1)) (wrap64 (ah+1))) else (some (-1))) else (some (-1)))=some r:=H;have A5:=J iQ;clear iQ;by_cases c6:((aG U ah).f0).toList=sN.toList
     ·rw[if_pos c6]at H;have eh:(((aG U ah).f0).toList == sN.toList)=true:=beq_iff_eq.mpr c6;have o8:(((aG U ah).f0).toList != sN.toList)=false:=bne_eq_false_iff_eq.mpr c6;clear c6;by_cases c7:((aG U ah).f1)=(wrap64 (bp+1))
      ·rw[if_pos c7]at H;have jN:(((aG U ah).f1) == (wrap64 (bp+1)))=true:=beq_iff_eq.mpr c7;have BL:(((aG U ah).f1) != (wrap64 (bp+1)))=false:=bne_eq_false_iff_eq.mpr c7;clear c7;have H':=J H;clear H
       try go_wp2
       replace HB:=J (fy HB.1);have sE:0≤(ah:Int):=mD;have sH:ah<(U.length:Int):=mD;obtain⟨pV,ED,pe,pf⟩:=gi bB.1 ah sE sH;have wV:=pf;have wU:=pe;cases ED
       replace pe:=mX HB.1 pe;replace pf:=mX HB.1 pf;replace sE:=eq_true sE;replace sH:=eq_true sH;refine fk (n:=8) (S:=fun w'=>w'.cell? (pV.add ((ah).toNat*2))=some (.string ((aG U ah).f0))∧w'.cell? ⟨(pV.add ((ah).toNat*2)).block,(pV.add ((ah).toNat*2)).off+1,none⟩=some (.int .i64 ((aG U ah).f1))) (ds:=[]) (mb 0 8) (by kernel_rfl) rfl rfl ⟨(mX HB.1 wU :),(mX HB.1 wV :)⟩ (fun hHeld=>?_);refine jc fq.AR fq.yB (fun HT_ HW_=>?_);generalize wr.drew=w8 at HB pe pf hHeld ⊢
       refine aW 0 12 HT_.1 (mb 1 7) ?_;refine aW 1 13 HT_.1 (mb 2 6) ?_;refine aW 2 14 HT_.1 (mb 3 5) ?_;refine aW 3 15 HT_.1 (mb 4 4) ?_;refine aW 5 17 HT_.1 (mr [4,1,1,2]) ?_;refine cZ 4 16 HT_.1 HW_.1 (mb 6 2) hHeld ?_;refine et 6 (some 18) HT_.1 (mb 7 1) (fun K hK=>?_);refine iU Tryz.func91 (by kernel_rfl) rfl #[.int .i64 bp] (by rfl) rfl rfl mA ?_
       with_reducible refine(jW.calls k1 bp sN _ A5.1).mono ?_
       rintro e w9 ⟨rfl,hb⟩;refine⟨_,rfl,?_⟩;replace HB:=J (ar (mH HB.1) hb)
       (try clear hb)
       (try clear eO)
       (try clear hk)
       (try clear hi)
       refine hK.out _ _ ⟨(mX HB.1 wU :),(mX HB.1 wV :)⟩ (fun hHeld=>?_);clear hK K;refine cR 18 ?_;refine aW 7 19 HT_.1 (mb 8 0) ?_;refine fA (iS HT_.1 (by kernel_rfl)) ?_;have Aa:0≤(ah:Int):=mD;have AG:ah<(U.length:Int):=mD;obtain⟨NX,O3,Gz,GA⟩:=gi bB.1 ah Aa AG;obtain rfl:pV=NX:=(by injection O3);replace Gz:=mX HB.1 Gz;replace GA:=mX HB.1 GA;replace Aa:=eq_true Aa;replace AG:=eq_true AG
       try go_wp2
       go_roundg k1
       case measure=>have:=aQ.1;omega
       case rel=>exact⟨(wrap64 ((wrap64 (bp+1))+1)),(wrap64 (ah+1)),mE,mE,H',⟨by have:=aQ.1;omega⟩,⟨(mH HB.1)⟩⟩
      ·rw[if_neg c7]at H;have jN:(((aG U ah).f1) == (wrap64 (bp+1)))=false:=beq_eq_false_iff_ne.mpr c7;have BL:(((aG U ah).f1) != (wrap64 (bp+1)))=true:=bne_iff_ne.mpr c7;obtain rfl:=Option.some.inj H
       try go_wp2
       replace HB:=J (fy HB.1);have sE:0≤(ah:Int):=mD;have sH:ah<(U.length:Int):=mD;obtain⟨pV,ED,pe,pf⟩:=gi bB.1 ah sE sH;have wV:=pf;have wU:=pe;cases ED
       replace pe:=mX HB.1 pe;replace pf:=mX HB.1 pf;replace sE:=eq_true sE;replace sH:=eq_true sH;refine fk (n:=8) (S:=fun w'=>w'.cell? (pV.add ((ah).toNat*2))=some (.string ((aG U ah).f0))∧w'.cell? ⟨(pV.add ((ah).toNat*2)).block,(pV.add ((ah).toNat*2)).off+1,none⟩=some (.int .i64 ((aG U ah).f1))) (ds:=[]) (mb 0 8) (by kernel_rfl) rfl rfl ⟨(mX HB.1 wU :),(mX HB.1 wV :)⟩ (fun hHeld=>?_);refine jc fq.AR fq.yB (fun HT_ HW_=>?_);generalize wr.drew=eP at HB pe pf hHeld ⊢
       refine aW 0 12 HT_.1 (mb 1 7) ?_;refine aW 1 13 HT_.1 (mb 2 6) ?_;refine aW 2 14 HT_.1 (mb 3 5) ?_;refine aW 3 15 HT_.1 (mb 4 4) ?_;refine aW 5 17 HT_.1 (mr [4,1,1,2]) ?_;refine cZ 4 16 HT_.1 HW_.1 (mb 6 2) hHeld ?_;refine et 6 (some 18) HT_.1 (mb 7 1) (fun K hK=>?_);refine iU Tryz.func91 (by kernel_rfl) rfl #[.int .i64 bp] (by rfl) rfl rfl mA ?_
       with_reducible refine(jW.calls k1 bp sN _ A5.1).mono ?_
       rintro e cC ⟨rfl,hb⟩;refine⟨_,rfl,?_⟩;replace HB:=J (ar (mH HB.1) hb)
       (try clear hb)
       (try clear eO)
       (try clear hk)
       (try clear hi)
       refine hK.out _ _ ⟨(mX HB.1 wU :),(mX HB.1 wV :)⟩ (fun hHeld=>?_);clear hK K;refine cR 18 ?_;refine aW 7 19 HT_.1 (mb 8 0) ?_;refine fA (iS HT_.1 (by kernel_rfl)) ?_;have Aa:0≤(ah:Int):=mD;have AG:ah<(U.length:Int):=mD;obtain⟨NX,O3,Gz,GA⟩:=gi bB.1 ah Aa AG;obtain rfl:pV=NX:=(by injection O3);replace Gz:=mX HB.1 Gz;replace GA:=mX HB.1 GA;replace Aa:=eq_true Aa;replace AG:=eq_true AG
       try go_wp2
       go_ret;exact⟨bN,(mH HB.1)⟩
     ·rw[if_neg c6]at H;have eh:(((aG U ah).f0).toList == sN.toList)=false:=beq_eq_false_iff_ne.mpr c6;have o8:(((aG U ah).f0).toList != sN.toList)=true:=bne_iff_ne.mpr c6;obtain rfl:=Option.some.inj H
      try go_wp2
      replace HB:=J (fy HB.1);have sE:0≤(ah:Int):=mD;have sH:ah<(U.length:Int):=mD;obtain⟨pV,ED,pe,pf⟩:=gi bB.1 ah sE sH;have wV:=pf;have wU:=pe;cases ED
      replace pe:=mX HB.1 pe;replace pf:=mX HB.1 pf;replace sE:=eq_true sE;replace sH:=eq_true sH;refine fk (n:=8) (S:=fun w'=>w'.cell? (pV.add ((ah).toNat*2))=some (.string ((aG U ah).f0))∧w'.cell? ⟨(pV.add ((ah).toNat*2)).block,(pV.add ((ah).toNat*2)).off+1,none⟩=some (.int .i64 ((aG U ah).f1))) (ds:=[]) (mb 0 8) (by kernel_rfl) rfl rfl ⟨(mX HB.1 wU :),(mX HB.1 wV :)⟩ (fun hHeld=>?_);refine jc fq.AR fq.yB (fun HT_ HW_=>?_);generalize wr.drew=dK at HB pe pf hHeld ⊢
      refine aW 0 12 HT_.1 (mb 1 7) ?_;refine aW 1 13 HT_.1 (mb 2 6) ?_;refine aW 2 14 HT_.1 (mb 3 5) ?_;refine aW 3 15 HT_.1 (mb 4 4) ?_;refine aW 5 17 HT_.1 (mr [4,1,1,2]) ?_;refine cZ 4 16 HT_.1 HW_.1 (mb 6 2) hHeld ?_;refine et 6 (some 18) HT_.1 (mb 7 1) (fun K hK=>?_);refine iU Tryz.func91 (by kernel_rfl) rfl #[.int .i64 bp] (by rfl) rfl rfl mA ?_
      with_reducible refine(jW.calls k1 bp sN _ A5.1).mono ?_
      rintro e iy ⟨rfl,hb⟩;refine⟨_,rfl,?_⟩;replace HB:=J (ar (mH HB.1) hb)
      (try clear hb)
      (try clear eO)
      (try clear hk)
      (try clear hi)
      refine hK.out _ _ ⟨(mX HB.1 wU :),(mX HB.1 wV :)⟩ (fun hHeld=>?_);clear hK K;refine cR 18 ?_;refine aW 7 19 HT_.1 (mb 8 0) ?_;refine fA (iS HT_.1 (by kernel_rfl)) ?_
      try go_wp2
      go_ret;exact⟨bN,(mH HB.1)⟩
    ·rw[if_neg c4]at H;exact absurd H (by simp)
   ·rw[if_neg c3]at H;have cS:=decide_eq_false c3;clear c3;obtain rfl:=Option.some.inj H;go_wp2;go_ret;exact⟨bN,(mH HB.1)⟩
def Cx.f (k:Nat) (ab:List (al)) (af:List (aa)) (aj:List (aa)) (ak:Int) (a1:Int):Option (Int):=(kE.f k ab a1).bind fun lL=>(if lL<0 then (some (-1)) else ((fq.f k af lL).bind fun lM=>(if lM<0 then (some (-1)) else ((fq.f k aj lM).bind fun nz=>(if nz<0 then (some (-1)) else (some nz))))))
set_option maxHeartbeats 8000000 in
set_option maxRecDepth 100000 in
theorem Cx.calls (k:Nat) (aE:Option Addr) (av:Nat) (ab:List (al)) (aq:Option Addr) (ao:Nat) (af:List (aa)) (aC:Option Addr) (aD:Nat) (aj:List (aa)) (ak:Int) (a1:Int) (r:Int) (w:World) (cI:Kd.C bc w aE ab.length ab) (cG:ab.length≤av) (cr:Kd.C an w aq af.length af) (cq:af.length≤ao) (cJ:Kd.C an w aC aj.length aj) (cH:aj.length≤aD) (h:Cx.f k ab af aj ak a1=some r) :
 Calls Tryz.prog 20 #[.agg #[.slice aE ab.length av,.slice aq af.length ao,.slice aC aj.length aD,.int .i64 ak],.int .i64 a1] w fun e w'=>e = .returned (.int .i64 r)∧Below w.heap.size w w':=by
 have kZ:=Tryz.underlying27;have ca:=J cI;have cA:=J cG;clear cI cG;have bW:=J cr;have cd:=J cq;clear cr cq;have cD:=J cJ;have cL:=J cH;clear cJ cH;have HB:=J (Below.refl w.heap.size w);have H:((kE.f k ab a1).bind fun lL=>(if lL<0 then (some (-1)) else ((fq.f k af lL).bind fun lM=>(if lM<0 then (some (-1)) else ((fq.f k aj lM).bind fun nz=>(if nz<0 then (some (-1)) else (some nz)))))))=some r:=h;clear h;replace H:=Option.bind_eq_some_iff.mp H;obtain⟨lL,dY,H⟩:=H;replace H:(if lL<0 then (some (-1)) else ((fq.f k af lL).bind fun lM=>(if lM<0 then (some (-1)) else ((fq.f k aj lM).bind fun nz=>(if nz<0 then (some (-1)) else (some nz))))))=some r:=H;have A3:=J dY;clear dY;by_cases c4:lL<0
 ·rw[if_pos c4]at H;have cV:=decide_eq_true c4;clear c4;obtain rfl:=Option.some.inj H;go_enter Tryz.func20,Tryz.ntmps20;go_wp2_with (first|((with_reducible refine aH (N:=2) rfl ?_);refine aT 2 #[.slice aE ab.length av,.slice aq af.length ao,.slice aC aj.length aD,.int .i64 ak] 27 ?_;intro Pz hg w5 hbox hb;have ln:=J (hbox);have MG:=mG hg (mH HB.1);have oo:=mG hg (mH HB.1);replace HB:=J (ar (mH HB.1) hb);clear hb hbox hg;obtain⟨P4,P5,P6,W5,Qw,Qx,Qy,Xv⟩:=bk ln.1)|((with_reducible refine aJ (f:=53) rfl ?_);refine bA 8 Tryz.func53 #[.slice aE ab.length av,.int .i64 a1] ?_;(with_reducible refine(kE.calls k _ _ ab a1 lL _ ?az ?aA A3.1).mono ?_);(case az=>exact mC (Kd.aw ca.1 HB.1));(case aA=>exact cA.1);rintro e w' ⟨rfl,⟨nd,rfl⟩⟩;refine⟨_,rfl,?_⟩));go_ret;exact⟨bN,(aI HB.1 oo.1)⟩
 ·rw[if_neg c4]at H;have cV:=decide_eq_false c4;clear c4;replace H:=Option.bind_eq_some_iff.mp H;obtain⟨lM,kM,H⟩:=H;replace H:(if lM<0 then (some (-1)) else ((fq.f k aj lM).bind fun nz=>(if nz<0 then (some (-1)) else (some nz))))=some r:=H;have A7:=J kM;clear kM;by_cases c8:lM<0
  ·rw[if_pos c8]at H;have nL:=decide_eq_true c8;clear c8;obtain rfl:=Option.some.inj H;go_enter Tryz.func20,Tryz.ntmps20;go_wp2_with (first|((with_reducible refine aH (N:=2) rfl ?_);refine aT 2 #[.slice aE ab.length av,.slice aq af.length ao,.slice aC aj.length aD,.int .i64 ak] 27 ?_;intro Pz hg w9 hbox hb;have ln:=J (hbox);have MG:=mG hg (mH HB.1);have oo:=mG hg (mH HB.1);replace HB:=J (ar (mH HB.1) hb);clear hb hbox hg;obtain⟨se,sf,wh,BZ,sh,si,wv,Cd⟩:=bk ln.1)|((with_reducible refine aJ (f:=53) rfl ?_);refine bA 8 Tryz.func53 #[.slice aE ab.length av,.int .i64 a1] ?_;(with_reducible refine(kE.calls k _ _ ab a1 lL _ ?az ?aA A3.1).mono ?_);(case az=>exact mC (Kd.aw ca.1 HB.1));(case aA=>exact cA.1);rintro e w' ⟨rfl,⟨nd,rfl⟩⟩;refine⟨_,rfl,?_⟩)|((with_reducible refine aJ (f:=54) rfl ?_);refine bA 14 Tryz.func54 #[.slice aq af.length ao,.int .i64 lL] ?_;(with_reducible refine(fq.calls k _ _ af lL lM _ ?az ?aA A7.1).mono ?_);(case az=>exact mC (Kd.aw bW.1 (aI HB.1 oo.1)));(case aA=>exact cd.1);rintro e cC ⟨rfl,hb⟩;refine⟨_,rfl,?_⟩;replace ln:=mB ln hb;replace HB:=J (ar (aI HB.1 oo.1) hb);(try clear hb)));go_ret;exact⟨bN,(aI HB.1 oo.1)⟩
  ·rw[if_neg c8]at H;have nL:=decide_eq_false c8;clear c8;replace H:=Option.bind_eq_some_iff.mp H;obtain⟨nz,Df,H⟩:=H;replace H:(if nz<0 then (some (-1)) else (some nz))=some r:=H;have De:=J Df;clear Df;by_cases cY:nz<0
   ·rw[if_pos cY]at H;have o5:=decide_eq_true cY;clear cY;obtain rfl:=Option.some.inj H;go_enter Tryz.func20,Tryz.ntmps20;go_wp2_with (first|((with_reducible refine aH (N:=2) rfl ?_);refine aT 2 #[.slice aE ab.length av,.slice aq af.length ao,.slice aC aj.length aD,.int .i64 ak] 27 ?_;intro Pz hg Ii hbox hb;have ln:=J (hbox);have MG:=mG hg (mH HB.1);have oo:=mG hg (mH HB.1);replace HB:=J (ar (mH HB.1) hb);clear hb hbox hg;obtain⟨yX,E2,E3,PO,zd,Fa,Fb,Qg⟩:=bk ln.1)|((with_reducible refine aJ (f:=53) rfl ?_);refine bA 8 Tryz.func53 #[.slice aE ab.length av,.int .i64 a1] ?_;(with_reducible refine(kE.calls k _ _ ab a1 lL _ ?az ?aA A3.1).mono ?_);(case az=>exact mC (Kd.aw ca.1 HB.1));(case aA=>exact cA.1);rintro e w' ⟨rfl,⟨nd,rfl⟩⟩;refine⟨_,rfl,?_⟩)|((with_reducible refine aJ (f:=54) rfl ?_);refine bA 14 Tryz.func54 #[.slice aq af.length ao,.int .i64 lL] ?_;(with_reducible refine(fq.calls k _ _ af lL lM _ ?az ?aA A7.1).mono ?_);(case az=>exact mC (Kd.aw bW.1 (aI HB.1 oo.1)));(case aA=>exact cd.1);rintro e j7 ⟨rfl,hb⟩;refine⟨_,rfl,?_⟩;replace ln:=mB ln hb;replace HB:=J (ar (aI HB.1 oo.1) hb);(try clear hb);obtain⟨E4,JY,JZ,J0,Fc,Kg,Kh,Ki⟩:=bk ln.1)|((with_reducible refine aJ (f:=54) rfl ?_);refine bA 20 Tryz.func54 #[.slice aC aj.length aD,.int .i64 lM] ?_;(with_reducible refine(fq.calls k _ _ aj lM nz _ ?az ?aA De.1).mono ?_);(case az=>exact mC (Kd.aw cD.1 HB.1));(case aA=>exact cL.1);rintro e Ij ⟨rfl,hb⟩;refine⟨_,rfl,?_⟩;replace ln:=mB ln hb;replace HB:=J (ar (aI HB.1 oo.1) hb);(try clear hb)));go_ret;exact⟨bN,(aI HB.1 oo.1)⟩
   ·rw[if_neg cY]at H;have o5:=decide_eq_false cY;clear cY;obtain rfl:=Option.some.inj H;go_enter Tryz.func20,Tryz.ntmps20;go_wp2_with (first|((with_reducible refine aH (N:=2) rfl ?_);refine aT 2 #[.slice aE ab.length av,.slice aq af.length ao,.slice aC aj.length aD,.int .i64 ak] 27 ?_;intro Pz hg SD hbox hb;have ln:=J (hbox);have MG:=mG hg (mH HB.1);have oo:=mG hg (mH HB.1);replace HB:=J (ar (mH HB.1) hb);clear hb hbox hg;obtain⟨J1,J2,J3,PS,Kj,Kk,Kl,Qj⟩:=bk ln.1)|((with_reducible refine aJ (f:=53) rfl ?_);refine bA 8 Tryz.func53 #[.slice aE ab.length av,.int .i64 a1] ?_;(with_reducible refine(kE.calls k _ _ ab a1 lL _ ?az ?aA A3.1).mono ?_);(case az=>exact mC (Kd.aw ca.1 HB.1));(case aA=>exact cA.1);rintro e w' ⟨rfl,⟨nd,rfl⟩⟩;refine⟨_,rfl,?_⟩)|((with_reducible refine aJ (f:=54) rfl ?_);refine bA 14 Tryz.func54 #[.slice aq af.length ao,.int .i64 lL] ?_;(with_reducible refine(fq.calls k _ _ af lL lM _ ?az ?aA A7.1).mono ?_);(case az=>exact mC (Kd.aw bW.1 (aI HB.1 oo.1)));(case aA=>exact cd.1);rintro e Ik ⟨rfl,hb⟩;refine⟨_,rfl,?_⟩;replace ln:=mB ln hb;replace HB:=J (ar (aI HB.1 oo.1) hb);(try clear hb);obtain⟨yZ,y6,y7,y8,zf,zg,zh,zi⟩:=bk ln.1)|((with_reducible refine aJ (f:=54) rfl ?_);refine bA 20 Tryz.func54 #[.slice aC aj.length aD,.int .i64 lM] ?_;(with_reducible refine(fq.calls k _ _ aj lM nz _ ?az ?aA De.1).mono ?_);(case az=>exact mC (Kd.aw cD.1 HB.1));(case aA=>exact cL.1);rintro e LH ⟨rfl,hb⟩;refine⟨_,rfl,?_⟩;replace ln:=mB ln hb;replace HB:=J (ar (aI HB.1 oo.1) hb);(try clear hb)));go_ret;exact⟨bN,(aI HB.1 oo.1)⟩
def mm.U:Nat→List (List Int)→Int→Int→Option (Int)
 |0,_,_,_=>none
 |k+1,x0,x1,x5=>if x5<(x0.length:Int) then (if 0≤x5 then ((jB.f k (ja x0 x5) x1).bind fun uZ=>(if uZ<0 then (some (-1)) else (mm.U k x0 uZ (wrap64 (x5+1))))) else (none)) else (some x1)
def mm.f (k:Nat) (U:List (List Int)) (a1:Int):Option (Int):=mm.U k U a1 0
set_option maxHeartbeats 8000000 in
set_option maxRecDepth 100000 in
theorem mm.calls (k:Nat) (A0:Option Addr) (c0:Nat) (U:List (List Int)) (a1:Int) (r:Int) (w:World) (bJ:Kd.C (Kd.slice 5 (Kd.int .u8)) w A0 U.length U) (bz:U.length≤c0) (h:mm.f k U a1=some r) :
 Calls Tryz.prog 21 #[.slice A0 U.length c0,.int .i64 a1] w fun e w'=>e = .returned (.int .i64 r)∧ay w w':=by
 have bB:=J bJ;have eb:=J bz;clear bJ bz;have H:(mm.U k U a1 0)=some r:=h;clear h;have H':=J H;clear H;go_enter Tryz.func21,Tryz.ntmps21;go_wp2;go_loopg [1,5] k (fun kq v1 v5 w'=>∃(bp:Int) (ah:Int),v1 = .int .i64 bp∧v5 = .int .i64 ah∧Aside0 (mm.U kq U bp ah=some r)∧Aside0 (kq≤k)∧ay w w')
 case atStart=>exact⟨(a1),(0),mE,mE,H',⟨Nat.le_refl _⟩,by repeat (first|exact ay.refl _|apply ay.step)⟩
 case round=>
  clear H'
  obtain⟨bp,ah,rfl,rfl,HA,aQ,⟨m1,rfl⟩⟩:=hrel;cases gk with
  |zero=>exact absurd HA.1 (by simp[mm.U])
  |succ k1=>
   have H:=HA.1;clear HA;simp only[mm.U]at H;by_cases c3:ah<(U.length:Int)
   ·rw[if_pos c3]at H;have cS:=decide_eq_true c3;clear c3;by_cases c4:0≤ah
    ·rw[if_pos c4]at H;have cV:=decide_eq_true c4;clear c4;replace H:=Option.bind_eq_some_iff.mp H;obtain⟨uZ,iQ,H⟩:=H;replace H:(if uZ<0 then (some (-1)) else (mm.U k1 U uZ (wrap64 (ah+1))))=some r:=H;have A5:=J iQ;clear iQ;by_cases c6:uZ<0
     ·rw[if_pos c6]at H;have eh:=decide_eq_true c6;clear c6;obtain rfl:=Option.some.inj H;have Ac:0≤(ah:Int):=mD;have AH:ah<(U.length:Int):=mD;obtain⟨aeL,Ma,Ot,O4,ala,FF,Fv⟩:=BG bB.1 ah Ac AH;cases O4
      have M6:=J Fv;have MO:=J FF;clear Fv FF;replace Ac:=eq_true Ac;replace AH:=eq_true AH;go_wp2_with (first|((with_reducible refine aJ (f:=55) rfl ?_);refine bA 17 Tryz.func55 #[.slice Ma (ja U ah).length Ot,.int .i64 bp] ?_;(with_reducible refine(jB.calls k1 _ _ (ja U ah) bp uZ _ ?az ?aA A5.1).mono ?_);(case az=>exact mC M6.1);(case aA=>exact MO.1);rintro e w' ⟨rfl,⟨nd,rfl⟩⟩;refine⟨_,rfl,?_⟩));go_ret;exact⟨mE,by repeat (first|exact ay.refl _|apply ay.step)⟩
     ·rw[if_neg c6]at H;have eh:=decide_eq_false c6;clear c6;have H':=J H;clear H;have Ac:0≤(ah:Int):=mD;have AH:ah<(U.length:Int):=mD;obtain⟨aeL,Ma,Ot,O4,ala,FF,Fv⟩:=BG bB.1 ah Ac AH;cases O4
      have M6:=J Fv;have MO:=J FF;clear Fv FF;replace Ac:=eq_true Ac;replace AH:=eq_true AH;go_wp2_with (first|((with_reducible refine aJ (f:=55) rfl ?_);refine bA 17 Tryz.func55 #[.slice Ma (ja U ah).length Ot,.int .i64 bp] ?_;(with_reducible refine(jB.calls k1 _ _ (ja U ah) bp uZ _ ?az ?aA A5.1).mono ?_);(case az=>exact mC M6.1);(case aA=>exact MO.1);rintro e w' ⟨rfl,⟨nd,rfl⟩⟩;refine⟨_,rfl,?_⟩));go_roundg k1
      case measure=>have:=aQ.1;omega
      case rel=>exact⟨(uZ),(wrap64 (ah+1)),mE,mE,H',⟨by have:=aQ.1;omega⟩,by repeat (first|exact ay.refl _|apply ay.step)⟩
    ·rw[if_neg c4]at H;exact absurd H (by simp)
   ·rw[if_neg c3]at H;have cS:=decide_eq_false c3;clear c3;obtain rfl:=Option.some.inj H;go_wp2;go_ret;exact⟨mE,by repeat (first|exact ay.refl _|apply ay.step)⟩
end Go.Proofs.YtingkpnoiekliaaGreat.MZ
