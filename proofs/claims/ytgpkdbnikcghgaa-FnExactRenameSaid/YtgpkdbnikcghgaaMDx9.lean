-- Written by mp.py, our own printer (wip/mp.py), and made shorter by wip/mp_shrink*.py.
import Derived.Test.YtgpkdbnikcghgaaVMShort
import Derived.Test.YtgpkdbnikcghgaaMDx0
import Derived.Test.YtgpkdbnikcghgaaMDx7
namespace Go.Proofs.Ytgpkdbnikcghgaa.MD
open Go.RowKit Go.Proofs.YtgpkdbnikcghgaaW.PrintWords Go.Proofs.YtgpkdbnikcghgaaW.PrintLast Go.Proofs.YtgpkdbnikcghgaaW.PrintMore Go.Proofs.Ytgpkdbnikcghgaa.MWords
attribute [local go_sem] max2_int min2_int max_two min_two max_three min_three max_four min_four
set_option linter.unusedVariables false
set_option linter.unusedSimpArgs false
def lG.l0:Nat→List (ai)→ByteArray→Int→Option (Int)
 |0,_,_,_=>none
 |k+1,x0,x1,x5=>if x5<(x0.length:Int) then (if 0≤x5 then (if ((aq x0 x5).f0).toList=x1.toList then (some x5) else (lG.l0 k x0 x1 (wrap64 (x5+1)))) else (none)) else (some (-1))
def lG.f (k:Nat) (l0:List (ai)) (a1:ByteArray):Option (Int):=lG.l0 k l0 a1 0
set_option maxHeartbeats 8000000 in
set_option maxRecDepth 100000 in
theorem lG.calls (k:Nat) (A0:Option Addr) (c0:Nat) (l0:List (ai)) (a1:ByteArray) (r:Int) (w:World) (gF:Kd.C aK w A0 l0.length l0) (fi:l0.length≤c0) (h:lG.f k l0 a1=some r) :
 Calls Try.prog 49 #[.slice A0 l0.length c0,.string a1] w fun e w'=>e = .returned (.int .i64 r)∧bW w w':=by
 have fL:=J gF;have rG:=J fi;clear gF fi;have H:(lG.l0 k l0 a1 0)=some r:=h;clear h;have H':=J H;clear H;go_enter Try.func49,Try.ntmps49;go_wp2;go_loopg [5] k (fun kq v5 w'=>∃(al:Int),v5 = .int .i64 al∧Aside0 (lG.l0 kq l0 a1 al=some r)∧Aside0 (kq≤k)∧bW w w')
 case atStart=>exact⟨(0),mE,H',⟨Nat.le_refl _⟩,by repeat (first|exact bW.refl _|apply bW.step)⟩
 case round=>
  clear H'
  obtain⟨al,rfl,HA,bI,⟨m1,rfl⟩⟩:=hrel;cases gk with
  |zero=>exact absurd HA.1 (by simp[lG.l0])
  |succ k1=>
   have H:=HA.1;clear HA;simp only[lG.l0]at H;by_cases c3:al<(l0.length:Int)
   ·rw[if_pos c3]at H;have jf:=decide_eq_true c3;clear c3;by_cases c4:0≤al
    ·rw[if_pos c4]at H;have jm:=decide_eq_true c4;clear c4;by_cases c5:((aq l0 al).f0).toList=a1.toList
     ·rw[if_pos c5]at H;have nI:(((aq l0 al).f0).toList == a1.toList)=true:=beq_iff_eq.mpr c5;have Dw:(((aq l0 al).f0).toList != a1.toList)=false:=bne_eq_false_iff_eq.mpr c5;clear c5;obtain rfl:=Option.some.inj H;have Q4:0≤(al:Int):=mD;have Rv:al<(l0.length:Int):=mD;obtain⟨ayw,ag9,aG0,aG1⟩:=lB fL.1 al Q4 Rv;cases ag9
      replace Q4:=eq_true Q4;replace Rv:=eq_true Rv;go_wp2;go_ret;exact⟨mE,by repeat (first|exact bW.refl _|apply bW.step)⟩
     ·rw[if_neg c5]at H;have nI:(((aq l0 al).f0).toList == a1.toList)=false:=beq_eq_false_iff_ne.mpr c5;have Dw:(((aq l0 al).f0).toList != a1.toList)=true:=bne_iff_ne.mpr c5;have H':=J H;clear H;have Q4:0≤(al:Int):=mD;have Rv:al<(l0.length:Int):=mD;obtain⟨ayw,ag9,aG0,aG1⟩:=lB fL.1 al Q4 Rv;cases ag9
      replace Q4:=eq_true Q4;replace Rv:=eq_true Rv;go_wp2;go_roundg k1
      case measure=>have:=bI.1;omega
      case rel=>exact⟨(wrap64 (al+1)),mE,H',⟨by have:=bI.1;omega⟩,by repeat (first|exact bW.refl _|apply bW.step)⟩
    ·rw[if_neg c4]at H;exact absurd H (by simp)
   ·rw[if_neg c3]at H;have jf:=decide_eq_false c3;clear c3;obtain rfl:=Option.some.inj H;go_wp2;go_ret;exact⟨mE,by repeat (first|exact bW.refl _|apply bW.step)⟩
def lH.j0:Nat→ByteArray→Bool→List (ak)→List (ai)→List (ai)→Int→Option (Int)
 |0,_,_,_,_,_,_=>none
 |k+1,x1,x5,aUW,aIW,aUX,aUY=>if x5=true then (some 1) else ((lG.f k aIW x1).bind fun TW=>(if TW<0 then (some 2) else (some 0)))
def lH.f (k:Nat) (U:List (ak)) (ab:List (ai)) (af:List (ai)) (ah:Int) (a1:ByteArray):Option (Int):=(bL.f k U ab af ah).bind fun TV=>(if TV=true then ((eO.f k a1).bind fun Lf=>(lH.j0 k a1 (!Lf) U ab af ah)) else (lH.j0 k a1 true U ab af ah))
set_option maxHeartbeats 8000000 in
set_option maxRecDepth 100000 in
theorem lH.calls (k:Nat) (aE:Option Addr) (az:Nat) (U:List (ak)) (aw:Option Addr) (ax:Nat) (ab:List (ai)) (aA:Option Addr) (aC:Nat) (af:List (ai)) (ah:Int) (a1:ByteArray) (r:Int) (w:World) (eZ:Kd.C bF w aE U.length U) (eX:U.length≤az) (ek:Kd.C aK w aw ab.length ab) (ej:ab.length≤ax) (e6:Kd.C aK w aA af.length af) (eY:af.length≤aC) (h:lH.f k U ab af ah a1=some r) :
 Calls Try.prog 47 #[.agg #[.slice aE U.length az,.slice aw ab.length ax,.slice aA af.length aC,.int .i64 ah],.string a1] w fun e w'=>e = .returned (.int .i64 r)∧Below w.heap.size w w':=by
 have qj:=Try.underlying30;have cF:=J eZ;have db:=J eX;clear eZ eX;have cr:=J ek;have cz:=J ej;clear ek ej;have cV:=J e6;have dc:=J eY;clear e6 eY;have HB:=J (Below.refl w.heap.size w);have H:((bL.f k U ab af ah).bind fun TV=>(if TV=true then ((eO.f k a1).bind fun Lf=>(lH.j0 k a1 (!Lf) U ab af ah)) else (lH.j0 k a1 true U ab af ah)))=some r:=h;clear h;have HC3:=J H;clear H;go_enter Try.func47,Try.ntmps47;go_upto_region 1 with (first|((with_reducible refine bB (N:=2) rfl ?_);refine bO 2 #[.slice aE U.length az,.slice aw ab.length ax,.slice aA af.length aC,.int .i64 ah] 30 ?_;intro aAk hg w4 hbox hb;have Fa:=J (hbox);have aJQ:=mG hg (mH HB.1);have OH:=mG hg (mH HB.1);replace HB:=J (aG (mH HB.1) hb);clear hb hbox hg))
 (try simp only[Act.put,zA,zB,zC])
 go_cut [5] (fun v5 wc=>∃(kq:Nat) (rC:Bool),v5 = .bool rC∧Aside0 (lH.j0 kq a1 rC U ab af ah=some r)∧Aside0 (kq≤k)∧Aside0 (wc.heap[aAk]? = some (.cells #[(.slice aE U.length az),(.slice aw ab.length ax),(.slice aA af.length aC),.int .i64 ah] 30 (0,0)))∧Aside0 (Below w.heap.size w wc))
 case first=>
  have H:=HC3.1;clear HC3;replace H:=Option.bind_eq_some_iff.mp H;obtain⟨TV,qV,H⟩:=H;replace H:(if TV=true then ((eO.f k a1).bind fun Lf=>(lH.j0 k a1 (!Lf) U ab af ah)) else (lH.j0 k a1 true U ab af ah))=some r:=H;have A5:=J qV;clear qV;by_cases c6:TV=true
  ·subst c6;have H1:=H;rw[if_pos rfl]at H1;clear H;have H:=H1;clear H1;replace H:=Option.bind_eq_some_iff.mp H;obtain⟨Lf,tG,H⟩:=H;replace H:(lH.j0 k a1 (!Lf) U ab af ah)=some r:=H;have A7:=J tG;clear tG;have H':=J H;clear H;obtain⟨PZ,P0,acs,apV,Qc,Qd,acJ,aq2⟩:=bb Fa.1;go_wp2_with (first|((with_reducible refine bw (f:=66) rfl ?_);refine bH 7 Try.func66 #[.agg #[.slice aE U.length az,.slice aw ab.length ax,.slice aA af.length aC,.int .i64 ah]] ?_;(with_reducible refine(bL.calls k _ _ U _ _ ab _ _ af ah true _ ?ar ?au ?aZ ?a6 ?bc ?bf A5.1).mono ?_);(case ar=>exact mC (Kd.aX cF.1 HB.1));(case au=>exact db.1);(case aZ=>exact mC (Kd.aX cr.1 HB.1));(case a6=>exact cz.1);(case bc=>exact mC (Kd.aX cV.1 HB.1));(case bf=>exact dc.1);rintro e w9 ⟨rfl,hb⟩;refine⟨_,rfl,?_⟩;replace Fa:=mB Fa hb;replace HB:=J (aG (aY HB.1 OH.1) hb);(try clear hb))|(go_at_call 48;(with_reducible refine(eO.calls k a1 Lf _ A7.1).mono ?_);rintro e w' ⟨rfl,⟨nd,rfl⟩⟩));go_meet
   case rel=>exact⟨_,(!Lf),mE,H',⟨by first|omega|exact Nat.le_refl _⟩,⟨mK Fa.1⟩,⟨(aY HB.1 OH.1)⟩⟩
  ·replace c6:=Bool.eq_false_iff.mpr c6;subst c6;have H1:=H;rw[if_neg (show ¬(false=true) by decide)]at H1;clear H;have H:=H1;clear H1;have H':=J H;clear H;obtain⟨wW,wX,BQ,Ga,wY,wZ,BV,Gi⟩:=bb Fa.1;go_wp2_with (first|((with_reducible refine bw (f:=66) rfl ?_);refine bH 7 Try.func66 #[.agg #[.slice aE U.length az,.slice aw ab.length ax,.slice aA af.length aC,.int .i64 ah]] ?_;(with_reducible refine(bL.calls k _ _ U _ _ ab _ _ af ah false _ ?ar ?au ?aZ ?a6 ?bc ?bf A5.1).mono ?_);(case ar=>exact mC (Kd.aX cF.1 HB.1));(case au=>exact db.1);(case aZ=>exact mC (Kd.aX cr.1 HB.1));(case a6=>exact cz.1);(case bc=>exact mC (Kd.aX cV.1 HB.1));(case bf=>exact dc.1);rintro e e9 ⟨rfl,hb⟩;refine⟨_,rfl,?_⟩;replace Fa:=mB Fa hb;replace HB:=J (aG (aY HB.1 OH.1) hb);(try clear hb)));go_meet
   case rel=>exact⟨_,(true),mE,H',⟨by first|omega|exact Nat.le_refl _⟩,⟨mK Fa.1⟩,⟨(aY HB.1 OH.1)⟩⟩
 case rest=>
  clear HC3
  obtain⟨kq,rC,rfl,HA,HJ2,Fa,HB⟩:=hcut;cases kq with
  |zero=>exact absurd HA.1 (by simp[lH.j0])
  |succ kj2=>
   have H:=HA.1;clear HA;simp only[lH.j0]at H;by_cases nj:rC=true
   ·subst nj;have H1:=H;rw[if_pos rfl]at H1;clear H;have H:=H1;clear H1;obtain rfl:=Option.some.inj H;go_wp2;go_ret;exact⟨cS,(aY HB.1 OH.1)⟩
   ·replace nj:=Bool.eq_false_iff.mpr nj;subst nj;have H1:=H;rw[if_neg (show ¬(false=true) by decide)]at H1;clear H;have H:=H1;clear H1;replace H:=Option.bind_eq_some_iff.mp H;obtain⟨TW,qx,H⟩:=H;replace H:(if TW<0 then (some 2) else (some 0))=some r:=H;have o5:=J qx;clear qx;by_cases pb:TW<0
    ·rw[if_pos pb]at H;have JX:=decide_eq_true pb;clear pb;obtain rfl:=Option.some.inj H;obtain⟨Ka,PS,PT,ach,Ki,P5,P6,acz⟩:=bb Fa.1;go_wp2_with (first|((with_reducible refine bw (f:=49) rfl ?_);refine bH 18 Try.func49 #[.slice aw ab.length ax,.string a1] ?_;(with_reducible refine(lG.calls kj2 _ _ ab a1 TW _ ?ar ?au o5.1).mono ?_);(case ar=>exact mC (Kd.aX cr.1 HB.1));(case au=>exact cz.1);rintro e w' ⟨rfl,⟨nd,rfl⟩⟩;refine⟨_,rfl,?_⟩));go_ret;exact⟨cS,(aY HB.1 OH.1)⟩
    ·rw[if_neg pb]at H;have JX:=decide_eq_false pb;clear pb;obtain rfl:=Option.some.inj H;obtain⟨xZ,ya,yb,zc,yg,yh,yi,ze⟩:=bb Fa.1;go_wp2_with (first|((with_reducible refine bw (f:=49) rfl ?_);refine bH 18 Try.func49 #[.slice aw ab.length ax,.string a1] ?_;(with_reducible refine(lG.calls kj2 _ _ ab a1 TW _ ?ar ?au o5.1).mono ?_);(case ar=>exact mC (Kd.aX cr.1 HB.1));(case au=>exact cz.1);rintro e w' ⟨rfl,⟨nd,rfl⟩⟩;refine⟨_,rfl,?_⟩));go_ret;exact⟨cS,(aY HB.1 OH.1)⟩
end Go.Proofs.Ytgpkdbnikcghgaa.MD
