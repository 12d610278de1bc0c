-- Written by mp.py, our own printer (wip/mp.py), and made shorter by wip/mp_shrink*.py.
import Derived.Test.YtgpkdbnikcghgaaVAll
import Derived.Test.YtgpkdbnikcghgaaMDx0
import Derived.Test.YtgpkdbnikcghgaaMDx7
namespace Go.Proofs.Ytgpkdbnikcghgaa.MD
open Go.RowKit Go.Proofs.YtgpkdbnikcghgaaW.PrintWords Go.Proofs.YtgpkdbnikcghgaaW.PrintLast Go.Proofs.YtgpkdbnikcghgaaW.PrintMore Go.Proofs.Ytgpkdbnikcghgaa.MWords
attribute [local go_sem] max2_int min2_int max_two min_two max_three min_three max_four min_four
set_option linter.unusedVariables false
set_option linter.unusedSimpArgs false
def jK.l0:Nat→List (ah)→ByteArray→Int→Option (Int)
 |0,_,_,_=>none
 |k+1,x0,x1,x5=>if x5<(x0.length:Int) then (if 0≤x5 then (if ((aw x0 x5).f0).toList=x1.toList then (some x5) else (jK.l0 k x0 x1 (wrap64 (x5+1)))) else (none)) else (some (-1))
def jK.f (k:Nat) (l0:List (ah)) (a1:ByteArray):Option (Int):=jK.l0 k l0 a1 0
set_option maxHeartbeats 8000000 in
set_option maxRecDepth 100000 in
theorem jK.calls (k:Nat) (A0:Option Addr) (c0:Nat) (l0:List (ah)) (a1:ByteArray) (r:Int) (w:World) (e7:Kd.C ay w A0 l0.length l0) (gw:l0.length≤c0) (h:jK.f k l0 a1=some r) :
 Calls Try.prog 49 #[.slice A0 l0.length c0,.string a1] w fun e w'=>e = .returned (.int .i64 r)∧bC w w':=by
 have jf:=J e7;have sh:=J gw;clear e7 gw;have H:(jK.l0 k l0 a1 0)=some r:=h;clear h;have H':=J H;clear H;go_enter Try.func49,Try.ntmps49;go_wp2;go_loopg [5] k (fun kq v5 w'=>∃(aJ:Int),v5 = .int .i64 aJ∧Aside0 (jK.l0 kq l0 a1 aJ=some r)∧Aside0 (kq≤k)∧bC w w')
 case atStart=>exact⟨(0),mE,H',⟨Nat.le_refl _⟩,by repeat (first|exact bC.refl _|apply bC.step)⟩
 case round=>
  clear H'
  obtain⟨aJ,rfl,HA,bA,⟨m1,rfl⟩⟩:=hrel;cases gk with
  |zero=>exact absurd HA.1 (by simp[jK.l0])
  |succ k1=>
   have H:=HA.1;clear HA;simp only[jK.l0]at H;by_cases c3:aJ<(l0.length:Int)
   ·rw[if_pos c3]at H;have l9:=decide_eq_true c3;clear c3;by_cases c4:0≤aJ
    ·rw[if_pos c4]at H;have lG:=decide_eq_true c4;clear c4;by_cases c5:((aw l0 aJ).f0).toList=a1.toList
     ·rw[if_pos c5]at H;have j8:(((aw l0 aJ).f0).toList == a1.toList)=true:=beq_iff_eq.mpr c5;have Bl:(((aw l0 aJ).f0).toList != a1.toList)=false:=bne_eq_false_iff_eq.mpr c5;clear c5;obtain rfl:=Option.some.inj H;have Cd:0≤(aJ:Int):=mD;have Cv:aJ<(l0.length:Int):=mD;obtain⟨ahS,QS,aos,aot⟩:=iH jf.1 aJ Cd Cv;cases QS
      replace Cd:=eq_true Cd;replace Cv:=eq_true Cv;go_wp2;go_ret;exact⟨mE,by repeat (first|exact bC.refl _|apply bC.step)⟩
     ·rw[if_neg c5]at H;have j8:(((aw l0 aJ).f0).toList == a1.toList)=false:=beq_eq_false_iff_ne.mpr c5;have Bl:(((aw l0 aJ).f0).toList != a1.toList)=true:=bne_iff_ne.mpr c5;have H':=J H;clear H;have Cd:0≤(aJ:Int):=mD;have Cv:aJ<(l0.length:Int):=mD;obtain⟨ahS,QS,aos,aot⟩:=iH jf.1 aJ Cd Cv;cases QS
      replace Cd:=eq_true Cd;replace Cv:=eq_true Cv;go_wp2;go_roundg k1
      case measure=>have:=bA.1;omega
      case rel=>exact⟨(wrap64 (aJ+1)),mE,H',⟨by have:=bA.1;omega⟩,by repeat (first|exact bC.refl _|apply bC.step)⟩
    ·rw[if_neg c4]at H;exact absurd H (by simp)
   ·rw[if_neg c3]at H;have l9:=decide_eq_false c3;clear c3;obtain rfl:=Option.some.inj H;go_wp2;go_ret;exact⟨mE,by repeat (first|exact bC.refl _|apply bC.step)⟩
def iu.j0:Nat→ByteArray→Bool→List (aj)→List (ah)→List (ah)→Int→Option (Int)
 |0,_,_,_,_,_,_=>none
 |k+1,x1,x5,aDm,arb,aDn,aDo=>if x5=true then (some 1) else ((jK.f k arb x1).bind fun Er=>(if Er<0 then (some 2) else (some 0)))
def iu.f (k:Nat) (U:List (aj)) (ab:List (ah)) (ae:List (ah)) (af:Int) (a1:ByteArray):Option (Int):=(bB.f k U ab ae af).bind fun Ep=>(if Ep=true then ((e8.f k a1).bind fun yD=>(iu.j0 k a1 (!yD) U ab ae af)) else (iu.j0 k a1 true U ab ae af))
set_option maxHeartbeats 8000000 in
set_option maxRecDepth 100000 in
theorem iu.calls (k:Nat) (av:Option Addr) (al:Nat) (U:List (aj)) (ao:Option Addr) (an:Nat) (ab:List (ah)) (aq:Option Addr) (ar:Nat) (ae:List (ah)) (af:Int) (a1:ByteArray) (r:Int) (w:World) (cT:Kd.C bj w av U.length U) (cQ:U.length≤al) (cU:Kd.C ay w ao ab.length ab) (cR:ab.length≤an) (cV:Kd.C ay w aq ae.length ae) (cS:ae.length≤ar) (h:iu.f k U ab ae af a1=some r) :
 Calls Try.prog 47 #[.agg #[.slice av U.length al,.slice ao ab.length an,.slice aq ae.length ar,.int .i64 af],.string a1] w fun e w'=>e = .returned (.int .i64 r)∧Below w.heap.size w w':=by
 have kx:=Try.underlying30;have bG:=J cT;have cf:=J cQ;clear cT cQ;have bE:=J cU;have bO:=J cR;clear cU cR;have bL:=J cV;have b6:=J cS;clear cV cS;have HB:=J (Below.refl w.heap.size w);have H:((bB.f k U ab ae af).bind fun Ep=>(if Ep=true then ((e8.f k a1).bind fun yD=>(iu.j0 k a1 (!yD) U ab ae af)) else (iu.j0 k a1 true U ab ae af)))=some r:=h;clear h;have AM:=J H;clear H;go_enter Try.func47,Try.ntmps47;go_upto_region 1 with (first|((with_reducible refine bk (N:=2) rfl ?_);refine bF 2 #[.slice av U.length al,.slice ao ab.length an,.slice aq ae.length ar,.int .i64 af] 30 ?_;intro aka hg w4 hbox hb;have tU:=J (hbox);have arX:=mG hg (mH HB.1);have AJ:=mG hg (mH HB.1);replace HB:=J (aK (mH HB.1) hb);clear hb hbox hg))
 (try simp only[Act.put,zA,zB,zC])
 go_cut [5] (fun v5 wc=>∃(kq:Nat) (N7:Bool),v5 = .bool N7∧Aside0 (iu.j0 kq a1 N7 U ab ae af=some r)∧Aside0 (kq≤k)∧Aside0 (wc.heap[aka]? = some (.cells #[(.slice av U.length al),(.slice ao ab.length an),(.slice aq ae.length ar),.int .i64 af] 30 (0,0)))∧Aside0 (Below w.heap.size w wc))
 case first=>
  have H:=AM.1;clear AM;replace H:=Option.bind_eq_some_iff.mp H;obtain⟨Ep,tQ,H⟩:=H;replace H:(if Ep=true then ((e8.f k a1).bind fun yD=>(iu.j0 k a1 (!yD) U ab ae af)) else (iu.j0 k a1 true U ab ae af))=some r:=H;have A5:=J tQ;clear tQ;by_cases c6:Ep=true
  ·subst c6;have H1:=H;rw[if_pos rfl]at H1;clear H;have H:=H1;clear H1;replace H:=Option.bind_eq_some_iff.mp H;obtain⟨yD,yP,H⟩:=H;replace H:(iu.j0 k a1 (!yD) U ab ae af)=some r:=H;have A7:=J yP;clear yP;have H':=J H;clear H;obtain⟨GL,GM,LU,LV,G5,G6,Mi,Mj⟩:=aX tU.1;go_wp2_with (first|((with_reducible refine bo (f:=66) rfl ?_);refine cl 7 Try.func66 #[.agg #[.slice av U.length al,.slice ao ab.length an,.slice aq ae.length ar,.int .i64 af]] ?_;(with_reducible refine(bB.calls k _ _ U _ _ ab _ _ ae af true _ ?aG ?aH ?aY ?aZ ?a6 ?a7 A5.1).mono ?_);(case aG=>exact mC (Kd.aE bG.1 HB.1));(case aH=>exact cf.1);(case aY=>exact mC (Kd.aE bE.1 HB.1));(case aZ=>exact bO.1);(case a6=>exact mC (Kd.aE bL.1 HB.1));(case a7=>exact b6.1);rintro e w9 ⟨rfl,hb⟩;refine⟨_,rfl,?_⟩;replace tU:=mB tU hb;replace HB:=J (aK (aM HB.1 AJ.1) hb);(try clear hb))|(go_at_call 48;(with_reducible refine(e8.calls k a1 yD _ A7.1).mono ?_);rintro e w' ⟨rfl,⟨nd,rfl⟩⟩));go_meet
   case rel=>exact⟨_,(!yD),mE,H',⟨by first|omega|exact Nat.le_refl _⟩,⟨mK tU.1⟩,⟨(aM HB.1 AJ.1)⟩⟩
  ·replace c6:=Bool.eq_false_iff.mpr c6;subst c6;have H1:=H;rw[if_neg (show ¬(false=true) by decide)]at H1;clear H;have H:=H1;clear H1;have H':=J H;clear H;obtain⟨xK,xL,DM,Gy,xR,xS,DP,GR⟩:=aX tU.1;go_wp2_with (first|((with_reducible refine bo (f:=66) rfl ?_);refine cl 7 Try.func66 #[.agg #[.slice av U.length al,.slice ao ab.length an,.slice aq ae.length ar,.int .i64 af]] ?_;(with_reducible refine(bB.calls k _ _ U _ _ ab _ _ ae af false _ ?aG ?aH ?aY ?aZ ?a6 ?a7 A5.1).mono ?_);(case aG=>exact mC (Kd.aE bG.1 HB.1));(case aH=>exact cf.1);(case aY=>exact mC (Kd.aE bE.1 HB.1));(case aZ=>exact bO.1);(case a6=>exact mC (Kd.aE bL.1 HB.1));(case a7=>exact b6.1);rintro e iQ ⟨rfl,hb⟩;refine⟨_,rfl,?_⟩;replace tU:=mB tU hb;replace HB:=J (aK (aM HB.1 AJ.1) hb);(try clear hb)));go_meet
   case rel=>exact⟨_,(true),mE,H',⟨by first|omega|exact Nat.le_refl _⟩,⟨mK tU.1⟩,⟨(aM HB.1 AJ.1)⟩⟩
 case rest=>
  clear AM
  obtain⟨kq,N7,rfl,HA,E5,tU,HB⟩:=hcut;cases kq with
  |zero=>exact absurd HA.1 (by simp[iu.j0])
  |succ zV=>
   have H:=HA.1;clear HA;simp only[iu.j0]at H;by_cases gO:N7=true
   ·subst gO;have H1:=H;rw[if_pos rfl]at H1;clear H;have H:=H1;clear H1;obtain rfl:=Option.some.inj H;go_wp2;go_ret;exact⟨de,(aM HB.1 AJ.1)⟩
   ·replace gO:=Bool.eq_false_iff.mpr gO;subst gO;have H1:=H;rw[if_neg (show ¬(false=true) by decide)]at H1;clear H;have H:=H1;clear H1;replace H:=Option.bind_eq_some_iff.mp H;obtain⟨Er,tO,H⟩:=H;replace H:(if Er<0 then (some 2) else (some 0))=some r:=H;have lO:=J tO;clear tO;by_cases hX:Er<0
    ·rw[if_pos hX]at H;have xq:=decide_eq_true hX;clear hX;obtain rfl:=Option.some.inj H;obtain⟨LB,RB,RC,aad,L3,Sn,Sp,aaL⟩:=aX tU.1;go_wp2_with (first|((with_reducible refine bo (f:=49) rfl ?_);refine cl 18 Try.func49 #[.slice ao ab.length an,.string a1] ?_;(with_reducible refine(jK.calls zV _ _ ab a1 Er _ ?aG ?aH lO.1).mono ?_);(case aG=>exact mC (Kd.aE bE.1 HB.1));(case aH=>exact bO.1);rintro e w' ⟨rfl,⟨nd,rfl⟩⟩;refine⟨_,rfl,?_⟩));go_ret;exact⟨de,(aM HB.1 AJ.1)⟩
    ·rw[if_neg hX]at H;have xq:=decide_eq_false hX;clear hX;obtain rfl:=Option.some.inj H;obtain⟨xM,xN,xP,xQ,xT,xU,xV,xW⟩:=aX tU.1;go_wp2_with (first|((with_reducible refine bo (f:=49) rfl ?_);refine cl 18 Try.func49 #[.slice ao ab.length an,.string a1] ?_;(with_reducible refine(jK.calls zV _ _ ab a1 Er _ ?aG ?aH lO.1).mono ?_);(case aG=>exact mC (Kd.aE bE.1 HB.1));(case aH=>exact bO.1);rintro e w' ⟨rfl,⟨nd,rfl⟩⟩;refine⟨_,rfl,?_⟩));go_ret;exact⟨de,(aM HB.1 AJ.1)⟩
end Go.Proofs.Ytgpkdbnikcghgaa.MD
