-- Written by mp.py, our own printer (wip/mp.py), and made shorter by wip/mp_shrink*.py.
import Derived.Test.YtgpkdbnikcghgaaVAll
import Derived.Test.YtgpkdbnikcghgaaMDx0
import Derived.Test.YtgpkdbnikcghgaaMDx7
namespace Go.Proofs.Ytgpkdbnikcghgaa.MD
open Go.RowKit Go.Proofs.YtgpkdbnikcghgaaW.PrintWords Go.Proofs.YtgpkdbnikcghgaaW.PrintLast Go.Proofs.YtgpkdbnikcghgaaW.PrintMore Go.Proofs.Ytgpkdbnikcghgaa.MWords
attribute [local go_sem] max2_int min2_int max_two min_two max_three min_three max_four min_four
set_option linter.unusedVariables false
set_option linter.unusedSimpArgs false
def jD.l0:Nat→List (ah)→ByteArray→Int→Option (Int)
 |0,_,_,_=>none
 |k+1,x0,x1,x5=>if x5<(x0.length:Int) then (if 0≤x5 then (if ((av x0 x5).f0).toList=x1.toList then (some x5) else (jD.l0 k x0 x1 (wrap64 (x5+1)))) else (none)) else (some (-1))
def jD.f (k:Nat) (l0:List (ah)) (a1:ByteArray):Option (Int):=jD.l0 k l0 a1 0
set_option maxHeartbeats 8000000 in
set_option maxRecDepth 100000 in
theorem jD.calls (k:Nat) (A0:Option Addr) (c0:Nat) (l0:List (ah)) (a1:ByteArray) (r:Int) (w:World) (fu:Kd.C ay w A0 l0.length l0) (gE:l0.length≤c0) (h:jD.f k l0 a1=some r) :
 Calls Try.prog 49 #[.slice A0 l0.length c0,.string a1] w fun e w'=>e = .returned (.int .i64 r)∧bG w w':=by
 have jf:=J fu;have vr:=J gE;clear fu gE;have H:(jD.l0 k l0 a1 0)=some r:=h;clear h;have H':=J H;clear H;go_enter Try.func49,Try.ntmps49;go_wp2;go_loopg [5] k (fun kq v5 w'=>∃(aE:Int),v5 = .int .i64 aE∧Aside0 (jD.l0 kq l0 a1 aE=some r)∧Aside0 (kq≤k)∧bG w w')
 case atStart=>exact⟨(0),mE,H',⟨Nat.le_refl _⟩,by repeat (first|exact bG.refl _|apply bG.step)⟩
 case round=>
  clear H'
  obtain⟨aE,rfl,HA,br,⟨m1,rfl⟩⟩:=hrel;cases gk with
  |zero=>exact absurd HA.1 (by simp[jD.l0])
  |succ k1=>
   have H:=HA.1;clear HA;simp only[jD.l0]at H;by_cases c3:aE<(l0.length:Int)
   ·rw[if_pos c3]at H;have lS:=decide_eq_true c3;clear c3;by_cases c4:0≤aE
    ·rw[if_pos c4]at H;have lv:=decide_eq_true c4;clear c4;by_cases c5:((av l0 aE).f0).toList=a1.toList
     ·rw[if_pos c5]at H;have kA:(((av l0 aE).f0).toList == a1.toList)=true:=beq_iff_eq.mpr c5;have AH:(((av l0 aE).f0).toList != a1.toList)=false:=bne_eq_false_iff_eq.mpr c5;clear c5;obtain rfl:=Option.some.inj H;have BA:0≤(aE:Int):=mD;have BR:aE<(l0.length:Int):=mD;obtain⟨ahb,Qp,anT,anU⟩:=gZ jf.1 aE BA BR;cases Qp
      replace BA:=eq_true BA;replace BR:=eq_true BR;go_wp2;go_ret;exact⟨mE,by repeat (first|exact bG.refl _|apply bG.step)⟩
     ·rw[if_neg c5]at H;have kA:(((av l0 aE).f0).toList == a1.toList)=false:=beq_eq_false_iff_ne.mpr c5;have AH:(((av l0 aE).f0).toList != a1.toList)=true:=bne_iff_ne.mpr c5;have H':=J H;clear H;have BA:0≤(aE:Int):=mD;have BR:aE<(l0.length:Int):=mD;obtain⟨ahb,Qp,anT,anU⟩:=gZ jf.1 aE BA BR;cases Qp
      replace BA:=eq_true BA;replace BR:=eq_true BR;go_wp2;go_roundg k1
      case measure=>have:=br.1;omega
      case rel=>exact⟨(wrap64 (aE+1)),mE,H',⟨by have:=br.1;omega⟩,by repeat (first|exact bG.refl _|apply bG.step)⟩
    ·rw[if_neg c4]at H;exact absurd H (by simp)
   ·rw[if_neg c3]at H;have lS:=decide_eq_false c3;clear c3;obtain rfl:=Option.some.inj H;go_wp2;go_ret;exact⟨mE,by repeat (first|exact bG.refl _|apply bG.step)⟩
def ik.j0:Nat→ByteArray→Bool→List (aj)→List (ah)→List (ah)→Int→Option (Int)
 |0,_,_,_,_,_,_=>none
 |k+1,x1,x5,aCB,aqx,aCC,aCD=>if x5=true then (some 1) else ((jD.f k aqx x1).bind fun D0=>(if D0<0 then (some 2) else (some 0)))
def ik.f (k:Nat) (U:List (aj)) (ab:List (ah)) (ae:List (ah)) (af:Int) (a1:ByteArray):Option (Int):=(bC.f k U ab ae af).bind fun DZ=>(if DZ=true then ((eW.f k a1).bind fun ya=>(ik.j0 k a1 (!ya) U ab ae af)) else (ik.j0 k a1 true U ab ae af))
set_option maxHeartbeats 8000000 in
set_option maxRecDepth 100000 in
theorem ik.calls (k:Nat) (aw:Option Addr) (al:Nat) (U:List (aj)) (ao:Option Addr) (an:Nat) (ab:List (ah)) (aq:Option Addr) (ar:Nat) (ae:List (ah)) (af:Int) (a1:ByteArray) (r:Int) (w:World) (dw:Kd.C bu w aw U.length U) (dt:U.length≤al) (dx:Kd.C ay w ao ab.length ab) (du:ab.length≤an) (dy:Kd.C ay w aq ae.length ae) (dv:ae.length≤ar) (h:ik.f k U ab ae af a1=some r) :
 Calls Try.prog 47 #[.agg #[.slice aw U.length al,.slice ao ab.length an,.slice aq ae.length ar,.int .i64 af],.string a1] w fun e w'=>e = .returned (.int .i64 r)∧Below w.heap.size w w':=by
 have l3:=Try.underlying30;have bS:=J dw;have cv:=J dt;clear dw dt;have bN:=J dx;have bX:=J du;clear dx du;have bT:=J dy;have cb:=J dv;clear dy dv;have HB:=J (Below.refl w.heap.size w);have H:((bC.f k U ab ae af).bind fun DZ=>(if DZ=true then ((eW.f k a1).bind fun ya=>(ik.j0 k a1 (!ya) U ab ae af)) else (ik.j0 k a1 true U ab ae af)))=some r:=h;clear h;have Ag:=J H;clear H;go_enter Try.func47,Try.ntmps47;go_upto_region 1 with (first|((with_reducible refine bh (N:=2) rfl ?_);refine bw 2 #[.slice aw U.length al,.slice ao ab.length an,.slice aq ae.length ar,.int .i64 af] 30 ?_;intro ajq hg w4 hbox hb;have tC:=J (hbox);have ard:=mG hg (mH HB.1);have Ad:=mG hg (mH HB.1);replace HB:=J (aK (mH HB.1) hb);clear hb hbox hg))
 (try simp only[Act.put,zA,zB,zC])
 go_cut [5] (fun v5 wc=>∃(kq:Nat) (NB:Bool),v5 = .bool NB∧Aside0 (ik.j0 kq a1 NB U ab ae af=some r)∧Aside0 (kq≤k)∧Aside0 (wc.heap[ajq]? = some (.cells #[(.slice aw U.length al),(.slice ao ab.length an),(.slice aq ae.length ar),.int .i64 af] 30 (0,0)))∧Aside0 (Below w.heap.size w wc))
 case first=>
  have H:=Ag.1;clear Ag;replace H:=Option.bind_eq_some_iff.mp H;obtain⟨DZ,tw,H⟩:=H;replace H:(if DZ=true then ((eW.f k a1).bind fun ya=>(ik.j0 k a1 (!ya) U ab ae af)) else (ik.j0 k a1 true U ab ae af))=some r:=H;have A5:=J tw;clear tw;by_cases c6:DZ=true
  ·subst c6;have H1:=H;rw[if_pos rfl]at H1;clear H;have H:=H1;clear H1;replace H:=Option.bind_eq_some_iff.mp H;obtain⟨ya,yn,H⟩:=H;replace H:(ik.j0 k a1 (!ya) U ab ae af)=some r:=H;have A7:=J yn;clear yn;have H':=J H;clear H;obtain⟨Dl,Dm,Lg,Lh,Ds,Dt,LF,LG⟩:=aY tC.1;go_wp2_with (first|((with_reducible refine bm (f:=66) rfl ?_);refine cd 7 Try.func66 #[.agg #[.slice aw U.length al,.slice ao ab.length an,.slice aq ae.length ar,.int .i64 af]] ?_;(with_reducible refine(bC.calls k _ _ U _ _ ab _ _ ae af true _ ?aG ?aH ?bb ?bc ?bf ?bg A5.1).mono ?_);(case aG=>exact mC (Kd.aJ bS.1 HB.1));(case aH=>exact cv.1);(case bb=>exact mC (Kd.aJ bN.1 HB.1));(case bc=>exact bX.1);(case bf=>exact mC (Kd.aJ bT.1 HB.1));(case bg=>exact cb.1);rintro e w9 ⟨rfl,hb⟩;refine⟨_,rfl,?_⟩;replace tC:=mB tC hb;replace HB:=J (aK (aM HB.1 Ad.1) hb);(try clear hb))|(go_at_call 48;(with_reducible refine(eW.calls k a1 ya _ A7.1).mono ?_);rintro e w' ⟨rfl,⟨nd,rfl⟩⟩));go_meet
   case rel=>exact⟨_,(!ya),mE,H',⟨by first|omega|exact Nat.le_refl _⟩,⟨mK tC.1⟩,⟨(aM HB.1 Ad.1)⟩⟩
  ·replace c6:=Bool.eq_false_iff.mpr c6;subst c6;have H1:=H;rw[if_neg (show ¬(false=true) by decide)]at H1;clear H;have H:=H1;clear H1;have H':=J H;clear H;obtain⟨xo,xp,Dh,Gf,xv,xw,Dp,Gt⟩:=aY tC.1;go_wp2_with (first|((with_reducible refine bm (f:=66) rfl ?_);refine cd 7 Try.func66 #[.agg #[.slice aw U.length al,.slice ao ab.length an,.slice aq ae.length ar,.int .i64 af]] ?_;(with_reducible refine(bC.calls k _ _ U _ _ ab _ _ ae af false _ ?aG ?aH ?bb ?bc ?bf ?bg A5.1).mono ?_);(case aG=>exact mC (Kd.aJ bS.1 HB.1));(case aH=>exact cv.1);(case bb=>exact mC (Kd.aJ bN.1 HB.1));(case bc=>exact bX.1);(case bf=>exact mC (Kd.aJ bT.1 HB.1));(case bg=>exact cb.1);rintro e jt ⟨rfl,hb⟩;refine⟨_,rfl,?_⟩;replace tC:=mB tC hb;replace HB:=J (aK (aM HB.1 Ad.1) hb);(try clear hb)));go_meet
   case rel=>exact⟨_,(true),mE,H',⟨by first|omega|exact Nat.le_refl _⟩,⟨mK tC.1⟩,⟨(aM HB.1 Ad.1)⟩⟩
 case rest=>
  clear Ag
  obtain⟨kq,NB,rfl,HA,EA,tC,HB⟩:=hcut;cases kq with
  |zero=>exact absurd HA.1 (by simp[ik.j0])
  |succ zo=>
   have H:=HA.1;clear HA;simp only[ik.j0]at H;by_cases gK:NB=true
   ·subst gK;have H1:=H;rw[if_pos rfl]at H1;clear H;have H:=H1;clear H1;obtain rfl:=Option.some.inj H;go_wp2;go_ret;exact⟨cW,(aM HB.1 Ad.1)⟩
   ·replace gK:=Bool.eq_false_iff.mpr gK;subst gK;have H1:=H;rw[if_neg (show ¬(false=true) by decide)]at H1;clear H;have H:=H1;clear H1;replace H:=Option.bind_eq_some_iff.mp H;obtain⟨D0,tu,H⟩:=H;replace H:(if D0<0 then (some 2) else (some 0))=some r:=H;have lF:=J tu;clear tu;by_cases hJ:D0<0
    ·rw[if_pos hJ]at H;have wZ:=decide_eq_true hJ;clear hJ;obtain rfl:=Option.some.inj H;obtain⟨KW,QX,QY,Zl,Lp,RJ,RK,Z2⟩:=aY tC.1;go_wp2_with (first|((with_reducible refine bm (f:=49) rfl ?_);refine cd 18 Try.func49 #[.slice ao ab.length an,.string a1] ?_;(with_reducible refine(jD.calls zo _ _ ab a1 D0 _ ?aG ?aH lF.1).mono ?_);(case aG=>exact mC (Kd.aJ bN.1 HB.1));(case aH=>exact bX.1);rintro e w' ⟨rfl,⟨nd,rfl⟩⟩;refine⟨_,rfl,?_⟩));go_ret;exact⟨cW,(aM HB.1 Ad.1)⟩
    ·rw[if_neg hJ]at H;have wZ:=decide_eq_false hJ;clear hJ;obtain rfl:=Option.some.inj H;obtain⟨xq,xr,xt,xu,xx,xy,xz,xA⟩:=aY tC.1;go_wp2_with (first|((with_reducible refine bm (f:=49) rfl ?_);refine cd 18 Try.func49 #[.slice ao ab.length an,.string a1] ?_;(with_reducible refine(jD.calls zo _ _ ab a1 D0 _ ?aG ?aH lF.1).mono ?_);(case aG=>exact mC (Kd.aJ bN.1 HB.1));(case aH=>exact bX.1);rintro e w' ⟨rfl,⟨nd,rfl⟩⟩;refine⟨_,rfl,?_⟩));go_ret;exact⟨cW,(aM HB.1 Ad.1)⟩
end Go.Proofs.Ytgpkdbnikcghgaa.MD
