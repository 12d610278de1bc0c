-- Written by mp.py, our own printer (wip/mp.py), and made shorter by wip/mp_shrink*.py.
import Derived.Test.YtgpkdbnikcghgaaVMShort
import Derived.Test.YtgpkdbnikcghgaaMDx0
namespace Go.Proofs.Ytgpkdbnikcghgaa.MD
open Go.RowKit Go.Proofs.YtgpkdbnikcghgaaW.PrintWords Go.Proofs.YtgpkdbnikcghgaaW.PrintLast Go.Proofs.YtgpkdbnikcghgaaW.PrintMore Go.Proofs.Ytgpkdbnikcghgaa.MWords
attribute [local go_sem] max2_int min2_int max_two min_two max_three min_three max_four min_four
set_option linter.unusedVariables false
set_option linter.unusedSimpArgs false
def sD.l0:Nat→List (ai)→ByteArray→List (ai)→Int→Option ((List (ai)))
 |0,_,_,_,_=>none
 |k+1,x0,x1,x5,x6=>if x6<(x0.length:Int) then (if 0≤x6 then (if ((aq x0 x6).f0).toList=x1.toList then (sD.l0 k x0 x1 x5 (wrap64 (x6+1))) else (if x5.length<5864062014805 then (sD.l0 k x0 x1 (x5++[(⟨(aq x0 x6).f0,(aq x0 x6).f1⟩:ai)]) (wrap64 (x6+1))) else (none))) else (none)) else (some x5)
def sD.f (k:Nat) (l0:List (ai)) (a1:ByteArray):Option ((List (ai))):=sD.l0 k l0 a1 (([]:List (ai))) 0
set_option maxHeartbeats 8000000 in
set_option maxRecDepth 100000 in
theorem sD.calls (k:Nat) (A0:Option Addr) (c0:Nat) (l0:List (ai)) (a1:ByteArray) (r:List (ai)) (w:World) (gF:Kd.C aK w A0 l0.length l0) (fi:l0.length≤c0) (h:sD.f k l0 a1=some r) :
 Calls Try.prog 51 #[.slice A0 l0.length c0,.string a1] w fun e w'=>∃fo:Value,e = .returned (fo)∧Kd.R aK 63 w' w.heap.size (fun _=>True) fo r∧Below w.heap.size w w':=by
 have Gy:=Try.underlying63;have fL:=J gF;have rG:=J fi;clear gF fi;have HB:=J (Below.refl w.heap.size w);have H:(sD.l0 k l0 a1 (([]:List (ai))) 0)=some r:=h;clear h;obtain⟨au8,aaf⟩:∃y_:List (ai),y_=(([]:List (ai))):=⟨_,rfl⟩;replace H:(sD.l0 k l0 a1 au8 0)=some r:=by first|(rw[aaf];with_reducible exact H)|(have bu:=(Option.bind_some _ _).symm.trans H;rw[aaf];with_reducible exact bu)|(have bu:=(Option.bind_some _ _).symm.trans H;with_reducible exact bu)|with_reducible exact H|(rw[aaf];exact H)|exact H
 have anC:=J aaf;clear aaf;have H':=J H;clear H;go_enter Try.func51,Try.ntmps51;go_wp2_with (first|((with_reducible refine bB (N:=7) rfl ?_);refine Kd.Dp aK _ 63 ?hg (N:=7) ?hd (xs:=([]:List (ai))) (inner:=[]) (ok:=fun _=>True) (okp:=fun _=>True) ?hr ?hp (fun _ hk=>hk) trivial (Below.refl _ _) (Nat.le_refl _) (by simp) ?_;(case hd=>rfl);(case hg=>rfl);(case hr=>first|(go_simp;done)|(go_simp;rfl));(case hp=>exact(dr.none _ _));intro aTq w3 Y4 hb hg_ hnew_;clear hg_ hnew_;(first|rw[←anC.1]at Y4|(simp only[Int.reduceToNat]at Y4;rw[←anC.1]at Y4));have awc:=J (Kd.cq Y4 (a7 (mH HB.1)));replace HB:=J (aG (mH HB.1) hb);clear hb Y4));go_loopg [5,6] k (fun kq v5 v6 w'=>∃(al:List (ai)) (nE:Int),v6 = .int .i64 nE∧Aside0 (sD.l0 kq l0 a1 al nE=some r)∧Aside0 (kq≤k)∧Aside0 (Kd.R aK 63 w' w.heap.size (fun _=>True) v5 al)∧Aside0 (Below w.heap.size w w'))
 case atStart=>exact⟨(au8),(0),mE,H',⟨Nat.le_refl _⟩,⟨mR awc.1⟩,⟨(mH HB.1)⟩⟩
 case round=>
  clear H'
  obtain⟨al,nE,rfl,HA,bI,kf,HB⟩:=hrel;cases gk with
  |zero=>exact absurd HA.1 (by simp[sD.l0])
  |succ k1=>
   have H:=HA.1;clear HA;simp only[sD.l0]at H;by_cases c5:nE<(l0.length:Int)
   ·rw[if_pos c5]at H;have nI:=decide_eq_true c5;clear c5;by_cases c6:0≤nE
    ·rw[if_pos c6]at H;have iW:=decide_eq_true c6;clear c6;by_cases c7:((aq l0 nE).f0).toList=a1.toList
     ·rw[if_pos c7]at H;have um:(((aq l0 nE).f0).toList == a1.toList)=true:=beq_iff_eq.mpr c7;have W9:(((aq l0 nE).f0).toList != a1.toList)=false:=bne_eq_false_iff_eq.mpr c7;clear c7;have H':=J H;clear H;have Q5:0≤(nE:Int):=mD;have Rw:nE<(l0.length:Int):=mD;obtain⟨anS,aha,ZG,ZH⟩:=lB fL.1 nE Q5 Rw;cases aha
      replace ZG:=mX HB.1 ZG;replace ZH:=mX HB.1 ZH;replace Q5:=eq_true Q5;replace Rw:=eq_true Rw;go_wp2;go_roundg k1
      case measure=>have:=bI.1;omega
      case rel=>exact⟨(al),(wrap64 (nE+1)),mE,H',⟨by have:=bI.1;omega⟩,⟨mR kf.1⟩,⟨(mH HB.1)⟩⟩
     ·rw[if_neg c7]at H;have um:(((aq l0 nE).f0).toList == a1.toList)=false:=beq_eq_false_iff_ne.mpr c7;have W9:(((aq l0 nE).f0).toList != a1.toList)=true:=bne_iff_ne.mpr c7;by_cases c8:al.length<5864062014805
      ·rw[if_pos c8]at H;have awI:=J c8;clear c8;obtain⟨au9,aag⟩:∃y_:List (ai),y_=(al++[(⟨(aq l0 nE).f0,(aq l0 nE).f1⟩:ai)]):=⟨_,rfl⟩;replace H:(sD.l0 k1 l0 a1 au9 (wrap64 (nE+1)))=some r:=by first|(rw[aag];with_reducible exact H)|(have bu:=(Option.bind_some _ _).symm.trans H;rw[aag];with_reducible exact bu)|(have bu:=(Option.bind_some _ _).symm.trans H;with_reducible exact bu)|with_reducible exact H|(rw[aag];exact H)|exact H
       have axO:=J aag;clear aag;have H':=J H;clear H;have Q5:0≤(nE:Int):=mD;have Rw:nE<(l0.length:Int):=mD;obtain⟨anS,aha,ZG,ZH⟩:=lB fL.1 nE Q5 Rw;cases aha
       replace ZG:=mX HB.1 ZG;replace ZH:=mX HB.1 ZH;replace Q5:=eq_true Q5;replace Rw:=eq_true Rw;have akB:0≤(nE:Int):=mD;have akT:nE<(l0.length:Int):=mD;obtain⟨ayx,azC,atq,atr⟩:=lB fL.1 nE akB akT;obtain rfl:anS=ayx:=(by injection azC);replace atq:=mX HB.1 atq;replace atr:=mX HB.1 atr;replace akB:=eq_true akB;replace akT:=eq_true akT;go_wp2_with (first|((with_reducible refine rm (b:=.append) (xs:=#[.tmp 21,.tmp 26]) rfl ?_);at_builtin;refine Kd.wN aK (w0:=w) w.heap.size rfl (.tmp 21) (.tmp 26) 28 63 (.agg #[(.string ⟨#[]⟩),(.int .i64 0)]) 24 rfl Try.underlying28 rv rfl (by decide) (by omega) u5 al (⟨(aq l0 nE).f0,(aq l0 nE).f1⟩:ai) [.string ((aq l0 nE).f0),.int .i64 ((aq l0 nE).f1)] (fun _=>True) (fun _=>False) rfl rfl ?aP (fun _ hk=>hk.elim) ?aF ?aO ?aB ?aS ?aL ?_;(case aP=>exact yv _ _ _ (⟨(aq l0 nE).f0,(aq l0 nE).f1⟩:ai));(case aB=>exact(mH HB.1));(case aF=>exact(fun _ _=>trivial));(case aO=>exact(mR kf.1));(case aS=>exact(a7 (mH HB.1)));(case aL=>have:=awI.1;omega);intro aTr w9 ho hb hg hat;rw[←axO.1]at ho;replace HB:=J (hb);have awd:=J (ho);clear kf;clear ho hb hg hat));go_roundg k1
       case measure=>have:=bI.1;omega
       case rel=>exact⟨(au9),(wrap64 (nE+1)),mE,H',⟨by have:=bI.1;omega⟩,⟨mR awd.1⟩,⟨(mH HB.1)⟩⟩
      ·rw[if_neg c8]at H;exact absurd H (by simp)
    ·rw[if_neg c6]at H;exact absurd H (by simp)
   ·rw[if_neg c5]at H;have nI:=decide_eq_false c5;clear c5;obtain rfl:=Option.some.inj H;go_wp2;go_ret;exact⟨_,cS,mR kf.1,(mH HB.1)⟩
end Go.Proofs.Ytgpkdbnikcghgaa.MD
