-- Written by mp.py, our own printer (wip/mp.py), and made shorter by wip/mp_shrink*.py.
import Derived.Test.YtgpkdbnikcghgaaVAll
import Derived.Test.YtgpkdbnikcghgaaMDx0
namespace Go.Proofs.Ytgpkdbnikcghgaa.MD
open Go.RowKit Go.Proofs.YtgpkdbnikcghgaaW.PrintWords Go.Proofs.YtgpkdbnikcghgaaW.PrintLast Go.Proofs.YtgpkdbnikcghgaaW.PrintMore Go.Proofs.Ytgpkdbnikcghgaa.MWords
attribute [local go_sem] max2_int min2_int max_two min_two max_three min_three max_four min_four
set_option linter.unusedVariables false
set_option linter.unusedSimpArgs false
def nh.l0:Nat→List (ah)→ByteArray→List (ah)→Int→Option ((List (ah)))
 |0,_,_,_,_=>none
 |k+1,x0,x1,x5,x6=>if x6<(x0.length:Int) then (if 0≤x6 then (if ((aw x0 x6).f0).toList=x1.toList then (nh.l0 k x0 x1 x5 (wrap64 (x6+1))) else (if x5.length<5864062014805 then (nh.l0 k x0 x1 (x5++[(⟨(aw x0 x6).f0,(aw x0 x6).f1⟩:ah)]) (wrap64 (x6+1))) else (none))) else (none)) else (some x5)
def nh.f (k:Nat) (l0:List (ah)) (a1:ByteArray):Option ((List (ah))):=nh.l0 k l0 a1 (([]:List (ah))) 0
set_option maxHeartbeats 8000000 in
set_option maxRecDepth 100000 in
theorem nh.calls (k:Nat) (A0:Option Addr) (c0:Nat) (l0:List (ah)) (a1:ByteArray) (r:List (ah)) (w:World) (e7:Kd.C ay w A0 l0.length l0) (gw:l0.length≤c0) (h:nh.f k l0 a1=some r) :
 Calls Try.prog 51 #[.slice A0 l0.length c0,.string a1] w fun e w'=>∃df:Value,e = .returned (df)∧Kd.R ay 63 w' w.heap.size (fun _=>True) df r∧Below w.heap.size w w':=by
 have DY:=Try.underlying63;have jf:=J e7;have sh:=J gw;clear e7 gw;have HB:=J (Below.refl w.heap.size w);have H:(nh.l0 k l0 a1 (([]:List (ah))) 0)=some r:=h;clear h;obtain⟨aeK,IU⟩:∃y_:List (ah),y_=(([]:List (ah))):=⟨_,rfl⟩;replace H:(nh.l0 k l0 a1 aeK 0)=some r:=by first|(rw[IU];with_reducible exact H)|(have aU:=(Option.bind_some _ _).symm.trans H;rw[IU];with_reducible exact aU)|(have aU:=(Option.bind_some _ _).symm.trans H;with_reducible exact aU)|with_reducible exact H|(rw[IU];exact H)|exact H
 have Yf:=J IU;clear IU;have H':=J H;clear H;go_enter Try.func51,Try.ntmps51;go_wp2_with (first|((with_reducible refine bk (N:=7) rfl ?_);refine Kd.q7 ay _ 63 ?hg (N:=7) ?hd (xs:=([]:List (ah))) (inner:=[]) (ok:=fun _=>True) (okp:=fun _=>True) ?hr ?hp (fun _ hk=>hk) trivial (Below.refl _ _) (Nat.le_refl _) (by simp) ?_;(case hd=>rfl);(case hg=>rfl);(case hr=>first|(go_simp;done)|(go_simp;rfl));(case hp=>exact(bJ.none _ _));intro aCV w3 pw hb hg_ hnew_;clear hg_ hnew_;(first|rw[←Yf.1]at pw|(simp only[Int.reduceToNat]at pw;rw[←Yf.1]at pw));have afT:=J (Kd.cJ pw (aT (mH HB.1)));replace HB:=J (aK (mH HB.1) hb);clear hb pw));go_loopg [5,6] k (fun kq v5 v6 w'=>∃(aJ:List (ah)) (fx:Int),v6 = .int .i64 fx∧Aside0 (nh.l0 kq l0 a1 aJ fx=some r)∧Aside0 (kq≤k)∧Aside0 (Kd.R ay 63 w' w.heap.size (fun _=>True) v5 aJ)∧Aside0 (Below w.heap.size w w'))
 case atStart=>exact⟨(aeK),(0),mE,H',⟨Nat.le_refl _⟩,⟨mR afT.1⟩,⟨(mH HB.1)⟩⟩
 case round=>
  clear H'
  obtain⟨aJ,fx,rfl,HA,bA,fj,HB⟩:=hrel;cases gk with
  |zero=>exact absurd HA.1 (by simp[nh.l0])
  |succ k1=>
   have H:=HA.1;clear HA;simp only[nh.l0]at H;by_cases c5:fx<(l0.length:Int)
   ·rw[if_pos c5]at H;have j8:=decide_eq_true c5;clear c5;by_cases c6:0≤fx
    ·rw[if_pos c6]at H;have jU:=decide_eq_true c6;clear c6;by_cases c7:((aw l0 fx).f0).toList=a1.toList
     ·rw[if_pos c7]at H;have zq:(((aw l0 fx).f0).toList == a1.toList)=true:=beq_iff_eq.mpr c7;have Qp:(((aw l0 fx).f0).toList != a1.toList)=false:=bne_eq_false_iff_eq.mpr c7;clear c7;have H':=J H;clear H;have Ce:0≤(fx:Int):=mD;have Cw:fx<(l0.length:Int):=mD;obtain⟨Yu,QT,Ib,Ic⟩:=iH jf.1 fx Ce Cw;cases QT
      replace Ib:=mX HB.1 Ib;replace Ic:=mX HB.1 Ic;replace Ce:=eq_true Ce;replace Cw:=eq_true Cw;go_wp2;go_roundg k1
      case measure=>have:=bA.1;omega
      case rel=>exact⟨(aJ),(wrap64 (fx+1)),mE,H',⟨by have:=bA.1;omega⟩,⟨mR fj.1⟩,⟨(mH HB.1)⟩⟩
     ·rw[if_neg c7]at H;have zq:(((aw l0 fx).f0).toList == a1.toList)=false:=beq_eq_false_iff_ne.mpr c7;have Qp:(((aw l0 fx).f0).toList != a1.toList)=true:=bne_iff_ne.mpr c7;by_cases c8:aJ.length<5864062014805
      ·rw[if_pos c8]at H;have ago:=J c8;clear c8;obtain⟨aeL,IV⟩:∃y_:List (ah),y_=(aJ++[(⟨(aw l0 fx).f0,(aw l0 fx).f1⟩:ah)]):=⟨_,rfl⟩;replace H:(nh.l0 k1 l0 a1 aeL (wrap64 (fx+1)))=some r:=by first|(rw[IV];with_reducible exact H)|(have aU:=(Option.bind_some _ _).symm.trans H;rw[IV];with_reducible exact aU)|(have aU:=(Option.bind_some _ _).symm.trans H;with_reducible exact aU)|with_reducible exact H|(rw[IV];exact H)|exact H
       have ahg:=J IV;clear IV;have H':=J H;clear H;have Ce:0≤(fx:Int):=mD;have Cw:fx<(l0.length:Int):=mD;obtain⟨Yu,QT,Ib,Ic⟩:=iH jf.1 fx Ce Cw;cases QT
       replace Ib:=mX HB.1 Ib;replace Ic:=mX HB.1 Ic;replace Ce:=eq_true Ce;replace Cw:=eq_true Cw;have Ur:0≤(fx:Int):=mD;have UR:fx<(l0.length:Int):=mD;obtain⟨ahT,ajl,acE,acF⟩:=iH jf.1 fx Ur UR;obtain rfl:Yu=ahT:=(by injection ajl);replace acE:=mX HB.1 acE;replace acF:=mX HB.1 acF;replace Ur:=eq_true Ur;replace UR:=eq_true UR;go_wp2_with (first|((with_reducible refine ma (b:=.append) (xs:=#[.tmp 21,.tmp 26]) rfl ?_);at_builtin;refine Kd.qm ay (w0:=w) w.heap.size rfl (.tmp 21) (.tmp 26) 28 63 (.agg #[(.string ⟨#[]⟩),(.int .i64 0)]) 24 rfl Try.underlying28 jn rfl (by decide) (by omega) u5 aJ (⟨(aw l0 fx).f0,(aw l0 fx).f1⟩:ah) [.string ((aw l0 fx).f0),.int .i64 ((aw l0 fx).f1)] (fun _=>True) (fun _=>False) rfl rfl ?aP (fun _ hk=>hk.elim) ?aF ?aO ?aB ?aS ?aL ?_;(case aP=>exact tr _ _ _ (⟨(aw l0 fx).f0,(aw l0 fx).f1⟩:ah));(case aB=>exact(mH HB.1));(case aF=>exact(fun _ _=>trivial));(case aO=>exact(mR fj.1));(case aS=>exact(aT (mH HB.1)));(case aL=>have:=ago.1;omega);intro aCW w9 ho hb hg hat;rw[←ahg.1]at ho;replace HB:=J (hb);have afU:=J (ho);clear fj;clear ho hb hg hat));go_roundg k1
       case measure=>have:=bA.1;omega
       case rel=>exact⟨(aeL),(wrap64 (fx+1)),mE,H',⟨by have:=bA.1;omega⟩,⟨mR afU.1⟩,⟨(mH HB.1)⟩⟩
      ·rw[if_neg c8]at H;exact absurd H (by simp)
    ·rw[if_neg c6]at H;exact absurd H (by simp)
   ·rw[if_neg c5]at H;have j8:=decide_eq_false c5;clear c5;obtain rfl:=Option.some.inj H;go_wp2;go_ret;exact⟨_,de,mR fj.1,(mH HB.1)⟩
end Go.Proofs.Ytgpkdbnikcghgaa.MD
