-- Written by mp.py, our own printer (wip/mp.py), and made shorter by wip/mp_shrink*.py.
import Derived.Test.YtgpkdbnikcghgaaVAll
import Derived.Test.YtgpkdbnikcghgaaMDx0
namespace Go.Proofs.Ytgpkdbnikcghgaa.MD
open Go.RowKit Go.Proofs.YtgpkdbnikcghgaaW.PrintWords Go.Proofs.YtgpkdbnikcghgaaW.PrintLast Go.Proofs.YtgpkdbnikcghgaaW.PrintMore Go.Proofs.Ytgpkdbnikcghgaa.MWords
attribute [local go_sem] max2_int min2_int max_two min_two max_three min_three max_four min_four
set_option linter.unusedVariables false
set_option linter.unusedSimpArgs false
def nc.l0:Nat→List (ah)→ByteArray→List (ah)→Int→Option ((List (ah)))
 |0,_,_,_,_=>none
 |k+1,x0,x1,x5,x6=>if x6<(x0.length:Int) then (if 0≤x6 then (if ((av x0 x6).f0).toList=x1.toList then (nc.l0 k x0 x1 x5 (wrap64 (x6+1))) else (if x5.length<5864062014805 then (nc.l0 k x0 x1 (x5++[(⟨(av x0 x6).f0,(av x0 x6).f1⟩:ah)]) (wrap64 (x6+1))) else (none))) else (none)) else (some x5)
def nc.f (k:Nat) (l0:List (ah)) (a1:ByteArray):Option ((List (ah))):=nc.l0 k l0 a1 (([]:List (ah))) 0
set_option maxHeartbeats 8000000 in
set_option maxRecDepth 100000 in
theorem nc.calls (k:Nat) (A0:Option Addr) (c0:Nat) (l0:List (ah)) (a1:ByteArray) (r:List (ah)) (w:World) (fu:Kd.C ay w A0 l0.length l0) (gE:l0.length≤c0) (h:nc.f k l0 a1=some r) :
 Calls Try.prog 51 #[.slice A0 l0.length c0,.string a1] w fun e w'=>∃dm:Value,e = .returned (dm)∧Kd.R ay 63 w' w.heap.size (fun _=>True) dm r∧Below w.heap.size w w':=by
 have Bd:=Try.underlying63;have jf:=J fu;have vr:=J gE;clear fu gE;have HB:=J (Below.refl w.heap.size w);have H:(nc.l0 k l0 a1 (([]:List (ah))) 0)=some r:=h;clear h;obtain⟨ad7,Im⟩:∃y_:List (ah),y_=(([]:List (ah))):=⟨_,rfl⟩;replace H:(nc.l0 k l0 a1 ad7 0)=some r:=by first|(rw[Im];with_reducible exact H)|(have aU:=(Option.bind_some _ _).symm.trans H;rw[Im];with_reducible exact aU)|(have aU:=(Option.bind_some _ _).symm.trans H;with_reducible exact aU)|with_reducible exact H|(rw[Im];exact H)|exact H
 have Xp:=J Im;clear Im;have H':=J H;clear H;go_enter Try.func51,Try.ntmps51;go_wp2_with (first|((with_reducible refine bh (N:=7) rfl ?_);refine Kd.qQ ay _ 63 ?hg (N:=7) ?hd (xs:=([]:List (ah))) (inner:=[]) (ok:=fun _=>True) (okp:=fun _=>True) ?hr ?hp (fun _ hk=>hk) trivial (Below.refl _ _) (Nat.le_refl _) (by simp) ?_;(case hd=>rfl);(case hg=>rfl);(case hr=>first|(go_simp;done)|(go_simp;rfl));(case hp=>exact(bB.none _ _));intro aCa w3 pe hb hg_ hnew_;clear hg_ hnew_;(first|rw[←Xp.1]at pe|(simp only[Int.reduceToNat]at pe;rw[←Xp.1]at pe));have afh:=J (Kd.cR pe (aV (mH HB.1)));replace HB:=J (aK (mH HB.1) hb);clear hb pe));go_loopg [5,6] k (fun kq v5 v6 w'=>∃(aE:List (ah)) (fk:Int),v6 = .int .i64 fk∧Aside0 (nc.l0 kq l0 a1 aE fk=some r)∧Aside0 (kq≤k)∧Aside0 (Kd.R ay 63 w' w.heap.size (fun _=>True) v5 aE)∧Aside0 (Below w.heap.size w w'))
 case atStart=>exact⟨(ad7),(0),mE,H',⟨Nat.le_refl _⟩,⟨mR afh.1⟩,⟨(mH HB.1)⟩⟩
 case round=>
  clear H'
  obtain⟨aE,fk,rfl,HA,br,e9,HB⟩:=hrel;cases gk with
  |zero=>exact absurd HA.1 (by simp[nc.l0])
  |succ k1=>
   have H:=HA.1;clear HA;simp only[nc.l0]at H;by_cases c5:fk<(l0.length:Int)
   ·rw[if_pos c5]at H;have kA:=decide_eq_true c5;clear c5;by_cases c6:0≤fk
    ·rw[if_pos c6]at H;have jT:=decide_eq_true c6;clear c6;by_cases c7:((av l0 fk).f0).toList=a1.toList
     ·rw[if_pos c7]at H;have yX:(((av l0 fk).f0).toList == a1.toList)=true:=beq_iff_eq.mpr c7;have PS:(((av l0 fk).f0).toList != a1.toList)=false:=bne_eq_false_iff_eq.mpr c7;clear c7;have H':=J H;clear H;have BB:0≤(fk:Int):=mD;have BS:fk<(l0.length:Int):=mD;obtain⟨XF,Qq,Hr,Hs⟩:=gZ jf.1 fk BB BS;cases Qq
      replace Hr:=mX HB.1 Hr;replace Hs:=mX HB.1 Hs;replace BB:=eq_true BB;replace BS:=eq_true BS;go_wp2;go_roundg k1
      case measure=>have:=br.1;omega
      case rel=>exact⟨(aE),(wrap64 (fk+1)),mE,H',⟨by have:=br.1;omega⟩,⟨mR e9.1⟩,⟨(mH HB.1)⟩⟩
     ·rw[if_neg c7]at H;have yX:(((av l0 fk).f0).toList == a1.toList)=false:=beq_eq_false_iff_ne.mpr c7;have PS:(((av l0 fk).f0).toList != a1.toList)=true:=bne_iff_ne.mpr c7;by_cases c8:aE.length<5864062014805
      ·rw[if_pos c8]at H;have afL:=J c8;clear c8;obtain⟨ad8,Io⟩:∃y_:List (ah),y_=(aE++[(⟨(av l0 fk).f0,(av l0 fk).f1⟩:ah)]):=⟨_,rfl⟩;replace H:(nc.l0 k1 l0 a1 ad8 (wrap64 (fk+1)))=some r:=by first|(rw[Io];with_reducible exact H)|(have aU:=(Option.bind_some _ _).symm.trans H;rw[Io];with_reducible exact aU)|(have aU:=(Option.bind_some _ _).symm.trans H;with_reducible exact aU)|with_reducible exact H|(rw[Io];exact H)|exact H
       have agy:=J Io;clear Io;have H':=J H;clear H;have BB:0≤(fk:Int):=mD;have BS:fk<(l0.length:Int):=mD;obtain⟨XF,Qq,Hr,Hs⟩:=gZ jf.1 fk BB BS;cases Qq
       replace Hr:=mX HB.1 Hr;replace Hs:=mX HB.1 Hs;replace BB:=eq_true BB;replace BS:=eq_true BS;have TC:0≤(fk:Int):=mD;have T7:fk<(l0.length:Int):=mD;obtain⟨ahc,aiE,abW,abX⟩:=gZ jf.1 fk TC T7;obtain rfl:XF=ahc:=(by injection aiE);replace abW:=mX HB.1 abW;replace abX:=mX HB.1 abX;replace TC:=eq_true TC;replace T7:=eq_true T7;go_wp2_with (first|((with_reducible refine lV (b:=.append) (xs:=#[.tmp 21,.tmp 26]) rfl ?_);at_builtin;refine Kd.pz ay (w0:=w) w.heap.size rfl (.tmp 21) (.tmp 26) 28 63 (.agg #[(.string ⟨#[]⟩),(.int .i64 0)]) 24 rfl Try.underlying28 iZ rfl (by decide) (by omega) u5 aE (⟨(av l0 fk).f0,(av l0 fk).f1⟩:ah) [.string ((av l0 fk).f0),.int .i64 ((av l0 fk).f1)] (fun _=>True) (fun _=>False) rfl rfl ?aP (fun _ hk=>hk.elim) ?aF ?aO ?aB ?aS ?aL ?_;(case aP=>exact rn _ _ _ (⟨(av l0 fk).f0,(av l0 fk).f1⟩:ah));(case aB=>exact(mH HB.1));(case aF=>exact(fun _ _=>trivial));(case aO=>exact(mR e9.1));(case aS=>exact(aV (mH HB.1)));(case aL=>have:=afL.1;omega);intro aCb w9 ho hb hg hat;rw[←agy.1]at ho;replace HB:=J (hb);have afi:=J (ho);clear e9;clear ho hb hg hat));go_roundg k1
       case measure=>have:=br.1;omega
       case rel=>exact⟨(ad8),(wrap64 (fk+1)),mE,H',⟨by have:=br.1;omega⟩,⟨mR afi.1⟩,⟨(mH HB.1)⟩⟩
      ·rw[if_neg c8]at H;exact absurd H (by simp)
    ·rw[if_neg c6]at H;exact absurd H (by simp)
   ·rw[if_neg c5]at H;have kA:=decide_eq_false c5;clear c5;obtain rfl:=Option.some.inj H;go_wp2;go_ret;exact⟨_,cW,mR e9.1,(mH HB.1)⟩
end Go.Proofs.Ytgpkdbnikcghgaa.MD
