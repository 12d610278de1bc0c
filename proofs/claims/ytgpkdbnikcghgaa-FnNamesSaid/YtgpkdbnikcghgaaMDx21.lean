-- Written by mp.py, our own printer (wip/mp.py), and made shorter by wip/mp_shrink*.py.
import Derived.Test.YtgpkdbnikcghgaaVAll
import Derived.Test.YtgpkdbnikcghgaaMDx0
namespace Go.Proofs.Ytgpkdbnikcghgaa.MD
open Go.RowKit Go.Proofs.YtgpkdbnikcghgaaW.PrintWords Go.Proofs.YtgpkdbnikcghgaaW.PrintLast Go.Proofs.YtgpkdbnikcghgaaW.PrintMore Go.Proofs.Ytgpkdbnikcghgaa.MWords
attribute [local go_sem] max2_int min2_int max_two min_two max_three min_three max_four min_four
set_option linter.unusedVariables false
set_option linter.unusedSimpArgs false
mutual
def dJ.l0:Nat→List (ah)→List (ah)→Bool→Int→ByteArray→Int→Option ((List (ah)))
 |0,_,_,_,_,_,_=>none
 |k+1,x0,x5,x6,x7,tk,wv=>if x7<(x0.length:Int) then (if x6=true then (dJ.j1 k x0 x5 x6 x7 false tk wv) else (if 0≤x7 then (dJ.j1 k x0 x5 x6 x7 (!(Op.bytesLess (((av x0 x7).f0).toList) tk.toList)) tk wv) else (none))) else (if x6=true then (some x5) else (if x5.length<5864062014805 then (some (x5++[(⟨tk,wv⟩:ah)])) else (none)))
def dJ.j1:Nat→List (ah)→List (ah)→Bool→Int→Bool→ByteArray→Int→Option ((List (ah)))
 |0,_,_,_,_,_,_,_=>none
 |k+1,x0,x5,x6,x7,x26,tk,wv=>if x26=true then (if x5.length<5864062014805 then (dJ.j2 k x0 (x5++[(⟨tk,wv⟩:ah)]) true x7 tk wv) else (none)) else (dJ.j2 k x0 x5 x6 x7 tk wv)
def dJ.j2:Nat→List (ah)→List (ah)→Bool→Int→ByteArray→Int→Option ((List (ah)))
 |0,_,_,_,_,_,_=>none
 |k+1,x0,x5,x6,x7,tk,wv=>if 0≤x7 then (if x7<(x0.length:Int) then (if ((av x0 x7).f0).toList=tk.toList then (dJ.l0 k x0 x5 x6 (wrap64 (x7+1)) tk wv) else (if x5.length<5864062014805 then (dJ.l0 k x0 (x5++[(⟨(av x0 x7).f0,(av x0 x7).f1⟩:ah)]) x6 (wrap64 (x7+1)) tk wv) else (none))) else (none)) else (none)
end
def dJ.f (k:Nat) (l0:List (ah)) (dC:ByteArray) (dW:Int):Option ((List (ah))):=dJ.l0 k l0 (([]:List (ah))) false 0 dC dW
set_option maxHeartbeats 8000000 in
set_option maxRecDepth 100000 in
theorem dJ.calls (k:Nat) (A0:Option Addr) (c0:Nat) (l0:List (ah)) (dC:ByteArray) (dW:Int) (r:List (ah)) (w:World) (fu:Kd.C ay w A0 l0.length l0) (gE:l0.length≤c0) (h:dJ.f k l0 dC dW=some r) :
 Calls Try.prog 50 #[.slice A0 l0.length c0,.agg #[.string dC,.int .i64 dW]] w fun e w'=>∃dm:Value,e = .returned (dm)∧Kd.R ay 63 w' w.heap.size (fun _=>True) dm r∧Below w.heap.size w w':=by
 have Bd:=Try.underlying63;have jf:=J fu;have vr:=J gE;clear fu gE;have HB:=J (Below.refl w.heap.size w);have H:(dJ.l0 k l0 (([]:List (ah))) false 0 dC dW)=some r:=h;clear h;obtain⟨adV,Ht⟩:∃y_:List (ah),y_=(([]:List (ah))):=⟨_,rfl⟩;replace H:(dJ.l0 k l0 adV false 0 dC dW)=some r:=by first|(rw[Ht];with_reducible exact H)|(have aU:=(Option.bind_some _ _).symm.trans H;rw[Ht];with_reducible exact aU)|(have aU:=(Option.bind_some _ _).symm.trans H;with_reducible exact aU)|with_reducible exact H|(rw[Ht];exact H)|exact H
 have CP:=J Ht;clear Ht;have H':=J H;clear H;go_enter Try.func50,Try.ntmps50;go_wp2_with (first|((with_reducible refine bh (N:=3) rfl ?_);refine bw 3 #[.string dC,.int .i64 dW] 63 ?_;intro gT hg w3 hbox hb;have ek:=J (hbox);have VW:=mG hg (mH HB.1);have ir:=mG hg (mH HB.1);replace HB:=J (aK (mH HB.1) hb);clear hb hbox hg)|((with_reducible refine bh (N:=8) rfl ?_);refine Kd.qQ ay _ 63 ?hg (N:=8) ?hd (xs:=([]:List (ah))) (inner:=[]) (ok:=fun _=>True) (okp:=fun _=>True) ?hr ?hp (fun _ hk=>hk) trivial (Below.refl _ _) (Nat.le_refl _) (by simp) ?_;(case hd=>rfl);(case hg=>rfl);(case hr=>first|(go_simp;done)|(go_simp;rfl));(case hp=>exact(bB.none _ _));intro adE w4 lZ hb hg_ hnew_;clear hg_ hnew_;(first|rw[←CP.1]at lZ|(simp only[Int.reduceToNat]at lZ;rw[←CP.1]at lZ));have Ob:=J (Kd.cR (Kd.CU lZ (g:=gT) (o:=.cells #[.string dC,.int .i64 dW] 63 (0,0)) (mK ek.1)) (aV (aM HB.1 ir.1)));replace ek:=mB ek hb;replace HB:=J (aK (aM HB.1 ir.1) hb);clear hb lZ))
 repeat (go_quiet (first|((with_reducible refine bh (N:=3) rfl ?_);refine bw 3 #[.string dC,.int .i64 dW] 63 ?_;intro gT hg w3 hbox hb;have ek:=J (hbox);have VW:=mG hg (mH HB.1);have ir:=mG hg (mH HB.1);replace HB:=J (aK (mH HB.1) hb);clear hb hbox hg)|((with_reducible refine bh (N:=8) rfl ?_);refine Kd.qQ ay _ 63 ?hg (N:=8) ?hd (xs:=([]:List (ah))) (inner:=[]) (ok:=fun _=>True) (okp:=fun _=>True) ?hr ?hp (fun _ hk=>hk) trivial (Below.refl _ _) (Nat.le_refl _) (by simp) ?_;(case hd=>rfl);(case hg=>rfl);(case hr=>first|(go_simp;done)|(go_simp;rfl));(case hp=>exact(bB.none _ _));intro adE w4 lZ hb hg_ hnew_;clear hg_ hnew_;(first|rw[←CP.1]at lZ|(simp only[Int.reduceToNat]at lZ;rw[←CP.1]at lZ));have Ob:=J (Kd.cR (Kd.CU lZ (g:=gT) (o:=.cells #[.string dC,.int .i64 dW] 63 (0,0)) (mK ek.1)) (aV (aM HB.1 ir.1)));replace ek:=mB ek hb;replace HB:=J (aK (aM HB.1 ir.1) hb);clear hb lZ));try go_wp2_with (first|((with_reducible refine bh (N:=3) rfl ?_);refine bw 3 #[.string dC,.int .i64 dW] 63 ?_;intro gT hg w3 hbox hb;have ek:=J (hbox);have VW:=mG hg (mH HB.1);have ir:=mG hg (mH HB.1);replace HB:=J (aK (mH HB.1) hb);clear hb hbox hg)|((with_reducible refine bh (N:=8) rfl ?_);refine Kd.qQ ay _ 63 ?hg (N:=8) ?hd (xs:=([]:List (ah))) (inner:=[]) (ok:=fun _=>True) (okp:=fun _=>True) ?hr ?hp (fun _ hk=>hk) trivial (Below.refl _ _) (Nat.le_refl _) (by simp) ?_;(case hd=>rfl);(case hg=>rfl);(case hr=>first|(go_simp;done)|(go_simp;rfl));(case hp=>exact(bB.none _ _));intro adE w4 lZ hb hg_ hnew_;clear hg_ hnew_;(first|rw[←CP.1]at lZ|(simp only[Int.reduceToNat]at lZ;rw[←CP.1]at lZ));have Ob:=J (Kd.cR (Kd.CU lZ (g:=gT) (o:=.cells #[.string dC,.int .i64 dW] 63 (0,0)) (mK ek.1)) (aV (aM HB.1 ir.1)));replace ek:=mB ek hb;replace HB:=J (aK (aM HB.1 ir.1) hb);clear hb lZ)))
 go_loopg [5,6,7] k (fun kq v5 v6 v7 w'=>∃(aE:List (ah)) (fk:Bool) (eK:Int),v6 = .bool fk∧v7 = .int .i64 eK∧Aside0 (dJ.l0 kq l0 aE fk eK dC dW=some r)∧Aside0 (kq≤k)∧Aside0 (Kd.R ay 63 w' w.heap.size (fun k_=>k_≠gT) v5 aE)∧Aside0 (w'.heap[gT]? = some (.cells #[.string dC,.int .i64 dW] 63 (0,0)))∧Aside0 (Below w.heap.size w w'))
 case atStart=>exact⟨(adV),(false),(0),mE,mE,H',⟨Nat.le_refl _⟩,⟨by refine mR ?_;exact Kd.aD Ob.1 (fun _ hk=>hk.2)⟩,⟨mK ek.1⟩,⟨(aM HB.1 ir.1)⟩⟩
 case round=>
  clear H'
  obtain⟨aE,fk,eK,rfl,rfl,HA,br,e9,ek,HB⟩:=hrel;cases gk with
  |zero=>exact absurd HA.1 (by simp[dJ.l0])
  |succ k1=>
   have H:=HA.1;clear HA;simp only[dJ.l0]at H;by_cases c6:eK<(l0.length:Int)
   ·rw[if_pos c6]at H;have jT:=decide_eq_true c6;clear c6;have pX:=J H;clear H;go_upto_region 6 with (fail)
    repeat (go_quiet (fail);go_upto_region 6 with (fail))
    go_cut [26] (fun v26 wc=>∃(kq:Nat) (Nt:Bool),v26 = .bool Nt∧Aside0 (dJ.j1 kq l0 aE fk eK Nt dC dW=some r)∧Aside0 (kq≤k1)∧Aside0 (Kd.R ay 63 wc w.heap.size (fun k_=>k_≠gT) u5 aE)∧Aside0 (wc.heap[gT]? = some (.cells #[.string dC,.int .i64 dW] 63 (0,0)))∧Aside0 (Below w.heap.size w wc))
    case first=>
     have H:=pX.1;clear pX;by_cases c8:fk=true
     ·subst c8;have H1:=H;rw[if_pos rfl]at H1;clear H;have H:=H1;clear H1;have H':=J H;clear H;go_wp2
      repeat (go_quiet (fail);try go_wp2)
      go_meet
      case rel=>exact⟨_,(false),mE,H',⟨by have:=br.1;first|omega|exact Nat.le_refl _⟩,⟨mR e9.1⟩,⟨mK ek.1⟩,⟨(aM HB.1 ir.1)⟩⟩
     ·replace c8:=Bool.eq_false_iff.mpr c8;subst c8;have H1:=H;rw[if_neg (show ¬(false=true) by decide)]at H1;clear H;have H:=H1;clear H1;by_cases c9:0≤eK
      ·rw[if_pos c9]at H;have yY:=decide_eq_true c9;clear c9
       (first|rw[yY]|(simp only[ij,jC];rw[yY])|skip)
       have H':=J H;clear H;have Tk:0≤(eK:Int):=mD;have TH:eK<(l0.length:Int):=mD;obtain⟨arx,aik,abp,abq⟩:=gZ jf.1 eK Tk TH;cases aik
       replace abp:=mX HB.1 abp;replace abq:=mX HB.1 abq;replace Tk:=eq_true Tk;replace TH:=eq_true TH;obtain⟨xo,xp,xv,xw⟩:=sl ek.1;go_wp2
       repeat (go_quiet (fail);try go_wp2)
       go_meet
       case rel=>exact⟨_,(!(Op.bytesLess (((av l0 eK).f0).toList) dC.toList)),mE,H',⟨by have:=br.1;first|omega|exact Nat.le_refl _⟩,⟨mR e9.1⟩,⟨mK ek.1⟩,⟨(aM HB.1 ir.1)⟩⟩
      ·rw[if_neg c9]at H;exact absurd H (by simp)
    case rest=>
     clear pX
     try clear c6
     try clear jT
     obtain⟨kq,Nt,rfl,HA,pY,e9,ek,HB⟩:=hcut;cases kq with
     |zero=>exact absurd HA.1 (by simp[dJ.j1])
     |succ zq=>
      have H:=HA.1;clear HA;simp only[dJ.j1]at H;have Af:=J H;clear H;go_upto_if 26 with (fail)
      repeat (go_quiet (fail);go_upto_if 26 with (fail))
      go_cut [5,6] (fun v5 v6 wc=>∃(kq:Nat) (yh:List (ah)) (Ee:Bool),v6 = .bool Ee∧Aside0 (dJ.j2 kq l0 yh Ee eK dC dW=some r)∧Aside0 (kq≤zq)∧Aside0 (Kd.R ay 63 wc w.heap.size (fun k_=>k_≠gT) v5 yh)∧Aside0 (wc.heap[gT]? = some (.cells #[.string dC,.int .i64 dW] 63 (0,0)))∧Aside0 (Below w.heap.size w wc))
      case first=>
       have H:=Af.1;clear Af;by_cases gK:Nt=true
       ·subst gK;have H1:=H;rw[if_pos rfl]at H1;clear H;have H:=H1;clear H1;by_cases jo:aE.length<5864062014805
        ·rw[if_pos jo]at H;have Oq:=J jo;clear jo;obtain⟨adW,Hu⟩:∃y_:List (ah),y_=(aE++[(⟨dC,dW⟩:ah)]):=⟨_,rfl⟩;replace H:(dJ.j2 zq l0 adW true eK dC dW)=some r:=by first|(rw[Hu];with_reducible exact H)|(have aU:=(Option.bind_some _ _).symm.trans H;rw[Hu];with_reducible exact aU)|(have aU:=(Option.bind_some _ _).symm.trans H;with_reducible exact aU)|with_reducible exact H|(rw[Hu];exact H)|exact H
         have O2:=J Hu;clear Hu;have H':=J H;clear H;obtain⟨AW,AX,Ba,Bb⟩:=sl ek.1;go_wp2_with (first|((with_reducible refine lV (b:=.append) (xs:=#[.tmp 27,.tmp 29]) rfl ?_);at_builtin;refine Kd.pz ay (w0:=w) w.heap.size rfl (.tmp 27) (.tmp 29) 28 63 (.agg #[(.string ⟨#[]⟩),(.int .i64 0)]) 24 rfl Try.underlying28 iZ rfl (by decide) (by omega) u5 aE (⟨dC,dW⟩:ah) [.string dC,.int .i64 dW] (fun k_=>k_≠gT) (fun _=>False) rfl rfl ?aP (fun _ hk=>hk.elim) ?aF ?aO ?aB ?aS ?aL ?_;(case aP=>exact rn _ _ _ (⟨dC,dW⟩:ah));(case aB=>exact(aM HB.1 ir.1));(case aF=>exact(fun k_ hk=>Kd.cA (g:=gT) (o:=.cells #[.string dC,.int .i64 dW] 63 (0,0)) (mK ek.1) k_ hk));(case aO=>exact(mR e9.1));(case aS=>exact(aV (aM HB.1 ir.1)));(case aL=>have:=Oq.1;omega);intro adF nO ho hb hg hat;rw[←O2.1]at ho;replace ek:=J (bW (g:=gT) (o:=.cells #[.string dC,.int .i64 dW] 63 (0,0)) (mK ek.1) hg (Kd.sQ e9.1 (fun _ hk=>hk)));replace HB:=J (hb);have Oc:=J (ho);clear e9;clear ho hb hg hat))
         repeat (go_quiet (first|((with_reducible refine lV (b:=.append) (xs:=#[.tmp 27,.tmp 29]) rfl ?_);at_builtin;refine Kd.pz ay (w0:=w) w.heap.size rfl (.tmp 27) (.tmp 29) 28 63 (.agg #[(.string ⟨#[]⟩),(.int .i64 0)]) 24 rfl Try.underlying28 iZ rfl (by decide) (by omega) u5 aE (⟨dC,dW⟩:ah) [.string dC,.int .i64 dW] (fun k_=>k_≠gT) (fun _=>False) rfl rfl ?aP (fun _ hk=>hk.elim) ?aF ?aO ?aB ?aS ?aL ?_;(case aP=>exact rn _ _ _ (⟨dC,dW⟩:ah));(case aB=>exact(aM HB.1 ir.1));(case aF=>exact(fun k_ hk=>Kd.cA (g:=gT) (o:=.cells #[.string dC,.int .i64 dW] 63 (0,0)) (mK ek.1) k_ hk));(case aO=>exact(mR e9.1));(case aS=>exact(aV (aM HB.1 ir.1)));(case aL=>have:=Oq.1;omega);intro adF nO ho hb hg hat;rw[←O2.1]at ho;replace ek:=J (bW (g:=gT) (o:=.cells #[.string dC,.int .i64 dW] 63 (0,0)) (mK ek.1) hg (Kd.sQ e9.1 (fun _ hk=>hk)));replace HB:=J (hb);have Oc:=J (ho);clear e9;clear ho hb hg hat));try go_wp2_with (first|((with_reducible refine lV (b:=.append) (xs:=#[.tmp 27,.tmp 29]) rfl ?_);at_builtin;refine Kd.pz ay (w0:=w) w.heap.size rfl (.tmp 27) (.tmp 29) 28 63 (.agg #[(.string ⟨#[]⟩),(.int .i64 0)]) 24 rfl Try.underlying28 iZ rfl (by decide) (by omega) u5 aE (⟨dC,dW⟩:ah) [.string dC,.int .i64 dW] (fun k_=>k_≠gT) (fun _=>False) rfl rfl ?aP (fun _ hk=>hk.elim) ?aF ?aO ?aB ?aS ?aL ?_;(case aP=>exact rn _ _ _ (⟨dC,dW⟩:ah));(case aB=>exact(aM HB.1 ir.1));(case aF=>exact(fun k_ hk=>Kd.cA (g:=gT) (o:=.cells #[.string dC,.int .i64 dW] 63 (0,0)) (mK ek.1) k_ hk));(case aO=>exact(mR e9.1));(case aS=>exact(aV (aM HB.1 ir.1)));(case aL=>have:=Oq.1;omega);intro adF nO ho hb hg hat;rw[←O2.1]at ho;replace ek:=J (bW (g:=gT) (o:=.cells #[.string dC,.int .i64 dW] 63 (0,0)) (mK ek.1) hg (Kd.sQ e9.1 (fun _ hk=>hk)));replace HB:=J (hb);have Oc:=J (ho);clear e9;clear ho hb hg hat)))
         go_meet
         case rel=>exact⟨_,(adW),(true),mE,H',⟨by have:=br.1;have:=pY.1;first|omega|exact Nat.le_refl _⟩,⟨mR Oc.1⟩,⟨mK ek.1⟩,⟨(aM HB.1 ir.1)⟩⟩
        ·rw[if_neg jo]at H;exact absurd H (by simp)
       ·replace gK:=Bool.eq_false_iff.mpr gK;subst gK;have H1:=H;rw[if_neg (show ¬(false=true) by decide)]at H1;clear H;have H:=H1;clear H1;have H':=J H;clear H;go_wp2
        repeat (go_quiet (fail);try go_wp2)
        go_meet
        case rel=>exact⟨_,(aE),(fk),mE,H',⟨by have:=br.1;have:=pY.1;first|omega|exact Nat.le_refl _⟩,⟨mR e9.1⟩,⟨mK ek.1⟩,⟨(aM HB.1 ir.1)⟩⟩
      case rest=>
       clear Af
       try clear c6
       try clear jT
       obtain⟨kq,yh,Ee,rfl,HA,Ah,e9,ek,HB⟩:=hcut;cases kq with
       |zero=>exact absurd HA.1 (by simp[dJ.j2])
       |succ Iy=>
        have H:=HA.1;clear HA;simp only[dJ.j2]at H;by_cases qW:0≤eK
        ·rw[if_pos qW]at H;have ahz:=decide_eq_true qW;clear qW;by_cases qX:eK<(l0.length:Int)
         ·rw[if_pos qX]at H;have ahA:=decide_eq_true qX;clear qX;by_cases jq:((av l0 eK).f0).toList=dC.toList
          ·rw[if_pos jq]at H;have vG:(((av l0 eK).f0).toList == dC.toList)=true:=beq_iff_eq.mpr jq;have ahB:(((av l0 eK).f0).toList != dC.toList)=false:=bne_eq_false_iff_eq.mpr jq;clear jq;have H':=J H;clear H;have Bm:0≤(eK:Int):=mD;have BD:eK<(l0.length:Int):=mD;obtain⟨XE,P9,G4,G5⟩:=gZ jf.1 eK Bm BD;cases P9
           replace G4:=mX HB.1 G4;replace G5:=mX HB.1 G5;replace Bm:=eq_true Bm;replace BD:=eq_true BD;obtain⟨Di,Dj,Dq,Dr⟩:=sl ek.1;go_wp2
           repeat (go_quiet (fail);try go_wp2)
           go_roundg Iy
           case measure=>have:=br.1;have:=pY.1;have:=Ah.1;omega
           case rel=>exact⟨(yh),(Ee),(wrap64 (eK+1)),mE,mE,H',⟨by have:=br.1;have:=pY.1;have:=Ah.1;omega⟩,⟨mR e9.1⟩,⟨mK ek.1⟩,⟨(aM HB.1 ir.1)⟩⟩
          ·rw[if_neg jq]at H;have vG:(((av l0 eK).f0).toList == dC.toList)=false:=beq_eq_false_iff_ne.mpr jq;have ahB:(((av l0 eK).f0).toList != dC.toList)=true:=bne_iff_ne.mpr jq;by_cases n7:yh.length<5864062014805
           ·rw[if_pos n7]at H;have Ot:=J n7;clear n7;obtain⟨adX,Hv⟩:∃y_:List (ah),y_=(yh++[(⟨(av l0 eK).f0,(av l0 eK).f1⟩:ah)]):=⟨_,rfl⟩;replace H:(dJ.l0 Iy l0 adX Ee (wrap64 (eK+1)) dC dW)=some r:=by first|(rw[Hv];with_reducible exact H)|(have aU:=(Option.bind_some _ _).symm.trans H;rw[Hv];with_reducible exact aU)|(have aU:=(Option.bind_some _ _).symm.trans H;with_reducible exact aU)|with_reducible exact H|(rw[Hv];exact H)|exact H
            have O3:=J Hv;clear Hv;have H':=J H;clear H;have Bm:0≤(eK:Int):=mD;have BD:eK<(l0.length:Int):=mD;obtain⟨XE,P9,G4,G5⟩:=gZ jf.1 eK Bm BD;cases P9
            replace G4:=mX HB.1 G4;replace G5:=mX HB.1 G5;replace Bm:=eq_true Bm;replace BD:=eq_true BD;obtain⟨Gj,Gk,Gx,Gy⟩:=sl ek.1;have Tl:0≤(eK:Int):=mD;have TI:eK<(l0.length:Int):=mD;obtain⟨agS,ail,abr,abt⟩:=gZ jf.1 eK Tl TI;obtain rfl:XE=agS:=(by injection ail);replace abr:=mX HB.1 abr;replace abt:=mX HB.1 abt;replace Tl:=eq_true Tl;replace TI:=eq_true TI;go_wp2_with (first|((with_reducible refine lV (b:=.append) (xs:=#[.tmp 39,.tmp 44]) rfl ?_);at_builtin;refine Kd.pz ay (w0:=w) w.heap.size rfl (.tmp 39) (.tmp 44) 28 63 (.agg #[(.string ⟨#[]⟩),(.int .i64 0)]) 24 rfl Try.underlying28 iZ rfl (by decide) (by omega) u5 yh (⟨(av l0 eK).f0,(av l0 eK).f1⟩:ah) [.string ((av l0 eK).f0),.int .i64 ((av l0 eK).f1)] (fun k_=>k_≠gT) (fun _=>False) rfl rfl ?aP (fun _ hk=>hk.elim) ?aF ?aO ?aB ?aS ?aL ?_;(case aP=>exact rn _ _ _ (⟨(av l0 eK).f0,(av l0 eK).f1⟩:ah));(case aB=>exact(aM HB.1 ir.1));(case aF=>exact(fun k_ hk=>Kd.cA (g:=gT) (o:=.cells #[.string dC,.int .i64 dW] 63 (0,0)) (mK ek.1) k_ hk));(case aO=>exact(mR e9.1));(case aS=>exact(aV (aM HB.1 ir.1)));(case aL=>have:=Ot.1;omega);intro adG US ho hb hg hat;rw[←O3.1]at ho;replace ek:=J (bW (g:=gT) (o:=.cells #[.string dC,.int .i64 dW] 63 (0,0)) (mK ek.1) hg (Kd.sQ e9.1 (fun _ hk=>hk)));replace HB:=J (hb);have Od:=J (ho);clear e9;clear ho hb hg hat))
            repeat (go_quiet (first|((with_reducible refine lV (b:=.append) (xs:=#[.tmp 39,.tmp 44]) rfl ?_);at_builtin;refine Kd.pz ay (w0:=w) w.heap.size rfl (.tmp 39) (.tmp 44) 28 63 (.agg #[(.string ⟨#[]⟩),(.int .i64 0)]) 24 rfl Try.underlying28 iZ rfl (by decide) (by omega) u5 yh (⟨(av l0 eK).f0,(av l0 eK).f1⟩:ah) [.string ((av l0 eK).f0),.int .i64 ((av l0 eK).f1)] (fun k_=>k_≠gT) (fun _=>False) rfl rfl ?aP (fun _ hk=>hk.elim) ?aF ?aO ?aB ?aS ?aL ?_;(case aP=>exact rn _ _ _ (⟨(av l0 eK).f0,(av l0 eK).f1⟩:ah));(case aB=>exact(aM HB.1 ir.1));(case aF=>exact(fun k_ hk=>Kd.cA (g:=gT) (o:=.cells #[.string dC,.int .i64 dW] 63 (0,0)) (mK ek.1) k_ hk));(case aO=>exact(mR e9.1));(case aS=>exact(aV (aM HB.1 ir.1)));(case aL=>have:=Ot.1;omega);intro adG US ho hb hg hat;rw[←O3.1]at ho;replace ek:=J (bW (g:=gT) (o:=.cells #[.string dC,.int .i64 dW] 63 (0,0)) (mK ek.1) hg (Kd.sQ e9.1 (fun _ hk=>hk)));replace HB:=J (hb);have Od:=J (ho);clear e9;clear ho hb hg hat));try go_wp2_with (first|((with_reducible refine lV (b:=.append) (xs:=#[.tmp 39,.tmp 44]) rfl ?_);at_builtin;refine Kd.pz ay (w0:=w) w.heap.size rfl (.tmp 39) (.tmp 44) 28 63 (.agg #[(.string ⟨#[]⟩),(.int .i64 0)]) 24 rfl Try.underlying28 iZ rfl (by decide) (by omega) u5 yh (⟨(av l0 eK).f0,(av l0 eK).f1⟩:ah) [.string ((av l0 eK).f0),.int .i64 ((av l0 eK).f1)] (fun k_=>k_≠gT) (fun _=>False) rfl rfl ?aP (fun _ hk=>hk.elim) ?aF ?aO ?aB ?aS ?aL ?_;(case aP=>exact rn _ _ _ (⟨(av l0 eK).f0,(av l0 eK).f1⟩:ah));(case aB=>exact(aM HB.1 ir.1));(case aF=>exact(fun k_ hk=>Kd.cA (g:=gT) (o:=.cells #[.string dC,.int .i64 dW] 63 (0,0)) (mK ek.1) k_ hk));(case aO=>exact(mR e9.1));(case aS=>exact(aV (aM HB.1 ir.1)));(case aL=>have:=Ot.1;omega);intro adG US ho hb hg hat;rw[←O3.1]at ho;replace ek:=J (bW (g:=gT) (o:=.cells #[.string dC,.int .i64 dW] 63 (0,0)) (mK ek.1) hg (Kd.sQ e9.1 (fun _ hk=>hk)));replace HB:=J (hb);have Od:=J (ho);clear e9;clear ho hb hg hat)))
            go_roundg Iy
            case measure=>have:=br.1;have:=pY.1;have:=Ah.1;omega
            case rel=>exact⟨(adX),(Ee),(wrap64 (eK+1)),mE,mE,H',⟨by have:=br.1;have:=pY.1;have:=Ah.1;omega⟩,⟨mR Od.1⟩,⟨mK ek.1⟩,⟨(aM HB.1 ir.1)⟩⟩
           ·rw[if_neg n7]at H;exact absurd H (by simp)
         ·rw[if_neg qX]at H;exact absurd H (by simp)
        ·rw[if_neg qW]at H;exact absurd H (by simp)
   ·rw[if_neg c6]at H;have jT:=decide_eq_false c6;clear c6;by_cases fE:fk=true
    ·subst fE;have H1:=H;rw[if_pos rfl]at H1;clear H;have H:=H1;clear H1;obtain rfl:=Option.some.inj H;go_wp2
     repeat (go_quiet (fail);try go_wp2)
     go_ret;exact⟨_,cW,by refine mR ?_;exact Kd.aD e9.1 (fun _ hk=>trivial),(aM HB.1 ir.1)⟩
    ·replace fE:=Bool.eq_false_iff.mpr fE;subst fE;have H1:=H;rw[if_neg (show ¬(false=true) by decide)]at H1;clear H;have H:=H1;clear H1;by_cases jz:aE.length<5864062014805
     ·rw[if_pos jz]at H;have Ou:=J jz;clear jz;obtain⟨aqy,Hw⟩:∃y_:List (ah),y_=(aE++[(⟨dC,dW⟩:ah)]):=⟨_,rfl⟩;replace H:(some aqy)=some r:=by first|(rw[Hw];with_reducible exact H)|(have aU:=(Option.bind_some _ _).symm.trans H;rw[Hw];with_reducible exact aU)|(have aU:=(Option.bind_some _ _).symm.trans H;with_reducible exact aU)|with_reducible exact H|(rw[Hw];exact H)|exact H
      have O4:=J Hw;clear Hw;obtain rfl:=Option.some.inj H;obtain⟨Q4,Q5,RQ,RR⟩:=sl ek.1;go_wp2_with (first|((with_reducible refine lV (b:=.append) (xs:=#[.tmp 48,.tmp 50]) rfl ?_);at_builtin;refine Kd.pz ay (w0:=w) w.heap.size rfl (.tmp 48) (.tmp 50) 28 63 (.agg #[(.string ⟨#[]⟩),(.int .i64 0)]) 24 rfl Try.underlying28 iZ rfl (by decide) (by omega) u5 aE (⟨dC,dW⟩:ah) [.string dC,.int .i64 dW] (fun k_=>k_≠gT) (fun _=>False) rfl rfl ?aP (fun _ hk=>hk.elim) ?aF ?aO ?aB ?aS ?aL ?_;(case aP=>exact rn _ _ _ (⟨dC,dW⟩:ah));(case aB=>exact(aM HB.1 ir.1));(case aF=>exact(fun k_ hk=>Kd.cA (g:=gT) (o:=.cells #[.string dC,.int .i64 dW] 63 (0,0)) (mK ek.1) k_ hk));(case aO=>exact(mR e9.1));(case aS=>exact(aV (aM HB.1 ir.1)));(case aL=>have:=Ou.1;omega);intro adH oT ho hb hg hat;rw[←O4.1]at ho;replace ek:=J (bW (g:=gT) (o:=.cells #[.string dC,.int .i64 dW] 63 (0,0)) (mK ek.1) hg (Kd.sQ e9.1 (fun _ hk=>hk)));replace HB:=J (hb);have Oe:=J (ho);clear e9;clear ho hb hg hat))
      repeat (go_quiet (first|((with_reducible refine lV (b:=.append) (xs:=#[.tmp 48,.tmp 50]) rfl ?_);at_builtin;refine Kd.pz ay (w0:=w) w.heap.size rfl (.tmp 48) (.tmp 50) 28 63 (.agg #[(.string ⟨#[]⟩),(.int .i64 0)]) 24 rfl Try.underlying28 iZ rfl (by decide) (by omega) u5 aE (⟨dC,dW⟩:ah) [.string dC,.int .i64 dW] (fun k_=>k_≠gT) (fun _=>False) rfl rfl ?aP (fun _ hk=>hk.elim) ?aF ?aO ?aB ?aS ?aL ?_;(case aP=>exact rn _ _ _ (⟨dC,dW⟩:ah));(case aB=>exact(aM HB.1 ir.1));(case aF=>exact(fun k_ hk=>Kd.cA (g:=gT) (o:=.cells #[.string dC,.int .i64 dW] 63 (0,0)) (mK ek.1) k_ hk));(case aO=>exact(mR e9.1));(case aS=>exact(aV (aM HB.1 ir.1)));(case aL=>have:=Ou.1;omega);intro adH oT ho hb hg hat;rw[←O4.1]at ho;replace ek:=J (bW (g:=gT) (o:=.cells #[.string dC,.int .i64 dW] 63 (0,0)) (mK ek.1) hg (Kd.sQ e9.1 (fun _ hk=>hk)));replace HB:=J (hb);have Oe:=J (ho);clear e9;clear ho hb hg hat));try go_wp2_with (first|((with_reducible refine lV (b:=.append) (xs:=#[.tmp 48,.tmp 50]) rfl ?_);at_builtin;refine Kd.pz ay (w0:=w) w.heap.size rfl (.tmp 48) (.tmp 50) 28 63 (.agg #[(.string ⟨#[]⟩),(.int .i64 0)]) 24 rfl Try.underlying28 iZ rfl (by decide) (by omega) u5 aE (⟨dC,dW⟩:ah) [.string dC,.int .i64 dW] (fun k_=>k_≠gT) (fun _=>False) rfl rfl ?aP (fun _ hk=>hk.elim) ?aF ?aO ?aB ?aS ?aL ?_;(case aP=>exact rn _ _ _ (⟨dC,dW⟩:ah));(case aB=>exact(aM HB.1 ir.1));(case aF=>exact(fun k_ hk=>Kd.cA (g:=gT) (o:=.cells #[.string dC,.int .i64 dW] 63 (0,0)) (mK ek.1) k_ hk));(case aO=>exact(mR e9.1));(case aS=>exact(aV (aM HB.1 ir.1)));(case aL=>have:=Ou.1;omega);intro adH oT ho hb hg hat;rw[←O4.1]at ho;replace ek:=J (bW (g:=gT) (o:=.cells #[.string dC,.int .i64 dW] 63 (0,0)) (mK ek.1) hg (Kd.sQ e9.1 (fun _ hk=>hk)));replace HB:=J (hb);have Oe:=J (ho);clear e9;clear ho hb hg hat)))
      go_ret;exact⟨_,cW,by refine mR ?_;exact Kd.aD Oe.1 (fun _ hk=>trivial),(aM HB.1 ir.1)⟩
     ·rw[if_neg jz]at H;exact absurd H (by simp)
end Go.Proofs.Ytgpkdbnikcghgaa.MD
