-- Written by mp.py, our own printer (wip/mp.py), and made shorter by wip/mp_shrink*.py.
import Derived.Test.YtgpkdbnikcghgaaVAll
import Derived.Test.YtgpkdbnikcghgaaMDx0
namespace Go.Proofs.Ytgpkdbnikcghgaa.MD
open Go.RowKit Go.Proofs.YtgpkdbnikcghgaaW.PrintWords Go.Proofs.YtgpkdbnikcghgaaW.PrintLast Go.Proofs.YtgpkdbnikcghgaaW.PrintMore Go.Proofs.Ytgpkdbnikcghgaa.MWords
attribute [local go_sem] max2_int min2_int max_two min_two max_three min_three max_four min_four
set_option linter.unusedVariables false
set_option linter.unusedSimpArgs false
mutual
def dN.l0:Nat→List (ah)→List (ah)→Bool→Int→ByteArray→Int→Option ((List (ah)))
 |0,_,_,_,_,_,_=>none
 |k+1,x0,x5,x6,x7,tG,wM=>if x7<(x0.length:Int) then (if x6=true then (dN.j1 k x0 x5 x6 x7 false tG wM) else (if 0≤x7 then (dN.j1 k x0 x5 x6 x7 (!(Op.bytesLess (((aw x0 x7).f0).toList) tG.toList)) tG wM) else (none))) else (if x6=true then (some x5) else (if x5.length<5864062014805 then (some (x5++[(⟨tG,wM⟩:ah)])) else (none)))
def dN.j1:Nat→List (ah)→List (ah)→Bool→Int→Bool→ByteArray→Int→Option ((List (ah)))
 |0,_,_,_,_,_,_,_=>none
 |k+1,x0,x5,x6,x7,x26,tG,wM=>if x26=true then (if x5.length<5864062014805 then (dN.j2 k x0 (x5++[(⟨tG,wM⟩:ah)]) true x7 tG wM) else (none)) else (dN.j2 k x0 x5 x6 x7 tG wM)
def dN.j2:Nat→List (ah)→List (ah)→Bool→Int→ByteArray→Int→Option ((List (ah)))
 |0,_,_,_,_,_,_=>none
 |k+1,x0,x5,x6,x7,tG,wM=>if 0≤x7 then (if x7<(x0.length:Int) then (if ((aw x0 x7).f0).toList=tG.toList then (dN.l0 k x0 x5 x6 (wrap64 (x7+1)) tG wM) else (if x5.length<5864062014805 then (dN.l0 k x0 (x5++[(⟨(aw x0 x7).f0,(aw x0 x7).f1⟩:ah)]) x6 (wrap64 (x7+1)) tG wM) else (none))) else (none)) else (none)
end
def dN.f (k:Nat) (l0:List (ah)) (dF:ByteArray) (dZ:Int):Option ((List (ah))):=dN.l0 k l0 (([]:List (ah))) false 0 dF dZ
set_option maxHeartbeats 8000000 in
set_option maxRecDepth 100000 in
theorem dN.calls (k:Nat) (A0:Option Addr) (c0:Nat) (l0:List (ah)) (dF:ByteArray) (dZ:Int) (r:List (ah)) (w:World) (e7:Kd.C ay w A0 l0.length l0) (gw:l0.length≤c0) (h:dN.f k l0 dF dZ=some r) :
 Calls Try.prog 50 #[.slice A0 l0.length c0,.agg #[.string dF,.int .i64 dZ]] w fun e w'=>∃df:Value,e = .returned (df)∧Kd.R ay 63 w' w.heap.size (fun _=>True) df r∧Below w.heap.size w w':=by
 have DY:=Try.underlying63;have jf:=J e7;have sh:=J gw;clear e7 gw;have HB:=J (Below.refl w.heap.size w);have H:(dN.l0 k l0 (([]:List (ah))) false 0 dF dZ)=some r:=h;clear h;obtain⟨aez,Ie⟩:∃y_:List (ah),y_=(([]:List (ah))):=⟨_,rfl⟩;replace H:(dN.l0 k l0 aez false 0 dF dZ)=some r:=by first|(rw[Ie];with_reducible exact H)|(have aU:=(Option.bind_some _ _).symm.trans H;rw[Ie];with_reducible exact aU)|(have aU:=(Option.bind_some _ _).symm.trans H;with_reducible exact aU)|with_reducible exact H|(rw[Ie];exact H)|exact H
 have Dd:=J Ie;clear Ie;have H':=J H;clear H;go_enter Try.func50,Try.ntmps50;go_wp2_with (first|((with_reducible refine bk (N:=3) rfl ?_);refine bF 3 #[.string dF,.int .i64 dZ] 63 ?_;intro gX hg w3 hbox hb;have eB:=J (hbox);have WK:=mG hg (mH HB.1);have iA:=mG hg (mH HB.1);replace HB:=J (aK (mH HB.1) hb);clear hb hbox hg)|((with_reducible refine bk (N:=8) rfl ?_);refine Kd.q7 ay _ 63 ?hg (N:=8) ?hd (xs:=([]:List (ah))) (inner:=[]) (ok:=fun _=>True) (okp:=fun _=>True) ?hr ?hp (fun _ hk=>hk) trivial (Below.refl _ _) (Nat.le_refl _) (by simp) ?_;(case hd=>rfl);(case hg=>rfl);(case hr=>first|(go_simp;done)|(go_simp;rfl));(case hp=>exact(bJ.none _ _));intro aei w4 mf hb hg_ hnew_;clear hg_ hnew_;(first|rw[←Dd.1]at mf|(simp only[Int.reduceToNat]at mf;rw[←Dd.1]at mf));have OK:=J (Kd.cJ (Kd.Dh mf (g:=gX) (o:=.cells #[.string dF,.int .i64 dZ] 63 (0,0)) (mK eB.1)) (aT (aM HB.1 iA.1)));replace eB:=mB eB hb;replace HB:=J (aK (aM HB.1 iA.1) hb);clear hb mf))
 repeat (go_quiet (first|((with_reducible refine bk (N:=3) rfl ?_);refine bF 3 #[.string dF,.int .i64 dZ] 63 ?_;intro gX hg w3 hbox hb;have eB:=J (hbox);have WK:=mG hg (mH HB.1);have iA:=mG hg (mH HB.1);replace HB:=J (aK (mH HB.1) hb);clear hb hbox hg)|((with_reducible refine bk (N:=8) rfl ?_);refine Kd.q7 ay _ 63 ?hg (N:=8) ?hd (xs:=([]:List (ah))) (inner:=[]) (ok:=fun _=>True) (okp:=fun _=>True) ?hr ?hp (fun _ hk=>hk) trivial (Below.refl _ _) (Nat.le_refl _) (by simp) ?_;(case hd=>rfl);(case hg=>rfl);(case hr=>first|(go_simp;done)|(go_simp;rfl));(case hp=>exact(bJ.none _ _));intro aei w4 mf hb hg_ hnew_;clear hg_ hnew_;(first|rw[←Dd.1]at mf|(simp only[Int.reduceToNat]at mf;rw[←Dd.1]at mf));have OK:=J (Kd.cJ (Kd.Dh mf (g:=gX) (o:=.cells #[.string dF,.int .i64 dZ] 63 (0,0)) (mK eB.1)) (aT (aM HB.1 iA.1)));replace eB:=mB eB hb;replace HB:=J (aK (aM HB.1 iA.1) hb);clear hb mf));try go_wp2_with (first|((with_reducible refine bk (N:=3) rfl ?_);refine bF 3 #[.string dF,.int .i64 dZ] 63 ?_;intro gX hg w3 hbox hb;have eB:=J (hbox);have WK:=mG hg (mH HB.1);have iA:=mG hg (mH HB.1);replace HB:=J (aK (mH HB.1) hb);clear hb hbox hg)|((with_reducible refine bk (N:=8) rfl ?_);refine Kd.q7 ay _ 63 ?hg (N:=8) ?hd (xs:=([]:List (ah))) (inner:=[]) (ok:=fun _=>True) (okp:=fun _=>True) ?hr ?hp (fun _ hk=>hk) trivial (Below.refl _ _) (Nat.le_refl _) (by simp) ?_;(case hd=>rfl);(case hg=>rfl);(case hr=>first|(go_simp;done)|(go_simp;rfl));(case hp=>exact(bJ.none _ _));intro aei w4 mf hb hg_ hnew_;clear hg_ hnew_;(first|rw[←Dd.1]at mf|(simp only[Int.reduceToNat]at mf;rw[←Dd.1]at mf));have OK:=J (Kd.cJ (Kd.Dh mf (g:=gX) (o:=.cells #[.string dF,.int .i64 dZ] 63 (0,0)) (mK eB.1)) (aT (aM HB.1 iA.1)));replace eB:=mB eB hb;replace HB:=J (aK (aM HB.1 iA.1) hb);clear hb mf)))
 go_loopg [5,6,7] k (fun kq v5 v6 v7 w'=>∃(aJ:List (ah)) (fx:Bool) (eO:Int),v6 = .bool fx∧v7 = .int .i64 eO∧Aside0 (dN.l0 kq l0 aJ fx eO dF dZ=some r)∧Aside0 (kq≤k)∧Aside0 (Kd.R ay 63 w' w.heap.size (fun k_=>k_≠gX) v5 aJ)∧Aside0 (w'.heap[gX]? = some (.cells #[.string dF,.int .i64 dZ] 63 (0,0)))∧Aside0 (Below w.heap.size w w'))
 case atStart=>exact⟨(aez),(false),(0),mE,mE,H',⟨Nat.le_refl _⟩,⟨by refine mR ?_;exact Kd.aD OK.1 (fun _ hk=>hk.2)⟩,⟨mK eB.1⟩,⟨(aM HB.1 iA.1)⟩⟩
 case round=>
  clear H'
  obtain⟨aJ,fx,eO,rfl,rfl,HA,bA,fj,eB,HB⟩:=hrel;cases gk with
  |zero=>exact absurd HA.1 (by simp[dN.l0])
  |succ k1=>
   have H:=HA.1;clear HA;simp only[dN.l0]at H;by_cases c6:eO<(l0.length:Int)
   ·rw[if_pos c6]at H;have jU:=decide_eq_true c6;clear c6;have qe:=J H;clear H;go_upto_region 6 with (fail)
    repeat (go_quiet (fail);go_upto_region 6 with (fail))
    go_cut [26] (fun v26 wc=>∃(kq:Nat) (NZ:Bool),v26 = .bool NZ∧Aside0 (dN.j1 kq l0 aJ fx eO NZ dF dZ=some r)∧Aside0 (kq≤k1)∧Aside0 (Kd.R ay 63 wc w.heap.size (fun k_=>k_≠gX) u5 aJ)∧Aside0 (wc.heap[gX]? = some (.cells #[.string dF,.int .i64 dZ] 63 (0,0)))∧Aside0 (Below w.heap.size w wc))
    case first=>
     have H:=qe.1;clear qe;by_cases c8:fx=true
     ·subst c8;have H1:=H;rw[if_pos rfl]at H1;clear H;have H:=H1;clear H1;have H':=J H;clear H;go_wp2
      repeat (go_quiet (fail);try go_wp2)
      go_meet
      case rel=>exact⟨_,(false),mE,H',⟨by have:=bA.1;first|omega|exact Nat.le_refl _⟩,⟨mR fj.1⟩,⟨mK eB.1⟩,⟨(aM HB.1 iA.1)⟩⟩
     ·replace c8:=Bool.eq_false_iff.mpr c8;subst c8;have H1:=H;rw[if_neg (show ¬(false=true) by decide)]at H1;clear H;have H:=H1;clear H1;by_cases c9:0≤eO
      ·rw[if_pos c9]at H;have zr:=decide_eq_true c9;clear c9
       (first|rw[zr]|(simp only[iq,jJ];rw[zr])|skip)
       have H':=J H;clear H;have T0:0≤(eO:Int):=mD;have Uw:eO<(l0.length:Int):=mD;obtain⟨ase,ai0,ab5,ab6⟩:=iH jf.1 eO T0 Uw;cases ai0
       replace ab5:=mX HB.1 ab5;replace ab6:=mX HB.1 ab6;replace T0:=eq_true T0;replace Uw:=eq_true Uw;obtain⟨xK,xL,xR,xS⟩:=uP eB.1;go_wp2
       repeat (go_quiet (fail);try go_wp2)
       go_meet
       case rel=>exact⟨_,(!(Op.bytesLess (((aw l0 eO).f0).toList) dF.toList)),mE,H',⟨by have:=bA.1;first|omega|exact Nat.le_refl _⟩,⟨mR fj.1⟩,⟨mK eB.1⟩,⟨(aM HB.1 iA.1)⟩⟩
      ·rw[if_neg c9]at H;exact absurd H (by simp)
    case rest=>
     clear qe
     try clear c6
     try clear jU
     obtain⟨kq,NZ,rfl,HA,qf,fj,eB,HB⟩:=hcut;cases kq with
     |zero=>exact absurd HA.1 (by simp[dN.j1])
     |succ zX=>
      have H:=HA.1;clear HA;simp only[dN.j1]at H;have AL:=J H;clear H;go_upto_if 26 with (fail)
      repeat (go_quiet (fail);go_upto_if 26 with (fail))
      go_cut [5,6] (fun v5 v6 wc=>∃(kq:Nat) (yJ:List (ah)) (EJ:Bool),v6 = .bool EJ∧Aside0 (dN.j2 kq l0 yJ EJ eO dF dZ=some r)∧Aside0 (kq≤zX)∧Aside0 (Kd.R ay 63 wc w.heap.size (fun k_=>k_≠gX) v5 yJ)∧Aside0 (wc.heap[gX]? = some (.cells #[.string dF,.int .i64 dZ] 63 (0,0)))∧Aside0 (Below w.heap.size w wc))
      case first=>
       have H:=AL.1;clear AL;by_cases gO:NZ=true
       ·subst gO;have H1:=H;rw[if_pos rfl]at H1;clear H;have H:=H1;clear H1;by_cases jx:aJ.length<5864062014805
        ·rw[if_pos jx]at H;have O0:=J jx;clear jx;obtain⟨aeA,Ig⟩:∃y_:List (ah),y_=(aJ++[(⟨dF,dZ⟩:ah)]):=⟨_,rfl⟩;replace H:(dN.j2 zX l0 aeA true eO dF dZ)=some r:=by first|(rw[Ig];with_reducible exact H)|(have aU:=(Option.bind_some _ _).symm.trans H;rw[Ig];with_reducible exact aU)|(have aU:=(Option.bind_some _ _).symm.trans H;with_reducible exact aU)|with_reducible exact H|(rw[Ig];exact H)|exact H
         have PG:=J Ig;clear Ig;have H':=J H;clear H;obtain⟨Bw,Bx,BA,BB⟩:=uP eB.1;go_wp2_with (first|((with_reducible refine ma (b:=.append) (xs:=#[.tmp 27,.tmp 29]) rfl ?_);at_builtin;refine Kd.qm ay (w0:=w) w.heap.size rfl (.tmp 27) (.tmp 29) 28 63 (.agg #[(.string ⟨#[]⟩),(.int .i64 0)]) 24 rfl Try.underlying28 jn rfl (by decide) (by omega) u5 aJ (⟨dF,dZ⟩:ah) [.string dF,.int .i64 dZ] (fun k_=>k_≠gX) (fun _=>False) rfl rfl ?aP (fun _ hk=>hk.elim) ?aF ?aO ?aB ?aS ?aL ?_;(case aP=>exact tr _ _ _ (⟨dF,dZ⟩:ah));(case aB=>exact(aM HB.1 iA.1));(case aF=>exact(fun k_ hk=>Kd.cE (g:=gX) (o:=.cells #[.string dF,.int .i64 dZ] 63 (0,0)) (mK eB.1) k_ hk));(case aO=>exact(mR fj.1));(case aS=>exact(aT (aM HB.1 iA.1)));(case aL=>have:=O0.1;omega);intro aej nj ho hb hg hat;rw[←PG.1]at ho;replace eB:=J (bX (g:=gX) (o:=.cells #[.string dF,.int .i64 dZ] 63 (0,0)) (mK eB.1) hg (Kd.ue fj.1 (fun _ hk=>hk)));replace HB:=J (hb);have OL:=J (ho);clear fj;clear ho hb hg hat))
         repeat (go_quiet (first|((with_reducible refine ma (b:=.append) (xs:=#[.tmp 27,.tmp 29]) rfl ?_);at_builtin;refine Kd.qm ay (w0:=w) w.heap.size rfl (.tmp 27) (.tmp 29) 28 63 (.agg #[(.string ⟨#[]⟩),(.int .i64 0)]) 24 rfl Try.underlying28 jn rfl (by decide) (by omega) u5 aJ (⟨dF,dZ⟩:ah) [.string dF,.int .i64 dZ] (fun k_=>k_≠gX) (fun _=>False) rfl rfl ?aP (fun _ hk=>hk.elim) ?aF ?aO ?aB ?aS ?aL ?_;(case aP=>exact tr _ _ _ (⟨dF,dZ⟩:ah));(case aB=>exact(aM HB.1 iA.1));(case aF=>exact(fun k_ hk=>Kd.cE (g:=gX) (o:=.cells #[.string dF,.int .i64 dZ] 63 (0,0)) (mK eB.1) k_ hk));(case aO=>exact(mR fj.1));(case aS=>exact(aT (aM HB.1 iA.1)));(case aL=>have:=O0.1;omega);intro aej nj ho hb hg hat;rw[←PG.1]at ho;replace eB:=J (bX (g:=gX) (o:=.cells #[.string dF,.int .i64 dZ] 63 (0,0)) (mK eB.1) hg (Kd.ue fj.1 (fun _ hk=>hk)));replace HB:=J (hb);have OL:=J (ho);clear fj;clear ho hb hg hat));try go_wp2_with (first|((with_reducible refine ma (b:=.append) (xs:=#[.tmp 27,.tmp 29]) rfl ?_);at_builtin;refine Kd.qm ay (w0:=w) w.heap.size rfl (.tmp 27) (.tmp 29) 28 63 (.agg #[(.string ⟨#[]⟩),(.int .i64 0)]) 24 rfl Try.underlying28 jn rfl (by decide) (by omega) u5 aJ (⟨dF,dZ⟩:ah) [.string dF,.int .i64 dZ] (fun k_=>k_≠gX) (fun _=>False) rfl rfl ?aP (fun _ hk=>hk.elim) ?aF ?aO ?aB ?aS ?aL ?_;(case aP=>exact tr _ _ _ (⟨dF,dZ⟩:ah));(case aB=>exact(aM HB.1 iA.1));(case aF=>exact(fun k_ hk=>Kd.cE (g:=gX) (o:=.cells #[.string dF,.int .i64 dZ] 63 (0,0)) (mK eB.1) k_ hk));(case aO=>exact(mR fj.1));(case aS=>exact(aT (aM HB.1 iA.1)));(case aL=>have:=O0.1;omega);intro aej nj ho hb hg hat;rw[←PG.1]at ho;replace eB:=J (bX (g:=gX) (o:=.cells #[.string dF,.int .i64 dZ] 63 (0,0)) (mK eB.1) hg (Kd.ue fj.1 (fun _ hk=>hk)));replace HB:=J (hb);have OL:=J (ho);clear fj;clear ho hb hg hat)))
         go_meet
         case rel=>exact⟨_,(aeA),(true),mE,H',⟨by have:=bA.1;have:=qf.1;first|omega|exact Nat.le_refl _⟩,⟨mR OL.1⟩,⟨mK eB.1⟩,⟨(aM HB.1 iA.1)⟩⟩
        ·rw[if_neg jx]at H;exact absurd H (by simp)
       ·replace gO:=Bool.eq_false_iff.mpr gO;subst gO;have H1:=H;rw[if_neg (show ¬(false=true) by decide)]at H1;clear H;have H:=H1;clear H1;have H':=J H;clear H;go_wp2
        repeat (go_quiet (fail);try go_wp2)
        go_meet
        case rel=>exact⟨_,(aJ),(fx),mE,H',⟨by have:=bA.1;have:=qf.1;first|omega|exact Nat.le_refl _⟩,⟨mR fj.1⟩,⟨mK eB.1⟩,⟨(aM HB.1 iA.1)⟩⟩
      case rest=>
       clear AL
       try clear c6
       try clear jU
       obtain⟨kq,yJ,EJ,rfl,HA,AO,fj,eB,HB⟩:=hcut;cases kq with
       |zero=>exact absurd HA.1 (by simp[dN.j2])
       |succ I8=>
        have H:=HA.1;clear HA;simp only[dN.j2]at H;by_cases rh:0≤eO
        ·rw[if_pos rh]at H;have aif:=decide_eq_true rh;clear rh;by_cases ri:eO<(l0.length:Int)
         ·rw[if_pos ri]at H;have aih:=decide_eq_true ri;clear ri;by_cases jy:((aw l0 eO).f0).toList=dF.toList
          ·rw[if_pos jy]at H;have vQ:(((aw l0 eO).f0).toList == dF.toList)=true:=beq_iff_eq.mpr jy;have aii:(((aw l0 eO).f0).toList != dF.toList)=false:=bne_eq_false_iff_eq.mpr jy;clear jy;have H':=J H;clear H;have BR:0≤(eO:Int):=mD;have Cg:eO<(l0.length:Int):=mD;obtain⟨Yt,QC,HE,HF⟩:=iH jf.1 eO BR Cg;cases QC
           replace HE:=mX HB.1 HE;replace HF:=mX HB.1 HF;replace BR:=eq_true BR;replace Cg:=eq_true Cg;obtain⟨DN,DO,DQ,DR⟩:=uP eB.1;go_wp2
           repeat (go_quiet (fail);try go_wp2)
           go_roundg I8
           case measure=>have:=bA.1;have:=qf.1;have:=AO.1;omega
           case rel=>exact⟨(yJ),(EJ),(wrap64 (eO+1)),mE,mE,H',⟨by have:=bA.1;have:=qf.1;have:=AO.1;omega⟩,⟨mR fj.1⟩,⟨mK eB.1⟩,⟨(aM HB.1 iA.1)⟩⟩
          ·rw[if_neg jy]at H;have vQ:(((aw l0 eO).f0).toList == dF.toList)=false:=beq_eq_false_iff_ne.mpr jy;have aii:(((aw l0 eO).f0).toList != dF.toList)=true:=bne_iff_ne.mpr jy;by_cases oo:yJ.length<5864062014805
           ·rw[if_pos oo]at H;have O1:=J oo;clear oo;obtain⟨aeB,Ih⟩:∃y_:List (ah),y_=(yJ++[(⟨(aw l0 eO).f0,(aw l0 eO).f1⟩:ah)]):=⟨_,rfl⟩;replace H:(dN.l0 I8 l0 aeB EJ (wrap64 (eO+1)) dF dZ)=some r:=by first|(rw[Ih];with_reducible exact H)|(have aU:=(Option.bind_some _ _).symm.trans H;rw[Ih];with_reducible exact aU)|(have aU:=(Option.bind_some _ _).symm.trans H;with_reducible exact aU)|with_reducible exact H|(rw[Ih];exact H)|exact H
            have PH:=J Ih;clear Ih;have H':=J H;clear H;have BR:0≤(eO:Int):=mD;have Cg:eO<(l0.length:Int):=mD;obtain⟨Yt,QC,HE,HF⟩:=iH jf.1 eO BR Cg;cases QC
            replace HE:=mX HB.1 HE;replace HF:=mX HB.1 HF;replace BR:=eq_true BR;replace Cg:=eq_true Cg;obtain⟨GC,GD,GW,GY⟩:=uP eB.1;have T7:0≤(eO:Int):=mD;have Ux:eO<(l0.length:Int):=mD;obtain⟨ahA,ai1,ab7,ab8⟩:=iH jf.1 eO T7 Ux;obtain rfl:Yt=ahA:=(by injection ai1);replace ab7:=mX HB.1 ab7;replace ab8:=mX HB.1 ab8;replace T7:=eq_true T7;replace Ux:=eq_true Ux;go_wp2_with (first|((with_reducible refine ma (b:=.append) (xs:=#[.tmp 39,.tmp 44]) rfl ?_);at_builtin;refine Kd.qm ay (w0:=w) w.heap.size rfl (.tmp 39) (.tmp 44) 28 63 (.agg #[(.string ⟨#[]⟩),(.int .i64 0)]) 24 rfl Try.underlying28 jn rfl (by decide) (by omega) u5 yJ (⟨(aw l0 eO).f0,(aw l0 eO).f1⟩:ah) [.string ((aw l0 eO).f0),.int .i64 ((aw l0 eO).f1)] (fun k_=>k_≠gX) (fun _=>False) rfl rfl ?aP (fun _ hk=>hk.elim) ?aF ?aO ?aB ?aS ?aL ?_;(case aP=>exact tr _ _ _ (⟨(aw l0 eO).f0,(aw l0 eO).f1⟩:ah));(case aB=>exact(aM HB.1 iA.1));(case aF=>exact(fun k_ hk=>Kd.cE (g:=gX) (o:=.cells #[.string dF,.int .i64 dZ] 63 (0,0)) (mK eB.1) k_ hk));(case aO=>exact(mR fj.1));(case aS=>exact(aT (aM HB.1 iA.1)));(case aL=>have:=O1.1;omega);intro aek VH ho hb hg hat;rw[←PH.1]at ho;replace eB:=J (bX (g:=gX) (o:=.cells #[.string dF,.int .i64 dZ] 63 (0,0)) (mK eB.1) hg (Kd.ue fj.1 (fun _ hk=>hk)));replace HB:=J (hb);have OM:=J (ho);clear fj;clear ho hb hg hat))
            repeat (go_quiet (first|((with_reducible refine ma (b:=.append) (xs:=#[.tmp 39,.tmp 44]) rfl ?_);at_builtin;refine Kd.qm ay (w0:=w) w.heap.size rfl (.tmp 39) (.tmp 44) 28 63 (.agg #[(.string ⟨#[]⟩),(.int .i64 0)]) 24 rfl Try.underlying28 jn rfl (by decide) (by omega) u5 yJ (⟨(aw l0 eO).f0,(aw l0 eO).f1⟩:ah) [.string ((aw l0 eO).f0),.int .i64 ((aw l0 eO).f1)] (fun k_=>k_≠gX) (fun _=>False) rfl rfl ?aP (fun _ hk=>hk.elim) ?aF ?aO ?aB ?aS ?aL ?_;(case aP=>exact tr _ _ _ (⟨(aw l0 eO).f0,(aw l0 eO).f1⟩:ah));(case aB=>exact(aM HB.1 iA.1));(case aF=>exact(fun k_ hk=>Kd.cE (g:=gX) (o:=.cells #[.string dF,.int .i64 dZ] 63 (0,0)) (mK eB.1) k_ hk));(case aO=>exact(mR fj.1));(case aS=>exact(aT (aM HB.1 iA.1)));(case aL=>have:=O1.1;omega);intro aek VH ho hb hg hat;rw[←PH.1]at ho;replace eB:=J (bX (g:=gX) (o:=.cells #[.string dF,.int .i64 dZ] 63 (0,0)) (mK eB.1) hg (Kd.ue fj.1 (fun _ hk=>hk)));replace HB:=J (hb);have OM:=J (ho);clear fj;clear ho hb hg hat));try go_wp2_with (first|((with_reducible refine ma (b:=.append) (xs:=#[.tmp 39,.tmp 44]) rfl ?_);at_builtin;refine Kd.qm ay (w0:=w) w.heap.size rfl (.tmp 39) (.tmp 44) 28 63 (.agg #[(.string ⟨#[]⟩),(.int .i64 0)]) 24 rfl Try.underlying28 jn rfl (by decide) (by omega) u5 yJ (⟨(aw l0 eO).f0,(aw l0 eO).f1⟩:ah) [.string ((aw l0 eO).f0),.int .i64 ((aw l0 eO).f1)] (fun k_=>k_≠gX) (fun _=>False) rfl rfl ?aP (fun _ hk=>hk.elim) ?aF ?aO ?aB ?aS ?aL ?_;(case aP=>exact tr _ _ _ (⟨(aw l0 eO).f0,(aw l0 eO).f1⟩:ah));(case aB=>exact(aM HB.1 iA.1));(case aF=>exact(fun k_ hk=>Kd.cE (g:=gX) (o:=.cells #[.string dF,.int .i64 dZ] 63 (0,0)) (mK eB.1) k_ hk));(case aO=>exact(mR fj.1));(case aS=>exact(aT (aM HB.1 iA.1)));(case aL=>have:=O1.1;omega);intro aek VH ho hb hg hat;rw[←PH.1]at ho;replace eB:=J (bX (g:=gX) (o:=.cells #[.string dF,.int .i64 dZ] 63 (0,0)) (mK eB.1) hg (Kd.ue fj.1 (fun _ hk=>hk)));replace HB:=J (hb);have OM:=J (ho);clear fj;clear ho hb hg hat)))
            go_roundg I8
            case measure=>have:=bA.1;have:=qf.1;have:=AO.1;omega
            case rel=>exact⟨(aeB),(EJ),(wrap64 (eO+1)),mE,mE,H',⟨by have:=bA.1;have:=qf.1;have:=AO.1;omega⟩,⟨mR OM.1⟩,⟨mK eB.1⟩,⟨(aM HB.1 iA.1)⟩⟩
           ·rw[if_neg oo]at H;exact absurd H (by simp)
         ·rw[if_neg ri]at H;exact absurd H (by simp)
        ·rw[if_neg rh]at H;exact absurd H (by simp)
   ·rw[if_neg c6]at H;have jU:=decide_eq_false c6;clear c6;by_cases fN:fx=true
    ·subst fN;have H1:=H;rw[if_pos rfl]at H1;clear H;have H:=H1;clear H1;obtain rfl:=Option.some.inj H;go_wp2
     repeat (go_quiet (fail);try go_wp2)
     go_ret;exact⟨_,de,by refine mR ?_;exact Kd.aD fj.1 (fun _ hk=>trivial),(aM HB.1 iA.1)⟩
    ·replace fN:=Bool.eq_false_iff.mpr fN;subst fN;have H1:=H;rw[if_neg (show ¬(false=true) by decide)]at H1;clear H;have H:=H1;clear H1;by_cases jG:aJ.length<5864062014805
     ·rw[if_pos jG]at H;have O2:=J jG;clear jG;obtain⟨arc,Ii⟩:∃y_:List (ah),y_=(aJ++[(⟨dF,dZ⟩:ah)]):=⟨_,rfl⟩;replace H:(some arc)=some r:=by first|(rw[Ii];with_reducible exact H)|(have aU:=(Option.bind_some _ _).symm.trans H;rw[Ii];with_reducible exact aU)|(have aU:=(Option.bind_some _ _).symm.trans H;with_reducible exact aU)|with_reducible exact H|(rw[Ii];exact H)|exact H
      have PI:=J Ii;clear Ii;obtain rfl:=Option.some.inj H;obtain⟨RP,RQ,SD,SE⟩:=uP eB.1;go_wp2_with (first|((with_reducible refine ma (b:=.append) (xs:=#[.tmp 48,.tmp 50]) rfl ?_);at_builtin;refine Kd.qm ay (w0:=w) w.heap.size rfl (.tmp 48) (.tmp 50) 28 63 (.agg #[(.string ⟨#[]⟩),(.int .i64 0)]) 24 rfl Try.underlying28 jn rfl (by decide) (by omega) u5 aJ (⟨dF,dZ⟩:ah) [.string dF,.int .i64 dZ] (fun k_=>k_≠gX) (fun _=>False) rfl rfl ?aP (fun _ hk=>hk.elim) ?aF ?aO ?aB ?aS ?aL ?_;(case aP=>exact tr _ _ _ (⟨dF,dZ⟩:ah));(case aB=>exact(aM HB.1 iA.1));(case aF=>exact(fun k_ hk=>Kd.cE (g:=gX) (o:=.cells #[.string dF,.int .i64 dZ] 63 (0,0)) (mK eB.1) k_ hk));(case aO=>exact(mR fj.1));(case aS=>exact(aT (aM HB.1 iA.1)));(case aL=>have:=O2.1;omega);intro ael o6 ho hb hg hat;rw[←PI.1]at ho;replace eB:=J (bX (g:=gX) (o:=.cells #[.string dF,.int .i64 dZ] 63 (0,0)) (mK eB.1) hg (Kd.ue fj.1 (fun _ hk=>hk)));replace HB:=J (hb);have ON:=J (ho);clear fj;clear ho hb hg hat))
      repeat (go_quiet (first|((with_reducible refine ma (b:=.append) (xs:=#[.tmp 48,.tmp 50]) rfl ?_);at_builtin;refine Kd.qm ay (w0:=w) w.heap.size rfl (.tmp 48) (.tmp 50) 28 63 (.agg #[(.string ⟨#[]⟩),(.int .i64 0)]) 24 rfl Try.underlying28 jn rfl (by decide) (by omega) u5 aJ (⟨dF,dZ⟩:ah) [.string dF,.int .i64 dZ] (fun k_=>k_≠gX) (fun _=>False) rfl rfl ?aP (fun _ hk=>hk.elim) ?aF ?aO ?aB ?aS ?aL ?_;(case aP=>exact tr _ _ _ (⟨dF,dZ⟩:ah));(case aB=>exact(aM HB.1 iA.1));(case aF=>exact(fun k_ hk=>Kd.cE (g:=gX) (o:=.cells #[.string dF,.int .i64 dZ] 63 (0,0)) (mK eB.1) k_ hk));(case aO=>exact(mR fj.1));(case aS=>exact(aT (aM HB.1 iA.1)));(case aL=>have:=O2.1;omega);intro ael o6 ho hb hg hat;rw[←PI.1]at ho;replace eB:=J (bX (g:=gX) (o:=.cells #[.string dF,.int .i64 dZ] 63 (0,0)) (mK eB.1) hg (Kd.ue fj.1 (fun _ hk=>hk)));replace HB:=J (hb);have ON:=J (ho);clear fj;clear ho hb hg hat));try go_wp2_with (first|((with_reducible refine ma (b:=.append) (xs:=#[.tmp 48,.tmp 50]) rfl ?_);at_builtin;refine Kd.qm ay (w0:=w) w.heap.size rfl (.tmp 48) (.tmp 50) 28 63 (.agg #[(.string ⟨#[]⟩),(.int .i64 0)]) 24 rfl Try.underlying28 jn rfl (by decide) (by omega) u5 aJ (⟨dF,dZ⟩:ah) [.string dF,.int .i64 dZ] (fun k_=>k_≠gX) (fun _=>False) rfl rfl ?aP (fun _ hk=>hk.elim) ?aF ?aO ?aB ?aS ?aL ?_;(case aP=>exact tr _ _ _ (⟨dF,dZ⟩:ah));(case aB=>exact(aM HB.1 iA.1));(case aF=>exact(fun k_ hk=>Kd.cE (g:=gX) (o:=.cells #[.string dF,.int .i64 dZ] 63 (0,0)) (mK eB.1) k_ hk));(case aO=>exact(mR fj.1));(case aS=>exact(aT (aM HB.1 iA.1)));(case aL=>have:=O2.1;omega);intro ael o6 ho hb hg hat;rw[←PI.1]at ho;replace eB:=J (bX (g:=gX) (o:=.cells #[.string dF,.int .i64 dZ] 63 (0,0)) (mK eB.1) hg (Kd.ue fj.1 (fun _ hk=>hk)));replace HB:=J (hb);have ON:=J (ho);clear fj;clear ho hb hg hat)))
      go_ret;exact⟨_,de,by refine mR ?_;exact Kd.aD ON.1 (fun _ hk=>trivial),(aM HB.1 iA.1)⟩
     ·rw[if_neg jG]at H;exact absurd H (by simp)
end Go.Proofs.Ytgpkdbnikcghgaa.MD
