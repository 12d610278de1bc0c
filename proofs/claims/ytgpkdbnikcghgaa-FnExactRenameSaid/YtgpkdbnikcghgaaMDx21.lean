-- Written by mp.py, our own printer (wip/mp.py), and made shorter by wip/mp_shrink*.py.
import Derived.Test.YtgpkdbnikcghgaaVMShort
import Derived.Test.YtgpkdbnikcghgaaMDx0
namespace Go.Proofs.Ytgpkdbnikcghgaa.MD
open Go.RowKit Go.Proofs.YtgpkdbnikcghgaaW.PrintWords Go.Proofs.YtgpkdbnikcghgaaW.PrintLast Go.Proofs.YtgpkdbnikcghgaaW.PrintMore Go.Proofs.Ytgpkdbnikcghgaa.MWords
attribute [local go_sem] max2_int min2_int max_two min_two max_three min_three max_four min_four
set_option linter.unusedVariables false
set_option linter.unusedSimpArgs false
mutual
def iE.l0:Nat→List (ai)→List (ai)→Bool→Int→ByteArray→Int→Option ((List (ai)))
 |0,_,_,_,_,_,_=>none
 |k+1,x0,x5,x6,x7,EU,Ja=>if x7<(x0.length:Int) then (if x6=true then (iE.j1 k x0 x5 x6 x7 false EU Ja) else (if 0≤x7 then (iE.j1 k x0 x5 x6 x7 (!(Op.bytesLess (((aq x0 x7).f0).toList) EU.toList)) EU Ja) else (none))) else (if x6=true then (some x5) else (if x5.length<5864062014805 then (some (x5++[(⟨EU,Ja⟩:ai)])) else (none)))
def iE.j1:Nat→List (ai)→List (ai)→Bool→Int→Bool→ByteArray→Int→Option ((List (ai)))
 |0,_,_,_,_,_,_,_=>none
 |k+1,x0,x5,x6,x7,x26,EU,Ja=>if x26=true then (if x5.length<5864062014805 then (iE.j2 k x0 (x5++[(⟨EU,Ja⟩:ai)]) true x7 EU Ja) else (none)) else (iE.j2 k x0 x5 x6 x7 EU Ja)
def iE.j2:Nat→List (ai)→List (ai)→Bool→Int→ByteArray→Int→Option ((List (ai)))
 |0,_,_,_,_,_,_=>none
 |k+1,x0,x5,x6,x7,EU,Ja=>if 0≤x7 then (if x7<(x0.length:Int) then (if ((aq x0 x7).f0).toList=EU.toList then (iE.l0 k x0 x5 x6 (wrap64 (x7+1)) EU Ja) else (if x5.length<5864062014805 then (iE.l0 k x0 (x5++[(⟨(aq x0 x7).f0,(aq x0 x7).f1⟩:ai)]) x6 (wrap64 (x7+1)) EU Ja) else (none))) else (none)) else (none)
end
def iE.f (k:Nat) (l0:List (ai)) (ez:ByteArray) (gx:Int):Option ((List (ai))):=iE.l0 k l0 (([]:List (ai))) false 0 ez gx
set_option maxHeartbeats 8000000 in
set_option maxRecDepth 100000 in
theorem iE.calls (k:Nat) (A0:Option Addr) (c0:Nat) (l0:List (ai)) (ez:ByteArray) (gx:Int) (r:List (ai)) (w:World) (gF:Kd.C aK w A0 l0.length l0) (fi:l0.length≤c0) (h:iE.f k l0 ez gx=some r) :
 Calls Try.prog 50 #[.slice A0 l0.length c0,.agg #[.string ez,.int .i64 gx]] w fun e w'=>∃fo:Value,e = .returned (fo)∧Kd.R aK 63 w' w.heap.size (fun _=>True) fo r∧Below w.heap.size w w':=by
 have Gy:=Try.underlying63;have fL:=J gF;have rG:=J fi;clear gF fi;have HB:=J (Below.refl w.heap.size w);have H:(iE.l0 k l0 (([]:List (ai))) false 0 ez gx)=some r:=h;clear h;obtain⟨auY,ZI⟩:∃y_:List (ai),y_=(([]:List (ai))):=⟨_,rfl⟩;replace H:(iE.l0 k l0 auY false 0 ez gx)=some r:=by first|(rw[ZI];with_reducible exact H)|(have bu:=(Option.bind_some _ _).symm.trans H;rw[ZI];with_reducible exact bu)|(have bu:=(Option.bind_some _ _).symm.trans H;with_reducible exact bu)|with_reducible exact H|(rw[ZI];exact H)|exact H
 have Sz:=J ZI;clear ZI;have H':=J H;clear H;go_enter Try.func50,Try.ntmps50;go_wp2_with (first|((with_reducible refine bB (N:=3) rfl ?_);refine bO 3 #[.string ez,.int .i64 gx] 63 ?_;intro nz hg w3 hbox hb;have ka:=J (hbox);have ami:=mG hg (mH HB.1);have nW:=mG hg (mH HB.1);replace HB:=J (aG (mH HB.1) hb);clear hb hbox hg)|((with_reducible refine bB (N:=8) rfl ?_);refine Kd.Dp aK _ 63 ?hg (N:=8) ?hd (xs:=([]:List (ai))) (inner:=[]) (ok:=fun _=>True) (okp:=fun _=>True) ?hr ?hp (fun _ hk=>hk) trivial (Below.refl _ _) (Nat.le_refl _) (by simp) ?_;(case hd=>rfl);(case hg=>rfl);(case hr=>first|(go_simp;done)|(go_simp;rfl));(case hp=>exact(dr.none _ _));intro at9 w4 n7 hb hg_ hnew_;clear hg_ hnew_;(first|rw[←Sz.1]at n7|(simp only[Int.reduceToNat]at n7;rw[←Sz.1]at n7));have aff:=J (Kd.cq (Kd.O7 n7 (g:=nz) (o:=.cells #[.string ez,.int .i64 gx] 63 (0,0)) (mK ka.1)) (a7 (aY HB.1 nW.1)));replace ka:=mB ka hb;replace HB:=J (aG (aY HB.1 nW.1) hb);clear hb n7))
 repeat (go_quiet (first|((with_reducible refine bB (N:=3) rfl ?_);refine bO 3 #[.string ez,.int .i64 gx] 63 ?_;intro nz hg w3 hbox hb;have ka:=J (hbox);have ami:=mG hg (mH HB.1);have nW:=mG hg (mH HB.1);replace HB:=J (aG (mH HB.1) hb);clear hb hbox hg)|((with_reducible refine bB (N:=8) rfl ?_);refine Kd.Dp aK _ 63 ?hg (N:=8) ?hd (xs:=([]:List (ai))) (inner:=[]) (ok:=fun _=>True) (okp:=fun _=>True) ?hr ?hp (fun _ hk=>hk) trivial (Below.refl _ _) (Nat.le_refl _) (by simp) ?_;(case hd=>rfl);(case hg=>rfl);(case hr=>first|(go_simp;done)|(go_simp;rfl));(case hp=>exact(dr.none _ _));intro at9 w4 n7 hb hg_ hnew_;clear hg_ hnew_;(first|rw[←Sz.1]at n7|(simp only[Int.reduceToNat]at n7;rw[←Sz.1]at n7));have aff:=J (Kd.cq (Kd.O7 n7 (g:=nz) (o:=.cells #[.string ez,.int .i64 gx] 63 (0,0)) (mK ka.1)) (a7 (aY HB.1 nW.1)));replace ka:=mB ka hb;replace HB:=J (aG (aY HB.1 nW.1) hb);clear hb n7));try go_wp2_with (first|((with_reducible refine bB (N:=3) rfl ?_);refine bO 3 #[.string ez,.int .i64 gx] 63 ?_;intro nz hg w3 hbox hb;have ka:=J (hbox);have ami:=mG hg (mH HB.1);have nW:=mG hg (mH HB.1);replace HB:=J (aG (mH HB.1) hb);clear hb hbox hg)|((with_reducible refine bB (N:=8) rfl ?_);refine Kd.Dp aK _ 63 ?hg (N:=8) ?hd (xs:=([]:List (ai))) (inner:=[]) (ok:=fun _=>True) (okp:=fun _=>True) ?hr ?hp (fun _ hk=>hk) trivial (Below.refl _ _) (Nat.le_refl _) (by simp) ?_;(case hd=>rfl);(case hg=>rfl);(case hr=>first|(go_simp;done)|(go_simp;rfl));(case hp=>exact(dr.none _ _));intro at9 w4 n7 hb hg_ hnew_;clear hg_ hnew_;(first|rw[←Sz.1]at n7|(simp only[Int.reduceToNat]at n7;rw[←Sz.1]at n7));have aff:=J (Kd.cq (Kd.O7 n7 (g:=nz) (o:=.cells #[.string ez,.int .i64 gx] 63 (0,0)) (mK ka.1)) (a7 (aY HB.1 nW.1)));replace ka:=mB ka hb;replace HB:=J (aG (aY HB.1 nW.1) hb);clear hb n7)))
 go_loopg [5,6,7] k (fun kq v5 v6 v7 w'=>∃(al:List (ai)) (nE:Bool) (kA:Int),v6 = .bool nE∧v7 = .int .i64 kA∧Aside0 (iE.l0 kq l0 al nE kA ez gx=some r)∧Aside0 (kq≤k)∧Aside0 (Kd.R aK 63 w' w.heap.size (fun k_=>k_≠nz) v5 al)∧Aside0 (w'.heap[nz]? = some (.cells #[.string ez,.int .i64 gx] 63 (0,0)))∧Aside0 (Below w.heap.size w w'))
 case atStart=>exact⟨(auY),(false),(0),mE,mE,H',⟨Nat.le_refl _⟩,⟨by refine mR ?_;exact Kd.aj aff.1 (fun _ hk=>hk.2)⟩,⟨mK ka.1⟩,⟨(aY HB.1 nW.1)⟩⟩
 case round=>
  clear H'
  obtain⟨al,nE,kA,rfl,rfl,HA,bI,kf,ka,HB⟩:=hrel;cases gk with
  |zero=>exact absurd HA.1 (by simp[iE.l0])
  |succ k1=>
   have H:=HA.1;clear HA;simp only[iE.l0]at H;by_cases c6:kA<(l0.length:Int)
   ·rw[if_pos c6]at H;have iW:=decide_eq_true c6;clear c6;have zO:=J H;clear H;go_upto_region 6 with (fail)
    repeat (go_quiet (fail);go_upto_region 6 with (fail))
    go_cut [26] (fun v26 wc=>∃(kq:Nat) (ad8:Bool),v26 = .bool ad8∧Aside0 (iE.j1 kq l0 al nE kA ad8 ez gx=some r)∧Aside0 (kq≤k1)∧Aside0 (Kd.R aK 63 wc w.heap.size (fun k_=>k_≠nz) u5 al)∧Aside0 (wc.heap[nz]? = some (.cells #[.string ez,.int .i64 gx] 63 (0,0)))∧Aside0 (Below w.heap.size w wc))
    case first=>
     have H:=zO.1;clear zO;by_cases c8:nE=true
     ·subst c8;have H1:=H;rw[if_pos rfl]at H1;clear H;have H:=H1;clear H1;have H':=J H;clear H;go_wp2
      repeat (go_quiet (fail);try go_wp2)
      go_meet
      case rel=>exact⟨_,(false),mE,H',⟨by have:=bI.1;first|omega|exact Nat.le_refl _⟩,⟨mR kf.1⟩,⟨mK ka.1⟩,⟨(aY HB.1 nW.1)⟩⟩
     ·replace c8:=Bool.eq_false_iff.mpr c8;subst c8;have H1:=H;rw[if_neg (show ¬(false=true) by decide)]at H1;clear H;have H:=H1;clear H1;by_cases c9:0≤kA
      ·rw[if_pos c9]at H;have qg:=decide_eq_true c9;clear c9
       (first|rw[qg]|(simp only[kE,lE];rw[qg])|skip)
       have H':=J H;clear H;have akm:0≤(kA:Int):=mD;have akE:kA<(l0.length:Int):=mD;obtain⟨aKi,azm,asS,asT⟩:=lB fL.1 kA akm akE;cases azm
       replace asS:=mX HB.1 asS;replace asT:=mX HB.1 asT;replace akm:=eq_true akm;replace akE:=eq_true akE;obtain⟨wW,wX,wY,wZ⟩:=tt ka.1;go_wp2
       repeat (go_quiet (fail);try go_wp2)
       go_meet
       case rel=>exact⟨_,(!(Op.bytesLess (((aq l0 kA).f0).toList) ez.toList)),mE,H',⟨by have:=bI.1;first|omega|exact Nat.le_refl _⟩,⟨mR kf.1⟩,⟨mK ka.1⟩,⟨(aY HB.1 nW.1)⟩⟩
      ·rw[if_neg c9]at H;exact absurd H (by simp)
    case rest=>
     clear zO
     try clear c6
     try clear iW
     obtain⟨kq,ad8,rfl,HA,zP,kf,ka,HB⟩:=hcut;cases kq with
     |zero=>exact absurd HA.1 (by simp[iE.j1])
     |succ NB=>
      have H:=HA.1;clear HA;simp only[iE.j1]at H;have OK:=J H;clear H;go_upto_if 26 with (fail)
      repeat (go_quiet (fail);go_upto_if 26 with (fail))
      go_cut [5,6] (fun v5 v6 wc=>∃(kq:Nat) (Lw:List (ai)) (UE:Bool),v6 = .bool UE∧Aside0 (iE.j2 kq l0 Lw UE kA ez gx=some r)∧Aside0 (kq≤NB)∧Aside0 (Kd.R aK 63 wc w.heap.size (fun k_=>k_≠nz) v5 Lw)∧Aside0 (wc.heap[nz]? = some (.cells #[.string ez,.int .i64 gx] 63 (0,0)))∧Aside0 (Below w.heap.size w wc))
      case first=>
       have H:=OK.1;clear OK;by_cases nj:ad8=true
       ·subst nj;have H1:=H;rw[if_pos rfl]at H1;clear H;have H:=H1;clear H1;by_cases mi:al.length<5864062014805
        ·rw[if_pos mi]at H;have Wh:=J mi;clear mi;obtain⟨auZ,ZJ⟩:∃y_:List (ai),y_=(al++[(⟨ez,gx⟩:ai)]):=⟨_,rfl⟩;replace H:(iE.j2 NB l0 auZ true kA ez gx)=some r:=by first|(rw[ZJ];with_reducible exact H)|(have bu:=(Option.bind_some _ _).symm.trans H;rw[ZJ];with_reducible exact bu)|(have bu:=(Option.bind_some _ _).symm.trans H;with_reducible exact bu)|with_reducible exact H|(rw[ZJ];exact H)|exact H
         have af2:=J ZJ;clear ZJ;have H':=J H;clear H;obtain⟨Td,Te,To,Tp⟩:=tt ka.1;go_wp2_with (first|((with_reducible refine rm (b:=.append) (xs:=#[.tmp 27,.tmp 29]) rfl ?_);at_builtin;refine Kd.wN aK (w0:=w) w.heap.size rfl (.tmp 27) (.tmp 29) 28 63 (.agg #[(.string ⟨#[]⟩),(.int .i64 0)]) 24 rfl Try.underlying28 rv rfl (by decide) (by omega) u5 al (⟨ez,gx⟩:ai) [.string ez,.int .i64 gx] (fun k_=>k_≠nz) (fun _=>False) rfl rfl ?aP (fun _ hk=>hk.elim) ?aF ?aO ?aB ?aS ?aL ?_;(case aP=>exact yv _ _ _ (⟨ez,gx⟩:ai));(case aB=>exact(aY HB.1 nW.1));(case aF=>exact(fun k_ hk=>Kd.eS (g:=nz) (o:=.cells #[.string ez,.int .i64 gx] 63 (0,0)) (mK ka.1) k_ hk));(case aO=>exact(mR kf.1));(case aS=>exact(a7 (aY HB.1 nW.1)));(case aL=>have:=Wh.1;omega);intro aua uC ho hb hg hat;rw[←af2.1]at ho;replace ka:=J (fN (g:=nz) (o:=.cells #[.string ez,.int .i64 gx] 63 (0,0)) (mK ka.1) hg (Kd.Ef kf.1 (fun _ hk=>hk)));replace HB:=J (hb);have afg:=J (ho);clear kf;clear ho hb hg hat))
         repeat (go_quiet (first|((with_reducible refine rm (b:=.append) (xs:=#[.tmp 27,.tmp 29]) rfl ?_);at_builtin;refine Kd.wN aK (w0:=w) w.heap.size rfl (.tmp 27) (.tmp 29) 28 63 (.agg #[(.string ⟨#[]⟩),(.int .i64 0)]) 24 rfl Try.underlying28 rv rfl (by decide) (by omega) u5 al (⟨ez,gx⟩:ai) [.string ez,.int .i64 gx] (fun k_=>k_≠nz) (fun _=>False) rfl rfl ?aP (fun _ hk=>hk.elim) ?aF ?aO ?aB ?aS ?aL ?_;(case aP=>exact yv _ _ _ (⟨ez,gx⟩:ai));(case aB=>exact(aY HB.1 nW.1));(case aF=>exact(fun k_ hk=>Kd.eS (g:=nz) (o:=.cells #[.string ez,.int .i64 gx] 63 (0,0)) (mK ka.1) k_ hk));(case aO=>exact(mR kf.1));(case aS=>exact(a7 (aY HB.1 nW.1)));(case aL=>have:=Wh.1;omega);intro aua uC ho hb hg hat;rw[←af2.1]at ho;replace ka:=J (fN (g:=nz) (o:=.cells #[.string ez,.int .i64 gx] 63 (0,0)) (mK ka.1) hg (Kd.Ef kf.1 (fun _ hk=>hk)));replace HB:=J (hb);have afg:=J (ho);clear kf;clear ho hb hg hat));try go_wp2_with (first|((with_reducible refine rm (b:=.append) (xs:=#[.tmp 27,.tmp 29]) rfl ?_);at_builtin;refine Kd.wN aK (w0:=w) w.heap.size rfl (.tmp 27) (.tmp 29) 28 63 (.agg #[(.string ⟨#[]⟩),(.int .i64 0)]) 24 rfl Try.underlying28 rv rfl (by decide) (by omega) u5 al (⟨ez,gx⟩:ai) [.string ez,.int .i64 gx] (fun k_=>k_≠nz) (fun _=>False) rfl rfl ?aP (fun _ hk=>hk.elim) ?aF ?aO ?aB ?aS ?aL ?_;(case aP=>exact yv _ _ _ (⟨ez,gx⟩:ai));(case aB=>exact(aY HB.1 nW.1));(case aF=>exact(fun k_ hk=>Kd.eS (g:=nz) (o:=.cells #[.string ez,.int .i64 gx] 63 (0,0)) (mK ka.1) k_ hk));(case aO=>exact(mR kf.1));(case aS=>exact(a7 (aY HB.1 nW.1)));(case aL=>have:=Wh.1;omega);intro aua uC ho hb hg hat;rw[←af2.1]at ho;replace ka:=J (fN (g:=nz) (o:=.cells #[.string ez,.int .i64 gx] 63 (0,0)) (mK ka.1) hg (Kd.Ef kf.1 (fun _ hk=>hk)));replace HB:=J (hb);have afg:=J (ho);clear kf;clear ho hb hg hat)))
         go_meet
         case rel=>exact⟨_,(auZ),(true),mE,H',⟨by have:=bI.1;have:=zP.1;first|omega|exact Nat.le_refl _⟩,⟨mR afg.1⟩,⟨mK ka.1⟩,⟨(aY HB.1 nW.1)⟩⟩
        ·rw[if_neg mi]at H;exact absurd H (by simp)
       ·replace nj:=Bool.eq_false_iff.mpr nj;subst nj;have H1:=H;rw[if_neg (show ¬(false=true) by decide)]at H1;clear H;have H:=H1;clear H1;have H':=J H;clear H;go_wp2
        repeat (go_quiet (fail);try go_wp2)
        go_meet
        case rel=>exact⟨_,(al),(nE),mE,H',⟨by have:=bI.1;have:=zP.1;first|omega|exact Nat.le_refl _⟩,⟨mR kf.1⟩,⟨mK ka.1⟩,⟨(aY HB.1 nW.1)⟩⟩
      case rest=>
       clear OK
       try clear c6
       try clear iW
       obtain⟨kq,Lw,UE,rfl,HA,OQ,kf,ka,HB⟩:=hcut;cases kq with
       |zero=>exact absurd HA.1 (by simp[iE.j2])
       |succ aaw=>
        have H:=HA.1;clear HA;simp only[iE.j2]at H;by_cases ri:0≤kA
        ·rw[if_pos ri]at H;have agy:=decide_eq_true ri;clear ri;by_cases vP:kA<(l0.length:Int)
         ·rw[if_pos vP]at H;have ayT:=decide_eq_true vP;clear vP;by_cases pc:((aq l0 kA).f0).toList=ez.toList
          ·rw[if_pos pc]at H;have Io:(((aq l0 kA).f0).toList == ez.toList)=true:=beq_iff_eq.mpr pc;have ayV:(((aq l0 kA).f0).toList != ez.toList)=false:=bne_eq_false_iff_eq.mpr pc;clear pc;have H':=J H;clear H;have QJ:0≤(kA:Int):=mD;have Q8:kA<(l0.length:Int):=mD;obtain⟨anR,agN,Zi,Zj⟩:=lB fL.1 kA QJ Q8;cases agN
           replace Zi:=mX HB.1 Zi;replace Zj:=mX HB.1 Zj;replace QJ:=eq_true QJ;replace Q8:=eq_true Q8;obtain⟨yc,yd,yj,yk⟩:=tt ka.1;go_wp2
           repeat (go_quiet (fail);try go_wp2)
           go_roundg aaw
           case measure=>have:=bI.1;have:=zP.1;have:=OQ.1;omega
           case rel=>exact⟨(Lw),(UE),(wrap64 (kA+1)),mE,mE,H',⟨by have:=bI.1;have:=zP.1;have:=OQ.1;omega⟩,⟨mR kf.1⟩,⟨mK ka.1⟩,⟨(aY HB.1 nW.1)⟩⟩
          ·rw[if_neg pc]at H;have Io:(((aq l0 kA).f0).toList == ez.toList)=false:=beq_eq_false_iff_ne.mpr pc;have ayV:(((aq l0 kA).f0).toList != ez.toList)=true:=bne_iff_ne.mpr pc;by_cases sl:Lw.length<5864062014805
           ·rw[if_pos sl]at H;have Wi:=J sl;clear sl;obtain⟨au0,ZK⟩:∃y_:List (ai),y_=(Lw++[(⟨(aq l0 kA).f0,(aq l0 kA).f1⟩:ai)]):=⟨_,rfl⟩;replace H:(iE.l0 aaw l0 au0 UE (wrap64 (kA+1)) ez gx)=some r:=by first|(rw[ZK];with_reducible exact H)|(have bu:=(Option.bind_some _ _).symm.trans H;rw[ZK];with_reducible exact bu)|(have bu:=(Option.bind_some _ _).symm.trans H;with_reducible exact bu)|with_reducible exact H|(rw[ZK];exact H)|exact H
            have af3:=J ZK;clear ZK;have H':=J H;clear H;have QJ:0≤(kA:Int):=mD;have Q8:kA<(l0.length:Int):=mD;obtain⟨anR,agN,Zi,Zj⟩:=lB fL.1 kA QJ Q8;cases agN
            replace Zi:=mX HB.1 Zi;replace Zj:=mX HB.1 Zj;replace QJ:=eq_true QJ;replace Q8:=eq_true Q8;obtain⟨ye,yf,yl,ym⟩:=tt ka.1;have akn:0≤(kA:Int):=mD;have akF:kA<(l0.length:Int):=mD;obtain⟨ayh,azn,asU,asV⟩:=lB fL.1 kA akn akF;obtain rfl:anR=ayh:=(by injection azn);replace asU:=mX HB.1 asU;replace asV:=mX HB.1 asV;replace akn:=eq_true akn;replace akF:=eq_true akF;go_wp2_with (first|((with_reducible refine rm (b:=.append) (xs:=#[.tmp 39,.tmp 44]) rfl ?_);at_builtin;refine Kd.wN aK (w0:=w) w.heap.size rfl (.tmp 39) (.tmp 44) 28 63 (.agg #[(.string ⟨#[]⟩),(.int .i64 0)]) 24 rfl Try.underlying28 rv rfl (by decide) (by omega) u5 Lw (⟨(aq l0 kA).f0,(aq l0 kA).f1⟩:ai) [.string ((aq l0 kA).f0),.int .i64 ((aq l0 kA).f1)] (fun k_=>k_≠nz) (fun _=>False) rfl rfl ?aP (fun _ hk=>hk.elim) ?aF ?aO ?aB ?aS ?aL ?_;(case aP=>exact yv _ _ _ (⟨(aq l0 kA).f0,(aq l0 kA).f1⟩:ai));(case aB=>exact(aY HB.1 nW.1));(case aF=>exact(fun k_ hk=>Kd.eS (g:=nz) (o:=.cells #[.string ez,.int .i64 gx] 63 (0,0)) (mK ka.1) k_ hk));(case aO=>exact(mR kf.1));(case aS=>exact(a7 (aY HB.1 nW.1)));(case aL=>have:=Wi.1;omega);intro aub Ub ho hb hg hat;rw[←af3.1]at ho;replace ka:=J (fN (g:=nz) (o:=.cells #[.string ez,.int .i64 gx] 63 (0,0)) (mK ka.1) hg (Kd.Ef kf.1 (fun _ hk=>hk)));replace HB:=J (hb);have afh:=J (ho);clear kf;clear ho hb hg hat))
            repeat (go_quiet (first|((with_reducible refine rm (b:=.append) (xs:=#[.tmp 39,.tmp 44]) rfl ?_);at_builtin;refine Kd.wN aK (w0:=w) w.heap.size rfl (.tmp 39) (.tmp 44) 28 63 (.agg #[(.string ⟨#[]⟩),(.int .i64 0)]) 24 rfl Try.underlying28 rv rfl (by decide) (by omega) u5 Lw (⟨(aq l0 kA).f0,(aq l0 kA).f1⟩:ai) [.string ((aq l0 kA).f0),.int .i64 ((aq l0 kA).f1)] (fun k_=>k_≠nz) (fun _=>False) rfl rfl ?aP (fun _ hk=>hk.elim) ?aF ?aO ?aB ?aS ?aL ?_;(case aP=>exact yv _ _ _ (⟨(aq l0 kA).f0,(aq l0 kA).f1⟩:ai));(case aB=>exact(aY HB.1 nW.1));(case aF=>exact(fun k_ hk=>Kd.eS (g:=nz) (o:=.cells #[.string ez,.int .i64 gx] 63 (0,0)) (mK ka.1) k_ hk));(case aO=>exact(mR kf.1));(case aS=>exact(a7 (aY HB.1 nW.1)));(case aL=>have:=Wi.1;omega);intro aub Ub ho hb hg hat;rw[←af3.1]at ho;replace ka:=J (fN (g:=nz) (o:=.cells #[.string ez,.int .i64 gx] 63 (0,0)) (mK ka.1) hg (Kd.Ef kf.1 (fun _ hk=>hk)));replace HB:=J (hb);have afh:=J (ho);clear kf;clear ho hb hg hat));try go_wp2_with (first|((with_reducible refine rm (b:=.append) (xs:=#[.tmp 39,.tmp 44]) rfl ?_);at_builtin;refine Kd.wN aK (w0:=w) w.heap.size rfl (.tmp 39) (.tmp 44) 28 63 (.agg #[(.string ⟨#[]⟩),(.int .i64 0)]) 24 rfl Try.underlying28 rv rfl (by decide) (by omega) u5 Lw (⟨(aq l0 kA).f0,(aq l0 kA).f1⟩:ai) [.string ((aq l0 kA).f0),.int .i64 ((aq l0 kA).f1)] (fun k_=>k_≠nz) (fun _=>False) rfl rfl ?aP (fun _ hk=>hk.elim) ?aF ?aO ?aB ?aS ?aL ?_;(case aP=>exact yv _ _ _ (⟨(aq l0 kA).f0,(aq l0 kA).f1⟩:ai));(case aB=>exact(aY HB.1 nW.1));(case aF=>exact(fun k_ hk=>Kd.eS (g:=nz) (o:=.cells #[.string ez,.int .i64 gx] 63 (0,0)) (mK ka.1) k_ hk));(case aO=>exact(mR kf.1));(case aS=>exact(a7 (aY HB.1 nW.1)));(case aL=>have:=Wi.1;omega);intro aub Ub ho hb hg hat;rw[←af3.1]at ho;replace ka:=J (fN (g:=nz) (o:=.cells #[.string ez,.int .i64 gx] 63 (0,0)) (mK ka.1) hg (Kd.Ef kf.1 (fun _ hk=>hk)));replace HB:=J (hb);have afh:=J (ho);clear kf;clear ho hb hg hat)))
            go_roundg aaw
            case measure=>have:=bI.1;have:=zP.1;have:=OQ.1;omega
            case rel=>exact⟨(au0),(UE),(wrap64 (kA+1)),mE,mE,H',⟨by have:=bI.1;have:=zP.1;have:=OQ.1;omega⟩,⟨mR afh.1⟩,⟨mK ka.1⟩,⟨(aY HB.1 nW.1)⟩⟩
           ·rw[if_neg sl]at H;exact absurd H (by simp)
         ·rw[if_neg vP]at H;exact absurd H (by simp)
        ·rw[if_neg ri]at H;exact absurd H (by simp)
   ·rw[if_neg c6]at H;have iW:=decide_eq_false c6;clear c6;by_cases lT:nE=true
    ·subst lT;have H1:=H;rw[if_pos rfl]at H1;clear H;have H:=H1;clear H1;obtain rfl:=Option.some.inj H;go_wp2
     repeat (go_quiet (fail);try go_wp2)
     go_ret;exact⟨_,cS,by refine mR ?_;exact Kd.aj kf.1 (fun _ hk=>trivial),(aY HB.1 nW.1)⟩
    ·replace lT:=Bool.eq_false_iff.mpr lT;subst lT;have H1:=H;rw[if_neg (show ¬(false=true) by decide)]at H1;clear H;have H:=H1;clear H1;by_cases rS:al.length<5864062014805
     ·rw[if_pos rS]at H;have afr:=J rS;clear rS;obtain⟨aIY,ZL⟩:∃y_:List (ai),y_=(al++[(⟨ez,gx⟩:ai)]):=⟨_,rfl⟩;replace H:(some aIY)=some r:=by first|(rw[ZL];with_reducible exact H)|(have bu:=(Option.bind_some _ _).symm.trans H;rw[ZL];with_reducible exact bu)|(have bu:=(Option.bind_some _ _).symm.trans H;with_reducible exact bu)|with_reducible exact H|(rw[ZL];exact H)|exact H
      have af4:=J ZL;clear ZL;obtain rfl:=Option.some.inj H;obtain⟨ah5,ah6,aiU,aiV⟩:=tt ka.1;go_wp2_with (first|((with_reducible refine rm (b:=.append) (xs:=#[.tmp 48,.tmp 50]) rfl ?_);at_builtin;refine Kd.wN aK (w0:=w) w.heap.size rfl (.tmp 48) (.tmp 50) 28 63 (.agg #[(.string ⟨#[]⟩),(.int .i64 0)]) 24 rfl Try.underlying28 rv rfl (by decide) (by omega) u5 al (⟨ez,gx⟩:ai) [.string ez,.int .i64 gx] (fun k_=>k_≠nz) (fun _=>False) rfl rfl ?aP (fun _ hk=>hk.elim) ?aF ?aO ?aB ?aS ?aL ?_;(case aP=>exact yv _ _ _ (⟨ez,gx⟩:ai));(case aB=>exact(aY HB.1 nW.1));(case aF=>exact(fun k_ hk=>Kd.eS (g:=nz) (o:=.cells #[.string ez,.int .i64 gx] 63 (0,0)) (mK ka.1) k_ hk));(case aO=>exact(mR kf.1));(case aS=>exact(a7 (aY HB.1 nW.1)));(case aL=>have:=afr.1;omega);intro auc Ba ho hb hg hat;rw[←af4.1]at ho;replace ka:=J (fN (g:=nz) (o:=.cells #[.string ez,.int .i64 gx] 63 (0,0)) (mK ka.1) hg (Kd.Ef kf.1 (fun _ hk=>hk)));replace HB:=J (hb);have afi:=J (ho);clear kf;clear ho hb hg hat))
      repeat (go_quiet (first|((with_reducible refine rm (b:=.append) (xs:=#[.tmp 48,.tmp 50]) rfl ?_);at_builtin;refine Kd.wN aK (w0:=w) w.heap.size rfl (.tmp 48) (.tmp 50) 28 63 (.agg #[(.string ⟨#[]⟩),(.int .i64 0)]) 24 rfl Try.underlying28 rv rfl (by decide) (by omega) u5 al (⟨ez,gx⟩:ai) [.string ez,.int .i64 gx] (fun k_=>k_≠nz) (fun _=>False) rfl rfl ?aP (fun _ hk=>hk.elim) ?aF ?aO ?aB ?aS ?aL ?_;(case aP=>exact yv _ _ _ (⟨ez,gx⟩:ai));(case aB=>exact(aY HB.1 nW.1));(case aF=>exact(fun k_ hk=>Kd.eS (g:=nz) (o:=.cells #[.string ez,.int .i64 gx] 63 (0,0)) (mK ka.1) k_ hk));(case aO=>exact(mR kf.1));(case aS=>exact(a7 (aY HB.1 nW.1)));(case aL=>have:=afr.1;omega);intro auc Ba ho hb hg hat;rw[←af4.1]at ho;replace ka:=J (fN (g:=nz) (o:=.cells #[.string ez,.int .i64 gx] 63 (0,0)) (mK ka.1) hg (Kd.Ef kf.1 (fun _ hk=>hk)));replace HB:=J (hb);have afi:=J (ho);clear kf;clear ho hb hg hat));try go_wp2_with (first|((with_reducible refine rm (b:=.append) (xs:=#[.tmp 48,.tmp 50]) rfl ?_);at_builtin;refine Kd.wN aK (w0:=w) w.heap.size rfl (.tmp 48) (.tmp 50) 28 63 (.agg #[(.string ⟨#[]⟩),(.int .i64 0)]) 24 rfl Try.underlying28 rv rfl (by decide) (by omega) u5 al (⟨ez,gx⟩:ai) [.string ez,.int .i64 gx] (fun k_=>k_≠nz) (fun _=>False) rfl rfl ?aP (fun _ hk=>hk.elim) ?aF ?aO ?aB ?aS ?aL ?_;(case aP=>exact yv _ _ _ (⟨ez,gx⟩:ai));(case aB=>exact(aY HB.1 nW.1));(case aF=>exact(fun k_ hk=>Kd.eS (g:=nz) (o:=.cells #[.string ez,.int .i64 gx] 63 (0,0)) (mK ka.1) k_ hk));(case aO=>exact(mR kf.1));(case aS=>exact(a7 (aY HB.1 nW.1)));(case aL=>have:=afr.1;omega);intro auc Ba ho hb hg hat;rw[←af4.1]at ho;replace ka:=J (fN (g:=nz) (o:=.cells #[.string ez,.int .i64 gx] 63 (0,0)) (mK ka.1) hg (Kd.Ef kf.1 (fun _ hk=>hk)));replace HB:=J (hb);have afi:=J (ho);clear kf;clear ho hb hg hat)))
      go_ret;exact⟨_,cS,by refine mR ?_;exact Kd.aj afi.1 (fun _ hk=>trivial),(aY HB.1 nW.1)⟩
     ·rw[if_neg rS]at H;exact absurd H (by simp)
end Go.Proofs.Ytgpkdbnikcghgaa.MD
