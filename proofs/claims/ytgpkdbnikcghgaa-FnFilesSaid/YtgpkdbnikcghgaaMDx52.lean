-- Written by mp.py, our own printer (wip/mp.py), and made shorter by wip/mp_shrink*.py.
import Derived.Test.YtgpkdbnikcghgaaVAll
import Derived.Test.YtgpkdbnikcghgaaMDx0
import Derived.Test.YtgpkdbnikcghgaaMDx10
import Derived.Test.YtgpkdbnikcghgaaMDx11
import Derived.Test.YtgpkdbnikcghgaaMDx12
namespace Go.Proofs.Ytgpkdbnikcghgaa.MD
open Go.RowKit Go.Proofs.YtgpkdbnikcghgaaW.PrintWords Go.Proofs.YtgpkdbnikcghgaaW.PrintLast Go.Proofs.YtgpkdbnikcghgaaW.PrintMore Go.Proofs.Ytgpkdbnikcghgaa.MWords
attribute [local go_sem] max2_int min2_int max_two min_two max_three min_three max_four min_four
set_option linter.unusedVariables false
set_option linter.unusedSimpArgs false
def jW.j0:Nat→Int→Bool→List (aj)→List (ah)→List (ah)→Int→Option (List Int × Bool)
 |0,_,_,_,_,_,_=>none
 |k+1,x6,EH,aes,aDf,aDg,aDh=>if EH=true then (some (([]:List Int),false)) else (if 0≤x6 then (if x6<(aes.length:Int) then ((rG.f ((aa aes x6).f1)).bind fun Ns=>(some (Ns,true))) else (none)) else (none))
def jW.f (k:Nat) (U:List (aj)) (ab:List (ah)) (ae:List (ah)) (af:Int) (a1:ByteArray):Option (List Int × Bool):=(gY.f k U ab ae af a1).bind fun Af=>((jj.f k U ab ae af Af).bind fun iw=>((b7.f k U ab ae af).bind fun wo=>(if wo=true then ((gY.f k U ab ae af a1).bind fun o5=>(if o5=0 then (jW.j0 k iw true U ab ae af) else (jW.j0 k iw (decide (iw<0)) U ab ae af))) else (jW.j0 k iw true U ab ae af))))
set_option maxHeartbeats 8000000 in
set_option maxRecDepth 100000 in
theorem jW.calls (k:Nat) (av:Option Addr) (al:Nat) (U:List (aj)) (ao:Option Addr) (an:Nat) (ab:List (ah)) (aq:Option Addr) (ar:Nat) (ae:List (ah)) (af:Int) (a1:ByteArray) (r1:List Int) (r2:Bool) (w:World) (cT:Kd.C bj w av U.length U) (cQ:U.length≤al) (cU:Kd.C ay w ao ab.length ab) (cR:ab.length≤an) (cV:Kd.C ay w aq ae.length ae) (cS:ae.length≤ar) (h:jW.f k U ab ae af a1=some (r1,r2)) :
 Calls Try.prog 40 #[.agg #[.slice av U.length al,.slice ao ab.length an,.slice aq ae.length ar,.int .i64 af],.string a1] w fun e w'=>∃df:Value,e = .returned (.tuple #[df,.bool r2])∧Kd.R (Kd.int .u8) 5 w' w.heap.size (fun _=>True) df r1∧Below w.heap.size w w':=by
 have kx:=Try.underlying30;have bG:=J cT;have cf:=J cQ;clear cT cQ;have bE:=J cU;have bO:=J cR;clear cU cR;have bL:=J cV;have b6:=J cS;clear cV cS;have HB:=J (Below.refl w.heap.size w);have H:((gY.f k U ab ae af a1).bind fun Af=>((jj.f k U ab ae af Af).bind fun iw=>((b7.f k U ab ae af).bind fun wo=>(if wo=true then ((gY.f k U ab ae af a1).bind fun o5=>(if o5=0 then (jW.j0 k iw true U ab ae af) else (jW.j0 k iw (decide (iw<0)) U ab ae af))) else (jW.j0 k iw true U ab ae af)))))=some (r1,r2):=h;clear h;replace H:=Option.bind_eq_some_iff.mp H;obtain⟨Af,gC,H⟩:=H;replace H:((jj.f k U ab ae af Af).bind fun iw=>((b7.f k U ab ae af).bind fun wo=>(if wo=true then ((gY.f k U ab ae af a1).bind fun o5=>(if o5=0 then (jW.j0 k iw true U ab ae af) else (jW.j0 k iw (decide (iw<0)) U ab ae af))) else (jW.j0 k iw true U ab ae af))))=some (r1,r2):=H;have A3:=J gC;clear gC;replace H:=Option.bind_eq_some_iff.mp H;obtain⟨iw,jt,H⟩:=H;replace H:((b7.f k U ab ae af).bind fun wo=>(if wo=true then ((gY.f k U ab ae af a1).bind fun o5=>(if o5=0 then (jW.j0 k iw true U ab ae af) else (jW.j0 k iw (decide (iw<0)) U ab ae af))) else (jW.j0 k iw true U ab ae af)))=some (r1,r2):=H;have A4:=J jt;clear jt;have tX:=J H;clear H;go_enter Try.func40,Try.ntmps40
 try go_wp2_with (first|((with_reducible refine bk (N:=2) rfl ?_);refine bF 2 #[.slice av U.length al,.slice ao ab.length an,.slice aq ae.length ar,.int .i64 af] 30 ?_;intro Gp hg w6 hbox hb;have jk:=J (hbox);have arw:=mG hg (mH HB.1);have qV:=mG hg (mH HB.1);replace HB:=J (aK (mH HB.1) hb);clear hb hbox hg))
 replace jk:=J (bR jk.1);replace HB:=J (cP HB.1);refine ee (n:=6) (S:=fun w'=>w'.cell? ⟨Gp,0,none⟩=some (.slice av U.length al)∧w'.cell? ⟨Gp,1,none⟩=some (.slice ao ab.length an)∧w'.cell? ⟨Gp,2,none⟩=some (.slice aq ae.length ar)∧w'.cell? ⟨Gp,3,none⟩=some (.int .i64 af)) (ds:=[]) (mb 0 6) (by kernel_rfl) rfl rfl (cA jk.1) (fun hHeld=>?_);generalize w6.drew=w7 at jk HB hHeld ⊢
 refine Jg (i:=2) (N:=some 9) (v:=?_) (a':=?_) (mr [0,2,1,3]) rfl rfl (by kernel_rfl) (fun _ _ _ h=>h) (Or.inl ⟨by rfl,?_⟩) ?_ ?_
 rotate_left
 ·intro w';go_simp
  with_reducible rfl
 rotate_left
 ·simp only[Act.put,zA,zB,zC,iq,jJ];rfl
 refine CD (i:=0) (N:=some 7) (v:=?_) (a':=?_) (mr [1,1,1,3]) rfl rfl (by kernel_rfl) (fun _ _ _ h=>h) (Or.inl ⟨by rfl,?_⟩) hHeld ?_ ?_
 rotate_left
 ·rintro w' ⟨s0,s1,s2,s3⟩;go_simp
  with_reducible rfl
 rotate_left
 ·simp only[Act.put,zA,zB,zC,iq,jJ];rfl
 refine CD (i:=1) (N:=some 8) (v:=?_) (a':=?_) (mb 3 3) rfl rfl (by kernel_rfl) (fun _ _ _ h=>h) (Or.inl ⟨by rfl,?_⟩) hHeld ?_ ?_
 rotate_left
 ·rintro w' ⟨s0,s1,s2,s3⟩;go_simp
  with_reducible rfl
 rotate_left
 ·simp only[Act.put,zA,zB,zC,iq,jJ];rfl
 refine Je (i:=3) (N:=some 10) (mb 4 2) rfl rfl (by kernel_rfl) (by decide) (fun K hK=>?_);refine dd Try.func57 (by kernel_rfl) rfl #[.agg #[.slice av U.length al,.slice ao ab.length an,.slice aq ae.length ar,.int .i64 af],.string a1] (by rfl) rfl rfl mA ?_
 with_reducible refine(gY.calls k _ _ U _ _ ab _ _ ae af a1 Af _ ?aG ?aH ?aY ?aZ ?a6 ?a7 A3.1).mono ?_
 (case aG=>exact mC (Kd.aE bG.1 HB.1))
 (case aH=>exact cf.1)
 (case aY=>exact mC (Kd.aE bE.1 HB.1))
 (case aZ=>exact bO.1)
 (case a6=>exact mC (Kd.aE bL.1 HB.1))
 (case a7=>exact b6.1)
 rintro e w8 ⟨rfl,hb⟩;refine⟨_,rfl,?_⟩;replace jk:=mB jk hb;replace HB:=J (aK (aM HB.1 qV.1) hb)
 (try clear hb)
 (try clear dV)
 (try clear hk)
 (try clear hi)
 refine hK.out _ _ (cA jk.1) (fun hHeld=>?_);clear hK K;refine bp 10 ?_;refine Je (i:=4) (N:=some 11) (mb 5 1) rfl rfl (by kernel_rfl) (by decide) (fun K hK=>?_);refine dd Try.func70 (by kernel_rfl) rfl #[.agg #[.slice av U.length al,.slice ao ab.length an,.slice aq ae.length ar,.int .i64 af],.int .i64 Af] (by rfl) rfl rfl mA ?_
 with_reducible refine(jj.calls k _ _ U _ _ ab _ _ ae af Af iw _ ?aG ?aH ?aY ?aZ ?a6 ?a7 A4.1).mono ?_
 (case aG=>exact mC (Kd.aE bG.1 HB.1))
 (case aH=>exact cf.1)
 (case aY=>exact mC (Kd.aE bE.1 HB.1))
 (case aZ=>exact bO.1)
 (case a6=>exact mC (Kd.aE bL.1 HB.1))
 (case a7=>exact b6.1)
 rintro e w9 ⟨rfl,hb⟩;refine⟨_,rfl,?_⟩;replace jk:=mB jk hb;replace HB:=J (aK (aM HB.1 qV.1) hb)
 (try clear hb)
 (try clear dV)
 (try clear hk)
 (try clear hi)
 refine hK.out _ _ (cA jk.1) (fun hHeld=>?_);clear hK K;refine bp 11 ?_;refine Jg (i:=5) (N:=some 6) (v:=?_) (a':=?_) (mb 6 0) rfl rfl (by kernel_rfl) (fun _ _ _ h=>h) (Or.inl ⟨by rfl,?_⟩) ?_ ?_
 rotate_left
 ·intro w';go_simp
  with_reducible rfl
 rotate_left
 ·simp only[Act.put,zA,zB,zC,iq,jJ];rfl
 refine ec (by kernel_rfl) ?_;go_upto_region 2 with (fail)
 go_cut [24] (fun v24 wc=>∃(kq:Nat) (NY:Bool),v24 = .bool NY∧Aside0 (jW.j0 kq iw NY U ab ae af=some (r1,r2))∧Aside0 (kq≤k)∧Aside0 (wc.heap[Gp]? = some (.cells #[(.slice av U.length al),(.slice ao ab.length an),(.slice aq ae.length ar),.int .i64 af] 30 (0,0)))∧Aside0 (Below w.heap.size w wc))
 case first=>
  have H:=tX.1;clear tX;replace H:=Option.bind_eq_some_iff.mp H;obtain⟨wo,qS,H⟩:=H;replace H:(if wo=true then ((gY.f k U ab ae af a1).bind fun o5=>(if o5=0 then (jW.j0 k iw true U ab ae af) else (jW.j0 k iw (decide (iw<0)) U ab ae af))) else (jW.j0 k iw true U ab ae af))=some (r1,r2):=H;have tN:=J qS;clear qS;by_cases jm:wo=true
  ·subst jm;have H1:=H;rw[if_pos rfl]at H1;clear H;have H:=H1;clear H1;replace H:=Option.bind_eq_some_iff.mp H;obtain⟨o5,V2,H⟩:=H;replace H:(if o5=0 then (jW.j0 k iw true U ab ae af) else (jW.j0 k iw (decide (iw<0)) U ab ae af))=some (r1,r2):=H;have V1:=J V2;clear V2;by_cases jx:o5=0
   ·rw[if_pos jx]at H;have xp:(o5 == 0)=true:=beq_iff_eq.mpr jx;have aib:(o5 != 0)=false:=bne_eq_false_iff_eq.mpr jx;clear jx
    (first|rw[xp]|(simp only[iq,jJ];rw[xp])|skip)
    have H':=J H;clear H;obtain⟨Bw,Bx,LA,RA,BA,BB,L2,Sm⟩:=aX jk.1;go_wp2_with (first|((with_reducible refine bo (f:=42) rfl ?_);refine cl 13 Try.func42 #[.agg #[.slice av U.length al,.slice ao ab.length an,.slice aq ae.length ar,.int .i64 af]] ?_;(with_reducible refine(b7.calls k _ _ U _ _ ab _ _ ae af true _ ?aG ?aH ?aY ?aZ ?a6 ?a7 tN.1).mono ?_);(case aG=>exact mC (Kd.aE bG.1 HB.1));(case aH=>exact cf.1);(case aY=>exact mC (Kd.aE bE.1 HB.1));(case aZ=>exact bO.1);(case a6=>exact mC (Kd.aE bL.1 HB.1));(case a7=>exact b6.1);rintro e nj ⟨rfl,hb⟩;refine⟨_,rfl,?_⟩;replace jk:=mB jk hb;replace HB:=J (aK (aM HB.1 qV.1) hb);(try clear hb);obtain⟨xM,xN,xP,xQ,xT,xU,xV,xW⟩:=aX jk.1)|(go_at_call 57;(with_reducible refine(gY.calls k _ _ U _ _ ab _ _ ae af a1 o5 _ ?aG ?aH ?aY ?aZ ?a6 ?a7 V1.1).mono ?_);(case aG=>exact mC (Kd.aE bG.1 HB.1));(case aH=>exact cf.1);(case aY=>exact mC (Kd.aE bE.1 HB.1));(case aZ=>exact bO.1);(case a6=>exact mC (Kd.aE bL.1 HB.1));(case a7=>exact b6.1);rintro e NK ⟨rfl,hb⟩;replace jk:=mB jk hb;replace HB:=J (aK (aM HB.1 qV.1) hb);(try clear hb);(try clear dV);(try clear hk);(try clear hi)));go_meet
    case rel=>exact⟨_,(true),mE,H',⟨by first|omega|exact Nat.le_refl _⟩,⟨mK jk.1⟩,⟨(aM HB.1 qV.1)⟩⟩
   ·rw[if_neg jx]at H;have xp:(o5 == 0)=false:=beq_eq_false_iff_ne.mpr jx;have aib:(o5 != 0)=true:=bne_iff_ne.mpr jx
    (first|rw[xp]|(simp only[iq,jJ];rw[xp])|skip)
    have H':=J H;clear H;obtain⟨akM,akN,akO,akP,amo,amp,amq,amr⟩:=aX jk.1;go_wp2_with (first|((with_reducible refine bo (f:=42) rfl ?_);refine cl 13 Try.func42 #[.agg #[.slice av U.length al,.slice ao ab.length an,.slice aq ae.length ar,.int .i64 af]] ?_;(with_reducible refine(b7.calls k _ _ U _ _ ab _ _ ae af true _ ?aG ?aH ?aY ?aZ ?a6 ?a7 tN.1).mono ?_);(case aG=>exact mC (Kd.aE bG.1 HB.1));(case aH=>exact cf.1);(case aY=>exact mC (Kd.aE bE.1 HB.1));(case aZ=>exact bO.1);(case a6=>exact mC (Kd.aE bL.1 HB.1));(case a7=>exact b6.1);rintro e NM ⟨rfl,hb⟩;refine⟨_,rfl,?_⟩;replace jk:=mB jk hb;replace HB:=J (aK (aM HB.1 qV.1) hb);(try clear hb);obtain⟨RH,RI,RJ,RK,Sv,Sw,Sx,Sy⟩:=aX jk.1)|(go_at_call 57;(with_reducible refine(gY.calls k _ _ U _ _ ab _ _ ae af a1 o5 _ ?aG ?aH ?aY ?aZ ?a6 ?a7 V1.1).mono ?_);(case aG=>exact mC (Kd.aE bG.1 HB.1));(case aH=>exact cf.1);(case aY=>exact mC (Kd.aE bE.1 HB.1));(case aZ=>exact bO.1);(case a6=>exact mC (Kd.aE bL.1 HB.1));(case a7=>exact b6.1);rintro e VG ⟨rfl,hb⟩;replace jk:=mB jk hb;replace HB:=J (aK (aM HB.1 qV.1) hb);(try clear hb);(try clear dV);(try clear hk);(try clear hi)));go_meet
    case rel=>exact⟨_,(decide (iw<0)),mE,H',⟨by first|omega|exact Nat.le_refl _⟩,⟨mK jk.1⟩,⟨(aM HB.1 qV.1)⟩⟩
  ·replace jm:=Bool.eq_false_iff.mpr jm;subst jm;have H1:=H;rw[if_neg (show ¬(false=true) by decide)]at H1;clear H;have H:=H1;clear H1;have H':=J H;clear H;obtain⟨RL,RM,RN,RO,Sz,SA,SB,SC⟩:=aX jk.1;go_wp2_with (first|((with_reducible refine bo (f:=42) rfl ?_);refine cl 13 Try.func42 #[.agg #[.slice av U.length al,.slice ao ab.length an,.slice aq ae.length ar,.int .i64 af]] ?_;(with_reducible refine(b7.calls k _ _ U _ _ ab _ _ ae af false _ ?aG ?aH ?aY ?aZ ?a6 ?a7 tN.1).mono ?_);(case aG=>exact mC (Kd.aE bG.1 HB.1));(case aH=>exact cf.1);(case aY=>exact mC (Kd.aE bE.1 HB.1));(case aZ=>exact bO.1);(case a6=>exact mC (Kd.aE bL.1 HB.1));(case a7=>exact b6.1);rintro e Eu ⟨rfl,hb⟩;refine⟨_,rfl,?_⟩;replace jk:=mB jk hb;replace HB:=J (aK (aM HB.1 qV.1) hb);(try clear hb)));go_meet
   case rel=>exact⟨_,(true),mE,H',⟨by first|omega|exact Nat.le_refl _⟩,⟨mK jk.1⟩,⟨(aM HB.1 qV.1)⟩⟩
 case rest=>
  clear tX
  obtain⟨kq,NY,rfl,HA,y1,jk,HB⟩:=hcut;cases kq with
  |zero=>exact absurd HA.1 (by simp[jW.j0])
  |succ I9=>
   have H:=HA.1;clear HA;simp only[jW.j0]at H;by_cases jG:NY=true
   ·subst jG;have H1:=H;rw[if_pos rfl]at H1;clear H;have H:=H1;clear H1;simp only[Option.some.injEq,Prod.mk.injEq]at H;obtain⟨rfl,rfl⟩:=H;go_wp2;go_ret2;exact⟨_,de,by first|exact Kd.lE _ _ _ _ _|exact Kd.N_nil _ _ _ _ _|exact Kd.V_nil _ _ _ _ _|exact Kd.Q_nil _ _ _ _ _|exact Kd.xl _ _ _ _ _,(aM HB.1 qV.1)⟩
   ·replace jG:=Bool.eq_false_iff.mpr jG;subst jG;have H1:=H;rw[if_neg (show ¬(false=true) by decide)]at H1;clear H;have H:=H1;clear H1;by_cases oq:0≤iw
    ·rw[if_pos oq]at H;have aio:=decide_eq_true oq;clear oq;by_cases lF:iw<(U.length:Int)
     ·rw[if_pos lF]at H;have aip:=decide_eq_true lF;clear lF;replace H:=Option.bind_eq_some_iff.mp H;obtain⟨Ns,yO,H⟩:=H;replace H:(some (Ns,true))=some (r1,r2):=H;have CS:=J yO;clear yO;simp only[Option.some.injEq,Prod.mk.injEq]at H;obtain⟨rfl,rfl⟩:=H;obtain⟨LF,LG,LH,LI,L6,L7,L8,L9⟩:=aX jk.1;have Uh:0≤(iw:Int):=mD;have UF:iw<(U.length:Int):=mD;obtain⟨ash,aeR,aid,aja,acf,acg,ach,abr,abi⟩:=iW bG.1 iw Uh UF;cases aja
      replace acf:=mX HB.1 acf;replace acg:=mX HB.1 acg;replace ach:=mX HB.1 ach;have afX:=J abi;have afA:=J abr;clear abi abr;replace Uh:=eq_true Uh;replace UF:=eq_true UF;go_wp2_with (first|((with_reducible refine bo (f:=82) rfl ?_);refine cl 31 Try.func82 #[.slice aeR ((aa U iw).f1).length aid] ?_;(with_reducible refine(rG.calls _ _ ((aa U iw).f1) Ns _ ?aG ?aH CS.1).mono ?_);(case aG=>exact mC (Kd.aE afX.1 HB.1));(case aH=>exact afA.1);rintro e wG ⟨aCz,rfl,bn,hb⟩;refine⟨_,rfl,?_⟩;have afQ:=J (Kd.cJ bn (aT (aM HB.1 qV.1)));replace jk:=mB jk hb;replace HB:=J (aK (aM HB.1 qV.1) hb);(try clear hb);(try clear bn)));go_ret2;exact⟨_,de,mR afQ.1,(aM HB.1 qV.1)⟩
     ·rw[if_neg lF]at H;exact absurd H (by simp)
    ·rw[if_neg oq]at H;exact absurd H (by simp)
end Go.Proofs.Ytgpkdbnikcghgaa.MD
