-- Written by mp.py, our own printer (wip/mp.py), and made shorter by wip/mp_shrink*.py.
import Derived.Test.YtgpkdbnikcghgaaVAll
import Derived.Test.YtgpkdbnikcghgaaMDx0
namespace Go.Proofs.Ytgpkdbnikcghgaa.MD
open Go.RowKit Go.Proofs.YtgpkdbnikcghgaaW.PrintWords Go.Proofs.YtgpkdbnikcghgaaW.PrintLast Go.Proofs.YtgpkdbnikcghgaaW.PrintMore Go.Proofs.Ytgpkdbnikcghgaa.MWords
attribute [local go_sem] max2_int min2_int max_two min_two max_three min_three max_four min_four
set_option linter.unusedVariables false
set_option linter.unusedSimpArgs false
def jU.l0:Nat→ByteArray→List (ah)→List (ah)→Int→Int→Option ((List (ah)))
 |0,_,_,_,_,_=>none
 |k+1,x1,x4,nQ,Cl,uV=>if uV<Cl then (if 0≤uV then (if uV<(nQ.length:Int) then (if ((av nQ uV).f0).toList=x1.toList then (jU.l0 k x1 x4 nQ Cl (wrap64 (uV+1))) else (if x4.length<5864062014805 then (jU.l0 k x1 (x4++[(⟨(av nQ uV).f0,(av nQ uV).f1⟩:ah)]) nQ Cl (wrap64 (uV+1))) else (none))) else (none)) else (none)) else (some x4)
def jU.f (k:Nat) (l0:List (ah)) (a1:ByteArray):Option ((List (ah))):=jU.l0 k a1 ([]:List (ah)) l0 (l0.length:Int) 0
set_option maxHeartbeats 8000000 in
set_option maxRecDepth 100000 in
theorem jU.calls (k:Nat) (gb:Nat) (u0 u2 u3:Value) (A0:Option Addr) (c0:Nat) (l0:List (ah)) (a1:ByteArray) (r:List (ah)) (w:World) (hbk:w.heap[gb]? = some (.cells #[u0,.slice A0 l0.length c0,u2,u3] 30 (0,0))) (fu:Kd.C ay w A0 l0.length l0) (gE:l0.length≤c0) (h:jU.f k l0 a1=some r) :
 Calls Try.prog 58 #[.pointer (some ⟨gb,0,none⟩),.string a1] w fun e w'=>∃(dm:Value) (w1:World),e = .returned (.tuple #[])∧w'=w1.setCell ⟨gb,1,none⟩ dm∧Kd.R ay 63 w1 w.heap.size (fun _=>True) dm r∧Below w.heap.size w w1:=by
 have HBK:=J hbk;clear hbk;have Bd:=Try.underlying63;have jf:=J fu;have vr:=J gE;clear fu gE;have HB:=J (Below.refl w.heap.size w);have H:(jU.l0 k a1 ([]:List (ah)) l0 (l0.length:Int) 0)=some r:=h;clear h;have H':=J H;clear H;have alk:w.cell? ⟨gb,1,none⟩=some (.slice A0 l0.length c0):=(dS HBK.1 1).trans rfl;have amY:=fO HBK.1 1;go_enter Try.func58,Try.ntmps58;go_wp2;go_loopg [4,12] k (fun kq v4 v12 w'=>∃(a6:List (ah)) (iO:Int),v12 = .int .i64 iO∧Aside0 (jU.l0 kq a1 a6 l0 (l0.length:Int) iO=some r)∧Aside0 (kq≤k)∧Aside0 (Kd.R ay 63 w' w.heap.size (fun _=>True) v4 a6)∧Aside0 (Below w.heap.size w w'))
 case atStart=>exact⟨(([]:List (ah))),(0),mE,H',⟨Nat.le_refl _⟩,⟨by first|exact Kd.lq _ _ _ _ _|exact Kd.N_nil _ _ _ _ _|exact Kd.V_nil _ _ _ _ _|exact Kd.Q_nil _ _ _ _ _|exact Kd.vB _ _ _ _ _⟩,⟨(mH HB.1)⟩⟩
 case round=>
  clear H'
  try clear alk
  try clear amY
  obtain⟨a6,iO,rfl,HA,br,tK,HB⟩:=hrel;cases gk with
  |zero=>exact absurd HA.1 (by simp[jU.l0])
  |succ k1=>
   have H:=HA.1;clear HA;simp only[jU.l0]at H;by_cases c3:iO<(l0.length:Int)
   ·rw[if_pos c3]at H;have lS:=decide_eq_true c3;clear c3;by_cases c4:0≤iO
    ·rw[if_pos c4]at H;have lv:=decide_eq_true c4;clear c4;by_cases c5:iO<(l0.length:Int)
     ·rw[if_pos c5]at H;have kA:=decide_eq_true c5;clear c5;by_cases c6:((av l0 iO).f0).toList=a1.toList
      ·rw[if_pos c6]at H;have jT:(((av l0 iO).f0).toList == a1.toList)=true:=beq_iff_eq.mpr c6;have yW:(((av l0 iO).f0).toList != a1.toList)=false:=bne_eq_false_iff_eq.mpr c6;clear c6;have H':=J H;clear H;have Bz:0≤(iO:Int):=mD;have BQ:iO<(l0.length:Int):=mD;obtain⟨aha,Qo,Hp,Hq⟩:=gZ jf.1 iO Bz BQ;cases Qo
       replace Hp:=mX HB.1 Hp;replace Hq:=mX HB.1 Hq;replace Bz:=eq_true Bz;replace BQ:=eq_true BQ;go_wp2_with (first|((with_reducible refine bh (N:=6) rfl ?_);refine bw 6 #[.string (⟨#[]⟩:ByteArray),.int .i64 0] 63 ?_;intro y7 hg w7 hbox hb;replace tK:=J (Kd.aX (Kd.JL (mR tK.1) y7 (Nat.le_of_eq hg.symm)) hb);have Cx:=J (hbox);have aeU:=mG hg (mH HB.1);have Ey:=mG hg (mH HB.1);replace HB:=J (aK (mH HB.1) hb);clear hb hbox hg;obtain⟨Dl,Dm,Ds,Dt⟩:=sl Cx.1));go_roundg k1
       case measure=>have:=br.1;omega
       case rel=>exact⟨(a6),(wrap64 (iO+1)),mE,H',⟨by have:=br.1;omega⟩,⟨by refine mR ?_;exact Kd.aD (Tf (Kd.aD tK.1 (fun k_ hk=>(⟨hk,hk.2⟩:_∧k_≠y7)))) (fun _ hk=>trivial)⟩,⟨(aM HB.1 Ey.1)⟩⟩
      ·rw[if_neg c6]at H;have jT:(((av l0 iO).f0).toList == a1.toList)=false:=beq_eq_false_iff_ne.mpr c6;have yW:(((av l0 iO).f0).toList != a1.toList)=true:=bne_iff_ne.mpr c6;by_cases c9:a6.length<5864062014805
       ·rw[if_pos c9]at H;have afM:=J c9;clear c9;obtain⟨ad6,Il⟩:∃y_:List (ah),y_=(a6++[(⟨(av l0 iO).f0,(av l0 iO).f1⟩:ah)]):=⟨_,rfl⟩;replace H:(jU.l0 k1 a1 ad6 l0 (l0.length:Int) (wrap64 (iO+1)))=some r:=by first|(rw[Il];with_reducible exact H)|(have aU:=(Option.bind_some _ _).symm.trans H;rw[Il];with_reducible exact aU)|(have aU:=(Option.bind_some _ _).symm.trans H;with_reducible exact aU)|with_reducible exact H|(rw[Il];exact H)|exact H
        have agx:=J Il;clear Il;have H':=J H;clear H;have Bz:0≤(iO:Int):=mD;have BQ:iO<(l0.length:Int):=mD;obtain⟨aha,Qo,Hp,Hq⟩:=gZ jf.1 iO Bz BQ;cases Qo
        replace Hp:=mX HB.1 Hp;replace Hq:=mX HB.1 Hq;replace Bz:=eq_true Bz;replace BQ:=eq_true BQ;go_wp2_with (first|((with_reducible refine bh (N:=6) rfl ?_);refine bw 6 #[.string (⟨#[]⟩:ByteArray),.int .i64 0] 63 ?_;intro y7 hg gz hbox hb;replace tK:=J (Kd.aX (Kd.JL (mR tK.1) y7 (Nat.le_of_eq hg.symm)) hb);have Cx:=J (hbox);have aeU:=mG hg (mH HB.1);have Ey:=mG hg (mH HB.1);replace HB:=J (aK (mH HB.1) hb);clear hb hbox hg;obtain⟨Gg,KU,Gu,Ln⟩:=sl Cx.1)|((with_reducible refine lV (b:=.append) (xs:=#[.tmp 20,.tmp 22]) rfl ?_);at_builtin;refine Kd.pz ay (w0:=w) w.heap.size rfl (.tmp 20) (.tmp 22) 28 63 (.agg #[(.string ⟨#[]⟩),(.int .i64 0)]) 24 rfl Try.underlying28 iZ rfl (by decide) (by omega) u4 a6 (⟨(av l0 iO).f0,(av l0 iO).f1⟩:ah) [.string ((av l0 iO).f0),.int .i64 ((av l0 iO).f1)] (fun k_=>k_≠y7) (fun _=>False) rfl (by first|(go_simp;done)|(go_simp;rfl)) ?aP (fun _ hk=>hk.elim) ?aF ?aO ?aB ?aS ?aL ?_;(case aP=>exact rn _ _ _ (⟨(av l0 iO).f0,(av l0 iO).f1⟩:ah));(case aB=>exact(aM HB.1 Ey.1));(case aF=>exact(fun k_ hk=>Kd.cA (g:=y7) (o:=.cells #[.string ((av l0 iO).f0),.int .i64 ((av l0 iO).f1)] 63 (0,0)) (by refine mK ?_;refine aC (cs:=#[.string ((av l0 iO).f0),.int .i64 0]) ?_ 1 _ rfl;refine mK ?_;refine aC (cs:=#[.string (⟨#[]⟩:ByteArray),.int .i64 0]) ?_ 0 _ rfl;refine mK ?_;exact Cx.1) k_ hk));(case aO=>exact(by refine mR ?_;exact Kd.aD (Tf (Kd.aD tK.1 (fun k_ hk=>(⟨hk,hk.2⟩:_∧k_≠y7)))) (fun _ hk=>hk.1.2)));(case aS=>exact(aV (aM HB.1 Ey.1)));(case aL=>have:=afM.1;omega);intro aB9 eS ho hb hg hat;rw[←agx.1]at ho;replace Cx:=J (bW (g:=y7) (o:=.cells #[.string ((av l0 iO).f0),.int .i64 ((av l0 iO).f1)] 63 (0,0)) (by refine mK ?_;refine aC (cs:=#[.string ((av l0 iO).f0),.int .i64 0]) ?_ 1 _ rfl;refine mK ?_;refine aC (cs:=#[.string (⟨#[]⟩:ByteArray),.int .i64 0]) ?_ 0 _ rfl;refine mK ?_;exact Cx.1) hg (Kd.sQ tK.1 (fun _ hk=>hk.2)));replace HB:=J (hb);have afg:=J (ho);clear tK;clear ho hb hg hat));go_roundg k1
        case measure=>have:=br.1;omega
        case rel=>exact⟨(ad6),(wrap64 (iO+1)),mE,H',⟨by have:=br.1;omega⟩,⟨by refine mR ?_;exact Kd.aD afg.1 (fun _ hk=>trivial)⟩,⟨(aM HB.1 Ey.1)⟩⟩
       ·rw[if_neg c9]at H;exact absurd H (by simp)
     ·rw[if_neg c5]at H;exact absurd H (by simp)
    ·rw[if_neg c4]at H;exact absurd H (by simp)
   ·rw[if_neg c3]at H;have lS:=decide_eq_false c3;clear c3;obtain rfl:=Option.some.inj H;have BKe:=J ((HB.1.block gb (kT HBK.1)).trans HBK.1);have au6:wr.cell? ⟨gb,1,none⟩=some (.slice A0 l0.length c0):=(dS BKe.1 1).trans rfl;have axS:=fO BKe.1 1;obtain⟨Aoe,coe,eoe⟩:=Kd.bL tK.1;subst eoe;go_wp2
    first|go_end0|((try simp only[Exit.inBlock,Exit.then]);refine bodyPost_ret (results_none rfl _ _ _) rfl ?_)
    first|exact⟨_,_,rfl,rfl,mR tK.1,(mH HB.1)⟩|exact⟨rfl,_,_,rfl,mR tK.1,(mH HB.1)⟩
end Go.Proofs.Ytgpkdbnikcghgaa.MD
