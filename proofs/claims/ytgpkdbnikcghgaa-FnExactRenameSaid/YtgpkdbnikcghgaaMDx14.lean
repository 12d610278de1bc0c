-- Written by mp.py, our own printer (wip/mp.py), and made shorter by wip/mp_shrink*.py.
import Derived.Test.YtgpkdbnikcghgaaVMShort
import Derived.Test.YtgpkdbnikcghgaaMDx0
namespace Go.Proofs.Ytgpkdbnikcghgaa.MD
open Go.RowKit Go.Proofs.YtgpkdbnikcghgaaW.PrintWords Go.Proofs.YtgpkdbnikcghgaaW.PrintLast Go.Proofs.YtgpkdbnikcghgaaW.PrintMore Go.Proofs.Ytgpkdbnikcghgaa.MWords
attribute [local go_sem] max2_int min2_int max_two min_two max_three min_three max_four min_four
set_option linter.unusedVariables false
set_option linter.unusedSimpArgs false
def rU.l0:Nat→ByteArray→List (ai)→List (ai)→Int→Int→Option ((List (ai)))
 |0,_,_,_,_,_=>none
 |k+1,x1,x4,ub,Lr,EV=>if EV<Lr then (if 0≤EV then (if EV<(ub.length:Int) then (if ((aq ub EV).f0).toList=x1.toList then (rU.l0 k x1 x4 ub Lr (wrap64 (EV+1))) else (if x4.length<5864062014805 then (rU.l0 k x1 (x4++[(⟨(aq ub EV).f0,(aq ub EV).f1⟩:ai)]) ub Lr (wrap64 (EV+1))) else (none))) else (none)) else (none)) else (some x4)
def rU.f (k:Nat) (l0:List (ai)) (a1:ByteArray):Option ((List (ai))):=rU.l0 k a1 ([]:List (ai)) l0 (l0.length:Int) 0
set_option maxHeartbeats 8000000 in
set_option maxRecDepth 100000 in
theorem rU.calls (k:Nat) (gb:Nat) (u0 u2 u3:Value) (A0:Option Addr) (c0:Nat) (l0:List (ai)) (a1:ByteArray) (r:List (ai)) (w:World) (hbk:w.heap[gb]? = some (.cells #[u0,.slice A0 l0.length c0,u2,u3] 30 (0,0))) (gF:Kd.C aK w A0 l0.length l0) (fi:l0.length≤c0) (h:rU.f k l0 a1=some r) :
 Calls Try.prog 58 #[.pointer (some ⟨gb,0,none⟩),.string a1] w fun e w'=>∃(fo:Value) (w1:World),e = .returned (.tuple #[])∧w'=w1.setCell ⟨gb,1,none⟩ fo∧Kd.R aK 63 w1 w.heap.size (fun _=>True) fo r∧Below w.heap.size w w1:=by
 have HBK:=J hbk;clear hbk;have Gy:=Try.underlying63;have fL:=J gF;have rG:=J fi;clear gF fi;have HB:=J (Below.refl w.heap.size w);have H:(rU.l0 k a1 ([]:List (ai)) l0 (l0.length:Int) 0)=some r:=h;clear h;have H':=J H;clear H;have aCA:w.cell? ⟨gb,1,none⟩=some (.slice A0 l0.length c0):=(dR HBK.1 1).trans rfl;have aEM:=lK HBK.1 1;go_enter Try.func58,Try.ntmps58;go_wp2;go_loopg [4,12] k (fun kq v4 v12 w'=>∃(bj:List (ai)) (ot:Int),v12 = .int .i64 ot∧Aside0 (rU.l0 kq a1 bj l0 (l0.length:Int) ot=some r)∧Aside0 (kq≤k)∧Aside0 (Kd.R aK 63 w' w.heap.size (fun _=>True) v4 bj)∧Aside0 (Below w.heap.size w w'))
 case atStart=>exact⟨(([]:List (ai))),(0),mE,H',⟨Nat.le_refl _⟩,⟨by first|exact Kd.Dq _ _ _ _ _|exact Kd.N_nil _ _ _ _ _|exact Kd.V_nil _ _ _ _ _|exact Kd.Q_nil _ _ _ _ _|exact Kd.aga _ _ _ _ _⟩,⟨(mH HB.1)⟩⟩
 case round=>
  clear H'
  try clear aCA
  try clear aEM
  obtain⟨bj,ot,rfl,HA,bI,Fl,HB⟩:=hrel;cases gk with
  |zero=>exact absurd HA.1 (by simp[rU.l0])
  |succ k1=>
   have H:=HA.1;clear HA;simp only[rU.l0]at H;by_cases c3:ot<(l0.length:Int)
   ·rw[if_pos c3]at H;have jf:=decide_eq_true c3;clear c3;by_cases c4:0≤ot
    ·rw[if_pos c4]at H;have jm:=decide_eq_true c4;clear c4;by_cases c5:ot<(l0.length:Int)
     ·rw[if_pos c5]at H;have nI:=decide_eq_true c5;clear c5;by_cases c6:((aq l0 ot).f0).toList=a1.toList
      ·rw[if_pos c6]at H;have iW:(((aq l0 ot).f0).toList == a1.toList)=true:=beq_iff_eq.mpr c6;have qo:(((aq l0 ot).f0).toList != a1.toList)=false:=bne_eq_false_iff_eq.mpr c6;clear c6;have H':=J H;clear H;have Q3:0≤(ot:Int):=mD;have Ru:ot<(l0.length:Int):=mD;obtain⟨ayv,ag8,ZE,ZF⟩:=lB fL.1 ot Q3 Ru;cases ag8
       replace ZE:=mX HB.1 ZE;replace ZF:=mX HB.1 ZF;replace Q3:=eq_true Q3;replace Ru:=eq_true Ru;go_wp2_with (first|((with_reducible refine bB (N:=6) rfl ?_);refine bO 6 #[.string (⟨#[]⟩:ByteArray),.int .i64 0] 63 ?_;intro Mr hg w7 hbox hb;replace Fl:=J (Kd.ao (Kd.abA (mR Fl.1) Mr (Nat.le_of_eq hg.symm)) hb);have Sa:=J (hbox);have avU:=mG hg (mH HB.1);have VN:=mG hg (mH HB.1);replace HB:=J (aG (mH HB.1) hb);clear hb hbox hg;obtain⟨PZ,P0,Qc,Qd⟩:=tt Sa.1));go_roundg k1
       case measure=>have:=bI.1;omega
       case rel=>exact⟨(bj),(wrap64 (ot+1)),mE,H',⟨by have:=bI.1;omega⟩,⟨by refine mR ?_;exact Kd.aj (aty (Kd.aj Fl.1 (fun k_ hk=>(⟨hk,hk.2⟩:_∧k_≠Mr)))) (fun _ hk=>trivial)⟩,⟨(aY HB.1 VN.1)⟩⟩
      ·rw[if_neg c6]at H;have iW:(((aq l0 ot).f0).toList == a1.toList)=false:=beq_eq_false_iff_ne.mpr c6;have qo:(((aq l0 ot).f0).toList != a1.toList)=true:=bne_iff_ne.mpr c6;by_cases c9:bj.length<5864062014805
       ·rw[if_pos c9]at H;have awJ:=J c9;clear c9;obtain⟨au7,aae⟩:∃y_:List (ai),y_=(bj++[(⟨(aq l0 ot).f0,(aq l0 ot).f1⟩:ai)]):=⟨_,rfl⟩;replace H:(rU.l0 k1 a1 au7 l0 (l0.length:Int) (wrap64 (ot+1)))=some r:=by first|(rw[aae];with_reducible exact H)|(have bu:=(Option.bind_some _ _).symm.trans H;rw[aae];with_reducible exact bu)|(have bu:=(Option.bind_some _ _).symm.trans H;with_reducible exact bu)|with_reducible exact H|(rw[aae];exact H)|exact H
        have axN:=J aae;clear aae;have H':=J H;clear H;have Q3:0≤(ot:Int):=mD;have Ru:ot<(l0.length:Int):=mD;obtain⟨ayv,ag8,ZE,ZF⟩:=lB fL.1 ot Q3 Ru;cases ag8
        replace ZE:=mX HB.1 ZE;replace ZF:=mX HB.1 ZF;replace Q3:=eq_true Q3;replace Ru:=eq_true Ru;go_wp2_with (first|((with_reducible refine bB (N:=6) rfl ?_);refine bO 6 #[.string (⟨#[]⟩:ByteArray),.int .i64 0] 63 ?_;intro Mr hg lI hbox hb;replace Fl:=J (Kd.ao (Kd.abA (mR Fl.1) Mr (Nat.le_of_eq hg.symm)) hb);have Sa:=J (hbox);have avU:=mG hg (mH HB.1);have VN:=mG hg (mH HB.1);replace HB:=J (aG (mH HB.1) hb);clear hb hbox hg;obtain⟨Is,J9,IA,Kh⟩:=tt Sa.1)|((with_reducible refine rm (b:=.append) (xs:=#[.tmp 20,.tmp 22]) rfl ?_);at_builtin;refine Kd.wN aK (w0:=w) w.heap.size rfl (.tmp 20) (.tmp 22) 28 63 (.agg #[(.string ⟨#[]⟩),(.int .i64 0)]) 24 rfl Try.underlying28 rv rfl (by decide) (by omega) u4 bj (⟨(aq l0 ot).f0,(aq l0 ot).f1⟩:ai) [.string ((aq l0 ot).f0),.int .i64 ((aq l0 ot).f1)] (fun k_=>k_≠Mr) (fun _=>False) rfl (by first|(go_simp;done)|(go_simp;rfl)) ?aP (fun _ hk=>hk.elim) ?aF ?aO ?aB ?aS ?aL ?_;(case aP=>exact yv _ _ _ (⟨(aq l0 ot).f0,(aq l0 ot).f1⟩:ai));(case aB=>exact(aY HB.1 VN.1));(case aF=>exact(fun k_ hk=>Kd.eS (g:=Mr) (o:=.cells #[.string ((aq l0 ot).f0),.int .i64 ((aq l0 ot).f1)] 63 (0,0)) (by refine mK ?_;refine aW (cs:=#[.string ((aq l0 ot).f0),.int .i64 0]) ?_ 1 _ rfl;refine mK ?_;refine aW (cs:=#[.string (⟨#[]⟩:ByteArray),.int .i64 0]) ?_ 0 _ rfl;refine mK ?_;exact Sa.1) k_ hk));(case aO=>exact(by refine mR ?_;exact Kd.aj (aty (Kd.aj Fl.1 (fun k_ hk=>(⟨hk,hk.2⟩:_∧k_≠Mr)))) (fun _ hk=>hk.1.2)));(case aS=>exact(a7 (aY HB.1 VN.1)));(case aL=>have:=awJ.1;omega);intro aTp jE ho hb hg hat;rw[←axN.1]at ho;replace Sa:=J (fN (g:=Mr) (o:=.cells #[.string ((aq l0 ot).f0),.int .i64 ((aq l0 ot).f1)] 63 (0,0)) (by refine mK ?_;refine aW (cs:=#[.string ((aq l0 ot).f0),.int .i64 0]) ?_ 1 _ rfl;refine mK ?_;refine aW (cs:=#[.string (⟨#[]⟩:ByteArray),.int .i64 0]) ?_ 0 _ rfl;refine mK ?_;exact Sa.1) hg (Kd.Ef Fl.1 (fun _ hk=>hk.2)));replace HB:=J (hb);have awb:=J (ho);clear Fl;clear ho hb hg hat));go_roundg k1
        case measure=>have:=bI.1;omega
        case rel=>exact⟨(au7),(wrap64 (ot+1)),mE,H',⟨by have:=bI.1;omega⟩,⟨by refine mR ?_;exact Kd.aj awb.1 (fun _ hk=>trivial)⟩,⟨(aY HB.1 VN.1)⟩⟩
       ·rw[if_neg c9]at H;exact absurd H (by simp)
     ·rw[if_neg c5]at H;exact absurd H (by simp)
    ·rw[if_neg c4]at H;exact absurd H (by simp)
   ·rw[if_neg c3]at H;have jf:=decide_eq_false c3;clear c3;obtain rfl:=Option.some.inj H;have BKe:=J ((HB.1.block gb (BB HBK.1)).trans HBK.1);have aM7:wr.cell? ⟨gb,1,none⟩=some (.slice A0 l0.length c0):=(dR BKe.1 1).trans rfl;have aPv:=lK BKe.1 1;obtain⟨Aoe,coe,eoe⟩:=Kd.bG Fl.1;subst eoe;go_wp2
    first|go_end0|((try simp only[Exit.inBlock,Exit.then]);refine bodyPost_ret (results_none rfl _ _ _) rfl ?_)
    first|exact⟨_,_,rfl,rfl,mR Fl.1,(mH HB.1)⟩|exact⟨rfl,_,_,rfl,mR Fl.1,(mH HB.1)⟩
end Go.Proofs.Ytgpkdbnikcghgaa.MD
