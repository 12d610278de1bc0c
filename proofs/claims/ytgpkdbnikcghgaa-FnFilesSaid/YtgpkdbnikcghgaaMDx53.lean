-- Written by mp.py, our own printer (wip/mp.py), and made shorter by wip/mp_shrink*.py.
import Derived.Test.YtgpkdbnikcghgaaVAll
import Derived.Test.YtgpkdbnikcghgaaMDx0
import Derived.Test.YtgpkdbnikcghgaaMDx11
namespace Go.Proofs.Ytgpkdbnikcghgaa.MD
open Go.RowKit Go.Proofs.YtgpkdbnikcghgaaW.PrintWords Go.Proofs.YtgpkdbnikcghgaaW.PrintLast Go.Proofs.YtgpkdbnikcghgaaW.PrintMore Go.Proofs.Ytgpkdbnikcghgaa.MWords
attribute [local go_sem] max2_int min2_int max_two min_two max_three min_three max_four min_four
set_option linter.unusedVariables false
set_option linter.unusedSimpArgs false
def pA.l0:Nat→List ByteArray→List (ah)→Int→Int→Option (List ByteArray)
 |0,_,_,_,_=>none
 |k+1,x3,VJ,x12,JK=>if JK<x12 then (if 0≤JK then (if JK<(VJ.length:Int) then (if x3.length<8796093022208 then (pA.l0 k (x3++[(aw VJ JK).f0]) VJ x12 (wrap64 (JK+1))) else (none)) else (none)) else (none)) else (some x3)
def pA.f (k:Nat) (U:List (aj)) (ab:List (ah)) (ae:List (ah)) (af:Int):Option (List ByteArray):=(b7.f k U ab ae af).bind fun Eg=>(if Eg=true then (pA.l0 k ([]:List ByteArray) ab (ab.length:Int) 0) else (some ([]:List ByteArray)))
set_option maxHeartbeats 8000000 in
set_option maxRecDepth 100000 in
theorem pA.calls (k:Nat) (av:Option Addr) (al:Nat) (U:List (aj)) (ao:Option Addr) (an:Nat) (ab:List (ah)) (aq:Option Addr) (ar:Nat) (ae:List (ah)) (af:Int) (r:List ByteArray) (w:World) (cT:Kd.C bj w av U.length U) (cQ:U.length≤al) (cU:Kd.C ay w ao ab.length ab) (cR:ab.length≤an) (cV:Kd.C ay w aq ae.length ae) (cS:ae.length≤ar) (h:pA.f k U ab ae af=some r) :
 Calls Try.prog 37 #[.agg #[.slice av U.length al,.slice ao ab.length an,.slice aq ae.length ar,.int .i64 af]] w fun e w'=>∃df:Value,e = .returned (df)∧Kd.R Kd.string 9 w' w.heap.size (fun _=>True) df r∧Below w.heap.size w w':=by
 have kx:=Try.underlying30;have DY:=Try.underlying63;have bG:=J cT;have cf:=J cQ;clear cT cQ;have bE:=J cU;have bO:=J cR;clear cU cR;have bL:=J cV;have b6:=J cS;clear cV cS;have HB:=J (Below.refl w.heap.size w);have H:((b7.f k U ab ae af).bind fun Eg=>(if Eg=true then (pA.l0 k ([]:List ByteArray) ab (ab.length:Int) 0) else (some ([]:List ByteArray))))=some r:=h;clear h;replace H:=Option.bind_eq_some_iff.mp H;obtain⟨Eg,nt,H⟩:=H;replace H:(if Eg=true then (pA.l0 k ([]:List ByteArray) ab (ab.length:Int) 0) else (some ([]:List ByteArray)))=some r:=H;have A2:=J nt;clear nt;by_cases c3:Eg=true
 ·subst c3;have H1:=H;rw[if_pos rfl]at H1;clear H;have H:=H1;clear H1;have H':=J H;clear H;go_enter Try.func37,Try.ntmps37;go_wp2_with (first|((with_reducible refine bk (N:=1) rfl ?_);refine bF 1 #[.slice av U.length al,.slice ao ab.length an,.slice aq ae.length ar,.int .i64 af] 30 ?_;intro Rc hg w4 hbox hb;have oI:=J (hbox);have afi:=mG hg (mH HB.1);have sW:=mG hg (mH HB.1);replace HB:=J (aK (mH HB.1) hb);clear hb hbox hg;obtain⟨aaB,aaC,aaD,alx,am7,aa9,aba,am8⟩:=aX oI.1)|((with_reducible refine bo (f:=42) rfl ?_);refine cl 7 Try.func42 #[.agg #[.slice av U.length al,.slice ao ab.length an,.slice aq ae.length ar,.int .i64 af]] ?_;(with_reducible refine(b7.calls k _ _ U _ _ ab _ _ ae af true _ ?aG ?aH ?aY ?aZ ?a6 ?a7 A2.1).mono ?_);(case aG=>exact mC (Kd.aE bG.1 HB.1));(case aH=>exact cf.1);(case aY=>exact mC (Kd.aE bE.1 HB.1));(case aZ=>exact bO.1);(case a6=>exact mC (Kd.aE bL.1 HB.1));(case a7=>exact b6.1);rintro e w6 ⟨rfl,hb⟩;refine⟨_,rfl,?_⟩;replace oI:=mB oI hb;replace HB:=J (aK (aM HB.1 sW.1) hb);(try clear hb);obtain⟨Sf,Sg,Sh,Si,S6,S7,S8,S9⟩:=aX oI.1));go_loopg [3,13] k (fun kq v3 v13 w'=>∃(a8:List ByteArray) (pE:Int),v13 = .int .i64 pE∧Aside0 (pA.l0 kq a8 ab (ab.length:Int) pE=some r)∧Aside0 (kq≤k)∧Aside0 (Kd.R Kd.string 9 w' w.heap.size (fun _=>True) v3 a8)∧Aside0 (w'.heap[Rc]? = some (.cells #[(.slice av U.length al),(.slice ao ab.length an),(.slice aq ae.length ar),.int .i64 af] 30 (0,0)))∧Aside0 (Below w.heap.size w w'))
  case atStart=>exact⟨(([]:List ByteArray)),(0),mE,H',⟨Nat.le_refl _⟩,⟨by first|exact Kd.lE _ _ _ _ _|exact Kd.N_nil _ _ _ _ _|exact Kd.V_nil _ _ _ _ _|exact Kd.Q_nil _ _ _ _ _|exact Kd.xl _ _ _ _ _⟩,⟨mK oI.1⟩,⟨(aM HB.1 sW.1)⟩⟩
  case round=>
   clear H'
   try clear c3
   try clear aaB
   try clear aaC
   try clear aaD
   try clear alx
   try clear Sf
   try clear Sg
   try clear Sh
   try clear Si
   try clear am7
   try clear aa9
   try clear aba
   try clear am8
   try clear S6
   try clear S7
   try clear S8
   try clear S9
   obtain⟨a8,pE,rfl,HA,bA,iD,oI,HB⟩:=hrel;cases gk with
   |zero=>exact absurd HA.1 (by simp[pA.l0])
   |succ k1=>
    have H:=HA.1;clear HA;simp only[pA.l0]at H;by_cases c8:pE<(ab.length:Int)
    ·rw[if_pos c8]at H;have tk:=decide_eq_true c8;clear c8;by_cases c9:0≤pE
     ·rw[if_pos c9]at H;have zr:=decide_eq_true c9;clear c9;by_cases jF:pE<(ab.length:Int)
      ·rw[if_pos jF]at H;have Dt:=decide_eq_true jF;clear jF;by_cases jm:a8.length<8796093022208
       ·rw[if_pos jm]at H;have age:=J jm;clear jm;obtain⟨aeG,Iv⟩:∃y_:List ByteArray,y_=(a8++[(aw ab pE).f0]):=⟨_,rfl⟩;replace H:(pA.l0 k1 aeG ab (ab.length:Int) (wrap64 (pE+1)))=some r:=by first|(rw[Iv];with_reducible exact H)|(have aU:=(Option.bind_some _ _).symm.trans H;rw[Iv];with_reducible exact aU)|(have aU:=(Option.bind_some _ _).symm.trans H;with_reducible exact aU)|with_reducible exact H|(rw[Iv];exact H)|exact H
        have ag8:=J Iv;clear Iv;have H':=J H;clear H;have Uf:0≤(pE:Int):=mD;have UD:pE<(ab.length:Int):=mD;obtain⟨ahG,ai8,acd,ace⟩:=iH bE.1 pE Uf UD;cases ai8
        replace acd:=mX HB.1 acd;replace ace:=mX HB.1 ace;replace Uf:=eq_true Uf;replace UD:=eq_true UD;go_wp2_with (first|((with_reducible refine bk (N:=5) rfl ?_);refine bF 5 #[.string (⟨#[]⟩:ByteArray),.int .i64 0] 63 ?_;intro aj0 hg fb hbox hb;replace iD:=J (Kd.aW (mR iD.1) hb);have EX:=J (hbox);have art:=mG hg (aM HB.1 sW.1);have OA:=mG hg (aM HB.1 sW.1);replace HB:=J (aK (aM HB.1 sW.1) hb);have XO:=bw hg oI.1;have agp:=bu hg oI.1;replace oI:=mB oI hb;clear hb hbox hg;have Hs:=agp.1;have Hv:=XO.1;obtain⟨Bw,Bx,BA,BB⟩:=uP EX.1)|((with_reducible refine ma (b:=.append) (xs:=#[.tmp 17,.tmp 20]) rfl ?_);at_builtin;refine Kd.qm Kd.string (w0:=w) w.heap.size rfl (.tmp 17) (.tmp 20) 49 9 (.string ⟨#[]⟩) 16 rfl Try.underlying49 aoN rfl (by decide) (by omega) u3 a8 ((aw ab pE).f0) [.string ((aw ab pE).f0)] (fun _=>True) (fun _=>False) rfl (by first|(go_simp;done)|(go_simp;rfl)) ?aP (fun _ hk=>hk.elim) ?aF ?aO ?aB ?aS ?aL ?_;(case aP=>exact rfl);(case aB=>exact(az HB.1 sW.1 OA.1));(case aF=>exact(fun _ _=>trivial));(case aO=>exact(by refine mR ?_;exact Kd.aD (apa (Kd.aV iD.1 EX.1 (by decide))) (fun _ hk=>trivial)));(case aS=>exact(aT (az HB.1 sW.1 OA.1)));(case aL=>have:=age.1;omega);intro aCt nj ho hb hg hat;rw[←ag8.1]at ho;replace oI:=J (bX (g:=Rc) (o:=.cells #[.slice av U.length al,.slice (some ahG) ab.length an,.slice aq ae.length ar,.int .i64 af] 30 (0,0)) (bH XO.1 oI.1) hg (Kd.bI iD.1 oI.1 (by decide)));replace EX:=J (bX (g:=aj0) (o:=.cells #[.string ((aw ab pE).f0),.int .i64 ((aw ab pE).f1)] 63 (0,0)) (by refine mK ?_;refine aC (cs:=#[.string ((aw ab pE).f0),.int .i64 0]) ?_ 1 _ rfl;refine mK ?_;refine aC (cs:=#[.string (⟨#[]⟩:ByteArray),.int .i64 0]) ?_ 0 _ rfl;refine mK ?_;exact EX.1) hg (Kd.bI iD.1 EX.1 (by decide)));replace HB:=J (hb);have afP:=J (ho);clear iD;clear ho hb hg hat));go_roundg k1
        case measure=>have:=bA.1;omega
        case rel=>exact⟨(aeG),(wrap64 (pE+1)),mE,H',⟨by have:=bA.1;omega⟩,⟨mR afP.1⟩,⟨mK oI.1⟩,⟨(az HB.1 sW.1 OA.1)⟩⟩
       ·rw[if_neg jm]at H;exact absurd H (by simp)
      ·rw[if_neg jF]at H;exact absurd H (by simp)
     ·rw[if_neg c9]at H;exact absurd H (by simp)
    ·rw[if_neg c8]at H;have tk:=decide_eq_false c8;clear c8;obtain rfl:=Option.some.inj H;go_wp2;go_ret;exact⟨_,de,mR iD.1,(aM HB.1 sW.1)⟩
 ·replace c3:=Bool.eq_false_iff.mpr c3;subst c3;have H1:=H;rw[if_neg (show ¬(false=true) by decide)]at H1;clear H;have H:=H1;clear H1;obtain rfl:=Option.some.inj H;go_enter Try.func37,Try.ntmps37;go_wp2_with (first|((with_reducible refine bk (N:=1) rfl ?_);refine bF 1 #[.slice av U.length al,.slice ao ab.length an,.slice aq ae.length ar,.int .i64 af] 30 ?_;intro Rc hg nk hbox hb;have oI:=J (hbox);have afi:=mG hg (mH HB.1);have sW:=mG hg (mH HB.1);replace HB:=J (aK (mH HB.1) hb);clear hb hbox hg;obtain⟨RD,RE,RF,RG,Sq,Sr,Ss,Su⟩:=aX oI.1)|((with_reducible refine bo (f:=42) rfl ?_);refine cl 7 Try.func42 #[.agg #[.slice av U.length al,.slice ao ab.length an,.slice aq ae.length ar,.int .i64 af]] ?_;(with_reducible refine(b7.calls k _ _ U _ _ ab _ _ ae af false _ ?aG ?aH ?aY ?aZ ?a6 ?a7 A2.1).mono ?_);(case aG=>exact mC (Kd.aE bG.1 HB.1));(case aH=>exact cf.1);(case aY=>exact mC (Kd.aE bE.1 HB.1));(case aZ=>exact bO.1);(case a6=>exact mC (Kd.aE bL.1 HB.1));(case a7=>exact b6.1);rintro e NL ⟨rfl,hb⟩;refine⟨_,rfl,?_⟩;replace oI:=mB oI hb;replace HB:=J (aK (aM HB.1 sW.1) hb);(try clear hb)));go_ret;exact⟨_,de,by first|exact Kd.lE _ _ _ _ _|exact Kd.N_nil _ _ _ _ _|exact Kd.V_nil _ _ _ _ _|exact Kd.Q_nil _ _ _ _ _|exact Kd.xl _ _ _ _ _,(aM HB.1 sW.1)⟩
end Go.Proofs.Ytgpkdbnikcghgaa.MD
