-- Written by mp.py, our own printer (wip/mp.py), and made shorter by wip/mp_shrink*.py.
import Derived.Test.YtgpkdbnikcghgaaVAll
import Derived.Test.YtgpkdbnikcghgaaMDx0
import Derived.Test.YtgpkdbnikcghgaaMDx11
namespace Go.Proofs.Ytgpkdbnikcghgaa.MD
open Go.RowKit Go.Proofs.YtgpkdbnikcghgaaW.PrintWords Go.Proofs.YtgpkdbnikcghgaaW.PrintLast Go.Proofs.YtgpkdbnikcghgaaW.PrintMore Go.Proofs.Ytgpkdbnikcghgaa.MWords
attribute [local go_sem] max2_int min2_int max_two min_two max_three min_three max_four min_four
set_option linter.unusedVariables false
set_option linter.unusedSimpArgs false
def pj.l0:Nat→List ByteArray→List (ah)→Int→Int→Option (List ByteArray)
 |0,_,_,_,_=>none
 |k+1,x3,Cl,uV,I8=>if I8<uV then (if 0≤I8 then (if I8<(Cl.length:Int) then (if x3.length<8796093022208 then (pj.l0 k (x3++[(av Cl I8).f0]) Cl uV (wrap64 (I8+1))) else (none)) else (none)) else (none)) else (some x3)
def pj.f (k:Nat) (U:List (aj)) (ab:List (ah)) (ae:List (ah)) (af:Int):Option (List ByteArray):=(bV.f k U ab ae af).bind fun DQ=>(if DQ=true then (pj.l0 k ([]:List ByteArray) ab (ab.length:Int) 0) else (some ([]:List ByteArray)))
set_option maxHeartbeats 8000000 in
set_option maxRecDepth 100000 in
theorem pj.calls (k:Nat) (aw:Option Addr) (al:Nat) (U:List (aj)) (ao:Option Addr) (an:Nat) (ab:List (ah)) (aq:Option Addr) (ar:Nat) (ae:List (ah)) (af:Int) (r:List ByteArray) (w:World) (dw:Kd.C bu w aw U.length U) (dt:U.length≤al) (dx:Kd.C ay w ao ab.length ab) (du:ab.length≤an) (dy:Kd.C ay w aq ae.length ae) (dv:ae.length≤ar) (h:pj.f k U ab ae af=some r) :
 Calls Try.prog 37 #[.agg #[.slice aw U.length al,.slice ao ab.length an,.slice aq ae.length ar,.int .i64 af]] w fun e w'=>∃dm:Value,e = .returned (dm)∧Kd.R Kd.string 9 w' w.heap.size (fun _=>True) dm r∧Below w.heap.size w w':=by
 have l3:=Try.underlying30;have Bd:=Try.underlying63;have bS:=J dw;have cv:=J dt;clear dw dt;have bN:=J dx;have bX:=J du;clear dx du;have bT:=J dy;have cb:=J dv;clear dy dv;have HB:=J (Below.refl w.heap.size w);have H:((bV.f k U ab ae af).bind fun DQ=>(if DQ=true then (pj.l0 k ([]:List ByteArray) ab (ab.length:Int) 0) else (some ([]:List ByteArray))))=some r:=h;clear h;replace H:=Option.bind_eq_some_iff.mp H;obtain⟨DQ,oY,H⟩:=H;replace H:(if DQ=true then (pj.l0 k ([]:List ByteArray) ab (ab.length:Int) 0) else (some ([]:List ByteArray)))=some r:=H;have A2:=J oY;clear oY;by_cases c3:DQ=true
 ·subst c3;have H1:=H;rw[if_pos rfl]at H1;clear H;have H:=H1;clear H1;have H':=J H;clear H;go_enter Try.func37,Try.ntmps37;go_wp2_with (first|((with_reducible refine bh (N:=1) rfl ?_);refine bw 1 #[.slice aw U.length al,.slice ao ab.length an,.slice aq ae.length ar,.int .i64 af] 30 ?_;intro QH hg w4 hbox hb;have oz:=J (hbox);have aeG:=mG hg (mH HB.1);have sE:=mG hg (mH HB.1);replace HB:=J (aK (mH HB.1) hb);clear hb hbox hg;obtain⟨ZP,ZQ,ZR,akS,amv,aaw,aax,amw⟩:=aY oz.1)|((with_reducible refine bm (f:=42) rfl ?_);refine cd 7 Try.func42 #[.agg #[.slice aw U.length al,.slice ao ab.length an,.slice aq ae.length ar,.int .i64 af]] ?_;(with_reducible refine(bV.calls k _ _ U _ _ ab _ _ ae af true _ ?aG ?aH ?bb ?bc ?bf ?bg A2.1).mono ?_);(case aG=>exact mC (Kd.aJ bS.1 HB.1));(case aH=>exact cv.1);(case bb=>exact mC (Kd.aJ bN.1 HB.1));(case bc=>exact bX.1);(case bf=>exact mC (Kd.aJ bT.1 HB.1));(case bg=>exact cb.1);rintro e w6 ⟨rfl,hb⟩;refine⟨_,rfl,?_⟩;replace oz:=mB oz hb;replace HB:=J (aK (aM HB.1 sE.1) hb);(try clear hb);obtain⟨Rz,RA,RB,RC,Sh,Si,Sj,Sk⟩:=aY oz.1));go_loopg [3,13] k (fun kq v3 v13 w'=>∃(aZ:List ByteArray) (pq:Int),v13 = .int .i64 pq∧Aside0 (pj.l0 kq aZ ab (ab.length:Int) pq=some r)∧Aside0 (kq≤k)∧Aside0 (Kd.R Kd.string 9 w' w.heap.size (fun _=>True) v3 aZ)∧Aside0 (w'.heap[QH]? = some (.cells #[(.slice aw U.length al),(.slice ao ab.length an),(.slice aq ae.length ar),.int .i64 af] 30 (0,0)))∧Aside0 (Below w.heap.size w w'))
  case atStart=>exact⟨(([]:List ByteArray)),(0),mE,H',⟨Nat.le_refl _⟩,⟨by first|exact Kd.lq _ _ _ _ _|exact Kd.N_nil _ _ _ _ _|exact Kd.V_nil _ _ _ _ _|exact Kd.Q_nil _ _ _ _ _|exact Kd.vB _ _ _ _ _⟩,⟨mK oz.1⟩,⟨(aM HB.1 sE.1)⟩⟩
  case round=>
   clear H'
   try clear c3
   try clear ZP
   try clear ZQ
   try clear ZR
   try clear akS
   try clear Rz
   try clear RA
   try clear RB
   try clear RC
   try clear amv
   try clear aaw
   try clear aax
   try clear amw
   try clear Sh
   try clear Si
   try clear Sj
   try clear Sk
   obtain⟨aZ,pq,rfl,HA,br,iw,oz,HB⟩:=hrel;cases gk with
   |zero=>exact absurd HA.1 (by simp[pj.l0])
   |succ k1=>
    have H:=HA.1;clear HA;simp only[pj.l0]at H;by_cases c8:pq<(ab.length:Int)
    ·rw[if_pos c8]at H;have s6:=decide_eq_true c8;clear c8;by_cases c9:0≤pq
     ·rw[if_pos c9]at H;have yY:=decide_eq_true c9;clear c9;by_cases jy:pq<(ab.length:Int)
      ·rw[if_pos jy]at H;have C3:=decide_eq_true jy;clear jy;by_cases jh:aZ.length<8796093022208
       ·rw[if_pos jh]at H;have afC:=J jh;clear jh;obtain⟨ad2,HU⟩:∃y_:List ByteArray,y_=(aZ++[(av ab pq).f0]):=⟨_,rfl⟩;replace H:(pj.l0 k1 ad2 ab (ab.length:Int) (wrap64 (pq+1)))=some r:=by first|(rw[HU];with_reducible exact H)|(have aU:=(Option.bind_some _ _).symm.trans H;rw[HU];with_reducible exact aU)|(have aU:=(Option.bind_some _ _).symm.trans H;with_reducible exact aU)|with_reducible exact H|(rw[HU];exact H)|exact H
        have agp:=J HU;clear HU;have H':=J H;clear H;have Tr:0≤(pq:Int):=mD;have TO:pq<(ab.length:Int):=mD;obtain⟨agY,ais,abx,aby⟩:=gZ bN.1 pq Tr TO;cases ais
        replace abx:=mX HB.1 abx;replace aby:=mX HB.1 aby;replace Tr:=eq_true Tr;replace TO:=eq_true TO;go_wp2_with (first|((with_reducible refine bh (N:=5) rfl ?_);refine bw 5 #[.string (⟨#[]⟩:ByteArray),.int .i64 0] 63 ?_;intro ajh hg eS hbox hb;replace iw:=J (Kd.aX (mR iw.1) hb);have Et:=J (hbox);have aqM:=mG hg (aM HB.1 sE.1);have N1:=mG hg (aM HB.1 sE.1);replace HB:=J (aK (aM HB.1 sE.1) hb);have WW:=bA hg oz.1;have afN:=bz hg oz.1;replace oz:=mB oz hb;clear hb hbox hg;have GV:=afN.1;have GY:=WW.1;obtain⟨AW,AX,Ba,Bb⟩:=sl Et.1)|((with_reducible refine lV (b:=.append) (xs:=#[.tmp 17,.tmp 20]) rfl ?_);at_builtin;refine Kd.pz Kd.string (w0:=w) w.heap.size rfl (.tmp 17) (.tmp 20) 49 9 (.string ⟨#[]⟩) 16 rfl Try.underlying49 aoa rfl (by decide) (by omega) u3 aZ ((av ab pq).f0) [.string ((av ab pq).f0)] (fun _=>True) (fun _=>False) rfl (by first|(go_simp;done)|(go_simp;rfl)) ?aP (fun _ hk=>hk.elim) ?aF ?aO ?aB ?aS ?aL ?_;(case aP=>exact rfl);(case aB=>exact(az HB.1 sE.1 N1.1));(case aF=>exact(fun _ _=>trivial));(case aO=>exact(by refine mR ?_;exact Kd.aD (Tf (Kd.aW iw.1 Et.1 (by decide))) (fun _ hk=>trivial)));(case aS=>exact(aV (az HB.1 sE.1 N1.1)));(case aL=>have:=afC.1;omega);intro aBK nO ho hb hg hat;rw[←agp.1]at ho;replace oz:=J (bW (g:=QH) (o:=.cells #[.slice aw U.length al,.slice (some agY) ab.length an,.slice aq ae.length ar,.int .i64 af] 30 (0,0)) (bF WW.1 oz.1) hg (Kd.bK iw.1 oz.1 (by decide)));replace Et:=J (bW (g:=ajh) (o:=.cells #[.string ((av ab pq).f0),.int .i64 ((av ab pq).f1)] 63 (0,0)) (by refine mK ?_;refine aC (cs:=#[.string ((av ab pq).f0),.int .i64 0]) ?_ 1 _ rfl;refine mK ?_;refine aC (cs:=#[.string (⟨#[]⟩:ByteArray),.int .i64 0]) ?_ 0 _ rfl;refine mK ?_;exact Et.1) hg (Kd.bK iw.1 Et.1 (by decide)));replace HB:=J (hb);have afc:=J (ho);clear iw;clear ho hb hg hat));go_roundg k1
        case measure=>have:=br.1;omega
        case rel=>exact⟨(ad2),(wrap64 (pq+1)),mE,H',⟨by have:=br.1;omega⟩,⟨mR afc.1⟩,⟨mK oz.1⟩,⟨(az HB.1 sE.1 N1.1)⟩⟩
       ·rw[if_neg jh]at H;exact absurd H (by simp)
      ·rw[if_neg jy]at H;exact absurd H (by simp)
     ·rw[if_neg c9]at H;exact absurd H (by simp)
    ·rw[if_neg c8]at H;have s6:=decide_eq_false c8;clear c8;obtain rfl:=Option.some.inj H;go_wp2;go_ret;exact⟨_,cW,mR iw.1,(aM HB.1 sE.1)⟩
 ·replace c3:=Bool.eq_false_iff.mpr c3;subst c3;have H1:=H;rw[if_neg (show ¬(false=true) by decide)]at H1;clear H;have H:=H1;clear H1;obtain rfl:=Option.some.inj H;go_enter Try.func37,Try.ntmps37;go_wp2_with (first|((with_reducible refine bh (N:=1) rfl ?_);refine bw 1 #[.slice aw U.length al,.slice ao ab.length an,.slice aq ae.length ar,.int .i64 af] 30 ?_;intro QH hg nP hbox hb;have oz:=J (hbox);have aeG:=mG hg (mH HB.1);have sE:=mG hg (mH HB.1);replace HB:=J (aK (mH HB.1) hb);clear hb hbox hg;obtain⟨QZ,Zm,Zn,Zo,RL,Z3,Z4,Z5⟩:=aY oz.1)|((with_reducible refine bm (f:=42) rfl ?_);refine cd 7 Try.func42 #[.agg #[.slice aw U.length al,.slice ao ab.length an,.slice aq ae.length ar,.int .i64 af]] ?_;(with_reducible refine(bV.calls k _ _ U _ _ ab _ _ ae af false _ ?aG ?aH ?bb ?bc ?bf ?bg A2.1).mono ?_);(case aG=>exact mC (Kd.aJ bS.1 HB.1));(case aH=>exact cv.1);(case bb=>exact mC (Kd.aJ bN.1 HB.1));(case bc=>exact bX.1);(case bf=>exact mC (Kd.aJ bT.1 HB.1));(case bg=>exact cb.1);rintro e I2 ⟨rfl,hb⟩;refine⟨_,rfl,?_⟩;replace oz:=mB oz hb;replace HB:=J (aK (aM HB.1 sE.1) hb);(try clear hb)));go_ret;exact⟨_,cW,by first|exact Kd.lq _ _ _ _ _|exact Kd.N_nil _ _ _ _ _|exact Kd.V_nil _ _ _ _ _|exact Kd.Q_nil _ _ _ _ _|exact Kd.vB _ _ _ _ _,(aM HB.1 sE.1)⟩
end Go.Proofs.Ytgpkdbnikcghgaa.MD
