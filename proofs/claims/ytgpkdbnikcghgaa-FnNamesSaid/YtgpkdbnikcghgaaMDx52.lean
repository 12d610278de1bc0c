-- Written by mp.py, our own printer (wip/mp.py), and made shorter by wip/mp_shrink*.py.
import Derived.Test.YtgpkdbnikcghgaaVAll
import Derived.Test.YtgpkdbnikcghgaaMDx0
import Derived.Test.YtgpkdbnikcghgaaMDx10
import Derived.Test.YtgpkdbnikcghgaaMDx11
import Derived.Test.YtgpkdbnikcghgaaMDx12
namespace Go.Proofs.Ytgpkdbnikcghgaa.MD
open Go.RowKit Go.Proofs.YtgpkdbnikcghgaaW.PrintWords Go.Proofs.YtgpkdbnikcghgaaW.PrintLast Go.Proofs.YtgpkdbnikcghgaaW.PrintMore Go.Proofs.Ytgpkdbnikcghgaa.MWords
attribute [local go_sem] max2_int min2_int max_two min_two max_three min_three max_four min_four
set_option linter.unusedVariables false
set_option linter.unusedSimpArgs false
def jM.j0:Nat→Int→Bool→List (aj)→List (ah)→List (ah)→Int→Option (List Int × Bool)
 |0,_,_,_,_,_,_=>none
 |k+1,x6,Ec,adO,aCu,aCv,aCw=>if Ec=true then (some (([]:List Int),false)) else (if 0≤x6 then (if x6<(adO.length:Int) then ((rm.f ((aa adO x6).f1)).bind fun MN=>(some (MN,true))) else (none)) else (none))
def jM.f (k:Nat) (U:List (aj)) (ab:List (ah)) (ae:List (ah)) (af:Int) (a1:ByteArray):Option (List Int × Bool):=(iY.f k U ab ae af a1).bind fun zG=>((kn.f k U ab ae af zG).bind fun im=>((bV.f k U ab ae af).bind fun vZ=>(if vZ=true then ((iY.f k U ab ae af a1).bind fun oS=>(if oS=0 then (jM.j0 k im true U ab ae af) else (jM.j0 k im (decide (im<0)) U ab ae af))) else (jM.j0 k im true U ab ae af))))
set_option maxHeartbeats 8000000 in
set_option maxRecDepth 100000 in
theorem jM.calls (k:Nat) (aw:Option Addr) (al:Nat) (U:List (aj)) (ao:Option Addr) (an:Nat) (ab:List (ah)) (aq:Option Addr) (ar:Nat) (ae:List (ah)) (af:Int) (a1:ByteArray) (r1:List Int) (r2:Bool) (w:World) (dw:Kd.C bu w aw U.length U) (dt:U.length≤al) (dx:Kd.C ay w ao ab.length ab) (du:ab.length≤an) (dy:Kd.C ay w aq ae.length ae) (dv:ae.length≤ar) (h:jM.f k U ab ae af a1=some (r1,r2)) :
 Calls Try.prog 40 #[.agg #[.slice aw U.length al,.slice ao ab.length an,.slice aq ae.length ar,.int .i64 af],.string a1] w fun e w'=>∃dm:Value,e = .returned (.tuple #[dm,.bool r2])∧Kd.R (Kd.int .u8) 5 w' w.heap.size (fun _=>True) dm r1∧Below w.heap.size w w':=by
 have l3:=Try.underlying30;have bS:=J dw;have cv:=J dt;clear dw dt;have bN:=J dx;have bX:=J du;clear dx du;have bT:=J dy;have cb:=J dv;clear dy dv;have HB:=J (Below.refl w.heap.size w);have H:((iY.f k U ab ae af a1).bind fun zG=>((kn.f k U ab ae af zG).bind fun im=>((bV.f k U ab ae af).bind fun vZ=>(if vZ=true then ((iY.f k U ab ae af a1).bind fun oS=>(if oS=0 then (jM.j0 k im true U ab ae af) else (jM.j0 k im (decide (im<0)) U ab ae af))) else (jM.j0 k im true U ab ae af)))))=some (r1,r2):=h;clear h;replace H:=Option.bind_eq_some_iff.mp H;obtain⟨zG,jb,H⟩:=H;replace H:((kn.f k U ab ae af zG).bind fun im=>((bV.f k U ab ae af).bind fun vZ=>(if vZ=true then ((iY.f k U ab ae af a1).bind fun oS=>(if oS=0 then (jM.j0 k im true U ab ae af) else (jM.j0 k im (decide (im<0)) U ab ae af))) else (jM.j0 k im true U ab ae af))))=some (r1,r2):=H;have A3:=J jb;clear jb;replace H:=Option.bind_eq_some_iff.mp H;obtain⟨im,jO,H⟩:=H;replace H:((bV.f k U ab ae af).bind fun vZ=>(if vZ=true then ((iY.f k U ab ae af a1).bind fun oS=>(if oS=0 then (jM.j0 k im true U ab ae af) else (jM.j0 k im (decide (im<0)) U ab ae af))) else (jM.j0 k im true U ab ae af)))=some (r1,r2):=H;have A4:=J jO;clear jO;have tG:=J H;clear H;go_enter Try.func40,Try.ntmps40
 try go_wp2_with (first|((with_reducible refine bh (N:=2) rfl ?_);refine bw 2 #[.slice aw U.length al,.slice ao ab.length an,.slice aq ae.length ar,.int .i64 af] 30 ?_;intro F4 hg w6 hbox hb;have jc:=J (hbox);have aqP:=mG hg (mH HB.1);have qJ:=mG hg (mH HB.1);replace HB:=J (aK (mH HB.1) hb);clear hb hbox hg))
 replace jc:=J (bY jc.1);replace HB:=J (cS HB.1);refine eu (n:=6) (S:=fun w'=>w'.cell? ⟨F4,0,none⟩=some (.slice aw U.length al)∧w'.cell? ⟨F4,1,none⟩=some (.slice ao ab.length an)∧w'.cell? ⟨F4,2,none⟩=some (.slice aq ae.length ar)∧w'.cell? ⟨F4,3,none⟩=some (.int .i64 af)) (ds:=[]) (mb 0 6) (by kernel_rfl) rfl rfl (cz jc.1) (fun hHeld=>?_);generalize w6.drew=w7 at jc HB hHeld ⊢
 refine IC (i:=2) (N:=some 9) (v:=?_) (a':=?_) (mr [0,2,1,3]) rfl rfl (by kernel_rfl) (fun _ _ _ h=>h) (Or.inl ⟨by rfl,?_⟩) ?_ ?_
 rotate_left
 ·intro w';go_simp
  with_reducible rfl
 rotate_left
 ·simp only[Act.put,zA,zB,zC,ij,jC];rfl
 refine Cb (i:=0) (N:=some 7) (v:=?_) (a':=?_) (mr [1,1,1,3]) rfl rfl (by kernel_rfl) (fun _ _ _ h=>h) (Or.inl ⟨by rfl,?_⟩) hHeld ?_ ?_
 rotate_left
 ·rintro w' ⟨s0,s1,s2,s3⟩;go_simp
  with_reducible rfl
 rotate_left
 ·simp only[Act.put,zA,zB,zC,ij,jC];rfl
 refine Cb (i:=1) (N:=some 8) (v:=?_) (a':=?_) (mb 3 3) rfl rfl (by kernel_rfl) (fun _ _ _ h=>h) (Or.inl ⟨by rfl,?_⟩) hHeld ?_ ?_
 rotate_left
 ·rintro w' ⟨s0,s1,s2,s3⟩;go_simp
  with_reducible rfl
 rotate_left
 ·simp only[Act.put,zA,zB,zC,ij,jC];rfl
 refine Bj (i:=3) (N:=some 10) (mb 4 2) rfl rfl (by kernel_rfl) (by decide) (fun K hK=>?_);refine dq Try.func57 (by kernel_rfl) rfl #[.agg #[.slice aw U.length al,.slice ao ab.length an,.slice aq ae.length ar,.int .i64 af],.string a1] (by rfl) rfl rfl mA ?_
 with_reducible refine(iY.calls k _ _ U _ _ ab _ _ ae af a1 zG _ ?aG ?aH ?bb ?bc ?bf ?bg A3.1).mono ?_
 (case aG=>exact mC (Kd.aJ bS.1 HB.1))
 (case aH=>exact cv.1)
 (case bb=>exact mC (Kd.aJ bN.1 HB.1))
 (case bc=>exact bX.1)
 (case bf=>exact mC (Kd.aJ bT.1 HB.1))
 (case bg=>exact cb.1)
 rintro e w8 ⟨rfl,hb⟩;refine⟨_,rfl,?_⟩;replace jc:=mB jc hb;replace HB:=J (aK (aM HB.1 qJ.1) hb)
 (try clear hb)
 (try clear gh)
 (try clear hk)
 (try clear hi)
 refine hK.out _ _ (cz jc.1) (fun hHeld=>?_);clear hK K;refine bD 10 ?_;refine Bj (i:=4) (N:=some 11) (mb 5 1) rfl rfl (by kernel_rfl) (by decide) (fun K hK=>?_);refine dq Try.func70 (by kernel_rfl) rfl #[.agg #[.slice aw U.length al,.slice ao ab.length an,.slice aq ae.length ar,.int .i64 af],.int .i64 zG] (by rfl) rfl rfl mA ?_
 with_reducible refine(kn.calls k _ _ U _ _ ab _ _ ae af zG im _ ?aG ?aH ?bb ?bc ?bf ?bg A4.1).mono ?_
 (case aG=>exact mC (Kd.aJ bS.1 HB.1))
 (case aH=>exact cv.1)
 (case bb=>exact mC (Kd.aJ bN.1 HB.1))
 (case bc=>exact bX.1)
 (case bf=>exact mC (Kd.aJ bT.1 HB.1))
 (case bg=>exact cb.1)
 rintro e w9 ⟨rfl,hb⟩;refine⟨_,rfl,?_⟩;replace jc:=mB jc hb;replace HB:=J (aK (aM HB.1 qJ.1) hb)
 (try clear hb)
 (try clear gh)
 (try clear hk)
 (try clear hi)
 refine hK.out _ _ (cz jc.1) (fun hHeld=>?_);clear hK K;refine bD 11 ?_;refine IC (i:=5) (N:=some 6) (v:=?_) (a':=?_) (mb 6 0) rfl rfl (by kernel_rfl) (fun _ _ _ h=>h) (Or.inl ⟨by rfl,?_⟩) ?_ ?_
 rotate_left
 ·intro w';go_simp
  with_reducible rfl
 rotate_left
 ·simp only[Act.put,zA,zB,zC,ij,jC];rfl
 refine et (by kernel_rfl) ?_;go_upto_region 2 with (fail)
 go_cut [24] (fun v24 wc=>∃(kq:Nat) (Ns:Bool),v24 = .bool Ns∧Aside0 (jM.j0 kq im Ns U ab ae af=some (r1,r2))∧Aside0 (kq≤k)∧Aside0 (wc.heap[F4]? = some (.cells #[(.slice aw U.length al),(.slice ao ab.length an),(.slice aq ae.length ar),.int .i64 af] 30 (0,0)))∧Aside0 (Below w.heap.size w wc))
 case first=>
  have H:=tG.1;clear tG;replace H:=Option.bind_eq_some_iff.mp H;obtain⟨vZ,oW,H⟩:=H;replace H:(if vZ=true then ((iY.f k U ab ae af a1).bind fun oS=>(if oS=0 then (jM.j0 k im true U ab ae af) else (jM.j0 k im (decide (im<0)) U ab ae af))) else (jM.j0 k im true U ab ae af))=some (r1,r2):=H;have rO:=J oW;clear oW;by_cases jh:vZ=true
  ·subst jh;have H1:=H;rw[if_pos rfl]at H1;clear H;have H:=H1;clear H1;replace H:=Option.bind_eq_some_iff.mp H;obtain⟨oS,Vf,H⟩:=H;replace H:(if oS=0 then (jM.j0 k im true U ab ae af) else (jM.j0 k im (decide (im<0)) U ab ae af))=some (r1,r2):=H;have Ve:=J Vf;clear Vf;by_cases jo:oS=0
   ·rw[if_pos jo]at H;have wY:(oS == 0)=true:=beq_iff_eq.mpr jo;have ahv:(oS != 0)=false:=bne_eq_false_iff_eq.mpr jo;clear jo
    (first|rw[wY]|(simp only[ij,jC];rw[wY])|skip)
    have H':=J H;clear H;obtain⟨AW,AX,KV,QW,Ba,Bb,Lo,RI⟩:=aY jc.1;go_wp2_with (first|((with_reducible refine bm (f:=42) rfl ?_);refine cd 13 Try.func42 #[.agg #[.slice aw U.length al,.slice ao ab.length an,.slice aq ae.length ar,.int .i64 af]] ?_;(with_reducible refine(bV.calls k _ _ U _ _ ab _ _ ae af true _ ?aG ?aH ?bb ?bc ?bf ?bg rO.1).mono ?_);(case aG=>exact mC (Kd.aJ bS.1 HB.1));(case aH=>exact cv.1);(case bb=>exact mC (Kd.aJ bN.1 HB.1));(case bc=>exact bX.1);(case bf=>exact mC (Kd.aJ bT.1 HB.1));(case bg=>exact cb.1);rintro e nO ⟨rfl,hb⟩;refine⟨_,rfl,?_⟩;replace jc:=mB jc hb;replace HB:=J (aK (aM HB.1 qJ.1) hb);(try clear hb);obtain⟨xq,xr,xt,xu,xx,xy,xz,xA⟩:=aY jc.1)|(go_at_call 57;(with_reducible refine(iY.calls k _ _ U _ _ ab _ _ ae af a1 oS _ ?aG ?aH ?bb ?bc ?bf ?bg Ve.1).mono ?_);(case aG=>exact mC (Kd.aJ bS.1 HB.1));(case aH=>exact cv.1);(case bb=>exact mC (Kd.aJ bN.1 HB.1));(case bc=>exact bX.1);(case bf=>exact mC (Kd.aJ bT.1 HB.1));(case bg=>exact cb.1);rintro e M9 ⟨rfl,hb⟩;replace jc:=mB jc hb;replace HB:=J (aK (aM HB.1 qJ.1) hb);(try clear hb);(try clear gh);(try clear hk);(try clear hi)));go_meet
    case rel=>exact⟨_,(true),mE,H',⟨by first|omega|exact Nat.le_refl _⟩,⟨mK jc.1⟩,⟨(aM HB.1 qJ.1)⟩⟩
   ·rw[if_neg jo]at H;have wY:(oS == 0)=false:=beq_eq_false_iff_ne.mpr jo;have ahv:(oS != 0)=true:=bne_iff_ne.mpr jo
    (first|rw[wY]|(simp only[ij,jC];rw[wY])|skip)
    have H':=J H;clear H;obtain⟨aj4,aj5,aj6,aj7,alH,alI,alJ,alK⟩:=aY jc.1;go_wp2_with (first|((with_reducible refine bm (f:=42) rfl ?_);refine cd 13 Try.func42 #[.agg #[.slice aw U.length al,.slice ao ab.length an,.slice aq ae.length ar,.int .i64 af]] ?_;(with_reducible refine(bV.calls k _ _ U _ _ ab _ _ ae af true _ ?aG ?aH ?bb ?bc ?bf ?bg rO.1).mono ?_);(case aG=>exact mC (Kd.aJ bS.1 HB.1));(case aH=>exact cv.1);(case bb=>exact mC (Kd.aJ bN.1 HB.1));(case bc=>exact bX.1);(case bf=>exact mC (Kd.aJ bT.1 HB.1));(case bg=>exact cb.1);rintro e UR ⟨rfl,hb⟩;refine⟨_,rfl,?_⟩;replace jc:=mB jc hb;replace HB:=J (aK (aM HB.1 qJ.1) hb);(try clear hb);obtain⟨Q0,Q1,Q2,Q3,RM,RN,RO,RP⟩:=aY jc.1)|(go_at_call 57;(with_reducible refine(iY.calls k _ _ U _ _ ab _ _ ae af a1 oS _ ?aG ?aH ?bb ?bc ?bf ?bg Ve.1).mono ?_);(case aG=>exact mC (Kd.aJ bS.1 HB.1));(case aH=>exact cv.1);(case bb=>exact mC (Kd.aJ bN.1 HB.1));(case bc=>exact bX.1);(case bf=>exact mC (Kd.aJ bT.1 HB.1));(case bg=>exact cb.1);rintro e Na ⟨rfl,hb⟩;replace jc:=mB jc hb;replace HB:=J (aK (aM HB.1 qJ.1) hb);(try clear hb);(try clear gh);(try clear hk);(try clear hi)));go_meet
    case rel=>exact⟨_,(decide (im<0)),mE,H',⟨by first|omega|exact Nat.le_refl _⟩,⟨mK jc.1⟩,⟨(aM HB.1 qJ.1)⟩⟩
  ·replace jh:=Bool.eq_false_iff.mpr jh;subst jh;have H1:=H;rw[if_neg (show ¬(false=true) by decide)]at H1;clear H;have H:=H1;clear H1;have H':=J H;clear H;obtain⟨Zp,Zq,Zr,Zs,Z6,Z7,Z8,Z9⟩:=aY jc.1;go_wp2_with (first|((with_reducible refine bm (f:=42) rfl ?_);refine cd 13 Try.func42 #[.agg #[.slice aw U.length al,.slice ao ab.length an,.slice aq ae.length ar,.int .i64 af]] ?_;(with_reducible refine(bV.calls k _ _ U _ _ ab _ _ ae af false _ ?aG ?aH ?bb ?bc ?bf ?bg rO.1).mono ?_);(case aG=>exact mC (Kd.aJ bS.1 HB.1));(case aH=>exact cv.1);(case bb=>exact mC (Kd.aJ bN.1 HB.1));(case bc=>exact bX.1);(case bf=>exact mC (Kd.aJ bT.1 HB.1));(case bg=>exact cb.1);rintro e D1 ⟨rfl,hb⟩;refine⟨_,rfl,?_⟩;replace jc:=mB jc hb;replace HB:=J (aK (aM HB.1 qJ.1) hb);(try clear hb)));go_meet
   case rel=>exact⟨_,(true),mE,H',⟨by first|omega|exact Nat.le_refl _⟩,⟨mK jc.1⟩,⟨(aM HB.1 qJ.1)⟩⟩
 case rest=>
  clear tG
  obtain⟨kq,Ns,rfl,HA,yA,jc,HB⟩:=hcut;cases kq with
  |zero=>exact absurd HA.1 (by simp[jM.j0])
  |succ Iz=>
   have H:=HA.1;clear HA;simp only[jM.j0]at H;by_cases jz:Ns=true
   ·subst jz;have H1:=H;rw[if_pos rfl]at H1;clear H;have H:=H1;clear H1;simp only[Option.some.injEq,Prod.mk.injEq]at H;obtain⟨rfl,rfl⟩:=H;go_wp2;go_ret2;exact⟨_,cW,by first|exact Kd.lq _ _ _ _ _|exact Kd.N_nil _ _ _ _ _|exact Kd.V_nil _ _ _ _ _|exact Kd.Q_nil _ _ _ _ _|exact Kd.vB _ _ _ _ _,(aM HB.1 qJ.1)⟩
   ·replace jz:=Bool.eq_false_iff.mpr jz;subst jz;have H1:=H;rw[if_neg (show ¬(false=true) by decide)]at H1;clear H;have H:=H1;clear H1;by_cases n8:0≤im
    ·rw[if_pos n8]at H;have ahH:=decide_eq_true n8;clear n8;by_cases lu:im<(U.length:Int)
     ·rw[if_pos lu]at H;have ahI:=decide_eq_true lu;clear lu;replace H:=Option.bind_eq_some_iff.mp H;obtain⟨MN,ym,H⟩:=H;replace H:(some (MN,true))=some (r1,r2):=H;have Ct:=J ym;clear ym;simp only[Option.some.injEq,Prod.mk.injEq]at H;obtain⟨rfl,rfl⟩:=H;obtain⟨KZ,K0,K5,K6,Ls,Lt,Lu,Lv⟩:=aY jc.1;have Ts:0≤(im:Int):=mD;have TP:im<(U.length:Int):=mD;obtain⟨arz,aee,ahx,ait,abz,abA,abB,aaO,aaF⟩:=jg bS.1 im Ts TP;cases ait
      replace abz:=mX HB.1 abz;replace abA:=mX HB.1 abA;replace abB:=mX HB.1 abB;have afl:=J aaF;have aeZ:=J aaO;clear aaF aaO;replace Ts:=eq_true Ts;replace TP:=eq_true TP;go_wp2_with (first|((with_reducible refine bm (f:=82) rfl ?_);refine cd 31 Try.func82 #[.slice aee ((aa U im).f1).length ahx] ?_;(with_reducible refine(rm.calls _ _ ((aa U im).f1) MN _ ?aG ?aH Ct.1).mono ?_);(case aG=>exact mC (Kd.aJ afl.1 HB.1));(case aH=>exact aeZ.1);rintro e wj ⟨aBQ,rfl,bo,hb⟩;refine⟨_,rfl,?_⟩;have afd:=J (Kd.cR bo (aV (aM HB.1 qJ.1)));replace jc:=mB jc hb;replace HB:=J (aK (aM HB.1 qJ.1) hb);(try clear hb);(try clear bo)));go_ret2;exact⟨_,cW,mR afd.1,(aM HB.1 qJ.1)⟩
     ·rw[if_neg lu]at H;exact absurd H (by simp)
    ·rw[if_neg n8]at H;exact absurd H (by simp)
end Go.Proofs.Ytgpkdbnikcghgaa.MD
