-- Written by mp.py, our own printer (wip/mp.py), and made shorter by wip/mp_shrink*.py.
import Derived.Test.YtingkpnoiekliaaGreatVAll
import Derived.Test.YtingkpnoiekliaaGreatG1
import Derived.Test.YtingkpnoiekliaaGreatG2
import Derived.Test.YtingkpnoiekliaaGreatG3
namespace Go.Proofs.YtingkpnoiekliaaGreat.MZ
open Go.RowKit Go.Proofs.YtingkpnoiekliaaGreatW.PrintWords Go.Proofs.YtingkpnoiekliaaGreatW.PrintLast Go.Proofs.YtingkpnoiekliaaGreatW.PrintMore Go.Proofs.YtingkpnoiekliaaGreat.MWords
attribute [local go_sem] max2_int min2_int max_two min_two max_three min_three max_four min_four
set_option linter.unusedVariables false
set_option linter.unusedSimpArgs false
def iV.j0:Nat→Int→Bool→List (aj)→List (ab)→List (ab)→Int→Option (List Int × Bool)
 |0,_,_,_,_,_,_=>none
 |k+1,x6,KG,aat,az7,az8,az9=>if KG=true then (some (([]:List Int),false)) else (if 0≤x6 then (if x6<(aat.length:Int) then ((wU.f ((ae aat x6).f1)).bind fun t148=>(some (t148,true))) else (none)) else (none))
def iV.f (k:Nat) (aa:List (aj)) (af:List (ab)) (ah:List (ab)) (ai:Int) (a1:ByteArray):Option (List Int × Bool):=(fq.f k aa af ah ai a1).bind fun t143=>((jf.f k aa af ah ai t143).bind fun t144=>((kU.f k aa af ah ai).bind fun t145=>(if t145=true then ((fq.f k aa af ah ai a1).bind fun t146=>(if t146=0 then (iV.j0 k t144 true aa af ah ai) else (iV.j0 k t144 (decide (t144<0)) aa af ah ai))) else (iV.j0 k t144 true aa af ah ai))))
set_option maxHeartbeats 8000000 in
set_option maxRecDepth 100000 in
theorem iV.calls (k:Nat) (av:Option Addr) (al:Nat) (aa:List (aj)) (ar:Option Addr) (an:Nat) (af:List (ab)) (ao:Option Addr) (aq:Nat) (ah:List (ab)) (ai:Int) (a1:ByteArray) (r1:List Int) (r2:Bool) (w:World) (cW:Kd.C bf w av aa.length aa) (cT:aa.length≤al) (cX:Kd.C ak w ar af.length af) (cU:af.length≤an) (cY:Kd.C ak w ao ah.length ah) (cV:ah.length≤aq) (h:iV.f k aa af ah ai a1=some (r1,r2)) :
 Calls Tryz.prog 9 #[.agg #[.slice av aa.length al,.slice ar af.length an,.slice ao ah.length aq,.int .i64 ai],.string a1] w fun e w'=>∃bE:Value,e = .returned (.tuple #[bE,.bool r2])∧Kd.R (Kd.int .u8) 5 w' w.heap.size (fun _=>True) bE r1∧Below w.heap.size w w':=by
 have ly:=Tryz.underlying27;have cG:=J cW;have df:=J cT;clear cW cT;have cC:=J cX;have cR:=J cU;clear cX cU;have cO:=J cY;have dg:=J cV;clear cY cV;have HB:=J (Below.refl w.heap.size w);have H:((fq.f k aa af ah ai a1).bind fun t143=>((jf.f k aa af ah ai t143).bind fun t144=>((kU.f k aa af ah ai).bind fun t145=>(if t145=true then ((fq.f k aa af ah ai a1).bind fun t146=>(if t146=0 then (iV.j0 k t144 true aa af ah ai) else (iV.j0 k t144 (decide (t144<0)) aa af ah ai))) else (iV.j0 k t144 true aa af ah ai)))))=some (r1,r2):=h;clear h;replace H:=Option.bind_eq_some_iff.mp H;obtain⟨t143,dQ,H⟩:=H;replace H:((jf.f k aa af ah ai t143).bind fun t144=>((kU.f k aa af ah ai).bind fun t145=>(if t145=true then ((fq.f k aa af ah ai a1).bind fun t146=>(if t146=0 then (iV.j0 k t144 true aa af ah ai) else (iV.j0 k t144 (decide (t144<0)) aa af ah ai))) else (iV.j0 k t144 true aa af ah ai))))=some (r1,r2):=H;have A3:=J dQ;clear dQ;replace H:=Option.bind_eq_some_iff.mp H;obtain⟨t144,fw,H⟩:=H;replace H:((kU.f k aa af ah ai).bind fun t145=>(if t145=true then ((fq.f k aa af ah ai a1).bind fun t146=>(if t146=0 then (iV.j0 k t144 true aa af ah ai) else (iV.j0 k t144 (decide (t144<0)) aa af ah ai))) else (iV.j0 k t144 true aa af ah ai)))=some (r1,r2):=H;have A4:=J fw;clear fw;have xR:=J H;clear H;go_enter Tryz.func9,Tryz.ntmps9
 try go_wp2_with (first|((with_reducible refine aM (N:=2) rfl ?_);refine bg 2 #[.slice av aa.length al,.slice ar af.length an,.slice ao ah.length aq,.int .i64 ai] 27 ?_;intro DC hg w6 hbox hb;have ij:=J (hbox);have aoo:=mG hg (mH HB.1);have o7:=mG hg (mH HB.1);replace HB:=J (aA (mH HB.1) hb);clear hb hbox hg))
 replace ij:=J (dJ ij.1);replace HB:=J (dI HB.1);refine ez (n:=6) (S:=fun w'=>w'.cell? ⟨DC,0,none⟩=some (.slice av aa.length al)∧w'.cell? ⟨DC,1,none⟩=some (.slice ar af.length an)∧w'.cell? ⟨DC,2,none⟩=some (.slice ao ah.length aq)∧w'.cell? ⟨DC,3,none⟩=some (.int .i64 ai)) (ds:=[]) (mb 0 6) (by kernel_rfl) rfl rfl (eN ij.1) (fun hHeld=>?_);generalize w6.drew=w7 at ij HB hHeld ⊢
 refine zh (i:=2) (N:=some 9) (v:=?_) (a':=?_) (mr [0,2,1,3]) rfl rfl (by kernel_rfl) (fun _ _ _ h=>h) (Or.inl ⟨by rfl,?_⟩) ?_ ?_
 rotate_left
 ·intro w';go_simp
  with_reducible rfl
 rotate_left
 ·simp only[Act.put,zA,zB,zC,dD,fU];rfl
 refine xq (i:=0) (N:=some 7) (v:=?_) (a':=?_) (mr [1,1,1,3]) rfl rfl (by kernel_rfl) (fun _ _ _ h=>h) (Or.inl ⟨by rfl,?_⟩) hHeld ?_ ?_
 rotate_left
 ·rintro w' ⟨s0,s1,s2,s3⟩;go_simp
  with_reducible rfl
 rotate_left
 ·simp only[Act.put,zA,zB,zC,dD,fU];rfl
 refine xq (i:=1) (N:=some 8) (v:=?_) (a':=?_) (mb 3 3) rfl rfl (by kernel_rfl) (fun _ _ _ h=>h) (Or.inl ⟨by rfl,?_⟩) hHeld ?_ ?_
 rotate_left
 ·rintro w' ⟨s0,s1,s2,s3⟩;go_simp
  with_reducible rfl
 rotate_left
 ·simp only[Act.put,zA,zB,zC,dD,fU];rfl
 refine xb (i:=3) (N:=some 10) (mb 4 2) rfl rfl (by kernel_rfl) (by decide) (fun K hK=>?_);refine kk Tryz.func28 (by kernel_rfl) rfl #[.agg #[.slice av aa.length al,.slice ar af.length an,.slice ao ah.length aq,.int .i64 ai],.string a1] (by rfl) rfl rfl mA ?_
 with_reducible refine(fq.calls k _ _ aa _ _ af _ _ ah ai a1 t143 _ ?aE ?aG ?bA ?bB ?bC ?bK A3.1).mono ?_
 (case aE=>exact mC (Kd.az cG.1 HB.1))
 (case aG=>exact df.1)
 (case bA=>exact mC (Kd.az cC.1 HB.1))
 (case bB=>exact cR.1)
 (case bC=>exact mC (Kd.az cO.1 HB.1))
 (case bK=>exact dg.1)
 rintro e w8 ⟨rfl,hb⟩;refine⟨_,rfl,?_⟩;replace ij:=mB ij hb;replace HB:=J (aA (aZ HB.1 o7.1) hb)
 (try clear hb)
 (try clear fS)
 (try clear hk)
 (try clear hi)
 refine hK.out _ _ (eN ij.1) (fun hHeld=>?_);clear hK K;refine dc 10 ?_;refine xb (i:=4) (N:=some 11) (mb 5 1) rfl rfl (by kernel_rfl) (by decide) (fun K hK=>?_);refine kk Tryz.func35 (by kernel_rfl) rfl #[.agg #[.slice av aa.length al,.slice ar af.length an,.slice ao ah.length aq,.int .i64 ai],.int .i64 t143] (by rfl) rfl rfl mA ?_
 with_reducible refine(jf.calls k _ _ aa _ _ af _ _ ah ai t143 t144 _ ?aE ?aG ?bA ?bB ?bC ?bK A4.1).mono ?_
 (case aE=>exact mC (Kd.az cG.1 HB.1))
 (case aG=>exact df.1)
 (case bA=>exact mC (Kd.az cC.1 HB.1))
 (case bB=>exact cR.1)
 (case bC=>exact mC (Kd.az cO.1 HB.1))
 (case bK=>exact dg.1)
 rintro e w9 ⟨rfl,hb⟩;refine⟨_,rfl,?_⟩;replace ij:=mB ij hb;replace HB:=J (aA (aZ HB.1 o7.1) hb)
 (try clear hb)
 (try clear fS)
 (try clear hk)
 (try clear hi)
 refine hK.out _ _ (eN ij.1) (fun hHeld=>?_);clear hK K;refine dc 11 ?_;refine zh (i:=5) (N:=some 6) (v:=?_) (a':=?_) (mb 6 0) rfl rfl (by kernel_rfl) (fun _ _ _ h=>h) (Or.inl ⟨by rfl,?_⟩) ?_ ?_
 rotate_left
 ·intro w';go_simp
  with_reducible rfl
 rotate_left
 ·simp only[Act.put,zA,zB,zC,dD,fU];rfl
 refine eM (by kernel_rfl) ?_;go_upto_region 2 with (fail)
 go_cut [24] (fun v24 wc=>∃(kq:Nat) (KH:Bool),v24 = .bool KH∧Aside0 (iV.j0 kq t144 KH aa af ah ai=some (r1,r2))∧Aside0 (kq≤k)∧Aside0 (wc.heap[DC]? = some (.cells #[(.slice av aa.length al),(.slice ar af.length an),(.slice ao ah.length aq),.int .i64 ai] 27 (0,0)))∧Aside0 (Below w.heap.size w wc))
 case first=>
  have H:=xR.1;clear xR;replace H:=Option.bind_eq_some_iff.mp H;obtain⟨t145,k4,H⟩:=H;replace H:(if t145=true then ((fq.f k aa af ah ai a1).bind fun t146=>(if t146=0 then (iV.j0 k t144 true aa af ah ai) else (iV.j0 k t144 (decide (t144<0)) aa af ah ai))) else (iV.j0 k t144 true aa af ah ai))=some (r1,r2):=H;have ow:=J k4;clear k4;by_cases dy:t145=true
  ·subst dy;have H1:=H;rw[if_pos rfl]at H1;clear H;have H:=H1;clear H1;replace H:=Option.bind_eq_some_iff.mp H;obtain⟨t146,Q5,H⟩:=H;replace H:(if t146=0 then (iV.j0 k t144 true aa af ah ai) else (iV.j0 k t144 (decide (t144<0)) aa af ah ai))=some (r1,r2):=H;have Q4:=J Q5;clear Q5;by_cases cQ:t146=0
   ·rw[if_pos cQ]at H;have pj:(t146 == 0)=true:=beq_iff_eq.mpr cQ;have Hi:(t146 != 0)=false:=bne_eq_false_iff_eq.mpr cQ;clear cQ
    (first|rw[pj]|(simp only[dD,fU];rw[pj])|skip)
    have H':=J H;clear H;obtain⟨AP,AQ,Iq,NK,AZ,Ba,IS,NV⟩:=bP ij.1;go_wp2_with (first|((with_reducible refine aH (f:=11) rfl ?_);refine cd 13 Tryz.func11 #[.agg #[.slice av aa.length al,.slice ar af.length an,.slice ao ah.length aq,.int .i64 ai]] ?_;(with_reducible refine(kU.calls k _ _ aa _ _ af _ _ ah ai true _ ?aE ?aG ?bA ?bB ?bC ?bK ow.1).mono ?_);(case aE=>exact mC (Kd.az cG.1 HB.1));(case aG=>exact df.1);(case bA=>exact mC (Kd.az cC.1 HB.1));(case bB=>exact cR.1);(case bC=>exact mC (Kd.az cO.1 HB.1));(case bK=>exact dg.1);rintro e mM ⟨rfl,hb⟩;refine⟨_,rfl,?_⟩;replace ij:=mB ij hb;replace HB:=J (aA (aZ HB.1 o7.1) hb);(try clear hb);obtain⟨AR,AS,AT,AU,Bb,Bc,Be,Bf⟩:=bP ij.1)|(go_at_call 28;(with_reducible refine(fq.calls k _ _ aa _ _ af _ _ ah ai a1 t146 _ ?aE ?aG ?bA ?bB ?bC ?bK Q4.1).mono ?_);(case aE=>exact mC (Kd.az cG.1 HB.1));(case aG=>exact df.1);(case bA=>exact mC (Kd.az cC.1 HB.1));(case bB=>exact cR.1);(case bC=>exact mC (Kd.az cO.1 HB.1));(case bK=>exact dg.1);rintro e Ky ⟨rfl,hb⟩;replace ij:=mB ij hb;replace HB:=J (aA (aZ HB.1 o7.1) hb);(try clear hb);(try clear fS);(try clear hk);(try clear hi)));go_meet
    case rel=>exact⟨_,(true),mE,H',⟨by first|omega|exact Nat.le_refl _⟩,⟨mK ij.1⟩,⟨(aZ HB.1 o7.1)⟩⟩
   ·rw[if_neg cQ]at H;have pj:(t146 == 0)=false:=beq_eq_false_iff_ne.mpr cQ;have Hi:(t146 != 0)=true:=bne_iff_ne.mpr cQ
    (first|rw[pj]|(simp only[dD,fU];rw[pj])|skip)
    have H':=J H;clear H;obtain⟨arc,ard,are,arf,at5,at6,at7,at8⟩:=bP ij.1;go_wp2_with (first|((with_reducible refine aH (f:=11) rfl ?_);refine cd 13 Tryz.func11 #[.agg #[.slice av aa.length al,.slice ar af.length an,.slice ao ah.length aq,.int .i64 ai]] ?_;(with_reducible refine(kU.calls k _ _ aa _ _ af _ _ ah ai true _ ?aE ?aG ?bA ?bB ?bC ?bK ow.1).mono ?_);(case aE=>exact mC (Kd.az cG.1 HB.1));(case aG=>exact df.1);(case bA=>exact mC (Kd.az cC.1 HB.1));(case bB=>exact cR.1);(case bC=>exact mC (Kd.az cO.1 HB.1));(case bK=>exact dg.1);rintro e w19 ⟨rfl,hb⟩;refine⟨_,rfl,?_⟩;replace ij:=mB ij hb;replace HB:=J (aA (aZ HB.1 o7.1) hb);(try clear hb);obtain⟨arh,ari,arj,ark,at9,aua,aub,auc⟩:=bP ij.1)|(go_at_call 28;(with_reducible refine(fq.calls k _ _ aa _ _ af _ _ ah ai a1 t146 _ ?aE ?aG ?bA ?bB ?bC ?bK Q4.1).mono ?_);(case aE=>exact mC (Kd.az cG.1 HB.1));(case aG=>exact df.1);(case bA=>exact mC (Kd.az cC.1 HB.1));(case bB=>exact cR.1);(case bC=>exact mC (Kd.az cO.1 HB.1));(case bK=>exact dg.1);rintro e QJ ⟨rfl,hb⟩;replace ij:=mB ij hb;replace HB:=J (aA (aZ HB.1 o7.1) hb);(try clear hb);(try clear fS);(try clear hk);(try clear hi)));go_meet
    case rel=>exact⟨_,(decide (t144<0)),mE,H',⟨by first|omega|exact Nat.le_refl _⟩,⟨mK ij.1⟩,⟨(aZ HB.1 o7.1)⟩⟩
  ·replace dy:=Bool.eq_false_iff.mpr dy;subst dy;have H1:=H;rw[if_neg (show ¬(false=true) by decide)]at H1;clear H;have H:=H1;clear H1;have H':=J H;clear H;obtain⟨NP,NQ,NR,NS,N0,N1,N2,N3⟩:=bP ij.1;go_wp2_with (first|((with_reducible refine aH (f:=11) rfl ?_);refine cd 13 Tryz.func11 #[.agg #[.slice av aa.length al,.slice ar af.length an,.slice ao ah.length aq,.int .i64 ai]] ?_;(with_reducible refine(kU.calls k _ _ aa _ _ af _ _ ah ai false _ ?aE ?aG ?bA ?bB ?bC ?bK ow.1).mono ?_);(case aE=>exact mC (Kd.az cG.1 HB.1));(case aG=>exact df.1);(case bA=>exact mC (Kd.az cC.1 HB.1));(case bB=>exact cR.1);(case bC=>exact mC (Kd.az cO.1 HB.1));(case bK=>exact dg.1);rintro e w23 ⟨rfl,hb⟩;refine⟨_,rfl,?_⟩;replace ij:=mB ij hb;replace HB:=J (aA (aZ HB.1 o7.1) hb);(try clear hb)));go_meet
   case rel=>exact⟨_,(true),mE,H',⟨by first|omega|exact Nat.le_refl _⟩,⟨mK ij.1⟩,⟨(aZ HB.1 o7.1)⟩⟩
 case rest=>
  clear xR
  obtain⟨kq,KH,rfl,HA,Ln,ij,HB⟩:=hcut;cases kq with
  |zero=>exact absurd HA.1 (by simp[iV.j0])
  |succ Yj=>
   have H:=HA.1;clear HA;simp only[iV.j0]at H;by_cases lZ:KH=true
   ·subst lZ;have H1:=H;rw[if_pos rfl]at H1;clear H;have H:=H1;clear H1;simp only[Option.some.injEq,Prod.mk.injEq]at H;obtain⟨rfl,rfl⟩:=H;go_wp2;go_ret2;exact⟨_,cP,by first|exact Kd.lS _ _ _ _ _|exact Kd.N_nil _ _ _ _ _|exact Kd.V_nil _ _ _ _ _|exact Kd.Q_nil _ _ _ _ _|exact Kd.pg _ _ _ _ _,(aZ HB.1 o7.1)⟩
   ·replace lZ:=Bool.eq_false_iff.mpr lZ;subst lZ;have H1:=H;rw[if_neg (show ¬(false=true) by decide)]at H1;clear H;have H:=H1;clear H1;by_cases pk:0≤t144
    ·rw[if_pos pk]at H;have apc:=decide_eq_true pk;clear pk;by_cases po:t144<(aa.length:Int)
     ·rw[if_pos po]at H;have apd:=decide_eq_true po;clear po;replace H:=Option.bind_eq_some_iff.mp H;obtain⟨t148,Rg,H⟩:=H;replace H:(some (t148,true))=some (r1,r2):=H;have A27:=J Rg;clear Rg;simp only[Option.some.injEq,Prod.mk.injEq]at H;obtain⟨rfl,rfl⟩:=H;obtain⟨VH,VI,VJ,VK,We,Wf,Wg,Wh⟩:=bP ij.1;have OW:0≤(t144:Int):=mD;have Pu:t144<(aa.length:Int):=mD;obtain⟨ao2,aaV,aeQ,afG,XB,XC,XD,WS,WH⟩:=kO cG.1 t144 OW Pu;cases afG
      replace XB:=mX HB.1 XB;replace XC:=mX HB.1 XC;replace XD:=mX HB.1 XD;have ab5:=J WH;have abx:=J WS;clear WH WS;replace OW:=eq_true OW;replace Pu:=eq_true Pu;go_wp2_with (first|((with_reducible refine aH (f:=36) rfl ?_);refine cd 31 Tryz.func36 #[.slice aaV ((ae aa t144).f1).length aeQ] ?_;(with_reducible refine(wU.calls _ _ ((ae aa t144).f1) t148 _ ?aE ?aG A27.1).mono ?_);(case aE=>exact mC (Kd.az ab5.1 HB.1));(case aG=>exact abx.1);rintro e QK ⟨ayW,rfl,bh,hb⟩;refine⟨_,rfl,?_⟩;have abE:=J (Kd.bT bh (aQ (aZ HB.1 o7.1)));replace ij:=mB ij hb;replace HB:=J (aA (aZ HB.1 o7.1) hb);(try clear hb);(try clear bh)));go_ret2;exact⟨_,cP,mR abE.1,(aZ HB.1 o7.1)⟩
     ·rw[if_neg po]at H;exact absurd H (by simp)
    ·rw[if_neg pk]at H;exact absurd H (by simp)
end Go.Proofs.YtingkpnoiekliaaGreat.MZ
