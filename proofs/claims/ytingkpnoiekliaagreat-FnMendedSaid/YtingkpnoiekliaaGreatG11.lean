/- Walks and plain laws, put together: no condition of their own. -/
import Derived.Test.YtingkpnoiekliaaGreatVAll
import Derived.Test.YtingkpnoiekliaaGreatG1
import Derived.Test.YtingkpnoiekliaaGreatG2
import Derived.Test.YtingkpnoiekliaaGreatG7
import Derived.Test.YtingkpnoiekliaaGreatMZx13
import Derived.Shelf.SlSortFuncK.WholeK
import Derived.Shelf.GgSortFunc.Tiny
section
namespace Go.Proofs.YtingkpnoiekliaaGreat.MZ
open Go.RowKit Go.Proofs.YtingkpnoiekliaaGreatW.PrintWords Go.Proofs.YtingkpnoiekliaaGreatW.PrintLast Go.Proofs.YtingkpnoiekliaaGreatW.PrintMore Go.Proofs.YtingkpnoiekliaaGreat.MWords
attribute [local go_sem] max2_int min2_int max_two min_two max_three min_three max_four min_four
set_option linter.unusedVariables false
set_option linter.unusedSimpArgs false
def pN.f (k:Nat) (aa:List (aj)) (af:List (ab)) (ah:List (ab)) (ai:Int) (a1:ByteArray):Option (List Int × Bool):=(gJ.f k aa af ah ai a1).bind fun rn=>(if rn=0 then ((ic.f k af a1).bind fun jg=>(if 0≤jg then (if jg<(af.length:Int) then ((ie.f k aa af ah ai ((aK af jg).f1)).bind fun gy=>((some (([]:List Int):List Int)).bind fun lH=>(if 0≤gy then (if gy<(aa.length:Int) then (if lH.length+((ae aa gy).f1).length<140737488355328 then (some ((lH++((ae aa gy).f1)),true)) else (none)) else (none)) else (none)))) else (none)) else (none))) else (some ((([]:List Int)),false)))
def pN.T3:Bool × List (List Nat × List Nat):=(true,[([],[]),([],[]),([1],[1]),([],[]),([3],[3]),([],[]),([4,5],[4,5]),([2,6],[2,6]),([7],[7]),([8],[8]),([0,9,6],[0,9]),([10,10,0,1,2,3,4,5,6,7,8,9,10],[10])])
def pN.B3:List Nat:=[0,0,2,0,8,0,56,126,254,510,1023,2047]
theorem pN.Gg:eH .any (opsOf Tryz.f32 3)=pN.T3:=by kernel_rfl
theorem pN.C4:jE pN.T3.2 pN.B3=true:=by kernel_rfl
set_option maxHeartbeats 8000000 in
set_option maxRecDepth 100000 in
theorem pN.calls (k:Nat) (av:Option Addr) (al:Nat) (aa:List (aj)) (ar:Option Addr) (an:Nat) (af:List (ab)) (ao:Option Addr) (aq:Nat) (ah:List (ab)) (ai:Int) (a1:ByteArray) (r1:List Int) (r2:Bool) (w:World) (cW:Kd.C bf w av aa.length aa) (cT:aa.length≤al) (cX:Kd.C ak w ar af.length af) (cU:af.length≤an) (cY:Kd.C ak w ao ah.length ah) (cV:ah.length≤aq) (h:pN.f k aa af ah ai a1=some (r1,r2)) :
 Calls Tryz.prog 32 #[.agg #[.slice av aa.length al,.slice ar af.length an,.slice ao ah.length aq,.int .i64 ai],.string a1] w fun e w'=>∃bE:Value,e = .returned (.tuple #[bE,.bool r2])∧Kd.R (Kd.int .u8) 5 w' w.heap.size (fun _=>True) bE r1∧Below w.heap.size w w':=by
 have ly:=Tryz.underlying27;have cG:=J cW;have df:=J cT;clear cW cT;have cC:=J cX;have cR:=J cU;clear cX cU;have cO:=J cY;have dg:=J cV;clear cY cV;have HB:=J (Below.refl w.heap.size w);have H:((gJ.f k aa af ah ai a1).bind fun rn=>(if rn=0 then ((ic.f k af a1).bind fun jg=>(if 0≤jg then (if jg<(af.length:Int) then ((ie.f k aa af ah ai ((aK af jg).f1)).bind fun gy=>((some (([]:List Int):List Int)).bind fun lH=>(if 0≤gy then (if gy<(aa.length:Int) then (if lH.length+((ae aa gy).f1).length<140737488355328 then (some ((lH++((ae aa gy).f1)),true)) else (none)) else (none)) else (none)))) else (none)) else (none))) else (some ((([]:List Int)),false))))=some (r1,r2):=h;clear h;replace H:=Option.bind_eq_some_iff.mp H;obtain⟨rn,dQ,H⟩:=H;replace H:(if rn=0 then ((ic.f k af a1).bind fun jg=>(if 0≤jg then (if jg<(af.length:Int) then ((ie.f k aa af ah ai ((aK af jg).f1)).bind fun gy=>((some (([]:List Int):List Int)).bind fun lH=>(if 0≤gy then (if gy<(aa.length:Int) then (if lH.length+((ae aa gy).f1).length<140737488355328 then (some ((lH++((ae aa gy).f1)),true)) else (none)) else (none)) else (none)))) else (none)) else (none))) else (some ((([]:List Int)),false)))=some (r1,r2):=H;have A3:=J dQ;clear dQ;by_cases c4:rn=0
 ·rw[if_pos c4]at H;have fa:(rn == 0)=true:=beq_iff_eq.mpr c4;have aeY:(rn != 0)=false:=bne_eq_false_iff_eq.mpr c4;clear c4;replace H:=Option.bind_eq_some_iff.mp H;obtain⟨jg,jv,H⟩:=H;replace H:(if 0≤jg then (if jg<(af.length:Int) then ((ie.f k aa af ah ai ((aK af jg).f1)).bind fun gy=>((some (([]:List Int):List Int)).bind fun lH=>(if 0≤gy then (if gy<(aa.length:Int) then (if lH.length+((ae aa gy).f1).length<140737488355328 then (some ((lH++((ae aa gy).f1)),true)) else (none)) else (none)) else (none)))) else (none)) else (none))=some (r1,r2):=H;have A5:=J jv;clear jv;by_cases c6:0≤jg
  ·rw[if_pos c6]at H;have hJ:=decide_eq_true c6;clear c6;by_cases c7:jg<(af.length:Int)
   ·rw[if_pos c7]at H;have oO:=decide_eq_true c7;clear c7;replace H:=Option.bind_eq_some_iff.mp H;obtain⟨gy,rH,H⟩:=H;replace H:((some (([]:List Int):List Int)).bind fun lH=>(if 0≤gy then (if gy<(aa.length:Int) then (if lH.length+((ae aa gy).f1).length<140737488355328 then (some ((lH++((ae aa gy).f1)),true)) else (none)) else (none)) else (none)))=some (r1,r2):=H;have A8:=J rH;clear rH;obtain⟨lH,ET⟩:∃y_:List Int,y_=(([]:List Int)):=⟨_,rfl⟩;replace H:(if 0≤gy then (if gy<(aa.length:Int) then (if lH.length+((ae aa gy).f1).length<140737488355328 then (some ((lH++((ae aa gy).f1)),true)) else (none)) else (none)) else (none))=some (r1,r2):=by first|(rw[ET];with_reducible exact H)|(have ay:=(Option.bind_some _ _).symm.trans H;rw[ET];with_reducible exact ay)|(have ay:=(Option.bind_some _ _).symm.trans H;with_reducible exact ay)|with_reducible exact H|(rw[ET];exact H)|exact H
    have SZ:=J ET;clear ET;by_cases c9:0≤gy
    ·rw[if_pos c9]at H;have qm:=decide_eq_true c9;clear c9;by_cases fE:gy<(aa.length:Int)
     ·rw[if_pos fE]at H;have qk:=decide_eq_true fE;clear fE;by_cases dy:lH.length+((ae aa gy).f1).length<140737488355328
      ·rw[if_pos dy]at H;have LH:=J dy;clear dy;obtain⟨an2,EU⟩:∃y_:List Int,y_=(lH++((ae aa gy).f1)):=⟨_,rfl⟩;replace H:(some (an2,true))=some (r1,r2):=by first|(rw[EU];with_reducible exact H)|(have ay:=(Option.bind_some _ _).symm.trans H;rw[EU];with_reducible exact ay)|(have ay:=(Option.bind_some _ _).symm.trans H;with_reducible exact ay)|with_reducible exact H|(rw[EU];exact H)|exact H
       have adz:=J EU;clear EU;simp only[Option.some.injEq,Prod.mk.injEq]at H;obtain⟨rfl,rfl⟩:=H;go_enter Tryz.func32,Tryz.ntmps32
       try go_wp2_with (first|((with_reducible refine aM (N:=2) rfl ?_);refine bg 2 #[.slice av aa.length al,.slice ar af.length an,.slice ao ah.length aq,.int .i64 ai] 27 ?_;intro AH hg ej hbox hb;have ka:=J (hbox);have abo:=mG hg (mH HB.1);have oB:=mG hg (mH HB.1);replace HB:=J (aA (mH HB.1) hb);clear hb hbox hg;obtain⟨aqO,aqP,aqQ,aqR,atG,atH,atI,atJ⟩:=bP ka.1)|((with_reducible refine aH (f:=30) rfl ?_);refine cd 9 Tryz.func30 #[.agg #[.slice av aa.length al,.slice ar af.length an,.slice ao ah.length aq,.int .i64 ai],.string a1] ?_;(with_reducible refine(gJ.calls k _ _ aa _ _ af _ _ ah ai a1 rn _ ?aE ?aG ?bA ?bB ?bC ?bK A3.1).mono ?_);(case aE=>exact mC (Kd.az cG.1 HB.1));(case aG=>exact df.1);(case bA=>exact mC (Kd.az cC.1 HB.1));(case bB=>exact cR.1);(case bC=>exact mC (Kd.az cO.1 HB.1));(case bK=>exact dg.1);rintro e Gl ⟨rfl,hb⟩;refine⟨_,rfl,?_⟩;replace ka:=mB ka hb;replace HB:=J (aA (aZ HB.1 oB.1) hb);(try clear hb)))
       replace ka:=J (dJ ka.1);replace HB:=J (dI HB.1);have O5:0≤(jg:Int):=mD;have PD:jg<(af.length:Int):=mD;obtain⟨yk,afR,Jp,Jq⟩:=jw cC.1 jg O5 PD;have Oq:=Jq;have Oo:=Jp;cases afR
       replace Jp:=mX HB.1 Jp;replace Jq:=mX HB.1 Jq;replace O5:=eq_true O5;replace PD:=eq_true PD;refine ez (n:=12) (S:=fun w'=>w'.cell? ⟨AH,0,none⟩=some (.slice av aa.length al)∧w'.cell? ⟨AH,1,none⟩=some (.slice (some yk) af.length an)∧w'.cell? ⟨AH,2,none⟩=some (.slice ao ah.length aq)∧w'.cell? ⟨AH,3,none⟩=some (.int .i64 ai)∧w'.cell? (yk.add ((jg).toNat*2))=some (.string ((aK af jg).f0))∧w'.cell? ⟨(yk.add ((jg).toNat*2)).block,(yk.add ((jg).toNat*2)).off+1,none⟩=some (.int .i64 ((aK af jg).f1))) (ds:=[]) (mb 0 12) (by kernel_rfl) rfl rfl (qt ka.1 ⟨(mX HB.1 Oo :),(mX HB.1 Oq :)⟩) (fun hHeld=>?_);refine j8 pN.Gg pN.C4 (fun HT_ HW_=>?_);generalize Gl.drew=mM at ka HB Jp Jq hHeld ⊢
       refine aX 1 13 HT_.1 (mr [0,1,1,10]) ?_;refine aX 3 15 HT_.1 (mr [0,1,1,1,1,8]) ?_;refine aX 5 17 HT_.1 (mr [0,1,1,1,1,1,1,6]) ?_;refine dm 0 12 HT_.1 HW_.1 (mr [2,1,1,1,1,6]) hHeld ?_;refine dm 2 14 HT_.1 HW_.1 (mr [4,1,1,6]) hHeld ?_;refine dm 4 16 HT_.1 HW_.1 (mb 6 6) hHeld ?_;refine eO 6 (some 18) HT_.1 (mb 7 5) (fun K hK=>?_);refine kk Tryz.func73 (by kernel_rfl) rfl #[.slice (some yk) af.length an,.string a1] (by rfl) rfl rfl mA ?_
       with_reducible refine(ic.calls k _ _ af a1 jg _ ?aE ?aG A5.1).mono ?_
       (case aE=>exact mC (Kd.az cC.1 HB.1))
       (case aG=>exact cR.1)
       rintro e w' ⟨rfl,⟨nd,rfl⟩⟩;refine⟨_,rfl,?_⟩;refine hK.out _ _ (qt ka.1 ⟨(mX HB.1 Oo :),(mX HB.1 Oq :)⟩) (fun hHeld=>?_);clear hK K;refine dc 18 ?_;refine aX 7 19 HT_.1 (mb 8 4) ?_;refine aX 8 20 HT_.1 (mb 9 3) ?_;refine dm 9 21 HT_.1 HW_.1 (mb 10 2) hHeld ?_;refine eO 10 (some 22) HT_.1 (mb 11 1) (fun K hK=>?_);refine kk Tryz.func74 (by kernel_rfl) rfl #[.agg #[.slice av aa.length al,.slice (some yk) af.length an,.slice ao ah.length aq,.int .i64 ai],.int .i64 ((aK af jg).f1)] (by rfl) rfl rfl mA ?_
       with_reducible refine(ie.calls k _ _ aa _ _ af _ _ ah ai ((aK af jg).f1) gy _ ?aE ?aG ?bA ?bB ?bC ?bK A8.1).mono ?_
       (case aE=>exact mC (Kd.az cG.1 (aZ HB.1 oB.1)))
       (case aG=>exact df.1)
       (case bA=>exact mC (Kd.az cC.1 (aZ HB.1 oB.1)))
       (case bB=>exact cR.1)
       (case bC=>exact mC (Kd.az cO.1 (aZ HB.1 oB.1)))
       (case bK=>exact dg.1)
       rintro e lG ⟨rfl,hb⟩;refine⟨_,rfl,?_⟩;replace ka:=mB ka hb;replace HB:=J (aA (aZ HB.1 oB.1) hb)
       (try clear hb)
       (try clear fS)
       (try clear hk)
       (try clear hi)
       refine hK.out _ _ (qt ka.1 ⟨(mX HB.1 Oo :),(mX HB.1 Oq :)⟩) (fun hHeld=>?_);clear hK K;refine dc 22 ?_;refine aX 11 6 HT_.1 (mb 12 0) ?_;refine eM (jX HT_.1 (by kernel_rfl)) ?_
       try go_wp2_with (first|((with_reducible refine aM (N:=23) rfl ?_);refine Kd.jc (Kd.int .u8) _ 5 ?hg (N:=23) ?hd (xs:=([]:List Int)) (inner:=[]) (ok:=fun _=>True) (okp:=fun _=>True) ?hr ?hp (fun _ hk=>hk) trivial (Below.refl _ _) (Nat.le_refl _) (by simp) ?_;(case hd=>rfl);(case hg=>rfl);(case hr=>first|(go_simp;done)|(go_simp;rfl));(case hp=>exact(ba.none _ _));intro anu Ky sE hb hg_ hnew_;clear hg_ hnew_;(first|rw[←SZ.1]at sE|(simp only[Int.reduceToNat]at sE;rw[←SZ.1]at sE));have Lq:=J (Kd.bT sE (aQ (aZ HB.1 oB.1)));replace ka:=mB ka hb;replace HB:=J (aA (aZ HB.1 oB.1) hb);clear hb sE;obtain⟨DL,DM,Ir,Is,DP,DQ,IT,IU⟩:=bP ka.1;have sY:0≤(gy:Int):=mD;have sZ:gy<(aa.length:Int):=mD;obtain⟨jK,Gx,Hm,Dp,ra,rb,re,wO,wL⟩:=kO cG.1 gy sY sZ;cases Dp;replace ra:=mX HB.1 ra;replace rb:=mX HB.1 rb;replace re:=mX HB.1 re;have Cu:=J wL;have RI:=J wO;clear wL wO;replace sY:=eq_true sY;replace sZ:=eq_true sZ)|((with_reducible refine iK (b:=.append) (xs:=#[.tmp 23,.tmp 29]) rfl ?_);at_builtin;refine Kd.uC (Kd.int .u8) (w0:=w) w.heap.size rfl (.tmp 23) (.tmp 29) 22 5 (.int .u8 0) 1 rfl Tryz.underlying22 l9 rfl (by decide) (by omega) anu lH ((ae aa gy).f1) _ _ _ (fun _=>True) (fun _=>False) rfl rfl ?aO ?aR (fun _ _ h=>h) (fun _ h=>h.elim) ?aF ?aB ?aS ?aL ?_;(case aR=>exact mC (Kd.az Cu.1 HB.1));(case aB=>exact(aZ HB.1 oB.1));(case aF=>exact(fun _ _=>trivial));(case aO=>exact(mR Lq.1));(case aS=>exact(aQ (aZ HB.1 oB.1)));(case aL=>have:=LH.1;omega);intro azm w20 ho hb hg hat;rw[←adz.1]at ho;replace ka:=J (cL (g:=AH) (o:=.cells #[.slice (some jK) aa.length al,.slice (some yk) af.length an,.slice ao ah.length aq,.int .i64 ai] 27 (0,0)) (mK ka.1) hg (Kd.dB Lq.1 ka.1 (by decide)));replace HB:=J (hb);have abK:=J (ho);clear Lq;clear ho hb hg hat))
       go_ret2;exact⟨_,cP,mR abK.1,(aZ HB.1 oB.1)⟩
      ·rw[if_neg dy]at H;exact absurd H (by simp)
     ·rw[if_neg fE]at H;exact absurd H (by simp)
    ·rw[if_neg c9]at H;exact absurd H (by simp)
   ·rw[if_neg c7]at H;exact absurd H (by simp)
  ·rw[if_neg c6]at H;exact absurd H (by simp)
 ·rw[if_neg c4]at H;have fa:(rn == 0)=false:=beq_eq_false_iff_ne.mpr c4;have aeY:(rn != 0)=true:=bne_iff_ne.mpr c4;obtain⟨an1,ES⟩:∃y_:List Int,y_=(([]:List Int)):=⟨_,rfl⟩;replace H:(some (an1,false))=some (r1,r2):=by first|(rw[ES];with_reducible exact H)|(have ay:=(Option.bind_some _ _).symm.trans H;rw[ES];with_reducible exact ay)|(have ay:=(Option.bind_some _ _).symm.trans H;with_reducible exact ay)|with_reducible exact H|(rw[ES];exact H)|exact H
  have SY:=J ES;clear ES;simp only[Option.some.injEq,Prod.mk.injEq]at H;obtain⟨rfl,rfl⟩:=H;go_enter Tryz.func32,Tryz.ntmps32;go_wp2_with (first|((with_reducible refine aM (N:=2) rfl ?_);refine bg 2 #[.slice av aa.length al,.slice ar af.length an,.slice ao ah.length aq,.int .i64 ai] 27 ?_;intro AH hg QJ hbox hb;have ka:=J (hbox);have abo:=mG hg (mH HB.1);have oB:=mG hg (mH HB.1);replace HB:=J (aA (mH HB.1) hb);clear hb hbox hg;obtain⟨NP,NQ,NR,NS,N0,N1,N2,N3⟩:=bP ka.1)|((with_reducible refine aH (f:=30) rfl ?_);refine cd 9 Tryz.func30 #[.agg #[.slice av aa.length al,.slice ar af.length an,.slice ao ah.length aq,.int .i64 ai],.string a1] ?_;(with_reducible refine(gJ.calls k _ _ aa _ _ af _ _ ah ai a1 rn _ ?aE ?aG ?bA ?bB ?bC ?bK A3.1).mono ?_);(case aE=>exact mC (Kd.az cG.1 HB.1));(case aG=>exact df.1);(case bA=>exact mC (Kd.az cC.1 HB.1));(case bB=>exact cR.1);(case bC=>exact mC (Kd.az cO.1 HB.1));(case bK=>exact dg.1);rintro e w23 ⟨rfl,hb⟩;refine⟨_,rfl,?_⟩;replace ka:=mB ka hb;replace HB:=J (aA (aZ HB.1 oB.1) hb);(try clear hb))|((with_reducible refine aM (N:=11) rfl ?_);refine Kd.jc (Kd.int .u8) _ 5 ?hg (N:=11) ?hd (xs:=([]:List Int)) (inner:=[]) (ok:=fun _=>True) (okp:=fun _=>True) ?hr ?hp (fun _ hk=>hk) trivial (Below.refl _ _) (Nat.le_refl _) (by simp) ?_;(case hd=>rfl);(case hg=>rfl);(case hr=>first|(go_simp;done)|(go_simp;rfl));(case hp=>exact(ba.none _ _));intro azl w24 D3 hb hg_ hnew_;clear hg_ hnew_;(first|rw[←SY.1]at D3|(simp only[Int.reduceToNat]at D3;rw[←SY.1]at D3));have abJ:=J (Kd.bT D3 (aQ (aZ HB.1 oB.1)));replace ka:=mB ka hb;replace HB:=J (aA (aZ HB.1 oB.1) hb);clear hb D3));go_ret2;exact⟨_,cP,mR abJ.1,(aZ HB.1 oB.1)⟩
end Go.Proofs.YtingkpnoiekliaaGreat.MZ
end
section
namespace Go.Proofs.YtingkpnoiekliaaGreat.MZ
open Go.RowKit Go.Proofs.YtingkpnoiekliaaGreatW.PrintWords Go.Proofs.YtingkpnoiekliaaGreatW.PrintLast Go.Proofs.YtingkpnoiekliaaGreatW.PrintMore Go.Proofs.YtingkpnoiekliaaGreat.MWords
attribute [local go_sem] max2_int min2_int max_two min_two max_three min_three max_four min_four
set_option linter.unusedVariables false
set_option linter.unusedSimpArgs false
def bm.ren:Go.Shelf.Ren:=⟨fun|6=>122|10=>124|11=>125|12=>126|13=>127|14=>128|24=>138|25=>139|26=>140|27=>141|28=>142|29=>143|30=>144|31=>145|32=>146|33=>147|34=>148|35=>149|36=>150|37=>151|38=>152|39=>153|n=>n,fun|20=>20|26=>127|35=>131|0=>0|37=>133|3=>3|41=>125|44=>139|49=>124|51=>145|4=>4|54=>148|53=>147|58=>119|5=>5|9=>9|60=>153|64=>157|66=>159|67=>160|17=>17|32=>128|33=>129|82=>175|12=>12|75=>168|76=>169|77=>170|78=>171|79=>172|80=>173|n=>n,fun|n=>n⟩
theorem bm.laid:Go.Proofs.LaysGg.n6 Tryz.prog bm.ren:={
 mixed:=by kernel_rfl
 f6:=Tryz.func122.trans (congrArg some (by kernel_rfl))
 f10:=Tryz.func124.trans (congrArg some (by kernel_rfl))
 f11:=Tryz.func125.trans (congrArg some (by kernel_rfl))
 f12:=Tryz.func126.trans (congrArg some (by kernel_rfl))
 f13:=Tryz.func127.trans (congrArg some (by kernel_rfl))
 f14:=Tryz.func128.trans (congrArg some (by kernel_rfl))
 f24:=Tryz.func138.trans (congrArg some (by kernel_rfl))
 f25:=Tryz.func139.trans (congrArg some (by kernel_rfl))
 f26:=Tryz.func140.trans (congrArg some (by kernel_rfl))
 f27:=Tryz.func141.trans (congrArg some (by kernel_rfl))
 f28:=Tryz.func142.trans (congrArg some (by kernel_rfl))
 f29:=Tryz.func143.trans (congrArg some (by kernel_rfl))
 f30:=Tryz.func144.trans (congrArg some (by kernel_rfl))
 f31:=Tryz.func145.trans (congrArg some (by kernel_rfl))
 f32:=Tryz.func146.trans (congrArg some (by kernel_rfl))
 f33:=Tryz.func147.trans (congrArg some (by kernel_rfl))
 f34:=Tryz.func148.trans (congrArg some (by kernel_rfl))
 f35:=Tryz.func149.trans (congrArg some (by kernel_rfl))
 f36:=Tryz.func150.trans (congrArg some (by kernel_rfl))
 f37:=Tryz.func151.trans (congrArg some (by kernel_rfl))
 f38:=Tryz.func152.trans (congrArg some (by kernel_rfl))
 f39:=Tryz.func153.trans (congrArg some (by kernel_rfl))
 t0:=Tryz.underlying0
 a0:=Tryz.isAgg0
 z0:=Tryz.sizeOf0
 v0:=Tryz.zeroValue0
 i0:=by kernel_rfl
 t3:=Tryz.underlying3
 a3:=Tryz.isAgg3
 z3:=Tryz.sizeOf3
 v3:=Tryz.zeroValue3
 i3:=by kernel_rfl
 t4:=Tryz.underlying4
 a4:=Tryz.isAgg4
 z4:=Tryz.sizeOf4
 v4:=Tryz.zeroValue4
 i4:=by kernel_rfl
 t5:=Tryz.underlying5
 a5:=Tryz.isAgg5
 z5:=Tryz.sizeOf5
 v5:=Tryz.zeroValue5
 i5:=by kernel_rfl
 t9:=Tryz.underlying9
 a9:=Tryz.isAgg9
 z9:=Tryz.sizeOf9
 v9:=Tryz.zeroValue9
 i9:=by kernel_rfl
 t12:=Tryz.underlying12
 a12:=Tryz.isAgg12
 z12:=Tryz.sizeOf12
 v12:=Tryz.zeroValue12
 i12:=by kernel_rfl
 t17:=Tryz.underlying17
 a17:=Tryz.isAgg17
 z17:=Tryz.sizeOf17
 v17:=Tryz.zeroValue17
 i17:=by kernel_rfl
 t20:=Tryz.underlying20
 a20:=Tryz.isAgg20
 z20:=Tryz.sizeOf20
 v20:=Tryz.zeroValue20
 i20:=by kernel_rfl
 t26:=Tryz.underlying127
 a26:=Tryz.isAgg127
 z26:=Tryz.sizeOf127
 v26:=Tryz.zeroValue127
 i26:=by kernel_rfl
 t32:=Tryz.underlying128
 a32:=Tryz.isAgg128
 z32:=Tryz.sizeOf128
 v32:=Tryz.zeroValue128
 i32:=by kernel_rfl
 t33:=Tryz.underlying129
 a33:=Tryz.isAgg129
 z33:=Tryz.sizeOf129
 v33:=Tryz.zeroValue129
 i33:=by kernel_rfl
 t35:=Tryz.underlying131
 a35:=Tryz.isAgg131
 z35:=Tryz.sizeOf131
 v35:=Tryz.zeroValue131
 i35:=by kernel_rfl
 t37:=Tryz.underlying133
 a37:=Tryz.isAgg133
 z37:=Tryz.sizeOf133
 v37:=Tryz.zeroValue133
 i37:=by kernel_rfl
 t41:=Tryz.underlying125
 a41:=Tryz.isAgg125
 z41:=Tryz.sizeOf125
 v41:=Tryz.zeroValue125
 i41:=by kernel_rfl
 t44:=Tryz.underlying139
 a44:=Tryz.isAgg139
 z44:=Tryz.sizeOf139
 v44:=Tryz.zeroValue139
 i44:=by kernel_rfl
 t49:=Tryz.underlying124
 a49:=Tryz.isAgg124
 z49:=Tryz.sizeOf124
 v49:=Tryz.zeroValue124
 i49:=by kernel_rfl
 t51:=Tryz.underlying145
 a51:=Tryz.isAgg145
 z51:=Tryz.sizeOf145
 v51:=Tryz.zeroValue145
 i51:=by kernel_rfl
 t53:=Tryz.underlying147
 a53:=Tryz.isAgg147
 z53:=Tryz.sizeOf147
 v53:=Tryz.zeroValue147
 i53:=by kernel_rfl
 t54:=Tryz.underlying148
 a54:=Tryz.isAgg148
 z54:=Tryz.sizeOf148
 v54:=Tryz.zeroValue148
 i54:=by kernel_rfl
 t58:=Tryz.underlying119
 a58:=Tryz.isAgg119
 z58:=Tryz.sizeOf119
 v58:=Tryz.zeroValue119
 i58:=by kernel_rfl
 t60:=Tryz.underlying153
 a60:=Tryz.isAgg153
 z60:=Tryz.sizeOf153
 v60:=Tryz.zeroValue153
 i60:=by kernel_rfl
 t64:=Tryz.underlying157
 a64:=Tryz.isAgg157
 z64:=Tryz.sizeOf157
 v64:=Tryz.zeroValue157
 i64:=by kernel_rfl
 t66:=Tryz.underlying159
 a66:=Tryz.isAgg159
 z66:=Tryz.sizeOf159
 v66:=Tryz.zeroValue159
 i66:=by kernel_rfl
 t67:=Tryz.underlying160
 a67:=Tryz.isAgg160
 z67:=Tryz.sizeOf160
 v67:=Tryz.zeroValue160
 i67:=by kernel_rfl
 t75:=Tryz.underlying168
 a75:=Tryz.isAgg168
 z75:=Tryz.sizeOf168
 v75:=Tryz.zeroValue168
 i75:=by kernel_rfl
 t76:=Tryz.underlying169
 a76:=Tryz.isAgg169
 z76:=Tryz.sizeOf169
 v76:=Tryz.zeroValue169
 i76:=by kernel_rfl
 t77:=Tryz.underlying170
 a77:=Tryz.isAgg170
 z77:=Tryz.sizeOf170
 v77:=Tryz.zeroValue170
 i77:=by kernel_rfl
 t78:=Tryz.underlying171
 a78:=Tryz.isAgg171
 z78:=Tryz.sizeOf171
 v78:=Tryz.zeroValue171
 i78:=by kernel_rfl
 t79:=Tryz.underlying172
 a79:=Tryz.isAgg172
 z79:=Tryz.sizeOf172
 v79:=Tryz.zeroValue172
 i79:=by kernel_rfl
 t80:=Tryz.underlying173
 a80:=Tryz.isAgg173
 z80:=Tryz.sizeOf173
 v80:=Tryz.zeroValue173
 i80:=by kernel_rfl
 t82:=Tryz.underlying175
 a82:=Tryz.isAgg175
 z82:=Tryz.sizeOf175
 v82:=Tryz.zeroValue175
 i82:=by kernel_rfl }
noncomputable def bm.tT:TypeInfo:=(Tryz.prog.info? 25).get (by kernel_rfl)
noncomputable def bm.tE:TypeInfo:=(Tryz.prog.info? 89).get (by kernel_rfl)
theorem bm.alj (n:Nat) (h2:2≤n):Go.Lib.swapperK n bm.tE 25=9:=by
 have a:bm.tE.hasPointers=true:=by kernel_rfl
 have b:(bm.tE.bytes == 8)=false:=by kernel_rfl
 have c:(n == 0)=false:=by simp;omega
 have d:(n == 1)=false:=by simp;omega
 simp[Go.Lib.swapperK,a,b,c,d]
theorem bm.ali:Go.Lib.swapperK 1 bm.tE 25=2:=rfl
def bm.enc (x:ab):List Value:=[.string x.f0,.int .i64 x.f1]
def bm.lt (a b:ab):Bool:=Op.bytesLess a.f0.toList b.f0.toList
theorem bm.swo:Go.Sort.SWO bm.lt where
 irrefl:=fun x=>by simp only[bm.lt,bytesLess_eq];exact Go.Sort.swo_ltStr.irrefl _
 trans:=fun x y z=>by simp only[bm.lt,bytesLess_eq];exact Go.Sort.swo_ltStr.trans _ _ _
 ntrans:=fun x y z=>by simp only[bm.lt,bytesLess_eq];exact Go.Sort.swo_ltStr.ntrans _ _ _
instance bm.inh:Inhabited ab:=⟨⟨ByteArray.empty,0⟩⟩
def bm.sort (xs:List ab):List ab:=if 2≤xs.length then (Go.Sort.pdq bm.lt xs.toArray 0 xs.toArray.size (Go.Lib.bitLen xs.toArray.size) true true).toList else xs
def bm.f (l:List ab) (e0:ByteArray) (e1:Int):Option (List ab):=if l.length<5864062014805 then some (bm.sort (l++[(⟨e0,e1⟩:ab)])) else none
set_option maxHeartbeats 2000000 in
theorem bm.less (gp gb dr off c size:Nat) (W:World) (F:Nat→ByteArray) (hp:W.cell? ⟨gp,0,none⟩=some (.pointer (some ⟨gb,0,none⟩))) (hs:W.cell? ⟨gb,1,none⟩=some (.slice (some ⟨dr,off,none⟩) size c))
 (hc:∀t,t<size→W.cell? ⟨dr,off+t*2,none⟩=some (.string (F t))) (i j:Nat) (hi:i<size) (hj:j<size) (_hsz:size<4611686018427387904) :
 Calls Tryz.prog 123 #[.int .i64 i,.int .i64 j,.pointer (some ⟨gp,0,none⟩)] W fun e w'=>e = .returned (.bool (Op.bytesLess (F i).toList (F j).toList))∧∃q,w'=W.drewN q:=by
 have ci:=hc i hi;have cj:=hc j hj;go_enter Tryz.func123,Tryz.ntmps123;go_wp2;go_quiet (fail);go_wp2;go_ret;exact⟨rfl,nq,rfl⟩
theorem bm.UH (d:Array ab):(Go.Sort.flatK bm.enc 2 d).size=d.size*2:=by simp[Go.Sort.flatK]
theorem bm.holds {w:World} {base dr c:Nat} {ok:Nat→Prop} {xs:List ab} (h:Kd.R ak 89 w base ok (.slice (some ⟨dr,0,none⟩) xs.length c) xs):Go.Sort.HoldsK bm.enc 2 w dr 0 xs.toArray:=by
 intro j hj;rw[bm.UH,List.size_toArray]at hj;obtain⟨cs,hcl,hM,hcc,hfr⟩:=Kd.G3 h xA ((j / 2:Nat):Int) (by omega) (by omega)
 have hcs:cs=bm.enc (xs.getD (j / 2) xA):=by
  rw[Int.toNat_natCast]at hM;have:=ala hM;simpa[bm.enc] using this
 have hg:=Go.Sort.get_flatK bm.enc 2 xs.toArray j (by rw[List.size_toArray];exact hj)
 have hx:xs.toArray[j / 2]! = xs.getD (j / 2) xA:=by
  have h2:j / 2<xs.length:=by omega
  rw[getElem!_pos xs.toArray (j / 2) (by simpa using h2),List.getD_eq_getElem?_getD,List.getElem?_eq_getElem h2];rfl
 rw[hg,hx];have hd:j=j / 2*2+j % 2:=by omega
 have my:(⟨dr,j,none⟩:Addr)=⟨dr,j / 2*2+j % 2,none⟩:=congrArg (fun x=>(⟨dr,x,none⟩:Addr)) hd;refine⟨?_,?_⟩
 ·have hlt:j % 2<(bm.enc (xs.getD (j / 2) xA)).length:=by show j % 2<2;omega
  have:=hcc (j % 2) ((bm.enc (xs.getD (j / 2) xA))[j % 2]!) (by rw[hcs,List.getElem?_eq_getElem hlt];exact congrArg some (getElem!_pos (bm.enc (xs.getD (j / 2) xA)) (j % 2) hlt).symm);rw[Int.toNat_natCast]at this;rw[Nat.zero_add];show w.cell? ⟨dr,j,none⟩=some _;rw[my];exact this
 ·have:=hfr (j % 2);rw[Int.toNat_natCast]at this;rw[Nat.zero_add,my];exact this
theorem bm.two {L:List Value} {i:Nat} {a b:Value} (ha:L[i]? = some a) (hb:L[i+1]? = some b):(L.drop i).take 2=[a,b]:=by
 obtain⟨h1,e1⟩:=List.getElem?_eq_some_iff.1 ha;obtain⟨h2,e2⟩:=List.getElem?_eq_some_iff.1 hb;rw[List.drop_eq_getElem_cons h1,List.drop_eq_getElem_cons h2,e1,e2];rfl
theorem bm.sorted {w:World} {base dr c n:Nat} {ok:Nat→Prop} {xs:List ab} (os:Array Obj) (d:Array ab) (hd:d.size=xs.length) (h:Kd.R ak 89 w base ok (.slice (some ⟨dr,0,none⟩) xs.length c) xs) :
 Kd.R ak 89 (Go.Sort.grow (Go.Sort.putRowK bm.enc 2 (Go.Sort.ahead w n) dr 0 d) os) base ok (.slice (some ⟨dr,0,none⟩) xs.length c) d.toList∧Kept w (Go.Sort.grow (Go.Sort.putRowK bm.enc 2 (Go.Sort.ahead w n) dr 0 d) os) (fun k_=>some k_=(Value.slice (some ⟨dr,0,none⟩) xs.length c).ownBlock)∧∀W:World,W.heap.size≤base→Below W.heap.size W w→Below W.heap.size W (Go.Sort.grow (Go.Sort.putRowK bm.enc 2 (Go.Sort.ahead w n) dr 0 d) os):=by
 obtain⟨h0,inner,ho,hr⟩:=h;obtain⟨hil,ho⟩:=ho
 rcases ho with ⟨he,_⟩|⟨g,cap,cur,he,hb,hh,hnc,hcm,hcs,ht⟩
 ·exact absurd he (by simp)
 injection he with nw II wJ
 injection nw with nw
 injection nw with nw _ _
 subst nw;subst wJ;have hcs:cur.size=c*2:=hcs;have hlt:dr<w.heap.size:=(Array.getElem?_eq_some_iff.1 hh).1;have hsz:(Go.Sort.putRowK bm.enc 2 (Go.Sort.ahead w n) dr 0 d).heap.size=w.heap.size:=by simp[Go.Sort.putRowK,Go.Sort.putRow,Go.Sort.mapBlock,Go.Sort.ahead]
 have hat:∀k,k<w.heap.size→k≠dr→(Go.Sort.grow (Go.Sort.putRowK bm.enc 2 (Go.Sort.ahead w n) dr 0 d) os).heap[k]? = w.heap[k]?:=by
  intro k hk hne;show ((Go.Sort.putRowK bm.enc 2 (Go.Sort.ahead w n) dr 0 d).heap++os)[k]? = _;rw[Array.getElem?_append_left (by rw[hsz];exact hk)];simp[Go.Sort.putRowK,Go.Sort.putRow,Go.Sort.mapBlock,Go.Sort.ahead,Array.getElem?_modify,Ne.symm hne]
 have hbl:(Go.Sort.grow (Go.Sort.putRowK bm.enc 2 (Go.Sort.ahead w n) dr 0 d) os).heap[dr]? = some (.cells (Go.Sort.putCells id 0 (Go.Sort.flatK bm.enc 2 d) cur) 89 (0,0)):=by
  show ((Go.Sort.putRowK bm.enc 2 (Go.Sort.ahead w n) dr 0 d).heap++os)[dr]? = _;rw[Array.getElem?_append_left (by rw[hsz];exact hlt)];simp[Go.Sort.putRowK,Go.Sort.putRow,Go.Sort.mapBlock,Go.Sort.ahead,Array.getElem?_modify,hh,Go.Sort.onCells]
 have hle:w.heap.size≤(Go.Sort.grow (Go.Sort.putRowK bm.enc 2 (Go.Sort.ahead w n) dr 0 d) os).heap.size:=by
  show _≤((Go.Sort.putRowK bm.enc 2 (Go.Sort.ahead w n) dr 0 d).heap++os).size;rw[Array.size_append,hsz];omega
 have hcell:∀t,t<d.size*2→(Go.Sort.putCells id 0 (Go.Sort.flatK bm.enc 2 d) cur).toList[t]? = some ((bm.enc d[t / 2]!)[t % 2]!):=by
  intro t ht2;have jn:t<cur.size:=by rw[hcs];have:xs.length*2≤c*2:=Nat.mul_le_mul_right _ hnc;omega
  rw[Array.getElem?_toList];simp only[Go.Sort.putCells,Array.getElem?_mapIdx,Array.getElem?_eq_getElem jn,Option.map_some];rw[if_pos ⟨by omega,by rw[bm.UH];omega⟩,Nat.sub_zero,Go.Sort.get_flatK bm.enc 2 d t ht2];rfl
 have hps:(Go.Sort.putCells id 0 (Go.Sort.flatK bm.enc 2 d) cur).toList.length=c*2:=by
  rw[Array.length_toList];simp only[Go.Sort.putCells,Array.size_mapIdx];exact hcs
 have hdl:d.toList.length=xs.length:=by rw[Array.length_toList,hd]
 have Je:xs.length*2≤c*2:=Nat.mul_le_mul_right _ hnc;refine⟨⟨h0,((Go.Sort.putCells id 0 (Go.Sort.flatK bm.enc 2 d) cur).toList.take (xs.length*2)),⟨?_,.inr ⟨dr,c,_,by rw[hdl],hb,hbl,by rw[hdl];exact hnc,hcm,by show _=c*2;simp only[Go.Sort.putCells,Array.size_mapIdx];exact hcs,by rw[hdl];rfl⟩⟩,?_,?_⟩,⟨hle,fun i hi hn=>hat i hi (fun e=>hn (by rw[e];rfl))⟩,fun W hWb hB=>?_⟩
 ·show _=d.toList.length*2;rw[List.length_take,hps,hdl];omega
 ·show ((Go.Sort.putCells id 0 (Go.Sort.flatK bm.enc 2 d) cur).toList.take (xs.length*2)).length=d.toList.length*2;rw[List.length_take,hps,hdl];omega
 ·intro j p hj;obtain⟨hjl,hjp⟩:=List.getElem?_eq_some_iff.1 hj;have hjl:j<d.size:=by rw[←Array.length_toList];exact hjl
  have hdj:d[j]! = p:=by rw[getElem!_pos d j hjl,←hjp,Array.getElem_toList]
  have h1:=hcell (j*2) (by omega);have h2:=hcell (j*2+1) (by omega);rw[show j*2 / 2=j by omega,show j*2 % 2=0 by omega,hdj]at h1;rw[show (j*2+1) / 2=j by omega,show (j*2+1) % 2=1 by omega,hdj]at h2;have e:(((Go.Sort.putCells id 0 (Go.Sort.flatK bm.enc 2 d) cur).toList.take (xs.length*2)).drop (j*2)).take 2=[.string p.f0,.int .i64 p.f1]:=bm.two (by rw[List.getElem?_take,if_pos (by omega),h1];rfl) (by rw[List.getElem?_take,if_pos (by omega),h2];rfl);show ak.M _ _ _ p ((((Go.Sort.putCells id 0 (Go.Sort.flatK bm.enc 2 d) cur).toList.take (xs.length*2)).drop (j*2)).take 2);rw[e];exact pH _ _ _ p
 ·obtain⟨b1,b2,b3,b4,b5⟩:=hB;exact⟨b1,b2,b3,Nat.le_trans b4 hle,fun k hk=>(hat k (Nat.lt_of_lt_of_le hk b4) (by omega)).trans (b5 k hk)⟩
theorem bm.slice (gp gb dr c base:Nat) (u0 u2 u3:Value) (xs:List ab) (ok:Nat→Prop) (w W:World) (hp:w.heap[gp]? = some (.cells #[.pointer (some ⟨gb,0,none⟩)] 97 (0,0))) (hb:w.heap[gb]? = some (.cells #[u0,.slice (some ⟨dr,0,none⟩) xs.length c,u2,u3] 27 (0,0)))
 (h:Kd.R ak 89 w base ok (.slice (some ⟨dr,0,none⟩) xs.length c) xs) (h1:1≤xs.length) (hsz:xs.length<4611686018427387904) (hWb:W.heap.size≤base) (hB:Below W.heap.size W w) :
 Calls Tryz.prog 122 #[.iface 25 (.slice (some ⟨dr,0,none⟩) xs.length c),.func (.func 123) #[] #[.pointer (some ⟨gp,0,none⟩)]] w fun e w'=>e = .returned (.tuple #[])∧Kd.R ak 89 w' base ok (.slice (some ⟨dr,0,none⟩) xs.length c) (bm.sort xs)∧w'.heap[gb]? = some (.cells #[u0,.slice (some ⟨dr,0,none⟩) xs.length c,u2,u3] 27 (0,0))∧Below W.heap.size W w'∧Kept w w' (fun k_=>some k_=(Value.slice (some ⟨dr,0,none⟩) xs.length c).ownBlock):=by
 have aka:gp≠dr:=fun e=>Kd.dB h hp (by decide) (by rw[e];rfl)
 have Ji:gb≠dr:=fun e=>Kd.dB h hb (by decide) (by rw[e];rfl)
 have hblk:dr<w.heap.size:=Kd.dK h dr rfl;have hkey:∀w',Kept w w' (fun k_=>some k_=(Value.slice (some ⟨dr,0,none⟩) xs.length c).ownBlock)→w'.heap[gb]? = some (.cells #[u0,.slice (some ⟨dr,0,none⟩) xs.length c,u2,u3] 27 (0,0)):=fun w' hk=>lX hb hk (fun e=>Ji (by injection e))
 by_cases h2:2≤xs.length
 ·have hH:=bm.holds h
  have hless:LessReadsK Tryz.prog 123 #[.pointer (some ⟨gp,0,none⟩)] bm.enc 2 bm.lt dr 0 xs.toArray.size w:=by
   intro m os dk hs i j hi hj
   have e:sortWorldK bm.enc 2 w dr 0 m dk os=Go.Sort.putRowK bm.enc 2 (Go.Sort.grow (Go.Sort.ahead w m) os) dr 0 dk:=by
    unfold sortWorldK;rw[Go.Sort.putRowK_grow _ _ (Go.Sort.ahead w m) _ dr 0 _ hblk]
   have hHg:Go.Sort.HoldsK bm.enc 2 (Go.Sort.grow (Go.Sort.ahead w m) os) dr 0 xs.toArray:=Go.Sort.holdsK_grow _ _ _ _ dr 0 _ hblk (Go.Sort.holdsK_ahead _ _ _ _ _ _ _ hH);refine bm.less gp gb dr 0 c xs.toArray.size _ (fun t=>dk[t]!.f0) ?_ ?_ (fun t ht=>?_) i j hi hj (by rw[List.size_toArray];omega)
   ·rw[e,Go.Sort.cell?_putRowK_other _ _ _ dr 0 dk _ (by exact aka),Go.Sort.cell?_grow _ _ _ (by exact fR hp)];exact(bQ hp 0).trans rfl
   ·rw[e,Go.Sort.cell?_putRowK_other _ _ _ dr 0 dk _ (by exact Ji),Go.Sort.cell?_grow _ _ _ (by exact fR hb)];rw[List.size_toArray];exact(bQ hb 1).trans rfl
   ·rw[e];exact((Go.Sort.holdsK_putRowK _ _ _ dr 0 _ dk hHg hs).cell (i:=t) (c:=0) (by omega) (by omega)).1
  have hS:=Any.sort_Slice_cells_eq bm.laid 25 89 bm.tT bm.tE (by kernel_rfl) (by kernel_rfl) (by kernel_rfl) (by kernel_rfl) 25 (fun _=>by kernel_rfl) bm.enc 2 (fun _=>rfl) (by kernel_rfl) (fun _=>by kernel_rfl)
   (fun x v hv=>by simp[bm.enc]at hv;rcases hv with rfl|rfl<;>rfl) bm.lt bm.swo 123 _
   (enters_of Tryz.func123 (by kernel_rfl) rfl) dr 0 c xs.toArray (by rw[List.size_toArray];exact h2) (by rw[List.size_toArray];exact hsz) 137 (by rw[bm.alj _ (by rw[List.size_toArray];exact h2)];kernel_rfl) false
   (fun args W=>run_callFunc_extern Tryz.func137 (by kernel_rfl) (by kernel_rfl) (by kernel_rfl) (e:=Extern.ReflectliteSwapper.swap false) (by kernel_rfl) args W) w hless hH hblk
  rw[List.size_toArray]at hS;change Calls Tryz.prog 122 _ _ _ at hS;refine hS.mono ?_;rintro e w' ⟨rfl,n,os,rfl⟩;have hsort:bm.sort xs=(Go.Sort.pdq bm.lt xs.toArray 0 xs.toArray.size (Go.Lib.bitLen xs.toArray.size) true true).toList:=by unfold bm.sort;rw[if_pos h2]
  have yJ:=Go.Sort.pdq_sorts bm.lt bm.swo xs.toArray 0 xs.toArray.size (Go.Lib.bitLen xs.toArray.size) true true (Nat.zero_le _) (Nat.le_refl _) (Or.inl rfl);have hd:(Go.Sort.pdq bm.lt xs.toArray 0 xs.toArray.size (Go.Lib.bitLen xs.toArray.size) true true).size=xs.length:=by rw[yJ.1.1,List.size_toArray]
  rw[List.size_toArray]at hd hsort;obtain⟨g1,g2,g3⟩:=bm.sorted (n:=n) os _ hd h;exact⟨rfl,by rw[hsort];exact g1,hkey _ g2,g3 W hWb hB,g2⟩
 ·have hone:xs.length=1:=by omega
  have hS:=Any.sort_Slice_tiny bm.laid 25 89 bm.tT bm.tE (by kernel_rfl) (by kernel_rfl) (by kernel_rfl) (by kernel_rfl) 25 (fun _=>by kernel_rfl) (some ⟨dr,0,none⟩) xs.length c (by omega) 130 (by rw[hone,bm.ali];kernel_rfl) (.func 123) #[] #[.pointer (some ⟨gp,0,none⟩)] w;change Calls Tryz.prog 122 _ _ _ at hS;refine hS.mono ?_;rintro e w' ⟨rfl,os,rfl⟩;have fS:Below w.heap.size w (Go.Sort.grow w os):=⟨rfl,rfl,rfl,by show _≤(w.heap++os).size;rw[Array.size_append];omega,fun k hk=>by show (w.heap++os)[k]? = _;exact Array.getElem?_append_left hk⟩;exact⟨rfl,by rw[show bm.sort xs=xs from by unfold bm.sort;rw[if_neg h2]];exact Kd.bu h fS,bj hb fS,aA hB fS,Kept.kI fS _⟩
def bm.T1:Bool × List (List Nat × List Nat):=(true,[([],[]),([],[]),([1],[1]),([2],[2]),([3],[3]),([],[]),([5],[5]),([4,6],[4,6]),([0,0,1,2,3,4,5,6,7],[0]),([8,0,1,2,3,4,5,6,7],[8]),([9,7,7,0,1,2,3,4,5,6,7],[7,9])])
def bm.B1:List Nat:=[0,0,2,6,14,0,32,126,255,511,1023]
theorem bm.om:eH .any (opsOf Tryz.f105 1)=bm.T1:=by kernel_rfl
theorem bm.nW:jE bm.T1.2 bm.B1=true:=by kernel_rfl
set_option maxHeartbeats 8000000 in
set_option maxRecDepth 100000 in
theorem bm.calls (gb:Nat) (u0 u2 u3:Value) (A0:Option Addr) (c0:Nat) (U:List ab) (e0:ByteArray) (e1:Int) (r:List ab) (okv:Nat→Prop) (w W:World) (hB:Below W.heap.size W w) (hge:W.heap.size≤gb) (hbk:w.heap[gb]? = some (.cells #[u0,(.slice A0 U.length c0),u2,u3] 27 (0,0))) (hN:Kd.R ak 89 w W.heap.size okv (.slice A0 U.length c0) U) (h:bm.f U e0 e1=some r) :
 Calls Tryz.prog 105 #[.pointer (some ⟨gb,0,none⟩),.agg #[.string e0,.int .i64 e1]] w fun e w'=>∃v0:Value,e = .returned (.tuple #[])∧Kd.R ak 89 w' W.heap.size (fun k_=>some k_=((.slice A0 U.length c0):Value).ownBlock∨w.heap.size≤k_) v0 r∧w'.heap[gb]? = some (.cells #[u0,v0,u2,u3] 27 (0,0))∧Below W.heap.size W w'∧Kept w w' (fun k_=>k_=gb∨some k_=((.slice A0 U.length c0):Value).ownBlock):=by
 unfold bm.f at h;split at h
 case isFalse=>exact absurd h (by simp)
 rename_i hlm;obtain rfl:=Option.some.inj h;clear h;have LM:=J hlm;have HBW:=J hB;have mT:=J hN;have HB:=J (Below.refl w.heap.size w);have gY:=J hbk;clear hlm hB hN hbk;go_enter Tryz.func105,Tryz.ntmps105;go_wp2_with (first|((with_reducible refine aM (N:=2) rfl ?_);refine bg 2 #[.pointer (some ⟨gb,0,none⟩)] 97 ?_;intro gp hg wA hbox hb;have BKgp:=J hbox;have GEgp:=J ((by rw[hg];exact aQ (mH HB.1)):w.heap.size≤gp);replace HB:=J (aA (mH HB.1) hb);clear hb hbox hg)|((with_reducible refine aM (N:=3) rfl ?_);refine bg 3 #[.string e0,.int .i64 e1] 89 ?_;intro ge hg wB hbox hb;have BKge:=J hbox;have GEge:=J ((by rw[hg];exact aQ (mH HB.1)):w.heap.size≤ge);replace BKgp:=J (bj (mK BKgp.1) hb);replace HB:=J (aA (mH HB.1) hb);clear hb hbox hg));have HN:=J (Kd.jV (Kd.bu (Kd.tB (ok:=(fun k_=>some k_=((.slice A0 U.length c0):Value).ownBlock∨w.heap.size≤k_)) rfl mT.1 (fun k_ e_=>.inl e_.symm)) HB.1));have BKb:=J (dJ (bj gY.1 HB.1));replace BKgp:=J (dJ BKgp.1);replace BKge:=J (dJ BKge.1);have HW:=J (dI (aA HBW.1 HB.1));replace HB:=J (dI HB.1);have HNz:=HN;refine ez (n:=11) (S:=fun w'=>w'.cell? ⟨gp,0,none⟩=some (.pointer (some ⟨gb,0,none⟩))∧w'.cell? ⟨ge,0,none⟩=some (.string e0)∧w'.cell? ⟨ge,1,none⟩=some (.int .i64 e1)∧w'.cell? ⟨gb,1,none⟩=some (.slice A0 U.length c0)) (ds:=[10]) (mb 0 11) (by kernel_rfl) rfl rfl ⟨(bQ BKgp.1 0).trans rfl,(bQ BKge.1 0).trans rfl,(bQ BKge.1 1).trans rfl,(bQ BKb.1 1).trans rfl⟩ (fun hHeld=>?_);refine j8 bm.om bm.nW (fun HT_ HW_=>?_);generalize wB.drew=wz at HB HW HN HNz BKgp BKge BKb hHeld ⊢
 refine dm 0 4 HT_.1 HW_.1 (mb 1 10) hHeld ?_;refine dm 1 5 HT_.1 HW_.1 (mb 2 9) hHeld ?_;refine aX 2 6 HT_.1 (mb 3 8) ?_;refine aX 3 7 HT_.1 (mb 4 7) ?_;refine dm 4 8 HT_.1 HW_.1 (mb 5 6) hHeld ?_;refine dm 5 9 HT_.1 HW_.1 (mb 6 5) hHeld ?_;refine eO 6 (some 10) HT_.1 (mb 7 4) (fun K hK=>?_);refine BR (w1:=?_) (v:=?_) (by rfl) rfl ?_ ?_
 rotate_left 2
 ·go_simp;constructor
  ·rfl
  ·rfl
 refine hK.out _ _ ⟨(bQ (mv BKgp.1 _) 0).trans rfl,(bQ (mv BKge.1 _) 0).trans rfl,(bQ (mv BKge.1 _) 1).trans rfl,(bQ (mv BKb.1 _) 1).trans rfl⟩ (fun hHeld=>?_);clear hK K;refine dc 10 ?_;refine eO 7 (some 11) HT_.1 (mb 8 3) (fun K hK=>?_);refine Kd.Md ak (w0:=W) W.heap.size (by rfl) (.tmp 8) (.tmp 10) 25 89 (.agg #[(.string ⟨#[]⟩),(.int .i64 0)]) 24 rfl Tryz.underlying25 jr rfl (by decide) (by omega) (.slice A0 U.length c0) U (⟨e0,e1⟩:ab) [.string e0,.int .i64 e1] (fun k_=>some k_=((.slice A0 U.length c0):Value).ownBlock∨w.heap.size≤k_) (fun _=>False) (by rfl) (by rfl) (pH _ _ _ (⟨e0,e1⟩:ab)) (fun _ h=>h.elim) ?aF ?aO ?aB ?aS ?aL ?_
 (case aF=>exact fun k_ hk=>.inr (Nat.le_trans HB.1.size hk))
 (case aO=>exact HN.1)
 (case aB=>exact HW.1)
 (case aS=>exact HW.1.size)
 (case aL=>have:=LM.1;omega)
 intro v1 w1 ho hb hg hat;have HRn:=J ho;have rO:=J hb;have lL:=J hg;clear ho hb hg hat;replace BKgp:=J (cL BKgp.1 lL.1 (Kd.dB HN.1 BKgp.1 (by decide)));replace BKb:=J (cL BKb.1 lL.1 (Kd.dB HN.1 BKb.1 (by decide)));replace BKge:=J (cL BKge.1 (show wz.grownBy w1 _ from lL.1) (fun e_=>by have fm:=Kd.dK mT.1 ge e_.symm;have fo:=GEge.1;omega));refine hK.out _ _ ⟨(bQ BKgp.1 0).trans rfl,(bQ BKge.1 0).trans rfl,(bQ BKge.1 1).trans rfl,(bQ BKb.1 1).trans rfl⟩ (fun hHeld=>?_);clear hK K;refine dc 11 ?_;refine aX 8 12 HT_.1 (mb 9 2) ?_;refine aX 9 13 HT_.1 (mb 10 1) ?_;refine vm (i:=10) (N:=none) (mb 11 0) rfl rfl (xc HT_.1 (by kernel_rfl)) (by decide) (fun K hK=>?_);have hfz:=dL BKb.1 1;have D7:=hHeld.2.2.2;obtain⟨An,cn,en⟩:=Kd.bU HRn.1;subst en;refine oW (w1:=?_) (by rfl) rfl ?_ ?_
 rotate_left
 ·go_simp;rfl
 refine hK.out _ _ ?_;clear hK K;refine eM (jX HT_.1 (by kernel_rfl)) ?_;have hlen:(U++[(⟨e0,e1⟩:ab)]).length=U.length+1:=by simp
 rw[←hlen];clear hlen;have U0:Kept w w1 (fun k_=>k_=gb∨some k_=((.slice A0 U.length c0):Value).ownBlock):=Kept.sX lL.1 (Kept.kI HB.1 _) (fun k_ e_=>.inl (.inr e_.symm));have hgbw:w.heap.size≤gb∨gb<w.heap.size:=by omega
 have GP:=J (Kd.uF HRn.1 BKb.1 (by decide) 1 (Value.slice An (U++[(⟨e0,e1⟩:ab)]).length cn));have K6:=J (aN BKb.1 1 (Value.slice An (U++[(⟨e0,e1⟩:ab)]).length cn) rfl);have hpb:gp≠gb:=Mv.kH (L:=[97]) ⟨_,List.mem_cons_self,(_,(0,0)),BKgp.1⟩ BKb.1 (by decide);have K7:=J (oK BKgp.1 (p:=⟨gb,1,none⟩) hpb (Value.slice An (U++[(⟨e0,e1⟩:ab)]).length cn));have RG:=J (fQ (j:=1) (v:=(Value.slice An (U++[(⟨e0,e1⟩:ab)]).length cn)) rO.1 hge);have jU:Kept w (w1.setCell ⟨gb,1,none⟩ (Value.slice An (U++[(⟨e0,e1⟩:ab)]).length cn)) (fun k_=>k_=gb∨some k_=((.slice A0 U.length c0):Value).ownBlock):=Kept.setCell U0 (.inl (.inl rfl)) _;obtain⟨dr,cap,he,_,_,_⟩:=Kd.Me GP.1 (by simp);injection he with nw II wJ
 subst nw;subst wJ;have hcx:(w1.setCell ⟨gb,1,none⟩ (Value.slice (some ⟨dr,0,none⟩) (U++[(⟨e0,e1⟩:ab)]).length cn)).cell? ⟨gp,0,none⟩=some (.pointer (some ⟨gb,0,none⟩)):=(bQ K7.1 0).trans rfl;have hcy:(w1.setCell ⟨gb,1,none⟩ (Value.slice (some ⟨dr,0,none⟩) (U++[(⟨e0,e1⟩:ab)]).length cn)).cell? ⟨gb,1,none⟩=some (.slice (some ⟨dr,0,none⟩) (U++[(⟨e0,e1⟩:ab)]).length cn):=(bQ K6.1 1).trans rfl;generalize hwq:w1.setCell ⟨gb,1,none⟩ (Value.slice (some ⟨dr,0,none⟩) (U++[(⟨e0,e1⟩:ab)]).length cn)=wq at GP K6 K7 RG jU hcx hcy ⊢
 clear hwq HRn BKb BKgp BKge rO lL HN HNz HB U0;generalize hxs:(U++[(⟨e0,e1⟩:ab)])=xs at *
 have Ou:1≤xs.length:=by rw[←hxs];simp
 have yL:xs.length<4611686018427387904:=by rw[←hxs,List.length_append,List.length_singleton];have:=LM.1;omega
 have HXG:=J (show bm.sort (U++[(⟨e0,e1⟩:ab)])=bm.sort xs from by rw[hxs]);clear hxs;go_wp2_with (first|((with_reducible refine aH (f:=122) rfl ?_);refine yG (some 20) rfl rfl Tryz.func122 (by kernel_rfl) rfl #[.iface 25 (.slice (some ⟨dr,0,none⟩) xs.length cn),.func (.func 123) #[] #[.pointer (some ⟨gp,0,none⟩)]] rfl (by (try simp only[List.map_toArray,List.map_cons,List.map_nil]);first|done|rfl) ?_;(refine(bm.slice gp gb dr cn W.heap.size u0 u2 u3 xs _ _ W K7.1 K6.1 GP.1 Ou yL (Nat.le_refl _) RG.1).mono ?_);rintro e w5 ⟨rfl,Oj,Vr,U1,l8⟩;refine⟨_,rfl,?_⟩))
 first|go_end0|((try simp only[Exit.inBlock,Exit.then]);refine bodyPost_ret (results_none rfl _ _ _) rfl ?_)
 have Ve:Kept w w5 (fun k_=>k_=gb∨some k_=((.slice A0 U.length c0):Value).ownBlock):=jU.Gh l8 (fun k_ e_=>by
  rcases GP.1.1 k_ e_.symm with h1|h1
  ·exact .inl (.inr h1)
  ·exact .inr h1)
 rw[←HXG.1]at Oj
 first|exact⟨_,rfl,Oj,Vr,U1,Ve⟩|exact⟨rfl,_,Oj,Vr,U1,Ve⟩
namespace Mv
section
variable {W w w1 w2:World} {gb:Nat} {vI vN vS v0:Value} {U:List (aj)} {l1 l2 r:List (ab)} {n:Int} {u0 u2 u3:Value}
theorem FV (h:Kept w w1 (lP w gb)) (k:Kept w1 w2 (lP w1 gb)):Kept w w2 (lP w gb):=h.Gh k (fun k_ ho=>by
 by_cases hc:lP w gb k_
 ·exact .inl hc
 ·by_cases hl:w.heap.size≤k_
  ·exact .inr hl
  ·rcases ho with rfl|⟨q,hq,cells,hx⟩
   ·exact .inl (.inl rfl)
   ·exact .inl (.inr ⟨q,hq,cells,(h.2 k_ (by omega) hc).symm.trans hx⟩))
theorem Zg {vN:Value} (hI:Kd.S bf 63 w W.heap.size (fun _=>True) vI U) (hN:Kd.R ak 89 w W.heap.size (fun k_=>some k_≠vS.ownBlock) vN l1) (hS:Kd.R ak 89 w W.heap.size (fun k_=>some k_≠vN.ownBlock) vS l2)
 (hbk:w.heap[gb]? = some (.cells #[u0,vN,u2,u3] 27 (0,0))) (hr:Kd.R ak 89 w1 W.heap.size (fun k_=>some k_=vN.ownBlock∨w.heap.size≤k_) v0 r) (hk:Kept w w1 (fun k_=>k_=gb∨some k_=vN.ownBlock)) :
 Kd.S bf 63 w1 W.heap.size (fun _=>True) vI U∧Kd.R ak 89 w1 W.heap.size (fun k_=>some k_≠vS.ownBlock) v0 r∧Kd.R ak 89 w1 W.heap.size (fun k_=>some k_≠v0.ownBlock) vS l2∧Kept w w1 (lP w gb):=by
 refine⟨Kd.eu (Kd.adZ (Kd.nU hI) hk (fun k_ hk_ hs=>?_)) (fun _ _=>trivial),Kd.tB rfl hr (fun k_ hk_ e=>?_),Kd.tB rfl (Kd.CQ (Kd.mu rfl hS) hk (fun k_ hk_ hs=>?_)) (fun k_ hk_ e=>?_),hk.mono (fun k_ hs=>?_)⟩
 ·rcases hs with rfl|hs
  ·exact kH hk_.2.2.2 hbk (by decide) rfl
  ·obtain⟨cells,hc⟩:=Kd.fj hN k_ hs.symm;exact kH hk_.2.2.2 hc (by decide) rfl
 ·rcases hr.1 k_ hk_ with h1|h1
  ·exact hN.1 k_ h1.symm e
  ·have:=Kd.dK hS k_ e.symm;omega
 ·rcases hs with rfl|hs
  ·obtain⟨cells,hc⟩:=Kd.fj hS k_ hk_.symm;rw[hbk]at hc;injection hc with hc
   injection hc with _ hc
   exact absurd hc (by decide)
  ·exact hS.1 k_ hk_.symm hs
 ·rcases hr.1 k_ e.symm with h1|h1
  ·exact hS.1 k_ hk_ h1
  ·have:=Kd.dK hS k_ hk_;omega
 ·rcases hs with rfl|hs
  ·exact .inl rfl
  ·obtain⟨cells,hc⟩:=Kd.fj hN k_ hs.symm;exact .inr ⟨89,by decide,cells,hc⟩
end
end Mv
end Go.Proofs.YtingkpnoiekliaaGreat.MZ
end
