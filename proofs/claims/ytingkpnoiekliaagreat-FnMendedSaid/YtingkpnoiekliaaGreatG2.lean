/- Walks and plain laws, put together: no condition of their own. -/
import Derived.Test.YtingkpnoiekliaaGreatVAll
import Derived.Test.YtingkpnoiekliaaGreatG1
section
namespace Go.Proofs.YtingkpnoiekliaaGreat.MZ
open Go.RowKit Go.Proofs.YtingkpnoiekliaaGreatW.PrintWords Go.Proofs.YtingkpnoiekliaaGreatW.PrintLast Go.Proofs.YtingkpnoiekliaaGreatW.PrintMore Go.Proofs.YtingkpnoiekliaaGreat.MWords
attribute [local go_sem] max2_int min2_int max_two min_two max_three min_three max_four min_four
set_option linter.unusedVariables false
set_option linter.unusedSimpArgs false
def lF.f (a0:Int) (a1:Int) (a2:Int):Option (Bool):=if a0≥a1 then (some (decide (a0≤a2))) else (some false)
set_option maxHeartbeats 8000000 in
set_option maxRecDepth 100000 in
theorem lF.calls (a0:Int) (a1:Int) (a2:Int) (r:Bool) (w:World) (h:lF.f a0 a1 a2=some r) :
 Calls Tryz.prog 107 #[.int .i64 a0,.int .i64 a1,.int .i64 a2] w fun e w'=>e = .returned (.bool r)∧aC w w':=by
 have H:(if a0≥a1 then (some (decide (a0≤a2))) else (some false))=some r:=h;clear h;by_cases c4:a0≥a1
 ·rw[if_pos c4]at H;have fa:decide (a1≤a0)=true:=decide_eq_true c4;clear c4;obtain rfl:=Option.some.inj H;go_enter Tryz.func107,Tryz.ntmps107;go_wp2;go_ret;exact⟨mE,by repeat (first|exact aC.refl _|apply aC.step)⟩
 ·rw[if_neg c4]at H;have fa:decide (a1≤a0)=false:=decide_eq_false c4;clear c4;obtain rfl:=Option.some.inj H;go_enter Tryz.func107,Tryz.ntmps107;go_wp2;go_ret;exact⟨mE,by repeat (first|exact aC.refl _|apply aC.step)⟩
def oe.U:Nat→List (ab)→Int→Int→Option (Bool)
 |0,_,_,_=>none
 |k+1,x0,x1,x5=>if x5<(x0.length:Int) then (if 0≤x5 then (if ((aK x0 x5).f1)=x1 then (some true) else (oe.U k x0 x1 (wrap64 (x5+1)))) else (none)) else (some false)
def oe.f (k:Nat) (U:List (ab)) (a1:Int):Option (Bool):=oe.U k U a1 0
set_option maxHeartbeats 8000000 in
set_option maxRecDepth 100000 in
theorem oe.calls (k:Nat) (A0:Option Addr) (c0:Nat) (U:List (ab)) (a1:Int) (r:Bool) (w:World) (b9:Kd.C ak w A0 U.length U) (cg:U.length≤c0) (h:oe.f k U a1=some r) :
 Calls Tryz.prog 108 #[.slice A0 U.length c0,.int .i64 a1] w fun e w'=>e = .returned (.bool r)∧aC w w':=by
 have cr:=J b9;have fy:=J cg;clear b9 cg;have H:(oe.U k U a1 0)=some r:=h;clear h;have H':=J H;clear H;go_enter Tryz.func108,Tryz.ntmps108;go_wp2;go_loopg [5] k (fun kq v5 w'=>∃(aY:Int),v5 = .int .i64 aY∧Aside0 (oe.U kq U a1 aY=some r)∧Aside0 (kq≤k)∧aC w w')
 case atStart=>exact⟨(0),mE,H',⟨Nat.le_refl _⟩,by repeat (first|exact aC.refl _|apply aC.step)⟩
 case round=>
  clear H'
  obtain⟨aY,rfl,HA,bo,⟨m1,rfl⟩⟩:=hrel;cases gk with
  |zero=>exact absurd HA.1 (by simp[oe.U])
  |succ k1=>
   have H:=HA.1;clear HA;simp only[oe.U]at H;by_cases c3:aY<(U.length:Int)
   ·rw[if_pos c3]at H;have jy:=decide_eq_true c3;clear c3;by_cases c4:0≤aY
    ·rw[if_pos c4]at H;have fa:=decide_eq_true c4;clear c4;by_cases c5:((aK U aY).f1)=a1
     ·rw[if_pos c5]at H;have gx:(((aK U aY).f1) == a1)=true:=beq_iff_eq.mpr c5;have uM:(((aK U aY).f1) != a1)=false:=bne_eq_false_iff_eq.mpr c5;clear c5;obtain rfl:=Option.some.inj H;have y9:0≤(aY:Int):=mD;have zn:aY<(U.length:Int):=mD;obtain⟨aek,M3,akp,akq⟩:=jw cr.1 aY y9 zn;cases M3
      replace y9:=eq_true y9;replace zn:=eq_true zn;go_wp2;go_ret;exact⟨mE,by repeat (first|exact aC.refl _|apply aC.step)⟩
     ·rw[if_neg c5]at H;have gx:(((aK U aY).f1) == a1)=false:=beq_eq_false_iff_ne.mpr c5;have uM:(((aK U aY).f1) != a1)=true:=bne_iff_ne.mpr c5;have H':=J H;clear H;have y9:0≤(aY:Int):=mD;have zn:aY<(U.length:Int):=mD;obtain⟨aek,M3,akp,akq⟩:=jw cr.1 aY y9 zn;cases M3
      replace y9:=eq_true y9;replace zn:=eq_true zn;go_wp2;go_roundg k1
      case measure=>have:=bo.1;omega
      case rel=>exact⟨(wrap64 (aY+1)),mE,H',⟨by have:=bo.1;omega⟩,by repeat (first|exact aC.refl _|apply aC.step)⟩
    ·rw[if_neg c4]at H;exact absurd H (by simp)
   ·rw[if_neg c3]at H;have jy:=decide_eq_false c3;clear c3;obtain rfl:=Option.some.inj H;go_wp2;go_ret;exact⟨mE,by repeat (first|exact aC.refl _|apply aC.step)⟩
mutual
def fu.U:Nat→ByteArray→Int→Option (Bool)
 |0,_,_=>none
 |k+1,x0,x3=>if x3<(x0.size:Int) then (if 0≤x3 then ((lF.f (wrap64 (bt x0 x3)) 97 122).bind fun Kg=>(if Kg=true then (fu.j1 k x0 x3 false) else ((lF.f (wrap64 (bt x0 x3)) 48 57).bind fun BI=>(if BI=true then (fu.j1 k x0 x3 false) else (if (wrap64 (bt x0 x3))=45 then (fu.j1 k x0 x3 false) else (fu.j1 k x0 x3 ((wrap64 (bt x0 x3)) != 46))))))) else (none)) else (some true)
def fu.j1:Nat→ByteArray→Int→Bool→Option (Bool)
 |0,_,_,_=>none
 |k+1,x0,x3,x34=>if x34=true then (some false) else (fu.U k x0 (wrap64 (x3+1)))
end
def fu.f (k:Nat) (a0:ByteArray):Option (Bool):=(lF.f (a0.size:Int) 1 12).bind fun BH=>(if BH=true then (fu.U k a0 0) else (some false))
set_option maxHeartbeats 8000000 in
set_option maxRecDepth 100000 in
theorem fu.calls (k:Nat) (a0:ByteArray) (r:Bool) (w:World) (h:fu.f k a0=some r) :
 Calls Tryz.prog 72 #[.string a0] w fun e w'=>e = .returned (.bool r)∧aC w w':=by
 have H:((lF.f (a0.size:Int) 1 12).bind fun BH=>(if BH=true then (fu.U k a0 0) else (some false)))=some r:=h;clear h;replace H:=Option.bind_eq_some_iff.mp H;obtain⟨BH,j9,H⟩:=H;replace H:(if BH=true then (fu.U k a0 0) else (some false))=some r:=H;have A2:=J j9;clear j9;by_cases c3:BH=true
 ·subst c3;have H1:=H;rw[if_pos rfl]at H1;clear H;have H:=H1;clear H1;have H':=J H;clear H;go_enter Tryz.func72,Tryz.ntmps72;go_wp2_with (first|((with_reducible refine aH (f:=107) rfl ?_);refine cd 7 Tryz.func107 #[.int .i64 (a0.size:Int),.int .i64 1,.int .i64 12] ?_;(with_reducible refine(lF.calls (a0.size:Int) 1 12 true _ A2.1).mono ?_);rintro e w' ⟨rfl,⟨nd,rfl⟩⟩;refine⟨_,rfl,?_⟩));go_loopg [3] k (fun kq v3 w'=>∃(bF:Int),v3 = .int .i64 bF∧Aside0 (fu.U kq a0 bF=some r)∧Aside0 (kq≤k)∧aC w w')
  case atStart=>exact⟨(0),mE,H',⟨Nat.le_refl _⟩,by repeat (first|exact aC.refl _|apply aC.step)⟩
  case round=>
   clear H'
   try clear c3
   obtain⟨bF,rfl,HA,bo,⟨m1,rfl⟩⟩:=hrel;cases gk with
   |zero=>exact absurd HA.1 (by simp[fu.U])
   |succ k1=>
    have H:=HA.1;clear HA;simp only[fu.U]at H;by_cases c4:bF<(a0.size:Int)
    ·rw[if_pos c4]at H;have fa:=decide_eq_true c4;clear c4;by_cases c5:0≤bF
     ·rw[if_pos c5]at H;have gx:=decide_eq_true c5;clear c5;have xT:=J H;clear H;have p6:0≤(bF:Int):=mD;have q6:bF<(a0.size:Int):=mD;have hx6:=TP a0 bF;replace p6:=eq_true p6;replace q6:=eq_true q6;go_upto_region 7 with (fail)
      go_cut [34] (fun v34 wc=>∃(kq:Nat) (KL:Bool),v34 = .bool KL∧Aside0 (fu.j1 kq a0 bF KL=some r)∧Aside0 (kq≤k1)∧aC w wc)
      case first=>
       have H:=xT.1;clear xT;replace H:=Option.bind_eq_some_iff.mp H;obtain⟨Kg,rH,H⟩:=H;replace H:(if Kg=true then (fu.j1 k1 a0 bF false) else ((lF.f (wrap64 (bt a0 bF)) 48 57).bind fun BI=>(if BI=true then (fu.j1 k1 a0 bF false) else (if (wrap64 (bt a0 bF))=45 then (fu.j1 k1 a0 bF false) else (fu.j1 k1 a0 bF ((wrap64 (bt a0 bF)) != 46))))))=some r:=H;have A8:=J rH;clear rH;by_cases c9:Kg=true
       ·subst c9;have H1:=H;rw[if_pos rfl]at H1;clear H;have H:=H1;clear H1;have H':=J H;clear H;go_wp2_with (first|((with_reducible refine aH (f:=107) rfl ?_);refine cd 20 Tryz.func107 #[.int .i64 (wrap64 (bt a0 bF)),.int .i64 97,.int .i64 122] ?_;(with_reducible refine(lF.calls (wrap64 (bt a0 bF)) 97 122 true _ A8.1).mono ?_);rintro e w' ⟨rfl,⟨nd,rfl⟩⟩;refine⟨_,rfl,?_⟩));go_meet
        case rel=>exact⟨_,(false),mE,H',⟨by have:=bo.1;first|omega|exact Nat.le_refl _⟩,by repeat (first|exact aC.refl _|apply aC.step)⟩
       ·replace c9:=Bool.eq_false_iff.mpr c9;subst c9;have H1:=H;rw[if_neg (show ¬(false=true) by decide)]at H1;clear H;have H:=H1;clear H1;replace H:=Option.bind_eq_some_iff.mp H;obtain⟨BI,k4,H⟩:=H;replace H:(if BI=true then (fu.j1 k1 a0 bF false) else (if (wrap64 (bt a0 bF))=45 then (fu.j1 k1 a0 bF false) else (fu.j1 k1 a0 bF ((wrap64 (bt a0 bF)) != 46))))=some r:=H;have ow:=J k4;clear k4;by_cases dy:BI=true
        ·subst dy;have H1:=H;rw[if_pos rfl]at H1;clear H;have H:=H1;clear H1;have H':=J H;clear H;go_wp2_with (first|((with_reducible refine aH (f:=107) rfl ?_);refine cd 20 Tryz.func107 #[.int .i64 (wrap64 (bt a0 bF)),.int .i64 97,.int .i64 122] ?_;(with_reducible refine(lF.calls (wrap64 (bt a0 bF)) 97 122 false _ A8.1).mono ?_);rintro e w' ⟨rfl,⟨nd,rfl⟩⟩;refine⟨_,rfl,?_⟩)|(go_at_call 107;(with_reducible refine(lF.calls (wrap64 (bt a0 bF)) 48 57 true _ ow.1).mono ?_);rintro e w' ⟨rfl,⟨nd,rfl⟩⟩));go_meet
         case rel=>exact⟨_,(false),mE,H',⟨by have:=bo.1;first|omega|exact Nat.le_refl _⟩,by repeat (first|exact aC.refl _|apply aC.step)⟩
        ·replace dy:=Bool.eq_false_iff.mpr dy;subst dy;have H1:=H;rw[if_neg (show ¬(false=true) by decide)]at H1;clear H;have H:=H1;clear H1;by_cases dX:(wrap64 (bt a0 bF))=45
         ·rw[if_pos dX]at H;have nY:((wrap64 (bt a0 bF)) == 45)=true:=beq_iff_eq.mpr dX;have Hh:((wrap64 (bt a0 bF)) != 45)=false:=bne_eq_false_iff_eq.mpr dX;clear dX
          (first|rw[nY]|(simp only[dD,fU];rw[nY])|skip)
          have H':=J H;clear H;go_wp2_with (first|((with_reducible refine aH (f:=107) rfl ?_);refine cd 20 Tryz.func107 #[.int .i64 (wrap64 (bt a0 bF)),.int .i64 97,.int .i64 122] ?_;(with_reducible refine(lF.calls (wrap64 (bt a0 bF)) 97 122 false _ A8.1).mono ?_);rintro e w' ⟨rfl,⟨nd,rfl⟩⟩;refine⟨_,rfl,?_⟩)|(go_at_call 107;(with_reducible refine(lF.calls (wrap64 (bt a0 bF)) 48 57 false _ ow.1).mono ?_);rintro e w' ⟨rfl,⟨nd,rfl⟩⟩));go_meet
          case rel=>exact⟨_,(false),mE,H',⟨by have:=bo.1;first|omega|exact Nat.le_refl _⟩,by repeat (first|exact aC.refl _|apply aC.step)⟩
         ·rw[if_neg dX]at H;have nY:((wrap64 (bt a0 bF)) == 45)=false:=beq_eq_false_iff_ne.mpr dX;have Hh:((wrap64 (bt a0 bF)) != 45)=true:=bne_iff_ne.mpr dX
          (first|rw[nY]|(simp only[dD,fU];rw[nY])|skip)
          have H':=J H;clear H;go_wp2_with (first|((with_reducible refine aH (f:=107) rfl ?_);refine cd 20 Tryz.func107 #[.int .i64 (wrap64 (bt a0 bF)),.int .i64 97,.int .i64 122] ?_;(with_reducible refine(lF.calls (wrap64 (bt a0 bF)) 97 122 false _ A8.1).mono ?_);rintro e w' ⟨rfl,⟨nd,rfl⟩⟩;refine⟨_,rfl,?_⟩)|(go_at_call 107;(with_reducible refine(lF.calls (wrap64 (bt a0 bF)) 48 57 false _ ow.1).mono ?_);rintro e w' ⟨rfl,⟨nd,rfl⟩⟩));go_meet
          case rel=>exact⟨_,(((wrap64 (bt a0 bF)) != 46)),mE,H',⟨by have:=bo.1;first|omega|exact Nat.le_refl _⟩,by repeat (first|exact aC.refl _|apply aC.step)⟩
      case rest=>
       clear xT
       try clear c3
       try clear c4
       try clear fa
       try clear c5
       try clear gx
       try clear p6
       try clear q6
       try clear hx6
       try clear p6
       try clear q6
       obtain⟨kq,KL,rfl,HA,ur,⟨mc6,rfl⟩⟩:=hcut;cases kq with
       |zero=>exact absurd HA.1 (by simp[fu.j1])
       |succ Jz=>
        have H:=HA.1;clear HA;simp only[fu.j1]at H;by_cases cQ:KL=true
        ·subst cQ;have H1:=H;rw[if_pos rfl]at H1;clear H;have H:=H1;clear H1;obtain rfl:=Option.some.inj H;go_wp2;go_ret;exact⟨mE,by repeat (first|exact aC.refl _|apply aC.step)⟩
        ·replace cQ:=Bool.eq_false_iff.mpr cQ;subst cQ;have H1:=H;rw[if_neg (show ¬(false=true) by decide)]at H1;clear H;have H:=H1;clear H1;have H':=J H;clear H;go_wp2;go_roundg Jz
         case measure=>have:=bo.1;have:=ur.1;omega
         case rel=>exact⟨(wrap64 (bF+1)),mE,H',⟨by have:=bo.1;have:=ur.1;omega⟩,by repeat (first|exact aC.refl _|apply aC.step)⟩
     ·rw[if_neg c5]at H;exact absurd H (by simp)
    ·rw[if_neg c4]at H;have fa:=decide_eq_false c4;clear c4;obtain rfl:=Option.some.inj H;go_wp2;go_ret;exact⟨mE,by repeat (first|exact aC.refl _|apply aC.step)⟩
 ·replace c3:=Bool.eq_false_iff.mpr c3;subst c3;have H1:=H;rw[if_neg (show ¬(false=true) by decide)]at H1;clear H;have H:=H1;clear H1;obtain rfl:=Option.some.inj H;go_enter Tryz.func72,Tryz.ntmps72;go_wp2_with (first|((with_reducible refine aH (f:=107) rfl ?_);refine cd 7 Tryz.func107 #[.int .i64 (a0.size:Int),.int .i64 1,.int .i64 12] ?_;(with_reducible refine(lF.calls (a0.size:Int) 1 12 false _ A2.1).mono ?_);rintro e w' ⟨rfl,⟨nd,rfl⟩⟩;refine⟨_,rfl,?_⟩));go_ret;exact⟨mE,by repeat (first|exact aC.refl _|apply aC.step)⟩
def ie.U:Nat→Int→Int→List (aj)→List (ab)→List (ab)→Int→Option (Int)
 |0,_,_,_,_,_,_=>none
 |k+1,x1,x5,QP,anS,anT,anU=>if x5<(QP.length:Int) then (if 0≤x5 then (if ((ae QP x5).f0)=x1 then (some x5) else (ie.U k x1 (wrap64 (x5+1)) QP anS anT anU)) else (none)) else (some (-1))
def ie.f (k:Nat) (aa:List (aj)) (af:List (ab)) (ah:List (ab)) (ai:Int) (a1:Int):Option (Int):=ie.U k a1 0 aa af ah ai
set_option maxHeartbeats 8000000 in
set_option maxRecDepth 100000 in
theorem ie.calls (k:Nat) (av:Option Addr) (al:Nat) (aa:List (aj)) (ar:Option Addr) (an:Nat) (af:List (ab)) (ao:Option Addr) (aq:Nat) (ah:List (ab)) (ai:Int) (a1:Int) (r:Int) (w:World) (cW:Kd.C bf w av aa.length aa) (cT:aa.length≤al) (cX:Kd.C ak w ar af.length af) (cU:af.length≤an) (cY:Kd.C ak w ao ah.length ah) (cV:ah.length≤aq) (h:ie.f k aa af ah ai a1=some r) :
 Calls Tryz.prog 74 #[.agg #[.slice av aa.length al,.slice ar af.length an,.slice ao ah.length aq,.int .i64 ai],.int .i64 a1] w fun e w'=>e = .returned (.int .i64 r)∧Below w.heap.size w w':=by
 have ly:=Tryz.underlying27;have cG:=J cW;have df:=J cT;clear cW cT;have cC:=J cX;have cR:=J cU;clear cX cU;have cO:=J cY;have dg:=J cV;clear cY cV;have HB:=J (Below.refl w.heap.size w);have H:(ie.U k a1 0 aa af ah ai)=some r:=h;clear h;have H':=J H;clear H;go_enter Tryz.func74,Tryz.ntmps74;go_wp2_with (first|((with_reducible refine aM (N:=2) rfl ?_);refine bg 2 #[.slice av aa.length al,.slice ar af.length an,.slice ao ah.length aq,.int .i64 ai] 27 ?_;intro agP hg w3 hbox hb;have zS:=J (hbox);have aoC:=mG hg (mH HB.1);have GJ:=mG hg (mH HB.1);replace HB:=J (aA (mH HB.1) hb);clear hb hbox hg));go_loopg [5] k (fun kq v5 w'=>∃(aY:Int),v5 = .int .i64 aY∧Aside0 (ie.U kq a1 aY aa af ah ai=some r)∧Aside0 (kq≤k)∧Aside0 (w'.heap[agP]? = some (.cells #[(.slice av aa.length al),(.slice ar af.length an),(.slice ao ah.length aq),.int .i64 ai] 27 (0,0)))∧Aside0 (Below w.heap.size w w'))
 case atStart=>exact⟨(0),mE,H',⟨Nat.le_refl _⟩,⟨mK zS.1⟩,⟨(aZ HB.1 GJ.1)⟩⟩
 case round=>
  clear H'
  obtain⟨aY,rfl,HA,bo,zS,HB⟩:=hrel;cases gk with
  |zero=>exact absurd HA.1 (by simp[ie.U])
  |succ k1=>
   have H:=HA.1;clear HA;simp only[ie.U]at H;by_cases c4:aY<(aa.length:Int)
   ·rw[if_pos c4]at H;have fa:=decide_eq_true c4;clear c4;by_cases c5:0≤aY
    ·rw[if_pos c5]at H;have gx:=decide_eq_true c5;clear c5;by_cases c6:((ae aa aY).f0)=a1
     ·rw[if_pos c6]at H;have hJ:(((ae aa aY).f0) == a1)=true:=beq_iff_eq.mpr c6;have so:(((ae aa aY).f0) != a1)=false:=bne_eq_false_iff_eq.mpr c6;clear c6;obtain rfl:=Option.some.inj H;obtain⟨asp,asq,asr,ass,avh,avi,avj,avk⟩:=bP zS.1;have za:0≤(aY:Int):=mD;have zo:aY<(aa.length:Int):=mD;obtain⟨ael,aaW,aeX,M4,Ek,El,Em,DY,DT⟩:=kO cG.1 aY za zo;cases M4
      replace Ek:=mX HB.1 Ek;replace El:=mX HB.1 El;replace Em:=mX HB.1 Em;have ab7:=J DT;have abz:=J DY;clear DT DY;replace za:=eq_true za;replace zo:=eq_true zo;go_wp2;go_ret;exact⟨cP,(aZ HB.1 GJ.1)⟩
     ·rw[if_neg c6]at H;have hJ:(((ae aa aY).f0) == a1)=false:=beq_eq_false_iff_ne.mpr c6;have so:(((ae aa aY).f0) != a1)=true:=bne_iff_ne.mpr c6;have H':=J H;clear H;obtain⟨AV,AW,IC,ID,Bg,Bh,I3,I4⟩:=bP zS.1;have za:0≤(aY:Int):=mD;have zo:aY<(aa.length:Int):=mD;obtain⟨ael,aaW,aeX,M4,Ek,El,Em,DY,DT⟩:=kO cG.1 aY za zo;cases M4
      replace Ek:=mX HB.1 Ek;replace El:=mX HB.1 El;replace Em:=mX HB.1 Em;have ab7:=J DT;have abz:=J DY;clear DT DY;replace za:=eq_true za;replace zo:=eq_true zo;go_wp2;go_roundg k1
      case measure=>have:=bo.1;omega
      case rel=>exact⟨(wrap64 (aY+1)),mE,H',⟨by have:=bo.1;omega⟩,⟨mK zS.1⟩,⟨(aZ HB.1 GJ.1)⟩⟩
    ·rw[if_neg c5]at H;exact absurd H (by simp)
   ·rw[if_neg c4]at H;have fa:=decide_eq_false c4;clear c4;obtain rfl:=Option.some.inj H;obtain⟨IE,IF,IG,IH,I5,I6,I7,I8⟩:=bP zS.1;go_wp2;go_ret;exact⟨cP,(aZ HB.1 GJ.1)⟩
end Go.Proofs.YtingkpnoiekliaaGreat.MZ
end
section
namespace Go.Proofs.YtingkpnoiekliaaGreat.MZ
open Go.RowKit Go.Proofs.YtingkpnoiekliaaGreatW.PrintWords Go.Proofs.YtingkpnoiekliaaGreatW.PrintLast Go.Proofs.YtingkpnoiekliaaGreatW.PrintMore Go.Proofs.YtingkpnoiekliaaGreat.MWords
attribute [local go_sem] max2_int min2_int max_two min_two max_three min_three max_four min_four
set_option linter.unusedVariables false
set_option linter.unusedSimpArgs false
def rh.f (a0:Int) (a1:Int) (a2:Int):Option (Bool):=if a0≥a1 then (some (decide (a0≤a2))) else (some false)
set_option maxHeartbeats 8000000 in
set_option maxRecDepth 100000 in
theorem rh.calls (a0:Int) (a1:Int) (a2:Int) (r:Bool) (w:World) (h:rh.f a0 a1 a2=some r) :
 Calls Tryz.prog 38 #[.int .i64 a0,.int .i64 a1,.int .i64 a2] w fun e w'=>e = .returned (.bool r)∧aC w w':=by
 have H:(if a0≥a1 then (some (decide (a0≤a2))) else (some false))=some r:=h;clear h;by_cases c4:a0≥a1
 ·rw[if_pos c4]at H;have fa:decide (a1≤a0)=true:=decide_eq_true c4;clear c4;obtain rfl:=Option.some.inj H;go_enter Tryz.func38,Tryz.ntmps38;go_wp2;go_ret;exact⟨mE,by repeat (first|exact aC.refl _|apply aC.step)⟩
 ·rw[if_neg c4]at H;have fa:decide (a1≤a0)=false:=decide_eq_false c4;clear c4;obtain rfl:=Option.some.inj H;go_enter Tryz.func38,Tryz.ntmps38;go_wp2;go_ret;exact⟨mE,by repeat (first|exact aC.refl _|apply aC.step)⟩
def j5.U:Nat→Int→List (ab)→Int→Int→Option (Bool)
 |0,_,_,_,_=>none
 |k+1,x1,x7,x8,x9=>if x9<x8 then (if 0≤x9 then (if x9<(x7.length:Int) then (if ((aK x7 x9).f1)=x1 then (some true) else (j5.U k x1 x7 x8 (wrap64 (x9+1)))) else (none)) else (none)) else (some false)
def j5.f (k:Nat) (U:List (ab)) (a1:Int):Option (Bool):=j5.U k a1 U (U.length:Int) 0
set_option maxHeartbeats 8000000 in
set_option maxRecDepth 100000 in
theorem j5.calls (k:Nat) (A0:Option Addr) (c0:Nat) (U:List (ab)) (a1:Int) (r:Bool) (w:World) (b9:Kd.C ak w A0 U.length U) (cg:U.length≤c0) (h:j5.f k U a1=some r) :
 Calls Tryz.prog 39 #[.slice A0 U.length c0,.int .i64 a1] w fun e w'=>e = .returned (.bool r)∧Below w.heap.size w w':=by
 have On:=Tryz.underlying89;have cr:=J b9;have fy:=J cg;clear b9 cg;have HB:=J (Below.refl w.heap.size w);have H:(j5.U k a1 U (U.length:Int) 0)=some r:=h;clear h;have H':=J H;clear H;go_enter Tryz.func39,Tryz.ntmps39;go_wp2;go_loopg [9] k (fun kq v9 w'=>∃(iG:Int),v9 = .int .i64 iG∧Aside0 (j5.U kq a1 U (U.length:Int) iG=some r)∧Aside0 (kq≤k)∧Aside0 (Below w.heap.size w w'))
 case atStart=>exact⟨(0),mE,H',⟨Nat.le_refl _⟩,⟨(mH HB.1)⟩⟩
 case round=>
  clear H'
  obtain⟨iG,rfl,HA,bo,HB⟩:=hrel;cases gk with
  |zero=>exact absurd HA.1 (by simp[j5.U])
  |succ k1=>
   have H:=HA.1;clear HA;simp only[j5.U]at H;by_cases c3:iG<(U.length:Int)
   ·rw[if_pos c3]at H;have jy:=decide_eq_true c3;clear c3;by_cases c4:0≤iG
    ·rw[if_pos c4]at H;have fa:=decide_eq_true c4;clear c4;by_cases c5:iG<(U.length:Int)
     ·rw[if_pos c5]at H;have gx:=decide_eq_true c5;clear c5;by_cases c6:((aK U iG).f1)=a1
      ·rw[if_pos c6]at H;have hJ:(((aK U iG).f1) == a1)=true:=beq_iff_eq.mpr c6;have so:(((aK U iG).f1) != a1)=false:=bne_eq_false_iff_eq.mpr c6;clear c6;obtain rfl:=Option.some.inj H;have yZ:0≤(iG:Int):=mD;have zj:iG<(U.length:Int):=mD;obtain⟨aec,MX,Eb,Ec⟩:=jw cr.1 iG yZ zj;cases MX
       replace Eb:=mX HB.1 Eb;replace Ec:=mX HB.1 Ec;replace yZ:=eq_true yZ;replace zj:=eq_true zj;go_wp2_with (first|((with_reducible refine aM (N:=6) rfl ?_);refine bg 6 #[.string (⟨#[]⟩:ByteArray),.int .i64 0] 89 ?_;intro agH hg w7 hbox hb;have KZ:=J (hbox);have abd:=mG hg (mH HB.1);have Le:=mG hg (mH HB.1);replace HB:=J (aA (mH HB.1) hb);clear hb hbox hg;obtain⟨AV,AW,Bg,Bh⟩:=rj KZ.1));go_ret;exact⟨cP,(aZ HB.1 Le.1)⟩
      ·rw[if_neg c6]at H;have hJ:(((aK U iG).f1) == a1)=false:=beq_eq_false_iff_ne.mpr c6;have so:(((aK U iG).f1) != a1)=true:=bne_iff_ne.mpr c6;have H':=J H;clear H;have yZ:0≤(iG:Int):=mD;have zj:iG<(U.length:Int):=mD;obtain⟨aec,MX,Eb,Ec⟩:=jw cr.1 iG yZ zj;cases MX
       replace Eb:=mX HB.1 Eb;replace Ec:=mX HB.1 Ec;replace yZ:=eq_true yZ;replace zj:=eq_true zj;go_wp2_with (first|((with_reducible refine aM (N:=6) rfl ?_);refine bg 6 #[.string (⟨#[]⟩:ByteArray),.int .i64 0] 89 ?_;intro agH hg w9 hbox hb;have KZ:=J (hbox);have abd:=mG hg (mH HB.1);have Le:=mG hg (mH HB.1);replace HB:=J (aA (mH HB.1) hb);clear hb hbox hg;obtain⟨AN,AO,AX,AY⟩:=rj KZ.1));go_roundg k1
       case measure=>have:=bo.1;omega
       case rel=>exact⟨(wrap64 (iG+1)),mE,H',⟨by have:=bo.1;omega⟩,⟨(aZ HB.1 Le.1)⟩⟩
     ·rw[if_neg c5]at H;exact absurd H (by simp)
    ·rw[if_neg c4]at H;exact absurd H (by simp)
   ·rw[if_neg c3]at H;have jy:=decide_eq_false c3;clear c3;obtain rfl:=Option.some.inj H;go_wp2;go_ret;exact⟨cP,(mH HB.1)⟩
mutual
def gq.U:Nat→ByteArray→Int→Option (Bool)
 |0,_,_=>none
 |k+1,x0,x3=>if x3<(x0.size:Int) then (if 0≤x3 then (if (bt x0 x3)≥97 then (if ((bt x0 x3)≤122) then (gq.j1 k x0 x3 false) else (if (bt x0 x3)≥48 then (if ((bt x0 x3)≤57) then (gq.j1 k x0 x3 false) else (if (bt x0 x3)=45 then (gq.j1 k x0 x3 false) else (gq.j1 k x0 x3 ((bt x0 x3) != 46)))) else (if (bt x0 x3)=45 then (gq.j1 k x0 x3 false) else (gq.j1 k x0 x3 ((bt x0 x3) != 46))))) else (if (bt x0 x3)≥48 then (if ((bt x0 x3)≤57) then (gq.j1 k x0 x3 false) else (if (bt x0 x3)=45 then (gq.j1 k x0 x3 false) else (gq.j1 k x0 x3 ((bt x0 x3) != 46)))) else (if (bt x0 x3)=45 then (gq.j1 k x0 x3 false) else (gq.j1 k x0 x3 ((bt x0 x3) != 46))))) else (none)) else ((rh.f (x0.size:Int) 1 12).bind fun t103=>(some t103))
def gq.j1:Nat→ByteArray→Int→Bool→Option (Bool)
 |0,_,_,_=>none
 |k+1,x0,x3,x37=>if x37=true then (some false) else (gq.U k x0 (wrap64 (x3+1)))
end
def gq.f (k:Nat) (a0:ByteArray):Option (Bool):=gq.U k a0 0
set_option maxHeartbeats 8000000 in
set_option maxRecDepth 100000 in
theorem gq.calls (k:Nat) (a0:ByteArray) (r:Bool) (w:World) (h:gq.f k a0=some r) :
 Calls Tryz.prog 26 #[.string a0] w fun e w'=>e = .returned (.bool r)∧aC w w':=by
 have H:(gq.U k a0 0)=some r:=h;clear h;have H':=J H;clear H;go_enter Tryz.func26,Tryz.ntmps26;go_wp2;go_loopg [3] k (fun kq v3 w'=>∃(bF:Int),v3 = .int .i64 bF∧Aside0 (gq.U kq a0 bF=some r)∧Aside0 (kq≤k)∧aC w w')
 case atStart=>exact⟨(0),mE,H',⟨Nat.le_refl _⟩,by repeat (first|exact aC.refl _|apply aC.step)⟩
 case round=>
  clear H';obtain⟨bF,rfl,HA,bo,⟨m1,rfl⟩⟩:=hrel;cases gk with
  |zero=>exact absurd HA.1 (by simp[gq.U])
  |succ k1=>
   have H:=HA.1;clear HA;simp only[gq.U]at H;by_cases c2:bF<(a0.size:Int)
   ·rw[if_pos c2]at H;have tG:=decide_eq_true c2;clear c2;by_cases c3:0≤bF
    ·rw[if_pos c3]at H;have jy:=decide_eq_true c3;clear c3;have xR:=J H;clear H;have p4:0≤(bF:Int):=mD;have q4:bF<(a0.size:Int):=mD;have XS:=TP a0 bF;replace p4:=eq_true p4;replace q4:=eq_true q4;go_upto_region 5 with (fail)
     go_cut [37] (fun v37 wc=>∃(kq:Nat) (KN:Bool),v37 = .bool KN∧Aside0 (gq.j1 kq a0 bF KN=some r)∧Aside0 (kq≤k1)∧aC w wc)
     case first=>
      have H:=xR.1;clear xR;by_cases c6:(bt a0 bF)≥97
      ·rw[if_pos c6]at H;have hJ:decide (97≤(bt a0 bF))=true:=decide_eq_true c6;clear c6
       (first|rw[hJ]|(simp only[dD,fU];rw[hJ])|skip)
       by_cases c7:((bt a0 bF)≤122)
       ·rw[if_pos c7]at H;have oO:decide ((bt a0 bF)≤122)=true:=decide_eq_true c7;clear c7;have H':=J H;clear H;go_wp2;go_meet
        case rel=>exact⟨_,(false),mE,H',⟨by have:=bo.1;first|omega|exact Nat.le_refl _⟩,by repeat (first|exact aC.refl _|apply aC.step)⟩
       ·rw[if_neg c7]at H;have oO:decide ((bt a0 bF)≤122)=false:=decide_eq_false c7;clear c7;by_cases c8:(bt a0 bF)≥48
        ·rw[if_pos c8]at H;have mw:decide (48≤(bt a0 bF))=true:=decide_eq_true c8;clear c8;by_cases c9:((bt a0 bF)≤57)
         ·rw[if_pos c9]at H;have qm:decide ((bt a0 bF)≤57)=true:=decide_eq_true c9;clear c9;have H':=J H;clear H;go_wp2;go_meet
          case rel=>exact⟨_,(false),mE,H',⟨by have:=bo.1;first|omega|exact Nat.le_refl _⟩,by repeat (first|exact aC.refl _|apply aC.step)⟩
         ·rw[if_neg c9]at H;have qm:decide ((bt a0 bF)≤57)=false:=decide_eq_false c9;clear c9;by_cases fE:(bt a0 bF)=45
          ·rw[if_pos fE]at H;have qk:((bt a0 bF) == 45)=true:=beq_iff_eq.mpr fE;have aeP:((bt a0 bF) != 45)=false:=bne_eq_false_iff_eq.mpr fE;clear fE;have H':=J H;clear H;go_wp2;go_meet
           case rel=>exact⟨_,(false),mE,H',⟨by have:=bo.1;first|omega|exact Nat.le_refl _⟩,by repeat (first|exact aC.refl _|apply aC.step)⟩
          ·rw[if_neg fE]at H;have qk:((bt a0 bF) == 45)=false:=beq_eq_false_iff_ne.mpr fE;have aeP:((bt a0 bF) != 45)=true:=bne_iff_ne.mpr fE;have H':=J H;clear H;go_wp2;go_meet
           case rel=>exact⟨_,(((bt a0 bF) != 46)),mE,H',⟨by have:=bo.1;first|omega|exact Nat.le_refl _⟩,by repeat (first|exact aC.refl _|apply aC.step)⟩
        ·rw[if_neg c8]at H;have mw:decide (48≤(bt a0 bF))=false:=decide_eq_false c8;clear c8;by_cases dy:(bt a0 bF)=45
         ·rw[if_pos dy]at H;have ql:((bt a0 bF) == 45)=true:=beq_iff_eq.mpr dy;have C8:((bt a0 bF) != 45)=false:=bne_eq_false_iff_eq.mpr dy;clear dy;have H':=J H;clear H;go_wp2;go_meet
          case rel=>exact⟨_,(false),mE,H',⟨by have:=bo.1;first|omega|exact Nat.le_refl _⟩,by repeat (first|exact aC.refl _|apply aC.step)⟩
         ·rw[if_neg dy]at H;have ql:((bt a0 bF) == 45)=false:=beq_eq_false_iff_ne.mpr dy;have C8:((bt a0 bF) != 45)=true:=bne_iff_ne.mpr dy;have H':=J H;clear H;go_wp2;go_meet
          case rel=>exact⟨_,(((bt a0 bF) != 46)),mE,H',⟨by have:=bo.1;first|omega|exact Nat.le_refl _⟩,by repeat (first|exact aC.refl _|apply aC.step)⟩
      ·rw[if_neg c6]at H;have hJ:decide (97≤(bt a0 bF))=false:=decide_eq_false c6;clear c6
       (first|rw[hJ]|(simp only[dD,fU];rw[hJ])|skip)
       by_cases dX:(bt a0 bF)≥48
       ·rw[if_pos dX]at H;have nY:decide (48≤(bt a0 bF))=true:=decide_eq_true dX;clear dX;by_cases cQ:((bt a0 bF)≤57)
        ·rw[if_pos cQ]at H;have pj:decide ((bt a0 bF)≤57)=true:=decide_eq_true cQ;clear cQ;have H':=J H;clear H;go_wp2;go_meet
         case rel=>exact⟨_,(false),mE,H',⟨by have:=bo.1;first|omega|exact Nat.le_refl _⟩,by repeat (first|exact aC.refl _|apply aC.step)⟩
        ·rw[if_neg cQ]at H;have pj:decide ((bt a0 bF)≤57)=false:=decide_eq_false cQ;clear cQ;by_cases gR:(bt a0 bF)=45
         ·rw[if_pos gR]at H;have yt:((bt a0 bF) == 45)=true:=beq_iff_eq.mpr gR;have aeR:((bt a0 bF) != 45)=false:=bne_eq_false_iff_eq.mpr gR;clear gR;have H':=J H;clear H;go_wp2;go_meet
          case rel=>exact⟨_,(false),mE,H',⟨by have:=bo.1;first|omega|exact Nat.le_refl _⟩,by repeat (first|exact aC.refl _|apply aC.step)⟩
         ·rw[if_neg gR]at H;have yt:((bt a0 bF) == 45)=false:=beq_eq_false_iff_ne.mpr gR;have aeR:((bt a0 bF) != 45)=true:=bne_iff_ne.mpr gR;have H':=J H;clear H;go_wp2;go_meet
          case rel=>exact⟨_,(((bt a0 bF) != 46)),mE,H',⟨by have:=bo.1;first|omega|exact Nat.le_refl _⟩,by repeat (first|exact aC.refl _|apply aC.step)⟩
       ·rw[if_neg dX]at H;have nY:decide (48≤(bt a0 bF))=false:=decide_eq_false dX;clear dX;by_cases lY:(bt a0 bF)=45
        ·rw[if_pos lY]at H;have Hj:((bt a0 bF) == 45)=true:=beq_iff_eq.mpr lY;have aeS:((bt a0 bF) != 45)=false:=bne_eq_false_iff_eq.mpr lY;clear lY;have H':=J H;clear H;go_wp2;go_meet
         case rel=>exact⟨_,(false),mE,H',⟨by have:=bo.1;first|omega|exact Nat.le_refl _⟩,by repeat (first|exact aC.refl _|apply aC.step)⟩
        ·rw[if_neg lY]at H;have Hj:((bt a0 bF) == 45)=false:=beq_eq_false_iff_ne.mpr lY;have aeS:((bt a0 bF) != 45)=true:=bne_iff_ne.mpr lY;have H':=J H;clear H;go_wp2;go_meet
         case rel=>exact⟨_,(((bt a0 bF) != 46)),mE,H',⟨by have:=bo.1;first|omega|exact Nat.le_refl _⟩,by repeat (first|exact aC.refl _|apply aC.step)⟩
     case rest=>
      clear xR
      try clear c2
      try clear tG
      try clear c3
      try clear jy
      try clear p4
      try clear q4
      try clear XS
      try clear p4
      try clear q4
      obtain⟨kq,KN,rfl,HA,Ln,⟨eN,rfl⟩⟩:=hcut;cases kq with
      |zero=>exact absurd HA.1 (by simp[gq.j1])
      |succ Yj=>
       have H:=HA.1;clear HA;simp only[gq.j1]at H;by_cases jk:KN=true
       ·subst jk;have H1:=H;rw[if_pos rfl]at H1;clear H;have H:=H1;clear H1;obtain rfl:=Option.some.inj H;go_wp2;go_ret;exact⟨mE,by repeat (first|exact aC.refl _|apply aC.step)⟩
       ·replace jk:=Bool.eq_false_iff.mpr jk;subst jk;have H1:=H;rw[if_neg (show ¬(false=true) by decide)]at H1;clear H;have H:=H1;clear H1;have H':=J H;clear H;go_wp2;go_roundg Yj
        case measure=>have:=bo.1;have:=Ln.1;omega
        case rel=>exact⟨(wrap64 (bF+1)),mE,H',⟨by have:=bo.1;have:=Ln.1;omega⟩,by repeat (first|exact aC.refl _|apply aC.step)⟩
    ·rw[if_neg c3]at H;exact absurd H (by simp)
   ·rw[if_neg c2]at H;have tG:=decide_eq_false c2;clear c2;replace H:=Option.bind_eq_some_iff.mp H;obtain⟨t103,Ca,H⟩:=H;replace H:(some t103)=some r:=H;have xC:=J Ca;clear Ca;obtain rfl:=Option.some.inj H;go_wp2_with (first|((with_reducible refine aH (f:=38) rfl ?_);refine cd 40 Tryz.func38 #[.int .i64 (a0.size:Int),.int .i64 1,.int .i64 12] ?_;(with_reducible refine(rh.calls (a0.size:Int) 1 12 t103 _ xC.1).mono ?_);rintro e w' ⟨rfl,⟨nd,rfl⟩⟩;refine⟨_,rfl,?_⟩));go_ret;exact⟨mE,by repeat (first|exact aC.refl _|apply aC.step)⟩
def jf.U:Nat→Int→List (aj)→Int→Int→Option (Int)
 |0,_,_,_,_=>none
 |k+1,x1,x8,x9,fO=>if fO<x9 then (if 0≤fO then (if fO<(x8.length:Int) then (if ((ae x8 fO).f0)=x1 then (some fO) else (jf.U k x1 x8 x9 (wrap64 (fO+1)))) else (none)) else (none)) else (some (-1))
def jf.f (k:Nat) (aa:List (aj)) (af:List (ab)) (ah:List (ab)) (ai:Int) (a1:Int):Option (Int):=jf.U k a1 aa (aa.length:Int) 0
set_option maxHeartbeats 8000000 in
set_option maxRecDepth 100000 in
theorem jf.calls (k:Nat) (av:Option Addr) (al:Nat) (aa:List (aj)) (ar:Option Addr) (an:Nat) (af:List (ab)) (ao:Option Addr) (aq:Nat) (ah:List (ab)) (ai:Int) (a1:Int) (r:Int) (w:World) (cW:Kd.C bf w av aa.length aa) (cT:aa.length≤al) (cX:Kd.C ak w ar af.length af) (cU:af.length≤an) (cY:Kd.C ak w ao ah.length ah) (cV:ah.length≤aq) (h:jf.f k aa af ah ai a1=some r) :
 Calls Tryz.prog 35 #[.agg #[.slice av aa.length al,.slice ar af.length an,.slice ao ah.length aq,.int .i64 ai],.int .i64 a1] w fun e w'=>e = .returned (.int .i64 r)∧Below w.heap.size w w':=by
 have ly:=Tryz.underlying27;have D8:=Tryz.underlying63;have cG:=J cW;have df:=J cT;clear cW cT;have cC:=J cX;have cR:=J cU;clear cX cU;have cO:=J cY;have dg:=J cV;clear cY cV;have HB:=J (Below.refl w.heap.size w);have H:(jf.U k a1 aa (aa.length:Int) 0)=some r:=h;clear h;have H':=J H;clear H;go_enter Tryz.func35,Tryz.ntmps35;go_wp2_with (first|((with_reducible refine aM (N:=2) rfl ?_);refine bg 2 #[.slice av aa.length al,.slice ar af.length an,.slice ao ah.length aq,.int .i64 ai] 27 ?_;intro agI hg w3 hbox hb;have qC:=J (hbox);have aom:=mG hg (mH HB.1);have ti:=mG hg (mH HB.1);replace HB:=J (aA (mH HB.1) hb);clear hb hbox hg;obtain⟨Iz,IA,IB,NT,N4,I1,I2,N5⟩:=bP qC.1));go_loopg [10] k (fun kq v10 w'=>∃(gz:Int),v10 = .int .i64 gz∧Aside0 (jf.U kq a1 aa (aa.length:Int) gz=some r)∧Aside0 (kq≤k)∧Aside0 (w'.heap[agI]? = some (.cells #[(.slice av aa.length al),(.slice ar af.length an),(.slice ao ah.length aq),.int .i64 ai] 27 (0,0)))∧Aside0 (Below w.heap.size w w'))
 case atStart=>exact⟨(0),mE,H',⟨Nat.le_refl _⟩,⟨mK qC.1⟩,⟨(aZ HB.1 ti.1)⟩⟩
 case round=>
  clear H'
  try clear Iz
  try clear IA
  try clear IB
  try clear NT
  try clear N4
  try clear I1
  try clear I2
  try clear N5
  obtain⟨gz,rfl,HA,bo,qC,HB⟩:=hrel;cases gk with
  |zero=>exact absurd HA.1 (by simp[jf.U])
  |succ k1=>
   have H:=HA.1;clear HA;simp only[jf.U]at H;by_cases c5:gz<(aa.length:Int)
   ·rw[if_pos c5]at H;have gx:=decide_eq_true c5;clear c5;by_cases c6:0≤gz
    ·rw[if_pos c6]at H;have hJ:=decide_eq_true c6;clear c6;by_cases c7:gz<(aa.length:Int)
     ·rw[if_pos c7]at H;have oO:=decide_eq_true c7;clear c7;by_cases c8:((ae aa gz).f0)=a1
      ·rw[if_pos c8]at H;have mw:(((ae aa gz).f0) == a1)=true:=beq_iff_eq.mpr c8;have Hu:(((ae aa gz).f0) != a1)=false:=bne_eq_false_iff_eq.mpr c8;clear c8;obtain rfl:=Option.some.inj H;have y6:0≤(gz:Int):=mD;have zk:gz<(aa.length:Int):=mD;obtain⟨aed,aaT,aeO,MY,Ed,Ee,Ef,DX,DS⟩:=kO cG.1 gz y6 zk;cases MY
       replace Ed:=mX HB.1 Ed;replace Ee:=mX HB.1 Ee;replace Ef:=mX HB.1 Ef;have ab4:=J DS;have abw:=J DX;clear DS DX;replace y6:=eq_true y6;replace zk:=eq_true zk;go_wp2_with (first|((with_reducible refine aM (N:=6) rfl ?_);refine bg 6 #[.int .i64 0,.slice none 0 0,.int .i64 0] 63 ?_;intro agJ hg w9 hbox hb;have K0:=J (hbox);have abe:=mG hg (aZ HB.1 ti.1);have Lf:=mG hg (aZ HB.1 ti.1);replace HB:=J (aA (aZ HB.1 ti.1) hb);have GQ:=bY hg qC.1;have LO:=bX hg qC.1;replace qC:=mB qC hb;clear hb hbox hg;have Bj:=LO.1;have Bk:=GQ.1;obtain⟨DK,VB,aqt,DO,V8,ato⟩:=nF K0.1));go_ret;exact⟨cP,(aT HB.1 ti.1 Lf.1)⟩
      ·rw[if_neg c8]at H;have mw:(((ae aa gz).f0) == a1)=false:=beq_eq_false_iff_ne.mpr c8;have Hu:(((ae aa gz).f0) != a1)=true:=bne_iff_ne.mpr c8;have H':=J H;clear H;have y6:0≤(gz:Int):=mD;have zk:gz<(aa.length:Int):=mD;obtain⟨aed,aaT,aeO,MY,Ed,Ee,Ef,DX,DS⟩:=kO cG.1 gz y6 zk;cases MY
       replace Ed:=mX HB.1 Ed;replace Ee:=mX HB.1 Ee;replace Ef:=mX HB.1 Ef;have ab4:=J DS;have abw:=J DX;clear DS DX;replace y6:=eq_true y6;replace zk:=eq_true zk;go_wp2_with (first|((with_reducible refine aM (N:=6) rfl ?_);refine bg 6 #[.int .i64 0,.slice none 0 0,.int .i64 0] 63 ?_;intro agJ hg ej hbox hb;have K0:=J (hbox);have abe:=mG hg (aZ HB.1 ti.1);have Lf:=mG hg (aZ HB.1 ti.1);replace HB:=J (aA (aZ HB.1 ti.1) hb);have GQ:=bY hg qC.1;have LO:=bX hg qC.1;replace qC:=mB qC hb;clear hb hbox hg;have Jg:=LO.1;have Jh:=GQ.1;obtain⟨AP,AQ,Iq,AZ,Ba,IS⟩:=nF K0.1));go_roundg k1
       case measure=>have:=bo.1;omega
       case rel=>exact⟨(wrap64 (gz+1)),mE,H',⟨by have:=bo.1;omega⟩,⟨dE GQ.1 qC.1⟩,⟨(aT HB.1 ti.1 Lf.1)⟩⟩
     ·rw[if_neg c7]at H;exact absurd H (by simp)
    ·rw[if_neg c6]at H;exact absurd H (by simp)
   ·rw[if_neg c5]at H;have gx:=decide_eq_false c5;clear c5;obtain rfl:=Option.some.inj H;go_wp2;go_ret;exact⟨cP,(aZ HB.1 ti.1)⟩
def fq.U:Nat→ByteArray→List (ab)→Int→Int→Option (Int)
 |0,_,_,_,_=>none
 |k+1,x1,x8,x9,fO=>if fO<x9 then (if 0≤fO then (if fO<(x8.length:Int) then (if ((aK x8 fO).f0).toList=x1.toList then (some ((aK x8 fO).f1)) else (fq.U k x1 x8 x9 (wrap64 (fO+1)))) else (none)) else (none)) else (some 0)
def fq.f (k:Nat) (aa:List (aj)) (af:List (ab)) (ah:List (ab)) (ai:Int) (a1:ByteArray):Option (Int):=fq.U k a1 af (af.length:Int) 0
set_option maxHeartbeats 8000000 in
set_option maxRecDepth 100000 in
theorem fq.calls (k:Nat) (av:Option Addr) (al:Nat) (aa:List (aj)) (ar:Option Addr) (an:Nat) (af:List (ab)) (ao:Option Addr) (aq:Nat) (ah:List (ab)) (ai:Int) (a1:ByteArray) (r:Int) (w:World) (cW:Kd.C bf w av aa.length aa) (cT:aa.length≤al) (cX:Kd.C ak w ar af.length af) (cU:af.length≤an) (cY:Kd.C ak w ao ah.length ah) (cV:ah.length≤aq) (h:fq.f k aa af ah ai a1=some r) :
 Calls Tryz.prog 28 #[.agg #[.slice av aa.length al,.slice ar af.length an,.slice ao ah.length aq,.int .i64 ai],.string a1] w fun e w'=>e = .returned (.int .i64 r)∧Below w.heap.size w w':=by
 have ly:=Tryz.underlying27;have On:=Tryz.underlying89;have cG:=J cW;have df:=J cT;clear cW cT;have cC:=J cX;have cR:=J cU;clear cX cU;have cO:=J cY;have dg:=J cV;clear cY cV;have HB:=J (Below.refl w.heap.size w);have H:(fq.U k a1 af (af.length:Int) 0)=some r:=h;clear h;have H':=J H;clear H;go_enter Tryz.func28,Tryz.ntmps28;go_wp2_with (first|((with_reducible refine aM (N:=2) rfl ?_);refine bg 2 #[.slice av aa.length al,.slice ar af.length an,.slice ao ah.length aq,.int .i64 ai] 27 ?_;intro agK hg w3 hbox hb;have qD:=J (hbox);have aon:=mG hg (mH HB.1);have tj:=mG hg (mH HB.1);replace HB:=J (aA (mH HB.1) hb);clear hb hbox hg;obtain⟨Iz,IA,IB,NT,N4,I1,I2,N5⟩:=bP qD.1));go_loopg [10] k (fun kq v10 w'=>∃(gz:Int),v10 = .int .i64 gz∧Aside0 (fq.U kq a1 af (af.length:Int) gz=some r)∧Aside0 (kq≤k)∧Aside0 (w'.heap[agK]? = some (.cells #[(.slice av aa.length al),(.slice ar af.length an),(.slice ao ah.length aq),.int .i64 ai] 27 (0,0)))∧Aside0 (Below w.heap.size w w'))
 case atStart=>exact⟨(0),mE,H',⟨Nat.le_refl _⟩,⟨mK qD.1⟩,⟨(aZ HB.1 tj.1)⟩⟩
 case round=>
  clear H'
  try clear Iz
  try clear IA
  try clear IB
  try clear NT
  try clear N4
  try clear I1
  try clear I2
  try clear N5
  obtain⟨gz,rfl,HA,bo,qD,HB⟩:=hrel;cases gk with
  |zero=>exact absurd HA.1 (by simp[fq.U])
  |succ k1=>
   have H:=HA.1;clear HA;simp only[fq.U]at H;by_cases c5:gz<(af.length:Int)
   ·rw[if_pos c5]at H;have gx:=decide_eq_true c5;clear c5;by_cases c6:0≤gz
    ·rw[if_pos c6]at H;have hJ:=decide_eq_true c6;clear c6;by_cases c7:gz<(af.length:Int)
     ·rw[if_pos c7]at H;have oO:=decide_eq_true c7;clear c7;by_cases c8:((aK af gz).f0).toList=a1.toList
      ·rw[if_pos c8]at H;have mw:(((aK af gz).f0).toList == a1.toList)=true:=beq_iff_eq.mpr c8;have Hu:(((aK af gz).f0).toList != a1.toList)=false:=bne_eq_false_iff_eq.mpr c8;clear c8;obtain rfl:=Option.some.inj H;have y7:0≤(gz:Int):=mD;have zl:gz<(af.length:Int):=mD;obtain⟨aee,M0,Eg,Eh⟩:=jw cC.1 gz y7 zl;cases M0
       replace Eg:=mX HB.1 Eg;replace Eh:=mX HB.1 Eh;replace y7:=eq_true y7;replace zl:=eq_true zl;go_wp2_with (first|((with_reducible refine aM (N:=6) rfl ?_);refine bg 6 #[.string (⟨#[]⟩:ByteArray),.int .i64 0] 89 ?_;intro agL hg w9 hbox hb;have K5:=J (hbox);have abf:=mG hg (aZ HB.1 tj.1);have Lg:=mG hg (aZ HB.1 tj.1);replace HB:=J (aA (aZ HB.1 tj.1) hb);have GR:=bY hg qD.1;have LP:=bX hg qD.1;replace qD:=mB qD hb;clear hb hbox hg;have Bj:=LP.1;have Bk:=GR.1;obtain⟨DK,VB,DO,V8⟩:=rj K5.1));go_ret;exact⟨cP,(aT HB.1 tj.1 Lg.1)⟩
      ·rw[if_neg c8]at H;have mw:(((aK af gz).f0).toList == a1.toList)=false:=beq_eq_false_iff_ne.mpr c8;have Hu:(((aK af gz).f0).toList != a1.toList)=true:=bne_iff_ne.mpr c8;have H':=J H;clear H;have y7:0≤(gz:Int):=mD;have zl:gz<(af.length:Int):=mD;obtain⟨aee,M0,Eg,Eh⟩:=jw cC.1 gz y7 zl;cases M0
       replace Eg:=mX HB.1 Eg;replace Eh:=mX HB.1 Eh;replace y7:=eq_true y7;replace zl:=eq_true zl;go_wp2_with (first|((with_reducible refine aM (N:=6) rfl ?_);refine bg 6 #[.string (⟨#[]⟩:ByteArray),.int .i64 0] 89 ?_;intro agL hg ej hbox hb;have K5:=J (hbox);have abf:=mG hg (aZ HB.1 tj.1);have Lg:=mG hg (aZ HB.1 tj.1);replace HB:=J (aA (aZ HB.1 tj.1) hb);have GR:=bY hg qD.1;have LP:=bX hg qD.1;replace qD:=mB qD hb;clear hb hbox hg;have Jg:=LP.1;have Jh:=GR.1;obtain⟨AP,AQ,AZ,Ba⟩:=rj K5.1));go_roundg k1
       case measure=>have:=bo.1;omega
       case rel=>exact⟨(wrap64 (gz+1)),mE,H',⟨by have:=bo.1;omega⟩,⟨dE GR.1 qD.1⟩,⟨(aT HB.1 tj.1 Lg.1)⟩⟩
     ·rw[if_neg c7]at H;exact absurd H (by simp)
    ·rw[if_neg c6]at H;exact absurd H (by simp)
   ·rw[if_neg c5]at H;have gx:=decide_eq_false c5;clear c5;obtain rfl:=Option.some.inj H;go_wp2;go_ret;exact⟨cP,(aZ HB.1 tj.1)⟩
end Go.Proofs.YtingkpnoiekliaaGreat.MZ
end
section
set_option linter.unusedVariables false
set_option linter.unusedSimpArgs false
namespace Go.Proofs.YtingkpnoiekliaaGreat.MZ
open Go.RowKit Go.Proofs.YtingkpnoiekliaaGreatW.PrintWords Go.Proofs.YtingkpnoiekliaaGreatW.PrintLast Go.Proofs.YtingkpnoiekliaaGreatW.PrintMore Go.Proofs.YtingkpnoiekliaaGreat.MWords
theorem dO {i:Int} (h0:-9223372036854775808≤i) (h1:i≤9223372036854775807):wrap64 i=i:=by unfold wrap64;omega
theorem jQ {i n:Nat} (h:i<n) (hn:n≤9223372036854775807):wrap64 ((i:Int)+1)=((i+1:Nat):Int):=by unfold wrap64;omega
theorem FZ (xs:List Int) (i:Nat):rd xs (i:Int)=xs.getD i 0:=by simp[rd]
theorem amV {α:Type} (l:List α) (i:Nat) (x:α) (h:i<l.length):(l.set i x).take (i+1)=l.take i++[x]:=by
 rw[List.take_succ_eq_append_getElem (by simpa using h),List.getElem_set_self,List.take_set_of_le (Nat.le_refl _)]
theorem amg {ρ : Type} (g : Nat → Nat → Option ρ) (n : Nat) (r : ρ) (hs : ∀ i, i < n → Ev (g (i + 1)) r → Ev (g i) r) (he : Ev (g n) r) : Ev (g 0) r := by
  have key : ∀ (d i : Nat), i + d = n → Ev (g i) r := by
    intro d
    induction d with
    | zero => intro i hi; have : i = n := by omega
              subst this; exact he
    | succ d ih => intro i hi; exact hs i (by omega) (ih (i + 1) (by omega))
  exact key n 0 (by omega)
theorem YM {α β:Type} (l:List α) (f:α→β) (d:α):(List.range l.length).map (fun i=>f (l.getD i d))=l.map f:=by
 apply List.ext_getElem?;intro i;rw[List.getElem?_map,List.getElem?_map];by_cases h:i<l.length
 ·simp[h,List.getD_eq_getElem?_getD]
 ·rw[List.getElem?_eq_none (by simp;omega),List.getElem?_eq_none (by omega)];rfl
theorem Ev.bind' {α β:Type} {g:Nat→Option α} {f:Nat→α→Option β} {a:α} {r:β} (h:Ev g a) (k:Ev (fun n=>f n a) r):Ev (fun n=>(g n).bind (f n)) r:=Ev.bind h k
theorem Ev.cond {α:Type} {g f:Nat→Option α} {r:α} (h:∃K,∀k,K≤k→g k=f k) (k:Ev f r):Ev g r:=by
 obtain⟨K,h⟩:=h;obtain⟨K',k⟩:=k;exact⟨K+K',fun n hn=>by rw[h n (by omega)];exact k n (by omega)⟩
theorem Ev.round {α:Type} {g f:Nat→Option α} {r:α} (h:∃K,∀k,K≤k→g (k+1)=f k) (k:Ev f r):Ev g r:=by
 obtain⟨K,h⟩:=h;obtain⟨K',k⟩:=k
 exact⟨K+K'+1,fun n hn=>by
  obtain⟨m,rfl⟩:∃m,n=m+1:=⟨n-1,by omega⟩;rw[h m (by omega)];exact k m (by omega)⟩
theorem Ev.ends {α:Type} {g:Nat→Option α} {r:α} (h:∀k,g (k+1)=some r):Ev g r:=⟨1,fun n hn=>by
 obtain⟨m,rfl⟩:∃m,n=m+1:=⟨n-1,by omega⟩;exact h m⟩
theorem Ev.all {α:Type} {g:Nat→Option α} {r:α} (h:∀k,g k=some r):Ev g r:=⟨0,fun n _=>h n⟩
theorem UQ {α:Type} {l:List α} {i:Nat} {z:α} (h:i<l.length):l.getD i z ∈ l:=by
 rw[List.getD_eq_getElem?_getD,List.getElem?_eq_getElem h];exact List.getElem_mem h
def fl {ρ:Type} (p:Nat→Bool) (stop:Nat→ρ) (e:ρ):Nat→Nat→ρ
 |_,0=>e
 |i,d+1=>if p i=true then stop i else fl p stop e (i+1) d
theorem wC {ρ:Type} (g:Nat→Nat→Option ρ) (n:Nat) (p:Nat→Bool) (stop:Nat→ρ) (e:ρ)
 (hs:∀(i:Nat) (r:ρ),i<n→p i=false→Ev (g (i+1)) r→Ev (g i) r) (ht:∀i,i<n→p i=true→Ev (g i) (stop i)) (he:Ev (g n) e):Ev (g 0) (fl p stop e 0 n):=by
 have key:∀(d i:Nat),i+d=n→Ev (g i) (fl p stop e i d):=by
  intro d
  induction d with
  |zero=>
   intro i hi;have:i=n:=by omega
   subst this;exact he
  |succ d ih=>
   intro i hi;simp only[fl];by_cases h:p i=true
   ·rw[if_pos h];exact ht i (by omega) h
   ·rw[if_neg h];exact hs i _ (by omega) (by simpa using h) (ih (i+1) (by omega))
 exact key n 0 (by omega)
theorem H4 {ρ:Type} {p q:Nat→Bool} {stop:Nat→ρ} {e:ρ}:∀(d i:Nat),(∀j,i≤j→j<i+d→p j=q j)→fl p stop e i d=fl q stop e i d
 |0,_,_=>rfl
 |d+1,i,h=>by
  simp only[fl];rw[h i (by omega) (by omega),H4 d (i+1) (fun j h1 h2=>h j (by omega) (by omega))]
theorem yC {e:Bool} {p:Nat→Bool}:∀(d i:Nat),fl p (fun _=>false) e i d=(!fl p (fun _=>true) false i d&&e)
 |0,_=>by simp[fl]
 |d+1,i=>by
  simp only[fl];by_cases h:p i=true
  ·rw[if_pos h,if_pos h];rfl
  ·rw[if_neg h,if_neg h];exact yC d (i+1)
theorem Dw {p:Nat→Bool}:∀(d i:Nat),fl p (fun _=>true) false i d=false→∀j,i≤j→j<i+d→p j=false
 |0,i,_,j,h1,h2=>by omega
 |d+1,i,h,j,h1,h2=>by
  simp only[fl]at h;by_cases hp:p i=true
  ·rw[if_pos hp]at h;cases h
  ·rw[if_neg hp]at h;by_cases hj:j=i
   ·subst hj;simpa using hp
   ·exact Dw d (i+1) h j (by omega) (by omega)
theorem Nq {p:Nat→Bool}:∀(d i:Nat),fl p (fun _=>true) false i d=true→∃j,i≤j∧j<i+d∧p j=true
 |0,_,h=>by simp[fl]at h
 |d+1,i,h=>by
  simp only[fl]at h;by_cases hp:p i=true
  ·exact⟨i,by omega,by omega,hp⟩
  ·rw[if_neg hp]at h;obtain⟨j,h1,h2,h3⟩:=Nq d (i+1) h;exact⟨j,by omega,by omega,h3⟩
theorem JZ {l:List ab} {i:Nat} (h:i<l.length):aK l (i:Int) ∈ l:=UQ h
theorem qw {l:List aj} {i:Nat} (h:i<l.length):ae l (i:Int) ∈ l:=UQ h
theorem alU (l:List ab) (i j:Nat) (h:j<i):aK (l.take i) (j:Int)=aK l (j:Int):=by
 simp only[aK,Int.toNat_natCast];rw[List.getD_eq_getElem?_getD,List.getD_eq_getElem?_getD,List.getElem?_take,if_pos h]
def named (l:List ab) (id:Int):Bool:=fl (fun i=>decide ((aK l (i:Int)).f1=id)) (fun _=>true) false 0 l.length
theorem alp (l:List ab) (h:l.length≤1048576) (id:Int):Ev (fun k=>oe.f k l id) (named l id):=by
 refine Ev.congr (fun k=>?_) (wC (fun i k=>oe.U k l id (i:Int)) l.length _ _ _ (fun i r hi hp h=>?_) (fun i hi hp=>?_) ?_)
 ·simp only[oe.f];rfl
 ·refine Ev.step (fun k=>?_) h;simp only[oe.U];rw[if_pos (by omega),if_pos (by omega),if_neg (by simpa using hp),jQ (n:=l.length) hi (by omega)]
 ·refine Ev.ends (fun k=>?_);simp only[oe.U];rw[if_pos (by omega),if_pos (by omega),if_pos (by simpa using hp)]
 ·refine Ev.ends (fun k=>?_);simp only[oe.U];rw[if_neg (by omega)]
theorem DG (l:List ab) (h:l.length≤1048576) (id:Int):Ev (fun k=>j5.f k l id) (named l id):=by
 refine Ev.congr (fun k=>?_) (wC (fun i k=>j5.U k id l (l.length:Int) (i:Int)) l.length _ _ _ (fun i r hi hp h=>?_) (fun i hi hp=>?_) ?_)
 ·simp only[j5.f];rfl
 ·refine Ev.step (fun k=>?_) h;simp only[j5.U];rw[if_pos (by omega),if_pos (by omega),if_pos (by omega),if_neg (by simpa using hp),jQ (n:=l.length) hi (by omega)]
 ·refine Ev.ends (fun k=>?_);simp only[j5.U];rw[if_pos (by omega),if_pos (by omega),if_pos (by omega),if_pos (by simpa using hp)]
 ·refine Ev.ends (fun k=>?_);simp only[j5.U];rw[if_neg (by omega)]
theorem OO {l:List ab} {id:Int} (h:named l id=true):id ∈ l.map (fun e=>e.f1):=by
 obtain⟨j,_,h2,h3⟩:=Nq _ _ h;simp only[decide_eq_true_eq]at h3;rw[←h3];exact List.mem_map.2 ⟨_,JZ (by omega),rfl⟩
def fK (l:List aj) (id:Int):Int:=fl (fun i=>decide ((ae l (i:Int)).f0=id)) (fun i=>(i:Int)) (-1) 0 l.length
theorem JA (l:List aj) (b c:List ab) (n:Int) (h:l.length≤1048576) (id:Int):Ev (fun k=>ie.f k l b c n id) (fK l id):=by
 refine Ev.congr (fun k=>?_) (wC (fun i k=>ie.U k id (i:Int) l b c n) l.length _ _ _ (fun i r hi hp h=>?_) (fun i hi hp=>?_) ?_)
 ·simp only[ie.f];rfl
 ·refine Ev.step (fun k=>?_) h;simp only[ie.U];rw[if_pos (by omega),if_pos (by omega),if_neg (by simpa using hp),jQ (n:=l.length) hi (by omega)]
 ·refine Ev.ends (fun k=>?_);simp only[ie.U];rw[if_pos (by omega),if_pos (by omega),if_pos (by simpa using hp)]
 ·refine Ev.ends (fun k=>?_);simp only[ie.U];rw[if_neg (by omega)]
theorem Jv (l:List aj) (b c:List ab) (n:Int) (h:l.length≤1048576) (id:Int):Ev (fun k=>jf.f k l b c n id) (fK l id):=by
 refine Ev.congr (fun k=>?_) (wC (fun i k=>jf.U k id l (l.length:Int) (i:Int)) l.length _ _ _ (fun i r hi hp h=>?_) (fun i hi hp=>?_) ?_)
 ·simp only[jf.f];rfl
 ·refine Ev.step (fun k=>?_) h;simp only[jf.U];rw[if_pos (by omega),if_pos (by omega),if_pos (by omega),if_neg (by simpa using hp),jQ (n:=l.length) hi (by omega)]
 ·refine Ev.ends (fun k=>?_);simp only[jf.U];rw[if_pos (by omega),if_pos (by omega),if_pos (by omega),if_pos (by simpa using hp)]
 ·refine Ev.ends (fun k=>?_);simp only[jf.U];rw[if_neg (by omega)]
theorem aeM (s:ByteArray) (i:Int):0≤bt s i∧bt s i≤255:=by
 unfold bt;split
 ·have:=UInt8.toNat_lt (s[i.toNat]'(by assumption));omega
 ·omega
def yn (c:Int):Bool:=decide (¬((97≤c∧c≤122)∨(48≤c∧c≤57)∨c=45∨c=46))
def fe (s:ByteArray):Bool:=decide (1≤(s.size:Int)∧(s.size:Int)≤12)&&fl (fun i=>yn (bt s (i:Int))) (fun _=>false) true 0 s.size
theorem X4 (k:Nat) (s:ByteArray) (i:Nat) (hi:i<s.size):gq.U (k+1) s (i:Int)=gq.j1 k s (i:Int) (yn (bt s (i:Int))):=by
 simp only[gq.U];rw[if_pos (by omega),if_pos (by omega)];generalize bt s (i:Int)=c
 unfold yn
 (repeat' split)<;>(congr 1;rw[Bool.eq_iff_iff];simp;omega)
theorem X3 (s:ByteArray) (h:s.size≤9223372036854775807):Ev (fun k=>gq.f k s) (fe s):=by
 have hn:fe s=fl (fun i=>yn (bt s (i:Int))) (fun _=>false) (decide (1≤(s.size:Int)∧(s.size:Int)≤12)) 0 s.size:=by
  unfold fe;rw[yC,yC,Bool.and_true,Bool.and_comm]
 rw[hn];refine Ev.congr (fun k=>?_) (wC (fun i k=>gq.U k s (i:Int)) s.size _ _ _ (fun i r hi hp h=>?_) (fun i hi hp=>?_) ?_)
 ·simp only[gq.f];rfl
 ·refine Ev.step (fun k=>X4 k s i hi) (Ev.step (f:=fun k=>gq.U k s ((i+1:Nat):Int)) (fun k=>?_) h);simp only[gq.j1];rw[if_neg (by simpa using hp),jQ (n:=s.size) hi (by omega)]
 ·refine Ev.step (fun k=>X4 k s i hi) (Ev.ends (fun k=>?_));simp only[gq.j1];rw[if_pos (by simpa using hp)]
 ·refine Ev.ends (fun k=>?_);simp only[gq.U,rh.f];rw[if_neg (by omega)];split<;>(simp only[Option.bind_some];congr 1;rw[Bool.eq_iff_iff];simp;omega)
theorem Zj (k:Nat) (s:ByteArray) (i:Nat) (hi:i<s.size):fu.U (k+1) s (i:Int)=fu.j1 k s (i:Int) (yn (bt s (i:Int))):=by
 have hb:=aeM s (i:Int);have hw:wrap64 (bt s (i:Int))=bt s (i:Int):=dO (by omega) (by omega);simp only[fu.U,lF.f,hw];rw[if_pos (by omega),if_pos (by omega)];generalize bt s (i:Int)=c
 unfold yn;by_cases a1:c≥97<;>by_cases a2:c≤122<;>by_cases a3:c≥48<;>by_cases a4:c≤57<;>by_cases a5:c=45<;>simp only[a1,a2,a3,a4,a5,if_true,if_false,Option.bind_some,decide_true,decide_false,Bool.false_eq_true,reduceIte]<;>first|rfl|(congr 1;done)|(congr 1;rw[Bool.eq_iff_iff];simp;done)|(congr 1;rw[Bool.eq_iff_iff];simp;omega)
theorem Qc (s:ByteArray) (h:s.size≤9223372036854775807):Ev (fun k=>fu.f k s) (fe s):=by
 have hl:Ev (fun k=>fu.U k s 0) (fl (fun i=>yn (bt s (i:Int))) (fun _=>false) true 0 s.size):=by
  refine wC (fun i k=>fu.U k s (i:Int)) s.size _ _ _ (fun i r hi hp h=>?_) (fun i hi hp=>?_) ?_
  ·refine Ev.step (fun k=>Zj k s i hi) (Ev.step (f:=fun k=>fu.U k s ((i+1:Nat):Int)) (fun k=>?_) h);simp only[fu.j1];rw[if_neg (by simpa using hp),jQ (n:=s.size) hi (by omega)]
  ·refine Ev.step (fun k=>Zj k s i hi) (Ev.ends (fun k=>?_));simp only[fu.j1];rw[if_pos (by simpa using hp)]
  ·refine Ev.ends (fun k=>?_);simp only[fu.U];rw[if_neg (by omega)]
 unfold fe;by_cases h1:1≤(s.size:Int)∧(s.size:Int)≤12
 ·rw[decide_eq_true h1,Bool.true_and];refine Ev.congr (fun k=>?_) hl;simp only[fu.f,lF.f];rw[if_pos (by omega),Option.bind_some,if_pos (by simpa using h1.2)]
 ·rw[decide_eq_false h1,Bool.false_and];refine Ev.all (fun k=>?_);simp only[fu.f,lF.f];split
  ·simp only[Option.bind_some];rw[if_neg (by simp;omega)]
  ·simp
def nr (ds:List aj) (l:List ab) (i:Nat):Bool:=
 !fe (aK l (i:Int)).f0 || decide (fK ds (aK l (i:Int)).f1<0) || (decide (0<i) && !Op.bytesLess (aK l ((i-1:Nat):Int)).f0.toList (aK l (i:Int)).f0.toList) || named (l.take i) (aK l (i:Int)).f1
def iB (ds:List aj) (l:List ab):Bool:=fl (nr ds l) (fun _=>false) (decide ((l.length:Int)≤30)) 0 l.length
def jz (ds:List aj) (ns ss:List ab) (nx:Int) (i:Nat):Bool:=
 !decide (1≤(ae ds (i:Int)).f0∧(ae ds (i:Int)).f0≤wrap64 (nx-1)) || !decide (0≤(ae ds (i:Int)).f2∧(ae ds (i:Int)).f2≤((ae ds (i:Int)).f1.length:Int)) || (decide (0<i)&&decide ((ae ds ((i-1:Nat):Int)).f0≥(ae ds (i:Int)).f0)) || (!named ns (ae ds (i:Int)).f0 && !named ss (ae ds (i:Int)).f0)
def jC (ds:List aj):Nat→Int
 |0=>0
 |i+1=>jC ds i+((ae ds (i:Int)).f1.length:Int)
theorem YG (ds:List aj) (hd:∀x ∈ ds,x.f1.length≤4194304):∀i,i≤ds.length→0≤jC ds i∧jC ds i≤(i:Int)*4194304
 |0,_=>by simp[jC]
 |i+1,h=>by
  have h1:=YG ds hd i (by omega);have h2:=hd _ (qw (show i<ds.length by omega));simp only[jC];omega
def oS (ds:List aj) (ns ss:List ab) (nx:Int):Bool:=!fl (jz ds ns ss nx) (fun _=>true) false 0 ds.length
def bO (ds:List aj) (ns ss:List ab) (nx:Int):Bool:=
 decide (1≤nx∧nx≤1000000)&&(oS ds ns ss nx&&(decide (jC ds ds.length≤60000)&&(iB ds ns&&iB ds ss)))
theorem X6 (a b c:Int):(if a≥b then (some (decide (a≤c))) else (some false))=some (decide (b≤a∧a≤c)):=by
 split
 ·congr 1;rw[Bool.eq_iff_iff];simp;omega
 ·congr 1;rw[Bool.eq_iff_iff];simp;omega
theorem YE:∀(n:Nat) (f:Nat→Int) (m:List Int),(∀i j,i<j→j<n→f i≠f j)→(∀i,i<n→f i ∈ m)→n≤m.length
 |0,_,_,_,_=>Nat.zero_le _
 |n+1,f,m,hne,hm=>by
  have hn:=hm n (by omega);have h:=YE n f (m.erase (f n)) (fun i j h1 h2=>hne i j h1 (by omega)) (fun i hi=>(List.mem_erase_of_ne (hne i n hi (by omega))).2 (hm i (by omega)));rw[List.length_erase_of_mem hn]at h;have:0<m.length:=List.length_pos_of_mem hn;omega
theorem HV {ds:List aj} {l:List ab} (h:iB ds l=true):l.length≤30:=by
 unfold iB at h;rw[yC,Bool.and_eq_true,decide_eq_true_eq]at h;omega
theorem tQ {ds:List aj} {ns ss:List ab} {nx:Int} (h:oS ds ns ss nx=true) (i:Nat) (hi:i<ds.length):jz ds ns ss nx i=false:=
 Dw _ _ (by simpa[oS] using h) i (by omega) (by omega)
theorem X9 {ds:List aj} {ns ss:List ab} {nx:Int} {i:Nat} (h:jz ds ns ss nx i=false) (hi:0<i):(ae ds ((i-1:Nat):Int)).f0<(ae ds (i:Int)).f0:=by
 unfold jz at h;rw[Bool.or_eq_false_iff,Bool.or_eq_false_iff,decide_eq_true hi,Bool.true_and,decide_eq_false_iff_not]at h;omega
theorem Ya {ds:List aj} {ns ss:List ab} {nx:Int} (h:oS ds ns ss nx=true):∀(d i:Nat),i+d+1<ds.length→(ae ds (i:Int)).f0<(ae ds ((i+d+1:Nat):Int)).f0
 |0,i,hi=>X9 (tQ h (i+1) (by omega)) (by omega)
 |d+1,i,hi=>by
  have h1:=Ya h d i (by omega);have h2:=X9 (tQ h (i+d+1+1) (by omega)) (by omega);rw[show i+d+1+1-1=i+d+1 from rfl]at h2;rw[show i+(d+1)+1=i+d+1+1 from by omega];omega
theorem No {ds:List aj} {ns ss:List ab} {nx:Int} (h:oS ds ns ss nx=true) (h1:iB ds ns=true) (h2:iB ds ss=true):ds.length≤60:=by
 have l1:=HV h1;have l2:=HV h2
 have hp:=YE ds.length (fun i=>(ae ds (i:Int)).f0) (ns.map (fun e=>e.f1)++ss.map (fun e=>e.f1)) (fun i j hij hj=>by
  have:=Ya h (j-i-1) i (by omega);have e:i+(j-i-1)+1=j:=by omega
  rw[e]at this;show (ae ds (i:Int)).f0≠(ae ds (j:Int)).f0;omega) (fun i hi=>by
  have hb:=tQ h i hi;unfold jz at hb;rw[Bool.or_eq_false_iff,Bool.and_eq_false_iff]at hb
  rcases hb.2 with hb|hb
  ·exact List.mem_append_left _ (OO (by simpa using hb))
  ·exact List.mem_append_right _ (OO (by simpa using hb)))
 rw[List.length_append,List.length_map,List.length_map]at hp;omega
structure Small (ds:List aj) (ns ss:List ab):Prop where
 h0:ds.length≤1048576
 hd:∀x ∈ ds,x.f1.length≤4194304
 h1:ns.length≤1048576
 h2:ss.length≤1048576
 z1:∀e ∈ ns,e.f0.size≤9223372036854775807
 z2:∀e ∈ ss,e.f0.size≤9223372036854775807
def BE (ds:List aj) (ns ss:List ab):Bool:=decide (ds.length≤1048576)&&(ds.all (fun x=>decide (x.f1.length≤4194304))&&(decide (ns.length≤1048576)&&(decide (ss.length≤1048576)&&(ns.all (fun e=>decide (e.f0.size≤9223372036854775807))&&ss.all (fun e=>decide (e.f0.size≤9223372036854775807))))))
theorem xi {ds:List aj} {ns ss:List ab}:BE ds ns ss=true↔Small ds ns ss:=by
 unfold BE;simp only[Bool.and_eq_true,decide_eq_true_eq,List.all_eq_true];exact⟨fun ⟨a,b,c,d,e,f⟩=>⟨a,b,c,d,e,f⟩,fun h=>⟨h.h0,h.hd,h.h1,h.h2,h.z1,h.z2⟩⟩
theorem AG {ρ:Type} {p:Nat→Bool} {s:Nat→ρ} {e:ρ} {i k:Nat} (h:p i=true):fl p s e i (k+1)=s i:=if_pos h
theorem Dx {ρ:Type} {p:Nat→Bool} {s:Nat→ρ} {e:ρ} {i k:Nat} (h:p i=false):fl p s e i (k+1)=fl p s e (i+1) k:=if_neg (by rw[h];decide)
theorem YF {ds:List aj} (hd:∀x ∈ ds,x.f1.length≤4194304) {i:Nat} (h:i<ds.length) (hl:ds.length≤1048576):wrap64 (jC ds i+((ae ds (i:Int)).f1.length:Int))=jC ds (i+1):=by
 have h1:=YG ds hd i (by omega);have h2:=hd _ (qw h);show _=jC ds i+_;unfold wrap64;omega
theorem alB {l:List ab} {i:Nat} (h:i≤l.length) (id:Int):named (l.take i) id=fl (fun j=>decide ((aK l (j:Int)).f1=id)) (fun _=>true) false 0 i:=by
 unfold named;rw[List.length_take,Nat.min_eq_left h];exact H4 i 0 (fun j _ hj=>by rw[alU l i j (by omega)])
theorem eN {w:World} {g:Nat} {t:TypeId} {u0 u1 u2 u3:Value} (h:w.heap[g]? = some (.cells #[u0,u1,u2,u3] t (0,0))):w.cell? ⟨g,0,none⟩=some u0∧w.cell? ⟨g,1,none⟩=some u1∧w.cell? ⟨g,2,none⟩=some u2∧w.cell? ⟨g,3,none⟩=some u3:=⟨mZ h 0,mZ h 1,mZ h 2,mZ h 3⟩
theorem TH {w:World} {ad:Addr} {n:Nat} {xs:List aj} {p:aj} (h:Kd.C bf w (some ad) n xs) {j:Nat} (hj:j<n) (de:Int) (e:de=(j:Int)) (hp:ae xs (j:Int)=p):w.cell? (ad.add (de.toNat*3))=some (.int .i64 p.f0):=by
 subst e hp;obtain⟨Mq,A',c',e2,z0,_⟩:=kO h (j:Int) (by omega) (by omega);obtain rfl:=Option.some.inj e2;exact z0
theorem TI {w:World} {ad:Addr} {n:Nat} {xs:List ab} {p:ab} (h:Kd.C ak w (some ad) n xs) {j:Nat} (hj:j<n) (de:Int) (e:de=(j:Int)) (hp:aK xs (j:Int)=p):w.cell? (ad.add (de.toNat*2))=some (.string p.f0):=by
 subst e hp;obtain⟨Mq,e2,z0,_⟩:=jw h (j:Int) (by omega) (by omega);obtain rfl:=Option.some.inj e2;exact z0
section
variable {w:World} {cs:Array Value} {d:Dk} {nm:ByteArray} {A:Option Addr} {c:Nat} {l:List ab}
theorem De (hn:nm.size≤9223372036854775807):Calls Tryz.prog 26 #[.string nm] w (fun e w'=>e = .returned (.bool (fe nm))∧Below w.heap.size w w'):=by
 obtain⟨K,hk⟩:=X3 nm hn;exact(gq.calls K nm _ w (hk K (Nat.le_refl _))).mono (fun e w' ⟨he,m,hd⟩=>⟨he,by subst hd;exact ff (Below.refl _ _) m⟩)
theorem Y7 (hn:nm.size≤9223372036854775807):Calls Tryz.prog 72 #[.string nm] w (fun e w'=>e = .returned (.bool (fe nm))∧Below w.heap.size w w'):=by
 obtain⟨K,hk⟩:=Qc nm hn;exact(fu.calls K nm _ w (hk K (Nat.le_refl _))).mono (fun e w' ⟨he,m,hd⟩=>⟨he,by subst hd;exact ff (Below.refl _ _) m⟩)
theorem ae5 (hd:cH cs d w) (h0:d.f0.length≤1048576) (id:Int):Calls Tryz.prog 35 #[.agg cs,.int .i64 id] w (fun e w'=>e = .returned (.int .i64 (fK d.f0 id))∧Below w.heap.size w w'):=by
 obtain⟨K,hk⟩:=Jv d.f0 d.f1 d.f2 d.f3 h0 id;obtain⟨A0,c0,A1,c1,A2,c2,rfl,U,g0,l1,g1,l2,g2⟩:=hd.open;exact jf.calls K _ _ _ _ _ _ _ _ _ _ id _ w g0 U g1 l1 g2 l2 (hk K (Nat.le_refl _))
theorem al6 (hd:cH cs d w) (h0:d.f0.length≤1048576) (id:Int):Calls Tryz.prog 74 #[.agg cs,.int .i64 id] w (fun e w'=>e = .returned (.int .i64 (fK d.f0 id))∧Below w.heap.size w w'):=by
 obtain⟨K,hk⟩:=JA d.f0 d.f1 d.f2 d.f3 h0 id;obtain⟨A0,c0,A1,c1,A2,c2,rfl,U,g0,l1,g1,l2,g2⟩:=hd.open;exact ie.calls K _ _ _ _ _ _ _ _ _ _ id _ w g0 U g1 l1 g2 l2 (hk K (Nat.le_refl _))
theorem MJ (hr:Kd.C ak w A l.length l) (hc:l.length≤c) (hl:l.length≤1048576) (id:Int):Calls Tryz.prog 39 #[.slice A l.length c,.int .i64 id] w (fun e w'=>e = .returned (.bool (named l id))∧Below w.heap.size w w'):=by
 obtain⟨K,hk⟩:=DG l hl id;exact j5.calls K A c l id _ w hr hc (hk K (Nat.le_refl _))
theorem J8 (hr:Kd.C ak w A l.length l) (hc:l.length≤c) (hl:l.length≤1048576) (id:Int):Calls Tryz.prog 108 #[.slice A l.length c,.int .i64 id] w (fun e w'=>e = .returned (.bool (named l id))∧Below w.heap.size w w'):=by
 obtain⟨K,hk⟩:=alp l hl id;exact(oe.calls K A c l id _ w hr hc (hk K (Nat.le_refl _))).mono (fun e w' ⟨he,m,hd⟩=>⟨he,by subst hd;exact ff (Below.refl _ _) m⟩)
theorem MK (x a b:Int):Calls Tryz.prog 38 #[.int .i64 x,.int .i64 a,.int .i64 b] w (fun e w'=>e = .returned (.bool (decide (a≤x∧x≤b)))∧Below w.heap.size w w'):=
 (rh.calls x a b _ w (X6 x a b)).mono (fun e w' ⟨he,m,hd⟩=>⟨he,by subst hd;exact ff (Below.refl _ _) m⟩)
theorem P3 (x a b:Int):Calls Tryz.prog 107 #[.int .i64 x,.int .i64 a,.int .i64 b] w (fun e w'=>e = .returned (.bool (decide (a≤x∧x≤b)))∧Below w.heap.size w w'):=
 (lF.calls x a b _ w (X6 x a b)).mono (fun e w' ⟨he,m,hd⟩=>⟨he,by subst hd;exact ff (Below.refl _ _) m⟩)
end
end Go.Proofs.YtingkpnoiekliaaGreat.MZ
end
