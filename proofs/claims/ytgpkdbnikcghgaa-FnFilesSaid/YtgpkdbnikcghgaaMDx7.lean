-- Written by mp.py, our own printer (wip/mp.py), and made shorter by wip/mp_shrink*.py.
import Derived.Test.YtgpkdbnikcghgaaVAll
import Derived.Test.YtgpkdbnikcghgaaMDx0
namespace Go.Proofs.Ytgpkdbnikcghgaa.MD
open Go.RowKit Go.Proofs.YtgpkdbnikcghgaaW.PrintWords Go.Proofs.YtgpkdbnikcghgaaW.PrintLast Go.Proofs.YtgpkdbnikcghgaaW.PrintMore Go.Proofs.Ytgpkdbnikcghgaa.MWords
attribute [local go_sem] max2_int min2_int max_two min_two max_three min_three max_four min_four
set_option linter.unusedVariables false
set_option linter.unusedSimpArgs false
def fm.f (a0:Int) (a1:Int) (a2:Int):Option (Bool):=if a0≥a1 then (some (decide (a0≤a2))) else (some false)
set_option maxHeartbeats 8000000 in
set_option maxRecDepth 100000 in
theorem fm.calls (a0:Int) (a1:Int) (a2:Int) (r:Bool) (w:World) (h:fm.f a0 a1 a2=some r) :
 Calls Try.prog 89 #[.int .i64 a0,.int .i64 a1,.int .i64 a2] w fun e w'=>e = .returned (.bool r)∧bC w w':=by
 have H:(if a0≥a1 then (some (decide (a0≤a2))) else (some false))=some r:=h;clear h;by_cases c4:a0≥a1
 ·rw[if_pos c4]at H;have lG:decide (a1≤a0)=true:=decide_eq_true c4;clear c4;obtain rfl:=Option.some.inj H;go_enter Try.func89,Try.ntmps89;go_wp2;go_ret;exact⟨mE,by repeat (first|exact bC.refl _|apply bC.step)⟩
 ·rw[if_neg c4]at H;have lG:decide (a1≤a0)=false:=decide_eq_false c4;clear c4;obtain rfl:=Option.some.inj H;go_enter Try.func89,Try.ntmps89;go_wp2;go_ret;exact⟨mE,by repeat (first|exact bC.refl _|apply bC.step)⟩
def eM.l0:Nat→List (ah)→Int→Int→Option (Bool)
 |0,_,_,_=>none
 |k+1,x0,x1,x5=>if x5<(x0.length:Int) then (if 0≤x5 then (if ((aw x0 x5).f1)=x1 then (some true) else (eM.l0 k x0 x1 (wrap64 (x5+1)))) else (none)) else (some false)
def eM.f (k:Nat) (l0:List (ah)) (a1:Int):Option (Bool):=eM.l0 k l0 a1 0
set_option maxHeartbeats 8000000 in
set_option maxRecDepth 100000 in
theorem eM.calls (k:Nat) (A0:Option Addr) (c0:Nat) (l0:List (ah)) (a1:Int) (r:Bool) (w:World) (e7:Kd.C ay w A0 l0.length l0) (gw:l0.length≤c0) (h:eM.f k l0 a1=some r) :
 Calls Try.prog 100 #[.slice A0 l0.length c0,.int .i64 a1] w fun e w'=>e = .returned (.bool r)∧bC w w':=by
 have jf:=J e7;have sh:=J gw;clear e7 gw;have H:(eM.l0 k l0 a1 0)=some r:=h;clear h;have H':=J H;clear H;go_enter Try.func100,Try.ntmps100;go_wp2;go_loopg [5] k (fun kq v5 w'=>∃(aJ:Int),v5 = .int .i64 aJ∧Aside0 (eM.l0 kq l0 a1 aJ=some r)∧Aside0 (kq≤k)∧bC w w')
 case atStart=>exact⟨(0),mE,H',⟨Nat.le_refl _⟩,by repeat (first|exact bC.refl _|apply bC.step)⟩
 case round=>
  clear H'
  obtain⟨aJ,rfl,HA,bA,⟨m1,rfl⟩⟩:=hrel;cases gk with
  |zero=>exact absurd HA.1 (by simp[eM.l0])
  |succ k1=>
   have H:=HA.1;clear HA;simp only[eM.l0]at H;by_cases c3:aJ<(l0.length:Int)
   ·rw[if_pos c3]at H;have l9:=decide_eq_true c3;clear c3;by_cases c4:0≤aJ
    ·rw[if_pos c4]at H;have lG:=decide_eq_true c4;clear c4;by_cases c5:((aw l0 aJ).f1)=a1
     ·rw[if_pos c5]at H;have j8:(((aw l0 aJ).f1) == a1)=true:=beq_iff_eq.mpr c5;have Bl:(((aw l0 aJ).f1) != a1)=false:=bne_eq_false_iff_eq.mpr c5;clear c5;obtain rfl:=Option.some.inj H;have BW:0≤(aJ:Int):=mD;have Cl:aJ<(l0.length:Int):=mD;obtain⟨ahL,QI,aon,aoo⟩:=iH jf.1 aJ BW Cl;cases QI
      replace BW:=eq_true BW;replace Cl:=eq_true Cl;go_wp2;go_ret;exact⟨mE,by repeat (first|exact bC.refl _|apply bC.step)⟩
     ·rw[if_neg c5]at H;have j8:(((aw l0 aJ).f1) == a1)=false:=beq_eq_false_iff_ne.mpr c5;have Bl:(((aw l0 aJ).f1) != a1)=true:=bne_iff_ne.mpr c5;have H':=J H;clear H;have BW:0≤(aJ:Int):=mD;have Cl:aJ<(l0.length:Int):=mD;obtain⟨ahL,QI,aon,aoo⟩:=iH jf.1 aJ BW Cl;cases QI
      replace BW:=eq_true BW;replace Cl:=eq_true Cl;go_wp2;go_roundg k1
      case measure=>have:=bA.1;omega
      case rel=>exact⟨(wrap64 (aJ+1)),mE,H',⟨by have:=bA.1;omega⟩,by repeat (first|exact bC.refl _|apply bC.step)⟩
    ·rw[if_neg c4]at H;exact absurd H (by simp)
   ·rw[if_neg c3]at H;have l9:=decide_eq_false c3;clear c3;obtain rfl:=Option.some.inj H;go_wp2;go_ret;exact⟨mE,by repeat (first|exact bC.refl _|apply bC.step)⟩
mutual
def e8.l0:Nat→ByteArray→Int→Option (Bool)
 |0,_,_=>none
 |k+1,x0,x3=>if x3<(x0.size:Int) then (if 0≤x3 then ((fm.f (wrap64 (bt x0 x3)) 97 122).bind fun t220=>(if t220=true then (e8.j1 k x0 x3 false) else ((fm.f (wrap64 (bt x0 x3)) 48 57).bind fun t221=>(if t221=true then (e8.j1 k x0 x3 false) else (if (wrap64 (bt x0 x3))=45 then (e8.j1 k x0 x3 false) else (e8.j1 k x0 x3 ((wrap64 (bt x0 x3)) != 46))))))) else (none)) else (some true)
def e8.j1:Nat→ByteArray→Int→Bool→Option (Bool)
 |0,_,_,_=>none
 |k+1,x0,x3,VR=>if VR=true then (some false) else (e8.l0 k x0 (wrap64 (x3+1)))
end
def e8.f (k:Nat) (a0:ByteArray):Option (Bool):=(fm.f (a0.size:Int) 1 12).bind fun t219=>(if t219=true then (e8.l0 k a0 0) else (some false))
set_option maxHeartbeats 8000000 in
set_option maxRecDepth 100000 in
theorem e8.calls (k:Nat) (a0:ByteArray) (r:Bool) (w:World) (h:e8.f k a0=some r) :
 Calls Try.prog 48 #[.string a0] w fun e w'=>e = .returned (.bool r)∧bC w w':=by
 have H:((fm.f (a0.size:Int) 1 12).bind fun t219=>(if t219=true then (e8.l0 k a0 0) else (some false)))=some r:=h;clear h;replace H:=Option.bind_eq_some_iff.mp H;obtain⟨t219,nt,H⟩:=H;replace H:(if t219=true then (e8.l0 k a0 0) else (some false))=some r:=H;have A2:=J nt;clear nt;by_cases c3:t219=true
 ·subst c3;have H1:=H;rw[if_pos rfl]at H1;clear H;have H:=H1;clear H1;have H':=J H;clear H;go_enter Try.func48,Try.ntmps48;go_wp2_with (first|((with_reducible refine bo (f:=89) rfl ?_);refine cl 7 Try.func89 #[.int .i64 (a0.size:Int),.int .i64 1,.int .i64 12] ?_;(with_reducible refine(fm.calls (a0.size:Int) 1 12 true _ A2.1).mono ?_);rintro e w' ⟨rfl,⟨nd,rfl⟩⟩;refine⟨_,rfl,?_⟩));go_loopg [3] k (fun kq v3 w'=>∃(a8:Int),v3 = .int .i64 a8∧Aside0 (e8.l0 kq a0 a8=some r)∧Aside0 (kq≤k)∧bC w w')
  case atStart=>exact⟨(0),mE,H',⟨Nat.le_refl _⟩,by repeat (first|exact bC.refl _|apply bC.step)⟩
  case round=>
   clear H'
   try clear c3
   obtain⟨a8,rfl,HA,bA,⟨m1,rfl⟩⟩:=hrel;cases gk with
   |zero=>exact absurd HA.1 (by simp[e8.l0])
   |succ k1=>
    have H:=HA.1;clear HA;simp only[e8.l0]at H;by_cases c4:a8<(a0.size:Int)
    ·rw[if_pos c4]at H;have lG:=decide_eq_true c4;clear c4;by_cases c5:0≤a8
     ·rw[if_pos c5]at H;have j8:=decide_eq_true c5;clear c5;have qe:=J H;clear H;have p6:0≤(a8:Int):=mD;have q6:a8<(a0.size:Int):=mD;have hx6:=YD a0 a8;replace p6:=eq_true p6;replace q6:=eq_true q6;go_upto_region 7 with (fail)
      go_cut [34] (fun v34 wc=>∃(kq:Nat) (N1:Bool),v34 = .bool N1∧Aside0 (e8.j1 kq a0 a8 N1=some r)∧Aside0 (kq≤k1)∧bC w wc)
      case first=>
       have H:=qe.1;clear qe;replace H:=Option.bind_eq_some_iff.mp H;obtain⟨t220,EU,H⟩:=H;replace H:(if t220=true then (e8.j1 k1 a0 a8 false) else ((fm.f (wrap64 (bt a0 a8)) 48 57).bind fun t221=>(if t221=true then (e8.j1 k1 a0 a8 false) else (if (wrap64 (bt a0 a8))=45 then (e8.j1 k1 a0 a8 false) else (e8.j1 k1 a0 a8 ((wrap64 (bt a0 a8)) != 46))))))=some r:=H;have A8:=J EU;clear EU;by_cases c9:t220=true
       ·subst c9;have H1:=H;rw[if_pos rfl]at H1;clear H;have H:=H1;clear H1;have H':=J H;clear H;go_wp2_with (first|((with_reducible refine bo (f:=89) rfl ?_);refine cl 20 Try.func89 #[.int .i64 (wrap64 (bt a0 a8)),.int .i64 97,.int .i64 122] ?_;(with_reducible refine(fm.calls (wrap64 (bt a0 a8)) 97 122 true _ A8.1).mono ?_);rintro e w' ⟨rfl,⟨nd,rfl⟩⟩;refine⟨_,rfl,?_⟩));go_meet
        case rel=>exact⟨_,(false),mE,H',⟨by have:=bA.1;first|omega|exact Nat.le_refl _⟩,by repeat (first|exact bC.refl _|apply bC.step)⟩
       ·replace c9:=Bool.eq_false_iff.mpr c9;subst c9;have H1:=H;rw[if_neg (show ¬(false=true) by decide)]at H1;clear H;have H:=H1;clear H1;replace H:=Option.bind_eq_some_iff.mp H;obtain⟨t221,qS,H⟩:=H;replace H:(if t221=true then (e8.j1 k1 a0 a8 false) else (if (wrap64 (bt a0 a8))=45 then (e8.j1 k1 a0 a8 false) else (e8.j1 k1 a0 a8 ((wrap64 (bt a0 a8)) != 46))))=some r:=H;have tN:=J qS;clear qS;by_cases jm:t221=true
        ·subst jm;have H1:=H;rw[if_pos rfl]at H1;clear H;have H:=H1;clear H1;have H':=J H;clear H;go_wp2_with (first|((with_reducible refine bo (f:=89) rfl ?_);refine cl 20 Try.func89 #[.int .i64 (wrap64 (bt a0 a8)),.int .i64 97,.int .i64 122] ?_;(with_reducible refine(fm.calls (wrap64 (bt a0 a8)) 97 122 false _ A8.1).mono ?_);rintro e w' ⟨rfl,⟨nd,rfl⟩⟩;refine⟨_,rfl,?_⟩)|(go_at_call 89;(with_reducible refine(fm.calls (wrap64 (bt a0 a8)) 48 57 true _ tN.1).mono ?_);rintro e w' ⟨rfl,⟨nd,rfl⟩⟩));go_meet
         case rel=>exact⟨_,(false),mE,H',⟨by have:=bA.1;first|omega|exact Nat.le_refl _⟩,by repeat (first|exact bC.refl _|apply bC.step)⟩
        ·replace jm:=Bool.eq_false_iff.mpr jm;subst jm;have H1:=H;rw[if_neg (show ¬(false=true) by decide)]at H1;clear H;have H:=H1;clear H1;by_cases gO:(wrap64 (bt a0 a8))=45
         ·rw[if_pos gO]at H;have vO:((wrap64 (bt a0 a8)) == 45)=true:=beq_iff_eq.mpr gO;have ah8:((wrap64 (bt a0 a8)) != 45)=false:=bne_eq_false_iff_eq.mpr gO;clear gO
          (first|rw[vO]|(simp only[iq,jJ];rw[vO])|skip)
          have H':=J H;clear H;go_wp2_with (first|((with_reducible refine bo (f:=89) rfl ?_);refine cl 20 Try.func89 #[.int .i64 (wrap64 (bt a0 a8)),.int .i64 97,.int .i64 122] ?_;(with_reducible refine(fm.calls (wrap64 (bt a0 a8)) 97 122 false _ A8.1).mono ?_);rintro e w' ⟨rfl,⟨nd,rfl⟩⟩;refine⟨_,rfl,?_⟩)|(go_at_call 89;(with_reducible refine(fm.calls (wrap64 (bt a0 a8)) 48 57 false _ tN.1).mono ?_);rintro e w' ⟨rfl,⟨nd,rfl⟩⟩));go_meet
          case rel=>exact⟨_,(false),mE,H',⟨by have:=bA.1;first|omega|exact Nat.le_refl _⟩,by repeat (first|exact bC.refl _|apply bC.step)⟩
         ·rw[if_neg gO]at H;have vO:((wrap64 (bt a0 a8)) == 45)=false:=beq_eq_false_iff_ne.mpr gO;have ah8:((wrap64 (bt a0 a8)) != 45)=true:=bne_iff_ne.mpr gO
          (first|rw[vO]|(simp only[iq,jJ];rw[vO])|skip)
          have H':=J H;clear H;go_wp2_with (first|((with_reducible refine bo (f:=89) rfl ?_);refine cl 20 Try.func89 #[.int .i64 (wrap64 (bt a0 a8)),.int .i64 97,.int .i64 122] ?_;(with_reducible refine(fm.calls (wrap64 (bt a0 a8)) 97 122 false _ A8.1).mono ?_);rintro e w' ⟨rfl,⟨nd,rfl⟩⟩;refine⟨_,rfl,?_⟩)|(go_at_call 89;(with_reducible refine(fm.calls (wrap64 (bt a0 a8)) 48 57 false _ tN.1).mono ?_);rintro e w' ⟨rfl,⟨nd,rfl⟩⟩));go_meet
          case rel=>exact⟨_,(((wrap64 (bt a0 a8)) != 46)),mE,H',⟨by have:=bA.1;first|omega|exact Nat.le_refl _⟩,by repeat (first|exact bC.refl _|apply bC.step)⟩
      case rest=>
       clear qe
       try clear c3
       try clear c4
       try clear lG
       try clear c5
       try clear j8
       try clear p6
       try clear q6
       try clear hx6
       try clear p6
       try clear q6
       obtain⟨kq,N1,rfl,HA,qf,⟨mc6,rfl⟩⟩:=hcut;cases kq with
       |zero=>exact absurd HA.1 (by simp[e8.j1])
       |succ zX=>
        have H:=HA.1;clear HA;simp only[e8.j1]at H;by_cases jx:N1=true
        ·subst jx;have H1:=H;rw[if_pos rfl]at H1;clear H;have H:=H1;clear H1;obtain rfl:=Option.some.inj H;go_wp2;go_ret;exact⟨mE,by repeat (first|exact bC.refl _|apply bC.step)⟩
        ·replace jx:=Bool.eq_false_iff.mpr jx;subst jx;have H1:=H;rw[if_neg (show ¬(false=true) by decide)]at H1;clear H;have H:=H1;clear H1;have H':=J H;clear H;go_wp2;go_roundg zX
         case measure=>have:=bA.1;have:=qf.1;omega
         case rel=>exact⟨(wrap64 (a8+1)),mE,H',⟨by have:=bA.1;have:=qf.1;omega⟩,by repeat (first|exact bC.refl _|apply bC.step)⟩
     ·rw[if_neg c5]at H;exact absurd H (by simp)
    ·rw[if_neg c4]at H;have lG:=decide_eq_false c4;clear c4;obtain rfl:=Option.some.inj H;go_wp2;go_ret;exact⟨mE,by repeat (first|exact bC.refl _|apply bC.step)⟩
 ·replace c3:=Bool.eq_false_iff.mpr c3;subst c3;have H1:=H;rw[if_neg (show ¬(false=true) by decide)]at H1;clear H;have H:=H1;clear H1;obtain rfl:=Option.some.inj H;go_enter Try.func48,Try.ntmps48;go_wp2_with (first|((with_reducible refine bo (f:=89) rfl ?_);refine cl 7 Try.func89 #[.int .i64 (a0.size:Int),.int .i64 1,.int .i64 12] ?_;(with_reducible refine(fm.calls (a0.size:Int) 1 12 false _ A2.1).mono ?_);rintro e w' ⟨rfl,⟨nd,rfl⟩⟩;refine⟨_,rfl,?_⟩));go_ret;exact⟨mE,by repeat (first|exact bC.refl _|apply bC.step)⟩
def jo.l0:Nat→Int→Int→List (aj)→List (ah)→List (ah)→Int→Option (Int)
 |0,_,_,_,_,_,_=>none
 |k+1,x1,x5,VO,aq6,aq7,aq8=>if x5<(VO.length:Int) then (if 0≤x5 then (if ((aa VO x5).f0)=x1 then (some x5) else (jo.l0 k x1 (wrap64 (x5+1)) VO aq6 aq7 aq8)) else (none)) else (some (-1))
def jo.f (k:Nat) (U:List (aj)) (ab:List (ah)) (ae:List (ah)) (af:Int) (a1:Int):Option (Int):=jo.l0 k a1 0 U ab ae af
set_option maxHeartbeats 8000000 in
set_option maxRecDepth 100000 in
theorem jo.calls (k:Nat) (av:Option Addr) (al:Nat) (U:List (aj)) (ao:Option Addr) (an:Nat) (ab:List (ah)) (aq:Option Addr) (ar:Nat) (ae:List (ah)) (af:Int) (a1:Int) (r:Int) (w:World) (cT:Kd.C bj w av U.length U) (cQ:U.length≤al) (cU:Kd.C ay w ao ab.length ab) (cR:ab.length≤an) (cV:Kd.C ay w aq ae.length ae) (cS:ae.length≤ar) (h:jo.f k U ab ae af a1=some r) :
 Calls Try.prog 68 #[.agg #[.slice av U.length al,.slice ao ab.length an,.slice aq ae.length ar,.int .i64 af],.int .i64 a1] w fun e w'=>e = .returned (.int .i64 r)∧Below w.heap.size w w':=by
 have kx:=Try.underlying30;have bG:=J cT;have cf:=J cQ;clear cT cQ;have bE:=J cU;have bO:=J cR;clear cU cR;have bL:=J cV;have b6:=J cS;clear cV cS;have HB:=J (Below.refl w.heap.size w);have H:(jo.l0 k a1 0 U ab ae af)=some r:=h;clear h;have H':=J H;clear H;go_enter Try.func68,Try.ntmps68;go_wp2_with (first|((with_reducible refine bk (N:=2) rfl ?_);refine bF 2 #[.slice av U.length al,.slice ao ab.length an,.slice aq ae.length ar,.int .i64 af] 30 ?_;intro aj1 hg w3 hbox hb;have CW:=J (hbox);have arA:=mG hg (mH HB.1);have J1:=mG hg (mH HB.1);replace HB:=J (aK (mH HB.1) hb);clear hb hbox hg));go_loopg [5] k (fun kq v5 w'=>∃(aJ:Int),v5 = .int .i64 aJ∧Aside0 (jo.l0 kq a1 aJ U ab ae af=some r)∧Aside0 (kq≤k)∧Aside0 (w'.heap[aj1]? = some (.cells #[(.slice av U.length al),(.slice ao ab.length an),(.slice aq ae.length ar),.int .i64 af] 30 (0,0)))∧Aside0 (Below w.heap.size w w'))
 case atStart=>exact⟨(0),mE,H',⟨Nat.le_refl _⟩,⟨mK CW.1⟩,⟨(aM HB.1 J1.1)⟩⟩
 case round=>
  clear H'
  obtain⟨aJ,rfl,HA,bA,CW,HB⟩:=hrel;cases gk with
  |zero=>exact absurd HA.1 (by simp[jo.l0])
  |succ k1=>
   have H:=HA.1;clear HA;simp only[jo.l0]at H;by_cases c4:aJ<(U.length:Int)
   ·rw[if_pos c4]at H;have lG:=decide_eq_true c4;clear c4;by_cases c5:0≤aJ
    ·rw[if_pos c5]at H;have j8:=decide_eq_true c5;clear c5;by_cases c6:((aa U aJ).f0)=a1
     ·rw[if_pos c6]at H;have jU:(((aa U aJ).f0) == a1)=true:=beq_iff_eq.mpr c6;have Dy:(((aa U aJ).f0) != a1)=false:=bne_eq_false_iff_eq.mpr c6;clear c6;obtain rfl:=Option.some.inj H;obtain⟨Sf,Sg,Sh,Si,S6,S7,S8,S9⟩:=aX CW.1;have BX:0≤(aJ:Int):=mD;have Cn:aJ<(U.length:Int):=mD;obtain⟨ahM,aeS,ail,QJ,H0,H2,H3,Hn,He⟩:=iW bG.1 aJ BX Cn;cases QJ
      replace H0:=mX HB.1 H0;replace H2:=mX HB.1 H2;replace H3:=mX HB.1 H3;have afZ:=J He;have afB:=J Hn;clear He Hn;replace BX:=eq_true BX;replace Cn:=eq_true Cn;go_wp2;go_ret;exact⟨de,(aM HB.1 J1.1)⟩
     ·rw[if_neg c6]at H;have jU:(((aa U aJ).f0) == a1)=false:=beq_eq_false_iff_ne.mpr c6;have Dy:(((aa U aJ).f0) != a1)=true:=bne_iff_ne.mpr c6;have H':=J H;clear H;obtain⟨GL,GM,LU,LV,G5,G6,Mi,Mj⟩:=aX CW.1;have BX:0≤(aJ:Int):=mD;have Cn:aJ<(U.length:Int):=mD;obtain⟨ahM,aeS,ail,QJ,H0,H2,H3,Hn,He⟩:=iW bG.1 aJ BX Cn;cases QJ
      replace H0:=mX HB.1 H0;replace H2:=mX HB.1 H2;replace H3:=mX HB.1 H3;have afZ:=J He;have afB:=J Hn;clear He Hn;replace BX:=eq_true BX;replace Cn:=eq_true Cn;go_wp2;go_roundg k1
      case measure=>have:=bA.1;omega
      case rel=>exact⟨(wrap64 (aJ+1)),mE,H',⟨by have:=bA.1;omega⟩,⟨mK CW.1⟩,⟨(aM HB.1 J1.1)⟩⟩
    ·rw[if_neg c5]at H;exact absurd H (by simp)
   ·rw[if_neg c4]at H;have lG:=decide_eq_false c4;clear c4;obtain rfl:=Option.some.inj H;obtain⟨GN,GO,GP,GQ,G7,G8,G9,Ha⟩:=aX CW.1;go_wp2;go_ret;exact⟨de,(aM HB.1 J1.1)⟩
mutual
def cr.l0:Nat→List (ah)→Int→List (aj)→List (ah)→List (ah)→Int→Option (Bool)
 |0,_,_,_,_,_,_=>none
 |k+1,x1,x5,wO,wP,wQ,wR=>if x5<(x1.length:Int) then (if 0≤x5 then ((e8.f k ((aw x1 x5).f0)).bind fun t226=>(if t226=true then ((jo.f k wO wP wQ wR ((aw x1 x5).f1)).bind fun t228=>(if t228<0 then (cr.j1 k x1 x5 true wO wP wQ wR) else (if x5>0 then (if 0≤(wrap64 (x5-1)) then (if (wrap64 (x5-1))<(x1.length:Int) then (cr.j1 k x1 x5 (!(Op.bytesLess (((aw x1 (wrap64 (x5-1))).f0).toList) (((aw x1 x5).f0).toList))) wO wP wQ wR) else (none)) else (none)) else (cr.j1 k x1 x5 false wO wP wQ wR)))) else (cr.j1 k x1 x5 true wO wP wQ wR))) else (none)) else (some (decide ((x1.length:Int)≤30)))
def cr.j1:Nat→List (ah)→Int→Bool→List (aj)→List (ah)→List (ah)→Int→Option (Bool)
 |0,_,_,_,_,_,_,_=>none
 |k+1,x1,x5,VT,wO,wP,wQ,wR=>if VT=true then (some false) else (cr.l1 k x1 x5 0 wO wP wQ wR)
def cr.l1:Nat→List (ah)→Int→Int→List (aj)→List (ah)→List (ah)→Int→Option (Bool)
 |0,_,_,_,_,_,_,_=>none
 |k+1,x1,x5,x6,wO,wP,wQ,wR=>if x6<x5 then (if 0≤x6 then (if x6<(x1.length:Int) then (if 0≤x5 then (if x5<(x1.length:Int) then (if ((aw x1 x6).f1)=((aw x1 x5).f1) then (some false) else (cr.l1 k x1 x5 (wrap64 (x6+1)) wO wP wQ wR)) else (none)) else (none)) else (none)) else (none)) else (cr.l0 k x1 (wrap64 (x5+1)) wO wP wQ wR)
end
def cr.f (k:Nat) (U:List (aj)) (ab:List (ah)) (ae:List (ah)) (af:Int) (l1:List (ah)):Option (Bool):=cr.l0 k l1 0 U ab ae af
def cr.T4:Bool × List (List Nat × List Nat):=(true,[([],[]),([],[]),([0,1],[0,1]),([2],[2]),([3],[3]),([4],[4]),([5],[5]),([6,5],[6]),([7],[7]),([7],[7]),([7],[7]),([9,10,7],[7,9,10]),([11,7],[7,11]),([12,7],[7,12]),([8,13,7,7],[7,8,13]),([14,7],[7,14]),([7,15],[7,15]),([16,14],[16]),([17],[17]),([18,17],[17,18]),([19,17,17],[17,19]),([20],[20]),([20],[20]),([22,20],[20,22]),([21,23,20],[20,21,23]),([24,20],[20,24]),([25,20],[20,25]),([20],[20]),([20],[20]),([27,28,20],[20,27,28]),([29,20],[20,29]),([30,20],[20,30]),([26,31,20],[20,26,31]),([20,32,17],[17,20,32]),([17,33],[17,33])])
def cr.B4:List Nat:=[0,0,3,7,15,31,63,127,255,255,255,1791,3839,7935,16383,32767,65535,131071,262143,524287,1048575,2097151,2097151,6291455,16777215,33554431,67108863,2097151,2097151,404750335,941621247,2015363071,4294967295,8589934591,17179869183]
theorem cr.rV:eQ .any (opsOf Try.f101 4)=cr.T4:=by kernel_rfl
theorem cr.ra:jX cr.T4.2 cr.B4=true:=by kernel_rfl
def cr.T9:Bool × List (List Nat × List Nat):=(true,[([],[]),([],[]),([0,1],[0,1]),([2],[2]),([3],[3]),([],[]),([],[]),([5,6],[5,6]),([7],[7]),([8],[8]),([4,9],[4,9])])
def cr.B9:List Nat:=[0,0,3,7,15,0,0,96,224,480,1023]
theorem cr.NC:eQ .any (opsOf Try.f101 9)=cr.T9:=by kernel_rfl
theorem cr.KA:jX cr.T9.2 cr.B9=true:=by kernel_rfl
set_option maxHeartbeats 8000000 in
set_option maxRecDepth 100000 in
theorem cr.calls (k:Nat) (av:Option Addr) (al:Nat) (U:List (aj)) (ao:Option Addr) (an:Nat) (ab:List (ah)) (aq:Option Addr) (ar:Nat) (ae:List (ah)) (af:Int) (A1:Option Addr) (c1:Nat) (l1:List (ah)) (r:Bool) (w:World) (cT:Kd.C bj w av U.length U) (cQ:U.length≤al) (cU:Kd.C ay w ao ab.length ab) (cR:ab.length≤an) (cV:Kd.C ay w aq ae.length ae) (cS:ae.length≤ar) (kv:Kd.C ay w A1 l1.length l1) (ow:l1.length≤c1) (h:cr.f k U ab ae af l1=some r) :
 Calls Try.prog 101 #[.agg #[.slice av U.length al,.slice ao ab.length an,.slice aq ae.length ar,.int .i64 af],.slice A1 l1.length c1] w fun e w'=>e = .returned (.bool r)∧Below w.heap.size w w':=by
 have kx:=Try.underlying30;have bG:=J cT;have cf:=J cQ;clear cT cQ;have bE:=J cU;have bO:=J cR;clear cU cR;have bL:=J cV;have b6:=J cS;clear cV cS;have jE:=J kv;have AK:=J ow;clear kv ow;have HB:=J (Below.refl w.heap.size w);have H:(cr.l0 k l1 0 U ab ae af)=some r:=h;clear h;have H':=J H;clear H;go_enter Try.func101,Try.ntmps101;go_wp2_with (first|((with_reducible refine bk (N:=2) rfl ?_);refine bF 2 #[.slice av U.length al,.slice ao ab.length an,.slice aq ae.length ar,.int .i64 af] 30 ?_;intro qy hg w3 hbox hb;have fI:=J (hbox);have arB:=mG hg (mH HB.1);have lR:=mG hg (mH HB.1);replace HB:=J (aK (mH HB.1) hb);clear hb hbox hg));go_loopg [5] k (fun kq v5 w'=>∃(aJ:Int),v5 = .int .i64 aJ∧Aside0 (cr.l0 kq l1 aJ U ab ae af=some r)∧Aside0 (kq≤k)∧Aside0 (w'.heap[qy]? = some (.cells #[(.slice av U.length al),(.slice ao ab.length an),(.slice aq ae.length ar),.int .i64 af] 30 (0,0)))∧Aside0 (Below w.heap.size w w'))
 case atStart=>exact⟨(0),mE,H',⟨Nat.le_refl _⟩,⟨mK fI.1⟩,⟨(aM HB.1 lR.1)⟩⟩
 case round=>
  clear H'
  try clear c1
  obtain⟨aJ,rfl,HA,bA,fI,HB⟩:=hrel;cases gk with
  |zero=>exact absurd HA.1 (by simp[cr.l0])
  |succ k1=>
   have H:=HA.1;clear HA;simp only[cr.l0]at H;by_cases c4:aJ<(l1.length:Int)
   ·rw[if_pos c4]at H;have lG:=decide_eq_true c4;clear c4;have tX:=J H;clear H;go_upto_region 4 with (fail)
    go_cut [47] (fun VE wc=>∃(kq:Nat) (N4:Bool),VE = .bool N4∧Aside0 (cr.j1 kq l1 aJ N4 U ab ae af=some r)∧Aside0 (kq≤k1)∧Aside0 (wc.heap[qy]? = some (.cells #[(.slice av U.length al),(.slice ao ab.length an),(.slice aq ae.length ar),.int .i64 af] 30 (0,0)))∧Aside0 (Below w.heap.size w wc))
    case first=>
     have H:=tX.1;clear tX;by_cases c6:0≤aJ
     ·rw[if_pos c6]at H;have jU:=decide_eq_true c6;clear c6
      (first|rw[jU]|(simp only[iq,jJ];rw[jU])|skip)
      replace H:=Option.bind_eq_some_iff.mp H;obtain⟨t226,yP,H⟩:=H;replace H:(if t226=true then ((jo.f k1 U ab ae af ((aw l1 aJ).f1)).bind fun t228=>(if t228<0 then (cr.j1 k1 l1 aJ true U ab ae af) else (if aJ>0 then (if 0≤(wrap64 (aJ-1)) then (if (wrap64 (aJ-1))<(l1.length:Int) then (cr.j1 k1 l1 aJ (!(Op.bytesLess (((aw l1 (wrap64 (aJ-1))).f0).toList) (((aw l1 aJ).f0).toList))) U ab ae af) else (none)) else (none)) else (cr.j1 k1 l1 aJ false U ab ae af)))) else (cr.j1 k1 l1 aJ true U ab ae af))=some r:=H;have A7:=J yP;clear yP;by_cases c8:t226=true
      ·subst c8;have H1:=H;rw[if_pos rfl]at H1;clear H;have H:=H1;clear H1;replace H:=Option.bind_eq_some_iff.mp H;obtain⟨t228,yQ,H⟩:=H;replace H:(if t228<0 then (cr.j1 k1 l1 aJ true U ab ae af) else (if aJ>0 then (if 0≤(wrap64 (aJ-1)) then (if (wrap64 (aJ-1))<(l1.length:Int) then (cr.j1 k1 l1 aJ (!(Op.bytesLess (((aw l1 (wrap64 (aJ-1))).f0).toList) (((aw l1 aJ).f0).toList))) U ab ae af) else (none)) else (none)) else (cr.j1 k1 l1 aJ false U ab ae af)))=some r:=H;have A9:=J yQ;clear yQ;by_cases jF:t228<0
       ·rw[if_pos jF]at H;have Dt:=decide_eq_true jF;clear jF;have H':=J H;clear H
        try go_wp2
        replace fI:=J (bR fI.1);replace HB:=J (cP HB.1);have qG:0≤(aJ:Int):=mD;have qI:aJ<(l1.length:Int):=mD;obtain⟨iG,Bn,ox,oy⟩:=iH jE.1 aJ qG qI;have rr:=oy;have rq:=ox;cases Bn
        replace ox:=mX HB.1 ox;replace oy:=mX HB.1 oy;replace qG:=eq_true qG;replace qI:=eq_true qI;have uQ:0≤(aJ:Int):=mD;have uS:aJ<(l1.length:Int):=mD;obtain⟨FT,Gf,rz,rA⟩:=iH jE.1 aJ uQ uS;have uK:=rA;have uJ:=rz;obtain rfl:iG=FT:=(by injection Gf);replace rz:=mX HB.1 rz;replace rA:=mX HB.1 rA;replace uQ:=eq_true uQ;replace uS:=eq_true uS;refine ee (n:=35) (S:=fun w'=>w'.cell? ⟨qy,0,none⟩=some (.slice av U.length al)∧w'.cell? ⟨qy,1,none⟩=some (.slice ao ab.length an)∧w'.cell? ⟨qy,2,none⟩=some (.slice aq ae.length ar)∧w'.cell? ⟨qy,3,none⟩=some (.int .i64 af)∧w'.cell? (iG.add ((aJ).toNat*2))=some (.string ((aw l1 aJ).f0))∧w'.cell? ⟨(iG.add ((aJ).toNat*2)).block,(iG.add ((aJ).toNat*2)).off+1,none⟩=some (.int .i64 ((aw l1 aJ).f1))∧w'.cell? (iG.add ((aJ).toNat*2))=some (.string ((aw l1 aJ).f0))∧w'.cell? ⟨(iG.add ((aJ).toNat*2)).block,(iG.add ((aJ).toNat*2)).off+1,none⟩=some (.int .i64 ((aw l1 aJ).f1))) (ds:=[]) (mb 0 35) (by kernel_rfl) rfl rfl (ey fI.1 ⟨(mX HB.1 rq :),⟨(mX HB.1 rr :),⟨(mX HB.1 uJ :),(mX HB.1 uK :)⟩⟩⟩) (fun hHeld=>?_);refine fc cr.rV cr.ra (fun HT_ HW_=>?_);generalize wr.drew=iQ at fI HB ox oy rz rA hHeld ⊢
        refine ai 0 13 HT_.1 (mb 1 34) ?_;refine ai 1 14 HT_.1 (mb 2 33) ?_;refine ai 2 15 HT_.1 (mb 3 32) ?_;refine ai 3 16 HT_.1 (mb 4 31) ?_;refine aQ 4 17 HT_.1 HW_.1 (mb 5 30) hHeld ?_;refine bV 5 (some 18) HT_.1 (mb 6 29) (fun K hK=>?_);refine dd Try.func48 (by kernel_rfl) rfl #[.string ((aw l1 aJ).f0)] (by rfl) rfl rfl mA ?_
        with_reducible refine(e8.calls k1 ((aw l1 aJ).f0) true _ A7.1).mono ?_
        rintro e w' ⟨rfl,⟨nd,rfl⟩⟩;refine⟨_,rfl,?_⟩;refine hK.out _ _ (ey fI.1 ⟨(mX HB.1 rq :),⟨(mX HB.1 rr :),⟨(mX HB.1 uJ :),(mX HB.1 uK :)⟩⟩⟩) (fun hHeld=>?_);clear hK K;refine bp 18 ?_;refine ai 6 19 HT_.1 (mb 7 28) ?_;refine ai 7 20 HT_.1 (mb 8 27) ?_;refine ai 9 22 HT_.1 (mr [8,1,1,25]) ?_;refine ai 10 23 HT_.1 (mr [8,1,2,24]) ?_;refine ai 11 24 HT_.1 (mr [8,1,3,23]) ?_;refine ai 12 25 HT_.1 (mr [8,1,4,22]) ?_;refine aQ 8 21 HT_.1 HW_.1 (mb 13 22) hHeld ?_;refine aQ 13 26 HT_.1 HW_.1 (mb 14 21) hHeld ?_;refine bV 14 (some 27) HT_.1 (mb 15 20) (fun K hK=>?_);refine dd Try.func68 (by kernel_rfl) rfl #[.agg #[.slice av U.length al,.slice ao ab.length an,.slice aq ae.length ar,.int .i64 af],.int .i64 ((aw l1 aJ).f1)] (by rfl) rfl rfl mA ?_
        with_reducible refine(jo.calls k1 _ _ U _ _ ab _ _ ae af ((aw l1 aJ).f1) t228 _ ?aG ?aH ?aY ?aZ ?a6 ?a7 A9.1).mono ?_
        (case aG=>exact mC (Kd.aE bG.1 (aM HB.1 lR.1)))
        (case aH=>exact cf.1)
        (case aY=>exact mC (Kd.aE bE.1 (aM HB.1 lR.1)))
        (case aZ=>exact bO.1)
        (case a6=>exact mC (Kd.aE bL.1 (aM HB.1 lR.1)))
        (case a7=>exact b6.1)
        rintro e fb ⟨rfl,hb⟩;refine⟨_,rfl,?_⟩;replace fI:=mB fI hb;replace HB:=J (aK (aM HB.1 lR.1) hb)
        (try clear hb)
        (try clear dV)
        (try clear hk)
        (try clear hi)
        refine hK.out _ _ (ey fI.1 ⟨(mX HB.1 rq :),⟨(mX HB.1 rr :),⟨(mX HB.1 uJ :),(mX HB.1 uK :)⟩⟩⟩) (fun hHeld=>?_);clear hK K;refine bp 27 ?_;refine ai 15 28 HT_.1 (mb 16 19) ?_;refine ai 16 29 HT_.1 (mb 17 18) ?_;refine ai 17 30 HT_.1 (mb 18 17) ?_;refine au 18 31 HT_.1 (mb 19 16) ?_;refine au 19 32 HT_.1 (mb 20 15) ?_;refine au 20 33 HT_.1 (mb 21 14) ?_;refine au 21 34 HT_.1 (mb 22 13) ?_;refine au 22 35 HT_.1 (mb 23 12) ?_;refine au 23 36 HT_.1 (mb 24 11) ?_;refine au 24 37 HT_.1 (mb 25 10) ?_;refine au 25 38 HT_.1 (mb 26 9) ?_;refine au 26 39 HT_.1 (mb 27 8) ?_;refine au 27 40 HT_.1 (mb 28 7) ?_;refine au 28 41 HT_.1 (mb 29 6) ?_;refine au 29 42 HT_.1 (mb 30 5) ?_;refine au 30 43 HT_.1 (mb 31 4) ?_;refine au 31 44 HT_.1 (mb 32 3) ?_;refine au 32 45 HT_.1 (mb 33 2) ?_;refine au 33 46 HT_.1 (mb 34 1) ?_;refine ai 34 47 HT_.1 (mb 35 0) ?_;refine ec (eZ HT_.1 (by kernel_rfl)) ?_
        try go_wp2
        go_meet
        case rel=>exact⟨_,(true),mE,H',⟨by have:=bA.1;first|omega|exact Nat.le_refl _⟩,⟨mK fI.1⟩,⟨(aM HB.1 lR.1)⟩⟩
       ·rw[if_neg jF]at H;have Dt:=decide_eq_false jF;clear jF;by_cases jx:aJ>0
        ·rw[if_pos jx]at H;have xp:decide (0<aJ)=true:=decide_eq_true jx;clear jx;obtain⟨qC,DS⟩:∃j_:Int,(wrap64 (aJ-1))=j_:=⟨_,rfl⟩;replace H:(if 0≤(qC) then (if (qC)<(l1.length:Int) then (cr.j1 k1 l1 aJ (!(Op.bytesLess (((aw l1 (qC)).f0).toList) (((aw l1 aJ).f0).toList))) U ab ae af) else (none)) else (none))=some r:=by first|(rw[DS]at H;exact H)|(simp only[DS]at H ⊢;exact H)
         (try rw[DS]at A7)
         (try rw[DS]at A9)
         have ayA:(IntKind.i64.wrap (aJ-1))=qC:=(iq _).trans DS;by_cases om:0≤(qC)
         ·rw[if_pos om]at H;have zo:=decide_eq_true om;clear om;by_cases rh:(qC)<(l1.length:Int)
          ·rw[if_pos rh]at H;have aif:=decide_eq_true rh;clear rh;have H':=J H;clear H
           try go_wp2
           replace fI:=J (bR fI.1);replace HB:=J (cP HB.1);have qG:0≤(aJ:Int):=mD;have qI:aJ<(l1.length:Int):=mD;obtain⟨iG,Bn,ox,oy⟩:=iH jE.1 aJ qG qI;have rr:=oy;have rq:=ox;cases Bn
           replace ox:=mX HB.1 ox;replace oy:=mX HB.1 oy;replace qG:=eq_true qG;replace qI:=eq_true qI;have uQ:0≤(aJ:Int):=mD;have uS:aJ<(l1.length:Int):=mD;obtain⟨FT,Gf,rz,rA⟩:=iH jE.1 aJ uQ uS;have uK:=rA;have uJ:=rz;obtain rfl:iG=FT:=(by injection Gf);replace rz:=mX HB.1 rz;replace rA:=mX HB.1 rA;replace uQ:=eq_true uQ;replace uS:=eq_true uS;have Ul:0≤((qC):Int):=mD;have UJ:(qC)<(l1.length:Int):=mD;obtain⟨ahN,aje,Mx,My⟩:=iH jE.1 (qC) Ul UJ;have Tv:=My;have Tu:=Mx;obtain rfl:iG=ahN:=(by injection aje);replace Mx:=mX HB.1 Mx;replace My:=mX HB.1 My;replace Ul:=eq_true Ul;replace UJ:=eq_true UJ;have Um:0≤(aJ:Int):=mD;have UK:aJ<(l1.length:Int):=mD;obtain⟨ahO,ajf,Mz,MA⟩:=iH jE.1 aJ Um UK;have Tx:=MA;have Tw:=Mz;obtain rfl:iG=ahO:=(by injection ajf);replace Mz:=mX HB.1 Mz;replace MA:=mX HB.1 MA;replace Um:=eq_true Um;replace UK:=eq_true UK;refine ee (n:=35) (S:=fun w'=>w'.cell? ⟨qy,0,none⟩=some (.slice av U.length al)∧w'.cell? ⟨qy,1,none⟩=some (.slice ao ab.length an)∧w'.cell? ⟨qy,2,none⟩=some (.slice aq ae.length ar)∧w'.cell? ⟨qy,3,none⟩=some (.int .i64 af)∧w'.cell? (iG.add ((aJ).toNat*2))=some (.string ((aw l1 aJ).f0))∧w'.cell? ⟨(iG.add ((aJ).toNat*2)).block,(iG.add ((aJ).toNat*2)).off+1,none⟩=some (.int .i64 ((aw l1 aJ).f1))∧w'.cell? (iG.add ((aJ).toNat*2))=some (.string ((aw l1 aJ).f0))∧w'.cell? ⟨(iG.add ((aJ).toNat*2)).block,(iG.add ((aJ).toNat*2)).off+1,none⟩=some (.int .i64 ((aw l1 aJ).f1))∧w'.cell? (iG.add (((qC)).toNat*2))=some (.string ((aw l1 (qC)).f0))∧w'.cell? ⟨(iG.add (((qC)).toNat*2)).block,(iG.add (((qC)).toNat*2)).off+1,none⟩=some (.int .i64 ((aw l1 (qC)).f1))∧w'.cell? (iG.add ((aJ).toNat*2))=some (.string ((aw l1 aJ).f0))∧w'.cell? ⟨(iG.add ((aJ).toNat*2)).block,(iG.add ((aJ).toNat*2)).off+1,none⟩=some (.int .i64 ((aw l1 aJ).f1))) (ds:=[]) (mb 0 35) (by kernel_rfl) rfl rfl (ey fI.1 ⟨(mX HB.1 rq :),⟨(mX HB.1 rr :),⟨(mX HB.1 uJ :),⟨(mX HB.1 uK :),⟨(mX HB.1 Tu :),⟨(mX HB.1 Tv :),⟨(mX HB.1 Tw :),(mX HB.1 Tx :)⟩⟩⟩⟩⟩⟩⟩) (fun hHeld=>?_);refine fc cr.rV cr.ra (fun HT_ HW_=>?_);generalize wr.drew=NK at fI HB ox oy rz rA Mx My Mz MA hHeld ⊢
           refine ai 0 13 HT_.1 (mb 1 34) ?_;refine ai 1 14 HT_.1 (mb 2 33) ?_;refine ai 2 15 HT_.1 (mb 3 32) ?_;refine ai 3 16 HT_.1 (mb 4 31) ?_;refine aQ 4 17 HT_.1 HW_.1 (mb 5 30) hHeld ?_;refine bV 5 (some 18) HT_.1 (mb 6 29) (fun K hK=>?_);refine dd Try.func48 (by kernel_rfl) rfl #[.string ((aw l1 aJ).f0)] (by rfl) rfl rfl mA ?_
           with_reducible refine(e8.calls k1 ((aw l1 aJ).f0) true _ A7.1).mono ?_
           rintro e w' ⟨rfl,⟨nd,rfl⟩⟩;refine⟨_,rfl,?_⟩;refine hK.out _ _ (ey fI.1 ⟨(mX HB.1 rq :),⟨(mX HB.1 rr :),⟨(mX HB.1 uJ :),⟨(mX HB.1 uK :),⟨(mX HB.1 Tu :),⟨(mX HB.1 Tv :),⟨(mX HB.1 Tw :),(mX HB.1 Tx :)⟩⟩⟩⟩⟩⟩⟩) (fun hHeld=>?_);clear hK K;refine bp 18 ?_;refine ai 6 19 HT_.1 (mb 7 28) ?_;refine ai 7 20 HT_.1 (mb 8 27) ?_;refine ai 9 22 HT_.1 (mr [8,1,1,25]) ?_;refine ai 10 23 HT_.1 (mr [8,1,2,24]) ?_;refine ai 11 24 HT_.1 (mr [8,1,3,23]) ?_;refine ai 12 25 HT_.1 (mr [8,1,4,22]) ?_;refine aQ 8 21 HT_.1 HW_.1 (mb 13 22) hHeld ?_;refine aQ 13 26 HT_.1 HW_.1 (mb 14 21) hHeld ?_;refine bV 14 (some 27) HT_.1 (mb 15 20) (fun K hK=>?_);refine dd Try.func68 (by kernel_rfl) rfl #[.agg #[.slice av U.length al,.slice ao ab.length an,.slice aq ae.length ar,.int .i64 af],.int .i64 ((aw l1 aJ).f1)] (by rfl) rfl rfl mA ?_
           with_reducible refine(jo.calls k1 _ _ U _ _ ab _ _ ae af ((aw l1 aJ).f1) t228 _ ?aG ?aH ?aY ?aZ ?a6 ?a7 A9.1).mono ?_
           (case aG=>exact mC (Kd.aE bG.1 (aM HB.1 lR.1)))
           (case aH=>exact cf.1)
           (case aY=>exact mC (Kd.aE bE.1 (aM HB.1 lR.1)))
           (case aZ=>exact bO.1)
           (case a6=>exact mC (Kd.aE bL.1 (aM HB.1 lR.1)))
           (case a7=>exact b6.1)
           rintro e NL ⟨rfl,hb⟩;refine⟨_,rfl,?_⟩;replace fI:=mB fI hb;replace HB:=J (aK (aM HB.1 lR.1) hb)
           (try clear hb)
           (try clear dV)
           (try clear hk)
           (try clear hi)
           refine hK.out _ _ (ey fI.1 ⟨(mX HB.1 rq :),⟨(mX HB.1 rr :),⟨(mX HB.1 uJ :),⟨(mX HB.1 uK :),⟨(mX HB.1 Tu :),⟨(mX HB.1 Tv :),⟨(mX HB.1 Tw :),(mX HB.1 Tx :)⟩⟩⟩⟩⟩⟩⟩) (fun hHeld=>?_);clear hK K;refine bp 27 ?_;refine ai 15 28 HT_.1 (mb 16 19) ?_;refine ai 16 29 HT_.1 (mb 17 18) ?_;refine ai 17 30 HT_.1 (mb 18 17) ?_;refine ai 18 31 HT_.1 (mb 19 16) ?_;refine ai 19 32 HT_.1 (mb 20 15) ?_;refine ai 20 33 HT_.1 (mb 21 14) ?_;refine ai 21 34 HT_.1 (mb 22 13) ?_;refine ai 22 35 HT_.1 (mb 23 12) ?_;refine ai 23 36 HT_.1 (mb 24 11) ?_;refine ai 24 37 HT_.1 (mb 25 10) ?_;refine ai 25 38 HT_.1 (mb 26 9) ?_;refine ai 27 40 HT_.1 (mr [26,1,1,7]) ?_;refine ai 28 41 HT_.1 (mr [26,1,2,6]) ?_;refine ai 29 42 HT_.1 (mr [26,1,3,5]) ?_;refine ai 30 43 HT_.1 (mr [26,1,4,4]) ?_;refine aQ 26 39 HT_.1 HW_.1 (mb 31 4) hHeld ?_;refine aQ 31 44 HT_.1 HW_.1 (mb 32 3) hHeld ?_;refine ai 32 45 HT_.1 (mb 33 2) ?_;refine ai 33 46 HT_.1 (mb 34 1) ?_;refine ai 34 47 HT_.1 (mb 35 0) ?_;refine ec (eZ HT_.1 (by kernel_rfl)) ?_
           try go_wp2
           go_meet
           case rel=>exact⟨_,(!(Op.bytesLess (((aw l1 (qC)).f0).toList) (((aw l1 aJ).f0).toList))),(by first|rfl|(simp;done)|(simp only[←DS]<;>(first|rfl|simp))|(simp[*];done)),H',⟨by have:=bA.1;first|omega|exact Nat.le_refl _⟩,⟨mK fI.1⟩,⟨(aM HB.1 lR.1)⟩⟩
          ·rw[if_neg rh]at H;exact absurd H (by simp)
         ·rw[if_neg om]at H;exact absurd H (by simp)
        ·rw[if_neg jx]at H;have xp:decide (0<aJ)=false:=decide_eq_false jx;clear jx;have H':=J H;clear H
         try go_wp2
         replace fI:=J (bR fI.1);replace HB:=J (cP HB.1);have qG:0≤(aJ:Int):=mD;have qI:aJ<(l1.length:Int):=mD;obtain⟨iG,Bn,ox,oy⟩:=iH jE.1 aJ qG qI;have rr:=oy;have rq:=ox;cases Bn
         replace ox:=mX HB.1 ox;replace oy:=mX HB.1 oy;replace qG:=eq_true qG;replace qI:=eq_true qI;have uQ:0≤(aJ:Int):=mD;have uS:aJ<(l1.length:Int):=mD;obtain⟨FT,Gf,rz,rA⟩:=iH jE.1 aJ uQ uS;have uK:=rA;have uJ:=rz;obtain rfl:iG=FT:=(by injection Gf);replace rz:=mX HB.1 rz;replace rA:=mX HB.1 rA;replace uQ:=eq_true uQ;replace uS:=eq_true uS;refine ee (n:=35) (S:=fun w'=>w'.cell? ⟨qy,0,none⟩=some (.slice av U.length al)∧w'.cell? ⟨qy,1,none⟩=some (.slice ao ab.length an)∧w'.cell? ⟨qy,2,none⟩=some (.slice aq ae.length ar)∧w'.cell? ⟨qy,3,none⟩=some (.int .i64 af)∧w'.cell? (iG.add ((aJ).toNat*2))=some (.string ((aw l1 aJ).f0))∧w'.cell? ⟨(iG.add ((aJ).toNat*2)).block,(iG.add ((aJ).toNat*2)).off+1,none⟩=some (.int .i64 ((aw l1 aJ).f1))∧w'.cell? (iG.add ((aJ).toNat*2))=some (.string ((aw l1 aJ).f0))∧w'.cell? ⟨(iG.add ((aJ).toNat*2)).block,(iG.add ((aJ).toNat*2)).off+1,none⟩=some (.int .i64 ((aw l1 aJ).f1))) (ds:=[]) (mb 0 35) (by kernel_rfl) rfl rfl (ey fI.1 ⟨(mX HB.1 rq :),⟨(mX HB.1 rr :),⟨(mX HB.1 uJ :),(mX HB.1 uK :)⟩⟩⟩) (fun hHeld=>?_);refine fc cr.rV cr.ra (fun HT_ HW_=>?_);generalize wr.drew=NM at fI HB ox oy rz rA hHeld ⊢
         refine ai 0 13 HT_.1 (mb 1 34) ?_;refine ai 1 14 HT_.1 (mb 2 33) ?_;refine ai 2 15 HT_.1 (mb 3 32) ?_;refine ai 3 16 HT_.1 (mb 4 31) ?_;refine aQ 4 17 HT_.1 HW_.1 (mb 5 30) hHeld ?_;refine bV 5 (some 18) HT_.1 (mb 6 29) (fun K hK=>?_);refine dd Try.func48 (by kernel_rfl) rfl #[.string ((aw l1 aJ).f0)] (by rfl) rfl rfl mA ?_
         with_reducible refine(e8.calls k1 ((aw l1 aJ).f0) true _ A7.1).mono ?_
         rintro e w' ⟨rfl,⟨nd,rfl⟩⟩;refine⟨_,rfl,?_⟩;refine hK.out _ _ (ey fI.1 ⟨(mX HB.1 rq :),⟨(mX HB.1 rr :),⟨(mX HB.1 uJ :),(mX HB.1 uK :)⟩⟩⟩) (fun hHeld=>?_);clear hK K;refine bp 18 ?_;refine ai 6 19 HT_.1 (mb 7 28) ?_;refine ai 7 20 HT_.1 (mb 8 27) ?_;refine ai 9 22 HT_.1 (mr [8,1,1,25]) ?_;refine ai 10 23 HT_.1 (mr [8,1,2,24]) ?_;refine ai 11 24 HT_.1 (mr [8,1,3,23]) ?_;refine ai 12 25 HT_.1 (mr [8,1,4,22]) ?_;refine aQ 8 21 HT_.1 HW_.1 (mb 13 22) hHeld ?_;refine aQ 13 26 HT_.1 HW_.1 (mb 14 21) hHeld ?_;refine bV 14 (some 27) HT_.1 (mb 15 20) (fun K hK=>?_);refine dd Try.func68 (by kernel_rfl) rfl #[.agg #[.slice av U.length al,.slice ao ab.length an,.slice aq ae.length ar,.int .i64 af],.int .i64 ((aw l1 aJ).f1)] (by rfl) rfl rfl mA ?_
         with_reducible refine(jo.calls k1 _ _ U _ _ ab _ _ ae af ((aw l1 aJ).f1) t228 _ ?aG ?aH ?aY ?aZ ?a6 ?a7 A9.1).mono ?_
         (case aG=>exact mC (Kd.aE bG.1 (aM HB.1 lR.1)))
         (case aH=>exact cf.1)
         (case aY=>exact mC (Kd.aE bE.1 (aM HB.1 lR.1)))
         (case aZ=>exact bO.1)
         (case a6=>exact mC (Kd.aE bL.1 (aM HB.1 lR.1)))
         (case a7=>exact b6.1)
         rintro e CK ⟨rfl,hb⟩;refine⟨_,rfl,?_⟩;replace fI:=mB fI hb;replace HB:=J (aK (aM HB.1 lR.1) hb)
         (try clear hb)
         (try clear dV)
         (try clear hk)
         (try clear hi)
         refine hK.out _ _ (ey fI.1 ⟨(mX HB.1 rq :),⟨(mX HB.1 rr :),⟨(mX HB.1 uJ :),(mX HB.1 uK :)⟩⟩⟩) (fun hHeld=>?_);clear hK K;refine bp 27 ?_;refine ai 15 28 HT_.1 (mb 16 19) ?_;refine ai 16 29 HT_.1 (mb 17 18) ?_;refine ai 17 30 HT_.1 (mb 18 17) ?_;refine ai 18 31 HT_.1 (mb 19 16) ?_;refine ai 19 32 HT_.1 (mb 20 15) ?_;refine ai 20 33 HT_.1 (mb 21 14) ?_;refine au 21 34 HT_.1 (mb 22 13) ?_;refine au 22 35 HT_.1 (mb 23 12) ?_;refine au 23 36 HT_.1 (mb 24 11) ?_;refine au 24 37 HT_.1 (mb 25 10) ?_;refine au 25 38 HT_.1 (mb 26 9) ?_;refine au 26 39 HT_.1 (mb 27 8) ?_;refine au 27 40 HT_.1 (mb 28 7) ?_;refine au 28 41 HT_.1 (mb 29 6) ?_;refine au 29 42 HT_.1 (mb 30 5) ?_;refine au 30 43 HT_.1 (mb 31 4) ?_;refine au 31 44 HT_.1 (mb 32 3) ?_;refine au 32 45 HT_.1 (mb 33 2) ?_;refine ai 33 46 HT_.1 (mb 34 1) ?_;refine ai 34 47 HT_.1 (mb 35 0) ?_;refine ec (eZ HT_.1 (by kernel_rfl)) ?_
         try go_wp2
         go_meet
         case rel=>exact⟨_,(false),mE,H',⟨by have:=bA.1;first|omega|exact Nat.le_refl _⟩,⟨mK fI.1⟩,⟨(aM HB.1 lR.1)⟩⟩
      ·replace c8:=Bool.eq_false_iff.mpr c8;subst c8;have H1:=H;rw[if_neg (show ¬(false=true) by decide)]at H1;clear H;have H:=H1;clear H1;have H':=J H;clear H
       try go_wp2
       replace fI:=J (bR fI.1);replace HB:=J (cP HB.1);have qG:0≤(aJ:Int):=mD;have qI:aJ<(l1.length:Int):=mD;obtain⟨iG,Bn,ox,oy⟩:=iH jE.1 aJ qG qI;have rr:=oy;have rq:=ox;cases Bn
       replace ox:=mX HB.1 ox;replace oy:=mX HB.1 oy;replace qG:=eq_true qG;replace qI:=eq_true qI;refine ee (n:=35) (S:=fun w'=>w'.cell? (iG.add ((aJ).toNat*2))=some (.string ((aw l1 aJ).f0))∧w'.cell? ⟨(iG.add ((aJ).toNat*2)).block,(iG.add ((aJ).toNat*2)).off+1,none⟩=some (.int .i64 ((aw l1 aJ).f1))) (ds:=[]) (mb 0 35) (by kernel_rfl) rfl rfl ⟨(mX HB.1 rq :),(mX HB.1 rr :)⟩ (fun hHeld=>?_);refine fc cr.rV cr.ra (fun HT_ HW_=>?_);generalize wr.drew=VG at fI HB ox oy hHeld ⊢
       refine ai 0 13 HT_.1 (mb 1 34) ?_;refine ai 1 14 HT_.1 (mb 2 33) ?_;refine ai 2 15 HT_.1 (mb 3 32) ?_;refine ai 3 16 HT_.1 (mb 4 31) ?_;refine aQ 4 17 HT_.1 HW_.1 (mb 5 30) hHeld ?_;refine bV 5 (some 18) HT_.1 (mb 6 29) (fun K hK=>?_);refine dd Try.func48 (by kernel_rfl) rfl #[.string ((aw l1 aJ).f0)] (by rfl) rfl rfl mA ?_
       with_reducible refine(e8.calls k1 ((aw l1 aJ).f0) false _ A7.1).mono ?_
       rintro e w' ⟨rfl,⟨nd,rfl⟩⟩;refine⟨_,rfl,?_⟩;refine hK.out _ _ ⟨(mX HB.1 rq :),(mX HB.1 rr :)⟩ (fun hHeld=>?_);clear hK K;refine bp 18 ?_;refine ai 6 19 HT_.1 (mb 7 28) ?_;refine ai 7 20 HT_.1 (mb 8 27) ?_;refine au 8 21 HT_.1 (mb 9 26) ?_;refine au 9 22 HT_.1 (mb 10 25) ?_;refine au 10 23 HT_.1 (mb 11 24) ?_;refine au 11 24 HT_.1 (mb 12 23) ?_;refine au 12 25 HT_.1 (mb 13 22) ?_;refine au 13 26 HT_.1 (mb 14 21) ?_;refine au 14 27 HT_.1 (mb 15 20) ?_;refine au 15 28 HT_.1 (mb 16 19) ?_;refine ai 16 29 HT_.1 (mb 17 18) ?_;refine ai 17 30 HT_.1 (mb 18 17) ?_;refine au 18 31 HT_.1 (mb 19 16) ?_;refine au 19 32 HT_.1 (mb 20 15) ?_;refine au 20 33 HT_.1 (mb 21 14) ?_;refine au 21 34 HT_.1 (mb 22 13) ?_;refine au 22 35 HT_.1 (mb 23 12) ?_;refine au 23 36 HT_.1 (mb 24 11) ?_;refine au 24 37 HT_.1 (mb 25 10) ?_;refine au 25 38 HT_.1 (mb 26 9) ?_;refine au 26 39 HT_.1 (mb 27 8) ?_;refine au 27 40 HT_.1 (mb 28 7) ?_;refine au 28 41 HT_.1 (mb 29 6) ?_;refine au 29 42 HT_.1 (mb 30 5) ?_;refine au 30 43 HT_.1 (mb 31 4) ?_;refine au 31 44 HT_.1 (mb 32 3) ?_;refine au 32 45 HT_.1 (mb 33 2) ?_;refine au 33 46 HT_.1 (mb 34 1) ?_;refine ai 34 47 HT_.1 (mb 35 0) ?_;refine ec (eZ HT_.1 (by kernel_rfl)) ?_
       try go_wp2
       go_meet
       case rel=>exact⟨_,(true),mE,H',⟨by have:=bA.1;first|omega|exact Nat.le_refl _⟩,⟨mK fI.1⟩,⟨(aM HB.1 lR.1)⟩⟩
     ·rw[if_neg c6]at H;exact absurd H (by simp)
    case rest=>
     clear tX
     try clear c1
     try clear c4
     obtain⟨kq,N4,rfl,HA,y1,fI,HB⟩:=hcut;cases kq with
     |zero=>exact absurd HA.1 (by simp[cr.j1])
     |succ I9=>
      have H:=HA.1;clear HA;simp only[cr.j1]at H;by_cases fM:N4=true
      ·subst fM;have H1:=H;rw[if_pos rfl]at H1;clear H;have H:=H1;clear H1;obtain rfl:=Option.some.inj H;go_wp2;go_ret;exact⟨de,(aM HB.1 lR.1)⟩
      ·replace fM:=Bool.eq_false_iff.mpr fM;subst fM;have H1:=H;rw[if_neg (show ¬(false=true) by decide)]at H1;clear H;have H:=H1;clear H1;have H':=J H;clear H;go_wp2;go_loopg [6] I9 (fun kq v6 w'=>∃(km:Int),v6 = .int .i64 km∧Aside0 (cr.l1 kq l1 aJ km U ab ae af=some r)∧Aside0 (kq≤I9)∧Aside0 (w'.heap[qy]? = some (.cells #[(.slice av U.length al),(.slice ao ab.length an),(.slice aq ae.length ar),.int .i64 af] 30 (0,0)))∧Aside0 (Below w.heap.size w w'))
       case atStart=>exact⟨(0),mE,H',⟨Nat.le_refl _⟩,⟨mK fI.1⟩,⟨(aM HB.1 lR.1)⟩⟩
       case round=>
        clear H'
        try clear c1
        try clear c4
        try clear fM
        obtain⟨km,rfl,HA,tY,fI,HB⟩:=hrel;cases gk with
        |zero=>exact absurd HA.1 (by simp[cr.l1])
        |succ k3=>
         have H:=HA.1;clear HA;simp only[cr.l1]at H;by_cases fN:km<aJ
         ·rw[if_pos fN]at H;have Dw:=decide_eq_true fN;clear fN;by_cases jG:0≤km
          ·rw[if_pos jG]at H;have Ql:=decide_eq_true jG;clear jG;by_cases oq:km<(l1.length:Int)
           ·rw[if_pos oq]at H;have aio:=decide_eq_true oq;clear oq;by_cases lF:0≤aJ
            ·rw[if_pos lF]at H;have aip:=decide_eq_true lF;clear lF;by_cases vR:aJ<(l1.length:Int)
             ·rw[if_pos vR]at H;have asn:=decide_eq_true vR;clear vR;by_cases tj:((aw l1 km).f1)=((aw l1 aJ).f1)
              ·rw[if_pos tj]at H;have aiq:(((aw l1 km).f1) == ((aw l1 aJ).f1))=true:=beq_iff_eq.mpr tj;have air:(((aw l1 km).f1) != ((aw l1 aJ).f1))=false:=bne_eq_false_iff_eq.mpr tj;clear tj;obtain rfl:=Option.some.inj H
               try go_wp2
               replace fI:=J (bR fI.1);replace HB:=J (cP HB.1);have BY:0≤(km:Int):=mD;have Co:km<(l1.length:Int):=mD;obtain⟨qn,QK,yc,yd⟩:=iH jE.1 km BY Co;have Tz:=yd;have Ty:=yc;cases QK
               replace yc:=mX HB.1 yc;replace yd:=mX HB.1 yd;replace BY:=eq_true BY;replace Co:=eq_true Co;have BZ:0≤(aJ:Int):=mD;have Cp:aJ<(l1.length:Int):=mD;obtain⟨P1,QL,ye,yf⟩:=iH jE.1 aJ BZ Cp;have TB:=yf;have TA:=ye;obtain rfl:qn=P1:=(by injection QL);replace ye:=mX HB.1 ye;replace yf:=mX HB.1 yf;replace BZ:=eq_true BZ;replace Cp:=eq_true Cp;refine ee (n:=11) (S:=fun w'=>w'.cell? (qn.add ((km).toNat*2))=some (.string ((aw l1 km).f0))∧w'.cell? ⟨(qn.add ((km).toNat*2)).block,(qn.add ((km).toNat*2)).off+1,none⟩=some (.int .i64 ((aw l1 km).f1))∧w'.cell? (qn.add ((aJ).toNat*2))=some (.string ((aw l1 aJ).f0))∧w'.cell? ⟨(qn.add ((aJ).toNat*2)).block,(qn.add ((aJ).toNat*2)).off+1,none⟩=some (.int .i64 ((aw l1 aJ).f1))) (ds:=[]) (mb 0 11) (by kernel_rfl) rfl rfl ⟨(mX HB.1 Ty :),(mX HB.1 Tz :),(mX HB.1 TA :),(mX HB.1 TB :)⟩ (fun hHeld=>?_);refine fc cr.NC cr.KA (fun HT_ HW_=>?_);generalize wr.drew=wG at fI HB yc yd ye yf hHeld ⊢
               refine ai 0 53 HT_.1 (mb 1 10) ?_;refine ai 1 54 HT_.1 (mb 2 9) ?_;refine ai 2 55 HT_.1 (mb 3 8) ?_;refine ai 3 56 HT_.1 (mb 4 7) ?_;refine ai 5 58 HT_.1 (mr [4,1,1,5]) ?_;refine ai 6 59 HT_.1 (mr [4,1,2,4]) ?_;refine ai 7 60 HT_.1 (mr [4,1,3,3]) ?_;refine ai 8 61 HT_.1 (mr [4,1,4,2]) ?_;refine aQ 4 57 HT_.1 HW_.1 (mb 9 2) hHeld ?_;refine aQ 9 62 HT_.1 HW_.1 (mb 10 1) hHeld ?_;refine ai 10 63 HT_.1 (mb 11 0) ?_;refine ec (eZ HT_.1 (by kernel_rfl)) ?_
               try go_wp2
               go_ret;exact⟨de,(aM HB.1 lR.1)⟩
              ·rw[if_neg tj]at H;have aiq:(((aw l1 km).f1) == ((aw l1 aJ).f1))=false:=beq_eq_false_iff_ne.mpr tj;have air:(((aw l1 km).f1) != ((aw l1 aJ).f1))=true:=bne_iff_ne.mpr tj;have H':=J H;clear H
               try go_wp2
               replace fI:=J (bR fI.1);replace HB:=J (cP HB.1);have BY:0≤(km:Int):=mD;have Co:km<(l1.length:Int):=mD;obtain⟨qn,QK,yc,yd⟩:=iH jE.1 km BY Co;have Tz:=yd;have Ty:=yc;cases QK
               replace yc:=mX HB.1 yc;replace yd:=mX HB.1 yd;replace BY:=eq_true BY;replace Co:=eq_true Co;have BZ:0≤(aJ:Int):=mD;have Cp:aJ<(l1.length:Int):=mD;obtain⟨P1,QL,ye,yf⟩:=iH jE.1 aJ BZ Cp;have TB:=yf;have TA:=ye;obtain rfl:qn=P1:=(by injection QL);replace ye:=mX HB.1 ye;replace yf:=mX HB.1 yf;replace BZ:=eq_true BZ;replace Cp:=eq_true Cp;refine ee (n:=11) (S:=fun w'=>w'.cell? (qn.add ((km).toNat*2))=some (.string ((aw l1 km).f0))∧w'.cell? ⟨(qn.add ((km).toNat*2)).block,(qn.add ((km).toNat*2)).off+1,none⟩=some (.int .i64 ((aw l1 km).f1))∧w'.cell? (qn.add ((aJ).toNat*2))=some (.string ((aw l1 aJ).f0))∧w'.cell? ⟨(qn.add ((aJ).toNat*2)).block,(qn.add ((aJ).toNat*2)).off+1,none⟩=some (.int .i64 ((aw l1 aJ).f1))) (ds:=[]) (mb 0 11) (by kernel_rfl) rfl rfl ⟨(mX HB.1 Ty :),(mX HB.1 Tz :),(mX HB.1 TA :),(mX HB.1 TB :)⟩ (fun hHeld=>?_);refine fc cr.NC cr.KA (fun HT_ HW_=>?_);generalize wr.drew=mF at fI HB yc yd ye yf hHeld ⊢
               refine ai 0 53 HT_.1 (mb 1 10) ?_;refine ai 1 54 HT_.1 (mb 2 9) ?_;refine ai 2 55 HT_.1 (mb 3 8) ?_;refine ai 3 56 HT_.1 (mb 4 7) ?_;refine ai 5 58 HT_.1 (mr [4,1,1,5]) ?_;refine ai 6 59 HT_.1 (mr [4,1,2,4]) ?_;refine ai 7 60 HT_.1 (mr [4,1,3,3]) ?_;refine ai 8 61 HT_.1 (mr [4,1,4,2]) ?_;refine aQ 4 57 HT_.1 HW_.1 (mb 9 2) hHeld ?_;refine aQ 9 62 HT_.1 HW_.1 (mb 10 1) hHeld ?_;refine ai 10 63 HT_.1 (mb 11 0) ?_;refine ec (eZ HT_.1 (by kernel_rfl)) ?_
               try go_wp2
               go_roundg k3
               case measure=>have:=bA.1;have:=y1.1;have:=tY.1;omega
               case rel=>exact⟨(wrap64 (km+1)),mE,H',⟨by have:=bA.1;have:=y1.1;have:=tY.1;omega⟩,⟨mK fI.1⟩,⟨(aM HB.1 lR.1)⟩⟩
             ·rw[if_neg vR]at H;exact absurd H (by simp)
            ·rw[if_neg lF]at H;exact absurd H (by simp)
           ·rw[if_neg oq]at H;exact absurd H (by simp)
          ·rw[if_neg jG]at H;exact absurd H (by simp)
         ·rw[if_neg fN]at H;have Dw:=decide_eq_false fN;clear fN;have H':=J H;clear H;go_wp2;go_roundg k3
          case measure=>have:=bA.1;have:=y1.1;have:=tY.1;omega
          case rel=>exact⟨(wrap64 (aJ+1)),mE,H',⟨by have:=bA.1;have:=y1.1;have:=tY.1;omega⟩,⟨mK fI.1⟩,⟨(aM HB.1 lR.1)⟩⟩
   ·rw[if_neg c4]at H;have lG:=decide_eq_false c4;clear c4;obtain rfl:=Option.some.inj H;go_wp2;go_ret;exact⟨de,(aM HB.1 lR.1)⟩
mutual
def bB.j0:Nat→Bool→List (aj)→List (ah)→List (ah)→Int→Option (Bool)
 |0,_,_,_,_,_=>none
 |k+1,JM,eN,pF,pG,qR=>if JM=true then (some false) else (bB.l0 k 0 0 eN pF pG qR)
def bB.l0:Nat→Int→Int→List (aj)→List (ah)→List (ah)→Int→Option (Bool)
 |0,_,_,_,_,_,_=>none
 |k+1,x3,x4,eN,pF,pG,qR=>if x4<(eN.length:Int) then (if 0≤x4 then ((fm.f ((aa eN x4).f0) 1 (wrap64 (qR-1))).bind fun t237=>(if t237=true then (if x4>0 then (if 0≤(wrap64 (x4-1)) then (if (wrap64 (x4-1))<(eN.length:Int) then (if ((aa eN (wrap64 (x4-1))).f0)≥((aa eN x4).f0) then (bB.j2 k x3 x4 true eN pF pG qR ((aa eN x4).f0) ((aa eN x4).f1) ((aa eN x4).f2)) else ((fm.f ((aa eN x4).f2) 0 (((aa eN x4).f1).length:Int)).bind fun t239=>(if t239=true then ((eM.f k pF ((aa eN x4).f0)).bind fun t240=>(if t240=true then (bB.j2 k x3 x4 false eN pF pG qR ((aa eN x4).f0) ((aa eN x4).f1) ((aa eN x4).f2)) else ((eM.f k pG ((aa eN x4).f0)).bind fun t241=>(bB.j2 k x3 x4 (!t241) eN pF pG qR ((aa eN x4).f0) ((aa eN x4).f1) ((aa eN x4).f2))))) else (bB.j2 k x3 x4 true eN pF pG qR ((aa eN x4).f0) ((aa eN x4).f1) ((aa eN x4).f2))))) else (none)) else (none)) else ((fm.f ((aa eN x4).f2) 0 (((aa eN x4).f1).length:Int)).bind fun t242=>(if t242=true then ((eM.f k pF ((aa eN x4).f0)).bind fun t243=>(if t243=true then (bB.j2 k x3 x4 false eN pF pG qR ((aa eN x4).f0) ((aa eN x4).f1) ((aa eN x4).f2)) else ((eM.f k pG ((aa eN x4).f0)).bind fun t244=>(bB.j2 k x3 x4 (!t244) eN pF pG qR ((aa eN x4).f0) ((aa eN x4).f1) ((aa eN x4).f2))))) else (bB.j2 k x3 x4 true eN pF pG qR ((aa eN x4).f0) ((aa eN x4).f1) ((aa eN x4).f2))))) else (bB.j2 k x3 x4 true eN pF pG qR ((aa eN x4).f0) ((aa eN x4).f1) ((aa eN x4).f2)))) else (none)) else (if x3≤60000 then ((cr.f k eN pF pG qR pF).bind fun t245=>(if t245=true then ((cr.f k eN pF pG qR pG).bind fun t246=>(some t246)) else (some false))) else (some false))
def bB.j2:Nat→Int→Int→Bool→List (aj)→List (ah)→List (ah)→Int→Int→List Int→Int→Option (Bool)
 |0,_,_,_,_,_,_,_,_,_,_=>none
 |k+1,x3,x4,x75,eN,pF,pG,qR,aDi,aq9,aDj=>if x75=true then (some false) else (bB.l0 k (wrap64 (x3+(aq9.length:Int))) (wrap64 (x4+1)) eN pF pG qR)
end
def bB.f (k:Nat) (U:List (aj)) (ab:List (ah)) (ae:List (ah)) (af:Int):Option (Bool):=(fm.f af 1 1000000).bind fun t234=>(if t234=true then (bB.j0 k (decide ((U.length:Int)>60)) U ab ae af) else (bB.j0 k true U ab ae af))
def bB.T8:Bool × List (List Nat × List Nat):=(true,[([],[]),([0],[0]),([],[]),([2],[2]),([3],[3]),([1,4],[1,4]),([5],[5]),([6,5],[6]),([7],[7]),([8,7],[7,8]),([9,7,7],[7,9]),([10],[10]),([11,10],[10,11]),([10],[10]),([13,10],[10,13]),([12,14,10],[10,12,14]),([15,10],[10,15]),([16,10],[10,16]),([10],[10]),([18,10],[10,18]),([17,19,10],[10,17,19]),([10,20,7],[7,10,20]),([7,21],[7,21]),([22,10],[22]),([23],[23]),([24,23],[23,24]),([23],[23]),([26,23],[23,26]),([27,23],[23,27]),([25,28,23,23],[23,25,28]),([29,23],[23,29]),([23,30],[23,30]),([31,29],[31]),([32],[32]),([33,32],[32,33]),([32],[32]),([35,32],[32,35]),([34,36,32,32],[32,34,36]),([37,32],[32,37]),([38,37,32],[32,38]),([39],[39]),([40,39],[39,40]),([39],[39]),([42,39],[39,42]),([41,43,39,39],[39,41,43]),([44,39],[39,44]),([39,45,32],[32,39,45]),([32,46],[32,46])])
def bB.B8:List Nat:=[0,1,0,4,12,31,63,127,255,511,1023,2047,4095,2047,10239,32767,65535,131071,2047,264191,1048575,2097151,4194303,8388607,16777215,33554431,16777215,83886079,218103807,536870911,1073741823,2147483647,4294967295,8589934591,17179869183,8589934591,42949672959,137438953471,274877906943,549755813887,1099511627775,2199023255551,1099511627775,5497558138879,17592186044415,35184372088831,70368744177663,140737488355327]
theorem bB.Al:eQ .any (opsOf Try.f66 8)=bB.T8:=by kernel_rfl
theorem bB.zk:jX bB.T8.2 bB.B8=true:=by kernel_rfl
set_option maxHeartbeats 8000000 in
set_option maxRecDepth 100000 in
theorem bB.calls (k:Nat) (av:Option Addr) (al:Nat) (U:List (aj)) (ao:Option Addr) (an:Nat) (ab:List (ah)) (aq:Option Addr) (ar:Nat) (ae:List (ah)) (af:Int) (r:Bool) (w:World) (cT:Kd.C bj w av U.length U) (cQ:U.length≤al) (cU:Kd.C ay w ao ab.length ab) (cR:ab.length≤an) (cV:Kd.C ay w aq ae.length ae) (cS:ae.length≤ar) (h:bB.f k U ab ae af=some r) :
 Calls Try.prog 66 #[.agg #[.slice av U.length al,.slice ao ab.length an,.slice aq ae.length ar,.int .i64 af]] w fun e w'=>e = .returned (.bool r)∧Below w.heap.size w w':=by
 have kx:=Try.underlying30;have xZ:=Try.underlying80;have bG:=J cT;have cf:=J cQ;clear cT cQ;have bE:=J cU;have bO:=J cR;clear cU cR;have bL:=J cV;have b6:=J cS;clear cV cS;have HB:=J (Below.refl w.heap.size w);have H:((fm.f af 1 1000000).bind fun t234=>(if t234=true then (bB.j0 k (decide ((U.length:Int)>60)) U ab ae af) else (bB.j0 k true U ab ae af)))=some r:=h;clear h;have vC:=J H;clear H;go_enter Try.func66,Try.ntmps66;go_upto_region 1 with (first|((with_reducible refine bk (N:=1) rfl ?_);(try (refine xI (by rfl) ?_;dsimp only));refine bF 1 #[.slice av U.length al,.slice ao ab.length an,.slice aq ae.length ar,.int .i64 af] 30 ?_;intro gf hg w3 hbox hb;have bY:=J (hbox);have arF:=mG hg (mH HB.1);have hJ:=mG hg (mH HB.1);replace HB:=J (aK (mH HB.1) hb);clear hb hbox hg))
 (try simp only[Act.put,zA,zB,zC])
 go_cut [15] (fun JB wc=>∃(kq:Nat) (yH:Bool),JB = .bool yH∧Aside0 (bB.j0 kq yH U ab ae af=some r)∧Aside0 (kq≤k)∧Aside0 (wc.heap[gf]? = some (.cells #[(.slice av U.length al),(.slice ao ab.length an),(.slice aq ae.length ar),.int .i64 af] 30 (0,0)))∧Aside0 (Below w.heap.size w wc))
 case first=>
  have H:=vC.1;clear vC;replace H:=Option.bind_eq_some_iff.mp H;obtain⟨t234,jt,H⟩:=H;replace H:(if t234=true then (bB.j0 k (decide ((U.length:Int)>60)) U ab ae af) else (bB.j0 k true U ab ae af))=some r:=H;have A4:=J jt;clear jt;by_cases c5:t234=true
  ·subst c5;have H1:=H;rw[if_pos rfl]at H1;clear H;have H:=H1;clear H1;have H':=J H;clear H;obtain⟨alT,alU,alV,alW,anv,anw,anx,anz⟩:=aX bY.1;go_wp2_with (first|((with_reducible refine bo (f:=89) rfl ?_);refine cl 8 Try.func89 #[.int .i64 af,.int .i64 1,.int .i64 1000000] ?_;(with_reducible refine(fm.calls af 1 1000000 true _ A4.1).mono ?_);rintro e w' ⟨rfl,⟨nd,rfl⟩⟩;refine⟨_,rfl,?_⟩));go_meet
   case rel=>exact⟨_,(decide ((U.length:Int)>60)),mE,H',⟨by first|omega|exact Nat.le_refl _⟩,⟨mK bY.1⟩,⟨(aM HB.1 hJ.1)⟩⟩
  ·replace c5:=Bool.eq_false_iff.mpr c5;subst c5;have H1:=H;rw[if_neg (show ¬(false=true) by decide)]at H1;clear H;have H:=H1;clear H1;have H':=J H;clear H;obtain⟨Sf,Sg,Sh,Si,S6,S7,S8,S9⟩:=aX bY.1;go_wp2_with (first|((with_reducible refine bo (f:=89) rfl ?_);refine cl 8 Try.func89 #[.int .i64 af,.int .i64 1,.int .i64 1000000] ?_;(with_reducible refine(fm.calls af 1 1000000 false _ A4.1).mono ?_);rintro e w' ⟨rfl,⟨nd,rfl⟩⟩;refine⟨_,rfl,?_⟩));go_meet
   case rel=>exact⟨_,(true),mE,H',⟨by first|omega|exact Nat.le_refl _⟩,⟨mK bY.1⟩,⟨(aM HB.1 hJ.1)⟩⟩
 case rest=>
  clear vC
  obtain⟨kq,yH,rfl,HA,si,bY,HB⟩:=hcut;cases kq with
  |zero=>exact absurd HA.1 (by simp[bB.j0])
  |succ MK=>
   have H:=HA.1;clear HA;simp only[bB.j0]at H;by_cases c8:yH=true
   ·subst c8;have H1:=H;rw[if_pos rfl]at H1;clear H;have H:=H1;clear H1;obtain rfl:=Option.some.inj H;go_wp2;go_ret;exact⟨de,(aM HB.1 hJ.1)⟩
   ·replace c8:=Bool.eq_false_iff.mpr c8;subst c8;have H1:=H;rw[if_neg (show ¬(false=true) by decide)]at H1;clear H;have H:=H1;clear H1;have H':=J H;clear H;go_wp2;go_loopg [3,4] MK (fun kq v3 v4 w'=>∃(jL:Int) (aA:Int),v3 = .int .i64 jL∧v4 = .int .i64 aA∧Aside0 (bB.l0 kq jL aA U ab ae af=some r)∧Aside0 (kq≤MK)∧Aside0 (w'.heap[gf]? = some (.cells #[(.slice av U.length al),(.slice ao ab.length an),(.slice aq ae.length ar),.int .i64 af] 30 (0,0)))∧Aside0 (Below w.heap.size w w'))
    case atStart=>exact⟨(0),(0),mE,mE,H',⟨Nat.le_refl _⟩,⟨mK bY.1⟩,⟨(aM HB.1 hJ.1)⟩⟩
    case round=>
     clear H'
     try clear c8
     obtain⟨jL,aA,rfl,rfl,HA,lT,bY,HB⟩:=hrel;cases gk with
     |zero=>exact absurd HA.1 (by simp[bB.l0])
     |succ k2=>
      have H:=HA.1;clear HA;simp only[bB.l0]at H;by_cases c9:aA<(U.length:Int)
      ·rw[if_pos c9]at H;have zr:=decide_eq_true c9;clear c9;by_cases jF:0≤aA
       ·rw[if_pos jF]at H;have Dt:=decide_eq_true jF;clear jF;have AL:=J H;clear H;obtain⟨Z9,aaa,aab,aac,aaH,aaI,aaJ,aaK⟩:=aX bY.1;have Un:0≤(aA:Int):=mD;have UL:aA<(U.length:Int):=mD;obtain⟨gG,iZ,ji,ajg,acq,acr,acs,abu,abk⟩:=iW bG.1 aA Un UL;cases ajg
        replace acq:=mX HB.1 acq;replace acr:=mX HB.1 acr;replace acs:=mX HB.1 acs;have ar6:=J abk;have ar2:=J abu;clear abk abu;replace Un:=eq_true Un;replace UL:=eq_true UL;go_upto_region 8 with (first|((with_reducible refine bk (N:=5) rfl ?_);(try (refine xI (by rfl) ?_;dsimp only));refine bF 5 #[.int .i64 0,.slice none 0 0,.int .i64 0] 80 ?_;intro eb hg k4 hbox hb;have cD:=J (hbox);have arG:=mG hg (aM HB.1 hJ.1);have lA:=mG hg (aM HB.1 hJ.1);replace HB:=J (aK (aM HB.1 hJ.1) hb);have vF:=bw hg bY.1;have XU:=bu hg bY.1;replace bY:=mB bY hb;clear hb hbox hg;have Ht:=XU.1;have Hw:=vF.1;obtain⟨LB,RB,RC,L3,Sn,Sp⟩:=mu cD.1))
        (try simp only[Act.put,zA,zB,zC])
        go_cut [75] (fun v75 wc=>∃(kq:Nat) (N9:Bool),v75 = .bool N9∧Aside0 (bB.j2 kq jL aA N9 U ab ae af ((aa U aA).f0) ((aa U aA).f1) ((aa U aA).f2)=some r)∧Aside0 (kq≤k2)∧Aside0 (wc.heap[gf]? = some (.cells #[(.slice (some gG) U.length al),(.slice ao ab.length an),(.slice aq ae.length ar),.int .i64 af] 30 (0,0)))∧Aside0 (wc.heap[eb]? = some (.cells #[.int .i64 ((aa U aA).f0),(.slice iZ ((aa U aA).f1).length ji),.int .i64 ((aa U aA).f2)] 80 (0,0)))∧Aside0 (Below w.heap.size w wc))
        case first=>
         have H:=AL.1;clear AL;replace H:=Option.bind_eq_some_iff.mp H;obtain⟨t237,V5,H⟩:=H;replace H:(if t237=true then (if aA>0 then (if 0≤(wrap64 (aA-1)) then (if (wrap64 (aA-1))<(U.length:Int) then (if ((aa U (wrap64 (aA-1))).f0)≥((aa U aA).f0) then (bB.j2 k2 jL aA true U ab ae af ((aa U aA).f0) ((aa U aA).f1) ((aa U aA).f2)) else ((fm.f ((aa U aA).f2) 0 (((aa U aA).f1).length:Int)).bind fun t239=>(if t239=true then ((eM.f k2 ab ((aa U aA).f0)).bind fun t240=>(if t240=true then (bB.j2 k2 jL aA false U ab ae af ((aa U aA).f0) ((aa U aA).f1) ((aa U aA).f2)) else ((eM.f k2 ae ((aa U aA).f0)).bind fun t241=>(bB.j2 k2 jL aA (!t241) U ab ae af ((aa U aA).f0) ((aa U aA).f1) ((aa U aA).f2))))) else (bB.j2 k2 jL aA true U ab ae af ((aa U aA).f0) ((aa U aA).f1) ((aa U aA).f2))))) else (none)) else (none)) else ((fm.f ((aa U aA).f2) 0 (((aa U aA).f1).length:Int)).bind fun t242=>(if t242=true then ((eM.f k2 ab ((aa U aA).f0)).bind fun t243=>(if t243=true then (bB.j2 k2 jL aA false U ab ae af ((aa U aA).f0) ((aa U aA).f1) ((aa U aA).f2)) else ((eM.f k2 ae ((aa U aA).f0)).bind fun t244=>(bB.j2 k2 jL aA (!t244) U ab ae af ((aa U aA).f0) ((aa U aA).f1) ((aa U aA).f2))))) else (bB.j2 k2 jL aA true U ab ae af ((aa U aA).f0) ((aa U aA).f1) ((aa U aA).f2))))) else (bB.j2 k2 jL aA true U ab ae af ((aa U aA).f0) ((aa U aA).f1) ((aa U aA).f2)))=some r:=H;have wS:=J V5;clear V5;by_cases ri:t237=true
         ·subst ri;have H1:=H;rw[if_pos rfl]at H1;clear H;have H:=H1;clear H1;by_cases jy:aA>0
          ·rw[if_pos jy]at H;have vQ:decide (0<aA)=true:=decide_eq_true jy;clear jy
           (first|rw[vQ]|(simp only[iq,jJ];rw[vQ])|skip)
           obtain⟨cF,wa⟩:∃j_:Int,(wrap64 (aA-1))=j_:=⟨_,rfl⟩;replace H:(if 0≤(cF) then (if (cF)<(U.length:Int) then (if ((aa U (cF)).f0)≥((aa U aA).f0) then (bB.j2 k2 jL aA true U ab ae af ((aa U aA).f0) ((aa U aA).f1) ((aa U aA).f2)) else ((fm.f ((aa U aA).f2) 0 (((aa U aA).f1).length:Int)).bind fun t239=>(if t239=true then ((eM.f k2 ab ((aa U aA).f0)).bind fun t240=>(if t240=true then (bB.j2 k2 jL aA false U ab ae af ((aa U aA).f0) ((aa U aA).f1) ((aa U aA).f2)) else ((eM.f k2 ae ((aa U aA).f0)).bind fun t241=>(bB.j2 k2 jL aA (!t241) U ab ae af ((aa U aA).f0) ((aa U aA).f1) ((aa U aA).f2))))) else (bB.j2 k2 jL aA true U ab ae af ((aa U aA).f0) ((aa U aA).f1) ((aa U aA).f2))))) else (none)) else (none))=some r:=by first|(rw[wa]at H;exact H)|(simp only[wa]at H ⊢;exact H)
           (try rw[wa]at wS)
           have anI:(IntKind.i64.wrap (aA-1))=cF:=(iq _).trans wa;by_cases oo:0≤(cF)
           ·rw[if_pos oo]at H;have aik:=decide_eq_true oo;clear oo;by_cases l8:(cF)<(U.length:Int)
            ·rw[if_pos l8]at H;have Dv:=decide_eq_true l8;clear l8;by_cases fM:((aa U (cF)).f0)≥((aa U aA).f0)
             ·rw[if_pos fM]at H;have xr:decide (((aa U aA).f0)≤((aa U (cF)).f0))=true:=decide_eq_true fM;clear fM;have H':=J H;clear H
              try go_wp2
              generalize hW_:(((k4.setCell ⟨eb,0,none⟩ (.int .i64 ((aa U aA).f0))).setCell ⟨eb,1,none⟩ (.slice iZ ((aa U aA).f1).length ji)).setCell ⟨eb,2,none⟩ (.int .i64 ((aa U aA).f2)))=Eu
              replace bY:Aside0 (Eu.heap[gf]? = some (.cells #[.slice (some gG) U.length al,.slice ao ab.length an,.slice aq ae.length ar,.int .i64 af] 30 (0,0))):=by rw[←hW_];exact⟨bH vF.1 bY.1⟩
              replace cD:Aside0 (Eu.heap[eb]? = some (.cells #[.int .i64 ((aa U aA).f0),.slice iZ ((aa U aA).f1).length ji,.int .i64 ((aa U aA).f2)] 80 (0,0))):=by rw[←hW_];exact⟨by refine mK ?_;refine aC (cs:=#[.int .i64 ((aa U aA).f0),.slice iZ ((aa U aA).f1).length ji,.int .i64 0]) ?_ 2 _ rfl;refine mK ?_;refine aC (cs:=#[.int .i64 ((aa U aA).f0),.slice none 0 0,.int .i64 0]) ?_ 1 _ rfl;refine mK ?_;refine aC (cs:=#[.int .i64 0,.slice none 0 0,.int .i64 0]) ?_ 0 _ rfl;refine mK ?_;exact cD.1⟩
              replace HB:Aside0 (Below w.heap.size w Eu):=by rw[←hW_];exact⟨(az HB.1 hJ.1 lA.1)⟩
              clear hW_;replace bY:=J (bR bY.1);replace cD:=J (bR cD.1);replace HB:=J (cP HB.1);have qH:0≤((cF):Int):=mD;have qJ:(cF)<(U.length:Int):=mD;obtain⟨Bd,Ay,Bk,Bo,oz,oA,oB,uE,uD⟩:=iW bG.1 (cF) qH qJ;have pz:=oB;have py:=oA;have px:=oz;obtain rfl:gG=Bd:=(by injection Bo);replace oz:=mX HB.1 oz;replace oA:=mX HB.1 oA;replace oB:=mX HB.1 oB;have AR:=J uD;have OF:=J uE;clear uD uE;replace qH:=eq_true qH;replace qJ:=eq_true qJ;refine ee (n:=48) (S:=fun w'=>w'.cell? ⟨eb,0,none⟩=some (.int .i64 ((aa U aA).f0))∧w'.cell? ⟨eb,1,none⟩=some (.slice iZ ((aa U aA).f1).length ji)∧w'.cell? ⟨eb,2,none⟩=some (.int .i64 ((aa U aA).f2))∧w'.cell? ⟨gf,0,none⟩=some (.slice (some gG) U.length al)∧w'.cell? ⟨gf,1,none⟩=some (.slice ao ab.length an)∧w'.cell? ⟨gf,2,none⟩=some (.slice aq ae.length ar)∧w'.cell? ⟨gf,3,none⟩=some (.int .i64 af)∧w'.cell? (gG.add (((cF)).toNat*3))=some (.int .i64 ((aa U (cF)).f0))∧w'.cell? ⟨(gG.add (((cF)).toNat*3)).block,(gG.add (((cF)).toNat*3)).off+1,none⟩=some (.slice Ay ((aa U (cF)).f1).length Bk)∧w'.cell? ⟨(gG.add (((cF)).toNat*3)).block,(gG.add (((cF)).toNat*3)).off+2,none⟩=some (.int .i64 ((aa U (cF)).f2))) (ds:=[]) (mb 0 48) (by kernel_rfl) rfl rfl (eA cD.1 (ey bY.1 ⟨(mX HB.1 px :),⟨(mX HB.1 py :),(mX HB.1 pz :)⟩⟩)) (fun hHeld=>?_);refine fc bB.Al bB.zk (fun HT_ HW_=>?_);generalize Eu.drew=wF at bY cD HB AR oz oA oB hHeld ⊢
              refine ai 0 28 HT_.1 (mb 1 47) ?_;refine ai 2 30 HT_.1 (mr [1,1,1,45]) ?_;refine aQ 1 29 HT_.1 HW_.1 (mb 3 45) hHeld ?_;refine aQ 3 31 HT_.1 HW_.1 (mb 4 44) hHeld ?_;refine ai 4 32 HT_.1 (mb 5 43) ?_;refine bV 5 (some 33) HT_.1 (mb 6 42) (fun K hK=>?_);refine dd Try.func89 (by kernel_rfl) rfl #[.int .i64 ((aa U aA).f0),.int .i64 1,.int .i64 (wrap64 (af-1))] (by rfl) rfl rfl mA ?_
              with_reducible refine(fm.calls ((aa U aA).f0) 1 (wrap64 (af-1)) true _ wS.1).mono ?_
              rintro e w' ⟨rfl,⟨nd,rfl⟩⟩;refine⟨_,rfl,?_⟩;refine hK.out _ _ (eA cD.1 (ey bY.1 ⟨(mX HB.1 px :),⟨(mX HB.1 py :),(mX HB.1 pz :)⟩⟩)) (fun hHeld=>?_);clear hK K;refine bp 33 ?_;refine ai 6 34 HT_.1 (mb 7 41) ?_;refine ai 7 35 HT_.1 (mb 8 40) ?_;refine ai 8 36 HT_.1 (mb 9 39) ?_;refine ai 9 37 HT_.1 (mb 10 38) ?_;refine ai 10 38 HT_.1 (mb 11 37) ?_;refine ai 11 39 HT_.1 (mb 12 36) ?_;refine ai 13 41 HT_.1 (mr [12,1,1,34]) ?_;refine ai 14 42 HT_.1 (mr [12,1,2,33]) ?_;refine ai 18 46 HT_.1 (mr [12,1,2,3,1,29]) ?_;refine aQ 12 40 HT_.1 HW_.1 (mr [15,3,1,29]) hHeld ?_;refine ai 15 43 HT_.1 (mr [16,2,1,29]) ?_;refine ai 16 44 HT_.1 (mr [17,1,1,29]) ?_;refine aQ 17 45 HT_.1 HW_.1 (mb 19 29) hHeld ?_;refine aQ 19 47 HT_.1 HW_.1 (mb 20 28) hHeld ?_;refine ai 20 48 HT_.1 (mb 21 27) ?_;refine ai 21 49 HT_.1 (mb 22 26) ?_;refine ai 22 50 HT_.1 (mb 23 25) ?_;refine ai 23 51 HT_.1 (mb 24 24) ?_;refine au 24 52 HT_.1 (mb 25 23) ?_;refine au 25 53 HT_.1 (mb 26 22) ?_;refine au 26 54 HT_.1 (mb 27 21) ?_;refine au 27 55 HT_.1 (mb 28 20) ?_;refine au 28 56 HT_.1 (mb 29 19) ?_;refine au 29 57 HT_.1 (mb 30 18) ?_;refine au 30 58 HT_.1 (mb 31 17) ?_;refine ai 31 59 HT_.1 (mb 32 16) ?_;refine ai 32 60 HT_.1 (mb 33 15) ?_;refine au 33 61 HT_.1 (mb 34 14) ?_;refine au 34 62 HT_.1 (mb 35 13) ?_;refine au 35 63 HT_.1 (mb 36 12) ?_;refine au 36 64 HT_.1 (mb 37 11) ?_;refine au 37 65 HT_.1 (mb 38 10) ?_;refine au 38 66 HT_.1 (mb 39 9) ?_;refine au 39 67 HT_.1 (mb 40 8) ?_;refine au 40 68 HT_.1 (mb 41 7) ?_;refine au 41 69 HT_.1 (mb 42 6) ?_;refine au 42 70 HT_.1 (mb 43 5) ?_;refine au 43 71 HT_.1 (mb 44 4) ?_;refine au 44 72 HT_.1 (mb 45 3) ?_;refine au 45 73 HT_.1 (mb 46 2) ?_;refine au 46 74 HT_.1 (mb 47 1) ?_;refine ai 47 75 HT_.1 (mb 48 0) ?_;refine ec (eZ HT_.1 (by kernel_rfl)) ?_
              try go_wp2
              go_meet
              case rel=>exact⟨_,(true),mE,H',⟨by have:=si.1;have:=lT.1;first|omega|exact Nat.le_refl _⟩,⟨mK bY.1⟩,⟨mK cD.1⟩,⟨(az HB.1 hJ.1 lA.1)⟩⟩
             ·rw[if_neg fM]at H;have xr:decide (((aa U aA).f0)≤((aa U (cF)).f0))=false:=decide_eq_false fM;clear fM;replace H:=Option.bind_eq_some_iff.mp H;obtain⟨t239,yN,H⟩:=H;replace H:(if t239=true then ((eM.f k2 ab ((aa U aA).f0)).bind fun t240=>(if t240=true then (bB.j2 k2 jL aA false U ab ae af ((aa U aA).f0) ((aa U aA).f1) ((aa U aA).f2)) else ((eM.f k2 ae ((aa U aA).f0)).bind fun t241=>(bB.j2 k2 jL aA (!t241) U ab ae af ((aa U aA).f0) ((aa U aA).f1) ((aa U aA).f2))))) else (bB.j2 k2 jL aA true U ab ae af ((aa U aA).f0) ((aa U aA).f1) ((aa U aA).f2)))=some r:=H;have Az:=J yN;clear yN;by_cases lF:t239=true
              ·subst lF;have H1:=H;rw[if_pos rfl]at H1;clear H;have H:=H1;clear H1;replace H:=Option.bind_eq_some_iff.mp H;obtain⟨t240,yO,H⟩:=H;replace H:(if t240=true then (bB.j2 k2 jL aA false U ab ae af ((aa U aA).f0) ((aa U aA).f1) ((aa U aA).f2)) else ((eM.f k2 ae ((aa U aA).f0)).bind fun t241=>(bB.j2 k2 jL aA (!t241) U ab ae af ((aa U aA).f0) ((aa U aA).f1) ((aa U aA).f2))))=some r:=H;have CS:=J yO;clear yO;by_cases tj:t240=true
               ·subst tj;have H1:=H;rw[if_pos rfl]at H1;clear H;have H:=H1;clear H1;have H':=J H;clear H
                try go_wp2
                generalize hW_:(((k4.setCell ⟨eb,0,none⟩ (.int .i64 ((aa U aA).f0))).setCell ⟨eb,1,none⟩ (.slice iZ ((aa U aA).f1).length ji)).setCell ⟨eb,2,none⟩ (.int .i64 ((aa U aA).f2)))=wG
                replace bY:Aside0 (wG.heap[gf]? = some (.cells #[.slice (some gG) U.length al,.slice ao ab.length an,.slice aq ae.length ar,.int .i64 af] 30 (0,0))):=by rw[←hW_];exact⟨bH vF.1 bY.1⟩
                replace cD:Aside0 (wG.heap[eb]? = some (.cells #[.int .i64 ((aa U aA).f0),.slice iZ ((aa U aA).f1).length ji,.int .i64 ((aa U aA).f2)] 80 (0,0))):=by rw[←hW_];exact⟨by refine mK ?_;refine aC (cs:=#[.int .i64 ((aa U aA).f0),.slice iZ ((aa U aA).f1).length ji,.int .i64 0]) ?_ 2 _ rfl;refine mK ?_;refine aC (cs:=#[.int .i64 ((aa U aA).f0),.slice none 0 0,.int .i64 0]) ?_ 1 _ rfl;refine mK ?_;refine aC (cs:=#[.int .i64 0,.slice none 0 0,.int .i64 0]) ?_ 0 _ rfl;refine mK ?_;exact cD.1⟩
                replace HB:Aside0 (Below w.heap.size w wG):=by rw[←hW_];exact⟨(az HB.1 hJ.1 lA.1)⟩
                clear hW_;replace bY:=J (bR bY.1);replace cD:=J (bR cD.1);replace HB:=J (cP HB.1);have qH:0≤((cF):Int):=mD;have qJ:(cF)<(U.length:Int):=mD;obtain⟨Bd,Ay,Bk,Bo,oz,oA,oB,uE,uD⟩:=iW bG.1 (cF) qH qJ;have pz:=oB;have py:=oA;have px:=oz;obtain rfl:gG=Bd:=(by injection Bo);replace oz:=mX HB.1 oz;replace oA:=mX HB.1 oA;replace oB:=mX HB.1 oB;have AR:=J uD;have OF:=J uE;clear uD uE;replace qH:=eq_true qH;replace qJ:=eq_true qJ;refine ee (n:=48) (S:=fun w'=>w'.cell? ⟨eb,0,none⟩=some (.int .i64 ((aa U aA).f0))∧w'.cell? ⟨eb,1,none⟩=some (.slice iZ ((aa U aA).f1).length ji)∧w'.cell? ⟨eb,2,none⟩=some (.int .i64 ((aa U aA).f2))∧w'.cell? ⟨gf,0,none⟩=some (.slice (some gG) U.length al)∧w'.cell? ⟨gf,1,none⟩=some (.slice ao ab.length an)∧w'.cell? ⟨gf,2,none⟩=some (.slice aq ae.length ar)∧w'.cell? ⟨gf,3,none⟩=some (.int .i64 af)∧w'.cell? (gG.add (((cF)).toNat*3))=some (.int .i64 ((aa U (cF)).f0))∧w'.cell? ⟨(gG.add (((cF)).toNat*3)).block,(gG.add (((cF)).toNat*3)).off+1,none⟩=some (.slice Ay ((aa U (cF)).f1).length Bk)∧w'.cell? ⟨(gG.add (((cF)).toNat*3)).block,(gG.add (((cF)).toNat*3)).off+2,none⟩=some (.int .i64 ((aa U (cF)).f2))) (ds:=[]) (mb 0 48) (by kernel_rfl) rfl rfl (eA cD.1 (ey bY.1 ⟨(mX HB.1 px :),⟨(mX HB.1 py :),(mX HB.1 pz :)⟩⟩)) (fun hHeld=>?_);refine fc bB.Al bB.zk (fun HT_ HW_=>?_);generalize wG.drew=mF at bY cD HB AR oz oA oB hHeld ⊢
                refine ai 0 28 HT_.1 (mb 1 47) ?_;refine ai 2 30 HT_.1 (mr [1,1,1,45]) ?_;refine aQ 1 29 HT_.1 HW_.1 (mb 3 45) hHeld ?_;refine aQ 3 31 HT_.1 HW_.1 (mb 4 44) hHeld ?_;refine ai 4 32 HT_.1 (mb 5 43) ?_;refine bV 5 (some 33) HT_.1 (mb 6 42) (fun K hK=>?_);refine dd Try.func89 (by kernel_rfl) rfl #[.int .i64 ((aa U aA).f0),.int .i64 1,.int .i64 (wrap64 (af-1))] (by rfl) rfl rfl mA ?_
                with_reducible refine(fm.calls ((aa U aA).f0) 1 (wrap64 (af-1)) true _ wS.1).mono ?_
                rintro e w' ⟨rfl,⟨nd,rfl⟩⟩;refine⟨_,rfl,?_⟩;refine hK.out _ _ (eA cD.1 (ey bY.1 ⟨(mX HB.1 px :),⟨(mX HB.1 py :),(mX HB.1 pz :)⟩⟩)) (fun hHeld=>?_);clear hK K;refine bp 33 ?_;refine ai 6 34 HT_.1 (mb 7 41) ?_;refine ai 7 35 HT_.1 (mb 8 40) ?_;refine ai 8 36 HT_.1 (mb 9 39) ?_;refine ai 9 37 HT_.1 (mb 10 38) ?_;refine ai 10 38 HT_.1 (mb 11 37) ?_;refine ai 11 39 HT_.1 (mb 12 36) ?_;refine ai 13 41 HT_.1 (mr [12,1,1,34]) ?_;refine ai 14 42 HT_.1 (mr [12,1,2,33]) ?_;refine ai 18 46 HT_.1 (mr [12,1,2,3,1,29]) ?_;refine aQ 12 40 HT_.1 HW_.1 (mr [15,3,1,29]) hHeld ?_;refine ai 15 43 HT_.1 (mr [16,2,1,29]) ?_;refine ai 16 44 HT_.1 (mr [17,1,1,29]) ?_;refine aQ 17 45 HT_.1 HW_.1 (mb 19 29) hHeld ?_;refine aQ 19 47 HT_.1 HW_.1 (mb 20 28) hHeld ?_;refine ai 20 48 HT_.1 (mb 21 27) ?_;refine ai 21 49 HT_.1 (mb 22 26) ?_;refine ai 22 50 HT_.1 (mb 23 25) ?_;refine ai 23 51 HT_.1 (mb 24 24) ?_;refine ai 24 52 HT_.1 (mb 25 23) ?_;refine ai 26 54 HT_.1 (mr [25,1,1,21]) ?_;refine aQ 25 53 HT_.1 HW_.1 (mb 27 21) hHeld ?_;refine aQ 27 55 HT_.1 HW_.1 (mb 28 20) hHeld ?_;refine ai 28 56 HT_.1 (mb 29 19) ?_;refine bV 29 (some 57) HT_.1 (mb 30 18) (fun K hK=>?_);refine dd Try.func89 (by kernel_rfl) rfl #[.int .i64 ((aa U aA).f2),.int .i64 0,.int .i64 (((aa U aA).f1).length:Int)] (by rfl) rfl rfl mA ?_
                with_reducible refine(fm.calls ((aa U aA).f2) 0 (((aa U aA).f1).length:Int) true _ Az.1).mono ?_
                rintro e w' ⟨rfl,⟨nd,rfl⟩⟩;refine⟨_,rfl,?_⟩;refine hK.out _ _ (eA cD.1 (ey bY.1 ⟨(mX HB.1 px :),⟨(mX HB.1 py :),(mX HB.1 pz :)⟩⟩)) (fun hHeld=>?_);clear hK K;refine bp 57 ?_;refine ai 30 58 HT_.1 (mb 31 17) ?_;refine ai 31 59 HT_.1 (mb 32 16) ?_;refine ai 32 60 HT_.1 (mb 33 15) ?_;refine ai 33 61 HT_.1 (mb 34 14) ?_;refine ai 35 63 HT_.1 (mr [34,1,1,12]) ?_;refine aQ 34 62 HT_.1 HW_.1 (mb 36 12) hHeld ?_;refine aQ 36 64 HT_.1 HW_.1 (mb 37 11) hHeld ?_;refine bV 37 (some 65) HT_.1 (mb 38 10) (fun K hK=>?_);refine dd Try.func100 (by kernel_rfl) rfl #[.slice ao ab.length an,.int .i64 ((aa U aA).f0)] (by rfl) rfl rfl mA ?_
                with_reducible refine(eM.calls k2 _ _ ab ((aa U aA).f0) true _ ?aG ?aH CS.1).mono ?_
                (case aG=>exact mC (Kd.aE bE.1 (az HB.1 hJ.1 lA.1)))
                (case aH=>exact bO.1)
                rintro e w' ⟨rfl,⟨nd,rfl⟩⟩;refine⟨_,rfl,?_⟩;refine hK.out _ _ (eA cD.1 (ey bY.1 ⟨(mX HB.1 px :),⟨(mX HB.1 py :),(mX HB.1 pz :)⟩⟩)) (fun hHeld=>?_);clear hK K;refine bp 65 ?_;refine ai 38 66 HT_.1 (mb 39 9) ?_;refine ai 39 67 HT_.1 (mb 40 8) ?_;refine au 40 68 HT_.1 (mb 41 7) ?_;refine au 41 69 HT_.1 (mb 42 6) ?_;refine au 42 70 HT_.1 (mb 43 5) ?_;refine au 43 71 HT_.1 (mb 44 4) ?_;refine au 44 72 HT_.1 (mb 45 3) ?_;refine au 45 73 HT_.1 (mb 46 2) ?_;refine ai 46 74 HT_.1 (mb 47 1) ?_;refine ai 47 75 HT_.1 (mb 48 0) ?_;refine ec (eZ HT_.1 (by kernel_rfl)) ?_
                try go_wp2
                go_meet
                case rel=>exact⟨_,(false),mE,H',⟨by have:=si.1;have:=lT.1;first|omega|exact Nat.le_refl _⟩,⟨mK bY.1⟩,⟨mK cD.1⟩,⟨(az HB.1 hJ.1 lA.1)⟩⟩
               ·replace tj:=Bool.eq_false_iff.mpr tj;subst tj;have H1:=H;rw[if_neg (show ¬(false=true) by decide)]at H1;clear H;have H:=H1;clear H1;replace H:=Option.bind_eq_some_iff.mp H;obtain⟨t241,Wc,H⟩:=H;replace H:(bB.j2 k2 jL aA (!t241) U ab ae af ((aa U aA).f0) ((aa U aA).f1) ((aa U aA).f2))=some r:=H;have A31:=J Wc;clear Wc;have H':=J H;clear H
                try go_wp2
                generalize hW_:(((k4.setCell ⟨eb,0,none⟩ (.int .i64 ((aa U aA).f0))).setCell ⟨eb,1,none⟩ (.slice iZ ((aa U aA).f1).length ji)).setCell ⟨eb,2,none⟩ (.int .i64 ((aa U aA).f2)))=Am
                replace bY:Aside0 (Am.heap[gf]? = some (.cells #[.slice (some gG) U.length al,.slice ao ab.length an,.slice aq ae.length ar,.int .i64 af] 30 (0,0))):=by rw[←hW_];exact⟨bH vF.1 bY.1⟩
                replace cD:Aside0 (Am.heap[eb]? = some (.cells #[.int .i64 ((aa U aA).f0),.slice iZ ((aa U aA).f1).length ji,.int .i64 ((aa U aA).f2)] 80 (0,0))):=by rw[←hW_];exact⟨by refine mK ?_;refine aC (cs:=#[.int .i64 ((aa U aA).f0),.slice iZ ((aa U aA).f1).length ji,.int .i64 0]) ?_ 2 _ rfl;refine mK ?_;refine aC (cs:=#[.int .i64 ((aa U aA).f0),.slice none 0 0,.int .i64 0]) ?_ 1 _ rfl;refine mK ?_;refine aC (cs:=#[.int .i64 0,.slice none 0 0,.int .i64 0]) ?_ 0 _ rfl;refine mK ?_;exact cD.1⟩
                replace HB:Aside0 (Below w.heap.size w Am):=by rw[←hW_];exact⟨(az HB.1 hJ.1 lA.1)⟩
                clear hW_;replace bY:=J (bR bY.1);replace cD:=J (bR cD.1);replace HB:=J (cP HB.1);have qH:0≤((cF):Int):=mD;have qJ:(cF)<(U.length:Int):=mD;obtain⟨Bd,Ay,Bk,Bo,oz,oA,oB,uE,uD⟩:=iW bG.1 (cF) qH qJ;have pz:=oB;have py:=oA;have px:=oz;obtain rfl:gG=Bd:=(by injection Bo);replace oz:=mX HB.1 oz;replace oA:=mX HB.1 oA;replace oB:=mX HB.1 oB;have AR:=J uD;have OF:=J uE;clear uD uE;replace qH:=eq_true qH;replace qJ:=eq_true qJ;refine ee (n:=48) (S:=fun w'=>w'.cell? ⟨eb,0,none⟩=some (.int .i64 ((aa U aA).f0))∧w'.cell? ⟨eb,1,none⟩=some (.slice iZ ((aa U aA).f1).length ji)∧w'.cell? ⟨eb,2,none⟩=some (.int .i64 ((aa U aA).f2))∧w'.cell? ⟨gf,0,none⟩=some (.slice (some gG) U.length al)∧w'.cell? ⟨gf,1,none⟩=some (.slice ao ab.length an)∧w'.cell? ⟨gf,2,none⟩=some (.slice aq ae.length ar)∧w'.cell? ⟨gf,3,none⟩=some (.int .i64 af)∧w'.cell? (gG.add (((cF)).toNat*3))=some (.int .i64 ((aa U (cF)).f0))∧w'.cell? ⟨(gG.add (((cF)).toNat*3)).block,(gG.add (((cF)).toNat*3)).off+1,none⟩=some (.slice Ay ((aa U (cF)).f1).length Bk)∧w'.cell? ⟨(gG.add (((cF)).toNat*3)).block,(gG.add (((cF)).toNat*3)).off+2,none⟩=some (.int .i64 ((aa U (cF)).f2))) (ds:=[]) (mb 0 48) (by kernel_rfl) rfl rfl (eA cD.1 (ey bY.1 ⟨(mX HB.1 px :),⟨(mX HB.1 py :),(mX HB.1 pz :)⟩⟩)) (fun hHeld=>?_);refine fc bB.Al bB.zk (fun HT_ HW_=>?_);generalize Am.drew=w33 at bY cD HB AR oz oA oB hHeld ⊢
                refine ai 0 28 HT_.1 (mb 1 47) ?_;refine ai 2 30 HT_.1 (mr [1,1,1,45]) ?_;refine aQ 1 29 HT_.1 HW_.1 (mb 3 45) hHeld ?_;refine aQ 3 31 HT_.1 HW_.1 (mb 4 44) hHeld ?_;refine ai 4 32 HT_.1 (mb 5 43) ?_;refine bV 5 (some 33) HT_.1 (mb 6 42) (fun K hK=>?_);refine dd Try.func89 (by kernel_rfl) rfl #[.int .i64 ((aa U aA).f0),.int .i64 1,.int .i64 (wrap64 (af-1))] (by rfl) rfl rfl mA ?_
                with_reducible refine(fm.calls ((aa U aA).f0) 1 (wrap64 (af-1)) true _ wS.1).mono ?_
                rintro e w' ⟨rfl,⟨nd,rfl⟩⟩;refine⟨_,rfl,?_⟩;refine hK.out _ _ (eA cD.1 (ey bY.1 ⟨(mX HB.1 px :),⟨(mX HB.1 py :),(mX HB.1 pz :)⟩⟩)) (fun hHeld=>?_);clear hK K;refine bp 33 ?_;refine ai 6 34 HT_.1 (mb 7 41) ?_;refine ai 7 35 HT_.1 (mb 8 40) ?_;refine ai 8 36 HT_.1 (mb 9 39) ?_;refine ai 9 37 HT_.1 (mb 10 38) ?_;refine ai 10 38 HT_.1 (mb 11 37) ?_;refine ai 11 39 HT_.1 (mb 12 36) ?_;refine ai 13 41 HT_.1 (mr [12,1,1,34]) ?_;refine ai 14 42 HT_.1 (mr [12,1,2,33]) ?_;refine ai 18 46 HT_.1 (mr [12,1,2,3,1,29]) ?_;refine aQ 12 40 HT_.1 HW_.1 (mr [15,3,1,29]) hHeld ?_;refine ai 15 43 HT_.1 (mr [16,2,1,29]) ?_;refine ai 16 44 HT_.1 (mr [17,1,1,29]) ?_;refine aQ 17 45 HT_.1 HW_.1 (mb 19 29) hHeld ?_;refine aQ 19 47 HT_.1 HW_.1 (mb 20 28) hHeld ?_;refine ai 20 48 HT_.1 (mb 21 27) ?_;refine ai 21 49 HT_.1 (mb 22 26) ?_;refine ai 22 50 HT_.1 (mb 23 25) ?_;refine ai 23 51 HT_.1 (mb 24 24) ?_;refine ai 24 52 HT_.1 (mb 25 23) ?_;refine ai 26 54 HT_.1 (mr [25,1,1,21]) ?_;refine aQ 25 53 HT_.1 HW_.1 (mb 27 21) hHeld ?_;refine aQ 27 55 HT_.1 HW_.1 (mb 28 20) hHeld ?_;refine ai 28 56 HT_.1 (mb 29 19) ?_;refine bV 29 (some 57) HT_.1 (mb 30 18) (fun K hK=>?_);refine dd Try.func89 (by kernel_rfl) rfl #[.int .i64 ((aa U aA).f2),.int .i64 0,.int .i64 (((aa U aA).f1).length:Int)] (by rfl) rfl rfl mA ?_
                with_reducible refine(fm.calls ((aa U aA).f2) 0 (((aa U aA).f1).length:Int) true _ Az.1).mono ?_
                rintro e w' ⟨rfl,⟨nd,rfl⟩⟩;refine⟨_,rfl,?_⟩;refine hK.out _ _ (eA cD.1 (ey bY.1 ⟨(mX HB.1 px :),⟨(mX HB.1 py :),(mX HB.1 pz :)⟩⟩)) (fun hHeld=>?_);clear hK K;refine bp 57 ?_;refine ai 30 58 HT_.1 (mb 31 17) ?_;refine ai 31 59 HT_.1 (mb 32 16) ?_;refine ai 32 60 HT_.1 (mb 33 15) ?_;refine ai 33 61 HT_.1 (mb 34 14) ?_;refine ai 35 63 HT_.1 (mr [34,1,1,12]) ?_;refine aQ 34 62 HT_.1 HW_.1 (mb 36 12) hHeld ?_;refine aQ 36 64 HT_.1 HW_.1 (mb 37 11) hHeld ?_;refine bV 37 (some 65) HT_.1 (mb 38 10) (fun K hK=>?_);refine dd Try.func100 (by kernel_rfl) rfl #[.slice ao ab.length an,.int .i64 ((aa U aA).f0)] (by rfl) rfl rfl mA ?_
                with_reducible refine(eM.calls k2 _ _ ab ((aa U aA).f0) false _ ?aG ?aH CS.1).mono ?_
                (case aG=>exact mC (Kd.aE bE.1 (az HB.1 hJ.1 lA.1)))
                (case aH=>exact bO.1)
                rintro e w' ⟨rfl,⟨nd,rfl⟩⟩;refine⟨_,rfl,?_⟩;refine hK.out _ _ (eA cD.1 (ey bY.1 ⟨(mX HB.1 px :),⟨(mX HB.1 py :),(mX HB.1 pz :)⟩⟩)) (fun hHeld=>?_);clear hK K;refine bp 65 ?_;refine ai 38 66 HT_.1 (mb 39 9) ?_;refine ai 39 67 HT_.1 (mb 40 8) ?_;refine ai 40 68 HT_.1 (mb 41 7) ?_;refine ai 42 70 HT_.1 (mr [41,1,1,5]) ?_;refine aQ 41 69 HT_.1 HW_.1 (mb 43 5) hHeld ?_;refine aQ 43 71 HT_.1 HW_.1 (mb 44 4) hHeld ?_;refine bV 44 (some 72) HT_.1 (mb 45 3) (fun K hK=>?_);refine dd Try.func100 (by kernel_rfl) rfl #[.slice aq ae.length ar,.int .i64 ((aa U aA).f0)] (by rfl) rfl rfl mA ?_
                with_reducible refine(eM.calls k2 _ _ ae ((aa U aA).f0) t241 _ ?aG ?aH A31.1).mono ?_
                (case aG=>exact mC (Kd.aE bL.1 (az HB.1 hJ.1 lA.1)))
                (case aH=>exact b6.1)
                rintro e w' ⟨rfl,⟨nd,rfl⟩⟩;refine⟨_,rfl,?_⟩;refine hK.out _ _ (eA cD.1 (ey bY.1 ⟨(mX HB.1 px :),⟨(mX HB.1 py :),(mX HB.1 pz :)⟩⟩)) (fun hHeld=>?_);clear hK K;refine bp 72 ?_;refine ai 45 73 HT_.1 (mb 46 2) ?_;refine ai 46 74 HT_.1 (mb 47 1) ?_;refine ai 47 75 HT_.1 (mb 48 0) ?_;refine ec (eZ HT_.1 (by kernel_rfl)) ?_
                try go_wp2
                go_meet
                case rel=>exact⟨_,(!t241),mE,H',⟨by have:=si.1;have:=lT.1;first|omega|exact Nat.le_refl _⟩,⟨mK bY.1⟩,⟨mK cD.1⟩,⟨(az HB.1 hJ.1 lA.1)⟩⟩
              ·replace lF:=Bool.eq_false_iff.mpr lF;subst lF;have H1:=H;rw[if_neg (show ¬(false=true) by decide)]at H1;clear H;have H:=H1;clear H1;have H':=J H;clear H
               try go_wp2
               generalize hW_:(((k4.setCell ⟨eb,0,none⟩ (.int .i64 ((aa U aA).f0))).setCell ⟨eb,1,none⟩ (.slice iZ ((aa U aA).f1).length ji)).setCell ⟨eb,2,none⟩ (.int .i64 ((aa U aA).f2)))=wH
               replace bY:Aside0 (wH.heap[gf]? = some (.cells #[.slice (some gG) U.length al,.slice ao ab.length an,.slice aq ae.length ar,.int .i64 af] 30 (0,0))):=by rw[←hW_];exact⟨bH vF.1 bY.1⟩
               replace cD:Aside0 (wH.heap[eb]? = some (.cells #[.int .i64 ((aa U aA).f0),.slice iZ ((aa U aA).f1).length ji,.int .i64 ((aa U aA).f2)] 80 (0,0))):=by rw[←hW_];exact⟨by refine mK ?_;refine aC (cs:=#[.int .i64 ((aa U aA).f0),.slice iZ ((aa U aA).f1).length ji,.int .i64 0]) ?_ 2 _ rfl;refine mK ?_;refine aC (cs:=#[.int .i64 ((aa U aA).f0),.slice none 0 0,.int .i64 0]) ?_ 1 _ rfl;refine mK ?_;refine aC (cs:=#[.int .i64 0,.slice none 0 0,.int .i64 0]) ?_ 0 _ rfl;refine mK ?_;exact cD.1⟩
               replace HB:Aside0 (Below w.heap.size w wH):=by rw[←hW_];exact⟨(az HB.1 hJ.1 lA.1)⟩
               clear hW_;replace bY:=J (bR bY.1);replace cD:=J (bR cD.1);replace HB:=J (cP HB.1);have qH:0≤((cF):Int):=mD;have qJ:(cF)<(U.length:Int):=mD;obtain⟨Bd,Ay,Bk,Bo,oz,oA,oB,uE,uD⟩:=iW bG.1 (cF) qH qJ;have pz:=oB;have py:=oA;have px:=oz;obtain rfl:gG=Bd:=(by injection Bo);replace oz:=mX HB.1 oz;replace oA:=mX HB.1 oA;replace oB:=mX HB.1 oB;have AR:=J uD;have OF:=J uE;clear uD uE;replace qH:=eq_true qH;replace qJ:=eq_true qJ;refine ee (n:=48) (S:=fun w'=>w'.cell? ⟨eb,0,none⟩=some (.int .i64 ((aa U aA).f0))∧w'.cell? ⟨eb,1,none⟩=some (.slice iZ ((aa U aA).f1).length ji)∧w'.cell? ⟨eb,2,none⟩=some (.int .i64 ((aa U aA).f2))∧w'.cell? ⟨gf,0,none⟩=some (.slice (some gG) U.length al)∧w'.cell? ⟨gf,1,none⟩=some (.slice ao ab.length an)∧w'.cell? ⟨gf,2,none⟩=some (.slice aq ae.length ar)∧w'.cell? ⟨gf,3,none⟩=some (.int .i64 af)∧w'.cell? (gG.add (((cF)).toNat*3))=some (.int .i64 ((aa U (cF)).f0))∧w'.cell? ⟨(gG.add (((cF)).toNat*3)).block,(gG.add (((cF)).toNat*3)).off+1,none⟩=some (.slice Ay ((aa U (cF)).f1).length Bk)∧w'.cell? ⟨(gG.add (((cF)).toNat*3)).block,(gG.add (((cF)).toNat*3)).off+2,none⟩=some (.int .i64 ((aa U (cF)).f2))) (ds:=[]) (mb 0 48) (by kernel_rfl) rfl rfl (eA cD.1 (ey bY.1 ⟨(mX HB.1 px :),⟨(mX HB.1 py :),(mX HB.1 pz :)⟩⟩)) (fun hHeld=>?_);refine fc bB.Al bB.zk (fun HT_ HW_=>?_);generalize wH.drew=k5 at bY cD HB AR oz oA oB hHeld ⊢
               refine ai 0 28 HT_.1 (mb 1 47) ?_;refine ai 2 30 HT_.1 (mr [1,1,1,45]) ?_;refine aQ 1 29 HT_.1 HW_.1 (mb 3 45) hHeld ?_;refine aQ 3 31 HT_.1 HW_.1 (mb 4 44) hHeld ?_;refine ai 4 32 HT_.1 (mb 5 43) ?_;refine bV 5 (some 33) HT_.1 (mb 6 42) (fun K hK=>?_);refine dd Try.func89 (by kernel_rfl) rfl #[.int .i64 ((aa U aA).f0),.int .i64 1,.int .i64 (wrap64 (af-1))] (by rfl) rfl rfl mA ?_
               with_reducible refine(fm.calls ((aa U aA).f0) 1 (wrap64 (af-1)) true _ wS.1).mono ?_
               rintro e w' ⟨rfl,⟨nd,rfl⟩⟩;refine⟨_,rfl,?_⟩;refine hK.out _ _ (eA cD.1 (ey bY.1 ⟨(mX HB.1 px :),⟨(mX HB.1 py :),(mX HB.1 pz :)⟩⟩)) (fun hHeld=>?_);clear hK K;refine bp 33 ?_;refine ai 6 34 HT_.1 (mb 7 41) ?_;refine ai 7 35 HT_.1 (mb 8 40) ?_;refine ai 8 36 HT_.1 (mb 9 39) ?_;refine ai 9 37 HT_.1 (mb 10 38) ?_;refine ai 10 38 HT_.1 (mb 11 37) ?_;refine ai 11 39 HT_.1 (mb 12 36) ?_;refine ai 13 41 HT_.1 (mr [12,1,1,34]) ?_;refine ai 14 42 HT_.1 (mr [12,1,2,33]) ?_;refine ai 18 46 HT_.1 (mr [12,1,2,3,1,29]) ?_;refine aQ 12 40 HT_.1 HW_.1 (mr [15,3,1,29]) hHeld ?_;refine ai 15 43 HT_.1 (mr [16,2,1,29]) ?_;refine ai 16 44 HT_.1 (mr [17,1,1,29]) ?_;refine aQ 17 45 HT_.1 HW_.1 (mb 19 29) hHeld ?_;refine aQ 19 47 HT_.1 HW_.1 (mb 20 28) hHeld ?_;refine ai 20 48 HT_.1 (mb 21 27) ?_;refine ai 21 49 HT_.1 (mb 22 26) ?_;refine ai 22 50 HT_.1 (mb 23 25) ?_;refine ai 23 51 HT_.1 (mb 24 24) ?_;refine ai 24 52 HT_.1 (mb 25 23) ?_;refine ai 26 54 HT_.1 (mr [25,1,1,21]) ?_;refine aQ 25 53 HT_.1 HW_.1 (mb 27 21) hHeld ?_;refine aQ 27 55 HT_.1 HW_.1 (mb 28 20) hHeld ?_;refine ai 28 56 HT_.1 (mb 29 19) ?_;refine bV 29 (some 57) HT_.1 (mb 30 18) (fun K hK=>?_);refine dd Try.func89 (by kernel_rfl) rfl #[.int .i64 ((aa U aA).f2),.int .i64 0,.int .i64 (((aa U aA).f1).length:Int)] (by rfl) rfl rfl mA ?_
               with_reducible refine(fm.calls ((aa U aA).f2) 0 (((aa U aA).f1).length:Int) false _ Az.1).mono ?_
               rintro e w' ⟨rfl,⟨nd,rfl⟩⟩;refine⟨_,rfl,?_⟩;refine hK.out _ _ (eA cD.1 (ey bY.1 ⟨(mX HB.1 px :),⟨(mX HB.1 py :),(mX HB.1 pz :)⟩⟩)) (fun hHeld=>?_);clear hK K;refine bp 57 ?_;refine ai 30 58 HT_.1 (mb 31 17) ?_;refine ai 31 59 HT_.1 (mb 32 16) ?_;refine ai 32 60 HT_.1 (mb 33 15) ?_;refine au 33 61 HT_.1 (mb 34 14) ?_;refine au 34 62 HT_.1 (mb 35 13) ?_;refine au 35 63 HT_.1 (mb 36 12) ?_;refine au 36 64 HT_.1 (mb 37 11) ?_;refine au 37 65 HT_.1 (mb 38 10) ?_;refine au 38 66 HT_.1 (mb 39 9) ?_;refine au 39 67 HT_.1 (mb 40 8) ?_;refine au 40 68 HT_.1 (mb 41 7) ?_;refine au 41 69 HT_.1 (mb 42 6) ?_;refine au 42 70 HT_.1 (mb 43 5) ?_;refine au 43 71 HT_.1 (mb 44 4) ?_;refine au 44 72 HT_.1 (mb 45 3) ?_;refine au 45 73 HT_.1 (mb 46 2) ?_;refine au 46 74 HT_.1 (mb 47 1) ?_;refine ai 47 75 HT_.1 (mb 48 0) ?_;refine ec (eZ HT_.1 (by kernel_rfl)) ?_
               try go_wp2
               go_meet
               case rel=>exact⟨_,(true),mE,H',⟨by have:=si.1;have:=lT.1;first|omega|exact Nat.le_refl _⟩,⟨mK bY.1⟩,⟨mK cD.1⟩,⟨(az HB.1 hJ.1 lA.1)⟩⟩
            ·rw[if_neg l8]at H;exact absurd H (by simp)
           ·rw[if_neg oo]at H;exact absurd H (by simp)
          ·rw[if_neg jy]at H;have vQ:decide (0<aA)=false:=decide_eq_false jy;clear jy
           (first|rw[vQ]|(simp only[iq,jJ];rw[vQ])|skip)
           replace H:=Option.bind_eq_some_iff.mp H;obtain⟨t242,ES,H⟩:=H;replace H:(if t242=true then ((eM.f k2 ab ((aa U aA).f0)).bind fun t243=>(if t243=true then (bB.j2 k2 jL aA false U ab ae af ((aa U aA).f0) ((aa U aA).f1) ((aa U aA).f2)) else ((eM.f k2 ae ((aa U aA).f0)).bind fun t244=>(bB.j2 k2 jL aA (!t244) U ab ae af ((aa U aA).f0) ((aa U aA).f1) ((aa U aA).f2))))) else (bB.j2 k2 jL aA true U ab ae af ((aa U aA).f0) ((aa U aA).f1) ((aa U aA).f2)))=some r:=H;have ER:=J ES;clear ES;by_cases KR:t242=true
           ·subst KR;have H1:=H;rw[if_pos rfl]at H1;clear H;have H:=H1;clear H1;replace H:=Option.bind_eq_some_iff.mp H;obtain⟨t243,Wh,H⟩:=H;replace H:(if t243=true then (bB.j2 k2 jL aA false U ab ae af ((aa U aA).f0) ((aa U aA).f1) ((aa U aA).f2)) else ((eM.f k2 ae ((aa U aA).f0)).bind fun t244=>(bB.j2 k2 jL aA (!t244) U ab ae af ((aa U aA).f0) ((aa U aA).f1) ((aa U aA).f2))))=some r:=H;have Wg:=J Wh;clear Wh;by_cases xt:t243=true
            ·subst xt;have H1:=H;rw[if_pos rfl]at H1;clear H;have H:=H1;clear H1;have H':=J H;clear H
             try go_wp2
             generalize hW_:(((k4.setCell ⟨eb,0,none⟩ (.int .i64 ((aa U aA).f0))).setCell ⟨eb,1,none⟩ (.slice iZ ((aa U aA).f1).length ji)).setCell ⟨eb,2,none⟩ (.int .i64 ((aa U aA).f2)))=vm
             replace bY:Aside0 (vm.heap[gf]? = some (.cells #[.slice (some gG) U.length al,.slice ao ab.length an,.slice aq ae.length ar,.int .i64 af] 30 (0,0))):=by rw[←hW_];exact⟨bH vF.1 bY.1⟩
             replace cD:Aside0 (vm.heap[eb]? = some (.cells #[.int .i64 ((aa U aA).f0),.slice iZ ((aa U aA).f1).length ji,.int .i64 ((aa U aA).f2)] 80 (0,0))):=by rw[←hW_];exact⟨by refine mK ?_;refine aC (cs:=#[.int .i64 ((aa U aA).f0),.slice iZ ((aa U aA).f1).length ji,.int .i64 0]) ?_ 2 _ rfl;refine mK ?_;refine aC (cs:=#[.int .i64 ((aa U aA).f0),.slice none 0 0,.int .i64 0]) ?_ 1 _ rfl;refine mK ?_;refine aC (cs:=#[.int .i64 0,.slice none 0 0,.int .i64 0]) ?_ 0 _ rfl;refine mK ?_;exact cD.1⟩
             replace HB:Aside0 (Below w.heap.size w vm):=by rw[←hW_];exact⟨(az HB.1 hJ.1 lA.1)⟩
             clear hW_;replace bY:=J (bR bY.1);replace cD:=J (bR cD.1);replace HB:=J (cP HB.1);refine ee (n:=48) (S:=fun w'=>w'.cell? ⟨eb,0,none⟩=some (.int .i64 ((aa U aA).f0))∧w'.cell? ⟨eb,1,none⟩=some (.slice iZ ((aa U aA).f1).length ji)∧w'.cell? ⟨eb,2,none⟩=some (.int .i64 ((aa U aA).f2))∧w'.cell? ⟨gf,0,none⟩=some (.slice (some gG) U.length al)∧w'.cell? ⟨gf,1,none⟩=some (.slice ao ab.length an)∧w'.cell? ⟨gf,2,none⟩=some (.slice aq ae.length ar)∧w'.cell? ⟨gf,3,none⟩=some (.int .i64 af)) (ds:=[]) (mb 0 48) (by kernel_rfl) rfl rfl (eA cD.1 (cA bY.1)) (fun hHeld=>?_);refine fc bB.Al bB.zk (fun HT_ HW_=>?_);generalize vm.drew=NO at bY cD HB hHeld ⊢
             refine ai 0 28 HT_.1 (mb 1 47) ?_;refine ai 2 30 HT_.1 (mr [1,1,1,45]) ?_;refine aQ 1 29 HT_.1 HW_.1 (mb 3 45) hHeld ?_;refine aQ 3 31 HT_.1 HW_.1 (mb 4 44) hHeld ?_;refine ai 4 32 HT_.1 (mb 5 43) ?_;refine bV 5 (some 33) HT_.1 (mb 6 42) (fun K hK=>?_);refine dd Try.func89 (by kernel_rfl) rfl #[.int .i64 ((aa U aA).f0),.int .i64 1,.int .i64 (wrap64 (af-1))] (by rfl) rfl rfl mA ?_
             with_reducible refine(fm.calls ((aa U aA).f0) 1 (wrap64 (af-1)) true _ wS.1).mono ?_
             rintro e w' ⟨rfl,⟨nd,rfl⟩⟩;refine⟨_,rfl,?_⟩;refine hK.out _ _ (eA cD.1 (cA bY.1)) (fun hHeld=>?_);clear hK K;refine bp 33 ?_;refine ai 6 34 HT_.1 (mb 7 41) ?_;refine ai 7 35 HT_.1 (mb 8 40) ?_;refine ai 8 36 HT_.1 (mb 9 39) ?_;refine ai 9 37 HT_.1 (mb 10 38) ?_;refine ai 10 38 HT_.1 (mb 11 37) ?_;refine au 11 39 HT_.1 (mb 12 36) ?_;refine au 12 40 HT_.1 (mb 13 35) ?_;refine au 13 41 HT_.1 (mb 14 34) ?_;refine au 14 42 HT_.1 (mb 15 33) ?_;refine au 15 43 HT_.1 (mb 16 32) ?_;refine au 16 44 HT_.1 (mb 17 31) ?_;refine au 17 45 HT_.1 (mb 18 30) ?_;refine au 18 46 HT_.1 (mb 19 29) ?_;refine au 19 47 HT_.1 (mb 20 28) ?_;refine au 20 48 HT_.1 (mb 21 27) ?_;refine ai 21 49 HT_.1 (mb 22 26) ?_;refine ai 22 50 HT_.1 (mb 23 25) ?_;refine ai 23 51 HT_.1 (mb 24 24) ?_;refine ai 24 52 HT_.1 (mb 25 23) ?_;refine ai 26 54 HT_.1 (mr [25,1,1,21]) ?_;refine aQ 25 53 HT_.1 HW_.1 (mb 27 21) hHeld ?_;refine aQ 27 55 HT_.1 HW_.1 (mb 28 20) hHeld ?_;refine ai 28 56 HT_.1 (mb 29 19) ?_;refine bV 29 (some 57) HT_.1 (mb 30 18) (fun K hK=>?_);refine dd Try.func89 (by kernel_rfl) rfl #[.int .i64 ((aa U aA).f2),.int .i64 0,.int .i64 (((aa U aA).f1).length:Int)] (by rfl) rfl rfl mA ?_
             with_reducible refine(fm.calls ((aa U aA).f2) 0 (((aa U aA).f1).length:Int) true _ ER.1).mono ?_
             rintro e w' ⟨rfl,⟨nd,rfl⟩⟩;refine⟨_,rfl,?_⟩;refine hK.out _ _ (eA cD.1 (cA bY.1)) (fun hHeld=>?_);clear hK K;refine bp 57 ?_;refine ai 30 58 HT_.1 (mb 31 17) ?_;refine ai 31 59 HT_.1 (mb 32 16) ?_;refine ai 32 60 HT_.1 (mb 33 15) ?_;refine ai 33 61 HT_.1 (mb 34 14) ?_;refine ai 35 63 HT_.1 (mr [34,1,1,12]) ?_;refine aQ 34 62 HT_.1 HW_.1 (mb 36 12) hHeld ?_;refine aQ 36 64 HT_.1 HW_.1 (mb 37 11) hHeld ?_;refine bV 37 (some 65) HT_.1 (mb 38 10) (fun K hK=>?_);refine dd Try.func100 (by kernel_rfl) rfl #[.slice ao ab.length an,.int .i64 ((aa U aA).f0)] (by rfl) rfl rfl mA ?_
             with_reducible refine(eM.calls k2 _ _ ab ((aa U aA).f0) true _ ?aG ?aH Wg.1).mono ?_
             (case aG=>exact mC (Kd.aE bE.1 (az HB.1 hJ.1 lA.1)))
             (case aH=>exact bO.1)
             rintro e w' ⟨rfl,⟨nd,rfl⟩⟩;refine⟨_,rfl,?_⟩;refine hK.out _ _ (eA cD.1 (cA bY.1)) (fun hHeld=>?_);clear hK K;refine bp 65 ?_;refine ai 38 66 HT_.1 (mb 39 9) ?_;refine ai 39 67 HT_.1 (mb 40 8) ?_;refine au 40 68 HT_.1 (mb 41 7) ?_;refine au 41 69 HT_.1 (mb 42 6) ?_;refine au 42 70 HT_.1 (mb 43 5) ?_;refine au 43 71 HT_.1 (mb 44 4) ?_;refine au 44 72 HT_.1 (mb 45 3) ?_;refine au 45 73 HT_.1 (mb 46 2) ?_;refine ai 46 74 HT_.1 (mb 47 1) ?_;refine ai 47 75 HT_.1 (mb 48 0) ?_;refine ec (eZ HT_.1 (by kernel_rfl)) ?_
             try go_wp2
             go_meet
             case rel=>exact⟨_,(false),mE,H',⟨by have:=si.1;have:=lT.1;first|omega|exact Nat.le_refl _⟩,⟨mK bY.1⟩,⟨mK cD.1⟩,⟨(az HB.1 hJ.1 lA.1)⟩⟩
            ·replace xt:=Bool.eq_false_iff.mpr xt;subst xt;have H1:=H;rw[if_neg (show ¬(false=true) by decide)]at H1;clear H;have H:=H1;clear H1;replace H:=Option.bind_eq_some_iff.mp H;obtain⟨t244,Wk,H⟩:=H;replace H:(bB.j2 k2 jL aA (!t244) U ab ae af ((aa U aA).f0) ((aa U aA).f1) ((aa U aA).f2))=some r:=H;have A42:=J Wk;clear Wk;have H':=J H;clear H
             try go_wp2
             generalize hW_:(((k4.setCell ⟨eb,0,none⟩ (.int .i64 ((aa U aA).f0))).setCell ⟨eb,1,none⟩ (.slice iZ ((aa U aA).f1).length ji)).setCell ⟨eb,2,none⟩ (.int .i64 ((aa U aA).f2)))=p5
             replace bY:Aside0 (p5.heap[gf]? = some (.cells #[.slice (some gG) U.length al,.slice ao ab.length an,.slice aq ae.length ar,.int .i64 af] 30 (0,0))):=by rw[←hW_];exact⟨bH vF.1 bY.1⟩
             replace cD:Aside0 (p5.heap[eb]? = some (.cells #[.int .i64 ((aa U aA).f0),.slice iZ ((aa U aA).f1).length ji,.int .i64 ((aa U aA).f2)] 80 (0,0))):=by rw[←hW_];exact⟨by refine mK ?_;refine aC (cs:=#[.int .i64 ((aa U aA).f0),.slice iZ ((aa U aA).f1).length ji,.int .i64 0]) ?_ 2 _ rfl;refine mK ?_;refine aC (cs:=#[.int .i64 ((aa U aA).f0),.slice none 0 0,.int .i64 0]) ?_ 1 _ rfl;refine mK ?_;refine aC (cs:=#[.int .i64 0,.slice none 0 0,.int .i64 0]) ?_ 0 _ rfl;refine mK ?_;exact cD.1⟩
             replace HB:Aside0 (Below w.heap.size w p5):=by rw[←hW_];exact⟨(az HB.1 hJ.1 lA.1)⟩
             clear hW_;replace bY:=J (bR bY.1);replace cD:=J (bR cD.1);replace HB:=J (cP HB.1);refine ee (n:=48) (S:=fun w'=>w'.cell? ⟨eb,0,none⟩=some (.int .i64 ((aa U aA).f0))∧w'.cell? ⟨eb,1,none⟩=some (.slice iZ ((aa U aA).f1).length ji)∧w'.cell? ⟨eb,2,none⟩=some (.int .i64 ((aa U aA).f2))∧w'.cell? ⟨gf,0,none⟩=some (.slice (some gG) U.length al)∧w'.cell? ⟨gf,1,none⟩=some (.slice ao ab.length an)∧w'.cell? ⟨gf,2,none⟩=some (.slice aq ae.length ar)∧w'.cell? ⟨gf,3,none⟩=some (.int .i64 af)) (ds:=[]) (mb 0 48) (by kernel_rfl) rfl rfl (eA cD.1 (cA bY.1)) (fun hHeld=>?_);refine fc bB.Al bB.zk (fun HT_ HW_=>?_);generalize p5.drew=JG at bY cD HB hHeld ⊢
             refine ai 0 28 HT_.1 (mb 1 47) ?_;refine ai 2 30 HT_.1 (mr [1,1,1,45]) ?_;refine aQ 1 29 HT_.1 HW_.1 (mb 3 45) hHeld ?_;refine aQ 3 31 HT_.1 HW_.1 (mb 4 44) hHeld ?_;refine ai 4 32 HT_.1 (mb 5 43) ?_;refine bV 5 (some 33) HT_.1 (mb 6 42) (fun K hK=>?_);refine dd Try.func89 (by kernel_rfl) rfl #[.int .i64 ((aa U aA).f0),.int .i64 1,.int .i64 (wrap64 (af-1))] (by rfl) rfl rfl mA ?_
             with_reducible refine(fm.calls ((aa U aA).f0) 1 (wrap64 (af-1)) true _ wS.1).mono ?_
             rintro e w' ⟨rfl,⟨nd,rfl⟩⟩;refine⟨_,rfl,?_⟩;refine hK.out _ _ (eA cD.1 (cA bY.1)) (fun hHeld=>?_);clear hK K;refine bp 33 ?_;refine ai 6 34 HT_.1 (mb 7 41) ?_;refine ai 7 35 HT_.1 (mb 8 40) ?_;refine ai 8 36 HT_.1 (mb 9 39) ?_;refine ai 9 37 HT_.1 (mb 10 38) ?_;refine ai 10 38 HT_.1 (mb 11 37) ?_;refine au 11 39 HT_.1 (mb 12 36) ?_;refine au 12 40 HT_.1 (mb 13 35) ?_;refine au 13 41 HT_.1 (mb 14 34) ?_;refine au 14 42 HT_.1 (mb 15 33) ?_;refine au 15 43 HT_.1 (mb 16 32) ?_;refine au 16 44 HT_.1 (mb 17 31) ?_;refine au 17 45 HT_.1 (mb 18 30) ?_;refine au 18 46 HT_.1 (mb 19 29) ?_;refine au 19 47 HT_.1 (mb 20 28) ?_;refine au 20 48 HT_.1 (mb 21 27) ?_;refine ai 21 49 HT_.1 (mb 22 26) ?_;refine ai 22 50 HT_.1 (mb 23 25) ?_;refine ai 23 51 HT_.1 (mb 24 24) ?_;refine ai 24 52 HT_.1 (mb 25 23) ?_;refine ai 26 54 HT_.1 (mr [25,1,1,21]) ?_;refine aQ 25 53 HT_.1 HW_.1 (mb 27 21) hHeld ?_;refine aQ 27 55 HT_.1 HW_.1 (mb 28 20) hHeld ?_;refine ai 28 56 HT_.1 (mb 29 19) ?_;refine bV 29 (some 57) HT_.1 (mb 30 18) (fun K hK=>?_);refine dd Try.func89 (by kernel_rfl) rfl #[.int .i64 ((aa U aA).f2),.int .i64 0,.int .i64 (((aa U aA).f1).length:Int)] (by rfl) rfl rfl mA ?_
             with_reducible refine(fm.calls ((aa U aA).f2) 0 (((aa U aA).f1).length:Int) true _ ER.1).mono ?_
             rintro e w' ⟨rfl,⟨nd,rfl⟩⟩;refine⟨_,rfl,?_⟩;refine hK.out _ _ (eA cD.1 (cA bY.1)) (fun hHeld=>?_);clear hK K;refine bp 57 ?_;refine ai 30 58 HT_.1 (mb 31 17) ?_;refine ai 31 59 HT_.1 (mb 32 16) ?_;refine ai 32 60 HT_.1 (mb 33 15) ?_;refine ai 33 61 HT_.1 (mb 34 14) ?_;refine ai 35 63 HT_.1 (mr [34,1,1,12]) ?_;refine aQ 34 62 HT_.1 HW_.1 (mb 36 12) hHeld ?_;refine aQ 36 64 HT_.1 HW_.1 (mb 37 11) hHeld ?_;refine bV 37 (some 65) HT_.1 (mb 38 10) (fun K hK=>?_);refine dd Try.func100 (by kernel_rfl) rfl #[.slice ao ab.length an,.int .i64 ((aa U aA).f0)] (by rfl) rfl rfl mA ?_
             with_reducible refine(eM.calls k2 _ _ ab ((aa U aA).f0) false _ ?aG ?aH Wg.1).mono ?_
             (case aG=>exact mC (Kd.aE bE.1 (az HB.1 hJ.1 lA.1)))
             (case aH=>exact bO.1)
             rintro e w' ⟨rfl,⟨nd,rfl⟩⟩;refine⟨_,rfl,?_⟩;refine hK.out _ _ (eA cD.1 (cA bY.1)) (fun hHeld=>?_);clear hK K;refine bp 65 ?_;refine ai 38 66 HT_.1 (mb 39 9) ?_;refine ai 39 67 HT_.1 (mb 40 8) ?_;refine ai 40 68 HT_.1 (mb 41 7) ?_;refine ai 42 70 HT_.1 (mr [41,1,1,5]) ?_;refine aQ 41 69 HT_.1 HW_.1 (mb 43 5) hHeld ?_;refine aQ 43 71 HT_.1 HW_.1 (mb 44 4) hHeld ?_;refine bV 44 (some 72) HT_.1 (mb 45 3) (fun K hK=>?_);refine dd Try.func100 (by kernel_rfl) rfl #[.slice aq ae.length ar,.int .i64 ((aa U aA).f0)] (by rfl) rfl rfl mA ?_
             with_reducible refine(eM.calls k2 _ _ ae ((aa U aA).f0) t244 _ ?aG ?aH A42.1).mono ?_
             (case aG=>exact mC (Kd.aE bL.1 (az HB.1 hJ.1 lA.1)))
             (case aH=>exact b6.1)
             rintro e w' ⟨rfl,⟨nd,rfl⟩⟩;refine⟨_,rfl,?_⟩;refine hK.out _ _ (eA cD.1 (cA bY.1)) (fun hHeld=>?_);clear hK K;refine bp 72 ?_;refine ai 45 73 HT_.1 (mb 46 2) ?_;refine ai 46 74 HT_.1 (mb 47 1) ?_;refine ai 47 75 HT_.1 (mb 48 0) ?_;refine ec (eZ HT_.1 (by kernel_rfl)) ?_
             try go_wp2
             go_meet
             case rel=>exact⟨_,(!t244),mE,H',⟨by have:=si.1;have:=lT.1;first|omega|exact Nat.le_refl _⟩,⟨mK bY.1⟩,⟨mK cD.1⟩,⟨(az HB.1 hJ.1 lA.1)⟩⟩
           ·replace KR:=Bool.eq_false_iff.mpr KR;subst KR;have H1:=H;rw[if_neg (show ¬(false=true) by decide)]at H1;clear H;have H:=H1;clear H1;have H':=J H;clear H
            try go_wp2
            generalize hW_:(((k4.setCell ⟨eb,0,none⟩ (.int .i64 ((aa U aA).f0))).setCell ⟨eb,1,none⟩ (.slice iZ ((aa U aA).f1).length ji)).setCell ⟨eb,2,none⟩ (.int .i64 ((aa U aA).f2)))=Ex
            replace bY:Aside0 (Ex.heap[gf]? = some (.cells #[.slice (some gG) U.length al,.slice ao ab.length an,.slice aq ae.length ar,.int .i64 af] 30 (0,0))):=by rw[←hW_];exact⟨bH vF.1 bY.1⟩
            replace cD:Aside0 (Ex.heap[eb]? = some (.cells #[.int .i64 ((aa U aA).f0),.slice iZ ((aa U aA).f1).length ji,.int .i64 ((aa U aA).f2)] 80 (0,0))):=by rw[←hW_];exact⟨by refine mK ?_;refine aC (cs:=#[.int .i64 ((aa U aA).f0),.slice iZ ((aa U aA).f1).length ji,.int .i64 0]) ?_ 2 _ rfl;refine mK ?_;refine aC (cs:=#[.int .i64 ((aa U aA).f0),.slice none 0 0,.int .i64 0]) ?_ 1 _ rfl;refine mK ?_;refine aC (cs:=#[.int .i64 0,.slice none 0 0,.int .i64 0]) ?_ 0 _ rfl;refine mK ?_;exact cD.1⟩
            replace HB:Aside0 (Below w.heap.size w Ex):=by rw[←hW_];exact⟨(az HB.1 hJ.1 lA.1)⟩
            clear hW_;replace bY:=J (bR bY.1);replace cD:=J (bR cD.1);replace HB:=J (cP HB.1);refine ee (n:=48) (S:=fun w'=>w'.cell? ⟨eb,0,none⟩=some (.int .i64 ((aa U aA).f0))∧w'.cell? ⟨eb,1,none⟩=some (.slice iZ ((aa U aA).f1).length ji)∧w'.cell? ⟨eb,2,none⟩=some (.int .i64 ((aa U aA).f2))∧w'.cell? ⟨gf,0,none⟩=some (.slice (some gG) U.length al)∧w'.cell? ⟨gf,1,none⟩=some (.slice ao ab.length an)∧w'.cell? ⟨gf,2,none⟩=some (.slice aq ae.length ar)∧w'.cell? ⟨gf,3,none⟩=some (.int .i64 af)) (ds:=[]) (mb 0 48) (by kernel_rfl) rfl rfl (eA cD.1 (cA bY.1)) (fun hHeld=>?_);refine fc bB.Al bB.zk (fun HT_ HW_=>?_);generalize Ex.drew=w46 at bY cD HB hHeld ⊢
            refine ai 0 28 HT_.1 (mb 1 47) ?_;refine ai 2 30 HT_.1 (mr [1,1,1,45]) ?_;refine aQ 1 29 HT_.1 HW_.1 (mb 3 45) hHeld ?_;refine aQ 3 31 HT_.1 HW_.1 (mb 4 44) hHeld ?_;refine ai 4 32 HT_.1 (mb 5 43) ?_;refine bV 5 (some 33) HT_.1 (mb 6 42) (fun K hK=>?_);refine dd Try.func89 (by kernel_rfl) rfl #[.int .i64 ((aa U aA).f0),.int .i64 1,.int .i64 (wrap64 (af-1))] (by rfl) rfl rfl mA ?_
            with_reducible refine(fm.calls ((aa U aA).f0) 1 (wrap64 (af-1)) true _ wS.1).mono ?_
            rintro e w' ⟨rfl,⟨nd,rfl⟩⟩;refine⟨_,rfl,?_⟩;refine hK.out _ _ (eA cD.1 (cA bY.1)) (fun hHeld=>?_);clear hK K;refine bp 33 ?_;refine ai 6 34 HT_.1 (mb 7 41) ?_;refine ai 7 35 HT_.1 (mb 8 40) ?_;refine ai 8 36 HT_.1 (mb 9 39) ?_;refine ai 9 37 HT_.1 (mb 10 38) ?_;refine ai 10 38 HT_.1 (mb 11 37) ?_;refine au 11 39 HT_.1 (mb 12 36) ?_;refine au 12 40 HT_.1 (mb 13 35) ?_;refine au 13 41 HT_.1 (mb 14 34) ?_;refine au 14 42 HT_.1 (mb 15 33) ?_;refine au 15 43 HT_.1 (mb 16 32) ?_;refine au 16 44 HT_.1 (mb 17 31) ?_;refine au 17 45 HT_.1 (mb 18 30) ?_;refine au 18 46 HT_.1 (mb 19 29) ?_;refine au 19 47 HT_.1 (mb 20 28) ?_;refine au 20 48 HT_.1 (mb 21 27) ?_;refine ai 21 49 HT_.1 (mb 22 26) ?_;refine ai 22 50 HT_.1 (mb 23 25) ?_;refine ai 23 51 HT_.1 (mb 24 24) ?_;refine ai 24 52 HT_.1 (mb 25 23) ?_;refine ai 26 54 HT_.1 (mr [25,1,1,21]) ?_;refine aQ 25 53 HT_.1 HW_.1 (mb 27 21) hHeld ?_;refine aQ 27 55 HT_.1 HW_.1 (mb 28 20) hHeld ?_;refine ai 28 56 HT_.1 (mb 29 19) ?_;refine bV 29 (some 57) HT_.1 (mb 30 18) (fun K hK=>?_);refine dd Try.func89 (by kernel_rfl) rfl #[.int .i64 ((aa U aA).f2),.int .i64 0,.int .i64 (((aa U aA).f1).length:Int)] (by rfl) rfl rfl mA ?_
            with_reducible refine(fm.calls ((aa U aA).f2) 0 (((aa U aA).f1).length:Int) false _ ER.1).mono ?_
            rintro e w' ⟨rfl,⟨nd,rfl⟩⟩;refine⟨_,rfl,?_⟩;refine hK.out _ _ (eA cD.1 (cA bY.1)) (fun hHeld=>?_);clear hK K;refine bp 57 ?_;refine ai 30 58 HT_.1 (mb 31 17) ?_;refine ai 31 59 HT_.1 (mb 32 16) ?_;refine ai 32 60 HT_.1 (mb 33 15) ?_;refine au 33 61 HT_.1 (mb 34 14) ?_;refine au 34 62 HT_.1 (mb 35 13) ?_;refine au 35 63 HT_.1 (mb 36 12) ?_;refine au 36 64 HT_.1 (mb 37 11) ?_;refine au 37 65 HT_.1 (mb 38 10) ?_;refine au 38 66 HT_.1 (mb 39 9) ?_;refine au 39 67 HT_.1 (mb 40 8) ?_;refine au 40 68 HT_.1 (mb 41 7) ?_;refine au 41 69 HT_.1 (mb 42 6) ?_;refine au 42 70 HT_.1 (mb 43 5) ?_;refine au 43 71 HT_.1 (mb 44 4) ?_;refine au 44 72 HT_.1 (mb 45 3) ?_;refine au 45 73 HT_.1 (mb 46 2) ?_;refine au 46 74 HT_.1 (mb 47 1) ?_;refine ai 47 75 HT_.1 (mb 48 0) ?_;refine ec (eZ HT_.1 (by kernel_rfl)) ?_
            try go_wp2
            go_meet
            case rel=>exact⟨_,(true),mE,H',⟨by have:=si.1;have:=lT.1;first|omega|exact Nat.le_refl _⟩,⟨mK bY.1⟩,⟨mK cD.1⟩,⟨(az HB.1 hJ.1 lA.1)⟩⟩
         ·replace ri:=Bool.eq_false_iff.mpr ri;subst ri;have H1:=H;rw[if_neg (show ¬(false=true) by decide)]at H1;clear H;have H:=H1;clear H1;have H':=J H;clear H
          try go_wp2
          generalize hW_:(((k4.setCell ⟨eb,0,none⟩ (.int .i64 ((aa U aA).f0))).setCell ⟨eb,1,none⟩ (.slice iZ ((aa U aA).f1).length ji)).setCell ⟨eb,2,none⟩ (.int .i64 ((aa U aA).f2)))=Ey
          replace bY:Aside0 (Ey.heap[gf]? = some (.cells #[.slice (some gG) U.length al,.slice ao ab.length an,.slice aq ae.length ar,.int .i64 af] 30 (0,0))):=by rw[←hW_];exact⟨bH vF.1 bY.1⟩
          replace cD:Aside0 (Ey.heap[eb]? = some (.cells #[.int .i64 ((aa U aA).f0),.slice iZ ((aa U aA).f1).length ji,.int .i64 ((aa U aA).f2)] 80 (0,0))):=by rw[←hW_];exact⟨by refine mK ?_;refine aC (cs:=#[.int .i64 ((aa U aA).f0),.slice iZ ((aa U aA).f1).length ji,.int .i64 0]) ?_ 2 _ rfl;refine mK ?_;refine aC (cs:=#[.int .i64 ((aa U aA).f0),.slice none 0 0,.int .i64 0]) ?_ 1 _ rfl;refine mK ?_;refine aC (cs:=#[.int .i64 0,.slice none 0 0,.int .i64 0]) ?_ 0 _ rfl;refine mK ?_;exact cD.1⟩
          replace HB:Aside0 (Below w.heap.size w Ey):=by rw[←hW_];exact⟨(az HB.1 hJ.1 lA.1)⟩
          clear hW_;replace bY:=J (bR bY.1);replace cD:=J (bR cD.1);replace HB:=J (cP HB.1);refine ee (n:=48) (S:=fun w'=>w'.cell? ⟨eb,0,none⟩=some (.int .i64 ((aa U aA).f0))∧w'.cell? ⟨eb,1,none⟩=some (.slice iZ ((aa U aA).f1).length ji)∧w'.cell? ⟨eb,2,none⟩=some (.int .i64 ((aa U aA).f2))∧w'.cell? ⟨gf,0,none⟩=some (.slice (some gG) U.length al)∧w'.cell? ⟨gf,1,none⟩=some (.slice ao ab.length an)∧w'.cell? ⟨gf,2,none⟩=some (.slice aq ae.length ar)∧w'.cell? ⟨gf,3,none⟩=some (.int .i64 af)) (ds:=[]) (mb 0 48) (by kernel_rfl) rfl rfl (eA cD.1 (cA bY.1)) (fun hHeld=>?_);refine fc bB.Al bB.zk (fun HT_ HW_=>?_);generalize Ey.drew=w48 at bY cD HB hHeld ⊢
          refine ai 0 28 HT_.1 (mb 1 47) ?_;refine ai 2 30 HT_.1 (mr [1,1,1,45]) ?_;refine aQ 1 29 HT_.1 HW_.1 (mb 3 45) hHeld ?_;refine aQ 3 31 HT_.1 HW_.1 (mb 4 44) hHeld ?_;refine ai 4 32 HT_.1 (mb 5 43) ?_;refine bV 5 (some 33) HT_.1 (mb 6 42) (fun K hK=>?_);refine dd Try.func89 (by kernel_rfl) rfl #[.int .i64 ((aa U aA).f0),.int .i64 1,.int .i64 (wrap64 (af-1))] (by rfl) rfl rfl mA ?_
          with_reducible refine(fm.calls ((aa U aA).f0) 1 (wrap64 (af-1)) false _ wS.1).mono ?_
          rintro e w' ⟨rfl,⟨nd,rfl⟩⟩;refine⟨_,rfl,?_⟩;refine hK.out _ _ (eA cD.1 (cA bY.1)) (fun hHeld=>?_);clear hK K;refine bp 33 ?_;refine ai 6 34 HT_.1 (mb 7 41) ?_;refine ai 7 35 HT_.1 (mb 8 40) ?_;refine au 8 36 HT_.1 (mb 9 39) ?_;refine au 9 37 HT_.1 (mb 10 38) ?_;refine au 10 38 HT_.1 (mb 11 37) ?_;refine au 11 39 HT_.1 (mb 12 36) ?_;refine au 12 40 HT_.1 (mb 13 35) ?_;refine au 13 41 HT_.1 (mb 14 34) ?_;refine au 14 42 HT_.1 (mb 15 33) ?_;refine au 15 43 HT_.1 (mb 16 32) ?_;refine au 16 44 HT_.1 (mb 17 31) ?_;refine au 17 45 HT_.1 (mb 18 30) ?_;refine au 18 46 HT_.1 (mb 19 29) ?_;refine au 19 47 HT_.1 (mb 20 28) ?_;refine au 20 48 HT_.1 (mb 21 27) ?_;refine au 21 49 HT_.1 (mb 22 26) ?_;refine ai 22 50 HT_.1 (mb 23 25) ?_;refine ai 23 51 HT_.1 (mb 24 24) ?_;refine au 24 52 HT_.1 (mb 25 23) ?_;refine au 25 53 HT_.1 (mb 26 22) ?_;refine au 26 54 HT_.1 (mb 27 21) ?_;refine au 27 55 HT_.1 (mb 28 20) ?_;refine au 28 56 HT_.1 (mb 29 19) ?_;refine au 29 57 HT_.1 (mb 30 18) ?_;refine au 30 58 HT_.1 (mb 31 17) ?_;refine ai 31 59 HT_.1 (mb 32 16) ?_;refine ai 32 60 HT_.1 (mb 33 15) ?_;refine au 33 61 HT_.1 (mb 34 14) ?_;refine au 34 62 HT_.1 (mb 35 13) ?_;refine au 35 63 HT_.1 (mb 36 12) ?_;refine au 36 64 HT_.1 (mb 37 11) ?_;refine au 37 65 HT_.1 (mb 38 10) ?_;refine au 38 66 HT_.1 (mb 39 9) ?_;refine au 39 67 HT_.1 (mb 40 8) ?_;refine au 40 68 HT_.1 (mb 41 7) ?_;refine au 41 69 HT_.1 (mb 42 6) ?_;refine au 42 70 HT_.1 (mb 43 5) ?_;refine au 43 71 HT_.1 (mb 44 4) ?_;refine au 44 72 HT_.1 (mb 45 3) ?_;refine au 45 73 HT_.1 (mb 46 2) ?_;refine au 46 74 HT_.1 (mb 47 1) ?_;refine ai 47 75 HT_.1 (mb 48 0) ?_;refine ec (eZ HT_.1 (by kernel_rfl)) ?_
          try go_wp2
          go_meet
          case rel=>exact⟨_,(true),mE,H',⟨by have:=si.1;have:=lT.1;first|omega|exact Nat.le_refl _⟩,⟨mK bY.1⟩,⟨mK cD.1⟩,⟨(az HB.1 hJ.1 lA.1)⟩⟩
        case rest=>
         clear AL
         try clear c8
         obtain⟨kq,N9,rfl,HA,AO,bY,cD,HB⟩:=hcut;cases kq with
         |zero=>exact absurd HA.1 (by simp[bB.j2])
         |succ I8=>
          have H:=HA.1;clear HA;simp only[bB.j2]at H;by_cases KV:N9=true
          ·subst KV;have H1:=H;rw[if_pos rfl]at H1;clear H;have H:=H1;clear H1;obtain rfl:=Option.some.inj H;go_wp2;go_ret;exact⟨de,(az HB.1 hJ.1 lA.1)⟩
          ·replace KV:=Bool.eq_false_iff.mpr KV;subst KV;have H1:=H;rw[if_neg (show ¬(false=true) by decide)]at H1;clear H;have H:=H1;clear H1;have H':=J H;clear H;have anM:=XU.1;have anY:=vF.1;obtain⟨R8,R9,Sa,SZ,S0,S1⟩:=mu cD.1;go_wp2;go_roundg I8
           case measure=>have:=si.1;have:=lT.1;have:=AO.1;omega
           case rel=>exact⟨(wrap64 (jL+(((aa U aA).f1).length:Int))),(wrap64 (aA+1)),mE,mE,H',⟨by have:=si.1;have:=lT.1;have:=AO.1;omega⟩,⟨mK bY.1⟩,⟨(az HB.1 hJ.1 lA.1)⟩⟩
       ·rw[if_neg jF]at H;exact absurd H (by simp)
      ·rw[if_neg c9]at H;have zr:=decide_eq_false c9;clear c9;by_cases sA:jL≤60000
       ·rw[if_pos sA]at H;have Qo:=decide_eq_true sA;clear sA;replace H:=Option.bind_eq_some_iff.mp H;obtain⟨t245,Wr,H⟩:=H;replace H:(if t245=true then ((cr.f k2 U ab ae af ae).bind fun t246=>(some t246)) else (some false))=some r:=H;have Wq:=J Wr;clear Wr;by_cases pr:t245=true
        ·subst pr;have H1:=H;rw[if_pos rfl]at H1;clear H;have H:=H1;clear H1;replace H:=Option.bind_eq_some_iff.mp H;obtain⟨t246,Wt,H⟩:=H;replace H:(some t246)=some r:=H;have A55:=J Wt;clear Wt;obtain rfl:=Option.some.inj H;obtain⟨alj,alk,alm,aln,amV,amW,amX,amY⟩:=aX bY.1;go_wp2_with (first|(go_at_call 101;(with_reducible refine(cr.calls k2 _ _ U _ _ ab _ _ ae af _ _ ab true _ ?aG ?aH ?aY ?aZ ?a6 ?a7 ?ln ?lp Wq.1).mono ?_);(case aG=>exact mC (Kd.aE bG.1 HB.1));(case aH=>exact cf.1);(case aY=>exact mC (Kd.aE bE.1 HB.1));(case aZ=>exact bO.1);(case a6=>exact mC (Kd.aE bL.1 HB.1));(case a7=>exact b6.1);(case ln=>exact mC (Kd.aE bE.1 HB.1));(case lp=>exact bO.1);rintro e w57 ⟨rfl,hb⟩;replace bY:=mB bY hb;replace HB:=J (aK (aM HB.1 hJ.1) hb);(try clear hb);(try clear dV);(try clear hk);(try clear hi);obtain⟨als,alu,alv,alw,am3,am4,am5,am6⟩:=aX bY.1)|(go_at_call 101;(with_reducible refine(cr.calls k2 _ _ U _ _ ab _ _ ae af _ _ ae t246 _ ?aG ?aH ?aY ?aZ ?a6 ?a7 ?ln ?lp A55.1).mono ?_);(case aG=>exact mC (Kd.aE bG.1 HB.1));(case aH=>exact cf.1);(case aY=>exact mC (Kd.aE bE.1 HB.1));(case aZ=>exact bO.1);(case a6=>exact mC (Kd.aE bL.1 HB.1));(case a7=>exact b6.1);(case ln=>exact mC (Kd.aE bL.1 HB.1));(case lp=>exact b6.1);rintro e w59 ⟨rfl,hb⟩;replace bY:=mB bY hb;replace HB:=J (aK (aM HB.1 hJ.1) hb);(try clear hb);(try clear dV);(try clear hk);(try clear hi)));go_ret;exact⟨de,(aM HB.1 hJ.1)⟩
        ·replace pr:=Bool.eq_false_iff.mpr pr;subst pr;have H1:=H;rw[if_neg (show ¬(false=true) by decide)]at H1;clear H;have H:=H1;clear H1;obtain rfl:=Option.some.inj H;obtain⟨Sb,Sc,Se,aaE,S3,S4,S5,abb⟩:=aX bY.1;go_wp2_with (first|(go_at_call 101;(with_reducible refine(cr.calls k2 _ _ U _ _ ab _ _ ae af _ _ ab false _ ?aG ?aH ?aY ?aZ ?a6 ?a7 ?ln ?lp Wq.1).mono ?_);(case aG=>exact mC (Kd.aE bG.1 HB.1));(case aH=>exact cf.1);(case aY=>exact mC (Kd.aE bE.1 HB.1));(case aZ=>exact bO.1);(case a6=>exact mC (Kd.aE bL.1 HB.1));(case a7=>exact b6.1);(case ln=>exact mC (Kd.aE bE.1 HB.1));(case lp=>exact bO.1);rintro e w61 ⟨rfl,hb⟩;replace bY:=mB bY hb;replace HB:=J (aK (aM HB.1 hJ.1) hb);(try clear hb);(try clear dV);(try clear hk);(try clear hi)));go_ret;exact⟨de,(aM HB.1 hJ.1)⟩
       ·rw[if_neg sA]at H;have Qo:=decide_eq_false sA;clear sA;obtain rfl:=Option.some.inj H;obtain⟨alC,alD,alE,alF,ane,anf,ang,anh⟩:=aX bY.1;go_wp2;go_ret;exact⟨de,(aM HB.1 hJ.1)⟩
end Go.Proofs.Ytgpkdbnikcghgaa.MD
