-- Written by mp.py, our own printer (wip/mp.py), and made shorter by wip/mp_shrink*.py.
import Derived.Test.YtgpkdbnikcghgaaVAll
import Derived.Test.YtgpkdbnikcghgaaMDx0
namespace Go.Proofs.Ytgpkdbnikcghgaa.MD
open Go.RowKit Go.Proofs.YtgpkdbnikcghgaaW.PrintWords Go.Proofs.YtgpkdbnikcghgaaW.PrintLast Go.Proofs.YtgpkdbnikcghgaaW.PrintMore Go.Proofs.Ytgpkdbnikcghgaa.MWords
attribute [local go_sem] max2_int min2_int max_two min_two max_three min_three max_four min_four
set_option linter.unusedVariables false
set_option linter.unusedSimpArgs false
def fc.f (a0:Int) (a1:Int) (a2:Int):Option (Bool):=if a0≥a1 then (some (decide (a0≤a2))) else (some false)
set_option maxHeartbeats 8000000 in
set_option maxRecDepth 100000 in
theorem fc.calls (a0:Int) (a1:Int) (a2:Int) (r:Bool) (w:World) (h:fc.f a0 a1 a2=some r) :
 Calls Try.prog 89 #[.int .i64 a0,.int .i64 a1,.int .i64 a2] w fun e w'=>e = .returned (.bool r)∧bG w w':=by
 have H:(if a0≥a1 then (some (decide (a0≤a2))) else (some false))=some r:=h;clear h;by_cases c4:a0≥a1
 ·rw[if_pos c4]at H;have lv:decide (a1≤a0)=true:=decide_eq_true c4;clear c4;obtain rfl:=Option.some.inj H;go_enter Try.func89,Try.ntmps89;go_wp2;go_ret;exact⟨mE,by repeat (first|exact bG.refl _|apply bG.step)⟩
 ·rw[if_neg c4]at H;have lv:decide (a1≤a0)=false:=decide_eq_false c4;clear c4;obtain rfl:=Option.some.inj H;go_enter Try.func89,Try.ntmps89;go_wp2;go_ret;exact⟨mE,by repeat (first|exact bG.refl _|apply bG.step)⟩
def eI.l0:Nat→List (ah)→Int→Int→Option (Bool)
 |0,_,_,_=>none
 |k+1,x0,x1,x5=>if x5<(x0.length:Int) then (if 0≤x5 then (if ((av x0 x5).f1)=x1 then (some true) else (eI.l0 k x0 x1 (wrap64 (x5+1)))) else (none)) else (some false)
def eI.f (k:Nat) (l0:List (ah)) (a1:Int):Option (Bool):=eI.l0 k l0 a1 0
set_option maxHeartbeats 8000000 in
set_option maxRecDepth 100000 in
theorem eI.calls (k:Nat) (A0:Option Addr) (c0:Nat) (l0:List (ah)) (a1:Int) (r:Bool) (w:World) (fu:Kd.C ay w A0 l0.length l0) (gE:l0.length≤c0) (h:eI.f k l0 a1=some r) :
 Calls Try.prog 100 #[.slice A0 l0.length c0,.int .i64 a1] w fun e w'=>e = .returned (.bool r)∧bG w w':=by
 have jf:=J fu;have vr:=J gE;clear fu gE;have H:(eI.l0 k l0 a1 0)=some r:=h;clear h;have H':=J H;clear H;go_enter Try.func100,Try.ntmps100;go_wp2;go_loopg [5] k (fun kq v5 w'=>∃(aE:Int),v5 = .int .i64 aE∧Aside0 (eI.l0 kq l0 a1 aE=some r)∧Aside0 (kq≤k)∧bG w w')
 case atStart=>exact⟨(0),mE,H',⟨Nat.le_refl _⟩,by repeat (first|exact bG.refl _|apply bG.step)⟩
 case round=>
  clear H'
  obtain⟨aE,rfl,HA,br,⟨m1,rfl⟩⟩:=hrel;cases gk with
  |zero=>exact absurd HA.1 (by simp[eI.l0])
  |succ k1=>
   have H:=HA.1;clear HA;simp only[eI.l0]at H;by_cases c3:aE<(l0.length:Int)
   ·rw[if_pos c3]at H;have lS:=decide_eq_true c3;clear c3;by_cases c4:0≤aE
    ·rw[if_pos c4]at H;have lv:=decide_eq_true c4;clear c4;by_cases c5:((av l0 aE).f1)=a1
     ·rw[if_pos c5]at H;have kA:(((av l0 aE).f1) == a1)=true:=beq_iff_eq.mpr c5;have AH:(((av l0 aE).f1) != a1)=false:=bne_eq_false_iff_eq.mpr c5;clear c5;obtain rfl:=Option.some.inj H;have Br:0≤(aE:Int):=mD;have BI:aE<(l0.length:Int):=mD;obtain⟨ag3,Qf,anO,anP⟩:=gZ jf.1 aE Br BI;cases Qf
      replace Br:=eq_true Br;replace BI:=eq_true BI;go_wp2;go_ret;exact⟨mE,by repeat (first|exact bG.refl _|apply bG.step)⟩
     ·rw[if_neg c5]at H;have kA:(((av l0 aE).f1) == a1)=false:=beq_eq_false_iff_ne.mpr c5;have AH:(((av l0 aE).f1) != a1)=true:=bne_iff_ne.mpr c5;have H':=J H;clear H;have Br:0≤(aE:Int):=mD;have BI:aE<(l0.length:Int):=mD;obtain⟨ag3,Qf,anO,anP⟩:=gZ jf.1 aE Br BI;cases Qf
      replace Br:=eq_true Br;replace BI:=eq_true BI;go_wp2;go_roundg k1
      case measure=>have:=br.1;omega
      case rel=>exact⟨(wrap64 (aE+1)),mE,H',⟨by have:=br.1;omega⟩,by repeat (first|exact bG.refl _|apply bG.step)⟩
    ·rw[if_neg c4]at H;exact absurd H (by simp)
   ·rw[if_neg c3]at H;have lS:=decide_eq_false c3;clear c3;obtain rfl:=Option.some.inj H;go_wp2;go_ret;exact⟨mE,by repeat (first|exact bG.refl _|apply bG.step)⟩
mutual
def eW.l0:Nat→ByteArray→Int→Option (Bool)
 |0,_,_=>none
 |k+1,x0,x3=>if x3<(x0.size:Int) then (if 0≤x3 then ((fc.f (wrap64 (bt x0 x3)) 97 122).bind fun t220=>(if t220=true then (eW.j1 k x0 x3 false) else ((fc.f (wrap64 (bt x0 x3)) 48 57).bind fun t221=>(if t221=true then (eW.j1 k x0 x3 false) else (if (wrap64 (bt x0 x3))=45 then (eW.j1 k x0 x3 false) else (eW.j1 k x0 x3 ((wrap64 (bt x0 x3)) != 46))))))) else (none)) else (some true)
def eW.j1:Nat→ByteArray→Int→Bool→Option (Bool)
 |0,_,_,_=>none
 |k+1,x0,x3,U4=>if U4=true then (some false) else (eW.l0 k x0 (wrap64 (x3+1)))
end
def eW.f (k:Nat) (a0:ByteArray):Option (Bool):=(fc.f (a0.size:Int) 1 12).bind fun t219=>(if t219=true then (eW.l0 k a0 0) else (some false))
set_option maxHeartbeats 8000000 in
set_option maxRecDepth 100000 in
theorem eW.calls (k:Nat) (a0:ByteArray) (r:Bool) (w:World) (h:eW.f k a0=some r) :
 Calls Try.prog 48 #[.string a0] w fun e w'=>e = .returned (.bool r)∧bG w w':=by
 have H:((fc.f (a0.size:Int) 1 12).bind fun t219=>(if t219=true then (eW.l0 k a0 0) else (some false)))=some r:=h;clear h;replace H:=Option.bind_eq_some_iff.mp H;obtain⟨t219,oY,H⟩:=H;replace H:(if t219=true then (eW.l0 k a0 0) else (some false))=some r:=H;have A2:=J oY;clear oY;by_cases c3:t219=true
 ·subst c3;have H1:=H;rw[if_pos rfl]at H1;clear H;have H:=H1;clear H1;have H':=J H;clear H;go_enter Try.func48,Try.ntmps48;go_wp2_with (first|((with_reducible refine bm (f:=89) rfl ?_);refine cd 7 Try.func89 #[.int .i64 (a0.size:Int),.int .i64 1,.int .i64 12] ?_;(with_reducible refine(fc.calls (a0.size:Int) 1 12 true _ A2.1).mono ?_);rintro e w' ⟨rfl,⟨nd,rfl⟩⟩;refine⟨_,rfl,?_⟩));go_loopg [3] k (fun kq v3 w'=>∃(aZ:Int),v3 = .int .i64 aZ∧Aside0 (eW.l0 kq a0 aZ=some r)∧Aside0 (kq≤k)∧bG w w')
  case atStart=>exact⟨(0),mE,H',⟨Nat.le_refl _⟩,by repeat (first|exact bG.refl _|apply bG.step)⟩
  case round=>
   clear H'
   try clear c3
   obtain⟨aZ,rfl,HA,br,⟨m1,rfl⟩⟩:=hrel;cases gk with
   |zero=>exact absurd HA.1 (by simp[eW.l0])
   |succ k1=>
    have H:=HA.1;clear HA;simp only[eW.l0]at H;by_cases c4:aZ<(a0.size:Int)
    ·rw[if_pos c4]at H;have lv:=decide_eq_true c4;clear c4;by_cases c5:0≤aZ
     ·rw[if_pos c5]at H;have kA:=decide_eq_true c5;clear c5;have pX:=J H;clear H;have p6:0≤(aZ:Int):=mD;have q6:aZ<(a0.size:Int):=mD;have hx6:=XM a0 aZ;replace p6:=eq_true p6;replace q6:=eq_true q6;go_upto_region 7 with (fail)
      go_cut [34] (fun v34 wc=>∃(kq:Nat) (Nv:Bool),v34 = .bool Nv∧Aside0 (eW.j1 kq a0 aZ Nv=some r)∧Aside0 (kq≤k1)∧bG w wc)
      case first=>
       have H:=pX.1;clear pX;replace H:=Option.bind_eq_some_iff.mp H;obtain⟨t220,Eo,H⟩:=H;replace H:(if t220=true then (eW.j1 k1 a0 aZ false) else ((fc.f (wrap64 (bt a0 aZ)) 48 57).bind fun t221=>(if t221=true then (eW.j1 k1 a0 aZ false) else (if (wrap64 (bt a0 aZ))=45 then (eW.j1 k1 a0 aZ false) else (eW.j1 k1 a0 aZ ((wrap64 (bt a0 aZ)) != 46))))))=some r:=H;have A8:=J Eo;clear Eo;by_cases c9:t220=true
       ·subst c9;have H1:=H;rw[if_pos rfl]at H1;clear H;have H:=H1;clear H1;have H':=J H;clear H;go_wp2_with (first|((with_reducible refine bm (f:=89) rfl ?_);refine cd 20 Try.func89 #[.int .i64 (wrap64 (bt a0 aZ)),.int .i64 97,.int .i64 122] ?_;(with_reducible refine(fc.calls (wrap64 (bt a0 aZ)) 97 122 true _ A8.1).mono ?_);rintro e w' ⟨rfl,⟨nd,rfl⟩⟩;refine⟨_,rfl,?_⟩));go_meet
        case rel=>exact⟨_,(false),mE,H',⟨by have:=br.1;first|omega|exact Nat.le_refl _⟩,by repeat (first|exact bG.refl _|apply bG.step)⟩
       ·replace c9:=Bool.eq_false_iff.mpr c9;subst c9;have H1:=H;rw[if_neg (show ¬(false=true) by decide)]at H1;clear H;have H:=H1;clear H1;replace H:=Option.bind_eq_some_iff.mp H;obtain⟨t221,oW,H⟩:=H;replace H:(if t221=true then (eW.j1 k1 a0 aZ false) else (if (wrap64 (bt a0 aZ))=45 then (eW.j1 k1 a0 aZ false) else (eW.j1 k1 a0 aZ ((wrap64 (bt a0 aZ)) != 46))))=some r:=H;have rO:=J oW;clear oW;by_cases jh:t221=true
        ·subst jh;have H1:=H;rw[if_pos rfl]at H1;clear H;have H:=H1;clear H1;have H':=J H;clear H;go_wp2_with (first|((with_reducible refine bm (f:=89) rfl ?_);refine cd 20 Try.func89 #[.int .i64 (wrap64 (bt a0 aZ)),.int .i64 97,.int .i64 122] ?_;(with_reducible refine(fc.calls (wrap64 (bt a0 aZ)) 97 122 false _ A8.1).mono ?_);rintro e w' ⟨rfl,⟨nd,rfl⟩⟩;refine⟨_,rfl,?_⟩)|(go_at_call 89;(with_reducible refine(fc.calls (wrap64 (bt a0 aZ)) 48 57 true _ rO.1).mono ?_);rintro e w' ⟨rfl,⟨nd,rfl⟩⟩));go_meet
         case rel=>exact⟨_,(false),mE,H',⟨by have:=br.1;first|omega|exact Nat.le_refl _⟩,by repeat (first|exact bG.refl _|apply bG.step)⟩
        ·replace jh:=Bool.eq_false_iff.mpr jh;subst jh;have H1:=H;rw[if_neg (show ¬(false=true) by decide)]at H1;clear H;have H:=H1;clear H1;by_cases gK:(wrap64 (bt a0 aZ))=45
         ·rw[if_pos gK]at H;have vE:((wrap64 (bt a0 aZ)) == 45)=true:=beq_iff_eq.mpr gK;have ahs:((wrap64 (bt a0 aZ)) != 45)=false:=bne_eq_false_iff_eq.mpr gK;clear gK
          (first|rw[vE]|(simp only[ij,jC];rw[vE])|skip)
          have H':=J H;clear H;go_wp2_with (first|((with_reducible refine bm (f:=89) rfl ?_);refine cd 20 Try.func89 #[.int .i64 (wrap64 (bt a0 aZ)),.int .i64 97,.int .i64 122] ?_;(with_reducible refine(fc.calls (wrap64 (bt a0 aZ)) 97 122 false _ A8.1).mono ?_);rintro e w' ⟨rfl,⟨nd,rfl⟩⟩;refine⟨_,rfl,?_⟩)|(go_at_call 89;(with_reducible refine(fc.calls (wrap64 (bt a0 aZ)) 48 57 false _ rO.1).mono ?_);rintro e w' ⟨rfl,⟨nd,rfl⟩⟩));go_meet
          case rel=>exact⟨_,(false),mE,H',⟨by have:=br.1;first|omega|exact Nat.le_refl _⟩,by repeat (first|exact bG.refl _|apply bG.step)⟩
         ·rw[if_neg gK]at H;have vE:((wrap64 (bt a0 aZ)) == 45)=false:=beq_eq_false_iff_ne.mpr gK;have ahs:((wrap64 (bt a0 aZ)) != 45)=true:=bne_iff_ne.mpr gK
          (first|rw[vE]|(simp only[ij,jC];rw[vE])|skip)
          have H':=J H;clear H;go_wp2_with (first|((with_reducible refine bm (f:=89) rfl ?_);refine cd 20 Try.func89 #[.int .i64 (wrap64 (bt a0 aZ)),.int .i64 97,.int .i64 122] ?_;(with_reducible refine(fc.calls (wrap64 (bt a0 aZ)) 97 122 false _ A8.1).mono ?_);rintro e w' ⟨rfl,⟨nd,rfl⟩⟩;refine⟨_,rfl,?_⟩)|(go_at_call 89;(with_reducible refine(fc.calls (wrap64 (bt a0 aZ)) 48 57 false _ rO.1).mono ?_);rintro e w' ⟨rfl,⟨nd,rfl⟩⟩));go_meet
          case rel=>exact⟨_,(((wrap64 (bt a0 aZ)) != 46)),mE,H',⟨by have:=br.1;first|omega|exact Nat.le_refl _⟩,by repeat (first|exact bG.refl _|apply bG.step)⟩
      case rest=>
       clear pX
       try clear c3
       try clear c4
       try clear lv
       try clear c5
       try clear kA
       try clear p6
       try clear q6
       try clear hx6
       try clear p6
       try clear q6
       obtain⟨kq,Nv,rfl,HA,pY,⟨mc6,rfl⟩⟩:=hcut;cases kq with
       |zero=>exact absurd HA.1 (by simp[eW.j1])
       |succ zq=>
        have H:=HA.1;clear HA;simp only[eW.j1]at H;by_cases jo:Nv=true
        ·subst jo;have H1:=H;rw[if_pos rfl]at H1;clear H;have H:=H1;clear H1;obtain rfl:=Option.some.inj H;go_wp2;go_ret;exact⟨mE,by repeat (first|exact bG.refl _|apply bG.step)⟩
        ·replace jo:=Bool.eq_false_iff.mpr jo;subst jo;have H1:=H;rw[if_neg (show ¬(false=true) by decide)]at H1;clear H;have H:=H1;clear H1;have H':=J H;clear H;go_wp2;go_roundg zq
         case measure=>have:=br.1;have:=pY.1;omega
         case rel=>exact⟨(wrap64 (aZ+1)),mE,H',⟨by have:=br.1;have:=pY.1;omega⟩,by repeat (first|exact bG.refl _|apply bG.step)⟩
     ·rw[if_neg c5]at H;exact absurd H (by simp)
    ·rw[if_neg c4]at H;have lv:=decide_eq_false c4;clear c4;obtain rfl:=Option.some.inj H;go_wp2;go_ret;exact⟨mE,by repeat (first|exact bG.refl _|apply bG.step)⟩
 ·replace c3:=Bool.eq_false_iff.mpr c3;subst c3;have H1:=H;rw[if_neg (show ¬(false=true) by decide)]at H1;clear H;have H:=H1;clear H1;obtain rfl:=Option.some.inj H;go_enter Try.func48,Try.ntmps48;go_wp2_with (first|((with_reducible refine bm (f:=89) rfl ?_);refine cd 7 Try.func89 #[.int .i64 (a0.size:Int),.int .i64 1,.int .i64 12] ?_;(with_reducible refine(fc.calls (a0.size:Int) 1 12 false _ A2.1).mono ?_);rintro e w' ⟨rfl,⟨nd,rfl⟩⟩;refine⟨_,rfl,?_⟩));go_ret;exact⟨mE,by repeat (first|exact bG.refl _|apply bG.step)⟩
def ji.l0:Nat→Int→Int→List (aj)→List (ah)→List (ah)→Int→Option (Int)
 |0,_,_,_,_,_,_=>none
 |k+1,x1,x5,U1,aqs,aqt,aqu=>if x5<(U1.length:Int) then (if 0≤x5 then (if ((aa U1 x5).f0)=x1 then (some x5) else (ji.l0 k x1 (wrap64 (x5+1)) U1 aqs aqt aqu)) else (none)) else (some (-1))
def ji.f (k:Nat) (U:List (aj)) (ab:List (ah)) (ae:List (ah)) (af:Int) (a1:Int):Option (Int):=ji.l0 k a1 0 U ab ae af
set_option maxHeartbeats 8000000 in
set_option maxRecDepth 100000 in
theorem ji.calls (k:Nat) (aw:Option Addr) (al:Nat) (U:List (aj)) (ao:Option Addr) (an:Nat) (ab:List (ah)) (aq:Option Addr) (ar:Nat) (ae:List (ah)) (af:Int) (a1:Int) (r:Int) (w:World) (dw:Kd.C bu w aw U.length U) (dt:U.length≤al) (dx:Kd.C ay w ao ab.length ab) (du:ab.length≤an) (dy:Kd.C ay w aq ae.length ae) (dv:ae.length≤ar) (h:ji.f k U ab ae af a1=some r) :
 Calls Try.prog 68 #[.agg #[.slice aw U.length al,.slice ao ab.length an,.slice aq ae.length ar,.int .i64 af],.int .i64 a1] w fun e w'=>e = .returned (.int .i64 r)∧Below w.heap.size w w':=by
 have l3:=Try.underlying30;have bS:=J dw;have cv:=J dt;clear dw dt;have bN:=J dx;have bX:=J du;clear dx du;have bT:=J dy;have cb:=J dv;clear dy dv;have HB:=J (Below.refl w.heap.size w);have H:(ji.l0 k a1 0 U ab ae af)=some r:=h;clear h;have H':=J H;clear H;go_enter Try.func68,Try.ntmps68;go_wp2_with (first|((with_reducible refine bh (N:=2) rfl ?_);refine bw 2 #[.slice aw U.length al,.slice ao ab.length an,.slice aq ae.length ar,.int .i64 af] 30 ?_;intro aji hg w3 hbox hb;have Cw:=J (hbox);have aqT:=mG hg (mH HB.1);have Jn:=mG hg (mH HB.1);replace HB:=J (aK (mH HB.1) hb);clear hb hbox hg));go_loopg [5] k (fun kq v5 w'=>∃(aE:Int),v5 = .int .i64 aE∧Aside0 (ji.l0 kq a1 aE U ab ae af=some r)∧Aside0 (kq≤k)∧Aside0 (w'.heap[aji]? = some (.cells #[(.slice aw U.length al),(.slice ao ab.length an),(.slice aq ae.length ar),.int .i64 af] 30 (0,0)))∧Aside0 (Below w.heap.size w w'))
 case atStart=>exact⟨(0),mE,H',⟨Nat.le_refl _⟩,⟨mK Cw.1⟩,⟨(aM HB.1 Jn.1)⟩⟩
 case round=>
  clear H'
  obtain⟨aE,rfl,HA,br,Cw,HB⟩:=hrel;cases gk with
  |zero=>exact absurd HA.1 (by simp[ji.l0])
  |succ k1=>
   have H:=HA.1;clear HA;simp only[ji.l0]at H;by_cases c4:aE<(U.length:Int)
   ·rw[if_pos c4]at H;have lv:=decide_eq_true c4;clear c4;by_cases c5:0≤aE
    ·rw[if_pos c5]at H;have kA:=decide_eq_true c5;clear c5;by_cases c6:((aa U aE).f0)=a1
     ·rw[if_pos c6]at H;have jT:(((aa U aE).f0) == a1)=true:=beq_iff_eq.mpr c6;have yW:(((aa U aE).f0) != a1)=false:=bne_eq_false_iff_eq.mpr c6;clear c6;obtain rfl:=Option.some.inj H;obtain⟨Rz,RA,RB,RC,Sh,Si,Sj,Sk⟩:=aY Cw.1;have Bs:0≤(aE:Int):=mD;have BJ:aE<(U.length:Int):=mD;obtain⟨ag4,aef,ahE,Qg,Hf,Hg,Hh,GR,GJ⟩:=jg bS.1 aE Bs BJ;cases Qg
      replace Hf:=mX HB.1 Hf;replace Hg:=mX HB.1 Hg;replace Hh:=mX HB.1 Hh;have afn:=J GJ;have ae0:=J GR;clear GJ GR;replace Bs:=eq_true Bs;replace BJ:=eq_true BJ;go_wp2;go_ret;exact⟨cW,(aM HB.1 Jn.1)⟩
     ·rw[if_neg c6]at H;have jT:(((aa U aE).f0) == a1)=false:=beq_eq_false_iff_ne.mpr c6;have yW:(((aa U aE).f0) != a1)=true:=bne_iff_ne.mpr c6;have H':=J H;clear H;obtain⟨Dl,Dm,Lg,Lh,Ds,Dt,LF,LG⟩:=aY Cw.1;have Bs:0≤(aE:Int):=mD;have BJ:aE<(U.length:Int):=mD;obtain⟨ag4,aef,ahE,Qg,Hf,Hg,Hh,GR,GJ⟩:=jg bS.1 aE Bs BJ;cases Qg
      replace Hf:=mX HB.1 Hf;replace Hg:=mX HB.1 Hg;replace Hh:=mX HB.1 Hh;have afn:=J GJ;have ae0:=J GR;clear GJ GR;replace Bs:=eq_true Bs;replace BJ:=eq_true BJ;go_wp2;go_roundg k1
      case measure=>have:=br.1;omega
      case rel=>exact⟨(wrap64 (aE+1)),mE,H',⟨by have:=br.1;omega⟩,⟨mK Cw.1⟩,⟨(aM HB.1 Jn.1)⟩⟩
    ·rw[if_neg c5]at H;exact absurd H (by simp)
   ·rw[if_neg c4]at H;have lv:=decide_eq_false c4;clear c4;obtain rfl:=Option.some.inj H;obtain⟨RD,RE,RF,RG,Sl,Sn,Sp,Sq⟩:=aY Cw.1;go_wp2;go_ret;exact⟨cW,(aM HB.1 Jn.1)⟩
mutual
def cp.l0:Nat→List (ah)→Int→List (aj)→List (ah)→List (ah)→Int→Option (Bool)
 |0,_,_,_,_,_,_=>none
 |k+1,x1,x5,wy,wC,wD,wE=>if x5<(x1.length:Int) then (if 0≤x5 then ((eW.f k ((av x1 x5).f0)).bind fun t226=>(if t226=true then ((ji.f k wy wC wD wE ((av x1 x5).f1)).bind fun t228=>(if t228<0 then (cp.j1 k x1 x5 true wy wC wD wE) else (if x5>0 then (if 0≤(wrap64 (x5-1)) then (if (wrap64 (x5-1))<(x1.length:Int) then (cp.j1 k x1 x5 (!(Op.bytesLess (((av x1 (wrap64 (x5-1))).f0).toList) (((av x1 x5).f0).toList))) wy wC wD wE) else (none)) else (none)) else (cp.j1 k x1 x5 false wy wC wD wE)))) else (cp.j1 k x1 x5 true wy wC wD wE))) else (none)) else (some (decide ((x1.length:Int)≤30)))
def cp.j1:Nat→List (ah)→Int→Bool→List (aj)→List (ah)→List (ah)→Int→Option (Bool)
 |0,_,_,_,_,_,_,_=>none
 |k+1,x1,x5,U6,wy,wC,wD,wE=>if U6=true then (some false) else (cp.l1 k x1 x5 0 wy wC wD wE)
def cp.l1:Nat→List (ah)→Int→Int→List (aj)→List (ah)→List (ah)→Int→Option (Bool)
 |0,_,_,_,_,_,_,_=>none
 |k+1,x1,x5,x6,wy,wC,wD,wE=>if x6<x5 then (if 0≤x6 then (if x6<(x1.length:Int) then (if 0≤x5 then (if x5<(x1.length:Int) then (if ((av x1 x6).f1)=((av x1 x5).f1) then (some false) else (cp.l1 k x1 x5 (wrap64 (x6+1)) wy wC wD wE)) else (none)) else (none)) else (none)) else (none)) else (cp.l0 k x1 (wrap64 (x5+1)) wy wC wD wE)
end
def cp.f (k:Nat) (U:List (aj)) (ab:List (ah)) (ae:List (ah)) (af:Int) (l1:List (ah)):Option (Bool):=cp.l0 k l1 0 U ab ae af
def cp.T4:Bool × List (List Nat × List Nat):=(true,[([],[]),([],[]),([0,1],[0,1]),([2],[2]),([3],[3]),([4],[4]),([5],[5]),([6,5],[6]),([7],[7]),([7],[7]),([7],[7]),([9,10,7],[7,9,10]),([11,7],[7,11]),([12,7],[7,12]),([8,13,7,7],[7,8,13]),([14,7],[7,14]),([7,15],[7,15]),([16,14],[16]),([17],[17]),([18,17],[17,18]),([19,17,17],[17,19]),([20],[20]),([20],[20]),([22,20],[20,22]),([21,23,20],[20,21,23]),([24,20],[20,24]),([25,20],[20,25]),([20],[20]),([20],[20]),([27,28,20],[20,27,28]),([29,20],[20,29]),([30,20],[20,30]),([26,31,20],[20,26,31]),([20,32,17],[17,20,32]),([17,33],[17,33])])
def cp.B4:List Nat:=[0,0,3,7,15,31,63,127,255,255,255,1791,3839,7935,16383,32767,65535,131071,262143,524287,1048575,2097151,2097151,6291455,16777215,33554431,67108863,2097151,2097151,404750335,941621247,2015363071,4294967295,8589934591,17179869183]
theorem cp.th:fv .any (opsOf Try.f101 4)=cp.T4:=by kernel_rfl
theorem cp.sZ:lE cp.T4.2 cp.B4=true:=by kernel_rfl
def cp.T9:Bool × List (List Nat × List Nat):=(true,[([],[]),([],[]),([0,1],[0,1]),([2],[2]),([3],[3]),([],[]),([],[]),([5,6],[5,6]),([7],[7]),([8],[8]),([4,9],[4,9])])
def cp.B9:List Nat:=[0,0,3,7,15,0,0,96,224,480,1023]
theorem cp.MX:fv .any (opsOf Try.f101 9)=cp.T9:=by kernel_rfl
theorem cp.JV:lE cp.T9.2 cp.B9=true:=by kernel_rfl
set_option maxHeartbeats 8000000 in
set_option maxRecDepth 100000 in
theorem cp.calls (k:Nat) (aw:Option Addr) (al:Nat) (U:List (aj)) (ao:Option Addr) (an:Nat) (ab:List (ah)) (aq:Option Addr) (ar:Nat) (ae:List (ah)) (af:Int) (A1:Option Addr) (c1:Nat) (l1:List (ah)) (r:Bool) (w:World) (dw:Kd.C bu w aw U.length U) (dt:U.length≤al) (dx:Kd.C ay w ao ab.length ab) (du:ab.length≤an) (dy:Kd.C ay w aq ae.length ae) (dv:ae.length≤ar) (jX:Kd.C ay w A1 l1.length l1) (nB:l1.length≤c1) (h:cp.f k U ab ae af l1=some r) :
 Calls Try.prog 101 #[.agg #[.slice aw U.length al,.slice ao ab.length an,.slice aq ae.length ar,.int .i64 af],.slice A1 l1.length c1] w fun e w'=>e = .returned (.bool r)∧Below w.heap.size w w':=by
 have l3:=Try.underlying30;have bS:=J dw;have cv:=J dt;clear dw dt;have bN:=J dx;have bX:=J du;clear dx du;have bT:=J dy;have cb:=J dv;clear dy dv;have jw:=J jX;have Ae:=J nB;clear jX nB;have HB:=J (Below.refl w.heap.size w);have H:(cp.l0 k l1 0 U ab ae af)=some r:=h;clear h;have H':=J H;clear H;go_enter Try.func101,Try.ntmps101;go_wp2_with (first|((with_reducible refine bh (N:=2) rfl ?_);refine bw 2 #[.slice aw U.length al,.slice ao ab.length an,.slice aq ae.length ar,.int .i64 af] 30 ?_;intro ql hg w3 hbox hb;have fz:=J (hbox);have aqU:=mG hg (mH HB.1);have lI:=mG hg (mH HB.1);replace HB:=J (aK (mH HB.1) hb);clear hb hbox hg));go_loopg [5] k (fun kq v5 w'=>∃(aE:Int),v5 = .int .i64 aE∧Aside0 (cp.l0 kq l1 aE U ab ae af=some r)∧Aside0 (kq≤k)∧Aside0 (w'.heap[ql]? = some (.cells #[(.slice aw U.length al),(.slice ao ab.length an),(.slice aq ae.length ar),.int .i64 af] 30 (0,0)))∧Aside0 (Below w.heap.size w w'))
 case atStart=>exact⟨(0),mE,H',⟨Nat.le_refl _⟩,⟨mK fz.1⟩,⟨(aM HB.1 lI.1)⟩⟩
 case round=>
  clear H'
  try clear c1
  obtain⟨aE,rfl,HA,br,fz,HB⟩:=hrel;cases gk with
  |zero=>exact absurd HA.1 (by simp[cp.l0])
  |succ k1=>
   have H:=HA.1;clear HA;simp only[cp.l0]at H;by_cases c4:aE<(l1.length:Int)
   ·rw[if_pos c4]at H;have lv:=decide_eq_true c4;clear c4;have tG:=J H;clear H;go_upto_region 4 with (fail)
    go_cut [47] (fun UP wc=>∃(kq:Nat) (Ny:Bool),UP = .bool Ny∧Aside0 (cp.j1 kq l1 aE Ny U ab ae af=some r)∧Aside0 (kq≤k1)∧Aside0 (wc.heap[ql]? = some (.cells #[(.slice aw U.length al),(.slice ao ab.length an),(.slice aq ae.length ar),.int .i64 af] 30 (0,0)))∧Aside0 (Below w.heap.size w wc))
    case first=>
     have H:=tG.1;clear tG;by_cases c6:0≤aE
     ·rw[if_pos c6]at H;have jT:=decide_eq_true c6;clear c6
      (first|rw[jT]|(simp only[ij,jC];rw[jT])|skip)
      replace H:=Option.bind_eq_some_iff.mp H;obtain⟨t226,yn,H⟩:=H;replace H:(if t226=true then ((ji.f k1 U ab ae af ((av l1 aE).f1)).bind fun t228=>(if t228<0 then (cp.j1 k1 l1 aE true U ab ae af) else (if aE>0 then (if 0≤(wrap64 (aE-1)) then (if (wrap64 (aE-1))<(l1.length:Int) then (cp.j1 k1 l1 aE (!(Op.bytesLess (((av l1 (wrap64 (aE-1))).f0).toList) (((av l1 aE).f0).toList))) U ab ae af) else (none)) else (none)) else (cp.j1 k1 l1 aE false U ab ae af)))) else (cp.j1 k1 l1 aE true U ab ae af))=some r:=H;have A7:=J yn;clear yn;by_cases c8:t226=true
      ·subst c8;have H1:=H;rw[if_pos rfl]at H1;clear H;have H:=H1;clear H1;replace H:=Option.bind_eq_some_iff.mp H;obtain⟨t228,yo,H⟩:=H;replace H:(if t228<0 then (cp.j1 k1 l1 aE true U ab ae af) else (if aE>0 then (if 0≤(wrap64 (aE-1)) then (if (wrap64 (aE-1))<(l1.length:Int) then (cp.j1 k1 l1 aE (!(Op.bytesLess (((av l1 (wrap64 (aE-1))).f0).toList) (((av l1 aE).f0).toList))) U ab ae af) else (none)) else (none)) else (cp.j1 k1 l1 aE false U ab ae af)))=some r:=H;have A9:=J yo;clear yo;by_cases jy:t228<0
       ·rw[if_pos jy]at H;have C3:=decide_eq_true jy;clear jy;have H':=J H;clear H
        try go_wp2
        replace fz:=J (bY fz.1);replace HB:=J (cS HB.1);have qu:0≤(aE:Int):=mD;have qw:aE<(l1.length:Int):=mD;obtain⟨iz,AK,od,oe⟩:=gZ jw.1 aE qu qw;have q9:=oe;have q8:=od;cases AK
        replace od:=mX HB.1 od;replace oe:=mX HB.1 oe;replace qu:=eq_true qu;replace qw:=eq_true qw;have uH:0≤(aE:Int):=mD;have uJ:aE<(l1.length:Int):=mD;obtain⟨Fi,FR,rh,ri⟩:=gZ jw.1 aE uH uJ;have uA:=ri;have uz:=rh;obtain rfl:iz=Fi:=(by injection FR);replace rh:=mX HB.1 rh;replace ri:=mX HB.1 ri;replace uH:=eq_true uH;replace uJ:=eq_true uJ;refine eu (n:=35) (S:=fun w'=>w'.cell? ⟨ql,0,none⟩=some (.slice aw U.length al)∧w'.cell? ⟨ql,1,none⟩=some (.slice ao ab.length an)∧w'.cell? ⟨ql,2,none⟩=some (.slice aq ae.length ar)∧w'.cell? ⟨ql,3,none⟩=some (.int .i64 af)∧w'.cell? (iz.add ((aE).toNat*2))=some (.string ((av l1 aE).f0))∧w'.cell? ⟨(iz.add ((aE).toNat*2)).block,(iz.add ((aE).toNat*2)).off+1,none⟩=some (.int .i64 ((av l1 aE).f1))∧w'.cell? (iz.add ((aE).toNat*2))=some (.string ((av l1 aE).f0))∧w'.cell? ⟨(iz.add ((aE).toNat*2)).block,(iz.add ((aE).toNat*2)).off+1,none⟩=some (.int .i64 ((av l1 aE).f1))) (ds:=[]) (mb 0 35) (by kernel_rfl) rfl rfl (eC fz.1 ⟨(mX HB.1 q8 :),⟨(mX HB.1 q9 :),⟨(mX HB.1 uz :),(mX HB.1 uA :)⟩⟩⟩) (fun hHeld=>?_);refine gl cp.th cp.sZ (fun HT_ HW_=>?_);generalize wr.drew=jt at fz HB od oe rh ri hHeld ⊢
        refine ai 0 13 HT_.1 (mb 1 34) ?_;refine ai 1 14 HT_.1 (mb 2 33) ?_;refine ai 2 15 HT_.1 (mb 3 32) ?_;refine ai 3 16 HT_.1 (mb 4 31) ?_;refine aT 4 17 HT_.1 HW_.1 (mb 5 30) hHeld ?_;refine ca 5 (some 18) HT_.1 (mb 6 29) (fun K hK=>?_);refine dq Try.func48 (by kernel_rfl) rfl #[.string ((av l1 aE).f0)] (by rfl) rfl rfl mA ?_
        with_reducible refine(eW.calls k1 ((av l1 aE).f0) true _ A7.1).mono ?_
        rintro e w' ⟨rfl,⟨nd,rfl⟩⟩;refine⟨_,rfl,?_⟩;refine hK.out _ _ (eC fz.1 ⟨(mX HB.1 q8 :),⟨(mX HB.1 q9 :),⟨(mX HB.1 uz :),(mX HB.1 uA :)⟩⟩⟩) (fun hHeld=>?_);clear hK K;refine bD 18 ?_;refine ai 6 19 HT_.1 (mb 7 28) ?_;refine ai 7 20 HT_.1 (mb 8 27) ?_;refine ai 9 22 HT_.1 (mr [8,1,1,25]) ?_;refine ai 10 23 HT_.1 (mr [8,1,2,24]) ?_;refine ai 11 24 HT_.1 (mr [8,1,3,23]) ?_;refine ai 12 25 HT_.1 (mr [8,1,4,22]) ?_;refine aT 8 21 HT_.1 HW_.1 (mb 13 22) hHeld ?_;refine aT 13 26 HT_.1 HW_.1 (mb 14 21) hHeld ?_;refine ca 14 (some 27) HT_.1 (mb 15 20) (fun K hK=>?_);refine dq Try.func68 (by kernel_rfl) rfl #[.agg #[.slice aw U.length al,.slice ao ab.length an,.slice aq ae.length ar,.int .i64 af],.int .i64 ((av l1 aE).f1)] (by rfl) rfl rfl mA ?_
        with_reducible refine(ji.calls k1 _ _ U _ _ ab _ _ ae af ((av l1 aE).f1) t228 _ ?aG ?aH ?bb ?bc ?bf ?bg A9.1).mono ?_
        (case aG=>exact mC (Kd.aJ bS.1 (aM HB.1 lI.1)))
        (case aH=>exact cv.1)
        (case bb=>exact mC (Kd.aJ bN.1 (aM HB.1 lI.1)))
        (case bc=>exact bX.1)
        (case bf=>exact mC (Kd.aJ bT.1 (aM HB.1 lI.1)))
        (case bg=>exact cb.1)
        rintro e eS ⟨rfl,hb⟩;refine⟨_,rfl,?_⟩;replace fz:=mB fz hb;replace HB:=J (aK (aM HB.1 lI.1) hb)
        (try clear hb)
        (try clear gh)
        (try clear hk)
        (try clear hi)
        refine hK.out _ _ (eC fz.1 ⟨(mX HB.1 q8 :),⟨(mX HB.1 q9 :),⟨(mX HB.1 uz :),(mX HB.1 uA :)⟩⟩⟩) (fun hHeld=>?_);clear hK K;refine bD 27 ?_;refine ai 15 28 HT_.1 (mb 16 19) ?_;refine ai 16 29 HT_.1 (mb 17 18) ?_;refine ai 17 30 HT_.1 (mb 18 17) ?_;refine au 18 31 HT_.1 (mb 19 16) ?_;refine au 19 32 HT_.1 (mb 20 15) ?_;refine au 20 33 HT_.1 (mb 21 14) ?_;refine au 21 34 HT_.1 (mb 22 13) ?_;refine au 22 35 HT_.1 (mb 23 12) ?_;refine au 23 36 HT_.1 (mb 24 11) ?_;refine au 24 37 HT_.1 (mb 25 10) ?_;refine au 25 38 HT_.1 (mb 26 9) ?_;refine au 26 39 HT_.1 (mb 27 8) ?_;refine au 27 40 HT_.1 (mb 28 7) ?_;refine au 28 41 HT_.1 (mb 29 6) ?_;refine au 29 42 HT_.1 (mb 30 5) ?_;refine au 30 43 HT_.1 (mb 31 4) ?_;refine au 31 44 HT_.1 (mb 32 3) ?_;refine au 32 45 HT_.1 (mb 33 2) ?_;refine au 33 46 HT_.1 (mb 34 1) ?_;refine ai 34 47 HT_.1 (mb 35 0) ?_;refine et (gg HT_.1 (by kernel_rfl)) ?_
        try go_wp2
        go_meet
        case rel=>exact⟨_,(true),mE,H',⟨by have:=br.1;first|omega|exact Nat.le_refl _⟩,⟨mK fz.1⟩,⟨(aM HB.1 lI.1)⟩⟩
       ·rw[if_neg jy]at H;have C3:=decide_eq_false jy;clear jy;by_cases jo:aE>0
        ·rw[if_pos jo]at H;have wY:decide (0<aE)=true:=decide_eq_true jo;clear jo;obtain⟨qn,Du⟩:∃j_:Int,(wrap64 (aE-1))=j_:=⟨_,rfl⟩;replace H:(if 0≤(qn) then (if (qn)<(l1.length:Int) then (cp.j1 k1 l1 aE (!(Op.bytesLess (((av l1 (qn)).f0).toList) (((av l1 aE).f0).toList))) U ab ae af) else (none)) else (none))=some r:=by first|(rw[Du]at H;exact H)|(simp only[Du]at H ⊢;exact H)
         (try rw[Du]at A7)
         (try rw[Du]at A9)
         have axT:(IntKind.i64.wrap (aE-1))=qn:=(ij _).trans Du;by_cases n5:0≤(qn)
         ·rw[if_pos n5]at H;have yU:=decide_eq_true n5;clear n5;by_cases qW:(qn)<(l1.length:Int)
          ·rw[if_pos qW]at H;have ahz:=decide_eq_true qW;clear qW;have H':=J H;clear H
           try go_wp2
           replace fz:=J (bY fz.1);replace HB:=J (cS HB.1);have qu:0≤(aE:Int):=mD;have qw:aE<(l1.length:Int):=mD;obtain⟨iz,AK,od,oe⟩:=gZ jw.1 aE qu qw;have q9:=oe;have q8:=od;cases AK
           replace od:=mX HB.1 od;replace oe:=mX HB.1 oe;replace qu:=eq_true qu;replace qw:=eq_true qw;have uH:0≤(aE:Int):=mD;have uJ:aE<(l1.length:Int):=mD;obtain⟨Fi,FR,rh,ri⟩:=gZ jw.1 aE uH uJ;have uA:=ri;have uz:=rh;obtain rfl:iz=Fi:=(by injection FR);replace rh:=mX HB.1 rh;replace ri:=mX HB.1 ri;replace uH:=eq_true uH;replace uJ:=eq_true uJ;have Tw:0≤((qn):Int):=mD;have TT:(qn)<(l1.length:Int):=mD;obtain⟨ag5,aix,LY,LZ⟩:=gZ jw.1 (qn) Tw TT;have SK:=LZ;have SJ:=LY;obtain rfl:iz=ag5:=(by injection aix);replace LY:=mX HB.1 LY;replace LZ:=mX HB.1 LZ;replace Tw:=eq_true Tw;replace TT:=eq_true TT;have Tx:0≤(aE:Int):=mD;have TU:aE<(l1.length:Int):=mD;obtain⟨ag6,aiy,L0,L1⟩:=gZ jw.1 aE Tx TU;have SM:=L1;have SL:=L0;obtain rfl:iz=ag6:=(by injection aiy);replace L0:=mX HB.1 L0;replace L1:=mX HB.1 L1;replace Tx:=eq_true Tx;replace TU:=eq_true TU;refine eu (n:=35) (S:=fun w'=>w'.cell? ⟨ql,0,none⟩=some (.slice aw U.length al)∧w'.cell? ⟨ql,1,none⟩=some (.slice ao ab.length an)∧w'.cell? ⟨ql,2,none⟩=some (.slice aq ae.length ar)∧w'.cell? ⟨ql,3,none⟩=some (.int .i64 af)∧w'.cell? (iz.add ((aE).toNat*2))=some (.string ((av l1 aE).f0))∧w'.cell? ⟨(iz.add ((aE).toNat*2)).block,(iz.add ((aE).toNat*2)).off+1,none⟩=some (.int .i64 ((av l1 aE).f1))∧w'.cell? (iz.add ((aE).toNat*2))=some (.string ((av l1 aE).f0))∧w'.cell? ⟨(iz.add ((aE).toNat*2)).block,(iz.add ((aE).toNat*2)).off+1,none⟩=some (.int .i64 ((av l1 aE).f1))∧w'.cell? (iz.add (((qn)).toNat*2))=some (.string ((av l1 (qn)).f0))∧w'.cell? ⟨(iz.add (((qn)).toNat*2)).block,(iz.add (((qn)).toNat*2)).off+1,none⟩=some (.int .i64 ((av l1 (qn)).f1))∧w'.cell? (iz.add ((aE).toNat*2))=some (.string ((av l1 aE).f0))∧w'.cell? ⟨(iz.add ((aE).toNat*2)).block,(iz.add ((aE).toNat*2)).off+1,none⟩=some (.int .i64 ((av l1 aE).f1))) (ds:=[]) (mb 0 35) (by kernel_rfl) rfl rfl (eC fz.1 ⟨(mX HB.1 q8 :),⟨(mX HB.1 q9 :),⟨(mX HB.1 uz :),⟨(mX HB.1 uA :),⟨(mX HB.1 SJ :),⟨(mX HB.1 SK :),⟨(mX HB.1 SL :),(mX HB.1 SM :)⟩⟩⟩⟩⟩⟩⟩) (fun hHeld=>?_);refine gl cp.th cp.sZ (fun HT_ HW_=>?_);generalize wr.drew=M9 at fz HB od oe rh ri LY LZ L0 L1 hHeld ⊢
           refine ai 0 13 HT_.1 (mb 1 34) ?_;refine ai 1 14 HT_.1 (mb 2 33) ?_;refine ai 2 15 HT_.1 (mb 3 32) ?_;refine ai 3 16 HT_.1 (mb 4 31) ?_;refine aT 4 17 HT_.1 HW_.1 (mb 5 30) hHeld ?_;refine ca 5 (some 18) HT_.1 (mb 6 29) (fun K hK=>?_);refine dq Try.func48 (by kernel_rfl) rfl #[.string ((av l1 aE).f0)] (by rfl) rfl rfl mA ?_
           with_reducible refine(eW.calls k1 ((av l1 aE).f0) true _ A7.1).mono ?_
           rintro e w' ⟨rfl,⟨nd,rfl⟩⟩;refine⟨_,rfl,?_⟩;refine hK.out _ _ (eC fz.1 ⟨(mX HB.1 q8 :),⟨(mX HB.1 q9 :),⟨(mX HB.1 uz :),⟨(mX HB.1 uA :),⟨(mX HB.1 SJ :),⟨(mX HB.1 SK :),⟨(mX HB.1 SL :),(mX HB.1 SM :)⟩⟩⟩⟩⟩⟩⟩) (fun hHeld=>?_);clear hK K;refine bD 18 ?_;refine ai 6 19 HT_.1 (mb 7 28) ?_;refine ai 7 20 HT_.1 (mb 8 27) ?_;refine ai 9 22 HT_.1 (mr [8,1,1,25]) ?_;refine ai 10 23 HT_.1 (mr [8,1,2,24]) ?_;refine ai 11 24 HT_.1 (mr [8,1,3,23]) ?_;refine ai 12 25 HT_.1 (mr [8,1,4,22]) ?_;refine aT 8 21 HT_.1 HW_.1 (mb 13 22) hHeld ?_;refine aT 13 26 HT_.1 HW_.1 (mb 14 21) hHeld ?_;refine ca 14 (some 27) HT_.1 (mb 15 20) (fun K hK=>?_);refine dq Try.func68 (by kernel_rfl) rfl #[.agg #[.slice aw U.length al,.slice ao ab.length an,.slice aq ae.length ar,.int .i64 af],.int .i64 ((av l1 aE).f1)] (by rfl) rfl rfl mA ?_
           with_reducible refine(ji.calls k1 _ _ U _ _ ab _ _ ae af ((av l1 aE).f1) t228 _ ?aG ?aH ?bb ?bc ?bf ?bg A9.1).mono ?_
           (case aG=>exact mC (Kd.aJ bS.1 (aM HB.1 lI.1)))
           (case aH=>exact cv.1)
           (case bb=>exact mC (Kd.aJ bN.1 (aM HB.1 lI.1)))
           (case bc=>exact bX.1)
           (case bf=>exact mC (Kd.aJ bT.1 (aM HB.1 lI.1)))
           (case bg=>exact cb.1)
           rintro e I2 ⟨rfl,hb⟩;refine⟨_,rfl,?_⟩;replace fz:=mB fz hb;replace HB:=J (aK (aM HB.1 lI.1) hb)
           (try clear hb)
           (try clear gh)
           (try clear hk)
           (try clear hi)
           refine hK.out _ _ (eC fz.1 ⟨(mX HB.1 q8 :),⟨(mX HB.1 q9 :),⟨(mX HB.1 uz :),⟨(mX HB.1 uA :),⟨(mX HB.1 SJ :),⟨(mX HB.1 SK :),⟨(mX HB.1 SL :),(mX HB.1 SM :)⟩⟩⟩⟩⟩⟩⟩) (fun hHeld=>?_);clear hK K;refine bD 27 ?_;refine ai 15 28 HT_.1 (mb 16 19) ?_;refine ai 16 29 HT_.1 (mb 17 18) ?_;refine ai 17 30 HT_.1 (mb 18 17) ?_;refine ai 18 31 HT_.1 (mb 19 16) ?_;refine ai 19 32 HT_.1 (mb 20 15) ?_;refine ai 20 33 HT_.1 (mb 21 14) ?_;refine ai 21 34 HT_.1 (mb 22 13) ?_;refine ai 22 35 HT_.1 (mb 23 12) ?_;refine ai 23 36 HT_.1 (mb 24 11) ?_;refine ai 24 37 HT_.1 (mb 25 10) ?_;refine ai 25 38 HT_.1 (mb 26 9) ?_;refine ai 27 40 HT_.1 (mr [26,1,1,7]) ?_;refine ai 28 41 HT_.1 (mr [26,1,2,6]) ?_;refine ai 29 42 HT_.1 (mr [26,1,3,5]) ?_;refine ai 30 43 HT_.1 (mr [26,1,4,4]) ?_;refine aT 26 39 HT_.1 HW_.1 (mb 31 4) hHeld ?_;refine aT 31 44 HT_.1 HW_.1 (mb 32 3) hHeld ?_;refine ai 32 45 HT_.1 (mb 33 2) ?_;refine ai 33 46 HT_.1 (mb 34 1) ?_;refine ai 34 47 HT_.1 (mb 35 0) ?_;refine et (gg HT_.1 (by kernel_rfl)) ?_
           try go_wp2
           go_meet
           case rel=>exact⟨_,(!(Op.bytesLess (((av l1 (qn)).f0).toList) (((av l1 aE).f0).toList))),(by first|rfl|(simp;done)|(simp only[←Du]<;>(first|rfl|simp))|(simp[*];done)),H',⟨by have:=br.1;first|omega|exact Nat.le_refl _⟩,⟨mK fz.1⟩,⟨(aM HB.1 lI.1)⟩⟩
          ·rw[if_neg qW]at H;exact absurd H (by simp)
         ·rw[if_neg n5]at H;exact absurd H (by simp)
        ·rw[if_neg jo]at H;have wY:decide (0<aE)=false:=decide_eq_false jo;clear jo;have H':=J H;clear H
         try go_wp2
         replace fz:=J (bY fz.1);replace HB:=J (cS HB.1);have qu:0≤(aE:Int):=mD;have qw:aE<(l1.length:Int):=mD;obtain⟨iz,AK,od,oe⟩:=gZ jw.1 aE qu qw;have q9:=oe;have q8:=od;cases AK
         replace od:=mX HB.1 od;replace oe:=mX HB.1 oe;replace qu:=eq_true qu;replace qw:=eq_true qw;have uH:0≤(aE:Int):=mD;have uJ:aE<(l1.length:Int):=mD;obtain⟨Fi,FR,rh,ri⟩:=gZ jw.1 aE uH uJ;have uA:=ri;have uz:=rh;obtain rfl:iz=Fi:=(by injection FR);replace rh:=mX HB.1 rh;replace ri:=mX HB.1 ri;replace uH:=eq_true uH;replace uJ:=eq_true uJ;refine eu (n:=35) (S:=fun w'=>w'.cell? ⟨ql,0,none⟩=some (.slice aw U.length al)∧w'.cell? ⟨ql,1,none⟩=some (.slice ao ab.length an)∧w'.cell? ⟨ql,2,none⟩=some (.slice aq ae.length ar)∧w'.cell? ⟨ql,3,none⟩=some (.int .i64 af)∧w'.cell? (iz.add ((aE).toNat*2))=some (.string ((av l1 aE).f0))∧w'.cell? ⟨(iz.add ((aE).toNat*2)).block,(iz.add ((aE).toNat*2)).off+1,none⟩=some (.int .i64 ((av l1 aE).f1))∧w'.cell? (iz.add ((aE).toNat*2))=some (.string ((av l1 aE).f0))∧w'.cell? ⟨(iz.add ((aE).toNat*2)).block,(iz.add ((aE).toNat*2)).off+1,none⟩=some (.int .i64 ((av l1 aE).f1))) (ds:=[]) (mb 0 35) (by kernel_rfl) rfl rfl (eC fz.1 ⟨(mX HB.1 q8 :),⟨(mX HB.1 q9 :),⟨(mX HB.1 uz :),(mX HB.1 uA :)⟩⟩⟩) (fun hHeld=>?_);refine gl cp.th cp.sZ (fun HT_ HW_=>?_);generalize wr.drew=UR at fz HB od oe rh ri hHeld ⊢
         refine ai 0 13 HT_.1 (mb 1 34) ?_;refine ai 1 14 HT_.1 (mb 2 33) ?_;refine ai 2 15 HT_.1 (mb 3 32) ?_;refine ai 3 16 HT_.1 (mb 4 31) ?_;refine aT 4 17 HT_.1 HW_.1 (mb 5 30) hHeld ?_;refine ca 5 (some 18) HT_.1 (mb 6 29) (fun K hK=>?_);refine dq Try.func48 (by kernel_rfl) rfl #[.string ((av l1 aE).f0)] (by rfl) rfl rfl mA ?_
         with_reducible refine(eW.calls k1 ((av l1 aE).f0) true _ A7.1).mono ?_
         rintro e w' ⟨rfl,⟨nd,rfl⟩⟩;refine⟨_,rfl,?_⟩;refine hK.out _ _ (eC fz.1 ⟨(mX HB.1 q8 :),⟨(mX HB.1 q9 :),⟨(mX HB.1 uz :),(mX HB.1 uA :)⟩⟩⟩) (fun hHeld=>?_);clear hK K;refine bD 18 ?_;refine ai 6 19 HT_.1 (mb 7 28) ?_;refine ai 7 20 HT_.1 (mb 8 27) ?_;refine ai 9 22 HT_.1 (mr [8,1,1,25]) ?_;refine ai 10 23 HT_.1 (mr [8,1,2,24]) ?_;refine ai 11 24 HT_.1 (mr [8,1,3,23]) ?_;refine ai 12 25 HT_.1 (mr [8,1,4,22]) ?_;refine aT 8 21 HT_.1 HW_.1 (mb 13 22) hHeld ?_;refine aT 13 26 HT_.1 HW_.1 (mb 14 21) hHeld ?_;refine ca 14 (some 27) HT_.1 (mb 15 20) (fun K hK=>?_);refine dq Try.func68 (by kernel_rfl) rfl #[.agg #[.slice aw U.length al,.slice ao ab.length an,.slice aq ae.length ar,.int .i64 af],.int .i64 ((av l1 aE).f1)] (by rfl) rfl rfl mA ?_
         with_reducible refine(ji.calls k1 _ _ U _ _ ab _ _ ae af ((av l1 aE).f1) t228 _ ?aG ?aH ?bb ?bc ?bf ?bg A9.1).mono ?_
         (case aG=>exact mC (Kd.aJ bS.1 (aM HB.1 lI.1)))
         (case aH=>exact cv.1)
         (case bb=>exact mC (Kd.aJ bN.1 (aM HB.1 lI.1)))
         (case bc=>exact bX.1)
         (case bf=>exact mC (Kd.aJ bT.1 (aM HB.1 lI.1)))
         (case bg=>exact cb.1)
         rintro e Ci ⟨rfl,hb⟩;refine⟨_,rfl,?_⟩;replace fz:=mB fz hb;replace HB:=J (aK (aM HB.1 lI.1) hb)
         (try clear hb)
         (try clear gh)
         (try clear hk)
         (try clear hi)
         refine hK.out _ _ (eC fz.1 ⟨(mX HB.1 q8 :),⟨(mX HB.1 q9 :),⟨(mX HB.1 uz :),(mX HB.1 uA :)⟩⟩⟩) (fun hHeld=>?_);clear hK K;refine bD 27 ?_;refine ai 15 28 HT_.1 (mb 16 19) ?_;refine ai 16 29 HT_.1 (mb 17 18) ?_;refine ai 17 30 HT_.1 (mb 18 17) ?_;refine ai 18 31 HT_.1 (mb 19 16) ?_;refine ai 19 32 HT_.1 (mb 20 15) ?_;refine ai 20 33 HT_.1 (mb 21 14) ?_;refine au 21 34 HT_.1 (mb 22 13) ?_;refine au 22 35 HT_.1 (mb 23 12) ?_;refine au 23 36 HT_.1 (mb 24 11) ?_;refine au 24 37 HT_.1 (mb 25 10) ?_;refine au 25 38 HT_.1 (mb 26 9) ?_;refine au 26 39 HT_.1 (mb 27 8) ?_;refine au 27 40 HT_.1 (mb 28 7) ?_;refine au 28 41 HT_.1 (mb 29 6) ?_;refine au 29 42 HT_.1 (mb 30 5) ?_;refine au 30 43 HT_.1 (mb 31 4) ?_;refine au 31 44 HT_.1 (mb 32 3) ?_;refine au 32 45 HT_.1 (mb 33 2) ?_;refine ai 33 46 HT_.1 (mb 34 1) ?_;refine ai 34 47 HT_.1 (mb 35 0) ?_;refine et (gg HT_.1 (by kernel_rfl)) ?_
         try go_wp2
         go_meet
         case rel=>exact⟨_,(false),mE,H',⟨by have:=br.1;first|omega|exact Nat.le_refl _⟩,⟨mK fz.1⟩,⟨(aM HB.1 lI.1)⟩⟩
      ·replace c8:=Bool.eq_false_iff.mpr c8;subst c8;have H1:=H;rw[if_neg (show ¬(false=true) by decide)]at H1;clear H;have H:=H1;clear H1;have H':=J H;clear H
       try go_wp2
       replace fz:=J (bY fz.1);replace HB:=J (cS HB.1);have qu:0≤(aE:Int):=mD;have qw:aE<(l1.length:Int):=mD;obtain⟨iz,AK,od,oe⟩:=gZ jw.1 aE qu qw;have q9:=oe;have q8:=od;cases AK
       replace od:=mX HB.1 od;replace oe:=mX HB.1 oe;replace qu:=eq_true qu;replace qw:=eq_true qw;refine eu (n:=35) (S:=fun w'=>w'.cell? (iz.add ((aE).toNat*2))=some (.string ((av l1 aE).f0))∧w'.cell? ⟨(iz.add ((aE).toNat*2)).block,(iz.add ((aE).toNat*2)).off+1,none⟩=some (.int .i64 ((av l1 aE).f1))) (ds:=[]) (mb 0 35) (by kernel_rfl) rfl rfl ⟨(mX HB.1 q8 :),(mX HB.1 q9 :)⟩ (fun hHeld=>?_);refine gl cp.th cp.sZ (fun HT_ HW_=>?_);generalize wr.drew=Na at fz HB od oe hHeld ⊢
       refine ai 0 13 HT_.1 (mb 1 34) ?_;refine ai 1 14 HT_.1 (mb 2 33) ?_;refine ai 2 15 HT_.1 (mb 3 32) ?_;refine ai 3 16 HT_.1 (mb 4 31) ?_;refine aT 4 17 HT_.1 HW_.1 (mb 5 30) hHeld ?_;refine ca 5 (some 18) HT_.1 (mb 6 29) (fun K hK=>?_);refine dq Try.func48 (by kernel_rfl) rfl #[.string ((av l1 aE).f0)] (by rfl) rfl rfl mA ?_
       with_reducible refine(eW.calls k1 ((av l1 aE).f0) false _ A7.1).mono ?_
       rintro e w' ⟨rfl,⟨nd,rfl⟩⟩;refine⟨_,rfl,?_⟩;refine hK.out _ _ ⟨(mX HB.1 q8 :),(mX HB.1 q9 :)⟩ (fun hHeld=>?_);clear hK K;refine bD 18 ?_;refine ai 6 19 HT_.1 (mb 7 28) ?_;refine ai 7 20 HT_.1 (mb 8 27) ?_;refine au 8 21 HT_.1 (mb 9 26) ?_;refine au 9 22 HT_.1 (mb 10 25) ?_;refine au 10 23 HT_.1 (mb 11 24) ?_;refine au 11 24 HT_.1 (mb 12 23) ?_;refine au 12 25 HT_.1 (mb 13 22) ?_;refine au 13 26 HT_.1 (mb 14 21) ?_;refine au 14 27 HT_.1 (mb 15 20) ?_;refine au 15 28 HT_.1 (mb 16 19) ?_;refine ai 16 29 HT_.1 (mb 17 18) ?_;refine ai 17 30 HT_.1 (mb 18 17) ?_;refine au 18 31 HT_.1 (mb 19 16) ?_;refine au 19 32 HT_.1 (mb 20 15) ?_;refine au 20 33 HT_.1 (mb 21 14) ?_;refine au 21 34 HT_.1 (mb 22 13) ?_;refine au 22 35 HT_.1 (mb 23 12) ?_;refine au 23 36 HT_.1 (mb 24 11) ?_;refine au 24 37 HT_.1 (mb 25 10) ?_;refine au 25 38 HT_.1 (mb 26 9) ?_;refine au 26 39 HT_.1 (mb 27 8) ?_;refine au 27 40 HT_.1 (mb 28 7) ?_;refine au 28 41 HT_.1 (mb 29 6) ?_;refine au 29 42 HT_.1 (mb 30 5) ?_;refine au 30 43 HT_.1 (mb 31 4) ?_;refine au 31 44 HT_.1 (mb 32 3) ?_;refine au 32 45 HT_.1 (mb 33 2) ?_;refine au 33 46 HT_.1 (mb 34 1) ?_;refine ai 34 47 HT_.1 (mb 35 0) ?_;refine et (gg HT_.1 (by kernel_rfl)) ?_
       try go_wp2
       go_meet
       case rel=>exact⟨_,(true),mE,H',⟨by have:=br.1;first|omega|exact Nat.le_refl _⟩,⟨mK fz.1⟩,⟨(aM HB.1 lI.1)⟩⟩
     ·rw[if_neg c6]at H;exact absurd H (by simp)
    case rest=>
     clear tG
     try clear c1
     try clear c4
     obtain⟨kq,Ny,rfl,HA,yA,fz,HB⟩:=hcut;cases kq with
     |zero=>exact absurd HA.1 (by simp[cp.j1])
     |succ Iz=>
      have H:=HA.1;clear HA;simp only[cp.j1]at H;by_cases fD:Ny=true
      ·subst fD;have H1:=H;rw[if_pos rfl]at H1;clear H;have H:=H1;clear H1;obtain rfl:=Option.some.inj H;go_wp2;go_ret;exact⟨cW,(aM HB.1 lI.1)⟩
      ·replace fD:=Bool.eq_false_iff.mpr fD;subst fD;have H1:=H;rw[if_neg (show ¬(false=true) by decide)]at H1;clear H;have H:=H1;clear H1;have H':=J H;clear H;go_wp2;go_loopg [6] Iz (fun kq v6 w'=>∃(ka:Int),v6 = .int .i64 ka∧Aside0 (cp.l1 kq l1 aE ka U ab ae af=some r)∧Aside0 (kq≤Iz)∧Aside0 (w'.heap[ql]? = some (.cells #[(.slice aw U.length al),(.slice ao ab.length an),(.slice aq ae.length ar),.int .i64 af] 30 (0,0)))∧Aside0 (Below w.heap.size w w'))
       case atStart=>exact⟨(0),mE,H',⟨Nat.le_refl _⟩,⟨mK fz.1⟩,⟨(aM HB.1 lI.1)⟩⟩
       case round=>
        clear H'
        try clear c1
        try clear c4
        try clear fD
        obtain⟨ka,rfl,HA,tH,fz,HB⟩:=hrel;cases gk with
        |zero=>exact absurd HA.1 (by simp[cp.l1])
        |succ k3=>
         have H:=HA.1;clear HA;simp only[cp.l1]at H;by_cases fE:ka<aE
         ·rw[if_pos fE]at H;have C6:=decide_eq_true fE;clear fE;by_cases jz:0≤ka
          ·rw[if_pos jz]at H;have PO:=decide_eq_true jz;clear jz;by_cases n8:ka<(l1.length:Int)
           ·rw[if_pos n8]at H;have ahH:=decide_eq_true n8;clear n8;by_cases lu:0≤aE
            ·rw[if_pos lu]at H;have ahI:=decide_eq_true lu;clear lu;by_cases vH:aE<(l1.length:Int)
             ·rw[if_pos vH]at H;have arE:=decide_eq_true vH;clear vH;by_cases s5:((av l1 ka).f1)=((av l1 aE).f1)
              ·rw[if_pos s5]at H;have ahJ:(((av l1 ka).f1) == ((av l1 aE).f1))=true:=beq_iff_eq.mpr s5;have ahK:(((av l1 ka).f1) != ((av l1 aE).f1))=false:=bne_eq_false_iff_eq.mpr s5;clear s5;obtain rfl:=Option.some.inj H
               try go_wp2
               replace fz:=J (bY fz.1);replace HB:=J (cS HB.1);have Bt:0≤(ka:Int):=mD;have BK:ka<(l1.length:Int):=mD;obtain⟨qc,Qh,xG,xH⟩:=gZ jw.1 ka Bt BK;have SO:=xH;have SN:=xG;cases Qh
               replace xG:=mX HB.1 xG;replace xH:=mX HB.1 xH;replace Bt:=eq_true Bt;replace BK:=eq_true BK;have Bu:0≤(aE:Int):=mD;have BL:aE<(l1.length:Int):=mD;obtain⟨Pv,Qi,xI,xJ⟩:=gZ jw.1 aE Bu BL;have SQ:=xJ;have SP:=xI;obtain rfl:qc=Pv:=(by injection Qi);replace xI:=mX HB.1 xI;replace xJ:=mX HB.1 xJ;replace Bu:=eq_true Bu;replace BL:=eq_true BL;refine eu (n:=11) (S:=fun w'=>w'.cell? (qc.add ((ka).toNat*2))=some (.string ((av l1 ka).f0))∧w'.cell? ⟨(qc.add ((ka).toNat*2)).block,(qc.add ((ka).toNat*2)).off+1,none⟩=some (.int .i64 ((av l1 ka).f1))∧w'.cell? (qc.add ((aE).toNat*2))=some (.string ((av l1 aE).f0))∧w'.cell? ⟨(qc.add ((aE).toNat*2)).block,(qc.add ((aE).toNat*2)).off+1,none⟩=some (.int .i64 ((av l1 aE).f1))) (ds:=[]) (mb 0 11) (by kernel_rfl) rfl rfl ⟨(mX HB.1 SN :),(mX HB.1 SO :),(mX HB.1 SP :),(mX HB.1 SQ :)⟩ (fun hHeld=>?_);refine gl cp.MX cp.JV (fun HT_ HW_=>?_);generalize wr.drew=wj at fz HB xG xH xI xJ hHeld ⊢
               refine ai 0 53 HT_.1 (mb 1 10) ?_;refine ai 1 54 HT_.1 (mb 2 9) ?_;refine ai 2 55 HT_.1 (mb 3 8) ?_;refine ai 3 56 HT_.1 (mb 4 7) ?_;refine ai 5 58 HT_.1 (mr [4,1,1,5]) ?_;refine ai 6 59 HT_.1 (mr [4,1,2,4]) ?_;refine ai 7 60 HT_.1 (mr [4,1,3,3]) ?_;refine ai 8 61 HT_.1 (mr [4,1,4,2]) ?_;refine aT 4 57 HT_.1 HW_.1 (mb 9 2) hHeld ?_;refine aT 9 62 HT_.1 HW_.1 (mb 10 1) hHeld ?_;refine ai 10 63 HT_.1 (mb 11 0) ?_;refine et (gg HT_.1 (by kernel_rfl)) ?_
               try go_wp2
               go_ret;exact⟨cW,(aM HB.1 lI.1)⟩
              ·rw[if_neg s5]at H;have ahJ:(((av l1 ka).f1) == ((av l1 aE).f1))=false:=beq_eq_false_iff_ne.mpr s5;have ahK:(((av l1 ka).f1) != ((av l1 aE).f1))=true:=bne_iff_ne.mpr s5;have H':=J H;clear H
               try go_wp2
               replace fz:=J (bY fz.1);replace HB:=J (cS HB.1);have Bt:0≤(ka:Int):=mD;have BK:ka<(l1.length:Int):=mD;obtain⟨qc,Qh,xG,xH⟩:=gZ jw.1 ka Bt BK;have SO:=xH;have SN:=xG;cases Qh
               replace xG:=mX HB.1 xG;replace xH:=mX HB.1 xH;replace Bt:=eq_true Bt;replace BK:=eq_true BK;have Bu:0≤(aE:Int):=mD;have BL:aE<(l1.length:Int):=mD;obtain⟨Pv,Qi,xI,xJ⟩:=gZ jw.1 aE Bu BL;have SQ:=xJ;have SP:=xI;obtain rfl:qc=Pv:=(by injection Qi);replace xI:=mX HB.1 xI;replace xJ:=mX HB.1 xJ;replace Bu:=eq_true Bu;replace BL:=eq_true BL;refine eu (n:=11) (S:=fun w'=>w'.cell? (qc.add ((ka).toNat*2))=some (.string ((av l1 ka).f0))∧w'.cell? ⟨(qc.add ((ka).toNat*2)).block,(qc.add ((ka).toNat*2)).off+1,none⟩=some (.int .i64 ((av l1 ka).f1))∧w'.cell? (qc.add ((aE).toNat*2))=some (.string ((av l1 aE).f0))∧w'.cell? ⟨(qc.add ((aE).toNat*2)).block,(qc.add ((aE).toNat*2)).off+1,none⟩=some (.int .i64 ((av l1 aE).f1))) (ds:=[]) (mb 0 11) (by kernel_rfl) rfl rfl ⟨(mX HB.1 SN :),(mX HB.1 SO :),(mX HB.1 SP :),(mX HB.1 SQ :)⟩ (fun hHeld=>?_);refine gl cp.MX cp.JV (fun HT_ HW_=>?_);generalize wr.drew=mq at fz HB xG xH xI xJ hHeld ⊢
               refine ai 0 53 HT_.1 (mb 1 10) ?_;refine ai 1 54 HT_.1 (mb 2 9) ?_;refine ai 2 55 HT_.1 (mb 3 8) ?_;refine ai 3 56 HT_.1 (mb 4 7) ?_;refine ai 5 58 HT_.1 (mr [4,1,1,5]) ?_;refine ai 6 59 HT_.1 (mr [4,1,2,4]) ?_;refine ai 7 60 HT_.1 (mr [4,1,3,3]) ?_;refine ai 8 61 HT_.1 (mr [4,1,4,2]) ?_;refine aT 4 57 HT_.1 HW_.1 (mb 9 2) hHeld ?_;refine aT 9 62 HT_.1 HW_.1 (mb 10 1) hHeld ?_;refine ai 10 63 HT_.1 (mb 11 0) ?_;refine et (gg HT_.1 (by kernel_rfl)) ?_
               try go_wp2
               go_roundg k3
               case measure=>have:=br.1;have:=yA.1;have:=tH.1;omega
               case rel=>exact⟨(wrap64 (ka+1)),mE,H',⟨by have:=br.1;have:=yA.1;have:=tH.1;omega⟩,⟨mK fz.1⟩,⟨(aM HB.1 lI.1)⟩⟩
             ·rw[if_neg vH]at H;exact absurd H (by simp)
            ·rw[if_neg lu]at H;exact absurd H (by simp)
           ·rw[if_neg n8]at H;exact absurd H (by simp)
          ·rw[if_neg jz]at H;exact absurd H (by simp)
         ·rw[if_neg fE]at H;have C6:=decide_eq_false fE;clear fE;have H':=J H;clear H;go_wp2;go_roundg k3
          case measure=>have:=br.1;have:=yA.1;have:=tH.1;omega
          case rel=>exact⟨(wrap64 (aE+1)),mE,H',⟨by have:=br.1;have:=yA.1;have:=tH.1;omega⟩,⟨mK fz.1⟩,⟨(aM HB.1 lI.1)⟩⟩
   ·rw[if_neg c4]at H;have lv:=decide_eq_false c4;clear c4;obtain rfl:=Option.some.inj H;go_wp2;go_ret;exact⟨cW,(aM HB.1 lI.1)⟩
mutual
def bC.j0:Nat→Bool→List (aj)→List (ah)→List (ah)→Int→Option (Bool)
 |0,_,_,_,_,_=>none
 |k+1,Ja,eJ,pr,pt,qF=>if Ja=true then (some false) else (bC.l0 k 0 0 eJ pr pt qF)
def bC.l0:Nat→Int→Int→List (aj)→List (ah)→List (ah)→Int→Option (Bool)
 |0,_,_,_,_,_,_=>none
 |k+1,x3,x4,eJ,pr,pt,qF=>if x4<(eJ.length:Int) then (if 0≤x4 then ((fc.f ((aa eJ x4).f0) 1 (wrap64 (qF-1))).bind fun t237=>(if t237=true then (if x4>0 then (if 0≤(wrap64 (x4-1)) then (if (wrap64 (x4-1))<(eJ.length:Int) then (if ((aa eJ (wrap64 (x4-1))).f0)≥((aa eJ x4).f0) then (bC.j2 k x3 x4 true eJ pr pt qF ((aa eJ x4).f0) ((aa eJ x4).f1) ((aa eJ x4).f2)) else ((fc.f ((aa eJ x4).f2) 0 (((aa eJ x4).f1).length:Int)).bind fun t239=>(if t239=true then ((eI.f k pr ((aa eJ x4).f0)).bind fun t240=>(if t240=true then (bC.j2 k x3 x4 false eJ pr pt qF ((aa eJ x4).f0) ((aa eJ x4).f1) ((aa eJ x4).f2)) else ((eI.f k pt ((aa eJ x4).f0)).bind fun t241=>(bC.j2 k x3 x4 (!t241) eJ pr pt qF ((aa eJ x4).f0) ((aa eJ x4).f1) ((aa eJ x4).f2))))) else (bC.j2 k x3 x4 true eJ pr pt qF ((aa eJ x4).f0) ((aa eJ x4).f1) ((aa eJ x4).f2))))) else (none)) else (none)) else ((fc.f ((aa eJ x4).f2) 0 (((aa eJ x4).f1).length:Int)).bind fun t242=>(if t242=true then ((eI.f k pr ((aa eJ x4).f0)).bind fun t243=>(if t243=true then (bC.j2 k x3 x4 false eJ pr pt qF ((aa eJ x4).f0) ((aa eJ x4).f1) ((aa eJ x4).f2)) else ((eI.f k pt ((aa eJ x4).f0)).bind fun t244=>(bC.j2 k x3 x4 (!t244) eJ pr pt qF ((aa eJ x4).f0) ((aa eJ x4).f1) ((aa eJ x4).f2))))) else (bC.j2 k x3 x4 true eJ pr pt qF ((aa eJ x4).f0) ((aa eJ x4).f1) ((aa eJ x4).f2))))) else (bC.j2 k x3 x4 true eJ pr pt qF ((aa eJ x4).f0) ((aa eJ x4).f1) ((aa eJ x4).f2)))) else (none)) else (if x3≤60000 then ((cp.f k eJ pr pt qF pr).bind fun t245=>(if t245=true then ((cp.f k eJ pr pt qF pt).bind fun t246=>(some t246)) else (some false))) else (some false))
def bC.j2:Nat→Int→Int→Bool→List (aj)→List (ah)→List (ah)→Int→Int→List Int→Int→Option (Bool)
 |0,_,_,_,_,_,_,_,_,_,_=>none
 |k+1,x3,x4,x75,eJ,pr,pt,qF,aCx,aqv,aCy=>if x75=true then (some false) else (bC.l0 k (wrap64 (x3+(aqv.length:Int))) (wrap64 (x4+1)) eJ pr pt qF)
end
def bC.f (k:Nat) (U:List (aj)) (ab:List (ah)) (ae:List (ah)) (af:Int):Option (Bool):=(fc.f af 1 1000000).bind fun t234=>(if t234=true then (bC.j0 k (decide ((U.length:Int)>60)) U ab ae af) else (bC.j0 k true U ab ae af))
def bC.T8:Bool × List (List Nat × List Nat):=(true,[([],[]),([0],[0]),([],[]),([2],[2]),([3],[3]),([1,4],[1,4]),([5],[5]),([6,5],[6]),([7],[7]),([8,7],[7,8]),([9,7,7],[7,9]),([10],[10]),([11,10],[10,11]),([10],[10]),([13,10],[10,13]),([12,14,10],[10,12,14]),([15,10],[10,15]),([16,10],[10,16]),([10],[10]),([18,10],[10,18]),([17,19,10],[10,17,19]),([10,20,7],[7,10,20]),([7,21],[7,21]),([22,10],[22]),([23],[23]),([24,23],[23,24]),([23],[23]),([26,23],[23,26]),([27,23],[23,27]),([25,28,23,23],[23,25,28]),([29,23],[23,29]),([23,30],[23,30]),([31,29],[31]),([32],[32]),([33,32],[32,33]),([32],[32]),([35,32],[32,35]),([34,36,32,32],[32,34,36]),([37,32],[32,37]),([38,37,32],[32,38]),([39],[39]),([40,39],[39,40]),([39],[39]),([42,39],[39,42]),([41,43,39,39],[39,41,43]),([44,39],[39,44]),([39,45,32],[32,39,45]),([32,46],[32,46])])
def bC.B8:List Nat:=[0,1,0,4,12,31,63,127,255,511,1023,2047,4095,2047,10239,32767,65535,131071,2047,264191,1048575,2097151,4194303,8388607,16777215,33554431,16777215,83886079,218103807,536870911,1073741823,2147483647,4294967295,8589934591,17179869183,8589934591,42949672959,137438953471,274877906943,549755813887,1099511627775,2199023255551,1099511627775,5497558138879,17592186044415,35184372088831,70368744177663,140737488355327]
theorem bC.zN:fv .any (opsOf Try.f66 8)=bC.T8:=by kernel_rfl
theorem bC.yQ:lE bC.T8.2 bC.B8=true:=by kernel_rfl
set_option maxHeartbeats 8000000 in
set_option maxRecDepth 100000 in
theorem bC.calls (k:Nat) (aw:Option Addr) (al:Nat) (U:List (aj)) (ao:Option Addr) (an:Nat) (ab:List (ah)) (aq:Option Addr) (ar:Nat) (ae:List (ah)) (af:Int) (r:Bool) (w:World) (dw:Kd.C bu w aw U.length U) (dt:U.length≤al) (dx:Kd.C ay w ao ab.length ab) (du:ab.length≤an) (dy:Kd.C ay w aq ae.length ae) (dv:ae.length≤ar) (h:bC.f k U ab ae af=some r) :
 Calls Try.prog 66 #[.agg #[.slice aw U.length al,.slice ao ab.length an,.slice aq ae.length ar,.int .i64 af]] w fun e w'=>e = .returned (.bool r)∧Below w.heap.size w w':=by
 have l3:=Try.underlying30;have xC:=Try.underlying80;have bS:=J dw;have cv:=J dt;clear dw dt;have bN:=J dx;have bX:=J du;clear dx du;have bT:=J dy;have cb:=J dv;clear dy dv;have HB:=J (Below.refl w.heap.size w);have H:((fc.f af 1 1000000).bind fun t234=>(if t234=true then (bC.j0 k (decide ((U.length:Int)>60)) U ab ae af) else (bC.j0 k true U ab ae af)))=some r:=h;clear h;have yz:=J H;clear H;go_enter Try.func66,Try.ntmps66;go_upto_region 1 with (first|((with_reducible refine bh (N:=1) rfl ?_);(try (refine F3 (by rfl) ?_;dsimp only));refine bw 1 #[.slice aw U.length al,.slice ao ab.length an,.slice aq ae.length ar,.int .i64 af] 30 ?_;intro fS hg w3 hbox hb;have bQ:=J (hbox);have aqV:=mG hg (mH HB.1);have gW:=mG hg (mH HB.1);replace HB:=J (aK (mH HB.1) hb);clear hb hbox hg))
 (try simp only[Act.put,zA,zB,zC])
 go_cut [15] (fun IY wc=>∃(kq:Nat) (yf:Bool),IY = .bool yf∧Aside0 (bC.j0 kq yf U ab ae af=some r)∧Aside0 (kq≤k)∧Aside0 (wc.heap[fS]? = some (.cells #[(.slice aw U.length al),(.slice ao ab.length an),(.slice aq ae.length ar),.int .i64 af] 30 (0,0)))∧Aside0 (Below w.heap.size w wc))
 case first=>
  have H:=yz.1;clear yz;replace H:=Option.bind_eq_some_iff.mp H;obtain⟨t234,jO,H⟩:=H;replace H:(if t234=true then (bC.j0 k (decide ((U.length:Int)>60)) U ab ae af) else (bC.j0 k true U ab ae af))=some r:=H;have A4:=J jO;clear jO;by_cases c5:t234=true
  ·subst c5;have H1:=H;rw[if_pos rfl]at H1;clear H;have H:=H1;clear H1;have H':=J H;clear H;obtain⟨at6,at7,at8,at9,awT,awU,awV,awW⟩:=aY bQ.1;go_wp2_with (first|((with_reducible refine bm (f:=89) rfl ?_);refine cd 8 Try.func89 #[.int .i64 af,.int .i64 1,.int .i64 1000000] ?_;(with_reducible refine(fc.calls af 1 1000000 true _ A4.1).mono ?_);rintro e w' ⟨rfl,⟨nd,rfl⟩⟩;refine⟨_,rfl,?_⟩));go_meet
   case rel=>exact⟨_,(decide ((U.length:Int)>60)),mE,H',⟨by first|omega|exact Nat.le_refl _⟩,⟨mK bQ.1⟩,⟨(aM HB.1 gW.1)⟩⟩
  ·replace c5:=Bool.eq_false_iff.mpr c5;subst c5;have H1:=H;rw[if_neg (show ¬(false=true) by decide)]at H1;clear H;have H:=H1;clear H1;have H':=J H;clear H;obtain⟨Rz,RA,RB,RC,Sh,Si,Sj,Sk⟩:=aY bQ.1;go_wp2_with (first|((with_reducible refine bm (f:=89) rfl ?_);refine cd 8 Try.func89 #[.int .i64 af,.int .i64 1,.int .i64 1000000] ?_;(with_reducible refine(fc.calls af 1 1000000 false _ A4.1).mono ?_);rintro e w' ⟨rfl,⟨nd,rfl⟩⟩;refine⟨_,rfl,?_⟩));go_meet
   case rel=>exact⟨_,(true),mE,H',⟨by first|omega|exact Nat.le_refl _⟩,⟨mK bQ.1⟩,⟨(aM HB.1 gW.1)⟩⟩
 case rest=>
  clear yz
  obtain⟨kq,yf,rfl,HA,rX,bQ,HB⟩:=hcut;cases kq with
  |zero=>exact absurd HA.1 (by simp[bC.j0])
  |succ L9=>
   have H:=HA.1;clear HA;simp only[bC.j0]at H;by_cases c8:yf=true
   ·subst c8;have H1:=H;rw[if_pos rfl]at H1;clear H;have H:=H1;clear H1;obtain rfl:=Option.some.inj H;go_wp2;go_ret;exact⟨cW,(aM HB.1 gW.1)⟩
   ·replace c8:=Bool.eq_false_iff.mpr c8;subst c8;have H1:=H;rw[if_neg (show ¬(false=true) by decide)]at H1;clear H;have H:=H1;clear H1;have H':=J H;clear H;go_wp2;go_loopg [3,4] L9 (fun kq v3 v4 w'=>∃(jE:Int) (aA:Int),v3 = .int .i64 jE∧v4 = .int .i64 aA∧Aside0 (bC.l0 kq jE aA U ab ae af=some r)∧Aside0 (kq≤L9)∧Aside0 (w'.heap[fS]? = some (.cells #[(.slice aw U.length al),(.slice ao ab.length an),(.slice aq ae.length ar),.int .i64 af] 30 (0,0)))∧Aside0 (Below w.heap.size w w'))
    case atStart=>exact⟨(0),(0),mE,mE,H',⟨Nat.le_refl _⟩,⟨mK bQ.1⟩,⟨(aM HB.1 gW.1)⟩⟩
    case round=>
     clear H'
     try clear c8
     obtain⟨jE,aA,rfl,rfl,HA,lK,bQ,HB⟩:=hrel;cases gk with
     |zero=>exact absurd HA.1 (by simp[bC.l0])
     |succ k2=>
      have H:=HA.1;clear HA;simp only[bC.l0]at H;by_cases c9:aA<(U.length:Int)
      ·rw[if_pos c9]at H;have yY:=decide_eq_true c9;clear c9;by_cases jy:0≤aA
       ·rw[if_pos jy]at H;have C3:=decide_eq_true jy;clear jy;have Af:=J H;clear H;obtain⟨Zh,Zi,Zj,Zk,ZY,ZZ,Z0,Z1⟩:=aY bQ.1;have Ty:0≤(aA:Int):=mD;have TV:aA<(U.length:Int):=mD;obtain⟨gv,iQ,iX,aiz,abJ,abK,abL,aaQ,aaH⟩:=jg bS.1 aA Ty TV;cases aiz
        replace abJ:=mX HB.1 abJ;replace abK:=mX HB.1 abK;replace abL:=mX HB.1 abL;have aro:=J aaH;have arj:=J aaQ;clear aaH aaQ;replace Ty:=eq_true Ty;replace TV:=eq_true TV;go_upto_region 8 with (first|((with_reducible refine bh (N:=5) rfl ?_);(try (refine F3 (by rfl) ?_;dsimp only));refine bw 5 #[.int .i64 0,.slice none 0 0,.int .i64 0] 80 ?_;intro dX hg kM hbox hb;have cC:=J (hbox);have aqW:=mG hg (aM HB.1 gW.1);have lg:=mG hg (aM HB.1 gW.1);replace HB:=J (aK (aM HB.1 gW.1) hb);have vw:=bA hg bQ.1;have W4:=bz hg bQ.1;replace bQ:=mB bQ hb;clear hb hbox hg;have GW:=W4.1;have GZ:=vw.1;obtain⟨KW,QX,QY,Lp,RJ,RK⟩:=mj cC.1))
        (try simp only[Act.put,zA,zB,zC])
        go_cut [75] (fun v75 wc=>∃(kq:Nat) (ND:Bool),v75 = .bool ND∧Aside0 (bC.j2 kq jE aA ND U ab ae af ((aa U aA).f0) ((aa U aA).f1) ((aa U aA).f2)=some r)∧Aside0 (kq≤k2)∧Aside0 (wc.heap[fS]? = some (.cells #[(.slice (some gv) U.length al),(.slice ao ab.length an),(.slice aq ae.length ar),.int .i64 af] 30 (0,0)))∧Aside0 (wc.heap[dX]? = some (.cells #[.int .i64 ((aa U aA).f0),(.slice iQ ((aa U aA).f1).length iX),.int .i64 ((aa U aA).f2)] 80 (0,0)))∧Aside0 (Below w.heap.size w wc))
        case first=>
         have H:=Af.1;clear Af;replace H:=Option.bind_eq_some_iff.mp H;obtain⟨t237,Vi,H⟩:=H;replace H:(if t237=true then (if aA>0 then (if 0≤(wrap64 (aA-1)) then (if (wrap64 (aA-1))<(U.length:Int) then (if ((aa U (wrap64 (aA-1))).f0)≥((aa U aA).f0) then (bC.j2 k2 jE aA true U ab ae af ((aa U aA).f0) ((aa U aA).f1) ((aa U aA).f2)) else ((fc.f ((aa U aA).f2) 0 (((aa U aA).f1).length:Int)).bind fun t239=>(if t239=true then ((eI.f k2 ab ((aa U aA).f0)).bind fun t240=>(if t240=true then (bC.j2 k2 jE aA false U ab ae af ((aa U aA).f0) ((aa U aA).f1) ((aa U aA).f2)) else ((eI.f k2 ae ((aa U aA).f0)).bind fun t241=>(bC.j2 k2 jE aA (!t241) U ab ae af ((aa U aA).f0) ((aa U aA).f1) ((aa U aA).f2))))) else (bC.j2 k2 jE aA true U ab ae af ((aa U aA).f0) ((aa U aA).f1) ((aa U aA).f2))))) else (none)) else (none)) else ((fc.f ((aa U aA).f2) 0 (((aa U aA).f1).length:Int)).bind fun t242=>(if t242=true then ((eI.f k2 ab ((aa U aA).f0)).bind fun t243=>(if t243=true then (bC.j2 k2 jE aA false U ab ae af ((aa U aA).f0) ((aa U aA).f1) ((aa U aA).f2)) else ((eI.f k2 ae ((aa U aA).f0)).bind fun t244=>(bC.j2 k2 jE aA (!t244) U ab ae af ((aa U aA).f0) ((aa U aA).f1) ((aa U aA).f2))))) else (bC.j2 k2 jE aA true U ab ae af ((aa U aA).f0) ((aa U aA).f1) ((aa U aA).f2))))) else (bC.j2 k2 jE aA true U ab ae af ((aa U aA).f0) ((aa U aA).f1) ((aa U aA).f2)))=some r:=H;have wF:=J Vi;clear Vi;by_cases qX:t237=true
         ·subst qX;have H1:=H;rw[if_pos rfl]at H1;clear H;have H:=H1;clear H1;by_cases jq:aA>0
          ·rw[if_pos jq]at H;have vG:decide (0<aA)=true:=decide_eq_true jq;clear jq
           (first|rw[vG]|(simp only[ij,jC];rw[vG])|skip)
           obtain⟨cD,vP⟩:∃j_:Int,(wrap64 (aA-1))=j_:=⟨_,rfl⟩;replace H:(if 0≤(cD) then (if (cD)<(U.length:Int) then (if ((aa U (cD)).f0)≥((aa U aA).f0) then (bC.j2 k2 jE aA true U ab ae af ((aa U aA).f0) ((aa U aA).f1) ((aa U aA).f2)) else ((fc.f ((aa U aA).f2) 0 (((aa U aA).f1).length:Int)).bind fun t239=>(if t239=true then ((eI.f k2 ab ((aa U aA).f0)).bind fun t240=>(if t240=true then (bC.j2 k2 jE aA false U ab ae af ((aa U aA).f0) ((aa U aA).f1) ((aa U aA).f2)) else ((eI.f k2 ae ((aa U aA).f0)).bind fun t241=>(bC.j2 k2 jE aA (!t241) U ab ae af ((aa U aA).f0) ((aa U aA).f1) ((aa U aA).f2))))) else (bC.j2 k2 jE aA true U ab ae af ((aa U aA).f0) ((aa U aA).f1) ((aa U aA).f2))))) else (none)) else (none))=some r:=by first|(rw[vP]at H;exact H)|(simp only[vP]at H ⊢;exact H)
           (try rw[vP]at wF)
           have am1:(IntKind.i64.wrap (aA-1))=cD:=(ij _).trans vP;by_cases n7:0≤(cD)
           ·rw[if_pos n7]at H;have ahD:=decide_eq_true n7;clear n7;by_cases lR:(cD)<(U.length:Int)
            ·rw[if_pos lR]at H;have C5:=decide_eq_true lR;clear lR;by_cases fD:((aa U (cD)).f0)≥((aa U aA).f0)
             ·rw[if_pos fD]at H;have xa:decide (((aa U aA).f0)≤((aa U (cD)).f0))=true:=decide_eq_true fD;clear fD;have H':=J H;clear H
              try go_wp2
              generalize hW_:(((kM.setCell ⟨dX,0,none⟩ (.int .i64 ((aa U aA).f0))).setCell ⟨dX,1,none⟩ (.slice iQ ((aa U aA).f1).length iX)).setCell ⟨dX,2,none⟩ (.int .i64 ((aa U aA).f2)))=D1
              replace bQ:Aside0 (D1.heap[fS]? = some (.cells #[.slice (some gv) U.length al,.slice ao ab.length an,.slice aq ae.length ar,.int .i64 af] 30 (0,0))):=by rw[←hW_];exact⟨bF vw.1 bQ.1⟩
              replace cC:Aside0 (D1.heap[dX]? = some (.cells #[.int .i64 ((aa U aA).f0),.slice iQ ((aa U aA).f1).length iX,.int .i64 ((aa U aA).f2)] 80 (0,0))):=by rw[←hW_];exact⟨by refine mK ?_;refine aC (cs:=#[.int .i64 ((aa U aA).f0),.slice iQ ((aa U aA).f1).length iX,.int .i64 0]) ?_ 2 _ rfl;refine mK ?_;refine aC (cs:=#[.int .i64 ((aa U aA).f0),.slice none 0 0,.int .i64 0]) ?_ 1 _ rfl;refine mK ?_;refine aC (cs:=#[.int .i64 0,.slice none 0 0,.int .i64 0]) ?_ 0 _ rfl;refine mK ?_;exact cC.1⟩
              replace HB:Aside0 (Below w.heap.size w D1):=by rw[←hW_];exact⟨(az HB.1 gW.1 lg.1)⟩
              clear hW_;replace bQ:=J (bY bQ.1);replace cC:=J (bY cC.1);replace HB:=J (cS HB.1);have qv:0≤((cD):Int):=mD;have qx:(cD)<(U.length:Int):=mD;obtain⟨Ax,z6,AG,AL,oh,om,oo,uv,uu⟩:=jg bS.1 (cD) qv qx;have ph:=oo;have pg:=om;have pf:=oh;obtain rfl:gv=Ax:=(by injection AL);replace oh:=mX HB.1 oh;replace om:=mX HB.1 om;replace oo:=mX HB.1 oo;have Am:=J uu;have N6:=J uv;clear uu uv;replace qv:=eq_true qv;replace qx:=eq_true qx;refine eu (n:=48) (S:=fun w'=>w'.cell? ⟨dX,0,none⟩=some (.int .i64 ((aa U aA).f0))∧w'.cell? ⟨dX,1,none⟩=some (.slice iQ ((aa U aA).f1).length iX)∧w'.cell? ⟨dX,2,none⟩=some (.int .i64 ((aa U aA).f2))∧w'.cell? ⟨fS,0,none⟩=some (.slice (some gv) U.length al)∧w'.cell? ⟨fS,1,none⟩=some (.slice ao ab.length an)∧w'.cell? ⟨fS,2,none⟩=some (.slice aq ae.length ar)∧w'.cell? ⟨fS,3,none⟩=some (.int .i64 af)∧w'.cell? (gv.add (((cD)).toNat*3))=some (.int .i64 ((aa U (cD)).f0))∧w'.cell? ⟨(gv.add (((cD)).toNat*3)).block,(gv.add (((cD)).toNat*3)).off+1,none⟩=some (.slice z6 ((aa U (cD)).f1).length AG)∧w'.cell? ⟨(gv.add (((cD)).toNat*3)).block,(gv.add (((cD)).toNat*3)).off+2,none⟩=some (.int .i64 ((aa U (cD)).f2))) (ds:=[]) (mb 0 48) (by kernel_rfl) rfl rfl (ej cC.1 (eC bQ.1 ⟨(mX HB.1 pf :),⟨(mX HB.1 pg :),(mX HB.1 ph :)⟩⟩)) (fun hHeld=>?_);refine gl bC.zN bC.yQ (fun HT_ HW_=>?_);generalize D1.drew=wi at bQ cC HB Am oh om oo hHeld ⊢
              refine ai 0 28 HT_.1 (mb 1 47) ?_;refine ai 2 30 HT_.1 (mr [1,1,1,45]) ?_;refine aT 1 29 HT_.1 HW_.1 (mb 3 45) hHeld ?_;refine aT 3 31 HT_.1 HW_.1 (mb 4 44) hHeld ?_;refine ai 4 32 HT_.1 (mb 5 43) ?_;refine ca 5 (some 33) HT_.1 (mb 6 42) (fun K hK=>?_);refine dq Try.func89 (by kernel_rfl) rfl #[.int .i64 ((aa U aA).f0),.int .i64 1,.int .i64 (wrap64 (af-1))] (by rfl) rfl rfl mA ?_
              with_reducible refine(fc.calls ((aa U aA).f0) 1 (wrap64 (af-1)) true _ wF.1).mono ?_
              rintro e w' ⟨rfl,⟨nd,rfl⟩⟩;refine⟨_,rfl,?_⟩;refine hK.out _ _ (ej cC.1 (eC bQ.1 ⟨(mX HB.1 pf :),⟨(mX HB.1 pg :),(mX HB.1 ph :)⟩⟩)) (fun hHeld=>?_);clear hK K;refine bD 33 ?_;refine ai 6 34 HT_.1 (mb 7 41) ?_;refine ai 7 35 HT_.1 (mb 8 40) ?_;refine ai 8 36 HT_.1 (mb 9 39) ?_;refine ai 9 37 HT_.1 (mb 10 38) ?_;refine ai 10 38 HT_.1 (mb 11 37) ?_;refine ai 11 39 HT_.1 (mb 12 36) ?_;refine ai 13 41 HT_.1 (mr [12,1,1,34]) ?_;refine ai 14 42 HT_.1 (mr [12,1,2,33]) ?_;refine ai 18 46 HT_.1 (mr [12,1,2,3,1,29]) ?_;refine aT 12 40 HT_.1 HW_.1 (mr [15,3,1,29]) hHeld ?_;refine ai 15 43 HT_.1 (mr [16,2,1,29]) ?_;refine ai 16 44 HT_.1 (mr [17,1,1,29]) ?_;refine aT 17 45 HT_.1 HW_.1 (mb 19 29) hHeld ?_;refine aT 19 47 HT_.1 HW_.1 (mb 20 28) hHeld ?_;refine ai 20 48 HT_.1 (mb 21 27) ?_;refine ai 21 49 HT_.1 (mb 22 26) ?_;refine ai 22 50 HT_.1 (mb 23 25) ?_;refine ai 23 51 HT_.1 (mb 24 24) ?_;refine au 24 52 HT_.1 (mb 25 23) ?_;refine au 25 53 HT_.1 (mb 26 22) ?_;refine au 26 54 HT_.1 (mb 27 21) ?_;refine au 27 55 HT_.1 (mb 28 20) ?_;refine au 28 56 HT_.1 (mb 29 19) ?_;refine au 29 57 HT_.1 (mb 30 18) ?_;refine au 30 58 HT_.1 (mb 31 17) ?_;refine ai 31 59 HT_.1 (mb 32 16) ?_;refine ai 32 60 HT_.1 (mb 33 15) ?_;refine au 33 61 HT_.1 (mb 34 14) ?_;refine au 34 62 HT_.1 (mb 35 13) ?_;refine au 35 63 HT_.1 (mb 36 12) ?_;refine au 36 64 HT_.1 (mb 37 11) ?_;refine au 37 65 HT_.1 (mb 38 10) ?_;refine au 38 66 HT_.1 (mb 39 9) ?_;refine au 39 67 HT_.1 (mb 40 8) ?_;refine au 40 68 HT_.1 (mb 41 7) ?_;refine au 41 69 HT_.1 (mb 42 6) ?_;refine au 42 70 HT_.1 (mb 43 5) ?_;refine au 43 71 HT_.1 (mb 44 4) ?_;refine au 44 72 HT_.1 (mb 45 3) ?_;refine au 45 73 HT_.1 (mb 46 2) ?_;refine au 46 74 HT_.1 (mb 47 1) ?_;refine ai 47 75 HT_.1 (mb 48 0) ?_;refine et (gg HT_.1 (by kernel_rfl)) ?_
              try go_wp2
              go_meet
              case rel=>exact⟨_,(true),mE,H',⟨by have:=rX.1;have:=lK.1;first|omega|exact Nat.le_refl _⟩,⟨mK bQ.1⟩,⟨mK cC.1⟩,⟨(az HB.1 gW.1 lg.1)⟩⟩
             ·rw[if_neg fD]at H;have xa:decide (((aa U aA).f0)≤((aa U (cD)).f0))=false:=decide_eq_false fD;clear fD;replace H:=Option.bind_eq_some_iff.mp H;obtain⟨t239,yl,H⟩:=H;replace H:(if t239=true then ((eI.f k2 ab ((aa U aA).f0)).bind fun t240=>(if t240=true then (bC.j2 k2 jE aA false U ab ae af ((aa U aA).f0) ((aa U aA).f1) ((aa U aA).f2)) else ((eI.f k2 ae ((aa U aA).f0)).bind fun t241=>(bC.j2 k2 jE aA (!t241) U ab ae af ((aa U aA).f0) ((aa U aA).f1) ((aa U aA).f2))))) else (bC.j2 k2 jE aA true U ab ae af ((aa U aA).f0) ((aa U aA).f1) ((aa U aA).f2)))=some r:=H;have z7:=J yl;clear yl;by_cases lu:t239=true
              ·subst lu;have H1:=H;rw[if_pos rfl]at H1;clear H;have H:=H1;clear H1;replace H:=Option.bind_eq_some_iff.mp H;obtain⟨t240,ym,H⟩:=H;replace H:(if t240=true then (bC.j2 k2 jE aA false U ab ae af ((aa U aA).f0) ((aa U aA).f1) ((aa U aA).f2)) else ((eI.f k2 ae ((aa U aA).f0)).bind fun t241=>(bC.j2 k2 jE aA (!t241) U ab ae af ((aa U aA).f0) ((aa U aA).f1) ((aa U aA).f2))))=some r:=H;have Ct:=J ym;clear ym;by_cases s5:t240=true
               ·subst s5;have H1:=H;rw[if_pos rfl]at H1;clear H;have H:=H1;clear H1;have H':=J H;clear H
                try go_wp2
                generalize hW_:(((kM.setCell ⟨dX,0,none⟩ (.int .i64 ((aa U aA).f0))).setCell ⟨dX,1,none⟩ (.slice iQ ((aa U aA).f1).length iX)).setCell ⟨dX,2,none⟩ (.int .i64 ((aa U aA).f2)))=wj
                replace bQ:Aside0 (wj.heap[fS]? = some (.cells #[.slice (some gv) U.length al,.slice ao ab.length an,.slice aq ae.length ar,.int .i64 af] 30 (0,0))):=by rw[←hW_];exact⟨bF vw.1 bQ.1⟩
                replace cC:Aside0 (wj.heap[dX]? = some (.cells #[.int .i64 ((aa U aA).f0),.slice iQ ((aa U aA).f1).length iX,.int .i64 ((aa U aA).f2)] 80 (0,0))):=by rw[←hW_];exact⟨by refine mK ?_;refine aC (cs:=#[.int .i64 ((aa U aA).f0),.slice iQ ((aa U aA).f1).length iX,.int .i64 0]) ?_ 2 _ rfl;refine mK ?_;refine aC (cs:=#[.int .i64 ((aa U aA).f0),.slice none 0 0,.int .i64 0]) ?_ 1 _ rfl;refine mK ?_;refine aC (cs:=#[.int .i64 0,.slice none 0 0,.int .i64 0]) ?_ 0 _ rfl;refine mK ?_;exact cC.1⟩
                replace HB:Aside0 (Below w.heap.size w wj):=by rw[←hW_];exact⟨(az HB.1 gW.1 lg.1)⟩
                clear hW_;replace bQ:=J (bY bQ.1);replace cC:=J (bY cC.1);replace HB:=J (cS HB.1);have qv:0≤((cD):Int):=mD;have qx:(cD)<(U.length:Int):=mD;obtain⟨Ax,z6,AG,AL,oh,om,oo,uv,uu⟩:=jg bS.1 (cD) qv qx;have ph:=oo;have pg:=om;have pf:=oh;obtain rfl:gv=Ax:=(by injection AL);replace oh:=mX HB.1 oh;replace om:=mX HB.1 om;replace oo:=mX HB.1 oo;have Am:=J uu;have N6:=J uv;clear uu uv;replace qv:=eq_true qv;replace qx:=eq_true qx;refine eu (n:=48) (S:=fun w'=>w'.cell? ⟨dX,0,none⟩=some (.int .i64 ((aa U aA).f0))∧w'.cell? ⟨dX,1,none⟩=some (.slice iQ ((aa U aA).f1).length iX)∧w'.cell? ⟨dX,2,none⟩=some (.int .i64 ((aa U aA).f2))∧w'.cell? ⟨fS,0,none⟩=some (.slice (some gv) U.length al)∧w'.cell? ⟨fS,1,none⟩=some (.slice ao ab.length an)∧w'.cell? ⟨fS,2,none⟩=some (.slice aq ae.length ar)∧w'.cell? ⟨fS,3,none⟩=some (.int .i64 af)∧w'.cell? (gv.add (((cD)).toNat*3))=some (.int .i64 ((aa U (cD)).f0))∧w'.cell? ⟨(gv.add (((cD)).toNat*3)).block,(gv.add (((cD)).toNat*3)).off+1,none⟩=some (.slice z6 ((aa U (cD)).f1).length AG)∧w'.cell? ⟨(gv.add (((cD)).toNat*3)).block,(gv.add (((cD)).toNat*3)).off+2,none⟩=some (.int .i64 ((aa U (cD)).f2))) (ds:=[]) (mb 0 48) (by kernel_rfl) rfl rfl (ej cC.1 (eC bQ.1 ⟨(mX HB.1 pf :),⟨(mX HB.1 pg :),(mX HB.1 ph :)⟩⟩)) (fun hHeld=>?_);refine gl bC.zN bC.yQ (fun HT_ HW_=>?_);generalize wj.drew=mq at bQ cC HB Am oh om oo hHeld ⊢
                refine ai 0 28 HT_.1 (mb 1 47) ?_;refine ai 2 30 HT_.1 (mr [1,1,1,45]) ?_;refine aT 1 29 HT_.1 HW_.1 (mb 3 45) hHeld ?_;refine aT 3 31 HT_.1 HW_.1 (mb 4 44) hHeld ?_;refine ai 4 32 HT_.1 (mb 5 43) ?_;refine ca 5 (some 33) HT_.1 (mb 6 42) (fun K hK=>?_);refine dq Try.func89 (by kernel_rfl) rfl #[.int .i64 ((aa U aA).f0),.int .i64 1,.int .i64 (wrap64 (af-1))] (by rfl) rfl rfl mA ?_
                with_reducible refine(fc.calls ((aa U aA).f0) 1 (wrap64 (af-1)) true _ wF.1).mono ?_
                rintro e w' ⟨rfl,⟨nd,rfl⟩⟩;refine⟨_,rfl,?_⟩;refine hK.out _ _ (ej cC.1 (eC bQ.1 ⟨(mX HB.1 pf :),⟨(mX HB.1 pg :),(mX HB.1 ph :)⟩⟩)) (fun hHeld=>?_);clear hK K;refine bD 33 ?_;refine ai 6 34 HT_.1 (mb 7 41) ?_;refine ai 7 35 HT_.1 (mb 8 40) ?_;refine ai 8 36 HT_.1 (mb 9 39) ?_;refine ai 9 37 HT_.1 (mb 10 38) ?_;refine ai 10 38 HT_.1 (mb 11 37) ?_;refine ai 11 39 HT_.1 (mb 12 36) ?_;refine ai 13 41 HT_.1 (mr [12,1,1,34]) ?_;refine ai 14 42 HT_.1 (mr [12,1,2,33]) ?_;refine ai 18 46 HT_.1 (mr [12,1,2,3,1,29]) ?_;refine aT 12 40 HT_.1 HW_.1 (mr [15,3,1,29]) hHeld ?_;refine ai 15 43 HT_.1 (mr [16,2,1,29]) ?_;refine ai 16 44 HT_.1 (mr [17,1,1,29]) ?_;refine aT 17 45 HT_.1 HW_.1 (mb 19 29) hHeld ?_;refine aT 19 47 HT_.1 HW_.1 (mb 20 28) hHeld ?_;refine ai 20 48 HT_.1 (mb 21 27) ?_;refine ai 21 49 HT_.1 (mb 22 26) ?_;refine ai 22 50 HT_.1 (mb 23 25) ?_;refine ai 23 51 HT_.1 (mb 24 24) ?_;refine ai 24 52 HT_.1 (mb 25 23) ?_;refine ai 26 54 HT_.1 (mr [25,1,1,21]) ?_;refine aT 25 53 HT_.1 HW_.1 (mb 27 21) hHeld ?_;refine aT 27 55 HT_.1 HW_.1 (mb 28 20) hHeld ?_;refine ai 28 56 HT_.1 (mb 29 19) ?_;refine ca 29 (some 57) HT_.1 (mb 30 18) (fun K hK=>?_);refine dq Try.func89 (by kernel_rfl) rfl #[.int .i64 ((aa U aA).f2),.int .i64 0,.int .i64 (((aa U aA).f1).length:Int)] (by rfl) rfl rfl mA ?_
                with_reducible refine(fc.calls ((aa U aA).f2) 0 (((aa U aA).f1).length:Int) true _ z7.1).mono ?_
                rintro e w' ⟨rfl,⟨nd,rfl⟩⟩;refine⟨_,rfl,?_⟩;refine hK.out _ _ (ej cC.1 (eC bQ.1 ⟨(mX HB.1 pf :),⟨(mX HB.1 pg :),(mX HB.1 ph :)⟩⟩)) (fun hHeld=>?_);clear hK K;refine bD 57 ?_;refine ai 30 58 HT_.1 (mb 31 17) ?_;refine ai 31 59 HT_.1 (mb 32 16) ?_;refine ai 32 60 HT_.1 (mb 33 15) ?_;refine ai 33 61 HT_.1 (mb 34 14) ?_;refine ai 35 63 HT_.1 (mr [34,1,1,12]) ?_;refine aT 34 62 HT_.1 HW_.1 (mb 36 12) hHeld ?_;refine aT 36 64 HT_.1 HW_.1 (mb 37 11) hHeld ?_;refine ca 37 (some 65) HT_.1 (mb 38 10) (fun K hK=>?_);refine dq Try.func100 (by kernel_rfl) rfl #[.slice ao ab.length an,.int .i64 ((aa U aA).f0)] (by rfl) rfl rfl mA ?_
                with_reducible refine(eI.calls k2 _ _ ab ((aa U aA).f0) true _ ?aG ?aH Ct.1).mono ?_
                (case aG=>exact mC (Kd.aJ bN.1 (az HB.1 gW.1 lg.1)))
                (case aH=>exact bX.1)
                rintro e w' ⟨rfl,⟨nd,rfl⟩⟩;refine⟨_,rfl,?_⟩;refine hK.out _ _ (ej cC.1 (eC bQ.1 ⟨(mX HB.1 pf :),⟨(mX HB.1 pg :),(mX HB.1 ph :)⟩⟩)) (fun hHeld=>?_);clear hK K;refine bD 65 ?_;refine ai 38 66 HT_.1 (mb 39 9) ?_;refine ai 39 67 HT_.1 (mb 40 8) ?_;refine au 40 68 HT_.1 (mb 41 7) ?_;refine au 41 69 HT_.1 (mb 42 6) ?_;refine au 42 70 HT_.1 (mb 43 5) ?_;refine au 43 71 HT_.1 (mb 44 4) ?_;refine au 44 72 HT_.1 (mb 45 3) ?_;refine au 45 73 HT_.1 (mb 46 2) ?_;refine ai 46 74 HT_.1 (mb 47 1) ?_;refine ai 47 75 HT_.1 (mb 48 0) ?_;refine et (gg HT_.1 (by kernel_rfl)) ?_
                try go_wp2
                go_meet
                case rel=>exact⟨_,(false),mE,H',⟨by have:=rX.1;have:=lK.1;first|omega|exact Nat.le_refl _⟩,⟨mK bQ.1⟩,⟨mK cC.1⟩,⟨(az HB.1 gW.1 lg.1)⟩⟩
               ·replace s5:=Bool.eq_false_iff.mpr s5;subst s5;have H1:=H;rw[if_neg (show ¬(false=true) by decide)]at H1;clear H;have H:=H1;clear H1;replace H:=Option.bind_eq_some_iff.mp H;obtain⟨t241,Vp,H⟩:=H;replace H:(bC.j2 k2 jE aA (!t241) U ab ae af ((aa U aA).f0) ((aa U aA).f1) ((aa U aA).f2))=some r:=H;have A31:=J Vp;clear Vp;have H':=J H;clear H
                try go_wp2
                generalize hW_:(((kM.setCell ⟨dX,0,none⟩ (.int .i64 ((aa U aA).f0))).setCell ⟨dX,1,none⟩ (.slice iQ ((aa U aA).f1).length iX)).setCell ⟨dX,2,none⟩ (.int .i64 ((aa U aA).f2)))=zP
                replace bQ:Aside0 (zP.heap[fS]? = some (.cells #[.slice (some gv) U.length al,.slice ao ab.length an,.slice aq ae.length ar,.int .i64 af] 30 (0,0))):=by rw[←hW_];exact⟨bF vw.1 bQ.1⟩
                replace cC:Aside0 (zP.heap[dX]? = some (.cells #[.int .i64 ((aa U aA).f0),.slice iQ ((aa U aA).f1).length iX,.int .i64 ((aa U aA).f2)] 80 (0,0))):=by rw[←hW_];exact⟨by refine mK ?_;refine aC (cs:=#[.int .i64 ((aa U aA).f0),.slice iQ ((aa U aA).f1).length iX,.int .i64 0]) ?_ 2 _ rfl;refine mK ?_;refine aC (cs:=#[.int .i64 ((aa U aA).f0),.slice none 0 0,.int .i64 0]) ?_ 1 _ rfl;refine mK ?_;refine aC (cs:=#[.int .i64 0,.slice none 0 0,.int .i64 0]) ?_ 0 _ rfl;refine mK ?_;exact cC.1⟩
                replace HB:Aside0 (Below w.heap.size w zP):=by rw[←hW_];exact⟨(az HB.1 gW.1 lg.1)⟩
                clear hW_;replace bQ:=J (bY bQ.1);replace cC:=J (bY cC.1);replace HB:=J (cS HB.1);have qv:0≤((cD):Int):=mD;have qx:(cD)<(U.length:Int):=mD;obtain⟨Ax,z6,AG,AL,oh,om,oo,uv,uu⟩:=jg bS.1 (cD) qv qx;have ph:=oo;have pg:=om;have pf:=oh;obtain rfl:gv=Ax:=(by injection AL);replace oh:=mX HB.1 oh;replace om:=mX HB.1 om;replace oo:=mX HB.1 oo;have Am:=J uu;have N6:=J uv;clear uu uv;replace qv:=eq_true qv;replace qx:=eq_true qx;refine eu (n:=48) (S:=fun w'=>w'.cell? ⟨dX,0,none⟩=some (.int .i64 ((aa U aA).f0))∧w'.cell? ⟨dX,1,none⟩=some (.slice iQ ((aa U aA).f1).length iX)∧w'.cell? ⟨dX,2,none⟩=some (.int .i64 ((aa U aA).f2))∧w'.cell? ⟨fS,0,none⟩=some (.slice (some gv) U.length al)∧w'.cell? ⟨fS,1,none⟩=some (.slice ao ab.length an)∧w'.cell? ⟨fS,2,none⟩=some (.slice aq ae.length ar)∧w'.cell? ⟨fS,3,none⟩=some (.int .i64 af)∧w'.cell? (gv.add (((cD)).toNat*3))=some (.int .i64 ((aa U (cD)).f0))∧w'.cell? ⟨(gv.add (((cD)).toNat*3)).block,(gv.add (((cD)).toNat*3)).off+1,none⟩=some (.slice z6 ((aa U (cD)).f1).length AG)∧w'.cell? ⟨(gv.add (((cD)).toNat*3)).block,(gv.add (((cD)).toNat*3)).off+2,none⟩=some (.int .i64 ((aa U (cD)).f2))) (ds:=[]) (mb 0 48) (by kernel_rfl) rfl rfl (ej cC.1 (eC bQ.1 ⟨(mX HB.1 pf :),⟨(mX HB.1 pg :),(mX HB.1 ph :)⟩⟩)) (fun hHeld=>?_);refine gl bC.zN bC.yQ (fun HT_ HW_=>?_);generalize zP.drew=w33 at bQ cC HB Am oh om oo hHeld ⊢
                refine ai 0 28 HT_.1 (mb 1 47) ?_;refine ai 2 30 HT_.1 (mr [1,1,1,45]) ?_;refine aT 1 29 HT_.1 HW_.1 (mb 3 45) hHeld ?_;refine aT 3 31 HT_.1 HW_.1 (mb 4 44) hHeld ?_;refine ai 4 32 HT_.1 (mb 5 43) ?_;refine ca 5 (some 33) HT_.1 (mb 6 42) (fun K hK=>?_);refine dq Try.func89 (by kernel_rfl) rfl #[.int .i64 ((aa U aA).f0),.int .i64 1,.int .i64 (wrap64 (af-1))] (by rfl) rfl rfl mA ?_
                with_reducible refine(fc.calls ((aa U aA).f0) 1 (wrap64 (af-1)) true _ wF.1).mono ?_
                rintro e w' ⟨rfl,⟨nd,rfl⟩⟩;refine⟨_,rfl,?_⟩;refine hK.out _ _ (ej cC.1 (eC bQ.1 ⟨(mX HB.1 pf :),⟨(mX HB.1 pg :),(mX HB.1 ph :)⟩⟩)) (fun hHeld=>?_);clear hK K;refine bD 33 ?_;refine ai 6 34 HT_.1 (mb 7 41) ?_;refine ai 7 35 HT_.1 (mb 8 40) ?_;refine ai 8 36 HT_.1 (mb 9 39) ?_;refine ai 9 37 HT_.1 (mb 10 38) ?_;refine ai 10 38 HT_.1 (mb 11 37) ?_;refine ai 11 39 HT_.1 (mb 12 36) ?_;refine ai 13 41 HT_.1 (mr [12,1,1,34]) ?_;refine ai 14 42 HT_.1 (mr [12,1,2,33]) ?_;refine ai 18 46 HT_.1 (mr [12,1,2,3,1,29]) ?_;refine aT 12 40 HT_.1 HW_.1 (mr [15,3,1,29]) hHeld ?_;refine ai 15 43 HT_.1 (mr [16,2,1,29]) ?_;refine ai 16 44 HT_.1 (mr [17,1,1,29]) ?_;refine aT 17 45 HT_.1 HW_.1 (mb 19 29) hHeld ?_;refine aT 19 47 HT_.1 HW_.1 (mb 20 28) hHeld ?_;refine ai 20 48 HT_.1 (mb 21 27) ?_;refine ai 21 49 HT_.1 (mb 22 26) ?_;refine ai 22 50 HT_.1 (mb 23 25) ?_;refine ai 23 51 HT_.1 (mb 24 24) ?_;refine ai 24 52 HT_.1 (mb 25 23) ?_;refine ai 26 54 HT_.1 (mr [25,1,1,21]) ?_;refine aT 25 53 HT_.1 HW_.1 (mb 27 21) hHeld ?_;refine aT 27 55 HT_.1 HW_.1 (mb 28 20) hHeld ?_;refine ai 28 56 HT_.1 (mb 29 19) ?_;refine ca 29 (some 57) HT_.1 (mb 30 18) (fun K hK=>?_);refine dq Try.func89 (by kernel_rfl) rfl #[.int .i64 ((aa U aA).f2),.int .i64 0,.int .i64 (((aa U aA).f1).length:Int)] (by rfl) rfl rfl mA ?_
                with_reducible refine(fc.calls ((aa U aA).f2) 0 (((aa U aA).f1).length:Int) true _ z7.1).mono ?_
                rintro e w' ⟨rfl,⟨nd,rfl⟩⟩;refine⟨_,rfl,?_⟩;refine hK.out _ _ (ej cC.1 (eC bQ.1 ⟨(mX HB.1 pf :),⟨(mX HB.1 pg :),(mX HB.1 ph :)⟩⟩)) (fun hHeld=>?_);clear hK K;refine bD 57 ?_;refine ai 30 58 HT_.1 (mb 31 17) ?_;refine ai 31 59 HT_.1 (mb 32 16) ?_;refine ai 32 60 HT_.1 (mb 33 15) ?_;refine ai 33 61 HT_.1 (mb 34 14) ?_;refine ai 35 63 HT_.1 (mr [34,1,1,12]) ?_;refine aT 34 62 HT_.1 HW_.1 (mb 36 12) hHeld ?_;refine aT 36 64 HT_.1 HW_.1 (mb 37 11) hHeld ?_;refine ca 37 (some 65) HT_.1 (mb 38 10) (fun K hK=>?_);refine dq Try.func100 (by kernel_rfl) rfl #[.slice ao ab.length an,.int .i64 ((aa U aA).f0)] (by rfl) rfl rfl mA ?_
                with_reducible refine(eI.calls k2 _ _ ab ((aa U aA).f0) false _ ?aG ?aH Ct.1).mono ?_
                (case aG=>exact mC (Kd.aJ bN.1 (az HB.1 gW.1 lg.1)))
                (case aH=>exact bX.1)
                rintro e w' ⟨rfl,⟨nd,rfl⟩⟩;refine⟨_,rfl,?_⟩;refine hK.out _ _ (ej cC.1 (eC bQ.1 ⟨(mX HB.1 pf :),⟨(mX HB.1 pg :),(mX HB.1 ph :)⟩⟩)) (fun hHeld=>?_);clear hK K;refine bD 65 ?_;refine ai 38 66 HT_.1 (mb 39 9) ?_;refine ai 39 67 HT_.1 (mb 40 8) ?_;refine ai 40 68 HT_.1 (mb 41 7) ?_;refine ai 42 70 HT_.1 (mr [41,1,1,5]) ?_;refine aT 41 69 HT_.1 HW_.1 (mb 43 5) hHeld ?_;refine aT 43 71 HT_.1 HW_.1 (mb 44 4) hHeld ?_;refine ca 44 (some 72) HT_.1 (mb 45 3) (fun K hK=>?_);refine dq Try.func100 (by kernel_rfl) rfl #[.slice aq ae.length ar,.int .i64 ((aa U aA).f0)] (by rfl) rfl rfl mA ?_
                with_reducible refine(eI.calls k2 _ _ ae ((aa U aA).f0) t241 _ ?aG ?aH A31.1).mono ?_
                (case aG=>exact mC (Kd.aJ bT.1 (az HB.1 gW.1 lg.1)))
                (case aH=>exact cb.1)
                rintro e w' ⟨rfl,⟨nd,rfl⟩⟩;refine⟨_,rfl,?_⟩;refine hK.out _ _ (ej cC.1 (eC bQ.1 ⟨(mX HB.1 pf :),⟨(mX HB.1 pg :),(mX HB.1 ph :)⟩⟩)) (fun hHeld=>?_);clear hK K;refine bD 72 ?_;refine ai 45 73 HT_.1 (mb 46 2) ?_;refine ai 46 74 HT_.1 (mb 47 1) ?_;refine ai 47 75 HT_.1 (mb 48 0) ?_;refine et (gg HT_.1 (by kernel_rfl)) ?_
                try go_wp2
                go_meet
                case rel=>exact⟨_,(!t241),mE,H',⟨by have:=rX.1;have:=lK.1;first|omega|exact Nat.le_refl _⟩,⟨mK bQ.1⟩,⟨mK cC.1⟩,⟨(az HB.1 gW.1 lg.1)⟩⟩
              ·replace lu:=Bool.eq_false_iff.mpr lu;subst lu;have H1:=H;rw[if_neg (show ¬(false=true) by decide)]at H1;clear H;have H:=H1;clear H1;have H':=J H;clear H
               try go_wp2
               generalize hW_:(((kM.setCell ⟨dX,0,none⟩ (.int .i64 ((aa U aA).f0))).setCell ⟨dX,1,none⟩ (.slice iQ ((aa U aA).f1).length iX)).setCell ⟨dX,2,none⟩ (.int .i64 ((aa U aA).f2)))=wk
               replace bQ:Aside0 (wk.heap[fS]? = some (.cells #[.slice (some gv) U.length al,.slice ao ab.length an,.slice aq ae.length ar,.int .i64 af] 30 (0,0))):=by rw[←hW_];exact⟨bF vw.1 bQ.1⟩
               replace cC:Aside0 (wk.heap[dX]? = some (.cells #[.int .i64 ((aa U aA).f0),.slice iQ ((aa U aA).f1).length iX,.int .i64 ((aa U aA).f2)] 80 (0,0))):=by rw[←hW_];exact⟨by refine mK ?_;refine aC (cs:=#[.int .i64 ((aa U aA).f0),.slice iQ ((aa U aA).f1).length iX,.int .i64 0]) ?_ 2 _ rfl;refine mK ?_;refine aC (cs:=#[.int .i64 ((aa U aA).f0),.slice none 0 0,.int .i64 0]) ?_ 1 _ rfl;refine mK ?_;refine aC (cs:=#[.int .i64 0,.slice none 0 0,.int .i64 0]) ?_ 0 _ rfl;refine mK ?_;exact cC.1⟩
               replace HB:Aside0 (Below w.heap.size w wk):=by rw[←hW_];exact⟨(az HB.1 gW.1 lg.1)⟩
               clear hW_;replace bQ:=J (bY bQ.1);replace cC:=J (bY cC.1);replace HB:=J (cS HB.1);have qv:0≤((cD):Int):=mD;have qx:(cD)<(U.length:Int):=mD;obtain⟨Ax,z6,AG,AL,oh,om,oo,uv,uu⟩:=jg bS.1 (cD) qv qx;have ph:=oo;have pg:=om;have pf:=oh;obtain rfl:gv=Ax:=(by injection AL);replace oh:=mX HB.1 oh;replace om:=mX HB.1 om;replace oo:=mX HB.1 oo;have Am:=J uu;have N6:=J uv;clear uu uv;replace qv:=eq_true qv;replace qx:=eq_true qx;refine eu (n:=48) (S:=fun w'=>w'.cell? ⟨dX,0,none⟩=some (.int .i64 ((aa U aA).f0))∧w'.cell? ⟨dX,1,none⟩=some (.slice iQ ((aa U aA).f1).length iX)∧w'.cell? ⟨dX,2,none⟩=some (.int .i64 ((aa U aA).f2))∧w'.cell? ⟨fS,0,none⟩=some (.slice (some gv) U.length al)∧w'.cell? ⟨fS,1,none⟩=some (.slice ao ab.length an)∧w'.cell? ⟨fS,2,none⟩=some (.slice aq ae.length ar)∧w'.cell? ⟨fS,3,none⟩=some (.int .i64 af)∧w'.cell? (gv.add (((cD)).toNat*3))=some (.int .i64 ((aa U (cD)).f0))∧w'.cell? ⟨(gv.add (((cD)).toNat*3)).block,(gv.add (((cD)).toNat*3)).off+1,none⟩=some (.slice z6 ((aa U (cD)).f1).length AG)∧w'.cell? ⟨(gv.add (((cD)).toNat*3)).block,(gv.add (((cD)).toNat*3)).off+2,none⟩=some (.int .i64 ((aa U (cD)).f2))) (ds:=[]) (mb 0 48) (by kernel_rfl) rfl rfl (ej cC.1 (eC bQ.1 ⟨(mX HB.1 pf :),⟨(mX HB.1 pg :),(mX HB.1 ph :)⟩⟩)) (fun hHeld=>?_);refine gl bC.zN bC.yQ (fun HT_ HW_=>?_);generalize wk.drew=kN at bQ cC HB Am oh om oo hHeld ⊢
               refine ai 0 28 HT_.1 (mb 1 47) ?_;refine ai 2 30 HT_.1 (mr [1,1,1,45]) ?_;refine aT 1 29 HT_.1 HW_.1 (mb 3 45) hHeld ?_;refine aT 3 31 HT_.1 HW_.1 (mb 4 44) hHeld ?_;refine ai 4 32 HT_.1 (mb 5 43) ?_;refine ca 5 (some 33) HT_.1 (mb 6 42) (fun K hK=>?_);refine dq Try.func89 (by kernel_rfl) rfl #[.int .i64 ((aa U aA).f0),.int .i64 1,.int .i64 (wrap64 (af-1))] (by rfl) rfl rfl mA ?_
               with_reducible refine(fc.calls ((aa U aA).f0) 1 (wrap64 (af-1)) true _ wF.1).mono ?_
               rintro e w' ⟨rfl,⟨nd,rfl⟩⟩;refine⟨_,rfl,?_⟩;refine hK.out _ _ (ej cC.1 (eC bQ.1 ⟨(mX HB.1 pf :),⟨(mX HB.1 pg :),(mX HB.1 ph :)⟩⟩)) (fun hHeld=>?_);clear hK K;refine bD 33 ?_;refine ai 6 34 HT_.1 (mb 7 41) ?_;refine ai 7 35 HT_.1 (mb 8 40) ?_;refine ai 8 36 HT_.1 (mb 9 39) ?_;refine ai 9 37 HT_.1 (mb 10 38) ?_;refine ai 10 38 HT_.1 (mb 11 37) ?_;refine ai 11 39 HT_.1 (mb 12 36) ?_;refine ai 13 41 HT_.1 (mr [12,1,1,34]) ?_;refine ai 14 42 HT_.1 (mr [12,1,2,33]) ?_;refine ai 18 46 HT_.1 (mr [12,1,2,3,1,29]) ?_;refine aT 12 40 HT_.1 HW_.1 (mr [15,3,1,29]) hHeld ?_;refine ai 15 43 HT_.1 (mr [16,2,1,29]) ?_;refine ai 16 44 HT_.1 (mr [17,1,1,29]) ?_;refine aT 17 45 HT_.1 HW_.1 (mb 19 29) hHeld ?_;refine aT 19 47 HT_.1 HW_.1 (mb 20 28) hHeld ?_;refine ai 20 48 HT_.1 (mb 21 27) ?_;refine ai 21 49 HT_.1 (mb 22 26) ?_;refine ai 22 50 HT_.1 (mb 23 25) ?_;refine ai 23 51 HT_.1 (mb 24 24) ?_;refine ai 24 52 HT_.1 (mb 25 23) ?_;refine ai 26 54 HT_.1 (mr [25,1,1,21]) ?_;refine aT 25 53 HT_.1 HW_.1 (mb 27 21) hHeld ?_;refine aT 27 55 HT_.1 HW_.1 (mb 28 20) hHeld ?_;refine ai 28 56 HT_.1 (mb 29 19) ?_;refine ca 29 (some 57) HT_.1 (mb 30 18) (fun K hK=>?_);refine dq Try.func89 (by kernel_rfl) rfl #[.int .i64 ((aa U aA).f2),.int .i64 0,.int .i64 (((aa U aA).f1).length:Int)] (by rfl) rfl rfl mA ?_
               with_reducible refine(fc.calls ((aa U aA).f2) 0 (((aa U aA).f1).length:Int) false _ z7.1).mono ?_
               rintro e w' ⟨rfl,⟨nd,rfl⟩⟩;refine⟨_,rfl,?_⟩;refine hK.out _ _ (ej cC.1 (eC bQ.1 ⟨(mX HB.1 pf :),⟨(mX HB.1 pg :),(mX HB.1 ph :)⟩⟩)) (fun hHeld=>?_);clear hK K;refine bD 57 ?_;refine ai 30 58 HT_.1 (mb 31 17) ?_;refine ai 31 59 HT_.1 (mb 32 16) ?_;refine ai 32 60 HT_.1 (mb 33 15) ?_;refine au 33 61 HT_.1 (mb 34 14) ?_;refine au 34 62 HT_.1 (mb 35 13) ?_;refine au 35 63 HT_.1 (mb 36 12) ?_;refine au 36 64 HT_.1 (mb 37 11) ?_;refine au 37 65 HT_.1 (mb 38 10) ?_;refine au 38 66 HT_.1 (mb 39 9) ?_;refine au 39 67 HT_.1 (mb 40 8) ?_;refine au 40 68 HT_.1 (mb 41 7) ?_;refine au 41 69 HT_.1 (mb 42 6) ?_;refine au 42 70 HT_.1 (mb 43 5) ?_;refine au 43 71 HT_.1 (mb 44 4) ?_;refine au 44 72 HT_.1 (mb 45 3) ?_;refine au 45 73 HT_.1 (mb 46 2) ?_;refine au 46 74 HT_.1 (mb 47 1) ?_;refine ai 47 75 HT_.1 (mb 48 0) ?_;refine et (gg HT_.1 (by kernel_rfl)) ?_
               try go_wp2
               go_meet
               case rel=>exact⟨_,(true),mE,H',⟨by have:=rX.1;have:=lK.1;first|omega|exact Nat.le_refl _⟩,⟨mK bQ.1⟩,⟨mK cC.1⟩,⟨(az HB.1 gW.1 lg.1)⟩⟩
            ·rw[if_neg lR]at H;exact absurd H (by simp)
           ·rw[if_neg n7]at H;exact absurd H (by simp)
          ·rw[if_neg jq]at H;have vG:decide (0<aA)=false:=decide_eq_false jq;clear jq
           (first|rw[vG]|(simp only[ij,jC];rw[vG])|skip)
           replace H:=Option.bind_eq_some_iff.mp H;obtain⟨t242,Em,H⟩:=H;replace H:(if t242=true then ((eI.f k2 ab ((aa U aA).f0)).bind fun t243=>(if t243=true then (bC.j2 k2 jE aA false U ab ae af ((aa U aA).f0) ((aa U aA).f1) ((aa U aA).f2)) else ((eI.f k2 ae ((aa U aA).f0)).bind fun t244=>(bC.j2 k2 jE aA (!t244) U ab ae af ((aa U aA).f0) ((aa U aA).f1) ((aa U aA).f2))))) else (bC.j2 k2 jE aA true U ab ae af ((aa U aA).f0) ((aa U aA).f1) ((aa U aA).f2)))=some r:=H;have El:=J Em;clear Em;by_cases Ke:t242=true
           ·subst Ke;have H1:=H;rw[if_pos rfl]at H1;clear H;have H:=H1;clear H1;replace H:=Option.bind_eq_some_iff.mp H;obtain⟨t243,Vu,H⟩:=H;replace H:(if t243=true then (bC.j2 k2 jE aA false U ab ae af ((aa U aA).f0) ((aa U aA).f1) ((aa U aA).f2)) else ((eI.f k2 ae ((aa U aA).f0)).bind fun t244=>(bC.j2 k2 jE aA (!t244) U ab ae af ((aa U aA).f0) ((aa U aA).f1) ((aa U aA).f2))))=some r:=H;have Vt:=J Vu;clear Vu;by_cases xb:t243=true
            ·subst xb;have H1:=H;rw[if_pos rfl]at H1;clear H;have H:=H1;clear H1;have H':=J H;clear H
             try go_wp2
             generalize hW_:(((kM.setCell ⟨dX,0,none⟩ (.int .i64 ((aa U aA).f0))).setCell ⟨dX,1,none⟩ (.slice iQ ((aa U aA).f1).length iX)).setCell ⟨dX,2,none⟩ (.int .i64 ((aa U aA).f2)))=uT
             replace bQ:Aside0 (uT.heap[fS]? = some (.cells #[.slice (some gv) U.length al,.slice ao ab.length an,.slice aq ae.length ar,.int .i64 af] 30 (0,0))):=by rw[←hW_];exact⟨bF vw.1 bQ.1⟩
             replace cC:Aside0 (uT.heap[dX]? = some (.cells #[.int .i64 ((aa U aA).f0),.slice iQ ((aa U aA).f1).length iX,.int .i64 ((aa U aA).f2)] 80 (0,0))):=by rw[←hW_];exact⟨by refine mK ?_;refine aC (cs:=#[.int .i64 ((aa U aA).f0),.slice iQ ((aa U aA).f1).length iX,.int .i64 0]) ?_ 2 _ rfl;refine mK ?_;refine aC (cs:=#[.int .i64 ((aa U aA).f0),.slice none 0 0,.int .i64 0]) ?_ 1 _ rfl;refine mK ?_;refine aC (cs:=#[.int .i64 0,.slice none 0 0,.int .i64 0]) ?_ 0 _ rfl;refine mK ?_;exact cC.1⟩
             replace HB:Aside0 (Below w.heap.size w uT):=by rw[←hW_];exact⟨(az HB.1 gW.1 lg.1)⟩
             clear hW_;replace bQ:=J (bY bQ.1);replace cC:=J (bY cC.1);replace HB:=J (cS HB.1);refine eu (n:=48) (S:=fun w'=>w'.cell? ⟨dX,0,none⟩=some (.int .i64 ((aa U aA).f0))∧w'.cell? ⟨dX,1,none⟩=some (.slice iQ ((aa U aA).f1).length iX)∧w'.cell? ⟨dX,2,none⟩=some (.int .i64 ((aa U aA).f2))∧w'.cell? ⟨fS,0,none⟩=some (.slice (some gv) U.length al)∧w'.cell? ⟨fS,1,none⟩=some (.slice ao ab.length an)∧w'.cell? ⟨fS,2,none⟩=some (.slice aq ae.length ar)∧w'.cell? ⟨fS,3,none⟩=some (.int .i64 af)) (ds:=[]) (mb 0 48) (by kernel_rfl) rfl rfl (ej cC.1 (cz bQ.1)) (fun hHeld=>?_);refine gl bC.zN bC.yQ (fun HT_ HW_=>?_);generalize uT.drew=Nc at bQ cC HB hHeld ⊢
             refine ai 0 28 HT_.1 (mb 1 47) ?_;refine ai 2 30 HT_.1 (mr [1,1,1,45]) ?_;refine aT 1 29 HT_.1 HW_.1 (mb 3 45) hHeld ?_;refine aT 3 31 HT_.1 HW_.1 (mb 4 44) hHeld ?_;refine ai 4 32 HT_.1 (mb 5 43) ?_;refine ca 5 (some 33) HT_.1 (mb 6 42) (fun K hK=>?_);refine dq Try.func89 (by kernel_rfl) rfl #[.int .i64 ((aa U aA).f0),.int .i64 1,.int .i64 (wrap64 (af-1))] (by rfl) rfl rfl mA ?_
             with_reducible refine(fc.calls ((aa U aA).f0) 1 (wrap64 (af-1)) true _ wF.1).mono ?_
             rintro e w' ⟨rfl,⟨nd,rfl⟩⟩;refine⟨_,rfl,?_⟩;refine hK.out _ _ (ej cC.1 (cz bQ.1)) (fun hHeld=>?_);clear hK K;refine bD 33 ?_;refine ai 6 34 HT_.1 (mb 7 41) ?_;refine ai 7 35 HT_.1 (mb 8 40) ?_;refine ai 8 36 HT_.1 (mb 9 39) ?_;refine ai 9 37 HT_.1 (mb 10 38) ?_;refine ai 10 38 HT_.1 (mb 11 37) ?_;refine au 11 39 HT_.1 (mb 12 36) ?_;refine au 12 40 HT_.1 (mb 13 35) ?_;refine au 13 41 HT_.1 (mb 14 34) ?_;refine au 14 42 HT_.1 (mb 15 33) ?_;refine au 15 43 HT_.1 (mb 16 32) ?_;refine au 16 44 HT_.1 (mb 17 31) ?_;refine au 17 45 HT_.1 (mb 18 30) ?_;refine au 18 46 HT_.1 (mb 19 29) ?_;refine au 19 47 HT_.1 (mb 20 28) ?_;refine au 20 48 HT_.1 (mb 21 27) ?_;refine ai 21 49 HT_.1 (mb 22 26) ?_;refine ai 22 50 HT_.1 (mb 23 25) ?_;refine ai 23 51 HT_.1 (mb 24 24) ?_;refine ai 24 52 HT_.1 (mb 25 23) ?_;refine ai 26 54 HT_.1 (mr [25,1,1,21]) ?_;refine aT 25 53 HT_.1 HW_.1 (mb 27 21) hHeld ?_;refine aT 27 55 HT_.1 HW_.1 (mb 28 20) hHeld ?_;refine ai 28 56 HT_.1 (mb 29 19) ?_;refine ca 29 (some 57) HT_.1 (mb 30 18) (fun K hK=>?_);refine dq Try.func89 (by kernel_rfl) rfl #[.int .i64 ((aa U aA).f2),.int .i64 0,.int .i64 (((aa U aA).f1).length:Int)] (by rfl) rfl rfl mA ?_
             with_reducible refine(fc.calls ((aa U aA).f2) 0 (((aa U aA).f1).length:Int) true _ El.1).mono ?_
             rintro e w' ⟨rfl,⟨nd,rfl⟩⟩;refine⟨_,rfl,?_⟩;refine hK.out _ _ (ej cC.1 (cz bQ.1)) (fun hHeld=>?_);clear hK K;refine bD 57 ?_;refine ai 30 58 HT_.1 (mb 31 17) ?_;refine ai 31 59 HT_.1 (mb 32 16) ?_;refine ai 32 60 HT_.1 (mb 33 15) ?_;refine ai 33 61 HT_.1 (mb 34 14) ?_;refine ai 35 63 HT_.1 (mr [34,1,1,12]) ?_;refine aT 34 62 HT_.1 HW_.1 (mb 36 12) hHeld ?_;refine aT 36 64 HT_.1 HW_.1 (mb 37 11) hHeld ?_;refine ca 37 (some 65) HT_.1 (mb 38 10) (fun K hK=>?_);refine dq Try.func100 (by kernel_rfl) rfl #[.slice ao ab.length an,.int .i64 ((aa U aA).f0)] (by rfl) rfl rfl mA ?_
             with_reducible refine(eI.calls k2 _ _ ab ((aa U aA).f0) true _ ?aG ?aH Vt.1).mono ?_
             (case aG=>exact mC (Kd.aJ bN.1 (az HB.1 gW.1 lg.1)))
             (case aH=>exact bX.1)
             rintro e w' ⟨rfl,⟨nd,rfl⟩⟩;refine⟨_,rfl,?_⟩;refine hK.out _ _ (ej cC.1 (cz bQ.1)) (fun hHeld=>?_);clear hK K;refine bD 65 ?_;refine ai 38 66 HT_.1 (mb 39 9) ?_;refine ai 39 67 HT_.1 (mb 40 8) ?_;refine au 40 68 HT_.1 (mb 41 7) ?_;refine au 41 69 HT_.1 (mb 42 6) ?_;refine au 42 70 HT_.1 (mb 43 5) ?_;refine au 43 71 HT_.1 (mb 44 4) ?_;refine au 44 72 HT_.1 (mb 45 3) ?_;refine au 45 73 HT_.1 (mb 46 2) ?_;refine ai 46 74 HT_.1 (mb 47 1) ?_;refine ai 47 75 HT_.1 (mb 48 0) ?_;refine et (gg HT_.1 (by kernel_rfl)) ?_
             try go_wp2
             go_meet
             case rel=>exact⟨_,(false),mE,H',⟨by have:=rX.1;have:=lK.1;first|omega|exact Nat.le_refl _⟩,⟨mK bQ.1⟩,⟨mK cC.1⟩,⟨(az HB.1 gW.1 lg.1)⟩⟩
            ·replace xb:=Bool.eq_false_iff.mpr xb;subst xb;have H1:=H;rw[if_neg (show ¬(false=true) by decide)]at H1;clear H;have H:=H1;clear H1;replace H:=Option.bind_eq_some_iff.mp H;obtain⟨t244,Vx,H⟩:=H;replace H:(bC.j2 k2 jE aA (!t244) U ab ae af ((aa U aA).f0) ((aa U aA).f1) ((aa U aA).f2))=some r:=H;have A42:=J Vx;clear Vx;have H':=J H;clear H
             try go_wp2
             generalize hW_:(((kM.setCell ⟨dX,0,none⟩ (.int .i64 ((aa U aA).f0))).setCell ⟨dX,1,none⟩ (.slice iQ ((aa U aA).f1).length iX)).setCell ⟨dX,2,none⟩ (.int .i64 ((aa U aA).f2)))=pP
             replace bQ:Aside0 (pP.heap[fS]? = some (.cells #[.slice (some gv) U.length al,.slice ao ab.length an,.slice aq ae.length ar,.int .i64 af] 30 (0,0))):=by rw[←hW_];exact⟨bF vw.1 bQ.1⟩
             replace cC:Aside0 (pP.heap[dX]? = some (.cells #[.int .i64 ((aa U aA).f0),.slice iQ ((aa U aA).f1).length iX,.int .i64 ((aa U aA).f2)] 80 (0,0))):=by rw[←hW_];exact⟨by refine mK ?_;refine aC (cs:=#[.int .i64 ((aa U aA).f0),.slice iQ ((aa U aA).f1).length iX,.int .i64 0]) ?_ 2 _ rfl;refine mK ?_;refine aC (cs:=#[.int .i64 ((aa U aA).f0),.slice none 0 0,.int .i64 0]) ?_ 1 _ rfl;refine mK ?_;refine aC (cs:=#[.int .i64 0,.slice none 0 0,.int .i64 0]) ?_ 0 _ rfl;refine mK ?_;exact cC.1⟩
             replace HB:Aside0 (Below w.heap.size w pP):=by rw[←hW_];exact⟨(az HB.1 gW.1 lg.1)⟩
             clear hW_;replace bQ:=J (bY bQ.1);replace cC:=J (bY cC.1);replace HB:=J (cS HB.1);refine eu (n:=48) (S:=fun w'=>w'.cell? ⟨dX,0,none⟩=some (.int .i64 ((aa U aA).f0))∧w'.cell? ⟨dX,1,none⟩=some (.slice iQ ((aa U aA).f1).length iX)∧w'.cell? ⟨dX,2,none⟩=some (.int .i64 ((aa U aA).f2))∧w'.cell? ⟨fS,0,none⟩=some (.slice (some gv) U.length al)∧w'.cell? ⟨fS,1,none⟩=some (.slice ao ab.length an)∧w'.cell? ⟨fS,2,none⟩=some (.slice aq ae.length ar)∧w'.cell? ⟨fS,3,none⟩=some (.int .i64 af)) (ds:=[]) (mb 0 48) (by kernel_rfl) rfl rfl (ej cC.1 (cz bQ.1)) (fun hHeld=>?_);refine gl bC.zN bC.yQ (fun HT_ HW_=>?_);generalize pP.drew=I5 at bQ cC HB hHeld ⊢
             refine ai 0 28 HT_.1 (mb 1 47) ?_;refine ai 2 30 HT_.1 (mr [1,1,1,45]) ?_;refine aT 1 29 HT_.1 HW_.1 (mb 3 45) hHeld ?_;refine aT 3 31 HT_.1 HW_.1 (mb 4 44) hHeld ?_;refine ai 4 32 HT_.1 (mb 5 43) ?_;refine ca 5 (some 33) HT_.1 (mb 6 42) (fun K hK=>?_);refine dq Try.func89 (by kernel_rfl) rfl #[.int .i64 ((aa U aA).f0),.int .i64 1,.int .i64 (wrap64 (af-1))] (by rfl) rfl rfl mA ?_
             with_reducible refine(fc.calls ((aa U aA).f0) 1 (wrap64 (af-1)) true _ wF.1).mono ?_
             rintro e w' ⟨rfl,⟨nd,rfl⟩⟩;refine⟨_,rfl,?_⟩;refine hK.out _ _ (ej cC.1 (cz bQ.1)) (fun hHeld=>?_);clear hK K;refine bD 33 ?_;refine ai 6 34 HT_.1 (mb 7 41) ?_;refine ai 7 35 HT_.1 (mb 8 40) ?_;refine ai 8 36 HT_.1 (mb 9 39) ?_;refine ai 9 37 HT_.1 (mb 10 38) ?_;refine ai 10 38 HT_.1 (mb 11 37) ?_;refine au 11 39 HT_.1 (mb 12 36) ?_;refine au 12 40 HT_.1 (mb 13 35) ?_;refine au 13 41 HT_.1 (mb 14 34) ?_;refine au 14 42 HT_.1 (mb 15 33) ?_;refine au 15 43 HT_.1 (mb 16 32) ?_;refine au 16 44 HT_.1 (mb 17 31) ?_;refine au 17 45 HT_.1 (mb 18 30) ?_;refine au 18 46 HT_.1 (mb 19 29) ?_;refine au 19 47 HT_.1 (mb 20 28) ?_;refine au 20 48 HT_.1 (mb 21 27) ?_;refine ai 21 49 HT_.1 (mb 22 26) ?_;refine ai 22 50 HT_.1 (mb 23 25) ?_;refine ai 23 51 HT_.1 (mb 24 24) ?_;refine ai 24 52 HT_.1 (mb 25 23) ?_;refine ai 26 54 HT_.1 (mr [25,1,1,21]) ?_;refine aT 25 53 HT_.1 HW_.1 (mb 27 21) hHeld ?_;refine aT 27 55 HT_.1 HW_.1 (mb 28 20) hHeld ?_;refine ai 28 56 HT_.1 (mb 29 19) ?_;refine ca 29 (some 57) HT_.1 (mb 30 18) (fun K hK=>?_);refine dq Try.func89 (by kernel_rfl) rfl #[.int .i64 ((aa U aA).f2),.int .i64 0,.int .i64 (((aa U aA).f1).length:Int)] (by rfl) rfl rfl mA ?_
             with_reducible refine(fc.calls ((aa U aA).f2) 0 (((aa U aA).f1).length:Int) true _ El.1).mono ?_
             rintro e w' ⟨rfl,⟨nd,rfl⟩⟩;refine⟨_,rfl,?_⟩;refine hK.out _ _ (ej cC.1 (cz bQ.1)) (fun hHeld=>?_);clear hK K;refine bD 57 ?_;refine ai 30 58 HT_.1 (mb 31 17) ?_;refine ai 31 59 HT_.1 (mb 32 16) ?_;refine ai 32 60 HT_.1 (mb 33 15) ?_;refine ai 33 61 HT_.1 (mb 34 14) ?_;refine ai 35 63 HT_.1 (mr [34,1,1,12]) ?_;refine aT 34 62 HT_.1 HW_.1 (mb 36 12) hHeld ?_;refine aT 36 64 HT_.1 HW_.1 (mb 37 11) hHeld ?_;refine ca 37 (some 65) HT_.1 (mb 38 10) (fun K hK=>?_);refine dq Try.func100 (by kernel_rfl) rfl #[.slice ao ab.length an,.int .i64 ((aa U aA).f0)] (by rfl) rfl rfl mA ?_
             with_reducible refine(eI.calls k2 _ _ ab ((aa U aA).f0) false _ ?aG ?aH Vt.1).mono ?_
             (case aG=>exact mC (Kd.aJ bN.1 (az HB.1 gW.1 lg.1)))
             (case aH=>exact bX.1)
             rintro e w' ⟨rfl,⟨nd,rfl⟩⟩;refine⟨_,rfl,?_⟩;refine hK.out _ _ (ej cC.1 (cz bQ.1)) (fun hHeld=>?_);clear hK K;refine bD 65 ?_;refine ai 38 66 HT_.1 (mb 39 9) ?_;refine ai 39 67 HT_.1 (mb 40 8) ?_;refine ai 40 68 HT_.1 (mb 41 7) ?_;refine ai 42 70 HT_.1 (mr [41,1,1,5]) ?_;refine aT 41 69 HT_.1 HW_.1 (mb 43 5) hHeld ?_;refine aT 43 71 HT_.1 HW_.1 (mb 44 4) hHeld ?_;refine ca 44 (some 72) HT_.1 (mb 45 3) (fun K hK=>?_);refine dq Try.func100 (by kernel_rfl) rfl #[.slice aq ae.length ar,.int .i64 ((aa U aA).f0)] (by rfl) rfl rfl mA ?_
             with_reducible refine(eI.calls k2 _ _ ae ((aa U aA).f0) t244 _ ?aG ?aH A42.1).mono ?_
             (case aG=>exact mC (Kd.aJ bT.1 (az HB.1 gW.1 lg.1)))
             (case aH=>exact cb.1)
             rintro e w' ⟨rfl,⟨nd,rfl⟩⟩;refine⟨_,rfl,?_⟩;refine hK.out _ _ (ej cC.1 (cz bQ.1)) (fun hHeld=>?_);clear hK K;refine bD 72 ?_;refine ai 45 73 HT_.1 (mb 46 2) ?_;refine ai 46 74 HT_.1 (mb 47 1) ?_;refine ai 47 75 HT_.1 (mb 48 0) ?_;refine et (gg HT_.1 (by kernel_rfl)) ?_
             try go_wp2
             go_meet
             case rel=>exact⟨_,(!t244),mE,H',⟨by have:=rX.1;have:=lK.1;first|omega|exact Nat.le_refl _⟩,⟨mK bQ.1⟩,⟨mK cC.1⟩,⟨(az HB.1 gW.1 lg.1)⟩⟩
           ·replace Ke:=Bool.eq_false_iff.mpr Ke;subst Ke;have H1:=H;rw[if_neg (show ¬(false=true) by decide)]at H1;clear H;have H:=H1;clear H1;have H':=J H;clear H
            try go_wp2
            generalize hW_:(((kM.setCell ⟨dX,0,none⟩ (.int .i64 ((aa U aA).f0))).setCell ⟨dX,1,none⟩ (.slice iQ ((aa U aA).f1).length iX)).setCell ⟨dX,2,none⟩ (.int .i64 ((aa U aA).f2)))=D3
            replace bQ:Aside0 (D3.heap[fS]? = some (.cells #[.slice (some gv) U.length al,.slice ao ab.length an,.slice aq ae.length ar,.int .i64 af] 30 (0,0))):=by rw[←hW_];exact⟨bF vw.1 bQ.1⟩
            replace cC:Aside0 (D3.heap[dX]? = some (.cells #[.int .i64 ((aa U aA).f0),.slice iQ ((aa U aA).f1).length iX,.int .i64 ((aa U aA).f2)] 80 (0,0))):=by rw[←hW_];exact⟨by refine mK ?_;refine aC (cs:=#[.int .i64 ((aa U aA).f0),.slice iQ ((aa U aA).f1).length iX,.int .i64 0]) ?_ 2 _ rfl;refine mK ?_;refine aC (cs:=#[.int .i64 ((aa U aA).f0),.slice none 0 0,.int .i64 0]) ?_ 1 _ rfl;refine mK ?_;refine aC (cs:=#[.int .i64 0,.slice none 0 0,.int .i64 0]) ?_ 0 _ rfl;refine mK ?_;exact cC.1⟩
            replace HB:Aside0 (Below w.heap.size w D3):=by rw[←hW_];exact⟨(az HB.1 gW.1 lg.1)⟩
            clear hW_;replace bQ:=J (bY bQ.1);replace cC:=J (bY cC.1);replace HB:=J (cS HB.1);refine eu (n:=48) (S:=fun w'=>w'.cell? ⟨dX,0,none⟩=some (.int .i64 ((aa U aA).f0))∧w'.cell? ⟨dX,1,none⟩=some (.slice iQ ((aa U aA).f1).length iX)∧w'.cell? ⟨dX,2,none⟩=some (.int .i64 ((aa U aA).f2))∧w'.cell? ⟨fS,0,none⟩=some (.slice (some gv) U.length al)∧w'.cell? ⟨fS,1,none⟩=some (.slice ao ab.length an)∧w'.cell? ⟨fS,2,none⟩=some (.slice aq ae.length ar)∧w'.cell? ⟨fS,3,none⟩=some (.int .i64 af)) (ds:=[]) (mb 0 48) (by kernel_rfl) rfl rfl (ej cC.1 (cz bQ.1)) (fun hHeld=>?_);refine gl bC.zN bC.yQ (fun HT_ HW_=>?_);generalize D3.drew=w46 at bQ cC HB hHeld ⊢
            refine ai 0 28 HT_.1 (mb 1 47) ?_;refine ai 2 30 HT_.1 (mr [1,1,1,45]) ?_;refine aT 1 29 HT_.1 HW_.1 (mb 3 45) hHeld ?_;refine aT 3 31 HT_.1 HW_.1 (mb 4 44) hHeld ?_;refine ai 4 32 HT_.1 (mb 5 43) ?_;refine ca 5 (some 33) HT_.1 (mb 6 42) (fun K hK=>?_);refine dq Try.func89 (by kernel_rfl) rfl #[.int .i64 ((aa U aA).f0),.int .i64 1,.int .i64 (wrap64 (af-1))] (by rfl) rfl rfl mA ?_
            with_reducible refine(fc.calls ((aa U aA).f0) 1 (wrap64 (af-1)) true _ wF.1).mono ?_
            rintro e w' ⟨rfl,⟨nd,rfl⟩⟩;refine⟨_,rfl,?_⟩;refine hK.out _ _ (ej cC.1 (cz bQ.1)) (fun hHeld=>?_);clear hK K;refine bD 33 ?_;refine ai 6 34 HT_.1 (mb 7 41) ?_;refine ai 7 35 HT_.1 (mb 8 40) ?_;refine ai 8 36 HT_.1 (mb 9 39) ?_;refine ai 9 37 HT_.1 (mb 10 38) ?_;refine ai 10 38 HT_.1 (mb 11 37) ?_;refine au 11 39 HT_.1 (mb 12 36) ?_;refine au 12 40 HT_.1 (mb 13 35) ?_;refine au 13 41 HT_.1 (mb 14 34) ?_;refine au 14 42 HT_.1 (mb 15 33) ?_;refine au 15 43 HT_.1 (mb 16 32) ?_;refine au 16 44 HT_.1 (mb 17 31) ?_;refine au 17 45 HT_.1 (mb 18 30) ?_;refine au 18 46 HT_.1 (mb 19 29) ?_;refine au 19 47 HT_.1 (mb 20 28) ?_;refine au 20 48 HT_.1 (mb 21 27) ?_;refine ai 21 49 HT_.1 (mb 22 26) ?_;refine ai 22 50 HT_.1 (mb 23 25) ?_;refine ai 23 51 HT_.1 (mb 24 24) ?_;refine ai 24 52 HT_.1 (mb 25 23) ?_;refine ai 26 54 HT_.1 (mr [25,1,1,21]) ?_;refine aT 25 53 HT_.1 HW_.1 (mb 27 21) hHeld ?_;refine aT 27 55 HT_.1 HW_.1 (mb 28 20) hHeld ?_;refine ai 28 56 HT_.1 (mb 29 19) ?_;refine ca 29 (some 57) HT_.1 (mb 30 18) (fun K hK=>?_);refine dq Try.func89 (by kernel_rfl) rfl #[.int .i64 ((aa U aA).f2),.int .i64 0,.int .i64 (((aa U aA).f1).length:Int)] (by rfl) rfl rfl mA ?_
            with_reducible refine(fc.calls ((aa U aA).f2) 0 (((aa U aA).f1).length:Int) false _ El.1).mono ?_
            rintro e w' ⟨rfl,⟨nd,rfl⟩⟩;refine⟨_,rfl,?_⟩;refine hK.out _ _ (ej cC.1 (cz bQ.1)) (fun hHeld=>?_);clear hK K;refine bD 57 ?_;refine ai 30 58 HT_.1 (mb 31 17) ?_;refine ai 31 59 HT_.1 (mb 32 16) ?_;refine ai 32 60 HT_.1 (mb 33 15) ?_;refine au 33 61 HT_.1 (mb 34 14) ?_;refine au 34 62 HT_.1 (mb 35 13) ?_;refine au 35 63 HT_.1 (mb 36 12) ?_;refine au 36 64 HT_.1 (mb 37 11) ?_;refine au 37 65 HT_.1 (mb 38 10) ?_;refine au 38 66 HT_.1 (mb 39 9) ?_;refine au 39 67 HT_.1 (mb 40 8) ?_;refine au 40 68 HT_.1 (mb 41 7) ?_;refine au 41 69 HT_.1 (mb 42 6) ?_;refine au 42 70 HT_.1 (mb 43 5) ?_;refine au 43 71 HT_.1 (mb 44 4) ?_;refine au 44 72 HT_.1 (mb 45 3) ?_;refine au 45 73 HT_.1 (mb 46 2) ?_;refine au 46 74 HT_.1 (mb 47 1) ?_;refine ai 47 75 HT_.1 (mb 48 0) ?_;refine et (gg HT_.1 (by kernel_rfl)) ?_
            try go_wp2
            go_meet
            case rel=>exact⟨_,(true),mE,H',⟨by have:=rX.1;have:=lK.1;first|omega|exact Nat.le_refl _⟩,⟨mK bQ.1⟩,⟨mK cC.1⟩,⟨(az HB.1 gW.1 lg.1)⟩⟩
         ·replace qX:=Bool.eq_false_iff.mpr qX;subst qX;have H1:=H;rw[if_neg (show ¬(false=true) by decide)]at H1;clear H;have H:=H1;clear H1;have H':=J H;clear H
          try go_wp2
          generalize hW_:(((kM.setCell ⟨dX,0,none⟩ (.int .i64 ((aa U aA).f0))).setCell ⟨dX,1,none⟩ (.slice iQ ((aa U aA).f1).length iX)).setCell ⟨dX,2,none⟩ (.int .i64 ((aa U aA).f2)))=D4
          replace bQ:Aside0 (D4.heap[fS]? = some (.cells #[.slice (some gv) U.length al,.slice ao ab.length an,.slice aq ae.length ar,.int .i64 af] 30 (0,0))):=by rw[←hW_];exact⟨bF vw.1 bQ.1⟩
          replace cC:Aside0 (D4.heap[dX]? = some (.cells #[.int .i64 ((aa U aA).f0),.slice iQ ((aa U aA).f1).length iX,.int .i64 ((aa U aA).f2)] 80 (0,0))):=by rw[←hW_];exact⟨by refine mK ?_;refine aC (cs:=#[.int .i64 ((aa U aA).f0),.slice iQ ((aa U aA).f1).length iX,.int .i64 0]) ?_ 2 _ rfl;refine mK ?_;refine aC (cs:=#[.int .i64 ((aa U aA).f0),.slice none 0 0,.int .i64 0]) ?_ 1 _ rfl;refine mK ?_;refine aC (cs:=#[.int .i64 0,.slice none 0 0,.int .i64 0]) ?_ 0 _ rfl;refine mK ?_;exact cC.1⟩
          replace HB:Aside0 (Below w.heap.size w D4):=by rw[←hW_];exact⟨(az HB.1 gW.1 lg.1)⟩
          clear hW_;replace bQ:=J (bY bQ.1);replace cC:=J (bY cC.1);replace HB:=J (cS HB.1);refine eu (n:=48) (S:=fun w'=>w'.cell? ⟨dX,0,none⟩=some (.int .i64 ((aa U aA).f0))∧w'.cell? ⟨dX,1,none⟩=some (.slice iQ ((aa U aA).f1).length iX)∧w'.cell? ⟨dX,2,none⟩=some (.int .i64 ((aa U aA).f2))∧w'.cell? ⟨fS,0,none⟩=some (.slice (some gv) U.length al)∧w'.cell? ⟨fS,1,none⟩=some (.slice ao ab.length an)∧w'.cell? ⟨fS,2,none⟩=some (.slice aq ae.length ar)∧w'.cell? ⟨fS,3,none⟩=some (.int .i64 af)) (ds:=[]) (mb 0 48) (by kernel_rfl) rfl rfl (ej cC.1 (cz bQ.1)) (fun hHeld=>?_);refine gl bC.zN bC.yQ (fun HT_ HW_=>?_);generalize D4.drew=w48 at bQ cC HB hHeld ⊢
          refine ai 0 28 HT_.1 (mb 1 47) ?_;refine ai 2 30 HT_.1 (mr [1,1,1,45]) ?_;refine aT 1 29 HT_.1 HW_.1 (mb 3 45) hHeld ?_;refine aT 3 31 HT_.1 HW_.1 (mb 4 44) hHeld ?_;refine ai 4 32 HT_.1 (mb 5 43) ?_;refine ca 5 (some 33) HT_.1 (mb 6 42) (fun K hK=>?_);refine dq Try.func89 (by kernel_rfl) rfl #[.int .i64 ((aa U aA).f0),.int .i64 1,.int .i64 (wrap64 (af-1))] (by rfl) rfl rfl mA ?_
          with_reducible refine(fc.calls ((aa U aA).f0) 1 (wrap64 (af-1)) false _ wF.1).mono ?_
          rintro e w' ⟨rfl,⟨nd,rfl⟩⟩;refine⟨_,rfl,?_⟩;refine hK.out _ _ (ej cC.1 (cz bQ.1)) (fun hHeld=>?_);clear hK K;refine bD 33 ?_;refine ai 6 34 HT_.1 (mb 7 41) ?_;refine ai 7 35 HT_.1 (mb 8 40) ?_;refine au 8 36 HT_.1 (mb 9 39) ?_;refine au 9 37 HT_.1 (mb 10 38) ?_;refine au 10 38 HT_.1 (mb 11 37) ?_;refine au 11 39 HT_.1 (mb 12 36) ?_;refine au 12 40 HT_.1 (mb 13 35) ?_;refine au 13 41 HT_.1 (mb 14 34) ?_;refine au 14 42 HT_.1 (mb 15 33) ?_;refine au 15 43 HT_.1 (mb 16 32) ?_;refine au 16 44 HT_.1 (mb 17 31) ?_;refine au 17 45 HT_.1 (mb 18 30) ?_;refine au 18 46 HT_.1 (mb 19 29) ?_;refine au 19 47 HT_.1 (mb 20 28) ?_;refine au 20 48 HT_.1 (mb 21 27) ?_;refine au 21 49 HT_.1 (mb 22 26) ?_;refine ai 22 50 HT_.1 (mb 23 25) ?_;refine ai 23 51 HT_.1 (mb 24 24) ?_;refine au 24 52 HT_.1 (mb 25 23) ?_;refine au 25 53 HT_.1 (mb 26 22) ?_;refine au 26 54 HT_.1 (mb 27 21) ?_;refine au 27 55 HT_.1 (mb 28 20) ?_;refine au 28 56 HT_.1 (mb 29 19) ?_;refine au 29 57 HT_.1 (mb 30 18) ?_;refine au 30 58 HT_.1 (mb 31 17) ?_;refine ai 31 59 HT_.1 (mb 32 16) ?_;refine ai 32 60 HT_.1 (mb 33 15) ?_;refine au 33 61 HT_.1 (mb 34 14) ?_;refine au 34 62 HT_.1 (mb 35 13) ?_;refine au 35 63 HT_.1 (mb 36 12) ?_;refine au 36 64 HT_.1 (mb 37 11) ?_;refine au 37 65 HT_.1 (mb 38 10) ?_;refine au 38 66 HT_.1 (mb 39 9) ?_;refine au 39 67 HT_.1 (mb 40 8) ?_;refine au 40 68 HT_.1 (mb 41 7) ?_;refine au 41 69 HT_.1 (mb 42 6) ?_;refine au 42 70 HT_.1 (mb 43 5) ?_;refine au 43 71 HT_.1 (mb 44 4) ?_;refine au 44 72 HT_.1 (mb 45 3) ?_;refine au 45 73 HT_.1 (mb 46 2) ?_;refine au 46 74 HT_.1 (mb 47 1) ?_;refine ai 47 75 HT_.1 (mb 48 0) ?_;refine et (gg HT_.1 (by kernel_rfl)) ?_
          try go_wp2
          go_meet
          case rel=>exact⟨_,(true),mE,H',⟨by have:=rX.1;have:=lK.1;first|omega|exact Nat.le_refl _⟩,⟨mK bQ.1⟩,⟨mK cC.1⟩,⟨(az HB.1 gW.1 lg.1)⟩⟩
        case rest=>
         clear Af
         try clear c8
         obtain⟨kq,ND,rfl,HA,Ah,bQ,cC,HB⟩:=hcut;cases kq with
         |zero=>exact absurd HA.1 (by simp[bC.j2])
         |succ Iy=>
          have H:=HA.1;clear HA;simp only[bC.j2]at H;by_cases Ki:ND=true
          ·subst Ki;have H1:=H;rw[if_pos rfl]at H1;clear H;have H:=H1;clear H1;obtain rfl:=Option.some.inj H;go_wp2;go_ret;exact⟨cW,(az HB.1 gW.1 lg.1)⟩
          ·replace Ki:=Bool.eq_false_iff.mpr Ki;subst Ki;have H1:=H;rw[if_neg (show ¬(false=true) by decide)]at H1;clear H;have H:=H1;clear H1;have H':=J H;clear H;have am7:=W4.1;have ann:=vw.1;obtain⟨Rt,Ru,Rv,Sa,Sb,Sc⟩:=mj cC.1;go_wp2;go_roundg Iy
           case measure=>have:=rX.1;have:=lK.1;have:=Ah.1;omega
           case rel=>exact⟨(wrap64 (jE+(((aa U aA).f1).length:Int))),(wrap64 (aA+1)),mE,mE,H',⟨by have:=rX.1;have:=lK.1;have:=Ah.1;omega⟩,⟨mK bQ.1⟩,⟨(az HB.1 gW.1 lg.1)⟩⟩
       ·rw[if_neg jy]at H;exact absurd H (by simp)
      ·rw[if_neg c9]at H;have yY:=decide_eq_false c9;clear c9;by_cases se:jE≤60000
       ·rw[if_pos se]at H;have PR:=decide_eq_true se;clear se;replace H:=Option.bind_eq_some_iff.mp H;obtain⟨t245,VE,H⟩:=H;replace H:(if t245=true then ((cp.f k2 U ab ae af ae).bind fun t246=>(some t246)) else (some false))=some r:=H;have VD:=J VE;clear VE;by_cases pb:t245=true
        ·subst pb;have H1:=H;rw[if_pos rfl]at H1;clear H;have H:=H1;clear H1;replace H:=Option.bind_eq_some_iff.mp H;obtain⟨t246,VG,H⟩:=H;replace H:(some t246)=some r:=H;have A55:=J VG;clear VG;obtain rfl:=Option.some.inj H;obtain⟨akG,akH,akI,akJ,amj,amk,aml,amm⟩:=aY bQ.1;go_wp2_with (first|(go_at_call 101;(with_reducible refine(cp.calls k2 _ _ U _ _ ab _ _ ae af _ _ ab true _ ?aG ?aH ?bb ?bc ?bf ?bg ?mW ?mY VD.1).mono ?_);(case aG=>exact mC (Kd.aJ bS.1 HB.1));(case aH=>exact cv.1);(case bb=>exact mC (Kd.aJ bN.1 HB.1));(case bc=>exact bX.1);(case bf=>exact mC (Kd.aJ bT.1 HB.1));(case bg=>exact cb.1);(case mW=>exact mC (Kd.aJ bN.1 HB.1));(case mY=>exact bX.1);rintro e w57 ⟨rfl,hb⟩;replace bQ:=mB bQ hb;replace HB:=J (aK (aM HB.1 gW.1) hb);(try clear hb);(try clear gh);(try clear hk);(try clear hi);obtain⟨akO,akP,akQ,akR,amr,ams,amt,amu⟩:=aY bQ.1)|(go_at_call 101;(with_reducible refine(cp.calls k2 _ _ U _ _ ab _ _ ae af _ _ ae t246 _ ?aG ?aH ?bb ?bc ?bf ?bg ?mW ?mY A55.1).mono ?_);(case aG=>exact mC (Kd.aJ bS.1 HB.1));(case aH=>exact cv.1);(case bb=>exact mC (Kd.aJ bN.1 HB.1));(case bc=>exact bX.1);(case bf=>exact mC (Kd.aJ bT.1 HB.1));(case bg=>exact cb.1);(case mW=>exact mC (Kd.aJ bT.1 HB.1));(case mY=>exact cb.1);rintro e w59 ⟨rfl,hb⟩;replace bQ:=mB bQ hb;replace HB:=J (aK (aM HB.1 gW.1) hb);(try clear hb);(try clear gh);(try clear hk);(try clear hi)));go_ret;exact⟨cW,(aM HB.1 gW.1)⟩
        ·replace pb:=Bool.eq_false_iff.mpr pb;subst pb;have H1:=H;rw[if_neg (show ¬(false=true) by decide)]at H1;clear H;have H:=H1;clear H1;obtain rfl:=Option.some.inj H;obtain⟨Rw,Rx,Ry,ZS,Se,Sf,Sg,aay⟩:=aY bQ.1;go_wp2_with (first|(go_at_call 101;(with_reducible refine(cp.calls k2 _ _ U _ _ ab _ _ ae af _ _ ab false _ ?aG ?aH ?bb ?bc ?bf ?bg ?mW ?mY VD.1).mono ?_);(case aG=>exact mC (Kd.aJ bS.1 HB.1));(case aH=>exact cv.1);(case bb=>exact mC (Kd.aJ bN.1 HB.1));(case bc=>exact bX.1);(case bf=>exact mC (Kd.aJ bT.1 HB.1));(case bg=>exact cb.1);(case mW=>exact mC (Kd.aJ bN.1 HB.1));(case mY=>exact bX.1);rintro e w61 ⟨rfl,hb⟩;replace bQ:=mB bQ hb;replace HB:=J (aK (aM HB.1 gW.1) hb);(try clear hb);(try clear gh);(try clear hk);(try clear hi)));go_ret;exact⟨cW,(aM HB.1 gW.1)⟩
       ·rw[if_neg se]at H;have PR:=decide_eq_false se;clear se;obtain rfl:=Option.some.inj H;obtain⟨akX,akY,akZ,ak0,amB,amC,amD,amE⟩:=aY bQ.1;go_wp2;go_ret;exact⟨cW,(aM HB.1 gW.1)⟩
end Go.Proofs.Ytgpkdbnikcghgaa.MD
