-- Written by mp.py, our own printer (wip/mp.py), and made shorter by wip/mp_shrink*.py.
import Derived.Test.YtgpkdbnikcghgaaVMShort
import Derived.Test.YtgpkdbnikcghgaaMDx0
namespace Go.Proofs.Ytgpkdbnikcghgaa.MD
open Go.RowKit Go.Proofs.YtgpkdbnikcghgaaW.PrintWords Go.Proofs.YtgpkdbnikcghgaaW.PrintLast Go.Proofs.YtgpkdbnikcghgaaW.PrintMore Go.Proofs.Ytgpkdbnikcghgaa.MWords
attribute [local go_sem] max2_int min2_int max_two min_two max_three min_three max_four min_four
set_option linter.unusedVariables false
set_option linter.unusedSimpArgs false
def gY.f (a0:Int) (a1:Int) (a2:Int):Option (Bool):=if a0≥a1 then (some (decide (a0≤a2))) else (some false)
set_option maxHeartbeats 8000000 in
set_option maxRecDepth 100000 in
theorem gY.calls (a0:Int) (a1:Int) (a2:Int) (r:Bool) (w:World) (h:gY.f a0 a1 a2=some r) :
 Calls Try.prog 89 #[.int .i64 a0,.int .i64 a1,.int .i64 a2] w fun e w'=>e = .returned (.bool r)∧bW w w':=by
 have H:(if a0≥a1 then (some (decide (a0≤a2))) else (some false))=some r:=h;clear h;by_cases c4:a0≥a1
 ·rw[if_pos c4]at H;have jm:decide (a1≤a0)=true:=decide_eq_true c4;clear c4;obtain rfl:=Option.some.inj H;go_enter Try.func89,Try.ntmps89;go_wp2;go_ret;exact⟨mE,by repeat (first|exact bW.refl _|apply bW.step)⟩
 ·rw[if_neg c4]at H;have jm:decide (a1≤a0)=false:=decide_eq_false c4;clear c4;obtain rfl:=Option.some.inj H;go_enter Try.func89,Try.ntmps89;go_wp2;go_ret;exact⟨mE,by repeat (first|exact bW.refl _|apply bW.step)⟩
def fS.l0:Nat→List (ai)→Int→Int→Option (Bool)
 |0,_,_,_=>none
 |k+1,x0,x1,x5=>if x5<(x0.length:Int) then (if 0≤x5 then (if ((aq x0 x5).f1)=x1 then (some true) else (fS.l0 k x0 x1 (wrap64 (x5+1)))) else (none)) else (some false)
def fS.f (k:Nat) (l0:List (ai)) (a1:Int):Option (Bool):=fS.l0 k l0 a1 0
set_option maxHeartbeats 8000000 in
set_option maxRecDepth 100000 in
theorem fS.calls (k:Nat) (A0:Option Addr) (c0:Nat) (l0:List (ai)) (a1:Int) (r:Bool) (w:World) (gF:Kd.C aK w A0 l0.length l0) (fi:l0.length≤c0) (h:fS.f k l0 a1=some r) :
 Calls Try.prog 100 #[.slice A0 l0.length c0,.int .i64 a1] w fun e w'=>e = .returned (.bool r)∧bW w w':=by
 have fL:=J gF;have rG:=J fi;clear gF fi;have H:(fS.l0 k l0 a1 0)=some r:=h;clear h;have H':=J H;clear H;go_enter Try.func100,Try.ntmps100;go_wp2;go_loopg [5] k (fun kq v5 w'=>∃(al:Int),v5 = .int .i64 al∧Aside0 (fS.l0 kq l0 a1 al=some r)∧Aside0 (kq≤k)∧bW w w')
 case atStart=>exact⟨(0),mE,H',⟨Nat.le_refl _⟩,by repeat (first|exact bW.refl _|apply bW.step)⟩
 case round=>
  clear H'
  obtain⟨al,rfl,HA,bI,⟨m1,rfl⟩⟩:=hrel;cases gk with
  |zero=>exact absurd HA.1 (by simp[fS.l0])
  |succ k1=>
   have H:=HA.1;clear HA;simp only[fS.l0]at H;by_cases c3:al<(l0.length:Int)
   ·rw[if_pos c3]at H;have jf:=decide_eq_true c3;clear c3;by_cases c4:0≤al
    ·rw[if_pos c4]at H;have jm:=decide_eq_true c4;clear c4;by_cases c5:((aq l0 al).f1)=a1
     ·rw[if_pos c5]at H;have nI:(((aq l0 al).f1) == a1)=true:=beq_iff_eq.mpr c5;have Dw:(((aq l0 al).f1) != a1)=false:=bne_eq_false_iff_eq.mpr c5;clear c5;obtain rfl:=Option.some.inj H;have QV:0≤(al:Int):=mD;have Rl:al<(l0.length:Int):=mD;obtain⟨ayo,agZ,aGV,aGW⟩:=lB fL.1 al QV Rl;cases agZ
      replace QV:=eq_true QV;replace Rl:=eq_true Rl;go_wp2;go_ret;exact⟨mE,by repeat (first|exact bW.refl _|apply bW.step)⟩
     ·rw[if_neg c5]at H;have nI:(((aq l0 al).f1) == a1)=false:=beq_eq_false_iff_ne.mpr c5;have Dw:(((aq l0 al).f1) != a1)=true:=bne_iff_ne.mpr c5;have H':=J H;clear H;have QV:0≤(al:Int):=mD;have Rl:al<(l0.length:Int):=mD;obtain⟨ayo,agZ,aGV,aGW⟩:=lB fL.1 al QV Rl;cases agZ
      replace QV:=eq_true QV;replace Rl:=eq_true Rl;go_wp2;go_roundg k1
      case measure=>have:=bI.1;omega
      case rel=>exact⟨(wrap64 (al+1)),mE,H',⟨by have:=bI.1;omega⟩,by repeat (first|exact bW.refl _|apply bW.step)⟩
    ·rw[if_neg c4]at H;exact absurd H (by simp)
   ·rw[if_neg c3]at H;have jf:=decide_eq_false c3;clear c3;obtain rfl:=Option.some.inj H;go_wp2;go_ret;exact⟨mE,by repeat (first|exact bW.refl _|apply bW.step)⟩
mutual
def eO.l0:Nat→ByteArray→Int→Option (Bool)
 |0,_,_=>none
 |k+1,x0,x3=>if x3<(x0.size:Int) then (if 0≤x3 then ((gY.f (wrap64 (bt x0 x3)) 97 122).bind fun t220=>(if t220=true then (eO.j1 k x0 x3 false) else ((gY.f (wrap64 (bt x0 x3)) 48 57).bind fun t221=>(if t221=true then (eO.j1 k x0 x3 false) else (if (wrap64 (bt x0 x3))=45 then (eO.j1 k x0 x3 false) else (eO.j1 k x0 x3 ((wrap64 (bt x0 x3)) != 46))))))) else (none)) else (some true)
def eO.j1:Nat→ByteArray→Int→Bool→Option (Bool)
 |0,_,_,_=>none
 |k+1,x0,x3,x34=>if x34=true then (some false) else (eO.l0 k x0 (wrap64 (x3+1)))
end
def eO.f (k:Nat) (a0:ByteArray):Option (Bool):=(gY.f (a0.size:Int) 1 12).bind fun t219=>(if t219=true then (eO.l0 k a0 0) else (some false))
set_option maxHeartbeats 8000000 in
set_option maxRecDepth 100000 in
theorem eO.calls (k:Nat) (a0:ByteArray) (r:Bool) (w:World) (h:eO.f k a0=some r) :
 Calls Try.prog 48 #[.string a0] w fun e w'=>e = .returned (.bool r)∧bW w w':=by
 have H:((gY.f (a0.size:Int) 1 12).bind fun t219=>(if t219=true then (eO.l0 k a0 0) else (some false)))=some r:=h;clear h;replace H:=Option.bind_eq_some_iff.mp H;obtain⟨t219,Be,H⟩:=H;replace H:(if t219=true then (eO.l0 k a0 0) else (some false))=some r:=H;have A2:=J Be;clear Be;by_cases c3:t219=true
 ·subst c3;have H1:=H;rw[if_pos rfl]at H1;clear H;have H:=H1;clear H1;have H':=J H;clear H;go_enter Try.func48,Try.ntmps48;go_wp2_with (first|((with_reducible refine bw (f:=89) rfl ?_);refine bH 7 Try.func89 #[.int .i64 (a0.size:Int),.int .i64 1,.int .i64 12] ?_;(with_reducible refine(gY.calls (a0.size:Int) 1 12 true _ A2.1).mono ?_);rintro e w' ⟨rfl,⟨nd,rfl⟩⟩;refine⟨_,rfl,?_⟩));go_loopg [3] k (fun kq v3 w'=>∃(bq:Int),v3 = .int .i64 bq∧Aside0 (eO.l0 kq a0 bq=some r)∧Aside0 (kq≤k)∧bW w w')
  case atStart=>exact⟨(0),mE,H',⟨Nat.le_refl _⟩,by repeat (first|exact bW.refl _|apply bW.step)⟩
  case round=>
   clear H'
   try clear c3
   obtain⟨bq,rfl,HA,bI,⟨m1,rfl⟩⟩:=hrel;cases gk with
   |zero=>exact absurd HA.1 (by simp[eO.l0])
   |succ k1=>
    have H:=HA.1;clear HA;simp only[eO.l0]at H;by_cases c4:bq<(a0.size:Int)
    ·rw[if_pos c4]at H;have jm:=decide_eq_true c4;clear c4;by_cases c5:0≤bq
     ·rw[if_pos c5]at H;have nI:=decide_eq_true c5;clear c5;have zO:=J H;clear H;have p6:0≤(bq:Int):=mD;have q6:bq<(a0.size:Int):=mD;have hx6:=an0 a0 bq;replace p6:=eq_true p6;replace q6:=eq_true q6;go_upto_region 7 with (fail)
      go_cut [34] (fun v34 wc=>∃(kq:Nat) (aeb:Bool),v34 = .bool aeb∧Aside0 (eO.j1 kq a0 bq aeb=some r)∧Aside0 (kq≤k1)∧bW w wc)
      case first=>
       have H:=zO.1;clear zO;replace H:=Option.bind_eq_some_iff.mp H;obtain⟨t220,sc,H⟩:=H;replace H:(if t220=true then (eO.j1 k1 a0 bq false) else ((gY.f (wrap64 (bt a0 bq)) 48 57).bind fun t221=>(if t221=true then (eO.j1 k1 a0 bq false) else (if (wrap64 (bt a0 bq))=45 then (eO.j1 k1 a0 bq false) else (eO.j1 k1 a0 bq ((wrap64 (bt a0 bq)) != 46))))))=some r:=H;have A8:=J sc;clear sc;by_cases c9:t220=true
       ·subst c9;have H1:=H;rw[if_pos rfl]at H1;clear H;have H:=H1;clear H1;have H':=J H;clear H;go_wp2_with (first|((with_reducible refine bw (f:=89) rfl ?_);refine bH 20 Try.func89 #[.int .i64 (wrap64 (bt a0 bq)),.int .i64 97,.int .i64 122] ?_;(with_reducible refine(gY.calls (wrap64 (bt a0 bq)) 97 122 true _ A8.1).mono ?_);rintro e w' ⟨rfl,⟨nd,rfl⟩⟩;refine⟨_,rfl,?_⟩));go_meet
        case rel=>exact⟨_,(false),mE,H',⟨by have:=bI.1;first|omega|exact Nat.le_refl _⟩,by repeat (first|exact bW.refl _|apply bW.step)⟩
       ·replace c9:=Bool.eq_false_iff.mpr c9;subst c9;have H1:=H;rw[if_neg (show ¬(false=true) by decide)]at H1;clear H;have H:=H1;clear H1;replace H:=Option.bind_eq_some_iff.mp H;obtain⟨t221,E4,H⟩:=H;replace H:(if t221=true then (eO.j1 k1 a0 bq false) else (if (wrap64 (bt a0 bq))=45 then (eO.j1 k1 a0 bq false) else (eO.j1 k1 a0 bq ((wrap64 (bt a0 bq)) != 46))))=some r:=H;have Ou:=J E4;clear E4;by_cases rR:t221=true
        ·subst rR;have H1:=H;rw[if_pos rfl]at H1;clear H;have H:=H1;clear H1;have H':=J H;clear H;go_wp2_with (first|((with_reducible refine bw (f:=89) rfl ?_);refine bH 20 Try.func89 #[.int .i64 (wrap64 (bt a0 bq)),.int .i64 97,.int .i64 122] ?_;(with_reducible refine(gY.calls (wrap64 (bt a0 bq)) 97 122 false _ A8.1).mono ?_);rintro e w' ⟨rfl,⟨nd,rfl⟩⟩;refine⟨_,rfl,?_⟩)|(go_at_call 89;(with_reducible refine(gY.calls (wrap64 (bt a0 bq)) 48 57 true _ Ou.1).mono ?_);rintro e w' ⟨rfl,⟨nd,rfl⟩⟩));go_meet
         case rel=>exact⟨_,(false),mE,H',⟨by have:=bI.1;first|omega|exact Nat.le_refl _⟩,by repeat (first|exact bW.refl _|apply bW.step)⟩
        ·replace rR:=Bool.eq_false_iff.mpr rR;subst rR;have H1:=H;rw[if_neg (show ¬(false=true) by decide)]at H1;clear H;have H:=H1;clear H1;by_cases nj:(wrap64 (bt a0 bq))=45
         ·rw[if_pos nj]at H;have Im:((wrap64 (bt a0 bq)) == 45)=true:=beq_iff_eq.mpr nj;have ayJ:((wrap64 (bt a0 bq)) != 45)=false:=bne_eq_false_iff_eq.mpr nj;clear nj
          (first|rw[Im]|(simp only[kE,lE];rw[Im])|skip)
          have H':=J H;clear H;go_wp2_with (first|((with_reducible refine bw (f:=89) rfl ?_);refine bH 20 Try.func89 #[.int .i64 (wrap64 (bt a0 bq)),.int .i64 97,.int .i64 122] ?_;(with_reducible refine(gY.calls (wrap64 (bt a0 bq)) 97 122 false _ A8.1).mono ?_);rintro e w' ⟨rfl,⟨nd,rfl⟩⟩;refine⟨_,rfl,?_⟩)|(go_at_call 89;(with_reducible refine(gY.calls (wrap64 (bt a0 bq)) 48 57 false _ Ou.1).mono ?_);rintro e w' ⟨rfl,⟨nd,rfl⟩⟩));go_meet
          case rel=>exact⟨_,(false),mE,H',⟨by have:=bI.1;first|omega|exact Nat.le_refl _⟩,by repeat (first|exact bW.refl _|apply bW.step)⟩
         ·rw[if_neg nj]at H;have Im:((wrap64 (bt a0 bq)) == 45)=false:=beq_eq_false_iff_ne.mpr nj;have ayJ:((wrap64 (bt a0 bq)) != 45)=true:=bne_iff_ne.mpr nj
          (first|rw[Im]|(simp only[kE,lE];rw[Im])|skip)
          have H':=J H;clear H;go_wp2_with (first|((with_reducible refine bw (f:=89) rfl ?_);refine bH 20 Try.func89 #[.int .i64 (wrap64 (bt a0 bq)),.int .i64 97,.int .i64 122] ?_;(with_reducible refine(gY.calls (wrap64 (bt a0 bq)) 97 122 false _ A8.1).mono ?_);rintro e w' ⟨rfl,⟨nd,rfl⟩⟩;refine⟨_,rfl,?_⟩)|(go_at_call 89;(with_reducible refine(gY.calls (wrap64 (bt a0 bq)) 48 57 false _ Ou.1).mono ?_);rintro e w' ⟨rfl,⟨nd,rfl⟩⟩));go_meet
          case rel=>exact⟨_,(((wrap64 (bt a0 bq)) != 46)),mE,H',⟨by have:=bI.1;first|omega|exact Nat.le_refl _⟩,by repeat (first|exact bW.refl _|apply bW.step)⟩
      case rest=>
       clear zO
       try clear c3
       try clear c4
       try clear jm
       try clear c5
       try clear nI
       try clear p6
       try clear q6
       try clear hx6
       try clear p6
       try clear q6
       obtain⟨kq,aeb,rfl,HA,zP,⟨mc6,rfl⟩⟩:=hcut;cases kq with
       |zero=>exact absurd HA.1 (by simp[eO.j1])
       |succ NB=>
        have H:=HA.1;clear HA;simp only[eO.j1]at H;by_cases mi:aeb=true
        ·subst mi;have H1:=H;rw[if_pos rfl]at H1;clear H;have H:=H1;clear H1;obtain rfl:=Option.some.inj H;go_wp2;go_ret;exact⟨mE,by repeat (first|exact bW.refl _|apply bW.step)⟩
        ·replace mi:=Bool.eq_false_iff.mpr mi;subst mi;have H1:=H;rw[if_neg (show ¬(false=true) by decide)]at H1;clear H;have H:=H1;clear H1;have H':=J H;clear H;go_wp2;go_roundg NB
         case measure=>have:=bI.1;have:=zP.1;omega
         case rel=>exact⟨(wrap64 (bq+1)),mE,H',⟨by have:=bI.1;have:=zP.1;omega⟩,by repeat (first|exact bW.refl _|apply bW.step)⟩
     ·rw[if_neg c5]at H;exact absurd H (by simp)
    ·rw[if_neg c4]at H;have jm:=decide_eq_false c4;clear c4;obtain rfl:=Option.some.inj H;go_wp2;go_ret;exact⟨mE,by repeat (first|exact bW.refl _|apply bW.step)⟩
 ·replace c3:=Bool.eq_false_iff.mpr c3;subst c3;have H1:=H;rw[if_neg (show ¬(false=true) by decide)]at H1;clear H;have H:=H1;clear H1;obtain rfl:=Option.some.inj H;go_enter Try.func48,Try.ntmps48;go_wp2_with (first|((with_reducible refine bw (f:=89) rfl ?_);refine bH 7 Try.func89 #[.int .i64 (a0.size:Int),.int .i64 1,.int .i64 12] ?_;(with_reducible refine(gY.calls (a0.size:Int) 1 12 false _ A2.1).mono ?_);rintro e w' ⟨rfl,⟨nd,rfl⟩⟩;refine⟨_,rfl,?_⟩));go_ret;exact⟨mE,by repeat (first|exact bW.refl _|apply bW.step)⟩
def lV.l0:Nat→Int→Int→List (ak)→List (ai)→List (ai)→Int→Option (Int)
 |0,_,_,_,_,_,_=>none
 |k+1,x1,x5,als,aIR,aIS,aIT=>if x5<(als.length:Int) then (if 0≤x5 then (if ((aa als x5).f0)=x1 then (some x5) else (lV.l0 k x1 (wrap64 (x5+1)) als aIR aIS aIT)) else (none)) else (some (-1))
def lV.f (k:Nat) (U:List (ak)) (ab:List (ai)) (af:List (ai)) (ah:Int) (a1:Int):Option (Int):=lV.l0 k a1 0 U ab af ah
set_option maxHeartbeats 8000000 in
set_option maxRecDepth 100000 in
theorem lV.calls (k:Nat) (aE:Option Addr) (az:Nat) (U:List (ak)) (aw:Option Addr) (ax:Nat) (ab:List (ai)) (aA:Option Addr) (aC:Nat) (af:List (ai)) (ah:Int) (a1:Int) (r:Int) (w:World) (eZ:Kd.C bF w aE U.length U) (eX:U.length≤az) (ek:Kd.C aK w aw ab.length ab) (ej:ab.length≤ax) (e6:Kd.C aK w aA af.length af) (eY:af.length≤aC) (h:lV.f k U ab af ah a1=some r) :
 Calls Try.prog 68 #[.agg #[.slice aE U.length az,.slice aw ab.length ax,.slice aA af.length aC,.int .i64 ah],.int .i64 a1] w fun e w'=>e = .returned (.int .i64 r)∧Below w.heap.size w w':=by
 have qj:=Try.underlying30;have cF:=J eZ;have db:=J eX;clear eZ eX;have cr:=J ek;have cz:=J ej;clear ek ej;have cV:=J e6;have dc:=J eY;clear e6 eY;have HB:=J (Below.refl w.heap.size w);have H:(lV.l0 k a1 0 U ab af ah)=some r:=h;clear h;have H':=J H;clear H;go_enter Try.func68,Try.ntmps68;go_wp2_with (first|((with_reducible refine bB (N:=2) rfl ?_);refine bO 2 #[.slice aE U.length az,.slice aw ab.length ax,.slice aA af.length aC,.int .i64 ah] 30 ?_;intro aAc hg w3 hbox hb;have R9:=J (hbox);have aJt:=mG hg (mH HB.1);have aa9:=mG hg (mH HB.1);replace HB:=J (aG (mH HB.1) hb);clear hb hbox hg));go_loopg [5] k (fun kq v5 w'=>∃(al:Int),v5 = .int .i64 al∧Aside0 (lV.l0 kq a1 al U ab af ah=some r)∧Aside0 (kq≤k)∧Aside0 (w'.heap[aAc]? = some (.cells #[(.slice aE U.length az),(.slice aw ab.length ax),(.slice aA af.length aC),.int .i64 ah] 30 (0,0)))∧Aside0 (Below w.heap.size w w'))
 case atStart=>exact⟨(0),mE,H',⟨Nat.le_refl _⟩,⟨mK R9.1⟩,⟨(aY HB.1 aa9.1)⟩⟩
 case round=>
  clear H'
  obtain⟨al,rfl,HA,bI,R9,HB⟩:=hrel;cases gk with
  |zero=>exact absurd HA.1 (by simp[lV.l0])
  |succ k1=>
   have H:=HA.1;clear HA;simp only[lV.l0]at H;by_cases c4:al<(U.length:Int)
   ·rw[if_pos c4]at H;have jm:=decide_eq_true c4;clear c4;by_cases c5:0≤al
    ·rw[if_pos c5]at H;have nI:=decide_eq_true c5;clear c5;by_cases c6:((aa U al).f0)=a1
     ·rw[if_pos c6]at H;have iW:(((aa U al).f0) == a1)=true:=beq_iff_eq.mpr c6;have qo:(((aa U al).f0) != a1)=false:=bne_eq_false_iff_eq.mpr c6;clear c6;obtain rfl:=Option.some.inj H;obtain⟨aiy,aiz,aCt,aCu,ajm,ajn,aEF,aEG⟩:=bb R9.1;have QW:0≤(al:Int):=mD;have Rm:al<(U.length:Int):=mD;obtain⟨ayp,avn,ayZ,ag0,Zu,Zv,Zw,YT,YJ⟩:=ny cF.1 al QW Rm;cases ag0
      replace Zu:=mX HB.1 Zu;replace Zv:=mX HB.1 Zv;replace Zw:=mX HB.1 Zw;have awp:=J YJ;have avX:=J YT;clear YJ YT;replace QW:=eq_true QW;replace Rm:=eq_true Rm;go_wp2;go_ret;exact⟨cS,(aY HB.1 aa9.1)⟩
     ·rw[if_neg c6]at H;have iW:(((aa U al).f0) == a1)=false:=beq_eq_false_iff_ne.mpr c6;have qo:(((aa U al).f0) != a1)=true:=bne_iff_ne.mpr c6;have H':=J H;clear H;obtain⟨PZ,P0,acs,apV,Qc,Qd,acJ,aq2⟩:=bb R9.1;have QW:0≤(al:Int):=mD;have Rm:al<(U.length:Int):=mD;obtain⟨ayp,avn,ayZ,ag0,Zu,Zv,Zw,YT,YJ⟩:=ny cF.1 al QW Rm;cases ag0
      replace Zu:=mX HB.1 Zu;replace Zv:=mX HB.1 Zv;replace Zw:=mX HB.1 Zw;have awp:=J YJ;have avX:=J YT;clear YJ YT;replace QW:=eq_true QW;replace Rm:=eq_true Rm;go_wp2;go_roundg k1
      case measure=>have:=bI.1;omega
      case rel=>exact⟨(wrap64 (al+1)),mE,H',⟨by have:=bI.1;omega⟩,⟨mK R9.1⟩,⟨(aY HB.1 aa9.1)⟩⟩
    ·rw[if_neg c5]at H;exact absurd H (by simp)
   ·rw[if_neg c4]at H;have jm:=decide_eq_false c4;clear c4;obtain rfl:=Option.some.inj H;obtain⟨acu,acv,apW,apX,acK,acL,aq3,aq4⟩:=bb R9.1;go_wp2;go_ret;exact⟨cS,(aY HB.1 aa9.1)⟩
mutual
def cp.l0:Nat→List (ai)→Int→List (ak)→List (ai)→List (ai)→Int→Option (Bool)
 |0,_,_,_,_,_,_=>none
 |k+1,x1,x5,Jb,Jc,Jd,Je=>if x5<(x1.length:Int) then (if 0≤x5 then ((eO.f k ((aq x1 x5).f0)).bind fun t226=>(if t226=true then ((lV.f k Jb Jc Jd Je ((aq x1 x5).f1)).bind fun t228=>(if t228<0 then (cp.j1 k x1 x5 true Jb Jc Jd Je) else (if x5>0 then (if 0≤(wrap64 (x5-1)) then (if (wrap64 (x5-1))<(x1.length:Int) then (cp.j1 k x1 x5 (!(Op.bytesLess (((aq x1 (wrap64 (x5-1))).f0).toList) (((aq x1 x5).f0).toList))) Jb Jc Jd Je) else (none)) else (none)) else (cp.j1 k x1 x5 false Jb Jc Jd Je)))) else (cp.j1 k x1 x5 true Jb Jc Jd Je))) else (none)) else (some (decide ((x1.length:Int)≤30)))
def cp.j1:Nat→List (ai)→Int→Bool→List (ak)→List (ai)→List (ai)→Int→Option (Bool)
 |0,_,_,_,_,_,_,_=>none
 |k+1,x1,x5,x47,Jb,Jc,Jd,Je=>if x47=true then (some false) else (cp.l1 k x1 x5 0 Jb Jc Jd Je)
def cp.l1:Nat→List (ai)→Int→Int→List (ak)→List (ai)→List (ai)→Int→Option (Bool)
 |0,_,_,_,_,_,_,_=>none
 |k+1,x1,x5,x6,Jb,Jc,Jd,Je=>if x6<x5 then (if 0≤x6 then (if x6<(x1.length:Int) then (if 0≤x5 then (if x5<(x1.length:Int) then (if ((aq x1 x6).f1)=((aq x1 x5).f1) then (some false) else (cp.l1 k x1 x5 (wrap64 (x6+1)) Jb Jc Jd Je)) else (none)) else (none)) else (none)) else (none)) else (cp.l0 k x1 (wrap64 (x5+1)) Jb Jc Jd Je)
end
def cp.f (k:Nat) (U:List (ak)) (ab:List (ai)) (af:List (ai)) (ah:Int) (l1:List (ai)):Option (Bool):=cp.l0 k l1 0 U ab af ah
def cp.T4:Bool × List (List Nat × List Nat):=(true,[([],[]),([],[]),([0,1],[0,1]),([2],[2]),([3],[3]),([4],[4]),([5],[5]),([6,5],[6]),([7],[7]),([7],[7]),([7],[7]),([9,10,7],[7,9,10]),([11,7],[7,11]),([12,7],[7,12]),([8,13,7,7],[7,8,13]),([14,7],[7,14]),([7,15],[7,15]),([16,14],[16]),([17],[17]),([18,17],[17,18]),([19,17,17],[17,19]),([20],[20]),([20],[20]),([22,20],[20,22]),([21,23,20],[20,21,23]),([24,20],[20,24]),([25,20],[20,25]),([20],[20]),([20],[20]),([27,28,20],[20,27,28]),([29,20],[20,29]),([30,20],[20,30]),([26,31,20],[20,26,31]),([20,32,17],[17,20,32]),([17,33],[17,33])])
def cp.B4:List Nat:=[0,0,3,7,15,31,63,127,255,255,255,1791,3839,7935,16383,32767,65535,131071,262143,524287,1048575,2097151,2097151,6291455,16777215,33554431,67108863,2097151,2097151,404750335,941621247,2015363071,4294967295,8589934591,17179869183]
theorem cp.zw:kS .any (opsOf Try.f101 4)=cp.T4:=by kernel_rfl
theorem cp.y6:qw cp.T4.2 cp.B4=true:=by kernel_rfl
def cp.T9:Bool × List (List Nat × List Nat):=(true,[([],[]),([],[]),([0,1],[0,1]),([2],[2]),([3],[3]),([],[]),([],[]),([5,6],[5,6]),([7],[7]),([8],[8]),([4,9],[4,9])])
def cp.B9:List Nat:=[0,0,3,7,15,0,0,96,224,480,1023]
theorem cp.at0:kS .any (opsOf Try.f101 9)=cp.T9:=by kernel_rfl
theorem cp.anV:qw cp.T9.2 cp.B9=true:=by kernel_rfl
set_option maxHeartbeats 8000000 in
set_option maxRecDepth 100000 in
theorem cp.calls (k:Nat) (aE:Option Addr) (az:Nat) (U:List (ak)) (aw:Option Addr) (ax:Nat) (ab:List (ai)) (aA:Option Addr) (aC:Nat) (af:List (ai)) (ah:Int) (A1:Option Addr) (c1:Nat) (l1:List (ai)) (r:Bool) (w:World) (eZ:Kd.C bF w aE U.length U) (eX:U.length≤az) (ek:Kd.C aK w aw ab.length ab) (ej:ab.length≤ax) (e6:Kd.C aK w aA af.length af) (eY:af.length≤aC) (ux:Kd.C aK w A1 l1.length l1) (uw:l1.length≤c1) (h:cp.f k U ab af ah l1=some r) :
 Calls Try.prog 101 #[.agg #[.slice aE U.length az,.slice aw ab.length ax,.slice aA af.length aC,.int .i64 ah],.slice A1 l1.length c1] w fun e w'=>e = .returned (.bool r)∧Below w.heap.size w w':=by
 have qj:=Try.underlying30;have cF:=J eZ;have db:=J eX;clear eZ eX;have cr:=J ek;have cz:=J ej;clear ek ej;have cV:=J e6;have dc:=J eY;clear e6 eY;have nY:=J ux;have OJ:=J uw;clear ux uw;have HB:=J (Below.refl w.heap.size w);have H:(cp.l0 k l1 0 U ab af ah)=some r:=h;clear h;have H':=J H;clear H;go_enter Try.func101,Try.ntmps101;go_wp2_with (first|((with_reducible refine bB (N:=2) rfl ?_);refine bO 2 #[.slice aE U.length az,.slice aw ab.length ax,.slice aA af.length aC,.int .i64 ah] 30 ?_;intro As hg w3 hbox hb;have lN:=J (hbox);have aJu:=mG hg (mH HB.1);have sO:=mG hg (mH HB.1);replace HB:=J (aG (mH HB.1) hb);clear hb hbox hg));go_loopg [5] k (fun kq v5 w'=>∃(al:Int),v5 = .int .i64 al∧Aside0 (cp.l0 kq l1 al U ab af ah=some r)∧Aside0 (kq≤k)∧Aside0 (w'.heap[As]? = some (.cells #[(.slice aE U.length az),(.slice aw ab.length ax),(.slice aA af.length aC),.int .i64 ah] 30 (0,0)))∧Aside0 (Below w.heap.size w w'))
 case atStart=>exact⟨(0),mE,H',⟨Nat.le_refl _⟩,⟨mK lN.1⟩,⟨(aY HB.1 sO.1)⟩⟩
 case round=>
  clear H'
  try clear c1
  obtain⟨al,rfl,HA,bI,lN,HB⟩:=hrel;cases gk with
  |zero=>exact absurd HA.1 (by simp[cp.l0])
  |succ k1=>
   have H:=HA.1;clear HA;simp only[cp.l0]at H;by_cases c4:al<(l1.length:Int)
   ·rw[if_pos c4]at H;have jm:=decide_eq_true c4;clear c4;have ON:=J H;clear H;go_upto_region 4 with (fail)
    go_cut [47] (fun v47 wc=>∃(kq:Nat) (aef:Bool),v47 = .bool aef∧Aside0 (cp.j1 kq l1 al aef U ab af ah=some r)∧Aside0 (kq≤k1)∧Aside0 (wc.heap[As]? = some (.cells #[(.slice aE U.length az),(.slice aw ab.length ax),(.slice aA af.length aC),.int .i64 ah] 30 (0,0)))∧Aside0 (Below w.heap.size w wc))
    case first=>
     have H:=ON.1;clear ON;by_cases c6:0≤al
     ·rw[if_pos c6]at H;have iW:=decide_eq_true c6;clear c6
      (first|rw[iW]|(simp only[kE,lE];rw[iW])|skip)
      replace H:=Option.bind_eq_some_iff.mp H;obtain⟨t226,tG,H⟩:=H;replace H:(if t226=true then ((lV.f k1 U ab af ah ((aq l1 al).f1)).bind fun t228=>(if t228<0 then (cp.j1 k1 l1 al true U ab af ah) else (if al>0 then (if 0≤(wrap64 (al-1)) then (if (wrap64 (al-1))<(l1.length:Int) then (cp.j1 k1 l1 al (!(Op.bytesLess (((aq l1 (wrap64 (al-1))).f0).toList) (((aq l1 al).f0).toList))) U ab af ah) else (none)) else (none)) else (cp.j1 k1 l1 al false U ab af ah)))) else (cp.j1 k1 l1 al true U ab af ah))=some r:=H;have A7:=J tG;clear tG;by_cases c8:t226=true
      ·subst c8;have H1:=H;rw[if_pos rfl]at H1;clear H;have H:=H1;clear H1;replace H:=Option.bind_eq_some_iff.mp H;obtain⟨t228,A90,H⟩:=H;replace H:(if t228<0 then (cp.j1 k1 l1 al true U ab af ah) else (if al>0 then (if 0≤(wrap64 (al-1)) then (if (wrap64 (al-1))<(l1.length:Int) then (cp.j1 k1 l1 al (!(Op.bytesLess (((aq l1 (wrap64 (al-1))).f0).toList) (((aq l1 al).f0).toList))) U ab af ah) else (none)) else (none)) else (cp.j1 k1 l1 al false U ab af ah)))=some r:=H;have A9:=J A90;clear A90;by_cases qH:t228<0
       ·rw[if_pos qH]at H;have Il:=decide_eq_true qH;clear qH;have H':=J H;clear H
        try go_wp2
        replace lN:=J (dH lN.1);replace HB:=J (hG HB.1);have AF:0≤(al:Int):=mD;have AK:al<(l1.length:Int):=mD;obtain⟨n2,Pu,vV,vW⟩:=lB nY.1 al AF AK;have Cb:=vW;have Ca:=vV;cases Pu
        replace vV:=mX HB.1 vV;replace vW:=mX HB.1 vW;replace AF:=eq_true AF;replace AK:=eq_true AK;have G2:0≤(al:Int):=mD;have G8:al<(l1.length:Int):=mD;obtain⟨WQ,Xr,Ch,Ci⟩:=lB nY.1 al G2 G8;have GC:=Ci;have GB:=Ch;obtain rfl:n2=WQ:=(by injection Xr);replace Ch:=mX HB.1 Ch;replace Ci:=mX HB.1 Ci;replace G2:=eq_true G2;replace G8:=eq_true G8;refine j5 (n:=35) (S:=fun w'=>w'.cell? ⟨As,0,none⟩=some (.slice aE U.length az)∧w'.cell? ⟨As,1,none⟩=some (.slice aw ab.length ax)∧w'.cell? ⟨As,2,none⟩=some (.slice aA af.length aC)∧w'.cell? ⟨As,3,none⟩=some (.int .i64 ah)∧w'.cell? (n2.add ((al).toNat*2))=some (.string ((aq l1 al).f0))∧w'.cell? ⟨(n2.add ((al).toNat*2)).block,(n2.add ((al).toNat*2)).off+1,none⟩=some (.int .i64 ((aq l1 al).f1))∧w'.cell? (n2.add ((al).toNat*2))=some (.string ((aq l1 al).f0))∧w'.cell? ⟨(n2.add ((al).toNat*2)).block,(n2.add ((al).toNat*2)).off+1,none⟩=some (.int .i64 ((aq l1 al).f1))) (ds:=[]) (mb 0 35) (by kernel_rfl) rfl rfl (jo lN.1 ⟨(mX HB.1 Ca :),⟨(mX HB.1 Cb :),⟨(mX HB.1 GB :),(mX HB.1 GC :)⟩⟩⟩) (fun hHeld=>?_);refine kK cp.zw cp.y6 (fun HT_ HW_=>?_);generalize wr.drew=e9 at lN HB vV vW Ch Ci hHeld ⊢
        refine an 0 13 HT_.1 (mb 1 34) ?_;refine an 1 14 HT_.1 (mb 2 33) ?_;refine an 2 15 HT_.1 (mb 3 32) ?_;refine an 3 16 HT_.1 (mb 4 31) ?_;refine bC 4 17 HT_.1 HW_.1 (mb 5 30) hHeld ?_;refine dA 5 (some 18) HT_.1 (mb 6 29) (fun K hK=>?_);refine e8 Try.func48 (by kernel_rfl) rfl #[.string ((aq l1 al).f0)] (by rfl) rfl rfl mA ?_
        with_reducible refine(eO.calls k1 ((aq l1 al).f0) true _ A7.1).mono ?_
        rintro e w' ⟨rfl,⟨nd,rfl⟩⟩;refine⟨_,rfl,?_⟩;refine hK.out _ _ (jo lN.1 ⟨(mX HB.1 Ca :),⟨(mX HB.1 Cb :),⟨(mX HB.1 GB :),(mX HB.1 GC :)⟩⟩⟩) (fun hHeld=>?_);clear hK K;refine cO 18 ?_;refine an 6 19 HT_.1 (mb 7 28) ?_;refine an 7 20 HT_.1 (mb 8 27) ?_;refine an 9 22 HT_.1 (mr [8,1,1,25]) ?_;refine an 10 23 HT_.1 (mr [8,1,2,24]) ?_;refine an 11 24 HT_.1 (mr [8,1,3,23]) ?_;refine an 12 25 HT_.1 (mr [8,1,4,22]) ?_;refine bC 8 21 HT_.1 HW_.1 (mb 13 22) hHeld ?_;refine bC 13 26 HT_.1 HW_.1 (mb 14 21) hHeld ?_;refine dA 14 (some 27) HT_.1 (mb 15 20) (fun K hK=>?_);refine e8 Try.func68 (by kernel_rfl) rfl #[.agg #[.slice aE U.length az,.slice aw ab.length ax,.slice aA af.length aC,.int .i64 ah],.int .i64 ((aq l1 al).f1)] (by rfl) rfl rfl mA ?_
        with_reducible refine(lV.calls k1 _ _ U _ _ ab _ _ af ah ((aq l1 al).f1) t228 _ ?ar ?au ?aZ ?a6 ?bc ?bf A9.1).mono ?_
        (case ar=>exact mC (Kd.aX cF.1 (aY HB.1 sO.1)))
        (case au=>exact db.1)
        (case aZ=>exact mC (Kd.aX cr.1 (aY HB.1 sO.1)))
        (case a6=>exact cz.1)
        (case bc=>exact mC (Kd.aX cV.1 (aY HB.1 sO.1)))
        (case bf=>exact dc.1)
        rintro e jE ⟨rfl,hb⟩;refine⟨_,rfl,?_⟩;replace lN:=mB lN hb;replace HB:=J (aG (aY HB.1 sO.1) hb)
        (try clear hb)
        (try clear ff)
        (try clear hk)
        (try clear hi)
        refine hK.out _ _ (jo lN.1 ⟨(mX HB.1 Ca :),⟨(mX HB.1 Cb :),⟨(mX HB.1 GB :),(mX HB.1 GC :)⟩⟩⟩) (fun hHeld=>?_);clear hK K;refine cO 27 ?_;refine an 15 28 HT_.1 (mb 16 19) ?_;refine an 16 29 HT_.1 (mb 17 18) ?_;refine an 17 30 HT_.1 (mb 18 17) ?_;refine aU 18 31 HT_.1 (mb 19 16) ?_;refine aU 19 32 HT_.1 (mb 20 15) ?_;refine aU 20 33 HT_.1 (mb 21 14) ?_;refine aU 21 34 HT_.1 (mb 22 13) ?_;refine aU 22 35 HT_.1 (mb 23 12) ?_;refine aU 23 36 HT_.1 (mb 24 11) ?_;refine aU 24 37 HT_.1 (mb 25 10) ?_;refine aU 25 38 HT_.1 (mb 26 9) ?_;refine aU 26 39 HT_.1 (mb 27 8) ?_;refine aU 27 40 HT_.1 (mb 28 7) ?_;refine aU 28 41 HT_.1 (mb 29 6) ?_;refine aU 29 42 HT_.1 (mb 30 5) ?_;refine aU 30 43 HT_.1 (mb 31 4) ?_;refine aU 31 44 HT_.1 (mb 32 3) ?_;refine aU 32 45 HT_.1 (mb 33 2) ?_;refine aU 33 46 HT_.1 (mb 34 1) ?_;refine an 34 47 HT_.1 (mb 35 0) ?_;refine jX (kC HT_.1 (by kernel_rfl)) ?_
        try go_wp2
        go_meet
        case rel=>exact⟨_,(true),mE,H',⟨by have:=bI.1;first|omega|exact Nat.le_refl _⟩,⟨mK lN.1⟩,⟨(aY HB.1 sO.1)⟩⟩
       ·rw[if_neg qH]at H;have Il:=decide_eq_false qH;clear qH;by_cases mi:al>0
        ·rw[if_pos mi]at H;have Pm:decide (0<al)=true:=decide_eq_true mi;clear mi;obtain⟨ry,EB⟩:∃j_:Int,(wrap64 (al-1))=j_:=⟨_,rfl⟩;replace H:(if 0≤(ry) then (if (ry)<(l1.length:Int) then (cp.j1 k1 l1 al (!(Op.bytesLess (((aq l1 (ry)).f0).toList) (((aq l1 al).f0).toList))) U ab af ah) else (none)) else (none))=some r:=by first|(rw[EB]at H;exact H)|(simp only[EB]at H ⊢;exact H)
         (try rw[EB]at A7)
         (try rw[EB]at A9)
         have aPz:(IntKind.i64.wrap (al-1))=ry:=(kE _).trans EB;by_cases vO:0≤(ry)
         ·rw[if_pos vO]at H;have Mf:=decide_eq_true vO;clear vO;by_cases ri:(ry)<(l1.length:Int)
          ·rw[if_pos ri]at H;have agy:=decide_eq_true ri;clear ri;have H':=J H;clear H
           try go_wp2
           replace lN:=J (dH lN.1);replace HB:=J (hG HB.1);have AF:0≤(al:Int):=mD;have AK:al<(l1.length:Int):=mD;obtain⟨n2,Pu,vV,vW⟩:=lB nY.1 al AF AK;have Cb:=vW;have Ca:=vV;cases Pu
           replace vV:=mX HB.1 vV;replace vW:=mX HB.1 vW;replace AF:=eq_true AF;replace AK:=eq_true AK;have G2:0≤(al:Int):=mD;have G8:al<(l1.length:Int):=mD;obtain⟨WQ,Xr,Ch,Ci⟩:=lB nY.1 al G2 G8;have GC:=Ci;have GB:=Ch;obtain rfl:n2=WQ:=(by injection Xr);replace Ch:=mX HB.1 Ch;replace Ci:=mX HB.1 Ci;replace G2:=eq_true G2;replace G8:=eq_true G8;have aku:0≤((ry):Int):=mD;have akM:(ry)<(l1.length:Int):=mD;obtain⟨ayq,azu,acZ,ac0⟩:=lB nY.1 (ry) aku akM;have ajQ:=ac0;have ajP:=acZ;obtain rfl:n2=ayq:=(by injection azu);replace acZ:=mX HB.1 acZ;replace ac0:=mX HB.1 ac0;replace aku:=eq_true aku;replace akM:=eq_true akM;have akv:0≤(al:Int):=mD;have akN:al<(l1.length:Int):=mD;obtain⟨ayr,azv,ac1,ac2⟩:=lB nY.1 al akv akN;have ajS:=ac2;have ajR:=ac1;obtain rfl:n2=ayr:=(by injection azv);replace ac1:=mX HB.1 ac1;replace ac2:=mX HB.1 ac2;replace akv:=eq_true akv;replace akN:=eq_true akN;refine j5 (n:=35) (S:=fun w'=>w'.cell? ⟨As,0,none⟩=some (.slice aE U.length az)∧w'.cell? ⟨As,1,none⟩=some (.slice aw ab.length ax)∧w'.cell? ⟨As,2,none⟩=some (.slice aA af.length aC)∧w'.cell? ⟨As,3,none⟩=some (.int .i64 ah)∧w'.cell? (n2.add ((al).toNat*2))=some (.string ((aq l1 al).f0))∧w'.cell? ⟨(n2.add ((al).toNat*2)).block,(n2.add ((al).toNat*2)).off+1,none⟩=some (.int .i64 ((aq l1 al).f1))∧w'.cell? (n2.add ((al).toNat*2))=some (.string ((aq l1 al).f0))∧w'.cell? ⟨(n2.add ((al).toNat*2)).block,(n2.add ((al).toNat*2)).off+1,none⟩=some (.int .i64 ((aq l1 al).f1))∧w'.cell? (n2.add (((ry)).toNat*2))=some (.string ((aq l1 (ry)).f0))∧w'.cell? ⟨(n2.add (((ry)).toNat*2)).block,(n2.add (((ry)).toNat*2)).off+1,none⟩=some (.int .i64 ((aq l1 (ry)).f1))∧w'.cell? (n2.add ((al).toNat*2))=some (.string ((aq l1 al).f0))∧w'.cell? ⟨(n2.add ((al).toNat*2)).block,(n2.add ((al).toNat*2)).off+1,none⟩=some (.int .i64 ((aq l1 al).f1))) (ds:=[]) (mb 0 35) (by kernel_rfl) rfl rfl (jo lN.1 ⟨(mX HB.1 Ca :),⟨(mX HB.1 Cb :),⟨(mX HB.1 GB :),⟨(mX HB.1 GC :),⟨(mX HB.1 ajP :),⟨(mX HB.1 ajQ :),⟨(mX HB.1 ajR :),(mX HB.1 ajS :)⟩⟩⟩⟩⟩⟩⟩) (fun hHeld=>?_);refine kK cp.zw cp.y6 (fun HT_ HW_=>?_);generalize wr.drew=w17 at lN HB vV vW Ch Ci acZ ac0 ac1 ac2 hHeld ⊢
           refine an 0 13 HT_.1 (mb 1 34) ?_;refine an 1 14 HT_.1 (mb 2 33) ?_;refine an 2 15 HT_.1 (mb 3 32) ?_;refine an 3 16 HT_.1 (mb 4 31) ?_;refine bC 4 17 HT_.1 HW_.1 (mb 5 30) hHeld ?_;refine dA 5 (some 18) HT_.1 (mb 6 29) (fun K hK=>?_);refine e8 Try.func48 (by kernel_rfl) rfl #[.string ((aq l1 al).f0)] (by rfl) rfl rfl mA ?_
           with_reducible refine(eO.calls k1 ((aq l1 al).f0) true _ A7.1).mono ?_
           rintro e w' ⟨rfl,⟨nd,rfl⟩⟩;refine⟨_,rfl,?_⟩;refine hK.out _ _ (jo lN.1 ⟨(mX HB.1 Ca :),⟨(mX HB.1 Cb :),⟨(mX HB.1 GB :),⟨(mX HB.1 GC :),⟨(mX HB.1 ajP :),⟨(mX HB.1 ajQ :),⟨(mX HB.1 ajR :),(mX HB.1 ajS :)⟩⟩⟩⟩⟩⟩⟩) (fun hHeld=>?_);clear hK K;refine cO 18 ?_;refine an 6 19 HT_.1 (mb 7 28) ?_;refine an 7 20 HT_.1 (mb 8 27) ?_;refine an 9 22 HT_.1 (mr [8,1,1,25]) ?_;refine an 10 23 HT_.1 (mr [8,1,2,24]) ?_;refine an 11 24 HT_.1 (mr [8,1,3,23]) ?_;refine an 12 25 HT_.1 (mr [8,1,4,22]) ?_;refine bC 8 21 HT_.1 HW_.1 (mb 13 22) hHeld ?_;refine bC 13 26 HT_.1 HW_.1 (mb 14 21) hHeld ?_;refine dA 14 (some 27) HT_.1 (mb 15 20) (fun K hK=>?_);refine e8 Try.func68 (by kernel_rfl) rfl #[.agg #[.slice aE U.length az,.slice aw ab.length ax,.slice aA af.length aC,.int .i64 ah],.int .i64 ((aq l1 al).f1)] (by rfl) rfl rfl mA ?_
           with_reducible refine(lV.calls k1 _ _ U _ _ ab _ _ af ah ((aq l1 al).f1) t228 _ ?ar ?au ?aZ ?a6 ?bc ?bf A9.1).mono ?_
           (case ar=>exact mC (Kd.aX cF.1 (aY HB.1 sO.1)))
           (case au=>exact db.1)
           (case aZ=>exact mC (Kd.aX cr.1 (aY HB.1 sO.1)))
           (case a6=>exact cz.1)
           (case bc=>exact mC (Kd.aX cV.1 (aY HB.1 sO.1)))
           (case bf=>exact dc.1)
           rintro e T7 ⟨rfl,hb⟩;refine⟨_,rfl,?_⟩;replace lN:=mB lN hb;replace HB:=J (aG (aY HB.1 sO.1) hb)
           (try clear hb)
           (try clear ff)
           (try clear hk)
           (try clear hi)
           refine hK.out _ _ (jo lN.1 ⟨(mX HB.1 Ca :),⟨(mX HB.1 Cb :),⟨(mX HB.1 GB :),⟨(mX HB.1 GC :),⟨(mX HB.1 ajP :),⟨(mX HB.1 ajQ :),⟨(mX HB.1 ajR :),(mX HB.1 ajS :)⟩⟩⟩⟩⟩⟩⟩) (fun hHeld=>?_);clear hK K;refine cO 27 ?_;refine an 15 28 HT_.1 (mb 16 19) ?_;refine an 16 29 HT_.1 (mb 17 18) ?_;refine an 17 30 HT_.1 (mb 18 17) ?_;refine an 18 31 HT_.1 (mb 19 16) ?_;refine an 19 32 HT_.1 (mb 20 15) ?_;refine an 20 33 HT_.1 (mb 21 14) ?_;refine an 21 34 HT_.1 (mb 22 13) ?_;refine an 22 35 HT_.1 (mb 23 12) ?_;refine an 23 36 HT_.1 (mb 24 11) ?_;refine an 24 37 HT_.1 (mb 25 10) ?_;refine an 25 38 HT_.1 (mb 26 9) ?_;refine an 27 40 HT_.1 (mr [26,1,1,7]) ?_;refine an 28 41 HT_.1 (mr [26,1,2,6]) ?_;refine an 29 42 HT_.1 (mr [26,1,3,5]) ?_;refine an 30 43 HT_.1 (mr [26,1,4,4]) ?_;refine bC 26 39 HT_.1 HW_.1 (mb 31 4) hHeld ?_;refine bC 31 44 HT_.1 HW_.1 (mb 32 3) hHeld ?_;refine an 32 45 HT_.1 (mb 33 2) ?_;refine an 33 46 HT_.1 (mb 34 1) ?_;refine an 34 47 HT_.1 (mb 35 0) ?_;refine jX (kC HT_.1 (by kernel_rfl)) ?_
           try go_wp2
           go_meet
           case rel=>exact⟨_,(!(Op.bytesLess (((aq l1 (ry)).f0).toList) (((aq l1 al).f0).toList))),(by first|rfl|(simp;done)|(simp only[←EB]<;>(first|rfl|simp))|(simp[*];done)),H',⟨by have:=bI.1;first|omega|exact Nat.le_refl _⟩,⟨mK lN.1⟩,⟨(aY HB.1 sO.1)⟩⟩
          ·rw[if_neg ri]at H;exact absurd H (by simp)
         ·rw[if_neg vO]at H;exact absurd H (by simp)
        ·rw[if_neg mi]at H;have Pm:decide (0<al)=false:=decide_eq_false mi;clear mi;have H':=J H;clear H
         try go_wp2
         replace lN:=J (dH lN.1);replace HB:=J (hG HB.1);have AF:0≤(al:Int):=mD;have AK:al<(l1.length:Int):=mD;obtain⟨n2,Pu,vV,vW⟩:=lB nY.1 al AF AK;have Cb:=vW;have Ca:=vV;cases Pu
         replace vV:=mX HB.1 vV;replace vW:=mX HB.1 vW;replace AF:=eq_true AF;replace AK:=eq_true AK;have G2:0≤(al:Int):=mD;have G8:al<(l1.length:Int):=mD;obtain⟨WQ,Xr,Ch,Ci⟩:=lB nY.1 al G2 G8;have GC:=Ci;have GB:=Ch;obtain rfl:n2=WQ:=(by injection Xr);replace Ch:=mX HB.1 Ch;replace Ci:=mX HB.1 Ci;replace G2:=eq_true G2;replace G8:=eq_true G8;refine j5 (n:=35) (S:=fun w'=>w'.cell? ⟨As,0,none⟩=some (.slice aE U.length az)∧w'.cell? ⟨As,1,none⟩=some (.slice aw ab.length ax)∧w'.cell? ⟨As,2,none⟩=some (.slice aA af.length aC)∧w'.cell? ⟨As,3,none⟩=some (.int .i64 ah)∧w'.cell? (n2.add ((al).toNat*2))=some (.string ((aq l1 al).f0))∧w'.cell? ⟨(n2.add ((al).toNat*2)).block,(n2.add ((al).toNat*2)).off+1,none⟩=some (.int .i64 ((aq l1 al).f1))∧w'.cell? (n2.add ((al).toNat*2))=some (.string ((aq l1 al).f0))∧w'.cell? ⟨(n2.add ((al).toNat*2)).block,(n2.add ((al).toNat*2)).off+1,none⟩=some (.int .i64 ((aq l1 al).f1))) (ds:=[]) (mb 0 35) (by kernel_rfl) rfl rfl (jo lN.1 ⟨(mX HB.1 Ca :),⟨(mX HB.1 Cb :),⟨(mX HB.1 GB :),(mX HB.1 GC :)⟩⟩⟩) (fun hHeld=>?_);refine kK cp.zw cp.y6 (fun HT_ HW_=>?_);generalize wr.drew=RR at lN HB vV vW Ch Ci hHeld ⊢
         refine an 0 13 HT_.1 (mb 1 34) ?_;refine an 1 14 HT_.1 (mb 2 33) ?_;refine an 2 15 HT_.1 (mb 3 32) ?_;refine an 3 16 HT_.1 (mb 4 31) ?_;refine bC 4 17 HT_.1 HW_.1 (mb 5 30) hHeld ?_;refine dA 5 (some 18) HT_.1 (mb 6 29) (fun K hK=>?_);refine e8 Try.func48 (by kernel_rfl) rfl #[.string ((aq l1 al).f0)] (by rfl) rfl rfl mA ?_
         with_reducible refine(eO.calls k1 ((aq l1 al).f0) true _ A7.1).mono ?_
         rintro e w' ⟨rfl,⟨nd,rfl⟩⟩;refine⟨_,rfl,?_⟩;refine hK.out _ _ (jo lN.1 ⟨(mX HB.1 Ca :),⟨(mX HB.1 Cb :),⟨(mX HB.1 GB :),(mX HB.1 GC :)⟩⟩⟩) (fun hHeld=>?_);clear hK K;refine cO 18 ?_;refine an 6 19 HT_.1 (mb 7 28) ?_;refine an 7 20 HT_.1 (mb 8 27) ?_;refine an 9 22 HT_.1 (mr [8,1,1,25]) ?_;refine an 10 23 HT_.1 (mr [8,1,2,24]) ?_;refine an 11 24 HT_.1 (mr [8,1,3,23]) ?_;refine an 12 25 HT_.1 (mr [8,1,4,22]) ?_;refine bC 8 21 HT_.1 HW_.1 (mb 13 22) hHeld ?_;refine bC 13 26 HT_.1 HW_.1 (mb 14 21) hHeld ?_;refine dA 14 (some 27) HT_.1 (mb 15 20) (fun K hK=>?_);refine e8 Try.func68 (by kernel_rfl) rfl #[.agg #[.slice aE U.length az,.slice aw ab.length ax,.slice aA af.length aC,.int .i64 ah],.int .i64 ((aq l1 al).f1)] (by rfl) rfl rfl mA ?_
         with_reducible refine(lV.calls k1 _ _ U _ _ ab _ _ af ah ((aq l1 al).f1) t228 _ ?ar ?au ?aZ ?a6 ?bc ?bf A9.1).mono ?_
         (case ar=>exact mC (Kd.aX cF.1 (aY HB.1 sO.1)))
         (case au=>exact db.1)
         (case aZ=>exact mC (Kd.aX cr.1 (aY HB.1 sO.1)))
         (case a6=>exact cz.1)
         (case bc=>exact mC (Kd.aX cV.1 (aY HB.1 sO.1)))
         (case bf=>exact dc.1)
         rintro e vr ⟨rfl,hb⟩;refine⟨_,rfl,?_⟩;replace lN:=mB lN hb;replace HB:=J (aG (aY HB.1 sO.1) hb)
         (try clear hb)
         (try clear ff)
         (try clear hk)
         (try clear hi)
         refine hK.out _ _ (jo lN.1 ⟨(mX HB.1 Ca :),⟨(mX HB.1 Cb :),⟨(mX HB.1 GB :),(mX HB.1 GC :)⟩⟩⟩) (fun hHeld=>?_);clear hK K;refine cO 27 ?_;refine an 15 28 HT_.1 (mb 16 19) ?_;refine an 16 29 HT_.1 (mb 17 18) ?_;refine an 17 30 HT_.1 (mb 18 17) ?_;refine an 18 31 HT_.1 (mb 19 16) ?_;refine an 19 32 HT_.1 (mb 20 15) ?_;refine an 20 33 HT_.1 (mb 21 14) ?_;refine aU 21 34 HT_.1 (mb 22 13) ?_;refine aU 22 35 HT_.1 (mb 23 12) ?_;refine aU 23 36 HT_.1 (mb 24 11) ?_;refine aU 24 37 HT_.1 (mb 25 10) ?_;refine aU 25 38 HT_.1 (mb 26 9) ?_;refine aU 26 39 HT_.1 (mb 27 8) ?_;refine aU 27 40 HT_.1 (mb 28 7) ?_;refine aU 28 41 HT_.1 (mb 29 6) ?_;refine aU 29 42 HT_.1 (mb 30 5) ?_;refine aU 30 43 HT_.1 (mb 31 4) ?_;refine aU 31 44 HT_.1 (mb 32 3) ?_;refine aU 32 45 HT_.1 (mb 33 2) ?_;refine an 33 46 HT_.1 (mb 34 1) ?_;refine an 34 47 HT_.1 (mb 35 0) ?_;refine jX (kC HT_.1 (by kernel_rfl)) ?_
         try go_wp2
         go_meet
         case rel=>exact⟨_,(false),mE,H',⟨by have:=bI.1;first|omega|exact Nat.le_refl _⟩,⟨mK lN.1⟩,⟨(aY HB.1 sO.1)⟩⟩
      ·replace c8:=Bool.eq_false_iff.mpr c8;subst c8;have H1:=H;rw[if_neg (show ¬(false=true) by decide)]at H1;clear H;have H:=H1;clear H1;have H':=J H;clear H
       try go_wp2
       replace lN:=J (dH lN.1);replace HB:=J (hG HB.1);have AF:0≤(al:Int):=mD;have AK:al<(l1.length:Int):=mD;obtain⟨n2,Pu,vV,vW⟩:=lB nY.1 al AF AK;have Cb:=vW;have Ca:=vV;cases Pu
       replace vV:=mX HB.1 vV;replace vW:=mX HB.1 vW;replace AF:=eq_true AF;replace AK:=eq_true AK;refine j5 (n:=35) (S:=fun w'=>w'.cell? (n2.add ((al).toNat*2))=some (.string ((aq l1 al).f0))∧w'.cell? ⟨(n2.add ((al).toNat*2)).block,(n2.add ((al).toNat*2)).off+1,none⟩=some (.int .i64 ((aq l1 al).f1))) (ds:=[]) (mb 0 35) (by kernel_rfl) rfl rfl ⟨(mX HB.1 Ca :),(mX HB.1 Cb :)⟩ (fun hHeld=>?_);refine kK cp.zw cp.y6 (fun HT_ HW_=>?_);generalize wr.drew=Ua at lN HB vV vW hHeld ⊢
       refine an 0 13 HT_.1 (mb 1 34) ?_;refine an 1 14 HT_.1 (mb 2 33) ?_;refine an 2 15 HT_.1 (mb 3 32) ?_;refine an 3 16 HT_.1 (mb 4 31) ?_;refine bC 4 17 HT_.1 HW_.1 (mb 5 30) hHeld ?_;refine dA 5 (some 18) HT_.1 (mb 6 29) (fun K hK=>?_);refine e8 Try.func48 (by kernel_rfl) rfl #[.string ((aq l1 al).f0)] (by rfl) rfl rfl mA ?_
       with_reducible refine(eO.calls k1 ((aq l1 al).f0) false _ A7.1).mono ?_
       rintro e w' ⟨rfl,⟨nd,rfl⟩⟩;refine⟨_,rfl,?_⟩;refine hK.out _ _ ⟨(mX HB.1 Ca :),(mX HB.1 Cb :)⟩ (fun hHeld=>?_);clear hK K;refine cO 18 ?_;refine an 6 19 HT_.1 (mb 7 28) ?_;refine an 7 20 HT_.1 (mb 8 27) ?_;refine aU 8 21 HT_.1 (mb 9 26) ?_;refine aU 9 22 HT_.1 (mb 10 25) ?_;refine aU 10 23 HT_.1 (mb 11 24) ?_;refine aU 11 24 HT_.1 (mb 12 23) ?_;refine aU 12 25 HT_.1 (mb 13 22) ?_;refine aU 13 26 HT_.1 (mb 14 21) ?_;refine aU 14 27 HT_.1 (mb 15 20) ?_;refine aU 15 28 HT_.1 (mb 16 19) ?_;refine an 16 29 HT_.1 (mb 17 18) ?_;refine an 17 30 HT_.1 (mb 18 17) ?_;refine aU 18 31 HT_.1 (mb 19 16) ?_;refine aU 19 32 HT_.1 (mb 20 15) ?_;refine aU 20 33 HT_.1 (mb 21 14) ?_;refine aU 21 34 HT_.1 (mb 22 13) ?_;refine aU 22 35 HT_.1 (mb 23 12) ?_;refine aU 23 36 HT_.1 (mb 24 11) ?_;refine aU 24 37 HT_.1 (mb 25 10) ?_;refine aU 25 38 HT_.1 (mb 26 9) ?_;refine aU 26 39 HT_.1 (mb 27 8) ?_;refine aU 27 40 HT_.1 (mb 28 7) ?_;refine aU 28 41 HT_.1 (mb 29 6) ?_;refine aU 29 42 HT_.1 (mb 30 5) ?_;refine aU 30 43 HT_.1 (mb 31 4) ?_;refine aU 31 44 HT_.1 (mb 32 3) ?_;refine aU 32 45 HT_.1 (mb 33 2) ?_;refine aU 33 46 HT_.1 (mb 34 1) ?_;refine an 34 47 HT_.1 (mb 35 0) ?_;refine jX (kC HT_.1 (by kernel_rfl)) ?_
       try go_wp2
       go_meet
       case rel=>exact⟨_,(true),mE,H',⟨by have:=bI.1;first|omega|exact Nat.le_refl _⟩,⟨mK lN.1⟩,⟨(aY HB.1 sO.1)⟩⟩
     ·rw[if_neg c6]at H;exact absurd H (by simp)
    case rest=>
     clear ON
     try clear c1
     try clear c4
     obtain⟨kq,aef,rfl,HA,OR,lN,HB⟩:=hcut;cases kq with
     |zero=>exact absurd HA.1 (by simp[cp.j1])
     |succ kj4=>
      have H:=HA.1;clear HA;simp only[cp.j1]at H;by_cases lS:aef=true
      ·subst lS;have H1:=H;rw[if_pos rfl]at H1;clear H;have H:=H1;clear H1;obtain rfl:=Option.some.inj H;go_wp2;go_ret;exact⟨cS,(aY HB.1 sO.1)⟩
      ·replace lS:=Bool.eq_false_iff.mpr lS;subst lS;have H1:=H;rw[if_neg (show ¬(false=true) by decide)]at H1;clear H;have H:=H1;clear H1;have H':=J H;clear H;go_wp2;go_loopg [6] kj4 (fun kq v6 w'=>∃(mN:Int),v6 = .int .i64 mN∧Aside0 (cp.l1 kq l1 al mN U ab af ah=some r)∧Aside0 (kq≤kj4)∧Aside0 (w'.heap[As]? = some (.cells #[(.slice aE U.length az),(.slice aw ab.length ax),(.slice aA af.length aC),.int .i64 ah] 30 (0,0)))∧Aside0 (Below w.heap.size w w'))
       case atStart=>exact⟨(0),mE,H',⟨Nat.le_refl _⟩,⟨mK lN.1⟩,⟨(aY HB.1 sO.1)⟩⟩
       case round=>
        clear H'
        try clear c1
        try clear c4
        try clear lS
        obtain⟨mN,rfl,HA,uJ,lN,HB⟩:=hrel;cases gk with
        |zero=>exact absurd HA.1 (by simp[cp.l1])
        |succ k3=>
         have H:=HA.1;clear HA;simp only[cp.l1]at H;by_cases lT:mN<al
         ·rw[if_pos lT]at H;have SR:=decide_eq_true lT;clear lT;by_cases rS:0≤mN
          ·rw[if_pos rS]at H;have agC:=decide_eq_true rS;clear rS;by_cases BL:mN<(l1.length:Int)
           ·rw[if_pos BL]at H;have aKr:=decide_eq_true BL;clear BL;by_cases vQ:0≤al
            ·rw[if_pos vQ]at H;have aKs:=decide_eq_true vQ;clear vQ;by_cases c27:al<(l1.length:Int)
             ·rw[if_pos c27]at H;have aKt:=decide_eq_true c27;clear c27;by_cases Ep:((aq l1 mN).f1)=((aq l1 al).f1)
              ·rw[if_pos Ep]at H;have ay2:(((aq l1 mN).f1) == ((aq l1 al).f1))=true:=beq_iff_eq.mpr Ep;have ay3:(((aq l1 mN).f1) != ((aq l1 al).f1))=false:=bne_eq_false_iff_eq.mpr Ep;clear Ep;obtain rfl:=Option.some.inj H
               try go_wp2
               replace lN:=J (dH lN.1);replace HB:=J (hG HB.1);have QX:0≤(mN:Int):=mD;have Rn:mN<(l1.length:Int):=mD;obtain⟨Ae,ag1,KD,KE⟩:=lB nY.1 mN QX Rn;have ajU:=KE;have ajT:=KD;cases ag1
               replace KD:=mX HB.1 KD;replace KE:=mX HB.1 KE;replace QX:=eq_true QX;replace Rn:=eq_true Rn;have QY:0≤(al:Int):=mD;have Ro:al<(l1.length:Int):=mD;obtain⟨agn,ag2,KF,KG⟩:=lB nY.1 al QY Ro;have ajW:=KG;have ajV:=KF;obtain rfl:Ae=agn:=(by injection ag2);replace KF:=mX HB.1 KF;replace KG:=mX HB.1 KG;replace QY:=eq_true QY;replace Ro:=eq_true Ro;refine j5 (n:=11) (S:=fun w'=>w'.cell? (Ae.add ((mN).toNat*2))=some (.string ((aq l1 mN).f0))∧w'.cell? ⟨(Ae.add ((mN).toNat*2)).block,(Ae.add ((mN).toNat*2)).off+1,none⟩=some (.int .i64 ((aq l1 mN).f1))∧w'.cell? (Ae.add ((al).toNat*2))=some (.string ((aq l1 al).f0))∧w'.cell? ⟨(Ae.add ((al).toNat*2)).block,(Ae.add ((al).toNat*2)).off+1,none⟩=some (.int .i64 ((aq l1 al).f1))) (ds:=[]) (mb 0 11) (by kernel_rfl) rfl rfl ⟨(mX HB.1 ajT :),(mX HB.1 ajU :),(mX HB.1 ajV :),(mX HB.1 ajW :)⟩ (fun hHeld=>?_);refine kK cp.at0 cp.anV (fun HT_ HW_=>?_);generalize wr.drew=RS at lN HB KD KE KF KG hHeld ⊢
               refine an 0 53 HT_.1 (mb 1 10) ?_;refine an 1 54 HT_.1 (mb 2 9) ?_;refine an 2 55 HT_.1 (mb 3 8) ?_;refine an 3 56 HT_.1 (mb 4 7) ?_;refine an 5 58 HT_.1 (mr [4,1,1,5]) ?_;refine an 6 59 HT_.1 (mr [4,1,2,4]) ?_;refine an 7 60 HT_.1 (mr [4,1,3,3]) ?_;refine an 8 61 HT_.1 (mr [4,1,4,2]) ?_;refine bC 4 57 HT_.1 HW_.1 (mb 9 2) hHeld ?_;refine bC 9 62 HT_.1 HW_.1 (mb 10 1) hHeld ?_;refine an 10 63 HT_.1 (mb 11 0) ?_;refine jX (kC HT_.1 (by kernel_rfl)) ?_
               try go_wp2
               go_ret;exact⟨cS,(aY HB.1 sO.1)⟩
              ·rw[if_neg Ep]at H;have ay2:(((aq l1 mN).f1) == ((aq l1 al).f1))=false:=beq_eq_false_iff_ne.mpr Ep;have ay3:(((aq l1 mN).f1) != ((aq l1 al).f1))=true:=bne_iff_ne.mpr Ep;have H':=J H;clear H
               try go_wp2
               replace lN:=J (dH lN.1);replace HB:=J (hG HB.1);have QX:0≤(mN:Int):=mD;have Rn:mN<(l1.length:Int):=mD;obtain⟨Ae,ag1,KD,KE⟩:=lB nY.1 mN QX Rn;have ajU:=KE;have ajT:=KD;cases ag1
               replace KD:=mX HB.1 KD;replace KE:=mX HB.1 KE;replace QX:=eq_true QX;replace Rn:=eq_true Rn;have QY:0≤(al:Int):=mD;have Ro:al<(l1.length:Int):=mD;obtain⟨agn,ag2,KF,KG⟩:=lB nY.1 al QY Ro;have ajW:=KG;have ajV:=KF;obtain rfl:Ae=agn:=(by injection ag2);replace KF:=mX HB.1 KF;replace KG:=mX HB.1 KG;replace QY:=eq_true QY;replace Ro:=eq_true Ro;refine j5 (n:=11) (S:=fun w'=>w'.cell? (Ae.add ((mN).toNat*2))=some (.string ((aq l1 mN).f0))∧w'.cell? ⟨(Ae.add ((mN).toNat*2)).block,(Ae.add ((mN).toNat*2)).off+1,none⟩=some (.int .i64 ((aq l1 mN).f1))∧w'.cell? (Ae.add ((al).toNat*2))=some (.string ((aq l1 al).f0))∧w'.cell? ⟨(Ae.add ((al).toNat*2)).block,(Ae.add ((al).toNat*2)).off+1,none⟩=some (.int .i64 ((aq l1 al).f1))) (ds:=[]) (mb 0 11) (by kernel_rfl) rfl rfl ⟨(mX HB.1 ajT :),(mX HB.1 ajU :),(mX HB.1 ajV :),(mX HB.1 ajW :)⟩ (fun hHeld=>?_);refine kK cp.at0 cp.anV (fun HT_ HW_=>?_);generalize wr.drew=RT at lN HB KD KE KF KG hHeld ⊢
               refine an 0 53 HT_.1 (mb 1 10) ?_;refine an 1 54 HT_.1 (mb 2 9) ?_;refine an 2 55 HT_.1 (mb 3 8) ?_;refine an 3 56 HT_.1 (mb 4 7) ?_;refine an 5 58 HT_.1 (mr [4,1,1,5]) ?_;refine an 6 59 HT_.1 (mr [4,1,2,4]) ?_;refine an 7 60 HT_.1 (mr [4,1,3,3]) ?_;refine an 8 61 HT_.1 (mr [4,1,4,2]) ?_;refine bC 4 57 HT_.1 HW_.1 (mb 9 2) hHeld ?_;refine bC 9 62 HT_.1 HW_.1 (mb 10 1) hHeld ?_;refine an 10 63 HT_.1 (mb 11 0) ?_;refine jX (kC HT_.1 (by kernel_rfl)) ?_
               try go_wp2
               go_roundg k3
               case measure=>have:=bI.1;have:=OR.1;have:=uJ.1;omega
               case rel=>exact⟨(wrap64 (mN+1)),mE,H',⟨by have:=bI.1;have:=OR.1;have:=uJ.1;omega⟩,⟨mK lN.1⟩,⟨(aY HB.1 sO.1)⟩⟩
             ·rw[if_neg c27]at H;exact absurd H (by simp)
            ·rw[if_neg vQ]at H;exact absurd H (by simp)
           ·rw[if_neg BL]at H;exact absurd H (by simp)
          ·rw[if_neg rS]at H;exact absurd H (by simp)
         ·rw[if_neg lT]at H;have SR:=decide_eq_false lT;clear lT;have H':=J H;clear H;go_wp2;go_roundg k3
          case measure=>have:=bI.1;have:=OR.1;have:=uJ.1;omega
          case rel=>exact⟨(wrap64 (al+1)),mE,H',⟨by have:=bI.1;have:=OR.1;have:=uJ.1;omega⟩,⟨mK lN.1⟩,⟨(aY HB.1 sO.1)⟩⟩
   ·rw[if_neg c4]at H;have jm:=decide_eq_false c4;clear c4;obtain rfl:=Option.some.inj H;go_wp2;go_ret;exact⟨cS,(aY HB.1 sO.1)⟩
mutual
def bL.j0:Nat→Bool→List (ak)→List (ai)→List (ai)→Int→Option (Bool)
 |0,_,_,_,_,_=>none
 |k+1,x15,kz,yN,yO,Bc=>if x15=true then (some false) else (bL.l0 k 0 0 kz yN yO Bc)
def bL.l0:Nat→Int→Int→List (ak)→List (ai)→List (ai)→Int→Option (Bool)
 |0,_,_,_,_,_,_=>none
 |k+1,x3,x4,kz,yN,yO,Bc=>if x4<(kz.length:Int) then (if 0≤x4 then ((gY.f ((aa kz x4).f0) 1 (wrap64 (Bc-1))).bind fun t237=>(if t237=true then (if x4>0 then (if 0≤(wrap64 (x4-1)) then (if (wrap64 (x4-1))<(kz.length:Int) then (if ((aa kz (wrap64 (x4-1))).f0)≥((aa kz x4).f0) then (bL.j2 k x3 x4 true kz yN yO Bc ((aa kz x4).f0) ((aa kz x4).f1) ((aa kz x4).f2)) else ((gY.f ((aa kz x4).f2) 0 (((aa kz x4).f1).length:Int)).bind fun t239=>(if t239=true then ((fS.f k yN ((aa kz x4).f0)).bind fun t240=>(if t240=true then (bL.j2 k x3 x4 false kz yN yO Bc ((aa kz x4).f0) ((aa kz x4).f1) ((aa kz x4).f2)) else ((fS.f k yO ((aa kz x4).f0)).bind fun t241=>(bL.j2 k x3 x4 (!t241) kz yN yO Bc ((aa kz x4).f0) ((aa kz x4).f1) ((aa kz x4).f2))))) else (bL.j2 k x3 x4 true kz yN yO Bc ((aa kz x4).f0) ((aa kz x4).f1) ((aa kz x4).f2))))) else (none)) else (none)) else ((gY.f ((aa kz x4).f2) 0 (((aa kz x4).f1).length:Int)).bind fun t242=>(if t242=true then ((fS.f k yN ((aa kz x4).f0)).bind fun t243=>(if t243=true then (bL.j2 k x3 x4 false kz yN yO Bc ((aa kz x4).f0) ((aa kz x4).f1) ((aa kz x4).f2)) else ((fS.f k yO ((aa kz x4).f0)).bind fun t244=>(bL.j2 k x3 x4 (!t244) kz yN yO Bc ((aa kz x4).f0) ((aa kz x4).f1) ((aa kz x4).f2))))) else (bL.j2 k x3 x4 true kz yN yO Bc ((aa kz x4).f0) ((aa kz x4).f1) ((aa kz x4).f2))))) else (bL.j2 k x3 x4 true kz yN yO Bc ((aa kz x4).f0) ((aa kz x4).f1) ((aa kz x4).f2)))) else (none)) else (if x3≤60000 then ((cp.f k kz yN yO Bc yN).bind fun t245=>(if t245=true then ((cp.f k kz yN yO Bc yO).bind fun t246=>(some t246)) else (some false))) else (some false))
def bL.j2:Nat→Int→Int→Bool→List (ak)→List (ai)→List (ai)→Int→Int→List Int→Int→Option (Bool)
 |0,_,_,_,_,_,_,_,_,_,_=>none
 |k+1,x3,x4,x75,kz,yN,yO,Bc,aUS,aIU,aUT=>if x75=true then (some false) else (bL.l0 k (wrap64 (x3+(aIU.length:Int))) (wrap64 (x4+1)) kz yN yO Bc)
end
def bL.f (k:Nat) (U:List (ak)) (ab:List (ai)) (af:List (ai)) (ah:Int):Option (Bool):=(gY.f ah 1 1000000).bind fun t234=>(if t234=true then (bL.j0 k (decide ((U.length:Int)>60)) U ab af ah) else (bL.j0 k true U ab af ah))
def bL.T8:Bool × List (List Nat × List Nat):=(true,[([],[]),([0],[0]),([],[]),([2],[2]),([3],[3]),([1,4],[1,4]),([5],[5]),([6,5],[6]),([7],[7]),([8,7],[7,8]),([9,7,7],[7,9]),([10],[10]),([11,10],[10,11]),([10],[10]),([13,10],[10,13]),([12,14,10],[10,12,14]),([15,10],[10,15]),([16,10],[10,16]),([10],[10]),([18,10],[10,18]),([17,19,10],[10,17,19]),([10,20,7],[7,10,20]),([7,21],[7,21]),([22,10],[22]),([23],[23]),([24,23],[23,24]),([23],[23]),([26,23],[23,26]),([27,23],[23,27]),([25,28,23,23],[23,25,28]),([29,23],[23,29]),([23,30],[23,30]),([31,29],[31]),([32],[32]),([33,32],[32,33]),([32],[32]),([35,32],[32,35]),([34,36,32,32],[32,34,36]),([37,32],[32,37]),([38,37,32],[32,38]),([39],[39]),([40,39],[39,40]),([39],[39]),([42,39],[39,42]),([41,43,39,39],[39,41,43]),([44,39],[39,44]),([39,45,32],[32,39,45]),([32,46],[32,46])])
def bL.B8:List Nat:=[0,1,0,4,12,31,63,127,255,511,1023,2047,4095,2047,10239,32767,65535,131071,2047,264191,1048575,2097151,4194303,8388607,16777215,33554431,16777215,83886079,218103807,536870911,1073741823,2147483647,4294967295,8589934591,17179869183,8589934591,42949672959,137438953471,274877906943,549755813887,1099511627775,2199023255551,1099511627775,5497558138879,17592186044415,35184372088831,70368744177663,140737488355327]
theorem bL.N1:kS .any (opsOf Try.f66 8)=bL.T8:=by kernel_rfl
theorem bL.Mb:qw bL.T8.2 bL.B8=true:=by kernel_rfl
set_option maxHeartbeats 8000000 in
set_option maxRecDepth 100000 in
theorem bL.calls (k:Nat) (aE:Option Addr) (az:Nat) (U:List (ak)) (aw:Option Addr) (ax:Nat) (ab:List (ai)) (aA:Option Addr) (aC:Nat) (af:List (ai)) (ah:Int) (r:Bool) (w:World) (eZ:Kd.C bF w aE U.length U) (eX:U.length≤az) (ek:Kd.C aK w aw ab.length ab) (ej:ab.length≤ax) (e6:Kd.C aK w aA af.length af) (eY:af.length≤aC) (h:bL.f k U ab af ah=some r) :
 Calls Try.prog 66 #[.agg #[.slice aE U.length az,.slice aw ab.length ax,.slice aA af.length aC,.int .i64 ah]] w fun e w'=>e = .returned (.bool r)∧Below w.heap.size w w':=by
 have qj:=Try.underlying30;have Gz:=Try.underlying80;have cF:=J eZ;have db:=J eX;clear eZ eX;have cr:=J ek;have cz:=J ej;clear ek ej;have cV:=J e6;have dc:=J eY;clear e6 eY;have HB:=J (Below.refl w.heap.size w);have H:((gY.f ah 1 1000000).bind fun t234=>(if t234=true then (bL.j0 k (decide ((U.length:Int)>60)) U ab af ah) else (bL.j0 k true U ab af ah)))=some r:=h;clear h;have uH:=J H;clear H;go_enter Try.func66,Try.ntmps66;go_upto_region 1 with (first|((with_reducible refine bB (N:=1) rfl ?_);(try (refine ab7 (by rfl) ?_;dsimp only));refine bO 1 #[.slice aE U.length az,.slice aw ab.length ax,.slice aA af.length aC,.int .i64 ah] 30 ?_;intro l7 hg w3 hbox hb;have dO:=J (hbox);have aJy:=mG hg (mH HB.1);have nF:=mG hg (mH HB.1);replace HB:=J (aG (mH HB.1) hb);clear hb hbox hg))
 (try simp only[Act.put,zA,zB,zC])
 go_cut [15] (fun v15 wc=>∃(kq:Nat) (ad5:Bool),v15 = .bool ad5∧Aside0 (bL.j0 kq ad5 U ab af ah=some r)∧Aside0 (kq≤k)∧Aside0 (wc.heap[l7]? = some (.cells #[(.slice aE U.length az),(.slice aw ab.length ax),(.slice aA af.length aC),.int .i64 ah] 30 (0,0)))∧Aside0 (Below w.heap.size w wc))
 case first=>
  have H:=uH.1;clear uH;replace H:=Option.bind_eq_some_iff.mp H;obtain⟨t234,jF,H⟩:=H;replace H:(if t234=true then (bL.j0 k (decide ((U.length:Int)>60)) U ab af ah) else (bL.j0 k true U ab af ah))=some r:=H;have A4:=J jF;clear jF;by_cases c5:t234=true
  ·subst c5;have H1:=H;rw[if_pos rfl]at H1;clear H;have H:=H1;clear H1;have H':=J H;clear H;obtain⟨aiv,aiw,aix,apM,ajj,ajk,ajl,aqT⟩:=bb dO.1;go_wp2_with (first|((with_reducible refine bw (f:=89) rfl ?_);refine bH 8 Try.func89 #[.int .i64 ah,.int .i64 1,.int .i64 1000000] ?_;(with_reducible refine(gY.calls ah 1 1000000 true _ A4.1).mono ?_);rintro e w' ⟨rfl,⟨nd,rfl⟩⟩;refine⟨_,rfl,?_⟩));go_meet
   case rel=>exact⟨_,(decide ((U.length:Int)>60)),mE,H',⟨by first|omega|exact Nat.le_refl _⟩,⟨mK dO.1⟩,⟨(aY HB.1 nF.1)⟩⟩
  ·replace c5:=Bool.eq_false_iff.mpr c5;subst c5;have H1:=H;rw[if_neg (show ¬(false=true) by decide)]at H1;clear H;have H:=H1;clear H1;have H':=J H;clear H;obtain⟨aiy,aiz,aCt,aCu,ajm,ajn,aEF,aEG⟩:=bb dO.1;go_wp2_with (first|((with_reducible refine bw (f:=89) rfl ?_);refine bH 8 Try.func89 #[.int .i64 ah,.int .i64 1,.int .i64 1000000] ?_;(with_reducible refine(gY.calls ah 1 1000000 false _ A4.1).mono ?_);rintro e w' ⟨rfl,⟨nd,rfl⟩⟩;refine⟨_,rfl,?_⟩));go_meet
   case rel=>exact⟨_,(true),mE,H',⟨by first|omega|exact Nat.le_refl _⟩,⟨mK dO.1⟩,⟨(aY HB.1 nF.1)⟩⟩
 case rest=>
  clear uH
  obtain⟨kq,ad5,rfl,HA,H2,dO,HB⟩:=hcut;cases kq with
  |zero=>exact absurd HA.1 (by simp[bL.j0])
  |succ kj1=>
   have H:=HA.1;clear HA;simp only[bL.j0]at H;by_cases c8:ad5=true
   ·subst c8;have H1:=H;rw[if_pos rfl]at H1;clear H;have H:=H1;clear H1;obtain rfl:=Option.some.inj H;go_wp2;go_ret;exact⟨cS,(aY HB.1 nF.1)⟩
   ·replace c8:=Bool.eq_false_iff.mpr c8;subst c8;have H1:=H;rw[if_neg (show ¬(false=true) by decide)]at H1;clear H;have H:=H1;clear H1;have H':=J H;clear H;go_wp2;go_loopg [3,4] kj1 (fun kq v3 v4 w'=>∃(j8:Int) (ba:Int),v3 = .int .i64 j8∧v4 = .int .i64 ba∧Aside0 (bL.l0 kq j8 ba U ab af ah=some r)∧Aside0 (kq≤kj1)∧Aside0 (w'.heap[l7]? = some (.cells #[(.slice aE U.length az),(.slice aw ab.length ax),(.slice aA af.length aC),.int .i64 ah] 30 (0,0)))∧Aside0 (Below w.heap.size w w'))
    case atStart=>exact⟨(0),(0),mE,mE,H',⟨Nat.le_refl _⟩,⟨mK dO.1⟩,⟨(aY HB.1 nF.1)⟩⟩
    case round=>
     clear H'
     try clear c8
     obtain⟨j8,ba,rfl,rfl,HA,oL,dO,HB⟩:=hrel;cases gk with
     |zero=>exact absurd HA.1 (by simp[bL.l0])
     |succ k2=>
      have H:=HA.1;clear HA;simp only[bL.l0]at H;by_cases c9:ba<(U.length:Int)
      ·rw[if_pos c9]at H;have qg:=decide_eq_true c9;clear c9;by_cases qH:0≤ba
       ·rw[if_pos qH]at H;have Il:=decide_eq_true qH;clear qH;have OK:=J H;clear H;obtain⟨ao7,ao8,ao9,apa,aqf,aqg,aqh,aqi⟩:=bb dO.1;have akw:0≤(ba:Int):=mD;have akO:ba<(U.length:Int):=mD;obtain⟨my,ov,oB,azw,atd,ate,atf,ari,aq9⟩:=ny cF.1 ba akw akO;cases azw
        replace atd:=mX HB.1 atd;replace ate:=mX HB.1 ate;replace atf:=mX HB.1 atf;have aKc:=J aq9;have aJ3:=J ari;clear aq9 ari;replace akw:=eq_true akw;replace akO:=eq_true akO;go_upto_region 8 with (first|((with_reducible refine bB (N:=5) rfl ?_);(try (refine ab7 (by rfl) ?_;dsimp only));refine bO 5 #[.int .i64 0,.slice none 0 0,.int .i64 0] 80 ?_;intro jC hg nN hbox hb;have fp:=J (hbox);have aJz:=mG hg (aY HB.1 nF.1);have sf:=mG hg (aY HB.1 nF.1);replace HB:=J (aG (aY HB.1 nF.1) hb);have H9:=bV hg dO.1;have anm:=bU hg dO.1;replace dO:=mB dO hb;clear hb hbox hg;have Kp:=anm.1;have Kq:=H9.1;obtain⟨Ka,PS,PT,Ki,P5,P6⟩:=oS fp.1))
        (try simp only[Act.put,zA,zB,zC])
        go_cut [75] (fun v75 wc=>∃(kq:Nat) (aek:Bool),v75 = .bool aek∧Aside0 (bL.j2 kq j8 ba aek U ab af ah ((aa U ba).f0) ((aa U ba).f1) ((aa U ba).f2)=some r)∧Aside0 (kq≤k2)∧Aside0 (wc.heap[l7]? = some (.cells #[(.slice (some my) U.length az),(.slice aw ab.length ax),(.slice aA af.length aC),.int .i64 ah] 30 (0,0)))∧Aside0 (wc.heap[jC]? = some (.cells #[.int .i64 ((aa U ba).f0),(.slice ov ((aa U ba).f1).length oB),.int .i64 ((aa U ba).f2)] 80 (0,0)))∧Aside0 (Below w.heap.size w wc))
        case first=>
         have H:=OK.1;clear OK;replace H:=Option.bind_eq_some_iff.mp H;obtain⟨t237,xv,H⟩:=H;replace H:(if t237=true then (if ba>0 then (if 0≤(wrap64 (ba-1)) then (if (wrap64 (ba-1))<(U.length:Int) then (if ((aa U (wrap64 (ba-1))).f0)≥((aa U ba).f0) then (bL.j2 k2 j8 ba true U ab af ah ((aa U ba).f0) ((aa U ba).f1) ((aa U ba).f2)) else ((gY.f ((aa U ba).f2) 0 (((aa U ba).f1).length:Int)).bind fun t239=>(if t239=true then ((fS.f k2 ab ((aa U ba).f0)).bind fun t240=>(if t240=true then (bL.j2 k2 j8 ba false U ab af ah ((aa U ba).f0) ((aa U ba).f1) ((aa U ba).f2)) else ((fS.f k2 af ((aa U ba).f0)).bind fun t241=>(bL.j2 k2 j8 ba (!t241) U ab af ah ((aa U ba).f0) ((aa U ba).f1) ((aa U ba).f2))))) else (bL.j2 k2 j8 ba true U ab af ah ((aa U ba).f0) ((aa U ba).f1) ((aa U ba).f2))))) else (none)) else (none)) else ((gY.f ((aa U ba).f2) 0 (((aa U ba).f1).length:Int)).bind fun t242=>(if t242=true then ((fS.f k2 ab ((aa U ba).f0)).bind fun t243=>(if t243=true then (bL.j2 k2 j8 ba false U ab af ah ((aa U ba).f0) ((aa U ba).f1) ((aa U ba).f2)) else ((fS.f k2 af ((aa U ba).f0)).bind fun t244=>(bL.j2 k2 j8 ba (!t244) U ab af ah ((aa U ba).f0) ((aa U ba).f1) ((aa U ba).f2))))) else (bL.j2 k2 j8 ba true U ab af ah ((aa U ba).f0) ((aa U ba).f1) ((aa U ba).f2))))) else (bL.j2 k2 j8 ba true U ab af ah ((aa U ba).f0) ((aa U ba).f1) ((aa U ba).f2)))=some r:=H;have zG:=J xv;clear xv;by_cases vP:t237=true
         ·subst vP;have H1:=H;rw[if_pos rfl]at H1;clear H;have H:=H1;clear H1;by_cases pc:ba>0
          ·rw[if_pos pc]at H;have Io:decide (0<ba)=true:=decide_eq_true pc;clear pc
           (first|rw[Io]|(simp only[kE,lE];rw[Io])|skip)
           obtain⟨fu,IJ⟩:∃j_:Int,(wrap64 (ba-1))=j_:=⟨_,rfl⟩;replace H:(if 0≤(fu) then (if (fu)<(U.length:Int) then (if ((aa U (fu)).f0)≥((aa U ba).f0) then (bL.j2 k2 j8 ba true U ab af ah ((aa U ba).f0) ((aa U ba).f1) ((aa U ba).f2)) else ((gY.f ((aa U ba).f2) 0 (((aa U ba).f1).length:Int)).bind fun t239=>(if t239=true then ((fS.f k2 ab ((aa U ba).f0)).bind fun t240=>(if t240=true then (bL.j2 k2 j8 ba false U ab af ah ((aa U ba).f0) ((aa U ba).f1) ((aa U ba).f2)) else ((fS.f k2 af ((aa U ba).f0)).bind fun t241=>(bL.j2 k2 j8 ba (!t241) U ab af ah ((aa U ba).f0) ((aa U ba).f1) ((aa U ba).f2))))) else (bL.j2 k2 j8 ba true U ab af ah ((aa U ba).f0) ((aa U ba).f1) ((aa U ba).f2))))) else (none)) else (none))=some r:=by first|(rw[IJ]at H;exact H)|(simp only[IJ]at H ⊢;exact H)
           (try rw[IJ]at zG)
           have aEN:(IntKind.i64.wrap (ba-1))=fu:=(kE _).trans IJ;by_cases sl:0≤(fu)
           ·rw[if_pos sl]at H;have ayX:=decide_eq_true sl;clear sl;by_cases pd:(fu)<(U.length:Int)
            ·rw[if_pos pd]at H;have Eo:=decide_eq_true pd;clear pd;by_cases lS:((aa U (fu)).f0)≥((aa U ba).f0)
             ·rw[if_pos lS]at H;have J0:decide (((aa U ba).f0)≤((aa U (fu)).f0))=true:=decide_eq_true lS;clear lS;have H':=J H;clear H
              try go_wp2
              generalize hW_:(((nN.setCell ⟨jC,0,none⟩ (.int .i64 ((aa U ba).f0))).setCell ⟨jC,1,none⟩ (.slice ov ((aa U ba).f1).length oB)).setCell ⟨jC,2,none⟩ (.int .i64 ((aa U ba).f2)))=N4
              replace dO:Aside0 (N4.heap[l7]? = some (.cells #[.slice (some my) U.length az,.slice aw ab.length ax,.slice aA af.length aC,.int .i64 ah] 30 (0,0))):=by rw[←hW_];exact⟨bQ H9.1 dO.1⟩
              replace fp:Aside0 (N4.heap[jC]? = some (.cells #[.int .i64 ((aa U ba).f0),.slice ov ((aa U ba).f1).length oB,.int .i64 ((aa U ba).f2)] 80 (0,0))):=by rw[←hW_];exact⟨by refine mK ?_;refine aW (cs:=#[.int .i64 ((aa U ba).f0),.slice ov ((aa U ba).f1).length oB,.int .i64 0]) ?_ 2 _ rfl;refine mK ?_;refine aW (cs:=#[.int .i64 ((aa U ba).f0),.slice none 0 0,.int .i64 0]) ?_ 1 _ rfl;refine mK ?_;refine aW (cs:=#[.int .i64 0,.slice none 0 0,.int .i64 0]) ?_ 0 _ rfl;refine mK ?_;exact fp.1⟩
              replace HB:Aside0 (Below w.heap.size w N4):=by rw[←hW_];exact⟨(aT HB.1 nF.1 sf.1)⟩
              clear hW_;replace dO:=J (dH dO.1);replace fp:=J (dH fp.1);replace HB:=J (hG HB.1);have AG:0≤((fu):Int):=mD;have AL:(fu)<(U.length:Int):=mD;obtain⟨Pe,Ow,Pp,Pv,vX,vY,vZ,Gs,Gp⟩:=ny cF.1 (fu) AG AL;have yr:=vZ;have yq:=vY;have yp:=vX;obtain rfl:my=Pe:=(by injection Pv);replace vX:=mX HB.1 vX;replace vY:=mX HB.1 vY;replace vZ:=mX HB.1 vZ;have OU:=J Gp;have afa:=J Gs;clear Gp Gs;replace AG:=eq_true AG;replace AL:=eq_true AL;refine j5 (n:=48) (S:=fun w'=>w'.cell? ⟨jC,0,none⟩=some (.int .i64 ((aa U ba).f0))∧w'.cell? ⟨jC,1,none⟩=some (.slice ov ((aa U ba).f1).length oB)∧w'.cell? ⟨jC,2,none⟩=some (.int .i64 ((aa U ba).f2))∧w'.cell? ⟨l7,0,none⟩=some (.slice (some my) U.length az)∧w'.cell? ⟨l7,1,none⟩=some (.slice aw ab.length ax)∧w'.cell? ⟨l7,2,none⟩=some (.slice aA af.length aC)∧w'.cell? ⟨l7,3,none⟩=some (.int .i64 ah)∧w'.cell? (my.add (((fu)).toNat*3))=some (.int .i64 ((aa U (fu)).f0))∧w'.cell? ⟨(my.add (((fu)).toNat*3)).block,(my.add (((fu)).toNat*3)).off+1,none⟩=some (.slice Ow ((aa U (fu)).f1).length Pp)∧w'.cell? ⟨(my.add (((fu)).toNat*3)).block,(my.add (((fu)).toNat*3)).off+2,none⟩=some (.int .i64 ((aa U (fu)).f2))) (ds:=[]) (mb 0 48) (by kernel_rfl) rfl rfl (jZ fp.1 (jo dO.1 ⟨(mX HB.1 yp :),⟨(mX HB.1 yq :),(mX HB.1 yr :)⟩⟩)) (fun hHeld=>?_);refine kK bL.N1 bL.Mb (fun HT_ HW_=>?_);generalize N4.drew=ES at dO fp HB OU vX vY vZ hHeld ⊢
              refine an 0 28 HT_.1 (mb 1 47) ?_;refine an 2 30 HT_.1 (mr [1,1,1,45]) ?_;refine bC 1 29 HT_.1 HW_.1 (mb 3 45) hHeld ?_;refine bC 3 31 HT_.1 HW_.1 (mb 4 44) hHeld ?_;refine an 4 32 HT_.1 (mb 5 43) ?_;refine dA 5 (some 33) HT_.1 (mb 6 42) (fun K hK=>?_);refine e8 Try.func89 (by kernel_rfl) rfl #[.int .i64 ((aa U ba).f0),.int .i64 1,.int .i64 (wrap64 (ah-1))] (by rfl) rfl rfl mA ?_
              with_reducible refine(gY.calls ((aa U ba).f0) 1 (wrap64 (ah-1)) true _ zG.1).mono ?_
              rintro e w' ⟨rfl,⟨nd,rfl⟩⟩;refine⟨_,rfl,?_⟩;refine hK.out _ _ (jZ fp.1 (jo dO.1 ⟨(mX HB.1 yp :),⟨(mX HB.1 yq :),(mX HB.1 yr :)⟩⟩)) (fun hHeld=>?_);clear hK K;refine cO 33 ?_;refine an 6 34 HT_.1 (mb 7 41) ?_;refine an 7 35 HT_.1 (mb 8 40) ?_;refine an 8 36 HT_.1 (mb 9 39) ?_;refine an 9 37 HT_.1 (mb 10 38) ?_;refine an 10 38 HT_.1 (mb 11 37) ?_;refine an 11 39 HT_.1 (mb 12 36) ?_;refine an 13 41 HT_.1 (mr [12,1,1,34]) ?_;refine an 14 42 HT_.1 (mr [12,1,2,33]) ?_;refine an 18 46 HT_.1 (mr [12,1,2,3,1,29]) ?_;refine bC 12 40 HT_.1 HW_.1 (mr [15,3,1,29]) hHeld ?_;refine an 15 43 HT_.1 (mr [16,2,1,29]) ?_;refine an 16 44 HT_.1 (mr [17,1,1,29]) ?_;refine bC 17 45 HT_.1 HW_.1 (mb 19 29) hHeld ?_;refine bC 19 47 HT_.1 HW_.1 (mb 20 28) hHeld ?_;refine an 20 48 HT_.1 (mb 21 27) ?_;refine an 21 49 HT_.1 (mb 22 26) ?_;refine an 22 50 HT_.1 (mb 23 25) ?_;refine an 23 51 HT_.1 (mb 24 24) ?_;refine aU 24 52 HT_.1 (mb 25 23) ?_;refine aU 25 53 HT_.1 (mb 26 22) ?_;refine aU 26 54 HT_.1 (mb 27 21) ?_;refine aU 27 55 HT_.1 (mb 28 20) ?_;refine aU 28 56 HT_.1 (mb 29 19) ?_;refine aU 29 57 HT_.1 (mb 30 18) ?_;refine aU 30 58 HT_.1 (mb 31 17) ?_;refine an 31 59 HT_.1 (mb 32 16) ?_;refine an 32 60 HT_.1 (mb 33 15) ?_;refine aU 33 61 HT_.1 (mb 34 14) ?_;refine aU 34 62 HT_.1 (mb 35 13) ?_;refine aU 35 63 HT_.1 (mb 36 12) ?_;refine aU 36 64 HT_.1 (mb 37 11) ?_;refine aU 37 65 HT_.1 (mb 38 10) ?_;refine aU 38 66 HT_.1 (mb 39 9) ?_;refine aU 39 67 HT_.1 (mb 40 8) ?_;refine aU 40 68 HT_.1 (mb 41 7) ?_;refine aU 41 69 HT_.1 (mb 42 6) ?_;refine aU 42 70 HT_.1 (mb 43 5) ?_;refine aU 43 71 HT_.1 (mb 44 4) ?_;refine aU 44 72 HT_.1 (mb 45 3) ?_;refine aU 45 73 HT_.1 (mb 46 2) ?_;refine aU 46 74 HT_.1 (mb 47 1) ?_;refine an 47 75 HT_.1 (mb 48 0) ?_;refine jX (kC HT_.1 (by kernel_rfl)) ?_
              try go_wp2
              go_meet
              case rel=>exact⟨_,(true),mE,H',⟨by have:=H2.1;have:=oL.1;first|omega|exact Nat.le_refl _⟩,⟨mK dO.1⟩,⟨mK fp.1⟩,⟨(aT HB.1 nF.1 sf.1)⟩⟩
             ·rw[if_neg lS]at H;have J0:decide (((aa U ba).f0)≤((aa U (fu)).f0))=false:=decide_eq_false lS;clear lS;replace H:=Option.bind_eq_some_iff.mp H;obtain⟨t239,LA,H⟩:=H;replace H:(if t239=true then ((fS.f k2 ab ((aa U ba).f0)).bind fun t240=>(if t240=true then (bL.j2 k2 j8 ba false U ab af ah ((aa U ba).f0) ((aa U ba).f1) ((aa U ba).f2)) else ((fS.f k2 af ((aa U ba).f0)).bind fun t241=>(bL.j2 k2 j8 ba (!t241) U ab af ah ((aa U ba).f0) ((aa U ba).f1) ((aa U ba).f2))))) else (bL.j2 k2 j8 ba true U ab af ah ((aa U ba).f0) ((aa U ba).f1) ((aa U ba).f2)))=some r:=H;have Ox:=J LA;clear LA;by_cases vQ:t239=true
              ·subst vQ;have H1:=H;rw[if_pos rfl]at H1;clear H;have H:=H1;clear H1;replace H:=Option.bind_eq_some_iff.mp H;obtain⟨t240,Vg,H⟩:=H;replace H:(if t240=true then (bL.j2 k2 j8 ba false U ab af ah ((aa U ba).f0) ((aa U ba).f1) ((aa U ba).f2)) else ((fS.f k2 af ((aa U ba).f0)).bind fun t241=>(bL.j2 k2 j8 ba (!t241) U ab af ah ((aa U ba).f0) ((aa U ba).f1) ((aa U ba).f2))))=some r:=H;have A27:=J Vg;clear Vg;by_cases Ep:t240=true
               ·subst Ep;have H1:=H;rw[if_pos rfl]at H1;clear H;have H:=H1;clear H1;have H':=J H;clear H
                try go_wp2
                generalize hW_:(((nN.setCell ⟨jC,0,none⟩ (.int .i64 ((aa U ba).f0))).setCell ⟨jC,1,none⟩ (.slice ov ((aa U ba).f1).length oB)).setCell ⟨jC,2,none⟩ (.int .i64 ((aa U ba).f2)))=RS
                replace dO:Aside0 (RS.heap[l7]? = some (.cells #[.slice (some my) U.length az,.slice aw ab.length ax,.slice aA af.length aC,.int .i64 ah] 30 (0,0))):=by rw[←hW_];exact⟨bQ H9.1 dO.1⟩
                replace fp:Aside0 (RS.heap[jC]? = some (.cells #[.int .i64 ((aa U ba).f0),.slice ov ((aa U ba).f1).length oB,.int .i64 ((aa U ba).f2)] 80 (0,0))):=by rw[←hW_];exact⟨by refine mK ?_;refine aW (cs:=#[.int .i64 ((aa U ba).f0),.slice ov ((aa U ba).f1).length oB,.int .i64 0]) ?_ 2 _ rfl;refine mK ?_;refine aW (cs:=#[.int .i64 ((aa U ba).f0),.slice none 0 0,.int .i64 0]) ?_ 1 _ rfl;refine mK ?_;refine aW (cs:=#[.int .i64 0,.slice none 0 0,.int .i64 0]) ?_ 0 _ rfl;refine mK ?_;exact fp.1⟩
                replace HB:Aside0 (Below w.heap.size w RS):=by rw[←hW_];exact⟨(aT HB.1 nF.1 sf.1)⟩
                clear hW_;replace dO:=J (dH dO.1);replace fp:=J (dH fp.1);replace HB:=J (hG HB.1);have AG:0≤((fu):Int):=mD;have AL:(fu)<(U.length:Int):=mD;obtain⟨Pe,Ow,Pp,Pv,vX,vY,vZ,Gs,Gp⟩:=ny cF.1 (fu) AG AL;have yr:=vZ;have yq:=vY;have yp:=vX;obtain rfl:my=Pe:=(by injection Pv);replace vX:=mX HB.1 vX;replace vY:=mX HB.1 vY;replace vZ:=mX HB.1 vZ;have OU:=J Gp;have afa:=J Gs;clear Gp Gs;replace AG:=eq_true AG;replace AL:=eq_true AL;refine j5 (n:=48) (S:=fun w'=>w'.cell? ⟨jC,0,none⟩=some (.int .i64 ((aa U ba).f0))∧w'.cell? ⟨jC,1,none⟩=some (.slice ov ((aa U ba).f1).length oB)∧w'.cell? ⟨jC,2,none⟩=some (.int .i64 ((aa U ba).f2))∧w'.cell? ⟨l7,0,none⟩=some (.slice (some my) U.length az)∧w'.cell? ⟨l7,1,none⟩=some (.slice aw ab.length ax)∧w'.cell? ⟨l7,2,none⟩=some (.slice aA af.length aC)∧w'.cell? ⟨l7,3,none⟩=some (.int .i64 ah)∧w'.cell? (my.add (((fu)).toNat*3))=some (.int .i64 ((aa U (fu)).f0))∧w'.cell? ⟨(my.add (((fu)).toNat*3)).block,(my.add (((fu)).toNat*3)).off+1,none⟩=some (.slice Ow ((aa U (fu)).f1).length Pp)∧w'.cell? ⟨(my.add (((fu)).toNat*3)).block,(my.add (((fu)).toNat*3)).off+2,none⟩=some (.int .i64 ((aa U (fu)).f2))) (ds:=[]) (mb 0 48) (by kernel_rfl) rfl rfl (jZ fp.1 (jo dO.1 ⟨(mX HB.1 yp :),⟨(mX HB.1 yq :),(mX HB.1 yr :)⟩⟩)) (fun hHeld=>?_);refine kK bL.N1 bL.Mb (fun HT_ HW_=>?_);generalize RS.drew=RT at dO fp HB OU vX vY vZ hHeld ⊢
                refine an 0 28 HT_.1 (mb 1 47) ?_;refine an 2 30 HT_.1 (mr [1,1,1,45]) ?_;refine bC 1 29 HT_.1 HW_.1 (mb 3 45) hHeld ?_;refine bC 3 31 HT_.1 HW_.1 (mb 4 44) hHeld ?_;refine an 4 32 HT_.1 (mb 5 43) ?_;refine dA 5 (some 33) HT_.1 (mb 6 42) (fun K hK=>?_);refine e8 Try.func89 (by kernel_rfl) rfl #[.int .i64 ((aa U ba).f0),.int .i64 1,.int .i64 (wrap64 (ah-1))] (by rfl) rfl rfl mA ?_
                with_reducible refine(gY.calls ((aa U ba).f0) 1 (wrap64 (ah-1)) true _ zG.1).mono ?_
                rintro e w' ⟨rfl,⟨nd,rfl⟩⟩;refine⟨_,rfl,?_⟩;refine hK.out _ _ (jZ fp.1 (jo dO.1 ⟨(mX HB.1 yp :),⟨(mX HB.1 yq :),(mX HB.1 yr :)⟩⟩)) (fun hHeld=>?_);clear hK K;refine cO 33 ?_;refine an 6 34 HT_.1 (mb 7 41) ?_;refine an 7 35 HT_.1 (mb 8 40) ?_;refine an 8 36 HT_.1 (mb 9 39) ?_;refine an 9 37 HT_.1 (mb 10 38) ?_;refine an 10 38 HT_.1 (mb 11 37) ?_;refine an 11 39 HT_.1 (mb 12 36) ?_;refine an 13 41 HT_.1 (mr [12,1,1,34]) ?_;refine an 14 42 HT_.1 (mr [12,1,2,33]) ?_;refine an 18 46 HT_.1 (mr [12,1,2,3,1,29]) ?_;refine bC 12 40 HT_.1 HW_.1 (mr [15,3,1,29]) hHeld ?_;refine an 15 43 HT_.1 (mr [16,2,1,29]) ?_;refine an 16 44 HT_.1 (mr [17,1,1,29]) ?_;refine bC 17 45 HT_.1 HW_.1 (mb 19 29) hHeld ?_;refine bC 19 47 HT_.1 HW_.1 (mb 20 28) hHeld ?_;refine an 20 48 HT_.1 (mb 21 27) ?_;refine an 21 49 HT_.1 (mb 22 26) ?_;refine an 22 50 HT_.1 (mb 23 25) ?_;refine an 23 51 HT_.1 (mb 24 24) ?_;refine an 24 52 HT_.1 (mb 25 23) ?_;refine an 26 54 HT_.1 (mr [25,1,1,21]) ?_;refine bC 25 53 HT_.1 HW_.1 (mb 27 21) hHeld ?_;refine bC 27 55 HT_.1 HW_.1 (mb 28 20) hHeld ?_;refine an 28 56 HT_.1 (mb 29 19) ?_;refine dA 29 (some 57) HT_.1 (mb 30 18) (fun K hK=>?_);refine e8 Try.func89 (by kernel_rfl) rfl #[.int .i64 ((aa U ba).f2),.int .i64 0,.int .i64 (((aa U ba).f1).length:Int)] (by rfl) rfl rfl mA ?_
                with_reducible refine(gY.calls ((aa U ba).f2) 0 (((aa U ba).f1).length:Int) true _ Ox.1).mono ?_
                rintro e w' ⟨rfl,⟨nd,rfl⟩⟩;refine⟨_,rfl,?_⟩;refine hK.out _ _ (jZ fp.1 (jo dO.1 ⟨(mX HB.1 yp :),⟨(mX HB.1 yq :),(mX HB.1 yr :)⟩⟩)) (fun hHeld=>?_);clear hK K;refine cO 57 ?_;refine an 30 58 HT_.1 (mb 31 17) ?_;refine an 31 59 HT_.1 (mb 32 16) ?_;refine an 32 60 HT_.1 (mb 33 15) ?_;refine an 33 61 HT_.1 (mb 34 14) ?_;refine an 35 63 HT_.1 (mr [34,1,1,12]) ?_;refine bC 34 62 HT_.1 HW_.1 (mb 36 12) hHeld ?_;refine bC 36 64 HT_.1 HW_.1 (mb 37 11) hHeld ?_;refine dA 37 (some 65) HT_.1 (mb 38 10) (fun K hK=>?_);refine e8 Try.func100 (by kernel_rfl) rfl #[.slice aw ab.length ax,.int .i64 ((aa U ba).f0)] (by rfl) rfl rfl mA ?_
                with_reducible refine(fS.calls k2 _ _ ab ((aa U ba).f0) true _ ?ar ?au A27.1).mono ?_
                (case ar=>exact mC (Kd.aX cr.1 (aT HB.1 nF.1 sf.1)))
                (case au=>exact cz.1)
                rintro e w' ⟨rfl,⟨nd,rfl⟩⟩;refine⟨_,rfl,?_⟩;refine hK.out _ _ (jZ fp.1 (jo dO.1 ⟨(mX HB.1 yp :),⟨(mX HB.1 yq :),(mX HB.1 yr :)⟩⟩)) (fun hHeld=>?_);clear hK K;refine cO 65 ?_;refine an 38 66 HT_.1 (mb 39 9) ?_;refine an 39 67 HT_.1 (mb 40 8) ?_;refine aU 40 68 HT_.1 (mb 41 7) ?_;refine aU 41 69 HT_.1 (mb 42 6) ?_;refine aU 42 70 HT_.1 (mb 43 5) ?_;refine aU 43 71 HT_.1 (mb 44 4) ?_;refine aU 44 72 HT_.1 (mb 45 3) ?_;refine aU 45 73 HT_.1 (mb 46 2) ?_;refine an 46 74 HT_.1 (mb 47 1) ?_;refine an 47 75 HT_.1 (mb 48 0) ?_;refine jX (kC HT_.1 (by kernel_rfl)) ?_
                try go_wp2
                go_meet
                case rel=>exact⟨_,(false),mE,H',⟨by have:=H2.1;have:=oL.1;first|omega|exact Nat.le_refl _⟩,⟨mK dO.1⟩,⟨mK fp.1⟩,⟨(aT HB.1 nF.1 sf.1)⟩⟩
               ·replace Ep:=Bool.eq_false_iff.mpr Ep;subst Ep;have H1:=H;rw[if_neg (show ¬(false=true) by decide)]at H1;clear H;have H:=H1;clear H1;replace H:=Option.bind_eq_some_iff.mp H;obtain⟨t241,alV,H⟩:=H;replace H:(bL.j2 k2 j8 ba (!t241) U ab af ah ((aa U ba).f0) ((aa U ba).f1) ((aa U ba).f2))=some r:=H;have A31:=J alV;clear alV;have H':=J H;clear H
                try go_wp2
                generalize hW_:(((nN.setCell ⟨jC,0,none⟩ (.int .i64 ((aa U ba).f0))).setCell ⟨jC,1,none⟩ (.slice ov ((aa U ba).f1).length oB)).setCell ⟨jC,2,none⟩ (.int .i64 ((aa U ba).f2)))=ET
                replace dO:Aside0 (ET.heap[l7]? = some (.cells #[.slice (some my) U.length az,.slice aw ab.length ax,.slice aA af.length aC,.int .i64 ah] 30 (0,0))):=by rw[←hW_];exact⟨bQ H9.1 dO.1⟩
                replace fp:Aside0 (ET.heap[jC]? = some (.cells #[.int .i64 ((aa U ba).f0),.slice ov ((aa U ba).f1).length oB,.int .i64 ((aa U ba).f2)] 80 (0,0))):=by rw[←hW_];exact⟨by refine mK ?_;refine aW (cs:=#[.int .i64 ((aa U ba).f0),.slice ov ((aa U ba).f1).length oB,.int .i64 0]) ?_ 2 _ rfl;refine mK ?_;refine aW (cs:=#[.int .i64 ((aa U ba).f0),.slice none 0 0,.int .i64 0]) ?_ 1 _ rfl;refine mK ?_;refine aW (cs:=#[.int .i64 0,.slice none 0 0,.int .i64 0]) ?_ 0 _ rfl;refine mK ?_;exact fp.1⟩
                replace HB:Aside0 (Below w.heap.size w ET):=by rw[←hW_];exact⟨(aT HB.1 nF.1 sf.1)⟩
                clear hW_;replace dO:=J (dH dO.1);replace fp:=J (dH fp.1);replace HB:=J (hG HB.1);have AG:0≤((fu):Int):=mD;have AL:(fu)<(U.length:Int):=mD;obtain⟨Pe,Ow,Pp,Pv,vX,vY,vZ,Gs,Gp⟩:=ny cF.1 (fu) AG AL;have yr:=vZ;have yq:=vY;have yp:=vX;obtain rfl:my=Pe:=(by injection Pv);replace vX:=mX HB.1 vX;replace vY:=mX HB.1 vY;replace vZ:=mX HB.1 vZ;have OU:=J Gp;have afa:=J Gs;clear Gp Gs;replace AG:=eq_true AG;replace AL:=eq_true AL;refine j5 (n:=48) (S:=fun w'=>w'.cell? ⟨jC,0,none⟩=some (.int .i64 ((aa U ba).f0))∧w'.cell? ⟨jC,1,none⟩=some (.slice ov ((aa U ba).f1).length oB)∧w'.cell? ⟨jC,2,none⟩=some (.int .i64 ((aa U ba).f2))∧w'.cell? ⟨l7,0,none⟩=some (.slice (some my) U.length az)∧w'.cell? ⟨l7,1,none⟩=some (.slice aw ab.length ax)∧w'.cell? ⟨l7,2,none⟩=some (.slice aA af.length aC)∧w'.cell? ⟨l7,3,none⟩=some (.int .i64 ah)∧w'.cell? (my.add (((fu)).toNat*3))=some (.int .i64 ((aa U (fu)).f0))∧w'.cell? ⟨(my.add (((fu)).toNat*3)).block,(my.add (((fu)).toNat*3)).off+1,none⟩=some (.slice Ow ((aa U (fu)).f1).length Pp)∧w'.cell? ⟨(my.add (((fu)).toNat*3)).block,(my.add (((fu)).toNat*3)).off+2,none⟩=some (.int .i64 ((aa U (fu)).f2))) (ds:=[]) (mb 0 48) (by kernel_rfl) rfl rfl (jZ fp.1 (jo dO.1 ⟨(mX HB.1 yp :),⟨(mX HB.1 yq :),(mX HB.1 yr :)⟩⟩)) (fun hHeld=>?_);refine kK bL.N1 bL.Mb (fun HT_ HW_=>?_);generalize ET.drew=w33 at dO fp HB OU vX vY vZ hHeld ⊢
                refine an 0 28 HT_.1 (mb 1 47) ?_;refine an 2 30 HT_.1 (mr [1,1,1,45]) ?_;refine bC 1 29 HT_.1 HW_.1 (mb 3 45) hHeld ?_;refine bC 3 31 HT_.1 HW_.1 (mb 4 44) hHeld ?_;refine an 4 32 HT_.1 (mb 5 43) ?_;refine dA 5 (some 33) HT_.1 (mb 6 42) (fun K hK=>?_);refine e8 Try.func89 (by kernel_rfl) rfl #[.int .i64 ((aa U ba).f0),.int .i64 1,.int .i64 (wrap64 (ah-1))] (by rfl) rfl rfl mA ?_
                with_reducible refine(gY.calls ((aa U ba).f0) 1 (wrap64 (ah-1)) true _ zG.1).mono ?_
                rintro e w' ⟨rfl,⟨nd,rfl⟩⟩;refine⟨_,rfl,?_⟩;refine hK.out _ _ (jZ fp.1 (jo dO.1 ⟨(mX HB.1 yp :),⟨(mX HB.1 yq :),(mX HB.1 yr :)⟩⟩)) (fun hHeld=>?_);clear hK K;refine cO 33 ?_;refine an 6 34 HT_.1 (mb 7 41) ?_;refine an 7 35 HT_.1 (mb 8 40) ?_;refine an 8 36 HT_.1 (mb 9 39) ?_;refine an 9 37 HT_.1 (mb 10 38) ?_;refine an 10 38 HT_.1 (mb 11 37) ?_;refine an 11 39 HT_.1 (mb 12 36) ?_;refine an 13 41 HT_.1 (mr [12,1,1,34]) ?_;refine an 14 42 HT_.1 (mr [12,1,2,33]) ?_;refine an 18 46 HT_.1 (mr [12,1,2,3,1,29]) ?_;refine bC 12 40 HT_.1 HW_.1 (mr [15,3,1,29]) hHeld ?_;refine an 15 43 HT_.1 (mr [16,2,1,29]) ?_;refine an 16 44 HT_.1 (mr [17,1,1,29]) ?_;refine bC 17 45 HT_.1 HW_.1 (mb 19 29) hHeld ?_;refine bC 19 47 HT_.1 HW_.1 (mb 20 28) hHeld ?_;refine an 20 48 HT_.1 (mb 21 27) ?_;refine an 21 49 HT_.1 (mb 22 26) ?_;refine an 22 50 HT_.1 (mb 23 25) ?_;refine an 23 51 HT_.1 (mb 24 24) ?_;refine an 24 52 HT_.1 (mb 25 23) ?_;refine an 26 54 HT_.1 (mr [25,1,1,21]) ?_;refine bC 25 53 HT_.1 HW_.1 (mb 27 21) hHeld ?_;refine bC 27 55 HT_.1 HW_.1 (mb 28 20) hHeld ?_;refine an 28 56 HT_.1 (mb 29 19) ?_;refine dA 29 (some 57) HT_.1 (mb 30 18) (fun K hK=>?_);refine e8 Try.func89 (by kernel_rfl) rfl #[.int .i64 ((aa U ba).f2),.int .i64 0,.int .i64 (((aa U ba).f1).length:Int)] (by rfl) rfl rfl mA ?_
                with_reducible refine(gY.calls ((aa U ba).f2) 0 (((aa U ba).f1).length:Int) true _ Ox.1).mono ?_
                rintro e w' ⟨rfl,⟨nd,rfl⟩⟩;refine⟨_,rfl,?_⟩;refine hK.out _ _ (jZ fp.1 (jo dO.1 ⟨(mX HB.1 yp :),⟨(mX HB.1 yq :),(mX HB.1 yr :)⟩⟩)) (fun hHeld=>?_);clear hK K;refine cO 57 ?_;refine an 30 58 HT_.1 (mb 31 17) ?_;refine an 31 59 HT_.1 (mb 32 16) ?_;refine an 32 60 HT_.1 (mb 33 15) ?_;refine an 33 61 HT_.1 (mb 34 14) ?_;refine an 35 63 HT_.1 (mr [34,1,1,12]) ?_;refine bC 34 62 HT_.1 HW_.1 (mb 36 12) hHeld ?_;refine bC 36 64 HT_.1 HW_.1 (mb 37 11) hHeld ?_;refine dA 37 (some 65) HT_.1 (mb 38 10) (fun K hK=>?_);refine e8 Try.func100 (by kernel_rfl) rfl #[.slice aw ab.length ax,.int .i64 ((aa U ba).f0)] (by rfl) rfl rfl mA ?_
                with_reducible refine(fS.calls k2 _ _ ab ((aa U ba).f0) false _ ?ar ?au A27.1).mono ?_
                (case ar=>exact mC (Kd.aX cr.1 (aT HB.1 nF.1 sf.1)))
                (case au=>exact cz.1)
                rintro e w' ⟨rfl,⟨nd,rfl⟩⟩;refine⟨_,rfl,?_⟩;refine hK.out _ _ (jZ fp.1 (jo dO.1 ⟨(mX HB.1 yp :),⟨(mX HB.1 yq :),(mX HB.1 yr :)⟩⟩)) (fun hHeld=>?_);clear hK K;refine cO 65 ?_;refine an 38 66 HT_.1 (mb 39 9) ?_;refine an 39 67 HT_.1 (mb 40 8) ?_;refine an 40 68 HT_.1 (mb 41 7) ?_;refine an 42 70 HT_.1 (mr [41,1,1,5]) ?_;refine bC 41 69 HT_.1 HW_.1 (mb 43 5) hHeld ?_;refine bC 43 71 HT_.1 HW_.1 (mb 44 4) hHeld ?_;refine dA 44 (some 72) HT_.1 (mb 45 3) (fun K hK=>?_);refine e8 Try.func100 (by kernel_rfl) rfl #[.slice aA af.length aC,.int .i64 ((aa U ba).f0)] (by rfl) rfl rfl mA ?_
                with_reducible refine(fS.calls k2 _ _ af ((aa U ba).f0) t241 _ ?ar ?au A31.1).mono ?_
                (case ar=>exact mC (Kd.aX cV.1 (aT HB.1 nF.1 sf.1)))
                (case au=>exact dc.1)
                rintro e w' ⟨rfl,⟨nd,rfl⟩⟩;refine⟨_,rfl,?_⟩;refine hK.out _ _ (jZ fp.1 (jo dO.1 ⟨(mX HB.1 yp :),⟨(mX HB.1 yq :),(mX HB.1 yr :)⟩⟩)) (fun hHeld=>?_);clear hK K;refine cO 72 ?_;refine an 45 73 HT_.1 (mb 46 2) ?_;refine an 46 74 HT_.1 (mb 47 1) ?_;refine an 47 75 HT_.1 (mb 48 0) ?_;refine jX (kC HT_.1 (by kernel_rfl)) ?_
                try go_wp2
                go_meet
                case rel=>exact⟨_,(!t241),mE,H',⟨by have:=H2.1;have:=oL.1;first|omega|exact Nat.le_refl _⟩,⟨mK dO.1⟩,⟨mK fp.1⟩,⟨(aT HB.1 nF.1 sf.1)⟩⟩
              ·replace vQ:=Bool.eq_false_iff.mpr vQ;subst vQ;have H1:=H;rw[if_neg (show ¬(false=true) by decide)]at H1;clear H;have H:=H1;clear H1;have H':=J H;clear H
               try go_wp2
               generalize hW_:(((nN.setCell ⟨jC,0,none⟩ (.int .i64 ((aa U ba).f0))).setCell ⟨jC,1,none⟩ (.slice ov ((aa U ba).f1).length oB)).setCell ⟨jC,2,none⟩ (.int .i64 ((aa U ba).f2)))=I7
               replace dO:Aside0 (I7.heap[l7]? = some (.cells #[.slice (some my) U.length az,.slice aw ab.length ax,.slice aA af.length aC,.int .i64 ah] 30 (0,0))):=by rw[←hW_];exact⟨bQ H9.1 dO.1⟩
               replace fp:Aside0 (I7.heap[jC]? = some (.cells #[.int .i64 ((aa U ba).f0),.slice ov ((aa U ba).f1).length oB,.int .i64 ((aa U ba).f2)] 80 (0,0))):=by rw[←hW_];exact⟨by refine mK ?_;refine aW (cs:=#[.int .i64 ((aa U ba).f0),.slice ov ((aa U ba).f1).length oB,.int .i64 0]) ?_ 2 _ rfl;refine mK ?_;refine aW (cs:=#[.int .i64 ((aa U ba).f0),.slice none 0 0,.int .i64 0]) ?_ 1 _ rfl;refine mK ?_;refine aW (cs:=#[.int .i64 0,.slice none 0 0,.int .i64 0]) ?_ 0 _ rfl;refine mK ?_;exact fp.1⟩
               replace HB:Aside0 (Below w.heap.size w I7):=by rw[←hW_];exact⟨(aT HB.1 nF.1 sf.1)⟩
               clear hW_;replace dO:=J (dH dO.1);replace fp:=J (dH fp.1);replace HB:=J (hG HB.1);have AG:0≤((fu):Int):=mD;have AL:(fu)<(U.length:Int):=mD;obtain⟨Pe,Ow,Pp,Pv,vX,vY,vZ,Gs,Gp⟩:=ny cF.1 (fu) AG AL;have yr:=vZ;have yq:=vY;have yp:=vX;obtain rfl:my=Pe:=(by injection Pv);replace vX:=mX HB.1 vX;replace vY:=mX HB.1 vY;replace vZ:=mX HB.1 vZ;have OU:=J Gp;have afa:=J Gs;clear Gp Gs;replace AG:=eq_true AG;replace AL:=eq_true AL;refine j5 (n:=48) (S:=fun w'=>w'.cell? ⟨jC,0,none⟩=some (.int .i64 ((aa U ba).f0))∧w'.cell? ⟨jC,1,none⟩=some (.slice ov ((aa U ba).f1).length oB)∧w'.cell? ⟨jC,2,none⟩=some (.int .i64 ((aa U ba).f2))∧w'.cell? ⟨l7,0,none⟩=some (.slice (some my) U.length az)∧w'.cell? ⟨l7,1,none⟩=some (.slice aw ab.length ax)∧w'.cell? ⟨l7,2,none⟩=some (.slice aA af.length aC)∧w'.cell? ⟨l7,3,none⟩=some (.int .i64 ah)∧w'.cell? (my.add (((fu)).toNat*3))=some (.int .i64 ((aa U (fu)).f0))∧w'.cell? ⟨(my.add (((fu)).toNat*3)).block,(my.add (((fu)).toNat*3)).off+1,none⟩=some (.slice Ow ((aa U (fu)).f1).length Pp)∧w'.cell? ⟨(my.add (((fu)).toNat*3)).block,(my.add (((fu)).toNat*3)).off+2,none⟩=some (.int .i64 ((aa U (fu)).f2))) (ds:=[]) (mb 0 48) (by kernel_rfl) rfl rfl (jZ fp.1 (jo dO.1 ⟨(mX HB.1 yp :),⟨(mX HB.1 yq :),(mX HB.1 yr :)⟩⟩)) (fun hHeld=>?_);refine kK bL.N1 bL.Mb (fun HT_ HW_=>?_);generalize I7.drew=sa at dO fp HB OU vX vY vZ hHeld ⊢
               refine an 0 28 HT_.1 (mb 1 47) ?_;refine an 2 30 HT_.1 (mr [1,1,1,45]) ?_;refine bC 1 29 HT_.1 HW_.1 (mb 3 45) hHeld ?_;refine bC 3 31 HT_.1 HW_.1 (mb 4 44) hHeld ?_;refine an 4 32 HT_.1 (mb 5 43) ?_;refine dA 5 (some 33) HT_.1 (mb 6 42) (fun K hK=>?_);refine e8 Try.func89 (by kernel_rfl) rfl #[.int .i64 ((aa U ba).f0),.int .i64 1,.int .i64 (wrap64 (ah-1))] (by rfl) rfl rfl mA ?_
               with_reducible refine(gY.calls ((aa U ba).f0) 1 (wrap64 (ah-1)) true _ zG.1).mono ?_
               rintro e w' ⟨rfl,⟨nd,rfl⟩⟩;refine⟨_,rfl,?_⟩;refine hK.out _ _ (jZ fp.1 (jo dO.1 ⟨(mX HB.1 yp :),⟨(mX HB.1 yq :),(mX HB.1 yr :)⟩⟩)) (fun hHeld=>?_);clear hK K;refine cO 33 ?_;refine an 6 34 HT_.1 (mb 7 41) ?_;refine an 7 35 HT_.1 (mb 8 40) ?_;refine an 8 36 HT_.1 (mb 9 39) ?_;refine an 9 37 HT_.1 (mb 10 38) ?_;refine an 10 38 HT_.1 (mb 11 37) ?_;refine an 11 39 HT_.1 (mb 12 36) ?_;refine an 13 41 HT_.1 (mr [12,1,1,34]) ?_;refine an 14 42 HT_.1 (mr [12,1,2,33]) ?_;refine an 18 46 HT_.1 (mr [12,1,2,3,1,29]) ?_;refine bC 12 40 HT_.1 HW_.1 (mr [15,3,1,29]) hHeld ?_;refine an 15 43 HT_.1 (mr [16,2,1,29]) ?_;refine an 16 44 HT_.1 (mr [17,1,1,29]) ?_;refine bC 17 45 HT_.1 HW_.1 (mb 19 29) hHeld ?_;refine bC 19 47 HT_.1 HW_.1 (mb 20 28) hHeld ?_;refine an 20 48 HT_.1 (mb 21 27) ?_;refine an 21 49 HT_.1 (mb 22 26) ?_;refine an 22 50 HT_.1 (mb 23 25) ?_;refine an 23 51 HT_.1 (mb 24 24) ?_;refine an 24 52 HT_.1 (mb 25 23) ?_;refine an 26 54 HT_.1 (mr [25,1,1,21]) ?_;refine bC 25 53 HT_.1 HW_.1 (mb 27 21) hHeld ?_;refine bC 27 55 HT_.1 HW_.1 (mb 28 20) hHeld ?_;refine an 28 56 HT_.1 (mb 29 19) ?_;refine dA 29 (some 57) HT_.1 (mb 30 18) (fun K hK=>?_);refine e8 Try.func89 (by kernel_rfl) rfl #[.int .i64 ((aa U ba).f2),.int .i64 0,.int .i64 (((aa U ba).f1).length:Int)] (by rfl) rfl rfl mA ?_
               with_reducible refine(gY.calls ((aa U ba).f2) 0 (((aa U ba).f1).length:Int) false _ Ox.1).mono ?_
               rintro e w' ⟨rfl,⟨nd,rfl⟩⟩;refine⟨_,rfl,?_⟩;refine hK.out _ _ (jZ fp.1 (jo dO.1 ⟨(mX HB.1 yp :),⟨(mX HB.1 yq :),(mX HB.1 yr :)⟩⟩)) (fun hHeld=>?_);clear hK K;refine cO 57 ?_;refine an 30 58 HT_.1 (mb 31 17) ?_;refine an 31 59 HT_.1 (mb 32 16) ?_;refine an 32 60 HT_.1 (mb 33 15) ?_;refine aU 33 61 HT_.1 (mb 34 14) ?_;refine aU 34 62 HT_.1 (mb 35 13) ?_;refine aU 35 63 HT_.1 (mb 36 12) ?_;refine aU 36 64 HT_.1 (mb 37 11) ?_;refine aU 37 65 HT_.1 (mb 38 10) ?_;refine aU 38 66 HT_.1 (mb 39 9) ?_;refine aU 39 67 HT_.1 (mb 40 8) ?_;refine aU 40 68 HT_.1 (mb 41 7) ?_;refine aU 41 69 HT_.1 (mb 42 6) ?_;refine aU 42 70 HT_.1 (mb 43 5) ?_;refine aU 43 71 HT_.1 (mb 44 4) ?_;refine aU 44 72 HT_.1 (mb 45 3) ?_;refine aU 45 73 HT_.1 (mb 46 2) ?_;refine aU 46 74 HT_.1 (mb 47 1) ?_;refine an 47 75 HT_.1 (mb 48 0) ?_;refine jX (kC HT_.1 (by kernel_rfl)) ?_
               try go_wp2
               go_meet
               case rel=>exact⟨_,(true),mE,H',⟨by have:=H2.1;have:=oL.1;first|omega|exact Nat.le_refl _⟩,⟨mK dO.1⟩,⟨mK fp.1⟩,⟨(aT HB.1 nF.1 sf.1)⟩⟩
            ·rw[if_neg pd]at H;exact absurd H (by simp)
           ·rw[if_neg sl]at H;exact absurd H (by simp)
          ·rw[if_neg pc]at H;have Io:decide (0<ba)=false:=decide_eq_false pc;clear pc
           (first|rw[Io]|(simp only[kE,lE];rw[Io])|skip)
           replace H:=Option.bind_eq_some_iff.mp H;obtain⟨t242,Vj,H⟩:=H;replace H:(if t242=true then ((fS.f k2 ab ((aa U ba).f0)).bind fun t243=>(if t243=true then (bL.j2 k2 j8 ba false U ab af ah ((aa U ba).f0) ((aa U ba).f1) ((aa U ba).f2)) else ((fS.f k2 af ((aa U ba).f0)).bind fun t244=>(bL.j2 k2 j8 ba (!t244) U ab af ah ((aa U ba).f0) ((aa U ba).f1) ((aa U ba).f2))))) else (bL.j2 k2 j8 ba true U ab af ah ((aa U ba).f0) ((aa U ba).f1) ((aa U ba).f2)))=some r:=H;have Vi:=J Vj;clear Vj;by_cases c37:t242=true
           ·subst c37;have H1:=H;rw[if_pos rfl]at H1;clear H;have H:=H1;clear H1;replace H:=Option.bind_eq_some_iff.mp H;obtain⟨t243,alY,H⟩:=H;replace H:(if t243=true then (bL.j2 k2 j8 ba false U ab af ah ((aa U ba).f0) ((aa U ba).f1) ((aa U ba).f2)) else ((fS.f k2 af ((aa U ba).f0)).bind fun t244=>(bL.j2 k2 j8 ba (!t244) U ab af ah ((aa U ba).f0) ((aa U ba).f1) ((aa U ba).f2))))=some r:=H;have A38:=J alY;clear alY;by_cases BM:t243=true
            ·subst BM;have H1:=H;rw[if_pos rfl]at H1;clear H;have H:=H1;clear H1;have H':=J H;clear H
             try go_wp2
             generalize hW_:(((nN.setCell ⟨jC,0,none⟩ (.int .i64 ((aa U ba).f0))).setCell ⟨jC,1,none⟩ (.slice ov ((aa U ba).f1).length oB)).setCell ⟨jC,2,none⟩ (.int .i64 ((aa U ba).f2)))=N6
             replace dO:Aside0 (N6.heap[l7]? = some (.cells #[.slice (some my) U.length az,.slice aw ab.length ax,.slice aA af.length aC,.int .i64 ah] 30 (0,0))):=by rw[←hW_];exact⟨bQ H9.1 dO.1⟩
             replace fp:Aside0 (N6.heap[jC]? = some (.cells #[.int .i64 ((aa U ba).f0),.slice ov ((aa U ba).f1).length oB,.int .i64 ((aa U ba).f2)] 80 (0,0))):=by rw[←hW_];exact⟨by refine mK ?_;refine aW (cs:=#[.int .i64 ((aa U ba).f0),.slice ov ((aa U ba).f1).length oB,.int .i64 0]) ?_ 2 _ rfl;refine mK ?_;refine aW (cs:=#[.int .i64 ((aa U ba).f0),.slice none 0 0,.int .i64 0]) ?_ 1 _ rfl;refine mK ?_;refine aW (cs:=#[.int .i64 0,.slice none 0 0,.int .i64 0]) ?_ 0 _ rfl;refine mK ?_;exact fp.1⟩
             replace HB:Aside0 (Below w.heap.size w N6):=by rw[←hW_];exact⟨(aT HB.1 nF.1 sf.1)⟩
             clear hW_;replace dO:=J (dH dO.1);replace fp:=J (dH fp.1);replace HB:=J (hG HB.1);refine j5 (n:=48) (S:=fun w'=>w'.cell? ⟨jC,0,none⟩=some (.int .i64 ((aa U ba).f0))∧w'.cell? ⟨jC,1,none⟩=some (.slice ov ((aa U ba).f1).length oB)∧w'.cell? ⟨jC,2,none⟩=some (.int .i64 ((aa U ba).f2))∧w'.cell? ⟨l7,0,none⟩=some (.slice (some my) U.length az)∧w'.cell? ⟨l7,1,none⟩=some (.slice aw ab.length ax)∧w'.cell? ⟨l7,2,none⟩=some (.slice aA af.length aC)∧w'.cell? ⟨l7,3,none⟩=some (.int .i64 ah)) (ds:=[]) (mb 0 48) (by kernel_rfl) rfl rfl (jZ fp.1 (eT dO.1)) (fun hHeld=>?_);refine kK bL.N1 bL.Mb (fun HT_ HW_=>?_);generalize N6.drew=RV at dO fp HB hHeld ⊢
             refine an 0 28 HT_.1 (mb 1 47) ?_;refine an 2 30 HT_.1 (mr [1,1,1,45]) ?_;refine bC 1 29 HT_.1 HW_.1 (mb 3 45) hHeld ?_;refine bC 3 31 HT_.1 HW_.1 (mb 4 44) hHeld ?_;refine an 4 32 HT_.1 (mb 5 43) ?_;refine dA 5 (some 33) HT_.1 (mb 6 42) (fun K hK=>?_);refine e8 Try.func89 (by kernel_rfl) rfl #[.int .i64 ((aa U ba).f0),.int .i64 1,.int .i64 (wrap64 (ah-1))] (by rfl) rfl rfl mA ?_
             with_reducible refine(gY.calls ((aa U ba).f0) 1 (wrap64 (ah-1)) true _ zG.1).mono ?_
             rintro e w' ⟨rfl,⟨nd,rfl⟩⟩;refine⟨_,rfl,?_⟩;refine hK.out _ _ (jZ fp.1 (eT dO.1)) (fun hHeld=>?_);clear hK K;refine cO 33 ?_;refine an 6 34 HT_.1 (mb 7 41) ?_;refine an 7 35 HT_.1 (mb 8 40) ?_;refine an 8 36 HT_.1 (mb 9 39) ?_;refine an 9 37 HT_.1 (mb 10 38) ?_;refine an 10 38 HT_.1 (mb 11 37) ?_;refine aU 11 39 HT_.1 (mb 12 36) ?_;refine aU 12 40 HT_.1 (mb 13 35) ?_;refine aU 13 41 HT_.1 (mb 14 34) ?_;refine aU 14 42 HT_.1 (mb 15 33) ?_;refine aU 15 43 HT_.1 (mb 16 32) ?_;refine aU 16 44 HT_.1 (mb 17 31) ?_;refine aU 17 45 HT_.1 (mb 18 30) ?_;refine aU 18 46 HT_.1 (mb 19 29) ?_;refine aU 19 47 HT_.1 (mb 20 28) ?_;refine aU 20 48 HT_.1 (mb 21 27) ?_;refine an 21 49 HT_.1 (mb 22 26) ?_;refine an 22 50 HT_.1 (mb 23 25) ?_;refine an 23 51 HT_.1 (mb 24 24) ?_;refine an 24 52 HT_.1 (mb 25 23) ?_;refine an 26 54 HT_.1 (mr [25,1,1,21]) ?_;refine bC 25 53 HT_.1 HW_.1 (mb 27 21) hHeld ?_;refine bC 27 55 HT_.1 HW_.1 (mb 28 20) hHeld ?_;refine an 28 56 HT_.1 (mb 29 19) ?_;refine dA 29 (some 57) HT_.1 (mb 30 18) (fun K hK=>?_);refine e8 Try.func89 (by kernel_rfl) rfl #[.int .i64 ((aa U ba).f2),.int .i64 0,.int .i64 (((aa U ba).f1).length:Int)] (by rfl) rfl rfl mA ?_
             with_reducible refine(gY.calls ((aa U ba).f2) 0 (((aa U ba).f1).length:Int) true _ Vi.1).mono ?_
             rintro e w' ⟨rfl,⟨nd,rfl⟩⟩;refine⟨_,rfl,?_⟩;refine hK.out _ _ (jZ fp.1 (eT dO.1)) (fun hHeld=>?_);clear hK K;refine cO 57 ?_;refine an 30 58 HT_.1 (mb 31 17) ?_;refine an 31 59 HT_.1 (mb 32 16) ?_;refine an 32 60 HT_.1 (mb 33 15) ?_;refine an 33 61 HT_.1 (mb 34 14) ?_;refine an 35 63 HT_.1 (mr [34,1,1,12]) ?_;refine bC 34 62 HT_.1 HW_.1 (mb 36 12) hHeld ?_;refine bC 36 64 HT_.1 HW_.1 (mb 37 11) hHeld ?_;refine dA 37 (some 65) HT_.1 (mb 38 10) (fun K hK=>?_);refine e8 Try.func100 (by kernel_rfl) rfl #[.slice aw ab.length ax,.int .i64 ((aa U ba).f0)] (by rfl) rfl rfl mA ?_
             with_reducible refine(fS.calls k2 _ _ ab ((aa U ba).f0) true _ ?ar ?au A38.1).mono ?_
             (case ar=>exact mC (Kd.aX cr.1 (aT HB.1 nF.1 sf.1)))
             (case au=>exact cz.1)
             rintro e w' ⟨rfl,⟨nd,rfl⟩⟩;refine⟨_,rfl,?_⟩;refine hK.out _ _ (jZ fp.1 (eT dO.1)) (fun hHeld=>?_);clear hK K;refine cO 65 ?_;refine an 38 66 HT_.1 (mb 39 9) ?_;refine an 39 67 HT_.1 (mb 40 8) ?_;refine aU 40 68 HT_.1 (mb 41 7) ?_;refine aU 41 69 HT_.1 (mb 42 6) ?_;refine aU 42 70 HT_.1 (mb 43 5) ?_;refine aU 43 71 HT_.1 (mb 44 4) ?_;refine aU 44 72 HT_.1 (mb 45 3) ?_;refine aU 45 73 HT_.1 (mb 46 2) ?_;refine an 46 74 HT_.1 (mb 47 1) ?_;refine an 47 75 HT_.1 (mb 48 0) ?_;refine jX (kC HT_.1 (by kernel_rfl)) ?_
             try go_wp2
             go_meet
             case rel=>exact⟨_,(false),mE,H',⟨by have:=H2.1;have:=oL.1;first|omega|exact Nat.le_refl _⟩,⟨mK dO.1⟩,⟨mK fp.1⟩,⟨(aT HB.1 nF.1 sf.1)⟩⟩
            ·replace BM:=Bool.eq_false_iff.mpr BM;subst BM;have H1:=H;rw[if_neg (show ¬(false=true) by decide)]at H1;clear H;have H:=H1;clear H1;replace H:=Option.bind_eq_some_iff.mp H;obtain⟨t244,Vq,H⟩:=H;replace H:(bL.j2 k2 j8 ba (!t244) U ab af ah ((aa U ba).f0) ((aa U ba).f1) ((aa U ba).f2))=some r:=H;have Vp:=J Vq;clear Vq;have H':=J H;clear H
             try go_wp2
             generalize hW_:(((nN.setCell ⟨jC,0,none⟩ (.int .i64 ((aa U ba).f0))).setCell ⟨jC,1,none⟩ (.slice ov ((aa U ba).f1).length oB)).setCell ⟨jC,2,none⟩ (.int .i64 ((aa U ba).f2)))=Lp
             replace dO:Aside0 (Lp.heap[l7]? = some (.cells #[.slice (some my) U.length az,.slice aw ab.length ax,.slice aA af.length aC,.int .i64 ah] 30 (0,0))):=by rw[←hW_];exact⟨bQ H9.1 dO.1⟩
             replace fp:Aside0 (Lp.heap[jC]? = some (.cells #[.int .i64 ((aa U ba).f0),.slice ov ((aa U ba).f1).length oB,.int .i64 ((aa U ba).f2)] 80 (0,0))):=by rw[←hW_];exact⟨by refine mK ?_;refine aW (cs:=#[.int .i64 ((aa U ba).f0),.slice ov ((aa U ba).f1).length oB,.int .i64 0]) ?_ 2 _ rfl;refine mK ?_;refine aW (cs:=#[.int .i64 ((aa U ba).f0),.slice none 0 0,.int .i64 0]) ?_ 1 _ rfl;refine mK ?_;refine aW (cs:=#[.int .i64 0,.slice none 0 0,.int .i64 0]) ?_ 0 _ rfl;refine mK ?_;exact fp.1⟩
             replace HB:Aside0 (Below w.heap.size w Lp):=by rw[←hW_];exact⟨(aT HB.1 nF.1 sf.1)⟩
             clear hW_;replace dO:=J (dH dO.1);replace fp:=J (dH fp.1);replace HB:=J (hG HB.1);refine j5 (n:=48) (S:=fun w'=>w'.cell? ⟨jC,0,none⟩=some (.int .i64 ((aa U ba).f0))∧w'.cell? ⟨jC,1,none⟩=some (.slice ov ((aa U ba).f1).length oB)∧w'.cell? ⟨jC,2,none⟩=some (.int .i64 ((aa U ba).f2))∧w'.cell? ⟨l7,0,none⟩=some (.slice (some my) U.length az)∧w'.cell? ⟨l7,1,none⟩=some (.slice aw ab.length ax)∧w'.cell? ⟨l7,2,none⟩=some (.slice aA af.length aC)∧w'.cell? ⟨l7,3,none⟩=some (.int .i64 ah)) (ds:=[]) (mb 0 48) (by kernel_rfl) rfl rfl (jZ fp.1 (eT dO.1)) (fun hHeld=>?_);refine kK bL.N1 bL.Mb (fun HT_ HW_=>?_);generalize Lp.drew=Ue at dO fp HB hHeld ⊢
             refine an 0 28 HT_.1 (mb 1 47) ?_;refine an 2 30 HT_.1 (mr [1,1,1,45]) ?_;refine bC 1 29 HT_.1 HW_.1 (mb 3 45) hHeld ?_;refine bC 3 31 HT_.1 HW_.1 (mb 4 44) hHeld ?_;refine an 4 32 HT_.1 (mb 5 43) ?_;refine dA 5 (some 33) HT_.1 (mb 6 42) (fun K hK=>?_);refine e8 Try.func89 (by kernel_rfl) rfl #[.int .i64 ((aa U ba).f0),.int .i64 1,.int .i64 (wrap64 (ah-1))] (by rfl) rfl rfl mA ?_
             with_reducible refine(gY.calls ((aa U ba).f0) 1 (wrap64 (ah-1)) true _ zG.1).mono ?_
             rintro e w' ⟨rfl,⟨nd,rfl⟩⟩;refine⟨_,rfl,?_⟩;refine hK.out _ _ (jZ fp.1 (eT dO.1)) (fun hHeld=>?_);clear hK K;refine cO 33 ?_;refine an 6 34 HT_.1 (mb 7 41) ?_;refine an 7 35 HT_.1 (mb 8 40) ?_;refine an 8 36 HT_.1 (mb 9 39) ?_;refine an 9 37 HT_.1 (mb 10 38) ?_;refine an 10 38 HT_.1 (mb 11 37) ?_;refine aU 11 39 HT_.1 (mb 12 36) ?_;refine aU 12 40 HT_.1 (mb 13 35) ?_;refine aU 13 41 HT_.1 (mb 14 34) ?_;refine aU 14 42 HT_.1 (mb 15 33) ?_;refine aU 15 43 HT_.1 (mb 16 32) ?_;refine aU 16 44 HT_.1 (mb 17 31) ?_;refine aU 17 45 HT_.1 (mb 18 30) ?_;refine aU 18 46 HT_.1 (mb 19 29) ?_;refine aU 19 47 HT_.1 (mb 20 28) ?_;refine aU 20 48 HT_.1 (mb 21 27) ?_;refine an 21 49 HT_.1 (mb 22 26) ?_;refine an 22 50 HT_.1 (mb 23 25) ?_;refine an 23 51 HT_.1 (mb 24 24) ?_;refine an 24 52 HT_.1 (mb 25 23) ?_;refine an 26 54 HT_.1 (mr [25,1,1,21]) ?_;refine bC 25 53 HT_.1 HW_.1 (mb 27 21) hHeld ?_;refine bC 27 55 HT_.1 HW_.1 (mb 28 20) hHeld ?_;refine an 28 56 HT_.1 (mb 29 19) ?_;refine dA 29 (some 57) HT_.1 (mb 30 18) (fun K hK=>?_);refine e8 Try.func89 (by kernel_rfl) rfl #[.int .i64 ((aa U ba).f2),.int .i64 0,.int .i64 (((aa U ba).f1).length:Int)] (by rfl) rfl rfl mA ?_
             with_reducible refine(gY.calls ((aa U ba).f2) 0 (((aa U ba).f1).length:Int) true _ Vi.1).mono ?_
             rintro e w' ⟨rfl,⟨nd,rfl⟩⟩;refine⟨_,rfl,?_⟩;refine hK.out _ _ (jZ fp.1 (eT dO.1)) (fun hHeld=>?_);clear hK K;refine cO 57 ?_;refine an 30 58 HT_.1 (mb 31 17) ?_;refine an 31 59 HT_.1 (mb 32 16) ?_;refine an 32 60 HT_.1 (mb 33 15) ?_;refine an 33 61 HT_.1 (mb 34 14) ?_;refine an 35 63 HT_.1 (mr [34,1,1,12]) ?_;refine bC 34 62 HT_.1 HW_.1 (mb 36 12) hHeld ?_;refine bC 36 64 HT_.1 HW_.1 (mb 37 11) hHeld ?_;refine dA 37 (some 65) HT_.1 (mb 38 10) (fun K hK=>?_);refine e8 Try.func100 (by kernel_rfl) rfl #[.slice aw ab.length ax,.int .i64 ((aa U ba).f0)] (by rfl) rfl rfl mA ?_
             with_reducible refine(fS.calls k2 _ _ ab ((aa U ba).f0) false _ ?ar ?au A38.1).mono ?_
             (case ar=>exact mC (Kd.aX cr.1 (aT HB.1 nF.1 sf.1)))
             (case au=>exact cz.1)
             rintro e w' ⟨rfl,⟨nd,rfl⟩⟩;refine⟨_,rfl,?_⟩;refine hK.out _ _ (jZ fp.1 (eT dO.1)) (fun hHeld=>?_);clear hK K;refine cO 65 ?_;refine an 38 66 HT_.1 (mb 39 9) ?_;refine an 39 67 HT_.1 (mb 40 8) ?_;refine an 40 68 HT_.1 (mb 41 7) ?_;refine an 42 70 HT_.1 (mr [41,1,1,5]) ?_;refine bC 41 69 HT_.1 HW_.1 (mb 43 5) hHeld ?_;refine bC 43 71 HT_.1 HW_.1 (mb 44 4) hHeld ?_;refine dA 44 (some 72) HT_.1 (mb 45 3) (fun K hK=>?_);refine e8 Try.func100 (by kernel_rfl) rfl #[.slice aA af.length aC,.int .i64 ((aa U ba).f0)] (by rfl) rfl rfl mA ?_
             with_reducible refine(fS.calls k2 _ _ af ((aa U ba).f0) t244 _ ?ar ?au Vp.1).mono ?_
             (case ar=>exact mC (Kd.aX cV.1 (aT HB.1 nF.1 sf.1)))
             (case au=>exact dc.1)
             rintro e w' ⟨rfl,⟨nd,rfl⟩⟩;refine⟨_,rfl,?_⟩;refine hK.out _ _ (jZ fp.1 (eT dO.1)) (fun hHeld=>?_);clear hK K;refine cO 72 ?_;refine an 45 73 HT_.1 (mb 46 2) ?_;refine an 46 74 HT_.1 (mb 47 1) ?_;refine an 47 75 HT_.1 (mb 48 0) ?_;refine jX (kC HT_.1 (by kernel_rfl)) ?_
             try go_wp2
             go_meet
             case rel=>exact⟨_,(!t244),mE,H',⟨by have:=H2.1;have:=oL.1;first|omega|exact Nat.le_refl _⟩,⟨mK dO.1⟩,⟨mK fp.1⟩,⟨(aT HB.1 nF.1 sf.1)⟩⟩
           ·replace c37:=Bool.eq_false_iff.mpr c37;subst c37;have H1:=H;rw[if_neg (show ¬(false=true) by decide)]at H1;clear H;have H:=H1;clear H1;have H':=J H;clear H
            try go_wp2
            generalize hW_:(((nN.setCell ⟨jC,0,none⟩ (.int .i64 ((aa U ba).f0))).setCell ⟨jC,1,none⟩ (.slice ov ((aa U ba).f1).length oB)).setCell ⟨jC,2,none⟩ (.int .i64 ((aa U ba).f2)))=w45
            replace dO:Aside0 (w45.heap[l7]? = some (.cells #[.slice (some my) U.length az,.slice aw ab.length ax,.slice aA af.length aC,.int .i64 ah] 30 (0,0))):=by rw[←hW_];exact⟨bQ H9.1 dO.1⟩
            replace fp:Aside0 (w45.heap[jC]? = some (.cells #[.int .i64 ((aa U ba).f0),.slice ov ((aa U ba).f1).length oB,.int .i64 ((aa U ba).f2)] 80 (0,0))):=by rw[←hW_];exact⟨by refine mK ?_;refine aW (cs:=#[.int .i64 ((aa U ba).f0),.slice ov ((aa U ba).f1).length oB,.int .i64 0]) ?_ 2 _ rfl;refine mK ?_;refine aW (cs:=#[.int .i64 ((aa U ba).f0),.slice none 0 0,.int .i64 0]) ?_ 1 _ rfl;refine mK ?_;refine aW (cs:=#[.int .i64 0,.slice none 0 0,.int .i64 0]) ?_ 0 _ rfl;refine mK ?_;exact fp.1⟩
            replace HB:Aside0 (Below w.heap.size w w45):=by rw[←hW_];exact⟨(aT HB.1 nF.1 sf.1)⟩
            clear hW_;replace dO:=J (dH dO.1);replace fp:=J (dH fp.1);replace HB:=J (hG HB.1);refine j5 (n:=48) (S:=fun w'=>w'.cell? ⟨jC,0,none⟩=some (.int .i64 ((aa U ba).f0))∧w'.cell? ⟨jC,1,none⟩=some (.slice ov ((aa U ba).f1).length oB)∧w'.cell? ⟨jC,2,none⟩=some (.int .i64 ((aa U ba).f2))∧w'.cell? ⟨l7,0,none⟩=some (.slice (some my) U.length az)∧w'.cell? ⟨l7,1,none⟩=some (.slice aw ab.length ax)∧w'.cell? ⟨l7,2,none⟩=some (.slice aA af.length aC)∧w'.cell? ⟨l7,3,none⟩=some (.int .i64 ah)) (ds:=[]) (mb 0 48) (by kernel_rfl) rfl rfl (jZ fp.1 (eT dO.1)) (fun hHeld=>?_);refine kK bL.N1 bL.Mb (fun HT_ HW_=>?_);generalize w45.drew=Uf at dO fp HB hHeld ⊢
            refine an 0 28 HT_.1 (mb 1 47) ?_;refine an 2 30 HT_.1 (mr [1,1,1,45]) ?_;refine bC 1 29 HT_.1 HW_.1 (mb 3 45) hHeld ?_;refine bC 3 31 HT_.1 HW_.1 (mb 4 44) hHeld ?_;refine an 4 32 HT_.1 (mb 5 43) ?_;refine dA 5 (some 33) HT_.1 (mb 6 42) (fun K hK=>?_);refine e8 Try.func89 (by kernel_rfl) rfl #[.int .i64 ((aa U ba).f0),.int .i64 1,.int .i64 (wrap64 (ah-1))] (by rfl) rfl rfl mA ?_
            with_reducible refine(gY.calls ((aa U ba).f0) 1 (wrap64 (ah-1)) true _ zG.1).mono ?_
            rintro e w' ⟨rfl,⟨nd,rfl⟩⟩;refine⟨_,rfl,?_⟩;refine hK.out _ _ (jZ fp.1 (eT dO.1)) (fun hHeld=>?_);clear hK K;refine cO 33 ?_;refine an 6 34 HT_.1 (mb 7 41) ?_;refine an 7 35 HT_.1 (mb 8 40) ?_;refine an 8 36 HT_.1 (mb 9 39) ?_;refine an 9 37 HT_.1 (mb 10 38) ?_;refine an 10 38 HT_.1 (mb 11 37) ?_;refine aU 11 39 HT_.1 (mb 12 36) ?_;refine aU 12 40 HT_.1 (mb 13 35) ?_;refine aU 13 41 HT_.1 (mb 14 34) ?_;refine aU 14 42 HT_.1 (mb 15 33) ?_;refine aU 15 43 HT_.1 (mb 16 32) ?_;refine aU 16 44 HT_.1 (mb 17 31) ?_;refine aU 17 45 HT_.1 (mb 18 30) ?_;refine aU 18 46 HT_.1 (mb 19 29) ?_;refine aU 19 47 HT_.1 (mb 20 28) ?_;refine aU 20 48 HT_.1 (mb 21 27) ?_;refine an 21 49 HT_.1 (mb 22 26) ?_;refine an 22 50 HT_.1 (mb 23 25) ?_;refine an 23 51 HT_.1 (mb 24 24) ?_;refine an 24 52 HT_.1 (mb 25 23) ?_;refine an 26 54 HT_.1 (mr [25,1,1,21]) ?_;refine bC 25 53 HT_.1 HW_.1 (mb 27 21) hHeld ?_;refine bC 27 55 HT_.1 HW_.1 (mb 28 20) hHeld ?_;refine an 28 56 HT_.1 (mb 29 19) ?_;refine dA 29 (some 57) HT_.1 (mb 30 18) (fun K hK=>?_);refine e8 Try.func89 (by kernel_rfl) rfl #[.int .i64 ((aa U ba).f2),.int .i64 0,.int .i64 (((aa U ba).f1).length:Int)] (by rfl) rfl rfl mA ?_
            with_reducible refine(gY.calls ((aa U ba).f2) 0 (((aa U ba).f1).length:Int) false _ Vi.1).mono ?_
            rintro e w' ⟨rfl,⟨nd,rfl⟩⟩;refine⟨_,rfl,?_⟩;refine hK.out _ _ (jZ fp.1 (eT dO.1)) (fun hHeld=>?_);clear hK K;refine cO 57 ?_;refine an 30 58 HT_.1 (mb 31 17) ?_;refine an 31 59 HT_.1 (mb 32 16) ?_;refine an 32 60 HT_.1 (mb 33 15) ?_;refine aU 33 61 HT_.1 (mb 34 14) ?_;refine aU 34 62 HT_.1 (mb 35 13) ?_;refine aU 35 63 HT_.1 (mb 36 12) ?_;refine aU 36 64 HT_.1 (mb 37 11) ?_;refine aU 37 65 HT_.1 (mb 38 10) ?_;refine aU 38 66 HT_.1 (mb 39 9) ?_;refine aU 39 67 HT_.1 (mb 40 8) ?_;refine aU 40 68 HT_.1 (mb 41 7) ?_;refine aU 41 69 HT_.1 (mb 42 6) ?_;refine aU 42 70 HT_.1 (mb 43 5) ?_;refine aU 43 71 HT_.1 (mb 44 4) ?_;refine aU 44 72 HT_.1 (mb 45 3) ?_;refine aU 45 73 HT_.1 (mb 46 2) ?_;refine aU 46 74 HT_.1 (mb 47 1) ?_;refine an 47 75 HT_.1 (mb 48 0) ?_;refine jX (kC HT_.1 (by kernel_rfl)) ?_
            try go_wp2
            go_meet
            case rel=>exact⟨_,(true),mE,H',⟨by have:=H2.1;have:=oL.1;first|omega|exact Nat.le_refl _⟩,⟨mK dO.1⟩,⟨mK fp.1⟩,⟨(aT HB.1 nF.1 sf.1)⟩⟩
         ·replace vP:=Bool.eq_false_iff.mpr vP;subst vP;have H1:=H;rw[if_neg (show ¬(false=true) by decide)]at H1;clear H;have H:=H1;clear H1;have H':=J H;clear H
          try go_wp2
          generalize hW_:(((nN.setCell ⟨jC,0,none⟩ (.int .i64 ((aa U ba).f0))).setCell ⟨jC,1,none⟩ (.slice ov ((aa U ba).f1).length oB)).setCell ⟨jC,2,none⟩ (.int .i64 ((aa U ba).f2)))=w47
          replace dO:Aside0 (w47.heap[l7]? = some (.cells #[.slice (some my) U.length az,.slice aw ab.length ax,.slice aA af.length aC,.int .i64 ah] 30 (0,0))):=by rw[←hW_];exact⟨bQ H9.1 dO.1⟩
          replace fp:Aside0 (w47.heap[jC]? = some (.cells #[.int .i64 ((aa U ba).f0),.slice ov ((aa U ba).f1).length oB,.int .i64 ((aa U ba).f2)] 80 (0,0))):=by rw[←hW_];exact⟨by refine mK ?_;refine aW (cs:=#[.int .i64 ((aa U ba).f0),.slice ov ((aa U ba).f1).length oB,.int .i64 0]) ?_ 2 _ rfl;refine mK ?_;refine aW (cs:=#[.int .i64 ((aa U ba).f0),.slice none 0 0,.int .i64 0]) ?_ 1 _ rfl;refine mK ?_;refine aW (cs:=#[.int .i64 0,.slice none 0 0,.int .i64 0]) ?_ 0 _ rfl;refine mK ?_;exact fp.1⟩
          replace HB:Aside0 (Below w.heap.size w w47):=by rw[←hW_];exact⟨(aT HB.1 nF.1 sf.1)⟩
          clear hW_;replace dO:=J (dH dO.1);replace fp:=J (dH fp.1);replace HB:=J (hG HB.1);refine j5 (n:=48) (S:=fun w'=>w'.cell? ⟨jC,0,none⟩=some (.int .i64 ((aa U ba).f0))∧w'.cell? ⟨jC,1,none⟩=some (.slice ov ((aa U ba).f1).length oB)∧w'.cell? ⟨jC,2,none⟩=some (.int .i64 ((aa U ba).f2))∧w'.cell? ⟨l7,0,none⟩=some (.slice (some my) U.length az)∧w'.cell? ⟨l7,1,none⟩=some (.slice aw ab.length ax)∧w'.cell? ⟨l7,2,none⟩=some (.slice aA af.length aC)∧w'.cell? ⟨l7,3,none⟩=some (.int .i64 ah)) (ds:=[]) (mb 0 48) (by kernel_rfl) rfl rfl (jZ fp.1 (eT dO.1)) (fun hHeld=>?_);refine kK bL.N1 bL.Mb (fun HT_ HW_=>?_);generalize w47.drew=xt at dO fp HB hHeld ⊢
          refine an 0 28 HT_.1 (mb 1 47) ?_;refine an 2 30 HT_.1 (mr [1,1,1,45]) ?_;refine bC 1 29 HT_.1 HW_.1 (mb 3 45) hHeld ?_;refine bC 3 31 HT_.1 HW_.1 (mb 4 44) hHeld ?_;refine an 4 32 HT_.1 (mb 5 43) ?_;refine dA 5 (some 33) HT_.1 (mb 6 42) (fun K hK=>?_);refine e8 Try.func89 (by kernel_rfl) rfl #[.int .i64 ((aa U ba).f0),.int .i64 1,.int .i64 (wrap64 (ah-1))] (by rfl) rfl rfl mA ?_
          with_reducible refine(gY.calls ((aa U ba).f0) 1 (wrap64 (ah-1)) false _ zG.1).mono ?_
          rintro e w' ⟨rfl,⟨nd,rfl⟩⟩;refine⟨_,rfl,?_⟩;refine hK.out _ _ (jZ fp.1 (eT dO.1)) (fun hHeld=>?_);clear hK K;refine cO 33 ?_;refine an 6 34 HT_.1 (mb 7 41) ?_;refine an 7 35 HT_.1 (mb 8 40) ?_;refine aU 8 36 HT_.1 (mb 9 39) ?_;refine aU 9 37 HT_.1 (mb 10 38) ?_;refine aU 10 38 HT_.1 (mb 11 37) ?_;refine aU 11 39 HT_.1 (mb 12 36) ?_;refine aU 12 40 HT_.1 (mb 13 35) ?_;refine aU 13 41 HT_.1 (mb 14 34) ?_;refine aU 14 42 HT_.1 (mb 15 33) ?_;refine aU 15 43 HT_.1 (mb 16 32) ?_;refine aU 16 44 HT_.1 (mb 17 31) ?_;refine aU 17 45 HT_.1 (mb 18 30) ?_;refine aU 18 46 HT_.1 (mb 19 29) ?_;refine aU 19 47 HT_.1 (mb 20 28) ?_;refine aU 20 48 HT_.1 (mb 21 27) ?_;refine aU 21 49 HT_.1 (mb 22 26) ?_;refine an 22 50 HT_.1 (mb 23 25) ?_;refine an 23 51 HT_.1 (mb 24 24) ?_;refine aU 24 52 HT_.1 (mb 25 23) ?_;refine aU 25 53 HT_.1 (mb 26 22) ?_;refine aU 26 54 HT_.1 (mb 27 21) ?_;refine aU 27 55 HT_.1 (mb 28 20) ?_;refine aU 28 56 HT_.1 (mb 29 19) ?_;refine aU 29 57 HT_.1 (mb 30 18) ?_;refine aU 30 58 HT_.1 (mb 31 17) ?_;refine an 31 59 HT_.1 (mb 32 16) ?_;refine an 32 60 HT_.1 (mb 33 15) ?_;refine aU 33 61 HT_.1 (mb 34 14) ?_;refine aU 34 62 HT_.1 (mb 35 13) ?_;refine aU 35 63 HT_.1 (mb 36 12) ?_;refine aU 36 64 HT_.1 (mb 37 11) ?_;refine aU 37 65 HT_.1 (mb 38 10) ?_;refine aU 38 66 HT_.1 (mb 39 9) ?_;refine aU 39 67 HT_.1 (mb 40 8) ?_;refine aU 40 68 HT_.1 (mb 41 7) ?_;refine aU 41 69 HT_.1 (mb 42 6) ?_;refine aU 42 70 HT_.1 (mb 43 5) ?_;refine aU 43 71 HT_.1 (mb 44 4) ?_;refine aU 44 72 HT_.1 (mb 45 3) ?_;refine aU 45 73 HT_.1 (mb 46 2) ?_;refine aU 46 74 HT_.1 (mb 47 1) ?_;refine an 47 75 HT_.1 (mb 48 0) ?_;refine jX (kC HT_.1 (by kernel_rfl)) ?_
          try go_wp2
          go_meet
          case rel=>exact⟨_,(true),mE,H',⟨by have:=H2.1;have:=oL.1;first|omega|exact Nat.le_refl _⟩,⟨mK dO.1⟩,⟨mK fp.1⟩,⟨(aT HB.1 nF.1 sf.1)⟩⟩
        case rest=>
         clear OK
         try clear c8
         obtain⟨kq,aek,rfl,HA,OQ,dO,fp,HB⟩:=hcut;cases kq with
         |zero=>exact absurd HA.1 (by simp[bL.j2])
         |succ aaw=>
          have H:=HA.1;clear HA;simp only[bL.j2]at H;by_cases c49:aek=true
          ·subst c49;have H1:=H;rw[if_pos rfl]at H1;clear H;have H:=H1;clear H1;obtain rfl:=Option.some.inj H;go_wp2;go_ret;exact⟨cS,(aT HB.1 nF.1 sf.1)⟩
          ·replace c49:=Bool.eq_false_iff.mpr c49;subst c49;have H1:=H;rw[if_neg (show ¬(false=true) by decide)]at H1;clear H;have H:=H1;clear H1;have H':=J H;clear H;have arR:=anm.1;have ass:=H9.1;obtain⟨PW,PX,PY,P9,Qa,Qb⟩:=oS fp.1;go_wp2;go_roundg aaw
           case measure=>have:=H2.1;have:=oL.1;have:=OQ.1;omega
           case rel=>exact⟨(wrap64 (j8+(((aa U ba).f1).length:Int))),(wrap64 (ba+1)),mE,mE,H',⟨by have:=H2.1;have:=oL.1;have:=OQ.1;omega⟩,⟨mK dO.1⟩,⟨(aT HB.1 nF.1 sf.1)⟩⟩
       ·rw[if_neg qH]at H;exact absurd H (by simp)
      ·rw[if_neg c9]at H;have qg:=decide_eq_false c9;clear c9;by_cases FM:j8≤60000
       ·rw[if_pos FM]at H;have ay8:=decide_eq_true FM;clear FM;replace H:=Option.bind_eq_some_iff.mp H;obtain⟨t245,al3,H⟩:=H;replace H:(if t245=true then ((cp.f k2 U ab af ah af).bind fun t246=>(some t246)) else (some false))=some r:=H;have A53:=J al3;clear al3;by_cases FN:t245=true
        ·subst FN;have H1:=H;rw[if_pos rfl]at H1;clear H;have H:=H1;clear H1;replace H:=Option.bind_eq_some_iff.mp H;obtain⟨t246,al4,H⟩:=H;replace H:(some t246)=some r:=H;have A55:=J al4;clear al4;obtain rfl:=Option.some.inj H;obtain⟨aif,aih,aii,aij,ai4,ai5,ai6,ai7⟩:=bb dO.1;go_wp2_with (first|(go_at_call 101;(with_reducible refine(cp.calls k2 _ _ U _ _ ab _ _ af ah _ _ ab true _ ?ar ?au ?aZ ?a6 ?bc ?bf ?dS ?dT A53.1).mono ?_);(case ar=>exact mC (Kd.aX cF.1 HB.1));(case au=>exact db.1);(case aZ=>exact mC (Kd.aX cr.1 HB.1));(case a6=>exact cz.1);(case bc=>exact mC (Kd.aX cV.1 HB.1));(case bf=>exact dc.1);(case dS=>exact mC (Kd.aX cr.1 HB.1));(case dT=>exact cz.1);rintro e w57 ⟨rfl,hb⟩;replace dO:=mB dO hb;replace HB:=J (aG (aY HB.1 nF.1) hb);(try clear hb);(try clear ff);(try clear hk);(try clear hi);obtain⟨MQ,MR,MS,MT,Nb,Nc,Nd,Nf⟩:=bb dO.1)|(go_at_call 101;(with_reducible refine(cp.calls k2 _ _ U _ _ ab _ _ af ah _ _ af t246 _ ?ar ?au ?aZ ?a6 ?bc ?bf ?dS ?dT A55.1).mono ?_);(case ar=>exact mC (Kd.aX cF.1 HB.1));(case au=>exact db.1);(case aZ=>exact mC (Kd.aX cr.1 HB.1));(case a6=>exact cz.1);(case bc=>exact mC (Kd.aX cV.1 HB.1));(case bf=>exact dc.1);(case dS=>exact mC (Kd.aX cV.1 HB.1));(case dT=>exact dc.1);rintro e w59 ⟨rfl,hb⟩;replace dO:=mB dO hb;replace HB:=J (aG (aY HB.1 nF.1) hb);(try clear hb);(try clear ff);(try clear hk);(try clear hi)));go_ret;exact⟨cS,(aY HB.1 nF.1)⟩
        ·replace FN:=Bool.eq_false_iff.mpr FN;subst FN;have H1:=H;rw[if_neg (show ¬(false=true) by decide)]at H1;clear H;have H:=H1;clear H1;obtain rfl:=Option.some.inj H;obtain⟨aB8,aB9,aCa,aCb,aEk,aEl,aEm,aEn⟩:=bb dO.1;go_wp2_with (first|(go_at_call 101;(with_reducible refine(cp.calls k2 _ _ U _ _ ab _ _ af ah _ _ ab false _ ?ar ?au ?aZ ?a6 ?bc ?bf ?dS ?dT A53.1).mono ?_);(case ar=>exact mC (Kd.aX cF.1 HB.1));(case au=>exact db.1);(case aZ=>exact mC (Kd.aX cr.1 HB.1));(case a6=>exact cz.1);(case bc=>exact mC (Kd.aX cV.1 HB.1));(case bf=>exact dc.1);(case dS=>exact mC (Kd.aX cr.1 HB.1));(case dT=>exact cz.1);rintro e w61 ⟨rfl,hb⟩;replace dO:=mB dO hb;replace HB:=J (aG (aY HB.1 nF.1) hb);(try clear hb);(try clear ff);(try clear hk);(try clear hi)));go_ret;exact⟨cS,(aY HB.1 nF.1)⟩
       ·rw[if_neg FM]at H;have ay8:=decide_eq_false FM;clear FM;obtain rfl:=Option.some.inj H;obtain⟨aik,ail,aim,ain,ai8,ai9,aja,ajb⟩:=bb dO.1;go_wp2;go_ret;exact⟨cS,(aY HB.1 nF.1)⟩
end Go.Proofs.Ytgpkdbnikcghgaa.MD
