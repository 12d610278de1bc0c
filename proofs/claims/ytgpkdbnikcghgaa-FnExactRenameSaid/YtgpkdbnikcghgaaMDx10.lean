-- Written by mp.py, our own printer (wip/mp.py), and made shorter by wip/mp_shrink*.py.
import Derived.Test.YtgpkdbnikcghgaaVMShort
import Derived.Test.YtgpkdbnikcghgaaMDx0
namespace Go.Proofs.Ytgpkdbnikcghgaa.MD
open Go.RowKit Go.Proofs.YtgpkdbnikcghgaaW.PrintWords Go.Proofs.YtgpkdbnikcghgaaW.PrintLast Go.Proofs.YtgpkdbnikcghgaaW.PrintMore Go.Proofs.Ytgpkdbnikcghgaa.MWords
attribute [local go_sem] max2_int min2_int max_two min_two max_three min_three max_four min_four
set_option linter.unusedVariables false
set_option linter.unusedSimpArgs false
def ga.l0:Nat→Int→List (ai)→Int→Int→Option (Bool)
 |0,_,_,_,_=>none
 |k+1,x1,x7,x8,x9=>if x9<x8 then (if 0≤x9 then (if x9<(x7.length:Int) then (if ((aq x7 x9).f1)=x1 then (some true) else (ga.l0 k x1 x7 x8 (wrap64 (x9+1)))) else (none)) else (none)) else (some false)
def ga.f (k:Nat) (l0:List (ai)) (a1:Int):Option (Bool):=ga.l0 k a1 l0 (l0.length:Int) 0
set_option maxHeartbeats 8000000 in
set_option maxRecDepth 100000 in
theorem ga.calls (k:Nat) (A0:Option Addr) (c0:Nat) (l0:List (ai)) (a1:Int) (r:Bool) (w:World) (gF:Kd.C aK w A0 l0.length l0) (fi:l0.length≤c0) (h:ga.f k l0 a1=some r) :
 Calls Try.prog 81 #[.slice A0 l0.length c0,.int .i64 a1] w fun e w'=>e = .returned (.bool r)∧Below w.heap.size w w':=by
 have Gy:=Try.underlying63;have fL:=J gF;have rG:=J fi;clear gF fi;have HB:=J (Below.refl w.heap.size w);have H:(ga.l0 k a1 l0 (l0.length:Int) 0)=some r:=h;clear h;have H':=J H;clear H;go_enter Try.func81,Try.ntmps81;go_wp2;go_loopg [9] k (fun kq v9 w'=>∃(aD:Int),v9 = .int .i64 aD∧Aside0 (ga.l0 kq a1 l0 (l0.length:Int) aD=some r)∧Aside0 (kq≤k)∧Aside0 (Below w.heap.size w w'))
 case atStart=>exact⟨(0),mE,H',⟨Nat.le_refl _⟩,⟨(mH HB.1)⟩⟩
 case round=>
  clear H'
  obtain⟨aD,rfl,HA,bI,HB⟩:=hrel;cases gk with
  |zero=>exact absurd HA.1 (by simp[ga.l0])
  |succ k1=>
   have H:=HA.1;clear HA;simp only[ga.l0]at H;by_cases c3:aD<(l0.length:Int)
   ·rw[if_pos c3]at H;have jf:=decide_eq_true c3;clear c3;by_cases c4:0≤aD
    ·rw[if_pos c4]at H;have jm:=decide_eq_true c4;clear c4;by_cases c5:aD<(l0.length:Int)
     ·rw[if_pos c5]at H;have nI:=decide_eq_true c5;clear c5;by_cases c6:((aq l0 aD).f1)=a1
      ·rw[if_pos c6]at H;have iW:(((aq l0 aD).f1) == a1)=true:=beq_iff_eq.mpr c6;have qo:(((aq l0 aD).f1) != a1)=false:=bne_eq_false_iff_eq.mpr c6;clear c6;obtain rfl:=Option.some.inj H;have QZ:0≤(aD:Int):=mD;have Rp:aD<(l0.length:Int):=mD;obtain⟨ays,ag4,Zx,Zy⟩:=lB fL.1 aD QZ Rp;cases ag4
       replace Zx:=mX HB.1 Zx;replace Zy:=mX HB.1 Zy;replace QZ:=eq_true QZ;replace Rp:=eq_true Rp;go_wp2_with (first|((with_reducible refine bB (N:=6) rfl ?_);refine bO 6 #[.string (⟨#[]⟩:ByteArray),.int .i64 0] 63 ?_;intro aAf hg w7 hbox hb;have aeC:=J (hbox);have avR:=mG hg (mH HB.1);have aeQ:=mG hg (mH HB.1);replace HB:=J (aG (mH HB.1) hb);clear hb hbox hg;obtain⟨PZ,P0,Qc,Qd⟩:=tt aeC.1));go_ret;exact⟨cS,(aY HB.1 aeQ.1)⟩
      ·rw[if_neg c6]at H;have iW:(((aq l0 aD).f1) == a1)=false:=beq_eq_false_iff_ne.mpr c6;have qo:(((aq l0 aD).f1) != a1)=true:=bne_iff_ne.mpr c6;have H':=J H;clear H;have QZ:0≤(aD:Int):=mD;have Rp:aD<(l0.length:Int):=mD;obtain⟨ays,ag4,Zx,Zy⟩:=lB fL.1 aD QZ Rp;cases ag4
       replace Zx:=mX HB.1 Zx;replace Zy:=mX HB.1 Zy;replace QZ:=eq_true QZ;replace Rp:=eq_true Rp;go_wp2_with (first|((with_reducible refine bB (N:=6) rfl ?_);refine bO 6 #[.string (⟨#[]⟩:ByteArray),.int .i64 0] 63 ?_;intro aAf hg w9 hbox hb;have aeC:=J (hbox);have avR:=mG hg (mH HB.1);have aeQ:=mG hg (mH HB.1);replace HB:=J (aG (mH HB.1) hb);clear hb hbox hg;obtain⟨wW,wX,wY,wZ⟩:=tt aeC.1));go_roundg k1
       case measure=>have:=bI.1;omega
       case rel=>exact⟨(wrap64 (aD+1)),mE,H',⟨by have:=bI.1;omega⟩,⟨(aY HB.1 aeQ.1)⟩⟩
     ·rw[if_neg c5]at H;exact absurd H (by simp)
    ·rw[if_neg c4]at H;exact absurd H (by simp)
   ·rw[if_neg c3]at H;have jf:=decide_eq_false c3;clear c3;obtain rfl:=Option.some.inj H;go_wp2;go_ret;exact⟨cS,(mH HB.1)⟩
def nL.f (a0:Int) (a1:Int) (a2:Int):Option (Bool):=if a0≥a1 then (some (decide (a0≤a2))) else (some false)
set_option maxHeartbeats 8000000 in
set_option maxRecDepth 100000 in
theorem nL.calls (a0:Int) (a1:Int) (a2:Int) (r:Bool) (w:World) (h:nL.f a0 a1 a2=some r) :
 Calls Try.prog 83 #[.int .i64 a0,.int .i64 a1,.int .i64 a2] w fun e w'=>e = .returned (.bool r)∧bW w w':=by
 have H:(if a0≥a1 then (some (decide (a0≤a2))) else (some false))=some r:=h;clear h;by_cases c4:a0≥a1
 ·rw[if_pos c4]at H;have jm:decide (a1≤a0)=true:=decide_eq_true c4;clear c4;obtain rfl:=Option.some.inj H;go_enter Try.func83,Try.ntmps83;go_wp2;go_ret;exact⟨mE,by repeat (first|exact bW.refl _|apply bW.step)⟩
 ·rw[if_neg c4]at H;have jm:decide (a1≤a0)=false:=decide_eq_false c4;clear c4;obtain rfl:=Option.some.inj H;go_enter Try.func83,Try.ntmps83;go_wp2;go_ret;exact⟨mE,by repeat (first|exact bW.refl _|apply bW.step)⟩
def l9.l0:Nat→Int→List (ak)→Int→Int→Option (Int)
 |0,_,_,_,_=>none
 |k+1,x1,x8,x9,ub=>if ub<x9 then (if 0≤ub then (if ub<(x8.length:Int) then (if ((aa x8 ub).f0)=x1 then (some ub) else (l9.l0 k x1 x8 x9 (wrap64 (ub+1)))) else (none)) else (none)) else (some (-1))
def l9.f (k:Nat) (U:List (ak)) (ab:List (ai)) (af:List (ai)) (ah:Int) (a1:Int):Option (Int):=l9.l0 k a1 U (U.length:Int) 0
set_option maxHeartbeats 8000000 in
set_option maxRecDepth 100000 in
theorem l9.calls (k:Nat) (aE:Option Addr) (az:Nat) (U:List (ak)) (aw:Option Addr) (ax:Nat) (ab:List (ai)) (aA:Option Addr) (aC:Nat) (af:List (ai)) (ah:Int) (a1:Int) (r:Int) (w:World) (eZ:Kd.C bF w aE U.length U) (eX:U.length≤az) (ek:Kd.C aK w aw ab.length ab) (ej:ab.length≤ax) (e6:Kd.C aK w aA af.length af) (eY:af.length≤aC) (h:l9.f k U ab af ah a1=some r) :
 Calls Try.prog 70 #[.agg #[.slice aE U.length az,.slice aw ab.length ax,.slice aA af.length aC,.int .i64 ah],.int .i64 a1] w fun e w'=>e = .returned (.int .i64 r)∧Below w.heap.size w w':=by
 have qj:=Try.underlying30;have Gz:=Try.underlying80;have cF:=J eZ;have db:=J eX;clear eZ eX;have cr:=J ek;have cz:=J ej;clear ek ej;have cV:=J e6;have dc:=J eY;clear e6 eY;have HB:=J (Below.refl w.heap.size w);have H:(l9.l0 k a1 U (U.length:Int) 0)=some r:=h;clear h;have H':=J H;clear H;go_enter Try.func70,Try.ntmps70;go_wp2_with (first|((with_reducible refine bB (N:=2) rfl ?_);refine bO 2 #[.slice aE U.length az,.slice aw ab.length ax,.slice aA af.length aC,.int .i64 ah] 30 ?_;intro aAg hg w3 hbox hb;have DV:=J (hbox);have aJH:=mG hg (mH HB.1);have HX:=mG hg (mH HB.1);replace HB:=J (aG (mH HB.1) hb);clear hb hbox hg;obtain⟨ah7,ah8,ah9,aia,aiW,aiX,aiY,aiZ⟩:=bb DV.1));go_loopg [10] k (fun kq v10 w'=>∃(nO:Int),v10 = .int .i64 nO∧Aside0 (l9.l0 kq a1 U (U.length:Int) nO=some r)∧Aside0 (kq≤k)∧Aside0 (w'.heap[aAg]? = some (.cells #[(.slice aE U.length az),(.slice aw ab.length ax),(.slice aA af.length aC),.int .i64 ah] 30 (0,0)))∧Aside0 (Below w.heap.size w w'))
 case atStart=>exact⟨(0),mE,H',⟨Nat.le_refl _⟩,⟨mK DV.1⟩,⟨(aY HB.1 HX.1)⟩⟩
 case round=>
  clear H'
  try clear ah7
  try clear ah8
  try clear ah9
  try clear aia
  try clear aiW
  try clear aiX
  try clear aiY
  try clear aiZ
  obtain⟨nO,rfl,HA,bI,DV,HB⟩:=hrel;cases gk with
  |zero=>exact absurd HA.1 (by simp[l9.l0])
  |succ k1=>
   have H:=HA.1;clear HA;simp only[l9.l0]at H;by_cases c5:nO<(U.length:Int)
   ·rw[if_pos c5]at H;have nI:=decide_eq_true c5;clear c5;by_cases c6:0≤nO
    ·rw[if_pos c6]at H;have iW:=decide_eq_true c6;clear c6;by_cases c7:nO<(U.length:Int)
     ·rw[if_pos c7]at H;have um:=decide_eq_true c7;clear c7;by_cases c8:((aa U nO).f0)=a1
      ·rw[if_pos c8]at H;have s8:(((aa U nO).f0) == a1)=true:=beq_iff_eq.mpr c8;have SY:(((aa U nO).f0) != a1)=false:=bne_eq_false_iff_eq.mpr c8;clear c8;obtain rfl:=Option.some.inj H;have Q0:0≤(nO:Int):=mD;have Rq:nO<(U.length:Int):=mD;obtain⟨ayt,avp,ay5,ag5,Zz,ZA,ZB,YV,YL⟩:=ny cF.1 nO Q0 Rq;cases ag5
       replace Zz:=mX HB.1 Zz;replace ZA:=mX HB.1 ZA;replace ZB:=mX HB.1 ZB;have awr:=J YL;have avZ:=J YV;clear YL YV;replace Q0:=eq_true Q0;replace Rq:=eq_true Rq;go_wp2_with (first|((with_reducible refine bB (N:=6) rfl ?_);refine bO 6 #[.int .i64 0,.slice none 0 0,.int .i64 0] 80 ?_;intro aAh hg w9 hbox hb;have aeD:=J (hbox);have avS:=mG hg (aY HB.1 HX.1);have aeR:=mG hg (aY HB.1 HX.1);replace HB:=J (aG (aY HB.1 HX.1) hb);have abm:=bV hg DV.1;have afR:=bU hg DV.1;replace DV:=mB DV hb;clear hb hbox hg;have YW:=afR.1;have YZ:=abm.1;obtain⟨Is,J9,PR,IA,Kh,P4⟩:=oS aeD.1));go_ret;exact⟨cS,(aT HB.1 HX.1 aeR.1)⟩
      ·rw[if_neg c8]at H;have s8:(((aa U nO).f0) == a1)=false:=beq_eq_false_iff_ne.mpr c8;have SY:(((aa U nO).f0) != a1)=true:=bne_iff_ne.mpr c8;have H':=J H;clear H;have Q0:0≤(nO:Int):=mD;have Rq:nO<(U.length:Int):=mD;obtain⟨ayt,avp,ay5,ag5,Zz,ZA,ZB,YV,YL⟩:=ny cF.1 nO Q0 Rq;cases ag5
       replace Zz:=mX HB.1 Zz;replace ZA:=mX HB.1 ZA;replace ZB:=mX HB.1 ZB;have awr:=J YL;have avZ:=J YV;clear YL YV;replace Q0:=eq_true Q0;replace Rq:=eq_true Rq;go_wp2_with (first|((with_reducible refine bB (N:=6) rfl ?_);refine bO 6 #[.int .i64 0,.slice none 0 0,.int .i64 0] 80 ?_;intro aAh hg jE hbox hb;have aeD:=J (hbox);have avS:=mG hg (aY HB.1 HX.1);have aeR:=mG hg (aY HB.1 HX.1);replace HB:=J (aG (aY HB.1 HX.1) hb);have abm:=bV hg DV.1;have afR:=bU hg DV.1;replace DV:=mB DV hb;clear hb hbox hg;have YX:=afR.1;have Y0:=abm.1;obtain⟨Td,Te,ahZ,To,Tp,aiO⟩:=oS aeD.1));go_roundg k1
       case measure=>have:=bI.1;omega
       case rel=>exact⟨(wrap64 (nO+1)),mE,H',⟨by have:=bI.1;omega⟩,⟨bQ abm.1 DV.1⟩,⟨(aT HB.1 HX.1 aeR.1)⟩⟩
     ·rw[if_neg c7]at H;exact absurd H (by simp)
    ·rw[if_neg c6]at H;exact absurd H (by simp)
   ·rw[if_neg c5]at H;have nI:=decide_eq_false c5;clear c5;obtain rfl:=Option.some.inj H;go_wp2;go_ret;exact⟨cS,(aY HB.1 HX.1)⟩
mutual
def gi.l0:Nat→ByteArray→Int→Option (Bool)
 |0,_,_=>none
 |k+1,x0,x3=>if x3<(x0.size:Int) then (if 0≤x3 then (if (bt x0 x3)≥97 then (if ((bt x0 x3)≤122) then (gi.j1 k x0 x3 false) else (if (bt x0 x3)≥48 then (if ((bt x0 x3)≤57) then (gi.j1 k x0 x3 false) else (if (bt x0 x3)=45 then (gi.j1 k x0 x3 false) else (gi.j1 k x0 x3 ((bt x0 x3) != 46)))) else (if (bt x0 x3)=45 then (gi.j1 k x0 x3 false) else (gi.j1 k x0 x3 ((bt x0 x3) != 46))))) else (if (bt x0 x3)≥48 then (if ((bt x0 x3)≤57) then (gi.j1 k x0 x3 false) else (if (bt x0 x3)=45 then (gi.j1 k x0 x3 false) else (gi.j1 k x0 x3 ((bt x0 x3) != 46)))) else (if (bt x0 x3)=45 then (gi.j1 k x0 x3 false) else (gi.j1 k x0 x3 ((bt x0 x3) != 46))))) else (none)) else ((nL.f (x0.size:Int) 1 12).bind fun adK=>(some adK))
def gi.j1:Nat→ByteArray→Int→Bool→Option (Bool)
 |0,_,_,_=>none
 |k+1,x0,x3,x37=>if x37=true then (some false) else (gi.l0 k x0 (wrap64 (x3+1)))
end
def gi.f (k:Nat) (a0:ByteArray):Option (Bool):=gi.l0 k a0 0
set_option maxHeartbeats 8000000 in
set_option maxRecDepth 100000 in
theorem gi.calls (k:Nat) (a0:ByteArray) (r:Bool) (w:World) (h:gi.f k a0=some r) :
 Calls Try.prog 93 #[.string a0] w fun e w'=>e = .returned (.bool r)∧bW w w':=by
 have H:(gi.l0 k a0 0)=some r:=h;clear h;have H':=J H;clear H;go_enter Try.func93,Try.ntmps93;go_wp2;go_loopg [3] k (fun kq v3 w'=>∃(bq:Int),v3 = .int .i64 bq∧Aside0 (gi.l0 kq a0 bq=some r)∧Aside0 (kq≤k)∧bW w w')
 case atStart=>exact⟨(0),mE,H',⟨Nat.le_refl _⟩,by repeat (first|exact bW.refl _|apply bW.step)⟩
 case round=>
  clear H';obtain⟨bq,rfl,HA,bI,⟨m1,rfl⟩⟩:=hrel;cases gk with
  |zero=>exact absurd HA.1 (by simp[gi.l0])
  |succ k1=>
   have H:=HA.1;clear HA;simp only[gi.l0]at H;by_cases c2:bq<(a0.size:Int)
   ·rw[if_pos c2]at H;have xS:=decide_eq_true c2;clear c2;by_cases c3:0≤bq
    ·rw[if_pos c3]at H;have jf:=decide_eq_true c3;clear c3;have ON:=J H;clear H;have p4:0≤(bq:Int):=mD;have q4:bq<(a0.size:Int):=mD;have hx4:=an0 a0 bq;replace p4:=eq_true p4;replace q4:=eq_true q4;go_upto_region 5 with (fail)
     go_cut [37] (fun v37 wc=>∃(kq:Nat) (aec:Bool),v37 = .bool aec∧Aside0 (gi.j1 kq a0 bq aec=some r)∧Aside0 (kq≤k1)∧bW w wc)
     case first=>
      have H:=ON.1;clear ON;by_cases c6:(bt a0 bq)≥97
      ·rw[if_pos c6]at H;have iW:decide (97≤(bt a0 bq))=true:=decide_eq_true c6;clear c6
       (first|rw[iW]|(simp only[kE,lE];rw[iW])|skip)
       by_cases c7:((bt a0 bq)≤122)
       ·rw[if_pos c7]at H;have um:decide ((bt a0 bq)≤122)=true:=decide_eq_true c7;clear c7;have H':=J H;clear H;go_wp2;go_meet
        case rel=>exact⟨_,(false),mE,H',⟨by have:=bI.1;first|omega|exact Nat.le_refl _⟩,by repeat (first|exact bW.refl _|apply bW.step)⟩
       ·rw[if_neg c7]at H;have um:decide ((bt a0 bq)≤122)=false:=decide_eq_false c7;clear c7;by_cases c8:(bt a0 bq)≥48
        ·rw[if_pos c8]at H;have s8:decide (48≤(bt a0 bq))=true:=decide_eq_true c8;clear c8;by_cases c9:((bt a0 bq)≤57)
         ·rw[if_pos c9]at H;have qg:decide ((bt a0 bq)≤57)=true:=decide_eq_true c9;clear c9;have H':=J H;clear H;go_wp2;go_meet
          case rel=>exact⟨_,(false),mE,H',⟨by have:=bI.1;first|omega|exact Nat.le_refl _⟩,by repeat (first|exact bW.refl _|apply bW.step)⟩
         ·rw[if_neg c9]at H;have qg:decide ((bt a0 bq)≤57)=false:=decide_eq_false c9;clear c9;by_cases qH:(bt a0 bq)=45
          ·rw[if_pos qH]at H;have Il:((bt a0 bq) == 45)=true:=beq_iff_eq.mpr qH;have ayG:((bt a0 bq) != 45)=false:=bne_eq_false_iff_eq.mpr qH;clear qH;have H':=J H;clear H;go_wp2;go_meet
           case rel=>exact⟨_,(false),mE,H',⟨by have:=bI.1;first|omega|exact Nat.le_refl _⟩,by repeat (first|exact bW.refl _|apply bW.step)⟩
          ·rw[if_neg qH]at H;have Il:((bt a0 bq) == 45)=false:=beq_eq_false_iff_ne.mpr qH;have ayG:((bt a0 bq) != 45)=true:=bne_iff_ne.mpr qH;have H':=J H;clear H;go_wp2;go_meet
           case rel=>exact⟨_,(((bt a0 bq) != 46)),mE,H',⟨by have:=bI.1;first|omega|exact Nat.le_refl _⟩,by repeat (first|exact bW.refl _|apply bW.step)⟩
        ·rw[if_neg c8]at H;have s8:decide (48≤(bt a0 bq))=false:=decide_eq_false c8;clear c8;by_cases rR:(bt a0 bq)=45
         ·rw[if_pos rR]at H;have abU:((bt a0 bq) == 45)=true:=beq_iff_eq.mpr rR;have ayH:((bt a0 bq) != 45)=false:=bne_eq_false_iff_eq.mpr rR;clear rR;have H':=J H;clear H;go_wp2;go_meet
          case rel=>exact⟨_,(false),mE,H',⟨by have:=bI.1;first|omega|exact Nat.le_refl _⟩,by repeat (first|exact bW.refl _|apply bW.step)⟩
         ·rw[if_neg rR]at H;have abU:((bt a0 bq) == 45)=false:=beq_eq_false_iff_ne.mpr rR;have ayH:((bt a0 bq) != 45)=true:=bne_iff_ne.mpr rR;have H':=J H;clear H;go_wp2;go_meet
          case rel=>exact⟨_,(((bt a0 bq) != 46)),mE,H',⟨by have:=bI.1;first|omega|exact Nat.le_refl _⟩,by repeat (first|exact bW.refl _|apply bW.step)⟩
      ·rw[if_neg c6]at H;have iW:decide (97≤(bt a0 bq))=false:=decide_eq_false c6;clear c6
       (first|rw[iW]|(simp only[kE,lE];rw[iW])|skip)
       by_cases nj:(bt a0 bq)≥48
       ·rw[if_pos nj]at H;have Im:decide (48≤(bt a0 bq))=true:=decide_eq_true nj;clear nj;by_cases mi:((bt a0 bq)≤57)
        ·rw[if_pos mi]at H;have Pm:decide ((bt a0 bq)≤57)=true:=decide_eq_true mi;clear mi;have H':=J H;clear H;go_wp2;go_meet
         case rel=>exact⟨_,(false),mE,H',⟨by have:=bI.1;first|omega|exact Nat.le_refl _⟩,by repeat (first|exact bW.refl _|apply bW.step)⟩
        ·rw[if_neg mi]at H;have Pm:decide ((bt a0 bq)≤57)=false:=decide_eq_false mi;clear mi;by_cases pb:(bt a0 bq)=45
         ·rw[if_pos pb]at H;have JX:((bt a0 bq) == 45)=true:=beq_iff_eq.mpr pb;have ayL:((bt a0 bq) != 45)=false:=bne_eq_false_iff_eq.mpr pb;clear pb;have H':=J H;clear H;go_wp2;go_meet
          case rel=>exact⟨_,(false),mE,H',⟨by have:=bI.1;first|omega|exact Nat.le_refl _⟩,by repeat (first|exact bW.refl _|apply bW.step)⟩
         ·rw[if_neg pb]at H;have JX:((bt a0 bq) == 45)=false:=beq_eq_false_iff_ne.mpr pb;have ayL:((bt a0 bq) != 45)=true:=bne_iff_ne.mpr pb;have H':=J H;clear H;go_wp2;go_meet
          case rel=>exact⟨_,(((bt a0 bq) != 46)),mE,H',⟨by have:=bI.1;first|omega|exact Nat.le_refl _⟩,by repeat (first|exact bW.refl _|apply bW.step)⟩
       ·rw[if_neg nj]at H;have Im:decide (48≤(bt a0 bq))=false:=decide_eq_false nj;clear nj;by_cases vO:(bt a0 bq)=45
        ·rw[if_pos vO]at H;have Mf:((bt a0 bq) == 45)=true:=beq_iff_eq.mpr vO;have ayM:((bt a0 bq) != 45)=false:=bne_eq_false_iff_eq.mpr vO;clear vO;have H':=J H;clear H;go_wp2;go_meet
         case rel=>exact⟨_,(false),mE,H',⟨by have:=bI.1;first|omega|exact Nat.le_refl _⟩,by repeat (first|exact bW.refl _|apply bW.step)⟩
        ·rw[if_neg vO]at H;have Mf:((bt a0 bq) == 45)=false:=beq_eq_false_iff_ne.mpr vO;have ayM:((bt a0 bq) != 45)=true:=bne_iff_ne.mpr vO;have H':=J H;clear H;go_wp2;go_meet
         case rel=>exact⟨_,(((bt a0 bq) != 46)),mE,H',⟨by have:=bI.1;first|omega|exact Nat.le_refl _⟩,by repeat (first|exact bW.refl _|apply bW.step)⟩
     case rest=>
      clear ON
      try clear c2
      try clear xS
      try clear c3
      try clear jf
      try clear p4
      try clear q4
      try clear hx4
      try clear p4
      try clear q4
      obtain⟨kq,aec,rfl,HA,OR,⟨eT,rfl⟩⟩:=hcut;cases kq with
      |zero=>exact absurd HA.1 (by simp[gi.j1])
      |succ kj4=>
       have H:=HA.1;clear HA;simp only[gi.j1]at H;by_cases ri:aec=true
       ·subst ri;have H1:=H;rw[if_pos rfl]at H1;clear H;have H:=H1;clear H1;obtain rfl:=Option.some.inj H;go_wp2;go_ret;exact⟨mE,by repeat (first|exact bW.refl _|apply bW.step)⟩
       ·replace ri:=Bool.eq_false_iff.mpr ri;subst ri;have H1:=H;rw[if_neg (show ¬(false=true) by decide)]at H1;clear H;have H:=H1;clear H1;have H':=J H;clear H;go_wp2;go_roundg kj4
        case measure=>have:=bI.1;have:=OR.1;omega
        case rel=>exact⟨(wrap64 (bq+1)),mE,H',⟨by have:=bI.1;have:=OR.1;omega⟩,by repeat (first|exact bW.refl _|apply bW.step)⟩
    ·rw[if_neg c3]at H;exact absurd H (by simp)
   ·rw[if_neg c2]at H;have xS:=decide_eq_false c2;clear c2;replace H:=Option.bind_eq_some_iff.mp H;obtain⟨adK,E7,H⟩:=H;replace H:(some adK)=some r:=H;have Jf:=J E7;clear E7;obtain rfl:=Option.some.inj H;go_wp2_with (first|((with_reducible refine bw (f:=83) rfl ?_);refine bH 40 Try.func83 #[.int .i64 (a0.size:Int),.int .i64 1,.int .i64 12] ?_;(with_reducible refine(nL.calls (a0.size:Int) 1 12 adK _ Jf.1).mono ?_);rintro e w' ⟨rfl,⟨nd,rfl⟩⟩;refine⟨_,rfl,?_⟩));go_ret;exact⟨mE,by repeat (first|exact bW.refl _|apply bW.step)⟩
def lF.l0:Nat→ByteArray→List (ai)→Int→Int→Option (Int)
 |0,_,_,_,_=>none
 |k+1,x1,x8,x9,ub=>if ub<x9 then (if 0≤ub then (if ub<(x8.length:Int) then (if ((aq x8 ub).f0).toList=x1.toList then (some ((aq x8 ub).f1)) else (lF.l0 k x1 x8 x9 (wrap64 (ub+1)))) else (none)) else (none)) else (some 0)
def lF.f (k:Nat) (U:List (ak)) (ab:List (ai)) (af:List (ai)) (ah:Int) (a1:ByteArray):Option (Int):=lF.l0 k a1 ab (ab.length:Int) 0
set_option maxHeartbeats 8000000 in
set_option maxRecDepth 100000 in
theorem lF.calls (k:Nat) (aE:Option Addr) (az:Nat) (U:List (ak)) (aw:Option Addr) (ax:Nat) (ab:List (ai)) (aA:Option Addr) (aC:Nat) (af:List (ai)) (ah:Int) (a1:ByteArray) (r:Int) (w:World) (eZ:Kd.C bF w aE U.length U) (eX:U.length≤az) (ek:Kd.C aK w aw ab.length ab) (ej:ab.length≤ax) (e6:Kd.C aK w aA af.length af) (eY:af.length≤aC) (h:lF.f k U ab af ah a1=some r) :
 Calls Try.prog 57 #[.agg #[.slice aE U.length az,.slice aw ab.length ax,.slice aA af.length aC,.int .i64 ah],.string a1] w fun e w'=>e = .returned (.int .i64 r)∧Below w.heap.size w w':=by
 have qj:=Try.underlying30;have Gy:=Try.underlying63;have cF:=J eZ;have db:=J eX;clear eZ eX;have cr:=J ek;have cz:=J ej;clear ek ej;have cV:=J e6;have dc:=J eY;clear e6 eY;have HB:=J (Below.refl w.heap.size w);have H:(lF.l0 k a1 ab (ab.length:Int) 0)=some r:=h;clear h;have H':=J H;clear H;go_enter Try.func57,Try.ntmps57;go_wp2_with (first|((with_reducible refine bB (N:=2) rfl ?_);refine bO 2 #[.slice aE U.length az,.slice aw ab.length ax,.slice aA af.length aC,.int .i64 ah] 30 ?_;intro aAi hg w3 hbox hb;have DW:=J (hbox);have aJM:=mG hg (mH HB.1);have HZ:=mG hg (mH HB.1);replace HB:=J (aG (mH HB.1) hb);clear hb hbox hg;obtain⟨ah7,ah8,ah9,aia,aiW,aiX,aiY,aiZ⟩:=bb DW.1));go_loopg [10] k (fun kq v10 w'=>∃(nO:Int),v10 = .int .i64 nO∧Aside0 (lF.l0 kq a1 ab (ab.length:Int) nO=some r)∧Aside0 (kq≤k)∧Aside0 (w'.heap[aAi]? = some (.cells #[(.slice aE U.length az),(.slice aw ab.length ax),(.slice aA af.length aC),.int .i64 ah] 30 (0,0)))∧Aside0 (Below w.heap.size w w'))
 case atStart=>exact⟨(0),mE,H',⟨Nat.le_refl _⟩,⟨mK DW.1⟩,⟨(aY HB.1 HZ.1)⟩⟩
 case round=>
  clear H'
  try clear ah7
  try clear ah8
  try clear ah9
  try clear aia
  try clear aiW
  try clear aiX
  try clear aiY
  try clear aiZ
  obtain⟨nO,rfl,HA,bI,DW,HB⟩:=hrel;cases gk with
  |zero=>exact absurd HA.1 (by simp[lF.l0])
  |succ k1=>
   have H:=HA.1;clear HA;simp only[lF.l0]at H;by_cases c5:nO<(ab.length:Int)
   ·rw[if_pos c5]at H;have nI:=decide_eq_true c5;clear c5;by_cases c6:0≤nO
    ·rw[if_pos c6]at H;have iW:=decide_eq_true c6;clear c6;by_cases c7:nO<(ab.length:Int)
     ·rw[if_pos c7]at H;have um:=decide_eq_true c7;clear c7;by_cases c8:((aq ab nO).f0).toList=a1.toList
      ·rw[if_pos c8]at H;have s8:(((aq ab nO).f0).toList == a1.toList)=true:=beq_iff_eq.mpr c8;have SY:(((aq ab nO).f0).toList != a1.toList)=false:=bne_eq_false_iff_eq.mpr c8;clear c8;obtain rfl:=Option.some.inj H;have Q2:0≤(nO:Int):=mD;have Rt:nO<(ab.length:Int):=mD;obtain⟨ayu,ag7,ZC,ZD⟩:=lB cr.1 nO Q2 Rt;cases ag7
       replace ZC:=mX HB.1 ZC;replace ZD:=mX HB.1 ZD;replace Q2:=eq_true Q2;replace Rt:=eq_true Rt;go_wp2_with (first|((with_reducible refine bB (N:=6) rfl ?_);refine bO 6 #[.string (⟨#[]⟩:ByteArray),.int .i64 0] 63 ?_;intro aAj hg w9 hbox hb;have aeE:=J (hbox);have avT:=mG hg (aY HB.1 HZ.1);have aeS:=mG hg (aY HB.1 HZ.1);replace HB:=J (aG (aY HB.1 HZ.1) hb);have abn:=bV hg DW.1;have afS:=bU hg DW.1;replace DW:=mB DW hb;clear hb hbox hg;have YW:=afS.1;have YZ:=abn.1;obtain⟨Is,J9,IA,Kh⟩:=tt aeE.1));go_ret;exact⟨cS,(aT HB.1 HZ.1 aeS.1)⟩
      ·rw[if_neg c8]at H;have s8:(((aq ab nO).f0).toList == a1.toList)=false:=beq_eq_false_iff_ne.mpr c8;have SY:(((aq ab nO).f0).toList != a1.toList)=true:=bne_iff_ne.mpr c8;have H':=J H;clear H;have Q2:0≤(nO:Int):=mD;have Rt:nO<(ab.length:Int):=mD;obtain⟨ayu,ag7,ZC,ZD⟩:=lB cr.1 nO Q2 Rt;cases ag7
       replace ZC:=mX HB.1 ZC;replace ZD:=mX HB.1 ZD;replace Q2:=eq_true Q2;replace Rt:=eq_true Rt;go_wp2_with (first|((with_reducible refine bB (N:=6) rfl ?_);refine bO 6 #[.string (⟨#[]⟩:ByteArray),.int .i64 0] 63 ?_;intro aAj hg jE hbox hb;have aeE:=J (hbox);have avT:=mG hg (aY HB.1 HZ.1);have aeS:=mG hg (aY HB.1 HZ.1);replace HB:=J (aG (aY HB.1 HZ.1) hb);have abn:=bV hg DW.1;have afS:=bU hg DW.1;replace DW:=mB DW hb;clear hb hbox hg;have YX:=afS.1;have Y0:=abn.1;obtain⟨Td,Te,To,Tp⟩:=tt aeE.1));go_roundg k1
       case measure=>have:=bI.1;omega
       case rel=>exact⟨(wrap64 (nO+1)),mE,H',⟨by have:=bI.1;omega⟩,⟨bQ abn.1 DW.1⟩,⟨(aT HB.1 HZ.1 aeS.1)⟩⟩
     ·rw[if_neg c7]at H;exact absurd H (by simp)
    ·rw[if_neg c6]at H;exact absurd H (by simp)
   ·rw[if_neg c5]at H;have nI:=decide_eq_false c5;clear c5;obtain rfl:=Option.some.inj H;go_wp2;go_ret;exact⟨cS,(aY HB.1 HZ.1)⟩
end Go.Proofs.Ytgpkdbnikcghgaa.MD
