-- Written by mp.py, our own printer (wip/mp.py), and made shorter by wip/mp_shrink*.py.
import Derived.Test.YtgpkdbnikcghgaaVAll
import Derived.Test.YtgpkdbnikcghgaaMDx0
namespace Go.Proofs.Ytgpkdbnikcghgaa.MD
open Go.RowKit Go.Proofs.YtgpkdbnikcghgaaW.PrintWords Go.Proofs.YtgpkdbnikcghgaaW.PrintLast Go.Proofs.YtgpkdbnikcghgaaW.PrintMore Go.Proofs.Ytgpkdbnikcghgaa.MWords
attribute [local go_sem] max2_int min2_int max_two min_two max_three min_three max_four min_four
set_option linter.unusedVariables false
set_option linter.unusedSimpArgs false
def dW.l0:Nat→Int→List (ah)→Int→Int→Option (Bool)
 |0,_,_,_,_=>none
 |k+1,x1,x7,x8,x9=>if x9<x8 then (if 0≤x9 then (if x9<(x7.length:Int) then (if ((aw x7 x9).f1)=x1 then (some true) else (dW.l0 k x1 x7 x8 (wrap64 (x9+1)))) else (none)) else (none)) else (some false)
def dW.f (k:Nat) (l0:List (ah)) (a1:Int):Option (Bool):=dW.l0 k a1 l0 (l0.length:Int) 0
set_option maxHeartbeats 8000000 in
set_option maxRecDepth 100000 in
theorem dW.calls (k:Nat) (A0:Option Addr) (c0:Nat) (l0:List (ah)) (a1:Int) (r:Bool) (w:World) (e7:Kd.C ay w A0 l0.length l0) (gw:l0.length≤c0) (h:dW.f k l0 a1=some r) :
 Calls Try.prog 81 #[.slice A0 l0.length c0,.int .i64 a1] w fun e w'=>e = .returned (.bool r)∧Below w.heap.size w w':=by
 have DY:=Try.underlying63;have jf:=J e7;have sh:=J gw;clear e7 gw;have HB:=J (Below.refl w.heap.size w);have H:(dW.l0 k a1 l0 (l0.length:Int) 0)=some r:=h;clear h;have H':=J H;clear H;go_enter Try.func81,Try.ntmps81;go_wp2;go_loopg [9] k (fun kq v9 w'=>∃(ak:Int),v9 = .int .i64 ak∧Aside0 (dW.l0 kq a1 l0 (l0.length:Int) ak=some r)∧Aside0 (kq≤k)∧Aside0 (Below w.heap.size w w'))
 case atStart=>exact⟨(0),mE,H',⟨Nat.le_refl _⟩,⟨(mH HB.1)⟩⟩
 case round=>
  clear H'
  obtain⟨ak,rfl,HA,bA,HB⟩:=hrel;cases gk with
  |zero=>exact absurd HA.1 (by simp[dW.l0])
  |succ k1=>
   have H:=HA.1;clear HA;simp only[dW.l0]at H;by_cases c3:ak<(l0.length:Int)
   ·rw[if_pos c3]at H;have l9:=decide_eq_true c3;clear c3;by_cases c4:0≤ak
    ·rw[if_pos c4]at H;have lG:=decide_eq_true c4;clear c4;by_cases c5:ak<(l0.length:Int)
     ·rw[if_pos c5]at H;have j8:=decide_eq_true c5;clear c5;by_cases c6:((aw l0 ak).f1)=a1
      ·rw[if_pos c6]at H;have jU:(((aw l0 ak).f1) == a1)=true:=beq_iff_eq.mpr c6;have Dy:(((aw l0 ak).f1) != a1)=false:=bne_eq_false_iff_eq.mpr c6;clear c6;obtain rfl:=Option.some.inj H;have B0:0≤(ak:Int):=mD;have Cq:ak<(l0.length:Int):=mD;obtain⟨ahP,QN,H4,H5⟩:=iH jf.1 ak B0 Cq;cases QN
       replace H4:=mX HB.1 H4;replace H5:=mX HB.1 H5;replace B0:=eq_true B0;replace Cq:=eq_true Cq;go_wp2_with (first|((with_reducible refine bk (N:=6) rfl ?_);refine bF 6 #[.string (⟨#[]⟩:ByteArray),.int .i64 0] 63 ?_;intro aj5 hg w7 hbox hb;have Oj:=J (hbox);have aft:=mG hg (mH HB.1);have OB:=mG hg (mH HB.1);replace HB:=J (aK (mH HB.1) hb);clear hb hbox hg;obtain⟨GL,GM,G5,G6⟩:=uP Oj.1));go_ret;exact⟨de,(aM HB.1 OB.1)⟩
      ·rw[if_neg c6]at H;have jU:(((aw l0 ak).f1) == a1)=false:=beq_eq_false_iff_ne.mpr c6;have Dy:(((aw l0 ak).f1) != a1)=true:=bne_iff_ne.mpr c6;have H':=J H;clear H;have B0:0≤(ak:Int):=mD;have Cq:ak<(l0.length:Int):=mD;obtain⟨ahP,QN,H4,H5⟩:=iH jf.1 ak B0 Cq;cases QN
       replace H4:=mX HB.1 H4;replace H5:=mX HB.1 H5;replace B0:=eq_true B0;replace Cq:=eq_true Cq;go_wp2_with (first|((with_reducible refine bk (N:=6) rfl ?_);refine bF 6 #[.string (⟨#[]⟩:ByteArray),.int .i64 0] 63 ?_;intro aj5 hg w9 hbox hb;have Oj:=J (hbox);have aft:=mG hg (mH HB.1);have OB:=mG hg (mH HB.1);replace HB:=J (aK (mH HB.1) hb);clear hb hbox hg;obtain⟨xK,xL,xR,xS⟩:=uP Oj.1));go_roundg k1
       case measure=>have:=bA.1;omega
       case rel=>exact⟨(wrap64 (ak+1)),mE,H',⟨by have:=bA.1;omega⟩,⟨(aM HB.1 OB.1)⟩⟩
     ·rw[if_neg c5]at H;exact absurd H (by simp)
    ·rw[if_neg c4]at H;exact absurd H (by simp)
   ·rw[if_neg c3]at H;have l9:=decide_eq_false c3;clear c3;obtain rfl:=Option.some.inj H;go_wp2;go_ret;exact⟨de,(mH HB.1)⟩
def kd.f (a0:Int) (a1:Int) (a2:Int):Option (Bool):=if a0≥a1 then (some (decide (a0≤a2))) else (some false)
set_option maxHeartbeats 8000000 in
set_option maxRecDepth 100000 in
theorem kd.calls (a0:Int) (a1:Int) (a2:Int) (r:Bool) (w:World) (h:kd.f a0 a1 a2=some r) :
 Calls Try.prog 83 #[.int .i64 a0,.int .i64 a1,.int .i64 a2] w fun e w'=>e = .returned (.bool r)∧bC w w':=by
 have H:(if a0≥a1 then (some (decide (a0≤a2))) else (some false))=some r:=h;clear h;by_cases c4:a0≥a1
 ·rw[if_pos c4]at H;have lG:decide (a1≤a0)=true:=decide_eq_true c4;clear c4;obtain rfl:=Option.some.inj H;go_enter Try.func83,Try.ntmps83;go_wp2;go_ret;exact⟨mE,by repeat (first|exact bC.refl _|apply bC.step)⟩
 ·rw[if_neg c4]at H;have lG:decide (a1≤a0)=false:=decide_eq_false c4;clear c4;obtain rfl:=Option.some.inj H;go_enter Try.func83,Try.ntmps83;go_wp2;go_ret;exact⟨mE,by repeat (first|exact bC.refl _|apply bC.step)⟩
def jj.l0:Nat→Int→List (aj)→Int→Int→Option (Int)
 |0,_,_,_,_=>none
 |k+1,x1,x8,x9,sM=>if sM<x9 then (if 0≤sM then (if sM<(x8.length:Int) then (if ((aa x8 sM).f0)=x1 then (some sM) else (jj.l0 k x1 x8 x9 (wrap64 (sM+1)))) else (none)) else (none)) else (some (-1))
def jj.f (k:Nat) (U:List (aj)) (ab:List (ah)) (ae:List (ah)) (af:Int) (a1:Int):Option (Int):=jj.l0 k a1 U (U.length:Int) 0
set_option maxHeartbeats 8000000 in
set_option maxRecDepth 100000 in
theorem jj.calls (k:Nat) (av:Option Addr) (al:Nat) (U:List (aj)) (ao:Option Addr) (an:Nat) (ab:List (ah)) (aq:Option Addr) (ar:Nat) (ae:List (ah)) (af:Int) (a1:Int) (r:Int) (w:World) (cT:Kd.C bj w av U.length U) (cQ:U.length≤al) (cU:Kd.C ay w ao ab.length ab) (cR:ab.length≤an) (cV:Kd.C ay w aq ae.length ae) (cS:ae.length≤ar) (h:jj.f k U ab ae af a1=some r) :
 Calls Try.prog 70 #[.agg #[.slice av U.length al,.slice ao ab.length an,.slice aq ae.length ar,.int .i64 af],.int .i64 a1] w fun e w'=>e = .returned (.int .i64 r)∧Below w.heap.size w w':=by
 have kx:=Try.underlying30;have xZ:=Try.underlying80;have bG:=J cT;have cf:=J cQ;clear cT cQ;have bE:=J cU;have bO:=J cR;clear cU cR;have bL:=J cV;have b6:=J cS;clear cV cS;have HB:=J (Below.refl w.heap.size w);have H:(jj.l0 k a1 U (U.length:Int) 0)=some r:=h;clear h;have H':=J H;clear H;go_enter Try.func70,Try.ntmps70;go_wp2_with (first|((with_reducible refine bk (N:=2) rfl ?_);refine bF 2 #[.slice av U.length al,.slice ao ab.length an,.slice aq ae.length ar,.int .i64 af] 30 ?_;intro aj6 hg w3 hbox hb;have sU:=J (hbox);have arO:=mG hg (mH HB.1);have vA:=mG hg (mH HB.1);replace HB:=J (aK (mH HB.1) hb);clear hb hbox hg;obtain⟨LQ,LR,LS,R7,SX,Mg,Mh,SY⟩:=aX sU.1));go_loopg [10] k (fun kq v10 w'=>∃(ic:Int),v10 = .int .i64 ic∧Aside0 (jj.l0 kq a1 U (U.length:Int) ic=some r)∧Aside0 (kq≤k)∧Aside0 (w'.heap[aj6]? = some (.cells #[(.slice av U.length al),(.slice ao ab.length an),(.slice aq ae.length ar),.int .i64 af] 30 (0,0)))∧Aside0 (Below w.heap.size w w'))
 case atStart=>exact⟨(0),mE,H',⟨Nat.le_refl _⟩,⟨mK sU.1⟩,⟨(aM HB.1 vA.1)⟩⟩
 case round=>
  clear H'
  try clear LQ
  try clear LR
  try clear LS
  try clear R7
  try clear SX
  try clear Mg
  try clear Mh
  try clear SY
  obtain⟨ic,rfl,HA,bA,sU,HB⟩:=hrel;cases gk with
  |zero=>exact absurd HA.1 (by simp[jj.l0])
  |succ k1=>
   have H:=HA.1;clear HA;simp only[jj.l0]at H;by_cases c5:ic<(U.length:Int)
   ·rw[if_pos c5]at H;have j8:=decide_eq_true c5;clear c5;by_cases c6:0≤ic
    ·rw[if_pos c6]at H;have jU:=decide_eq_true c6;clear c6;by_cases c7:ic<(U.length:Int)
     ·rw[if_pos c7]at H;have zq:=decide_eq_true c7;clear c7;by_cases c8:((aa U ic).f0)=a1
      ·rw[if_pos c8]at H;have tk:(((aa U ic).f0) == a1)=true:=beq_iff_eq.mpr c8;have Qq:(((aa U ic).f0) != a1)=false:=bne_eq_false_iff_eq.mpr c8;clear c8;obtain rfl:=Option.some.inj H;have B7:0≤(ic:Int):=mD;have Cr:ic<(U.length:Int):=mD;obtain⟨ahQ,aeU,ais,QO,H6,H7,H8,Hp,Hg⟩:=iW bG.1 ic B7 Cr;cases QO
       replace H6:=mX HB.1 H6;replace H7:=mX HB.1 H7;replace H8:=mX HB.1 H8;have af1:=J Hg;have afD:=J Hp;clear Hg Hp;replace B7:=eq_true B7;replace Cr:=eq_true Cr;go_wp2_with (first|((with_reducible refine bk (N:=6) rfl ?_);refine bF 6 #[.int .i64 0,.slice none 0 0,.int .i64 0] 80 ?_;intro aj7 hg w9 hbox hb;have Ol:=J (hbox);have afu:=mG hg (aM HB.1 vA.1);have OC:=mG hg (aM HB.1 vA.1);replace HB:=J (aK (aM HB.1 vA.1) hb);have Kb:=bw hg sU.1;have Pr:=bu hg sU.1;replace sU:=mB sU hb;clear hb hbox hg;have Hr:=Pr.1;have Hu:=Kb.1;obtain⟨Gz,Rz,Z8,GS,Sl,aaG⟩:=mu Ol.1));go_ret;exact⟨de,(az HB.1 vA.1 OC.1)⟩
      ·rw[if_neg c8]at H;have tk:(((aa U ic).f0) == a1)=false:=beq_eq_false_iff_ne.mpr c8;have Qq:(((aa U ic).f0) != a1)=true:=bne_iff_ne.mpr c8;have H':=J H;clear H;have B7:0≤(ic:Int):=mD;have Cr:ic<(U.length:Int):=mD;obtain⟨ahQ,aeU,ais,QO,H6,H7,H8,Hp,Hg⟩:=iW bG.1 ic B7 Cr;cases QO
       replace H6:=mX HB.1 H6;replace H7:=mX HB.1 H7;replace H8:=mX HB.1 H8;have af1:=J Hg;have afD:=J Hp;clear Hg Hp;replace B7:=eq_true B7;replace Cr:=eq_true Cr;go_wp2_with (first|((with_reducible refine bk (N:=6) rfl ?_);refine bF 6 #[.int .i64 0,.slice none 0 0,.int .i64 0] 80 ?_;intro aj7 hg fb hbox hb;have Ol:=J (hbox);have afu:=mG hg (aM HB.1 vA.1);have OC:=mG hg (aM HB.1 vA.1);replace HB:=J (aK (aM HB.1 vA.1) hb);have Kb:=bw hg sU.1;have Pr:=bu hg sU.1;replace sU:=mB sU hb;clear hb hbox hg;have Hs:=Pr.1;have Hv:=Kb.1;obtain⟨Bw,Bx,LA,BA,BB,L2⟩:=mu Ol.1));go_roundg k1
       case measure=>have:=bA.1;omega
       case rel=>exact⟨(wrap64 (ic+1)),mE,H',⟨by have:=bA.1;omega⟩,⟨bH Kb.1 sU.1⟩,⟨(az HB.1 vA.1 OC.1)⟩⟩
     ·rw[if_neg c7]at H;exact absurd H (by simp)
    ·rw[if_neg c6]at H;exact absurd H (by simp)
   ·rw[if_neg c5]at H;have j8:=decide_eq_false c5;clear c5;obtain rfl:=Option.some.inj H;go_wp2;go_ret;exact⟨de,(aM HB.1 vA.1)⟩
mutual
def gh.l0:Nat→ByteArray→Int→Option (Bool)
 |0,_,_=>none
 |k+1,x0,x3=>if x3<(x0.size:Int) then (if 0≤x3 then (if (bt x0 x3)≥97 then (if ((bt x0 x3)≤122) then (gh.j1 k x0 x3 false) else (if (bt x0 x3)≥48 then (if ((bt x0 x3)≤57) then (gh.j1 k x0 x3 false) else (if (bt x0 x3)=45 then (gh.j1 k x0 x3 false) else (gh.j1 k x0 x3 ((bt x0 x3) != 46)))) else (if (bt x0 x3)=45 then (gh.j1 k x0 x3 false) else (gh.j1 k x0 x3 ((bt x0 x3) != 46))))) else (if (bt x0 x3)≥48 then (if ((bt x0 x3)≤57) then (gh.j1 k x0 x3 false) else (if (bt x0 x3)=45 then (gh.j1 k x0 x3 false) else (gh.j1 k x0 x3 ((bt x0 x3) != 46)))) else (if (bt x0 x3)=45 then (gh.j1 k x0 x3 false) else (gh.j1 k x0 x3 ((bt x0 x3) != 46))))) else (none)) else ((kd.f (x0.size:Int) 1 12).bind fun Ny=>(some Ny))
def gh.j1:Nat→ByteArray→Int→Bool→Option (Bool)
 |0,_,_,_=>none
 |k+1,x0,x3,x37=>if x37=true then (some false) else (gh.l0 k x0 (wrap64 (x3+1)))
end
def gh.f (k:Nat) (a0:ByteArray):Option (Bool):=gh.l0 k a0 0
set_option maxHeartbeats 8000000 in
set_option maxRecDepth 100000 in
theorem gh.calls (k:Nat) (a0:ByteArray) (r:Bool) (w:World) (h:gh.f k a0=some r) :
 Calls Try.prog 93 #[.string a0] w fun e w'=>e = .returned (.bool r)∧bC w w':=by
 have H:(gh.l0 k a0 0)=some r:=h;clear h;have H':=J H;clear H;go_enter Try.func93,Try.ntmps93;go_wp2;go_loopg [3] k (fun kq v3 w'=>∃(a8:Int),v3 = .int .i64 a8∧Aside0 (gh.l0 kq a0 a8=some r)∧Aside0 (kq≤k)∧bC w w')
 case atStart=>exact⟨(0),mE,H',⟨Nat.le_refl _⟩,by repeat (first|exact bC.refl _|apply bC.step)⟩
 case round=>
  clear H';obtain⟨a8,rfl,HA,bA,⟨m1,rfl⟩⟩:=hrel;cases gk with
  |zero=>exact absurd HA.1 (by simp[gh.l0])
  |succ k1=>
   have H:=HA.1;clear HA;simp only[gh.l0]at H;by_cases c2:a8<(a0.size:Int)
   ·rw[if_pos c2]at H;have KO:=decide_eq_true c2;clear c2;by_cases c3:0≤a8
    ·rw[if_pos c3]at H;have l9:=decide_eq_true c3;clear c3;have tX:=J H;clear H;have p4:0≤(a8:Int):=mD;have q4:a8<(a0.size:Int):=mD;have hx4:=YD a0 a8;replace p4:=eq_true p4;replace q4:=eq_true q4;go_upto_region 5 with (fail)
     go_cut [37] (fun v37 wc=>∃(kq:Nat) (N2:Bool),v37 = .bool N2∧Aside0 (gh.j1 kq a0 a8 N2=some r)∧Aside0 (kq≤k1)∧bC w wc)
     case first=>
      have H:=tX.1;clear tX;by_cases c6:(bt a0 a8)≥97
      ·rw[if_pos c6]at H;have jU:decide (97≤(bt a0 a8))=true:=decide_eq_true c6;clear c6
       (first|rw[jU]|(simp only[iq,jJ];rw[jU])|skip)
       by_cases c7:((bt a0 a8)≤122)
       ·rw[if_pos c7]at H;have zq:decide ((bt a0 a8)≤122)=true:=decide_eq_true c7;clear c7;have H':=J H;clear H;go_wp2;go_meet
        case rel=>exact⟨_,(false),mE,H',⟨by have:=bA.1;first|omega|exact Nat.le_refl _⟩,by repeat (first|exact bC.refl _|apply bC.step)⟩
       ·rw[if_neg c7]at H;have zq:decide ((bt a0 a8)≤122)=false:=decide_eq_false c7;clear c7;by_cases c8:(bt a0 a8)≥48
        ·rw[if_pos c8]at H;have tk:decide (48≤(bt a0 a8))=true:=decide_eq_true c8;clear c8;by_cases c9:((bt a0 a8)≤57)
         ·rw[if_pos c9]at H;have zr:decide ((bt a0 a8)≤57)=true:=decide_eq_true c9;clear c9;have H':=J H;clear H;go_wp2;go_meet
          case rel=>exact⟨_,(false),mE,H',⟨by have:=bA.1;first|omega|exact Nat.le_refl _⟩,by repeat (first|exact bC.refl _|apply bC.step)⟩
         ·rw[if_neg c9]at H;have zr:decide ((bt a0 a8)≤57)=false:=decide_eq_false c9;clear c9;by_cases jF:(bt a0 a8)=45
          ·rw[if_pos jF]at H;have Dt:((bt a0 a8) == 45)=true:=beq_iff_eq.mpr jF;have ah7:((bt a0 a8) != 45)=false:=bne_eq_false_iff_eq.mpr jF;clear jF;have H':=J H;clear H;go_wp2;go_meet
           case rel=>exact⟨_,(false),mE,H',⟨by have:=bA.1;first|omega|exact Nat.le_refl _⟩,by repeat (first|exact bC.refl _|apply bC.step)⟩
          ·rw[if_neg jF]at H;have Dt:((bt a0 a8) == 45)=false:=beq_eq_false_iff_ne.mpr jF;have ah7:((bt a0 a8) != 45)=true:=bne_iff_ne.mpr jF;have H':=J H;clear H;go_wp2;go_meet
           case rel=>exact⟨_,(((bt a0 a8) != 46)),mE,H',⟨by have:=bA.1;first|omega|exact Nat.le_refl _⟩,by repeat (first|exact bC.refl _|apply bC.step)⟩
        ·rw[if_neg c8]at H;have tk:decide (48≤(bt a0 a8))=false:=decide_eq_false c8;clear c8;by_cases jm:(bt a0 a8)=45
         ·rw[if_pos jm]at H;have Qk:((bt a0 a8) == 45)=true:=beq_iff_eq.mpr jm;have YE:((bt a0 a8) != 45)=false:=bne_eq_false_iff_eq.mpr jm;clear jm;have H':=J H;clear H;go_wp2;go_meet
          case rel=>exact⟨_,(false),mE,H',⟨by have:=bA.1;first|omega|exact Nat.le_refl _⟩,by repeat (first|exact bC.refl _|apply bC.step)⟩
         ·rw[if_neg jm]at H;have Qk:((bt a0 a8) == 45)=false:=beq_eq_false_iff_ne.mpr jm;have YE:((bt a0 a8) != 45)=true:=bne_iff_ne.mpr jm;have H':=J H;clear H;go_wp2;go_meet
          case rel=>exact⟨_,(((bt a0 a8) != 46)),mE,H',⟨by have:=bA.1;first|omega|exact Nat.le_refl _⟩,by repeat (first|exact bC.refl _|apply bC.step)⟩
      ·rw[if_neg c6]at H;have jU:decide (97≤(bt a0 a8))=false:=decide_eq_false c6;clear c6
       (first|rw[jU]|(simp only[iq,jJ];rw[jU])|skip)
       by_cases gO:(bt a0 a8)≥48
       ·rw[if_pos gO]at H;have vO:decide (48≤(bt a0 a8))=true:=decide_eq_true gO;clear gO;by_cases jx:((bt a0 a8)≤57)
        ·rw[if_pos jx]at H;have xp:decide ((bt a0 a8)≤57)=true:=decide_eq_true jx;clear jx;have H':=J H;clear H;go_wp2;go_meet
         case rel=>exact⟨_,(false),mE,H',⟨by have:=bA.1;first|omega|exact Nat.le_refl _⟩,by repeat (first|exact bC.refl _|apply bC.step)⟩
        ·rw[if_neg jx]at H;have xp:decide ((bt a0 a8)≤57)=false:=decide_eq_false jx;clear jx;by_cases hX:(bt a0 a8)=45
         ·rw[if_pos hX]at H;have xq:((bt a0 a8) == 45)=true:=beq_iff_eq.mpr hX;have aic:((bt a0 a8) != 45)=false:=bne_eq_false_iff_eq.mpr hX;clear hX;have H':=J H;clear H;go_wp2;go_meet
          case rel=>exact⟨_,(false),mE,H',⟨by have:=bA.1;first|omega|exact Nat.le_refl _⟩,by repeat (first|exact bC.refl _|apply bC.step)⟩
         ·rw[if_neg hX]at H;have xq:((bt a0 a8) == 45)=false:=beq_eq_false_iff_ne.mpr hX;have aic:((bt a0 a8) != 45)=true:=bne_iff_ne.mpr hX;have H':=J H;clear H;go_wp2;go_meet
          case rel=>exact⟨_,(((bt a0 a8) != 46)),mE,H',⟨by have:=bA.1;first|omega|exact Nat.le_refl _⟩,by repeat (first|exact bC.refl _|apply bC.step)⟩
       ·rw[if_neg gO]at H;have vO:decide (48≤(bt a0 a8))=false:=decide_eq_false gO;clear gO;by_cases om:(bt a0 a8)=45
        ·rw[if_pos om]at H;have zo:((bt a0 a8) == 45)=true:=beq_iff_eq.mpr om;have aie:((bt a0 a8) != 45)=false:=bne_eq_false_iff_eq.mpr om;clear om;have H':=J H;clear H;go_wp2;go_meet
         case rel=>exact⟨_,(false),mE,H',⟨by have:=bA.1;first|omega|exact Nat.le_refl _⟩,by repeat (first|exact bC.refl _|apply bC.step)⟩
        ·rw[if_neg om]at H;have zo:((bt a0 a8) == 45)=false:=beq_eq_false_iff_ne.mpr om;have aie:((bt a0 a8) != 45)=true:=bne_iff_ne.mpr om;have H':=J H;clear H;go_wp2;go_meet
         case rel=>exact⟨_,(((bt a0 a8) != 46)),mE,H',⟨by have:=bA.1;first|omega|exact Nat.le_refl _⟩,by repeat (first|exact bC.refl _|apply bC.step)⟩
     case rest=>
      clear tX
      try clear c2
      try clear KO
      try clear c3
      try clear l9
      try clear p4
      try clear q4
      try clear hx4
      try clear p4
      try clear q4
      obtain⟨kq,N2,rfl,HA,y1,⟨cA,rfl⟩⟩:=hcut;cases kq with
      |zero=>exact absurd HA.1 (by simp[gh.j1])
      |succ I9=>
       have H:=HA.1;clear HA;simp only[gh.j1]at H;by_cases rh:N2=true
       ·subst rh;have H1:=H;rw[if_pos rfl]at H1;clear H;have H:=H1;clear H1;obtain rfl:=Option.some.inj H;go_wp2;go_ret;exact⟨mE,by repeat (first|exact bC.refl _|apply bC.step)⟩
       ·replace rh:=Bool.eq_false_iff.mpr rh;subst rh;have H1:=H;rw[if_neg (show ¬(false=true) by decide)]at H1;clear H;have H:=H1;clear H1;have H':=J H;clear H;go_wp2;go_roundg I9
        case measure=>have:=bA.1;have:=y1.1;omega
        case rel=>exact⟨(wrap64 (a8+1)),mE,H',⟨by have:=bA.1;have:=y1.1;omega⟩,by repeat (first|exact bC.refl _|apply bC.step)⟩
    ·rw[if_neg c3]at H;exact absurd H (by simp)
   ·rw[if_neg c2]at H;have KO:=decide_eq_false c2;clear c2;replace H:=Option.bind_eq_some_iff.mp H;obtain⟨Ny,yM,H⟩:=H;replace H:(some Ny)=some r:=H;have yL:=J yM;clear yM;obtain rfl:=Option.some.inj H;go_wp2_with (first|((with_reducible refine bo (f:=83) rfl ?_);refine cl 40 Try.func83 #[.int .i64 (a0.size:Int),.int .i64 1,.int .i64 12] ?_;(with_reducible refine(kd.calls (a0.size:Int) 1 12 Ny _ yL.1).mono ?_);rintro e w' ⟨rfl,⟨nd,rfl⟩⟩;refine⟨_,rfl,?_⟩));go_ret;exact⟨mE,by repeat (first|exact bC.refl _|apply bC.step)⟩
def gY.l0:Nat→ByteArray→List (ah)→Int→Int→Option (Int)
 |0,_,_,_,_=>none
 |k+1,x1,x8,x9,sM=>if sM<x9 then (if 0≤sM then (if sM<(x8.length:Int) then (if ((aw x8 sM).f0).toList=x1.toList then (some ((aw x8 sM).f1)) else (gY.l0 k x1 x8 x9 (wrap64 (sM+1)))) else (none)) else (none)) else (some 0)
def gY.f (k:Nat) (U:List (aj)) (ab:List (ah)) (ae:List (ah)) (af:Int) (a1:ByteArray):Option (Int):=gY.l0 k a1 ab (ab.length:Int) 0
set_option maxHeartbeats 8000000 in
set_option maxRecDepth 100000 in
theorem gY.calls (k:Nat) (av:Option Addr) (al:Nat) (U:List (aj)) (ao:Option Addr) (an:Nat) (ab:List (ah)) (aq:Option Addr) (ar:Nat) (ae:List (ah)) (af:Int) (a1:ByteArray) (r:Int) (w:World) (cT:Kd.C bj w av U.length U) (cQ:U.length≤al) (cU:Kd.C ay w ao ab.length ab) (cR:ab.length≤an) (cV:Kd.C ay w aq ae.length ae) (cS:ae.length≤ar) (h:gY.f k U ab ae af a1=some r) :
 Calls Try.prog 57 #[.agg #[.slice av U.length al,.slice ao ab.length an,.slice aq ae.length ar,.int .i64 af],.string a1] w fun e w'=>e = .returned (.int .i64 r)∧Below w.heap.size w w':=by
 have kx:=Try.underlying30;have DY:=Try.underlying63;have bG:=J cT;have cf:=J cQ;clear cT cQ;have bE:=J cU;have bO:=J cR;clear cU cR;have bL:=J cV;have b6:=J cS;clear cV cS;have HB:=J (Below.refl w.heap.size w);have H:(gY.l0 k a1 ab (ab.length:Int) 0)=some r:=h;clear h;have H':=J H;clear H;go_enter Try.func57,Try.ntmps57;go_wp2_with (first|((with_reducible refine bk (N:=2) rfl ?_);refine bF 2 #[.slice av U.length al,.slice ao ab.length an,.slice aq ae.length ar,.int .i64 af] 30 ?_;intro aj8 hg w3 hbox hb;have sV:=J (hbox);have arT:=mG hg (mH HB.1);have vB:=mG hg (mH HB.1);replace HB:=J (aK (mH HB.1) hb);clear hb hbox hg;obtain⟨LQ,LR,LS,R7,SX,Mg,Mh,SY⟩:=aX sV.1));go_loopg [10] k (fun kq v10 w'=>∃(ic:Int),v10 = .int .i64 ic∧Aside0 (gY.l0 kq a1 ab (ab.length:Int) ic=some r)∧Aside0 (kq≤k)∧Aside0 (w'.heap[aj8]? = some (.cells #[(.slice av U.length al),(.slice ao ab.length an),(.slice aq ae.length ar),.int .i64 af] 30 (0,0)))∧Aside0 (Below w.heap.size w w'))
 case atStart=>exact⟨(0),mE,H',⟨Nat.le_refl _⟩,⟨mK sV.1⟩,⟨(aM HB.1 vB.1)⟩⟩
 case round=>
  clear H'
  try clear LQ
  try clear LR
  try clear LS
  try clear R7
  try clear SX
  try clear Mg
  try clear Mh
  try clear SY
  obtain⟨ic,rfl,HA,bA,sV,HB⟩:=hrel;cases gk with
  |zero=>exact absurd HA.1 (by simp[gY.l0])
  |succ k1=>
   have H:=HA.1;clear HA;simp only[gY.l0]at H;by_cases c5:ic<(ab.length:Int)
   ·rw[if_pos c5]at H;have j8:=decide_eq_true c5;clear c5;by_cases c6:0≤ic
    ·rw[if_pos c6]at H;have jU:=decide_eq_true c6;clear c6;by_cases c7:ic<(ab.length:Int)
     ·rw[if_pos c7]at H;have zq:=decide_eq_true c7;clear c7;by_cases c8:((aw ab ic).f0).toList=a1.toList
      ·rw[if_pos c8]at H;have tk:(((aw ab ic).f0).toList == a1.toList)=true:=beq_iff_eq.mpr c8;have Qq:(((aw ab ic).f0).toList != a1.toList)=false:=bne_eq_false_iff_eq.mpr c8;clear c8;obtain rfl:=Option.some.inj H;have Cc:0≤(ic:Int):=mD;have Cu:ic<(ab.length:Int):=mD;obtain⟨ahR,QR,H9,Ia⟩:=iH bE.1 ic Cc Cu;cases QR
       replace H9:=mX HB.1 H9;replace Ia:=mX HB.1 Ia;replace Cc:=eq_true Cc;replace Cu:=eq_true Cu;go_wp2_with (first|((with_reducible refine bk (N:=6) rfl ?_);refine bF 6 #[.string (⟨#[]⟩:ByteArray),.int .i64 0] 63 ?_;intro aj9 hg w9 hbox hb;have Om:=J (hbox);have afv:=mG hg (aM HB.1 vB.1);have OD:=mG hg (aM HB.1 vB.1);replace HB:=J (aK (aM HB.1 vB.1) hb);have Ke:=bw hg sV.1;have Ps:=bu hg sV.1;replace sV:=mB sV hb;clear hb hbox hg;have Hr:=Ps.1;have Hu:=Ke.1;obtain⟨Gz,Rz,GS,Sl⟩:=uP Om.1));go_ret;exact⟨de,(az HB.1 vB.1 OD.1)⟩
      ·rw[if_neg c8]at H;have tk:(((aw ab ic).f0).toList == a1.toList)=false:=beq_eq_false_iff_ne.mpr c8;have Qq:(((aw ab ic).f0).toList != a1.toList)=true:=bne_iff_ne.mpr c8;have H':=J H;clear H;have Cc:0≤(ic:Int):=mD;have Cu:ic<(ab.length:Int):=mD;obtain⟨ahR,QR,H9,Ia⟩:=iH bE.1 ic Cc Cu;cases QR
       replace H9:=mX HB.1 H9;replace Ia:=mX HB.1 Ia;replace Cc:=eq_true Cc;replace Cu:=eq_true Cu;go_wp2_with (first|((with_reducible refine bk (N:=6) rfl ?_);refine bF 6 #[.string (⟨#[]⟩:ByteArray),.int .i64 0] 63 ?_;intro aj9 hg fb hbox hb;have Om:=J (hbox);have afv:=mG hg (aM HB.1 vB.1);have OD:=mG hg (aM HB.1 vB.1);replace HB:=J (aK (aM HB.1 vB.1) hb);have Ke:=bw hg sV.1;have Ps:=bu hg sV.1;replace sV:=mB sV hb;clear hb hbox hg;have Hs:=Ps.1;have Hv:=Ke.1;obtain⟨Bw,Bx,BA,BB⟩:=uP Om.1));go_roundg k1
       case measure=>have:=bA.1;omega
       case rel=>exact⟨(wrap64 (ic+1)),mE,H',⟨by have:=bA.1;omega⟩,⟨bH Ke.1 sV.1⟩,⟨(az HB.1 vB.1 OD.1)⟩⟩
     ·rw[if_neg c7]at H;exact absurd H (by simp)
    ·rw[if_neg c6]at H;exact absurd H (by simp)
   ·rw[if_neg c5]at H;have j8:=decide_eq_false c5;clear c5;obtain rfl:=Option.some.inj H;go_wp2;go_ret;exact⟨de,(aM HB.1 vB.1)⟩
end Go.Proofs.Ytgpkdbnikcghgaa.MD
