-- Written by mp.py, our own printer (wip/mp.py), and made shorter by wip/mp_shrink*.py.
import Derived.Test.YtgpkdbnikcghgaaVAll
import Derived.Test.YtgpkdbnikcghgaaMDx0
namespace Go.Proofs.Ytgpkdbnikcghgaa.MD
open Go.RowKit Go.Proofs.YtgpkdbnikcghgaaW.PrintWords Go.Proofs.YtgpkdbnikcghgaaW.PrintLast Go.Proofs.YtgpkdbnikcghgaaW.PrintMore Go.Proofs.Ytgpkdbnikcghgaa.MWords
attribute [local go_sem] max2_int min2_int max_two min_two max_three min_three max_four min_four
set_option linter.unusedVariables false
set_option linter.unusedSimpArgs false
def dT.l0:Nat→Int→List (ah)→Int→Int→Option (Bool)
 |0,_,_,_,_=>none
 |k+1,x1,x7,x8,x9=>if x9<x8 then (if 0≤x9 then (if x9<(x7.length:Int) then (if ((av x7 x9).f1)=x1 then (some true) else (dT.l0 k x1 x7 x8 (wrap64 (x9+1)))) else (none)) else (none)) else (some false)
def dT.f (k:Nat) (l0:List (ah)) (a1:Int):Option (Bool):=dT.l0 k a1 l0 (l0.length:Int) 0
set_option maxHeartbeats 8000000 in
set_option maxRecDepth 100000 in
theorem dT.calls (k:Nat) (A0:Option Addr) (c0:Nat) (l0:List (ah)) (a1:Int) (r:Bool) (w:World) (fu:Kd.C ay w A0 l0.length l0) (gE:l0.length≤c0) (h:dT.f k l0 a1=some r) :
 Calls Try.prog 81 #[.slice A0 l0.length c0,.int .i64 a1] w fun e w'=>e = .returned (.bool r)∧Below w.heap.size w w':=by
 have Bd:=Try.underlying63;have jf:=J fu;have vr:=J gE;clear fu gE;have HB:=J (Below.refl w.heap.size w);have H:(dT.l0 k a1 l0 (l0.length:Int) 0)=some r:=h;clear h;have H':=J H;clear H;go_enter Try.func81,Try.ntmps81;go_wp2;go_loopg [9] k (fun kq v9 w'=>∃(ak:Int),v9 = .int .i64 ak∧Aside0 (dT.l0 kq a1 l0 (l0.length:Int) ak=some r)∧Aside0 (kq≤k)∧Aside0 (Below w.heap.size w w'))
 case atStart=>exact⟨(0),mE,H',⟨Nat.le_refl _⟩,⟨(mH HB.1)⟩⟩
 case round=>
  clear H'
  obtain⟨ak,rfl,HA,br,HB⟩:=hrel;cases gk with
  |zero=>exact absurd HA.1 (by simp[dT.l0])
  |succ k1=>
   have H:=HA.1;clear HA;simp only[dT.l0]at H;by_cases c3:ak<(l0.length:Int)
   ·rw[if_pos c3]at H;have lS:=decide_eq_true c3;clear c3;by_cases c4:0≤ak
    ·rw[if_pos c4]at H;have lv:=decide_eq_true c4;clear c4;by_cases c5:ak<(l0.length:Int)
     ·rw[if_pos c5]at H;have kA:=decide_eq_true c5;clear c5;by_cases c6:((av l0 ak).f1)=a1
      ·rw[if_pos c6]at H;have jT:(((av l0 ak).f1) == a1)=true:=beq_iff_eq.mpr c6;have yW:(((av l0 ak).f1) != a1)=false:=bne_eq_false_iff_eq.mpr c6;clear c6;obtain rfl:=Option.some.inj H;have Bv:0≤(ak:Int):=mD;have BM:ak<(l0.length:Int):=mD;obtain⟨ag7,Qk,Hi,Hj⟩:=gZ jf.1 ak Bv BM;cases Qk
       replace Hi:=mX HB.1 Hi;replace Hj:=mX HB.1 Hj;replace Bv:=eq_true Bv;replace BM:=eq_true BM;go_wp2_with (first|((with_reducible refine bh (N:=6) rfl ?_);refine bw 6 #[.string (⟨#[]⟩:ByteArray),.int .i64 0] 63 ?_;intro ajl hg w7 hbox hb;have NN:=J (hbox);have aeR:=mG hg (mH HB.1);have N2:=mG hg (mH HB.1);replace HB:=J (aK (mH HB.1) hb);clear hb hbox hg;obtain⟨Dl,Dm,Ds,Dt⟩:=sl NN.1));go_ret;exact⟨cW,(aM HB.1 N2.1)⟩
      ·rw[if_neg c6]at H;have jT:(((av l0 ak).f1) == a1)=false:=beq_eq_false_iff_ne.mpr c6;have yW:(((av l0 ak).f1) != a1)=true:=bne_iff_ne.mpr c6;have H':=J H;clear H;have Bv:0≤(ak:Int):=mD;have BM:ak<(l0.length:Int):=mD;obtain⟨ag7,Qk,Hi,Hj⟩:=gZ jf.1 ak Bv BM;cases Qk
       replace Hi:=mX HB.1 Hi;replace Hj:=mX HB.1 Hj;replace Bv:=eq_true Bv;replace BM:=eq_true BM;go_wp2_with (first|((with_reducible refine bh (N:=6) rfl ?_);refine bw 6 #[.string (⟨#[]⟩:ByteArray),.int .i64 0] 63 ?_;intro ajl hg w9 hbox hb;have NN:=J (hbox);have aeR:=mG hg (mH HB.1);have N2:=mG hg (mH HB.1);replace HB:=J (aK (mH HB.1) hb);clear hb hbox hg;obtain⟨xo,xp,xv,xw⟩:=sl NN.1));go_roundg k1
       case measure=>have:=br.1;omega
       case rel=>exact⟨(wrap64 (ak+1)),mE,H',⟨by have:=br.1;omega⟩,⟨(aM HB.1 N2.1)⟩⟩
     ·rw[if_neg c5]at H;exact absurd H (by simp)
    ·rw[if_neg c4]at H;exact absurd H (by simp)
   ·rw[if_neg c3]at H;have lS:=decide_eq_false c3;clear c3;obtain rfl:=Option.some.inj H;go_wp2;go_ret;exact⟨cW,(mH HB.1)⟩
def jZ.f (a0:Int) (a1:Int) (a2:Int):Option (Bool):=if a0≥a1 then (some (decide (a0≤a2))) else (some false)
set_option maxHeartbeats 8000000 in
set_option maxRecDepth 100000 in
theorem jZ.calls (a0:Int) (a1:Int) (a2:Int) (r:Bool) (w:World) (h:jZ.f a0 a1 a2=some r) :
 Calls Try.prog 83 #[.int .i64 a0,.int .i64 a1,.int .i64 a2] w fun e w'=>e = .returned (.bool r)∧bG w w':=by
 have H:(if a0≥a1 then (some (decide (a0≤a2))) else (some false))=some r:=h;clear h;by_cases c4:a0≥a1
 ·rw[if_pos c4]at H;have lv:decide (a1≤a0)=true:=decide_eq_true c4;clear c4;obtain rfl:=Option.some.inj H;go_enter Try.func83,Try.ntmps83;go_wp2;go_ret;exact⟨mE,by repeat (first|exact bG.refl _|apply bG.step)⟩
 ·rw[if_neg c4]at H;have lv:decide (a1≤a0)=false:=decide_eq_false c4;clear c4;obtain rfl:=Option.some.inj H;go_enter Try.func83,Try.ntmps83;go_wp2;go_ret;exact⟨mE,by repeat (first|exact bG.refl _|apply bG.step)⟩
def kn.l0:Nat→Int→List (aj)→Int→Int→Option (Int)
 |0,_,_,_,_=>none
 |k+1,x1,x8,x9,nQ=>if nQ<x9 then (if 0≤nQ then (if nQ<(x8.length:Int) then (if ((aa x8 nQ).f0)=x1 then (some nQ) else (kn.l0 k x1 x8 x9 (wrap64 (nQ+1)))) else (none)) else (none)) else (some (-1))
def kn.f (k:Nat) (U:List (aj)) (ab:List (ah)) (ae:List (ah)) (af:Int) (a1:Int):Option (Int):=kn.l0 k a1 U (U.length:Int) 0
set_option maxHeartbeats 8000000 in
set_option maxRecDepth 100000 in
theorem kn.calls (k:Nat) (aw:Option Addr) (al:Nat) (U:List (aj)) (ao:Option Addr) (an:Nat) (ab:List (ah)) (aq:Option Addr) (ar:Nat) (ae:List (ah)) (af:Int) (a1:Int) (r:Int) (w:World) (dw:Kd.C bu w aw U.length U) (dt:U.length≤al) (dx:Kd.C ay w ao ab.length ab) (du:ab.length≤an) (dy:Kd.C ay w aq ae.length ae) (dv:ae.length≤ar) (h:kn.f k U ab ae af a1=some r) :
 Calls Try.prog 70 #[.agg #[.slice aw U.length al,.slice ao ab.length an,.slice aq ae.length ar,.int .i64 af],.int .i64 a1] w fun e w'=>e = .returned (.int .i64 r)∧Below w.heap.size w w':=by
 have l3:=Try.underlying30;have xC:=Try.underlying80;have bS:=J dw;have cv:=J dt;clear dw dt;have bN:=J dx;have bX:=J du;clear dx du;have bT:=J dy;have cb:=J dv;clear dy dv;have HB:=J (Below.refl w.heap.size w);have H:(kn.l0 k a1 U (U.length:Int) 0)=some r:=h;clear h;have H':=J H;clear H;go_enter Try.func70,Try.ntmps70;go_wp2_with (first|((with_reducible refine bh (N:=2) rfl ?_);refine bw 2 #[.slice aw U.length al,.slice ao ab.length an,.slice aq ae.length ar,.int .i64 af] 30 ?_;intro ajm hg w3 hbox hb;have sC:=J (hbox);have aq4:=mG hg (mH HB.1);have vp:=mG hg (mH HB.1);replace HB:=J (aK (mH HB.1) hb);clear hb hbox hg;obtain⟨Ld,Le,Lf,Rq,R8,LC,LD,R9⟩:=aY sC.1));go_loopg [10] k (fun kq v10 w'=>∃(hX:Int),v10 = .int .i64 hX∧Aside0 (kn.l0 kq a1 U (U.length:Int) hX=some r)∧Aside0 (kq≤k)∧Aside0 (w'.heap[ajm]? = some (.cells #[(.slice aw U.length al),(.slice ao ab.length an),(.slice aq ae.length ar),.int .i64 af] 30 (0,0)))∧Aside0 (Below w.heap.size w w'))
 case atStart=>exact⟨(0),mE,H',⟨Nat.le_refl _⟩,⟨mK sC.1⟩,⟨(aM HB.1 vp.1)⟩⟩
 case round=>
  clear H'
  try clear Ld
  try clear Le
  try clear Lf
  try clear Rq
  try clear R8
  try clear LC
  try clear LD
  try clear R9
  obtain⟨hX,rfl,HA,br,sC,HB⟩:=hrel;cases gk with
  |zero=>exact absurd HA.1 (by simp[kn.l0])
  |succ k1=>
   have H:=HA.1;clear HA;simp only[kn.l0]at H;by_cases c5:hX<(U.length:Int)
   ·rw[if_pos c5]at H;have kA:=decide_eq_true c5;clear c5;by_cases c6:0≤hX
    ·rw[if_pos c6]at H;have jT:=decide_eq_true c6;clear c6;by_cases c7:hX<(U.length:Int)
     ·rw[if_pos c7]at H;have yX:=decide_eq_true c7;clear c7;by_cases c8:((aa U hX).f0)=a1
      ·rw[if_pos c8]at H;have s6:(((aa U hX).f0) == a1)=true:=beq_iff_eq.mpr c8;have PT:(((aa U hX).f0) != a1)=false:=bne_eq_false_iff_eq.mpr c8;clear c8;obtain rfl:=Option.some.inj H;have Bw:0≤(hX:Int):=mD;have BN:hX<(U.length:Int):=mD;obtain⟨ag8,aeh,ahL,Ql,Hk,Hl,Hm,GU,GL⟩:=jg bS.1 hX Bw BN;cases Ql
       replace Hk:=mX HB.1 Hk;replace Hl:=mX HB.1 Hl;replace Hm:=mX HB.1 Hm;have afp:=J GL;have ae2:=J GU;clear GL GU;replace Bw:=eq_true Bw;replace BN:=eq_true BN;go_wp2_with (first|((with_reducible refine bh (N:=6) rfl ?_);refine bw 6 #[.int .i64 0,.slice none 0 0,.int .i64 0] 80 ?_;intro ajn hg w9 hbox hb;have NO:=J (hbox);have aeS:=mG hg (aM HB.1 vp.1);have N3:=mG hg (aM HB.1 vp.1);replace HB:=J (aK (aM HB.1 vp.1) hb);have JA:=bA hg sC.1;have OP:=bz hg sC.1;replace sC:=mB sC hb;clear hb hbox hg;have LK:=OP.1;have LO:=JA.1;obtain⟨Gg,KU,Zg,Gu,Ln,ZX⟩:=mj NO.1));go_ret;exact⟨cW,(az HB.1 vp.1 N3.1)⟩
      ·rw[if_neg c8]at H;have s6:(((aa U hX).f0) == a1)=false:=beq_eq_false_iff_ne.mpr c8;have PT:(((aa U hX).f0) != a1)=true:=bne_iff_ne.mpr c8;have H':=J H;clear H;have Bw:0≤(hX:Int):=mD;have BN:hX<(U.length:Int):=mD;obtain⟨ag8,aeh,ahL,Ql,Hk,Hl,Hm,GU,GL⟩:=jg bS.1 hX Bw BN;cases Ql
       replace Hk:=mX HB.1 Hk;replace Hl:=mX HB.1 Hl;replace Hm:=mX HB.1 Hm;have afp:=J GL;have ae2:=J GU;clear GL GU;replace Bw:=eq_true Bw;replace BN:=eq_true BN;go_wp2_with (first|((with_reducible refine bh (N:=6) rfl ?_);refine bw 6 #[.int .i64 0,.slice none 0 0,.int .i64 0] 80 ?_;intro ajn hg eS hbox hb;have NO:=J (hbox);have aeS:=mG hg (aM HB.1 vp.1);have N3:=mG hg (aM HB.1 vp.1);replace HB:=J (aK (aM HB.1 vp.1) hb);have JA:=bA hg sC.1;have OP:=bz hg sC.1;replace sC:=mB sC hb;clear hb hbox hg;have GV:=OP.1;have GY:=JA.1;obtain⟨AW,AX,KV,Ba,Bb,Lo⟩:=mj NO.1));go_roundg k1
       case measure=>have:=br.1;omega
       case rel=>exact⟨(wrap64 (hX+1)),mE,H',⟨by have:=br.1;omega⟩,⟨bF JA.1 sC.1⟩,⟨(az HB.1 vp.1 N3.1)⟩⟩
     ·rw[if_neg c7]at H;exact absurd H (by simp)
    ·rw[if_neg c6]at H;exact absurd H (by simp)
   ·rw[if_neg c5]at H;have kA:=decide_eq_false c5;clear c5;obtain rfl:=Option.some.inj H;go_wp2;go_ret;exact⟨cW,(aM HB.1 vp.1)⟩
mutual
def fV.l0:Nat→ByteArray→Int→Option (Bool)
 |0,_,_=>none
 |k+1,x0,x3=>if x3<(x0.size:Int) then (if 0≤x3 then (if (bt x0 x3)≥97 then (if ((bt x0 x3)≤122) then (fV.j1 k x0 x3 false) else (if (bt x0 x3)≥48 then (if ((bt x0 x3)≤57) then (fV.j1 k x0 x3 false) else (if (bt x0 x3)=45 then (fV.j1 k x0 x3 false) else (fV.j1 k x0 x3 ((bt x0 x3) != 46)))) else (if (bt x0 x3)=45 then (fV.j1 k x0 x3 false) else (fV.j1 k x0 x3 ((bt x0 x3) != 46))))) else (if (bt x0 x3)≥48 then (if ((bt x0 x3)≤57) then (fV.j1 k x0 x3 false) else (if (bt x0 x3)=45 then (fV.j1 k x0 x3 false) else (fV.j1 k x0 x3 ((bt x0 x3) != 46)))) else (if (bt x0 x3)=45 then (fV.j1 k x0 x3 false) else (fV.j1 k x0 x3 ((bt x0 x3) != 46))))) else (none)) else ((jZ.f (x0.size:Int) 1 12).bind fun MS=>(some MS))
def fV.j1:Nat→ByteArray→Int→Bool→Option (Bool)
 |0,_,_,_=>none
 |k+1,x0,x3,x37=>if x37=true then (some false) else (fV.l0 k x0 (wrap64 (x3+1)))
end
def fV.f (k:Nat) (a0:ByteArray):Option (Bool):=fV.l0 k a0 0
set_option maxHeartbeats 8000000 in
set_option maxRecDepth 100000 in
theorem fV.calls (k:Nat) (a0:ByteArray) (r:Bool) (w:World) (h:fV.f k a0=some r) :
 Calls Try.prog 93 #[.string a0] w fun e w'=>e = .returned (.bool r)∧bG w w':=by
 have H:(fV.l0 k a0 0)=some r:=h;clear h;have H':=J H;clear H;go_enter Try.func93,Try.ntmps93;go_wp2;go_loopg [3] k (fun kq v3 w'=>∃(aZ:Int),v3 = .int .i64 aZ∧Aside0 (fV.l0 kq a0 aZ=some r)∧Aside0 (kq≤k)∧bG w w')
 case atStart=>exact⟨(0),mE,H',⟨Nat.le_refl _⟩,by repeat (first|exact bG.refl _|apply bG.step)⟩
 case round=>
  clear H';obtain⟨aZ,rfl,HA,br,⟨m1,rfl⟩⟩:=hrel;cases gk with
  |zero=>exact absurd HA.1 (by simp[fV.l0])
  |succ k1=>
   have H:=HA.1;clear HA;simp only[fV.l0]at H;by_cases c2:aZ<(a0.size:Int)
   ·rw[if_pos c2]at H;have J9:=decide_eq_true c2;clear c2;by_cases c3:0≤aZ
    ·rw[if_pos c3]at H;have lS:=decide_eq_true c3;clear c3;have tG:=J H;clear H;have p4:0≤(aZ:Int):=mD;have q4:aZ<(a0.size:Int):=mD;have hx4:=XM a0 aZ;replace p4:=eq_true p4;replace q4:=eq_true q4;go_upto_region 5 with (fail)
     go_cut [37] (fun v37 wc=>∃(kq:Nat) (Nw:Bool),v37 = .bool Nw∧Aside0 (fV.j1 kq a0 aZ Nw=some r)∧Aside0 (kq≤k1)∧bG w wc)
     case first=>
      have H:=tG.1;clear tG;by_cases c6:(bt a0 aZ)≥97
      ·rw[if_pos c6]at H;have jT:decide (97≤(bt a0 aZ))=true:=decide_eq_true c6;clear c6
       (first|rw[jT]|(simp only[ij,jC];rw[jT])|skip)
       by_cases c7:((bt a0 aZ)≤122)
       ·rw[if_pos c7]at H;have yX:decide ((bt a0 aZ)≤122)=true:=decide_eq_true c7;clear c7;have H':=J H;clear H;go_wp2;go_meet
        case rel=>exact⟨_,(false),mE,H',⟨by have:=br.1;first|omega|exact Nat.le_refl _⟩,by repeat (first|exact bG.refl _|apply bG.step)⟩
       ·rw[if_neg c7]at H;have yX:decide ((bt a0 aZ)≤122)=false:=decide_eq_false c7;clear c7;by_cases c8:(bt a0 aZ)≥48
        ·rw[if_pos c8]at H;have s6:decide (48≤(bt a0 aZ))=true:=decide_eq_true c8;clear c8;by_cases c9:((bt a0 aZ)≤57)
         ·rw[if_pos c9]at H;have yY:decide ((bt a0 aZ)≤57)=true:=decide_eq_true c9;clear c9;have H':=J H;clear H;go_wp2;go_meet
          case rel=>exact⟨_,(false),mE,H',⟨by have:=br.1;first|omega|exact Nat.le_refl _⟩,by repeat (first|exact bG.refl _|apply bG.step)⟩
         ·rw[if_neg c9]at H;have yY:decide ((bt a0 aZ)≤57)=false:=decide_eq_false c9;clear c9;by_cases jy:(bt a0 aZ)=45
          ·rw[if_pos jy]at H;have C3:((bt a0 aZ) == 45)=true:=beq_iff_eq.mpr jy;have ahr:((bt a0 aZ) != 45)=false:=bne_eq_false_iff_eq.mpr jy;clear jy;have H':=J H;clear H;go_wp2;go_meet
           case rel=>exact⟨_,(false),mE,H',⟨by have:=br.1;first|omega|exact Nat.le_refl _⟩,by repeat (first|exact bG.refl _|apply bG.step)⟩
          ·rw[if_neg jy]at H;have C3:((bt a0 aZ) == 45)=false:=beq_eq_false_iff_ne.mpr jy;have ahr:((bt a0 aZ) != 45)=true:=bne_iff_ne.mpr jy;have H':=J H;clear H;go_wp2;go_meet
           case rel=>exact⟨_,(((bt a0 aZ) != 46)),mE,H',⟨by have:=br.1;first|omega|exact Nat.le_refl _⟩,by repeat (first|exact bG.refl _|apply bG.step)⟩
        ·rw[if_neg c8]at H;have s6:decide (48≤(bt a0 aZ))=false:=decide_eq_false c8;clear c8;by_cases jh:(bt a0 aZ)=45
         ·rw[if_pos jh]at H;have PN:((bt a0 aZ) == 45)=true:=beq_iff_eq.mpr jh;have XP:((bt a0 aZ) != 45)=false:=bne_eq_false_iff_eq.mpr jh;clear jh;have H':=J H;clear H;go_wp2;go_meet
          case rel=>exact⟨_,(false),mE,H',⟨by have:=br.1;first|omega|exact Nat.le_refl _⟩,by repeat (first|exact bG.refl _|apply bG.step)⟩
         ·rw[if_neg jh]at H;have PN:((bt a0 aZ) == 45)=false:=beq_eq_false_iff_ne.mpr jh;have XP:((bt a0 aZ) != 45)=true:=bne_iff_ne.mpr jh;have H':=J H;clear H;go_wp2;go_meet
          case rel=>exact⟨_,(((bt a0 aZ) != 46)),mE,H',⟨by have:=br.1;first|omega|exact Nat.le_refl _⟩,by repeat (first|exact bG.refl _|apply bG.step)⟩
      ·rw[if_neg c6]at H;have jT:decide (97≤(bt a0 aZ))=false:=decide_eq_false c6;clear c6
       (first|rw[jT]|(simp only[ij,jC];rw[jT])|skip)
       by_cases gK:(bt a0 aZ)≥48
       ·rw[if_pos gK]at H;have vE:decide (48≤(bt a0 aZ))=true:=decide_eq_true gK;clear gK;by_cases jo:((bt a0 aZ)≤57)
        ·rw[if_pos jo]at H;have wY:decide ((bt a0 aZ)≤57)=true:=decide_eq_true jo;clear jo;have H':=J H;clear H;go_wp2;go_meet
         case rel=>exact⟨_,(false),mE,H',⟨by have:=br.1;first|omega|exact Nat.le_refl _⟩,by repeat (first|exact bG.refl _|apply bG.step)⟩
        ·rw[if_neg jo]at H;have wY:decide ((bt a0 aZ)≤57)=false:=decide_eq_false jo;clear jo;by_cases hJ:(bt a0 aZ)=45
         ·rw[if_pos hJ]at H;have wZ:((bt a0 aZ) == 45)=true:=beq_iff_eq.mpr hJ;have ahw:((bt a0 aZ) != 45)=false:=bne_eq_false_iff_eq.mpr hJ;clear hJ;have H':=J H;clear H;go_wp2;go_meet
          case rel=>exact⟨_,(false),mE,H',⟨by have:=br.1;first|omega|exact Nat.le_refl _⟩,by repeat (first|exact bG.refl _|apply bG.step)⟩
         ·rw[if_neg hJ]at H;have wZ:((bt a0 aZ) == 45)=false:=beq_eq_false_iff_ne.mpr hJ;have ahw:((bt a0 aZ) != 45)=true:=bne_iff_ne.mpr hJ;have H':=J H;clear H;go_wp2;go_meet
          case rel=>exact⟨_,(((bt a0 aZ) != 46)),mE,H',⟨by have:=br.1;first|omega|exact Nat.le_refl _⟩,by repeat (first|exact bG.refl _|apply bG.step)⟩
       ·rw[if_neg gK]at H;have vE:decide (48≤(bt a0 aZ))=false:=decide_eq_false gK;clear gK;by_cases n5:(bt a0 aZ)=45
        ·rw[if_pos n5]at H;have yU:((bt a0 aZ) == 45)=true:=beq_iff_eq.mpr n5;have ahy:((bt a0 aZ) != 45)=false:=bne_eq_false_iff_eq.mpr n5;clear n5;have H':=J H;clear H;go_wp2;go_meet
         case rel=>exact⟨_,(false),mE,H',⟨by have:=br.1;first|omega|exact Nat.le_refl _⟩,by repeat (first|exact bG.refl _|apply bG.step)⟩
        ·rw[if_neg n5]at H;have yU:((bt a0 aZ) == 45)=false:=beq_eq_false_iff_ne.mpr n5;have ahy:((bt a0 aZ) != 45)=true:=bne_iff_ne.mpr n5;have H':=J H;clear H;go_wp2;go_meet
         case rel=>exact⟨_,(((bt a0 aZ) != 46)),mE,H',⟨by have:=br.1;first|omega|exact Nat.le_refl _⟩,by repeat (first|exact bG.refl _|apply bG.step)⟩
     case rest=>
      clear tG
      try clear c2
      try clear J9
      try clear c3
      try clear lS
      try clear p4
      try clear q4
      try clear hx4
      try clear p4
      try clear q4
      obtain⟨kq,Nw,rfl,HA,yA,⟨cz,rfl⟩⟩:=hcut;cases kq with
      |zero=>exact absurd HA.1 (by simp[fV.j1])
      |succ Iz=>
       have H:=HA.1;clear HA;simp only[fV.j1]at H;by_cases qW:Nw=true
       ·subst qW;have H1:=H;rw[if_pos rfl]at H1;clear H;have H:=H1;clear H1;obtain rfl:=Option.some.inj H;go_wp2;go_ret;exact⟨mE,by repeat (first|exact bG.refl _|apply bG.step)⟩
       ·replace qW:=Bool.eq_false_iff.mpr qW;subst qW;have H1:=H;rw[if_neg (show ¬(false=true) by decide)]at H1;clear H;have H:=H1;clear H1;have H':=J H;clear H;go_wp2;go_roundg Iz
        case measure=>have:=br.1;have:=yA.1;omega
        case rel=>exact⟨(wrap64 (aZ+1)),mE,H',⟨by have:=br.1;have:=yA.1;omega⟩,by repeat (first|exact bG.refl _|apply bG.step)⟩
    ·rw[if_neg c3]at H;exact absurd H (by simp)
   ·rw[if_neg c2]at H;have J9:=decide_eq_false c2;clear c2;replace H:=Option.bind_eq_some_iff.mp H;obtain⟨MS,yk,H⟩:=H;replace H:(some MS)=some r:=H;have yj:=J yk;clear yk;obtain rfl:=Option.some.inj H;go_wp2_with (first|((with_reducible refine bm (f:=83) rfl ?_);refine cd 40 Try.func83 #[.int .i64 (a0.size:Int),.int .i64 1,.int .i64 12] ?_;(with_reducible refine(jZ.calls (a0.size:Int) 1 12 MS _ yj.1).mono ?_);rintro e w' ⟨rfl,⟨nd,rfl⟩⟩;refine⟨_,rfl,?_⟩));go_ret;exact⟨mE,by repeat (first|exact bG.refl _|apply bG.step)⟩
def iY.l0:Nat→ByteArray→List (ah)→Int→Int→Option (Int)
 |0,_,_,_,_=>none
 |k+1,x1,x8,x9,nQ=>if nQ<x9 then (if 0≤nQ then (if nQ<(x8.length:Int) then (if ((av x8 nQ).f0).toList=x1.toList then (some ((av x8 nQ).f1)) else (iY.l0 k x1 x8 x9 (wrap64 (nQ+1)))) else (none)) else (none)) else (some 0)
def iY.f (k:Nat) (U:List (aj)) (ab:List (ah)) (ae:List (ah)) (af:Int) (a1:ByteArray):Option (Int):=iY.l0 k a1 ab (ab.length:Int) 0
set_option maxHeartbeats 8000000 in
set_option maxRecDepth 100000 in
theorem iY.calls (k:Nat) (aw:Option Addr) (al:Nat) (U:List (aj)) (ao:Option Addr) (an:Nat) (ab:List (ah)) (aq:Option Addr) (ar:Nat) (ae:List (ah)) (af:Int) (a1:ByteArray) (r:Int) (w:World) (dw:Kd.C bu w aw U.length U) (dt:U.length≤al) (dx:Kd.C ay w ao ab.length ab) (du:ab.length≤an) (dy:Kd.C ay w aq ae.length ae) (dv:ae.length≤ar) (h:iY.f k U ab ae af a1=some r) :
 Calls Try.prog 57 #[.agg #[.slice aw U.length al,.slice ao ab.length an,.slice aq ae.length ar,.int .i64 af],.string a1] w fun e w'=>e = .returned (.int .i64 r)∧Below w.heap.size w w':=by
 have l3:=Try.underlying30;have Bd:=Try.underlying63;have bS:=J dw;have cv:=J dt;clear dw dt;have bN:=J dx;have bX:=J du;clear dx du;have bT:=J dy;have cb:=J dv;clear dy dv;have HB:=J (Below.refl w.heap.size w);have H:(iY.l0 k a1 ab (ab.length:Int) 0)=some r:=h;clear h;have H':=J H;clear H;go_enter Try.func57,Try.ntmps57;go_wp2_with (first|((with_reducible refine bh (N:=2) rfl ?_);refine bw 2 #[.slice aw U.length al,.slice ao ab.length an,.slice aq ae.length ar,.int .i64 af] 30 ?_;intro ajo hg w3 hbox hb;have sD:=J (hbox);have aq9:=mG hg (mH HB.1);have vq:=mG hg (mH HB.1);replace HB:=J (aK (mH HB.1) hb);clear hb hbox hg;obtain⟨Ld,Le,Lf,Rq,R8,LC,LD,R9⟩:=aY sD.1));go_loopg [10] k (fun kq v10 w'=>∃(hX:Int),v10 = .int .i64 hX∧Aside0 (iY.l0 kq a1 ab (ab.length:Int) hX=some r)∧Aside0 (kq≤k)∧Aside0 (w'.heap[ajo]? = some (.cells #[(.slice aw U.length al),(.slice ao ab.length an),(.slice aq ae.length ar),.int .i64 af] 30 (0,0)))∧Aside0 (Below w.heap.size w w'))
 case atStart=>exact⟨(0),mE,H',⟨Nat.le_refl _⟩,⟨mK sD.1⟩,⟨(aM HB.1 vq.1)⟩⟩
 case round=>
  clear H'
  try clear Ld
  try clear Le
  try clear Lf
  try clear Rq
  try clear R8
  try clear LC
  try clear LD
  try clear R9
  obtain⟨hX,rfl,HA,br,sD,HB⟩:=hrel;cases gk with
  |zero=>exact absurd HA.1 (by simp[iY.l0])
  |succ k1=>
   have H:=HA.1;clear HA;simp only[iY.l0]at H;by_cases c5:hX<(ab.length:Int)
   ·rw[if_pos c5]at H;have kA:=decide_eq_true c5;clear c5;by_cases c6:0≤hX
    ·rw[if_pos c6]at H;have jT:=decide_eq_true c6;clear c6;by_cases c7:hX<(ab.length:Int)
     ·rw[if_pos c7]at H;have yX:=decide_eq_true c7;clear c7;by_cases c8:((av ab hX).f0).toList=a1.toList
      ·rw[if_pos c8]at H;have s6:(((av ab hX).f0).toList == a1.toList)=true:=beq_iff_eq.mpr c8;have PT:(((av ab hX).f0).toList != a1.toList)=false:=bne_eq_false_iff_eq.mpr c8;clear c8;obtain rfl:=Option.some.inj H;have By:0≤(hX:Int):=mD;have BP:hX<(ab.length:Int):=mD;obtain⟨ag9,Qn,Hn,Ho⟩:=gZ bN.1 hX By BP;cases Qn
       replace Hn:=mX HB.1 Hn;replace Ho:=mX HB.1 Ho;replace By:=eq_true By;replace BP:=eq_true BP;go_wp2_with (first|((with_reducible refine bh (N:=6) rfl ?_);refine bw 6 #[.string (⟨#[]⟩:ByteArray),.int .i64 0] 63 ?_;intro ajp hg w9 hbox hb;have NP:=J (hbox);have aeT:=mG hg (aM HB.1 vq.1);have N4:=mG hg (aM HB.1 vq.1);replace HB:=J (aK (aM HB.1 vq.1) hb);have JB:=bA hg sD.1;have OQ:=bz hg sD.1;replace sD:=mB sD hb;clear hb hbox hg;have LK:=OQ.1;have LO:=JB.1;obtain⟨Gg,KU,Gu,Ln⟩:=sl NP.1));go_ret;exact⟨cW,(az HB.1 vq.1 N4.1)⟩
      ·rw[if_neg c8]at H;have s6:(((av ab hX).f0).toList == a1.toList)=false:=beq_eq_false_iff_ne.mpr c8;have PT:(((av ab hX).f0).toList != a1.toList)=true:=bne_iff_ne.mpr c8;have H':=J H;clear H;have By:0≤(hX:Int):=mD;have BP:hX<(ab.length:Int):=mD;obtain⟨ag9,Qn,Hn,Ho⟩:=gZ bN.1 hX By BP;cases Qn
       replace Hn:=mX HB.1 Hn;replace Ho:=mX HB.1 Ho;replace By:=eq_true By;replace BP:=eq_true BP;go_wp2_with (first|((with_reducible refine bh (N:=6) rfl ?_);refine bw 6 #[.string (⟨#[]⟩:ByteArray),.int .i64 0] 63 ?_;intro ajp hg eS hbox hb;have NP:=J (hbox);have aeT:=mG hg (aM HB.1 vq.1);have N4:=mG hg (aM HB.1 vq.1);replace HB:=J (aK (aM HB.1 vq.1) hb);have JB:=bA hg sD.1;have OQ:=bz hg sD.1;replace sD:=mB sD hb;clear hb hbox hg;have GV:=OQ.1;have GY:=JB.1;obtain⟨AW,AX,Ba,Bb⟩:=sl NP.1));go_roundg k1
       case measure=>have:=br.1;omega
       case rel=>exact⟨(wrap64 (hX+1)),mE,H',⟨by have:=br.1;omega⟩,⟨bF JB.1 sD.1⟩,⟨(az HB.1 vq.1 N4.1)⟩⟩
     ·rw[if_neg c7]at H;exact absurd H (by simp)
    ·rw[if_neg c6]at H;exact absurd H (by simp)
   ·rw[if_neg c5]at H;have kA:=decide_eq_false c5;clear c5;obtain rfl:=Option.some.inj H;go_wp2;go_ret;exact⟨cW,(aM HB.1 vq.1)⟩
end Go.Proofs.Ytgpkdbnikcghgaa.MD
