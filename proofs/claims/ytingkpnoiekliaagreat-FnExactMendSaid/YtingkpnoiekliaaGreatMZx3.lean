-- Written by mp.py, our own printer (wip/mp.py), and made shorter by wip/mp_shrink*.py.
import Derived.Test.YtingkpnoiekliaaGreatVAll
import Derived.Test.YtingkpnoiekliaaGreatG1
namespace Go.Proofs.YtingkpnoiekliaaGreat.MZ
open Go.RowKit Go.Proofs.YtingkpnoiekliaaGreatW.PrintWords Go.Proofs.YtingkpnoiekliaaGreatW.PrintLast Go.Proofs.YtingkpnoiekliaaGreatW.PrintMore Go.Proofs.YtingkpnoiekliaaGreat.MWords
attribute [local go_sem] max2_int min2_int max_two min_two max_three min_three max_four min_four
set_option linter.unusedVariables false
set_option linter.unusedSimpArgs false
def iM.U:Nat→List Int→List Int→Int→Option (Bool)
 |0,_,_,_=>none
 |k+1,x0,x1,x5=>if x5<(x0.length:Int) then (if 0≤x5 then (if x5<(x1.length:Int) then (if (rd x0 x5)=(rd x1 x5) then (iM.U k x0 x1 (wrap64 (x5+1))) else (some false)) else (none)) else (none)) else (some true)
def iM.f (k:Nat) (U:List Int) (l1:List Int):Option (Bool):=if (U.length:Int)=(l1.length:Int) then (iM.U k U l1 0) else (some false)
set_option maxHeartbeats 8000000 in
set_option maxRecDepth 100000 in
theorem iM.calls (k:Nat) (A0:Option Addr) (c0:Nat) (U:List Int) (A1:Option Addr) (c1:Nat) (l1:List Int) (r:Bool) (w:World) (bJ:Kd.C (Kd.int .u8) w A0 U.length U) (bz:U.length≤c0) (ml:Kd.C (Kd.int .u8) w A1 l1.length l1) (mg:l1.length≤c1) (h:iM.f k U l1=some r) :
 Calls Tryz.prog 49 #[.slice A0 U.length c0,.slice A1 l1.length c1] w fun e w'=>e = .returned (.bool r)∧ay w w':=by
 have bB:=J bJ;have eb:=J bz;clear bJ bz;have lW:=J ml;have IF:=J mg;clear ml mg;have H:(if (U.length:Int)=(l1.length:Int) then (iM.U k U l1 0) else (some false))=some r:=h;clear h;by_cases c3:(U.length:Int)=(l1.length:Int)
 ·rw[if_pos c3]at H;have cS:((U.length:Int) == (l1.length:Int))=true:=beq_iff_eq.mpr c3;have ku:((U.length:Int) != (l1.length:Int))=false:=bne_eq_false_iff_eq.mpr c3;have rR:(U.length == l1.length)=true:=by first|simpa using c3|(simp at c3 ⊢;omega)
  clear c3;have H':=J H;clear H;go_enter Tryz.func49,Tryz.ntmps49;go_wp2
  repeat (go_quiet (fail);try go_wp2)
  go_loopg [5] k (fun kq v5 w'=>∃(ah:Int),v5 = .int .i64 ah∧Aside0 (iM.U kq U l1 ah=some r)∧Aside0 (kq≤k)∧ay w w')
  case atStart=>exact⟨(0),mE,H',⟨Nat.le_refl _⟩,by repeat (first|exact ay.refl _|apply ay.step)⟩
  case round=>
   clear H'
   try clear c1
   try clear c3
   try clear cS
   try clear ku
   try clear rR
   obtain⟨ah,rfl,HA,aQ,⟨m1,rfl⟩⟩:=hrel;cases gk with
   |zero=>exact absurd HA.1 (by simp[iM.U])
   |succ k1=>
    have H:=HA.1;clear HA;simp only[iM.U]at H;by_cases c4:ah<(U.length:Int)
    ·rw[if_pos c4]at H;have cV:=decide_eq_true c4;clear c4;by_cases c5:0≤ah
     ·rw[if_pos c5]at H;have eS:=decide_eq_true c5;clear c5;by_cases c6:ah<(l1.length:Int)
      ·rw[if_pos c6]at H;have eh:=decide_eq_true c6;clear c6;by_cases c7:(rd U ah)=(rd l1 ah)
       ·rw[if_pos c7]at H;have jN:((rd U ah) == (rd l1 ah))=true:=beq_iff_eq.mpr c7;have BL:((rd U ah) != (rd l1 ah))=false:=bne_eq_false_iff_eq.mpr c7;clear c7;have H':=J H;clear H;have zT:0≤(ah:Int):=mD;have Av:ah<(U.length:Int):=mD;obtain⟨aeG,OT,ak3⟩:=Kd.lB bB.1 ah zT Av;cases OT
        replace zT:=eq_true zT;replace Av:=eq_true Av;have zU:0≤(ah:Int):=mD;have Aw:ah<(l1.length:Int):=mD;obtain⟨aeH,OU,ak4⟩:=Kd.lB lW.1 ah zU Aw;cases OU
        replace zU:=eq_true zU;replace Aw:=eq_true Aw;go_wp2
        repeat (go_quiet (fail);try go_wp2)
        go_roundg k1
        case measure=>have:=aQ.1;omega
        case rel=>exact⟨(wrap64 (ah+1)),mE,H',⟨by have:=aQ.1;omega⟩,by repeat (first|exact ay.refl _|apply ay.step)⟩
       ·rw[if_neg c7]at H;have jN:((rd U ah) == (rd l1 ah))=false:=beq_eq_false_iff_ne.mpr c7;have BL:((rd U ah) != (rd l1 ah))=true:=bne_iff_ne.mpr c7;obtain rfl:=Option.some.inj H;have zT:0≤(ah:Int):=mD;have Av:ah<(U.length:Int):=mD;obtain⟨aeG,OT,ak3⟩:=Kd.lB bB.1 ah zT Av;cases OT
        replace zT:=eq_true zT;replace Av:=eq_true Av;have zU:0≤(ah:Int):=mD;have Aw:ah<(l1.length:Int):=mD;obtain⟨aeH,OU,ak4⟩:=Kd.lB lW.1 ah zU Aw;cases OU
        replace zU:=eq_true zU;replace Aw:=eq_true Aw;go_wp2
        repeat (go_quiet (fail);try go_wp2)
        go_ret;exact⟨mE,by repeat (first|exact ay.refl _|apply ay.step)⟩
      ·rw[if_neg c6]at H;exact absurd H (by simp)
     ·rw[if_neg c5]at H;exact absurd H (by simp)
    ·rw[if_neg c4]at H;have cV:=decide_eq_false c4;clear c4;obtain rfl:=Option.some.inj H;go_wp2
     repeat (go_quiet (fail);try go_wp2)
     go_ret;exact⟨mE,by repeat (first|exact ay.refl _|apply ay.step)⟩
 ·rw[if_neg c3]at H;have cS:((U.length:Int) == (l1.length:Int))=false:=beq_eq_false_iff_ne.mpr c3;have ku:((U.length:Int) != (l1.length:Int))=true:=bne_iff_ne.mpr c3;have rR:(U.length == l1.length)=false:=by first|simpa using c3|(simp at c3 ⊢;omega)
  obtain rfl:=Option.some.inj H;go_enter Tryz.func49,Tryz.ntmps49;go_wp2
  repeat (go_quiet (fail);try go_wp2)
  go_ret;exact⟨mE,by repeat (first|exact ay.refl _|apply ay.step)⟩
def Cw.f (k:Nat) (cP:Int) (af:List Int) (gP:Int) (bS:Int) (dU:List Int) (oy:Int):Option (Bool):=if cP=bS then ((iM.f k af dU).bind fun CY=>(if CY=true then (if gP=oy then (some true) else (some false)) else (some false))) else (some false)
set_option maxHeartbeats 8000000 in
set_option maxRecDepth 100000 in
theorem Cw.calls (k:Nat) (cP:Int) (aq:Option Addr) (ao:Nat) (af:List Int) (gP:Int) (bS:Int) (kp:Option Addr) (ks:Nat) (dU:List Int) (oy:Int) (r:Bool) (w:World) (cr:Kd.C (Kd.int .u8) w aq af.length af) (cq:af.length≤ao) (FT:Kd.C (Kd.int .u8) w kp dU.length dU) (EY:dU.length≤ks) (h:Cw.f k cP af gP bS dU oy=some r) :
 Calls Tryz.prog 89 #[.agg #[.int .i64 cP,.slice aq af.length ao,.int .i64 gP],.agg #[.int .i64 bS,.slice kp dU.length ks,.int .i64 oy]] w fun e w'=>e = .returned (.bool r)∧Below w.heap.size w w':=by
 have wQ:=Tryz.underlying63;have bW:=J cr;have cd:=J cq;clear cr cq;have vD:=J FT;have vB:=J EY;clear FT EY;have HB:=J (Below.refl w.heap.size w);have H:(if cP=bS then ((iM.f k af dU).bind fun CY=>(if CY=true then (if gP=oy then (some true) else (some false)) else (some false))) else (some false))=some r:=h;clear h;by_cases c3:cP=bS
 ·rw[if_pos c3]at H;have cS:(cP == bS)=true:=beq_iff_eq.mpr c3;have ku:(cP != bS)=false:=bne_eq_false_iff_eq.mpr c3;clear c3;replace H:=Option.bind_eq_some_iff.mp H;obtain⟨CY,e6,H⟩:=H;replace H:(if CY=true then (if gP=oy then (some true) else (some false)) else (some false))=some r:=H;have A4:=J e6;clear e6;by_cases c5:CY=true
  ·subst c5;have H1:=H;rw[if_pos rfl]at H1;clear H;have H:=H1;clear H1;by_cases c6:gP=oy
   ·rw[if_pos c6]at H;have eh:(gP == oy)=true:=beq_iff_eq.mpr c6;have o8:(gP != oy)=false:=bne_eq_false_iff_eq.mpr c6;clear c6;obtain rfl:=Option.some.inj H;go_enter Tryz.func89,Tryz.ntmps89;go_wp2_with (first|((with_reducible refine aH (N:=2) rfl ?_);refine aT 2 #[.int .i64 cP,.slice aq af.length ao,.int .i64 gP] 63 ?_;intro Px hg w7 hbox hb;have jI:=J (hbox);have ME:=mG hg (mH HB.1);have lp:=mG hg (mH HB.1);replace HB:=J (ar (mH HB.1) hb);clear hb hbox hg)|((with_reducible refine aH (N:=3) rfl ?_);refine aT 3 #[.int .i64 bS,.slice kp dU.length ks,.int .i64 oy] 63 ?_;intro Py hg w8 hbox hb;have xI:=J (hbox);have MF:=mG hg (aI HB.1 lp.1);have xT:=mG hg (aI HB.1 lp.1);replace HB:=J (ar (aI HB.1 lp.1) hb);have ym:=bI hg jI.1;have yn:=bH hg jI.1;replace jI:=mB jI hb;clear hb hbox hg;have FH:=ym.1;have FI:=yn.1;obtain⟨se,sf,wh,sh,si,wv⟩:=ib jI.1;obtain⟨yU,JU,WK,za,Ka,Xc⟩:=ib xI.1)|((with_reducible refine aJ (f:=49) rfl ?_);refine bA 14 Tryz.func49 #[.slice aq af.length ao,.slice kp dU.length ks] ?_;(with_reducible refine(iM.calls k _ _ af _ _ dU true _ ?az ?aA ?bh ?bj A4.1).mono ?_);(case az=>exact mC (Kd.aw bW.1 HB.1));(case aA=>exact cd.1);(case bh=>exact mC (Kd.aw vD.1 HB.1));(case bj=>exact vB.1);rintro e w' ⟨rfl,⟨nd,rfl⟩⟩;refine⟨_,rfl,?_⟩));go_ret;exact⟨bN,(aV HB.1 lp.1 xT.1)⟩
   ·rw[if_neg c6]at H;have eh:(gP == oy)=false:=beq_eq_false_iff_ne.mpr c6;have o8:(gP != oy)=true:=bne_iff_ne.mpr c6;obtain rfl:=Option.some.inj H;go_enter Tryz.func89,Tryz.ntmps89;go_wp2_with (first|((with_reducible refine aH (N:=2) rfl ?_);refine aT 2 #[.int .i64 cP,.slice aq af.length ao,.int .i64 gP] 63 ?_;intro Px hg dK hbox hb;have jI:=J (hbox);have ME:=mG hg (mH HB.1);have lp:=mG hg (mH HB.1);replace HB:=J (ar (mH HB.1) hb);clear hb hbox hg)|((with_reducible refine aH (N:=3) rfl ?_);refine aT 3 #[.int .i64 bS,.slice kp dU.length ks,.int .i64 oy] 63 ?_;intro Py hg iy hbox hb;have xI:=J (hbox);have MF:=mG hg (aI HB.1 lp.1);have xT:=mG hg (aI HB.1 lp.1);replace HB:=J (ar (aI HB.1 lp.1) hb);have ym:=bI hg jI.1;have yn:=bH hg jI.1;replace jI:=mB jI hb;clear hb hbox hg;have Kv:=ym.1;have Kz:=yn.1;obtain⟨yX,E2,E3,zd,Fa,Fb⟩:=ib jI.1;obtain⟨wi,wj,wk,wC,wD,wE⟩:=ib xI.1)|((with_reducible refine aJ (f:=49) rfl ?_);refine bA 14 Tryz.func49 #[.slice aq af.length ao,.slice kp dU.length ks] ?_;(with_reducible refine(iM.calls k _ _ af _ _ dU true _ ?az ?aA ?bh ?bj A4.1).mono ?_);(case az=>exact mC (Kd.aw bW.1 HB.1));(case aA=>exact cd.1);(case bh=>exact mC (Kd.aw vD.1 HB.1));(case bj=>exact vB.1);rintro e w' ⟨rfl,⟨nd,rfl⟩⟩;refine⟨_,rfl,?_⟩));go_ret;exact⟨bN,(aV HB.1 lp.1 xT.1)⟩
  ·replace c5:=Bool.eq_false_iff.mpr c5;subst c5;have H1:=H;rw[if_neg (show ¬(false=true) by decide)]at H1;clear H;have H:=H1;clear H1;obtain rfl:=Option.some.inj H;go_enter Tryz.func89,Tryz.ntmps89;go_wp2_with (first|((with_reducible refine aH (N:=2) rfl ?_);refine aT 2 #[.int .i64 cP,.slice aq af.length ao,.int .i64 gP] 63 ?_;intro Px hg C2 hbox hb;have jI:=J (hbox);have ME:=mG hg (mH HB.1);have lp:=mG hg (mH HB.1);replace HB:=J (ar (mH HB.1) hb);clear hb hbox hg)|((with_reducible refine aH (N:=3) rfl ?_);refine aT 3 #[.int .i64 bS,.slice kp dU.length ks,.int .i64 oy] 63 ?_;intro Py hg Ij hbox hb;have xI:=J (hbox);have MF:=mG hg (aI HB.1 lp.1);have xT:=mG hg (aI HB.1 lp.1);replace HB:=J (ar (aI HB.1 lp.1) hb);have ym:=bI hg jI.1;have yn:=bH hg jI.1;replace jI:=mB jI hb;clear hb hbox hg;have XO:=ym.1;have XS:=yn.1;obtain⟨J1,J2,J3,Kj,Kk,Kl⟩:=ib jI.1;obtain⟨J4,J5,PT,Km,Kn,Qk⟩:=ib xI.1)|((with_reducible refine aJ (f:=49) rfl ?_);refine bA 14 Tryz.func49 #[.slice aq af.length ao,.slice kp dU.length ks] ?_;(with_reducible refine(iM.calls k _ _ af _ _ dU false _ ?az ?aA ?bh ?bj A4.1).mono ?_);(case az=>exact mC (Kd.aw bW.1 HB.1));(case aA=>exact cd.1);(case bh=>exact mC (Kd.aw vD.1 HB.1));(case bj=>exact vB.1);rintro e w' ⟨rfl,⟨nd,rfl⟩⟩;refine⟨_,rfl,?_⟩));go_ret;exact⟨bN,(aV HB.1 lp.1 xT.1)⟩
 ·rw[if_neg c3]at H;have cS:(cP == bS)=false:=beq_eq_false_iff_ne.mpr c3;have ku:(cP != bS)=true:=bne_iff_ne.mpr c3;obtain rfl:=Option.some.inj H;go_enter Tryz.func89,Tryz.ntmps89;go_wp2_with (first|((with_reducible refine aH (N:=2) rfl ?_);refine aT 2 #[.int .i64 cP,.slice aq af.length ao,.int .i64 gP] 63 ?_;intro Px hg LG hbox hb;have jI:=J (hbox);have ME:=mG hg (mH HB.1);have lp:=mG hg (mH HB.1);replace HB:=J (ar (mH HB.1) hb);clear hb hbox hg)|((with_reducible refine aH (N:=3) rfl ?_);refine aT 3 #[.int .i64 bS,.slice kp dU.length ks,.int .i64 oy] 63 ?_;intro Py hg LH hbox hb;have xI:=J (hbox);have MF:=mG hg (aI HB.1 lp.1);have xT:=mG hg (aI HB.1 lp.1);replace HB:=J (ar (aI HB.1 lp.1) hb);have ym:=bI hg jI.1;have yn:=bH hg jI.1;replace jI:=mB jI hb;clear hb hbox hg;have av3:=ym.1;have awE:=yn.1;obtain⟨PU,PV,WV,Ql,Qm,Xm⟩:=ib jI.1;obtain⟨arn,aro,arp,atZ,at0,at1⟩:=ib xI.1));go_ret;exact⟨bN,(aV HB.1 lp.1 xT.1)⟩
def gI.U:Nat→List (al)→List (al)→Int→Option (Bool)
 |0,_,_,_=>none
 |k+1,x0,x1,x5=>if x5<(x0.length:Int) then (if 0≤x5 then (if x5<(x1.length:Int) then ((Cw.f k ((ai x0 x5).f0) ((ai x0 x5).f1) ((ai x0 x5).f2) ((ai x1 x5).f0) ((ai x1 x5).f1) ((ai x1 x5).f2)).bind fun LA=>(if LA=true then (gI.U k x0 x1 (wrap64 (x5+1))) else (some false))) else (none)) else (none)) else (some true)
def gI.f (k:Nat) (U:List (al)) (l1:List (al)):Option (Bool):=if (U.length:Int)=(l1.length:Int) then (gI.U k U l1 0) else (some false)
def gI.T6:Bool × List (List Nat × List Nat):=(true,[([],[]),([],[]),([0,1],[0,1]),([2],[2]),([],[]),([],[]),([4,5],[4,5]),([6],[6]),([3,7],[3,7]),([8],[8])])
def gI.B6:List Nat:=[0,0,3,7,0,0,48,112,255,511]
theorem gI.vk:ez .any (opsOf Tryz.f47 6)=gI.T6:=by kernel_rfl
theorem gI.ug:jr gI.T6.2 gI.B6=true:=by kernel_rfl
set_option maxHeartbeats 8000000 in
set_option maxRecDepth 100000 in
theorem gI.calls (k:Nat) (A0:Option Addr) (c0:Nat) (U:List (al)) (A1:Option Addr) (c1:Nat) (l1:List (al)) (r:Bool) (w:World) (bJ:Kd.C bc w A0 U.length U) (bz:U.length≤c0) (ml:Kd.C bc w A1 l1.length l1) (mg:l1.length≤c1) (h:gI.f k U l1=some r) :
 Calls Tryz.prog 47 #[.slice A0 U.length c0,.slice A1 l1.length c1] w fun e w'=>e = .returned (.bool r)∧Below w.heap.size w w':=by
 have wQ:=Tryz.underlying63;have bB:=J bJ;have eb:=J bz;clear bJ bz;have lW:=J ml;have IF:=J mg;clear ml mg;have HB:=J (Below.refl w.heap.size w);have H:(if (U.length:Int)=(l1.length:Int) then (gI.U k U l1 0) else (some false))=some r:=h;clear h;by_cases c3:(U.length:Int)=(l1.length:Int)
 ·rw[if_pos c3]at H;have cS:((U.length:Int) == (l1.length:Int))=true:=beq_iff_eq.mpr c3;have ku:((U.length:Int) != (l1.length:Int))=false:=bne_eq_false_iff_eq.mpr c3;have rR:(U.length == l1.length)=true:=by first|simpa using c3|(simp at c3 ⊢;omega)
  clear c3;have H':=J H;clear H;go_enter Tryz.func47,Tryz.ntmps47;go_wp2;go_loopg [5] k (fun kq v5 w'=>∃(ah:Int),v5 = .int .i64 ah∧Aside0 (gI.U kq U l1 ah=some r)∧Aside0 (kq≤k)∧Aside0 (Below w.heap.size w w'))
  case atStart=>exact⟨(0),mE,H',⟨Nat.le_refl _⟩,⟨(mH HB.1)⟩⟩
  case round=>
   clear H'
   try clear c1
   try clear c3
   try clear cS
   try clear ku
   try clear rR
   obtain⟨ah,rfl,HA,aQ,HB⟩:=hrel;cases gk with
   |zero=>exact absurd HA.1 (by simp[gI.U])
   |succ k1=>
    have H:=HA.1;clear HA;simp only[gI.U]at H;by_cases c4:ah<(U.length:Int)
    ·rw[if_pos c4]at H;have cV:=decide_eq_true c4;clear c4;by_cases c5:0≤ah
     ·rw[if_pos c5]at H;have eS:=decide_eq_true c5;clear c5;by_cases c6:ah<(l1.length:Int)
      ·rw[if_pos c6]at H;have eh:=decide_eq_true c6;clear c6;replace H:=Option.bind_eq_some_iff.mp H;obtain⟨LA,kM,H⟩:=H;replace H:(if LA=true then (gI.U k1 U l1 (wrap64 (ah+1))) else (some false))=some r:=H;have A7:=J kM;clear kM;by_cases c8:LA=true
       ·subst c8;have H1:=H;rw[if_pos rfl]at H1;clear H;have H:=H1;clear H1;have H':=J H;clear H
        try go_wp2
        replace HB:=J (fy HB.1);have zV:0≤(ah:Int):=mD;have Ax:ah<(U.length:Int):=mD;obtain⟨rJ,Di,Eo,OV,ux,uy,uz,FA,Fo⟩:=hY bB.1 ah zV Ax;have FZ:=uz;have FY:=uy;have FX:=ux;cases OV
        replace ux:=mX HB.1 ux;replace uy:=mX HB.1 uy;replace uz:=mX HB.1 uz;have DM:=J Fo;have ML:=J FA;clear Fo FA;replace zV:=eq_true zV;replace Ax:=eq_true Ax;have zW:0≤(ah:Int):=mD;have Ay:ah<(l1.length:Int):=mD;obtain⟨rK,Dj,Ep,OW,uB,uC,uD,FB,Fp⟩:=hY lW.1 ah zW Ay;have F2:=uD;have F1:=uC;have F0:=uB;cases OW
        replace uB:=mX HB.1 uB;replace uC:=mX HB.1 uC;replace uD:=mX HB.1 uD;have DN:=J Fp;have MM:=J FB;clear Fp FB;replace zW:=eq_true zW;replace Ay:=eq_true Ay;refine fk (n:=10) (S:=fun w'=>w'.cell? (rJ.add ((ah).toNat*3))=some (.int .i64 ((ai U ah).f0))∧w'.cell? ⟨(rJ.add ((ah).toNat*3)).block,(rJ.add ((ah).toNat*3)).off+1,none⟩=some (.slice Di ((ai U ah).f1).length Eo)∧w'.cell? ⟨(rJ.add ((ah).toNat*3)).block,(rJ.add ((ah).toNat*3)).off+2,none⟩=some (.int .i64 ((ai U ah).f2))∧w'.cell? (rK.add ((ah).toNat*3))=some (.int .i64 ((ai l1 ah).f0))∧w'.cell? ⟨(rK.add ((ah).toNat*3)).block,(rK.add ((ah).toNat*3)).off+1,none⟩=some (.slice Dj ((ai l1 ah).f1).length Ep)∧w'.cell? ⟨(rK.add ((ah).toNat*3)).block,(rK.add ((ah).toNat*3)).off+2,none⟩=some (.int .i64 ((ai l1 ah).f2))) (ds:=[]) (mb 0 10) (by kernel_rfl) rfl rfl ⟨(mX HB.1 FX :),(mX HB.1 FY :),(mX HB.1 FZ :),(mX HB.1 F0 :),(mX HB.1 F1 :),(mX HB.1 F2 :)⟩ (fun hHeld=>?_);refine jc gI.vk gI.ug (fun HT_ HW_=>?_);generalize wr.drew=w9 at HB DM DN ux uy uz uB uC uD hHeld ⊢
        refine aW 0 17 HT_.1 (mb 1 9) ?_;refine aW 1 18 HT_.1 (mb 2 8) ?_;refine aW 2 19 HT_.1 (mb 3 7) ?_;refine aW 4 21 HT_.1 (mr [3,1,1,5]) ?_;refine aW 5 22 HT_.1 (mr [3,1,2,4]) ?_;refine aW 6 23 HT_.1 (mr [3,1,3,3]) ?_;refine cZ 3 20 HT_.1 HW_.1 (mb 7 3) hHeld ?_;refine cZ 7 24 HT_.1 HW_.1 (mb 8 2) hHeld ?_;refine et 8 (some 25) HT_.1 (mb 9 1) (fun K hK=>?_);refine iU Tryz.func89 (by kernel_rfl) rfl #[.agg #[.int .i64 ((ai U ah).f0),.slice Di ((ai U ah).f1).length Eo,.int .i64 ((ai U ah).f2)],.agg #[.int .i64 ((ai l1 ah).f0),.slice Dj ((ai l1 ah).f1).length Ep,.int .i64 ((ai l1 ah).f2)]] (by rfl) rfl rfl mA ?_
        with_reducible refine(Cw.calls k1 ((ai U ah).f0) _ _ ((ai U ah).f1) ((ai U ah).f2) ((ai l1 ah).f0) _ _ ((ai l1 ah).f1) ((ai l1 ah).f2) true _ ?az ?aA ?bh ?bj A7.1).mono ?_
        (case az=>exact mC (Kd.aw DM.1 HB.1))
        (case aA=>exact ML.1)
        (case bh=>exact mC (Kd.aw DN.1 HB.1))
        (case bj=>exact MM.1)
        rintro e eP ⟨rfl,hb⟩;refine⟨_,rfl,?_⟩;replace HB:=J (ar (mH HB.1) hb)
        (try clear hb)
        (try clear eO)
        (try clear hk)
        (try clear hi)
        refine hK.out _ _ ⟨(mX HB.1 FX :),(mX HB.1 FY :),(mX HB.1 FZ :),(mX HB.1 F0 :),(mX HB.1 F1 :),(mX HB.1 F2 :)⟩ (fun hHeld=>?_);clear hK K;refine cR 25 ?_;refine aW 9 26 HT_.1 (mb 10 0) ?_;refine fA (iS HT_.1 (by kernel_rfl)) ?_
        try go_wp2
        go_roundg k1
        case measure=>have:=aQ.1;omega
        case rel=>exact⟨(wrap64 (ah+1)),mE,H',⟨by have:=aQ.1;omega⟩,⟨(mH HB.1)⟩⟩
       ·replace c8:=Bool.eq_false_iff.mpr c8;subst c8;have H1:=H;rw[if_neg (show ¬(false=true) by decide)]at H1;clear H;have H:=H1;clear H1;obtain rfl:=Option.some.inj H
        try go_wp2
        replace HB:=J (fy HB.1);have zV:0≤(ah:Int):=mD;have Ax:ah<(U.length:Int):=mD;obtain⟨rJ,Di,Eo,OV,ux,uy,uz,FA,Fo⟩:=hY bB.1 ah zV Ax;have FZ:=uz;have FY:=uy;have FX:=ux;cases OV
        replace ux:=mX HB.1 ux;replace uy:=mX HB.1 uy;replace uz:=mX HB.1 uz;have DM:=J Fo;have ML:=J FA;clear Fo FA;replace zV:=eq_true zV;replace Ax:=eq_true Ax;have zW:0≤(ah:Int):=mD;have Ay:ah<(l1.length:Int):=mD;obtain⟨rK,Dj,Ep,OW,uB,uC,uD,FB,Fp⟩:=hY lW.1 ah zW Ay;have F2:=uD;have F1:=uC;have F0:=uB;cases OW
        replace uB:=mX HB.1 uB;replace uC:=mX HB.1 uC;replace uD:=mX HB.1 uD;have DN:=J Fp;have MM:=J FB;clear Fp FB;replace zW:=eq_true zW;replace Ay:=eq_true Ay;refine fk (n:=10) (S:=fun w'=>w'.cell? (rJ.add ((ah).toNat*3))=some (.int .i64 ((ai U ah).f0))∧w'.cell? ⟨(rJ.add ((ah).toNat*3)).block,(rJ.add ((ah).toNat*3)).off+1,none⟩=some (.slice Di ((ai U ah).f1).length Eo)∧w'.cell? ⟨(rJ.add ((ah).toNat*3)).block,(rJ.add ((ah).toNat*3)).off+2,none⟩=some (.int .i64 ((ai U ah).f2))∧w'.cell? (rK.add ((ah).toNat*3))=some (.int .i64 ((ai l1 ah).f0))∧w'.cell? ⟨(rK.add ((ah).toNat*3)).block,(rK.add ((ah).toNat*3)).off+1,none⟩=some (.slice Dj ((ai l1 ah).f1).length Ep)∧w'.cell? ⟨(rK.add ((ah).toNat*3)).block,(rK.add ((ah).toNat*3)).off+2,none⟩=some (.int .i64 ((ai l1 ah).f2))) (ds:=[]) (mb 0 10) (by kernel_rfl) rfl rfl ⟨(mX HB.1 FX :),(mX HB.1 FY :),(mX HB.1 FZ :),(mX HB.1 F0 :),(mX HB.1 F1 :),(mX HB.1 F2 :)⟩ (fun hHeld=>?_);refine jc gI.vk gI.ug (fun HT_ HW_=>?_);generalize wr.drew=cC at HB DM DN ux uy uz uB uC uD hHeld ⊢
        refine aW 0 17 HT_.1 (mb 1 9) ?_;refine aW 1 18 HT_.1 (mb 2 8) ?_;refine aW 2 19 HT_.1 (mb 3 7) ?_;refine aW 4 21 HT_.1 (mr [3,1,1,5]) ?_;refine aW 5 22 HT_.1 (mr [3,1,2,4]) ?_;refine aW 6 23 HT_.1 (mr [3,1,3,3]) ?_;refine cZ 3 20 HT_.1 HW_.1 (mb 7 3) hHeld ?_;refine cZ 7 24 HT_.1 HW_.1 (mb 8 2) hHeld ?_;refine et 8 (some 25) HT_.1 (mb 9 1) (fun K hK=>?_);refine iU Tryz.func89 (by kernel_rfl) rfl #[.agg #[.int .i64 ((ai U ah).f0),.slice Di ((ai U ah).f1).length Eo,.int .i64 ((ai U ah).f2)],.agg #[.int .i64 ((ai l1 ah).f0),.slice Dj ((ai l1 ah).f1).length Ep,.int .i64 ((ai l1 ah).f2)]] (by rfl) rfl rfl mA ?_
        with_reducible refine(Cw.calls k1 ((ai U ah).f0) _ _ ((ai U ah).f1) ((ai U ah).f2) ((ai l1 ah).f0) _ _ ((ai l1 ah).f1) ((ai l1 ah).f2) false _ ?az ?aA ?bh ?bj A7.1).mono ?_
        (case az=>exact mC (Kd.aw DM.1 HB.1))
        (case aA=>exact ML.1)
        (case bh=>exact mC (Kd.aw DN.1 HB.1))
        (case bj=>exact MM.1)
        rintro e dK ⟨rfl,hb⟩;refine⟨_,rfl,?_⟩;replace HB:=J (ar (mH HB.1) hb)
        (try clear hb)
        (try clear eO)
        (try clear hk)
        (try clear hi)
        refine hK.out _ _ ⟨(mX HB.1 FX :),(mX HB.1 FY :),(mX HB.1 FZ :),(mX HB.1 F0 :),(mX HB.1 F1 :),(mX HB.1 F2 :)⟩ (fun hHeld=>?_);clear hK K;refine cR 25 ?_;refine aW 9 26 HT_.1 (mb 10 0) ?_;refine fA (iS HT_.1 (by kernel_rfl)) ?_
        try go_wp2
        go_ret;exact⟨bN,(mH HB.1)⟩
      ·rw[if_neg c6]at H;exact absurd H (by simp)
     ·rw[if_neg c5]at H;exact absurd H (by simp)
    ·rw[if_neg c4]at H;have cV:=decide_eq_false c4;clear c4;obtain rfl:=Option.some.inj H;go_wp2;go_ret;exact⟨bN,(mH HB.1)⟩
 ·rw[if_neg c3]at H;have cS:((U.length:Int) == (l1.length:Int))=false:=beq_eq_false_iff_ne.mpr c3;have ku:((U.length:Int) != (l1.length:Int))=true:=bne_iff_ne.mpr c3;have rR:(U.length == l1.length)=false:=by first|simpa using c3|(simp at c3 ⊢;omega)
  obtain rfl:=Option.some.inj H;go_enter Tryz.func47,Tryz.ntmps47;go_wp2;go_ret;exact⟨bN,(mH HB.1)⟩
def zv.f (cP:ByteArray) (iJ:Int) (bS:ByteArray) (cF:Int):Option (Bool):=if cP.toList=bS.toList then (if iJ=cF then (some true) else (some false)) else (some false)
set_option maxHeartbeats 8000000 in
set_option maxRecDepth 100000 in
theorem zv.calls (cP:ByteArray) (iJ:Int) (bS:ByteArray) (cF:Int) (r:Bool) (w:World) (h:zv.f cP iJ bS cF=some r) :
 Calls Tryz.prog 90 #[.agg #[.string cP,.int .i64 iJ],.agg #[.string bS,.int .i64 cF]] w fun e w'=>e = .returned (.bool r)∧Below w.heap.size w w':=by
 have zl:=Tryz.underlying89;have HB:=J (Below.refl w.heap.size w);have H:(if cP.toList=bS.toList then (if iJ=cF then (some true) else (some false)) else (some false))=some r:=h;clear h;by_cases c3:cP.toList=bS.toList
 ·rw[if_pos c3]at H;have cS:(cP.toList == bS.toList)=true:=beq_iff_eq.mpr c3;have ku:(cP.toList != bS.toList)=false:=bne_eq_false_iff_eq.mpr c3;clear c3;by_cases c4:iJ=cF
  ·rw[if_pos c4]at H;have cV:(iJ == cF)=true:=beq_iff_eq.mpr c4;have Ji:(iJ != cF)=false:=bne_eq_false_iff_eq.mpr c4;clear c4;obtain rfl:=Option.some.inj H;go_enter Tryz.func90,Tryz.ntmps90;go_wp2_with (first|((with_reducible refine aH (N:=2) rfl ?_);refine aT 2 #[.string cP,.int .i64 iJ] 89 ?_;intro Wa hg w5 hbox hb;have mz:=J (hbox);have Tv:=mG hg (mH HB.1);have oR:=mG hg (mH HB.1);replace HB:=J (ar (mH HB.1) hb);clear hb hbox hg)|((with_reducible refine aH (N:=3) rfl ?_);refine aT 3 #[.string bS,.int .i64 cF] 89 ?_;intro Wb hg w6 hbox hb;have Dq:=J (hbox);have Tw:=mG hg (aI HB.1 oR.1);have Dv:=mG hg (aI HB.1 oR.1);replace HB:=J (ar (aI HB.1 oR.1) hb);have DX:=bI hg mz.1;have DY:=bH hg mz.1;replace mz:=mB mz hb;clear hb hbox hg;have Kw:=DX.1;have KA:=DY.1;obtain⟨B9,Ca,Cg,Ch⟩:=jX mz.1;obtain⟨Cb,Cc,Ci,Cj⟩:=jX Dq.1));go_ret;exact⟨bN,(aV HB.1 oR.1 Dv.1)⟩
  ·rw[if_neg c4]at H;have cV:(iJ == cF)=false:=beq_eq_false_iff_ne.mpr c4;have Ji:(iJ != cF)=true:=bne_iff_ne.mpr c4;obtain rfl:=Option.some.inj H;go_enter Tryz.func90,Tryz.ntmps90;go_wp2_with (first|((with_reducible refine aH (N:=2) rfl ?_);refine aT 2 #[.string cP,.int .i64 iJ] 89 ?_;intro Wa hg eP hbox hb;have mz:=J (hbox);have Tv:=mG hg (mH HB.1);have oR:=mG hg (mH HB.1);replace HB:=J (ar (mH HB.1) hb);clear hb hbox hg)|((with_reducible refine aH (N:=3) rfl ?_);refine aT 3 #[.string bS,.int .i64 cF] 89 ?_;intro Wb hg cC hbox hb;have Dq:=J (hbox);have Tw:=mG hg (aI HB.1 oR.1);have Dv:=mG hg (aI HB.1 oR.1);replace HB:=J (ar (aI HB.1 oR.1) hb);have DX:=bI hg mz.1;have DY:=bH hg mz.1;replace mz:=mB mz hb;clear hb hbox hg;have akg:=DX.1;have akw:=DY.1;obtain⟨JV,JW,Kb,Ke⟩:=jX mz.1;obtain⟨yV,yW,zb,zc⟩:=jX Dq.1));go_ret;exact⟨bN,(aV HB.1 oR.1 Dv.1)⟩
 ·rw[if_neg c3]at H;have cS:(cP.toList == bS.toList)=false:=beq_eq_false_iff_ne.mpr c3;have ku:(cP.toList != bS.toList)=true:=bne_iff_ne.mpr c3;obtain rfl:=Option.some.inj H;go_enter Tryz.func90,Tryz.ntmps90;go_wp2_with (first|((with_reducible refine aH (N:=2) rfl ?_);refine aT 2 #[.string cP,.int .i64 iJ] 89 ?_;intro Wa hg lh hbox hb;have mz:=J (hbox);have Tv:=mG hg (mH HB.1);have oR:=mG hg (mH HB.1);replace HB:=J (ar (mH HB.1) hb);clear hb hbox hg)|((with_reducible refine aH (N:=3) rfl ?_);refine aT 3 #[.string bS,.int .i64 cF] 89 ?_;intro Wb hg j7 hbox hb;have Dq:=J (hbox);have Tw:=mG hg (aI HB.1 oR.1);have Dv:=mG hg (aI HB.1 oR.1);replace HB:=J (ar (aI HB.1 oR.1) hb);have DX:=bI hg mz.1;have DY:=bH hg mz.1;replace mz:=mB mz hb;clear hb hbox hg;have av2:=DX.1;have awD:=DY.1;obtain⟨PQ,PR,Qh,Qi⟩:=jX mz.1;obtain⟨wm,wo,wF,wG⟩:=jX Dq.1));go_ret;exact⟨bN,(aV HB.1 oR.1 Dv.1)⟩
def fp.U:Nat→List (aa)→List (aa)→Int→Option (Bool)
 |0,_,_,_=>none
 |k+1,x0,x1,x5=>if x5<(x0.length:Int) then (if 0≤x5 then (if x5<(x1.length:Int) then ((zv.f ((aG x0 x5).f0) ((aG x0 x5).f1) ((aG x1 x5).f0) ((aG x1 x5).f1)).bind fun LB=>(if LB=true then (fp.U k x0 x1 (wrap64 (x5+1))) else (some false))) else (none)) else (none)) else (some true)
def fp.f (k:Nat) (U:List (aa)) (l1:List (aa)):Option (Bool):=if (U.length:Int)=(l1.length:Int) then (fp.U k U l1 0) else (some false)
def fp.T6:Bool × List (List Nat × List Nat):=(true,[([],[]),([],[]),([0,1],[0,1]),([2],[2]),([],[]),([],[]),([4,5],[4,5]),([6],[6]),([3,7],[3,7]),([8],[8])])
def fp.B6:List Nat:=[0,0,3,7,0,0,48,112,255,511]
theorem fp.vk:ez .any (opsOf Tryz.f48 6)=fp.T6:=by kernel_rfl
theorem fp.ug:jr fp.T6.2 fp.B6=true:=by kernel_rfl
set_option maxHeartbeats 8000000 in
set_option maxRecDepth 100000 in
theorem fp.calls (k:Nat) (A0:Option Addr) (c0:Nat) (U:List (aa)) (A1:Option Addr) (c1:Nat) (l1:List (aa)) (r:Bool) (w:World) (bJ:Kd.C an w A0 U.length U) (bz:U.length≤c0) (ml:Kd.C an w A1 l1.length l1) (mg:l1.length≤c1) (h:fp.f k U l1=some r) :
 Calls Tryz.prog 48 #[.slice A0 U.length c0,.slice A1 l1.length c1] w fun e w'=>e = .returned (.bool r)∧Below w.heap.size w w':=by
 have zl:=Tryz.underlying89;have bB:=J bJ;have eb:=J bz;clear bJ bz;have lW:=J ml;have IF:=J mg;clear ml mg;have HB:=J (Below.refl w.heap.size w);have H:(if (U.length:Int)=(l1.length:Int) then (fp.U k U l1 0) else (some false))=some r:=h;clear h;by_cases c3:(U.length:Int)=(l1.length:Int)
 ·rw[if_pos c3]at H;have cS:((U.length:Int) == (l1.length:Int))=true:=beq_iff_eq.mpr c3;have ku:((U.length:Int) != (l1.length:Int))=false:=bne_eq_false_iff_eq.mpr c3;have rR:(U.length == l1.length)=true:=by first|simpa using c3|(simp at c3 ⊢;omega)
  clear c3;have H':=J H;clear H;go_enter Tryz.func48,Tryz.ntmps48;go_wp2;go_loopg [5] k (fun kq v5 w'=>∃(ah:Int),v5 = .int .i64 ah∧Aside0 (fp.U kq U l1 ah=some r)∧Aside0 (kq≤k)∧Aside0 (Below w.heap.size w w'))
  case atStart=>exact⟨(0),mE,H',⟨Nat.le_refl _⟩,⟨(mH HB.1)⟩⟩
  case round=>
   clear H'
   try clear c1
   try clear c3
   try clear cS
   try clear ku
   try clear rR
   obtain⟨ah,rfl,HA,aQ,HB⟩:=hrel;cases gk with
   |zero=>exact absurd HA.1 (by simp[fp.U])
   |succ k1=>
    have H:=HA.1;clear HA;simp only[fp.U]at H;by_cases c4:ah<(U.length:Int)
    ·rw[if_pos c4]at H;have cV:=decide_eq_true c4;clear c4;by_cases c5:0≤ah
     ·rw[if_pos c5]at H;have eS:=decide_eq_true c5;clear c5;by_cases c6:ah<(l1.length:Int)
      ·rw[if_pos c6]at H;have eh:=decide_eq_true c6;clear c6;replace H:=Option.bind_eq_some_iff.mp H;obtain⟨LB,kM,H⟩:=H;replace H:(if LB=true then (fp.U k1 U l1 (wrap64 (ah+1))) else (some false))=some r:=H;have A7:=J kM;clear kM;by_cases c8:LB=true
       ·subst c8;have H1:=H;rw[if_pos rfl]at H1;clear H;have H:=H1;clear H1;have H':=J H;clear H
        try go_wp2
        replace HB:=J (fy HB.1);have zX:0≤(ah:Int):=mD;have Az:ah<(U.length:Int):=mD;obtain⟨yx,OX,uF,uG⟩:=gi bB.1 ah zX Az;have F4:=uG;have F3:=uF;cases OX
        replace uF:=mX HB.1 uF;replace uG:=mX HB.1 uG;replace zX:=eq_true zX;replace Az:=eq_true Az;have zY:0≤(ah:Int):=mD;have AA:ah<(l1.length:Int):=mD;obtain⟨yy,OY,uH,uI⟩:=gi lW.1 ah zY AA;have F6:=uI;have F5:=uH;cases OY
        replace uH:=mX HB.1 uH;replace uI:=mX HB.1 uI;replace zY:=eq_true zY;replace AA:=eq_true AA;refine fk (n:=10) (S:=fun w'=>w'.cell? (yx.add ((ah).toNat*2))=some (.string ((aG U ah).f0))∧w'.cell? ⟨(yx.add ((ah).toNat*2)).block,(yx.add ((ah).toNat*2)).off+1,none⟩=some (.int .i64 ((aG U ah).f1))∧w'.cell? (yy.add ((ah).toNat*2))=some (.string ((aG l1 ah).f0))∧w'.cell? ⟨(yy.add ((ah).toNat*2)).block,(yy.add ((ah).toNat*2)).off+1,none⟩=some (.int .i64 ((aG l1 ah).f1))) (ds:=[]) (mb 0 10) (by kernel_rfl) rfl rfl ⟨(mX HB.1 F3 :),(mX HB.1 F4 :),(mX HB.1 F5 :),(mX HB.1 F6 :)⟩ (fun hHeld=>?_);refine jc fp.vk fp.ug (fun HT_ HW_=>?_);generalize wr.drew=w9 at HB uF uG uH uI hHeld ⊢
        refine aW 0 17 HT_.1 (mb 1 9) ?_;refine aW 1 18 HT_.1 (mb 2 8) ?_;refine aW 2 19 HT_.1 (mb 3 7) ?_;refine aW 4 21 HT_.1 (mr [3,1,1,5]) ?_;refine aW 5 22 HT_.1 (mr [3,1,2,4]) ?_;refine aW 6 23 HT_.1 (mr [3,1,3,3]) ?_;refine cZ 3 20 HT_.1 HW_.1 (mb 7 3) hHeld ?_;refine cZ 7 24 HT_.1 HW_.1 (mb 8 2) hHeld ?_;refine et 8 (some 25) HT_.1 (mb 9 1) (fun K hK=>?_);refine iU Tryz.func90 (by kernel_rfl) rfl #[.agg #[.string ((aG U ah).f0),.int .i64 ((aG U ah).f1)],.agg #[.string ((aG l1 ah).f0),.int .i64 ((aG l1 ah).f1)]] (by rfl) rfl rfl mA ?_
        with_reducible refine(zv.calls ((aG U ah).f0) ((aG U ah).f1) ((aG l1 ah).f0) ((aG l1 ah).f1) true _ A7.1).mono ?_
        rintro e eP ⟨rfl,hb⟩;refine⟨_,rfl,?_⟩;replace HB:=J (ar (mH HB.1) hb)
        (try clear hb)
        (try clear eO)
        (try clear hk)
        (try clear hi)
        refine hK.out _ _ ⟨(mX HB.1 F3 :),(mX HB.1 F4 :),(mX HB.1 F5 :),(mX HB.1 F6 :)⟩ (fun hHeld=>?_);clear hK K;refine cR 25 ?_;refine aW 9 26 HT_.1 (mb 10 0) ?_;refine fA (iS HT_.1 (by kernel_rfl)) ?_
        try go_wp2
        go_roundg k1
        case measure=>have:=aQ.1;omega
        case rel=>exact⟨(wrap64 (ah+1)),mE,H',⟨by have:=aQ.1;omega⟩,⟨(mH HB.1)⟩⟩
       ·replace c8:=Bool.eq_false_iff.mpr c8;subst c8;have H1:=H;rw[if_neg (show ¬(false=true) by decide)]at H1;clear H;have H:=H1;clear H1;obtain rfl:=Option.some.inj H
        try go_wp2
        replace HB:=J (fy HB.1);have zX:0≤(ah:Int):=mD;have Az:ah<(U.length:Int):=mD;obtain⟨yx,OX,uF,uG⟩:=gi bB.1 ah zX Az;have F4:=uG;have F3:=uF;cases OX
        replace uF:=mX HB.1 uF;replace uG:=mX HB.1 uG;replace zX:=eq_true zX;replace Az:=eq_true Az;have zY:0≤(ah:Int):=mD;have AA:ah<(l1.length:Int):=mD;obtain⟨yy,OY,uH,uI⟩:=gi lW.1 ah zY AA;have F6:=uI;have F5:=uH;cases OY
        replace uH:=mX HB.1 uH;replace uI:=mX HB.1 uI;replace zY:=eq_true zY;replace AA:=eq_true AA;refine fk (n:=10) (S:=fun w'=>w'.cell? (yx.add ((ah).toNat*2))=some (.string ((aG U ah).f0))∧w'.cell? ⟨(yx.add ((ah).toNat*2)).block,(yx.add ((ah).toNat*2)).off+1,none⟩=some (.int .i64 ((aG U ah).f1))∧w'.cell? (yy.add ((ah).toNat*2))=some (.string ((aG l1 ah).f0))∧w'.cell? ⟨(yy.add ((ah).toNat*2)).block,(yy.add ((ah).toNat*2)).off+1,none⟩=some (.int .i64 ((aG l1 ah).f1))) (ds:=[]) (mb 0 10) (by kernel_rfl) rfl rfl ⟨(mX HB.1 F3 :),(mX HB.1 F4 :),(mX HB.1 F5 :),(mX HB.1 F6 :)⟩ (fun hHeld=>?_);refine jc fp.vk fp.ug (fun HT_ HW_=>?_);generalize wr.drew=cC at HB uF uG uH uI hHeld ⊢
        refine aW 0 17 HT_.1 (mb 1 9) ?_;refine aW 1 18 HT_.1 (mb 2 8) ?_;refine aW 2 19 HT_.1 (mb 3 7) ?_;refine aW 4 21 HT_.1 (mr [3,1,1,5]) ?_;refine aW 5 22 HT_.1 (mr [3,1,2,4]) ?_;refine aW 6 23 HT_.1 (mr [3,1,3,3]) ?_;refine cZ 3 20 HT_.1 HW_.1 (mb 7 3) hHeld ?_;refine cZ 7 24 HT_.1 HW_.1 (mb 8 2) hHeld ?_;refine et 8 (some 25) HT_.1 (mb 9 1) (fun K hK=>?_);refine iU Tryz.func90 (by kernel_rfl) rfl #[.agg #[.string ((aG U ah).f0),.int .i64 ((aG U ah).f1)],.agg #[.string ((aG l1 ah).f0),.int .i64 ((aG l1 ah).f1)]] (by rfl) rfl rfl mA ?_
        with_reducible refine(zv.calls ((aG U ah).f0) ((aG U ah).f1) ((aG l1 ah).f0) ((aG l1 ah).f1) false _ A7.1).mono ?_
        rintro e dK ⟨rfl,hb⟩;refine⟨_,rfl,?_⟩;replace HB:=J (ar (mH HB.1) hb)
        (try clear hb)
        (try clear eO)
        (try clear hk)
        (try clear hi)
        refine hK.out _ _ ⟨(mX HB.1 F3 :),(mX HB.1 F4 :),(mX HB.1 F5 :),(mX HB.1 F6 :)⟩ (fun hHeld=>?_);clear hK K;refine cR 25 ?_;refine aW 9 26 HT_.1 (mb 10 0) ?_;refine fA (iS HT_.1 (by kernel_rfl)) ?_
        try go_wp2
        go_ret;exact⟨bN,(mH HB.1)⟩
      ·rw[if_neg c6]at H;exact absurd H (by simp)
     ·rw[if_neg c5]at H;exact absurd H (by simp)
    ·rw[if_neg c4]at H;have cV:=decide_eq_false c4;clear c4;obtain rfl:=Option.some.inj H;go_wp2;go_ret;exact⟨bN,(mH HB.1)⟩
 ·rw[if_neg c3]at H;have cS:((U.length:Int) == (l1.length:Int))=false:=beq_eq_false_iff_ne.mpr c3;have ku:((U.length:Int) != (l1.length:Int))=true:=bne_iff_ne.mpr c3;have rR:(U.length == l1.length)=false:=by first|simpa using c3|(simp at c3 ⊢;omega)
  obtain rfl:=Option.some.inj H;go_enter Tryz.func48,Tryz.ntmps48;go_wp2;go_ret;exact⟨bN,(mH HB.1)⟩
def HC.f (k:Nat) (ab:List (al)) (af:List (aa)) (aj:List (aa)) (ak:Int) (gR:List (al)) (dU:List (aa)) (ix:List (aa)) (ji:Int):Option (Bool):=(gI.f k ab gR).bind fun CZ=>(if CZ=true then ((fp.f k af dU).bind fun xt=>(if xt=true then ((fp.f k aj ix).bind fun tA=>(if tA=true then (if ak=ji then (some true) else (some false)) else (some false))) else (some false))) else (some false))
set_option maxHeartbeats 8000000 in
set_option maxRecDepth 100000 in
theorem HC.calls (k:Nat) (aE:Option Addr) (av:Nat) (ab:List (al)) (aq:Option Addr) (ao:Nat) (af:List (aa)) (aC:Option Addr) (aD:Nat) (aj:List (aa)) (ak:Int) (oa:Option Addr) (oA:Nat) (gR:List (al)) (kp:Option Addr) (ks:Nat) (dU:List (aa)) (sS:Option Addr) (tf:Nat) (ix:List (aa)) (ji:Int) (r:Bool) (w:World) (cI:Kd.C bc w aE ab.length ab) (cG:ab.length≤av) (cr:Kd.C an w aq af.length af) (cq:af.length≤ao) (cJ:Kd.C an w aC aj.length aj) (cH:aj.length≤aD) (X1:Kd.C bc w oa gR.length gR) (WG:gR.length≤oA) (FT:Kd.C an w kp dU.length dU) (EY:dU.length≤ks) (X2:Kd.C an w sS ix.length ix) (WH:ix.length≤tf) (h:HC.f k ab af aj ak gR dU ix ji=some r) :
 Calls Tryz.prog 16 #[.agg #[.slice aE ab.length av,.slice aq af.length ao,.slice aC aj.length aD,.int .i64 ak],.agg #[.slice oa gR.length oA,.slice kp dU.length ks,.slice sS ix.length tf,.int .i64 ji]] w fun e w'=>e = .returned (.bool r)∧Below w.heap.size w w':=by
 have kZ:=Tryz.underlying27;have ca:=J cI;have cA:=J cG;clear cI cG;have bW:=J cr;have cd:=J cq;clear cr cq;have cD:=J cJ;have cL:=J cH;clear cJ cH;have DJ:=J X1;have Dw:=J WG;clear X1 WG;have vD:=J FT;have vB:=J EY;clear FT EY;have M1:=J X2;have MI:=J WH;clear X2 WH;have HB:=J (Below.refl w.heap.size w);have H:((gI.f k ab gR).bind fun CZ=>(if CZ=true then ((fp.f k af dU).bind fun xt=>(if xt=true then ((fp.f k aj ix).bind fun tA=>(if tA=true then (if ak=ji then (some true) else (some false)) else (some false))) else (some false))) else (some false)))=some r:=h;clear h;replace H:=Option.bind_eq_some_iff.mp H;obtain⟨CZ,dY,H⟩:=H;replace H:(if CZ=true then ((fp.f k af dU).bind fun xt=>(if xt=true then ((fp.f k aj ix).bind fun tA=>(if tA=true then (if ak=ji then (some true) else (some false)) else (some false))) else (some false))) else (some false))=some r:=H;have A3:=J dY;clear dY;by_cases c4:CZ=true
 ·subst c4;have H1:=H;rw[if_pos rfl]at H1;clear H;have H:=H1;clear H1;replace H:=Option.bind_eq_some_iff.mp H;obtain⟨xt,iQ,H⟩:=H;replace H:(if xt=true then ((fp.f k aj ix).bind fun tA=>(if tA=true then (if ak=ji then (some true) else (some false)) else (some false))) else (some false))=some r:=H;have A5:=J iQ;clear iQ;by_cases c6:xt=true
  ·subst c6;have H1:=H;rw[if_pos rfl]at H1;clear H;have H:=H1;clear H1;replace H:=Option.bind_eq_some_iff.mp H;obtain⟨tA,kM,H⟩:=H;replace H:(if tA=true then (if ak=ji then (some true) else (some false)) else (some false))=some r:=H;have A7:=J kM;clear kM;by_cases c8:tA=true
   ·subst c8;have H1:=H;rw[if_pos rfl]at H1;clear H;have H:=H1;clear H1;by_cases c9:ak=ji
    ·rw[if_pos c9]at H;have ma:(ak == ji)=true:=beq_iff_eq.mpr c9;have afh:(ak != ji)=false:=bne_eq_false_iff_eq.mpr c9;clear c9;obtain rfl:=Option.some.inj H;go_enter Tryz.func16,Tryz.ntmps16;go_wp2_with (first|((with_reducible refine aH (N:=2) rfl ?_);refine aT 2 #[.slice aE ab.length av,.slice aq af.length ao,.slice aC aj.length aD,.int .i64 ak] 27 ?_;intro JS hg eP hbox hb;have da:=J (hbox);have ID:=mG hg (mH HB.1);have fQ:=mG hg (mH HB.1);replace HB:=J (ar (mH HB.1) hb);clear hb hbox hg)|((with_reducible refine aH (N:=3) rfl ?_);refine aT 3 #[.slice oa gR.length oA,.slice kp dU.length ks,.slice sS ix.length tf,.int .i64 ji] 27 ?_;intro JT hg cC hbox hb;have eR:=J (hbox);have IE:=mG hg (aI HB.1 fQ.1);have kr:=mG hg (aI HB.1 fQ.1);replace HB:=J (ar (aI HB.1 fQ.1) hb);have tX:=bI hg da.1;have tY:=bH hg da.1;replace da:=mB da hb;clear hb hbox hg;have akg:=tX.1;have akw:=tY.1;obtain⟨JV,JW,PN,WL,Kb,Ke,Qf,Xd⟩:=bk da.1;obtain⟨yV,yW,JX,WM,zb,zc,Kf,Xe⟩:=bk eR.1)|((with_reducible refine aJ (f:=47) rfl ?_);refine bA 9 Tryz.func47 #[.slice aE ab.length av,.slice oa gR.length oA] ?_;(with_reducible refine(gI.calls k _ _ ab _ _ gR true _ ?az ?aA ?bh ?bj A3.1).mono ?_);(case az=>exact mC (Kd.aw ca.1 HB.1));(case aA=>exact cA.1);(case bh=>exact mC (Kd.aw DJ.1 HB.1));(case bj=>exact Dw.1);rintro e lh ⟨rfl,hb⟩;refine⟨_,rfl,?_⟩;replace da:=mB da hb;replace eR:=mB eR hb;replace HB:=J (ar (aV HB.1 fQ.1 kr.1) hb);(try clear hb);obtain⟨wi,wj,wk,yY,wC,wD,wE,ze⟩:=bk da.1;obtain⟨E4,JY,JZ,J0,Fc,Kg,Kh,Ki⟩:=bk eR.1)|((with_reducible refine aJ (f:=48) rfl ?_);refine bA 15 Tryz.func48 #[.slice aq af.length ao,.slice kp dU.length ks] ?_;(with_reducible refine(fp.calls k _ _ af _ _ dU true _ ?az ?aA ?bh ?bj A5.1).mono ?_);(case az=>exact mC (Kd.aw bW.1 HB.1));(case aA=>exact cd.1);(case bh=>exact mC (Kd.aw vD.1 HB.1));(case bj=>exact vB.1);rintro e Ij ⟨rfl,hb⟩;refine⟨_,rfl,?_⟩;replace da:=mB da hb;replace eR:=mB eR hb;replace HB:=J (ar (aV HB.1 fQ.1 kr.1) hb);(try clear hb);obtain⟨wm,wo,B7,B8,wF,wG,Ce,Cf⟩:=bk da.1;obtain⟨J1,J2,J3,PS,Kj,Kk,Kl,Qj⟩:=bk eR.1)|((with_reducible refine aJ (f:=48) rfl ?_);refine bA 21 Tryz.func48 #[.slice aC aj.length aD,.slice sS ix.length tf] ?_;(with_reducible refine(fp.calls k _ _ aj _ _ ix true _ ?az ?aA ?bh ?bj A7.1).mono ?_);(case az=>exact mC (Kd.aw cD.1 HB.1));(case aA=>exact cL.1);(case bh=>exact mC (Kd.aw M1.1 HB.1));(case bj=>exact MI.1);rintro e Ik ⟨rfl,hb⟩;refine⟨_,rfl,?_⟩;replace da:=mB da hb;replace eR:=mB eR hb;replace HB:=J (ar (aV HB.1 fQ.1 kr.1) hb);(try clear hb);obtain⟨yZ,y6,y7,y8,zf,zg,zh,zi⟩:=bk da.1;obtain⟨WR,WS,WT,WU,Xi,Xj,Xk,Xl⟩:=bk eR.1));go_ret;exact⟨bN,(aV HB.1 fQ.1 kr.1)⟩
    ·rw[if_neg c9]at H;have ma:(ak == ji)=false:=beq_eq_false_iff_ne.mpr c9;have afh:(ak != ji)=true:=bne_iff_ne.mpr c9;obtain rfl:=Option.some.inj H;go_enter Tryz.func16,Tryz.ntmps16;go_wp2_with (first|((with_reducible refine aH (N:=2) rfl ?_);refine aT 2 #[.slice aE ab.length av,.slice aq af.length ao,.slice aC aj.length aD,.int .i64 ak] 27 ?_;intro JS hg w24 hbox hb;have da:=J (hbox);have ID:=mG hg (mH HB.1);have fQ:=mG hg (mH HB.1);replace HB:=J (ar (mH HB.1) hb);clear hb hbox hg)|((with_reducible refine aH (N:=3) rfl ?_);refine aT 3 #[.slice oa gR.length oA,.slice kp dU.length ks,.slice sS ix.length tf,.int .i64 ji] 27 ?_;intro JT hg SE hbox hb;have eR:=J (hbox);have IE:=mG hg (aI HB.1 fQ.1);have kr:=mG hg (aI HB.1 fQ.1);replace HB:=J (ar (aI HB.1 fQ.1) hb);have tX:=bI hg da.1;have tY:=bH hg da.1;replace da:=mB da hb;clear hb hbox hg;have akj:=tX.1;have akz:=tY.1;obtain⟨ahB,ahC,ahD,ahE,ai5,ai6,ai7,ai8⟩:=bk da.1;obtain⟨PW,PX,PY,PZ,Qn,Qp,Qq,Qr⟩:=bk eR.1)|((with_reducible refine aJ (f:=47) rfl ?_);refine bA 9 Tryz.func47 #[.slice aE ab.length av,.slice oa gR.length oA] ?_;(with_reducible refine(gI.calls k _ _ ab _ _ gR true _ ?az ?aA ?bh ?bj A3.1).mono ?_);(case az=>exact mC (Kd.aw ca.1 HB.1));(case aA=>exact cA.1);(case bh=>exact mC (Kd.aw DJ.1 HB.1));(case bj=>exact Dw.1);rintro e LI ⟨rfl,hb⟩;refine⟨_,rfl,?_⟩;replace da:=mB da hb;replace eR:=mB eR hb;replace HB:=J (ar (aV HB.1 fQ.1 kr.1) hb);(try clear hb);obtain⟨ahF,ahG,ahH,ahI,ai9,aja,ajb,ajc⟩:=bk da.1;obtain⟨ahJ,ahK,ahL,arq,ajd,aje,ajf,at2⟩:=bk eR.1)|((with_reducible refine aJ (f:=48) rfl ?_);refine bA 15 Tryz.func48 #[.slice aq af.length ao,.slice kp dU.length ks] ?_;(with_reducible refine(fp.calls k _ _ af _ _ dU true _ ?az ?aA ?bh ?bj A5.1).mono ?_);(case az=>exact mC (Kd.aw bW.1 HB.1));(case aA=>exact cd.1);(case bh=>exact mC (Kd.aw vD.1 HB.1));(case bj=>exact vB.1);rintro e w32 ⟨rfl,hb⟩;refine⟨_,rfl,?_⟩;replace da:=mB da hb;replace eR:=mB eR hb;replace HB:=J (ar (aV HB.1 fQ.1 kr.1) hb);(try clear hb);obtain⟨ahQ,ahR,ahS,ahT,ajk,ajl,ajm,ajn⟩:=bk da.1;obtain⟨W0,W3,W4,ars,Xs,Xt,Xu,at3⟩:=bk eR.1)|((with_reducible refine aJ (f:=48) rfl ?_);refine bA 21 Tryz.func48 #[.slice aC aj.length aD,.slice sS ix.length tf] ?_;(with_reducible refine(fp.calls k _ _ aj _ _ ix true _ ?az ?aA ?bh ?bj A7.1).mono ?_);(case az=>exact mC (Kd.aw cD.1 HB.1));(case aA=>exact cL.1);(case bh=>exact mC (Kd.aw M1.1 HB.1));(case bj=>exact MI.1);rintro e j8 ⟨rfl,hb⟩;refine⟨_,rfl,?_⟩;replace da:=mB da hb;replace eR:=mB eR hb;replace HB:=J (ar (aV HB.1 fQ.1 kr.1) hb);(try clear hb);obtain⟨art,aru,arv,arw,at4,at5,at6,at7⟩:=bk da.1;obtain⟨ahU,ahV,ahW,ahX,ajo,ajp,ajq,ajr⟩:=bk eR.1));go_ret;exact⟨bN,(aV HB.1 fQ.1 kr.1)⟩
   ·replace c8:=Bool.eq_false_iff.mpr c8;subst c8;have H1:=H;rw[if_neg (show ¬(false=true) by decide)]at H1;clear H;have H:=H1;clear H1;obtain rfl:=Option.some.inj H;go_enter Tryz.func16,Tryz.ntmps16;go_wp2_with (first|((with_reducible refine aH (N:=2) rfl ?_);refine aT 2 #[.slice aE ab.length av,.slice aq af.length ao,.slice aC aj.length aD,.int .i64 ak] 27 ?_;intro JS hg w38 hbox hb;have da:=J (hbox);have ID:=mG hg (mH HB.1);have fQ:=mG hg (mH HB.1);replace HB:=J (ar (mH HB.1) hb);clear hb hbox hg)|((with_reducible refine aH (N:=3) rfl ?_);refine aT 3 #[.slice oa gR.length oA,.slice kp dU.length ks,.slice sS ix.length tf,.int .i64 ji] 27 ?_;intro JT hg SG hbox hb;have eR:=J (hbox);have IE:=mG hg (aI HB.1 fQ.1);have kr:=mG hg (aI HB.1 fQ.1);replace HB:=J (ar (aI HB.1 fQ.1) hb);have tX:=bI hg da.1;have tY:=bH hg da.1;replace da:=mB da hb;clear hb hbox hg;have akp:=tX.1;have akF:=tY.1;obtain⟨ah2,ah3,ah4,ah5,ajw,ajx,ajy,ajz⟩:=bk da.1;obtain⟨ah6,ah7,ah8,ah9,ajA,ajB,ajC,ajD⟩:=bk eR.1)|((with_reducible refine aJ (f:=47) rfl ?_);refine bA 9 Tryz.func47 #[.slice aE ab.length av,.slice oa gR.length oA] ?_;(with_reducible refine(gI.calls k _ _ ab _ _ gR true _ ?az ?aA ?bh ?bj A3.1).mono ?_);(case az=>exact mC (Kd.aw ca.1 HB.1));(case aA=>exact cA.1);(case bh=>exact mC (Kd.aw DJ.1 HB.1));(case bj=>exact Dw.1);rintro e w43 ⟨rfl,hb⟩;refine⟨_,rfl,?_⟩;replace da:=mB da hb;replace eR:=mB eR hb;replace HB:=J (ar (aV HB.1 fQ.1 kr.1) hb);(try clear hb);obtain⟨aie,aif,aih,aii,ajI,ajJ,ajK,ajL⟩:=bk da.1;obtain⟨aij,aik,ail,aim,ajM,ajN,ajO,ajP⟩:=bk eR.1)|((with_reducible refine aJ (f:=48) rfl ?_);refine bA 15 Tryz.func48 #[.slice aq af.length ao,.slice kp dU.length ks] ?_;(with_reducible refine(fp.calls k _ _ af _ _ dU true _ ?az ?aA ?bh ?bj A5.1).mono ?_);(case az=>exact mC (Kd.aw bW.1 HB.1));(case aA=>exact cd.1);(case bh=>exact mC (Kd.aw vD.1 HB.1));(case bj=>exact vB.1);rintro e w46 ⟨rfl,hb⟩;refine⟨_,rfl,?_⟩;replace da:=mB da hb;replace eR:=mB eR hb;replace HB:=J (ar (aV HB.1 fQ.1 kr.1) hb);(try clear hb);obtain⟨air,ais,ait,aiu,ajU,ajV,ajW,ajX⟩:=bk da.1;obtain⟨E5,E6,E7,E8,Ff,Fg,Fh,Fi⟩:=bk eR.1)|((with_reducible refine aJ (f:=48) rfl ?_);refine bA 21 Tryz.func48 #[.slice aC aj.length aD,.slice sS ix.length tf] ?_;(with_reducible refine(fp.calls k _ _ aj _ _ ix false _ ?az ?aA ?bh ?bj A7.1).mono ?_);(case az=>exact mC (Kd.aw cD.1 HB.1));(case aA=>exact cL.1);(case bh=>exact mC (Kd.aw M1.1 HB.1));(case bj=>exact MI.1);rintro e w49 ⟨rfl,hb⟩;refine⟨_,rfl,?_⟩;replace da:=mB da hb;replace eR:=mB eR hb;replace HB:=J (ar (aV HB.1 fQ.1 kr.1) hb);(try clear hb)));go_ret;exact⟨bN,(aV HB.1 fQ.1 kr.1)⟩
  ·replace c6:=Bool.eq_false_iff.mpr c6;subst c6;have H1:=H;rw[if_neg (show ¬(false=true) by decide)]at H1;clear H;have H:=H1;clear H1;obtain rfl:=Option.some.inj H;go_enter Tryz.func16,Tryz.ntmps16;go_wp2_with (first|((with_reducible refine aH (N:=2) rfl ?_);refine aT 2 #[.slice aE ab.length av,.slice aq af.length ao,.slice aC aj.length aD,.int .i64 ak] 27 ?_;intro JS hg w50 hbox hb;have da:=J (hbox);have ID:=mG hg (mH HB.1);have fQ:=mG hg (mH HB.1);replace HB:=J (ar (mH HB.1) hb);clear hb hbox hg)|((with_reducible refine aH (N:=3) rfl ?_);refine aT 3 #[.slice oa gR.length oA,.slice kp dU.length ks,.slice sS ix.length tf,.int .i64 ji] 27 ?_;intro JT hg w51 hbox hb;have eR:=J (hbox);have IE:=mG hg (aI HB.1 fQ.1);have kr:=mG hg (aI HB.1 fQ.1);replace HB:=J (ar (aI HB.1 fQ.1) hb);have tX:=bI hg da.1;have tY:=bH hg da.1;replace da:=mB da hb;clear hb hbox hg;have awc:=tX.1;have awN:=tY.1;obtain⟨arB,arC,arD,arE,auc,aud,aue,aug⟩:=bk da.1;obtain⟨arF,arG,arH,arI,auh,aui,auj,auk⟩:=bk eR.1)|((with_reducible refine aJ (f:=47) rfl ?_);refine bA 9 Tryz.func47 #[.slice aE ab.length av,.slice oa gR.length oA] ?_;(with_reducible refine(gI.calls k _ _ ab _ _ gR true _ ?az ?aA ?bh ?bj A3.1).mono ?_);(case az=>exact mC (Kd.aw ca.1 HB.1));(case aA=>exact cA.1);(case bh=>exact mC (Kd.aw DJ.1 HB.1));(case bj=>exact Dw.1);rintro e w55 ⟨rfl,hb⟩;refine⟨_,rfl,?_⟩;replace da:=mB da hb;replace eR:=mB eR hb;replace HB:=J (ar (aV HB.1 fQ.1 kr.1) hb);(try clear hb);obtain⟨arJ,arK,arL,arM,aul,aum,aun,auo⟩:=bk da.1;obtain⟨arN,arO,arP,arQ,aup,auq,aur,aus⟩:=bk eR.1)|((with_reducible refine aJ (f:=48) rfl ?_);refine bA 15 Tryz.func48 #[.slice aq af.length ao,.slice kp dU.length ks] ?_;(with_reducible refine(fp.calls k _ _ af _ _ dU false _ ?az ?aA ?bh ?bj A5.1).mono ?_);(case az=>exact mC (Kd.aw bW.1 HB.1));(case aA=>exact cd.1);(case bh=>exact mC (Kd.aw vD.1 HB.1));(case bj=>exact vB.1);rintro e w58 ⟨rfl,hb⟩;refine⟨_,rfl,?_⟩;replace da:=mB da hb;replace eR:=mB eR hb;replace HB:=J (ar (aV HB.1 fQ.1 kr.1) hb);(try clear hb)));go_ret;exact⟨bN,(aV HB.1 fQ.1 kr.1)⟩
 ·replace c4:=Bool.eq_false_iff.mpr c4;subst c4;have H1:=H;rw[if_neg (show ¬(false=true) by decide)]at H1;clear H;have H:=H1;clear H1;obtain rfl:=Option.some.inj H;go_enter Tryz.func16,Tryz.ntmps16;go_wp2_with (first|((with_reducible refine aH (N:=2) rfl ?_);refine aT 2 #[.slice aE ab.length av,.slice aq af.length ao,.slice aC aj.length aD,.int .i64 ak] 27 ?_;intro JS hg w59 hbox hb;have da:=J (hbox);have ID:=mG hg (mH HB.1);have fQ:=mG hg (mH HB.1);replace HB:=J (ar (mH HB.1) hb);clear hb hbox hg)|((with_reducible refine aH (N:=3) rfl ?_);refine aT 3 #[.slice oa gR.length oA,.slice kp dU.length ks,.slice sS ix.length tf,.int .i64 ji] 27 ?_;intro JT hg w60 hbox hb;have eR:=J (hbox);have IE:=mG hg (aI HB.1 fQ.1);have kr:=mG hg (aI HB.1 fQ.1);replace HB:=J (ar (aI HB.1 fQ.1) hb);have tX:=bI hg da.1;have tY:=bH hg da.1;replace da:=mB da hb;clear hb hbox hg;have aku:=tX.1;have akK:=tY.1;obtain⟨arT,arU,arV,arW,auv,auw,auy,auz⟩:=bk da.1;obtain⟨arX,arY,arZ,ar0,auA,auB,auC,auD⟩:=bk eR.1)|((with_reducible refine aJ (f:=47) rfl ?_);refine bA 9 Tryz.func47 #[.slice aE ab.length av,.slice oa gR.length oA] ?_;(with_reducible refine(gI.calls k _ _ ab _ _ gR false _ ?az ?aA ?bh ?bj A3.1).mono ?_);(case az=>exact mC (Kd.aw ca.1 HB.1));(case aA=>exact cA.1);(case bh=>exact mC (Kd.aw DJ.1 HB.1));(case bj=>exact Dw.1);rintro e w64 ⟨rfl,hb⟩;refine⟨_,rfl,?_⟩;replace da:=mB da hb;replace eR:=mB eR hb;replace HB:=J (ar (aV HB.1 fQ.1 kr.1) hb);(try clear hb)));go_ret;exact⟨bN,(aV HB.1 fQ.1 kr.1)⟩
def nU.U:Nat→List (List Int)→List (List Int)→Int→Option (Bool)
 |0,_,_,_=>none
 |k+1,x0,x1,x5=>if x5<(x0.length:Int) then (if 0≤x5 then (if x5<(x1.length:Int) then ((iM.f k (ja x0 x5) (ja x1 x5)).bind fun LC=>(if LC=true then (nU.U k x0 x1 (wrap64 (x5+1))) else (some false))) else (none)) else (none)) else (some true)
def nU.f (k:Nat) (U:List (List Int)) (l1:List (List Int)):Option (Bool):=if (U.length:Int)=(l1.length:Int) then (nU.U k U l1 0) else (some false)
set_option maxHeartbeats 8000000 in
set_option maxRecDepth 100000 in
theorem nU.calls (k:Nat) (A0:Option Addr) (c0:Nat) (U:List (List Int)) (A1:Option Addr) (c1:Nat) (l1:List (List Int)) (r:Bool) (w:World) (bJ:Kd.C (Kd.slice 5 (Kd.int .u8)) w A0 U.length U) (bz:U.length≤c0) (ml:Kd.C (Kd.slice 5 (Kd.int .u8)) w A1 l1.length l1) (mg:l1.length≤c1) (h:nU.f k U l1=some r) :
 Calls Tryz.prog 17 #[.slice A0 U.length c0,.slice A1 l1.length c1] w fun e w'=>e = .returned (.bool r)∧ay w w':=by
 have bB:=J bJ;have eb:=J bz;clear bJ bz;have lW:=J ml;have IF:=J mg;clear ml mg;have H:(if (U.length:Int)=(l1.length:Int) then (nU.U k U l1 0) else (some false))=some r:=h;clear h;by_cases c3:(U.length:Int)=(l1.length:Int)
 ·rw[if_pos c3]at H;have cS:((U.length:Int) == (l1.length:Int))=true:=beq_iff_eq.mpr c3;have ku:((U.length:Int) != (l1.length:Int))=false:=bne_eq_false_iff_eq.mpr c3;have rR:(U.length == l1.length)=true:=by first|simpa using c3|(simp at c3 ⊢;omega)
  clear c3;have H':=J H;clear H;go_enter Tryz.func17,Tryz.ntmps17;go_wp2
  repeat (go_quiet (fail);try go_wp2)
  go_loopg [5] k (fun kq v5 w'=>∃(ah:Int),v5 = .int .i64 ah∧Aside0 (nU.U kq U l1 ah=some r)∧Aside0 (kq≤k)∧ay w w')
  case atStart=>exact⟨(0),mE,H',⟨Nat.le_refl _⟩,by repeat (first|exact ay.refl _|apply ay.step)⟩
  case round=>
   clear H'
   try clear c1
   try clear c3
   try clear cS
   try clear ku
   try clear rR
   obtain⟨ah,rfl,HA,aQ,⟨m1,rfl⟩⟩:=hrel;cases gk with
   |zero=>exact absurd HA.1 (by simp[nU.U])
   |succ k1=>
    have H:=HA.1;clear HA;simp only[nU.U]at H;by_cases c4:ah<(U.length:Int)
    ·rw[if_pos c4]at H;have cV:=decide_eq_true c4;clear c4;by_cases c5:0≤ah
     ·rw[if_pos c5]at H;have eS:=decide_eq_true c5;clear c5;by_cases c6:ah<(l1.length:Int)
      ·rw[if_pos c6]at H;have eh:=decide_eq_true c6;clear c6;replace H:=Option.bind_eq_some_iff.mp H;obtain⟨LC,kM,H⟩:=H;replace H:(if LC=true then (nU.U k1 U l1 (wrap64 (ah+1))) else (some false))=some r:=H;have A7:=J kM;clear kM;by_cases c8:LC=true
       ·subst c8;have H1:=H;rw[if_pos rfl]at H1;clear H;have H:=H1;clear H1;have H':=J H;clear H;have zZ:0≤(ah:Int):=mD;have AB:ah<(U.length:Int):=mD;obtain⟨aeI,abf,afe,OZ,ak5,FC,Fq⟩:=BG bB.1 ah zZ AB;cases OZ
        have yg:=J Fq;have xY:=J FC;clear Fq FC;replace zZ:=eq_true zZ;replace AB:=eq_true AB;have z6:0≤(ah:Int):=mD;have AD:ah<(l1.length:Int):=mD;obtain⟨aeJ,abg,aff,O0,ak6,FD,Ft⟩:=BG lW.1 ah z6 AD;cases O0
        have yh:=J Ft;have xZ:=J FD;clear Ft FD;replace z6:=eq_true z6;replace AD:=eq_true AD;go_wp2_with (first|(go_at_call 49;(with_reducible refine(iM.calls k1 _ _ (ja U ah) _ _ (ja l1 ah) true _ ?az ?aA ?bh ?bj A7.1).mono ?_);(case az=>exact mC yg.1);(case aA=>exact xY.1);(case bh=>exact mC yh.1);(case bj=>exact xZ.1);rintro e w' ⟨rfl,⟨nd,rfl⟩⟩;(try first|exact⟨rfl,_,World.drewN_drewN _ _ _⟩|exact⟨rfl,_,Eq.trans (World.drewN_drewN _ _ _) (congrArg (World.drewN _) (Nat.add_assoc _ _ _))⟩)))
        repeat (go_quiet (first|(go_at_call 49;(with_reducible refine(iM.calls k1 _ _ (ja U ah) _ _ (ja l1 ah) true _ ?az ?aA ?bh ?bj A7.1).mono ?_);(case az=>exact mC yg.1);(case aA=>exact xY.1);(case bh=>exact mC yh.1);(case bj=>exact xZ.1);rintro e w' ⟨rfl,⟨nd,rfl⟩⟩;(try first|exact⟨rfl,_,World.drewN_drewN _ _ _⟩|exact⟨rfl,_,Eq.trans (World.drewN_drewN _ _ _) (congrArg (World.drewN _) (Nat.add_assoc _ _ _))⟩)));try go_wp2_with (first|(go_at_call 49;(with_reducible refine(iM.calls k1 _ _ (ja U ah) _ _ (ja l1 ah) true _ ?az ?aA ?bh ?bj A7.1).mono ?_);(case az=>exact mC yg.1);(case aA=>exact xY.1);(case bh=>exact mC yh.1);(case bj=>exact xZ.1);rintro e w' ⟨rfl,⟨nd,rfl⟩⟩;(try first|exact⟨rfl,_,World.drewN_drewN _ _ _⟩|exact⟨rfl,_,Eq.trans (World.drewN_drewN _ _ _) (congrArg (World.drewN _) (Nat.add_assoc _ _ _))⟩))))
        go_roundg k1
        case measure=>have:=aQ.1;omega
        case rel=>exact⟨(wrap64 (ah+1)),mE,H',⟨by have:=aQ.1;omega⟩,by repeat (first|exact ay.refl _|apply ay.step)⟩
       ·replace c8:=Bool.eq_false_iff.mpr c8;subst c8;have H1:=H;rw[if_neg (show ¬(false=true) by decide)]at H1;clear H;have H:=H1;clear H1;obtain rfl:=Option.some.inj H;have zZ:0≤(ah:Int):=mD;have AB:ah<(U.length:Int):=mD;obtain⟨aeI,abf,afe,OZ,ak5,FC,Fq⟩:=BG bB.1 ah zZ AB;cases OZ
        have yg:=J Fq;have xY:=J FC;clear Fq FC;replace zZ:=eq_true zZ;replace AB:=eq_true AB;have z6:0≤(ah:Int):=mD;have AD:ah<(l1.length:Int):=mD;obtain⟨aeJ,abg,aff,O0,ak6,FD,Ft⟩:=BG lW.1 ah z6 AD;cases O0
        have yh:=J Ft;have xZ:=J FD;clear Ft FD;replace z6:=eq_true z6;replace AD:=eq_true AD;go_wp2_with (first|(go_at_call 49;(with_reducible refine(iM.calls k1 _ _ (ja U ah) _ _ (ja l1 ah) false _ ?az ?aA ?bh ?bj A7.1).mono ?_);(case az=>exact mC yg.1);(case aA=>exact xY.1);(case bh=>exact mC yh.1);(case bj=>exact xZ.1);rintro e w' ⟨rfl,⟨nd,rfl⟩⟩;(try first|exact⟨rfl,_,World.drewN_drewN _ _ _⟩|exact⟨rfl,_,Eq.trans (World.drewN_drewN _ _ _) (congrArg (World.drewN _) (Nat.add_assoc _ _ _))⟩)))
        repeat (go_quiet (first|(go_at_call 49;(with_reducible refine(iM.calls k1 _ _ (ja U ah) _ _ (ja l1 ah) false _ ?az ?aA ?bh ?bj A7.1).mono ?_);(case az=>exact mC yg.1);(case aA=>exact xY.1);(case bh=>exact mC yh.1);(case bj=>exact xZ.1);rintro e w' ⟨rfl,⟨nd,rfl⟩⟩;(try first|exact⟨rfl,_,World.drewN_drewN _ _ _⟩|exact⟨rfl,_,Eq.trans (World.drewN_drewN _ _ _) (congrArg (World.drewN _) (Nat.add_assoc _ _ _))⟩)));try go_wp2_with (first|(go_at_call 49;(with_reducible refine(iM.calls k1 _ _ (ja U ah) _ _ (ja l1 ah) false _ ?az ?aA ?bh ?bj A7.1).mono ?_);(case az=>exact mC yg.1);(case aA=>exact xY.1);(case bh=>exact mC yh.1);(case bj=>exact xZ.1);rintro e w' ⟨rfl,⟨nd,rfl⟩⟩;(try first|exact⟨rfl,_,World.drewN_drewN _ _ _⟩|exact⟨rfl,_,Eq.trans (World.drewN_drewN _ _ _) (congrArg (World.drewN _) (Nat.add_assoc _ _ _))⟩))))
        go_ret;exact⟨mE,by repeat (first|exact ay.refl _|apply ay.step)⟩
      ·rw[if_neg c6]at H;exact absurd H (by simp)
     ·rw[if_neg c5]at H;exact absurd H (by simp)
    ·rw[if_neg c4]at H;have cV:=decide_eq_false c4;clear c4;obtain rfl:=Option.some.inj H;go_wp2
     repeat (go_quiet (fail);try go_wp2)
     go_ret;exact⟨mE,by repeat (first|exact ay.refl _|apply ay.step)⟩
 ·rw[if_neg c3]at H;have cS:((U.length:Int) == (l1.length:Int))=false:=beq_eq_false_iff_ne.mpr c3;have ku:((U.length:Int) != (l1.length:Int))=true:=bne_iff_ne.mpr c3;have rR:(U.length == l1.length)=false:=by first|simpa using c3|(simp at c3 ⊢;omega)
  obtain rfl:=Option.some.inj H;go_enter Tryz.func17,Tryz.ntmps17;go_wp2
  repeat (go_quiet (fail);try go_wp2)
  go_ret;exact⟨mE,by repeat (first|exact ay.refl _|apply ay.step)⟩
end Go.Proofs.YtingkpnoiekliaaGreat.MZ
