-- Written by mp.py, our own printer (wip/mp.py), and made shorter by wip/mp_shrink*.py.
import Derived.Test.YtgpkdbnikcghgaaVAll
import Derived.Test.YtgpkdbnikcghgaaMDx0
namespace Go.Proofs.Ytgpkdbnikcghgaa.MD
open Go.RowKit Go.Proofs.YtgpkdbnikcghgaaW.PrintWords Go.Proofs.YtgpkdbnikcghgaaW.PrintLast Go.Proofs.YtgpkdbnikcghgaaW.PrintMore Go.Proofs.Ytgpkdbnikcghgaa.MWords
attribute [local go_sem] max2_int min2_int max_two min_two max_three min_three max_four min_four
set_option linter.unusedVariables false
set_option linter.unusedSimpArgs false
def MP.f (l0:List Int):Option (Bool):=some (decide ((l0.length:Int)>1048576))
set_option maxHeartbeats 8000000 in
set_option maxRecDepth 100000 in
theorem MP.calls (A0:Option Addr) (c0:Nat) (l0:List Int) (r:Bool) (w:World) (e7:Kd.C (Kd.int .u8) w A0 l0.length l0) (gw:l0.length≤c0) (h:MP.f l0=some r) :
 Calls Try.prog 32 #[.slice A0 l0.length c0] w fun e w'=>e = .returned (.bool r)∧bC w w':=by
 have jf:=J e7;have sh:=J gw;clear e7 gw;have H:(some (decide ((l0.length:Int)>1048576)))=some r:=h;clear h;obtain rfl:=Option.some.inj H;go_enter Try.func32,Try.ntmps32;go_wp2;go_ret;exact⟨mE,by repeat (first|exact bC.refl _|apply bC.step)⟩
def D6.f (l0:List Int) (a1:Int):Option (Int):=if a1<(l0.length:Int) then (if 0≤a1 then (some (wrap64 (rd l0 a1))) else (none)) else (some (Int.tmod (wrap64 ((wrap64 (a1*31))+(wrap64 ((l0.length:Int)*7)))) 256))
set_option maxHeartbeats 8000000 in
set_option maxRecDepth 100000 in
theorem D6.calls (A0:Option Addr) (c0:Nat) (l0:List Int) (a1:Int) (r:Int) (w:World) (e7:Kd.C (Kd.int .u8) w A0 l0.length l0) (gw:l0.length≤c0) (h:D6.f l0 a1=some r) :
 Calls Try.prog 39 #[.slice A0 l0.length c0,.int .i64 a1] w fun e w'=>e = .returned (.int .i64 r)∧bC w w':=by
 have jf:=J e7;have sh:=J gw;clear e7 gw;have H:(if a1<(l0.length:Int) then (if 0≤a1 then (some (wrap64 (rd l0 a1))) else (none)) else (some (Int.tmod (wrap64 ((wrap64 (a1*31))+(wrap64 ((l0.length:Int)*7)))) 256)))=some r:=h;clear h;by_cases c3:a1<(l0.length:Int)
 ·rw[if_pos c3]at H;have l9:=decide_eq_true c3;clear c3;by_cases c4:0≤a1
  ·rw[if_pos c4]at H;have lG:=decide_eq_true c4;clear c4;obtain rfl:=Option.some.inj H;have Ug:0≤(a1:Int):=mD;have UE:a1<(l0.length:Int):=mD;obtain⟨asg,ai9,aBv⟩:=Kd.zj jf.1 a1 Ug UE;cases ai9
   replace Ug:=eq_true Ug;replace UE:=eq_true UE;go_enter Try.func39,Try.ntmps39;go_wp2;go_ret;exact⟨mE,by repeat (first|exact bC.refl _|apply bC.step)⟩
  ·rw[if_neg c4]at H;exact absurd H (by simp)
 ·rw[if_neg c3]at H;have l9:=decide_eq_false c3;clear c3;obtain rfl:=Option.some.inj H;go_enter Try.func39,Try.ntmps39;go_wp2;go_ret;exact⟨mE,by repeat (first|exact bC.refl _|apply bC.step)⟩
def qD.l0:Nat→List Int→List Int→Int→Option (Bool)
 |0,_,_,_=>none
 |k+1,x0,x1,x5=>if x5<(x0.length:Int) then (if 0≤x5 then (if x5<(x1.length:Int) then (if (rd x0 x5)=(rd x1 x5) then (qD.l0 k x0 x1 (wrap64 (x5+1))) else (some false)) else (none)) else (none)) else (some true)
def qD.f (k:Nat) (l0:List Int) (l1:List Int):Option (Bool):=if (l0.length:Int)=(l1.length:Int) then (qD.l0 k l0 l1 0) else (some false)
set_option maxHeartbeats 8000000 in
set_option maxRecDepth 100000 in
theorem qD.calls (k:Nat) (A0:Option Addr) (c0:Nat) (l0:List Int) (A1:Option Addr) (c1:Nat) (l1:List Int) (r:Bool) (w:World) (e7:Kd.C (Kd.int .u8) w A0 l0.length l0) (gw:l0.length≤c0) (kv:Kd.C (Kd.int .u8) w A1 l1.length l1) (ow:l1.length≤c1) (h:qD.f k l0 l1=some r) :
 Calls Try.prog 41 #[.slice A0 l0.length c0,.slice A1 l1.length c1] w fun e w'=>e = .returned (.bool r)∧bC w w':=by
 have jf:=J e7;have sh:=J gw;clear e7 gw;have jE:=J kv;have AK:=J ow;clear kv ow;have H:(if (l0.length:Int)=(l1.length:Int) then (qD.l0 k l0 l1 0) else (some false))=some r:=h;clear h;by_cases c3:(l0.length:Int)=(l1.length:Int)
 ·rw[if_pos c3]at H;have l9:((l0.length:Int) == (l1.length:Int))=true:=beq_iff_eq.mpr c3;have YH:((l0.length:Int) != (l1.length:Int))=false:=bne_eq_false_iff_eq.mpr c3;have YI:(l0.length == l1.length)=true:=by first|simpa using c3|(simp at c3 ⊢;omega)
  clear c3;have H':=J H;clear H;go_enter Try.func41,Try.ntmps41;go_wp2
  repeat (go_quiet (fail);try go_wp2)
  go_loopg [5] k (fun kq v5 w'=>∃(aJ:Int),v5 = .int .i64 aJ∧Aside0 (qD.l0 kq l0 l1 aJ=some r)∧Aside0 (kq≤k)∧bC w w')
  case atStart=>exact⟨(0),mE,H',⟨Nat.le_refl _⟩,by repeat (first|exact bC.refl _|apply bC.step)⟩
  case round=>
   clear H'
   try clear c1
   try clear c3
   try clear l9
   try clear YH
   try clear YI
   obtain⟨aJ,rfl,HA,bA,⟨m1,rfl⟩⟩:=hrel;cases gk with
   |zero=>exact absurd HA.1 (by simp[qD.l0])
   |succ k1=>
    have H:=HA.1;clear HA;simp only[qD.l0]at H;by_cases c4:aJ<(l0.length:Int)
    ·rw[if_pos c4]at H;have lG:=decide_eq_true c4;clear c4;by_cases c5:0≤aJ
     ·rw[if_pos c5]at H;have j8:=decide_eq_true c5;clear c5;by_cases c6:aJ<(l1.length:Int)
      ·rw[if_pos c6]at H;have jU:=decide_eq_true c6;clear c6;by_cases c7:(rd l0 aJ)=(rd l1 aJ)
       ·rw[if_pos c7]at H;have zq:((rd l0 aJ) == (rd l1 aJ))=true:=beq_iff_eq.mpr c7;have Qp:((rd l0 aJ) != (rd l1 aJ))=false:=bne_eq_false_iff_eq.mpr c7;clear c7;have H':=J H;clear H;have BT:0≤(aJ:Int):=mD;have Ci:aJ<(l0.length:Int):=mD;obtain⟨ahH,QF,aol⟩:=Kd.zj jf.1 aJ BT Ci;cases QF
        replace BT:=eq_true BT;replace Ci:=eq_true Ci;have BU:0≤(aJ:Int):=mD;have Cj:aJ<(l1.length:Int):=mD;obtain⟨ahI,QG,aom⟩:=Kd.zj jE.1 aJ BU Cj;cases QG
        replace BU:=eq_true BU;replace Cj:=eq_true Cj;go_wp2
        repeat (go_quiet (fail);try go_wp2)
        go_roundg k1
        case measure=>have:=bA.1;omega
        case rel=>exact⟨(wrap64 (aJ+1)),mE,H',⟨by have:=bA.1;omega⟩,by repeat (first|exact bC.refl _|apply bC.step)⟩
       ·rw[if_neg c7]at H;have zq:((rd l0 aJ) == (rd l1 aJ))=false:=beq_eq_false_iff_ne.mpr c7;have Qp:((rd l0 aJ) != (rd l1 aJ))=true:=bne_iff_ne.mpr c7;obtain rfl:=Option.some.inj H;have BT:0≤(aJ:Int):=mD;have Ci:aJ<(l0.length:Int):=mD;obtain⟨ahH,QF,aol⟩:=Kd.zj jf.1 aJ BT Ci;cases QF
        replace BT:=eq_true BT;replace Ci:=eq_true Ci;have BU:0≤(aJ:Int):=mD;have Cj:aJ<(l1.length:Int):=mD;obtain⟨ahI,QG,aom⟩:=Kd.zj jE.1 aJ BU Cj;cases QG
        replace BU:=eq_true BU;replace Cj:=eq_true Cj;go_wp2
        repeat (go_quiet (fail);try go_wp2)
        go_ret;exact⟨mE,by repeat (first|exact bC.refl _|apply bC.step)⟩
      ·rw[if_neg c6]at H;exact absurd H (by simp)
     ·rw[if_neg c5]at H;exact absurd H (by simp)
    ·rw[if_neg c4]at H;have lG:=decide_eq_false c4;clear c4;obtain rfl:=Option.some.inj H;go_wp2
     repeat (go_quiet (fail);try go_wp2)
     go_ret;exact⟨mE,by repeat (first|exact bC.refl _|apply bC.step)⟩
 ·rw[if_neg c3]at H;have l9:((l0.length:Int) == (l1.length:Int))=false:=beq_eq_false_iff_ne.mpr c3;have YH:((l0.length:Int) != (l1.length:Int))=true:=bne_iff_ne.mpr c3;have YI:(l0.length == l1.length)=false:=by first|simpa using c3|(simp at c3 ⊢;omega)
  obtain rfl:=Option.some.inj H;go_enter Try.func41,Try.ntmps41;go_wp2
  repeat (go_quiet (fail);try go_wp2)
  go_ret;exact⟨mE,by repeat (first|exact bC.refl _|apply bC.step)⟩
end Go.Proofs.Ytgpkdbnikcghgaa.MD
