-- Written by mp.py, our own printer (wip/mp.py), and made shorter by wip/mp_shrink*.py.
import Derived.Test.YtgpkdbnikcghgaaVAll
import Derived.Test.YtgpkdbnikcghgaaMDx0
namespace Go.Proofs.Ytgpkdbnikcghgaa.MD
open Go.RowKit Go.Proofs.YtgpkdbnikcghgaaW.PrintWords Go.Proofs.YtgpkdbnikcghgaaW.PrintLast Go.Proofs.YtgpkdbnikcghgaaW.PrintMore Go.Proofs.Ytgpkdbnikcghgaa.MWords
attribute [local go_sem] max2_int min2_int max_two min_two max_three min_three max_four min_four
set_option linter.unusedVariables false
set_option linter.unusedSimpArgs false
def Mf.f (l0:List Int):Option (Bool):=some (decide ((l0.length:Int)>1048576))
set_option maxHeartbeats 8000000 in
set_option maxRecDepth 100000 in
theorem Mf.calls (A0:Option Addr) (c0:Nat) (l0:List Int) (r:Bool) (w:World) (fu:Kd.C (Kd.int .u8) w A0 l0.length l0) (gE:l0.length≤c0) (h:Mf.f l0=some r) :
 Calls Try.prog 32 #[.slice A0 l0.length c0] w fun e w'=>e = .returned (.bool r)∧bG w w':=by
 have jf:=J fu;have vr:=J gE;clear fu gE;have H:(some (decide ((l0.length:Int)>1048576)))=some r:=h;clear h;obtain rfl:=Option.some.inj H;go_enter Try.func32,Try.ntmps32;go_wp2;go_ret;exact⟨mE,by repeat (first|exact bG.refl _|apply bG.step)⟩
def aAV.f (l0:List Int) (a1:Int):Option (Int):=if a1<(l0.length:Int) then (if 0≤a1 then (some (wrap64 (rd l0 a1))) else (none)) else (some (Int.tmod (wrap64 ((wrap64 (a1*31))+(wrap64 ((l0.length:Int)*7)))) 256))
def qp.l0:Nat→List Int→List Int→Int→Option (Bool)
 |0,_,_,_=>none
 |k+1,x0,x1,x5=>if x5<(x0.length:Int) then (if 0≤x5 then (if x5<(x1.length:Int) then (if (rd x0 x5)=(rd x1 x5) then (qp.l0 k x0 x1 (wrap64 (x5+1))) else (some false)) else (none)) else (none)) else (some true)
def qp.f (k:Nat) (l0:List Int) (l1:List Int):Option (Bool):=if (l0.length:Int)=(l1.length:Int) then (qp.l0 k l0 l1 0) else (some false)
set_option maxHeartbeats 8000000 in
set_option maxRecDepth 100000 in
theorem qp.calls (k:Nat) (A0:Option Addr) (c0:Nat) (l0:List Int) (A1:Option Addr) (c1:Nat) (l1:List Int) (r:Bool) (w:World) (fu:Kd.C (Kd.int .u8) w A0 l0.length l0) (gE:l0.length≤c0) (jX:Kd.C (Kd.int .u8) w A1 l1.length l1) (nB:l1.length≤c1) (h:qp.f k l0 l1=some r) :
 Calls Try.prog 41 #[.slice A0 l0.length c0,.slice A1 l1.length c1] w fun e w'=>e = .returned (.bool r)∧bG w w':=by
 have jf:=J fu;have vr:=J gE;clear fu gE;have jw:=J jX;have Ae:=J nB;clear jX nB;have H:(if (l0.length:Int)=(l1.length:Int) then (qp.l0 k l0 l1 0) else (some false))=some r:=h;clear h;by_cases c3:(l0.length:Int)=(l1.length:Int)
 ·rw[if_pos c3]at H;have lS:((l0.length:Int) == (l1.length:Int))=true:=beq_iff_eq.mpr c3;have XS:((l0.length:Int) != (l1.length:Int))=false:=bne_eq_false_iff_eq.mpr c3;have XT:(l0.length == l1.length)=true:=by first|simpa using c3|(simp at c3 ⊢;omega)
  clear c3;have H':=J H;clear H;go_enter Try.func41,Try.ntmps41;go_wp2
  repeat (go_quiet (fail);try go_wp2)
  go_loopg [5] k (fun kq v5 w'=>∃(aE:Int),v5 = .int .i64 aE∧Aside0 (qp.l0 kq l0 l1 aE=some r)∧Aside0 (kq≤k)∧bG w w')
  case atStart=>exact⟨(0),mE,H',⟨Nat.le_refl _⟩,by repeat (first|exact bG.refl _|apply bG.step)⟩
  case round=>
   clear H'
   try clear c1
   try clear c3
   try clear lS
   try clear XS
   try clear XT
   obtain⟨aE,rfl,HA,br,⟨m1,rfl⟩⟩:=hrel;cases gk with
   |zero=>exact absurd HA.1 (by simp[qp.l0])
   |succ k1=>
    have H:=HA.1;clear HA;simp only[qp.l0]at H;by_cases c4:aE<(l0.length:Int)
    ·rw[if_pos c4]at H;have lv:=decide_eq_true c4;clear c4;by_cases c5:0≤aE
     ·rw[if_pos c5]at H;have kA:=decide_eq_true c5;clear c5;by_cases c6:aE<(l1.length:Int)
      ·rw[if_pos c6]at H;have jT:=decide_eq_true c6;clear c6;by_cases c7:(rd l0 aE)=(rd l1 aE)
       ·rw[if_pos c7]at H;have yX:((rd l0 aE) == (rd l1 aE))=true:=beq_iff_eq.mpr c7;have PS:((rd l0 aE) != (rd l1 aE))=false:=bne_eq_false_iff_eq.mpr c7;clear c7;have H':=J H;clear H;have Bo:0≤(aE:Int):=mD;have BF:aE<(l0.length:Int):=mD;obtain⟨agZ,Qc,anM⟩:=Kd.Az jf.1 aE Bo BF;cases Qc
        replace Bo:=eq_true Bo;replace BF:=eq_true BF;have Bp:0≤(aE:Int):=mD;have BG:aE<(l1.length:Int):=mD;obtain⟨ag0,Qd,anN⟩:=Kd.Az jw.1 aE Bp BG;cases Qd
        replace Bp:=eq_true Bp;replace BG:=eq_true BG;go_wp2
        repeat (go_quiet (fail);try go_wp2)
        go_roundg k1
        case measure=>have:=br.1;omega
        case rel=>exact⟨(wrap64 (aE+1)),mE,H',⟨by have:=br.1;omega⟩,by repeat (first|exact bG.refl _|apply bG.step)⟩
       ·rw[if_neg c7]at H;have yX:((rd l0 aE) == (rd l1 aE))=false:=beq_eq_false_iff_ne.mpr c7;have PS:((rd l0 aE) != (rd l1 aE))=true:=bne_iff_ne.mpr c7;obtain rfl:=Option.some.inj H;have Bo:0≤(aE:Int):=mD;have BF:aE<(l0.length:Int):=mD;obtain⟨agZ,Qc,anM⟩:=Kd.Az jf.1 aE Bo BF;cases Qc
        replace Bo:=eq_true Bo;replace BF:=eq_true BF;have Bp:0≤(aE:Int):=mD;have BG:aE<(l1.length:Int):=mD;obtain⟨ag0,Qd,anN⟩:=Kd.Az jw.1 aE Bp BG;cases Qd
        replace Bp:=eq_true Bp;replace BG:=eq_true BG;go_wp2
        repeat (go_quiet (fail);try go_wp2)
        go_ret;exact⟨mE,by repeat (first|exact bG.refl _|apply bG.step)⟩
      ·rw[if_neg c6]at H;exact absurd H (by simp)
     ·rw[if_neg c5]at H;exact absurd H (by simp)
    ·rw[if_neg c4]at H;have lv:=decide_eq_false c4;clear c4;obtain rfl:=Option.some.inj H;go_wp2
     repeat (go_quiet (fail);try go_wp2)
     go_ret;exact⟨mE,by repeat (first|exact bG.refl _|apply bG.step)⟩
 ·rw[if_neg c3]at H;have lS:((l0.length:Int) == (l1.length:Int))=false:=beq_eq_false_iff_ne.mpr c3;have XS:((l0.length:Int) != (l1.length:Int))=true:=bne_iff_ne.mpr c3;have XT:(l0.length == l1.length)=false:=by first|simpa using c3|(simp at c3 ⊢;omega)
  obtain rfl:=Option.some.inj H;go_enter Try.func41,Try.ntmps41;go_wp2
  repeat (go_quiet (fail);try go_wp2)
  go_ret;exact⟨mE,by repeat (first|exact bG.refl _|apply bG.step)⟩
end Go.Proofs.Ytgpkdbnikcghgaa.MD
