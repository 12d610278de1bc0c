-- Written by mp.py, our own printer (wip/mp.py), and made shorter by wip/mp_shrink*.py.
import Derived.Test.YtgpkdbnikcghgaaVMShort
import Derived.Test.YtgpkdbnikcghgaaMDx0
import Derived.Test.YtgpkdbnikcghgaaMDx7
namespace Go.Proofs.Ytgpkdbnikcghgaa.MD
open Go.RowKit Go.Proofs.YtgpkdbnikcghgaaW.PrintWords Go.Proofs.YtgpkdbnikcghgaaW.PrintLast Go.Proofs.YtgpkdbnikcghgaaW.PrintMore Go.Proofs.Ytgpkdbnikcghgaa.MWords
attribute [local go_sem] max2_int min2_int max_two min_two max_three min_three max_four min_four
set_option linter.unusedVariables false
set_option linter.unusedSimpArgs false
def spec_l2At.l0:Nat→List (S63)→ByteArray→Int→Option (Int)
 |0,_,_,_=>none
 |k+1,x0,x1,x5=>if x5<(x0.length:Int) then (if 0≤x5 then (if ((rd_T63 x0 x5).f0).toList=x1.toList then (some x5) else (spec_l2At.l0 k x0 x1 (wrap64 (x5+1)))) else (none)) else (some (-1))
def spec_l2At.f (k:Nat) (l0:List (S63)) (a1:ByteArray):Option (Int):=spec_l2At.l0 k l0 a1 0
set_option maxHeartbeats 8000000 in
set_option maxRecDepth 100000 in
theorem spec_l2At.calls (k:Nat) (A0:Option Addr) (c0:Nat) (l0:List (S63)) (a1:ByteArray) (r:Int) (w:World) (hr0:Kd.C k63 w A0 l0.length l0) (hc0:l0.length≤c0) (h:spec_l2At.f k l0 a1=some r) :
 Calls Try.prog 49 #[.slice A0 l0.length c0,.string a1] w fun e w'=>e = .returned (.int .i64 r)∧Drawn0 w w':=by
 have HR0:=mS hr0;have HC0:=mS hc0;clear hr0 hc0;have H:(spec_l2At.l0 k l0 a1 0)=some r:=h;clear h;have H':=mS H;clear H;go_enter Try.func49,Try.ntmps49;go_wp2;go_loopg [5] k (fun kq v5 w'=>∃(x5_1:Int),v5 = .int .i64 x5_1∧Aside0 (spec_l2At.l0 kq l0 a1 x5_1=some r)∧Aside0 (kq≤k)∧Drawn0 w w')
 case atStart=>exact⟨(0),mE,H',⟨Nat.le_refl _⟩,by repeat (first|exact Drawn0.refl _|apply Drawn0.step)⟩
 case round=>
  clear H'
  try clear p2
  obtain⟨x5_1,rfl,HA,HK1,⟨m1,rfl⟩⟩:=hrel;cases gk with
  |zero=>exact absurd HA.out (by simp[spec_l2At.l0])
  |succ k1=>
   have H:=HA.out;clear HA;simp only[spec_l2At.l0]at H;by_cases c3:x5_1<(l0.length:Int)
   ·rw[if_pos c3]at H;have c3b0:=decide_eq_true c3;clear c3;by_cases c4:0≤x5_1
    ·rw[if_pos c4]at H;have c4b0:=decide_eq_true c4;clear c4;by_cases c5:((rd_T63 l0 x5_1).f0).toList=a1.toList
     ·rw[if_pos c5]at H;have c5b0:(((rd_T63 l0 x5_1).f0).toList == a1.toList)=true:=beq_iff_eq.mpr c5;have c5b1:(((rd_T63 l0 x5_1).f0).toList != a1.toList)=false:=bne_eq_false_iff_eq.mpr c5;clear c5;obtain rfl:=Option.some.inj H;have p466:0≤(x5_1:Int):=mD;have q466:x5_1<(l0.length:Int):=mD;obtain⟨ad466,e466,hx466_0,hx466_1⟩:=at_T63 HR0.out x5_1 p466 q466;cases e466
      replace p466:=eq_true p466;replace q466:=eq_true q466;go_wp2;go_ret;exact⟨mE,by repeat (first|exact Drawn0.refl _|apply Drawn0.step)⟩
     ·rw[if_neg c5]at H;have c5b0:(((rd_T63 l0 x5_1).f0).toList == a1.toList)=false:=beq_eq_false_iff_ne.mpr c5;have c5b1:(((rd_T63 l0 x5_1).f0).toList != a1.toList)=true:=bne_iff_ne.mpr c5;have H':=mS H;clear H;have p466:0≤(x5_1:Int):=mD;have q466:x5_1<(l0.length:Int):=mD;obtain⟨ad466,e466,hx466_0,hx466_1⟩:=at_T63 HR0.out x5_1 p466 q466;cases e466
      replace p466:=eq_true p466;replace q466:=eq_true q466;go_wp2;go_roundg k1
      case measure=>have:=HK1.out;omega
      case rel=>exact⟨(wrap64 (x5_1+1)),mE,H',⟨by have:=HK1.out;omega⟩,by repeat (first|exact Drawn0.refl _|apply Drawn0.step)⟩
    ·rw[if_neg c4]at H;exact absurd H (by simp)
   ·rw[if_neg c3]at H;have c3b0:=decide_eq_false c3;clear c3;obtain rfl:=Option.some.inj H;go_wp2;go_ret;exact⟨mE,by repeat (first|exact Drawn0.refl _|apply Drawn0.step)⟩
def spec_l2Call.j0:Nat→ByteArray→Bool→List (S80)→List (S63)→List (S63)→Int→Option (Int)
 |0,_,_,_,_,_,_=>none
 |k+1,x1,x5,x468000,x468001,x468002,x468003=>if x5=true then (some 1) else ((spec_l2At.f k x468001 x1).bind fun t470=>(if t470<0 then (some 2) else (some 0)))
def spec_l2Call.f (k:Nat) (l0_0:List (S80)) (l0_1:List (S63)) (l0_2:List (S63)) (a0_3:Int) (a1:ByteArray):Option (Int):=(spec_DiskOk.f k l0_0 l0_1 l0_2 a0_3).bind fun t468=>(if t468=true then ((spec_l2Name.f k a1).bind fun t469=>(spec_l2Call.j0 k a1 (!t469) l0_0 l0_1 l0_2 a0_3)) else (spec_l2Call.j0 k a1 true l0_0 l0_1 l0_2 a0_3))
set_option maxHeartbeats 8000000 in
set_option maxRecDepth 100000 in
theorem spec_l2Call.calls (k:Nat) (A0_0:Option Addr) (c0_0:Nat) (l0_0:List (S80)) (A0_1:Option Addr) (c0_1:Nat) (l0_1:List (S63)) (A0_2:Option Addr) (c0_2:Nat) (l0_2:List (S63)) (a0_3:Int) (a1:ByteArray) (r:Int) (w:World) (hr0_0:Kd.C k80 w A0_0 l0_0.length l0_0) (hc0_0:l0_0.length≤c0_0) (hr0_1:Kd.C k63 w A0_1 l0_1.length l0_1) (hc0_1:l0_1.length≤c0_1) (hr0_2:Kd.C k63 w A0_2 l0_2.length l0_2) (hc0_2:l0_2.length≤c0_2) (h:spec_l2Call.f k l0_0 l0_1 l0_2 a0_3 a1=some r) :
 Calls Try.prog 47 #[.agg #[.slice A0_0 l0_0.length c0_0,.slice A0_1 l0_1.length c0_1,.slice A0_2 l0_2.length c0_2,.int .i64 a0_3],.string a1] w fun e w'=>e = .returned (.int .i64 r)∧Below w.heap.size w w':=by
 have hu30:=Try.underlying30;have HR0_0:=mS hr0_0;have HC0_0:=mS hc0_0;clear hr0_0 hc0_0;have HR0_1:=mS hr0_1;have HC0_1:=mS hc0_1;clear hr0_1 hc0_1;have HR0_2:=mS hr0_2;have HC0_2:=mS hc0_2;clear hr0_2 hc0_2;have HB:=mS (Below.refl w.heap.size w);have H:((spec_DiskOk.f k l0_0 l0_1 l0_2 a0_3).bind fun t468=>(if t468=true then ((spec_l2Name.f k a1).bind fun t469=>(spec_l2Call.j0 k a1 (!t469) l0_0 l0_1 l0_2 a0_3)) else (spec_l2Call.j0 k a1 true l0_0 l0_1 l0_2 a0_3)))=some r:=h;clear h;have HC3:=mS H;clear H;go_enter Try.func47,Try.ntmps47;go_upto_region 1 with (first|((with_reducible refine gate_dst (N:=2) rfl ?_);refine mBx 2 #[.slice A0_0 l0_0.length c0_0,.slice A0_1 l0_1.length c0_1,.slice A0_2 l0_2.length c0_2,.int .i64 a0_3] 30 ?_;intro gb467 hg w4 hbox hb;have BK467:=mS (hbox);have GW467:=mG hg (mH HB.out);have GE467:=mG hg (mH HB.out);replace HB:=mS (below_step (mH HB.out) hb);clear hb hbox hg))
 (try simp only[Act.put,zA,zB,zC])
 go_cut [5] (fun v5 wc=>∃(kq:Nat) (x5_2:Bool),v5 = .bool x5_2∧Aside0 (spec_l2Call.j0 kq a1 x5_2 l0_0 l0_1 l0_2 a0_3=some r)∧Aside0 (kq≤k)∧Aside0 (wc.heap[gb467]? = some (.cells #[(.slice A0_0 l0_0.length c0_0),(.slice A0_1 l0_1.length c0_1),(.slice A0_2 l0_2.length c0_2),.int .i64 a0_3] 30 (0,0)))∧Aside0 (Below w.heap.size w wc))
 case first=>
  have H:=HC3.out;clear HC3;replace H:=Option.bind_eq_some_iff.mp H;obtain⟨t468,A50,H⟩:=H;replace H:(if t468=true then ((spec_l2Name.f k a1).bind fun t469=>(spec_l2Call.j0 k a1 (!t469) l0_0 l0_1 l0_2 a0_3)) else (spec_l2Call.j0 k a1 true l0_0 l0_1 l0_2 a0_3))=some r:=H;have A5:=mS A50;clear A50;by_cases c6:t468=true
  ·subst c6;have H1:=H;rw[if_pos rfl]at H1;clear H;have H:=H1;clear H1;replace H:=Option.bind_eq_some_iff.mp H;obtain⟨t469,A70,H⟩:=H;replace H:(spec_l2Call.j0 k a1 (!t469) l0_0 l0_1 l0_2 a0_3)=some r:=H;have A7:=mS A70;clear A70;have H':=mS H;clear H;obtain⟨hcz8_0,hcz8_1,hcz8_2,hcz8_3,hfz8_0,hfz8_1,hfz8_2,hfz8_3⟩:=mZ4 BK467.out;go_wp2_with (first|((with_reducible refine gate_callee (f:=66) rfl ?_);refine mGo 7 Try.func66 #[.agg #[.slice A0_0 l0_0.length c0_0,.slice A0_1 l0_1.length c0_1,.slice A0_2 l0_2.length c0_2,.int .i64 a0_3]] ?_;(with_reducible refine(spec_DiskOk.calls k _ _ l0_0 _ _ l0_1 _ _ l0_2 a0_3 true _ ?side1 ?side2 ?side3 ?side4 ?side5 ?side6 A5.out).mono ?_);(case side1=>exact mC (Kd.C_below HR0_0.out HB.out));(case side2=>exact HC0_0.out);(case side3=>exact mC (Kd.C_below HR0_1.out HB.out));(case side4=>exact HC0_1.out);(case side5=>exact mC (Kd.C_below HR0_2.out HB.out));(case side6=>exact HC0_2.out);rintro e w9 ⟨rfl,hb⟩;refine⟨_,rfl,?_⟩;replace BK467:=mB BK467 hb;replace HB:=mS (below_step (mH1 HB.out GE467.out) hb);(try clear hb))|(go_at_call 48;(with_reducible refine(spec_l2Name.calls k a1 t469 _ A7.out).mono ?_);rintro e w' ⟨rfl,⟨nd,rfl⟩⟩));go_meet
   case rel=>exact⟨_,(!t469),mE,H',⟨by first|omega|exact Nat.le_refl _⟩,⟨mK BK467.out⟩,⟨(mH1 HB.out GE467.out)⟩⟩
  ·replace c6:=Bool.eq_false_iff.mpr c6;subst c6;have H1:=H;rw[if_neg (show ¬(false=true) by decide)]at H1;clear H;have H:=H1;clear H1;have H':=mS H;clear H;obtain⟨hcz10_0,hcz10_1,hcz10_2,hcz10_3,hfz10_0,hfz10_1,hfz10_2,hfz10_3⟩:=mZ4 BK467.out;go_wp2_with (first|((with_reducible refine gate_callee (f:=66) rfl ?_);refine mGo 7 Try.func66 #[.agg #[.slice A0_0 l0_0.length c0_0,.slice A0_1 l0_1.length c0_1,.slice A0_2 l0_2.length c0_2,.int .i64 a0_3]] ?_;(with_reducible refine(spec_DiskOk.calls k _ _ l0_0 _ _ l0_1 _ _ l0_2 a0_3 false _ ?side1 ?side2 ?side3 ?side4 ?side5 ?side6 A5.out).mono ?_);(case side1=>exact mC (Kd.C_below HR0_0.out HB.out));(case side2=>exact HC0_0.out);(case side3=>exact mC (Kd.C_below HR0_1.out HB.out));(case side4=>exact HC0_1.out);(case side5=>exact mC (Kd.C_below HR0_2.out HB.out));(case side6=>exact HC0_2.out);rintro e w11 ⟨rfl,hb⟩;refine⟨_,rfl,?_⟩;replace BK467:=mB BK467 hb;replace HB:=mS (below_step (mH1 HB.out GE467.out) hb);(try clear hb)));go_meet
   case rel=>exact⟨_,(true),mE,H',⟨by first|omega|exact Nat.le_refl _⟩,⟨mK BK467.out⟩,⟨(mH1 HB.out GE467.out)⟩⟩
 case rest=>
  clear HC3
  try clear p2
  try clear c4
  try clear c6
  try clear hcz10_0
  try clear hcz10_1
  try clear hcz10_2
  try clear hcz10_3
  try clear hcz8_0
  try clear hcz8_1
  try clear hcz8_2
  try clear hcz8_3
  try clear hfz10_0
  try clear hfz10_1
  try clear hfz10_2
  try clear hfz10_3
  try clear hfz8_0
  try clear hfz8_1
  try clear hfz8_2
  try clear hfz8_3
  obtain⟨kq,x5_2,rfl,HA,HJ2,BK467,HB⟩:=hcut;cases kq with
  |zero=>exact absurd HA.out (by simp[spec_l2Call.j0])
  |succ kj2=>
   have H:=HA.out;clear HA;simp only[spec_l2Call.j0]at H;by_cases c12:x5_2=true
   ·subst c12;have H1:=H;rw[if_pos rfl]at H1;clear H;have H:=H1;clear H1;obtain rfl:=Option.some.inj H;go_wp2;go_ret;exact⟨mEw,(mH1 HB.out GE467.out)⟩
   ·replace c12:=Bool.eq_false_iff.mpr c12;subst c12;have H1:=H;rw[if_neg (show ¬(false=true) by decide)]at H1;clear H;have H:=H1;clear H1;replace H:=Option.bind_eq_some_iff.mp H;obtain⟨t470,A130,H⟩:=H;replace H:(if t470<0 then (some 2) else (some 0))=some r:=H;have A13:=mS A130;clear A130;by_cases c14:t470<0
    ·rw[if_pos c14]at H;have c14b0:=decide_eq_true c14;clear c14;obtain rfl:=Option.some.inj H;obtain⟨hcz15_0,hcz15_1,hcz15_2,hcz15_3,hfz15_0,hfz15_1,hfz15_2,hfz15_3⟩:=mZ4 BK467.out;go_wp2_with (first|((with_reducible refine gate_callee (f:=49) rfl ?_);refine mGo 18 Try.func49 #[.slice A0_1 l0_1.length c0_1,.string a1] ?_;(with_reducible refine(spec_l2At.calls kj2 _ _ l0_1 a1 t470 _ ?side1 ?side2 A13.out).mono ?_);(case side1=>exact mC (Kd.C_below HR0_1.out HB.out));(case side2=>exact HC0_1.out);rintro e w' ⟨rfl,⟨nd,rfl⟩⟩;refine⟨_,rfl,?_⟩));go_ret;exact⟨mEw,(mH1 HB.out GE467.out)⟩
    ·rw[if_neg c14]at H;have c14b0:=decide_eq_false c14;clear c14;obtain rfl:=Option.some.inj H;obtain⟨hcz16_0,hcz16_1,hcz16_2,hcz16_3,hfz16_0,hfz16_1,hfz16_2,hfz16_3⟩:=mZ4 BK467.out;go_wp2_with (first|((with_reducible refine gate_callee (f:=49) rfl ?_);refine mGo 18 Try.func49 #[.slice A0_1 l0_1.length c0_1,.string a1] ?_;(with_reducible refine(spec_l2At.calls kj2 _ _ l0_1 a1 t470 _ ?side1 ?side2 A13.out).mono ?_);(case side1=>exact mC (Kd.C_below HR0_1.out HB.out));(case side2=>exact HC0_1.out);rintro e w' ⟨rfl,⟨nd,rfl⟩⟩;refine⟨_,rfl,?_⟩));go_ret;exact⟨mEw,(mH1 HB.out GE467.out)⟩
end Go.Proofs.Ytgpkdbnikcghgaa.MD
