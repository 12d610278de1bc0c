-- Written by mp.py, our own printer (wip/mp.py), and made shorter by wip/mp_shrink*.py.
import Derived.Test.YtgpkdbnikcghgaaVMShort
import Derived.Test.YtgpkdbnikcghgaaMDx0
namespace Go.Proofs.Ytgpkdbnikcghgaa.MD
open Go.RowKit Go.Proofs.YtgpkdbnikcghgaaW.PrintWords Go.Proofs.YtgpkdbnikcghgaaW.PrintLast Go.Proofs.YtgpkdbnikcghgaaW.PrintMore Go.Proofs.Ytgpkdbnikcghgaa.MWords
attribute [local go_sem] max2_int min2_int max_two min_two max_three min_three max_four min_four
set_option linter.unusedVariables false
set_option linter.unusedSimpArgs false
def impl_hasId.l0:Nat→Int→List (S63)→Int→Int→Option (Bool)
 |0,_,_,_,_=>none
 |k+1,x1,x7,x8,x9=>if x9<x8 then (if 0≤x9 then (if x9<(x7.length:Int) then (if ((rd_T63 x7 x9).f1)=x1 then (some true) else (impl_hasId.l0 k x1 x7 x8 (wrap64 (x9+1)))) else (none)) else (none)) else (some false)
def impl_hasId.f (k:Nat) (l0:List (S63)) (a1:Int):Option (Bool):=impl_hasId.l0 k a1 l0 (l0.length:Int) 0
set_option maxHeartbeats 8000000 in
set_option maxRecDepth 100000 in
theorem impl_hasId.calls (k:Nat) (A0:Option Addr) (c0:Nat) (l0:List (S63)) (a1:Int) (r:Bool) (w:World) (hr0:Kd.C k63 w A0 l0.length l0) (hc0:l0.length≤c0) (h:impl_hasId.f k l0 a1=some r) :
 Calls Try.prog 81 #[.slice A0 l0.length c0,.int .i64 a1] w fun e w'=>e = .returned (.bool r)∧Below w.heap.size w w':=by
 have hu63:=Try.underlying63;have HR0:=mS hr0;have HC0:=mS hc0;clear hr0 hc0;have HB:=mS (Below.refl w.heap.size w);have H:(impl_hasId.l0 k a1 l0 (l0.length:Int) 0)=some r:=h;clear h;have H':=mS H;clear H;go_enter Try.func81,Try.ntmps81;go_wp2;go_loopg [9] k (fun kq v9 w'=>∃(x9_1:Int),v9 = .int .i64 x9_1∧Aside0 (impl_hasId.l0 kq a1 l0 (l0.length:Int) x9_1=some r)∧Aside0 (kq≤k)∧Aside0 (Below w.heap.size w w'))
 case atStart=>exact⟨(0),mE,H',⟨Nat.le_refl _⟩,⟨(mH HB.out)⟩⟩
 case round=>
  clear H'
  try clear p2
  obtain⟨x9_1,rfl,HA,HK1,HB⟩:=hrel;cases gk with
  |zero=>exact absurd HA.out (by simp[impl_hasId.l0])
  |succ k1=>
   have H:=HA.out;clear HA;simp only[impl_hasId.l0]at H;by_cases c3:x9_1<(l0.length:Int)
   ·rw[if_pos c3]at H;have c3b0:=decide_eq_true c3;clear c3;by_cases c4:0≤x9_1
    ·rw[if_pos c4]at H;have c4b0:=decide_eq_true c4;clear c4;by_cases c5:x9_1<(l0.length:Int)
     ·rw[if_pos c5]at H;have c5b0:=decide_eq_true c5;clear c5;by_cases c6:((rd_T63 l0 x9_1).f1)=a1
      ·rw[if_pos c6]at H;have c6b0:(((rd_T63 l0 x9_1).f1) == a1)=true:=beq_iff_eq.mpr c6;have c6b1:(((rd_T63 l0 x9_1).f1) != a1)=false:=bne_eq_false_iff_eq.mpr c6;clear c6;obtain rfl:=Option.some.inj H;have p315:0≤(x9_1:Int):=mD;have q315:x9_1<(l0.length:Int):=mD;obtain⟨ad315,e315,hx315_0,hx315_1⟩:=at_T63 HR0.out x9_1 p315 q315;cases e315
       replace hx315_0:=mX HB.out hx315_0;replace hx315_1:=mX HB.out hx315_1;replace p315:=eq_true p315;replace q315:=eq_true q315;go_wp2_with (first|((with_reducible refine gate_dst (N:=6) rfl ?_);refine mBx 6 #[.string (⟨#[]⟩:ByteArray),.int .i64 0] 63 ?_;intro gb316 hg w7 hbox hb;have BK316:=mS (hbox);have GW316:=mG hg (mH HB.out);have GE316:=mG hg (mH HB.out);replace HB:=mS (below_step (mH HB.out) hb);clear hb hbox hg;obtain⟨hcz8_0,hcz8_1,hfz8_0,hfz8_1⟩:=mZ2 BK316.out));go_ret;exact⟨mEw,(mH1 HB.out GE316.out)⟩
      ·rw[if_neg c6]at H;have c6b0:(((rd_T63 l0 x9_1).f1) == a1)=false:=beq_eq_false_iff_ne.mpr c6;have c6b1:(((rd_T63 l0 x9_1).f1) != a1)=true:=bne_iff_ne.mpr c6;have H':=mS H;clear H;have p315:0≤(x9_1:Int):=mD;have q315:x9_1<(l0.length:Int):=mD;obtain⟨ad315,e315,hx315_0,hx315_1⟩:=at_T63 HR0.out x9_1 p315 q315;cases e315
       replace hx315_0:=mX HB.out hx315_0;replace hx315_1:=mX HB.out hx315_1;replace p315:=eq_true p315;replace q315:=eq_true q315;go_wp2_with (first|((with_reducible refine gate_dst (N:=6) rfl ?_);refine mBx 6 #[.string (⟨#[]⟩:ByteArray),.int .i64 0] 63 ?_;intro gb316 hg w9 hbox hb;have BK316:=mS (hbox);have GW316:=mG hg (mH HB.out);have GE316:=mG hg (mH HB.out);replace HB:=mS (below_step (mH HB.out) hb);clear hb hbox hg;obtain⟨hcz10_0,hcz10_1,hfz10_0,hfz10_1⟩:=mZ2 BK316.out));go_roundg k1
       case measure=>have:=HK1.out;omega
       case rel=>exact⟨(wrap64 (x9_1+1)),mE,H',⟨by have:=HK1.out;omega⟩,⟨(mH1 HB.out GE316.out)⟩⟩
     ·rw[if_neg c5]at H;exact absurd H (by simp)
    ·rw[if_neg c4]at H;exact absurd H (by simp)
   ·rw[if_neg c3]at H;have c3b0:=decide_eq_false c3;clear c3;obtain rfl:=Option.some.inj H;go_wp2;go_ret;exact⟨mEw,(mH HB.out)⟩
def impl_in.f (a0:Int) (a1:Int) (a2:Int):Option (Bool):=if a0≥a1 then (some (decide (a0≤a2))) else (some false)
set_option maxHeartbeats 8000000 in
set_option maxRecDepth 100000 in
theorem impl_in.calls (a0:Int) (a1:Int) (a2:Int) (r:Bool) (w:World) (h:impl_in.f a0 a1 a2=some r) :
 Calls Try.prog 83 #[.int .i64 a0,.int .i64 a1,.int .i64 a2] w fun e w'=>e = .returned (.bool r)∧Drawn0 w w':=by
 have H:(if a0≥a1 then (some (decide (a0≤a2))) else (some false))=some r:=h;clear h;by_cases c4:a0≥a1
 ·rw[if_pos c4]at H;have c4b0:decide (a1≤a0)=true:=decide_eq_true c4;clear c4;obtain rfl:=Option.some.inj H;go_enter Try.func83,Try.ntmps83;go_wp2;go_ret;exact⟨mE,by repeat (first|exact Drawn0.refl _|apply Drawn0.step)⟩
 ·rw[if_neg c4]at H;have c4b0:decide (a1≤a0)=false:=decide_eq_false c4;clear c4;obtain rfl:=Option.some.inj H;go_enter Try.func83,Try.ntmps83;go_wp2;go_ret;exact⟨mE,by repeat (first|exact Drawn0.refl _|apply Drawn0.step)⟩
def impl_inodeAt.l0:Nat→Int→List (S80)→Int→Int→Option (Int)
 |0,_,_,_,_=>none
 |k+1,x1,x8,x9,x10=>if x10<x9 then (if 0≤x10 then (if x10<(x8.length:Int) then (if ((rd_T80 x8 x10).f0)=x1 then (some x10) else (impl_inodeAt.l0 k x1 x8 x9 (wrap64 (x10+1)))) else (none)) else (none)) else (some (-1))
def impl_inodeAt.f (k:Nat) (l0_0:List (S80)) (l0_1:List (S63)) (l0_2:List (S63)) (a0_3:Int) (a1:Int):Option (Int):=impl_inodeAt.l0 k a1 l0_0 (l0_0.length:Int) 0
set_option maxHeartbeats 8000000 in
set_option maxRecDepth 100000 in
theorem impl_inodeAt.calls (k:Nat) (A0_0:Option Addr) (c0_0:Nat) (l0_0:List (S80)) (A0_1:Option Addr) (c0_1:Nat) (l0_1:List (S63)) (A0_2:Option Addr) (c0_2:Nat) (l0_2:List (S63)) (a0_3:Int) (a1:Int) (r:Int) (w:World) (hr0_0:Kd.C k80 w A0_0 l0_0.length l0_0) (hc0_0:l0_0.length≤c0_0) (hr0_1:Kd.C k63 w A0_1 l0_1.length l0_1) (hc0_1:l0_1.length≤c0_1) (hr0_2:Kd.C k63 w A0_2 l0_2.length l0_2) (hc0_2:l0_2.length≤c0_2) (h:impl_inodeAt.f k l0_0 l0_1 l0_2 a0_3 a1=some r) :
 Calls Try.prog 70 #[.agg #[.slice A0_0 l0_0.length c0_0,.slice A0_1 l0_1.length c0_1,.slice A0_2 l0_2.length c0_2,.int .i64 a0_3],.int .i64 a1] w fun e w'=>e = .returned (.int .i64 r)∧Below w.heap.size w w':=by
 have hu30:=Try.underlying30;have hu80:=Try.underlying80;have HR0_0:=mS hr0_0;have HC0_0:=mS hc0_0;clear hr0_0 hc0_0;have HR0_1:=mS hr0_1;have HC0_1:=mS hc0_1;clear hr0_1 hc0_1;have HR0_2:=mS hr0_2;have HC0_2:=mS hc0_2;clear hr0_2 hc0_2;have HB:=mS (Below.refl w.heap.size w);have H:(impl_inodeAt.l0 k a1 l0_0 (l0_0.length:Int) 0)=some r:=h;clear h;have H':=mS H;clear H;go_enter Try.func70,Try.ntmps70;go_wp2_with (first|((with_reducible refine gate_dst (N:=2) rfl ?_);refine mBx 2 #[.slice A0_0 l0_0.length c0_0,.slice A0_1 l0_1.length c0_1,.slice A0_2 l0_2.length c0_2,.int .i64 a0_3] 30 ?_;intro gb317 hg w3 hbox hb;have BK317:=mS (hbox);have GW317:=mG hg (mH HB.out);have GE317:=mG hg (mH HB.out);replace HB:=mS (below_step (mH HB.out) hb);clear hb hbox hg;obtain⟨hcz4_0,hcz4_1,hcz4_2,hcz4_3,hfz4_0,hfz4_1,hfz4_2,hfz4_3⟩:=mZ4 BK317.out));go_loopg [10] k (fun kq v10 w'=>∃(x10_1:Int),v10 = .int .i64 x10_1∧Aside0 (impl_inodeAt.l0 kq a1 l0_0 (l0_0.length:Int) x10_1=some r)∧Aside0 (kq≤k)∧Aside0 (w'.heap[gb317]? = some (.cells #[(.slice A0_0 l0_0.length c0_0),(.slice A0_1 l0_1.length c0_1),(.slice A0_2 l0_2.length c0_2),.int .i64 a0_3] 30 (0,0)))∧Aside0 (Below w.heap.size w w'))
 case atStart=>exact⟨(0),mE,H',⟨Nat.le_refl _⟩,⟨mK BK317.out⟩,⟨(mH1 HB.out GE317.out)⟩⟩
 case round=>
  clear H'
  try clear p2
  try clear hcz4_0
  try clear hcz4_1
  try clear hcz4_2
  try clear hcz4_3
  try clear hfz4_0
  try clear hfz4_1
  try clear hfz4_2
  try clear hfz4_3
  obtain⟨x10_1,rfl,HA,HK1,BK317,HB⟩:=hrel;cases gk with
  |zero=>exact absurd HA.out (by simp[impl_inodeAt.l0])
  |succ k1=>
   have H:=HA.out;clear HA;simp only[impl_inodeAt.l0]at H;by_cases c5:x10_1<(l0_0.length:Int)
   ·rw[if_pos c5]at H;have c5b0:=decide_eq_true c5;clear c5;by_cases c6:0≤x10_1
    ·rw[if_pos c6]at H;have c6b0:=decide_eq_true c6;clear c6;by_cases c7:x10_1<(l0_0.length:Int)
     ·rw[if_pos c7]at H;have c7b0:=decide_eq_true c7;clear c7;by_cases c8:((rd_T80 l0_0 x10_1).f0)=a1
      ·rw[if_pos c8]at H;have c8b0:(((rd_T80 l0_0 x10_1).f0) == a1)=true:=beq_iff_eq.mpr c8;have c8b1:(((rd_T80 l0_0 x10_1).f0) != a1)=false:=bne_eq_false_iff_eq.mpr c8;clear c8;obtain rfl:=Option.some.inj H;have p318:0≤(x10_1:Int):=mD;have q318:x10_1<(l0_0.length:Int):=mD;obtain⟨ad318,A318_1,c318_1,e318,hx318_0,hx318_1,hx318_2,hl318_1,hi318_1⟩:=at_T80 HR0_0.out x10_1 p318 q318;cases e318
       replace hx318_0:=mX HB.out hx318_0;replace hx318_1:=mX HB.out hx318_1;replace hx318_2:=mX HB.out hx318_2;have HR318_1:=mS hi318_1;have HC318_1:=mS hl318_1;clear hi318_1 hl318_1;replace p318:=eq_true p318;replace q318:=eq_true q318;go_wp2_with (first|((with_reducible refine gate_dst (N:=6) rfl ?_);refine mBx 6 #[.int .i64 0,.slice none 0 0,.int .i64 0] 80 ?_;intro gb319 hg w9 hbox hb;have BK319:=mS (hbox);have GW319:=mG hg (mH1 HB.out GE317.out);have GE319:=mG hg (mH1 HB.out GE317.out);replace HB:=mS (below_step (mH1 HB.out GE317.out) hb);have NB317_319:=mNl hg BK317.out;have NB319_317:=mNg hg BK317.out;replace BK317:=mB BK317 hb;clear hb hbox hg;have hnb10:=NB319_317.out;have hnc10:=NB317_319.out;obtain⟨hcz11_0,hcz11_1,hcz11_2,hfz11_0,hfz11_1,hfz11_2⟩:=mZ3 BK319.out));go_ret;exact⟨mEw,(mH2 HB.out GE317.out GE319.out)⟩
      ·rw[if_neg c8]at H;have c8b0:(((rd_T80 l0_0 x10_1).f0) == a1)=false:=beq_eq_false_iff_ne.mpr c8;have c8b1:(((rd_T80 l0_0 x10_1).f0) != a1)=true:=bne_iff_ne.mpr c8;have H':=mS H;clear H;have p318:0≤(x10_1:Int):=mD;have q318:x10_1<(l0_0.length:Int):=mD;obtain⟨ad318,A318_1,c318_1,e318,hx318_0,hx318_1,hx318_2,hl318_1,hi318_1⟩:=at_T80 HR0_0.out x10_1 p318 q318;cases e318
       replace hx318_0:=mX HB.out hx318_0;replace hx318_1:=mX HB.out hx318_1;replace hx318_2:=mX HB.out hx318_2;have HR318_1:=mS hi318_1;have HC318_1:=mS hl318_1;clear hi318_1 hl318_1;replace p318:=eq_true p318;replace q318:=eq_true q318;go_wp2_with (first|((with_reducible refine gate_dst (N:=6) rfl ?_);refine mBx 6 #[.int .i64 0,.slice none 0 0,.int .i64 0] 80 ?_;intro gb319 hg w12 hbox hb;have BK319:=mS (hbox);have GW319:=mG hg (mH1 HB.out GE317.out);have GE319:=mG hg (mH1 HB.out GE317.out);replace HB:=mS (below_step (mH1 HB.out GE317.out) hb);have NB317_319:=mNl hg BK317.out;have NB319_317:=mNg hg BK317.out;replace BK317:=mB BK317 hb;clear hb hbox hg;have hnb13:=NB319_317.out;have hnc13:=NB317_319.out;obtain⟨hcz14_0,hcz14_1,hcz14_2,hfz14_0,hfz14_1,hfz14_2⟩:=mZ3 BK319.out));go_roundg k1
       case measure=>have:=HK1.out;omega
       case rel=>exact⟨(wrap64 (x10_1+1)),mE,H',⟨by have:=HK1.out;omega⟩,⟨mKf NB317_319.out BK317.out⟩,⟨(mH2 HB.out GE317.out GE319.out)⟩⟩
     ·rw[if_neg c7]at H;exact absurd H (by simp)
    ·rw[if_neg c6]at H;exact absurd H (by simp)
   ·rw[if_neg c5]at H;have c5b0:=decide_eq_false c5;clear c5;obtain rfl:=Option.some.inj H;go_wp2;go_ret;exact⟨mEw,(mH1 HB.out GE317.out)⟩
mutual
def impl_nameOk.l0:Nat→ByteArray→Int→Option (Bool)
 |0,_,_=>none
 |k+1,x0,x3=>if x3<(x0.size:Int) then (if 0≤x3 then (if (bt x0 x3)≥97 then (if ((bt x0 x3)≤122) then (impl_nameOk.j1 k x0 x3 false) else (if (bt x0 x3)≥48 then (if ((bt x0 x3)≤57) then (impl_nameOk.j1 k x0 x3 false) else (if (bt x0 x3)=45 then (impl_nameOk.j1 k x0 x3 false) else (impl_nameOk.j1 k x0 x3 ((bt x0 x3) != 46)))) else (if (bt x0 x3)=45 then (impl_nameOk.j1 k x0 x3 false) else (impl_nameOk.j1 k x0 x3 ((bt x0 x3) != 46))))) else (if (bt x0 x3)≥48 then (if ((bt x0 x3)≤57) then (impl_nameOk.j1 k x0 x3 false) else (if (bt x0 x3)=45 then (impl_nameOk.j1 k x0 x3 false) else (impl_nameOk.j1 k x0 x3 ((bt x0 x3) != 46)))) else (if (bt x0 x3)=45 then (impl_nameOk.j1 k x0 x3 false) else (impl_nameOk.j1 k x0 x3 ((bt x0 x3) != 46))))) else (none)) else ((impl_in.f (x0.size:Int) 1 12).bind fun t320=>(some t320))
def impl_nameOk.j1:Nat→ByteArray→Int→Bool→Option (Bool)
 |0,_,_,_=>none
 |k+1,x0,x3,x37=>if x37=true then (some false) else (impl_nameOk.l0 k x0 (wrap64 (x3+1)))
end
def impl_nameOk.f (k:Nat) (a0:ByteArray):Option (Bool):=impl_nameOk.l0 k a0 0
set_option maxHeartbeats 8000000 in
set_option maxRecDepth 100000 in
theorem impl_nameOk.calls (k:Nat) (a0:ByteArray) (r:Bool) (w:World) (h:impl_nameOk.f k a0=some r) :
 Calls Try.prog 93 #[.string a0] w fun e w'=>e = .returned (.bool r)∧Drawn0 w w':=by
 have H:(impl_nameOk.l0 k a0 0)=some r:=h;clear h;have H':=mS H;clear H;go_enter Try.func93,Try.ntmps93;go_wp2;go_loopg [3] k (fun kq v3 w'=>∃(x3_1:Int),v3 = .int .i64 x3_1∧Aside0 (impl_nameOk.l0 kq a0 x3_1=some r)∧Aside0 (kq≤k)∧Drawn0 w w')
 case atStart=>exact⟨(0),mE,H',⟨Nat.le_refl _⟩,by repeat (first|exact Drawn0.refl _|apply Drawn0.step)⟩
 case round=>
  clear H';obtain⟨x3_1,rfl,HA,HK1,⟨m1,rfl⟩⟩:=hrel;cases gk with
  |zero=>exact absurd HA.out (by simp[impl_nameOk.l0])
  |succ k1=>
   have H:=HA.out;clear HA;simp only[impl_nameOk.l0]at H;by_cases c2:x3_1<(a0.size:Int)
   ·rw[if_pos c2]at H;have c2b0:=decide_eq_true c2;clear c2;by_cases c3:0≤x3_1
    ·rw[if_pos c3]at H;have c3b0:=decide_eq_true c3;clear c3;have HC5:=mS H;clear H;have p4:0≤(x3_1:Int):=mD;have q4:x3_1<(a0.size:Int):=mD;have hx4:=bt_at a0 x3_1;replace p4:=eq_true p4;replace q4:=eq_true q4;go_upto_region 5 with (fail)
     go_cut [37] (fun v37 wc=>∃(kq:Nat) (x37_4:Bool),v37 = .bool x37_4∧Aside0 (impl_nameOk.j1 kq a0 x3_1 x37_4=some r)∧Aside0 (kq≤k1)∧Drawn0 w wc)
     case first=>
      have H:=HC5.out;clear HC5;by_cases c6:(bt a0 x3_1)≥97
      ·rw[if_pos c6]at H;have c6b0:decide (97≤(bt a0 x3_1))=true:=decide_eq_true c6;clear c6
       (first|rw[c6b0]|(simp only[i64_w,i32_w];rw[c6b0])|skip)
       by_cases c7:((bt a0 x3_1)≤122)
       ·rw[if_pos c7]at H;have c7b0:decide ((bt a0 x3_1)≤122)=true:=decide_eq_true c7;clear c7;have H':=mS H;clear H;go_wp2;go_meet
        case rel=>exact⟨_,(false),mE,H',⟨by have:=HK1.out;first|omega|exact Nat.le_refl _⟩,by repeat (first|exact Drawn0.refl _|apply Drawn0.step)⟩
       ·rw[if_neg c7]at H;have c7b0:decide ((bt a0 x3_1)≤122)=false:=decide_eq_false c7;clear c7;by_cases c8:(bt a0 x3_1)≥48
        ·rw[if_pos c8]at H;have c8b0:decide (48≤(bt a0 x3_1))=true:=decide_eq_true c8;clear c8;by_cases c9:((bt a0 x3_1)≤57)
         ·rw[if_pos c9]at H;have c9b0:decide ((bt a0 x3_1)≤57)=true:=decide_eq_true c9;clear c9;have H':=mS H;clear H;go_wp2;go_meet
          case rel=>exact⟨_,(false),mE,H',⟨by have:=HK1.out;first|omega|exact Nat.le_refl _⟩,by repeat (first|exact Drawn0.refl _|apply Drawn0.step)⟩
         ·rw[if_neg c9]at H;have c9b0:decide ((bt a0 x3_1)≤57)=false:=decide_eq_false c9;clear c9;by_cases c10:(bt a0 x3_1)=45
          ·rw[if_pos c10]at H;have c10b0:((bt a0 x3_1) == 45)=true:=beq_iff_eq.mpr c10;have c10b1:((bt a0 x3_1) != 45)=false:=bne_eq_false_iff_eq.mpr c10;clear c10;have H':=mS H;clear H;go_wp2;go_meet
           case rel=>exact⟨_,(false),mE,H',⟨by have:=HK1.out;first|omega|exact Nat.le_refl _⟩,by repeat (first|exact Drawn0.refl _|apply Drawn0.step)⟩
          ·rw[if_neg c10]at H;have c10b0:((bt a0 x3_1) == 45)=false:=beq_eq_false_iff_ne.mpr c10;have c10b1:((bt a0 x3_1) != 45)=true:=bne_iff_ne.mpr c10;have H':=mS H;clear H;go_wp2;go_meet
           case rel=>exact⟨_,(((bt a0 x3_1) != 46)),mE,H',⟨by have:=HK1.out;first|omega|exact Nat.le_refl _⟩,by repeat (first|exact Drawn0.refl _|apply Drawn0.step)⟩
        ·rw[if_neg c8]at H;have c8b0:decide (48≤(bt a0 x3_1))=false:=decide_eq_false c8;clear c8;by_cases c11:(bt a0 x3_1)=45
         ·rw[if_pos c11]at H;have c11b0:((bt a0 x3_1) == 45)=true:=beq_iff_eq.mpr c11;have c11b1:((bt a0 x3_1) != 45)=false:=bne_eq_false_iff_eq.mpr c11;clear c11;have H':=mS H;clear H;go_wp2;go_meet
          case rel=>exact⟨_,(false),mE,H',⟨by have:=HK1.out;first|omega|exact Nat.le_refl _⟩,by repeat (first|exact Drawn0.refl _|apply Drawn0.step)⟩
         ·rw[if_neg c11]at H;have c11b0:((bt a0 x3_1) == 45)=false:=beq_eq_false_iff_ne.mpr c11;have c11b1:((bt a0 x3_1) != 45)=true:=bne_iff_ne.mpr c11;have H':=mS H;clear H;go_wp2;go_meet
          case rel=>exact⟨_,(((bt a0 x3_1) != 46)),mE,H',⟨by have:=HK1.out;first|omega|exact Nat.le_refl _⟩,by repeat (first|exact Drawn0.refl _|apply Drawn0.step)⟩
      ·rw[if_neg c6]at H;have c6b0:decide (97≤(bt a0 x3_1))=false:=decide_eq_false c6;clear c6
       (first|rw[c6b0]|(simp only[i64_w,i32_w];rw[c6b0])|skip)
       by_cases c12:(bt a0 x3_1)≥48
       ·rw[if_pos c12]at H;have c12b0:decide (48≤(bt a0 x3_1))=true:=decide_eq_true c12;clear c12;by_cases c13:((bt a0 x3_1)≤57)
        ·rw[if_pos c13]at H;have c13b0:decide ((bt a0 x3_1)≤57)=true:=decide_eq_true c13;clear c13;have H':=mS H;clear H;go_wp2;go_meet
         case rel=>exact⟨_,(false),mE,H',⟨by have:=HK1.out;first|omega|exact Nat.le_refl _⟩,by repeat (first|exact Drawn0.refl _|apply Drawn0.step)⟩
        ·rw[if_neg c13]at H;have c13b0:decide ((bt a0 x3_1)≤57)=false:=decide_eq_false c13;clear c13;by_cases c14:(bt a0 x3_1)=45
         ·rw[if_pos c14]at H;have c14b0:((bt a0 x3_1) == 45)=true:=beq_iff_eq.mpr c14;have c14b1:((bt a0 x3_1) != 45)=false:=bne_eq_false_iff_eq.mpr c14;clear c14;have H':=mS H;clear H;go_wp2;go_meet
          case rel=>exact⟨_,(false),mE,H',⟨by have:=HK1.out;first|omega|exact Nat.le_refl _⟩,by repeat (first|exact Drawn0.refl _|apply Drawn0.step)⟩
         ·rw[if_neg c14]at H;have c14b0:((bt a0 x3_1) == 45)=false:=beq_eq_false_iff_ne.mpr c14;have c14b1:((bt a0 x3_1) != 45)=true:=bne_iff_ne.mpr c14;have H':=mS H;clear H;go_wp2;go_meet
          case rel=>exact⟨_,(((bt a0 x3_1) != 46)),mE,H',⟨by have:=HK1.out;first|omega|exact Nat.le_refl _⟩,by repeat (first|exact Drawn0.refl _|apply Drawn0.step)⟩
       ·rw[if_neg c12]at H;have c12b0:decide (48≤(bt a0 x3_1))=false:=decide_eq_false c12;clear c12;by_cases c15:(bt a0 x3_1)=45
        ·rw[if_pos c15]at H;have c15b0:((bt a0 x3_1) == 45)=true:=beq_iff_eq.mpr c15;have c15b1:((bt a0 x3_1) != 45)=false:=bne_eq_false_iff_eq.mpr c15;clear c15;have H':=mS H;clear H;go_wp2;go_meet
         case rel=>exact⟨_,(false),mE,H',⟨by have:=HK1.out;first|omega|exact Nat.le_refl _⟩,by repeat (first|exact Drawn0.refl _|apply Drawn0.step)⟩
        ·rw[if_neg c15]at H;have c15b0:((bt a0 x3_1) == 45)=false:=beq_eq_false_iff_ne.mpr c15;have c15b1:((bt a0 x3_1) != 45)=true:=bne_iff_ne.mpr c15;have H':=mS H;clear H;go_wp2;go_meet
         case rel=>exact⟨_,(((bt a0 x3_1) != 46)),mE,H',⟨by have:=HK1.out;first|omega|exact Nat.le_refl _⟩,by repeat (first|exact Drawn0.refl _|apply Drawn0.step)⟩
     case rest=>
      clear HC5
      try clear c1
      try clear c2
      try clear c2b0
      try clear p2
      try clear c3
      try clear c3b0
      try clear p4
      try clear q4
      try clear hx4
      try clear c6
      try clear c6b0
      try clear c7
      try clear c7b0
      try clear c8
      try clear c8b0
      try clear c9
      try clear c9b0
      try clear c10
      try clear c10b0
      try clear c10b1
      try clear c11
      try clear c11b0
      try clear c11b1
      try clear c12
      try clear c12b0
      try clear c13
      try clear c13b0
      try clear c14
      try clear c14b0
      try clear c14b1
      try clear c15
      try clear c15b0
      try clear c15b1
      try clear p4
      try clear q4
      obtain⟨kq,x37_4,rfl,HA,HJ4,⟨mc4,rfl⟩⟩:=hcut;cases kq with
      |zero=>exact absurd HA.out (by simp[impl_nameOk.j1])
      |succ kj4=>
       have H:=HA.out;clear HA;simp only[impl_nameOk.j1]at H;by_cases c16:x37_4=true
       ·subst c16;have H1:=H;rw[if_pos rfl]at H1;clear H;have H:=H1;clear H1;obtain rfl:=Option.some.inj H;go_wp2;go_ret;exact⟨mE,by repeat (first|exact Drawn0.refl _|apply Drawn0.step)⟩
       ·replace c16:=Bool.eq_false_iff.mpr c16;subst c16;have H1:=H;rw[if_neg (show ¬(false=true) by decide)]at H1;clear H;have H:=H1;clear H1;have H':=mS H;clear H;go_wp2;go_roundg kj4
        case measure=>have:=HK1.out;have:=HJ4.out;omega
        case rel=>exact⟨(wrap64 (x3_1+1)),mE,H',⟨by have:=HK1.out;have:=HJ4.out;omega⟩,by repeat (first|exact Drawn0.refl _|apply Drawn0.step)⟩
    ·rw[if_neg c3]at H;exact absurd H (by simp)
   ·rw[if_neg c2]at H;have c2b0:=decide_eq_false c2;clear c2;replace H:=Option.bind_eq_some_iff.mp H;obtain⟨t320,A170,H⟩:=H;replace H:(some t320)=some r:=H;have A17:=mS A170;clear A170;obtain rfl:=Option.some.inj H;go_wp2_with (first|((with_reducible refine gate_callee (f:=83) rfl ?_);refine mGo 40 Try.func83 #[.int .i64 (a0.size:Int),.int .i64 1,.int .i64 12] ?_;(with_reducible refine(impl_in.calls (a0.size:Int) 1 12 t320 _ A17.out).mono ?_);rintro e w' ⟨rfl,⟨nd,rfl⟩⟩;refine⟨_,rfl,?_⟩));go_ret;exact⟨mE,by repeat (first|exact Drawn0.refl _|apply Drawn0.step)⟩
def impl_idOf.l0:Nat→ByteArray→List (S63)→Int→Int→Option (Int)
 |0,_,_,_,_=>none
 |k+1,x1,x8,x9,x10=>if x10<x9 then (if 0≤x10 then (if x10<(x8.length:Int) then (if ((rd_T63 x8 x10).f0).toList=x1.toList then (some ((rd_T63 x8 x10).f1)) else (impl_idOf.l0 k x1 x8 x9 (wrap64 (x10+1)))) else (none)) else (none)) else (some 0)
def impl_idOf.f (k:Nat) (l0_0:List (S80)) (l0_1:List (S63)) (l0_2:List (S63)) (a0_3:Int) (a1:ByteArray):Option (Int):=impl_idOf.l0 k a1 l0_1 (l0_1.length:Int) 0
set_option maxHeartbeats 8000000 in
set_option maxRecDepth 100000 in
theorem impl_idOf.calls (k:Nat) (A0_0:Option Addr) (c0_0:Nat) (l0_0:List (S80)) (A0_1:Option Addr) (c0_1:Nat) (l0_1:List (S63)) (A0_2:Option Addr) (c0_2:Nat) (l0_2:List (S63)) (a0_3:Int) (a1:ByteArray) (r:Int) (w:World) (hr0_0:Kd.C k80 w A0_0 l0_0.length l0_0) (hc0_0:l0_0.length≤c0_0) (hr0_1:Kd.C k63 w A0_1 l0_1.length l0_1) (hc0_1:l0_1.length≤c0_1) (hr0_2:Kd.C k63 w A0_2 l0_2.length l0_2) (hc0_2:l0_2.length≤c0_2) (h:impl_idOf.f k l0_0 l0_1 l0_2 a0_3 a1=some r) :
 Calls Try.prog 57 #[.agg #[.slice A0_0 l0_0.length c0_0,.slice A0_1 l0_1.length c0_1,.slice A0_2 l0_2.length c0_2,.int .i64 a0_3],.string a1] w fun e w'=>e = .returned (.int .i64 r)∧Below w.heap.size w w':=by
 have hu30:=Try.underlying30;have hu63:=Try.underlying63;have HR0_0:=mS hr0_0;have HC0_0:=mS hc0_0;clear hr0_0 hc0_0;have HR0_1:=mS hr0_1;have HC0_1:=mS hc0_1;clear hr0_1 hc0_1;have HR0_2:=mS hr0_2;have HC0_2:=mS hc0_2;clear hr0_2 hc0_2;have HB:=mS (Below.refl w.heap.size w);have H:(impl_idOf.l0 k a1 l0_1 (l0_1.length:Int) 0)=some r:=h;clear h;have H':=mS H;clear H;go_enter Try.func57,Try.ntmps57;go_wp2_with (first|((with_reducible refine gate_dst (N:=2) rfl ?_);refine mBx 2 #[.slice A0_0 l0_0.length c0_0,.slice A0_1 l0_1.length c0_1,.slice A0_2 l0_2.length c0_2,.int .i64 a0_3] 30 ?_;intro gb350 hg w3 hbox hb;have BK350:=mS (hbox);have GW350:=mG hg (mH HB.out);have GE350:=mG hg (mH HB.out);replace HB:=mS (below_step (mH HB.out) hb);clear hb hbox hg;obtain⟨hcz4_0,hcz4_1,hcz4_2,hcz4_3,hfz4_0,hfz4_1,hfz4_2,hfz4_3⟩:=mZ4 BK350.out));go_loopg [10] k (fun kq v10 w'=>∃(x10_1:Int),v10 = .int .i64 x10_1∧Aside0 (impl_idOf.l0 kq a1 l0_1 (l0_1.length:Int) x10_1=some r)∧Aside0 (kq≤k)∧Aside0 (w'.heap[gb350]? = some (.cells #[(.slice A0_0 l0_0.length c0_0),(.slice A0_1 l0_1.length c0_1),(.slice A0_2 l0_2.length c0_2),.int .i64 a0_3] 30 (0,0)))∧Aside0 (Below w.heap.size w w'))
 case atStart=>exact⟨(0),mE,H',⟨Nat.le_refl _⟩,⟨mK BK350.out⟩,⟨(mH1 HB.out GE350.out)⟩⟩
 case round=>
  clear H'
  try clear p2
  try clear hcz4_0
  try clear hcz4_1
  try clear hcz4_2
  try clear hcz4_3
  try clear hfz4_0
  try clear hfz4_1
  try clear hfz4_2
  try clear hfz4_3
  obtain⟨x10_1,rfl,HA,HK1,BK350,HB⟩:=hrel;cases gk with
  |zero=>exact absurd HA.out (by simp[impl_idOf.l0])
  |succ k1=>
   have H:=HA.out;clear HA;simp only[impl_idOf.l0]at H;by_cases c5:x10_1<(l0_1.length:Int)
   ·rw[if_pos c5]at H;have c5b0:=decide_eq_true c5;clear c5;by_cases c6:0≤x10_1
    ·rw[if_pos c6]at H;have c6b0:=decide_eq_true c6;clear c6;by_cases c7:x10_1<(l0_1.length:Int)
     ·rw[if_pos c7]at H;have c7b0:=decide_eq_true c7;clear c7;by_cases c8:((rd_T63 l0_1 x10_1).f0).toList=a1.toList
      ·rw[if_pos c8]at H;have c8b0:(((rd_T63 l0_1 x10_1).f0).toList == a1.toList)=true:=beq_iff_eq.mpr c8;have c8b1:(((rd_T63 l0_1 x10_1).f0).toList != a1.toList)=false:=bne_eq_false_iff_eq.mpr c8;clear c8;obtain rfl:=Option.some.inj H;have p351:0≤(x10_1:Int):=mD;have q351:x10_1<(l0_1.length:Int):=mD;obtain⟨ad351,e351,hx351_0,hx351_1⟩:=at_T63 HR0_1.out x10_1 p351 q351;cases e351
       replace hx351_0:=mX HB.out hx351_0;replace hx351_1:=mX HB.out hx351_1;replace p351:=eq_true p351;replace q351:=eq_true q351;go_wp2_with (first|((with_reducible refine gate_dst (N:=6) rfl ?_);refine mBx 6 #[.string (⟨#[]⟩:ByteArray),.int .i64 0] 63 ?_;intro gb352 hg w9 hbox hb;have BK352:=mS (hbox);have GW352:=mG hg (mH1 HB.out GE350.out);have GE352:=mG hg (mH1 HB.out GE350.out);replace HB:=mS (below_step (mH1 HB.out GE350.out) hb);have NB350_352:=mNl hg BK350.out;have NB352_350:=mNg hg BK350.out;replace BK350:=mB BK350 hb;clear hb hbox hg;have hnb10:=NB352_350.out;have hnc10:=NB350_352.out;obtain⟨hcz11_0,hcz11_1,hfz11_0,hfz11_1⟩:=mZ2 BK352.out));go_ret;exact⟨mEw,(mH2 HB.out GE350.out GE352.out)⟩
      ·rw[if_neg c8]at H;have c8b0:(((rd_T63 l0_1 x10_1).f0).toList == a1.toList)=false:=beq_eq_false_iff_ne.mpr c8;have c8b1:(((rd_T63 l0_1 x10_1).f0).toList != a1.toList)=true:=bne_iff_ne.mpr c8;have H':=mS H;clear H;have p351:0≤(x10_1:Int):=mD;have q351:x10_1<(l0_1.length:Int):=mD;obtain⟨ad351,e351,hx351_0,hx351_1⟩:=at_T63 HR0_1.out x10_1 p351 q351;cases e351
       replace hx351_0:=mX HB.out hx351_0;replace hx351_1:=mX HB.out hx351_1;replace p351:=eq_true p351;replace q351:=eq_true q351;go_wp2_with (first|((with_reducible refine gate_dst (N:=6) rfl ?_);refine mBx 6 #[.string (⟨#[]⟩:ByteArray),.int .i64 0] 63 ?_;intro gb352 hg w12 hbox hb;have BK352:=mS (hbox);have GW352:=mG hg (mH1 HB.out GE350.out);have GE352:=mG hg (mH1 HB.out GE350.out);replace HB:=mS (below_step (mH1 HB.out GE350.out) hb);have NB350_352:=mNl hg BK350.out;have NB352_350:=mNg hg BK350.out;replace BK350:=mB BK350 hb;clear hb hbox hg;have hnb13:=NB352_350.out;have hnc13:=NB350_352.out;obtain⟨hcz14_0,hcz14_1,hfz14_0,hfz14_1⟩:=mZ2 BK352.out));go_roundg k1
       case measure=>have:=HK1.out;omega
       case rel=>exact⟨(wrap64 (x10_1+1)),mE,H',⟨by have:=HK1.out;omega⟩,⟨mKf NB350_352.out BK350.out⟩,⟨(mH2 HB.out GE350.out GE352.out)⟩⟩
     ·rw[if_neg c7]at H;exact absurd H (by simp)
    ·rw[if_neg c6]at H;exact absurd H (by simp)
   ·rw[if_neg c5]at H;have c5b0:=decide_eq_false c5;clear c5;obtain rfl:=Option.some.inj H;go_wp2;go_ret;exact⟨mEw,(mH1 HB.out GE350.out)⟩
end Go.Proofs.Ytgpkdbnikcghgaa.MD
