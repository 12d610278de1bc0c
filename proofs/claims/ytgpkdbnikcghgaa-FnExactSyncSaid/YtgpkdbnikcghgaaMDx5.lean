-- Written by mp.py, our own printer (wip/mp.py), and made shorter by wip/mp_shrink*.py.
import Derived.Test.YtgpkdbnikcghgaaVMShort
import Derived.Test.YtgpkdbnikcghgaaMDx0
import Derived.Test.YtgpkdbnikcghgaaMDx4
namespace Go.Proofs.Ytgpkdbnikcghgaa.MD
open Go.RowKit Go.Proofs.YtgpkdbnikcghgaaW.PrintWords Go.Proofs.YtgpkdbnikcghgaaW.PrintLast Go.Proofs.YtgpkdbnikcghgaaW.PrintMore Go.Proofs.Ytgpkdbnikcghgaa.MWords
attribute [local go_sem] max2_int min2_int max_two min_two max_three min_three max_four min_four
set_option linter.unusedVariables false
set_option linter.unusedSimpArgs false
def laws_heldByteS.l0:Nat→List Int→Int→Int→Option (Int)
 |0,_,_,_=>none
 |k+1,x0,x1,x5=>if x5<(x0.length:Int) then (if 0≤x5 then (if (rd x0 x5)=((x1) % 256) then (laws_heldByteS.l0 k x0 (wrap64 (x1+1)) (wrap64 (x5+1))) else (some (-1))) else (none)) else (some x1)
def laws_heldByteS.f (k:Nat) (l0:List Int) (a1:Int):Option (Int):=laws_heldByteS.l0 k l0 a1 0
set_option maxHeartbeats 8000000 in
set_option maxRecDepth 100000 in
theorem laws_heldByteS.calls (k:Nat) (A0:Option Addr) (c0:Nat) (l0:List Int) (a1:Int) (r:Int) (w:World) (hr0:Kd.C (Kd.int .u8) w A0 l0.length l0) (hc0:l0.length≤c0) (h:laws_heldByteS.f k l0 a1=some r) :
 Calls Try.prog 99 #[.slice A0 l0.length c0,.int .i64 a1] w fun e w'=>e = .returned (.int .i64 r)∧Drawn0 w w':=by
 have HR0:=mS hr0;have HC0:=mS hc0;clear hr0 hc0;have H:(laws_heldByteS.l0 k l0 a1 0)=some r:=h;clear h;have H':=mS H;clear H;go_enter Try.func99,Try.ntmps99;go_wp2;go_loopg [1,5] k (fun kq v1 v5 w'=>∃(x1_1:Int) (x5_1:Int),v1 = .int .i64 x1_1∧v5 = .int .i64 x5_1∧Aside0 (laws_heldByteS.l0 kq l0 x1_1 x5_1=some r)∧Aside0 (kq≤k)∧Drawn0 w w')
 case atStart=>exact⟨(a1),(0),mE,mE,H',⟨Nat.le_refl _⟩,by repeat (first|exact Drawn0.refl _|apply Drawn0.step)⟩
 case round=>
  clear H'
  try clear p2
  obtain⟨x1_1,x5_1,rfl,rfl,HA,HK1,⟨m1,rfl⟩⟩:=hrel;cases gk with
  |zero=>exact absurd HA.out (by simp[laws_heldByteS.l0])
  |succ k1=>
   have H:=HA.out;clear HA;simp only[laws_heldByteS.l0]at H;by_cases c3:x5_1<(l0.length:Int)
   ·rw[if_pos c3]at H;have c3b0:=decide_eq_true c3;clear c3;by_cases c4:0≤x5_1
    ·rw[if_pos c4]at H;have c4b0:=decide_eq_true c4;clear c4;by_cases c5:(rd l0 x5_1)=((x1_1) % 256)
     ·rw[if_pos c5]at H;have c5b0:((rd l0 x5_1) == ((x1_1) % 256))=true:=beq_iff_eq.mpr c5;have c5b1:((rd l0 x5_1) != ((x1_1) % 256))=false:=bne_eq_false_iff_eq.mpr c5;clear c5;have H':=mS H;clear H;have p180:0≤(x5_1:Int):=mD;have q180:x5_1<(l0.length:Int):=mD;obtain⟨ad180,e180,hx180_0⟩:=Kd.at_int HR0.out x5_1 p180 q180;cases e180
      replace p180:=eq_true p180;replace q180:=eq_true q180;go_wp2;go_roundg k1
      case measure=>have:=HK1.out;omega
      case rel=>exact⟨(wrap64 (x1_1+1)),(wrap64 (x5_1+1)),mE,mE,H',⟨by have:=HK1.out;omega⟩,by repeat (first|exact Drawn0.refl _|apply Drawn0.step)⟩
     ·rw[if_neg c5]at H;have c5b0:((rd l0 x5_1) == ((x1_1) % 256))=false:=beq_eq_false_iff_ne.mpr c5;have c5b1:((rd l0 x5_1) != ((x1_1) % 256))=true:=bne_iff_ne.mpr c5;obtain rfl:=Option.some.inj H;have p180:0≤(x5_1:Int):=mD;have q180:x5_1<(l0.length:Int):=mD;obtain⟨ad180,e180,hx180_0⟩:=Kd.at_int HR0.out x5_1 p180 q180;cases e180
      replace p180:=eq_true p180;replace q180:=eq_true q180;go_wp2;go_ret;exact⟨mE,by repeat (first|exact Drawn0.refl _|apply Drawn0.step)⟩
    ·rw[if_neg c4]at H;exact absurd H (by simp)
   ·rw[if_neg c3]at H;have c3b0:=decide_eq_false c3;clear c3;obtain rfl:=Option.some.inj H;go_wp2;go_ret;exact⟨mE,by repeat (first|exact Drawn0.refl _|apply Drawn0.step)⟩
def laws_heldInodeS.l0:Nat→List (S80)→Int→Int→Option (Int)
 |0,_,_,_=>none
 |k+1,x0,x1,x5=>if x5<(x0.length:Int) then (if 0≤x5 then (if ((rd_T80 x0 x5).f0)=x1 then ((laws_heldByteS.f k ((rd_T80 x0 x5).f1) (wrap64 (x1+1))).bind fun t183=>(if t183<0 then (some (-1)) else (if ((rd_T80 x0 x5).f2)=t183 then (laws_heldInodeS.l0 k x0 (wrap64 (t183+1)) (wrap64 (x5+1))) else (some (-1))))) else (some (-1))) else (none)) else (some x1)
def laws_heldInodeS.f (k:Nat) (l0:List (S80)) (a1:Int):Option (Int):=laws_heldInodeS.l0 k l0 a1 0
set_option maxHeartbeats 8000000 in
set_option maxRecDepth 100000 in
theorem laws_heldInodeS.calls (k:Nat) (A0:Option Addr) (c0:Nat) (l0:List (S80)) (a1:Int) (r:Int) (w:World) (hr0:Kd.C k80 w A0 l0.length l0) (hc0:l0.length≤c0) (h:laws_heldInodeS.f k l0 a1=some r) :
 Calls Try.prog 64 #[.slice A0 l0.length c0,.int .i64 a1] w fun e w'=>e = .returned (.int .i64 r)∧Drawn0 w w':=by
 have HR0:=mS hr0;have HC0:=mS hc0;clear hr0 hc0;have H:(laws_heldInodeS.l0 k l0 a1 0)=some r:=h;clear h;have H':=mS H;clear H;go_enter Try.func64,Try.ntmps64;go_wp2;go_loopg [1,5] k (fun kq v1 v5 w'=>∃(x1_1:Int) (x5_1:Int),v1 = .int .i64 x1_1∧v5 = .int .i64 x5_1∧Aside0 (laws_heldInodeS.l0 kq l0 x1_1 x5_1=some r)∧Aside0 (kq≤k)∧Drawn0 w w')
 case atStart=>exact⟨(a1),(0),mE,mE,H',⟨Nat.le_refl _⟩,by repeat (first|exact Drawn0.refl _|apply Drawn0.step)⟩
 case round=>
  clear H'
  try clear p2
  obtain⟨x1_1,x5_1,rfl,rfl,HA,HK1,⟨m1,rfl⟩⟩:=hrel;cases gk with
  |zero=>exact absurd HA.out (by simp[laws_heldInodeS.l0])
  |succ k1=>
   have H:=HA.out;clear HA;simp only[laws_heldInodeS.l0]at H;by_cases c3:x5_1<(l0.length:Int)
   ·rw[if_pos c3]at H;have c3b0:=decide_eq_true c3;clear c3;by_cases c4:0≤x5_1
    ·rw[if_pos c4]at H;have c4b0:=decide_eq_true c4;clear c4;by_cases c5:((rd_T80 l0 x5_1).f0)=x1_1
     ·rw[if_pos c5]at H;have c5b0:(((rd_T80 l0 x5_1).f0) == x1_1)=true:=beq_iff_eq.mpr c5;have c5b1:(((rd_T80 l0 x5_1).f0) != x1_1)=false:=bne_eq_false_iff_eq.mpr c5;clear c5;replace H:=Option.bind_eq_some_iff.mp H;obtain⟨t183,A60,H⟩:=H;replace H:(if t183<0 then (some (-1)) else (if ((rd_T80 l0 x5_1).f2)=t183 then (laws_heldInodeS.l0 k1 l0 (wrap64 (t183+1)) (wrap64 (x5_1+1))) else (some (-1))))=some r:=H;have A6:=mS A60;clear A60;by_cases c7:t183<0
      ·rw[if_pos c7]at H;have c7b0:=decide_eq_true c7;clear c7;obtain rfl:=Option.some.inj H;have p181:0≤(x5_1:Int):=mD;have q181:x5_1<(l0.length:Int):=mD;obtain⟨ad181,A181_1,c181_1,e181,hx181_0,hx181_1,hx181_2,hl181_1,hi181_1⟩:=at_T80 HR0.out x5_1 p181 q181;cases e181
       have HR181_1:=mS hi181_1;have HC181_1:=mS hl181_1;clear hi181_1 hl181_1;replace p181:=eq_true p181;replace q181:=eq_true q181;have p182:0≤(x5_1:Int):=mD;have q182:x5_1<(l0.length:Int):=mD;obtain⟨ad182,A182_1,c182_1,e182,hx182_0,hx182_1,hx182_2,hl182_1,hi182_1⟩:=at_T80 HR0.out x5_1 p182 q182;obtain rfl:ad181=ad182:=(by injection e182);have HR182_1:=mS hi182_1;have HC182_1:=mS hl182_1;clear hi182_1 hl182_1;replace p182:=eq_true p182;replace q182:=eq_true q182;have ea_:=Option.some.inj (hx181_1.symm.trans hx182_1);injection ea_ with ea_ en_ ec_
       subst ea_;subst ec_;clear en_;go_wp2_with (first|((with_reducible refine gate_callee (f:=99) rfl ?_);refine mGo 27 Try.func99 #[.slice A181_1 ((rd_T80 l0 x5_1).f1).length c181_1,.int .i64 (wrap64 (x1_1+1))] ?_;(with_reducible refine(laws_heldByteS.calls k1 _ _ ((rd_T80 l0 x5_1).f1) (wrap64 (x1_1+1)) t183 _ ?side1 ?side2 A6.out).mono ?_);(case side1=>exact mC HR182_1.out);(case side2=>exact HC182_1.out);rintro e w' ⟨rfl,⟨nd,rfl⟩⟩;refine⟨_,rfl,?_⟩));go_ret;exact⟨mE,by repeat (first|exact Drawn0.refl _|apply Drawn0.step)⟩
      ·rw[if_neg c7]at H;have c7b0:=decide_eq_false c7;clear c7;by_cases c8:((rd_T80 l0 x5_1).f2)=t183
       ·rw[if_pos c8]at H;have c8b0:(((rd_T80 l0 x5_1).f2) == t183)=true:=beq_iff_eq.mpr c8;have c8b1:(((rd_T80 l0 x5_1).f2) != t183)=false:=bne_eq_false_iff_eq.mpr c8;clear c8;have H':=mS H;clear H;have p181:0≤(x5_1:Int):=mD;have q181:x5_1<(l0.length:Int):=mD;obtain⟨ad181,A181_1,c181_1,e181,hx181_0,hx181_1,hx181_2,hl181_1,hi181_1⟩:=at_T80 HR0.out x5_1 p181 q181;cases e181
        have HR181_1:=mS hi181_1;have HC181_1:=mS hl181_1;clear hi181_1 hl181_1;replace p181:=eq_true p181;replace q181:=eq_true q181;have p182:0≤(x5_1:Int):=mD;have q182:x5_1<(l0.length:Int):=mD;obtain⟨ad182,A182_1,c182_1,e182,hx182_0,hx182_1,hx182_2,hl182_1,hi182_1⟩:=at_T80 HR0.out x5_1 p182 q182;obtain rfl:ad181=ad182:=(by injection e182);have HR182_1:=mS hi182_1;have HC182_1:=mS hl182_1;clear hi182_1 hl182_1;replace p182:=eq_true p182;replace q182:=eq_true q182;have ea_:=Option.some.inj (hx181_1.symm.trans hx182_1);injection ea_ with ea_ en_ ec_
        subst ea_;subst ec_;clear en_;go_wp2_with (first|((with_reducible refine gate_callee (f:=99) rfl ?_);refine mGo 27 Try.func99 #[.slice A181_1 ((rd_T80 l0 x5_1).f1).length c181_1,.int .i64 (wrap64 (x1_1+1))] ?_;(with_reducible refine(laws_heldByteS.calls k1 _ _ ((rd_T80 l0 x5_1).f1) (wrap64 (x1_1+1)) t183 _ ?side1 ?side2 A6.out).mono ?_);(case side1=>exact mC HR182_1.out);(case side2=>exact HC182_1.out);rintro e w' ⟨rfl,⟨nd,rfl⟩⟩;refine⟨_,rfl,?_⟩;have p184:0≤(x5_1:Int):=mD;have q184:x5_1<(l0.length:Int):=mD;obtain⟨ad184,A184_1,c184_1,e184,hx184_0,hx184_1,hx184_2,hl184_1,hi184_1⟩:=at_T80 HR0.out x5_1 p184 q184;obtain rfl:ad181=ad184:=(by injection e184);have HR184_1:=mS hi184_1;have HC184_1:=mS hl184_1;clear hi184_1 hl184_1;replace p184:=eq_true p184;replace q184:=eq_true q184;have ea_:=Option.some.inj (hx181_1.symm.trans hx184_1);injection ea_ with ea_ en_ ec_;subst ea_;subst ec_;clear en_));go_roundg k1
        case measure=>have:=HK1.out;omega
        case rel=>exact⟨(wrap64 (t183+1)),(wrap64 (x5_1+1)),mE,mE,H',⟨by have:=HK1.out;omega⟩,by repeat (first|exact Drawn0.refl _|apply Drawn0.step)⟩
       ·rw[if_neg c8]at H;have c8b0:(((rd_T80 l0 x5_1).f2) == t183)=false:=beq_eq_false_iff_ne.mpr c8;have c8b1:(((rd_T80 l0 x5_1).f2) != t183)=true:=bne_iff_ne.mpr c8;obtain rfl:=Option.some.inj H;have p181:0≤(x5_1:Int):=mD;have q181:x5_1<(l0.length:Int):=mD;obtain⟨ad181,A181_1,c181_1,e181,hx181_0,hx181_1,hx181_2,hl181_1,hi181_1⟩:=at_T80 HR0.out x5_1 p181 q181;cases e181
        have HR181_1:=mS hi181_1;have HC181_1:=mS hl181_1;clear hi181_1 hl181_1;replace p181:=eq_true p181;replace q181:=eq_true q181;have p182:0≤(x5_1:Int):=mD;have q182:x5_1<(l0.length:Int):=mD;obtain⟨ad182,A182_1,c182_1,e182,hx182_0,hx182_1,hx182_2,hl182_1,hi182_1⟩:=at_T80 HR0.out x5_1 p182 q182;obtain rfl:ad181=ad182:=(by injection e182);have HR182_1:=mS hi182_1;have HC182_1:=mS hl182_1;clear hi182_1 hl182_1;replace p182:=eq_true p182;replace q182:=eq_true q182;have ea_:=Option.some.inj (hx181_1.symm.trans hx182_1);injection ea_ with ea_ en_ ec_
        subst ea_;subst ec_;clear en_;go_wp2_with (first|((with_reducible refine gate_callee (f:=99) rfl ?_);refine mGo 27 Try.func99 #[.slice A181_1 ((rd_T80 l0 x5_1).f1).length c181_1,.int .i64 (wrap64 (x1_1+1))] ?_;(with_reducible refine(laws_heldByteS.calls k1 _ _ ((rd_T80 l0 x5_1).f1) (wrap64 (x1_1+1)) t183 _ ?side1 ?side2 A6.out).mono ?_);(case side1=>exact mC HR182_1.out);(case side2=>exact HC182_1.out);rintro e w' ⟨rfl,⟨nd,rfl⟩⟩;refine⟨_,rfl,?_⟩;have p184:0≤(x5_1:Int):=mD;have q184:x5_1<(l0.length:Int):=mD;obtain⟨ad184,A184_1,c184_1,e184,hx184_0,hx184_1,hx184_2,hl184_1,hi184_1⟩:=at_T80 HR0.out x5_1 p184 q184;obtain rfl:ad181=ad184:=(by injection e184);have HR184_1:=mS hi184_1;have HC184_1:=mS hl184_1;clear hi184_1 hl184_1;replace p184:=eq_true p184;replace q184:=eq_true q184;have ea_:=Option.some.inj (hx181_1.symm.trans hx184_1);injection ea_ with ea_ en_ ec_;subst ea_;subst ec_;clear en_));go_ret;exact⟨mE,by repeat (first|exact Drawn0.refl _|apply Drawn0.step)⟩
     ·rw[if_neg c5]at H;have c5b0:(((rd_T80 l0 x5_1).f0) == x1_1)=false:=beq_eq_false_iff_ne.mpr c5;have c5b1:(((rd_T80 l0 x5_1).f0) != x1_1)=true:=bne_iff_ne.mpr c5;obtain rfl:=Option.some.inj H;have p181:0≤(x5_1:Int):=mD;have q181:x5_1<(l0.length:Int):=mD;obtain⟨ad181,A181_1,c181_1,e181,hx181_0,hx181_1,hx181_2,hl181_1,hi181_1⟩:=at_T80 HR0.out x5_1 p181 q181;cases e181
      have HR181_1:=mS hi181_1;have HC181_1:=mS hl181_1;clear hi181_1 hl181_1;replace p181:=eq_true p181;replace q181:=eq_true q181;go_wp2;go_ret;exact⟨mE,by repeat (first|exact Drawn0.refl _|apply Drawn0.step)⟩
    ·rw[if_neg c4]at H;exact absurd H (by simp)
   ·rw[if_neg c3]at H;have c3b0:=decide_eq_false c3;clear c3;obtain rfl:=Option.some.inj H;go_wp2;go_ret;exact⟨mE,by repeat (first|exact Drawn0.refl _|apply Drawn0.step)⟩
def laws_heldEntryS.l0:Nat→List (S63)→Int→Int→Option (Int)
 |0,_,_,_=>none
 |k+1,x0,x1,x5=>if x5<(x0.length:Int) then (if 0≤x5 then ((laws_markText.f k x1).bind fun t186=>(if ((rd_T63 x0 x5).f0).toList=t186.toList then (if ((rd_T63 x0 x5).f1)=(wrap64 (x1+1)) then (laws_heldEntryS.l0 k x0 (wrap64 ((wrap64 (x1+1))+1)) (wrap64 (x5+1))) else (some (-1))) else (some (-1)))) else (none)) else (some x1)
def laws_heldEntryS.f (k:Nat) (l0:List (S63)) (a1:Int):Option (Int):=laws_heldEntryS.l0 k l0 a1 0
def laws_heldEntryS.T4:Bool × List (List Nat × List Nat):=(true,[([],[]),([],[]),([0,1],[0,1]),([2],[2]),([3],[3]),([],[]),([5],[5]),([4,6],[4,6])])
def laws_heldEntryS.B4:List Nat:=[0,0,3,7,15,0,32,127]
theorem laws_heldEntryS.tab4:rtab .any (opsOf Try.f65 4)=laws_heldEntryS.T4:=by kernel_rfl
theorem laws_heldEntryS.bits4:waitsOk laws_heldEntryS.T4.2 laws_heldEntryS.B4=true:=by kernel_rfl
set_option maxHeartbeats 8000000 in
set_option maxRecDepth 100000 in
theorem laws_heldEntryS.calls (k:Nat) (A0:Option Addr) (c0:Nat) (l0:List (S63)) (a1:Int) (r:Int) (w:World) (hr0:Kd.C k63 w A0 l0.length l0) (hc0:l0.length≤c0) (h:laws_heldEntryS.f k l0 a1=some r) :
 Calls Try.prog 65 #[.slice A0 l0.length c0,.int .i64 a1] w fun e w'=>e = .returned (.int .i64 r)∧Below w.heap.size w w':=by
 have HR0:=mS hr0;have HC0:=mS hc0;clear hr0 hc0;have HB:=mS (Below.refl w.heap.size w);have H:(laws_heldEntryS.l0 k l0 a1 0)=some r:=h;clear h;have H':=mS H;clear H;go_enter Try.func65,Try.ntmps65;go_wp2;go_loopg [1,5] k (fun kq v1 v5 w'=>∃(x1_1:Int) (x5_1:Int),v1 = .int .i64 x1_1∧v5 = .int .i64 x5_1∧Aside0 (laws_heldEntryS.l0 kq l0 x1_1 x5_1=some r)∧Aside0 (kq≤k)∧Aside0 (Below w.heap.size w w'))
 case atStart=>exact⟨(a1),(0),mE,mE,H',⟨Nat.le_refl _⟩,⟨(mH HB.out)⟩⟩
 case round=>
  clear H'
  try clear p2
  obtain⟨x1_1,x5_1,rfl,rfl,HA,HK1,HB⟩:=hrel;cases gk with
  |zero=>exact absurd HA.out (by simp[laws_heldEntryS.l0])
  |succ k1=>
   have H:=HA.out;clear HA;simp only[laws_heldEntryS.l0]at H;by_cases c3:x5_1<(l0.length:Int)
   ·rw[if_pos c3]at H;have c3b0:=decide_eq_true c3;clear c3;by_cases c4:0≤x5_1
    ·rw[if_pos c4]at H;have c4b0:=decide_eq_true c4;clear c4;replace H:=Option.bind_eq_some_iff.mp H;obtain⟨t186,A50,H⟩:=H;replace H:(if ((rd_T63 l0 x5_1).f0).toList=t186.toList then (if ((rd_T63 l0 x5_1).f1)=(wrap64 (x1_1+1)) then (laws_heldEntryS.l0 k1 l0 (wrap64 ((wrap64 (x1_1+1))+1)) (wrap64 (x5_1+1))) else (some (-1))) else (some (-1)))=some r:=H;have A5:=mS A50;clear A50;by_cases c6:((rd_T63 l0 x5_1).f0).toList=t186.toList
     ·rw[if_pos c6]at H;have c6b0:(((rd_T63 l0 x5_1).f0).toList == t186.toList)=true:=beq_iff_eq.mpr c6;have c6b1:(((rd_T63 l0 x5_1).f0).toList != t186.toList)=false:=bne_eq_false_iff_eq.mpr c6;clear c6;by_cases c7:((rd_T63 l0 x5_1).f1)=(wrap64 (x1_1+1))
      ·rw[if_pos c7]at H;have c7b0:(((rd_T63 l0 x5_1).f1) == (wrap64 (x1_1+1)))=true:=beq_iff_eq.mpr c7;have c7b1:(((rd_T63 l0 x5_1).f1) != (wrap64 (x1_1+1)))=false:=bne_eq_false_iff_eq.mpr c7;clear c7;have H':=mS H;clear H
       try go_wp2
       replace HB:=mS (below_drew1 HB.out);have p185:0≤(x5_1:Int):=mD;have q185:x5_1<(l0.length:Int):=mD;obtain⟨ad185,e185,hx185_0,hx185_1⟩:=at_T63 HR0.out x5_1 p185 q185;have hw185_1:=hx185_1;have hw185_0:=hx185_0;cases e185
       replace hx185_0:=mX HB.out hx185_0;replace hx185_1:=mX HB.out hx185_1;replace p185:=eq_true p185;replace q185:=eq_true q185;refine start_ (n:=8) (S:=fun w'=>w'.cell? (ad185.add ((x5_1).toNat*2))=some (.string ((rd_T63 l0 x5_1).f0))∧w'.cell? ⟨(ad185.add ((x5_1).toNat*2)).block,(ad185.add ((x5_1).toNat*2)).off+1,none⟩=some (.int .i64 ((rd_T63 l0 x5_1).f1))) (ds:=[]) (mb 0 8) (by kernel_rfl) rfl rfl ⟨(mX HB.out hw185_0 :),(mX HB.out hw185_1 :)⟩ (fun hHeld=>?_);refine with_tabW laws_heldEntryS.tab4 laws_heldEntryS.bits4 (fun HT_ HW_=>?_);generalize wr.drew=w8 at HB hx185_0 hx185_1 hHeld ⊢
       refine mpu 0 12 HT_.out (mb 1 7) ?_;refine mpu 1 13 HT_.out (mb 2 6) ?_;refine mpu 2 14 HT_.out (mb 3 5) ?_;refine mpu 3 15 HT_.out (mb 4 4) ?_;refine mpu 5 17 HT_.out (mr [4,1,1,2]) ?_;refine mpt 4 16 HT_.out HW_.out (mb 6 2) hHeld ?_;refine mone 6 (some 18) HT_.out (mb 7 1) (fun K hK=>?_);refine goes_ Try.func98 (by kernel_rfl) rfl #[.int .i64 x1_1] (by rfl) rfl rfl mA ?_
       with_reducible refine(laws_markText.calls k1 x1_1 t186 _ A5.out).mono ?_
       rintro e w9 ⟨rfl,hb⟩;refine⟨_,rfl,?_⟩;replace HB:=mS (below_step (mH HB.out) hb)
       (try clear hb)
       (try clear hb2)
       (try clear hk)
       (try clear hi)
       refine hK.out _ _ ⟨(mX HB.out hw185_0 :),(mX HB.out hw185_1 :)⟩ (fun hHeld=>?_);clear hK K;refine mno 18 ?_;refine mpu 7 19 HT_.out (mb 8 0) ?_;refine done_ (done_of HT_.out (by kernel_rfl)) ?_;have p187:0≤(x5_1:Int):=mD;have q187:x5_1<(l0.length:Int):=mD;obtain⟨ad187,e187,hx187_0,hx187_1⟩:=at_T63 HR0.out x5_1 p187 q187;obtain rfl:ad185=ad187:=(by injection e187);replace hx187_0:=mX HB.out hx187_0;replace hx187_1:=mX HB.out hx187_1;replace p187:=eq_true p187;replace q187:=eq_true q187
       try go_wp2
       go_roundg k1
       case measure=>have:=HK1.out;omega
       case rel=>exact⟨(wrap64 ((wrap64 (x1_1+1))+1)),(wrap64 (x5_1+1)),mE,mE,H',⟨by have:=HK1.out;omega⟩,⟨(mH HB.out)⟩⟩
      ·rw[if_neg c7]at H;have c7b0:(((rd_T63 l0 x5_1).f1) == (wrap64 (x1_1+1)))=false:=beq_eq_false_iff_ne.mpr c7;have c7b1:(((rd_T63 l0 x5_1).f1) != (wrap64 (x1_1+1)))=true:=bne_iff_ne.mpr c7;obtain rfl:=Option.some.inj H
       try go_wp2
       replace HB:=mS (below_drew1 HB.out);have p185:0≤(x5_1:Int):=mD;have q185:x5_1<(l0.length:Int):=mD;obtain⟨ad185,e185,hx185_0,hx185_1⟩:=at_T63 HR0.out x5_1 p185 q185;have hw185_1:=hx185_1;have hw185_0:=hx185_0;cases e185
       replace hx185_0:=mX HB.out hx185_0;replace hx185_1:=mX HB.out hx185_1;replace p185:=eq_true p185;replace q185:=eq_true q185;refine start_ (n:=8) (S:=fun w'=>w'.cell? (ad185.add ((x5_1).toNat*2))=some (.string ((rd_T63 l0 x5_1).f0))∧w'.cell? ⟨(ad185.add ((x5_1).toNat*2)).block,(ad185.add ((x5_1).toNat*2)).off+1,none⟩=some (.int .i64 ((rd_T63 l0 x5_1).f1))) (ds:=[]) (mb 0 8) (by kernel_rfl) rfl rfl ⟨(mX HB.out hw185_0 :),(mX HB.out hw185_1 :)⟩ (fun hHeld=>?_);refine with_tabW laws_heldEntryS.tab4 laws_heldEntryS.bits4 (fun HT_ HW_=>?_);generalize wr.drew=w10 at HB hx185_0 hx185_1 hHeld ⊢
       refine mpu 0 12 HT_.out (mb 1 7) ?_;refine mpu 1 13 HT_.out (mb 2 6) ?_;refine mpu 2 14 HT_.out (mb 3 5) ?_;refine mpu 3 15 HT_.out (mb 4 4) ?_;refine mpu 5 17 HT_.out (mr [4,1,1,2]) ?_;refine mpt 4 16 HT_.out HW_.out (mb 6 2) hHeld ?_;refine mone 6 (some 18) HT_.out (mb 7 1) (fun K hK=>?_);refine goes_ Try.func98 (by kernel_rfl) rfl #[.int .i64 x1_1] (by rfl) rfl rfl mA ?_
       with_reducible refine(laws_markText.calls k1 x1_1 t186 _ A5.out).mono ?_
       rintro e w11 ⟨rfl,hb⟩;refine⟨_,rfl,?_⟩;replace HB:=mS (below_step (mH HB.out) hb)
       (try clear hb)
       (try clear hb2)
       (try clear hk)
       (try clear hi)
       refine hK.out _ _ ⟨(mX HB.out hw185_0 :),(mX HB.out hw185_1 :)⟩ (fun hHeld=>?_);clear hK K;refine mno 18 ?_;refine mpu 7 19 HT_.out (mb 8 0) ?_;refine done_ (done_of HT_.out (by kernel_rfl)) ?_;have p187:0≤(x5_1:Int):=mD;have q187:x5_1<(l0.length:Int):=mD;obtain⟨ad187,e187,hx187_0,hx187_1⟩:=at_T63 HR0.out x5_1 p187 q187;obtain rfl:ad185=ad187:=(by injection e187);replace hx187_0:=mX HB.out hx187_0;replace hx187_1:=mX HB.out hx187_1;replace p187:=eq_true p187;replace q187:=eq_true q187
       try go_wp2
       go_ret;exact⟨mEw,(mH HB.out)⟩
     ·rw[if_neg c6]at H;have c6b0:(((rd_T63 l0 x5_1).f0).toList == t186.toList)=false:=beq_eq_false_iff_ne.mpr c6;have c6b1:(((rd_T63 l0 x5_1).f0).toList != t186.toList)=true:=bne_iff_ne.mpr c6;obtain rfl:=Option.some.inj H
      try go_wp2
      replace HB:=mS (below_drew1 HB.out);have p185:0≤(x5_1:Int):=mD;have q185:x5_1<(l0.length:Int):=mD;obtain⟨ad185,e185,hx185_0,hx185_1⟩:=at_T63 HR0.out x5_1 p185 q185;have hw185_1:=hx185_1;have hw185_0:=hx185_0;cases e185
      replace hx185_0:=mX HB.out hx185_0;replace hx185_1:=mX HB.out hx185_1;replace p185:=eq_true p185;replace q185:=eq_true q185;refine start_ (n:=8) (S:=fun w'=>w'.cell? (ad185.add ((x5_1).toNat*2))=some (.string ((rd_T63 l0 x5_1).f0))∧w'.cell? ⟨(ad185.add ((x5_1).toNat*2)).block,(ad185.add ((x5_1).toNat*2)).off+1,none⟩=some (.int .i64 ((rd_T63 l0 x5_1).f1))) (ds:=[]) (mb 0 8) (by kernel_rfl) rfl rfl ⟨(mX HB.out hw185_0 :),(mX HB.out hw185_1 :)⟩ (fun hHeld=>?_);refine with_tabW laws_heldEntryS.tab4 laws_heldEntryS.bits4 (fun HT_ HW_=>?_);generalize wr.drew=w12 at HB hx185_0 hx185_1 hHeld ⊢
      refine mpu 0 12 HT_.out (mb 1 7) ?_;refine mpu 1 13 HT_.out (mb 2 6) ?_;refine mpu 2 14 HT_.out (mb 3 5) ?_;refine mpu 3 15 HT_.out (mb 4 4) ?_;refine mpu 5 17 HT_.out (mr [4,1,1,2]) ?_;refine mpt 4 16 HT_.out HW_.out (mb 6 2) hHeld ?_;refine mone 6 (some 18) HT_.out (mb 7 1) (fun K hK=>?_);refine goes_ Try.func98 (by kernel_rfl) rfl #[.int .i64 x1_1] (by rfl) rfl rfl mA ?_
      with_reducible refine(laws_markText.calls k1 x1_1 t186 _ A5.out).mono ?_
      rintro e w13 ⟨rfl,hb⟩;refine⟨_,rfl,?_⟩;replace HB:=mS (below_step (mH HB.out) hb)
      (try clear hb)
      (try clear hb2)
      (try clear hk)
      (try clear hi)
      refine hK.out _ _ ⟨(mX HB.out hw185_0 :),(mX HB.out hw185_1 :)⟩ (fun hHeld=>?_);clear hK K;refine mno 18 ?_;refine mpu 7 19 HT_.out (mb 8 0) ?_;refine done_ (done_of HT_.out (by kernel_rfl)) ?_
      try go_wp2
      go_ret;exact⟨mEw,(mH HB.out)⟩
    ·rw[if_neg c4]at H;exact absurd H (by simp)
   ·rw[if_neg c3]at H;have c3b0:=decide_eq_false c3;clear c3;obtain rfl:=Option.some.inj H;go_wp2;go_ret;exact⟨mEw,(mH HB.out)⟩
def laws_heldDisk.f (k:Nat) (l0_0:List (S80)) (l0_1:List (S63)) (l0_2:List (S63)) (a0_3:Int) (a1:Int):Option (Int):=(laws_heldInodeS.f k l0_0 a1).bind fun t189=>(if t189<0 then (some (-1)) else ((laws_heldEntryS.f k l0_1 t189).bind fun t190=>(if t190<0 then (some (-1)) else ((laws_heldEntryS.f k l0_2 t190).bind fun t191=>(if t191<0 then (some (-1)) else (some t191))))))
set_option maxHeartbeats 8000000 in
set_option maxRecDepth 100000 in
theorem laws_heldDisk.calls (k:Nat) (A0_0:Option Addr) (c0_0:Nat) (l0_0:List (S80)) (A0_1:Option Addr) (c0_1:Nat) (l0_1:List (S63)) (A0_2:Option Addr) (c0_2:Nat) (l0_2:List (S63)) (a0_3:Int) (a1:Int) (r:Int) (w:World) (hr0_0:Kd.C k80 w A0_0 l0_0.length l0_0) (hc0_0:l0_0.length≤c0_0) (hr0_1:Kd.C k63 w A0_1 l0_1.length l0_1) (hc0_1:l0_1.length≤c0_1) (hr0_2:Kd.C k63 w A0_2 l0_2.length l0_2) (hc0_2:l0_2.length≤c0_2) (h:laws_heldDisk.f k l0_0 l0_1 l0_2 a0_3 a1=some r) :
 Calls Try.prog 18 #[.agg #[.slice A0_0 l0_0.length c0_0,.slice A0_1 l0_1.length c0_1,.slice A0_2 l0_2.length c0_2,.int .i64 a0_3],.int .i64 a1] w fun e w'=>e = .returned (.int .i64 r)∧Below w.heap.size w w':=by
 have hu30:=Try.underlying30;have HR0_0:=mS hr0_0;have HC0_0:=mS hc0_0;clear hr0_0 hc0_0;have HR0_1:=mS hr0_1;have HC0_1:=mS hc0_1;clear hr0_1 hc0_1;have HR0_2:=mS hr0_2;have HC0_2:=mS hc0_2;clear hr0_2 hc0_2;have HB:=mS (Below.refl w.heap.size w);have H:((laws_heldInodeS.f k l0_0 a1).bind fun t189=>(if t189<0 then (some (-1)) else ((laws_heldEntryS.f k l0_1 t189).bind fun t190=>(if t190<0 then (some (-1)) else ((laws_heldEntryS.f k l0_2 t190).bind fun t191=>(if t191<0 then (some (-1)) else (some t191)))))))=some r:=h;clear h;replace H:=Option.bind_eq_some_iff.mp H;obtain⟨t189,A30,H⟩:=H;replace H:(if t189<0 then (some (-1)) else ((laws_heldEntryS.f k l0_1 t189).bind fun t190=>(if t190<0 then (some (-1)) else ((laws_heldEntryS.f k l0_2 t190).bind fun t191=>(if t191<0 then (some (-1)) else (some t191))))))=some r:=H;have A3:=mS A30;clear A30;by_cases c4:t189<0
 ·rw[if_pos c4]at H;have c4b0:=decide_eq_true c4;clear c4;obtain rfl:=Option.some.inj H;go_enter Try.func18,Try.ntmps18;go_wp2_with (first|((with_reducible refine gate_dst (N:=2) rfl ?_);refine mBx 2 #[.slice A0_0 l0_0.length c0_0,.slice A0_1 l0_1.length c0_1,.slice A0_2 l0_2.length c0_2,.int .i64 a0_3] 30 ?_;intro gb188 hg w5 hbox hb;have BK188:=mS (hbox);have GW188:=mG hg (mH HB.out);have GE188:=mG hg (mH HB.out);replace HB:=mS (below_step (mH HB.out) hb);clear hb hbox hg;obtain⟨hcz6_0,hcz6_1,hcz6_2,hcz6_3,hfz6_0,hfz6_1,hfz6_2,hfz6_3⟩:=mZ4 BK188.out)|((with_reducible refine gate_callee (f:=64) rfl ?_);refine mGo 8 Try.func64 #[.slice A0_0 l0_0.length c0_0,.int .i64 a1] ?_;(with_reducible refine(laws_heldInodeS.calls k _ _ l0_0 a1 t189 _ ?side1 ?side2 A3.out).mono ?_);(case side1=>exact mC (Kd.C_below HR0_0.out HB.out));(case side2=>exact HC0_0.out);rintro e w' ⟨rfl,⟨nd,rfl⟩⟩;refine⟨_,rfl,?_⟩));go_ret;exact⟨mEw,(mH1 HB.out GE188.out)⟩
 ·rw[if_neg c4]at H;have c4b0:=decide_eq_false c4;clear c4;replace H:=Option.bind_eq_some_iff.mp H;obtain⟨t190,A70,H⟩:=H;replace H:(if t190<0 then (some (-1)) else ((laws_heldEntryS.f k l0_2 t190).bind fun t191=>(if t191<0 then (some (-1)) else (some t191))))=some r:=H;have A7:=mS A70;clear A70;by_cases c8:t190<0
  ·rw[if_pos c8]at H;have c8b0:=decide_eq_true c8;clear c8;obtain rfl:=Option.some.inj H;go_enter Try.func18,Try.ntmps18;go_wp2_with (first|((with_reducible refine gate_dst (N:=2) rfl ?_);refine mBx 2 #[.slice A0_0 l0_0.length c0_0,.slice A0_1 l0_1.length c0_1,.slice A0_2 l0_2.length c0_2,.int .i64 a0_3] 30 ?_;intro gb188 hg w9 hbox hb;have BK188:=mS (hbox);have GW188:=mG hg (mH HB.out);have GE188:=mG hg (mH HB.out);replace HB:=mS (below_step (mH HB.out) hb);clear hb hbox hg;obtain⟨hcz10_0,hcz10_1,hcz10_2,hcz10_3,hfz10_0,hfz10_1,hfz10_2,hfz10_3⟩:=mZ4 BK188.out)|((with_reducible refine gate_callee (f:=64) rfl ?_);refine mGo 8 Try.func64 #[.slice A0_0 l0_0.length c0_0,.int .i64 a1] ?_;(with_reducible refine(laws_heldInodeS.calls k _ _ l0_0 a1 t189 _ ?side1 ?side2 A3.out).mono ?_);(case side1=>exact mC (Kd.C_below HR0_0.out HB.out));(case side2=>exact HC0_0.out);rintro e w' ⟨rfl,⟨nd,rfl⟩⟩;refine⟨_,rfl,?_⟩)|((with_reducible refine gate_callee (f:=65) rfl ?_);refine mGo 14 Try.func65 #[.slice A0_1 l0_1.length c0_1,.int .i64 t189] ?_;(with_reducible refine(laws_heldEntryS.calls k _ _ l0_1 t189 t190 _ ?side1 ?side2 A7.out).mono ?_);(case side1=>exact mC (Kd.C_below HR0_1.out (mH1 HB.out GE188.out)));(case side2=>exact HC0_1.out);rintro e w11 ⟨rfl,hb⟩;refine⟨_,rfl,?_⟩;replace BK188:=mB BK188 hb;replace HB:=mS (below_step (mH1 HB.out GE188.out) hb);(try clear hb)));go_ret;exact⟨mEw,(mH1 HB.out GE188.out)⟩
  ·rw[if_neg c8]at H;have c8b0:=decide_eq_false c8;clear c8;replace H:=Option.bind_eq_some_iff.mp H;obtain⟨t191,A120,H⟩:=H;replace H:(if t191<0 then (some (-1)) else (some t191))=some r:=H;have A12:=mS A120;clear A120;by_cases c13:t191<0
   ·rw[if_pos c13]at H;have c13b0:=decide_eq_true c13;clear c13;obtain rfl:=Option.some.inj H;go_enter Try.func18,Try.ntmps18;go_wp2_with (first|((with_reducible refine gate_dst (N:=2) rfl ?_);refine mBx 2 #[.slice A0_0 l0_0.length c0_0,.slice A0_1 l0_1.length c0_1,.slice A0_2 l0_2.length c0_2,.int .i64 a0_3] 30 ?_;intro gb188 hg w14 hbox hb;have BK188:=mS (hbox);have GW188:=mG hg (mH HB.out);have GE188:=mG hg (mH HB.out);replace HB:=mS (below_step (mH HB.out) hb);clear hb hbox hg;obtain⟨hcz15_0,hcz15_1,hcz15_2,hcz15_3,hfz15_0,hfz15_1,hfz15_2,hfz15_3⟩:=mZ4 BK188.out)|((with_reducible refine gate_callee (f:=64) rfl ?_);refine mGo 8 Try.func64 #[.slice A0_0 l0_0.length c0_0,.int .i64 a1] ?_;(with_reducible refine(laws_heldInodeS.calls k _ _ l0_0 a1 t189 _ ?side1 ?side2 A3.out).mono ?_);(case side1=>exact mC (Kd.C_below HR0_0.out HB.out));(case side2=>exact HC0_0.out);rintro e w' ⟨rfl,⟨nd,rfl⟩⟩;refine⟨_,rfl,?_⟩)|((with_reducible refine gate_callee (f:=65) rfl ?_);refine mGo 14 Try.func65 #[.slice A0_1 l0_1.length c0_1,.int .i64 t189] ?_;(with_reducible refine(laws_heldEntryS.calls k _ _ l0_1 t189 t190 _ ?side1 ?side2 A7.out).mono ?_);(case side1=>exact mC (Kd.C_below HR0_1.out (mH1 HB.out GE188.out)));(case side2=>exact HC0_1.out);rintro e w16 ⟨rfl,hb⟩;refine⟨_,rfl,?_⟩;replace BK188:=mB BK188 hb;replace HB:=mS (below_step (mH1 HB.out GE188.out) hb);(try clear hb);obtain⟨hcz17_0,hcz17_1,hcz17_2,hcz17_3,hfz17_0,hfz17_1,hfz17_2,hfz17_3⟩:=mZ4 BK188.out)|((with_reducible refine gate_callee (f:=65) rfl ?_);refine mGo 20 Try.func65 #[.slice A0_2 l0_2.length c0_2,.int .i64 t190] ?_;(with_reducible refine(laws_heldEntryS.calls k _ _ l0_2 t190 t191 _ ?side1 ?side2 A12.out).mono ?_);(case side1=>exact mC (Kd.C_below HR0_2.out HB.out));(case side2=>exact HC0_2.out);rintro e w18 ⟨rfl,hb⟩;refine⟨_,rfl,?_⟩;replace BK188:=mB BK188 hb;replace HB:=mS (below_step (mH1 HB.out GE188.out) hb);(try clear hb)));go_ret;exact⟨mEw,(mH1 HB.out GE188.out)⟩
   ·rw[if_neg c13]at H;have c13b0:=decide_eq_false c13;clear c13;obtain rfl:=Option.some.inj H;go_enter Try.func18,Try.ntmps18;go_wp2_with (first|((with_reducible refine gate_dst (N:=2) rfl ?_);refine mBx 2 #[.slice A0_0 l0_0.length c0_0,.slice A0_1 l0_1.length c0_1,.slice A0_2 l0_2.length c0_2,.int .i64 a0_3] 30 ?_;intro gb188 hg w19 hbox hb;have BK188:=mS (hbox);have GW188:=mG hg (mH HB.out);have GE188:=mG hg (mH HB.out);replace HB:=mS (below_step (mH HB.out) hb);clear hb hbox hg;obtain⟨hcz20_0,hcz20_1,hcz20_2,hcz20_3,hfz20_0,hfz20_1,hfz20_2,hfz20_3⟩:=mZ4 BK188.out)|((with_reducible refine gate_callee (f:=64) rfl ?_);refine mGo 8 Try.func64 #[.slice A0_0 l0_0.length c0_0,.int .i64 a1] ?_;(with_reducible refine(laws_heldInodeS.calls k _ _ l0_0 a1 t189 _ ?side1 ?side2 A3.out).mono ?_);(case side1=>exact mC (Kd.C_below HR0_0.out HB.out));(case side2=>exact HC0_0.out);rintro e w' ⟨rfl,⟨nd,rfl⟩⟩;refine⟨_,rfl,?_⟩)|((with_reducible refine gate_callee (f:=65) rfl ?_);refine mGo 14 Try.func65 #[.slice A0_1 l0_1.length c0_1,.int .i64 t189] ?_;(with_reducible refine(laws_heldEntryS.calls k _ _ l0_1 t189 t190 _ ?side1 ?side2 A7.out).mono ?_);(case side1=>exact mC (Kd.C_below HR0_1.out (mH1 HB.out GE188.out)));(case side2=>exact HC0_1.out);rintro e w21 ⟨rfl,hb⟩;refine⟨_,rfl,?_⟩;replace BK188:=mB BK188 hb;replace HB:=mS (below_step (mH1 HB.out GE188.out) hb);(try clear hb);obtain⟨hcz22_0,hcz22_1,hcz22_2,hcz22_3,hfz22_0,hfz22_1,hfz22_2,hfz22_3⟩:=mZ4 BK188.out)|((with_reducible refine gate_callee (f:=65) rfl ?_);refine mGo 20 Try.func65 #[.slice A0_2 l0_2.length c0_2,.int .i64 t190] ?_;(with_reducible refine(laws_heldEntryS.calls k _ _ l0_2 t190 t191 _ ?side1 ?side2 A12.out).mono ?_);(case side1=>exact mC (Kd.C_below HR0_2.out HB.out));(case side2=>exact HC0_2.out);rintro e w23 ⟨rfl,hb⟩;refine⟨_,rfl,?_⟩;replace BK188:=mB BK188 hb;replace HB:=mS (below_step (mH1 HB.out GE188.out) hb);(try clear hb)));go_ret;exact⟨mEw,(mH1 HB.out GE188.out)⟩
end Go.Proofs.Ytgpkdbnikcghgaa.MD
