-- Written by mp.py, our own printer (wip/mp.py), and made shorter by wip/mp_shrink*.py.
import Derived.Test.YtingkpnoiekliaaGreatVAll
import Derived.Test.YtingkpnoiekliaaGreatG1
namespace Go.Proofs.YtingkpnoiekliaaGreat.MZ
open Go.RowKit Go.Proofs.YtingkpnoiekliaaGreatW.PrintWords Go.Proofs.YtingkpnoiekliaaGreatW.PrintLast Go.Proofs.YtingkpnoiekliaaGreatW.PrintMore Go.Proofs.YtingkpnoiekliaaGreat.MWords
attribute [local go_sem] max2_int min2_int max_two min_two max_three min_three max_four min_four
set_option linter.unusedVariables false
set_option linter.unusedSimpArgs false
mutual
def ek.U:Nat→List Int→Int→Int→Int→Option (Int × Int × Bool)
 |0,_,_,_,_=>none
 |k+1,x0,x1,x7,x8=>if x8<5 then (if x1≥0 then (ek.j1 k x0 x1 x7 x8 (decide (x1<(wrap64 ((x0.length:Int)-x8))))) else (ek.j1 k x0 x1 x7 x8 false)) else (ek.j1 k x0 x1 x7 x8 false)
def ek.j1:Nat→List Int→Int→Int→Int→Bool→Option (Int × Int × Bool)
 |0,_,_,_,_,_=>none
 |k+1,x0,x1,x7,x8,Il=>if Il=true then (if 0≤(wrap64 (x1+x8)) then (if (wrap64 (x1+x8))<(x0.length:Int) then (if x8=0 then (ek.j2 k x0 x1 x7 x8 (wrap64 (rd x0 (wrap64 (x1+x8)))) ((wrap64 (rd x0 (wrap64 (x1+x8)))) == 128)) else (ek.j2 k x0 x1 x7 x8 (wrap64 (rd x0 (wrap64 (x1+x8)))) false)) else (none)) else (none)) else (some (0,0,false))
def ek.j2:Nat→List Int→Int→Int→Int→Int→Bool→Option (Int × Int × Bool)
 |0,_,_,_,_,_,_=>none
 |k+1,x0,x1,x7,x8,x9,x38=>if x38=true then (some (0,0,false)) else (if x9≥128 then (ek.U k x0 x1 (wrap64 ((wrap64 (x7*128))+(Int.tmod x9 128))) (wrap64 (x8+1))) else (if (wrap64 ((wrap64 (x7*128))+(Int.tmod x9 128)))>1000000000 then (some (0,0,false)) else (some (wrap64 ((wrap64 (x7*128))+(Int.tmod x9 128)),wrap64 ((wrap64 (x1+x8))+1),true))))
end
def ek.f (k:Nat) (U:List Int) (a1:Int):Option (Int × Int × Bool):=ek.U k U a1 0 0
set_option maxHeartbeats 8000000 in
set_option maxRecDepth 100000 in
theorem ek.calls (k:Nat) (A0:Option Addr) (c0:Nat) (U:List Int) (a1:Int) (r1:Int) (r2:Int) (r3:Bool) (w:World) (bJ:Kd.C (Kd.int .u8) w A0 U.length U) (bz:U.length≤c0) (h:ek.f k U a1=some (r1,r2,r3)) :
 Calls Tryz.prog 114 #[.slice A0 U.length c0,.int .i64 a1] w fun e w'=>e = .returned (.tuple #[.int .i64 r1,.int .i64 r2,.bool r3])∧ay w w':=by
 have bB:=J bJ;have eb:=J bz;clear bJ bz;have H:(ek.U k U a1 0 0)=some (r1,r2,r3):=h;clear h;have H':=J H;clear H;go_enter Tryz.func114,Tryz.ntmps114;go_wp2;go_loopg [7,8] k (fun kq v7 v8 w'=>∃(cy:Int) (fO:Int),v7 = .int .i64 cy∧v8 = .int .i64 fO∧Aside0 (ek.U kq U a1 cy fO=some (r1,r2,r3))∧Aside0 (kq≤k)∧ay w w')
 case atStart=>exact⟨(0),(0),mE,mE,H',⟨Nat.le_refl _⟩,by repeat (first|exact ay.refl _|apply ay.step)⟩
 case round=>
  clear H'
  obtain⟨cy,fO,rfl,rfl,HA,aQ,⟨m1,rfl⟩⟩:=hrel;cases gk with
  |zero=>exact absurd HA.1 (by simp[ek.U])
  |succ k1=>
   have H:=HA.1;clear HA;simp only[ek.U]at H;have oq:=J H;clear H;go_upto_region 3 with (fail)
   go_cut [23] (fun v23 wc=>∃(kq:Nat) (LO:Bool),v23 = .bool LO∧Aside0 (ek.j1 kq U a1 cy fO LO=some (r1,r2,r3))∧Aside0 (kq≤k1)∧ay w wc)
   case first=>
    have H:=oq.1;clear oq;by_cases c4:fO<5
    ·rw[if_pos c4]at H;have cV:=decide_eq_true c4;clear c4
     (first|rw[cV]|(simp only[dJ,gx];rw[cV])|skip)
     by_cases c5:a1≥0
     ·rw[if_pos c5]at H;have eS:decide (0≤a1)=true:=decide_eq_true c5;clear c5;have H':=J H;clear H;go_wp2;go_meet
      case rel=>exact⟨_,(decide (a1<(wrap64 ((U.length:Int)-fO)))),mE,H',⟨by have:=aQ.1;first|omega|exact Nat.le_refl _⟩,by repeat (first|exact ay.refl _|apply ay.step)⟩
     ·rw[if_neg c5]at H;have eS:decide (0≤a1)=false:=decide_eq_false c5;clear c5;have H':=J H;clear H;go_wp2;go_meet
      case rel=>exact⟨_,(false),mE,H',⟨by have:=aQ.1;first|omega|exact Nat.le_refl _⟩,by repeat (first|exact ay.refl _|apply ay.step)⟩
    ·rw[if_neg c4]at H;have cV:=decide_eq_false c4;clear c4
     (first|rw[cV]|(simp only[dJ,gx];rw[cV])|skip)
     have H':=J H;clear H;go_wp2;go_meet
     case rel=>exact⟨_,(false),mE,H',⟨by have:=aQ.1;first|omega|exact Nat.le_refl _⟩,by repeat (first|exact ay.refl _|apply ay.step)⟩
   case rest=>
    clear oq
    obtain⟨kq,LO,rfl,HA,rn,⟨Za,rfl⟩⟩:=hcut;cases kq with
    |zero=>exact absurd HA.1 (by simp[ek.j1])
    |succ sx=>
     have H:=HA.1;clear HA;simp only[ek.j1]at H;by_cases c6:LO=true
     ·subst c6;have H1:=H;rw[if_pos rfl]at H1;clear H;have H:=H1;clear H1;obtain⟨k5,wL⟩:∃j_:Int,(wrap64 (a1+fO))=j_:=⟨_,rfl⟩;replace H:(if 0≤(k5) then (if (k5)<(U.length:Int) then (if fO=0 then (ek.j2 sx U a1 cy fO (wrap64 (rd U (k5))) ((wrap64 (rd U (k5))) == 128)) else (ek.j2 sx U a1 cy fO (wrap64 (rd U (k5))) false)) else (none)) else (none))=some (r1,r2,r3):=by first|(rw[wL]at H;exact H)|(simp only[wL]at H ⊢;exact H)
      have avt:(IntKind.i64.wrap (a1+fO))=k5:=(dJ _).trans wL;by_cases c8:0≤(k5)
      ·rw[if_pos c8]at H;have nL:=decide_eq_true c8;clear c8;by_cases c9:(k5)<(U.length:Int)
       ·rw[if_pos c9]at H;have ma:=decide_eq_true c9;clear c9;have MH:=J H;clear H;have KX:0≤((k5):Int):=mD;have K8:(k5)<(U.length:Int):=mD;obtain⟨aps,afP,akU⟩:=Kd.lB bB.1 (k5) KX K8;cases afP
        replace KX:=eq_true KX;replace K8:=eq_true K8;go_upto_region 6 with (fail)
        go_cut [38] (fun v38 wc=>∃(kq:Nat) (LX:Bool),v38 = .bool LX∧Aside0 (ek.j2 kq U a1 cy fO (wrap64 (rd U (k5))) LX=some (r1,r2,r3))∧Aside0 (kq≤sx)∧ay w wc)
        case first=>
         have H:=MH.1;clear MH;by_cases ff:fO=0
         ·rw[if_pos ff]at H;have uj:(fO == 0)=true:=beq_iff_eq.mpr ff;have I9:(fO != 0)=false:=bne_eq_false_iff_eq.mpr ff;clear ff
          (first|rw[uj]|(simp only[dJ,gx];rw[uj])|skip)
          have H':=J H;clear H;go_wp2;go_meet
          case rel=>exact⟨_,(((wrap64 (rd U (k5))) == 128)),(by first|rfl|(simp;done)|(simp only[←wL]<;>(first|rfl|simp))|(simp[*];done)),H',⟨by have:=aQ.1;have:=rn.1;first|omega|exact Nat.le_refl _⟩,by repeat (first|exact ay.refl _|apply ay.step)⟩
         ·rw[if_neg ff]at H;have uj:(fO == 0)=false:=beq_eq_false_iff_ne.mpr ff;have I9:(fO != 0)=true:=bne_iff_ne.mpr ff
          (first|rw[uj]|(simp only[dJ,gx];rw[uj])|skip)
          have H':=J H;clear H;go_wp2;go_meet
          case rel=>exact⟨_,(false),mE,H',⟨by have:=aQ.1;have:=rn.1;first|omega|exact Nat.le_refl _⟩,by repeat (first|exact ay.refl _|apply ay.step)⟩
        case rest=>
         clear MH
         try clear c6
         try clear c8
         try clear nL
         try clear c9
         try clear ma
         try clear akU
         try clear KX
         try clear K8
         obtain⟨kq,LX,rfl,HA,TE,⟨mc9,rfl⟩⟩:=hcut;cases kq with
         |zero=>exact absurd HA.1 (by simp[ek.j2])
         |succ kj9=>
          have H:=HA.1;clear HA;simp only[ek.j2]at H;by_cases dI:LX=true
          ·subst dI;have H1:=H;rw[if_pos rfl]at H1;clear H;have H:=H1;clear H1;simp only[Option.some.injEq,Prod.mk.injEq]at H;obtain⟨rfl,rfl,rfl⟩:=H;go_wp2;go_ret3;exact⟨by first|rfl|(simp;done)|(simp only[←wL]<;>(first|rfl|simp))|(simp[*];done),by repeat (first|exact ay.refl _|apply ay.step)⟩
          ·replace dI:=Bool.eq_false_iff.mpr dI;subst dI;have H1:=H;rw[if_neg (show ¬(false=true) by decide)]at H1;clear H;have H:=H1;clear H1;by_cases cY:(wrap64 (rd U (k5)))≥128
           ·rw[if_pos cY]at H;have o5:decide (128≤(wrap64 (rd U (k5))))=true:=decide_eq_true cY;clear cY;have H':=J H;clear H;go_wp2;go_roundg kj9
            case measure=>have:=aQ.1;have:=rn.1;have:=TE.1;omega
            case rel=>exact⟨(wrap64 ((wrap64 (cy*128))+(Int.tmod (wrap64 (rd U (k5))) 128))),(wrap64 (fO+1)),(by first|rfl|(simp;done)|(simp only[←wL]<;>(first|rfl|simp))|(simp[*];done)),mE,H',⟨by have:=aQ.1;have:=rn.1;have:=TE.1;omega⟩,by repeat (first|exact ay.refl _|apply ay.step)⟩
           ·rw[if_neg cY]at H;have o5:decide (128≤(wrap64 (rd U (k5))))=false:=decide_eq_false cY;clear cY;by_cases gq:(wrap64 ((wrap64 (cy*128))+(Int.tmod (wrap64 (rd U (k5))) 128)))>1000000000
            ·rw[if_pos gq]at H;have yF:decide (1000000000<(wrap64 ((wrap64 (cy*128))+(Int.tmod (wrap64 (rd U (k5))) 128))))=true:=decide_eq_true gq;clear gq;simp only[Option.some.injEq,Prod.mk.injEq]at H;obtain⟨rfl,rfl,rfl⟩:=H;go_wp2;go_ret3;exact⟨by first|rfl|(simp;done)|(simp only[←wL]<;>(first|rfl|simp))|(simp[*];done),by repeat (first|exact ay.refl _|apply ay.step)⟩
            ·rw[if_neg gq]at H;have yF:decide (1000000000<(wrap64 ((wrap64 (cy*128))+(Int.tmod (wrap64 (rd U (k5))) 128))))=false:=decide_eq_false gq;clear gq;simp only[Option.some.injEq,Prod.mk.injEq]at H;obtain⟨rfl,rfl,rfl⟩:=H;go_wp2;go_ret3;exact⟨by first|rfl|(simp;done)|(simp only[←wL]<;>(first|rfl|simp))|(simp[*];done),by repeat (first|exact ay.refl _|apply ay.step)⟩
       ·rw[if_neg c9]at H;exact absurd H (by simp)
      ·rw[if_neg c8]at H;exact absurd H (by simp)
     ·replace c6:=Bool.eq_false_iff.mpr c6;subst c6;have H1:=H;rw[if_neg (show ¬(false=true) by decide)]at H1;clear H;have H:=H1;clear H1;simp only[Option.some.injEq,Prod.mk.injEq]at H;obtain⟨rfl,rfl,rfl⟩:=H;go_wp2;go_ret3;exact⟨mE,by repeat (first|exact ay.refl _|apply ay.step)⟩
def uJ.f (k:Nat) (U:List Int) (a1:Int):Option (ByteArray × Int × Bool):=(ek.f k U a1).bind fun il=>(if il.2.2=true then (if il.1>(wrap64 ((U.length:Int)-il.2.1)) then (some ((⟨#[]⟩:ByteArray),0,false)) else (if 0≤il.2.1 then (if il.2.1≤(wrap64 (il.2.1+il.1)) then (if (wrap64 (il.2.1+il.1))≤(U.length:Int) then (some (strOfNums ((U.take ((wrap64 (il.2.1+il.1)):Int).toNat).drop (il.2.1:Int).toNat),wrap64 (il.2.1+il.1),true)) else (none)) else (none)) else (none))) else (some ((⟨#[]⟩:ByteArray),0,false)))
set_option maxHeartbeats 8000000 in
set_option maxRecDepth 100000 in
theorem uJ.calls (k:Nat) (A0:Option Addr) (c0:Nat) (U:List Int) (a1:Int) (r1:ByteArray) (r2:Int) (r3:Bool) (w:World) (bJ:Kd.C (Kd.int .u8) w A0 U.length U) (bz:U.length≤c0) (h:uJ.f k U a1=some (r1,r2,r3)) :
 Calls Tryz.prog 78 #[.slice A0 U.length c0,.int .i64 a1] w fun e w'=>e = .returned (.tuple #[.string r1,.int .i64 r2,.bool r3])∧ay w w':=by
 have bB:=J bJ;have eb:=J bz;clear bJ bz;have H:((ek.f k U a1).bind fun il=>(if il.2.2=true then (if il.1>(wrap64 ((U.length:Int)-il.2.1)) then (some ((⟨#[]⟩:ByteArray),0,false)) else (if 0≤il.2.1 then (if il.2.1≤(wrap64 (il.2.1+il.1)) then (if (wrap64 (il.2.1+il.1))≤(U.length:Int) then (some (strOfNums ((U.take ((wrap64 (il.2.1+il.1)):Int).toNat).drop (il.2.1:Int).toNat),wrap64 (il.2.1+il.1),true)) else (none)) else (none)) else (none))) else (some ((⟨#[]⟩:ByteArray),0,false))))=some (r1,r2,r3):=h;clear h;replace H:=Option.bind_eq_some_iff.mp H;obtain⟨⟨t152,t153,t154⟩,dY,H⟩:=H;replace H:(if t154=true then (if t152>(wrap64 ((U.length:Int)-t153)) then (some ((⟨#[]⟩:ByteArray),0,false)) else (if 0≤t153 then (if t153≤(wrap64 (t153+t152)) then (if (wrap64 (t153+t152))≤(U.length:Int) then (some (strOfNums ((U.take ((wrap64 (t153+t152)):Int).toNat).drop (t153:Int).toNat),wrap64 (t153+t152),true)) else (none)) else (none)) else (none))) else (some ((⟨#[]⟩:ByteArray),0,false)))=some (r1,r2,r3):=H;have A3:=J dY;clear dY;by_cases c4:t154=true
 ·subst c4;have H1:=H;rw[if_pos rfl]at H1;clear H;have H:=H1;clear H1;by_cases c5:t152>(wrap64 ((U.length:Int)-t153))
  ·rw[if_pos c5]at H;have eS:decide ((wrap64 ((U.length:Int)-t153))<t152)=true:=decide_eq_true c5;clear c5;simp only[Option.some.injEq,Prod.mk.injEq]at H;obtain⟨rfl,rfl,rfl⟩:=H;go_enter Tryz.func78,Tryz.ntmps78;go_wp2_with (first|((with_reducible refine aJ (f:=114) rfl ?_);refine bA 13 Tryz.func114 #[.slice A0 U.length c0,.int .i64 a1] ?_;(with_reducible refine(ek.calls k _ _ U a1 t152 t153 true _ ?az ?aA A3.1).mono ?_);(case az=>exact mC bB.1);(case aA=>exact eb.1);rintro e w' ⟨rfl,⟨nd,rfl⟩⟩;refine⟨_,rfl,?_⟩));go_ret3;exact⟨mE,by repeat (first|exact ay.refl _|apply ay.step)⟩
  ·rw[if_neg c5]at H;have eS:decide ((wrap64 ((U.length:Int)-t153))<t152)=false:=decide_eq_false c5;clear c5;by_cases c6:0≤t153
   ·rw[if_pos c6]at H;have eh:=eq_true c6;have o8:=decide_eq_true c6;clear c6;by_cases c7:t153≤(wrap64 (t153+t152))
    ·rw[if_pos c7]at H;have jN:=eq_true c7;have BL:=decide_eq_true c7;by_cases c8:(wrap64 (t153+t152))≤(U.length:Int)
     ·rw[if_pos c8]at H;have nL:=eq_true c8;have yI:=decide_eq_true c8;simp only[Option.some.injEq,Prod.mk.injEq]at H;obtain⟨rfl,rfl,rfl⟩:=H;go_enter Tryz.func78,Tryz.ntmps78;go_wp2_with (first|((with_reducible refine aJ (f:=114) rfl ?_);refine bA 13 Tryz.func114 #[.slice A0 U.length c0,.int .i64 a1] ?_;(with_reducible refine(ek.calls k _ _ U a1 t152 t153 true _ ?az ?aA A3.1).mono ?_);(case az=>exact mC bB.1);(case aA=>exact eb.1);rintro e w' ⟨rfl,⟨nd,rfl⟩⟩;refine⟨_,rfl,?_⟩;obtain⟨i09,XA,_,X7,_⟩:=info_parts sr;obtain⟨A9,aqe,Wl,Wq⟩:=RG (P:=Tryz.prog) (Value.int .u8) 0 22 5 .i64 .i64 Tryz.underlying22 XA X7 A0 c0 U t153 (wrap64 (t153+t152)) (mD) (by first|omega|exact mD) (mD) eb.1;have IJ:=J (Kd.Mo (h1:=fun _=>rfl) (Wl _ (Kd.CH bB.1)));have apl:=J Wq;clear Wl Wq XA X7;have aqf:=Kd.Ix (P:=Tryz.prog) (A:=A9) (c:=(c0-t153.toNat)) Tryz.underlying22 Tryz.underlying5 Tryz.underlying9 IJ.1;have aqg:=fun n_:Nat=>Kd.Ix (P:=Tryz.prog) (A:=A9) (c:=(c0-t153.toNat)) Tryz.underlying22 Tryz.underlying5 Tryz.underlying9 (Kd.vx IJ.1 n_);have QD:=(show ((U.take ((wrap64 (t153+t152)):Int).toNat).drop (t153:Int).toNat).length=((wrap64 (t153+t152)):Int).toNat-(t153:Int).toNat from by rw[List.length_drop,List.length_take,Nat.min_eq_left (by omega)]);have aho:=Kd.Ix (P:=Tryz.prog) (A:=A9) (c:=(c0-t153.toNat)) Tryz.underlying22 Tryz.underlying5 Tryz.underlying9 IJ.1;rw[QD]at aho;have aqi:=fun n_:Nat=>(show _ from by have z_:=Kd.Ix (P:=Tryz.prog) (A:=A9) (c:=(c0-t153.toNat)) Tryz.underlying22 Tryz.underlying5 Tryz.underlying9 (Kd.vx IJ.1 n_);rw[QD]at z_;exact z_);clear QD));go_ret3;exact⟨mE,by repeat (first|exact ay.refl _|apply ay.step)⟩
     ·rw[if_neg c8]at H;exact absurd H (by simp)
    ·rw[if_neg c7]at H;exact absurd H (by simp)
   ·rw[if_neg c6]at H;exact absurd H (by simp)
 ·replace c4:=Bool.eq_false_iff.mpr c4;subst c4;have H1:=H;rw[if_neg (show ¬(false=true) by decide)]at H1;clear H;have H:=H1;clear H1;simp only[Option.some.injEq,Prod.mk.injEq]at H;obtain⟨rfl,rfl,rfl⟩:=H;go_enter Tryz.func78,Tryz.ntmps78;go_wp2_with (first|((with_reducible refine aJ (f:=114) rfl ?_);refine bA 13 Tryz.func114 #[.slice A0 U.length c0,.int .i64 a1] ?_;(with_reducible refine(ek.calls k _ _ U a1 t152 t153 false _ ?az ?aA A3.1).mono ?_);(case az=>exact mC bB.1);(case aA=>exact eb.1);rintro e w' ⟨rfl,⟨nd,rfl⟩⟩;refine⟨_,rfl,?_⟩));go_ret3;exact⟨mE,by repeat (first|exact ay.refl _|apply ay.step)⟩
mutual
def fW.U:Nat→Int→List Int→Int→Int→Option (Int)
 |0,_,_,_,_=>none
 |k+1,x3,x7,x8,x9=>if x9<x8 then (if 0≤x9 then (if x9<(x7.length:Int) then (fW.l1 k (Go.bits .xor .u32 x3 ((rd x7 x9) % 4294967296)) x7 x8 x9 0) else (none)) else (none)) else (some (wrap64 (Go.bits .xor .u32 4294967295 x3)))
def fW.l1:Nat→Int→List Int→Int→Int→Int→Option (Int)
 |0,_,_,_,_,_=>none
 |k+1,x3,x7,x8,x9,C6=>if C6<8 then (if (Go.bits .and .u32 x3 1)=1 then (fW.l1 k (Go.bits .xor .u32 (x3 / 2) 2197175160) x7 x8 x9 (wrap64 (C6+1))) else (fW.l1 k (x3 / 2) x7 x8 x9 (wrap64 (C6+1)))) else (fW.U k x3 x7 x8 (wrap64 (x9+1)))
end
def fW.f (k:Nat) (U:List Int):Option (Int):=fW.U k 4294967295 U (U.length:Int) 0
set_option maxHeartbeats 8000000 in
set_option maxRecDepth 100000 in
theorem fW.calls (k:Nat) (A0:Option Addr) (c0:Nat) (U:List Int) (r:Int) (w:World) (bJ:Kd.C (Kd.int .u8) w A0 U.length U) (bz:U.length≤c0) (h:fW.f k U=some r) :
 Calls Tryz.prog 79 #[.slice A0 U.length c0] w fun e w'=>e = .returned (.int .i64 r)∧ay w w':=by
 have bB:=J bJ;have eb:=J bz;clear bJ bz;have H:(fW.U k 4294967295 U (U.length:Int) 0)=some r:=h;clear h;have H':=J H;clear H;go_enter Tryz.func79,Tryz.ntmps79;go_wp2;go_loopg [3,9] k (fun kq v3 v9 w'=>∃(ba:Int) (hJ:Int),v3 = .int .u32 ba∧v9 = .int .i64 hJ∧Aside0 (fW.U kq ba U (U.length:Int) hJ=some r)∧Aside0 (kq≤k)∧ay w w')
 case atStart=>exact⟨(4294967295),(0),mE,mE,H',⟨Nat.le_refl _⟩,by repeat (first|exact ay.refl _|apply ay.step)⟩
 case round=>
  clear H';obtain⟨ba,hJ,rfl,rfl,HA,aQ,⟨m1,rfl⟩⟩:=hrel;cases gk with
  |zero=>exact absurd HA.1 (by simp[fW.U])
  |succ k1=>
   have H:=HA.1;clear HA;simp only[fW.U]at H;by_cases c2:hJ<(U.length:Int)
   ·rw[if_pos c2]at H;have mV:=decide_eq_true c2;clear c2;by_cases c3:0≤hJ
    ·rw[if_pos c3]at H;have cS:=decide_eq_true c3;clear c3;by_cases c4:hJ<(U.length:Int)
     ·rw[if_pos c4]at H;have cV:=decide_eq_true c4;clear c4;have H':=J H;clear H;have KY:0≤(hJ:Int):=mD;have K9:hJ<(U.length:Int):=mD;obtain⟨apt,afQ,akV⟩:=Kd.lB bB.1 hJ KY K9;cases afQ
      replace KY:=eq_true KY;replace K9:=eq_true K9;go_wp2;go_loopg [3,17] k1 (fun kq v3 v17 w'=>∃(j9:Int) (C7:Int),v3 = .int .u32 j9∧v17 = .int .i64 C7∧Aside0 (fW.l1 kq j9 U (U.length:Int) hJ C7=some r)∧Aside0 (kq≤k1)∧ay w w')
      case atStart=>exact⟨(Go.bits .xor .u32 ba ((rd U hJ) % 4294967296)),(0),mE,mE,H',⟨Nat.le_refl _⟩,by repeat (first|exact ay.refl _|apply ay.step)⟩
      case round=>
       clear H'
       try clear c2
       try clear mV
       try clear c3
       try clear cS
       try clear c4
       try clear cV
       try clear akV
       try clear KY
       try clear K9
       obtain⟨j9,C7,rfl,rfl,HA,lV,⟨m2,rfl⟩⟩:=hrel;cases gk with
       |zero=>exact absurd HA.1 (by simp[fW.l1])
       |succ k2=>
        have H:=HA.1;clear HA;simp only[fW.l1]at H;by_cases c5:C7<8
        ·rw[if_pos c5]at H;have eS:=decide_eq_true c5;clear c5;by_cases c6:(Go.bits .and .u32 j9 1)=1
         ·rw[if_pos c6]at H;have eh:((Go.bits .and .u32 j9 1) == 1)=true:=beq_iff_eq.mpr c6;have o8:((Go.bits .and .u32 j9 1) != 1)=false:=bne_eq_false_iff_eq.mpr c6;clear c6;have H':=J H;clear H;go_wp2;go_roundg k2
          case measure=>have:=aQ.1;have:=lV.1;omega
          case rel=>exact⟨(Go.bits .xor .u32 (j9 / 2) 2197175160),(wrap64 (C7+1)),mE,mE,H',⟨by have:=aQ.1;have:=lV.1;omega⟩,by repeat (first|exact ay.refl _|apply ay.step)⟩
         ·rw[if_neg c6]at H;have eh:((Go.bits .and .u32 j9 1) == 1)=false:=beq_eq_false_iff_ne.mpr c6;have o8:((Go.bits .and .u32 j9 1) != 1)=true:=bne_iff_ne.mpr c6;have H':=J H;clear H;go_wp2;go_roundg k2
          case measure=>have:=aQ.1;have:=lV.1;omega
          case rel=>exact⟨(j9 / 2),(wrap64 (C7+1)),mE,mE,H',⟨by have:=aQ.1;have:=lV.1;omega⟩,by repeat (first|exact ay.refl _|apply ay.step)⟩
        ·rw[if_neg c5]at H;have eS:=decide_eq_false c5;clear c5;have H':=J H;clear H;go_wp2;go_roundg k2
         case measure=>have:=aQ.1;have:=lV.1;omega
         case rel=>exact⟨(j9),(wrap64 (hJ+1)),mE,mE,H',⟨by have:=aQ.1;have:=lV.1;omega⟩,by repeat (first|exact ay.refl _|apply ay.step)⟩
     ·rw[if_neg c4]at H;exact absurd H (by simp)
    ·rw[if_neg c3]at H;exact absurd H (by simp)
   ·rw[if_neg c2]at H;have mV:=decide_eq_false c2;clear c2;obtain rfl:=Option.some.inj H;go_wp2;go_ret;exact⟨mE,by repeat (first|exact ay.refl _|apply ay.step)⟩
def qa.f (U:List Int) (a1:Int):Option (Int):=if 0≤a1 then (if a1<(U.length:Int) then (if 0≤(wrap64 (a1+1)) then (if (wrap64 (a1+1))<(U.length:Int) then (if 0≤(wrap64 (a1+2)) then (if (wrap64 (a1+2))<(U.length:Int) then (if 0≤(wrap64 (a1+3)) then (if (wrap64 (a1+3))<(U.length:Int) then (some (Go.bits .or .i64 (Go.bits .or .i64 (Go.bits .or .i64 (wrap64 ((wrap64 (rd U a1))*16777216)) (wrap64 ((wrap64 (rd U (wrap64 (a1+1))))*65536))) (wrap64 ((wrap64 (rd U (wrap64 (a1+2))))*256))) (wrap64 (rd U (wrap64 (a1+3)))))) else (none)) else (none)) else (none)) else (none)) else (none)) else (none)) else (none)) else (none)
set_option maxHeartbeats 8000000 in
set_option maxRecDepth 100000 in
theorem qa.calls (A0:Option Addr) (c0:Nat) (U:List Int) (a1:Int) (r:Int) (w:World) (bJ:Kd.C (Kd.int .u8) w A0 U.length U) (bz:U.length≤c0) (h:qa.f U a1=some r) :
 Calls Tryz.prog 80 #[.slice A0 U.length c0,.int .i64 a1] w fun e w'=>e = .returned (.int .i64 r)∧ay w w':=by
 have bB:=J bJ;have eb:=J bz;clear bJ bz;have H:(if 0≤a1 then (if a1<(U.length:Int) then (if 0≤(wrap64 (a1+1)) then (if (wrap64 (a1+1))<(U.length:Int) then (if 0≤(wrap64 (a1+2)) then (if (wrap64 (a1+2))<(U.length:Int) then (if 0≤(wrap64 (a1+3)) then (if (wrap64 (a1+3))<(U.length:Int) then (some (Go.bits .or .i64 (Go.bits .or .i64 (Go.bits .or .i64 (wrap64 ((wrap64 (rd U a1))*16777216)) (wrap64 ((wrap64 (rd U (wrap64 (a1+1))))*65536))) (wrap64 ((wrap64 (rd U (wrap64 (a1+2))))*256))) (wrap64 (rd U (wrap64 (a1+3)))))) else (none)) else (none)) else (none)) else (none)) else (none)) else (none)) else (none)) else (none))=some r:=h;clear h;by_cases c3:0≤a1
 ·rw[if_pos c3]at H;have cS:=decide_eq_true c3;clear c3;by_cases c4:a1<(U.length:Int)
  ·rw[if_pos c4]at H;have cV:=decide_eq_true c4;clear c4;obtain⟨su,Kr⟩:∃j_:Int,(wrap64 (a1+1))=j_:=⟨_,rfl⟩;replace H:(if 0≤(su) then (if (su)<(U.length:Int) then (if 0≤(wrap64 (a1+2)) then (if (wrap64 (a1+2))<(U.length:Int) then (if 0≤(wrap64 (a1+3)) then (if (wrap64 (a1+3))<(U.length:Int) then (some (Go.bits .or .i64 (Go.bits .or .i64 (Go.bits .or .i64 (wrap64 ((wrap64 (rd U a1))*16777216)) (wrap64 ((wrap64 (rd U (su)))*65536))) (wrap64 ((wrap64 (rd U (wrap64 (a1+2))))*256))) (wrap64 (rd U (wrap64 (a1+3)))))) else (none)) else (none)) else (none)) else (none)) else (none)) else (none))=some r:=by first|(rw[Kr]at H;exact H)|(simp only[Kr]at H ⊢;exact H)
   have avs:(IntKind.i64.wrap (a1+1))=su:=(dJ _).trans Kr;by_cases c6:0≤(su)
   ·rw[if_pos c6]at H;have eh:=decide_eq_true c6;clear c6;by_cases c7:(su)<(U.length:Int)
    ·rw[if_pos c7]at H;have jN:=decide_eq_true c7;clear c7;obtain⟨fj,mj⟩:∃j_:Int,(wrap64 (a1+2))=j_:=⟨_,rfl⟩;replace H:(if 0≤(fj) then (if (fj)<(U.length:Int) then (if 0≤(wrap64 (a1+3)) then (if (wrap64 (a1+3))<(U.length:Int) then (some (Go.bits .or .i64 (Go.bits .or .i64 (Go.bits .or .i64 (wrap64 ((wrap64 (rd U a1))*16777216)) (wrap64 ((wrap64 (rd U (su)))*65536))) (wrap64 ((wrap64 (rd U (fj)))*256))) (wrap64 (rd U (wrap64 (a1+3)))))) else (none)) else (none)) else (none)) else (none))=some r:=by first|(rw[mj]at H;exact H)|(simp only[mj]at H ⊢;exact H)
     have XH:(IntKind.i64.wrap (a1+2))=fj:=(dJ _).trans mj;by_cases c9:0≤(fj)
     ·rw[if_pos c9]at H;have ma:=decide_eq_true c9;clear c9;by_cases eB:(fj)<(U.length:Int)
      ·rw[if_pos eB]at H;have yE:=decide_eq_true eB;clear eB;obtain⟨k4,uw⟩:∃j_:Int,(wrap64 (a1+3))=j_:=⟨_,rfl⟩;replace H:(if 0≤(k4) then (if (k4)<(U.length:Int) then (some (Go.bits .or .i64 (Go.bits .or .i64 (Go.bits .or .i64 (wrap64 ((wrap64 (rd U a1))*16777216)) (wrap64 ((wrap64 (rd U (su)))*65536))) (wrap64 ((wrap64 (rd U (fj)))*256))) (wrap64 (rd U (k4))))) else (none)) else (none))=some r:=by first|(rw[uw]at H;exact H)|(simp only[uw]at H ⊢;exact H)
       have akd:(IntKind.i64.wrap (a1+3))=k4:=(dJ _).trans uw;by_cases dI:0≤(k4)
       ·rw[if_pos dI]at H;have nK:=decide_eq_true dI;clear dI;by_cases cY:(k4)<(U.length:Int)
        ·rw[if_pos cY]at H;have o5:=decide_eq_true cY;clear cY;obtain rfl:=Option.some.inj H;have Rj:0≤(a1:Int):=mD;have RK:a1<(U.length:Int):=mD;obtain⟨NS,afR,axw⟩:=Kd.lB bB.1 a1 Rj RK;cases afR
         replace Rj:=eq_true Rj;replace RK:=eq_true RK;have Rk:0≤((su):Int):=mD;have RL:(su)<(U.length:Int):=mD;obtain⟨aeq,afS,axx⟩:=Kd.lB bB.1 (su) Rk RL;obtain rfl:NS=aeq:=(by injection afS);replace Rk:=eq_true Rk;replace RL:=eq_true RL;have Rl:0≤((fj):Int):=mD;have RM:(fj)<(U.length:Int):=mD;obtain⟨aer,afT,axy⟩:=Kd.lB bB.1 (fj) Rl RM;obtain rfl:NS=aer:=(by injection afT);replace Rl:=eq_true Rl;replace RM:=eq_true RM;have Rm:0≤((k4):Int):=mD;have RN:(k4)<(U.length:Int):=mD;obtain⟨aes,afU,axz⟩:=Kd.lB bB.1 (k4) Rm RN;obtain rfl:NS=aes:=(by injection afU);replace Rm:=eq_true Rm;replace RN:=eq_true RN;go_enter Tryz.func80,Tryz.ntmps80;go_wp2
         repeat (go_quiet (fail);try go_wp2)
         go_ret;exact⟨by first|rfl|(simp;done)|(simp only[←Kr,←mj,←uw]<;>(first|rfl|simp))|(simp[*];done),by repeat (first|exact ay.refl _|apply ay.step)⟩
        ·rw[if_neg cY]at H;exact absurd H (by simp)
       ·rw[if_neg dI]at H;exact absurd H (by simp)
      ·rw[if_neg eB]at H;exact absurd H (by simp)
     ·rw[if_neg c9]at H;exact absurd H (by simp)
    ·rw[if_neg c7]at H;exact absurd H (by simp)
   ·rw[if_neg c6]at H;exact absurd H (by simp)
  ·rw[if_neg c4]at H;exact absurd H (by simp)
 ·rw[if_neg c3]at H;exact absurd H (by simp)
def lH.j0:Nat→List Int→Int→Bool→Option (Int × Bool)
 |0,_,_,_=>none
 |k+1,x0,x1,vp=>if vp=true then (some (0,false)) else (if 0≤x1 then (if x1<(x0.length:Int) then (if 0≤(wrap64 (x1+1)) then (if (wrap64 (x1+1))<(x0.length:Int) then (if 0≤(wrap64 (x1+2)) then (if (wrap64 (x1+2))<(x0.length:Int) then (if 0≤(wrap64 (x1+3)) then (if (wrap64 (x1+3))<(x0.length:Int) then (some (Go.bits .or .i64 (Go.bits .or .i64 (Go.bits .or .i64 (wrap64 ((wrap64 (rd x0 x1))*16777216)) (wrap64 ((wrap64 (rd x0 (wrap64 (x1+1))))*65536))) (wrap64 ((wrap64 (rd x0 (wrap64 (x1+2))))*256))) (wrap64 (rd x0 (wrap64 (x1+3)))),true)) else (none)) else (none)) else (none)) else (none)) else (none)) else (none)) else (none)) else (none))
def lH.f (k:Nat) (U:List Int) (a1:Int):Option (Int × Bool):=if a1<0 then (lH.j0 k U a1 true) else (lH.j0 k U a1 (decide (a1>(wrap64 ((U.length:Int)-4)))))
set_option maxHeartbeats 8000000 in
set_option maxRecDepth 100000 in
theorem lH.calls (k:Nat) (A0:Option Addr) (c0:Nat) (U:List Int) (a1:Int) (r1:Int) (r2:Bool) (w:World) (bJ:Kd.C (Kd.int .u8) w A0 U.length U) (bz:U.length≤c0) (h:lH.f k U a1=some (r1,r2)) :
 Calls Tryz.prog 110 #[.slice A0 U.length c0,.int .i64 a1] w fun e w'=>e = .returned (.tuple #[.int .i64 r1,.bool r2])∧ay w w':=by
 have bB:=J bJ;have eb:=J bz;clear bJ bz;have H:(if a1<0 then (lH.j0 k U a1 true) else (lH.j0 k U a1 (decide (a1>(wrap64 ((U.length:Int)-4))))))=some (r1,r2):=h;clear h;have oq:=J H;clear H;go_enter Tryz.func110,Tryz.ntmps110;go_upto_region 1 with (fail)
 repeat (go_quiet (fail);go_upto_region 1 with (fail))
 go_cut [14] (fun Ib wc=>∃(kq:Nat) (LN:Bool),Ib = .bool LN∧Aside0 (lH.j0 kq U a1 LN=some (r1,r2))∧Aside0 (kq≤k)∧ay w wc)
 case first=>
  have H:=oq.1;clear oq;by_cases c4:a1<0
  ·rw[if_pos c4]at H;have cV:=decide_eq_true c4;clear c4
   (first|rw[cV]|(simp only[dJ,gx];rw[cV])|skip)
   have H':=J H;clear H;go_wp2
   repeat (go_quiet (fail);try go_wp2)
   go_meet
   case rel=>exact⟨_,(true),mE,H',⟨by first|omega|exact Nat.le_refl _⟩,by repeat (first|exact ay.refl _|apply ay.step)⟩
  ·rw[if_neg c4]at H;have cV:=decide_eq_false c4;clear c4
   (first|rw[cV]|(simp only[dJ,gx];rw[cV])|skip)
   have H':=J H;clear H;go_wp2
   repeat (go_quiet (fail);try go_wp2)
   go_meet
   case rel=>exact⟨_,(decide (a1>(wrap64 ((U.length:Int)-4)))),mE,H',⟨by first|omega|exact Nat.le_refl _⟩,by repeat (first|exact ay.refl _|apply ay.step)⟩
 case rest=>
  clear oq
  obtain⟨kq,LN,rfl,HA,rn,⟨Za,rfl⟩⟩:=hcut;cases kq with
  |zero=>exact absurd HA.1 (by simp[lH.j0])
  |succ sx=>
   have H:=HA.1;clear HA;simp only[lH.j0]at H;by_cases c5:LN=true
   ·subst c5;have H1:=H;rw[if_pos rfl]at H1;clear H;have H:=H1;clear H1;simp only[Option.some.injEq,Prod.mk.injEq]at H;obtain⟨rfl,rfl⟩:=H;go_wp2
    repeat (go_quiet (fail);try go_wp2)
    go_ret2;exact⟨mE,by repeat (first|exact ay.refl _|apply ay.step)⟩
   ·replace c5:=Bool.eq_false_iff.mpr c5;subst c5;have H1:=H;rw[if_neg (show ¬(false=true) by decide)]at H1;clear H;have H:=H1;clear H1;by_cases c6:0≤a1
    ·rw[if_pos c6]at H;have eh:=decide_eq_true c6;clear c6;by_cases c7:a1<(U.length:Int)
     ·rw[if_pos c7]at H;have jN:=decide_eq_true c7;clear c7;obtain⟨fj,mj⟩:∃j_:Int,(wrap64 (a1+1))=j_:=⟨_,rfl⟩;replace H:(if 0≤(fj) then (if (fj)<(U.length:Int) then (if 0≤(wrap64 (a1+2)) then (if (wrap64 (a1+2))<(U.length:Int) then (if 0≤(wrap64 (a1+3)) then (if (wrap64 (a1+3))<(U.length:Int) then (some (Go.bits .or .i64 (Go.bits .or .i64 (Go.bits .or .i64 (wrap64 ((wrap64 (rd U a1))*16777216)) (wrap64 ((wrap64 (rd U (fj)))*65536))) (wrap64 ((wrap64 (rd U (wrap64 (a1+2))))*256))) (wrap64 (rd U (wrap64 (a1+3)))),true)) else (none)) else (none)) else (none)) else (none)) else (none)) else (none))=some (r1,r2):=by first|(rw[mj]at H;exact H)|(simp only[mj]at H ⊢;exact H)
      have XH:(IntKind.i64.wrap (a1+1))=fj:=(dJ _).trans mj;by_cases c9:0≤(fj)
      ·rw[if_pos c9]at H;have ma:=decide_eq_true c9;clear c9;by_cases eB:(fj)<(U.length:Int)
       ·rw[if_pos eB]at H;have yE:=decide_eq_true eB;clear eB;obtain⟨k4,uw⟩:∃j_:Int,(wrap64 (a1+2))=j_:=⟨_,rfl⟩;replace H:(if 0≤(k4) then (if (k4)<(U.length:Int) then (if 0≤(wrap64 (a1+3)) then (if (wrap64 (a1+3))<(U.length:Int) then (some (Go.bits .or .i64 (Go.bits .or .i64 (Go.bits .or .i64 (wrap64 ((wrap64 (rd U a1))*16777216)) (wrap64 ((wrap64 (rd U (fj)))*65536))) (wrap64 ((wrap64 (rd U (k4)))*256))) (wrap64 (rd U (wrap64 (a1+3)))),true)) else (none)) else (none)) else (none)) else (none))=some (r1,r2):=by first|(rw[uw]at H;exact H)|(simp only[uw]at H ⊢;exact H)
        have akd:(IntKind.i64.wrap (a1+2))=k4:=(dJ _).trans uw;by_cases dI:0≤(k4)
        ·rw[if_pos dI]at H;have nK:=decide_eq_true dI;clear dI;by_cases cY:(k4)<(U.length:Int)
         ·rw[if_pos cY]at H;have o5:=decide_eq_true cY;clear cY;obtain⟨uK,Kq⟩:∃j_:Int,(wrap64 (a1+3))=j_:=⟨_,rfl⟩;replace H:(if 0≤(uK) then (if (uK)<(U.length:Int) then (some (Go.bits .or .i64 (Go.bits .or .i64 (Go.bits .or .i64 (wrap64 ((wrap64 (rd U a1))*16777216)) (wrap64 ((wrap64 (rd U (fj)))*65536))) (wrap64 ((wrap64 (rd U (k4)))*256))) (wrap64 (rd U (uK))),true)) else (none)) else (none))=some (r1,r2):=by first|(rw[Kq]at H;exact H)|(simp only[Kq]at H ⊢;exact H)
          have avr:(IntKind.i64.wrap (a1+3))=uK:=(dJ _).trans Kq;by_cases lD:0≤(uK)
          ·rw[if_pos lD]at H;have Jb:=decide_eq_true lD;clear lD;by_cases gY:(uK)<(U.length:Int)
           ·rw[if_pos gY]at H;have El:=decide_eq_true gY;clear gY;simp only[Option.some.injEq,Prod.mk.injEq]at H;obtain⟨rfl,rfl⟩:=H;have Ru:0≤(a1:Int):=mD;have RT:a1<(U.length:Int):=mD;obtain⟨NV,af0,axA⟩:=Kd.lB bB.1 a1 Ru RT;cases af0
            replace Ru:=eq_true Ru;replace RT:=eq_true RT;have Rv:0≤((fj):Int):=mD;have RU:(fj)<(U.length:Int):=mD;obtain⟨aey,af1,axB⟩:=Kd.lB bB.1 (fj) Rv RU;obtain rfl:NV=aey:=(by injection af1);replace Rv:=eq_true Rv;replace RU:=eq_true RU;have Rw:0≤((k4):Int):=mD;have RV:(k4)<(U.length:Int):=mD;obtain⟨aez,af2,axC⟩:=Kd.lB bB.1 (k4) Rw RV;obtain rfl:NV=aez:=(by injection af2);replace Rw:=eq_true Rw;replace RV:=eq_true RV;have Rx:0≤((uK):Int):=mD;have RW:(uK)<(U.length:Int):=mD;obtain⟨aeA,af3,axD⟩:=Kd.lB bB.1 (uK) Rx RW;obtain rfl:NV=aeA:=(by injection af3);replace Rx:=eq_true Rx;replace RW:=eq_true RW;go_wp2
            repeat (go_quiet (fail);try go_wp2)
            go_ret2;exact⟨by first|rfl|(simp;done)|(simp only[←mj,←uw,←Kq]<;>(first|rfl|simp))|(simp[*];done),by repeat (first|exact ay.refl _|apply ay.step)⟩
           ·rw[if_neg gY]at H;exact absurd H (by simp)
          ·rw[if_neg lD]at H;exact absurd H (by simp)
         ·rw[if_neg cY]at H;exact absurd H (by simp)
        ·rw[if_neg dI]at H;exact absurd H (by simp)
       ·rw[if_neg eB]at H;exact absurd H (by simp)
      ·rw[if_neg c9]at H;exact absurd H (by simp)
     ·rw[if_neg c7]at H;exact absurd H (by simp)
    ·rw[if_neg c6]at H;exact absurd H (by simp)
mutual
def ev.U:Nat→List Int→Int→Int→Int→Option (Int × Int × Bool)
 |0,_,_,_,_=>none
 |k+1,x0,x1,x7,x8=>if x8<5 then (if x1≥0 then (if x1<(x0.length:Int) then (ev.j1 k x0 x1 x7 x8 (decide ((wrap64 (x1+x8))<(x0.length:Int)))) else (ev.j1 k x0 x1 x7 x8 false)) else (ev.j1 k x0 x1 x7 x8 false)) else (ev.j1 k x0 x1 x7 x8 false)
def ev.j1:Nat→List Int→Int→Int→Int→Bool→Option (Int × Int × Bool)
 |0,_,_,_,_,_=>none
 |k+1,x0,x1,x7,x8,SL=>if SL=true then (if 0≤(wrap64 (x1+x8)) then (if (wrap64 (x1+x8))<(x0.length:Int) then (if x8=0 then (ev.j2 k x0 x1 x7 x8 (wrap64 (rd x0 (wrap64 (x1+x8)))) ((wrap64 (rd x0 (wrap64 (x1+x8)))) == 128)) else (ev.j2 k x0 x1 x7 x8 (wrap64 (rd x0 (wrap64 (x1+x8)))) false)) else (none)) else (none)) else (some (0,0,false))
def ev.j2:Nat→List Int→Int→Int→Int→Int→Bool→Option (Int × Int × Bool)
 |0,_,_,_,_,_,_=>none
 |k+1,x0,x1,x7,x8,x9,x44=>if x44=true then (some (0,0,false)) else (if x9<128 then (if (Go.bits .or .i64 (wrap64 (x7*128)) (Go.bits .and .i64 x9 127))>1000000000 then (some (0,0,false)) else (some (Go.bits .or .i64 (wrap64 (x7*128)) (Go.bits .and .i64 x9 127),wrap64 ((wrap64 (x1+x8))+1),true))) else (ev.U k x0 x1 (Go.bits .or .i64 (wrap64 (x7*128)) (Go.bits .and .i64 x9 127)) (wrap64 (x8+1))))
end
def ev.f (k:Nat) (U:List Int) (a1:Int):Option (Int × Int × Bool):=ev.U k U a1 0 0
set_option maxHeartbeats 8000000 in
set_option maxRecDepth 100000 in
theorem ev.calls (k:Nat) (A0:Option Addr) (c0:Nat) (U:List Int) (a1:Int) (r1:Int) (r2:Int) (r3:Bool) (w:World) (bJ:Kd.C (Kd.int .u8) w A0 U.length U) (bz:U.length≤c0) (h:ev.f k U a1=some (r1,r2,r3)) :
 Calls Tryz.prog 111 #[.slice A0 U.length c0,.int .i64 a1] w fun e w'=>e = .returned (.tuple #[.int .i64 r1,.int .i64 r2,.bool r3])∧ay w w':=by
 have bB:=J bJ;have eb:=J bz;clear bJ bz;have H:(ev.U k U a1 0 0)=some (r1,r2,r3):=h;clear h;have H':=J H;clear H;go_enter Tryz.func111,Tryz.ntmps111;go_wp2;go_loopg [7,8] k (fun kq v7 v8 w'=>∃(cy:Int) (fO:Int),v7 = .int .i64 cy∧v8 = .int .i64 fO∧Aside0 (ev.U kq U a1 cy fO=some (r1,r2,r3))∧Aside0 (kq≤k)∧ay w w')
 case atStart=>exact⟨(0),(0),mE,mE,H',⟨Nat.le_refl _⟩,by repeat (first|exact ay.refl _|apply ay.step)⟩
 case round=>
  clear H'
  obtain⟨cy,fO,rfl,rfl,HA,aQ,⟨m1,rfl⟩⟩:=hrel;cases gk with
  |zero=>exact absurd HA.1 (by simp[ev.U])
  |succ k1=>
   have H:=HA.1;clear HA;simp only[ev.U]at H;have oq:=J H;clear H;go_upto_region 3 with (fail)
   go_cut [29] (fun v29 wc=>∃(kq:Nat) (LS:Bool),v29 = .bool LS∧Aside0 (ev.j1 kq U a1 cy fO LS=some (r1,r2,r3))∧Aside0 (kq≤k1)∧ay w wc)
   case first=>
    have H:=oq.1;clear oq;by_cases c4:fO<5
    ·rw[if_pos c4]at H;have cV:=decide_eq_true c4;clear c4
     (first|rw[cV]|(simp only[dJ,gx];rw[cV])|skip)
     by_cases c5:a1≥0
     ·rw[if_pos c5]at H;have eS:decide (0≤a1)=true:=decide_eq_true c5;clear c5;by_cases c6:a1<(U.length:Int)
      ·rw[if_pos c6]at H;have eh:=decide_eq_true c6;clear c6;have H':=J H;clear H;go_wp2;go_meet
       case rel=>exact⟨_,(decide ((wrap64 (a1+fO))<(U.length:Int))),mE,H',⟨by have:=aQ.1;first|omega|exact Nat.le_refl _⟩,by repeat (first|exact ay.refl _|apply ay.step)⟩
      ·rw[if_neg c6]at H;have eh:=decide_eq_false c6;clear c6;have H':=J H;clear H;go_wp2;go_meet
       case rel=>exact⟨_,(false),mE,H',⟨by have:=aQ.1;first|omega|exact Nat.le_refl _⟩,by repeat (first|exact ay.refl _|apply ay.step)⟩
     ·rw[if_neg c5]at H;have eS:decide (0≤a1)=false:=decide_eq_false c5;clear c5;have H':=J H;clear H;go_wp2;go_meet
      case rel=>exact⟨_,(false),mE,H',⟨by have:=aQ.1;first|omega|exact Nat.le_refl _⟩,by repeat (first|exact ay.refl _|apply ay.step)⟩
    ·rw[if_neg c4]at H;have cV:=decide_eq_false c4;clear c4
     (first|rw[cV]|(simp only[dJ,gx];rw[cV])|skip)
     have H':=J H;clear H;go_wp2;go_meet
     case rel=>exact⟨_,(false),mE,H',⟨by have:=aQ.1;first|omega|exact Nat.le_refl _⟩,by repeat (first|exact ay.refl _|apply ay.step)⟩
   case rest=>
    clear oq
    obtain⟨kq,LS,rfl,HA,rn,⟨Za,rfl⟩⟩:=hcut;cases kq with
    |zero=>exact absurd HA.1 (by simp[ev.j1])
    |succ sx=>
     have H:=HA.1;clear HA;simp only[ev.j1]at H;by_cases c7:LS=true
     ·subst c7;have H1:=H;rw[if_pos rfl]at H1;clear H;have H:=H1;clear H1;obtain⟨fj,mj⟩:∃j_:Int,(wrap64 (a1+fO))=j_:=⟨_,rfl⟩;replace H:(if 0≤(fj) then (if (fj)<(U.length:Int) then (if fO=0 then (ev.j2 sx U a1 cy fO (wrap64 (rd U (fj))) ((wrap64 (rd U (fj))) == 128)) else (ev.j2 sx U a1 cy fO (wrap64 (rd U (fj))) false)) else (none)) else (none))=some (r1,r2,r3):=by first|(rw[mj]at H;exact H)|(simp only[mj]at H ⊢;exact H)
      have XH:(IntKind.i64.wrap (a1+fO))=fj:=(dJ _).trans mj;by_cases c9:0≤(fj)
      ·rw[if_pos c9]at H;have ma:=decide_eq_true c9;clear c9;by_cases eB:(fj)<(U.length:Int)
       ·rw[if_pos eB]at H;have yE:=decide_eq_true eB;clear eB;have xV:=J H;clear H;have KZ:0≤((fj):Int):=mD;have La:(fj)<(U.length:Int):=mD;obtain⟨apu,af4,ak0⟩:=Kd.lB bB.1 (fj) KZ La;cases af4
        replace KZ:=eq_true KZ;replace La:=eq_true La;go_upto_region 6 with (fail)
        go_cut [44] (fun v44 wc=>∃(kq:Nat) (L0:Bool),v44 = .bool L0∧Aside0 (ev.j2 kq U a1 cy fO (wrap64 (rd U (fj))) L0=some (r1,r2,r3))∧Aside0 (kq≤sx)∧ay w wc)
        case first=>
         have H:=xV.1;clear xV;by_cases dI:fO=0
         ·rw[if_pos dI]at H;have nK:(fO == 0)=true:=beq_iff_eq.mpr dI;have Ja:(fO != 0)=false:=bne_eq_false_iff_eq.mpr dI;clear dI
          (first|rw[nK]|(simp only[dJ,gx];rw[nK])|skip)
          have H':=J H;clear H;go_wp2;go_meet
          case rel=>exact⟨_,(((wrap64 (rd U (fj))) == 128)),(by first|rfl|(simp;done)|(simp only[←mj]<;>(first|rfl|simp))|(simp[*];done)),H',⟨by have:=aQ.1;have:=rn.1;first|omega|exact Nat.le_refl _⟩,by repeat (first|exact ay.refl _|apply ay.step)⟩
         ·rw[if_neg dI]at H;have nK:(fO == 0)=false:=beq_eq_false_iff_ne.mpr dI;have Ja:(fO != 0)=true:=bne_iff_ne.mpr dI
          (first|rw[nK]|(simp only[dJ,gx];rw[nK])|skip)
          have H':=J H;clear H;go_wp2;go_meet
          case rel=>exact⟨_,(false),mE,H',⟨by have:=aQ.1;have:=rn.1;first|omega|exact Nat.le_refl _⟩,by repeat (first|exact ay.refl _|apply ay.step)⟩
        case rest=>
         clear xV
         try clear c7
         try clear c9
         try clear ma
         try clear eB
         try clear yE
         try clear ak0
         try clear KZ
         try clear La
         obtain⟨kq,L0,rfl,HA,yb,⟨axU,rfl⟩⟩:=hcut;cases kq with
         |zero=>exact absurd HA.1 (by simp[ev.j2])
         |succ Hw=>
          have H:=HA.1;clear HA;simp only[ev.j2]at H;by_cases cY:L0=true
          ·subst cY;have H1:=H;rw[if_pos rfl]at H1;clear H;have H:=H1;clear H1;simp only[Option.some.injEq,Prod.mk.injEq]at H;obtain⟨rfl,rfl,rfl⟩:=H;go_wp2;go_ret3;exact⟨by first|rfl|(simp;done)|(simp only[←mj]<;>(first|rfl|simp))|(simp[*];done),by repeat (first|exact ay.refl _|apply ay.step)⟩
          ·replace cY:=Bool.eq_false_iff.mpr cY;subst cY;have H1:=H;rw[if_neg (show ¬(false=true) by decide)]at H1;clear H;have H:=H1;clear H1;by_cases gq:(wrap64 (rd U (fj)))<128
           ·rw[if_pos gq]at H;have yF:=decide_eq_true gq;clear gq;by_cases lD:(Go.bits .or .i64 (wrap64 (cy*128)) (Go.bits .and .i64 (wrap64 (rd U (fj))) 127))>1000000000
            ·rw[if_pos lD]at H;have Jb:decide (1000000000<(Go.bits .or .i64 (wrap64 (cy*128)) (Go.bits .and .i64 (wrap64 (rd U (fj))) 127)))=true:=decide_eq_true lD;clear lD;simp only[Option.some.injEq,Prod.mk.injEq]at H;obtain⟨rfl,rfl,rfl⟩:=H;go_wp2;go_ret3;exact⟨by first|rfl|(simp;done)|(simp only[←mj]<;>(first|rfl|simp))|(simp[*];done),by repeat (first|exact ay.refl _|apply ay.step)⟩
            ·rw[if_neg lD]at H;have Jb:decide (1000000000<(Go.bits .or .i64 (wrap64 (cy*128)) (Go.bits .and .i64 (wrap64 (rd U (fj))) 127)))=false:=decide_eq_false lD;clear lD;simp only[Option.some.injEq,Prod.mk.injEq]at H;obtain⟨rfl,rfl,rfl⟩:=H;go_wp2;go_ret3;exact⟨by first|rfl|(simp;done)|(simp only[←mj]<;>(first|rfl|simp))|(simp[*];done),by repeat (first|exact ay.refl _|apply ay.step)⟩
           ·rw[if_neg gq]at H;have yF:=decide_eq_false gq;clear gq;have H':=J H;clear H;go_wp2;go_roundg Hw
            case measure=>have:=aQ.1;have:=rn.1;have:=yb.1;omega
            case rel=>exact⟨(Go.bits .or .i64 (wrap64 (cy*128)) (Go.bits .and .i64 (wrap64 (rd U (fj))) 127)),(wrap64 (fO+1)),(by first|rfl|(simp;done)|(simp only[←mj]<;>(first|rfl|simp))|(simp[*];done)),mE,H',⟨by have:=aQ.1;have:=rn.1;have:=yb.1;omega⟩,by repeat (first|exact ay.refl _|apply ay.step)⟩
       ·rw[if_neg eB]at H;exact absurd H (by simp)
      ·rw[if_neg c9]at H;exact absurd H (by simp)
     ·replace c7:=Bool.eq_false_iff.mpr c7;subst c7;have H1:=H;rw[if_neg (show ¬(false=true) by decide)]at H1;clear H;have H:=H1;clear H1;simp only[Option.some.injEq,Prod.mk.injEq]at H;obtain⟨rfl,rfl,rfl⟩:=H;go_wp2;go_ret3;exact⟨mE,by repeat (first|exact ay.refl _|apply ay.step)⟩
mutual
def gE.U:Nat→List Int→Int→Int→Option (Int)
 |0,_,_,_=>none
 |k+1,x0,x3,x4=>if x4<(x0.length:Int) then (if 0≤x4 then (gE.l1 k x0 (Go.bits .xor .i64 x3 (wrap64 (rd x0 x4))) x4 0) else (none)) else (some (Go.bits .xor .i64 x3 4294967295))
def gE.l1:Nat→List Int→Int→Int→Int→Option (Int)
 |0,_,_,_,_=>none
 |k+1,x0,x3,x4,x5=>if x5<8 then (if (Go.bits .and .i64 x3 1)=1 then (gE.l1 k x0 (Go.bits .xor .i64 (x3 / 2) 2197175160) x4 (wrap64 (x5+1))) else (gE.l1 k x0 (x3 / 2) x4 (wrap64 (x5+1)))) else (gE.U k x0 x3 (wrap64 (x4+1)))
end
def gE.f (k:Nat) (U:List Int):Option (Int):=gE.U k U 4294967295 0
set_option maxHeartbeats 8000000 in
set_option maxRecDepth 100000 in
theorem gE.calls (k:Nat) (A0:Option Addr) (c0:Nat) (U:List Int) (r:Int) (w:World) (bJ:Kd.C (Kd.int .u8) w A0 U.length U) (bz:U.length≤c0) (h:gE.f k U=some r) :
 Calls Tryz.prog 112 #[.slice A0 U.length c0] w fun e w'=>e = .returned (.int .i64 r)∧ay w w':=by
 have bB:=J bJ;have eb:=J bz;clear bJ bz;have H:(gE.U k U 4294967295 0)=some r:=h;clear h;have H':=J H;clear H;go_enter Tryz.func112,Tryz.ntmps112;go_wp2;go_loopg [3,4] k (fun kq v3 v4 w'=>∃(ba:Int) (aN:Int),v3 = .int .i64 ba∧v4 = .int .i64 aN∧Aside0 (gE.U kq U ba aN=some r)∧Aside0 (kq≤k)∧ay w w')
 case atStart=>exact⟨(4294967295),(0),mE,mE,H',⟨Nat.le_refl _⟩,by repeat (first|exact ay.refl _|apply ay.step)⟩
 case round=>
  clear H'
  obtain⟨ba,aN,rfl,rfl,HA,aQ,⟨m1,rfl⟩⟩:=hrel;cases gk with
  |zero=>exact absurd HA.1 (by simp[gE.U])
  |succ k1=>
   have H:=HA.1;clear HA;simp only[gE.U]at H;by_cases c2:aN<(U.length:Int)
   ·rw[if_pos c2]at H;have mV:=decide_eq_true c2;clear c2;by_cases c3:0≤aN
    ·rw[if_pos c3]at H;have cS:=decide_eq_true c3;clear c3;have H':=J H;clear H;have K6:0≤(aN:Int):=mD;have Lb:aN<(U.length:Int):=mD;obtain⟨apv,af5,ak1⟩:=Kd.lB bB.1 aN K6 Lb;cases af5
     replace K6:=eq_true K6;replace Lb:=eq_true Lb;go_wp2;go_loopg [3,5] k1 (fun kq v3 v5 w'=>∃(j9:Int) (sR:Int),v3 = .int .i64 j9∧v5 = .int .i64 sR∧Aside0 (gE.l1 kq U j9 aN sR=some r)∧Aside0 (kq≤k1)∧ay w w')
     case atStart=>exact⟨(Go.bits .xor .i64 ba (wrap64 (rd U aN))),(0),mE,mE,H',⟨Nat.le_refl _⟩,by repeat (first|exact ay.refl _|apply ay.step)⟩
     case round=>
      clear H'
      try clear c2
      try clear mV
      try clear c3
      try clear cS
      try clear ak1
      try clear K6
      try clear Lb
      obtain⟨j9,sR,rfl,rfl,HA,lV,⟨m2,rfl⟩⟩:=hrel;cases gk with
      |zero=>exact absurd HA.1 (by simp[gE.l1])
      |succ k2=>
       have H:=HA.1;clear HA;simp only[gE.l1]at H;by_cases c4:sR<8
       ·rw[if_pos c4]at H;have cV:=decide_eq_true c4;clear c4;by_cases c5:(Go.bits .and .i64 j9 1)=1
        ·rw[if_pos c5]at H;have eS:((Go.bits .and .i64 j9 1) == 1)=true:=beq_iff_eq.mpr c5;have rU:((Go.bits .and .i64 j9 1) != 1)=false:=bne_eq_false_iff_eq.mpr c5;clear c5;have H':=J H;clear H;go_wp2;go_roundg k2
         case measure=>have:=aQ.1;have:=lV.1;omega
         case rel=>exact⟨(Go.bits .xor .i64 (j9 / 2) 2197175160),(wrap64 (sR+1)),mE,mE,H',⟨by have:=aQ.1;have:=lV.1;omega⟩,by repeat (first|exact ay.refl _|apply ay.step)⟩
        ·rw[if_neg c5]at H;have eS:((Go.bits .and .i64 j9 1) == 1)=false:=beq_eq_false_iff_ne.mpr c5;have rU:((Go.bits .and .i64 j9 1) != 1)=true:=bne_iff_ne.mpr c5;have H':=J H;clear H;go_wp2;go_roundg k2
         case measure=>have:=aQ.1;have:=lV.1;omega
         case rel=>exact⟨(j9 / 2),(wrap64 (sR+1)),mE,mE,H',⟨by have:=aQ.1;have:=lV.1;omega⟩,by repeat (first|exact ay.refl _|apply ay.step)⟩
       ·rw[if_neg c4]at H;have cV:=decide_eq_false c4;clear c4;have H':=J H;clear H;go_wp2;go_roundg k2
        case measure=>have:=aQ.1;have:=lV.1;omega
        case rel=>exact⟨(j9),(wrap64 (aN+1)),mE,mE,H',⟨by have:=aQ.1;have:=lV.1;omega⟩,by repeat (first|exact ay.refl _|apply ay.step)⟩
    ·rw[if_neg c3]at H;exact absurd H (by simp)
   ·rw[if_neg c2]at H;have mV:=decide_eq_false c2;clear c2;obtain rfl:=Option.some.inj H;go_wp2;go_ret;exact⟨mE,by repeat (first|exact ay.refl _|apply ay.step)⟩
mutual
def pw.j0:Nat→Int→List Int→Option (List Int)
 |0,_,_=>none
 |k+1,x1,x5=>if x1<0 then (pw.j1 k 0 x5) else (pw.j1 k x1 x5)
def pw.j1:Nat→Int→List Int→Option (List Int)
 |0,_,_=>none
 |k+1,x1,x5=>pw.U k x1 x5 false 28
def pw.U:Nat→Int→List Int→Bool→Int→Option (List Int)
 |0,_,_,_,_=>none
 |k+1,x1,x5,x6,x7=>if x7>0 then (if 0≤(IntKind.u64.wrap (x7)) then (if x6=true then (pw.j3 k x1 x5 x6 x7 (Go.bits .and .i64 (shr .i64 x1 (IntKind.u64.wrap (x7))) 127) true) else (pw.j3 k x1 x5 x6 x7 (Go.bits .and .i64 (shr .i64 x1 (IntKind.u64.wrap (x7))) 127) (decide ((Go.bits .and .i64 (shr .i64 x1 (IntKind.u64.wrap (x7))) 127)>0)))) else (none)) else (if x5.length<140737488355328 then (some (x5++[(Go.bits .and .i64 x1 127) % 256])) else (none))
def pw.j3:Nat→Int→List Int→Bool→Int→Int→Bool→Option (List Int)
 |0,_,_,_,_,_,_=>none
 |k+1,x1,x5,x6,x7,x8,SL=>if SL=true then (if x5.length<140737488355328 then (pw.U k x1 (x5++[(Go.bits .or .i64 x8 128) % 256]) true (wrap64 (x7-7))) else (none)) else (pw.U k x1 x5 x6 (wrap64 (x7-7)))
end
def pw.f (k:Nat) (U:List Int) (a1:Int):Option (List Int):=(some (([]:List Int):List Int)).bind fun aa7=>(if aa7.length+U.length<140737488355328 then ((some (aa7++U:List Int)).bind fun aa8=>(if a1>1000000000 then (pw.j0 k 1000000000 aa8) else (pw.j0 k a1 aa8))) else (none))
def anf.f (a0:Int):Option (List Int):=some (([(a0 / 16777216) % 256,(a0 / 65536) % 256,(a0 / 256) % 256,(a0) % 256]:List Int))
mutual
def zq.U:Nat→List Int→Int→Int→Option (List Int)
 |0,_,_,_=>none
 |k+1,x0,x1,x5=>if 0≤x5 then (if (shr .i64 x1 x5)>127 then (zq.U k x0 x1 (wrap64 (x5+7))) else (zq.l1 k x0 x1 x5)) else (none)
def zq.l1:Nat→List Int→Int→Int→Option (List Int)
 |0,_,_,_=>none
 |k+1,x0,x1,x5=>if x5>0 then (if 0≤x5 then (if x0.length<140737488355328 then (zq.l1 k (x0++[(wrap64 ((Go.bits .and .i64 (shr .i64 x1 x5) 127)+128)) % 256]) x1 (wrap64 (x5-7))) else (none)) else (none)) else (if x0.length<140737488355328 then (some (x0++[(Go.bits .and .i64 x1 127) % 256])) else (none))
end
def zq.f (k:Nat) (U:List Int) (a1:Int):Option (List Int):=zq.U k U (mx 0 (mn a1 1000000000)) 0
def aly.f (a0:Int):Option (List Int):=some (([(a0 / 16777216) % 256,(a0 / 65536) % 256,(a0 / 256) % 256,(a0) % 256]:List Int))
end Go.Proofs.YtingkpnoiekliaaGreat.MZ
