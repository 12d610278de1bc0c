-- Written by mp.py, our own printer (wip/mp.py), and made shorter by wip/mp_shrink*.py.
import Derived.Test.YtingkpnoiekliaaGreatVAll
import Derived.Test.YtingkpnoiekliaaGreatG1
namespace Go.Proofs.YtingkpnoiekliaaGreat.MZ
open Go.RowKit Go.Proofs.YtingkpnoiekliaaGreatW.PrintWords Go.Proofs.YtingkpnoiekliaaGreatW.PrintLast Go.Proofs.YtingkpnoiekliaaGreatW.PrintMore Go.Proofs.YtingkpnoiekliaaGreat.MWords
attribute [local go_sem] max2_int min2_int max_two min_two max_three min_three max_four min_four
set_option linter.unusedVariables false
set_option linter.unusedSimpArgs false
mutual
def eF.U:Nat→List Int→Int→Int→Int→Option (Int × Int × Bool)
 |0,_,_,_,_=>none
 |k+1,x0,x1,x7,x8=>if x8<5 then (if x1≥0 then (eF.j1 k x0 x1 x7 x8 (decide (x1<(wrap64 ((x0.length:Int)-x8))))) else (eF.j1 k x0 x1 x7 x8 false)) else (eF.j1 k x0 x1 x7 x8 false)
def eF.j1:Nat→List Int→Int→Int→Int→Bool→Option (Int × Int × Bool)
 |0,_,_,_,_,_=>none
 |k+1,x0,x1,x7,x8,Gr=>if Gr=true then (if 0≤(wrap64 (x1+x8)) then (if (wrap64 (x1+x8))<(x0.length:Int) then (if x8=0 then (eF.j2 k x0 x1 x7 x8 (wrap64 (rd x0 (wrap64 (x1+x8)))) ((wrap64 (rd x0 (wrap64 (x1+x8)))) == 128)) else (eF.j2 k x0 x1 x7 x8 (wrap64 (rd x0 (wrap64 (x1+x8)))) false)) else (none)) else (none)) else (some (0,0,false))
def eF.j2:Nat→List Int→Int→Int→Int→Int→Bool→Option (Int × Int × Bool)
 |0,_,_,_,_,_,_=>none
 |k+1,x0,x1,x7,x8,x9,x38=>if x38=true then (some (0,0,false)) else (if x9≥128 then (eF.U k x0 x1 (wrap64 ((wrap64 (x7*128))+(Int.tmod x9 128))) (wrap64 (x8+1))) else (if (wrap64 ((wrap64 (x7*128))+(Int.tmod x9 128)))>1000000000 then (some (0,0,false)) else (some (wrap64 ((wrap64 (x7*128))+(Int.tmod x9 128)),wrap64 ((wrap64 (x1+x8))+1),true))))
end
def eF.f (k:Nat) (U:List Int) (a1:Int):Option (Int × Int × Bool):=eF.U k U a1 0 0
set_option maxHeartbeats 8000000 in
set_option maxRecDepth 100000 in
theorem eF.calls (k:Nat) (A0:Option Addr) (c0:Nat) (U:List Int) (a1:Int) (r1:Int) (r2:Int) (r3:Bool) (w:World) (b9:Kd.C (Kd.int .u8) w A0 U.length U) (cg:U.length≤c0) (h:eF.f k U a1=some (r1,r2,r3)) :
 Calls Tryz.prog 114 #[.slice A0 U.length c0,.int .i64 a1] w fun e w'=>e = .returned (.tuple #[.int .i64 r1,.int .i64 r2,.bool r3])∧aC w w':=by
 have cr:=J b9;have fy:=J cg;clear b9 cg;have H:(eF.U k U a1 0 0)=some (r1,r2,r3):=h;clear h;have H':=J H;clear H;go_enter Tryz.func114,Tryz.ntmps114;go_wp2;go_loopg [7,8] k (fun kq v7 v8 w'=>∃(cF:Int) (gA:Int),v7 = .int .i64 cF∧v8 = .int .i64 gA∧Aside0 (eF.U kq U a1 cF gA=some (r1,r2,r3))∧Aside0 (kq≤k)∧aC w w')
 case atStart=>exact⟨(0),(0),mE,mE,H',⟨Nat.le_refl _⟩,by repeat (first|exact aC.refl _|apply aC.step)⟩
 case round=>
  clear H'
  obtain⟨cF,gA,rfl,rfl,HA,bo,⟨m1,rfl⟩⟩:=hrel;cases gk with
  |zero=>exact absurd HA.1 (by simp[eF.U])
  |succ k1=>
   have H:=HA.1;clear HA;simp only[eF.U]at H;have oC:=J H;clear H;go_upto_region 3 with (fail)
   go_cut [23] (fun v23 wc=>∃(kq:Nat) (KF:Bool),v23 = .bool KF∧Aside0 (eF.j1 kq U a1 cF gA KF=some (r1,r2,r3))∧Aside0 (kq≤k1)∧aC w wc)
   case first=>
    have H:=oC.1;clear oC;by_cases c4:gA<5
    ·rw[if_pos c4]at H;have fa:=decide_eq_true c4;clear c4
     (first|rw[fa]|(simp only[dD,fU];rw[fa])|skip)
     by_cases c5:a1≥0
     ·rw[if_pos c5]at H;have gx:decide (0≤a1)=true:=decide_eq_true c5;clear c5;have H':=J H;clear H;go_wp2;go_meet
      case rel=>exact⟨_,(decide (a1<(wrap64 ((U.length:Int)-gA)))),mE,H',⟨by have:=bo.1;first|omega|exact Nat.le_refl _⟩,by repeat (first|exact aC.refl _|apply aC.step)⟩
     ·rw[if_neg c5]at H;have gx:decide (0≤a1)=false:=decide_eq_false c5;clear c5;have H':=J H;clear H;go_wp2;go_meet
      case rel=>exact⟨_,(false),mE,H',⟨by have:=bo.1;first|omega|exact Nat.le_refl _⟩,by repeat (first|exact aC.refl _|apply aC.step)⟩
    ·rw[if_neg c4]at H;have fa:=decide_eq_false c4;clear c4
     (first|rw[fa]|(simp only[dD,fU];rw[fa])|skip)
     have H':=J H;clear H;go_wp2;go_meet
     case rel=>exact⟨_,(false),mE,H',⟨by have:=bo.1;first|omega|exact Nat.le_refl _⟩,by repeat (first|exact aC.refl _|apply aC.step)⟩
   case rest=>
    clear oC
    obtain⟨kq,KF,rfl,HA,rQ,⟨Yt,rfl⟩⟩:=hcut;cases kq with
    |zero=>exact absurd HA.1 (by simp[eF.j1])
    |succ sK=>
     have H:=HA.1;clear HA;simp only[eF.j1]at H;by_cases c6:KF=true
     ·subst c6;have H1:=H;rw[if_pos rfl]at H1;clear H;have H:=H1;clear H1;obtain⟨lC,wM⟩:∃j_:Int,(wrap64 (a1+gA))=j_:=⟨_,rfl⟩;replace H:(if 0≤(lC) then (if (lC)<(U.length:Int) then (if gA=0 then (eF.j2 sK U a1 cF gA (wrap64 (rd U (lC))) ((wrap64 (rd U (lC))) == 128)) else (eF.j2 sK U a1 cF gA (wrap64 (rd U (lC))) false)) else (none)) else (none))=some (r1,r2,r3):=by first|(rw[wM]at H;exact H)|(simp only[wM]at H ⊢;exact H)
      have av2:(IntKind.i64.wrap (a1+gA))=lC:=(dD _).trans wM;by_cases c8:0≤(lC)
      ·rw[if_pos c8]at H;have mw:=decide_eq_true c8;clear c8;by_cases c9:(lC)<(U.length:Int)
       ·rw[if_pos c9]at H;have qm:=decide_eq_true c9;clear c9;have Lj:=J H;clear H;have JJ:0≤((lC):Int):=mD;have JR:(lC)<(U.length:Int):=mD;obtain⟨ao3,afH,akn⟩:=Kd.lW cr.1 (lC) JJ JR;cases afH
        replace JJ:=eq_true JJ;replace JR:=eq_true JR;go_upto_region 6 with (fail)
        go_cut [38] (fun v38 wc=>∃(kq:Nat) (KO:Bool),v38 = .bool KO∧Aside0 (eF.j2 kq U a1 cF gA (wrap64 (rd U (lC))) KO=some (r1,r2,r3))∧Aside0 (kq≤sK)∧aC w wc)
        case first=>
         have H:=Lj.1;clear Lj;by_cases dy:gA=0
         ·rw[if_pos dy]at H;have ql:(gA == 0)=true:=beq_iff_eq.mpr dy;have C8:(gA != 0)=false:=bne_eq_false_iff_eq.mpr dy;clear dy
          (first|rw[ql]|(simp only[dD,fU];rw[ql])|skip)
          have H':=J H;clear H;go_wp2;go_meet
          case rel=>exact⟨_,(((wrap64 (rd U (lC))) == 128)),(by first|rfl|(simp;done)|(simp only[←wM]<;>(first|rfl|simp))|(simp[*];done)),H',⟨by have:=bo.1;have:=rQ.1;first|omega|exact Nat.le_refl _⟩,by repeat (first|exact aC.refl _|apply aC.step)⟩
         ·rw[if_neg dy]at H;have ql:(gA == 0)=false:=beq_eq_false_iff_ne.mpr dy;have C8:(gA != 0)=true:=bne_iff_ne.mpr dy
          (first|rw[ql]|(simp only[dD,fU];rw[ql])|skip)
          have H':=J H;clear H;go_wp2;go_meet
          case rel=>exact⟨_,(false),mE,H',⟨by have:=bo.1;have:=rQ.1;first|omega|exact Nat.le_refl _⟩,by repeat (first|exact aC.refl _|apply aC.step)⟩
        case rest=>
         clear Lj
         try clear c6
         try clear c8
         try clear mw
         try clear c9
         try clear qm
         try clear akn
         try clear JJ
         try clear JR
         obtain⟨kq,KO,rfl,HA,RP,⟨mc9,rfl⟩⟩:=hcut;cases kq with
         |zero=>exact absurd HA.1 (by simp[eF.j2])
         |succ kj9=>
          have H:=HA.1;clear HA;simp only[eF.j2]at H;by_cases dX:KO=true
          ·subst dX;have H1:=H;rw[if_pos rfl]at H1;clear H;have H:=H1;clear H1;simp only[Option.some.injEq,Prod.mk.injEq]at H;obtain⟨rfl,rfl,rfl⟩:=H;go_wp2;go_ret3;exact⟨by first|rfl|(simp;done)|(simp only[←wM]<;>(first|rfl|simp))|(simp[*];done),by repeat (first|exact aC.refl _|apply aC.step)⟩
          ·replace dX:=Bool.eq_false_iff.mpr dX;subst dX;have H1:=H;rw[if_neg (show ¬(false=true) by decide)]at H1;clear H;have H:=H1;clear H1;by_cases cQ:(wrap64 (rd U (lC)))≥128
           ·rw[if_pos cQ]at H;have pj:decide (128≤(wrap64 (rd U (lC))))=true:=decide_eq_true cQ;clear cQ;have H':=J H;clear H;go_wp2;go_roundg kj9
            case measure=>have:=bo.1;have:=rQ.1;have:=RP.1;omega
            case rel=>exact⟨(wrap64 ((wrap64 (cF*128))+(Int.tmod (wrap64 (rd U (lC))) 128))),(wrap64 (gA+1)),(by first|rfl|(simp;done)|(simp only[←wM]<;>(first|rfl|simp))|(simp[*];done)),mE,H',⟨by have:=bo.1;have:=rQ.1;have:=RP.1;omega⟩,by repeat (first|exact aC.refl _|apply aC.step)⟩
           ·rw[if_neg cQ]at H;have pj:decide (128≤(wrap64 (rd U (lC))))=false:=decide_eq_false cQ;clear cQ;by_cases gR:(wrap64 ((wrap64 (cF*128))+(Int.tmod (wrap64 (rd U (lC))) 128)))>1000000000
            ·rw[if_pos gR]at H;have yt:decide (1000000000<(wrap64 ((wrap64 (cF*128))+(Int.tmod (wrap64 (rd U (lC))) 128))))=true:=decide_eq_true gR;clear gR;simp only[Option.some.injEq,Prod.mk.injEq]at H;obtain⟨rfl,rfl,rfl⟩:=H;go_wp2;go_ret3;exact⟨by first|rfl|(simp;done)|(simp only[←wM]<;>(first|rfl|simp))|(simp[*];done),by repeat (first|exact aC.refl _|apply aC.step)⟩
            ·rw[if_neg gR]at H;have yt:decide (1000000000<(wrap64 ((wrap64 (cF*128))+(Int.tmod (wrap64 (rd U (lC))) 128))))=false:=decide_eq_false gR;clear gR;simp only[Option.some.injEq,Prod.mk.injEq]at H;obtain⟨rfl,rfl,rfl⟩:=H;go_wp2;go_ret3;exact⟨by first|rfl|(simp;done)|(simp only[←wM]<;>(first|rfl|simp))|(simp[*];done),by repeat (first|exact aC.refl _|apply aC.step)⟩
       ·rw[if_neg c9]at H;exact absurd H (by simp)
      ·rw[if_neg c8]at H;exact absurd H (by simp)
     ·replace c6:=Bool.eq_false_iff.mpr c6;subst c6;have H1:=H;rw[if_neg (show ¬(false=true) by decide)]at H1;clear H;have H:=H1;clear H1;simp only[Option.some.injEq,Prod.mk.injEq]at H;obtain⟨rfl,rfl,rfl⟩:=H;go_wp2;go_ret3;exact⟨mE,by repeat (first|exact aC.refl _|apply aC.step)⟩
def uX.f (k:Nat) (U:List Int) (a1:Int):Option (ByteArray × Int × Bool):=(eF.f k U a1).bind fun iR=>(if iR.2.2=true then (if iR.1>(wrap64 ((U.length:Int)-iR.2.1)) then (some ((⟨#[]⟩:ByteArray),0,false)) else (if 0≤iR.2.1 then (if iR.2.1≤(wrap64 (iR.2.1+iR.1)) then (if (wrap64 (iR.2.1+iR.1))≤(U.length:Int) then (some (strOfNums ((U.take ((wrap64 (iR.2.1+iR.1)):Int).toNat).drop (iR.2.1:Int).toNat),wrap64 (iR.2.1+iR.1),true)) else (none)) else (none)) else (none))) else (some ((⟨#[]⟩:ByteArray),0,false)))
set_option maxHeartbeats 8000000 in
set_option maxRecDepth 100000 in
theorem uX.calls (k:Nat) (A0:Option Addr) (c0:Nat) (U:List Int) (a1:Int) (r1:ByteArray) (r2:Int) (r3:Bool) (w:World) (b9:Kd.C (Kd.int .u8) w A0 U.length U) (cg:U.length≤c0) (h:uX.f k U a1=some (r1,r2,r3)) :
 Calls Tryz.prog 78 #[.slice A0 U.length c0,.int .i64 a1] w fun e w'=>e = .returned (.tuple #[.string r1,.int .i64 r2,.bool r3])∧aC w w':=by
 have cr:=J b9;have fy:=J cg;clear b9 cg;have H:((eF.f k U a1).bind fun iR=>(if iR.2.2=true then (if iR.1>(wrap64 ((U.length:Int)-iR.2.1)) then (some ((⟨#[]⟩:ByteArray),0,false)) else (if 0≤iR.2.1 then (if iR.2.1≤(wrap64 (iR.2.1+iR.1)) then (if (wrap64 (iR.2.1+iR.1))≤(U.length:Int) then (some (strOfNums ((U.take ((wrap64 (iR.2.1+iR.1)):Int).toNat).drop (iR.2.1:Int).toNat),wrap64 (iR.2.1+iR.1),true)) else (none)) else (none)) else (none))) else (some ((⟨#[]⟩:ByteArray),0,false))))=some (r1,r2,r3):=h;clear h;replace H:=Option.bind_eq_some_iff.mp H;obtain⟨⟨t152,t153,t154⟩,dQ,H⟩:=H;replace H:(if t154=true then (if t152>(wrap64 ((U.length:Int)-t153)) then (some ((⟨#[]⟩:ByteArray),0,false)) else (if 0≤t153 then (if t153≤(wrap64 (t153+t152)) then (if (wrap64 (t153+t152))≤(U.length:Int) then (some (strOfNums ((U.take ((wrap64 (t153+t152)):Int).toNat).drop (t153:Int).toNat),wrap64 (t153+t152),true)) else (none)) else (none)) else (none))) else (some ((⟨#[]⟩:ByteArray),0,false)))=some (r1,r2,r3):=H;have A3:=J dQ;clear dQ;by_cases c4:t154=true
 ·subst c4;have H1:=H;rw[if_pos rfl]at H1;clear H;have H:=H1;clear H1;by_cases c5:t152>(wrap64 ((U.length:Int)-t153))
  ·rw[if_pos c5]at H;have gx:decide ((wrap64 ((U.length:Int)-t153))<t152)=true:=decide_eq_true c5;clear c5;simp only[Option.some.injEq,Prod.mk.injEq]at H;obtain⟨rfl,rfl,rfl⟩:=H;go_enter Tryz.func78,Tryz.ntmps78;go_wp2_with (first|((with_reducible refine aH (f:=114) rfl ?_);refine cd 13 Tryz.func114 #[.slice A0 U.length c0,.int .i64 a1] ?_;(with_reducible refine(eF.calls k _ _ U a1 t152 t153 true _ ?aE ?aG A3.1).mono ?_);(case aE=>exact mC cr.1);(case aG=>exact fy.1);rintro e w' ⟨rfl,⟨nd,rfl⟩⟩;refine⟨_,rfl,?_⟩));go_ret3;exact⟨mE,by repeat (first|exact aC.refl _|apply aC.step)⟩
  ·rw[if_neg c5]at H;have gx:decide ((wrap64 ((U.length:Int)-t153))<t152)=false:=decide_eq_false c5;clear c5;by_cases c6:0≤t153
   ·rw[if_pos c6]at H;have hJ:=eq_true c6;have so:=decide_eq_true c6;clear c6;by_cases c7:t153≤(wrap64 (t153+t152))
    ·rw[if_pos c7]at H;have oO:=eq_true c7;have Ht:=decide_eq_true c7;by_cases c8:(wrap64 (t153+t152))≤(U.length:Int)
     ·rw[if_pos c8]at H;have mw:=eq_true c8;have Hu:=decide_eq_true c8;simp only[Option.some.injEq,Prod.mk.injEq]at H;obtain⟨rfl,rfl,rfl⟩:=H;go_enter Tryz.func78,Tryz.ntmps78;go_wp2_with (first|((with_reducible refine aH (f:=114) rfl ?_);refine cd 13 Tryz.func114 #[.slice A0 U.length c0,.int .i64 a1] ?_;(with_reducible refine(eF.calls k _ _ U a1 t152 t153 true _ ?aE ?aG A3.1).mono ?_);(case aE=>exact mC cr.1);(case aG=>exact fy.1);rintro e w' ⟨rfl,⟨nd,rfl⟩⟩;refine⟨_,rfl,?_⟩;obtain⟨i09,WG,_,Xz,_⟩:=info_parts l9;obtain⟨A9,ap2,UZ,U6⟩:=Pr (P:=Tryz.prog) (Value.int .u8) 0 22 5 .i64 .i64 Tryz.underlying22 WG Xz A0 c0 U t153 (wrap64 (t153+t152)) (mD) (by first|omega|exact mD) (mD) fy.1;have GO:=J (Kd.Lb (h1:=fun _=>rfl) (UZ _ (Kd.BC cr.1)));have aoT:=J U6;clear UZ U6 WG Xz;have ap3:=Kd.GF (P:=Tryz.prog) (A:=A9) (c:=(c0-t153.toNat)) Tryz.underlying22 Tryz.underlying5 Tryz.underlying9 GO.1;have ap4:=fun n_:Nat=>Kd.GF (P:=Tryz.prog) (A:=A9) (c:=(c0-t153.toNat)) Tryz.underlying22 Tryz.underlying5 Tryz.underlying9 (Kd.th GO.1 n_);have N9:=(show ((U.take ((wrap64 (t153+t152)):Int).toNat).drop (t153:Int).toNat).length=((wrap64 (t153+t152)):Int).toNat-(t153:Int).toNat from by rw[List.length_drop,List.length_take,Nat.min_eq_left (by omega)]);have ahx:=Kd.GF (P:=Tryz.prog) (A:=A9) (c:=(c0-t153.toNat)) Tryz.underlying22 Tryz.underlying5 Tryz.underlying9 GO.1;rw[N9]at ahx;have ap5:=fun n_:Nat=>(show _ from by have z_:=Kd.GF (P:=Tryz.prog) (A:=A9) (c:=(c0-t153.toNat)) Tryz.underlying22 Tryz.underlying5 Tryz.underlying9 (Kd.th GO.1 n_);rw[N9]at z_;exact z_);clear N9));go_ret3;exact⟨mE,by repeat (first|exact aC.refl _|apply aC.step)⟩
     ·rw[if_neg c8]at H;exact absurd H (by simp)
    ·rw[if_neg c7]at H;exact absurd H (by simp)
   ·rw[if_neg c6]at H;exact absurd H (by simp)
 ·replace c4:=Bool.eq_false_iff.mpr c4;subst c4;have H1:=H;rw[if_neg (show ¬(false=true) by decide)]at H1;clear H;have H:=H1;clear H1;simp only[Option.some.injEq,Prod.mk.injEq]at H;obtain⟨rfl,rfl,rfl⟩:=H;go_enter Tryz.func78,Tryz.ntmps78;go_wp2_with (first|((with_reducible refine aH (f:=114) rfl ?_);refine cd 13 Tryz.func114 #[.slice A0 U.length c0,.int .i64 a1] ?_;(with_reducible refine(eF.calls k _ _ U a1 t152 t153 false _ ?aE ?aG A3.1).mono ?_);(case aE=>exact mC cr.1);(case aG=>exact fy.1);rintro e w' ⟨rfl,⟨nd,rfl⟩⟩;refine⟨_,rfl,?_⟩));go_ret3;exact⟨mE,by repeat (first|exact aC.refl _|apply aC.step)⟩
mutual
def gl.U:Nat→Int→List Int→Int→Int→Option (Int)
 |0,_,_,_,_=>none
 |k+1,x3,x7,x8,x9=>if x9<x8 then (if 0≤x9 then (if x9<(x7.length:Int) then (gl.l1 k (Go.bits .xor .u32 x3 ((rd x7 x9) % 4294967296)) x7 x8 x9 0) else (none)) else (none)) else (some (wrap64 (Go.bits .xor .u32 4294967295 x3)))
def gl.l1:Nat→Int→List Int→Int→Int→Int→Option (Int)
 |0,_,_,_,_,_=>none
 |k+1,x3,x7,x8,x9,vF=>if vF<8 then (if (Go.bits .and .u32 x3 1)=1 then (gl.l1 k (Go.bits .xor .u32 (x3 / 2) 2197175160) x7 x8 x9 (wrap64 (vF+1))) else (gl.l1 k (x3 / 2) x7 x8 x9 (wrap64 (vF+1)))) else (gl.U k x3 x7 x8 (wrap64 (x9+1)))
end
def gl.f (k:Nat) (U:List Int):Option (Int):=gl.U k 4294967295 U (U.length:Int) 0
set_option maxHeartbeats 8000000 in
set_option maxRecDepth 100000 in
theorem gl.calls (k:Nat) (A0:Option Addr) (c0:Nat) (U:List Int) (r:Int) (w:World) (b9:Kd.C (Kd.int .u8) w A0 U.length U) (cg:U.length≤c0) (h:gl.f k U=some r) :
 Calls Tryz.prog 79 #[.slice A0 U.length c0] w fun e w'=>e = .returned (.int .i64 r)∧aC w w':=by
 have cr:=J b9;have fy:=J cg;clear b9 cg;have H:(gl.U k 4294967295 U (U.length:Int) 0)=some r:=h;clear h;have H':=J H;clear H;go_enter Tryz.func79,Tryz.ntmps79;go_wp2;go_loopg [3,9] k (fun kq v3 v9 w'=>∃(bF:Int) (iG:Int),v3 = .int .u32 bF∧v9 = .int .i64 iG∧Aside0 (gl.U kq bF U (U.length:Int) iG=some r)∧Aside0 (kq≤k)∧aC w w')
 case atStart=>exact⟨(4294967295),(0),mE,mE,H',⟨Nat.le_refl _⟩,by repeat (first|exact aC.refl _|apply aC.step)⟩
 case round=>
  clear H';obtain⟨bF,iG,rfl,rfl,HA,bo,⟨m1,rfl⟩⟩:=hrel;cases gk with
  |zero=>exact absurd HA.1 (by simp[gl.U])
  |succ k1=>
   have H:=HA.1;clear HA;simp only[gl.U]at H;by_cases c2:iG<(U.length:Int)
   ·rw[if_pos c2]at H;have tG:=decide_eq_true c2;clear c2;by_cases c3:0≤iG
    ·rw[if_pos c3]at H;have jy:=decide_eq_true c3;clear c3;by_cases c4:iG<(U.length:Int)
     ·rw[if_pos c4]at H;have fa:=decide_eq_true c4;clear c4;have H':=J H;clear H;have JK:0≤(iG:Int):=mD;have JS:iG<(U.length:Int):=mD;obtain⟨ao4,afI,ako⟩:=Kd.lW cr.1 iG JK JS;cases afI
      replace JK:=eq_true JK;replace JS:=eq_true JS;go_wp2;go_loopg [3,17] k1 (fun kq v3 v17 w'=>∃(kD:Int) (BV:Int),v3 = .int .u32 kD∧v17 = .int .i64 BV∧Aside0 (gl.l1 kq kD U (U.length:Int) iG BV=some r)∧Aside0 (kq≤k1)∧aC w w')
      case atStart=>exact⟨(Go.bits .xor .u32 bF ((rd U iG) % 4294967296)),(0),mE,mE,H',⟨Nat.le_refl _⟩,by repeat (first|exact aC.refl _|apply aC.step)⟩
      case round=>
       clear H'
       try clear c2
       try clear tG
       try clear c3
       try clear jy
       try clear c4
       try clear fa
       try clear ako
       try clear JK
       try clear JS
       obtain⟨kD,BV,rfl,rfl,HA,jU,⟨m2,rfl⟩⟩:=hrel;cases gk with
       |zero=>exact absurd HA.1 (by simp[gl.l1])
       |succ k2=>
        have H:=HA.1;clear HA;simp only[gl.l1]at H;by_cases c5:BV<8
        ·rw[if_pos c5]at H;have gx:=decide_eq_true c5;clear c5;by_cases c6:(Go.bits .and .u32 kD 1)=1
         ·rw[if_pos c6]at H;have hJ:((Go.bits .and .u32 kD 1) == 1)=true:=beq_iff_eq.mpr c6;have so:((Go.bits .and .u32 kD 1) != 1)=false:=bne_eq_false_iff_eq.mpr c6;clear c6;have H':=J H;clear H;go_wp2;go_roundg k2
          case measure=>have:=bo.1;have:=jU.1;omega
          case rel=>exact⟨(Go.bits .xor .u32 (kD / 2) 2197175160),(wrap64 (BV+1)),mE,mE,H',⟨by have:=bo.1;have:=jU.1;omega⟩,by repeat (first|exact aC.refl _|apply aC.step)⟩
         ·rw[if_neg c6]at H;have hJ:((Go.bits .and .u32 kD 1) == 1)=false:=beq_eq_false_iff_ne.mpr c6;have so:((Go.bits .and .u32 kD 1) != 1)=true:=bne_iff_ne.mpr c6;have H':=J H;clear H;go_wp2;go_roundg k2
          case measure=>have:=bo.1;have:=jU.1;omega
          case rel=>exact⟨(kD / 2),(wrap64 (BV+1)),mE,mE,H',⟨by have:=bo.1;have:=jU.1;omega⟩,by repeat (first|exact aC.refl _|apply aC.step)⟩
        ·rw[if_neg c5]at H;have gx:=decide_eq_false c5;clear c5;have H':=J H;clear H;go_wp2;go_roundg k2
         case measure=>have:=bo.1;have:=jU.1;omega
         case rel=>exact⟨(kD),(wrap64 (iG+1)),mE,mE,H',⟨by have:=bo.1;have:=jU.1;omega⟩,by repeat (first|exact aC.refl _|apply aC.step)⟩
     ·rw[if_neg c4]at H;exact absurd H (by simp)
    ·rw[if_neg c3]at H;exact absurd H (by simp)
   ·rw[if_neg c2]at H;have tG:=decide_eq_false c2;clear c2;obtain rfl:=Option.some.inj H;go_wp2;go_ret;exact⟨mE,by repeat (first|exact aC.refl _|apply aC.step)⟩
def qq.f (U:List Int) (a1:Int):Option (Int):=if 0≤a1 then (if a1<(U.length:Int) then (if 0≤(wrap64 (a1+1)) then (if (wrap64 (a1+1))<(U.length:Int) then (if 0≤(wrap64 (a1+2)) then (if (wrap64 (a1+2))<(U.length:Int) then (if 0≤(wrap64 (a1+3)) then (if (wrap64 (a1+3))<(U.length:Int) then (some (Go.bits .or .i64 (Go.bits .or .i64 (Go.bits .or .i64 (wrap64 ((wrap64 (rd U a1))*16777216)) (wrap64 ((wrap64 (rd U (wrap64 (a1+1))))*65536))) (wrap64 ((wrap64 (rd U (wrap64 (a1+2))))*256))) (wrap64 (rd U (wrap64 (a1+3)))))) else (none)) else (none)) else (none)) else (none)) else (none)) else (none)) else (none)) else (none)
set_option maxHeartbeats 8000000 in
set_option maxRecDepth 100000 in
theorem qq.calls (A0:Option Addr) (c0:Nat) (U:List Int) (a1:Int) (r:Int) (w:World) (b9:Kd.C (Kd.int .u8) w A0 U.length U) (cg:U.length≤c0) (h:qq.f U a1=some r) :
 Calls Tryz.prog 80 #[.slice A0 U.length c0,.int .i64 a1] w fun e w'=>e = .returned (.int .i64 r)∧aC w w':=by
 have cr:=J b9;have fy:=J cg;clear b9 cg;have H:(if 0≤a1 then (if a1<(U.length:Int) then (if 0≤(wrap64 (a1+1)) then (if (wrap64 (a1+1))<(U.length:Int) then (if 0≤(wrap64 (a1+2)) then (if (wrap64 (a1+2))<(U.length:Int) then (if 0≤(wrap64 (a1+3)) then (if (wrap64 (a1+3))<(U.length:Int) then (some (Go.bits .or .i64 (Go.bits .or .i64 (Go.bits .or .i64 (wrap64 ((wrap64 (rd U a1))*16777216)) (wrap64 ((wrap64 (rd U (wrap64 (a1+1))))*65536))) (wrap64 ((wrap64 (rd U (wrap64 (a1+2))))*256))) (wrap64 (rd U (wrap64 (a1+3)))))) else (none)) else (none)) else (none)) else (none)) else (none)) else (none)) else (none)) else (none))=some r:=h;clear h;by_cases c3:0≤a1
 ·rw[if_pos c3]at H;have jy:=decide_eq_true c3;clear c3;by_cases c4:a1<(U.length:Int)
  ·rw[if_pos c4]at H;have fa:=decide_eq_true c4;clear c4;obtain⟨sI,Jb⟩:∃j_:Int,(wrap64 (a1+1))=j_:=⟨_,rfl⟩;replace H:(if 0≤(sI) then (if (sI)<(U.length:Int) then (if 0≤(wrap64 (a1+2)) then (if (wrap64 (a1+2))<(U.length:Int) then (if 0≤(wrap64 (a1+3)) then (if (wrap64 (a1+3))<(U.length:Int) then (some (Go.bits .or .i64 (Go.bits .or .i64 (Go.bits .or .i64 (wrap64 ((wrap64 (rd U a1))*16777216)) (wrap64 ((wrap64 (rd U (sI)))*65536))) (wrap64 ((wrap64 (rd U (wrap64 (a1+2))))*256))) (wrap64 (rd U (wrap64 (a1+3)))))) else (none)) else (none)) else (none)) else (none)) else (none)) else (none))=some r:=by first|(rw[Jb]at H;exact H)|(simp only[Jb]at H ⊢;exact H)
   have avZ:(IntKind.i64.wrap (a1+1))=sI:=(dD _).trans Jb;by_cases c6:0≤(sI)
   ·rw[if_pos c6]at H;have hJ:=decide_eq_true c6;clear c6;by_cases c7:(sI)<(U.length:Int)
    ·rw[if_pos c7]at H;have oO:=decide_eq_true c7;clear c7;obtain⟨fL,mF⟩:∃j_:Int,(wrap64 (a1+2))=j_:=⟨_,rfl⟩;replace H:(if 0≤(fL) then (if (fL)<(U.length:Int) then (if 0≤(wrap64 (a1+3)) then (if (wrap64 (a1+3))<(U.length:Int) then (some (Go.bits .or .i64 (Go.bits .or .i64 (Go.bits .or .i64 (wrap64 ((wrap64 (rd U a1))*16777216)) (wrap64 ((wrap64 (rd U (sI)))*65536))) (wrap64 ((wrap64 (rd U (fL)))*256))) (wrap64 (rd U (wrap64 (a1+3)))))) else (none)) else (none)) else (none)) else (none))=some r:=by first|(rw[mF]at H;exact H)|(simp only[mF]at H ⊢;exact H)
     have WO:(IntKind.i64.wrap (a1+2))=fL:=(dD _).trans mF;by_cases c9:0≤(fL)
     ·rw[if_pos c9]at H;have qm:=decide_eq_true c9;clear c9;by_cases fE:(fL)<(U.length:Int)
      ·rw[if_pos fE]at H;have qk:=decide_eq_true fE;clear fE;obtain⟨lz,uS⟩:∃j_:Int,(wrap64 (a1+3))=j_:=⟨_,rfl⟩;replace H:(if 0≤(lz) then (if (lz)<(U.length:Int) then (some (Go.bits .or .i64 (Go.bits .or .i64 (Go.bits .or .i64 (wrap64 ((wrap64 (rd U a1))*16777216)) (wrap64 ((wrap64 (rd U (sI)))*65536))) (wrap64 ((wrap64 (rd U (fL)))*256))) (wrap64 (rd U (lz))))) else (none)) else (none))=some r:=by first|(rw[uS]at H;exact H)|(simp only[uS]at H ⊢;exact H)
       have ajD:(IntKind.i64.wrap (a1+3))=lz:=(dD _).trans uS;by_cases dX:0≤(lz)
       ·rw[if_pos dX]at H;have nY:=decide_eq_true dX;clear dX;by_cases cQ:(lz)<(U.length:Int)
        ·rw[if_pos cQ]at H;have pj:=decide_eq_true cQ;clear cQ;obtain rfl:=Option.some.inj H;have OX:0≤(a1:Int):=mD;have Pv:a1<(U.length:Int):=mD;obtain⟨Mo,afJ,ax7⟩:=Kd.lW cr.1 a1 OX Pv;cases afJ
         replace OX:=eq_true OX;replace Pv:=eq_true Pv;have OY:0≤((sI):Int):=mD;have Pw:(sI)<(U.length:Int):=mD;obtain⟨aef,afK,ax8⟩:=Kd.lW cr.1 (sI) OY Pw;obtain rfl:Mo=aef:=(by injection afK);replace OY:=eq_true OY;replace Pw:=eq_true Pw;have OZ:0≤((fL):Int):=mD;have Px:(fL)<(U.length:Int):=mD;obtain⟨aeg,afL,ax9⟩:=Kd.lW cr.1 (fL) OZ Px;obtain rfl:Mo=aeg:=(by injection afL);replace OZ:=eq_true OZ;replace Px:=eq_true Px;have O0:0≤((lz):Int):=mD;have Py:(lz)<(U.length:Int):=mD;obtain⟨aeh,afM,aya⟩:=Kd.lW cr.1 (lz) O0 Py;obtain rfl:Mo=aeh:=(by injection afM);replace O0:=eq_true O0;replace Py:=eq_true Py;go_enter Tryz.func80,Tryz.ntmps80;go_wp2
         repeat (go_quiet (fail);try go_wp2)
         go_ret;exact⟨by first|rfl|(simp;done)|(simp only[←Jb,←mF,←uS]<;>(first|rfl|simp))|(simp[*];done),by repeat (first|exact aC.refl _|apply aC.step)⟩
        ·rw[if_neg cQ]at H;exact absurd H (by simp)
       ·rw[if_neg dX]at H;exact absurd H (by simp)
      ·rw[if_neg fE]at H;exact absurd H (by simp)
     ·rw[if_neg c9]at H;exact absurd H (by simp)
    ·rw[if_neg c7]at H;exact absurd H (by simp)
   ·rw[if_neg c6]at H;exact absurd H (by simp)
  ·rw[if_neg c4]at H;exact absurd H (by simp)
 ·rw[if_neg c3]at H;exact absurd H (by simp)
def mc.j0:Nat→List Int→Int→Bool→Option (Int × Bool)
 |0,_,_,_=>none
 |k+1,x0,x1,vE=>if vE=true then (some (0,false)) else (if 0≤x1 then (if x1<(x0.length:Int) then (if 0≤(wrap64 (x1+1)) then (if (wrap64 (x1+1))<(x0.length:Int) then (if 0≤(wrap64 (x1+2)) then (if (wrap64 (x1+2))<(x0.length:Int) then (if 0≤(wrap64 (x1+3)) then (if (wrap64 (x1+3))<(x0.length:Int) then (some (Go.bits .or .i64 (Go.bits .or .i64 (Go.bits .or .i64 (wrap64 ((wrap64 (rd x0 x1))*16777216)) (wrap64 ((wrap64 (rd x0 (wrap64 (x1+1))))*65536))) (wrap64 ((wrap64 (rd x0 (wrap64 (x1+2))))*256))) (wrap64 (rd x0 (wrap64 (x1+3)))),true)) else (none)) else (none)) else (none)) else (none)) else (none)) else (none)) else (none)) else (none))
def mc.f (k:Nat) (U:List Int) (a1:Int):Option (Int × Bool):=if a1<0 then (mc.j0 k U a1 true) else (mc.j0 k U a1 (decide (a1>(wrap64 ((U.length:Int)-4)))))
set_option maxHeartbeats 8000000 in
set_option maxRecDepth 100000 in
theorem mc.calls (k:Nat) (A0:Option Addr) (c0:Nat) (U:List Int) (a1:Int) (r1:Int) (r2:Bool) (w:World) (b9:Kd.C (Kd.int .u8) w A0 U.length U) (cg:U.length≤c0) (h:mc.f k U a1=some (r1,r2)) :
 Calls Tryz.prog 110 #[.slice A0 U.length c0,.int .i64 a1] w fun e w'=>e = .returned (.tuple #[.int .i64 r1,.bool r2])∧aC w w':=by
 have cr:=J b9;have fy:=J cg;clear b9 cg;have H:(if a1<0 then (mc.j0 k U a1 true) else (mc.j0 k U a1 (decide (a1>(wrap64 ((U.length:Int)-4))))))=some (r1,r2):=h;clear h;have oC:=J H;clear H;go_enter Tryz.func110,Tryz.ntmps110;go_upto_region 1 with (fail)
 repeat (go_quiet (fail);go_upto_region 1 with (fail))
 go_cut [14] (fun Gi wc=>∃(kq:Nat) (KC:Bool),Gi = .bool KC∧Aside0 (mc.j0 kq U a1 KC=some (r1,r2))∧Aside0 (kq≤k)∧aC w wc)
 case first=>
  have H:=oC.1;clear oC;by_cases c4:a1<0
  ·rw[if_pos c4]at H;have fa:=decide_eq_true c4;clear c4
   (first|rw[fa]|(simp only[dD,fU];rw[fa])|skip)
   have H':=J H;clear H;go_wp2
   repeat (go_quiet (fail);try go_wp2)
   go_meet
   case rel=>exact⟨_,(true),mE,H',⟨by first|omega|exact Nat.le_refl _⟩,by repeat (first|exact aC.refl _|apply aC.step)⟩
  ·rw[if_neg c4]at H;have fa:=decide_eq_false c4;clear c4
   (first|rw[fa]|(simp only[dD,fU];rw[fa])|skip)
   have H':=J H;clear H;go_wp2
   repeat (go_quiet (fail);try go_wp2)
   go_meet
   case rel=>exact⟨_,(decide (a1>(wrap64 ((U.length:Int)-4)))),mE,H',⟨by first|omega|exact Nat.le_refl _⟩,by repeat (first|exact aC.refl _|apply aC.step)⟩
 case rest=>
  clear oC
  obtain⟨kq,KC,rfl,HA,rQ,⟨Yt,rfl⟩⟩:=hcut;cases kq with
  |zero=>exact absurd HA.1 (by simp[mc.j0])
  |succ sK=>
   have H:=HA.1;clear HA;simp only[mc.j0]at H;by_cases c5:KC=true
   ·subst c5;have H1:=H;rw[if_pos rfl]at H1;clear H;have H:=H1;clear H1;simp only[Option.some.injEq,Prod.mk.injEq]at H;obtain⟨rfl,rfl⟩:=H;go_wp2
    repeat (go_quiet (fail);try go_wp2)
    go_ret2;exact⟨mE,by repeat (first|exact aC.refl _|apply aC.step)⟩
   ·replace c5:=Bool.eq_false_iff.mpr c5;subst c5;have H1:=H;rw[if_neg (show ¬(false=true) by decide)]at H1;clear H;have H:=H1;clear H1;by_cases c6:0≤a1
    ·rw[if_pos c6]at H;have hJ:=decide_eq_true c6;clear c6;by_cases c7:a1<(U.length:Int)
     ·rw[if_pos c7]at H;have oO:=decide_eq_true c7;clear c7;obtain⟨fL,mF⟩:∃j_:Int,(wrap64 (a1+1))=j_:=⟨_,rfl⟩;replace H:(if 0≤(fL) then (if (fL)<(U.length:Int) then (if 0≤(wrap64 (a1+2)) then (if (wrap64 (a1+2))<(U.length:Int) then (if 0≤(wrap64 (a1+3)) then (if (wrap64 (a1+3))<(U.length:Int) then (some (Go.bits .or .i64 (Go.bits .or .i64 (Go.bits .or .i64 (wrap64 ((wrap64 (rd U a1))*16777216)) (wrap64 ((wrap64 (rd U (fL)))*65536))) (wrap64 ((wrap64 (rd U (wrap64 (a1+2))))*256))) (wrap64 (rd U (wrap64 (a1+3)))),true)) else (none)) else (none)) else (none)) else (none)) else (none)) else (none))=some (r1,r2):=by first|(rw[mF]at H;exact H)|(simp only[mF]at H ⊢;exact H)
      have WO:(IntKind.i64.wrap (a1+1))=fL:=(dD _).trans mF;by_cases c9:0≤(fL)
      ·rw[if_pos c9]at H;have qm:=decide_eq_true c9;clear c9;by_cases fE:(fL)<(U.length:Int)
       ·rw[if_pos fE]at H;have qk:=decide_eq_true fE;clear fE;obtain⟨lz,uS⟩:∃j_:Int,(wrap64 (a1+2))=j_:=⟨_,rfl⟩;replace H:(if 0≤(lz) then (if (lz)<(U.length:Int) then (if 0≤(wrap64 (a1+3)) then (if (wrap64 (a1+3))<(U.length:Int) then (some (Go.bits .or .i64 (Go.bits .or .i64 (Go.bits .or .i64 (wrap64 ((wrap64 (rd U a1))*16777216)) (wrap64 ((wrap64 (rd U (fL)))*65536))) (wrap64 ((wrap64 (rd U (lz)))*256))) (wrap64 (rd U (wrap64 (a1+3)))),true)) else (none)) else (none)) else (none)) else (none))=some (r1,r2):=by first|(rw[uS]at H;exact H)|(simp only[uS]at H ⊢;exact H)
        have ajD:(IntKind.i64.wrap (a1+2))=lz:=(dD _).trans uS;by_cases dX:0≤(lz)
        ·rw[if_pos dX]at H;have nY:=decide_eq_true dX;clear dX;by_cases cQ:(lz)<(U.length:Int)
         ·rw[if_pos cQ]at H;have pj:=decide_eq_true cQ;clear cQ;obtain⟨lB,tO⟩:∃j_:Int,(wrap64 (a1+3))=j_:=⟨_,rfl⟩;replace H:(if 0≤(lB) then (if (lB)<(U.length:Int) then (some (Go.bits .or .i64 (Go.bits .or .i64 (Go.bits .or .i64 (wrap64 ((wrap64 (rd U a1))*16777216)) (wrap64 ((wrap64 (rd U (fL)))*65536))) (wrap64 ((wrap64 (rd U (lz)))*256))) (wrap64 (rd U (lB))),true)) else (none)) else (none))=some (r1,r2):=by first|(rw[tO]at H;exact H)|(simp only[tO]at H ⊢;exact H)
          have avS:(IntKind.i64.wrap (a1+3))=lB:=(dD _).trans tO;by_cases lY:0≤(lB)
          ·rw[if_pos lY]at H;have Hj:=decide_eq_true lY;clear lY;by_cases jk:(lB)<(U.length:Int)
           ·rw[if_pos jk]at H;have MG:=decide_eq_true jk;clear jk;simp only[Option.some.injEq,Prod.mk.injEq]at H;obtain⟨rfl,rfl⟩:=H;have O6:0≤(a1:Int):=mD;have PE:a1<(U.length:Int):=mD;obtain⟨Ms,afS,ayb⟩:=Kd.lW cr.1 a1 O6 PE;cases afS
            replace O6:=eq_true O6;replace PE:=eq_true PE;have O7:0≤((fL):Int):=mD;have PF:(fL)<(U.length:Int):=mD;obtain⟨aen,afT,ayc⟩:=Kd.lW cr.1 (fL) O7 PF;obtain rfl:Ms=aen:=(by injection afT);replace O7:=eq_true O7;replace PF:=eq_true PF;have O8:0≤((lz):Int):=mD;have PG:(lz)<(U.length:Int):=mD;obtain⟨aeo,afU,ayd⟩:=Kd.lW cr.1 (lz) O8 PG;obtain rfl:Ms=aeo:=(by injection afU);replace O8:=eq_true O8;replace PG:=eq_true PG;have O9:0≤((lB):Int):=mD;have PH:(lB)<(U.length:Int):=mD;obtain⟨aep,afV,aye⟩:=Kd.lW cr.1 (lB) O9 PH;obtain rfl:Ms=aep:=(by injection afV);replace O9:=eq_true O9;replace PH:=eq_true PH;go_wp2
            repeat (go_quiet (fail);try go_wp2)
            go_ret2;exact⟨by first|rfl|(simp;done)|(simp only[←mF,←uS,←tO]<;>(first|rfl|simp))|(simp[*];done),by repeat (first|exact aC.refl _|apply aC.step)⟩
           ·rw[if_neg jk]at H;exact absurd H (by simp)
          ·rw[if_neg lY]at H;exact absurd H (by simp)
         ·rw[if_neg cQ]at H;exact absurd H (by simp)
        ·rw[if_neg dX]at H;exact absurd H (by simp)
       ·rw[if_neg fE]at H;exact absurd H (by simp)
      ·rw[if_neg c9]at H;exact absurd H (by simp)
     ·rw[if_neg c7]at H;exact absurd H (by simp)
    ·rw[if_neg c6]at H;exact absurd H (by simp)
mutual
def eI.U:Nat→List Int→Int→Int→Int→Option (Int × Int × Bool)
 |0,_,_,_,_=>none
 |k+1,x0,x1,x7,x8=>if x8<5 then (if x1≥0 then (if x1<(x0.length:Int) then (eI.j1 k x0 x1 x7 x8 (decide ((wrap64 (x1+x8))<(x0.length:Int)))) else (eI.j1 k x0 x1 x7 x8 false)) else (eI.j1 k x0 x1 x7 x8 false)) else (eI.j1 k x0 x1 x7 x8 false)
def eI.j1:Nat→List Int→Int→Int→Int→Bool→Option (Int × Int × Bool)
 |0,_,_,_,_,_=>none
 |k+1,x0,x1,x7,x8,QQ=>if QQ=true then (if 0≤(wrap64 (x1+x8)) then (if (wrap64 (x1+x8))<(x0.length:Int) then (if x8=0 then (eI.j2 k x0 x1 x7 x8 (wrap64 (rd x0 (wrap64 (x1+x8)))) ((wrap64 (rd x0 (wrap64 (x1+x8)))) == 128)) else (eI.j2 k x0 x1 x7 x8 (wrap64 (rd x0 (wrap64 (x1+x8)))) false)) else (none)) else (none)) else (some (0,0,false))
def eI.j2:Nat→List Int→Int→Int→Int→Int→Bool→Option (Int × Int × Bool)
 |0,_,_,_,_,_,_=>none
 |k+1,x0,x1,x7,x8,x9,x44=>if x44=true then (some (0,0,false)) else (if x9<128 then (if (Go.bits .or .i64 (wrap64 (x7*128)) (Go.bits .and .i64 x9 127))>1000000000 then (some (0,0,false)) else (some (Go.bits .or .i64 (wrap64 (x7*128)) (Go.bits .and .i64 x9 127),wrap64 ((wrap64 (x1+x8))+1),true))) else (eI.U k x0 x1 (Go.bits .or .i64 (wrap64 (x7*128)) (Go.bits .and .i64 x9 127)) (wrap64 (x8+1))))
end
def eI.f (k:Nat) (U:List Int) (a1:Int):Option (Int × Int × Bool):=eI.U k U a1 0 0
set_option maxHeartbeats 8000000 in
set_option maxRecDepth 100000 in
theorem eI.calls (k:Nat) (A0:Option Addr) (c0:Nat) (U:List Int) (a1:Int) (r1:Int) (r2:Int) (r3:Bool) (w:World) (b9:Kd.C (Kd.int .u8) w A0 U.length U) (cg:U.length≤c0) (h:eI.f k U a1=some (r1,r2,r3)) :
 Calls Tryz.prog 111 #[.slice A0 U.length c0,.int .i64 a1] w fun e w'=>e = .returned (.tuple #[.int .i64 r1,.int .i64 r2,.bool r3])∧aC w w':=by
 have cr:=J b9;have fy:=J cg;clear b9 cg;have H:(eI.U k U a1 0 0)=some (r1,r2,r3):=h;clear h;have H':=J H;clear H;go_enter Tryz.func111,Tryz.ntmps111;go_wp2;go_loopg [7,8] k (fun kq v7 v8 w'=>∃(cF:Int) (gA:Int),v7 = .int .i64 cF∧v8 = .int .i64 gA∧Aside0 (eI.U kq U a1 cF gA=some (r1,r2,r3))∧Aside0 (kq≤k)∧aC w w')
 case atStart=>exact⟨(0),(0),mE,mE,H',⟨Nat.le_refl _⟩,by repeat (first|exact aC.refl _|apply aC.step)⟩
 case round=>
  clear H'
  obtain⟨cF,gA,rfl,rfl,HA,bo,⟨m1,rfl⟩⟩:=hrel;cases gk with
  |zero=>exact absurd HA.1 (by simp[eI.U])
  |succ k1=>
   have H:=HA.1;clear HA;simp only[eI.U]at H;have oC:=J H;clear H;go_upto_region 3 with (fail)
   go_cut [29] (fun QH wc=>∃(kq:Nat) (KK:Bool),QH = .bool KK∧Aside0 (eI.j1 kq U a1 cF gA KK=some (r1,r2,r3))∧Aside0 (kq≤k1)∧aC w wc)
   case first=>
    have H:=oC.1;clear oC;by_cases c4:gA<5
    ·rw[if_pos c4]at H;have fa:=decide_eq_true c4;clear c4
     (first|rw[fa]|(simp only[dD,fU];rw[fa])|skip)
     by_cases c5:a1≥0
     ·rw[if_pos c5]at H;have gx:decide (0≤a1)=true:=decide_eq_true c5;clear c5;by_cases c6:a1<(U.length:Int)
      ·rw[if_pos c6]at H;have hJ:=decide_eq_true c6;clear c6;have H':=J H;clear H;go_wp2;go_meet
       case rel=>exact⟨_,(decide ((wrap64 (a1+gA))<(U.length:Int))),mE,H',⟨by have:=bo.1;first|omega|exact Nat.le_refl _⟩,by repeat (first|exact aC.refl _|apply aC.step)⟩
      ·rw[if_neg c6]at H;have hJ:=decide_eq_false c6;clear c6;have H':=J H;clear H;go_wp2;go_meet
       case rel=>exact⟨_,(false),mE,H',⟨by have:=bo.1;first|omega|exact Nat.le_refl _⟩,by repeat (first|exact aC.refl _|apply aC.step)⟩
     ·rw[if_neg c5]at H;have gx:decide (0≤a1)=false:=decide_eq_false c5;clear c5;have H':=J H;clear H;go_wp2;go_meet
      case rel=>exact⟨_,(false),mE,H',⟨by have:=bo.1;first|omega|exact Nat.le_refl _⟩,by repeat (first|exact aC.refl _|apply aC.step)⟩
    ·rw[if_neg c4]at H;have fa:=decide_eq_false c4;clear c4
     (first|rw[fa]|(simp only[dD,fU];rw[fa])|skip)
     have H':=J H;clear H;go_wp2;go_meet
     case rel=>exact⟨_,(false),mE,H',⟨by have:=bo.1;first|omega|exact Nat.le_refl _⟩,by repeat (first|exact aC.refl _|apply aC.step)⟩
   case rest=>
    clear oC
    obtain⟨kq,KK,rfl,HA,rQ,⟨Yt,rfl⟩⟩:=hcut;cases kq with
    |zero=>exact absurd HA.1 (by simp[eI.j1])
    |succ sK=>
     have H:=HA.1;clear HA;simp only[eI.j1]at H;by_cases c7:KK=true
     ·subst c7;have H1:=H;rw[if_pos rfl]at H1;clear H;have H:=H1;clear H1;obtain⟨fL,mF⟩:∃j_:Int,(wrap64 (a1+gA))=j_:=⟨_,rfl⟩;replace H:(if 0≤(fL) then (if (fL)<(U.length:Int) then (if gA=0 then (eI.j2 sK U a1 cF gA (wrap64 (rd U (fL))) ((wrap64 (rd U (fL))) == 128)) else (eI.j2 sK U a1 cF gA (wrap64 (rd U (fL))) false)) else (none)) else (none))=some (r1,r2,r3):=by first|(rw[mF]at H;exact H)|(simp only[mF]at H ⊢;exact H)
      have WO:(IntKind.i64.wrap (a1+gA))=fL:=(dD _).trans mF;by_cases c9:0≤(fL)
      ·rw[if_pos c9]at H;have qm:=decide_eq_true c9;clear c9;by_cases fE:(fL)<(U.length:Int)
       ·rw[if_pos fE]at H;have qk:=decide_eq_true fE;clear fE;have xP:=J H;clear H;have JL:0≤((fL):Int):=mD;have JT:(fL)<(U.length:Int):=mD;obtain⟨ao5,afW,akt⟩:=Kd.lW cr.1 (fL) JL JT;cases afW
        replace JL:=eq_true JL;replace JT:=eq_true JT;go_upto_region 6 with (fail)
        go_cut [44] (fun v44 wc=>∃(kq:Nat) (KR:Bool),v44 = .bool KR∧Aside0 (eI.j2 kq U a1 cF gA (wrap64 (rd U (fL))) KR=some (r1,r2,r3))∧Aside0 (kq≤sK)∧aC w wc)
        case first=>
         have H:=xP.1;clear xP;by_cases dX:gA=0
         ·rw[if_pos dX]at H;have nY:(gA == 0)=true:=beq_iff_eq.mpr dX;have Hh:(gA != 0)=false:=bne_eq_false_iff_eq.mpr dX;clear dX
          (first|rw[nY]|(simp only[dD,fU];rw[nY])|skip)
          have H':=J H;clear H;go_wp2;go_meet
          case rel=>exact⟨_,(((wrap64 (rd U (fL))) == 128)),(by first|rfl|(simp;done)|(simp only[←mF]<;>(first|rfl|simp))|(simp[*];done)),H',⟨by have:=bo.1;have:=rQ.1;first|omega|exact Nat.le_refl _⟩,by repeat (first|exact aC.refl _|apply aC.step)⟩
         ·rw[if_neg dX]at H;have nY:(gA == 0)=false:=beq_eq_false_iff_ne.mpr dX;have Hh:(gA != 0)=true:=bne_iff_ne.mpr dX
          (first|rw[nY]|(simp only[dD,fU];rw[nY])|skip)
          have H':=J H;clear H;go_wp2;go_meet
          case rel=>exact⟨_,(false),mE,H',⟨by have:=bo.1;have:=rQ.1;first|omega|exact Nat.le_refl _⟩,by repeat (first|exact aC.refl _|apply aC.step)⟩
        case rest=>
         clear xP
         try clear c7
         try clear c9
         try clear qm
         try clear fE
         try clear qk
         try clear akt
         try clear JL
         try clear JT
         obtain⟨kq,KR,rfl,HA,xU,⟨ayq,rfl⟩⟩:=hcut;cases kq with
         |zero=>exact absurd HA.1 (by simp[eI.j2])
         |succ FN=>
          have H:=HA.1;clear HA;simp only[eI.j2]at H;by_cases cQ:KR=true
          ·subst cQ;have H1:=H;rw[if_pos rfl]at H1;clear H;have H:=H1;clear H1;simp only[Option.some.injEq,Prod.mk.injEq]at H;obtain⟨rfl,rfl,rfl⟩:=H;go_wp2;go_ret3;exact⟨by first|rfl|(simp;done)|(simp only[←mF]<;>(first|rfl|simp))|(simp[*];done),by repeat (first|exact aC.refl _|apply aC.step)⟩
          ·replace cQ:=Bool.eq_false_iff.mpr cQ;subst cQ;have H1:=H;rw[if_neg (show ¬(false=true) by decide)]at H1;clear H;have H:=H1;clear H1;by_cases gR:(wrap64 (rd U (fL)))<128
           ·rw[if_pos gR]at H;have yt:=decide_eq_true gR;clear gR;by_cases lY:(Go.bits .or .i64 (wrap64 (cF*128)) (Go.bits .and .i64 (wrap64 (rd U (fL))) 127))>1000000000
            ·rw[if_pos lY]at H;have Hj:decide (1000000000<(Go.bits .or .i64 (wrap64 (cF*128)) (Go.bits .and .i64 (wrap64 (rd U (fL))) 127)))=true:=decide_eq_true lY;clear lY;simp only[Option.some.injEq,Prod.mk.injEq]at H;obtain⟨rfl,rfl,rfl⟩:=H;go_wp2;go_ret3;exact⟨by first|rfl|(simp;done)|(simp only[←mF]<;>(first|rfl|simp))|(simp[*];done),by repeat (first|exact aC.refl _|apply aC.step)⟩
            ·rw[if_neg lY]at H;have Hj:decide (1000000000<(Go.bits .or .i64 (wrap64 (cF*128)) (Go.bits .and .i64 (wrap64 (rd U (fL))) 127)))=false:=decide_eq_false lY;clear lY;simp only[Option.some.injEq,Prod.mk.injEq]at H;obtain⟨rfl,rfl,rfl⟩:=H;go_wp2;go_ret3;exact⟨by first|rfl|(simp;done)|(simp only[←mF]<;>(first|rfl|simp))|(simp[*];done),by repeat (first|exact aC.refl _|apply aC.step)⟩
           ·rw[if_neg gR]at H;have yt:=decide_eq_false gR;clear gR;have H':=J H;clear H;go_wp2;go_roundg FN
            case measure=>have:=bo.1;have:=rQ.1;have:=xU.1;omega
            case rel=>exact⟨(Go.bits .or .i64 (wrap64 (cF*128)) (Go.bits .and .i64 (wrap64 (rd U (fL))) 127)),(wrap64 (gA+1)),(by first|rfl|(simp;done)|(simp only[←mF]<;>(first|rfl|simp))|(simp[*];done)),mE,H',⟨by have:=bo.1;have:=rQ.1;have:=xU.1;omega⟩,by repeat (first|exact aC.refl _|apply aC.step)⟩
       ·rw[if_neg fE]at H;exact absurd H (by simp)
      ·rw[if_neg c9]at H;exact absurd H (by simp)
     ·replace c7:=Bool.eq_false_iff.mpr c7;subst c7;have H1:=H;rw[if_neg (show ¬(false=true) by decide)]at H1;clear H;have H:=H1;clear H1;simp only[Option.some.injEq,Prod.mk.injEq]at H;obtain⟨rfl,rfl,rfl⟩:=H;go_wp2;go_ret3;exact⟨mE,by repeat (first|exact aC.refl _|apply aC.step)⟩
mutual
def gI.U:Nat→List Int→Int→Int→Option (Int)
 |0,_,_,_=>none
 |k+1,x0,x3,x4=>if x4<(x0.length:Int) then (if 0≤x4 then (gI.l1 k x0 (Go.bits .xor .i64 x3 (wrap64 (rd x0 x4))) x4 0) else (none)) else (some (Go.bits .xor .i64 x3 4294967295))
def gI.l1:Nat→List Int→Int→Int→Int→Option (Int)
 |0,_,_,_,_=>none
 |k+1,x0,x3,x4,x5=>if x5<8 then (if (Go.bits .and .i64 x3 1)=1 then (gI.l1 k x0 (Go.bits .xor .i64 (x3 / 2) 2197175160) x4 (wrap64 (x5+1))) else (gI.l1 k x0 (x3 / 2) x4 (wrap64 (x5+1)))) else (gI.U k x0 x3 (wrap64 (x4+1)))
end
def gI.f (k:Nat) (U:List Int):Option (Int):=gI.U k U 4294967295 0
set_option maxHeartbeats 8000000 in
set_option maxRecDepth 100000 in
theorem gI.calls (k:Nat) (A0:Option Addr) (c0:Nat) (U:List Int) (r:Int) (w:World) (b9:Kd.C (Kd.int .u8) w A0 U.length U) (cg:U.length≤c0) (h:gI.f k U=some r) :
 Calls Tryz.prog 112 #[.slice A0 U.length c0] w fun e w'=>e = .returned (.int .i64 r)∧aC w w':=by
 have cr:=J b9;have fy:=J cg;clear b9 cg;have H:(gI.U k U 4294967295 0)=some r:=h;clear h;have H':=J H;clear H;go_enter Tryz.func112,Tryz.ntmps112;go_wp2;go_loopg [3,4] k (fun kq v3 v4 w'=>∃(bF:Int) (bN:Int),v3 = .int .i64 bF∧v4 = .int .i64 bN∧Aside0 (gI.U kq U bF bN=some r)∧Aside0 (kq≤k)∧aC w w')
 case atStart=>exact⟨(4294967295),(0),mE,mE,H',⟨Nat.le_refl _⟩,by repeat (first|exact aC.refl _|apply aC.step)⟩
 case round=>
  clear H'
  obtain⟨bF,bN,rfl,rfl,HA,bo,⟨m1,rfl⟩⟩:=hrel;cases gk with
  |zero=>exact absurd HA.1 (by simp[gI.U])
  |succ k1=>
   have H:=HA.1;clear HA;simp only[gI.U]at H;by_cases c2:bN<(U.length:Int)
   ·rw[if_pos c2]at H;have tG:=decide_eq_true c2;clear c2;by_cases c3:0≤bN
    ·rw[if_pos c3]at H;have jy:=decide_eq_true c3;clear c3;have H':=J H;clear H;have JM:0≤(bN:Int):=mD;have JU:bN<(U.length:Int):=mD;obtain⟨ao6,afX,aku⟩:=Kd.lW cr.1 bN JM JU;cases afX
     replace JM:=eq_true JM;replace JU:=eq_true JU;go_wp2;go_loopg [3,5] k1 (fun kq v3 v5 w'=>∃(kD:Int) (jF:Int),v3 = .int .i64 kD∧v5 = .int .i64 jF∧Aside0 (gI.l1 kq U kD bN jF=some r)∧Aside0 (kq≤k1)∧aC w w')
     case atStart=>exact⟨(Go.bits .xor .i64 bF (wrap64 (rd U bN))),(0),mE,mE,H',⟨Nat.le_refl _⟩,by repeat (first|exact aC.refl _|apply aC.step)⟩
     case round=>
      clear H'
      try clear c2
      try clear tG
      try clear c3
      try clear jy
      try clear aku
      try clear JM
      try clear JU
      obtain⟨kD,jF,rfl,rfl,HA,jU,⟨m2,rfl⟩⟩:=hrel;cases gk with
      |zero=>exact absurd HA.1 (by simp[gI.l1])
      |succ k2=>
       have H:=HA.1;clear HA;simp only[gI.l1]at H;by_cases c4:jF<8
       ·rw[if_pos c4]at H;have fa:=decide_eq_true c4;clear c4;by_cases c5:(Go.bits .and .i64 kD 1)=1
        ·rw[if_pos c5]at H;have gx:((Go.bits .and .i64 kD 1) == 1)=true:=beq_iff_eq.mpr c5;have uM:((Go.bits .and .i64 kD 1) != 1)=false:=bne_eq_false_iff_eq.mpr c5;clear c5;have H':=J H;clear H;go_wp2;go_roundg k2
         case measure=>have:=bo.1;have:=jU.1;omega
         case rel=>exact⟨(Go.bits .xor .i64 (kD / 2) 2197175160),(wrap64 (jF+1)),mE,mE,H',⟨by have:=bo.1;have:=jU.1;omega⟩,by repeat (first|exact aC.refl _|apply aC.step)⟩
        ·rw[if_neg c5]at H;have gx:((Go.bits .and .i64 kD 1) == 1)=false:=beq_eq_false_iff_ne.mpr c5;have uM:((Go.bits .and .i64 kD 1) != 1)=true:=bne_iff_ne.mpr c5;have H':=J H;clear H;go_wp2;go_roundg k2
         case measure=>have:=bo.1;have:=jU.1;omega
         case rel=>exact⟨(kD / 2),(wrap64 (jF+1)),mE,mE,H',⟨by have:=bo.1;have:=jU.1;omega⟩,by repeat (first|exact aC.refl _|apply aC.step)⟩
       ·rw[if_neg c4]at H;have fa:=decide_eq_false c4;clear c4;have H':=J H;clear H;go_wp2;go_roundg k2
        case measure=>have:=bo.1;have:=jU.1;omega
        case rel=>exact⟨(kD),(wrap64 (bN+1)),mE,mE,H',⟨by have:=bo.1;have:=jU.1;omega⟩,by repeat (first|exact aC.refl _|apply aC.step)⟩
    ·rw[if_neg c3]at H;exact absurd H (by simp)
   ·rw[if_neg c2]at H;have tG:=decide_eq_false c2;clear c2;obtain rfl:=Option.some.inj H;go_wp2;go_ret;exact⟨mE,by repeat (first|exact aC.refl _|apply aC.step)⟩
mutual
def dq.j0:Nat→Int→List Int→Option (List Int)
 |0,_,_=>none
 |k+1,x1,x5=>if x1<0 then (dq.j1 k 0 x5) else (dq.j1 k x1 x5)
def dq.j1:Nat→Int→List Int→Option (List Int)
 |0,_,_=>none
 |k+1,x1,x5=>dq.U k x1 x5 false 28
def dq.U:Nat→Int→List Int→Bool→Int→Option (List Int)
 |0,_,_,_,_=>none
 |k+1,x1,x5,x6,x7=>if x7>0 then (if 0≤(IntKind.u64.wrap (x7)) then (if x6=true then (dq.j3 k x1 x5 x6 x7 (Go.bits .and .i64 (shr .i64 x1 (IntKind.u64.wrap (x7))) 127) true) else (dq.j3 k x1 x5 x6 x7 (Go.bits .and .i64 (shr .i64 x1 (IntKind.u64.wrap (x7))) 127) (decide ((Go.bits .and .i64 (shr .i64 x1 (IntKind.u64.wrap (x7))) 127)>0)))) else (none)) else (if x5.length<140737488355328 then (some (x5++[(Go.bits .and .i64 x1 127) % 256])) else (none))
def dq.j3:Nat→Int→List Int→Bool→Int→Int→Bool→Option (List Int)
 |0,_,_,_,_,_,_=>none
 |k+1,x1,x5,x6,x7,x8,QQ=>if QQ=true then (if x5.length<140737488355328 then (dq.U k x1 (x5++[(Go.bits .or .i64 x8 128) % 256]) true (wrap64 (x7-7))) else (none)) else (dq.U k x1 x5 x6 (wrap64 (x7-7)))
end
def dq.f (k:Nat) (U:List Int) (a1:Int):Option (List Int):=(some (([]:List Int):List Int)).bind fun tc=>(if tc.length+U.length<140737488355328 then ((some (tc++U:List Int)).bind fun ov=>(if a1>1000000000 then (dq.j0 k 1000000000 ov) else (dq.j0 k a1 ov))) else (none))
set_option maxHeartbeats 8000000 in
set_option maxRecDepth 100000 in
theorem dq.calls (k:Nat) (A0:Option Addr) (c0:Nat) (U:List Int) (a1:Int) (r:List Int) (w:World) (b9:Kd.C (Kd.int .u8) w A0 U.length U) (cg:U.length≤c0) (h:dq.f k U a1=some r) :
 Calls Tryz.prog 117 #[.slice A0 U.length c0,.int .i64 a1] w fun e w'=>∃bE:Value,e = .returned (bE)∧Kd.R (Kd.int .u8) 5 w' w.heap.size (fun _=>True) bE r∧Below w.heap.size w w':=by
 have cr:=J b9;have fy:=J cg;clear b9 cg;have HB:=J (Below.refl w.heap.size w);have H:((some (([]:List Int):List Int)).bind fun tc=>(if tc.length+U.length<140737488355328 then ((some (tc++U:List Int)).bind fun ov=>(if a1>1000000000 then (dq.j0 k 1000000000 ov) else (dq.j0 k a1 ov))) else (none)))=some r:=h;clear h;obtain⟨tc,Fp⟩:∃y_:List Int,y_=(([]:List Int)):=⟨_,rfl⟩;replace H:(if tc.length+U.length<140737488355328 then ((some (tc++U:List Int)).bind fun ov=>(if a1>1000000000 then (dq.j0 k 1000000000 ov) else (dq.j0 k a1 ov))) else (none))=some r:=by first|(rw[Fp];with_reducible exact H)|(have ay:=(Option.bind_some _ _).symm.trans H;rw[Fp];with_reducible exact ay)|(have ay:=(Option.bind_some _ _).symm.trans H;with_reducible exact ay)|with_reducible exact H|(rw[Fp];exact H)|exact H
 have Te:=J Fp;clear Fp;by_cases c3:tc.length+U.length<140737488355328
 ·rw[if_pos c3]at H;have vV:=J c3;clear c3;obtain⟨ov,Fq⟩:∃y_:List Int,y_=(tc++U):=⟨_,rfl⟩;replace H:(if a1>1000000000 then (dq.j0 k 1000000000 ov) else (dq.j0 k a1 ov))=some r:=by first|(rw[Fq];with_reducible exact H)|(have ay:=(Option.bind_some _ _).symm.trans H;rw[Fq];with_reducible exact ay)|(have ay:=(Option.bind_some _ _).symm.trans H;with_reducible exact ay)|with_reducible exact H|(rw[Fq];exact H)|exact H
  have adI:=J Fq;clear Fq;have xQ:=J H;clear H;go_enter Tryz.func117,Tryz.ntmps117;go_upto_if 13 with (first|((with_reducible refine aM (N:=9) rfl ?_);refine Kd.jc (Kd.int .u8) _ 5 ?hg (N:=9) ?hd (xs:=([]:List Int)) (inner:=[]) (ok:=fun _=>True) (okp:=fun _=>True) ?hr ?hp (fun _ hk=>hk) trivial (Below.refl _ _) (Nat.le_refl _) (by simp) ?_;(case hd=>rfl);(case hg=>rfl);(case hr=>first|(go_simp;done)|(go_simp;rfl));(case hp=>exact(ba.none _ _));intro anG w5 D5 hb hg_ hnew_;clear hg_ hnew_;(first|rw[←Te.1]at D5|(simp only[Int.reduceToNat]at D5;rw[←Te.1]at D5));have Sk:=J (Kd.bT D5 (aQ (mH HB.1)));replace HB:=J (aA (mH HB.1) hb);clear hb D5)|((with_reducible refine iK (b:=.append) (xs:=#[.tmp 9,.tmp 10]) rfl ?_);at_builtin;refine Kd.uC (Kd.int .u8) (w0:=w) w.heap.size rfl (.tmp 9) (.tmp 10) 22 5 (.int .u8 0) 1 rfl Tryz.underlying22 l9 rfl (by decide) (by omega) anG tc U _ _ _ (fun _=>True) (fun _=>False) rfl rfl ?aO ?aR (fun _ _ h=>h) (fun _ h=>h.elim) ?aF ?aB ?aS ?aL ?_;(case aR=>exact mC (Kd.az cr.1 HB.1));(case aB=>exact(mH HB.1));(case aF=>exact(fun _ _=>trivial));(case aO=>exact(mR Sk.1));(case aS=>exact(aQ (mH HB.1)));(case aL=>have:=vV.1;omega);intro aai w7 ho hb hg hat;rw[←adI.1]at ho;replace HB:=J (hb);have Sl:=J (ho);clear Sk;clear ho hb hg hat))
  (try simp only[Act.put,zA,zB,zC])
  go_cut [1] (fun v1 wc=>∃(kq:Nat) (Gq:Int),v1 = .int .i64 Gq∧Aside0 (dq.j0 kq Gq ov=some r)∧Aside0 (kq≤k)∧Aside0 (Kd.R (Kd.int .u8) 5 wc w.heap.size (fun _=>True) aai ov)∧Aside0 (Below w.heap.size w wc))
  case first=>
   have H:=xQ.1;clear xQ;by_cases c8:a1>1000000000
   ·rw[if_pos c8]at H;have mw:decide (1000000000<a1)=true:=decide_eq_true c8;clear c8
    (first|rw[mw]|(simp only[dD,fU];rw[mw])|skip)
    have H':=J H;clear H;go_wp2;go_meet
    case rel=>exact⟨_,(1000000000),mE,H',⟨by first|omega|exact Nat.le_refl _⟩,⟨mR Sl.1⟩,⟨(mH HB.1)⟩⟩
   ·rw[if_neg c8]at H;have mw:decide (1000000000<a1)=false:=decide_eq_false c8;clear c8
    (first|rw[mw]|(simp only[dD,fU];rw[mw])|skip)
    have H':=J H;clear H;go_wp2;go_meet
    case rel=>exact⟨_,(a1),mE,H',⟨by first|omega|exact Nat.le_refl _⟩,⟨mR Sl.1⟩,⟨(mH HB.1)⟩⟩
  case rest=>
   clear xQ
   try clear c3
   obtain⟨kq,Gq,rfl,HA,qa,du,HB⟩:=hcut;cases kq with
   |zero=>exact absurd HA.1 (by simp[dq.j0])
   |succ tS=>
    have H:=HA.1;clear HA;simp only[dq.j0]at H;have Lm:=J H;clear H;go_upto_if 15 with (fail)
    go_cut [1] (fun v1 wc=>∃(kq:Nat) (mg:Int),v1 = .int .i64 mg∧Aside0 (dq.j1 kq mg ov=some r)∧Aside0 (kq≤tS)∧Aside0 (Kd.R (Kd.int .u8) 5 wc w.heap.size (fun _=>True) aai ov)∧Aside0 (Below w.heap.size w wc))
    case first=>
     have H:=Lm.1;clear Lm;by_cases fE:Gq<0
     ·rw[if_pos fE]at H;have qk:=decide_eq_true fE;clear fE
      (first|rw[qk]|(simp only[dD,fU];rw[qk])|skip)
      have H':=J H;clear H;go_wp2;go_meet
      case rel=>exact⟨_,(0),mE,H',⟨by have:=qa.1;first|omega|exact Nat.le_refl _⟩,⟨mR du.1⟩,⟨(mH HB.1)⟩⟩
     ·rw[if_neg fE]at H;have qk:=decide_eq_false fE;clear fE
      (first|rw[qk]|(simp only[dD,fU];rw[qk])|skip)
      have H':=J H;clear H;go_wp2;go_meet
      case rel=>exact⟨_,(Gq),mE,H',⟨by have:=qa.1;first|omega|exact Nat.le_refl _⟩,⟨mR du.1⟩,⟨(mH HB.1)⟩⟩
    case rest=>
     clear Lm
     try clear c3
     obtain⟨kq,mg,rfl,HA,Aa,du,HB⟩:=hcut;cases kq with
     |zero=>exact absurd HA.1 (by simp[dq.j1])
     |succ Yk=>
      have H:=HA.1;clear HA;simp only[dq.j1]at H;have H':=J H;clear H;go_wp2;go_loopg [5,6,7] Yk (fun kq v5 v6 v7 w'=>∃(ot:List Int) (rF:Bool) (o3:Int),v6 = .bool rF∧v7 = .int .i64 o3∧Aside0 (dq.U kq mg ot rF o3=some r)∧Aside0 (kq≤Yk)∧Aside0 (Kd.R (Kd.int .u8) 5 w' w.heap.size (fun _=>True) v5 ot)∧Aside0 (Below w.heap.size w w'))
      case atStart=>exact⟨(ov),(false),(28),mE,mE,H',⟨Nat.le_refl _⟩,⟨mR du.1⟩,⟨(mH HB.1)⟩⟩
      case round=>
       clear H'
       try clear c3
       obtain⟨ot,rF,o3,rfl,rfl,HA,qb,du,HB⟩:=hrel;cases gk with
       |zero=>exact absurd HA.1 (by simp[dq.U])
       |succ k3=>
        have H:=HA.1;clear HA;simp only[dq.U]at H;by_cases dy:o3>0
        ·rw[if_pos dy]at H;have ql:decide (0<o3)=true:=decide_eq_true dy;clear dy;obtain⟨uY,WN⟩:∃j_:Int,(IntKind.u64.wrap (o3))=j_:=⟨_,rfl⟩;replace H:(if 0≤(uY) then (if rF=true then (dq.j3 k3 mg ot rF o3 (Go.bits .and .i64 (shr .i64 mg (uY)) 127) true) else (dq.j3 k3 mg ot rF o3 (Go.bits .and .i64 (shr .i64 mg (uY)) 127) (decide ((Go.bits .and .i64 (shr .i64 mg (uY)) 127)>0)))) else (none))=some r:=by first|(rw[WN]at H;exact H)|(simp only[WN]at H ⊢;exact H)
         by_cases cQ:0≤(uY)
         ·rw[if_pos cQ]at H;have pj:=eq_true cQ;have Hi:=decide_eq_true cQ;clear cQ;obtain⟨lB,tO⟩:∃j_:Int,(shr .i64 mg (uY))=j_:=⟨_,rfl⟩;replace H:(if rF=true then (dq.j3 k3 mg ot rF o3 (Go.bits .and .i64 (lB) 127) true) else (dq.j3 k3 mg ot rF o3 (Go.bits .and .i64 (lB) 127) (decide ((Go.bits .and .i64 (lB) 127)>0))))=some r:=by first|(rw[tO]at H;exact H)|(simp only[tO]at H ⊢;exact H)
          have avR:(mg / 2 ^ min (uY).toNat 64)=lB:=tO;have avT:(uY)≤64→(mg / 2 ^ (uY).toNat)=lB:=P8 tO;have Lk:=J H;clear H;go_upto_region 11 with (fail)
          go_cut [29] (fun QH wc=>∃(kq:Nat) (KJ:Bool),QH = .bool KJ∧Aside0 (dq.j3 kq mg ot rF o3 (Go.bits .and .i64 (lB) 127) KJ=some r)∧Aside0 (kq≤k3)∧Aside0 (Kd.R (Kd.int .u8) 5 wc w.heap.size (fun _=>True) u5 ot)∧Aside0 (Below w.heap.size w wc))
          case first=>
           have H:=Lk.1;clear Lk;by_cases jk:rF=true
           ·subst jk;have H1:=H;rw[if_pos rfl]at H1;clear H;have H:=H1;clear H1;have H':=J H;clear H;go_wp2;go_meet
            case rel=>exact⟨_,(true),mE,H',⟨by have:=qa.1;have:=Aa.1;have:=qb.1;first|omega|exact Nat.le_refl _⟩,⟨mR du.1⟩,⟨(mH HB.1)⟩⟩
           ·replace jk:=Bool.eq_false_iff.mpr jk;subst jk;have H1:=H;rw[if_neg (show ¬(false=true) by decide)]at H1;clear H;have H:=H1;clear H1;have H':=J H;clear H;go_wp2;go_meet
            case rel=>exact⟨_,(decide ((Go.bits .and .i64 (lB) 127)>0)),(by first|rfl|(simp;done)|(simp only[←tO]<;>(first|rfl|simp))|(simp[*];done)),H',⟨by have:=qa.1;have:=Aa.1;have:=qb.1;first|omega|exact Nat.le_refl _⟩,⟨mR du.1⟩,⟨(mH HB.1)⟩⟩
          case rest=>
           clear Lk
           try clear c3
           try clear dy
           try clear ql
           try clear cQ
           try clear pj
           try clear Hi
           obtain⟨kq,KJ,rfl,HA,GL,du,HB⟩:=hcut;cases kq with
           |zero=>exact absurd HA.1 (by simp[dq.j3])
           |succ OG=>
            have H:=HA.1;clear HA;simp only[dq.j3]at H;by_cases uL:KJ=true
            ·subst uL;have H1:=H;rw[if_pos rfl]at H1;clear H;have H:=H1;clear H1;by_cases nk:ot.length<140737488355328
             ·rw[if_pos nk]at H;have acm:=J nk;clear nk;obtain⟨aaQ,Fu⟩:∃y_:List Int,y_=(ot++[(Go.bits .or .i64 (Go.bits .and .i64 (lB) 127) 128) % 256]):=⟨_,rfl⟩;replace H:(dq.U OG mg aaQ true (wrap64 (o3-7)))=some r:=by first|(rw[Fu];with_reducible exact H)|(have ay:=(Option.bind_some _ _).symm.trans H;rw[Fu];with_reducible exact ay)|(have ay:=(Option.bind_some _ _).symm.trans H;with_reducible exact ay)|with_reducible exact H|(rw[Fu];exact H)|exact H
              have adK:=J Fu;clear Fu;have H':=J H;clear H;go_wp2_with (first|((with_reducible refine iK (b:=.append) (xs:=#[.tmp 30,.tmp 34]) rfl ?_);at_builtin;refine Kd.lR (Kd.int .u8) (w0:=w) w.heap.size rfl (.tmp 30) (.tmp 34) 22 5 (.int .u8 0) 1 rfl Tryz.underlying22 l9 rfl (by decide) (by omega) u5 ot ((Go.bits .or .i64 (Go.bits .and .i64 (lB) 127) 128) % 256) [.int .u8 ((Go.bits .or .i64 (Go.bits .and .i64 (lB) 127) 128) % 256)] (fun _=>True) (fun _=>False) rfl rfl ?aP (fun _ hk=>hk.elim) ?aF ?aO ?aB ?aS ?aL ?_;(case aP=>exact rfl);(case aB=>exact(mH HB.1));(case aF=>exact(fun _ _=>trivial));(case aO=>exact(mR du.1));(case aS=>exact(aQ (mH HB.1)));(case aL=>have:=acm.1;omega);intro azC w19 ho hb hg hat;rw[←adK.1]at ho;replace HB:=J (hb);have abX:=J (ho);clear du;clear ho hb hg hat));go_roundg OG
              case measure=>have:=qa.1;have:=Aa.1;have:=qb.1;have:=GL.1;omega
              case rel=>exact⟨(aaQ),(true),(wrap64 (o3-7)),mE,mE,H',⟨by have:=qa.1;have:=Aa.1;have:=qb.1;have:=GL.1;omega⟩,⟨mR abX.1⟩,⟨(mH HB.1)⟩⟩
             ·rw[if_neg nk]at H;exact absurd H (by simp)
            ·replace uL:=Bool.eq_false_iff.mpr uL;subst uL;have H1:=H;rw[if_neg (show ¬(false=true) by decide)]at H1;clear H;have H:=H1;clear H1;have H':=J H;clear H;go_wp2;go_roundg OG
             case measure=>have:=qa.1;have:=Aa.1;have:=qb.1;have:=GL.1;omega
             case rel=>exact⟨(ot),(rF),(wrap64 (o3-7)),mE,mE,H',⟨by have:=qa.1;have:=Aa.1;have:=qb.1;have:=GL.1;omega⟩,⟨mR du.1⟩,⟨(mH HB.1)⟩⟩
         ·rw[if_neg cQ]at H;exact absurd H (by simp)
        ·rw[if_neg dy]at H;have ql:decide (0<o3)=false:=decide_eq_false dy;clear dy;by_cases tF:ot.length<140737488355328
         ·rw[if_pos tF]at H;have Cx:=J tF;clear tF;obtain⟨an7,Ft⟩:∃y_:List Int,y_=(ot++[(Go.bits .and .i64 mg 127) % 256]):=⟨_,rfl⟩;replace H:(some an7)=some r:=by first|(rw[Ft];with_reducible exact H)|(have ay:=(Option.bind_some _ _).symm.trans H;rw[Ft];with_reducible exact ay)|(have ay:=(Option.bind_some _ _).symm.trans H;with_reducible exact ay)|with_reducible exact H|(rw[Ft];exact H)|exact H
          have adJ:=J Ft;clear Ft;obtain rfl:=Option.some.inj H;go_wp2_with (first|((with_reducible refine iK (b:=.append) (xs:=#[.tmp 36,.tmp 40]) rfl ?_);at_builtin;refine Kd.lR (Kd.int .u8) (w0:=w) w.heap.size rfl (.tmp 36) (.tmp 40) 22 5 (.int .u8 0) 1 rfl Tryz.underlying22 l9 rfl (by decide) (by omega) u5 ot ((Go.bits .and .i64 mg 127) % 256) [.int .u8 ((Go.bits .and .i64 mg 127) % 256)] (fun _=>True) (fun _=>False) rfl rfl ?aP (fun _ hk=>hk.elim) ?aF ?aO ?aB ?aS ?aL ?_;(case aP=>exact rfl);(case aB=>exact(mH HB.1));(case aF=>exact(fun _ _=>trivial));(case aO=>exact(mR du.1));(case aS=>exact(aQ (mH HB.1)));(case aL=>have:=Cx.1;omega);intro azB QJ ho hb hg hat;rw[←adJ.1]at ho;replace HB:=J (hb);have abW:=J (ho);clear du;clear ho hb hg hat));go_ret;exact⟨_,cP,mR abW.1,(mH HB.1)⟩
         ·rw[if_neg tF]at H;exact absurd H (by simp)
 ·rw[if_neg c3]at H;exact absurd H (by simp)
def zz.f (a0:Int):Option (List Int):=some (([(a0 / 16777216) % 256,(a0 / 65536) % 256,(a0 / 256) % 256,(a0) % 256]:List Int))
set_option maxHeartbeats 8000000 in
set_option maxRecDepth 100000 in
theorem zz.calls (a0:Int) (r:List Int) (w:World) (h:zz.f a0=some r) :
 Calls Tryz.prog 118 #[.int .i64 a0] w fun e w'=>∃bE:Value,e = .returned (bE)∧Kd.R (Kd.int .u8) 5 w' w.heap.size (fun _=>True) bE r∧Below w.heap.size w w':=by
 have HB:=J (Below.refl w.heap.size w);have H:(some (([(a0 / 16777216) % 256,(a0 / 65536) % 256,(a0 / 256) % 256,(a0) % 256]:List Int)))=some r:=h;clear h;obtain⟨an8,Fv⟩:∃y_:List Int,y_=(([(a0 / 16777216) % 256,(a0 / 65536) % 256,(a0 / 256) % 256,(a0) % 256]:List Int)):=⟨_,rfl⟩;replace H:(some an8)=some r:=by first|(rw[Fv];with_reducible exact H)|(have ay:=(Option.bind_some _ _).symm.trans H;rw[Fv];with_reducible exact ay)|(have ay:=(Option.bind_some _ _).symm.trans H;with_reducible exact ay)|with_reducible exact H|(rw[Fv];exact H)|exact H
 have Tf:=J Fv;clear Fv;obtain rfl:=Option.some.inj H;go_enter Tryz.func118,Tryz.ntmps118;go_wp2_with (first|((with_reducible refine aM (N:=14) rfl ?_);refine Kd.jc (Kd.int .u8) _ 5 ?hg (N:=14) ?hd (xs:=([(a0 / 16777216) % 256,(a0 / 65536) % 256,(a0 / 256) % 256,(a0) % 256]:List Int)) (inner:=[.int .u8 ((a0 / 16777216) % 256),.int .u8 ((a0 / 65536) % 256),.int .u8 ((a0 / 256) % 256),.int .u8 ((a0) % 256)]) (ok:=fun _=>True) (okp:=fun _=>True) ?hr ?hp (fun _ hk=>hk) trivial (Below.refl _ _) (Nat.le_refl _) (by simp) ?_;(case hd=>rfl);(case hg=>rfl);(case hr=>first|(go_simp;done)|(go_simp;rfl));(case hp=>exact(ba.one (show Kd.M (Kd.int .u8) _ _ _ ((a0 / 16777216) % 256) [.int .u8 ((a0 / 16777216) % 256)] from rfl) (ba.one (show Kd.M (Kd.int .u8) _ _ _ ((a0 / 65536) % 256) [.int .u8 ((a0 / 65536) % 256)] from rfl) (ba.one (show Kd.M (Kd.int .u8) _ _ _ ((a0 / 256) % 256) [.int .u8 ((a0 / 256) % 256)] from rfl) (ba.one (show Kd.M (Kd.int .u8) _ _ _ ((a0) % 256) [.int .u8 ((a0) % 256)] from rfl) (ba.none _ _))))));intro azD w2 nA hb hg_ hnew_;clear hg_ hnew_;(first|rw[←Tf.1]at nA|(simp only[Int.reduceToNat]at nA;rw[←Tf.1]at nA));have abY:=J (Kd.bT nA (aQ (mH HB.1)));replace HB:=J (aA (mH HB.1) hb);clear hb nA));go_ret;exact⟨_,cP,mR abY.1,(mH HB.1)⟩
mutual
def eG.U:Nat→List Int→Int→Int→Option (List Int)
 |0,_,_,_=>none
 |k+1,x0,x1,x5=>if 0≤x5 then (if (shr .i64 x1 x5)>127 then (eG.U k x0 x1 (wrap64 (x5+7))) else (eG.l1 k x0 x1 x5)) else (none)
def eG.l1:Nat→List Int→Int→Int→Option (List Int)
 |0,_,_,_=>none
 |k+1,x0,x1,x5=>if x5>0 then (if 0≤x5 then (if x0.length<140737488355328 then (eG.l1 k (x0++[(wrap64 ((Go.bits .and .i64 (shr .i64 x1 x5) 127)+128)) % 256]) x1 (wrap64 (x5-7))) else (none)) else (none)) else (if x0.length<140737488355328 then (some (x0++[(Go.bits .and .i64 x1 127) % 256])) else (none))
end
def eG.f (k:Nat) (U:List Int) (a1:Int):Option (List Int):=eG.U k U (mx 0 (mn a1 1000000000)) 0
set_option maxHeartbeats 8000000 in
set_option maxRecDepth 100000 in
theorem eG.calls (k:Nat) (oH:Nat→Prop) (rq:Value) (U:List Int) (a1:Int) (r:List Int) (w0 w:World) (hB:Below w0.heap.size w0 w) (bh:Kd.R (Kd.int .u8) 5 w w0.heap.size oH rq U) (h:eG.f k U a1=some r) :
 Calls Tryz.prog 83 #[rq,.int .i64 a1] w fun e w'=>∃bE:Value,e = .returned (bE)∧Kd.R (Kd.int .u8) 5 w' w0.heap.size (fun k_=>(oH k_∨w.heap.size≤k_)) bE r∧Below w0.heap.size w0 w'∧Kept w w' (fun k_=>oH k_):=by
 have HO0:=J (show Kd.R (Kd.int .u8) 5 w w0.heap.size (fun k_=>(oH k_∨w.heap.size≤k_)) rq U from Kd.aw bh (fun k_ hk=>(.inl hk)));have HK:=J (Kept.refl w (fun k_=>oH k_));have rW:=J hB.size;have HB:=J hB;clear hB;have H:(eG.U k U (mx 0 (mn a1 1000000000)) 0)=some r:=h;clear h;obtain⟨yR,DV⟩:∃j_:Int,(mn a1 1000000000)=j_:=⟨_,rfl⟩;replace H:(eG.U k U (mx 0 (yR)) 0)=some r:=by first|(rw[DV]at H;exact H)|(simp only[DV]at H ⊢;exact H)
 (try (have avW:yR≤1000000000:=by (rw[←DV];unfold mn;(repeat' split)<;>omega)))
 (try (have avV:yR≤64:=by omega))
 have avU:(if 1000000000<a1 then 1000000000 else a1)=yR:=DV;obtain⟨nD,Ja⟩:∃j_:Int,(mx 0 (yR))=j_:=⟨_,rfl⟩;replace H:(eG.U k U nD 0)=some r:=by first|(rw[Ja]at H;exact H)|(simp only[Ja]at H ⊢;exact H)
 have avX:(if 0<(yR) then (yR) else 0)=nD:=Ja;have H':=J H;clear H;go_enter Tryz.func83,Tryz.ntmps83;go_wp2;go_loopg [5] k (fun kq v5 w'=>∃(aY:Int),v5 = .int .i64 aY∧Aside0 (eG.U kq U nD aY=some r)∧Aside0 (kq≤k)∧Aside0 (Kd.R (Kd.int .u8) 5 w' w0.heap.size (fun k_=>(oH k_∨w.heap.size≤k_)) rq U)∧Aside0 (Kept w w' (fun k_=>oH k_))∧Aside0 (Below w0.heap.size w0 w'))
 case atStart=>exact⟨(0),mE,H',⟨Nat.le_refl _⟩,⟨mR HO0.1⟩,⟨(mP HK.1)⟩,⟨(mH HB.1)⟩⟩
 case round=>
  clear H'
  obtain⟨aY,rfl,HA,bo,uy,HK,HB⟩:=hrel;cases gk with
  |zero=>exact absurd HA.1 (by simp[eG.U])
  |succ k1=>
   have H:=HA.1;clear HA;simp only[eG.U]at H;by_cases c5:0≤aY
   ·rw[if_pos c5]at H;have gx:=eq_true c5;have uM:=decide_eq_true c5;clear c5;obtain⟨Bu,DW⟩:∃j_:Int,(shr .i64 nD aY)=j_:=⟨_,rfl⟩;replace H:(if (Bu)>127 then (eG.U k1 U nD (wrap64 (aY+7))) else (eG.l1 k1 U nD aY))=some r:=by first|(rw[DW]at H;exact H)|(simp only[DW]at H ⊢;exact H)
    have av0:(nD / 2 ^ min aY.toNat 64)=Bu:=DW;have av1:aY≤64→(nD / 2 ^ aY.toNat)=Bu:=P8 DW;by_cases c7:(Bu)>127
    ·rw[if_pos c7]at H;have oO:decide (127<(Bu))=true:=decide_eq_true c7;clear c7;have H':=J H;clear H;go_wp2;go_roundg k1
     case measure=>have:=bo.1;omega
     case rel=>exact⟨(wrap64 (aY+7)),mE,H',⟨by have:=bo.1;omega⟩,⟨mR uy.1⟩,⟨(mP HK.1)⟩,⟨(mH HB.1)⟩⟩
    ·rw[if_neg c7]at H;have oO:decide (127<(Bu))=false:=decide_eq_false c7;clear c7;have H':=J H;clear H;go_wp2;go_loopg [0,5] k1 (fun kq v0 v5 w'=>∃(ta:List Int) (jF:Int),v5 = .int .i64 jF∧Aside0 (eG.l1 kq ta nD jF=some r)∧Aside0 (kq≤k1)∧Aside0 (Kd.R (Kd.int .u8) 5 w' w0.heap.size (fun k_=>(oH k_∨w.heap.size≤k_)) v0 ta)∧Aside0 (Kept w w' (fun k_=>oH k_))∧Aside0 (Below w0.heap.size w0 w'))
     case atStart=>exact⟨(U),(aY),mE,H',⟨Nat.le_refl _⟩,⟨mR uy.1⟩,⟨(mP HK.1)⟩,⟨(mH HB.1)⟩⟩
     case round=>
      clear H'
      try clear c5
      try clear gx
      try clear uM
      try clear c7
      try clear oO
      obtain⟨ta,jF,rfl,HA,jU,uy,HK,HB⟩:=hrel;cases gk with
      |zero=>exact absurd HA.1 (by simp[eG.l1])
      |succ k2=>
       have H:=HA.1;clear HA;simp only[eG.l1]at H;by_cases c8:jF>0
       ·rw[if_pos c8]at H;have mw:decide (0<jF)=true:=decide_eq_true c8;clear c8;by_cases c9:0≤jF
        ·rw[if_pos c9]at H;have qm:=eq_true c9;have apj:=decide_eq_true c9;clear c9;obtain⟨Bt,I9⟩:∃j_:Int,(shr .i64 nD jF)=j_:=⟨_,rfl⟩;replace H:(if ta.length<140737488355328 then (eG.l1 k2 (ta++[(wrap64 ((Go.bits .and .i64 (Bt) 127)+128)) % 256]) nD (wrap64 (jF-7))) else (none))=some r:=by first|(rw[I9]at H;exact H)|(simp only[I9]at H ⊢;exact H)
         have avP:(nD / 2 ^ min jF.toNat 64)=Bt:=I9;have avQ:jF≤64→(nD / 2 ^ jF.toNat)=Bt:=P8 I9;by_cases dy:ta.length<140737488355328
         ·rw[if_pos dy]at H;have LH:=J dy;clear dy;obtain⟨aaR,Fy⟩:∃y_:List Int,y_=(ta++[(wrap64 ((Go.bits .and .i64 (Bt) 127)+128)) % 256]):=⟨_,rfl⟩;replace H:(eG.l1 k2 aaR nD (wrap64 (jF-7)))=some r:=by first|(rw[Fy];with_reducible exact H)|(have ay:=(Option.bind_some _ _).symm.trans H;rw[Fy];with_reducible exact ay)|(have ay:=(Option.bind_some _ _).symm.trans H;with_reducible exact ay)|with_reducible exact H|(rw[Fy];exact H)|exact H
          have adM:=J Fy;clear Fy;have H':=J H;clear H;go_wp2_with (first|((with_reducible refine iK (b:=.append) (xs:=#[.tmp 19,.tmp 26]) rfl ?_);at_builtin;refine Kd.lR (Kd.int .u8) (w0:=w0) w0.heap.size rfl (.tmp 19) (.tmp 26) 22 5 (.int .u8 0) 1 rfl Tryz.underlying22 l9 rfl (by decide) (by omega) u0 ta ((wrap64 ((Go.bits .and .i64 (Bt) 127)+128)) % 256) [.int .u8 ((wrap64 ((Go.bits .and .i64 (Bt) 127)+128)) % 256)] (fun k_=>(oH k_∨w.heap.size≤k_)) (fun _=>False) rfl rfl ?aP (fun _ hk=>hk.elim) ?aF ?aO ?aB ?aS ?aL ?_;(case aP=>exact rfl);(case aB=>exact(mH HB.1));(case aF=>exact(fun k_ hk=>(.inr (Nat.le_trans (by first|exact HK.1.1|exact(show Kept w _ (fun k_=>oH k_) from by repeat (first|(with_reducible first|exact HK.1|apply Kept.alloc|apply Kept.drewN|apply Kept.drew)|exact HK.1)).1) hk))));(case aO=>exact(mR uy.1));(case aS=>exact(aQ (mH HB.1)));(case aL=>have:=LH.1;omega);intro azJ ej ho hb hg hat;rw[←adM.1]at ho;replace HB:=J (hb);replace HK:=J (Kept.sX (S:=(fun k_=>oH k_)) hg (mP HK.1) (fun k_ e_=>(uy.1.1 k_ e_)));have ab0:=J (ho);clear uy;clear ho hb hg hat));go_roundg k2
          case measure=>have:=bo.1;have:=jU.1;omega
          case rel=>exact⟨(aaR),(wrap64 (jF-7)),mE,H',⟨by have:=bo.1;have:=jU.1;omega⟩,⟨mR ab0.1⟩,⟨(mP HK.1)⟩,⟨(mH HB.1)⟩⟩
         ·rw[if_neg dy]at H;exact absurd H (by simp)
        ·rw[if_neg c9]at H;exact absurd H (by simp)
       ·rw[if_neg c8]at H;have mw:decide (0<jF)=false:=decide_eq_false c8;clear c8;by_cases cQ:ta.length<140737488355328
        ·rw[if_pos cQ]at H;have Cw:=J cQ;clear cQ;obtain⟨aoa,Fz⟩:∃y_:List Int,y_=(ta++[(Go.bits .and .i64 nD 127) % 256]):=⟨_,rfl⟩;replace H:(some aoa)=some r:=by first|(rw[Fz];with_reducible exact H)|(have ay:=(Option.bind_some _ _).symm.trans H;rw[Fz];with_reducible exact ay)|(have ay:=(Option.bind_some _ _).symm.trans H;with_reducible exact ay)|with_reducible exact H|(rw[Fz];exact H)|exact H
         have adN:=J Fz;clear Fz;obtain rfl:=Option.some.inj H;go_wp2_with (first|((with_reducible refine iK (b:=.append) (xs:=#[.tmp 28,.tmp 32]) rfl ?_);at_builtin;refine Kd.lR (Kd.int .u8) (w0:=w0) w0.heap.size rfl (.tmp 28) (.tmp 32) 22 5 (.int .u8 0) 1 rfl Tryz.underlying22 l9 rfl (by decide) (by omega) u0 ta ((Go.bits .and .i64 nD 127) % 256) [.int .u8 ((Go.bits .and .i64 nD 127) % 256)] (fun k_=>(oH k_∨w.heap.size≤k_)) (fun _=>False) rfl rfl ?aP (fun _ hk=>hk.elim) ?aF ?aO ?aB ?aS ?aL ?_;(case aP=>exact rfl);(case aB=>exact(mH HB.1));(case aF=>exact(fun k_ hk=>(.inr (Nat.le_trans (by first|exact HK.1.1|exact(show Kept w _ (fun k_=>oH k_) from by repeat (first|(with_reducible first|exact HK.1|apply Kept.alloc|apply Kept.drewN|apply Kept.drew)|exact HK.1)).1) hk))));(case aO=>exact(mR uy.1));(case aS=>exact(aQ (mH HB.1)));(case aL=>have:=Cw.1;omega);intro azK Gl ho hb hg hat;rw[←adN.1]at ho;replace HB:=J (hb);replace HK:=J (Kept.sX (S:=(fun k_=>oH k_)) hg (mP HK.1) (fun k_ e_=>(uy.1.1 k_ e_)));have ab1:=J (ho);clear uy;clear ho hb hg hat));go_ret;exact⟨_,by first|rfl|(simp[errW_none,errW_some]<;>rfl)|(simp only[←DV,←Ja,←DW];first|rfl|(simp[errW_none,errW_some]<;>rfl))|(simp[*,errW_none,errW_some]<;>rfl),mR ab1.1,(mH HB.1),(mP HK.1)⟩
        ·rw[if_neg cQ]at H;exact absurd H (by simp)
   ·rw[if_neg c5]at H;exact absurd H (by simp)
def yP.f (a0:Int):Option (List Int):=some (([(a0 / 16777216) % 256,(a0 / 65536) % 256,(a0 / 256) % 256,(a0) % 256]:List Int))
set_option maxHeartbeats 8000000 in
set_option maxRecDepth 100000 in
theorem yP.calls (a0:Int) (r:List Int) (w:World) (h:yP.f a0=some r) :
 Calls Tryz.prog 84 #[.int .i64 a0] w fun e w'=>∃bE:Value,e = .returned (bE)∧Kd.R (Kd.int .u8) 5 w' w.heap.size (fun _=>True) bE r∧Below w.heap.size w w':=by
 have HB:=J (Below.refl w.heap.size w);have H:(some (([(a0 / 16777216) % 256,(a0 / 65536) % 256,(a0 / 256) % 256,(a0) % 256]:List Int)))=some r:=h;clear h;obtain⟨aob,FA⟩:∃y_:List Int,y_=(([(a0 / 16777216) % 256,(a0 / 65536) % 256,(a0 / 256) % 256,(a0) % 256]:List Int)):=⟨_,rfl⟩;replace H:(some aob)=some r:=by first|(rw[FA];with_reducible exact H)|(have ay:=(Option.bind_some _ _).symm.trans H;rw[FA];with_reducible exact ay)|(have ay:=(Option.bind_some _ _).symm.trans H;with_reducible exact ay)|with_reducible exact H|(rw[FA];exact H)|exact H
 have Th:=J FA;clear FA;obtain rfl:=Option.some.inj H;go_enter Tryz.func84,Tryz.ntmps84;go_wp2_with (first|((with_reducible refine aM (N:=14) rfl ?_);refine Kd.jc (Kd.int .u8) _ 5 ?hg (N:=14) ?hd (xs:=([(a0 / 16777216) % 256,(a0 / 65536) % 256,(a0 / 256) % 256,(a0) % 256]:List Int)) (inner:=[.int .u8 ((a0 / 16777216) % 256),.int .u8 ((a0 / 65536) % 256),.int .u8 ((a0 / 256) % 256),.int .u8 ((a0) % 256)]) (ok:=fun _=>True) (okp:=fun _=>True) ?hr ?hp (fun _ hk=>hk) trivial (Below.refl _ _) (Nat.le_refl _) (by simp) ?_;(case hd=>rfl);(case hg=>rfl);(case hr=>first|(go_simp;done)|(go_simp;rfl));(case hp=>exact(ba.one (show Kd.M (Kd.int .u8) _ _ _ ((a0 / 16777216) % 256) [.int .u8 ((a0 / 16777216) % 256)] from rfl) (ba.one (show Kd.M (Kd.int .u8) _ _ _ ((a0 / 65536) % 256) [.int .u8 ((a0 / 65536) % 256)] from rfl) (ba.one (show Kd.M (Kd.int .u8) _ _ _ ((a0 / 256) % 256) [.int .u8 ((a0 / 256) % 256)] from rfl) (ba.one (show Kd.M (Kd.int .u8) _ _ _ ((a0) % 256) [.int .u8 ((a0) % 256)] from rfl) (ba.none _ _))))));intro azL w2 nA hb hg_ hnew_;clear hg_ hnew_;(first|rw[←Th.1]at nA|(simp only[Int.reduceToNat]at nA;rw[←Th.1]at nA));have ab2:=J (Kd.bT nA (aQ (mH HB.1)));replace HB:=J (aA (mH HB.1) hb);clear hb nA));go_ret;exact⟨_,cP,mR ab2.1,(mH HB.1)⟩
end Go.Proofs.YtingkpnoiekliaaGreat.MZ
