-- Written by mp.py, our own printer (wip/mp.py), and made shorter by wip/mp_shrink*.py.
import Derived.Test.YtgpkdbnikcghgaaVMShort
import Derived.Test.YtgpkdbnikcghgaaMDx0
namespace Go.Proofs.Ytgpkdbnikcghgaa.MD
open Go.RowKit Go.Proofs.YtgpkdbnikcghgaaW.PrintWords Go.Proofs.YtgpkdbnikcghgaaW.PrintLast Go.Proofs.YtgpkdbnikcghgaaW.PrintMore Go.Proofs.Ytgpkdbnikcghgaa.MWords
attribute [local go_sem] max2_int min2_int max_two min_two max_three min_three max_four min_four
set_option linter.unusedVariables false
set_option linter.unusedSimpArgs false
mutual
def iO.j0:Nat→Int→List Int→Option (List Int)
 |0,_,_=>none
 |k+1,x1,x5=>if x1<0 then (iO.j1 k 0 x5) else (iO.j1 k x1 x5)
def iO.j1:Nat→Int→List Int→Option (List Int)
 |0,_,_=>none
 |k+1,x1,x5=>iO.l0 k x1 x5 false 28
def iO.l0:Nat→Int→List Int→Bool→Int→Option (List Int)
 |0,_,_,_,_=>none
 |k+1,x1,x5,x6,x7=>if x7>0 then (if 0≤(IntKind.u64.wrap (x7)) then (if x6=true then (iO.j3 k x1 x5 x6 x7 (Go.bits .and .i64 (shr .i64 x1 (IntKind.u64.wrap (x7))) 127) true) else (iO.j3 k x1 x5 x6 x7 (Go.bits .and .i64 (shr .i64 x1 (IntKind.u64.wrap (x7))) 127) (decide ((Go.bits .and .i64 (shr .i64 x1 (IntKind.u64.wrap (x7))) 127)>0)))) else (none)) else (if x5.length<140737488355328 then (some (x5++[(Go.bits .and .i64 x1 127) % 256])) else (none))
def iO.j3:Nat→Int→List Int→Bool→Int→Int→Bool→Option (List Int)
 |0,_,_,_,_,_,_=>none
 |k+1,x1,x5,x6,x7,x8,x29=>if x29=true then (if x5.length<140737488355328 then (iO.l0 k x1 (x5++[(Go.bits .or .i64 x8 128) % 256]) true (wrap64 (x7-7))) else (none)) else (iO.l0 k x1 x5 x6 (wrap64 (x7-7)))
end
def iO.f (k:Nat) (l0:List Int) (a1:Int):Option (List Int):=(some (([]:List Int):List Int)).bind fun HD=>(if HD.length+l0.length<140737488355328 then ((some (HD++l0:List Int)).bind fun zD=>(if a1>1000000000 then (iO.j0 k 1000000000 zD) else (iO.j0 k a1 zD))) else (none))
set_option maxHeartbeats 8000000 in
set_option maxRecDepth 100000 in
theorem iO.calls (k:Nat) (A0:Option Addr) (c0:Nat) (l0:List Int) (a1:Int) (r:List Int) (w:World) (gF:Kd.C (Kd.int .u8) w A0 l0.length l0) (fi:l0.length≤c0) (h:iO.f k l0 a1=some r) :
 Calls Try.prog 102 #[.slice A0 l0.length c0,.int .i64 a1] w fun e w'=>∃fo:Value,e = .returned (fo)∧Kd.R (Kd.int .u8) 5 w' w.heap.size (fun _=>True) fo r∧Below w.heap.size w w':=by
 have fL:=J gF;have rG:=J fi;clear gF fi;have HB:=J (Below.refl w.heap.size w);have H:((some (([]:List Int):List Int)).bind fun HD=>(if HD.length+l0.length<140737488355328 then ((some (HD++l0:List Int)).bind fun zD=>(if a1>1000000000 then (iO.j0 k 1000000000 zD) else (iO.j0 k a1 zD))) else (none)))=some r:=h;clear h;obtain⟨HD,aah⟩:∃y_:List Int,y_=(([]:List Int)):=⟨_,rfl⟩;replace H:(if HD.length+l0.length<140737488355328 then ((some (HD++l0:List Int)).bind fun zD=>(if a1>1000000000 then (iO.j0 k 1000000000 zD) else (iO.j0 k a1 zD))) else (none))=some r:=by first|(rw[aah];with_reducible exact H)|(have bu:=(Option.bind_some _ _).symm.trans H;rw[aah];with_reducible exact bu)|(have bu:=(Option.bind_some _ _).symm.trans H;with_reducible exact bu)|with_reducible exact H|(rw[aah];exact H)|exact H
 have anD:=J aah;clear aah;by_cases c3:HD.length+l0.length<140737488355328
 ·rw[if_pos c3]at H;have LO:=J c3;clear c3;obtain⟨zD,aai⟩:∃y_:List Int,y_=(HD++l0):=⟨_,rfl⟩;replace H:(if a1>1000000000 then (iO.j0 k 1000000000 zD) else (iO.j0 k a1 zD))=some r:=by first|(rw[aai];with_reducible exact H)|(have bu:=(Option.bind_some _ _).symm.trans H;rw[aai];with_reducible exact bu)|(have bu:=(Option.bind_some _ _).symm.trans H;with_reducible exact bu)|with_reducible exact H|(rw[aai];exact H)|exact H
  have axP:=J aai;clear aai;have HC4:=J H;clear H;go_enter Try.func102,Try.ntmps102;go_upto_if 13 with (first|((with_reducible refine bB (N:=9) rfl ?_);refine Kd.Dp (Kd.int .u8) _ 5 ?hg (N:=9) ?hd (xs:=([]:List Int)) (inner:=[]) (ok:=fun _=>True) (okp:=fun _=>True) ?hr ?hp (fun _ hk=>hk) trivial (Below.refl _ _) (Nat.le_refl _) (by simp) ?_;(case hd=>rfl);(case hg=>rfl);(case hr=>first|(go_simp;done)|(go_simp;rfl));(case hp=>exact(dr.none _ _));intro aIn w5 Gv hb hg_ hnew_;clear hg_ hnew_;(first|rw[←anD.1]at Gv|(simp only[Int.reduceToNat]at Gv;rw[←anD.1]at Gv));have amZ:=J (Kd.cq Gv (a7 (mH HB.1)));replace HB:=J (aG (mH HB.1) hb);clear hb Gv)|((with_reducible refine rm (b:=.append) (xs:=#[.tmp 9,.tmp 10]) rfl ?_);at_builtin;refine Kd.abz (Kd.int .u8) (w0:=w) w.heap.size rfl (.tmp 9) (.tmp 10) 41 5 (.int .u8 0) 1 rfl Try.underlying41 ED rfl (by decide) (by omega) aIn HD l0 _ _ _ (fun _=>True) (fun _=>False) rfl rfl ?aO ?aR (fun _ _ h=>h) (fun _ h=>h.elim) ?aF ?aB ?aS ?aL ?_;(case aR=>exact mC (Kd.aX fL.1 HB.1));(case aB=>exact(mH HB.1));(case aF=>exact(fun _ _=>trivial));(case aO=>exact(mR amZ.1));(case aS=>exact(a7 (mH HB.1)));(case aL=>have:=LO.1;omega);intro aup w7 ho hb hg hat;rw[←axP.1]at ho;replace HB:=J (hb);have am0:=J (ho);clear amZ;clear ho hb hg hat))
  (try simp only[Act.put,zA,zB,zC])
  go_cut [1] (fun v1 wc=>∃(kq:Nat) (aaW:Int),v1 = .int .i64 aaW∧Aside0 (iO.j0 kq aaW zD=some r)∧Aside0 (kq≤k)∧Aside0 (Kd.R (Kd.int .u8) 5 wc w.heap.size (fun _=>True) aup zD)∧Aside0 (Below w.heap.size w wc))
  case first=>
   have H:=HC4.1;clear HC4;by_cases c8:a1>1000000000
   ·rw[if_pos c8]at H;have s8:decide (1000000000<a1)=true:=decide_eq_true c8;clear c8
    (first|rw[s8]|(simp only[kE,lE];rw[s8])|skip)
    have H':=J H;clear H;go_wp2;go_meet
    case rel=>exact⟨_,(1000000000),mE,H',⟨by first|omega|exact Nat.le_refl _⟩,⟨mR am0.1⟩,⟨(mH HB.1)⟩⟩
   ·rw[if_neg c8]at H;have s8:decide (1000000000<a1)=false:=decide_eq_false c8;clear c8
    (first|rw[s8]|(simp only[kE,lE];rw[s8])|skip)
    have H':=J H;clear H;go_wp2;go_meet
    case rel=>exact⟨_,(a1),mE,H',⟨by first|omega|exact Nat.le_refl _⟩,⟨mR am0.1⟩,⟨(mH HB.1)⟩⟩
  case rest=>
   clear HC4
   try clear c3
   obtain⟨kq,aaW,rfl,HA,LL,kf,HB⟩:=hcut;cases kq with
   |zero=>exact absurd HA.1 (by simp[iO.j0])
   |succ kj3=>
    have H:=HA.1;clear HA;simp only[iO.j0]at H;have OP:=J H;clear H;go_upto_if 15 with (fail)
    go_cut [1] (fun v1 wc=>∃(kq:Nat) (wu:Int),v1 = .int .i64 wu∧Aside0 (iO.j1 kq wu zD=some r)∧Aside0 (kq≤kj3)∧Aside0 (Kd.R (Kd.int .u8) 5 wc w.heap.size (fun _=>True) aup zD)∧Aside0 (Below w.heap.size w wc))
    case first=>
     have H:=OP.1;clear OP;by_cases qH:aaW<0
     ·rw[if_pos qH]at H;have Il:=decide_eq_true qH;clear qH
      (first|rw[Il]|(simp only[kE,lE];rw[Il])|skip)
      have H':=J H;clear H;go_wp2;go_meet
      case rel=>exact⟨_,(0),mE,H',⟨by have:=LL.1;first|omega|exact Nat.le_refl _⟩,⟨mR kf.1⟩,⟨(mH HB.1)⟩⟩
     ·rw[if_neg qH]at H;have Il:=decide_eq_false qH;clear qH
      (first|rw[Il]|(simp only[kE,lE];rw[Il])|skip)
      have H':=J H;clear H;go_wp2;go_meet
      case rel=>exact⟨_,(aaW),mE,H',⟨by have:=LL.1;first|omega|exact Nat.le_refl _⟩,⟨mR kf.1⟩,⟨(mH HB.1)⟩⟩
    case rest=>
     clear OP
     try clear c3
     obtain⟨kq,wu,rfl,HA,Fe,kf,HB⟩:=hcut;cases kq with
     |zero=>exact absurd HA.1 (by simp[iO.j1])
     |succ TE=>
      have H:=HA.1;clear HA;simp only[iO.j1]at H;have H':=J H;clear H;go_wp2;go_loopg [5,6,7] TE (fun kq v5 v6 v7 w'=>∃(zy:List Int) (mN:Bool) (Bd:Int),v6 = .bool mN∧v7 = .int .i64 Bd∧Aside0 (iO.l0 kq wu zy mN Bd=some r)∧Aside0 (kq≤TE)∧Aside0 (Kd.R (Kd.int .u8) 5 w' w.heap.size (fun _=>True) v5 zy)∧Aside0 (Below w.heap.size w w'))
      case atStart=>exact⟨(zD),(false),(28),mE,mE,H',⟨Nat.le_refl _⟩,⟨mR kf.1⟩,⟨(mH HB.1)⟩⟩
      case round=>
       clear H'
       try clear c3
       obtain⟨zy,mN,Bd,rfl,rfl,HA,uJ,kf,HB⟩:=hrel;cases gk with
       |zero=>exact absurd HA.1 (by simp[iO.l0])
       |succ k3=>
        have H:=HA.1;clear HA;simp only[iO.l0]at H;by_cases rR:Bd>0
        ·rw[if_pos rR]at H;have abU:decide (0<Bd)=true:=decide_eq_true rR;clear rR;obtain⟨KP,are⟩:∃j_:Int,(IntKind.u64.wrap (Bd))=j_:=⟨_,rfl⟩;replace H:(if 0≤(KP) then (if mN=true then (iO.j3 k3 wu zy mN Bd (Go.bits .and .i64 (shr .i64 wu (KP)) 127) true) else (iO.j3 k3 wu zy mN Bd (Go.bits .and .i64 (shr .i64 wu (KP)) 127) (decide ((Go.bits .and .i64 (shr .i64 wu (KP)) 127)>0)))) else (none))=some r:=by first|(rw[are]at H;exact H)|(simp only[are]at H ⊢;exact H)
         by_cases mi:0≤(KP)
         ·rw[if_pos mi]at H;have Pm:=eq_true mi;have ayK:=decide_eq_true mi;clear mi;obtain⟨ry,EB⟩:∃j_:Int,(shr .i64 wu (KP))=j_:=⟨_,rfl⟩;replace H:(if mN=true then (iO.j3 k3 wu zy mN Bd (Go.bits .and .i64 (ry) 127) true) else (iO.j3 k3 wu zy mN Bd (Go.bits .and .i64 (ry) 127) (decide ((Go.bits .and .i64 (ry) 127)>0))))=some r:=by first|(rw[EB]at H;exact H)|(simp only[EB]at H ⊢;exact H)
          have aPy:(wu / 2 ^ min (KP).toNat 64)=ry:=EB;have aPA:(KP)≤64→(wu / 2 ^ (KP).toNat)=ry:=akX EB;have ae4:=J H;clear H;go_upto_region 11 with (fail)
          go_cut [29] (fun v29 wc=>∃(kq:Nat) (ad9:Bool),v29 = .bool ad9∧Aside0 (iO.j3 kq wu zy mN Bd (Go.bits .and .i64 (ry) 127) ad9=some r)∧Aside0 (kq≤k3)∧Aside0 (Kd.R (Kd.int .u8) 5 wc w.heap.size (fun _=>True) u5 zy)∧Aside0 (Below w.heap.size w wc))
          case first=>
           have H:=ae4.1;clear ae4;by_cases ri:mN=true
           ·subst ri;have H1:=H;rw[if_pos rfl]at H1;clear H;have H:=H1;clear H1;have H':=J H;clear H;go_wp2;go_meet
            case rel=>exact⟨_,(true),mE,H',⟨by have:=LL.1;have:=Fe.1;have:=uJ.1;first|omega|exact Nat.le_refl _⟩,⟨mR kf.1⟩,⟨(mH HB.1)⟩⟩
           ·replace ri:=Bool.eq_false_iff.mpr ri;subst ri;have H1:=H;rw[if_neg (show ¬(false=true) by decide)]at H1;clear H;have H:=H1;clear H1;have H':=J H;clear H;go_wp2;go_meet
            case rel=>exact⟨_,(decide ((Go.bits .and .i64 (ry) 127)>0)),(by first|rfl|(simp;done)|(simp only[←EB]<;>(first|rfl|simp))|(simp[*];done)),H',⟨by have:=LL.1;have:=Fe.1;have:=uJ.1;first|omega|exact Nat.le_refl _⟩,⟨mR kf.1⟩,⟨(mH HB.1)⟩⟩
          case rest=>
           clear ae4
           try clear c3
           try clear rR
           try clear abU
           try clear mi
           try clear Pm
           try clear ayK
           obtain⟨kq,ad9,rfl,HA,abb,kf,HB⟩:=hcut;cases kq with
           |zero=>exact absurd HA.1 (by simp[iO.j3])
           |succ akf=>
            have H:=HA.1;clear HA;simp only[iO.j3]at H;by_cases vP:ad9=true
            ·subst vP;have H1:=H;rw[if_pos rfl]at H1;clear H;have H:=H1;clear H1;by_cases pc:zy.length<140737488355328
             ·rw[if_pos pc]at H;have awD:=J pc;clear pc;obtain⟨ava,aak⟩:∃y_:List Int,y_=(zy++[(Go.bits .or .i64 (Go.bits .and .i64 (ry) 127) 128) % 256]):=⟨_,rfl⟩;replace H:(iO.l0 akf wu ava true (wrap64 (Bd-7)))=some r:=by first|(rw[aak];with_reducible exact H)|(have bu:=(Option.bind_some _ _).symm.trans H;rw[aak];with_reducible exact bu)|(have bu:=(Option.bind_some _ _).symm.trans H;with_reducible exact bu)|with_reducible exact H|(rw[aak];exact H)|exact H
              have axR:=J aak;clear aak;have H':=J H;clear H;go_wp2_with (first|((with_reducible refine rm (b:=.append) (xs:=#[.tmp 30,.tmp 34]) rfl ?_);at_builtin;refine Kd.wN (Kd.int .u8) (w0:=w) w.heap.size rfl (.tmp 30) (.tmp 34) 41 5 (.int .u8 0) 1 rfl Try.underlying41 ED rfl (by decide) (by omega) u5 zy ((Go.bits .or .i64 (Go.bits .and .i64 (ry) 127) 128) % 256) [.int .u8 ((Go.bits .or .i64 (Go.bits .and .i64 (ry) 127) 128) % 256)] (fun _=>True) (fun _=>False) rfl rfl ?aP (fun _ hk=>hk.elim) ?aF ?aO ?aB ?aS ?aL ?_;(case aP=>exact rfl);(case aB=>exact(mH HB.1));(case aF=>exact(fun _ _=>trivial));(case aO=>exact(mR kf.1));(case aS=>exact(a7 (mH HB.1)));(case aL=>have:=awD.1;omega);intro aTQ RR ho hb hg hat;rw[←axR.1]at ho;replace HB:=J (hb);have awf:=J (ho);clear kf;clear ho hb hg hat));go_roundg akf
              case measure=>have:=LL.1;have:=Fe.1;have:=uJ.1;have:=abb.1;omega
              case rel=>exact⟨(ava),(true),(wrap64 (Bd-7)),mE,mE,H',⟨by have:=LL.1;have:=Fe.1;have:=uJ.1;have:=abb.1;omega⟩,⟨mR awf.1⟩,⟨(mH HB.1)⟩⟩
             ·rw[if_neg pc]at H;exact absurd H (by simp)
            ·replace vP:=Bool.eq_false_iff.mpr vP;subst vP;have H1:=H;rw[if_neg (show ¬(false=true) by decide)]at H1;clear H;have H:=H1;clear H1;have H':=J H;clear H;go_wp2;go_roundg akf
             case measure=>have:=LL.1;have:=Fe.1;have:=uJ.1;have:=abb.1;omega
             case rel=>exact⟨(zy),(mN),(wrap64 (Bd-7)),mE,mE,H',⟨by have:=LL.1;have:=Fe.1;have:=uJ.1;have:=abb.1;omega⟩,⟨mR kf.1⟩,⟨(mH HB.1)⟩⟩
         ·rw[if_neg mi]at H;exact absurd H (by simp)
        ·rw[if_neg rR]at H;have abU:decide (0<Bd)=false:=decide_eq_false rR;clear rR;by_cases sl:zy.length<140737488355328
         ·rw[if_pos sl]at H;have Wi:=J sl;clear sl;obtain⟨aI0,aaj⟩:∃y_:List Int,y_=(zy++[(Go.bits .and .i64 wu 127) % 256]):=⟨_,rfl⟩;replace H:(some aI0)=some r:=by first|(rw[aaj];with_reducible exact H)|(have bu:=(Option.bind_some _ _).symm.trans H;rw[aaj];with_reducible exact bu)|(have bu:=(Option.bind_some _ _).symm.trans H;with_reducible exact bu)|with_reducible exact H|(rw[aaj];exact H)|exact H
          have axQ:=J aaj;clear aaj;obtain rfl:=Option.some.inj H;go_wp2_with (first|((with_reducible refine rm (b:=.append) (xs:=#[.tmp 36,.tmp 40]) rfl ?_);at_builtin;refine Kd.wN (Kd.int .u8) (w0:=w) w.heap.size rfl (.tmp 36) (.tmp 40) 41 5 (.int .u8 0) 1 rfl Try.underlying41 ED rfl (by decide) (by omega) u5 zy ((Go.bits .and .i64 wu 127) % 256) [.int .u8 ((Go.bits .and .i64 wu 127) % 256)] (fun _=>True) (fun _=>False) rfl rfl ?aP (fun _ hk=>hk.elim) ?aF ?aO ?aB ?aS ?aL ?_;(case aP=>exact rfl);(case aB=>exact(mH HB.1));(case aF=>exact(fun _ _=>trivial));(case aO=>exact(mR kf.1));(case aS=>exact(a7 (mH HB.1)));(case aL=>have:=Wi.1;omega);intro aTP Ua ho hb hg hat;rw[←axQ.1]at ho;replace HB:=J (hb);have awe:=J (ho);clear kf;clear ho hb hg hat));go_ret;exact⟨_,cS,mR awe.1,(mH HB.1)⟩
         ·rw[if_neg sl]at H;exact absurd H (by simp)
 ·rw[if_neg c3]at H;exact absurd H (by simp)
def RB.f (a0:Int):Option (List Int):=some (([(a0 / 16777216) % 256,(a0 / 65536) % 256,(a0 / 256) % 256,(a0) % 256]:List Int))
set_option maxHeartbeats 8000000 in
set_option maxRecDepth 100000 in
theorem RB.calls (a0:Int) (r:List Int) (w:World) (h:RB.f a0=some r) :
 Calls Try.prog 103 #[.int .i64 a0] w fun e w'=>∃fo:Value,e = .returned (fo)∧Kd.R (Kd.int .u8) 5 w' w.heap.size (fun _=>True) fo r∧Below w.heap.size w w':=by
 have HB:=J (Below.refl w.heap.size w);have H:(some (([(a0 / 16777216) % 256,(a0 / 65536) % 256,(a0 / 256) % 256,(a0) % 256]:List Int)))=some r:=h;clear h;obtain⟨aI1,aal⟩:∃y_:List Int,y_=(([(a0 / 16777216) % 256,(a0 / 65536) % 256,(a0 / 256) % 256,(a0) % 256]:List Int)):=⟨_,rfl⟩;replace H:(some aI1)=some r:=by first|(rw[aal];with_reducible exact H)|(have bu:=(Option.bind_some _ _).symm.trans H;rw[aal];with_reducible exact bu)|(have bu:=(Option.bind_some _ _).symm.trans H;with_reducible exact bu)|with_reducible exact H|(rw[aal];exact H)|exact H
 have anE:=J aal;clear aal;obtain rfl:=Option.some.inj H;go_enter Try.func103,Try.ntmps103;go_wp2_with (first|((with_reducible refine bB (N:=14) rfl ?_);refine Kd.Dp (Kd.int .u8) _ 5 ?hg (N:=14) ?hd (xs:=([(a0 / 16777216) % 256,(a0 / 65536) % 256,(a0 / 256) % 256,(a0) % 256]:List Int)) (inner:=[.int .u8 ((a0 / 16777216) % 256),.int .u8 ((a0 / 65536) % 256),.int .u8 ((a0 / 256) % 256),.int .u8 ((a0) % 256)]) (ok:=fun _=>True) (okp:=fun _=>True) ?hr ?hp (fun _ hk=>hk) trivial (Below.refl _ _) (Nat.le_refl _) (by simp) ?_;(case hd=>rfl);(case hg=>rfl);(case hr=>first|(go_simp;done)|(go_simp;rfl));(case hp=>exact(dr.one (show Kd.M (Kd.int .u8) _ _ _ ((a0 / 16777216) % 256) [.int .u8 ((a0 / 16777216) % 256)] from rfl) (dr.one (show Kd.M (Kd.int .u8) _ _ _ ((a0 / 65536) % 256) [.int .u8 ((a0 / 65536) % 256)] from rfl) (dr.one (show Kd.M (Kd.int .u8) _ _ _ ((a0 / 256) % 256) [.int .u8 ((a0 / 256) % 256)] from rfl) (dr.one (show Kd.M (Kd.int .u8) _ _ _ ((a0) % 256) [.int .u8 ((a0) % 256)] from rfl) (dr.none _ _))))));intro aTR w2 Gu hb hg_ hnew_;clear hg_ hnew_;(first|rw[←anE.1]at Gu|(simp only[Int.reduceToNat]at Gu;rw[←anE.1]at Gu));have awg:=J (Kd.cq Gu (a7 (mH HB.1)));replace HB:=J (aG (mH HB.1) hb);clear hb Gu));go_ret;exact⟨_,cS,mR awg.1,(mH HB.1)⟩
mutual
def pN.l0:Nat→List Int→Int→Int→Option (Int)
 |0,_,_,_=>none
 |k+1,x0,x3,x4=>if x4<(x0.length:Int) then (if 0≤x4 then (pN.l1 k x0 (Go.bits .xor .i64 x3 (wrap64 (rd x0 x4))) x4 0) else (none)) else (some (Go.bits .xor .i64 x3 4294967295))
def pN.l1:Nat→List Int→Int→Int→Int→Option (Int)
 |0,_,_,_,_=>none
 |k+1,x0,x3,x4,x5=>if x5<8 then (if (Go.bits .and .i64 x3 1)=1 then (pN.l1 k x0 (Go.bits .xor .i64 (x3 / 2) 2197175160) x4 (wrap64 (x5+1))) else (pN.l1 k x0 (x3 / 2) x4 (wrap64 (x5+1)))) else (pN.l0 k x0 x3 (wrap64 (x4+1)))
end
def pN.f (k:Nat) (l0:List Int):Option (Int):=pN.l0 k l0 4294967295 0
set_option maxHeartbeats 8000000 in
set_option maxRecDepth 100000 in
theorem pN.calls (k:Nat) (A0:Option Addr) (c0:Nat) (l0:List Int) (r:Int) (w:World) (gF:Kd.C (Kd.int .u8) w A0 l0.length l0) (fi:l0.length≤c0) (h:pN.f k l0=some r) :
 Calls Try.prog 104 #[.slice A0 l0.length c0] w fun e w'=>e = .returned (.int .i64 r)∧bW w w':=by
 have fL:=J gF;have rG:=J fi;clear gF fi;have H:(pN.l0 k l0 4294967295 0)=some r:=h;clear h;have H':=J H;clear H;go_enter Try.func104,Try.ntmps104;go_wp2;go_loopg [3,4] k (fun kq v3 v4 w'=>∃(bq:Int) (bj:Int),v3 = .int .i64 bq∧v4 = .int .i64 bj∧Aside0 (pN.l0 kq l0 bq bj=some r)∧Aside0 (kq≤k)∧bW w w')
 case atStart=>exact⟨(4294967295),(0),mE,mE,H',⟨Nat.le_refl _⟩,by repeat (first|exact bW.refl _|apply bW.step)⟩
 case round=>
  clear H'
  obtain⟨bq,bj,rfl,rfl,HA,bI,⟨m1,rfl⟩⟩:=hrel;cases gk with
  |zero=>exact absurd HA.1 (by simp[pN.l0])
  |succ k1=>
   have H:=HA.1;clear HA;simp only[pN.l0]at H;by_cases c2:bj<(l0.length:Int)
   ·rw[if_pos c2]at H;have xS:=decide_eq_true c2;clear c2;by_cases c3:0≤bj
    ·rw[if_pos c3]at H;have jf:=decide_eq_true c3;clear c3;have H':=J H;clear H;have adl:0≤(bj:Int):=mD;have ado:bj<(l0.length:Int):=mD;obtain⟨aKm,azD,aG2⟩:=Kd.JP fL.1 bj adl ado;cases azD
     replace adl:=eq_true adl;replace ado:=eq_true ado;go_wp2;go_loopg [3,5] k1 (fun kq v3 v5 w'=>∃(j8:Int) (rC:Int),v3 = .int .i64 j8∧v5 = .int .i64 rC∧Aside0 (pN.l1 kq l0 j8 bj rC=some r)∧Aside0 (kq≤k1)∧bW w w')
     case atStart=>exact⟨(Go.bits .xor .i64 bq (wrap64 (rd l0 bj))),(0),mE,mE,H',⟨Nat.le_refl _⟩,by repeat (first|exact bW.refl _|apply bW.step)⟩
     case round=>
      clear H'
      try clear c2
      try clear xS
      try clear c3
      try clear jf
      try clear aG2
      try clear adl
      try clear ado
      obtain⟨j8,rC,rfl,rfl,HA,oL,⟨m2,rfl⟩⟩:=hrel;cases gk with
      |zero=>exact absurd HA.1 (by simp[pN.l1])
      |succ k2=>
       have H:=HA.1;clear HA;simp only[pN.l1]at H;by_cases c4:rC<8
       ·rw[if_pos c4]at H;have jm:=decide_eq_true c4;clear c4;by_cases c5:(Go.bits .and .i64 j8 1)=1
        ·rw[if_pos c5]at H;have nI:((Go.bits .and .i64 j8 1) == 1)=true:=beq_iff_eq.mpr c5;have Dw:((Go.bits .and .i64 j8 1) != 1)=false:=bne_eq_false_iff_eq.mpr c5;clear c5;have H':=J H;clear H;go_wp2;go_roundg k2
         case measure=>have:=bI.1;have:=oL.1;omega
         case rel=>exact⟨(Go.bits .xor .i64 (j8 / 2) 2197175160),(wrap64 (rC+1)),mE,mE,H',⟨by have:=bI.1;have:=oL.1;omega⟩,by repeat (first|exact bW.refl _|apply bW.step)⟩
        ·rw[if_neg c5]at H;have nI:((Go.bits .and .i64 j8 1) == 1)=false:=beq_eq_false_iff_ne.mpr c5;have Dw:((Go.bits .and .i64 j8 1) != 1)=true:=bne_iff_ne.mpr c5;have H':=J H;clear H;go_wp2;go_roundg k2
         case measure=>have:=bI.1;have:=oL.1;omega
         case rel=>exact⟨(j8 / 2),(wrap64 (rC+1)),mE,mE,H',⟨by have:=bI.1;have:=oL.1;omega⟩,by repeat (first|exact bW.refl _|apply bW.step)⟩
       ·rw[if_neg c4]at H;have jm:=decide_eq_false c4;clear c4;have H':=J H;clear H;go_wp2;go_roundg k2
        case measure=>have:=bI.1;have:=oL.1;omega
        case rel=>exact⟨(j8),(wrap64 (bj+1)),mE,mE,H',⟨by have:=bI.1;have:=oL.1;omega⟩,by repeat (first|exact bW.refl _|apply bW.step)⟩
    ·rw[if_neg c3]at H;exact absurd H (by simp)
   ·rw[if_neg c2]at H;have xS:=decide_eq_false c2;clear c2;obtain rfl:=Option.some.inj H;go_wp2;go_ret;exact⟨mE,by repeat (first|exact bW.refl _|apply bW.step)⟩
mutual
def lv.l0:Nat→List Int→Int→Int→Option (List Int)
 |0,_,_,_=>none
 |k+1,x0,x1,x5=>if 0≤x5 then (if (shr .i64 x1 x5)>127 then (lv.l0 k x0 x1 (wrap64 (x5+7))) else (lv.l1 k x0 x1 x5)) else (none)
def lv.l1:Nat→List Int→Int→Int→Option (List Int)
 |0,_,_,_=>none
 |k+1,x0,x1,x5=>if x5>0 then (if 0≤x5 then (if x0.length<140737488355328 then (lv.l1 k (x0++[(wrap64 ((Go.bits .and .i64 (shr .i64 x1 x5) 127)+128)) % 256]) x1 (wrap64 (x5-7))) else (none)) else (none)) else (if x0.length<140737488355328 then (some (x0++[(Go.bits .and .i64 x1 127) % 256])) else (none))
end
def lv.f (k:Nat) (l0:List Int) (a1:Int):Option (List Int):=lv.l0 k l0 (mx 0 (mn a1 1000000000)) 0
set_option maxHeartbeats 8000000 in
set_option maxRecDepth 100000 in
theorem lv.calls (k:Nat) (jV:Nat→Prop) (nD:Value) (l0:List Int) (a1:Int) (r:List Int) (w0 w:World) (hB:Below w0.heap.size w0 w) (aJ:Kd.R (Kd.int .u8) 5 w w0.heap.size jV nD l0) (h:lv.f k l0 a1=some r) :
 Calls Try.prog 105 #[nD,.int .i64 a1] w fun e w'=>∃fo:Value,e = .returned (fo)∧Kd.R (Kd.int .u8) 5 w' w0.heap.size (fun k_=>(jV k_∨w.heap.size≤k_)) fo r∧Below w0.heap.size w0 w'∧Kept w w' (fun k_=>jV k_):=by
 have vz:=J (show Kd.R (Kd.int .u8) 5 w w0.heap.size (fun k_=>(jV k_∨w.heap.size≤k_)) nD l0 from Kd.aj aJ (fun k_ hk=>(.inl hk)));have HK:=J (Kept.refl w (fun k_=>jV k_));have OV:=J hB.size;have HB:=J hB;clear hB;have H:(lv.l0 k l0 (mx 0 (mn a1 1000000000)) 0)=some r:=h;clear h;obtain⟨Qm,YN⟩:∃j_:Int,(mn a1 1000000000)=j_:=⟨_,rfl⟩;replace H:(lv.l0 k l0 (mx 0 (Qm)) 0)=some r:=by first|(rw[YN]at H;exact H)|(simp only[YN]at H ⊢;exact H)
 (try (have aPE:Qm≤1000000000:=by (rw[←YN];unfold mn;(repeat' split)<;>omega)))
 (try (have aPD:Qm≤64:=by omega))
 have aPC:(if 1000000000<a1 then 1000000000 else a1)=Qm:=YN;obtain⟨yu,acN⟩:∃j_:Int,(mx 0 (Qm))=j_:=⟨_,rfl⟩;replace H:(lv.l0 k l0 yu 0)=some r:=by first|(rw[acN]at H;exact H)|(simp only[acN]at H ⊢;exact H)
 have aPF:(if 0<(Qm) then (Qm) else 0)=yu:=acN;have H':=J H;clear H;go_enter Try.func105,Try.ntmps105;go_wp2;go_loopg [5] k (fun kq v5 w'=>∃(al:Int),v5 = .int .i64 al∧Aside0 (lv.l0 kq l0 yu al=some r)∧Aside0 (kq≤k)∧Aside0 (Kd.R (Kd.int .u8) 5 w' w0.heap.size (fun k_=>(jV k_∨w.heap.size≤k_)) nD l0)∧Aside0 (Kept w w' (fun k_=>jV k_))∧Aside0 (Below w0.heap.size w0 w'))
 case atStart=>exact⟨(0),mE,H',⟨Nat.le_refl _⟩,⟨mR vz.1⟩,⟨(mP HK.1)⟩,⟨(mH HB.1)⟩⟩
 case round=>
  clear H'
  obtain⟨al,rfl,HA,bI,lr,HK,HB⟩:=hrel;cases gk with
  |zero=>exact absurd HA.1 (by simp[lv.l0])
  |succ k1=>
   have H:=HA.1;clear HA;simp only[lv.l0]at H;by_cases c5:0≤al
   ·rw[if_pos c5]at H;have nI:=eq_true c5;have Dw:=decide_eq_true c5;clear c5;obtain⟨TC,YO⟩:∃j_:Int,(shr .i64 yu al)=j_:=⟨_,rfl⟩;replace H:(if (TC)>127 then (lv.l0 k1 l0 yu (wrap64 (al+7))) else (lv.l1 k1 l0 yu al))=some r:=by first|(rw[YO]at H;exact H)|(simp only[YO]at H ⊢;exact H)
    have aPG:(yu / 2 ^ min al.toNat 64)=TC:=YO;have aPH:al≤64→(yu / 2 ^ al.toNat)=TC:=akX YO;by_cases c7:(TC)>127
    ·rw[if_pos c7]at H;have um:decide (127<(TC))=true:=decide_eq_true c7;clear c7;have H':=J H;clear H;go_wp2;go_roundg k1
     case measure=>have:=bI.1;omega
     case rel=>exact⟨(wrap64 (al+7)),mE,H',⟨by have:=bI.1;omega⟩,⟨mR lr.1⟩,⟨(mP HK.1)⟩,⟨(mH HB.1)⟩⟩
    ·rw[if_neg c7]at H;have um:decide (127<(TC))=false:=decide_eq_false c7;clear c7;have H':=J H;clear H;go_wp2;go_loopg [0,5] k1 (fun kq v0 v5 w'=>∃(Hu:List Int) (rC:Int),v5 = .int .i64 rC∧Aside0 (lv.l1 kq Hu yu rC=some r)∧Aside0 (kq≤k1)∧Aside0 (Kd.R (Kd.int .u8) 5 w' w0.heap.size (fun k_=>(jV k_∨w.heap.size≤k_)) v0 Hu)∧Aside0 (Kept w w' (fun k_=>jV k_))∧Aside0 (Below w0.heap.size w0 w'))
     case atStart=>exact⟨(l0),(al),mE,H',⟨Nat.le_refl _⟩,⟨mR lr.1⟩,⟨(mP HK.1)⟩,⟨(mH HB.1)⟩⟩
     case round=>
      clear H'
      try clear c5
      try clear nI
      try clear Dw
      try clear c7
      try clear um
      obtain⟨Hu,rC,rfl,HA,oL,lr,HK,HB⟩:=hrel;cases gk with
      |zero=>exact absurd HA.1 (by simp[lv.l1])
      |succ k2=>
       have H:=HA.1;clear HA;simp only[lv.l1]at H;by_cases c8:rC>0
       ·rw[if_pos c8]at H;have s8:decide (0<rC)=true:=decide_eq_true c8;clear c8;by_cases c9:0≤rC
        ·rw[if_pos c9]at H;have qg:=eq_true c9;have aoc:=decide_eq_true c9;clear c9;obtain⟨TB,acM⟩:∃j_:Int,(shr .i64 yu rC)=j_:=⟨_,rfl⟩;replace H:(if Hu.length<140737488355328 then (lv.l1 k2 (Hu++[(wrap64 ((Go.bits .and .i64 (TB) 127)+128)) % 256]) yu (wrap64 (rC-7))) else (none))=some r:=by first|(rw[acM]at H;exact H)|(simp only[acM]at H ⊢;exact H)
         have aPw:(yu / 2 ^ min rC.toNat 64)=TB:=acM;have aPx:rC≤64→(yu / 2 ^ rC.toNat)=TB:=akX acM;by_cases rR:Hu.length<140737488355328
         ·rw[if_pos rR]at H;have awC:=J rR;clear rR;obtain⟨avb,aan⟩:∃y_:List Int,y_=(Hu++[(wrap64 ((Go.bits .and .i64 (TB) 127)+128)) % 256]):=⟨_,rfl⟩;replace H:(lv.l1 k2 avb yu (wrap64 (rC-7)))=some r:=by first|(rw[aan];with_reducible exact H)|(have bu:=(Option.bind_some _ _).symm.trans H;rw[aan];with_reducible exact bu)|(have bu:=(Option.bind_some _ _).symm.trans H;with_reducible exact bu)|with_reducible exact H|(rw[aan];exact H)|exact H
          have axT:=J aan;clear aan;have H':=J H;clear H;go_wp2_with (first|((with_reducible refine rm (b:=.append) (xs:=#[.tmp 19,.tmp 26]) rfl ?_);at_builtin;refine Kd.wN (Kd.int .u8) (w0:=w0) w0.heap.size rfl (.tmp 19) (.tmp 26) 41 5 (.int .u8 0) 1 rfl Try.underlying41 ED rfl (by decide) (by omega) u0 Hu ((wrap64 ((Go.bits .and .i64 (TB) 127)+128)) % 256) [.int .u8 ((wrap64 ((Go.bits .and .i64 (TB) 127)+128)) % 256)] (fun k_=>(jV k_∨w.heap.size≤k_)) (fun _=>False) rfl rfl ?aP (fun _ hk=>hk.elim) ?aF ?aO ?aB ?aS ?aL ?_;(case aP=>exact rfl);(case aB=>exact(mH HB.1));(case aF=>exact(fun k_ hk=>(.inr (Nat.le_trans (by first|exact HK.1.1|exact(show Kept w _ (fun k_=>jV k_) from by repeat (first|(with_reducible first|exact HK.1|apply Kept.alloc|apply Kept.drewN|apply Kept.drew)|exact HK.1)).1) hk))));(case aO=>exact(mR lr.1));(case aS=>exact(a7 (mH HB.1)));(case aL=>have:=awC.1;omega);intro aTW jE ho hb hg hat;rw[←axT.1]at ho;replace HB:=J (hb);replace HK:=J (Kept.zj (S:=(fun k_=>jV k_)) hg (mP HK.1) (fun k_ e_=>(lr.1.1 k_ e_)));have awi:=J (ho);clear lr;clear ho hb hg hat));go_roundg k2
          case measure=>have:=bI.1;have:=oL.1;omega
          case rel=>exact⟨(avb),(wrap64 (rC-7)),mE,H',⟨by have:=bI.1;have:=oL.1;omega⟩,⟨mR awi.1⟩,⟨(mP HK.1)⟩,⟨(mH HB.1)⟩⟩
         ·rw[if_neg rR]at H;exact absurd H (by simp)
        ·rw[if_neg c9]at H;exact absurd H (by simp)
       ·rw[if_neg c8]at H;have s8:decide (0<rC)=false:=decide_eq_false c8;clear c8;by_cases mi:Hu.length<140737488355328
        ·rw[if_pos mi]at H;have Wh:=J mi;clear mi;obtain⟨aI3,aao⟩:∃y_:List Int,y_=(Hu++[(Go.bits .and .i64 yu 127) % 256]):=⟨_,rfl⟩;replace H:(some aI3)=some r:=by first|(rw[aao];with_reducible exact H)|(have bu:=(Option.bind_some _ _).symm.trans H;rw[aao];with_reducible exact bu)|(have bu:=(Option.bind_some _ _).symm.trans H;with_reducible exact bu)|with_reducible exact H|(rw[aao];exact H)|exact H
         have axU:=J aao;clear aao;obtain rfl:=Option.some.inj H;go_wp2_with (first|((with_reducible refine rm (b:=.append) (xs:=#[.tmp 28,.tmp 32]) rfl ?_);at_builtin;refine Kd.wN (Kd.int .u8) (w0:=w0) w0.heap.size rfl (.tmp 28) (.tmp 32) 41 5 (.int .u8 0) 1 rfl Try.underlying41 ED rfl (by decide) (by omega) u0 Hu ((Go.bits .and .i64 yu 127) % 256) [.int .u8 ((Go.bits .and .i64 yu 127) % 256)] (fun k_=>(jV k_∨w.heap.size≤k_)) (fun _=>False) rfl rfl ?aP (fun _ hk=>hk.elim) ?aF ?aO ?aB ?aS ?aL ?_;(case aP=>exact rfl);(case aB=>exact(mH HB.1));(case aF=>exact(fun k_ hk=>(.inr (Nat.le_trans (by first|exact HK.1.1|exact(show Kept w _ (fun k_=>jV k_) from by repeat (first|(with_reducible first|exact HK.1|apply Kept.alloc|apply Kept.drewN|apply Kept.drew)|exact HK.1)).1) hk))));(case aO=>exact(mR lr.1));(case aS=>exact(a7 (mH HB.1)));(case aL=>have:=Wh.1;omega);intro aTX w14 ho hb hg hat;rw[←axU.1]at ho;replace HB:=J (hb);replace HK:=J (Kept.zj (S:=(fun k_=>jV k_)) hg (mP HK.1) (fun k_ e_=>(lr.1.1 k_ e_)));have awj:=J (ho);clear lr;clear ho hb hg hat));go_ret;exact⟨_,by first|rfl|(simp[errW_none,errW_some]<;>rfl)|(simp only[←YN,←acN,←YO];first|rfl|(simp[errW_none,errW_some]<;>rfl))|(simp[*,errW_none,errW_some]<;>rfl),mR awj.1,(mH HB.1),(mP HK.1)⟩
        ·rw[if_neg mi]at H;exact absurd H (by simp)
   ·rw[if_neg c5]at H;exact absurd H (by simp)
def Ql.f (a0:Int):Option (List Int):=some (([(a0 / 16777216) % 256,(a0 / 65536) % 256,(a0 / 256) % 256,(a0) % 256]:List Int))
set_option maxHeartbeats 8000000 in
set_option maxRecDepth 100000 in
theorem Ql.calls (a0:Int) (r:List Int) (w:World) (h:Ql.f a0=some r) :
 Calls Try.prog 106 #[.int .i64 a0] w fun e w'=>∃fo:Value,e = .returned (fo)∧Kd.R (Kd.int .u8) 5 w' w.heap.size (fun _=>True) fo r∧Below w.heap.size w w':=by
 have HB:=J (Below.refl w.heap.size w);have H:(some (([(a0 / 16777216) % 256,(a0 / 65536) % 256,(a0 / 256) % 256,(a0) % 256]:List Int)))=some r:=h;clear h;obtain⟨aI4,aap⟩:∃y_:List Int,y_=(([(a0 / 16777216) % 256,(a0 / 65536) % 256,(a0 / 256) % 256,(a0) % 256]:List Int)):=⟨_,rfl⟩;replace H:(some aI4)=some r:=by first|(rw[aap];with_reducible exact H)|(have bu:=(Option.bind_some _ _).symm.trans H;rw[aap];with_reducible exact bu)|(have bu:=(Option.bind_some _ _).symm.trans H;with_reducible exact bu)|with_reducible exact H|(rw[aap];exact H)|exact H
 have anF:=J aap;clear aap;obtain rfl:=Option.some.inj H;go_enter Try.func106,Try.ntmps106;go_wp2_with (first|((with_reducible refine bB (N:=14) rfl ?_);refine Kd.Dp (Kd.int .u8) _ 5 ?hg (N:=14) ?hd (xs:=([(a0 / 16777216) % 256,(a0 / 65536) % 256,(a0 / 256) % 256,(a0) % 256]:List Int)) (inner:=[.int .u8 ((a0 / 16777216) % 256),.int .u8 ((a0 / 65536) % 256),.int .u8 ((a0 / 256) % 256),.int .u8 ((a0) % 256)]) (ok:=fun _=>True) (okp:=fun _=>True) ?hr ?hp (fun _ hk=>hk) trivial (Below.refl _ _) (Nat.le_refl _) (by simp) ?_;(case hd=>rfl);(case hg=>rfl);(case hr=>first|(go_simp;done)|(go_simp;rfl));(case hp=>exact(dr.one (show Kd.M (Kd.int .u8) _ _ _ ((a0 / 16777216) % 256) [.int .u8 ((a0 / 16777216) % 256)] from rfl) (dr.one (show Kd.M (Kd.int .u8) _ _ _ ((a0 / 65536) % 256) [.int .u8 ((a0 / 65536) % 256)] from rfl) (dr.one (show Kd.M (Kd.int .u8) _ _ _ ((a0 / 256) % 256) [.int .u8 ((a0 / 256) % 256)] from rfl) (dr.one (show Kd.M (Kd.int .u8) _ _ _ ((a0) % 256) [.int .u8 ((a0) % 256)] from rfl) (dr.none _ _))))));intro aTY w2 Gu hb hg_ hnew_;clear hg_ hnew_;(first|rw[←anF.1]at Gu|(simp only[Int.reduceToNat]at Gu;rw[←anF.1]at Gu));have awk:=J (Kd.cq Gu (a7 (mH HB.1)));replace HB:=J (aG (mH HB.1) hb);clear hb Gu));go_ret;exact⟨_,cS,mR awk.1,(mH HB.1)⟩
mutual
def pL.l0:Nat→Int→List Int→Int→Int→Option (Int)
 |0,_,_,_,_=>none
 |k+1,x3,x7,x8,x9=>if x9<x8 then (if 0≤x9 then (if x9<(x7.length:Int) then (pL.l1 k (Go.bits .xor .u32 x3 ((rd x7 x9) % 4294967296)) x7 x8 x9 0) else (none)) else (none)) else (some (wrap64 (Go.bits .xor .u32 4294967295 x3)))
def pL.l1:Nat→Int→List Int→Int→Int→Int→Option (Int)
 |0,_,_,_,_,_=>none
 |k+1,x3,x7,x8,x9,UA=>if UA<8 then (if (Go.bits .and .u32 x3 1)=1 then (pL.l1 k (Go.bits .xor .u32 (x3 / 2) 2197175160) x7 x8 x9 (wrap64 (UA+1))) else (pL.l1 k (x3 / 2) x7 x8 x9 (wrap64 (UA+1)))) else (pL.l0 k x3 x7 x8 (wrap64 (x9+1)))
end
def pL.f (k:Nat) (l0:List Int):Option (Int):=pL.l0 k 4294967295 l0 (l0.length:Int) 0
set_option maxHeartbeats 8000000 in
set_option maxRecDepth 100000 in
theorem pL.calls (k:Nat) (A0:Option Addr) (c0:Nat) (l0:List Int) (r:Int) (w:World) (gF:Kd.C (Kd.int .u8) w A0 l0.length l0) (fi:l0.length≤c0) (h:pL.f k l0=some r) :
 Calls Try.prog 107 #[.slice A0 l0.length c0] w fun e w'=>e = .returned (.int .i64 r)∧bW w w':=by
 have fL:=J gF;have rG:=J fi;clear gF fi;have H:(pL.l0 k 4294967295 l0 (l0.length:Int) 0)=some r:=h;clear h;have H':=J H;clear H;go_enter Try.func107,Try.ntmps107;go_wp2;go_loopg [3,9] k (fun kq v3 v9 w'=>∃(bq:Int) (aD:Int),v3 = .int .u32 bq∧v9 = .int .i64 aD∧Aside0 (pL.l0 kq bq l0 (l0.length:Int) aD=some r)∧Aside0 (kq≤k)∧bW w w')
 case atStart=>exact⟨(4294967295),(0),mE,mE,H',⟨Nat.le_refl _⟩,by repeat (first|exact bW.refl _|apply bW.step)⟩
 case round=>
  clear H'
  obtain⟨bq,aD,rfl,rfl,HA,bI,⟨m1,rfl⟩⟩:=hrel;cases gk with
  |zero=>exact absurd HA.1 (by simp[pL.l0])
  |succ k1=>
   have H:=HA.1;clear HA;simp only[pL.l0]at H;by_cases c2:aD<(l0.length:Int)
   ·rw[if_pos c2]at H;have xS:=decide_eq_true c2;clear c2;by_cases c3:0≤aD
    ·rw[if_pos c3]at H;have jf:=decide_eq_true c3;clear c3;by_cases c4:aD<(l0.length:Int)
     ·rw[if_pos c4]at H;have jm:=decide_eq_true c4;clear c4;have H':=J H;clear H;have adm:0≤(aD:Int):=mD;have adp:aD<(l0.length:Int):=mD;obtain⟨aKn,azE,aG3⟩:=Kd.JP fL.1 aD adm adp;cases azE
      replace adm:=eq_true adm;replace adp:=eq_true adp;go_wp2;go_loopg [3,17] k1 (fun kq v3 v17 w'=>∃(j8:Int) (UB:Int),v3 = .int .u32 j8∧v17 = .int .i64 UB∧Aside0 (pL.l1 kq j8 l0 (l0.length:Int) aD UB=some r)∧Aside0 (kq≤k1)∧bW w w')
      case atStart=>exact⟨(Go.bits .xor .u32 bq ((rd l0 aD) % 4294967296)),(0),mE,mE,H',⟨Nat.le_refl _⟩,by repeat (first|exact bW.refl _|apply bW.step)⟩
      case round=>
       clear H'
       try clear c2
       try clear xS
       try clear c3
       try clear jf
       try clear c4
       try clear jm
       try clear aG3
       try clear adm
       try clear adp
       obtain⟨j8,UB,rfl,rfl,HA,oL,⟨m2,rfl⟩⟩:=hrel;cases gk with
       |zero=>exact absurd HA.1 (by simp[pL.l1])
       |succ k2=>
        have H:=HA.1;clear HA;simp only[pL.l1]at H;by_cases c5:UB<8
        ·rw[if_pos c5]at H;have nI:=decide_eq_true c5;clear c5;by_cases c6:(Go.bits .and .u32 j8 1)=1
         ·rw[if_pos c6]at H;have iW:((Go.bits .and .u32 j8 1) == 1)=true:=beq_iff_eq.mpr c6;have qo:((Go.bits .and .u32 j8 1) != 1)=false:=bne_eq_false_iff_eq.mpr c6;clear c6;have H':=J H;clear H;go_wp2;go_roundg k2
          case measure=>have:=bI.1;have:=oL.1;omega
          case rel=>exact⟨(Go.bits .xor .u32 (j8 / 2) 2197175160),(wrap64 (UB+1)),mE,mE,H',⟨by have:=bI.1;have:=oL.1;omega⟩,by repeat (first|exact bW.refl _|apply bW.step)⟩
         ·rw[if_neg c6]at H;have iW:((Go.bits .and .u32 j8 1) == 1)=false:=beq_eq_false_iff_ne.mpr c6;have qo:((Go.bits .and .u32 j8 1) != 1)=true:=bne_iff_ne.mpr c6;have H':=J H;clear H;go_wp2;go_roundg k2
          case measure=>have:=bI.1;have:=oL.1;omega
          case rel=>exact⟨(j8 / 2),(wrap64 (UB+1)),mE,mE,H',⟨by have:=bI.1;have:=oL.1;omega⟩,by repeat (first|exact bW.refl _|apply bW.step)⟩
        ·rw[if_neg c5]at H;have nI:=decide_eq_false c5;clear c5;have H':=J H;clear H;go_wp2;go_roundg k2
         case measure=>have:=bI.1;have:=oL.1;omega
         case rel=>exact⟨(j8),(wrap64 (aD+1)),mE,mE,H',⟨by have:=bI.1;have:=oL.1;omega⟩,by repeat (first|exact bW.refl _|apply bW.step)⟩
     ·rw[if_neg c4]at H;exact absurd H (by simp)
    ·rw[if_neg c3]at H;exact absurd H (by simp)
   ·rw[if_neg c2]at H;have xS:=decide_eq_false c2;clear c2;obtain rfl:=Option.some.inj H;go_wp2;go_ret;exact⟨mE,by repeat (first|exact bW.refl _|apply bW.step)⟩
end Go.Proofs.Ytgpkdbnikcghgaa.MD
