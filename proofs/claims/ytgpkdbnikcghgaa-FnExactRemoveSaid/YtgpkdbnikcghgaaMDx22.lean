-- Written by mp.py, our own printer (wip/mp.py), and made shorter by wip/mp_shrink*.py.
import Derived.Test.YtgpkdbnikcghgaaVMShort
import Derived.Test.YtgpkdbnikcghgaaMDx0
namespace Go.Proofs.Ytgpkdbnikcghgaa.MD
open Go.RowKit Go.Proofs.YtgpkdbnikcghgaaW.PrintWords Go.Proofs.YtgpkdbnikcghgaaW.PrintLast Go.Proofs.YtgpkdbnikcghgaaW.PrintMore Go.Proofs.Ytgpkdbnikcghgaa.MWords
attribute [local go_sem] max2_int min2_int max_two min_two max_three min_three max_four min_four
set_option linter.unusedVariables false
set_option linter.unusedSimpArgs false
def spec_l2Without.l0:Nat→List (S63)→ByteArray→List (S63)→Int→Option ((List (S63)))
 |0,_,_,_,_=>none
 |k+1,x0,x1,x5,x6=>if x6<(x0.length:Int) then (if 0≤x6 then (if ((rd_T63 x0 x6).f0).toList=x1.toList then (spec_l2Without.l0 k x0 x1 x5 (wrap64 (x6+1))) else (if x5.length<5864062014805 then (spec_l2Without.l0 k x0 x1 (x5++[(⟨(rd_T63 x0 x6).f0,(rd_T63 x0 x6).f1⟩:S63)]) (wrap64 (x6+1))) else (none))) else (none)) else (some x5)
def spec_l2Without.f (k:Nat) (l0:List (S63)) (a1:ByteArray):Option ((List (S63))):=spec_l2Without.l0 k l0 a1 (([]:List (S63))) 0
set_option maxHeartbeats 8000000 in
set_option maxRecDepth 100000 in
theorem spec_l2Without.calls (k:Nat) (A0:Option Addr) (c0:Nat) (l0:List (S63)) (a1:ByteArray) (r:List (S63)) (w:World) (hr0:Kd.C k63 w A0 l0.length l0) (hc0:l0.length≤c0) (h:spec_l2Without.f k l0 a1=some r) :
 Calls Try.prog 51 #[.slice A0 l0.length c0,.string a1] w fun e w'=>∃v0_:Value,e = .returned (v0_)∧Kd.R k63 63 w' w.heap.size (fun _=>True) v0_ r∧Below w.heap.size w w':=by
 have hu63:=Try.underlying63;have HR0:=mS hr0;have HC0:=mS hc0;clear hr0 hc0;have HB:=mS (Below.refl w.heap.size w);have H:(spec_l2Without.l0 k l0 a1 (([]:List (S63))) 0)=some r:=h;clear h;obtain⟨y471,hy471⟩:∃y_:List (S63),y_=(([]:List (S63))):=⟨_,rfl⟩;replace H:(spec_l2Without.l0 k l0 a1 y471 0)=some r:=by first|(rw[hy471];with_reducible exact H)|(have H2_:=(Option.bind_some _ _).symm.trans H;rw[hy471];with_reducible exact H2_)|(have H2_:=(Option.bind_some _ _).symm.trans H;with_reducible exact H2_)|with_reducible exact H|(rw[hy471];exact H)|exact H
 have Ny471:=mS hy471;clear hy471;have H':=mS H;clear H;go_enter Try.func51,Try.ntmps51;go_wp2_with (first|((with_reducible refine gate_dst (N:=7) rfl ?_);refine Kd.R_lit k63 _ 63 ?hg (N:=7) ?hd (xs:=([]:List (S63))) (inner:=[]) (ok:=fun _=>True) (okp:=fun _=>True) ?hr ?hp (fun _ hk=>hk) trivial (Below.refl _ _) (Nat.le_refl _) (by simp) ?_;(case hd=>rfl);(case hg=>rfl);(case hr=>first|(go_simp;done)|(go_simp;rfl));(case hp=>exact(Reps.none _ _));intro v472 w3 ho4 hb hg_ hnew_;clear hg_ hnew_;(first|rw[←Ny471.out]at ho4|(simp only[Int.reduceToNat]at ho4;rw[←Ny471.out]at ho4));have HO473:=mS (Kd.R_lower ho4 (below_size (mH HB.out)));replace HB:=mS (below_step (mH HB.out) hb);clear hb ho4));go_loopg [5,6] k (fun kq v5 v6 w'=>∃(x5_1:List (S63)) (x6_1:Int),v6 = .int .i64 x6_1∧Aside0 (spec_l2Without.l0 kq l0 a1 x5_1 x6_1=some r)∧Aside0 (kq≤k)∧Aside0 (Kd.R k63 63 w' w.heap.size (fun _=>True) v5 x5_1)∧Aside0 (Below w.heap.size w w'))
 case atStart=>exact⟨(y471),(0),mE,H',⟨Nat.le_refl _⟩,⟨mR HO473.out⟩,⟨(mH HB.out)⟩⟩
 case round=>
  clear H'
  try clear p2
  obtain⟨x5_1,x6_1,rfl,HA,HK1,HO_5,HB⟩:=hrel;cases gk with
  |zero=>exact absurd HA.out (by simp[spec_l2Without.l0])
  |succ k1=>
   have H:=HA.out;clear HA;simp only[spec_l2Without.l0]at H;by_cases c5:x6_1<(l0.length:Int)
   ·rw[if_pos c5]at H;have c5b0:=decide_eq_true c5;clear c5;by_cases c6:0≤x6_1
    ·rw[if_pos c6]at H;have c6b0:=decide_eq_true c6;clear c6;by_cases c7:((rd_T63 l0 x6_1).f0).toList=a1.toList
     ·rw[if_pos c7]at H;have c7b0:(((rd_T63 l0 x6_1).f0).toList == a1.toList)=true:=beq_iff_eq.mpr c7;have c7b1:(((rd_T63 l0 x6_1).f0).toList != a1.toList)=false:=bne_eq_false_iff_eq.mpr c7;clear c7;have H':=mS H;clear H;have p474:0≤(x6_1:Int):=mD;have q474:x6_1<(l0.length:Int):=mD;obtain⟨ad474,e474,hx474_0,hx474_1⟩:=at_T63 HR0.out x6_1 p474 q474;cases e474
      replace hx474_0:=mX HB.out hx474_0;replace hx474_1:=mX HB.out hx474_1;replace p474:=eq_true p474;replace q474:=eq_true q474;go_wp2;go_roundg k1
      case measure=>have:=HK1.out;omega
      case rel=>exact⟨(x5_1),(wrap64 (x6_1+1)),mE,H',⟨by have:=HK1.out;omega⟩,⟨mR HO_5.out⟩,⟨(mH HB.out)⟩⟩
     ·rw[if_neg c7]at H;have c7b0:(((rd_T63 l0 x6_1).f0).toList == a1.toList)=false:=beq_eq_false_iff_ne.mpr c7;have c7b1:(((rd_T63 l0 x6_1).f0).toList != a1.toList)=true:=bne_iff_ne.mpr c7;by_cases c8:x5_1.length<5864062014805
      ·rw[if_pos c8]at H;have LMc8:=mS c8;clear c8;obtain⟨y476,hy476⟩:∃y_:List (S63),y_=(x5_1++[(⟨(rd_T63 l0 x6_1).f0,(rd_T63 l0 x6_1).f1⟩:S63)]):=⟨_,rfl⟩;replace H:(spec_l2Without.l0 k1 l0 a1 y476 (wrap64 (x6_1+1)))=some r:=by first|(rw[hy476];with_reducible exact H)|(have H2_:=(Option.bind_some _ _).symm.trans H;rw[hy476];with_reducible exact H2_)|(have H2_:=(Option.bind_some _ _).symm.trans H;with_reducible exact H2_)|with_reducible exact H|(rw[hy476];exact H)|exact H
       have Ny476:=mS hy476;clear hy476;have H':=mS H;clear H;have p474:0≤(x6_1:Int):=mD;have q474:x6_1<(l0.length:Int):=mD;obtain⟨ad474,e474,hx474_0,hx474_1⟩:=at_T63 HR0.out x6_1 p474 q474;cases e474
       replace hx474_0:=mX HB.out hx474_0;replace hx474_1:=mX HB.out hx474_1;replace p474:=eq_true p474;replace q474:=eq_true q474;have p475:0≤(x6_1:Int):=mD;have q475:x6_1<(l0.length:Int):=mD;obtain⟨ad475,e475,hx475_0,hx475_1⟩:=at_T63 HR0.out x6_1 p475 q475;obtain rfl:ad474=ad475:=(by injection e475);replace hx475_0:=mX HB.out hx475_0;replace hx475_1:=mX HB.out hx475_1;replace p475:=eq_true p475;replace q475:=eq_true q475;go_wp2_with (first|((with_reducible refine gate_builtin (b:=.append) (xs:=#[.tmp 21,.tmp 26]) rfl ?_);at_builtin;refine Kd.R_append k63 (w0:=w) w.heap.size rfl (.tmp 21) (.tmp 26) 28 63 (.agg #[(.string ⟨#[]⟩),(.int .i64 0)]) 24 rfl Try.underlying28 info63 rfl (by decide) (by omega) u5 x5_1 (⟨(rd_T63 l0 x6_1).f0,(rd_T63 l0 x6_1).f1⟩:S63) [.string ((rd_T63 l0 x6_1).f0),.int .i64 ((rd_T63 l0 x6_1).f1)] (fun _=>True) (fun _=>False) rfl rfl ?aP (fun _ hk=>hk.elim) ?aF ?aO ?aB ?aS ?aL ?_;(case aP=>exact k63_mkM _ _ _ (⟨(rd_T63 l0 x6_1).f0,(rd_T63 l0 x6_1).f1⟩:S63));(case aB=>exact(mH HB.out));(case aF=>exact(fun _ _=>trivial));(case aO=>exact(mR HO_5.out));(case aS=>exact(below_size (mH HB.out)));(case aL=>have:=LMc8.out;omega);intro v477 w9 ho hb hg hat;rw[←Ny476.out]at ho;replace HB:=mS (hb);have HO478:=mS (ho);clear HO_5;clear ho hb hg hat));go_roundg k1
       case measure=>have:=HK1.out;omega
       case rel=>exact⟨(y476),(wrap64 (x6_1+1)),mE,H',⟨by have:=HK1.out;omega⟩,⟨mR HO478.out⟩,⟨(mH HB.out)⟩⟩
      ·rw[if_neg c8]at H;exact absurd H (by simp)
    ·rw[if_neg c6]at H;exact absurd H (by simp)
   ·rw[if_neg c5]at H;have c5b0:=decide_eq_false c5;clear c5;obtain rfl:=Option.some.inj H;go_wp2;go_ret;exact⟨_,mEw,mR HO_5.out,(mH HB.out)⟩
end Go.Proofs.Ytgpkdbnikcghgaa.MD
