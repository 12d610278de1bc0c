-- Written by mp.py, our own printer (wip/mp.py), and made shorter by wip/mp_shrink*.py.
import Derived.Test.YtgpkdbnikcghgaaVMShort
import Derived.Test.YtgpkdbnikcghgaaMDx0
namespace Go.Proofs.Ytgpkdbnikcghgaa.MD
open Go.RowKit Go.Proofs.YtgpkdbnikcghgaaW.PrintWords Go.Proofs.YtgpkdbnikcghgaaW.PrintLast Go.Proofs.YtgpkdbnikcghgaaW.PrintMore Go.Proofs.Ytgpkdbnikcghgaa.MWords
attribute [local go_sem] max2_int min2_int max_two min_two max_three min_three max_four min_four
set_option linter.unusedVariables false
set_option linter.unusedSimpArgs false
def drop_.l0:Nat→ByteArray→List (S63)→List (S63)→Int→Int→Option ((List (S63)))
 |0,_,_,_,_,_=>none
 |k+1,x1,x4,x10,x11,x12=>if x12<x11 then (if 0≤x12 then (if x12<(x10.length:Int) then (if ((rd_T63 x10 x12).f0).toList=x1.toList then (drop_.l0 k x1 x4 x10 x11 (wrap64 (x12+1))) else (if x4.length<5864062014805 then (drop_.l0 k x1 (x4++[(⟨(rd_T63 x10 x12).f0,(rd_T63 x10 x12).f1⟩:S63)]) x10 x11 (wrap64 (x12+1))) else (none))) else (none)) else (none)) else (some x4)
def drop_.f (k:Nat) (l0:List (S63)) (a1:ByteArray):Option ((List (S63))):=drop_.l0 k a1 ([]:List (S63)) l0 (l0.length:Int) 0
set_option maxHeartbeats 8000000 in
set_option maxRecDepth 100000 in
theorem drop_.calls (k:Nat) (gb:Nat) (u0 u2 u3:Value) (A0:Option Addr) (c0:Nat) (l0:List (S63)) (a1:ByteArray) (r:List (S63)) (w:World) (hbk:w.heap[gb]? = some (.cells #[u0,.slice A0 l0.length c0,u2,u3] 30 (0,0))) (hr0:Kd.C k63 w A0 l0.length l0) (hc0:l0.length≤c0) (h:drop_.f k l0 a1=some r) :
 Calls Try.prog 58 #[.pointer (some ⟨gb,0,none⟩),.string a1] w fun e w'=>∃(v0_:Value) (w1:World),e = .returned (.tuple #[])∧w'=w1.setCell ⟨gb,1,none⟩ v0_∧Kd.R k63 63 w1 w.heap.size (fun _=>True) v0_ r∧Below w.heap.size w w1:=by
 have HBK:=mS hbk;clear hbk;have hu63:=Try.underlying63;have HR0:=mS hr0;have HC0:=mS hc0;clear hr0 hc0;have HB:=mS (Below.refl w.heap.size w);have H:(drop_.l0 k a1 ([]:List (S63)) l0 (l0.length:Int) 0)=some r:=h;clear h;have H':=mS H;clear H;have hczb_1:w.cell? ⟨gb,1,none⟩=some (.slice A0 l0.length c0):=(blk_cell HBK.out 1).trans rfl;have hfzb_1:=blk_frozen HBK.out 1;go_enter Try.func58,Try.ntmps58;go_wp2;go_loopg [4,12] k (fun kq v4 v12 w'=>∃(x4_1:List (S63)) (x12_1:Int),v12 = .int .i64 x12_1∧Aside0 (drop_.l0 kq a1 x4_1 l0 (l0.length:Int) x12_1=some r)∧Aside0 (kq≤k)∧Aside0 (Kd.R k63 63 w' w.heap.size (fun _=>True) v4 x4_1)∧Aside0 (Below w.heap.size w w'))
 case atStart=>exact⟨(([]:List (S63))),(0),mE,H',⟨Nat.le_refl _⟩,⟨by first|exact Kd.R_nil _ _ _ _ _|exact Kd.N_nil _ _ _ _ _|exact Kd.V_nil _ _ _ _ _|exact Kd.Q_nil _ _ _ _ _|exact Kd.S_nil _ _ _ _ _⟩,⟨(mH HB.out)⟩⟩
 case round=>
  clear H'
  try clear hczb_1
  try clear hfzb_1
  try clear c1
  try clear p2
  obtain⟨x4_1,x12_1,rfl,HA,HK1,HO_4,HB⟩:=hrel;cases gk with
  |zero=>exact absurd HA.out (by simp[drop_.l0])
  |succ k1=>
   have H:=HA.out;clear HA;simp only[drop_.l0]at H;by_cases c3:x12_1<(l0.length:Int)
   ·rw[if_pos c3]at H;have c3b0:=decide_eq_true c3;clear c3;by_cases c4:0≤x12_1
    ·rw[if_pos c4]at H;have c4b0:=decide_eq_true c4;clear c4;by_cases c5:x12_1<(l0.length:Int)
     ·rw[if_pos c5]at H;have c5b0:=decide_eq_true c5;clear c5;by_cases c6:((rd_T63 l0 x12_1).f0).toList=a1.toList
      ·rw[if_pos c6]at H;have c6b0:(((rd_T63 l0 x12_1).f0).toList == a1.toList)=true:=beq_iff_eq.mpr c6;have c6b1:(((rd_T63 l0 x12_1).f0).toList != a1.toList)=false:=bne_eq_false_iff_eq.mpr c6;clear c6;have H':=mS H;clear H;have p383:0≤(x12_1:Int):=mD;have q383:x12_1<(l0.length:Int):=mD;obtain⟨ad383,e383,hx383_0,hx383_1⟩:=at_T63 HR0.out x12_1 p383 q383;cases e383
       replace hx383_0:=mX HB.out hx383_0;replace hx383_1:=mX HB.out hx383_1;replace p383:=eq_true p383;replace q383:=eq_true q383;go_wp2_with (first|((with_reducible refine gate_dst (N:=6) rfl ?_);refine mBx 6 #[.string (⟨#[]⟩:ByteArray),.int .i64 0] 63 ?_;intro gb384 hg w7 hbox hb;replace HO_4:=mS (Kd.R_below (Kd.R_elderB (mR HO_4.out) gb384 (Nat.le_of_eq hg.symm)) hb);have BK384:=mS (hbox);have GW384:=mG hg (mH HB.out);have GE384:=mG hg (mH HB.out);replace HB:=mS (below_step (mH HB.out) hb);clear hb hbox hg;obtain⟨hcz8_0,hcz8_1,hfz8_0,hfz8_1⟩:=mZ2 BK384.out));go_roundg k1
       case measure=>have:=HK1.out;omega
       case rel=>exact⟨(x4_1),(wrap64 (x12_1+1)),mE,H',⟨by have:=HK1.out;omega⟩,⟨by refine mR ?_;exact Kd.R_mono (mRf2 (Kd.R_mono HO_4.out (fun k_ hk=>(⟨hk,hk.2⟩:_∧k_≠gb384)))) (fun _ hk=>trivial)⟩,⟨(mH1 HB.out GE384.out)⟩⟩
      ·rw[if_neg c6]at H;have c6b0:(((rd_T63 l0 x12_1).f0).toList == a1.toList)=false:=beq_eq_false_iff_ne.mpr c6;have c6b1:(((rd_T63 l0 x12_1).f0).toList != a1.toList)=true:=bne_iff_ne.mpr c6;by_cases c9:x4_1.length<5864062014805
       ·rw[if_pos c9]at H;have LMc9:=mS c9;clear c9;obtain⟨y385,hy385⟩:∃y_:List (S63),y_=(x4_1++[(⟨(rd_T63 l0 x12_1).f0,(rd_T63 l0 x12_1).f1⟩:S63)]):=⟨_,rfl⟩;replace H:(drop_.l0 k1 a1 y385 l0 (l0.length:Int) (wrap64 (x12_1+1)))=some r:=by first|(rw[hy385];with_reducible exact H)|(have H2_:=(Option.bind_some _ _).symm.trans H;rw[hy385];with_reducible exact H2_)|(have H2_:=(Option.bind_some _ _).symm.trans H;with_reducible exact H2_)|with_reducible exact H|(rw[hy385];exact H)|exact H
        have Ny385:=mS hy385;clear hy385;have H':=mS H;clear H;have p383:0≤(x12_1:Int):=mD;have q383:x12_1<(l0.length:Int):=mD;obtain⟨ad383,e383,hx383_0,hx383_1⟩:=at_T63 HR0.out x12_1 p383 q383;cases e383
        replace hx383_0:=mX HB.out hx383_0;replace hx383_1:=mX HB.out hx383_1;replace p383:=eq_true p383;replace q383:=eq_true q383;go_wp2_with (first|((with_reducible refine gate_dst (N:=6) rfl ?_);refine mBx 6 #[.string (⟨#[]⟩:ByteArray),.int .i64 0] 63 ?_;intro gb384 hg w10 hbox hb;replace HO_4:=mS (Kd.R_below (Kd.R_elderB (mR HO_4.out) gb384 (Nat.le_of_eq hg.symm)) hb);have BK384:=mS (hbox);have GW384:=mG hg (mH HB.out);have GE384:=mG hg (mH HB.out);replace HB:=mS (below_step (mH HB.out) hb);clear hb hbox hg;obtain⟨hcz11_0,hcz11_1,hfz11_0,hfz11_1⟩:=mZ2 BK384.out)|((with_reducible refine gate_builtin (b:=.append) (xs:=#[.tmp 20,.tmp 22]) rfl ?_);at_builtin;refine Kd.R_append k63 (w0:=w) w.heap.size rfl (.tmp 20) (.tmp 22) 28 63 (.agg #[(.string ⟨#[]⟩),(.int .i64 0)]) 24 rfl Try.underlying28 info63 rfl (by decide) (by omega) u4 x4_1 (⟨(rd_T63 l0 x12_1).f0,(rd_T63 l0 x12_1).f1⟩:S63) [.string ((rd_T63 l0 x12_1).f0),.int .i64 ((rd_T63 l0 x12_1).f1)] (fun k_=>k_≠gb384) (fun _=>False) rfl (by first|(go_simp;done)|(go_simp;rfl)) ?aP (fun _ hk=>hk.elim) ?aF ?aO ?aB ?aS ?aL ?_;(case aP=>exact k63_mkM _ _ _ (⟨(rd_T63 l0 x12_1).f0,(rd_T63 l0 x12_1).f1⟩:S63));(case aB=>exact(mH1 HB.out GE384.out));(case aF=>exact(fun k_ hk=>Kd.freshB (g:=gb384) (o:=.cells #[.string ((rd_T63 l0 x12_1).f0),.int .i64 ((rd_T63 l0 x12_1).f1)] 63 (0,0)) (by refine mK ?_;refine blk_put (cs:=#[.string ((rd_T63 l0 x12_1).f0),.int .i64 0]) ?_ 1 _ rfl;refine mK ?_;refine blk_put (cs:=#[.string (⟨#[]⟩:ByteArray),.int .i64 0]) ?_ 0 _ rfl;refine mK ?_;exact BK384.out) k_ hk));(case aO=>exact(by refine mR ?_;exact Kd.R_mono (mRf2 (Kd.R_mono HO_4.out (fun k_ hk=>(⟨hk,hk.2⟩:_∧k_≠gb384)))) (fun _ hk=>hk.1.2)));(case aS=>exact(below_size (mH1 HB.out GE384.out)));(case aL=>have:=LMc9.out;omega);intro v386 w12 ho hb hg hat;rw[←Ny385.out]at ho;replace BK384:=mS (blk_grown (g:=gb384) (o:=.cells #[.string ((rd_T63 l0 x12_1).f0),.int .i64 ((rd_T63 l0 x12_1).f1)] 63 (0,0)) (by refine mK ?_;refine blk_put (cs:=#[.string ((rd_T63 l0 x12_1).f0),.int .i64 0]) ?_ 1 _ rfl;refine mK ?_;refine blk_put (cs:=#[.string (⟨#[]⟩:ByteArray),.int .i64 0]) ?_ 0 _ rfl;refine mK ?_;exact BK384.out) hg (Kd.R_away HO_4.out (fun _ hk=>hk.2)));replace HB:=mS (hb);have HO387:=mS (ho);clear HO_4;clear ho hb hg hat));go_roundg k1
        case measure=>have:=HK1.out;omega
        case rel=>exact⟨(y385),(wrap64 (x12_1+1)),mE,H',⟨by have:=HK1.out;omega⟩,⟨by refine mR ?_;exact Kd.R_mono HO387.out (fun _ hk=>trivial)⟩,⟨(mH1 HB.out GE384.out)⟩⟩
       ·rw[if_neg c9]at H;exact absurd H (by simp)
     ·rw[if_neg c5]at H;exact absurd H (by simp)
    ·rw[if_neg c4]at H;exact absurd H (by simp)
   ·rw[if_neg c3]at H;have c3b0:=decide_eq_false c3;clear c3;obtain rfl:=Option.some.inj H;have BKe:=mS ((HB.out.block gb (blk_lt HBK.out)).trans HBK.out);have hcze_1:wr.cell? ⟨gb,1,none⟩=some (.slice A0 l0.length c0):=(blk_cell BKe.out 1).trans rfl;have hfze_1:=blk_frozen BKe.out 1;obtain⟨Aoe,coe,eoe⟩:=Kd.R_slice HO_4.out;subst eoe;go_wp2
    first|go_end0|((try simp only[Exit.inBlock,Exit.then]);refine bodyPost_ret (results_none rfl _ _ _) rfl ?_)
    first|exact⟨_,_,rfl,rfl,mR HO_4.out,(mH HB.out)⟩|exact⟨rfl,_,_,rfl,mR HO_4.out,(mH HB.out)⟩
end Go.Proofs.Ytgpkdbnikcghgaa.MD
