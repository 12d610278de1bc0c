-- Written by mp.py, this session's own printer (wip/mp.py).
import Derived.Test.YtecjamgajlpfdaaVMShort
import Derived.Test.YtecjamgajlpfdaaMFnExactTablePairsx0
import Derived.Test.YtecjamgajlpfdaaMFnExactTablePairsx1
import Derived.Test.YtecjamgajlpfdaaMFnExactTablePairsx9
import Derived.Test.YtecjamgajlpfdaaMFnExactTablePairsx17
import Derived.Test.YtecjamgajlpfdaaMFnExactTablePairsx18
import Derived.Test.YtecjamgajlpfdaaMFnExactTablePairsx19
namespace Go.Proofs.Ytecjamgajlpfdaa.MFnExactTablePairs
open Go.RowKit Go.Proofs.YtecjamgajlpfdaaW.PrintWords Go.Proofs.YtecjamgajlpfdaaW.PrintLast Go.Proofs.YtecjamgajlpfdaaW.PrintMore Go.Proofs.Ytecjamgajlpfdaa.MWords
attribute [local go_sem] max2_int min2_int max_two min_two max_three min_three max_four min_four
set_option linter.unusedVariables false
set_option linter.unusedSimpArgs false
mutual
def laws_FnExactTablePairs.j0:Nat→List Int→List (S87)→Bool→List Int→List (S87)→Bool→Bool→Option (Bool)
 |0,_,_,_,_,_,_,_=>none
 |k+1,x0,x3,x4,x5,x6,x7,x37=>if x37=true then (some false) else ((laws_toByteS.f k x0).bind fun t630=>((laws_eqByteS.f k x5 t630).bind fun t633=>(if t633=true then ((laws_markByteS.f k x5 1).bind fun bt634=>(if bt634.1<0 then (laws_FnExactTablePairs.j1 k x0 x3 x4 x6 true) else ((laws_eqPairS.f k x6 x3).bind fun t636=>(if t636=true then (laws_FnExactTablePairs.j1 k x0 x3 x4 x6 (x7 != x4)) else (laws_FnExactTablePairs.j1 k x0 x3 x4 x6 true))))) else (some false))))
def laws_FnExactTablePairs.j1:Nat→List Int→List (S87)→Bool→List (S87)→Bool→Option (Bool)
 |0,_,_,_,_,_=>none
 |k+1,x0,x3,x4,x6,x58=>if x58=true then (some false) else ((laws_markPairS.f k x6 1).bind fun bt637=>((laws_heldPairS.f k bt637.2 1).bind fun t639=>(if t639<0 then (some false) else (if t639=bt637.1 then ((laws_toByteS.f k x0).bind fun t640=>((impl_TablePairs.f k t640).bind fun bt643=>((laws_eqPairS.f k bt643.1 x3).bind fun t647=>(if t647=true then (laws_FnExactTablePairs.j2 k bt637.2 bt637.1 (bt643.2 != x4)) else (laws_FnExactTablePairs.j2 k bt637.2 bt637.1 true))))) else (some false)))))
def laws_FnExactTablePairs.j2:Nat→List (S87)→Int→Bool→Option (Bool)
 |0,_,_,_=>none
 |k+1,x6,x9,x84=>if x84=true then (some false) else ((laws_heldPairS.f k x6 1).bind fun t648=>(if t648<0 then (some false) else (if t648=x9 then (some true) else (some false))))
end
def laws_FnExactTablePairs.f (k:Nat) (l0:List Int):Option (Bool):=if (l0.length:Int)>1048576 then (some true) else ((laws_toByteS.f k l0).bind fun t615=>((spec_TablePairs.f k t615).bind fun bt618=>((laws_toByteS.f k l0).bind fun t622=>((impl_TablePairs.f k t622).bind fun bt625=>((laws_eqPairS.f k bt625.1 bt618.1).bind fun t629=>(if t629=true then (laws_FnExactTablePairs.j0 k l0 bt618.1 bt618.2 t622 bt625.1 bt625.2 (bt625.2 != bt618.2)) else (laws_FnExactTablePairs.j0 k l0 bt618.1 bt618.2 t622 bt625.1 bt625.2 true)))))))
theorem laws_FnExactTablePairs.mono_l:∀k,(∀y0 y1 y2 y3 y4 y5 y6,LeO (laws_FnExactTablePairs.j0 k y0 y1 y2 y3 y4 y5 y6) (laws_FnExactTablePairs.j0 (k+1) y0 y1 y2 y3 y4 y5 y6))∧(∀y0 y1 y2 y3 y4,LeO (laws_FnExactTablePairs.j1 k y0 y1 y2 y3 y4) (laws_FnExactTablePairs.j1 (k+1) y0 y1 y2 y3 y4))∧(∀y0 y1 y2,LeO (laws_FnExactTablePairs.j2 k y0 y1 y2) (laws_FnExactTablePairs.j2 (k+1) y0 y1 y2))
 |0=>⟨fun _ _ _ _ _ _ _ r h=>by simp[laws_FnExactTablePairs.j0]at h,fun _ _ _ _ _ r h=>by simp[laws_FnExactTablePairs.j1]at h,fun _ _ _ r h=>by simp[laws_FnExactTablePairs.j2]at h⟩
 |k+1=>by
  obtain⟨ih0,ih1,ih2⟩:=laws_FnExactTablePairs.mono_l k;refine⟨?_,?_,?_⟩
  ·intro y0 y1 y2 y3 y4 y5 y6;unfold laws_FnExactTablePairs.j0
   repeat' first
   |(with_reducible exact ih0 _ _ _ _ _ _ _)
   |(with_reducible exact ih1 _ _ _ _ _)
   |(with_reducible exact ih2 _ _ _)
   |(with_reducible exact impl_TablePairs.mono _ _)
   |(with_reducible exact laws_eqByteS.mono _ _ _)
   |(with_reducible exact laws_eqPairS.mono _ _ _)
   |(with_reducible exact laws_heldPairS.mono _ _ _)
   |(with_reducible exact laws_markByteS.mono _ _ _)
   |(with_reducible exact laws_markPairS.mono _ _ _)
   |(with_reducible exact laws_toByteS.mono _ _)
   |(with_reducible exact spec_TablePairs.mono _ _)
   |(with_reducible exact LeO.refl _)
   |(with_reducible exact LeO.none _)
   |(with_reducible refine LeO.ite ?_ ?_)
   |(with_reducible refine LeO.bind ?_ (fun _=>?_))
   |exact ih0 _ _ _ _ _ _ _
   |exact ih1 _ _ _ _ _
   |exact ih2 _ _ _
   |exact impl_TablePairs.mono _ _
   |exact laws_eqByteS.mono _ _ _
   |exact laws_eqPairS.mono _ _ _
   |exact laws_heldPairS.mono _ _ _
   |exact laws_markByteS.mono _ _ _
   |exact laws_markPairS.mono _ _ _
   |exact laws_toByteS.mono _ _
   |exact spec_TablePairs.mono _ _
   |exact LeO.none _
   |refine LeO.ite ?_ ?_
   |refine LeO.bind ?_ (fun _=>?_)
  ·intro y0 y1 y2 y3 y4;unfold laws_FnExactTablePairs.j1
   repeat' first
   |(with_reducible exact ih0 _ _ _ _ _ _ _)
   |(with_reducible exact ih1 _ _ _ _ _)
   |(with_reducible exact ih2 _ _ _)
   |(with_reducible exact impl_TablePairs.mono _ _)
   |(with_reducible exact laws_eqByteS.mono _ _ _)
   |(with_reducible exact laws_eqPairS.mono _ _ _)
   |(with_reducible exact laws_heldPairS.mono _ _ _)
   |(with_reducible exact laws_markByteS.mono _ _ _)
   |(with_reducible exact laws_markPairS.mono _ _ _)
   |(with_reducible exact laws_toByteS.mono _ _)
   |(with_reducible exact spec_TablePairs.mono _ _)
   |(with_reducible exact LeO.refl _)
   |(with_reducible exact LeO.none _)
   |(with_reducible refine LeO.ite ?_ ?_)
   |(with_reducible refine LeO.bind ?_ (fun _=>?_))
   |exact ih0 _ _ _ _ _ _ _
   |exact ih1 _ _ _ _ _
   |exact ih2 _ _ _
   |exact impl_TablePairs.mono _ _
   |exact laws_eqByteS.mono _ _ _
   |exact laws_eqPairS.mono _ _ _
   |exact laws_heldPairS.mono _ _ _
   |exact laws_markByteS.mono _ _ _
   |exact laws_markPairS.mono _ _ _
   |exact laws_toByteS.mono _ _
   |exact spec_TablePairs.mono _ _
   |exact LeO.none _
   |refine LeO.ite ?_ ?_
   |refine LeO.bind ?_ (fun _=>?_)
  ·intro y0 y1 y2;unfold laws_FnExactTablePairs.j2
   repeat' first
   |(with_reducible exact ih0 _ _ _ _ _ _ _)
   |(with_reducible exact ih1 _ _ _ _ _)
   |(with_reducible exact ih2 _ _ _)
   |(with_reducible exact impl_TablePairs.mono _ _)
   |(with_reducible exact laws_eqByteS.mono _ _ _)
   |(with_reducible exact laws_eqPairS.mono _ _ _)
   |(with_reducible exact laws_heldPairS.mono _ _ _)
   |(with_reducible exact laws_markByteS.mono _ _ _)
   |(with_reducible exact laws_markPairS.mono _ _ _)
   |(with_reducible exact laws_toByteS.mono _ _)
   |(with_reducible exact spec_TablePairs.mono _ _)
   |(with_reducible exact LeO.refl _)
   |(with_reducible exact LeO.none _)
   |(with_reducible refine LeO.ite ?_ ?_)
   |(with_reducible refine LeO.bind ?_ (fun _=>?_))
   |exact ih0 _ _ _ _ _ _ _
   |exact ih1 _ _ _ _ _
   |exact ih2 _ _ _
   |exact impl_TablePairs.mono _ _
   |exact laws_eqByteS.mono _ _ _
   |exact laws_eqPairS.mono _ _ _
   |exact laws_heldPairS.mono _ _ _
   |exact laws_markByteS.mono _ _ _
   |exact laws_markPairS.mono _ _ _
   |exact laws_toByteS.mono _ _
   |exact spec_TablePairs.mono _ _
   |exact LeO.none _
   |refine LeO.ite ?_ ?_
   |refine LeO.bind ?_ (fun _=>?_)
theorem laws_FnExactTablePairs.mono:∀a0 k,LeO (laws_FnExactTablePairs.f k a0) (laws_FnExactTablePairs.f (k+1) a0):=by
 intro a0 k;obtain⟨ih0,ih1,ih2⟩:=laws_FnExactTablePairs.mono_l k;unfold laws_FnExactTablePairs.f
 repeat' first
  |(with_reducible exact ih0 _ _ _ _ _ _ _)
  |(with_reducible exact ih1 _ _ _ _ _)
  |(with_reducible exact ih2 _ _ _)
  |(with_reducible exact impl_TablePairs.mono _ _)
  |(with_reducible exact laws_eqByteS.mono _ _ _)
  |(with_reducible exact laws_eqPairS.mono _ _ _)
  |(with_reducible exact laws_heldPairS.mono _ _ _)
  |(with_reducible exact laws_markByteS.mono _ _ _)
  |(with_reducible exact laws_markPairS.mono _ _ _)
  |(with_reducible exact laws_toByteS.mono _ _)
  |(with_reducible exact spec_TablePairs.mono _ _)
  |(with_reducible exact LeO.refl _)
  |(with_reducible exact LeO.none _)
  |(with_reducible refine LeO.ite ?_ ?_)
  |(with_reducible refine LeO.bind ?_ (fun _=>?_))
  |exact ih0 _ _ _ _ _ _ _
  |exact ih1 _ _ _ _ _
  |exact ih2 _ _ _
  |exact impl_TablePairs.mono _ _
  |exact laws_eqByteS.mono _ _ _
  |exact laws_eqPairS.mono _ _ _
  |exact laws_heldPairS.mono _ _ _
  |exact laws_markByteS.mono _ _ _
  |exact laws_markPairS.mono _ _ _
  |exact laws_toByteS.mono _ _
  |exact spec_TablePairs.mono _ _
  |exact LeO.none _
  |refine LeO.ite ?_ ?_
  |refine LeO.bind ?_ (fun _=>?_)
set_option maxHeartbeats 8000000 in
set_option maxRecDepth 100000 in
theorem laws_FnExactTablePairs.calls (k:Nat) (A0:Option Addr) (c0:Nat) (l0:List Int) (r:Bool) (w:World) (hr0:Kd.C (Kd.int .u8) w A0 l0.length l0) (hc0:l0.length≤c0) (ht_:r=true) (h:laws_FnExactTablePairs.f k l0=some r) :
 Calls Try.prog 5 #[.slice A0 l0.length c0] w fun e w'=>e = .returned (.bool r)∧Below w.heap.size w w':=by
 have HR0:=mS hr0;have HC0:=mS hc0;clear hr0 hc0;have HB:=mS (Below.refl w.heap.size w);have H:(if (l0.length:Int)>1048576 then (some true) else ((laws_toByteS.f k l0).bind fun t615=>((spec_TablePairs.f k t615).bind fun bt618=>((laws_toByteS.f k l0).bind fun t622=>((impl_TablePairs.f k t622).bind fun bt625=>((laws_eqPairS.f k bt625.1 bt618.1).bind fun t629=>(if t629=true then (laws_FnExactTablePairs.j0 k l0 bt618.1 bt618.2 t622 bt625.1 bt625.2 (bt625.2 != bt618.2)) else (laws_FnExactTablePairs.j0 k l0 bt618.1 bt618.2 t622 bt625.1 bt625.2 true))))))))=some r:=h;clear h;by_cases c2:(l0.length:Int)>1048576
 ·rw[if_pos c2]at H;have c2b0:decide (1048576<(l0.length:Int))=true:=decide_eq_true c2;have c2b1:decide (1048576<l0.length)=true:=decide_eq_true (by omega);clear c2;obtain rfl:=Option.some.inj H;go_enter Try.func5,Try.ntmps5;go_wp2;go_ret;exact⟨mEw,(mH HB.out)⟩
 ·rw[if_neg c2]at H;have c2b0:decide (1048576<(l0.length:Int))=false:=decide_eq_false c2;have c2b1:decide (1048576<l0.length)=false:=decide_eq_false (by omega);clear c2;replace H:=Option.bind_eq_some_iff.mp H;obtain⟨t615,A30,H⟩:=H;replace H:((spec_TablePairs.f k t615).bind fun bt618=>((laws_toByteS.f k l0).bind fun t622=>((impl_TablePairs.f k t622).bind fun bt625=>((laws_eqPairS.f k bt625.1 bt618.1).bind fun t629=>(if t629=true then (laws_FnExactTablePairs.j0 k l0 bt618.1 bt618.2 t622 bt625.1 bt625.2 (bt625.2 != bt618.2)) else (laws_FnExactTablePairs.j0 k l0 bt618.1 bt618.2 t622 bt625.1 bt625.2 true))))))=some r:=H;have A3:=mS A30;clear A30;replace H:=Option.bind_eq_some_iff.mp H;obtain⟨⟨t618,t619⟩,A40,H⟩:=H;replace H:((laws_toByteS.f k l0).bind fun t622=>((impl_TablePairs.f k t622).bind fun bt625=>((laws_eqPairS.f k bt625.1 t618).bind fun t629=>(if t629=true then (laws_FnExactTablePairs.j0 k l0 t618 t619 t622 bt625.1 bt625.2 (bt625.2 != t619)) else (laws_FnExactTablePairs.j0 k l0 t618 t619 t622 bt625.1 bt625.2 true)))))=some r:=H;have A4:=mS A40;clear A40;replace H:=Option.bind_eq_some_iff.mp H;obtain⟨t622,A50,H⟩:=H;replace H:((impl_TablePairs.f k t622).bind fun bt625=>((laws_eqPairS.f k bt625.1 t618).bind fun t629=>(if t629=true then (laws_FnExactTablePairs.j0 k l0 t618 t619 t622 bt625.1 bt625.2 (bt625.2 != t619)) else (laws_FnExactTablePairs.j0 k l0 t618 t619 t622 bt625.1 bt625.2 true))))=some r:=H;have A5:=mS A50;clear A50;replace H:=Option.bind_eq_some_iff.mp H;obtain⟨⟨t625,t626⟩,A60,H⟩:=H;replace H:((laws_eqPairS.f k t625 t618).bind fun t629=>(if t629=true then (laws_FnExactTablePairs.j0 k l0 t618 t619 t622 t625 t626 (t626 != t619)) else (laws_FnExactTablePairs.j0 k l0 t618 t619 t622 t625 t626 true)))=some r:=H;have A6:=mS A60;clear A60;have HC7:=mS H;clear H;go_enter Try.func5,Try.ntmps5;go_upto_region 6 with (first|((with_reducible refine gate_callee (f:=8) rfl ?_);refine mGo 18 Try.func8 #[.slice A0 l0.length c0] ?_;(with_reducible refine(laws_toByteS.calls k _ _ l0 t615 _ ?side1 ?side2 A3.out).mono ?_);(case side1=>exact mC HR0.out);(case side2=>exact HC0.out);rintro e w8 ⟨v616,rfl,ho0,hb⟩;refine⟨_,rfl,?_⟩;have HO617:=mS (Kd.R_lower ho0 (below_size (mH HB.out)));replace HB:=mS (below_step (mH HB.out) hb);(try clear hb);(try clear ho0);obtain⟨Ao9,co9,eo9⟩:=Kd.R_slice HO617.out;subst eo9)|((with_reducible refine gate_callee (f:=18) rfl ?_);refine mGo 19 Try.func18 #[.slice Ao9 t615.length co9] ?_;(with_reducible refine(spec_TablePairs.calls k _ _ t615 t618 t619 _ ?side1 ?side2 A4.out).mono ?_);(case side1=>exact mC (Kd.R_reads' HO617.out).2.2);(case side2=>exact(Kd.R_reads' HO617.out).2.1);rintro e w10 ⟨v620,rfl,ho0,hb⟩;refine⟨_,rfl,?_⟩;replace HO617:=mS (Kd.R_below (mR HO617.out) hb);have HO621:=mS (Kd.R_lower ho0 (below_size (mH HB.out)));replace HB:=mS (below_step (mH HB.out) hb);(try clear hb);(try clear ho0))|((with_reducible refine gate_callee (f:=8) rfl ?_);refine mGo 23 Try.func8 #[.slice A0 l0.length c0] ?_;(with_reducible refine(laws_toByteS.calls k _ _ l0 t622 _ ?side1 ?side2 A5.out).mono ?_);(case side1=>exact mC (Kd.C_below HR0.out HB.out));(case side2=>exact HC0.out);rintro e w11 ⟨v623,rfl,ho0,hb⟩;refine⟨_,rfl,?_⟩;replace HO621:=mS (Kd.R_below (mR HO621.out) hb);have HO624:=mS (Kd.R_lower (Kd.R_new' ho0 (Kd.R_lt (mR HO617.out))) (below_size (mH HB.out)));replace HO617:=mS (Kd.R_elder' (mR HO617.out) (Kd.R_base ho0) hb);replace HB:=mS (below_step (mH HB.out) hb);(try clear hb);(try clear ho0);obtain⟨Ao12,co12,eo12⟩:=Kd.R_slice HO624.out;subst eo12)|((with_reducible refine gate_callee (f:=19) rfl ?_);refine mGo 26 Try.func19 #[.slice Ao12 t622.length co12] ?_;(with_reducible refine(impl_TablePairs.calls k _ _ t622 t625 t626 _ ?side1 ?side2 A6.out).mono ?_);(case side1=>exact mC (Kd.R_reads' HO624.out).2.2);(case side2=>exact(Kd.R_reads' HO624.out).2.1);rintro e w13 ⟨v627,rfl,ho0,hb⟩;refine⟨_,rfl,?_⟩;replace HO617:=mS (Kd.R_below (mR HO617.out) hb);replace HO624:=mS (Kd.R_below (mR HO624.out) hb);have HO628:=mS (Kd.R_lower (Kd.R_new' ho0 (Kd.R_lt (mR HO621.out))) (below_size (mH HB.out)));replace HO621:=mS (Kd.R_elder' (mR HO621.out) (Kd.R_base ho0) hb);replace HB:=mS (below_step (mH HB.out) hb);(try clear hb);(try clear ho0)))
  (try simp only[Act.put,zA,zB,zC])
  go_cut [37] (fun v37 wc=>∃(kq:Nat) (x37_6:Bool),v37 = .bool x37_6∧Aside0 (laws_FnExactTablePairs.j0 kq l0 t618 t619 t622 t625 t626 x37_6=some r)∧Aside0 (kq≤k)∧Aside0 (Kd.R k87 87 wc w.heap.size (fun k_=>some k_≠(v627:Value).ownBlock) v620 t618)∧Aside0 (Kd.R (Kd.int .u8) 5 wc w.heap.size (fun _=>True) (.slice Ao12 t622.length co12) t622)∧Aside0 (Kd.R k87 87 wc w.heap.size (fun k_=>some k_≠(v620:Value).ownBlock) v627 t625)∧Aside0 (Below w.heap.size w wc))
  case first=>
   have H:=HC7.out;clear HC7;replace H:=Option.bind_eq_some_iff.mp H;obtain⟨t629,A140,H⟩:=H;replace H:(if t629=true then (laws_FnExactTablePairs.j0 k l0 t618 t619 t622 t625 t626 (t626 != t619)) else (laws_FnExactTablePairs.j0 k l0 t618 t619 t622 t625 t626 true))=some r:=H;have A14:=mS A140;clear A140;by_cases c15:t629=true
   ·subst c15;have H1:=H;rw[if_pos rfl]at H1;clear H;have H:=H1;clear H1;have H':=mS H;clear H;obtain⟨Ao16,co16,eo16⟩:=Kd.R_slice HO628.out;subst eo16;obtain⟨Ao17,co17,eo17⟩:=Kd.R_slice HO621.out;subst eo17;go_wp2_with (first|((with_reducible refine gate_callee (f:=20) rfl ?_);refine mGo 31 Try.func20 #[.slice Ao16 t625.length co16,.slice Ao17 t618.length co17] ?_;(with_reducible refine(laws_eqPairS.calls k _ _ t625 _ _ t618 true _ ?side1 ?side2 ?side3 ?side4 A14.out).mono ?_);(case side1=>exact mC (Kd.R_reads' HO628.out).2.2);(case side2=>exact(Kd.R_reads' HO628.out).2.1);(case side3=>exact mC (Kd.R_reads' HO621.out).2.2);(case side4=>exact(Kd.R_reads' HO621.out).2.1);rintro e w18 ⟨rfl,hb⟩;refine⟨_,rfl,?_⟩;replace HO617:=mS (Kd.R_below (mR HO617.out) hb);replace HO621:=mS (Kd.R_below (mR HO621.out) hb);replace HO624:=mS (Kd.R_below (mR HO624.out) hb);replace HO628:=mS (Kd.R_below (mR HO628.out) hb);replace HB:=mS (below_step (mH HB.out) hb);(try clear hb)));go_meet
    case rel=>exact⟨_,((t626 != t619)),mE,H',⟨by first|omega|exact Nat.le_refl _⟩,⟨by refine mR ?_;exact Kd.R_mono HO621.out (fun _ hk=>hk.2)⟩,⟨by refine mR ?_;exact Kd.R_mono HO624.out (fun _ hk=>trivial)⟩,⟨by refine mR ?_;exact Kd.R_mono HO628.out (fun _ hk=>hk.2)⟩,⟨(mH HB.out)⟩⟩
   ·replace c15:=Bool.eq_false_iff.mpr c15;subst c15;have H1:=H;rw[if_neg (show ¬(false=true) by decide)]at H1;clear H;have H:=H1;clear H1;have H':=mS H;clear H;obtain⟨Ao19,co19,eo19⟩:=Kd.R_slice HO628.out;subst eo19;obtain⟨Ao20,co20,eo20⟩:=Kd.R_slice HO621.out;subst eo20;go_wp2_with (first|((with_reducible refine gate_callee (f:=20) rfl ?_);refine mGo 31 Try.func20 #[.slice Ao19 t625.length co19,.slice Ao20 t618.length co20] ?_;(with_reducible refine(laws_eqPairS.calls k _ _ t625 _ _ t618 false _ ?side1 ?side2 ?side3 ?side4 A14.out).mono ?_);(case side1=>exact mC (Kd.R_reads' HO628.out).2.2);(case side2=>exact(Kd.R_reads' HO628.out).2.1);(case side3=>exact mC (Kd.R_reads' HO621.out).2.2);(case side4=>exact(Kd.R_reads' HO621.out).2.1);rintro e w21 ⟨rfl,hb⟩;refine⟨_,rfl,?_⟩;replace HO617:=mS (Kd.R_below (mR HO617.out) hb);replace HO621:=mS (Kd.R_below (mR HO621.out) hb);replace HO624:=mS (Kd.R_below (mR HO624.out) hb);replace HO628:=mS (Kd.R_below (mR HO628.out) hb);replace HB:=mS (below_step (mH HB.out) hb);(try clear hb)));go_meet
    case rel=>exact⟨_,(true),mE,H',⟨by first|omega|exact Nat.le_refl _⟩,⟨by refine mR ?_;exact Kd.R_mono HO621.out (fun _ hk=>hk.2)⟩,⟨by refine mR ?_;exact Kd.R_mono HO624.out (fun _ hk=>trivial)⟩,⟨by refine mR ?_;exact Kd.R_mono HO628.out (fun _ hk=>hk.2)⟩,⟨(mH HB.out)⟩⟩
  case rest=>
   clear HC7
   try clear c1
   try clear c2
   try clear c2b0
   try clear c2b1
   try clear p2
   try clear c5
   try clear c8
   try clear c15
   try clear c18
   try clear c19
   try clear c20
   obtain⟨kq,x37_6,rfl,HA,HJ6,HO_3,HO_5,HO_6,HB⟩:=hcut;cases kq with
   |zero=>exact absurd HA.out (by simp[laws_FnExactTablePairs.j0])
   |succ kj6=>
    have H:=HA.out;clear HA;simp only[laws_FnExactTablePairs.j0]at H;by_cases c22:x37_6=true
    ·subst c22;have H1:=H;rw[if_pos rfl]at H1;clear H;have H:=H1;clear H1;exact absurd ((Option.some.inj H).trans ht_) (by decide)
    ·replace c22:=Bool.eq_false_iff.mpr c22;subst c22;have H1:=H;rw[if_neg (show ¬(false=true) by decide)]at H1;clear H;have H:=H1;clear H1;replace H:=Option.bind_eq_some_iff.mp H;obtain⟨t630,A230,H⟩:=H;replace H:((laws_eqByteS.f kj6 t622 t630).bind fun t633=>(if t633=true then ((laws_markByteS.f kj6 t622 1).bind fun bt634=>(if bt634.1<0 then (laws_FnExactTablePairs.j1 kj6 l0 t618 t619 t625 true) else ((laws_eqPairS.f kj6 t625 t618).bind fun t636=>(if t636=true then (laws_FnExactTablePairs.j1 kj6 l0 t618 t619 t625 (t626 != t619)) else (laws_FnExactTablePairs.j1 kj6 l0 t618 t619 t625 true))))) else (some false)))=some r:=H;have A23:=mS A230;clear A230;replace H:=Option.bind_eq_some_iff.mp H;obtain⟨t633,A240,H⟩:=H;replace H:(if t633=true then ((laws_markByteS.f kj6 t622 1).bind fun bt634=>(if bt634.1<0 then (laws_FnExactTablePairs.j1 kj6 l0 t618 t619 t625 true) else ((laws_eqPairS.f kj6 t625 t618).bind fun t636=>(if t636=true then (laws_FnExactTablePairs.j1 kj6 l0 t618 t619 t625 (t626 != t619)) else (laws_FnExactTablePairs.j1 kj6 l0 t618 t619 t625 true))))) else (some false))=some r:=H;have A24:=mS A240;clear A240;by_cases c25:t633=true
     ·subst c25;have H1:=H;rw[if_pos rfl]at H1;clear H;have H:=H1;clear H1;replace H:=Option.bind_eq_some_iff.mp H;obtain⟨⟨t634,t635⟩,A260,H⟩:=H;replace H:(if t634<0 then (laws_FnExactTablePairs.j1 kj6 l0 t618 t619 t625 true) else ((laws_eqPairS.f kj6 t625 t618).bind fun t636=>(if t636=true then (laws_FnExactTablePairs.j1 kj6 l0 t618 t619 t625 (t626 != t619)) else (laws_FnExactTablePairs.j1 kj6 l0 t618 t619 t625 true))))=some r:=H;have A26:=mS A260;clear A260;have HC27:=mS H;clear H;go_upto_region 12 with (first|((with_reducible refine gate_callee (f:=8) rfl ?_);refine mGo 40 Try.func8 #[.slice A0 l0.length c0] ?_;(with_reducible refine(laws_toByteS.calls kj6 _ _ l0 t630 _ ?side1 ?side2 A23.out).mono ?_);(case side1=>exact mC (Kd.C_below HR0.out HB.out));(case side2=>exact HC0.out);rintro e w28 ⟨v631,rfl,ho0,hb⟩;refine⟨_,rfl,?_⟩;replace HO_3:=mS (Kd.R_below (mR HO_3.out) hb);replace HO_6:=mS (Kd.R_below (mR HO_6.out) hb);have HO632:=mS (Kd.R_lower (Kd.R_new' ho0 (Kd.R_lt (mR HO_5.out))) (below_size (mH HB.out)));replace HO_5:=mS (Kd.R_elder' (mR HO_5.out) (Kd.R_base ho0) hb);replace HB:=mS (below_step (mH HB.out) hb);(try clear hb);(try clear ho0);obtain⟨Ao29,co29,eo29⟩:=Kd.R_slice HO632.out;subst eo29)|((with_reducible refine gate_callee (f:=10) rfl ?_);refine mGo 41 Try.func10 #[.slice Ao12 t622.length co12,.slice Ao29 t630.length co29] ?_;(with_reducible refine(laws_eqByteS.calls kj6 _ _ t622 _ _ t630 true _ ?side1 ?side2 ?side3 ?side4 A24.out).mono ?_);(case side1=>exact mC (Kd.R_reads' HO_5.out).2.2);(case side2=>exact(Kd.R_reads' HO_5.out).2.1);(case side3=>exact mC (Kd.R_reads' HO632.out).2.2);(case side4=>exact(Kd.R_reads' HO632.out).2.1);rintro e w' ⟨rfl,⟨nd,rfl⟩⟩;refine⟨_,rfl,?_⟩)|((with_reducible refine gate_callee (f:=11) rfl ?_);refine mGo 45 Try.func11 #[.slice Ao12 t622.length co12,.int .i64 1] ?_;(with_reducible refine(laws_markByteS.calls kj6 (fun k_=>some k_=(.slice Ao12 t622.length co12:Value).ownBlock) (.slice Ao12 t622.length co12) t622 1 t634 t635 w _ ?side1 ?side2 A26.out).mono ?_);(case side1=>exact mH HB.out);(case side2=>exact Kd.R_tight rfl HO_5.out);rintro e w30 ⟨rfl,hy0,hb,hkp⟩;refine⟨_,rfl,?_⟩;replace HO_3:=mS (Kd.R_mono (ok':=fun k_=>some k_≠(v627:Value).ownBlock) (Kd.R_keptB ((Kd.R_apart' HO_3.out (Kd.R_typed HO_5.out) (by decide))) hkp (fun k_ hk_ hs_=>(hk_.2) hs_)) (fun k_ hk_=>hk_.1.1));replace HO_6:=mS (Kd.R_mono (ok':=fun k_=>some k_≠(v620:Value).ownBlock) (Kd.R_keptB ((Kd.R_apart' HO_6.out (Kd.R_typed HO_5.out) (by decide))) hkp (fun k_ hk_ hs_=>(hk_.2) hs_)) (fun k_ hk_=>hk_.1.1));replace HO_5:=mS (Kd.R_reok rfl hy0 (fun k_ e_=>HO_5.out.1 k_ e_));replace HO632:=mS (Kd.R_mono (ok':=fun k_=>some k_≠(.slice Ao12 t622.length co12:Value).ownBlock) (Kd.R_keptB (HO632.out) hkp (fun k_ hk_ hs_=>(hk_.2) hs_)) (fun k_ hk_=>hk_.1.2));replace HB:=mS (hb);(try clear hb);(try clear hkp);(try clear hy0)))
      (try simp only[Act.put,zA,zB,zC])
      go_cut [58] (fun v58 wc=>∃(kq:Nat) (x58_26:Bool),v58 = .bool x58_26∧Aside0 (laws_FnExactTablePairs.j1 kq l0 t618 t619 t625 x58_26=some r)∧Aside0 (kq≤kj6)∧Aside0 (Kd.R k87 87 wc w.heap.size (fun k_=>some k_≠(v627:Value).ownBlock) v620 t618)∧Aside0 (Kd.R k87 87 wc w.heap.size (fun k_=>some k_≠(v620:Value).ownBlock) v627 t625)∧Aside0 (Below w.heap.size w wc))
      case first=>
       have H:=HC27.out;clear HC27;by_cases c31:t634<0
       ·rw[if_pos c31]at H;have c31b0:=decide_eq_true c31;clear c31
        (first|rw[c31b0]|(simp only[i64_w,i32_w];rw[c31b0])|skip)
        have H':=mS H;clear H;go_wp2;go_meet
        case rel=>exact⟨_,(true),mE,H',⟨by have:=HJ6.out;first|omega|exact Nat.le_refl _⟩,⟨mR HO_3.out⟩,⟨mR HO_6.out⟩,⟨(mH HB.out)⟩⟩
       ·rw[if_neg c31]at H;have c31b0:=decide_eq_false c31;clear c31
        (first|rw[c31b0]|(simp only[i64_w,i32_w];rw[c31b0])|skip)
        replace H:=Option.bind_eq_some_iff.mp H;obtain⟨t636,A320,H⟩:=H;replace H:(if t636=true then (laws_FnExactTablePairs.j1 kj6 l0 t618 t619 t625 (t626 != t619)) else (laws_FnExactTablePairs.j1 kj6 l0 t618 t619 t625 true))=some r:=H;have A32:=mS A320;clear A320;by_cases c33:t636=true
        ·subst c33;have H1:=H;rw[if_pos rfl]at H1;clear H;have H:=H1;clear H1;have H':=mS H;clear H;obtain⟨Ao34,co34,eo34⟩:=Kd.R_slice HO_6.out;subst eo34;obtain⟨Ao35,co35,eo35⟩:=Kd.R_slice HO_3.out;subst eo35;go_wp2_with (first|(go_at_call 20;(with_reducible refine(laws_eqPairS.calls kj6 _ _ t625 _ _ t618 true _ ?side1 ?side2 ?side3 ?side4 A32.out).mono ?_);(case side1=>exact mC (Kd.R_reads' HO_6.out).2.2);(case side2=>exact(Kd.R_reads' HO_6.out).2.1);(case side3=>exact mC (Kd.R_reads' HO_3.out).2.2);(case side4=>exact(Kd.R_reads' HO_3.out).2.1);rintro e w36 ⟨rfl,hb⟩;replace HO_3:=mS (Kd.R_below (mR HO_3.out) hb);replace HO_5:=mS (Kd.R_below (mR HO_5.out) hb);replace HO_6:=mS (Kd.R_below (mR HO_6.out) hb);replace HO632:=mS (Kd.R_below (mR HO632.out) hb);replace HB:=mS (below_step (mH HB.out) hb);(try clear hb);(try clear hb2);(try clear hk);(try clear hi)));go_meet
         case rel=>exact⟨_,((t626 != t619)),mE,H',⟨by have:=HJ6.out;first|omega|exact Nat.le_refl _⟩,⟨mR HO_3.out⟩,⟨mR HO_6.out⟩,⟨(mH HB.out)⟩⟩
        ·replace c33:=Bool.eq_false_iff.mpr c33;subst c33;have H1:=H;rw[if_neg (show ¬(false=true) by decide)]at H1;clear H;have H:=H1;clear H1;have H':=mS H;clear H;obtain⟨Ao37,co37,eo37⟩:=Kd.R_slice HO_6.out;subst eo37;obtain⟨Ao38,co38,eo38⟩:=Kd.R_slice HO_3.out;subst eo38;go_wp2_with (first|(go_at_call 20;(with_reducible refine(laws_eqPairS.calls kj6 _ _ t625 _ _ t618 false _ ?side1 ?side2 ?side3 ?side4 A32.out).mono ?_);(case side1=>exact mC (Kd.R_reads' HO_6.out).2.2);(case side2=>exact(Kd.R_reads' HO_6.out).2.1);(case side3=>exact mC (Kd.R_reads' HO_3.out).2.2);(case side4=>exact(Kd.R_reads' HO_3.out).2.1);rintro e w39 ⟨rfl,hb⟩;replace HO_3:=mS (Kd.R_below (mR HO_3.out) hb);replace HO_5:=mS (Kd.R_below (mR HO_5.out) hb);replace HO_6:=mS (Kd.R_below (mR HO_6.out) hb);replace HO632:=mS (Kd.R_below (mR HO632.out) hb);replace HB:=mS (below_step (mH HB.out) hb);(try clear hb);(try clear hb2);(try clear hk);(try clear hi)));go_meet
         case rel=>exact⟨_,(true),mE,H',⟨by have:=HJ6.out;first|omega|exact Nat.le_refl _⟩,⟨mR HO_3.out⟩,⟨mR HO_6.out⟩,⟨(mH HB.out)⟩⟩
      case rest=>
       clear HC27
       try clear c1
       try clear c2
       try clear c2b0
       try clear c2b1
       try clear p2
       try clear c3
       try clear c5
       try clear c8
       try clear c10
       try clear c11
       try clear c15
       try clear c18
       try clear c19
       try clear c20
       try clear c22
       try clear c25
       try clear c31
       try clear c31b0
       try clear c33
       try clear p2
       obtain⟨kq,x58_26,rfl,HA,HJ26,HO_3,HO_6,HB⟩:=hcut;cases kq with
       |zero=>exact absurd HA.out (by simp[laws_FnExactTablePairs.j1])
       |succ kj26=>
        have H:=HA.out;clear HA;simp only[laws_FnExactTablePairs.j1]at H;by_cases c40:x58_26=true
        ·subst c40;have H1:=H;rw[if_pos rfl]at H1;clear H;have H:=H1;clear H1;exact absurd ((Option.some.inj H).trans ht_) (by decide)
        ·replace c40:=Bool.eq_false_iff.mpr c40;subst c40;have H1:=H;rw[if_neg (show ¬(false=true) by decide)]at H1;clear H;have H:=H1;clear H1;replace H:=Option.bind_eq_some_iff.mp H;obtain⟨⟨t637,t638⟩,A410,H⟩:=H;replace H:((laws_heldPairS.f kj26 t638 1).bind fun t639=>(if t639<0 then (some false) else (if t639=t637 then ((laws_toByteS.f kj26 l0).bind fun t640=>((impl_TablePairs.f kj26 t640).bind fun bt643=>((laws_eqPairS.f kj26 bt643.1 t618).bind fun t647=>(if t647=true then (laws_FnExactTablePairs.j2 kj26 t638 t637 (bt643.2 != t619)) else (laws_FnExactTablePairs.j2 kj26 t638 t637 true))))) else (some false))))=some r:=H;have A41:=mS A410;clear A410;replace H:=Option.bind_eq_some_iff.mp H;obtain⟨t639,A420,H⟩:=H;replace H:(if t639<0 then (some false) else (if t639=t637 then ((laws_toByteS.f kj26 l0).bind fun t640=>((impl_TablePairs.f kj26 t640).bind fun bt643=>((laws_eqPairS.f kj26 bt643.1 t618).bind fun t647=>(if t647=true then (laws_FnExactTablePairs.j2 kj26 t638 t637 (bt643.2 != t619)) else (laws_FnExactTablePairs.j2 kj26 t638 t637 true))))) else (some false)))=some r:=H;have A42:=mS A420;clear A420;by_cases c43:t639<0
         ·rw[if_pos c43]at H;have c43b0:=decide_eq_true c43;clear c43;exact absurd ((Option.some.inj H).trans ht_) (by decide)
         ·rw[if_neg c43]at H;have c43b0:=decide_eq_false c43;clear c43;by_cases c44:t639=t637
          ·rw[if_pos c44]at H;have c44b0:(t639 == t637)=true:=beq_iff_eq.mpr c44;have c44b1:(t639 != t637)=false:=bne_eq_false_iff_eq.mpr c44;clear c44;replace H:=Option.bind_eq_some_iff.mp H;obtain⟨t640,A450,H⟩:=H;replace H:((impl_TablePairs.f kj26 t640).bind fun bt643=>((laws_eqPairS.f kj26 bt643.1 t618).bind fun t647=>(if t647=true then (laws_FnExactTablePairs.j2 kj26 t638 t637 (bt643.2 != t619)) else (laws_FnExactTablePairs.j2 kj26 t638 t637 true))))=some r:=H;have A45:=mS A450;clear A450;replace H:=Option.bind_eq_some_iff.mp H;obtain⟨⟨t643,t644⟩,A460,H⟩:=H;replace H:((laws_eqPairS.f kj26 t643 t618).bind fun t647=>(if t647=true then (laws_FnExactTablePairs.j2 kj26 t638 t637 (t644 != t619)) else (laws_FnExactTablePairs.j2 kj26 t638 t637 true)))=some r:=H;have A46:=mS A460;clear A460;have HC47:=mS H;clear H;obtain⟨Ao48,co48,eo48⟩:=Kd.R_slice HO_6.out;subst eo48;go_upto_region 23 with (first|((with_reducible refine gate_callee (f:=21) rfl ?_);refine mGo 61 Try.func21 #[.slice Ao48 t625.length co48,.int .i64 1] ?_;(with_reducible refine(laws_markPairS.calls kj26 (fun k_=>some k_=(.slice Ao48 t625.length co48:Value).ownBlock) (.slice Ao48 t625.length co48) t625 1 t637 t638 w _ ?side1 ?side2 A41.out).mono ?_);(case side1=>exact mH HB.out);(case side2=>exact Kd.R_tight rfl HO_6.out);rintro e w49 ⟨rfl,hy0,hb,hkp⟩;refine⟨_,rfl,?_⟩;replace HO_3:=mS (Kd.R_mono (ok':=fun k_=>some k_≠(.slice Ao48 t625.length co48:Value).ownBlock) (Kd.R_keptB (HO_3.out) hkp (fun k_ hk_ hs_=>(hk_) hs_)) (fun k_ hk_=>hk_.1));replace HO_6:=mS (Kd.R_reok rfl hy0 (fun k_ e_=>HO_6.out.1 k_ e_));replace HB:=mS (hb);(try clear hb);(try clear hkp);(try clear hy0))|((with_reducible refine gate_callee (f:=22) rfl ?_);refine goesL_ (some 64) rfl rfl Try.func22 (by kernel_rfl) rfl #[.slice Ao48 t638.length co48,.int .i64 1] rfl (by (try simp only[List.map_toArray,List.map_cons,List.map_nil]);first|done|(rw[show t638.length=t625.length from (Kd.R_reads' HO_6.out).1.symm]<;>rfl)|rfl|(simp only[List.length_drop,List.length_take];rfl)) ?_;(with_reducible refine(laws_heldPairS.calls kj26 _ _ t638 1 t639 _ ?side1 ?side2 A42.out).mono ?_);(case side1=>exact mC (Kd.R_reads' HO_6.out).2.2);(case side2=>rw[show t638.length=t625.length from (Kd.R_reads' HO_6.out).1.symm];exact(Kd.R_reads' HO_6.out).2.1);rintro e w50 ⟨rfl,hb⟩;refine⟨_,rfl,?_⟩;replace HO_3:=mS (Kd.R_below (mR HO_3.out) hb);replace HO_6:=mS (Kd.R_below (mR HO_6.out) hb);replace HB:=mS (below_step (mH HB.out) hb);(try clear hb))|((with_reducible refine gate_callee (f:=8) rfl ?_);refine mGo 72 Try.func8 #[.slice A0 l0.length c0] ?_;(with_reducible refine(laws_toByteS.calls kj26 _ _ l0 t640 _ ?side1 ?side2 A45.out).mono ?_);(case side1=>exact mC (Kd.C_below HR0.out HB.out));(case side2=>exact HC0.out);rintro e w51 ⟨v641,rfl,ho0,hb⟩;refine⟨_,rfl,?_⟩;replace HO_3:=mS (Kd.R_below (mR HO_3.out) hb);replace HO_6:=mS (Kd.R_below (mR HO_6.out) hb);have HO642:=mS (Kd.R_lower ho0 (below_size (mH HB.out)));replace HB:=mS (below_step (mH HB.out) hb);(try clear hb);(try clear ho0);obtain⟨Ao52,co52,eo52⟩:=Kd.R_slice HO642.out;subst eo52)|((with_reducible refine gate_callee (f:=19) rfl ?_);refine mGo 73 Try.func19 #[.slice Ao52 t640.length co52] ?_;(with_reducible refine(impl_TablePairs.calls kj26 _ _ t640 t643 t644 _ ?side1 ?side2 A46.out).mono ?_);(case side1=>exact mC (Kd.R_reads' HO642.out).2.2);(case side2=>exact(Kd.R_reads' HO642.out).2.1);rintro e w53 ⟨v645,rfl,ho0,hb⟩;refine⟨_,rfl,?_⟩;replace HO642:=mS (Kd.R_below (mR HO642.out) hb);have HO646:=mS (Kd.R_lower (Kd.R_new' (Kd.R_new' ho0 (Kd.R_lt (mR HO_3.out))) (Kd.R_lt (mR HO_6.out))) (below_size (mH HB.out)));replace HO_3:=mS (Kd.R_elder' (mR HO_3.out) (Kd.R_base ho0) hb);replace HO_6:=mS (Kd.R_elder' (mR HO_6.out) (Kd.R_base ho0) hb);replace HB:=mS (below_step (mH HB.out) hb);(try clear hb);(try clear ho0)))
           (try simp only[Act.put,zA,zB,zC])
           go_cut [84] (fun v84 wc=>∃(kq:Nat) (x84_46:Bool),v84 = .bool x84_46∧Aside0 (laws_FnExactTablePairs.j2 kq t638 t637 x84_46=some r)∧Aside0 (kq≤kj26)∧Aside0 (Kd.R k87 87 wc w.heap.size (fun _=>True) (.slice Ao48 t625.length co48) t638)∧Aside0 (Below w.heap.size w wc))
           case first=>
            have H:=HC47.out;clear HC47;replace H:=Option.bind_eq_some_iff.mp H;obtain⟨t647,A540,H⟩:=H;replace H:(if t647=true then (laws_FnExactTablePairs.j2 kj26 t638 t637 (t644 != t619)) else (laws_FnExactTablePairs.j2 kj26 t638 t637 true))=some r:=H;have A54:=mS A540;clear A540;by_cases c55:t647=true
            ·subst c55;have H1:=H;rw[if_pos rfl]at H1;clear H;have H:=H1;clear H1;have H':=mS H;clear H;obtain⟨Ao56,co56,eo56⟩:=Kd.R_slice HO646.out;subst eo56;obtain⟨Ao57,co57,eo57⟩:=Kd.R_slice HO_3.out;subst eo57;go_wp2_with (first|((with_reducible refine gate_callee (f:=20) rfl ?_);refine mGo 78 Try.func20 #[.slice Ao56 t643.length co56,.slice Ao57 t618.length co57] ?_;(with_reducible refine(laws_eqPairS.calls kj26 _ _ t643 _ _ t618 true _ ?side1 ?side2 ?side3 ?side4 A54.out).mono ?_);(case side1=>exact mC (Kd.R_reads' HO646.out).2.2);(case side2=>exact(Kd.R_reads' HO646.out).2.1);(case side3=>exact mC (Kd.R_reads' HO_3.out).2.2);(case side4=>exact(Kd.R_reads' HO_3.out).2.1);rintro e w58 ⟨rfl,hb⟩;refine⟨_,rfl,?_⟩;replace HO_3:=mS (Kd.R_below (mR HO_3.out) hb);replace HO_6:=mS (Kd.R_below (mR HO_6.out) hb);replace HO642:=mS (Kd.R_below (mR HO642.out) hb);replace HO646:=mS (Kd.R_below (mR HO646.out) hb);replace HB:=mS (below_step (mH HB.out) hb);(try clear hb)));go_meet
             case rel=>exact⟨_,((t644 != t619)),mE,H',⟨by have:=HJ6.out;have:=HJ26.out;first|omega|exact Nat.le_refl _⟩,⟨by refine mR ?_;exact Kd.R_mono HO_6.out (fun _ hk=>trivial)⟩,⟨(mH HB.out)⟩⟩
            ·replace c55:=Bool.eq_false_iff.mpr c55;subst c55;have H1:=H;rw[if_neg (show ¬(false=true) by decide)]at H1;clear H;have H:=H1;clear H1;have H':=mS H;clear H;obtain⟨Ao59,co59,eo59⟩:=Kd.R_slice HO646.out;subst eo59;obtain⟨Ao60,co60,eo60⟩:=Kd.R_slice HO_3.out;subst eo60;go_wp2_with (first|((with_reducible refine gate_callee (f:=20) rfl ?_);refine mGo 78 Try.func20 #[.slice Ao59 t643.length co59,.slice Ao60 t618.length co60] ?_;(with_reducible refine(laws_eqPairS.calls kj26 _ _ t643 _ _ t618 false _ ?side1 ?side2 ?side3 ?side4 A54.out).mono ?_);(case side1=>exact mC (Kd.R_reads' HO646.out).2.2);(case side2=>exact(Kd.R_reads' HO646.out).2.1);(case side3=>exact mC (Kd.R_reads' HO_3.out).2.2);(case side4=>exact(Kd.R_reads' HO_3.out).2.1);rintro e w61 ⟨rfl,hb⟩;refine⟨_,rfl,?_⟩;replace HO_3:=mS (Kd.R_below (mR HO_3.out) hb);replace HO_6:=mS (Kd.R_below (mR HO_6.out) hb);replace HO642:=mS (Kd.R_below (mR HO642.out) hb);replace HO646:=mS (Kd.R_below (mR HO646.out) hb);replace HB:=mS (below_step (mH HB.out) hb);(try clear hb)));go_meet
             case rel=>exact⟨_,(true),mE,H',⟨by have:=HJ6.out;have:=HJ26.out;first|omega|exact Nat.le_refl _⟩,⟨by refine mR ?_;exact Kd.R_mono HO_6.out (fun _ hk=>trivial)⟩,⟨(mH HB.out)⟩⟩
           case rest=>
            clear HC47
            try clear c1
            try clear c2
            try clear c2b0
            try clear c2b1
            try clear p2
            try clear c3
            try clear c4
            try clear c5
            try clear c8
            try clear c10
            try clear c11
            try clear c15
            try clear c18
            try clear c19
            try clear c20
            try clear c21
            try clear c22
            try clear c25
            try clear c31
            try clear c31b0
            try clear c33
            try clear c40
            try clear c43
            try clear c43b0
            try clear c44
            try clear c44b0
            try clear c44b1
            try clear c55
            try clear p2
            obtain⟨kq,x84_46,rfl,HA,HJ46,HO_6,HB⟩:=hcut;have hl6_46:=(Kd.R_reads' HO_6.out).1;rw[hl6_46]at HO_6
            (try simp only[hl6_46])
            cases kq with
            |zero=>exact absurd HA.out (by simp[laws_FnExactTablePairs.j2])
            |succ kj46=>
             have H:=HA.out;clear HA;simp only[laws_FnExactTablePairs.j2]at H;by_cases c62:x84_46=true
             ·subst c62;have H1:=H;rw[if_pos rfl]at H1;clear H;have H:=H1;clear H1;exact absurd ((Option.some.inj H).trans ht_) (by decide)
             ·replace c62:=Bool.eq_false_iff.mpr c62;subst c62;have H1:=H;rw[if_neg (show ¬(false=true) by decide)]at H1;clear H;have H:=H1;clear H1;replace H:=Option.bind_eq_some_iff.mp H;obtain⟨t648,A630,H⟩:=H;replace H:(if t648<0 then (some false) else (if t648=t637 then (some true) else (some false)))=some r:=H;have A63:=mS A630;clear A630;by_cases c64:t648<0
              ·rw[if_pos c64]at H;have c64b0:=decide_eq_true c64;clear c64;exact absurd ((Option.some.inj H).trans ht_) (by decide)
              ·rw[if_neg c64]at H;have c64b0:=decide_eq_false c64;clear c64;by_cases c65:t648=t637
               ·rw[if_pos c65]at H;have c65b0:(t648 == t637)=true:=beq_iff_eq.mpr c65;have c65b1:(t648 != t637)=false:=bne_eq_false_iff_eq.mpr c65;clear c65;obtain rfl:=Option.some.inj H;go_wp2_with (first|((with_reducible refine gate_callee (f:=22) rfl ?_);refine mGo 87 Try.func22 #[.slice Ao48 t638.length co48,.int .i64 1] ?_;(with_reducible refine(laws_heldPairS.calls kj46 _ _ t638 1 t648 _ ?side1 ?side2 A63.out).mono ?_);(case side1=>exact mC (Kd.R_reads' HO_6.out).2.2);(case side2=>exact(Kd.R_reads' HO_6.out).2.1);rintro e w66 ⟨rfl,hb⟩;refine⟨_,rfl,?_⟩;replace HO_6:=mS (Kd.R_below (mR HO_6.out) hb);replace HB:=mS (below_step (mH HB.out) hb);(try clear hb)));go_ret;exact⟨mEw,(mH HB.out)⟩
               ·rw[if_neg c65]at H;have c65b0:(t648 == t637)=false:=beq_eq_false_iff_ne.mpr c65;have c65b1:(t648 != t637)=true:=bne_iff_ne.mpr c65;exact absurd ((Option.some.inj H).trans ht_) (by decide)
          ·rw[if_neg c44]at H;have c44b0:(t639 == t637)=false:=beq_eq_false_iff_ne.mpr c44;have c44b1:(t639 != t637)=true:=bne_iff_ne.mpr c44;exact absurd ((Option.some.inj H).trans ht_) (by decide)
     ·replace c25:=Bool.eq_false_iff.mpr c25;subst c25;have H1:=H;rw[if_neg (show ¬(false=true) by decide)]at H1;clear H;have H:=H1;clear H1;exact absurd ((Option.some.inj H).trans ht_) (by decide)
end Go.Proofs.Ytecjamgajlpfdaa.MFnExactTablePairs
