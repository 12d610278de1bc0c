/- Walks and plain laws, put together: no condition of their own. -/
import Derived.Test.YtingkpnoiekliaaGreatVAll
import Derived.Test.YtingkpnoiekliaaGreatG1
import Derived.Test.YtingkpnoiekliaaGreatG2
import Derived.Test.YtingkpnoiekliaaGreatMZx17
import Derived.Test.YtingkpnoiekliaaGreatG16
import Derived.Test.YtingkpnoiekliaaGreatMZx18
import Derived.Test.YtingkpnoiekliaaGreatG7
section
namespace Go.Proofs.YtingkpnoiekliaaGreat.MZ
open Go.RowKit Go.Proofs.YtingkpnoiekliaaGreatW.PrintWords Go.Proofs.YtingkpnoiekliaaGreatW.PrintLast Go.Proofs.YtingkpnoiekliaaGreatW.PrintMore Go.Proofs.YtingkpnoiekliaaGreat.MWords
attribute [local go_sem] max2_int min2_int max_two min_two max_three min_three max_four min_four
set_option linter.unusedVariables false
set_option linter.unusedSimpArgs false
def tV.f (s:ByteArray):Option (List Int):=if s.size≤4611686018427387904 then some (bytesOf s) else none
theorem alz {w:World} {e:TypeId} (s:ByteArray) (hs:s.size≤4611686018427387904):Mz.Z e (Lib.bytesWorld w e s) w.heap.size (fun _=>True) (.slice (some ⟨w.heap.size,0,none⟩) s.size (grownCap w s.size 0 e)) (bytesOf s):=by
 have hl:(bytesOf s).length=s.size:=by simp[bytesOf]
 refine⟨fun _ _=>trivial,by omega,.inr ⟨w.heap.size,grownCap w s.size 0 e,Lib.bytesCells w e s,((Lib.bytesCells w e s).size,(Lib.bytesCells w e s).size+1),by rw[hl],by rw[hl];exact grownCap_ge _ _ _ _,Nat.le_refl _,Lib.bytesWorld_at_new w e s,.inl (Nat.le_refl _),fun i hi=>?_⟩⟩;have hil:i<s.size:=by omega
 have hc:=Lib.bytesWorld_cell w e s i hil;unfold World.cell? at hc;dsimp only at hc;rw[Lib.bytesWorld_at_new]at hc;have hc:(Lib.bytesCells w e s)[i]? = some (.int .u8 (s.data.toList.getD i 0).toNat):=hc;rw[hc];unfold bytesOf;rw[List.getD_eq_getElem?_getD,List.getD_eq_getElem?_getD,List.getElem?_map];have:s.data.toList[i]? = some (s.data.toList[i]'(by simpa using hil)):=List.getElem?_eq_getElem _;rw[this];rfl
theorem alA (w:World) (e:TypeId) (s:ByteArray):Below w.heap.size w (Lib.bytesWorld w e s):=⟨rfl,rfl,rfl,by rw[Lib.bytesWorld_size];omega,fun k hk=>Lib.bytesWorld_at_old w e s k hk⟩
theorem Yu {P:Program} {ops:Array Oper} {rest:List Oper} {o:Oper} {a:Act} {Q:Exit→Act→World→Prop} {W:World} (hgd:o.guard=none) {src dst e:TypeId} {x:Operand} (hop:o.op = .convert src dst x) (s:ByteArray) (r:List Int) (hx:a.eval x = .string s)
 (hs:P.underlying src=some .string) (hd:P.underlying dst=some (.slice e)) (he:P.underlying e=some (.int .u8)) (hf:tV.f s=some r)
 (h:∀v w1,Mz.Z e w1 W.heap.size (fun _=>True) v r→Below W.heap.size W w1→wpList P ops Q rest (a.put o.dst v) w1):wpList P ops Q (o::rest) a W:=by
 unfold tV.f at hf;split at hf
 ·rename_i hsz;obtain rfl:=Option.some.inj hf;refine Kd.yB hgd (v:=.slice (some ⟨W.heap.size,0,none⟩) s.size (grownCap W s.size 0 e)) (w1:=Lib.bytesWorld W e s) ?_ (h _ _ (alz s hsz) (alA W e s));have hr:=Lib.run_convert_string_bytes W src dst e s hs hd he;unfold execOp;rw[hop];simp only[hx];rw[Sem.run_bind,hr];rfl
 ·simp at hf
def iL.j0:Nat→Int→ByteArray→Int→Bool→Option (List Int × Int × Bool)
 |0,_,_,_,_=>none
 |k+1,x1,x7,x8,x35=>if x35=true then (some (([]:List Int),x1,false)) else ((tV.f x7).bind fun t170=>(some (t170,x8,true)))
def iL.f (k:Nat) (U:List Int) (a1:Int):Option (List Int × Int × Bool):=(rh.f a1 0 (wrap64 ((U.length:Int)-4))).bind fun t161=>(if t161=true then ((uX.f k U (wrap64 (a1+4))).bind fun lp=>(if lp.2.2=true then ((tV.f lp.1).bind fun t165=>((gl.f k t165).bind fun t168=>((qq.f U a1).bind fun t169=>(iL.j0 k a1 lp.1 lp.2.1 (t168 != t169))))) else (iL.j0 k a1 lp.1 lp.2.1 true))) else (some (([]:List Int),a1,false)))
set_option maxHeartbeats 8000000 in
set_option maxRecDepth 100000 in
theorem iL.calls (k:Nat) (A0:Option Addr) (c0:Nat) (U:List Int) (a1:Int) (r1:List Int) (r2:Int) (r3:Bool) (w:World) (b9:Kd.C (Kd.int .u8) w A0 U.length U) (cg:U.length≤c0) (h:iL.f k U a1=some (r1,r2,r3)) :
 Calls Tryz.prog 37 #[.slice A0 U.length c0,.int .i64 a1] w fun e w'=>∃bE:Value,e = .returned (.tuple #[bE,.int .i64 r2,.bool r3])∧Mz.Z 5 w' w.heap.size (fun _=>True) bE r1∧Below w.heap.size w w':=by
 have cr:=J b9;have fy:=J cg;clear b9 cg;have HB:=J (Below.refl w.heap.size w);have H:((rh.f a1 0 (wrap64 ((U.length:Int)-4))).bind fun t161=>(if t161=true then ((uX.f k U (wrap64 (a1+4))).bind fun lp=>(if lp.2.2=true then ((tV.f lp.1).bind fun t165=>((gl.f k t165).bind fun t168=>((qq.f U a1).bind fun t169=>(iL.j0 k a1 lp.1 lp.2.1 (t168 != t169))))) else (iL.j0 k a1 lp.1 lp.2.1 true))) else (some (([]:List Int),a1,false))))=some (r1,r2,r3):=h;clear h;replace H:=Option.bind_eq_some_iff.mp H;obtain⟨t161,dQ,H⟩:=H;replace H:(if t161=true then ((uX.f k U (wrap64 (a1+4))).bind fun lp=>(if lp.2.2=true then ((tV.f lp.1).bind fun t165=>((gl.f k t165).bind fun t168=>((qq.f U a1).bind fun t169=>(iL.j0 k a1 lp.1 lp.2.1 (t168 != t169))))) else (iL.j0 k a1 lp.1 lp.2.1 true))) else (some (([]:List Int),a1,false)))=some (r1,r2,r3):=H;have A3:=J dQ;clear dQ;by_cases c4:t161=true
 ·subst c4;have H1:=H;rw[if_pos rfl]at H1;clear H;have H:=H1;clear H1;replace H:=Option.bind_eq_some_iff.mp H;obtain⟨⟨t162,t163,t164⟩,jv,H⟩:=H;replace H:(if t164=true then ((tV.f t162).bind fun t165=>((gl.f k t165).bind fun t168=>((qq.f U a1).bind fun t169=>(iL.j0 k a1 t162 t163 (t168 != t169))))) else (iL.j0 k a1 t162 t163 true))=some (r1,r2,r3):=H;have A5:=J jv;clear jv;have xS:=J H;clear H;go_enter Tryz.func37,Tryz.ntmps37;go_upto_region 4 with (first|((with_reducible refine aH (f:=38) rfl ?_);refine cd 14 Tryz.func38 #[.int .i64 a1,.int .i64 0,.int .i64 (wrap64 ((U.length:Int)-4))] ?_;(with_reducible refine(rh.calls a1 0 (wrap64 ((U.length:Int)-4)) true _ A3.1).mono ?_);rintro e w' ⟨rfl,⟨nd,rfl⟩⟩;refine⟨_,rfl,?_⟩)|((with_reducible refine aH (f:=78) rfl ?_);refine cd 21 Tryz.func78 #[.slice A0 U.length c0,.int .i64 (wrap64 (a1+4))] ?_;(with_reducible refine(uX.calls k _ _ U (wrap64 (a1+4)) t162 t163 t164 _ ?aE ?aG A5.1).mono ?_);(case aE=>exact mC cr.1);(case aG=>exact fy.1);rintro e w' ⟨rfl,⟨nd,rfl⟩⟩;refine⟨_,rfl,?_⟩))
  (try simp only[Act.put,zA,zB,zC])
  go_cut [35] (fun v35 wc=>∃(kq:Nat) (KM:Bool),v35 = .bool KM∧Aside0 (iL.j0 kq a1 t162 t163 KM=some (r1,r2,r3))∧Aside0 (kq≤k)∧Aside0 (Below w.heap.size w wc))
  case first=>
   have H:=xS.1;clear xS;by_cases c7:t164=true
   ·subst c7;have H1:=H;rw[if_pos rfl]at H1;clear H;have H:=H1;clear H1;replace H:=Option.bind_eq_some_iff.mp H;obtain⟨t165,rH,H⟩:=H;replace H:((gl.f k t165).bind fun t168=>((qq.f U a1).bind fun t169=>(iL.j0 k a1 t162 t163 (t168 != t169))))=some (r1,r2,r3):=H;have A8:=J rH;clear rH;replace H:=Option.bind_eq_some_iff.mp H;obtain⟨t168,vK,H⟩:=H;replace H:((qq.f U a1).bind fun t169=>(iL.j0 k a1 t162 t163 (t168 != t169)))=some (r1,r2,r3):=H;have A9:=J vK;clear vK;replace H:=Option.bind_eq_some_iff.mp H;obtain⟨t169,k4,H⟩:=H;replace H:(iL.j0 k a1 t162 t163 (t168 != t169))=some (r1,r2,r3):=H;have ow:=J k4;clear k4;have H':=J H;clear H;go_wp2_with (first|((with_reducible refine aM (N:=29) rfl ?_);(try (refine kQ (by first|rfl|kernel_rfl) ?_));refine Yu rfl (src:=9) (dst:=22) (e:=5) rfl t162 t165 (by first|rfl|(go_simp;done)) Tryz.underlying9 Tryz.underlying22 Tryz.underlying5 A8.1 ?_;intro ayX eZ bh hb;have Lp:=J (Mz.C2 bh (aQ (mH HB.1)));replace HB:=J (aA (mH HB.1) hb);(try clear hb);(try clear fS);(try clear hk);(try clear hi);(try clear bh);obtain⟨td,sq,tM⟩:=Mz.Mn Lp.1;subst tM)|(go_at_call 79;(with_reducible refine(gl.calls k _ _ t165 t168 _ ?aE ?aG A9.1).mono ?_);(case aE=>exact mC (Mz.Hc Lp.1).2.2);(case aG=>exact(Mz.Hc Lp.1).2.1);rintro e w' ⟨rfl,⟨nd,rfl⟩⟩)|(go_at_call 80;(with_reducible refine(qq.calls _ _ U a1 t169 _ ?aE ?aG ow.1).mono ?_);(case aE=>exact mC (Kd.az cr.1 (mH HB.1)));(case aG=>exact fy.1);rintro e w' ⟨rfl,⟨nd,rfl⟩⟩));go_meet
    case rel=>exact⟨_,((t168 != t169)),mE,H',⟨by first|omega|exact Nat.le_refl _⟩,⟨(mH HB.1)⟩⟩
   ·replace c7:=Bool.eq_false_iff.mpr c7;subst c7;have H1:=H;rw[if_neg (show ¬(false=true) by decide)]at H1;clear H;have H:=H1;clear H1;have H':=J H;clear H;go_wp2;go_meet
    case rel=>exact⟨_,(true),mE,H',⟨by first|omega|exact Nat.le_refl _⟩,⟨(mH HB.1)⟩⟩
  case rest=>
   clear xS
   try clear c4
   obtain⟨kq,KM,rfl,HA,HJ5,HB⟩:=hcut;cases kq with
   |zero=>exact absurd HA.1 (by simp[iL.j0])
   |succ FO=>
    have H:=HA.1;clear HA;simp only[iL.j0]at H;by_cases cQ:KM=true
    ·subst cQ;have H1:=H;rw[if_pos rfl]at H1;clear H;have H:=H1;clear H1;simp only[Option.some.injEq,Prod.mk.injEq]at H;obtain⟨rfl,rfl,rfl⟩:=H;go_wp2;go_ret3;exact⟨_,cP,by first|exact Mz.Mm _ _ _ _|exact Kd.N_nil _ _ _ _ _|exact Kd.V_nil _ _ _ _ _|exact Kd.Q_nil _ _ _ _ _|exact Kd.pg _ _ _ _ _,(mH HB.1)⟩
    ·replace cQ:=Bool.eq_false_iff.mpr cQ;subst cQ;have H1:=H;rw[if_neg (show ¬(false=true) by decide)]at H1;clear H;have H:=H1;clear H1;replace H:=Option.bind_eq_some_iff.mp H;obtain⟨t170,Q8,H⟩:=H;replace H:(some (t170,t163,true))=some (r1,r2,r3):=H;have A14:=J Q8;clear Q8;simp only[Option.some.injEq,Prod.mk.injEq]at H;obtain⟨rfl,rfl,rfl⟩:=H;go_wp2_with (first|((with_reducible refine aM (N:=38) rfl ?_);(try (refine kQ (by first|rfl|kernel_rfl) ?_));refine Yu rfl (src:=9) (dst:=22) (e:=5) rfl t162 t170 (by first|rfl|(go_simp;done)) Tryz.underlying9 Tryz.underlying22 Tryz.underlying5 A14.1 ?_;intro v171 mM bh hb;have abF:=J (Mz.C2 bh (aQ (mH HB.1)));replace HB:=J (aA (mH HB.1) hb);(try clear hb);(try clear fS);(try clear hk);(try clear hi);(try clear bh)));go_ret3;exact⟨_,cP,by (with_reducible repeat (first|apply Mz.Z_alloc|apply Mz.Z_drewN|apply Mz.Z_drew));exact abF.1,(mH HB.1)⟩
 ·replace c4:=Bool.eq_false_iff.mpr c4;subst c4;have H1:=H;rw[if_neg (show ¬(false=true) by decide)]at H1;clear H;have H:=H1;clear H1;simp only[Option.some.injEq,Prod.mk.injEq]at H;obtain⟨rfl,rfl,rfl⟩:=H;go_enter Tryz.func37,Tryz.ntmps37;go_wp2_with (first|((with_reducible refine aH (f:=38) rfl ?_);refine cd 14 Tryz.func38 #[.int .i64 a1,.int .i64 0,.int .i64 (wrap64 ((U.length:Int)-4))] ?_;(with_reducible refine(rh.calls a1 0 (wrap64 ((U.length:Int)-4)) false _ A3.1).mono ?_);rintro e w' ⟨rfl,⟨nd,rfl⟩⟩;refine⟨_,rfl,?_⟩));go_ret3;exact⟨_,cP,by first|exact Mz.Mm _ _ _ _|exact Kd.N_nil _ _ _ _ _|exact Kd.V_nil _ _ _ _ _|exact Kd.Q_nil _ _ _ _ _|exact Kd.pg _ _ _ _ _,(mH HB.1)⟩
def JD.f (U:List Int):Option (Bool):=some (decide ((U.length:Int)>1048576))
set_option maxHeartbeats 8000000 in
set_option maxRecDepth 100000 in
theorem JD.calls (A0:Option Addr) (c0:Nat) (U:List Int) (r:Bool) (w:World) (b9:Kd.C (Kd.int .u8) w A0 U.length U) (cg:U.length≤c0) (h:JD.f U=some r) :
 Calls Tryz.prog 5 #[.slice A0 U.length c0] w fun e w'=>e = .returned (.bool r)∧aC w w':=by
 have cr:=J b9;have fy:=J cg;clear b9 cg;have H:(some (decide ((U.length:Int)>1048576)))=some r:=h;clear h;obtain rfl:=Option.some.inj H;go_enter Tryz.func5,Tryz.ntmps5;go_wp2;go_ret;exact⟨mE,by repeat (first|exact aC.refl _|apply aC.step)⟩
def oT.U:Nat→List Int→List Int→Int→Option (Bool)
 |0,_,_,_=>none
 |k+1,x0,x1,x5=>if x5<(x0.length:Int) then (if 0≤x5 then (if x5<(x1.length:Int) then (if (rd x0 x5)=(rd x1 x5) then (oT.U k x0 x1 (wrap64 (x5+1))) else (some false)) else (none)) else (none)) else (some true)
def oT.f (k:Nat) (U:List Int) (l1:List Int):Option (Bool):=if (U.length:Int)=(l1.length:Int) then (oT.U k U l1 0) else (some false)
set_option maxHeartbeats 8000000 in
set_option maxRecDepth 100000 in
theorem oT.calls (k:Nat) (A0:Option Addr) (c0:Nat) (U:List Int) (A1:Option Addr) (c1:Nat) (l1:List Int) (r:Bool) (w:World) (b9:Kd.C (Kd.int .u8) w A0 U.length U) (cg:U.length≤c0) (oR:Kd.C (Kd.int .u8) w A1 l1.length l1) (oQ:l1.length≤c1) (h:oT.f k U l1=some r) :
 Calls Tryz.prog 12 #[.slice A0 U.length c0,.slice A1 l1.length c1] w fun e w'=>e = .returned (.bool r)∧aC w w':=by
 have cr:=J b9;have fy:=J cg;clear b9 cg;have tv:=J oR;have Li:=J oQ;clear oR oQ;have H:(if (U.length:Int)=(l1.length:Int) then (oT.U k U l1 0) else (some false))=some r:=h;clear h;by_cases c3:(U.length:Int)=(l1.length:Int)
 ·rw[if_pos c3]at H;have jy:((U.length:Int) == (l1.length:Int))=true:=beq_iff_eq.mpr c3;have TX:((U.length:Int) != (l1.length:Int))=false:=bne_eq_false_iff_eq.mpr c3;have TY:(U.length == l1.length)=true:=by first|simpa using c3|(simp at c3 ⊢;omega)
  clear c3;have H':=J H;clear H;go_enter Tryz.func12,Tryz.ntmps12;go_wp2
  repeat (go_quiet (fail);try go_wp2)
  go_loopg [5] k (fun kq v5 w'=>∃(aY:Int),v5 = .int .i64 aY∧Aside0 (oT.U kq U l1 aY=some r)∧Aside0 (kq≤k)∧aC w w')
  case atStart=>exact⟨(0),mE,H',⟨Nat.le_refl _⟩,by repeat (first|exact aC.refl _|apply aC.step)⟩
  case round=>
   clear H'
   try clear c1
   try clear c3
   try clear jy
   try clear TX
   try clear TY
   obtain⟨aY,rfl,HA,bo,⟨m1,rfl⟩⟩:=hrel;cases gk with
   |zero=>exact absurd HA.1 (by simp[oT.U])
   |succ k1=>
    have H:=HA.1;clear HA;simp only[oT.U]at H;by_cases c4:aY<(U.length:Int)
    ·rw[if_pos c4]at H;have fa:=decide_eq_true c4;clear c4;by_cases c5:0≤aY
     ·rw[if_pos c5]at H;have gx:=decide_eq_true c5;clear c5;by_cases c6:aY<(l1.length:Int)
      ·rw[if_pos c6]at H;have hJ:=decide_eq_true c6;clear c6;by_cases c7:(rd U aY)=(rd l1 aY)
       ·rw[if_pos c7]at H;have oO:((rd U aY) == (rd l1 aY))=true:=beq_iff_eq.mpr c7;have Ht:((rd U aY) != (rd l1 aY))=false:=bne_eq_false_iff_eq.mpr c7;clear c7;have H':=J H;clear H;have zf:0≤(aY:Int):=mD;have zu:aY<(U.length:Int):=mD;obtain⟨aey,Na,akE⟩:=Kd.lW cr.1 aY zf zu;cases Na
        replace zf:=eq_true zf;replace zu:=eq_true zu;have zg:0≤(aY:Int):=mD;have zv:aY<(l1.length:Int):=mD;obtain⟨aez,Nb,akF⟩:=Kd.lW tv.1 aY zg zv;cases Nb
        replace zg:=eq_true zg;replace zv:=eq_true zv;go_wp2
        repeat (go_quiet (fail);try go_wp2)
        go_roundg k1
        case measure=>have:=bo.1;omega
        case rel=>exact⟨(wrap64 (aY+1)),mE,H',⟨by have:=bo.1;omega⟩,by repeat (first|exact aC.refl _|apply aC.step)⟩
       ·rw[if_neg c7]at H;have oO:((rd U aY) == (rd l1 aY))=false:=beq_eq_false_iff_ne.mpr c7;have Ht:((rd U aY) != (rd l1 aY))=true:=bne_iff_ne.mpr c7;obtain rfl:=Option.some.inj H;have zf:0≤(aY:Int):=mD;have zu:aY<(U.length:Int):=mD;obtain⟨aey,Na,akE⟩:=Kd.lW cr.1 aY zf zu;cases Na
        replace zf:=eq_true zf;replace zu:=eq_true zu;have zg:0≤(aY:Int):=mD;have zv:aY<(l1.length:Int):=mD;obtain⟨aez,Nb,akF⟩:=Kd.lW tv.1 aY zg zv;cases Nb
        replace zg:=eq_true zg;replace zv:=eq_true zv;go_wp2
        repeat (go_quiet (fail);try go_wp2)
        go_ret;exact⟨mE,by repeat (first|exact aC.refl _|apply aC.step)⟩
      ·rw[if_neg c6]at H;exact absurd H (by simp)
     ·rw[if_neg c5]at H;exact absurd H (by simp)
    ·rw[if_neg c4]at H;have fa:=decide_eq_false c4;clear c4;obtain rfl:=Option.some.inj H;go_wp2
     repeat (go_quiet (fail);try go_wp2)
     go_ret;exact⟨mE,by repeat (first|exact aC.refl _|apply aC.step)⟩
 ·rw[if_neg c3]at H;have jy:((U.length:Int) == (l1.length:Int))=false:=beq_eq_false_iff_ne.mpr c3;have TX:((U.length:Int) != (l1.length:Int))=true:=bne_iff_ne.mpr c3;have TY:(U.length == l1.length)=false:=by first|simpa using c3|(simp at c3 ⊢;omega)
  obtain rfl:=Option.some.inj H;go_enter Tryz.func12,Tryz.ntmps12;go_wp2
  repeat (go_quiet (fail);try go_wp2)
  go_ret;exact⟨mE,by repeat (first|exact aC.refl _|apply aC.step)⟩
end Go.Proofs.YtingkpnoiekliaaGreat.MZ
end
section
set_option linter.unusedVariables false
set_option linter.unusedSimpArgs false
namespace Go.Proofs.YtingkpnoiekliaaGreat.MZ
open Go.RowKit Go.Proofs.YtingkpnoiekliaaGreat.MZ Go.Proofs.YtingkpnoiekliaaGreatW.PrintWords Go.Proofs.YtingkpnoiekliaaGreatW.PrintLast Go.Proofs.YtingkpnoiekliaaGreatW.PrintMore
def Both {α:Type} (P:α→Prop) (f g:Nat→Option α):Prop:=∃r,P r∧Ev f r∧Ev g r
namespace Both
variable {α β:Type} {P:α→Prop} {f f' g g':Nat→Option α}
theorem step (h1:∀k,f (k+1)=f' k) (h2:∀k,g (k+1)=g' k) (h:Both P f' g'):Both P f g:=by
 obtain⟨r,hp,a,b⟩:=h;exact⟨r,hp,Ev.step h1 a,Ev.step h2 b⟩
theorem ret (r:α) (h:P r):Both P (fun _=>some r) (fun _=>some r):=⟨r,h,Ev.now r,Ev.now r⟩
theorem ite {c:Prop} [Decidable c] (h1:c→Both P f g) (h2:¬c→Both P f' g'):Both P (fun k=>if c then f k else f' k) (fun k=>if c then g k else g' k):=by
 by_cases h:c
 ·simpa only [if_pos h] using h1 h
 ·simpa only [if_neg h] using h2 h
theorem bind {Q:β→Prop} {p q:Nat→Option β} {F G:Nat→β→Option α} (h:Both Q p q) (k:∀b,Q b→Both P (fun n=>F n b) (fun n=>G n b)):Both P (fun n=>(p n).bind (F n)) (fun n=>(q n).bind (G n)):=by
 obtain⟨b,hq,h1,h2⟩:=h;obtain⟨r,hp,a,c⟩:=k b hq;exact⟨r,hp,Ev.bind h1 a,Ev.bind h2 c⟩
theorem any {Q:α→Prop} (h:Both Q f g):Both (fun _=>True) f g:=by
 obtain⟨r,_,a,b⟩:=h;exact⟨r,trivial,a,b⟩
end Both
def Comes {α:Type} (P:α→Prop) (f:Nat→Option α):Prop:=∃r,P r∧Ev f r
namespace Comes
variable {α β:Type} {P:α→Prop} {f f':Nat→Option α}
theorem step (h1:∀k,f (k+1)=f' k) (h:Comes P f'):Comes P f:=by
 obtain⟨r,hp,a⟩:=h;exact⟨r,hp,Ev.step h1 a⟩
theorem ret (r:α) (h:P r):Comes P (fun _=>some r):=⟨r,h,Ev.now r⟩
theorem ite {c:Prop} [Decidable c] (h1:c→Comes P f) (h2:¬c→Comes P f'):Comes P (fun k=>if c then f k else f' k):=by
 by_cases h:c
 ·simpa only [if_pos h] using h1 h
 ·simpa only [if_neg h] using h2 h
theorem bind {Q:β→Prop} {p:Nat→Option β} {F:Nat→β→Option α} (h:Comes Q p) (k:∀b,Q b→Comes P (fun n=>F n b)):Comes P (fun n=>(p n).bind (F n)):=by
 obtain⟨b,hq,h1⟩:=h;obtain⟨r,hp,a⟩:=k b hq;exact⟨r,hp,Ev.bind h1 a⟩
end Comes
theorem aeD (n:Int):Go.bits .and .i64 n 255=n % 256:=by
 have ag5:(BitVec.ofInt 64 255).toNat=2 ^ 8-1:=by decide
 have key:(BitVec.ofInt 64 n &&& BitVec.ofInt 64 255).toNat=(n % ((2 ^ 64:Nat):Int)).toNat % 2 ^ 8:=by
  rw[BitVec.toNat_and,BitVec.toNat_ofInt,ag5,Nat.and_two_pow_sub_one_eq_mod]
 show IntKind.i64.wrap ((BitVec.ofInt 64 n &&& BitVec.ofInt 64 255).toNat:Nat)=n % 256;rw[key,IntKind.wrap_i64];omega
def At (b:List Int) (i:Int):Prop:=0≤i∧i≤(b.length:Int)
theorem FQ (b:List Int) (i x:Int) (hb:b.length≤1048576) (hi:At b i):∃v j y,kV.f b i x=some (v,j,y)∧0≤v∧v≤255∧At b j:=by
 unfold At at hi ⊢;simp only[kV.f,aeD];by_cases h:i<(b.length:Int)
 ·rw[if_pos h,if_pos hi.1,dO (i:=i+1) (by omega) (by omega)];exact⟨_,_,_,rfl,by omega,by omega,by omega⟩
 ·rw[if_neg h];exact⟨_,_,_,rfl,by omega,by omega,hi⟩
theorem FP (b:List Int) (i x n:Int) (hb:b.length≤1048576) (hi:At b i):∃v j y,pQ.f b i x n=some (v,j,y)∧0≤v∧(0<n→v<n)∧(n≤0→v=0)∧At b j:=by
 simp only[pQ.f];by_cases h0:n≤0
 ·rw[if_pos h0];exact⟨_,_,_,rfl,by omega,by omega,fun _=>rfl,hi⟩
 ·rw[if_neg h0];have hp:0<n:=by omega
  have hn:¬n=0:=by omega
  by_cases h1:n≤256
  ·rw[if_pos h1];obtain⟨v,j,y,e,v0,v1,hj⟩:=FQ b i x hb hi;simp only[e,Option.bind_some];rw[if_neg hn,Int.tmod_eq_emod_of_nonneg v0];exact⟨_,_,_,rfl,Int.emod_nonneg _ hn,fun _=>Int.emod_lt_of_pos _ hp,fun h=>absurd h h0,hj⟩
  ·rw[if_neg h1];obtain⟨v,j,y,e,v0,v1,hj⟩:=FQ b i x hb hi;obtain⟨v',j',y',e',QB,v1',hj'⟩:=FQ b j y hb hj;obtain⟨v2,j2,y2,e2,v02,v12,mz⟩:=FQ b j' y' hb hj';simp only[e,e',e2,Option.bind_some];rw[if_neg hn,dO (i:=v*65536) (by omega) (by omega),dO (i:=v'*256) (by omega) (by omega),dO (i:=v*65536+v'*256) (by omega) (by omega),dO (i:=v*65536+v'*256+v2) (by omega) (by omega),Int.tmod_eq_emod_of_nonneg (by omega)];exact⟨_,_,_,rfl,Int.emod_nonneg _ hn,fun _=>Int.emod_lt_of_pos _ hp,fun h=>absurd h h0,mz⟩
theorem Yl (b:List Int) (i x:Int) (l:List Int) (hb:b.length≤1048576) (hi:At b i) (hl:0<l.length):∃v j y,vv.f b i x l=some (v,j,y)∧v ∈ l∧At b j:=by
 obtain⟨v,j,y,e,v0,v1,_,hj⟩:=FP b i x (l.length:Int) hb hi;have v1:=v1 (by omega);simp only[vv.f,e,Option.bind_some];rw[if_pos v0,if_pos v1];refine⟨_,_,_,rfl,?_,hj⟩;unfold rd;rw[List.getD_eq_getElem?_getD,List.getElem?_eq_getElem (show v.toNat<l.length by omega)];exact List.getElem_mem _
theorem Ym (b:List Int) (i x:Int) (l:List ByteArray) (hb:b.length≤1048576) (hi:At b i) (hl:0<l.length):∃v j y,pR.f b i x l=some (v,j,y)∧v ∈ l∧At b j:=by
 obtain⟨v,j,y,e,v0,v1,_,hj⟩:=FP b i x (l.length:Int) hb hi;have v1:=v1 (by omega);simp only[pR.f,e,Option.bind_some];rw[if_pos v0,if_pos v1];refine⟨_,_,_,rfl,?_,hj⟩;unfold kv;rw[List.getD_eq_getElem?_getD,List.getElem?_eq_getElem (show v.toNat<l.length by omega)];exact List.getElem_mem _
theorem alk (b:List Int) (i x n:Int) (hb:b.length≤1048576) (hi:At b i) (h0:0≤n) (hn:n≤9):Comes (fun r=>bJ r.1∧r.1.length≤9∧At b r.2.1) (fun k=>kW.f k b i x n):=by
 obtain⟨m,rfl⟩:=Int.eq_ofNat_of_zero_le h0
 have key:∀(d j:Nat) (out:List Int) (i x:Int),j+d=m→At b i→bJ out→out.length=j→Comes (fun r=>bJ r.1∧r.1.length≤9∧At b r.2.1) (fun k=>kW.U k (m:Int) out (j:Int) b i x):=by
  intro d
  induction d with
  |zero=>
   intro j out i x hj hi ho hl;refine Comes.step (fun k=>kW.U.eq_2 ..) ?_;have e1:((j:Int)<(m:Int))=False:=eq_false (by omega);simp only[e1,if_false];exact Comes.ret _ ⟨ho,by dsimp only;omega,hi⟩
  |succ d ih=>
   intro j out i x hj hi ho hl;refine Comes.step (fun k=>kW.U.eq_2 ..) ?_;have e1:((j:Int)<(m:Int))=True:=eq_true (by omega);have ew:wrap64 ((j:Int)+1)=((j+1:Nat):Int):=jQ (n:=m) (by omega) (by omega);obtain⟨v,j2,y2,e2,v0,v1,mz⟩:=FQ b i x hb hi;have e3:(out.length<140737488355328)=True:=eq_true (by omega);simp only[e1,e2,e3,ew,if_true,Option.bind_some];exact ih (j+1) _ _ _ (by omega) mz (ho.append (bJ.one (by omega) (by omega))) (by simp[hl])
 exact key m 0 [] i x (by omega) hi bJ.nil rfl
theorem aln (b:List Int) (i x:Int) (hb:b.length≤1048576) (hi:At b i):Comes (fun r=>bJ r.1∧r.1.length≤9∧At b r.2.1) (fun k=>F2.f k b i x):=by
 simp only[F2.f];obtain⟨v,j,y,e,hm,hj⟩:=Yl b i x ([0,1,2,5,9]:List Int) hb hi (by simp);simp only[e,Option.bind_some];simp only[List.mem_cons,List.not_mem_nil,or_false]at hm;exact Comes.bind (alk b j y v hb hj (by omega) (by omega)) (fun r hr=>Comes.ret _ hr)
theorem alm (b:List Int) (hb:b.length≤1048576):Comes (fun r=>r.1=b∧r.2.1=0) (fun k=>ky.f k b):=by
 have key:∀(d i:Nat) (x:Int),i+d=b.length→Comes (fun r=>r.1=b∧r.2.1=0) (fun k=>ky.U k b x (i:Int)):=by
  intro d
  induction d with
  |zero=>
   intro i x hi;refine Comes.step (fun k=>ky.U.eq_2 ..) ?_;have e1:((i:Int)<(b.length:Int))=False:=eq_false (by omega);simp only[e1,if_false];refine Comes.step (fun k=>ky.j1.eq_2 ..) ?_;simp only[Bool.false_eq_true,if_false];exact Comes.ret _ ⟨rfl,rfl⟩
  |succ d ih=>
   intro i x hi;refine Comes.step (fun k=>ky.U.eq_2 ..) ?_;have e1:((i:Int)<(b.length:Int))=True:=eq_true (by omega);have e2:(0≤(i:Int))=True:=eq_true (by omega);have ew:wrap64 ((i:Int)+1)=((i+1:Nat):Int):=jQ (n:=b.length) (by omega) (by omega);simp only[e1,if_true]
   have join:∀q:Bool,Comes (fun r=>r.1=b∧r.2.1=0) (fun k=>ky.j1 k b x (i:Int) q):=by
    intro q;refine Comes.step (fun k=>ky.j1.eq_2 ..) ?_;simp only[e1,e2,if_true,ew];exact Comes.ite (fun _=>ih (i+1) _ (by omega)) (fun _=>Comes.ret _ ⟨rfl,rfl⟩)
   exact join _
 exact key b.length 0 _ (by omega)
theorem amf (l:List Int) (hl:l.length≤1048576):Ev (fun k=>oT.f k l l) true:=by
 refine Ev.congr (fun k=>?_) (amg (fun i k=>oT.U k l l (i:Int)) l.length true (fun i hi h=>?_) ?_)
 ·simp only[oT.f];rw[if_pos trivial];rfl
 ·refine Ev.step (fun k=>?_) h;simp only[oT.U];rw[if_pos (by omega),if_pos (by omega),if_pos (by omega),if_pos trivial,jQ (n:=l.length) hi (by omega)]
 ·refine Ev.ends (fun k=>?_);simp only[oT.U];rw[if_neg (by omega)]
def tL:List ByteArray:=[(⟨#[97]⟩:ByteArray),(⟨#[98]⟩:ByteArray),(⟨#[108,111,103,45,49]⟩:ByteArray),(⟨#[99,117,114]⟩:ByteArray),(⟨#[116,109,112]⟩:ByteArray),(⟨#[120,46,57]⟩:ByteArray)]
theorem Uw (b:List Int) (i x:Int) (hb:b.length≤1048576) (hi:At b i):∃v j y,vx.f b i x=some (v,j,y)∧v ∈ tL∧At b j:=by
 obtain⟨v,j,y,e,hm,hj⟩:=Ym b i x tL hb hi (by decide);exact⟨v,j,y,by unfold vx.f;rw[show ([(⟨#[97]⟩:ByteArray),(⟨#[98]⟩:ByteArray),(⟨#[108,111,103,45,49]⟩:ByteArray),(⟨#[99,117,114]⟩:ByteArray),(⟨#[116,109,112]⟩:ByteArray),(⟨#[120,46,57]⟩:ByteArray)]:List ByteArray)=tL from rfl,e];rfl,hm,hj⟩
theorem qV {v:ByteArray} (h:v ∈ tL):v.size≤9223372036854775807:=by
 simp only[tL,List.mem_cons,List.not_mem_nil,or_false]at h
 rcases h with rfl|rfl|rfl|rfl|rfl|rfl<;>decide
theorem aeI (b:List Int):JD.f b=some (decide ((b.length:Int)>1048576)):=rfl
end Go.Proofs.YtingkpnoiekliaaGreat.MZ
end
section
namespace Go.Proofs.YtingkpnoiekliaaGreat.MZ
open Go.RowKit Go.Proofs.YtingkpnoiekliaaGreatW.PrintWords Go.Proofs.YtingkpnoiekliaaGreatW.PrintLast Go.Proofs.YtingkpnoiekliaaGreatW.PrintMore Go.Proofs.YtingkpnoiekliaaGreat.MWords
attribute [local go_sem] max2_int min2_int max_two min_two max_three min_three max_four min_four
set_option linter.unusedVariables false
set_option linter.unusedSimpArgs false
def Qa.f  : Option ((List (aj)) × (List (ab)) × (List (ab)) × Int):=some (([]:List (aj)),([]:List (ab)),([]:List (ab)),1)
set_option maxHeartbeats 8000000 in
set_option maxRecDepth 100000 in
theorem Qa.calls  (r1:List (aj)) (r2:List (ab)) (r3:List (ab)) (r4:Int) (w:World) (h:Qa.f  = some (r1,r2,r3,r4)) :
 Calls Tryz.prog 92 #[] w fun e w'=>∃bE cM cN:Value,e = .returned (.agg #[bE,cM,cN,.int .i64 r4])∧Kd.S bf 63 w' w.heap.size (fun _=>True) bE r1∧Kd.R ak 89 w' w.heap.size (fun k_=>some k_≠(cN:Value).ownBlock) cM r2∧Kd.R ak 89 w' w.heap.size (fun k_=>some k_≠(cM:Value).ownBlock) cN r3∧Below w.heap.size w w':=by
 have ly:=Tryz.underlying27;have HB:=J (Below.refl w.heap.size w);have H:(some (([]:List (aj)),([]:List (ab)),([]:List (ab)),1))=some (r1,r2,r3,r4):=h;clear h;simp only[Option.some.injEq,Prod.mk.injEq]at H;obtain⟨rfl,rfl,rfl,rfl⟩:=H;go_enter Tryz.func92,Tryz.ntmps92;go_wp2_with (first|((with_reducible refine aM (N:=0) rfl ?_);refine bg 0 #[.slice none 0 0,.slice none 0 0,.slice none 0 0,.int .i64 0] 27 ?_;intro agS hg w1 hbox hb;have Ru:=J (hbox);have aoO:=mG hg (mH HB.1);have abc:=mG hg (mH HB.1);replace HB:=J (aA (mH HB.1) hb);clear hb hbox hg;obtain⟨arv,arw,arx,ary,aum,aun,auo,aup⟩:=bP Ru.1));refine bodyPost_ret (results_cell_row rfl _ _ agS 27 #[.slice none 0 0,.slice none 0 0,.slice none 0 0,.int .i64 1] (0,0) _ rfl (by refine mK ?_;refine aN (cs:=#[.slice none 0 0,.slice none 0 0,.slice none 0 0,.int .i64 0]) ?_ 3 _ rfl;refine mK ?_;refine aN (cs:=#[.slice none 0 0,.slice none 0 0,.slice none 0 0,.int .i64 0]) ?_ 2 _ rfl;refine mK ?_;refine aN (cs:=#[.slice none 0 0,.slice none 0 0,.slice none 0 0,.int .i64 0]) ?_ 1 _ rfl;refine mK ?_;refine aN (cs:=#[.slice none 0 0,.slice none 0 0,.slice none 0 0,.int .i64 0]) ?_ 0 _ rfl;refine mK ?_;exact Ru.1) Tryz.underlying27 rfl (by kernel_rfl)) rfl ?_;exact⟨_,_,_,cP,by first|exact Kd.pg _ _ _ _ _|exact Kd.N_nil _ _ _ _ _|exact Kd.V_nil _ _ _ _ _|exact Kd.Q_nil _ _ _ _ _|exact Kd.lS _ _ _ _ _,by first|exact Kd.lS _ _ _ _ _|exact Kd.N_nil _ _ _ _ _|exact Kd.V_nil _ _ _ _ _|exact Kd.Q_nil _ _ _ _ _|exact Kd.pg _ _ _ _ _,by first|exact Kd.lS _ _ _ _ _|exact Kd.N_nil _ _ _ _ _|exact Kd.V_nil _ _ _ _ _|exact Kd.Q_nil _ _ _ _ _|exact Kd.pg _ _ _ _ _,(aZ HB.1 abc.1)⟩
end Go.Proofs.YtingkpnoiekliaaGreat.MZ
end
section
namespace Go.Proofs.YtingkpnoiekliaaGreat.MZ
open Go.RowKit Go.Proofs.YtingkpnoiekliaaGreatW.PrintWords Go.Proofs.YtingkpnoiekliaaGreatW.PrintLast Go.Proofs.YtingkpnoiekliaaGreatW.PrintMore Go.Proofs.YtingkpnoiekliaaGreat.MWords Go.Proofs.YtingkpnoiekliaaGreat.MZ
set_option linter.unusedVariables false
def jS (w0 w:World) (g:Nat):Prop:=∃b i h,aJ w0 w g b i h∧b.length≤1048576∧At b i
def Cm (w0 w w':World) (g:Nat):Prop:=jS w0 w' g∧Below w0.heap.size w0 w'∧cx w w' g none
structure Sd (w0 we:World) (g:Nat) (bs:List (Nat × Array Value)) (Q:World→Prop) (w:World):Prop where
 st:St w0 (fun k=>k<we.heap.size) bs Q w
 cu:jS w0 w g
 kb:cx we w g none
 hg:g<we.heap.size
 hw:w0.heap.size≤we.heap.size
 hb:∀b ∈ bs,we.heap.size≤b.1
theorem jS.keep {w0 w w1:World} {g:Nat} (h:jS w0 w g) (e:w1.heap[g]? = w.heap[g]?):jS w0 w1 g:=by
 obtain⟨b,i,x,⟨A,c,h1,h2,h3⟩,r⟩:=h;exact⟨b,i,x,⟨A,c,e.trans h1,h2,h3⟩,r⟩
theorem jS.lt {w0 w:World} {g:Nat} (h:jS w0 w g):g<w.heap.size:=by
 obtain⟨b,i,x,hI,_⟩:=h;exact hI.lt
section
variable {w0 we w w1:World} {bs:List (Nat × Array Value)} {Q Q':World→Prop} {g gb:Nat} {cs cs':Array Value} {d:Dk}
theorem Sd.q (h:Sd w0 we g bs Q w):Q w:=h.st.q
theorem Sd.start (hC:jS w0 w g) (hB:Below w0.heap.size w0 w):Sd w0 w g [] (fun _=>True) w:=
 ⟨⟨hB,fun _ _=>trivial,fun b hb=>absurd hb (by simp),List.Pairwise.nil⟩,hC,cx.refl _ _ _,hC.lt,hB.size,fun b hb=>absurd hb (by simp)⟩
theorem Sd.below (h:Sd w0 we g bs Q w) (hb:Below w.heap.size w w1):Sd w0 we g bs Q w1:=
 ⟨h.st.below hb,h.cu.keep (hb.block g h.cu.lt),h.kb.trans (cx.kI hb g none) (.inl rfl),h.hg,h.hw,h.hb⟩
theorem Sd.drew (h:Sd w0 we g bs Q w):Sd w0 we g bs Q w.drew:=h.below (tD (Below.refl _ _))
theorem Sd.call (h:Sd w0 we g bs Q w) (hb:Below w.heap.size w w1) (hq:Foot Q' w1 (fun k=>w.heap.size≤k)):Sd w0 we g bs (fun W=>Q W∧Q' W) w1:=
 ⟨h.st.call hb hq (fun k hk hl=>by have:=h.kb.1;omega),(h.below hb).cu,(h.below hb).kb,h.hg,h.hw,h.hb⟩
theorem Sd.imp (h:Sd w0 we g bs Q w) (hi:∀W,Q W→Q' W):Sd w0 we g bs Q' w:=⟨h.st.imp hi,h.cu,h.kb,h.hg,h.hw,h.hb⟩
theorem Sd.draw (h:Sd w0 we g bs Q w) (hc:Cm w0 w w1 g):Sd w0 we g bs Q w1:=
 ⟨h.st.keep hc.2.1 hc.2.2 h.hg (fun b hm e=>by have:=h.hb b hm;have:=h.hg;omega),hc.1,h.kb.trans hc.2.2 (.inl rfl),h.hg,h.hw,h.hb⟩
theorem Sd.AF (h:Sd w0 we g bs Q w) (hc:Cm w0 w w1 g) (hq:Foot Q' w1 (fun k=>w.heap.size≤k)):Sd w0 we g bs (fun W=>Q W∧Q' W) w1:=by
 have h1:=h.draw hc;exact⟨h1.st.and (hq.mono (fun k hk=>⟨fun hl=>by have:=h.kb.1;omega,fun b hm e=>by have:=fR (h.st.bx b hm).2.2;omega⟩)),h1.cu,h1.kb,h1.hg,h1.hw,h1.hb⟩
theorem Sd.box (h:Sd w0 we g bs Q w) (hg:gb=w.heap.size) (hbox:w1.heap[gb]? = some (.cells cs 27 (0,0))) (hb:Below w.heap.size w w1) (hs:cs.size=4):Sd w0 we g ((gb,cs)::bs) Q w1:=
 ⟨h.st.box hg hbox hb hs,(h.below hb).cu,(h.below hb).kb,h.hg,h.hw,fun b hm=>by
  rcases List.mem_cons.1 hm with rfl|hm
  ·have:=h.kb.1;simp only;omega
  ·exact h.hb b hm⟩
theorem Sd.set (h:Sd w0 we g bs Q w) (i:Nat) (hi:bs[i]? = some (gb,cs)) (hs:cs'.size=4):Sd w0 we g (bs.set i (gb,cs')) Q (w.setRow gb cs'):=by
 have hm:(gb,cs) ∈ bs:=List.mem_of_getElem? hi;have hge:=h.hb _ hm;have ho:∀k,k≠gb→(w.setRow gb cs').heap[k]? = w.heap[k]?:=fun k hk=>by simp only[World.setRow,Array.getElem?_modify];rw[if_neg (fun e=>hk e.symm)]
 refine⟨h.st.set i hi hs,h.cu.keep (ho g (by have:=h.hg;simp only at hge;omega)),⟨by have:=h.kb.1;simp[World.setRow];omega,fun k hk h1 h2=>(ho k (by simp only at hge;omega)).trans (h.kb.2 k hk h1 h2)⟩,h.hg,h.hw,fun b hb=>?_⟩
 rcases List.mem_or_eq_of_mem_set hb with hb|rfl
 ·exact h.hb b hb
 ·exact hge
end
section
variable {ops:Array Oper} {rest:List Oper} {o:Oper} {a:Act} {K:Exit→Act→World→Prop} {w0 we w:World} {bs:List (Nat × Array Value)} {Q:World→Prop} {g gb:Nat} {cs cs':Array Value} {d:Dk}
theorem pT (i:Nat) (HS:Sd w0 we g bs Q w) (hd:cH cs' d w) {p:Tmp} {x:Operand}
 (h:∀w1,Sd w0 we g (bs.set i (gb,cs')) Q w1→wpList Tryz.prog ops K rest a w1)
 (hi:bs[i]? = some (gb,cs):=by rfl) (ho:o.op = .store 27 (.tmp p) x:=by rfl) (he:a.eval (.tmp p) = .pointer (some ⟨gb,0,none⟩):=by rfl) (hx:a.eval x = .agg cs':=by rfl) (hN:o.dst=none:=by rfl) (hg:o.guard=none:=by rfl):wpList Tryz.prog ops K (o::rest) a w:=by
 have hb:=HS.st.bx _ (List.mem_of_getElem? hi);refine wpList_plain hg fun K' hK=>?_
 unfold Oper.wp;rw[PZ hb.2.2 hb.2.1 hd ho he hx];show K' (a.put o.dst undef) _;rw[hN];exact hK _ _ (h _ (HS.set i hi hd.size))
end
section
variable {ops:Array Oper} {rest:List Oper} {o:Oper} {a:Act} {K:Exit→Act→World→Prop} {w:World}
theorem am6 (l:List Int) (h:∀A c w1,Rb w w1 A c l→wpList Tryz.prog ops K rest (a.put o.dst (.slice A l.length c)) w1) {n:Tmp} (hg:o.guard=none:=by rfl) (hd:o.dst=some n:=by rfl)
 (hr:(execOp a.eval o).run Tryz.prog w = .ok (.value (.slice (some ⟨w.heap.size,0,none⟩) l.length l.length)) (w.alloc (.cells (l.map (Value.int .u8)).toArray 5)):=by first|(go_simp;done)|(go_simp;rfl)) (hm:l.length≤9223372036854775807:=by simp):wpList Tryz.prog ops K (o::rest) a w:=
 Kd.jc (Kd.int .u8) w.heap.size 5 hg hd (xs:=l) (ok:=fun _=>True) (okp:=fun _=>True) hr ⟨by show (l.map _).length=l.length*1;simp,fun j p hj=>by
  show _=[Value.int .u8 p];have hl:=(List.getElem?_eq_some_iff.1 hj).1;rw[show (Kd.int .u8).sz=1 from rfl,Nat.mul_one];refine List.ext_getElem? (fun i=>?_)
  rcases i with _|i
  ·simp[hj]
  ·simp;omega⟩ (fun _ h=>h) trivial (Below.refl _ _) (Nat.le_refl _) hm (fun v1 w1 hR hb _ _=>by
  obtain⟨A,c,rfl,r⟩:=PV hR hb;exact h A c w1 r)
end
section
variable {w0 w:World} {g:Nat}
theorem yw (n:Int) (hC:jS w0 w g) (hB:Below w0.heap.size w0 w):Calls Tryz.prog 59 #[.pointer (some ⟨g,0,none⟩),.int .i64 n] w (fun e w'=>∃v,e = .returned (.int .i64 v)∧(0≤v∧(0<n→v<n)∧(n≤0→v=0))∧Cm w0 w w' g):=by
 obtain⟨b,i,h,hI,hl,hi⟩:=hC;obtain⟨v,j,y,e,h0,h1,h2,hj⟩:=FP b i h n hl hi;exact(pQ.calls g b i h n v j y w0 w hI hB e).mono (fun e w' ⟨he,hI',hB',hk⟩=>⟨v,he,⟨h0,h1,h2⟩,⟨b,j,y,hI',hl,hj⟩,hB',hk⟩)
theorem MW (hC:jS w0 w g) (hB:Below w0.heap.size w0 w):Calls Tryz.prog 57 #[.pointer (some ⟨g,0,none⟩)] w (fun e w'=>∃v,e = .returned (.string v)∧v ∈ tL∧Cm w0 w w' g):=by
 obtain⟨b,i,h,hI,hl,hi⟩:=hC;obtain⟨v,j,y,e,hm,hj⟩:=Uw b i h hl hi;exact(vx.calls g b i h v j y w0 w hI hB e).mono (fun e w' ⟨he,hI',hB',hk⟩=>⟨v,he,hm,⟨b,j,y,hI',hl,hj⟩,hB',hk⟩)
theorem HJ (hC:jS w0 w g) (hB:Below w0.heap.size w0 w):Calls Tryz.prog 61 #[.pointer (some ⟨g,0,none⟩)] w (fun e w'=>∃A c l,e = .returned (.slice A l.length c)∧(bJ l∧l.length≤9)∧l.length≤c∧Foot (fun W=>Kd.C (Kd.int .u8) W A l.length l) w' (fun k=>w.heap.size≤k)∧Cm w0 w w' g):=by
 obtain⟨b,i,h,hI,hl,hi⟩:=hC;obtain⟨⟨l,j,y⟩,hr,K,hk⟩:=aln b i h hl hi;refine(F2.calls K g b i h l j y w0 w hI hB (hk K (Nat.le_refl _))).mono (fun e w' ⟨v,he,h0,hI',hB',hk⟩=>?_);have g:=Kd.jb h0;obtain⟨A,c,rfl,hc,_⟩:=Kd.lT g;exact⟨A,c,l,he,⟨hr.1,hr.2.1⟩,hc,Kd.Cg (Kd.Mb g) (fun k hk=>hk.2.1),⟨b,j,y,hI',hl,hr.2.2⟩,hB',hk⟩
theorem al9:Calls Tryz.prog 92 #[] w (fun e w'=>∃cs,e = .returned (.agg cs)∧Rf w w' cs ⟨[],[],[],1⟩):=by
 refine(Qa.calls _ _ _ _ w rfl).mono (fun e w' ⟨v0,v1,v2,he,h0,h1,h2,hb⟩=>⟨_,he,?_⟩);exact Fr.rf (Ns h0 h1 h2) hb
theorem St.draw {X:Nat→Prop} {bs:List (Nat × Array Value)} {Q Q':World→Prop} {w1:World} (h:St w0 X bs Q w) (hC:jS w0 w g) (hc:Cm w0 w w1 g) (hq:Foot Q' w1 (fun k=>w.heap.size≤k)):St w0 (fun k=>k<w.heap.size) bs Q' w1:=by
 have hne:∀b ∈ bs,b.1≠g:=fun b hm e=>by
  obtain⟨l,i,x,⟨A,c,h1,_⟩,_⟩:=hC;have h2:=(h.bx b hm).2.2;rw[e,h1]at h2;injection h2 with h2
  injection h2 with _ h2
  exact absurd h2 (by decide)
 refine⟨hc.2.1,hq.mono (fun k hk=>⟨Nat.not_lt.2 hk,fun b hm e=>?_⟩),fun b hm=>⟨(h.bx b hm).1,(h.bx b hm).2.1,?_⟩,h.nd⟩
 ·have:=fR (h.bx b hm).2.2;omega
 ·rw[hc.2.2.2 _ (fR (h.bx b hm).2.2) (hne b hm) (by simp)];exact(h.bx b hm).2.2
theorem afC {A:Option Addr} {c:Nat} {l:List Int} (hB:Below w0.heap.size w0 w) (hr:Kd.C (Kd.int .u8) w0 A l.length l) (hc:l.length≤c) (hl:l.length≤1048576):Calls Tryz.prog 22 #[.slice A l.length c] w (fun e w'=>∃g,e = .returned (.pointer (some ⟨g,0,none⟩))∧jS w0 w' g∧Below w.heap.size w w'):=by
 obtain⟨⟨b,i,x⟩,pB,K,hk⟩:=alm l hl;dsimp only at pB;obtain⟨rfl,rfl⟩:=pB;exact(ky.calls K A c b b 0 x w0 w hB hr hc (hk K (Nat.le_refl _))).mono (fun e w' ⟨g,he,hI,_,hb⟩=>⟨g,he,⟨b,0,x,hI,hl,⟨Int.le_refl _,by omega⟩⟩,hb⟩)
end
end Go.Proofs.YtingkpnoiekliaaGreat.MZ
end
section
namespace Go.Proofs.YtingkpnoiekliaaGreat.MZ
open Go.RowKit Go.Proofs.YtingkpnoiekliaaGreatW.PrintWords Go.Proofs.YtingkpnoiekliaaGreatW.PrintLast Go.Proofs.YtingkpnoiekliaaGreatW.PrintMore Go.Proofs.YtingkpnoiekliaaGreat.MWords Go.Proofs.YtingkpnoiekliaaGreat.MZ
set_option linter.unusedVariables false
set_option linter.unusedSimpArgs false
section
variable {w:World} {cs:Array Value} {d:Dk} {nm nq:ByteArray}
theorem BD (hd:cH cs d w) (hs:Small d.f0 d.f1 d.f2) (hn:nm.size≤9223372036854775807):Calls Tryz.prog 30 #[.agg cs,.string nm] w (fun e w'=>e = .returned (.int .i64 (dt (bO d.f0 d.f1 d.f2 d.f3) d.f1 nm))∧Below w.heap.size w w'):=by
 obtain⟨K,hk⟩:=OH d.f0 d.f1 d.f2 d.f3 nm hn hs;obtain⟨A0,c0,A1,c1,A2,c2,rfl,U,g0,l1,g1,l2,g2⟩:=hd.open;exact gJ.calls K _ _ _ _ _ _ _ _ _ _ _ _ w g0 U g1 l1 g2 l2 (hk K (Nat.le_refl _))
theorem sOk (hd:cH cs d w) (hs:Small d.f0 d.f1 d.f2):Calls Tryz.prog 71 #[.agg cs] w fun e w'=>e = .returned (.bool (bO d.f0 d.f1 d.f2 d.f3))∧Below w.heap.size w w':=P2 hd hs
end
def JI (w0 w:World) (k:Nat):Prop:=w.heap.size≤k∨(w0.heap.size≤k∧∃q,q≠27∧∃cells:Array Value × (Nat × Nat),w.heap[k]? = some (.cells cells.1 q cells.2))
theorem pf.fr {b:Nat} {v0 v1 v2:Value} {d:Dk} {W:World} (h:pf b v0 v1 v2 d W):Fd b #[v0,v1,v2,.int .i64 d.f3] d W:=Ns h.1 h.2.1 h.2.2 (fun _ h=>h.2) (fun _ h=>h.2)
theorem pf.open {b:Nat} {v0 v1 v2:Value} {d:Dk} {W:World} (h:pf b v0 v1 v2 d W):∃A0 c0 A1 c1 A2 c2,v0 = .slice A0 d.f0.length c0∧v1 = .slice A1 d.f1.length c1∧v2 = .slice A2 d.f2.length c2:=by
 obtain⟨A1,c1,rfl,l1,g1⟩:=Kd.lT h.2.1;obtain⟨A2,c2,rfl,l2,g2⟩:=Kd.lT h.2.2;obtain⟨A0,c0,rfl⟩:=Kd.kF h.1;exact⟨A0,c0,A1,c1,A2,c2,rfl,rfl,rfl⟩
theorem J5 {w0 w:World} {cs:Array Value} {d:Dk} (im:Below w0.heap.size w0 w) (hd:cH cs d w0) (hs:Small d.f0 d.f1 d.f2):Calls Tryz.prog 31 #[.agg cs] w (fun e w'=>∃A0 c0 A1 c1 A2 c2,e = .returned (.agg #[.slice A0 d.f0.length c0,.slice A1 d.f1.length c1,.slice A2 d.f2.length c2,.int .i64 d.f3])∧Foot (pf w0.heap.size (.slice A0 d.f0.length c0) (.slice A1 d.f1.length c1) (.slice A2 d.f2.length c2) d) w' (fun k=>w.heap.size≤k)∧Below w.heap.size w w'):=
 (P0 (eh hd im) hs).mono (fun e w' ⟨v0,v1,v2,he,hF,hb⟩=>by
  obtain⟨A0,c0,A1,c1,A2,c2,rfl,rfl,rfl⟩:=hF.now.open;exact⟨A0,c0,A1,c1,A2,c2,he,hF.imp (fun W h=>h.lower im.size),hb⟩)
theorem J7 {w0 w:World} {c0:Array Value} {d0 d1:Dk} {v0 v1 v2:Value} {p0 p1 p2:Nat→Prop} (hB:Below w0.heap.size w0 w) (h0:cH c0 d0 w0) (g0:Kd.S bf 63 w w0.heap.size p0 v0 d1.f0) (g1:Kd.R ak 89 w w0.heap.size p1 v1 d1.f1) (g2:Kd.R ak 89 w w0.heap.size p2 v2 d1.f2)
 (hne:∀k,v1.ownBlock=some k→v2.ownBlock≠some k) (s0:Small d0.f0 d0.f1 d0.f2) (s1:Small d1.f0 d1.f1 d1.f2):Calls Tryz.prog 95 #[.agg c0,.agg #[v0,v1,v2,.int .i64 d1.f3]] w (fun e w'=>∃cs',e = .returned (.tuple #[.agg cs',.int .i64 (jl d0.f0 d0.f1 d0.f2 d0.f3 d1.f0 d1.f1 d1.f2 d1.f3).2.2.2.2])∧Fr w0.heap.size (JI w0 w) cs' (bR (jl d0.f0 d0.f1 d0.f2 d0.f3 d1.f0 d1.f1 d1.f2 d1.f3)) w'∧Below w0.heap.size w0 w'∧Kept w w' (fun k=>∃cells:Array Value × (Nat × Nat),w.heap[k]? = some (.cells cells.1 89 cells.2))):=by
 have t1:=Kd.fj g1;have t2:=Kd.fj g2;have b0:=Kd.nU (Kd.nS (Kd.nS g0 t1 (by decide)) t2 (by decide));obtain⟨A3,c3,rfl⟩:=Kd.kF g0;have r3:=Kd.kf g0;have hF:Kd.F bf w (fun k=>((w0.heap.size≤k∧∃q,q≠27∧∃cells:Array Value × (Nat × Nat),w.heap[k]? = some (.cells cells.1 q cells.2))∧some k≠v1.ownBlock∧some k≠v2.ownBlock)∧k<w.heap.size) A3 d1.f0.length d1.f0:=Kd.GI (Kd.Cg (Kd.Mb (Kd.r8 b0)) (fun k hk=>⟨⟨hk.2.1,by obtain⟨q,hq,cells,hc⟩:=hk.2.2.2;exact⟨q,fun e=>absurd (e▸hq) (by decide),cells,hc⟩⟩,hk.1.1.2,hk.1.2⟩));have u1:=Kd.dK g1;have u2:=Kd.dK g2;obtain⟨A4,c4,rfl,l4,r4⟩:=Kd.lT g1;obtain⟨A5,c5,rfl,l5,r5⟩:=Kd.lT g2;have hw:=hB.size;have o1:∀ {v:Value} {l:List ab} {p:Nat→Prop},Kd.R ak 89 w w0.heap.size p v l→∀k,some k=v.ownBlock→JI w0 w k:=fun g k h=>Or.inr ⟨Kd.fB g k h.symm,by obtain⟨cells,hc⟩:=Kd.fj g k h.symm;exact⟨89,by decide,cells,hc⟩⟩
 refine(Y3 (d1:=d1) (eh h0 hB) hF r3.2.1 r4 l4 r5 l5 s0 s1).mono (fun e w' ⟨hb,hq⟩=>?_)
 rcases hq with ⟨hz,v,he,hN⟩|⟨hz,x0,x1,x2,he,hR⟩
 ·rw[show jl d0.f0 d0.f1 d0.f2 d0.f3 d1.f0 d1.f1 d1.f2 d1.f3=(kept d1.f0 d1.f1 d1.f2,d1.f1,d1.f2,d1.f3,0) from if_pos hz];refine⟨_,he,⟨_,_,_,rfl,Kd.uB (Kd.dH hN (fun k hk=>?_)) hw,Kd.aw (Kd.bu (Kd.mu rfl g1) hb) (fun k hk=>⟨o1 g1 k hk,fun e=>hne k hk.symm e.symm⟩),Kd.aw (Kd.bu (Kd.mu rfl g2) hb) (fun k hk=>⟨o1 g2 k hk,fun e=>hne k e.symm hk.symm⟩)⟩,aA hB hb,Kept.kI hb _⟩
  rcases hk with hk|hk
  ·exact⟨Or.inr hk.1.1,hk.1.2⟩
  ·exact⟨Or.inl hk,fun e=>by have:=u1 k e.symm;omega,fun e=>by have:=u2 k e.symm;omega⟩
 ·rw[show jl d0.f0 d0.f1 d0.f2 d0.f3 d1.f0 d1.f1 d1.f2 d1.f3=(d0.f0,d0.f1,d0.f2,d0.f3,4) from if_neg hz];exact⟨_,he,Fr.mono hR.fr hw (fun k hk=>Or.inl hk),aA hB hb,Kept.kI hb _⟩
theorem alC {w0 w:World} {X:Nat→Prop} {bs:List (Nat × Array Value)} {Q:World→Prop} (h:St w0 X bs Q w):∀b ∈ bs,¬ ∃cells:Array Value × (Nat × Nat),w.heap[b.1]? = some (.cells cells.1 89 cells.2):=fun b hm ⟨cells,hc⟩=>by
 rw[(h.bx b hm).2.2]at hc;injection hc with hc
 injection hc with _ hc
 exact absurd hc (by decide)
abbrev Xo (w:World) (k:Nat):Prop:=k<w.heap.size
theorem xO {w0 w:World} (h:Below w0.heap.size w0 w):∀k,w.heap.size≤k→¬Xo w0 k:=fun k hk hl=>by have:=h.size;unfold Xo at hl;omega
theorem St.ends {w0 w w1:World} {bs:List (Nat × Array Value)} {Q Q':World→Prop} (h:St w0 (Xo w0) bs Q w) (hb:Below w0.heap.size w0 w1) (hk:Kept w w1 (fun k=>∃cells:Array Value × (Nat × Nat),w.heap[k]? = some (.cells cells.1 89 cells.2))) (hq:Foot Q' w1 (JI w0 w)):St w0 (Xo w0) bs Q' w1:=by
 refine((h.kept hb hk (alC h)).and (hq.mono (fun k ho=>?_))).imp (fun _ h=>h.2)
 rcases ho with ho|⟨ho,q,hq,cells,hc⟩
 ·exact⟨xO h.be k ho,fun b hm e=>by have:=fR (h.bx b hm).2.2;omega⟩
 ·refine⟨Nat.not_lt.2 ho,fun b hm e=>?_⟩;have h2:=(h.bx b hm).2.2;rw[e,hc]at h2;injection h2 with h2
  injection h2 with _ h2
  exact hq h2
theorem St.HQ {w0 w w1:World} {bs:List (Nat × Array Value)} {Q:World→Prop} {cs:Array Value} {d:Dk} (h:St w0 (Xo w0) bs Q w) (hb:Below w0.heap.size w0 w1) (hk:Kept w w1 (fun k=>∃cells:Array Value × (Nat × Nat),w.heap[k]? = some (.cells cells.1 89 cells.2))) (hq:Fr w0.heap.size (JI w0 w) cs d w1):St w0 (Xo w0) bs (Fd w0.heap.size cs d) w1:=
 (h.ends hb hk hq.wD).imp (fun _ g=>Fr.mono g (Nat.le_refl _) (fun _ hk=>hk.elim (fun h1=>Nat.le_trans h.be.size h1) (fun h=>h.1)))
theorem St.rf {w0 w:World} {bs:List (Nat × Array Value)} {cs:Array Value} {d:Dk} (h:St w0 (Xo w0) bs (Fd w0.heap.size cs d) w):Rf w0 w cs d:=⟨h.ft.mono (fun k hk=>Nat.not_lt.1 hk.1),h.be⟩
theorem Zc {w0 w:World} {A:Option Addr} {c:Nat} {l:List ab} {nm:ByteArray} (im:Below w0.heap.size w0 w) (hr:Kd.C ak w A l.length l) (hc:l.length≤c) (hl:l.length≤1048576):Calls Tryz.prog 113 #[.slice A l.length c,.string nm] w (fun e w'=>∃A' c',e = .returned (.slice A' (fW l nm).length c')∧Foot (fun W=>Kd.R ak 89 W w0.heap.size (fun k=>w.heap.size≤k) (.slice A' (fW l nm).length c') (fW l nm)) w' (fun k=>w.heap.size≤k)∧Below w.heap.size w w'):=by
 obtain⟨K,hk⟩:=amy l nm hl;refine(me.calls K A c l nm _ w hr hc (hk K (Nat.le_refl _))).mono (fun e w' ⟨v0,he,h0,hb⟩=>?_);have g:=Kd.jb h0;obtain⟨A',c',rfl⟩:=Kd.bU g;exact⟨A',c',he,H5 (Kd.bT (Kd.aw g (fun k hk=>hk.2.1)) im.size),hb⟩
set_option maxHeartbeats 8000000 in
set_option maxRecDepth 100000 in
theorem Y9 {w:World} {cs:Array Value} {d:Dk} {nm:ByteArray} (hd:cH cs d w) (hs:Small d.f0 d.f1 d.f2) (hn:nm.size≤9223372036854775807):Calls Tryz.prog 76 #[.agg cs,.string nm] w (Pe w (oU d.f0 d.f1 d.f2 d.f3 nm)):=by
 have kT:=hd;obtain⟨a0,e0,a1,e1,a2,e2,rfl,_⟩:=hd.open;clear hd;have HS:=St.start w (Xo w);by_cases hzz:dt (bO d.f0 d.f1 d.f2 d.f3) d.f1 nm=0
 case' pos=>rw[show oU d.f0 d.f1 d.f2 d.f3 nm=jl d.f0 d.f1 d.f2 d.f3 d.f0 (fW d.f1 nm) d.f2 d.f3 from if_pos hzz]
 case' neg=>rw[show oU d.f0 d.f1 d.f2 d.f3 nm=(d.f0,d.f1,d.f2,d.f3,dt (bO d.f0 d.f1 d.f2 d.f3) d.f1 nm) from if_neg hzz]
 all_goals generalize hz:dt (bO d.f0 d.f1 d.f2 d.f3) d.f1 nm=z at hzz ⊢;replace hz:=J hz
 case' pos=>have h0:(z != 0)=false:=by simpa using hzz
 case' neg=>have h0:(z != 0)=true:=by simpa using hzz
 all_goals
  clear hzz;go_enter Tryz.func76,Tryz.ntmps76;go_wp2_with (first|((with_reducible refine aM (N:=2) rfl ?_);refine bg 2 #[.slice a0 d.f0.length e0,.slice a1 d.f1.length e1,.slice a2 d.f2.length e2,.int .i64 d.f3] 27 ?_;intro g2 hg w1 hx hb;replace HS:=HS.box hg hx hb rfl;clear hb hx hg)|((with_reducible refine aM (N:=4) rfl ?_);refine bg 4 #[.slice none 0 0,.slice none 0 0,.slice none 0 0,.int .i64 0] 27 ?_;intro g4 hg w1 hx hb;replace HS:=HS.box hg hx hb rfl;clear hb hx hg)|((with_reducible refine aM (N:=6) rfl ?_);refine bg 6 #[.slice none 0 0,.slice none 0 0,.slice none 0 0,.int .i64 0] 27 ?_;intro g6 hg w1 hx hb;replace HS:=HS.box hg hx hb rfl;clear hb hx hg)|(first|refine br 0 HS ?_|refine br 1 HS ?_|refine br 2 HS ?_|refine kL 0 1 HS ?_)|((with_reducible refine aH (f:=31) rfl ?_);refine bz Tryz.func31 (J5 HS.be kT hs) ?_;rintro e w1 ⟨A0,c0,A1,c1,A2,c2,rfl,hF,hb⟩;refine⟨_,rfl,?_⟩;replace HS:=(HS.call hb hF (xO HS.be)).imp (fun _ h=>h.2);clear hF hb)|((with_reducible refine aH (f:=30) rfl ?_);refine bz Tryz.func30 (BD (eh kT HS.be) hs hn) ?_;rintro e w1 ⟨rfl,hb⟩;refine⟨_,rfl,?_⟩;replace HS:=HS.below hb;clear hb;rw[hz.1])|((with_reducible refine dM rfl ?_);(first|refine eP 0 HS HS.q.bM ?_|refine eP 1 HS HS.q.bM ?_);intro w1 HT;replace HS:=HT;clear HT;simp only[List.set]at HS)|((with_reducible refine aH (f:=113) rfl ?_);have wR:=Kd.dK HS.q.2.2;have nC:=Kd.bG HS.q.2.1;refine bz Tryz.func113 (Zc HS.be nC.2.2 nC.2.1 hs.h1) ?_;rintro e w1 ⟨A3,c3,rfl,hF,hb⟩;have hne:Aside0 (∀k,(Value.slice A3 (fW d.f1 nm).length c3).ownBlock=some k→(Value.slice A2 d.f2.length c2).ownBlock≠some k):=⟨fun k h1 h2=>Nat.lt_irrefl _ (Nat.lt_of_lt_of_le (wR k h2) (hF.now.1 k h1))⟩;refine⟨_,rfl,?_⟩;replace HS:=HS.call hb hF (xO HS.be);clear hF hb nC wR)|((with_reducible refine aH (f:=95) rfl ?_);refine bz Tryz.func95 (J7 (d1:=⟨d.f0,fW d.f1 nm,d.f2,d.f3⟩) HS.be kT HS.q.1.1 HS.q.2 HS.q.1.2.2 hne.1 hs (hs.fW nm)) ?_;rintro e w1 ⟨c9,rfl,hF,hb,hk⟩;refine⟨_,rfl,?_⟩;replace HS:=HS.HQ hb hk hF;clear hF hb hk)|((with_reducible refine dM rfl ?_);refine zH 0 1 HS ?_;intro w1 HT;replace HS:=HT;clear HT;simp only[List.set,zA,zB,zC]at HS)|((with_reducible refine dM rfl ?_);refine eP 1 HS HS.q.bM ?_;intro w1 HT;replace HS:=HT;clear HT;simp only[List.set]at HS))
 all_goals first|exact bodyPost_ret (gT rfl _ _ g4 27 c9 (0,0) _ rfl (HS.bx _ (.tail _ (.head _))).2.2 Tryz.underlying27 rfl (by rw[Tryz.fZ,HS.q.size])) rfl ⟨c9,rfl,HS.rf⟩|exact bodyPost_ret (gT rfl _ _ g4 27 _ (0,0) _ rfl (HS.bx _ (.tail _ (.head _))).2.2 Tryz.underlying27 rfl (by rw[Tryz.fZ];rfl)) rfl ⟨_,rfl,(HS.imp (fun _ h=>h.fr)).rf⟩
theorem Y1 {w:World} {A:Option Addr} {c:Nat} {l:List ab} {nm:ByteArray} (hr:Kd.C ak w A l.length l) (hc:l.length≤c) (hl:l.length≤1048576):Calls Tryz.prog 73 #[.slice A l.length c,.string nm] w (fun e w'=>e = .returned (.int .i64 (nameAt l nm))∧Below w.heap.size w w'):=by
 obtain⟨K,hk⟩:=FR l nm hl;exact(ic.calls K A c l nm _ w hr hc (hk K (Nat.le_refl _))).mono (fun e w' ⟨he,m,hd⟩=>⟨he,by subst hd;exact ff (Below.refl _ _) m⟩)
theorem Zb {w0 w:World} {A:Option Addr} {c:Nat} {l l':List ab} {nm:ByteArray} {n:Int} (im:Below w0.heap.size w0 w) (hr:Kd.C ak w A l.length l) (hc:l.length≤c) (hl:l.length≤1048576) (hev:Ev (fun k=>dP.f k l nm n) l'):Calls Tryz.prog 94 #[.slice A l.length c,.agg #[.string nm,.int .i64 n]] w (fun e w'=>∃A' c',e = .returned (.slice A' l'.length c')∧Foot (fun W=>Kd.R ak 89 W w0.heap.size (fun k=>w.heap.size≤k) (.slice A' l'.length c') l') w' (fun k=>w.heap.size≤k)∧Below w.heap.size w w'):=by
 obtain⟨K,hk⟩:=hev;refine(dP.calls K A c l nm n _ w hr hc (hk K (Nat.le_refl _))).mono (fun e w' ⟨v0,he,h0,hb⟩=>?_);have g:=Kd.jb h0;obtain⟨A',c',rfl⟩:=Kd.bU g;exact⟨A',c',he,H5 (Kd.bT (Kd.aw g (fun k hk=>hk.2.1)) im.size),hb⟩
set_option maxHeartbeats 8000000 in
set_option maxRecDepth 100000 in
theorem Za {w:World} {cs:Array Value} {d:Dk} {nm nq:ByteArray} (hd:cH cs d w) (hs:Small d.f0 d.f1 d.f2) (hn:nm.size≤9223372036854775807) (hq:nq.size≤9223372036854775807):Calls Tryz.prog 77 #[.agg cs,.string nm,.string nq] w (Pe w (oV d.f0 d.f1 d.f2 d.f3 nm nq)):=by
 have kT:=hd;obtain⟨a0,e0,a1,e1,a2,e2,rfl,_⟩:=hd.open;clear hd;have HS:=St.start w (Xo w);unfold oV;generalize hz:dt (bO d.f0 d.f1 d.f2 d.f3) d.f1 nm=z
 replace hz:=J hz;generalize hno:fe nq=b
 replace hno:=J hno;by_cases h1:z=1
 case' pos=>rw[if_pos (Or.inl h1)];have h1b:(z == 1)=true:=beq_iff_eq.2 h1;clear h1
 case' neg=>
  have h1b:(z == 1)=false:=beq_eq_false_iff_ne.2 h1;cases b
  case' false=>rw[if_pos (Or.inr rfl)];clear h1
  case' true=>
   rw[if_neg (fun h=>h.elim h1 (by simp))];by_cases h0:z=0
   case' neg=>rw[if_neg h0];have Nz:(z != 0)=true:=bne_iff_ne.2 h0;clear h0 h1
   case' pos=>
    rw[if_pos h0];have Nz:(z != 0)=false:=by simpa using h0
    replace h0:=J h0;clear h1;by_cases he:nm.toList=nq.toList
    case' pos=>rw[if_pos he];have heb:(nm.toList == nq.toList)=true:=beq_iff_eq.2 he;clear he
    case' neg=>rw[if_neg he];have heb:(nm.toList == nq.toList)=false:=beq_eq_false_iff_ne.2 he;clear he
 all_goals
  go_enter Tryz.func77,Tryz.ntmps77;go_wp2_with (first|((with_reducible refine aM (N:=3) rfl ?_);refine bg 3 #[.slice a0 d.f0.length e0,.slice a1 d.f1.length e1,.slice a2 d.f2.length e2,.int .i64 d.f3] 27 ?_;intro g3 hg w1 hx hb;replace HS:=HS.box hg hx hb rfl;clear hb hx hg)|((with_reducible refine aM (N:=6) rfl ?_);refine bg 6 #[.slice none 0 0,.slice none 0 0,.slice none 0 0,.int .i64 0] 27 ?_;intro g6 hg w1 hx hb;replace HS:=HS.box hg hx hb rfl;clear hb hx hg)|((with_reducible refine aM (N:=8) rfl ?_);refine bg 8 #[.slice none 0 0,.slice none 0 0,.slice none 0 0,.int .i64 0] 27 ?_;intro g8 hg w1 hx hb;replace HS:=HS.box hg hx hb rfl;clear hb hx hg)|(first|refine br 0 HS ?_|refine br 1 HS ?_|refine br 2 HS ?_|refine kL 0 1 HS ?_)|((with_reducible refine aH (f:=31) rfl ?_);refine bz Tryz.func31 (J5 HS.be kT hs) ?_;rintro e w1 ⟨A0,c0,A1,c1,A2,c2,rfl,hF,hb⟩;refine⟨_,rfl,?_⟩;replace HS:=(HS.call hb hF (xO HS.be)).imp (fun _ h=>h.2);clear hF hb)|((with_reducible refine aH (f:=30) rfl ?_);refine bz Tryz.func30 (BD (eh kT HS.be) hs hn) ?_;rintro e w1 ⟨rfl,hb⟩;refine⟨_,rfl,?_⟩;replace HS:=HS.below hb;clear hb;rw[hz.1])|((with_reducible refine aH (f:=72) rfl ?_);(try (refine kQ (by rfl) ?_;dsimp only));refine bz Tryz.func72 (Y7 hq) ?_;rintro e w1 ⟨rfl,hb⟩;refine⟨_,rfl,?_⟩;replace HS:=HS.below hb;clear hb;rw[hno.1])|((with_reducible refine dM rfl ?_);(first|refine eP 0 HS HS.q.bM ?_|refine eP 1 HS HS.q.bM ?_);intro w1 HT;replace HS:=HT;clear HT;simp only[List.set]at HS))
 any_goals exact bodyPost_ret (gT rfl _ _ g6 27 _ (0,0) _ rfl (HS.bx _ (.tail _ (.head _))).2.2 Tryz.underlying27 rfl (by rw[Tryz.fZ];rfl)) rfl ⟨_,by first|rfl|(rw[h0.1];rfl),(HS.imp (fun _ h=>h.fr)).rf⟩
 obtain⟨hok,_,j,m,hj,hja,hid,_,_,_⟩:=MN (hz.1.trans h0.1);have hwi:Ev (fun k=>dP.f k (fW d.f1 nm) nq (dN d.f1 nm)) (renamed d.f1 nm nq):=alq (fW d.f1 nm) nq _ (Nat.le_trans (xw d.f1 nm) hs.h1) (QM nm (HX (tK hok).2.1));have hrd:=Kd.bG HS.q.2.1;obtain⟨ad,rfl,Ou,yL⟩:=jw hrd.2.2 (j:Int) (by omega) (by omega);rw[←hid,Int.toNat_natCast]at yL;have q1:=eq_true (show (0:Int)≤(j:Int) by omega);have q2:=eq_true (show (j:Int)<(d.f1.length:Int) by omega);replace hid:=J hid;replace hja:=J hja;replace hok:=J hok;refine ez (n:=10) (S:=fun W=>W.cell? ⟨g8,1,none⟩=some (.slice (some ad) d.f1.length c1)∧W.cell? ⟨(ad.add (j*2)).block,(ad.add (j*2)).off+1,none⟩=some (.int .i64 (dN d.f1 nm))) (ds:=[]) (mb 0 10) (by kernel_rfl) rfl rfl ⟨mZ (HS.bx _ (.head _)).2.2 1,yL⟩ (fun hh=>?_);replace HS:=HS.drew;refine rP 0 (mb 1 9) ?_;refine rP 2 (mr [1,1,1,7]) ?_;refine rP 4 (mr [1,1,1,1,1,5]) ?_;refine rT 1 (mr [3,1,1,5]) hh ?_;refine rT 3 (mb 5 5) hh ?_;refine rC 5 (mb 6 4) Tryz.func73 (Y1 (Kd.bG HS.q.2.1).2.2 (Kd.bG HS.q.2.1).2.1 hs.h1) ?_;rintro e w5 ⟨rfl,hb⟩;replace HS:=HS.below hb;rw[hja.1];refine⟨_,rfl,⟨mX hb hh.1,mX hb hh.2⟩,fun hh=>rN ?_⟩;clear hb;refine rP 6 (mb 7 3) ?_;refine rP 7 (mb 8 2) ?_;refine rT 8 (mb 9 1) hh ?_;refine rP 9 (mb 10 0) ?_;refine eM (by kernel_rfl) ?_;clear hh Ou yL;replace hok:=hok.1;go_wp2_with (first|(first|refine br 0 HS ?_|refine br 1 HS ?_|refine br 2 HS ?_|refine kL 0 1 HS ?_)|((with_reducible refine aH (f:=113) rfl ?_);have nC:=Kd.bG HS.q.2.1;refine bz Tryz.func113 (Zc HS.be nC.2.2 nC.2.1 hs.h1) ?_;rintro e w1 ⟨A3,c3,rfl,hF,hb⟩;refine⟨_,rfl,?_⟩;replace HS:=HS.call hb hF (xO HS.be);clear hF hb nC)|((with_reducible refine aH (f:=94) rfl ?_);have nC:=Kd.bG HS.q.2;have wR:=Kd.dK HS.q.1.2.2;refine bz Tryz.func94 (Zb HS.be nC.2.2 nC.2.1 (Nat.le_trans (xw d.f1 nm) hs.h1) hwi) ?_;rintro e w1 ⟨A4,c4,rfl,hF,hb⟩;have hne:Aside0 (∀k,(Value.slice A4 (renamed d.f1 nm nq).length c4).ownBlock=some k→(Value.slice A2 d.f2.length c2).ownBlock≠some k):=⟨fun k h1 h2=>Nat.lt_irrefl _ (Nat.lt_of_lt_of_le (wR k h2) (hF.now.1 k h1))⟩;refine⟨_,rfl,?_⟩;replace HS:=(HS.call hb hF (xO HS.be)).imp (fun _ h=>And.intro h.1.1 h.2);clear hF hb nC wR)|((with_reducible refine aH (f:=95) rfl ?_);refine bz Tryz.func95 (J7 (d1:=⟨d.f0,renamed d.f1 nm nq,d.f2,d.f3⟩) HS.be kT HS.q.1.1 HS.q.2 HS.q.1.2.2 hne.1 hs (YW hs hok hq)) ?_;rintro e w1 ⟨c9,rfl,hF,hb,hk⟩;refine⟨_,rfl,?_⟩;replace HS:=HS.HQ hb hk hF;clear hF hb hk)|((with_reducible refine dM rfl ?_);refine zH 0 1 HS ?_;intro w1 HT;replace HS:=HT;clear HT;simp only[List.set,zA,zB,zC]at HS)|((with_reducible refine dM rfl ?_);refine eP 1 HS HS.q.bM ?_;intro w1 HT;replace HS:=HT;clear HT;simp only[List.set]at HS));exact bodyPost_ret (gT rfl _ _ g6 27 c9 (0,0) _ rfl (HS.bx _ (.tail _ (.head _))).2.2 Tryz.underlying27 rfl (by rw[Tryz.fZ,HS.q.size])) rfl ⟨c9,rfl,HS.rf⟩
end Go.Proofs.YtingkpnoiekliaaGreat.MZ
end
