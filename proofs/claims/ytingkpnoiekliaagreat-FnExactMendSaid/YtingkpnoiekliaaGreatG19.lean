/- Walks and plain laws, put together: no condition of their own. -/
import Derived.Test.YtingkpnoiekliaaGreatVAll
import Derived.Test.YtingkpnoiekliaaGreatG1
import Derived.Test.YtingkpnoiekliaaGreatG2
import Derived.Test.YtingkpnoiekliaaGreatMZx17
import Derived.Test.YtingkpnoiekliaaGreatG16
import Derived.Test.YtingkpnoiekliaaGreatG17
import Derived.Test.YtingkpnoiekliaaGreatG9
import Derived.Test.YtingkpnoiekliaaGreatG12
section
namespace Go.Proofs.YtingkpnoiekliaaGreat.MZ
open Go.RowKit Go.Proofs.YtingkpnoiekliaaGreatW.PrintWords Go.Proofs.YtingkpnoiekliaaGreatW.PrintLast Go.Proofs.YtingkpnoiekliaaGreatW.PrintMore Go.Proofs.YtingkpnoiekliaaGreat.MWords
attribute [local go_sem] max2_int min2_int max_two min_two max_three min_three max_four min_four
set_option linter.unusedVariables false
set_option linter.unusedSimpArgs false
def tq.f (s:ByteArray):Option (List Int):=if s.size≤4611686018427387904 then some (bytesOf s) else none
theorem al6 {w:World} {e:TypeId} (s:ByteArray) (hs:s.size≤4611686018427387904):Mz.Z e (Lib.bytesWorld w e s) w.heap.size (fun _=>True) (.slice (some ⟨w.heap.size,0,none⟩) s.size (grownCap w s.size 0 e)) (bytesOf s):=by
 have hl:(bytesOf s).length=s.size:=by simp[bytesOf]
 refine⟨fun _ _=>trivial,by omega,.inr ⟨w.heap.size,grownCap w s.size 0 e,Lib.bytesCells w e s,((Lib.bytesCells w e s).size,(Lib.bytesCells w e s).size+1),by rw[hl],by rw[hl];exact grownCap_ge _ _ _ _,Nat.le_refl _,Lib.bytesWorld_at_new w e s,.inl (Nat.le_refl _),fun i hi=>?_⟩⟩;have hil:i<s.size:=by omega
 have hc:=Lib.bytesWorld_cell w e s i hil;unfold World.cell? at hc;dsimp only at hc;rw[Lib.bytesWorld_at_new]at hc;have hc:(Lib.bytesCells w e s)[i]? = some (.int .u8 (s.data.toList.getD i 0).toNat):=hc;rw[hc];unfold bytesOf;rw[List.getD_eq_getElem?_getD,List.getD_eq_getElem?_getD,List.getElem?_map];have:s.data.toList[i]? = some (s.data.toList[i]'(by simpa using hil)):=List.getElem?_eq_getElem _;rw[this];rfl
theorem al7 (w:World) (e:TypeId) (s:ByteArray):Below w.heap.size w (Lib.bytesWorld w e s):=⟨rfl,rfl,rfl,by rw[Lib.bytesWorld_size];omega,fun k hk=>Lib.bytesWorld_at_old w e s k hk⟩
theorem Zf {P:Program} {ops:Array Oper} {rest:List Oper} {o:Oper} {a:Act} {Q:Exit→Act→World→Prop} {W:World} (hgd:o.guard=none) {src dst e:TypeId} {x:Operand} (hop:o.op = .convert src dst x) (s:ByteArray) (r:List Int) (hx:a.eval x = .string s)
 (hs:P.underlying src=some .string) (hd:P.underlying dst=some (.slice e)) (he:P.underlying e=some (.int .u8)) (hf:tq.f s=some r)
 (h:∀v w1,Mz.Z e w1 W.heap.size (fun _=>True) v r→Below W.heap.size W w1→wpList P ops Q rest (a.put o.dst v) w1):wpList P ops Q (o::rest) a W:=by
 unfold tq.f at hf;split at hf
 ·rename_i hsz;obtain rfl:=Option.some.inj hf;refine Kd.yO hgd (v:=.slice (some ⟨W.heap.size,0,none⟩) s.size (grownCap W s.size 0 e)) (w1:=Lib.bytesWorld W e s) ?_ (h _ _ (al6 s hsz) (al7 W e s));have hr:=Lib.run_convert_string_bytes W src dst e s hs hd he;unfold execOp;rw[hop];simp only[hx];rw[Sem.run_bind,hr];rfl
 ·simp at hf
def ia.j0:Nat→Int→ByteArray→Int→Bool→Option (List Int × Int × Bool)
 |0,_,_,_,_=>none
 |k+1,x1,x7,x8,x35=>if x35=true then (some (([]:List Int),x1,false)) else ((tq.f x7).bind fun t170=>(some (t170,x8,true)))
def ia.f (k:Nat) (U:List Int) (a1:Int):Option (List Int × Int × Bool):=(qT.f a1 0 (wrap64 ((U.length:Int)-4))).bind fun t161=>(if t161=true then ((uJ.f k U (wrap64 (a1+4))).bind fun kT=>(if kT.2.2=true then ((tq.f kT.1).bind fun t165=>((fW.f k t165).bind fun t168=>((qa.f U a1).bind fun t169=>(ia.j0 k a1 kT.1 kT.2.1 (t168 != t169))))) else (ia.j0 k a1 kT.1 kT.2.1 true))) else (some (([]:List Int),a1,false)))
set_option maxHeartbeats 8000000 in
set_option maxRecDepth 100000 in
theorem ia.calls (k:Nat) (A0:Option Addr) (c0:Nat) (U:List Int) (a1:Int) (r1:List Int) (r2:Int) (r3:Bool) (w:World) (bJ:Kd.C (Kd.int .u8) w A0 U.length U) (bz:U.length≤c0) (h:ia.f k U a1=some (r1,r2,r3)) :
 Calls Tryz.prog 37 #[.slice A0 U.length c0,.int .i64 a1] w fun e w'=>∃cf:Value,e = .returned (.tuple #[cf,.int .i64 r2,.bool r3])∧Mz.Z 5 w' w.heap.size (fun _=>True) cf r1∧Below w.heap.size w w':=by
 have bB:=J bJ;have eb:=J bz;clear bJ bz;have HB:=J (Below.refl w.heap.size w);have H:((qT.f a1 0 (wrap64 ((U.length:Int)-4))).bind fun t161=>(if t161=true then ((uJ.f k U (wrap64 (a1+4))).bind fun kT=>(if kT.2.2=true then ((tq.f kT.1).bind fun t165=>((fW.f k t165).bind fun t168=>((qa.f U a1).bind fun t169=>(ia.j0 k a1 kT.1 kT.2.1 (t168 != t169))))) else (ia.j0 k a1 kT.1 kT.2.1 true))) else (some (([]:List Int),a1,false))))=some (r1,r2,r3):=h;clear h;replace H:=Option.bind_eq_some_iff.mp H;obtain⟨t161,dY,H⟩:=H;replace H:(if t161=true then ((uJ.f k U (wrap64 (a1+4))).bind fun kT=>(if kT.2.2=true then ((tq.f kT.1).bind fun t165=>((fW.f k t165).bind fun t168=>((qa.f U a1).bind fun t169=>(ia.j0 k a1 kT.1 kT.2.1 (t168 != t169))))) else (ia.j0 k a1 kT.1 kT.2.1 true))) else (some (([]:List Int),a1,false)))=some (r1,r2,r3):=H;have A3:=J dY;clear dY;by_cases c4:t161=true
 ·subst c4;have H1:=H;rw[if_pos rfl]at H1;clear H;have H:=H1;clear H1;replace H:=Option.bind_eq_some_iff.mp H;obtain⟨⟨t162,t163,t164⟩,iQ,H⟩:=H;replace H:(if t164=true then ((tq.f t162).bind fun t165=>((fW.f k t165).bind fun t168=>((qa.f U a1).bind fun t169=>(ia.j0 k a1 t162 t163 (t168 != t169))))) else (ia.j0 k a1 t162 t163 true))=some (r1,r2,r3):=H;have A5:=J iQ;clear iQ;have xX:=J H;clear H;go_enter Tryz.func37,Tryz.ntmps37;go_upto_region 4 with (first|((with_reducible refine aJ (f:=38) rfl ?_);refine bA 14 Tryz.func38 #[.int .i64 a1,.int .i64 0,.int .i64 (wrap64 ((U.length:Int)-4))] ?_;(with_reducible refine(qT.calls a1 0 (wrap64 ((U.length:Int)-4)) true _ A3.1).mono ?_);rintro e w' ⟨rfl,⟨nd,rfl⟩⟩;refine⟨_,rfl,?_⟩)|((with_reducible refine aJ (f:=78) rfl ?_);refine bA 21 Tryz.func78 #[.slice A0 U.length c0,.int .i64 (wrap64 (a1+4))] ?_;(with_reducible refine(uJ.calls k _ _ U (wrap64 (a1+4)) t162 t163 t164 _ ?az ?aA A5.1).mono ?_);(case az=>exact mC bB.1);(case aA=>exact eb.1);rintro e w' ⟨rfl,⟨nd,rfl⟩⟩;refine⟨_,rfl,?_⟩))
  (try simp only[Act.put,zA,zB,zC])
  go_cut [35] (fun v35 wc=>∃(kq:Nat) (LV:Bool),v35 = .bool LV∧Aside0 (ia.j0 kq a1 t162 t163 LV=some (r1,r2,r3))∧Aside0 (kq≤k)∧Aside0 (Below w.heap.size w wc))
  case first=>
   have H:=xX.1;clear xX;by_cases c7:t164=true
   ·subst c7;have H1:=H;rw[if_pos rfl]at H1;clear H;have H:=H1;clear H1;replace H:=Option.bind_eq_some_iff.mp H;obtain⟨t165,mv,H⟩:=H;replace H:((fW.f k t165).bind fun t168=>((qa.f U a1).bind fun t169=>(ia.j0 k a1 t162 t163 (t168 != t169))))=some (r1,r2,r3):=H;have A8:=J mv;clear mv;replace H:=Option.bind_eq_some_iff.mp H;obtain⟨t168,Dl,H⟩:=H;replace H:((qa.f U a1).bind fun t169=>(ia.j0 k a1 t162 t163 (t168 != t169)))=some (r1,r2,r3):=H;have A9:=J Dl;clear Dl;replace H:=Option.bind_eq_some_iff.mp H;obtain⟨t169,oN,H⟩:=H;replace H:(ia.j0 k a1 t162 t163 (t168 != t169))=some (r1,r2,r3):=H;have oM:=J oN;clear oN;have H':=J H;clear H;go_wp2_with (first|((with_reducible refine aH (N:=29) rfl ?_);(try (refine jx (by first|rfl|kernel_rfl) ?_));refine Zf rfl (src:=9) (dst:=22) (e:=5) rfl t162 t165 (by first|rfl|(go_simp;done)) Tryz.underlying9 Tryz.underlying22 Tryz.underlying5 A8.1 ?_;intro ayf cC bq hb;have MR:=J (Mz.D8 bq (bl (mH HB.1)));replace HB:=J (ar (mH HB.1) hb);(try clear hb);(try clear eO);(try clear hk);(try clear hi);(try clear bq);obtain⟨pD,o9,vW⟩:=Mz.BD MR.1;subst vW)|(go_at_call 79;(with_reducible refine(fW.calls k _ _ t165 t168 _ ?az ?aA A9.1).mono ?_);(case az=>exact mC (Mz.I5 MR.1).2.2);(case aA=>exact(Mz.I5 MR.1).2.1);rintro e w' ⟨rfl,⟨nd,rfl⟩⟩)|(go_at_call 80;(with_reducible refine(qa.calls _ _ U a1 t169 _ ?az ?aA oM.1).mono ?_);(case az=>exact mC (Kd.aw bB.1 (mH HB.1)));(case aA=>exact eb.1);rintro e w' ⟨rfl,⟨nd,rfl⟩⟩));go_meet
    case rel=>exact⟨_,((t168 != t169)),mE,H',⟨by first|omega|exact Nat.le_refl _⟩,⟨(mH HB.1)⟩⟩
   ·replace c7:=Bool.eq_false_iff.mpr c7;subst c7;have H1:=H;rw[if_neg (show ¬(false=true) by decide)]at H1;clear H;have H:=H1;clear H1;have H':=J H;clear H;go_wp2;go_meet
    case rel=>exact⟨_,(true),mE,H',⟨by first|omega|exact Nat.le_refl _⟩,⟨(mH HB.1)⟩⟩
  case rest=>
   clear xX
   try clear c4
   obtain⟨kq,LV,rfl,HA,HJ5,HB⟩:=hcut;cases kq with
   |zero=>exact absurd HA.1 (by simp[ia.j0])
   |succ Hx=>
    have H:=HA.1;clear HA;simp only[ia.j0]at H;by_cases cY:LV=true
    ·subst cY;have H1:=H;rw[if_pos rfl]at H1;clear H;have H:=H1;clear H1;simp only[Option.some.injEq,Prod.mk.injEq]at H;obtain⟨rfl,rfl,rfl⟩:=H;go_wp2;go_ret3;exact⟨_,bN,by first|exact Mz.NR _ _ _ _|exact Kd.N_nil _ _ _ _ _|exact Kd.V_nil _ _ _ _ _|exact Kd.Q_nil _ _ _ _ _|exact Kd.rG _ _ _ _ _,(mH HB.1)⟩
    ·replace cY:=Bool.eq_false_iff.mpr cY;subst cY;have H1:=H;rw[if_neg (show ¬(false=true) by decide)]at H1;clear H;have H:=H1;clear H1;replace H:=Option.bind_eq_some_iff.mp H;obtain⟨t170,S6,H⟩:=H;replace H:(some (t170,t163,true))=some (r1,r2,r3):=H;have A14:=J S6;clear S6;simp only[Option.some.injEq,Prod.mk.injEq]at H;obtain⟨rfl,rfl,rfl⟩:=H;go_wp2_with (first|((with_reducible refine aH (N:=38) rfl ?_);(try (refine jx (by first|rfl|kernel_rfl) ?_));refine Zf rfl (src:=9) (dst:=22) (e:=5) rfl t162 t170 (by first|rfl|(go_simp;done)) Tryz.underlying9 Tryz.underlying22 Tryz.underlying5 A14.1 ?_;intro v171 lh bq hb;have abU:=J (Mz.D8 bq (bl (mH HB.1)));replace HB:=J (ar (mH HB.1) hb);(try clear hb);(try clear eO);(try clear hk);(try clear hi);(try clear bq)));go_ret3;exact⟨_,bN,by (with_reducible repeat (first|apply Mz.Z_alloc|apply Mz.Z_drewN|apply Mz.Z_drew));exact abU.1,(mH HB.1)⟩
 ·replace c4:=Bool.eq_false_iff.mpr c4;subst c4;have H1:=H;rw[if_neg (show ¬(false=true) by decide)]at H1;clear H;have H:=H1;clear H1;simp only[Option.some.injEq,Prod.mk.injEq]at H;obtain⟨rfl,rfl,rfl⟩:=H;go_enter Tryz.func37,Tryz.ntmps37;go_wp2_with (first|((with_reducible refine aJ (f:=38) rfl ?_);refine bA 14 Tryz.func38 #[.int .i64 a1,.int .i64 0,.int .i64 (wrap64 ((U.length:Int)-4))] ?_;(with_reducible refine(qT.calls a1 0 (wrap64 ((U.length:Int)-4)) false _ A3.1).mono ?_);rintro e w' ⟨rfl,⟨nd,rfl⟩⟩;refine⟨_,rfl,?_⟩));go_ret3;exact⟨_,bN,by first|exact Mz.NR _ _ _ _|exact Kd.N_nil _ _ _ _ _|exact Kd.V_nil _ _ _ _ _|exact Kd.Q_nil _ _ _ _ _|exact Kd.rG _ _ _ _ _,(mH HB.1)⟩
def axR.f (U:List Int):Option (Bool):=some (decide ((U.length:Int)>1048576))
def Q3.U:Nat→List Int→List Int→Int→Option (Bool)
 |0,_,_,_=>none
 |k+1,x0,x1,x5=>if x5<(x0.length:Int) then (if 0≤x5 then (if x5<(x1.length:Int) then (if (rd x0 x5)=(rd x1 x5) then (Q3.U k x0 x1 (wrap64 (x5+1))) else (some false)) else (none)) else (none)) else (some true)
def Q3.f (k:Nat) (U:List Int) (l1:List Int):Option (Bool):=if (U.length:Int)=(l1.length:Int) then (Q3.U k U l1 0) else (some false)
end Go.Proofs.YtingkpnoiekliaaGreat.MZ
end
section
set_option linter.unusedVariables false
set_option linter.unusedSimpArgs false
namespace Go.Proofs.YtingkpnoiekliaaGreat.MZ
open Go.RowKit Go.Proofs.YtingkpnoiekliaaGreat.MZ Go.Proofs.YtingkpnoiekliaaGreatW.PrintWords Go.Proofs.YtingkpnoiekliaaGreatW.PrintLast Go.Proofs.YtingkpnoiekliaaGreatW.PrintMore
def Both {α:Type} (P:α→Prop) (f g:Nat→Option α):Prop:=∃r,P r∧Ev f r∧Ev g r
namespace Both
variable {α β:Type} {P:α→Prop} {f f' g g':Nat→Option α}
theorem step (h1:∀k,f (k+1)=f' k) (h2:∀k,g (k+1)=g' k) (h:Both P f' g'):Both P f g:=by
 obtain⟨r,hp,a,b⟩:=h;exact⟨r,hp,Ev.step h1 a,Ev.step h2 b⟩
theorem ret (r:α) (h:P r):Both P (fun _=>some r) (fun _=>some r):=⟨r,h,Ev.now r,Ev.now r⟩
theorem ite {c:Prop} [Decidable c] (h1:c→Both P f g) (h2:¬c→Both P f' g'):Both P (fun k=>if c then f k else f' k) (fun k=>if c then g k else g' k):=by
 by_cases h:c
 ·simpa only [if_pos h] using h1 h
 ·simpa only [if_neg h] using h2 h
theorem bind {Q:β→Prop} {p q:Nat→Option β} {F G:Nat→β→Option α} (h:Both Q p q) (k:∀b,Q b→Both P (fun n=>F n b) (fun n=>G n b)):Both P (fun n=>(p n).bind (F n)) (fun n=>(q n).bind (G n)):=by
 obtain⟨b,hq,h1,h2⟩:=h;obtain⟨r,hp,a,c⟩:=k b hq;exact⟨r,hp,Ev.bind h1 a,Ev.bind h2 c⟩
theorem any {Q:α→Prop} (h:Both Q f g):Both (fun _=>True) f g:=by
 obtain⟨r,_,a,b⟩:=h;exact⟨r,trivial,a,b⟩
theorem mono {P':α→Prop} (h:Both P f g) (hi:∀r,P r→P' r):Both P' f g:=by
 obtain⟨r,hp,a,b⟩:=h;exact⟨r,hi r hp,a,b⟩
end Both
def Comes {α:Type} (P:α→Prop) (f:Nat→Option α):Prop:=∃r,P r∧Ev f r
namespace Comes
variable {α β:Type} {P:α→Prop} {f f':Nat→Option α}
theorem step (h1:∀k,f (k+1)=f' k) (h:Comes P f'):Comes P f:=by
 obtain⟨r,hp,a⟩:=h;exact⟨r,hp,Ev.step h1 a⟩
theorem ret (r:α) (h:P r):Comes P (fun _=>some r):=⟨r,h,Ev.now r⟩
theorem ite {c:Prop} [Decidable c] (h1:c→Comes P f) (h2:¬c→Comes P f'):Comes P (fun k=>if c then f k else f' k):=by
 by_cases h:c
 ·simpa only [if_pos h] using h1 h
 ·simpa only [if_neg h] using h2 h
theorem bind {Q:β→Prop} {p:Nat→Option β} {F:Nat→β→Option α} (h:Comes Q p) (k:∀b,Q b→Comes P (fun n=>F n b)):Comes P (fun n=>(p n).bind (F n)):=by
 obtain⟨b,hq,h1⟩:=h;obtain⟨r,hp,a⟩:=k b hq;exact⟨r,hp,Ev.bind h1 a⟩
theorem mono {P':α→Prop} (h:Comes P f) (hi:∀r,P r→P' r):Comes P' f:=by
 obtain⟨r,hp,a⟩:=h;exact⟨r,hi r hp,a⟩
theorem some_ (o:Option α) (r:α) (h:o=some r) (hp:P r):Comes P (fun _=>o):=⟨r,hp,Ev.all (fun _=>h)⟩
end Comes
def At (b:List Int) (i:Int):Prop:=0≤i∧i≤(b.length:Int)
def apS:List ByteArray:=[(⟨#[97]⟩:ByteArray),(⟨#[98]⟩:ByteArray),(⟨#[108,111,103,45,49]⟩:ByteArray),(⟨#[99,117,114]⟩:ByteArray),(⟨#[116,109,112]⟩:ByteArray),(⟨#[120,46,57]⟩:ByteArray)]
end Go.Proofs.YtingkpnoiekliaaGreat.MZ
end
section
set_option linter.unusedVariables false
set_option linter.unusedSimpArgs false
namespace Go.Proofs.YtingkpnoiekliaaGreat.MZ
open Go.RowKit Go.Proofs.YtingkpnoiekliaaGreat.MZ Go.Proofs.YtingkpnoiekliaaGreatW.PrintWords Go.Proofs.YtingkpnoiekliaaGreatW.PrintLast Go.Proofs.YtingkpnoiekliaaGreatW.PrintMore
def apB:List ByteArray:=[(⟨#[]⟩:ByteArray),(⟨#[65]⟩:ByteArray),(⟨#[116,104,105,114,116,101,101,110,45,108,111,110,103]⟩:ByteArray),(⟨#[116,119,101,108,118,101,45,108,111,110,103,49]⟩:ByteArray),(⟨#[97,32,98]⟩:ByteArray)]
def Sm (d:ik):Prop:=Small d.f0 d.f1 d.f2∧(∀x ∈ d.f0,x.f1.length≤1048576)∧Bd d.f0
variable {d:ik}
theorem Sm.none (h:Sm d):Sm ⟨d.f0,d.f1,[],d.f3⟩:=⟨⟨h.1.h0,h.1.hd,h.1.h1,by simp,h.1.z1,by simp⟩,h.2⟩
theorem Sm.sure (h:Sm d) (x:Int):Sm ⟨d.f0.set 0 ⟨(ai d.f0 0).f0,(ai d.f0 0).f1,x⟩,d.f1,d.f2,d.f3⟩:=by
 have hm:∀n,0≤n→(∀x ∈ d.f0,x.f1.length≤n)→∀y ∈ d.f0.set 0 ⟨(ai d.f0 0).f0,(ai d.f0 0).f1,x⟩,y.f1.length≤n:=fun n hn ha y hy=>by
  rcases List.mem_or_eq_of_mem_set hy with hy|rfl
  ·exact ha y hy
  ·rcases Nat.eq_zero_or_pos d.f0.length with h0|h0
   ·rw[List.eq_nil_of_length_eq_zero h0];exact hn
   ·have e:ai d.f0 0=d.f0[0]:=tw h0;show (ai d.f0 0).f1.length≤n;rw[e];exact ha _ (List.getElem_mem h0)
 refine⟨⟨by rw[List.length_set];exact h.1.h0,hm _ (by decide) h.1.hd,h.1.h1,h.1.h2,h.1.z1,h.1.z2⟩,hm _ (by decide) h.2.1,fun y hy=>?_⟩
 rcases List.mem_or_eq_of_mem_set hy with hy|rfl
 ·exact h.2.2 y hy
 ·rcases Nat.eq_zero_or_pos d.f0.length with h0|h0
  ·rw[List.eq_nil_of_length_eq_zero h0];exact cK.nil
  ·have e:ai d.f0 0=d.f0[0]:=tw h0;show cK (ai d.f0 0).f1;rw[e];exact h.2.2 _ (List.getElem_mem h0)
end Go.Proofs.YtingkpnoiekliaaGreat.MZ
end
section
namespace Go.Proofs.YtingkpnoiekliaaGreat.MZ
open Go.RowKit Go.Proofs.YtingkpnoiekliaaGreatW.PrintWords Go.Proofs.YtingkpnoiekliaaGreatW.PrintLast Go.Proofs.YtingkpnoiekliaaGreatW.PrintMore Go.Proofs.YtingkpnoiekliaaGreat.MWords
attribute [local go_sem] max2_int min2_int max_two min_two max_three min_three max_four min_four
set_option linter.unusedVariables false
set_option linter.unusedSimpArgs false
def anb.f (k:Nat) (U:List Int):Option (List Int):=(gE.f k U).bind fun anD=>((anf.f anD).bind fun anE=>((pw.f k anE (U.length:Int)).bind fun aae=>(if aae.length+U.length<140737488355328 then (some (aae++U)) else (none))))
end Go.Proofs.YtingkpnoiekliaaGreat.MZ
end
section
namespace Go.Proofs.YtingkpnoiekliaaGreat.MZ
open Go.RowKit Go.Proofs.YtingkpnoiekliaaGreatW.PrintWords Go.Proofs.YtingkpnoiekliaaGreatW.PrintLast Go.Proofs.YtingkpnoiekliaaGreatW.PrintMore Go.Proofs.YtingkpnoiekliaaGreat.MWords
attribute [local go_sem] max2_int min2_int max_two min_two max_three min_three max_four min_four
set_option linter.unusedVariables false
set_option linter.unusedSimpArgs false
def ZZ.f (k:Nat) (ab:List (al)) (af:List (aa)) (aj:List (aa)) (ak:Int) (a1:ByteArray) (l2:List Int):Option ((List (al)) × (List (aa)) × (List (aa)) × Int × Int):=(anb.f k l2).bind fun anF=>((jE.f k ab af aj ak a1 anF).bind fun Ei=>(some (Ei.1,Ei.2.1,Ei.2.2.1,Ei.2.2.2.1,Ei.2.2.2.2)))
def ZZ.T1:Bool × List (List Nat × List Nat):=(true,[([],[]),([],[]),([],[]),([2],[2]),([0,1,3,3],[0,1,3]),([4],[4]),([4],[4]),([5,4,0,1,2,3,4,5,6],[5]),([6,7,0,1,2,3,4,5,6,7],[6])])
def ZZ.B1:List Nat:=[0,0,0,4,15,31,31,127,255]
end Go.Proofs.YtingkpnoiekliaaGreat.MZ
end
section
namespace Go.Proofs.YtingkpnoiekliaaGreat.MZ
open Go.RowKit Go.Proofs.YtingkpnoiekliaaGreatW.PrintWords Go.Proofs.YtingkpnoiekliaaGreatW.PrintLast Go.Proofs.YtingkpnoiekliaaGreatW.PrintMore Go.Proofs.YtingkpnoiekliaaGreat.MWords
attribute [local go_sem] max2_int min2_int max_two min_two max_three min_three max_four min_four
set_option linter.unusedVariables false
set_option linter.unusedSimpArgs false
def kk.j0:Nat→List Int→Int→Int→Int→Int→Bool→Option (List Int × Int × Bool)
 |0,_,_,_,_,_,_=>none
 |k+1,x0,x1,x7,x9,fl,x40=>if x40=true then (some ((([]:List Int)),x1,false)) else ((some (([]:List Int):List Int)).bind fun vr=>(if 0≤fl then (if fl≤(wrap64 (fl+x9)) then (if (wrap64 (fl+x9))≤(x0.length:Int) then (if vr.length+((x0.take ((wrap64 (fl+x9)):Int).toNat).drop (fl:Int).toNat).length<140737488355328 then ((some (vr++((x0.take ((wrap64 (fl+x9)):Int).toNat).drop (fl:Int).toNat):List Int)).bind fun qj=>((gE.f k qj).bind fun pz=>(if pz=x7 then (some (qj,wrap64 (fl+x9),true)) else (some ((([]:List Int)),x1,false))))) else (none)) else (none)) else (none)) else (none)))
def kk.f (k:Nat) (U:List Int) (a1:Int):Option (List Int × Int × Bool):=(lH.f k U a1).bind fun yD=>(if yD.2=true then ((ev.f k U (wrap64 (a1+4))).bind fun jM=>(if jM.2.2=true then (kk.j0 k U a1 yD.1 jM.1 jM.2.1 (decide (jM.1>(wrap64 ((U.length:Int)-jM.2.1))))) else (kk.j0 k U a1 yD.1 jM.1 jM.2.1 true))) else (some ((([]:List Int)),a1,false)))
set_option maxHeartbeats 8000000 in
set_option maxRecDepth 100000 in
theorem kk.calls (k:Nat) (A0:Option Addr) (c0:Nat) (U:List Int) (a1:Int) (r1:List Int) (r2:Int) (r3:Bool) (w:World) (bJ:Kd.C (Kd.int .u8) w A0 U.length U) (bz:U.length≤c0) (h:kk.f k U a1=some (r1,r2,r3)) :
 Calls Tryz.prog 75 #[.slice A0 U.length c0,.int .i64 a1] w fun e w'=>∃cf:Value,e = .returned (.tuple #[cf,.int .i64 r2,.bool r3])∧Kd.R (Kd.int .u8) 5 w' w.heap.size (fun _=>True) cf r1∧Below w.heap.size w w':=by
 have bB:=J bJ;have eb:=J bz;clear bJ bz;have HB:=J (Below.refl w.heap.size w);have H:((lH.f k U a1).bind fun yD=>(if yD.2=true then ((ev.f k U (wrap64 (a1+4))).bind fun jM=>(if jM.2.2=true then (kk.j0 k U a1 yD.1 jM.1 jM.2.1 (decide (jM.1>(wrap64 ((U.length:Int)-jM.2.1))))) else (kk.j0 k U a1 yD.1 jM.1 jM.2.1 true))) else (some ((([]:List Int)),a1,false))))=some (r1,r2,r3):=h;clear h;replace H:=Option.bind_eq_some_iff.mp H;obtain⟨⟨oJ,aac⟩,dY,H⟩:=H;replace H:(if aac=true then ((ev.f k U (wrap64 (a1+4))).bind fun jM=>(if jM.2.2=true then (kk.j0 k U a1 oJ jM.1 jM.2.1 (decide (jM.1>(wrap64 ((U.length:Int)-jM.2.1))))) else (kk.j0 k U a1 oJ jM.1 jM.2.1 true))) else (some ((([]:List Int)),a1,false)))=some (r1,r2,r3):=H;have A3:=J dY;clear dY;by_cases c4:aac=true
 ·subst c4;have H1:=H;rw[if_pos rfl]at H1;clear H;have H:=H1;clear H1;replace H:=Option.bind_eq_some_iff.mp H;obtain⟨⟨gL,dE,Sp⟩,iQ,H⟩:=H;replace H:(if Sp=true then (kk.j0 k U a1 oJ gL dE (decide (gL>(wrap64 ((U.length:Int)-dE))))) else (kk.j0 k U a1 oJ gL dE true))=some (r1,r2,r3):=H;have A5:=J iQ;clear iQ;have xX:=J H;clear H;go_enter Tryz.func75,Tryz.ntmps75;go_upto_region 5 with (first|((with_reducible refine aJ (f:=110) rfl ?_);refine bA 16 Tryz.func110 #[.slice A0 U.length c0,.int .i64 a1] ?_;(with_reducible refine(lH.calls k _ _ U a1 oJ true _ ?az ?aA A3.1).mono ?_);(case az=>exact mC bB.1);(case aA=>exact eb.1);rintro e w' ⟨rfl,⟨nd,rfl⟩⟩;refine⟨_,rfl,?_⟩)|((with_reducible refine aJ (f:=111) rfl ?_);refine bA 27 Tryz.func111 #[.slice A0 U.length c0,.int .i64 (wrap64 (a1+4))] ?_;(with_reducible refine(ev.calls k _ _ U (wrap64 (a1+4)) gL dE Sp _ ?az ?aA A5.1).mono ?_);(case az=>exact mC bB.1);(case aA=>exact eb.1);rintro e w' ⟨rfl,⟨nd,rfl⟩⟩;refine⟨_,rfl,?_⟩))
  (try simp only[Act.put,zA,zB,zC])
  go_cut [40] (fun v40 wc=>∃(kq:Nat) (LY:Bool),v40 = .bool LY∧Aside0 (kk.j0 kq U a1 oJ gL dE LY=some (r1,r2,r3))∧Aside0 (kq≤k)∧Aside0 (Below w.heap.size w wc))
  case first=>
   have H:=xX.1;clear xX;by_cases c7:Sp=true
   ·subst c7;have H1:=H;rw[if_pos rfl]at H1;clear H;have H:=H1;clear H1;have H':=J H;clear H;go_wp2;go_meet
    case rel=>exact⟨_,(decide (gL>(wrap64 ((U.length:Int)-dE)))),mE,H',⟨by first|omega|exact Nat.le_refl _⟩,⟨(mH HB.1)⟩⟩
   ·replace c7:=Bool.eq_false_iff.mpr c7;subst c7;have H1:=H;rw[if_neg (show ¬(false=true) by decide)]at H1;clear H;have H:=H1;clear H1;have H':=J H;clear H;go_wp2;go_meet
    case rel=>exact⟨_,(true),mE,H',⟨by first|omega|exact Nat.le_refl _⟩,⟨(mH HB.1)⟩⟩
  case rest=>
   clear xX
   try clear c4
   obtain⟨kq,LY,rfl,HA,HJ5,HB⟩:=hcut;cases kq with
   |zero=>exact absurd HA.1 (by simp[kk.j0])
   |succ Hx=>
    have H:=HA.1;clear HA;simp only[kk.j0]at H;by_cases c8:LY=true
    ·subst c8;have H1:=H;rw[if_pos rfl]at H1;clear H;have H:=H1;clear H1;obtain⟨aoF,GZ⟩:∃y_:List Int,y_=(([]:List Int)):=⟨_,rfl⟩;replace H:(some (aoF,a1,false))=some (r1,r2,r3):=by first|(rw[GZ];with_reducible exact H)|(have aM:=(Option.bind_some _ _).symm.trans H;rw[GZ];with_reducible exact aM)|(have aM:=(Option.bind_some _ _).symm.trans H;with_reducible exact aM)|with_reducible exact H|(rw[GZ];exact H)|exact H
     have UG:=J GZ;clear GZ;simp only[Option.some.injEq,Prod.mk.injEq]at H;obtain⟨rfl,rfl,rfl⟩:=H;go_wp2_with (first|((with_reducible refine aH (N:=41) rfl ?_);(try (refine jx (by rfl) ?_;dsimp only));refine Kd.kR (Kd.int .u8) _ 5 ?hg (N:=41) ?hd (xs:=([]:List Int)) (inner:=[]) (ok:=fun _=>True) (okp:=fun _=>True) ?hr ?hp (fun _ hk=>hk) trivial (Below.refl _ _) (Nat.le_refl _) (by simp) ?_;(case hd=>rfl);(case hg=>rfl);(case hr=>first|(go_simp;done)|(go_simp;rfl));(case hp=>exact(bw.none _ _));intro ayG w9 ni hb hg_ hnew_;clear hg_ hnew_;(first|rw[←UG.1]at ni|(simp only[Int.reduceToNat]at ni;rw[←UG.1]at ni));have ab1:=J (Kd.cg ni (bl (mH HB.1)));replace HB:=J (ar (mH HB.1) hb);clear hb ni));go_ret3;exact⟨_,bN,mR ab1.1,(mH HB.1)⟩
    ·replace c8:=Bool.eq_false_iff.mpr c8;subst c8;have H1:=H;rw[if_neg (show ¬(false=true) by decide)]at H1;clear H;have H:=H1;clear H1;obtain⟨vr,G0⟩:∃y_:List Int,y_=(([]:List Int)):=⟨_,rfl⟩;replace H:(if 0≤dE then (if dE≤(wrap64 (dE+gL)) then (if (wrap64 (dE+gL))≤(U.length:Int) then (if vr.length+((U.take ((wrap64 (dE+gL)):Int).toNat).drop (dE:Int).toNat).length<140737488355328 then ((some (vr++((U.take ((wrap64 (dE+gL)):Int).toNat).drop (dE:Int).toNat):List Int)).bind fun qj=>((gE.f Hx qj).bind fun pz=>(if pz=oJ then (some (qj,wrap64 (dE+gL),true)) else (some ((([]:List Int)),a1,false))))) else (none)) else (none)) else (none)) else (none))=some (r1,r2,r3):=by first|(rw[G0];with_reducible exact H)|(have aM:=(Option.bind_some _ _).symm.trans H;rw[G0];with_reducible exact aM)|(have aM:=(Option.bind_some _ _).symm.trans H;with_reducible exact aM)|with_reducible exact H|(rw[G0];exact H)|exact H
     have IU:=J G0;clear G0;by_cases ff:0≤dE
     ·rw[if_pos ff]at H;have uj:=eq_true ff;have I9:=decide_eq_true ff;clear ff;by_cases dI:dE≤(wrap64 (dE+gL))
      ·rw[if_pos dI]at H;have nK:=eq_true dI;have Ja:=decide_eq_true dI;by_cases cY:(wrap64 (dE+gL))≤(U.length:Int)
       ·rw[if_pos cY]at H;have o5:=eq_true cY;have Vp:=decide_eq_true cY;by_cases gq:vr.length+((U.take ((wrap64 (dE+gL)):Int).toNat).drop (dE:Int).toNat).length<140737488355328
        ·rw[if_pos gq]at H;have Uh:=J gq;clear gq;obtain⟨qj,G1⟩:∃y_:List Int,y_=(vr++((U.take ((wrap64 (dE+gL)):Int).toNat).drop (dE:Int).toNat)):=⟨_,rfl⟩;replace H:((gE.f Hx qj).bind fun pz=>(if pz=oJ then (some (qj,wrap64 (dE+gL),true)) else (some ((([]:List Int)),a1,false))))=some (r1,r2,r3):=by first|(rw[G1];with_reducible exact H)|(have aM:=(Option.bind_some _ _).symm.trans H;rw[G1];with_reducible exact aM)|(have aM:=(Option.bind_some _ _).symm.trans H;with_reducible exact aM)|with_reducible exact H|(rw[G1];exact H)|exact H
         have UH:=J G1;clear G1;replace H:=Option.bind_eq_some_iff.mp H;obtain⟨pz,Dh,H⟩:=H;replace H:(if pz=oJ then (some (qj,wrap64 (dE+gL),true)) else (some ((([]:List Int)),a1,false)))=some (r1,r2,r3):=H;have Dg:=J Dh;clear Dh;by_cases gY:pz=oJ
         ·rw[if_pos gY]at H;have El:(pz == oJ)=true:=beq_iff_eq.mpr gY;have ae7:(pz != oJ)=false:=bne_eq_false_iff_eq.mpr gY;clear gY;simp only[Option.some.injEq,Prod.mk.injEq]at H;obtain⟨rfl,rfl,rfl⟩:=H;go_wp2_with (first|((with_reducible refine aH (N:=43) rfl ?_);(try (refine jx (by rfl) ?_;dsimp only));refine Kd.kR (Kd.int .u8) _ 5 ?hg (N:=43) ?hd (xs:=([]:List Int)) (inner:=[]) (ok:=fun _=>True) (okp:=fun _=>True) ?hr ?hp (fun _ hk=>hk) trivial (Below.refl _ _) (Nat.le_refl _) (by simp) ?_;(case hd=>rfl);(case hg=>rfl);(case hr=>first|(go_simp;done)|(go_simp;rfl));(case hp=>exact(bw.none _ _));intro SC C2 sm hb hg_ hnew_;clear hg_ hnew_;(first|rw[←IU.1]at sm|(simp only[Int.reduceToNat]at sm;rw[←IU.1]at sm));have DG:=J (Kd.cg sm (bl (mH HB.1)));replace HB:=J (ar (mH HB.1) hb);clear hb sm;obtain⟨axP,Xy,_,X5,_⟩:=info_parts sr;obtain⟨A19,aqc,Wj,Wo⟩:=RG (P:=Tryz.prog) (Value.int .u8) 0 22 5 .i64 .i64 Tryz.underlying22 Xy X5 A0 c0 U dE (wrap64 (dE+gL)) (mD) (by first|omega|exact mD) (mD) eb.1;have DL:=J (Kd.Mo (h1:=fun _=>rfl) (Wj _ (Kd.CH bB.1)));have abO:=J Wo;clear Wj Wo Xy X5)|((with_reducible refine kv (b:=.append) (xs:=#[.tmp 43,.tmp 49]) rfl ?_);(try (refine jx (by rfl) ?_;dsimp only));at_builtin;refine Kd.D0 (Kd.int .u8) (w0:=w) w.heap.size rfl (.tmp 43) (.tmp 49) 22 5 (.int .u8 0) 1 rfl Tryz.underlying22 sr rfl (by decide) (by omega) SC vr ((U.take ((wrap64 (dE+gL)):Int).toNat).drop (dE:Int).toNat) _ _ _ (fun _=>True) (fun _=>False) rfl rfl ?aO ?aR (fun _ _ h=>h) (fun _ h=>h.elim) ?aF ?aB ?aS ?aL ?_;(case aR=>first|(rw[←show ((U.take ((wrap64 (dE+gL)):Int).toNat).drop (dE:Int).toNat).length=((wrap64 (dE+gL)).toNat-dE.toNat) from (by rw[List.length_drop,List.length_take];have h_:((wrap64 (dE+gL)):Int)≤(U.length:Int):=mD;omega)];exact mC (Kd.aw DL.1 HB.1))|(exact mC (Kd.aw DL.1 HB.1)));(case aB=>exact(mH HB.1));(case aF=>exact(fun _ _=>trivial));(case aO=>exact(mR DG.1));(case aS=>exact(bl (mH HB.1)));(case aL=>have:=Uh.1;have hlx_:=(show ((U.take ((wrap64 (dE+gL)):Int).toNat).drop (dE:Int).toNat).length=((wrap64 (dE+gL)).toNat-dE.toNat) from (by rw[List.length_drop,List.length_take];have h_:((wrap64 (dE+gL)):Int)≤(U.length:Int):=mD;omega));omega);intro an7 qY ho hb hg hat;rw[←UH.1]at ho;replace HB:=J (hb);have rp:=J (ho);clear DG;clear ho hb hg hat;obtain⟨xE,yK,O7⟩:=Kd.b7 rp.1;subst O7)|((with_reducible refine aJ (f:=112) rfl ?_);refine bA 52 Tryz.func112 #[.slice xE qj.length yK] ?_;(with_reducible refine(gE.calls Hx _ _ qj pz _ ?az ?aA Dg.1).mono ?_);(case az=>exact mC (Kd.bK rp.1).2.2);(case aA=>exact(Kd.bK rp.1).2.1);rintro e w' ⟨rfl,⟨nd,rfl⟩⟩;refine⟨_,rfl,?_⟩));go_ret3;exact⟨_,bN,mR rp.1,(mH HB.1)⟩
         ·rw[if_neg gY]at H;have El:(pz == oJ)=false:=beq_eq_false_iff_ne.mpr gY;have ae7:(pz != oJ)=true:=bne_iff_ne.mpr gY;obtain⟨aoG,G2⟩:∃y_:List Int,y_=(([]:List Int)):=⟨_,rfl⟩;replace H:(some (aoG,a1,false))=some (r1,r2,r3):=by first|(rw[G2];with_reducible exact H)|(have aM:=(Option.bind_some _ _).symm.trans H;rw[G2];with_reducible exact aM)|(have aM:=(Option.bind_some _ _).symm.trans H;with_reducible exact aM)|with_reducible exact H|(rw[G2];exact H)|exact H
          have UI:=J G2;clear G2;simp only[Option.some.injEq,Prod.mk.injEq]at H;obtain⟨rfl,rfl,rfl⟩:=H;go_wp2_with (first|((with_reducible refine aH (N:=43) rfl ?_);(try (refine jx (by rfl) ?_;dsimp only));refine Kd.kR (Kd.int .u8) _ 5 ?hg (N:=43) ?hd (xs:=([]:List Int)) (inner:=[]) (ok:=fun _=>True) (okp:=fun _=>True) ?hr ?hp (fun _ hk=>hk) trivial (Below.refl _ _) (Nat.le_refl _) (by simp) ?_;(case hd=>rfl);(case hg=>rfl);(case hr=>first|(go_simp;done)|(go_simp;rfl));(case hp=>exact(bw.none _ _));intro SC LG FM hb hg_ hnew_;clear hg_ hnew_;(first|rw[←IU.1]at FM|(simp only[Int.reduceToNat]at FM;rw[←IU.1]at FM));have DG:=J (Kd.cg FM (bl (mH HB.1)));replace HB:=J (ar (mH HB.1) hb);clear hb FM;obtain⟨axQ,Xz,_,X6,_⟩:=info_parts sr;obtain⟨L7,aqd,Wk,Wp⟩:=RG (P:=Tryz.prog) (Value.int .u8) 0 22 5 .i64 .i64 Tryz.underlying22 Xz X6 A0 c0 U dE (wrap64 (dE+gL)) (mD) (by first|omega|exact mD) (mD) eb.1;have DL:=J (Kd.Mo (h1:=fun _=>rfl) (Wk _ (Kd.CH bB.1)));have abO:=J Wp;clear Wk Wp Xz X6)|((with_reducible refine kv (b:=.append) (xs:=#[.tmp 43,.tmp 49]) rfl ?_);(try (refine jx (by rfl) ?_;dsimp only));at_builtin;refine Kd.D0 (Kd.int .u8) (w0:=w) w.heap.size rfl (.tmp 43) (.tmp 49) 22 5 (.int .u8 0) 1 rfl Tryz.underlying22 sr rfl (by decide) (by omega) SC vr ((U.take ((wrap64 (dE+gL)):Int).toNat).drop (dE:Int).toNat) _ _ _ (fun _=>True) (fun _=>False) rfl rfl ?aO ?aR (fun _ _ h=>h) (fun _ h=>h.elim) ?aF ?aB ?aS ?aL ?_;(case aR=>first|(rw[←show ((U.take ((wrap64 (dE+gL)):Int).toNat).drop (dE:Int).toNat).length=((wrap64 (dE+gL)).toNat-dE.toNat) from (by rw[List.length_drop,List.length_take];have h_:((wrap64 (dE+gL)):Int)≤(U.length:Int):=mD;omega)];exact mC (Kd.aw DL.1 HB.1))|(exact mC (Kd.aw DL.1 HB.1)));(case aB=>exact(mH HB.1));(case aF=>exact(fun _ _=>trivial));(case aO=>exact(mR DG.1));(case aS=>exact(bl (mH HB.1)));(case aL=>have:=Uh.1;have hlx_:=(show ((U.take ((wrap64 (dE+gL)):Int).toNat).drop (dE:Int).toNat).length=((wrap64 (dE+gL)).toNat-dE.toNat) from (by rw[List.length_drop,List.length_take];have h_:((wrap64 (dE+gL)):Int)≤(U.length:Int):=mD;omega));omega);intro an7 SE ho hb hg hat;rw[←UH.1]at ho;replace HB:=J (hb);have rp:=J (ho);clear DG;clear ho hb hg hat;obtain⟨abi,afG,agx⟩:=Kd.b7 rp.1;subst agx)|((with_reducible refine aJ (f:=112) rfl ?_);refine bA 52 Tryz.func112 #[.slice abi qj.length afG] ?_;(with_reducible refine(gE.calls Hx _ _ qj pz _ ?az ?aA Dg.1).mono ?_);(case az=>exact mC (Kd.bK rp.1).2.2);(case aA=>exact(Kd.bK rp.1).2.1);rintro e w' ⟨rfl,⟨nd,rfl⟩⟩;refine⟨_,rfl,?_⟩)|((with_reducible refine aH (N:=55) rfl ?_);(try (refine jx (by rfl) ?_;dsimp only));refine Kd.kR (Kd.int .u8) _ 5 ?hg (N:=55) ?hd (xs:=([]:List Int)) (inner:=[]) (ok:=fun _=>True) (okp:=fun _=>True) ?hr ?hp (fun _ hk=>hk) trivial (Below.refl _ _) (Nat.le_refl _) (by simp) ?_;(case hd=>rfl);(case hg=>rfl);(case hr=>first|(go_simp;done)|(go_simp;rfl));(case hp=>exact(bw.none _ _));intro ayH lN Cp hb hg_ hnew_;clear hg_ hnew_;(first|rw[←UI.1]at Cp|(simp only[Int.reduceToNat]at Cp;rw[←UI.1]at Cp));have ab2:=J (Kd.cg (Kd.qC Cp (Kd.eK (mR rp.1))) (bl (mH HB.1)));replace rp:=J (Kd.tZ (mR rp.1) (Kd.fF Cp) hb);replace HB:=J (ar (mH HB.1) hb);clear hb Cp));go_ret3;exact⟨_,bN,by refine mR ?_;exact Kd.aK ab2.1 (fun _ hk=>trivial),(mH HB.1)⟩
        ·rw[if_neg gq]at H;exact absurd H (by simp)
       ·rw[if_neg cY]at H;exact absurd H (by simp)
      ·rw[if_neg dI]at H;exact absurd H (by simp)
     ·rw[if_neg ff]at H;exact absurd H (by simp)
 ·replace c4:=Bool.eq_false_iff.mpr c4;subst c4;have H1:=H;rw[if_neg (show ¬(false=true) by decide)]at H1;clear H;have H:=H1;clear H1;obtain⟨aoE,GY⟩:∃y_:List Int,y_=(([]:List Int)):=⟨_,rfl⟩;replace H:(some (aoE,a1,false))=some (r1,r2,r3):=by first|(rw[GY];with_reducible exact H)|(have aM:=(Option.bind_some _ _).symm.trans H;rw[GY];with_reducible exact aM)|(have aM:=(Option.bind_some _ _).symm.trans H;with_reducible exact aM)|with_reducible exact H|(rw[GY];exact H)|exact H
  have UF:=J GY;clear GY;simp only[Option.some.injEq,Prod.mk.injEq]at H;obtain⟨rfl,rfl,rfl⟩:=H;go_enter Tryz.func75,Tryz.ntmps75;go_wp2_with (first|((with_reducible refine aJ (f:=110) rfl ?_);refine bA 16 Tryz.func110 #[.slice A0 U.length c0,.int .i64 a1] ?_;(with_reducible refine(lH.calls k _ _ U a1 oJ false _ ?az ?aA A3.1).mono ?_);(case az=>exact mC bB.1);(case aA=>exact eb.1);rintro e w' ⟨rfl,⟨nd,rfl⟩⟩;refine⟨_,rfl,?_⟩)|((with_reducible refine aH (N:=21) rfl ?_);(try (refine jx (by rfl) ?_;dsimp only));refine Kd.kR (Kd.int .u8) _ 5 ?hg (N:=21) ?hd (xs:=([]:List Int)) (inner:=[]) (ok:=fun _=>True) (okp:=fun _=>True) ?hr ?hp (fun _ hk=>hk) trivial (Below.refl _ _) (Nat.le_refl _) (by simp) ?_;(case hd=>rfl);(case hg=>rfl);(case hr=>first|(go_simp;done)|(go_simp;rfl));(case hp=>exact(bw.none _ _));intro ayF LI FP hb hg_ hnew_;clear hg_ hnew_;(first|rw[←UF.1]at FP|(simp only[Int.reduceToNat]at FP;rw[←UF.1]at FP));have ab0:=J (Kd.cg FP (bl (mH HB.1)));replace HB:=J (ar (mH HB.1) hb);clear hb FP));go_ret3;exact⟨_,bN,mR ab0.1,(mH HB.1)⟩
end Go.Proofs.YtingkpnoiekliaaGreat.MZ
end
section
namespace Go.Proofs.YtingkpnoiekliaaGreat.MZ
open Go.RowKit Go.Proofs.YtingkpnoiekliaaGreatW.PrintWords Go.Proofs.YtingkpnoiekliaaGreatW.PrintLast Go.Proofs.YtingkpnoiekliaaGreatW.PrintMore Go.Proofs.YtingkpnoiekliaaGreat.MWords
attribute [local go_sem] max2_int min2_int max_two min_two max_three min_three max_four min_four
set_option linter.unusedVariables false
set_option linter.unusedSimpArgs false
def nu.U:Nat→List Int→List (List Int)→Int→Option ((List (List Int)) × Int)
 |0,_,_,_=>none
 |k+1,x0,x4,x5=>(kk.f k x0 x5).bind fun N8=>(if N8.2.2=true then (if x4.length<5864062014805 then (nu.U k x0 (x4++[N8.1]) N8.2.1) else (none)) else (some (x4,x5)))
def nu.f (k:Nat) (U:List Int):Option ((List (List Int)) × Int):=nu.U k U (([]:List (List Int))) 0
set_option maxHeartbeats 8000000 in
set_option maxRecDepth 100000 in
theorem nu.calls (k:Nat) (A0:Option Addr) (c0:Nat) (U:List Int) (r1:List (List Int)) (r2:Int) (w:World) (bJ:Kd.C (Kd.int .u8) w A0 U.length U) (bz:U.length≤c0) (h:nu.f k U=some (r1,r2)) :
 Calls Tryz.prog 33 #[.slice A0 U.length c0] w fun e w'=>∃cf:Value,e = .returned (.tuple #[cf,.int .i64 r2])∧Kd.S (Kd.slice 5 (Kd.int .u8)) 22 w' w.heap.size (fun _=>True) cf r1∧Below w.heap.size w w':=by
 have bB:=J bJ;have eb:=J bz;clear bJ bz;have HB:=J (Below.refl w.heap.size w);have H:(nu.U k U (([]:List (List Int))) 0)=some (r1,r2):=h;clear h;obtain⟨aaU,G3⟩:∃y_:List (List Int),y_=(([]:List (List Int))):=⟨_,rfl⟩;replace H:(nu.U k U aaU 0)=some (r1,r2):=by first|(rw[G3];with_reducible exact H)|(have aM:=(Option.bind_some _ _).symm.trans H;rw[G3];with_reducible exact aM)|(have aM:=(Option.bind_some _ _).symm.trans H;with_reducible exact aM)|with_reducible exact H|(rw[G3];exact H)|exact H
 have UJ:=J G3;clear G3;have H':=J H;clear H;go_enter Tryz.func33,Tryz.ntmps33;go_wp2_with (first|((with_reducible refine aH (N:=9) rfl ?_);refine Kd.aea (Kd.slice 5 (Kd.int .u8)) _ 22 ?hg (N:=9) ?hd (xs:=([]:List (List Int))) (inner:=[]) (ok:=fun _=>True) (okp:=fun _=>True) ?hr ?hp (fun _ hk=>hk) trivial (Below.refl _ _) (Nat.le_refl _) (by simp) ?_;(case hd=>rfl);(case hg=>rfl);(case hr=>first|(go_simp;done)|(go_simp;rfl));(case hp=>exact(bw.none _ _));intro ayI w2 FO hb hg_ hnew_;clear hg_ hnew_;(first|rw[←UJ.1]at FO|(simp only[Int.reduceToNat]at FO;rw[←UJ.1]at FO));have ab3:=J (Kd.l6 FO (bl (mH HB.1)));replace HB:=J (ar (mH HB.1) hb);clear hb FO));go_loopg [4,5] k (fun kq v4 v5 w'=>∃(aN:List (List Int)) (ah:Int),v5 = .int .i64 ah∧Aside0 (nu.U kq U aN ah=some (r1,r2))∧Aside0 (kq≤k)∧Aside0 (Kd.S (Kd.slice 5 (Kd.int .u8)) 22 w' w.heap.size (fun _=>True) v4 aN)∧Aside0 (Below w.heap.size w w'))
 case atStart=>exact⟨(aaU),(0),mE,H',⟨Nat.le_refl _⟩,⟨dm ab3.1⟩,⟨(mH HB.1)⟩⟩
 case round=>
  clear H'
  obtain⟨aN,ah,rfl,HA,aQ,gW,HB⟩:=hrel;cases gk with
  |zero=>exact absurd HA.1 (by simp[nu.U])
  |succ k1=>
   have H:=HA.1;clear HA;simp only[nu.U]at H;replace H:=Option.bind_eq_some_iff.mp H;obtain⟨⟨AM,H8,aad⟩,e6,H⟩:=H;replace H:(if aad=true then (if aN.length<5864062014805 then (nu.U k1 U (aN++[AM]) H8) else (none)) else (some (aN,ah)))=some (r1,r2):=H;have A4:=J e6;clear e6;by_cases c5:aad=true
   ·subst c5;have H1:=H;rw[if_pos rfl]at H1;clear H;have H:=H1;clear H1;by_cases c6:aN.length<5864062014805
    ·rw[if_pos c6]at H;have acx:=J c6;clear c6;obtain⟨aaV,G4⟩:∃y_:List (List Int),y_=(aN++[AM]):=⟨_,rfl⟩;replace H:(nu.U k1 U aaV H8)=some (r1,r2):=by first|(rw[G4];with_reducible exact H)|(have aM:=(Option.bind_some _ _).symm.trans H;rw[G4];with_reducible exact aM)|(have aM:=(Option.bind_some _ _).symm.trans H;with_reducible exact aM)|with_reducible exact H|(rw[G4];exact H)|exact H
     have adP:=J G4;clear G4;have H':=J H;clear H;go_wp2_with (first|((with_reducible refine aJ (f:=75) rfl ?_);refine bA 13 Tryz.func75 #[.slice A0 U.length c0,.int .i64 ah] ?_;(with_reducible refine(kk.calls k1 _ _ U ah AM H8 true _ ?az ?aA A4.1).mono ?_);(case az=>exact mC (Kd.aw bB.1 HB.1));(case aA=>exact eb.1);rintro e w7 ⟨an8,rfl,bq,hb⟩;refine⟨_,rfl,?_⟩;replace gW:=J (Kd.yq (dm gW.1) (Kd.fF bq) hb);have DH:=J (Kd.cg bq (bl (mH HB.1)));replace HB:=J (ar (mH HB.1) hb);(try clear hb);(try clear bq);obtain⟨Bh,vU,r6⟩:=Kd.b7 DH.1;subst r6)|((with_reducible refine kv (b:=.append) (xs:=#[.tmp 21,.tmp 23]) rfl ?_);at_builtin;refine Kd.I0 (Kd.slice 5 (Kd.int .u8)) (w0:=w) w.heap.size rfl (.tmp 21) (.tmp 23) 30 22 (.slice none 0 0) 24 rfl Tryz.underlying30 YM rfl (by decide) (by omega) u4 aN AM [.slice Bh AM.length vU] (fun _=>True) (fun k_=>some k_=(.slice Bh AM.length vU:Value).ownBlock) rfl rfl ?aP (fun k_ hk_=>((Kd.aK (ok':=fun k_=>((fun _=>True)) k_∧some k_≠(u4:Value).ownBlock) (Kd.tc (DH.1) (Kd.mJ gW.1) (by decide)) (fun k_ hk=>⟨trivial,hk.2⟩))).1 k_ hk_.symm) ?aF ?aO ?aB ?aS ?aL ?_;(case aP=>exact Kd.Ng (Kd.aK (Kd.kf rfl (Kd.aK (ok':=fun k_=>((fun _=>True)) k_∧some k_≠(u4:Value).ownBlock) (Kd.tc (DH.1) (Kd.mJ gW.1) (by decide)) (fun k_ hk=>⟨trivial,hk.2⟩))) (fun _ h_=>h_)));(case aB=>exact(mH HB.1));(case aF=>exact(fun _ _=>trivial));(case aO=>exact(by refine dm ?_;exact Kd.dj gW.1 (fun k_ hk=>⟨trivial,fun e_=>hk.2 e_⟩)));(case aS=>exact(bl (mH HB.1)));(case aL=>have:=acx.1;omega);intro an9 w8 ho hb hg hat;rw[←adP.1]at ho;replace HB:=J (hb);have ab4:=J (ho);clear gW;clear DH;clear ho hb hg hat));go_roundg k1
     case measure=>have:=aQ.1;omega
     case rel=>exact⟨(aaV),(H8),mE,H',⟨by have:=aQ.1;omega⟩,⟨dm ab4.1⟩,⟨(mH HB.1)⟩⟩
    ·rw[if_neg c6]at H;exact absurd H (by simp)
   ·replace c5:=Bool.eq_false_iff.mpr c5;subst c5;have H1:=H;rw[if_neg (show ¬(false=true) by decide)]at H1;clear H;have H:=H1;clear H1;simp only[Option.some.injEq,Prod.mk.injEq]at H;obtain⟨rfl,rfl⟩:=H;go_wp2_with (first|((with_reducible refine aJ (f:=75) rfl ?_);refine bA 13 Tryz.func75 #[.slice A0 U.length c0,.int .i64 ah] ?_;(with_reducible refine(kk.calls k1 _ _ U ah AM H8 false _ ?az ?aA A4.1).mono ?_);(case az=>exact mC (Kd.aw bB.1 HB.1));(case aA=>exact eb.1);rintro e eP ⟨an8,rfl,bq,hb⟩;refine⟨_,rfl,?_⟩;replace gW:=J (Kd.yq (dm gW.1) (Kd.fF bq) hb);have DH:=J (Kd.cg bq (bl (mH HB.1)));replace HB:=J (ar (mH HB.1) hb);(try clear hb);(try clear bq)));go_ret2;exact⟨_,bN,by refine dm ?_;exact Kd.dj gW.1 (fun _ hk=>trivial),(mH HB.1)⟩
end Go.Proofs.YtingkpnoiekliaaGreat.MZ
end
section
namespace Go.Proofs.YtingkpnoiekliaaGreat.MZ
open Go.RowKit Go.Proofs.YtingkpnoiekliaaGreatW.PrintWords Go.Proofs.YtingkpnoiekliaaGreatW.PrintLast Go.Proofs.YtingkpnoiekliaaGreatW.PrintMore Go.Proofs.YtingkpnoiekliaaGreat.MWords
attribute [local go_sem] max2_int min2_int max_two min_two max_three min_three max_four min_four
set_option linter.unusedVariables false
set_option linter.unusedSimpArgs false
def alq.f (k:Nat) (U:List Int):Option (List Int):=(fW.f k U).bind fun anG=>((aly.f anG).bind fun anH=>((zq.f k anH (U.length:Int)).bind fun aaf=>(if aaf.length+U.length<140737488355328 then (some (aaf++U)) else (none))))
end Go.Proofs.YtingkpnoiekliaaGreat.MZ
end
section
namespace Go.Proofs.YtingkpnoiekliaaGreat.MZ
open Go.RowKit Go.Proofs.YtingkpnoiekliaaGreatW.PrintWords Go.Proofs.YtingkpnoiekliaaGreatW.PrintLast Go.Proofs.YtingkpnoiekliaaGreatW.PrintMore Go.Proofs.YtingkpnoiekliaaGreat.MWords
attribute [local go_sem] max2_int min2_int max_two min_two max_three min_three max_four min_four
set_option linter.unusedVariables false
set_option linter.unusedSimpArgs false
def YH.f (k:Nat) (ab:List (al)) (af:List (aa)) (aj:List (aa)) (ak:Int) (a1:ByteArray) (l2:List Int):Option ((List (al)) × (List (aa)) × (List (aa)) × Int × Int):=(alq.f k l2).bind fun anI=>((Cv.f k ab af aj ak a1 anI).bind fun Ek=>(some (Ek.1,Ek.2.1,Ek.2.2.1,Ek.2.2.2.1,Ek.2.2.2.2)))
def YH.T1:Bool × List (List Nat × List Nat):=(true,[([],[]),([],[]),([],[]),([2],[2]),([0,1,3,3],[0,1,3]),([4],[4]),([4],[4]),([5,4,0,1,2,3,4,5,6],[5]),([6,7,0,1,2,3,4,5,6,7],[6])])
def YH.B1:List Nat:=[0,0,0,4,15,31,31,127,255]
end Go.Proofs.YtingkpnoiekliaaGreat.MZ
end
section
namespace Go.Proofs.YtingkpnoiekliaaGreat.MZ
open Go.RowKit Go.Proofs.YtingkpnoiekliaaGreatW.PrintWords Go.Proofs.YtingkpnoiekliaaGreatW.PrintLast Go.Proofs.YtingkpnoiekliaaGreatW.PrintMore Go.Proofs.YtingkpnoiekliaaGreat.MWords
attribute [local go_sem] max2_int min2_int max_two min_two max_three min_three max_four min_four
set_option linter.unusedVariables false
set_option linter.unusedSimpArgs false
def nT.U:Nat→List Int→List (List Int)→Int→Option ((List (List Int)) × Int)
 |0,_,_,_=>none
 |k+1,x0,x4,x5=>(ia.f k x0 x5).bind fun N7=>(if N7.2.2=true then (if x4.length<5864062014805 then (nT.U k x0 (x4++[N7.1]) N7.2.1) else (none)) else (some (x4,x5)))
def nT.f (k:Nat) (U:List Int):Option ((List (List Int)) × Int):=nT.U k U ([]:List (List Int)) 0
set_option maxHeartbeats 8000000 in
set_option maxRecDepth 100000 in
theorem nT.calls (k:Nat) (A0:Option Addr) (c0:Nat) (U:List Int) (r1:List (List Int)) (r2:Int) (w:World) (bJ:Kd.C (Kd.int .u8) w A0 U.length U) (bz:U.length≤c0) (h:nT.f k U=some (r1,r2)) :
 Calls Tryz.prog 10 #[.slice A0 U.length c0] w fun e w'=>∃cf:Value,e = .returned (.tuple #[cf,.int .i64 r2])∧Kd.S (Mz.kz 5) 22 w' w.heap.size (fun _=>True) cf r1∧Below w.heap.size w w':=by
 have bB:=J bJ;have eb:=J bz;clear bJ bz;have HB:=J (Below.refl w.heap.size w);have H:(nT.U k U ([]:List (List Int)) 0)=some (r1,r2):=h;clear h;have H':=J H;clear H;go_enter Tryz.func10,Tryz.ntmps10;go_wp2;go_loopg [4,5] k (fun kq v4 v5 w'=>∃(aN:List (List Int)) (ah:Int),v5 = .int .i64 ah∧Aside0 (nT.U kq U aN ah=some (r1,r2))∧Aside0 (kq≤k)∧Aside0 (Kd.S (Mz.kz 5) 22 w' w.heap.size (fun _=>True) v4 aN)∧Aside0 (Below w.heap.size w w'))
 case atStart=>exact⟨(([]:List (List Int))),(0),mE,H',⟨Nat.le_refl _⟩,⟨by first|exact Kd.rG _ _ _ _ _|exact Kd.N_nil _ _ _ _ _|exact Kd.V_nil _ _ _ _ _|exact Kd.Q_nil _ _ _ _ _|exact Mz.NR _ _ _ _⟩,⟨(mH HB.1)⟩⟩
 case round=>
  clear H'
  obtain⟨aN,ah,rfl,HA,aQ,gW,HB⟩:=hrel;cases gk with
  |zero=>exact absurd HA.1 (by simp[nT.U])
  |succ k1=>
   have H:=HA.1;clear HA;simp only[nT.U]at H;replace H:=Option.bind_eq_some_iff.mp H;obtain⟨⟨t173,t174,t175⟩,oO,H⟩:=H;replace H:(if t175=true then (if aN.length<5864062014805 then (nT.U k1 U (aN++[t173]) t174) else (none)) else (some (aN,ah)))=some (r1,r2):=H;have A2:=J oO;clear oO;by_cases c3:t175=true
   ·subst c3;have H1:=H;rw[if_pos rfl]at H1;clear H;have H:=H1;clear H1;by_cases c4:aN.length<5864062014805
    ·rw[if_pos c4]at H;have acv:=J c4;clear c4;obtain⟨aaR,GC⟩:∃y_:List (List Int),y_=(aN++[t173]):=⟨_,rfl⟩;replace H:(nT.U k1 U aaR t174)=some (r1,r2):=by first|(rw[GC];with_reducible exact H)|(have aM:=(Option.bind_some _ _).symm.trans H;rw[GC];with_reducible exact aM)|(have aM:=(Option.bind_some _ _).symm.trans H;with_reducible exact aM)|with_reducible exact H|(rw[GC];exact H)|exact H
     have adI:=J GC;clear GC;have H':=J H;clear H;go_wp2_with (first|((with_reducible refine aJ (f:=37) rfl ?_);refine bA 12 Tryz.func37 #[.slice A0 U.length c0,.int .i64 ah] ?_;(with_reducible refine(ia.calls k1 _ _ U ah t173 t174 true _ ?az ?aA A2.1).mono ?_);(case az=>exact mC (Kd.aw bB.1 HB.1));(case aA=>exact eb.1);rintro e w5 ⟨Ic,rfl,bq,hb⟩;refine⟨_,rfl,?_⟩;replace gW:=J (Kd.yq (dm gW.1) (Mz.NQ bq) hb);have lq:=J (Mz.D8 bq (bl (mH HB.1)));replace HB:=J (ar (mH HB.1) hb);(try clear hb);(try clear bq);obtain⟨Tm,VK,eo7⟩:=Mz.BD lq.1;subst eo7)|((with_reducible refine kv (b:=.append) (xs:=#[.tmp 20,.tmp 22]) rfl ?_);at_builtin;refine Kd.I0 (Mz.kz 5) (w0:=w) w.heap.size rfl (.tmp 20) (.tmp 22) 30 22 (.slice none 0 0) 24 rfl Tryz.underlying30 YM rfl (by decide) (by omega) u4 aN t173 [.slice Tm t173.length VK] (fun _=>True) (fun k_=>some k_=(.slice Tm t173.length VK:Value).ownBlock) rfl rfl ?aP (fun k_ hk_=>((Mz.D9 (ok':=fun k_=>((fun _=>True)) k_∧some k_≠(u4:Value).ownBlock) (Mz.U9 (lq.1) (Kd.mJ gW.1) (by decide)) (fun k_ hk=>⟨trivial,hk.2⟩))).1 k_ hk_.symm) ?aF ?aO ?aB ?aS ?aL ?_;(case aP=>exact Mz.Ng (Mz.D9 (Mz.aem rfl (Mz.D9 (ok':=fun k_=>((fun _=>True)) k_∧some k_≠(u4:Value).ownBlock) (Mz.U9 (lq.1) (Kd.mJ gW.1) (by decide)) (fun k_ hk=>⟨trivial,hk.2⟩))) (fun _ h_=>h_)));(case aB=>exact(mH HB.1));(case aF=>exact(fun _ _=>trivial));(case aO=>exact(by refine dm ?_;exact Kd.dj gW.1 (fun k_ hk=>⟨trivial,fun e_=>hk.2 e_⟩)));(case aS=>exact(bl (mH HB.1)));(case aL=>have:=acv.1;omega);intro ayg w6 ho hb hg hat;rw[←adI.1]at ho;replace HB:=J (hb);have abV:=J (ho);clear gW;clear lq;clear ho hb hg hat));go_roundg k1
     case measure=>have:=aQ.1;omega
     case rel=>exact⟨(aaR),(t174),mE,H',⟨by have:=aQ.1;omega⟩,⟨dm abV.1⟩,⟨(mH HB.1)⟩⟩
    ·rw[if_neg c4]at H;exact absurd H (by simp)
   ·replace c3:=Bool.eq_false_iff.mpr c3;subst c3;have H1:=H;rw[if_neg (show ¬(false=true) by decide)]at H1;clear H;have H:=H1;clear H1;simp only[Option.some.injEq,Prod.mk.injEq]at H;obtain⟨rfl,rfl⟩:=H;go_wp2_with (first|((with_reducible refine aJ (f:=37) rfl ?_);refine bA 12 Tryz.func37 #[.slice A0 U.length c0,.int .i64 ah] ?_;(with_reducible refine(ia.calls k1 _ _ U ah t173 t174 false _ ?az ?aA A2.1).mono ?_);(case az=>exact mC (Kd.aw bB.1 HB.1));(case aA=>exact eb.1);rintro e w8 ⟨Ic,rfl,bq,hb⟩;refine⟨_,rfl,?_⟩;replace gW:=J (Kd.yq (dm gW.1) (Mz.NQ bq) hb);have lq:=J (Mz.D8 bq (bl (mH HB.1)));replace HB:=J (ar (mH HB.1) hb);(try clear hb);(try clear bq)));go_ret2;exact⟨_,bN,by refine dm ?_;exact Kd.dj gW.1 (fun _ hk=>trivial),(mH HB.1)⟩
end Go.Proofs.YtingkpnoiekliaaGreat.MZ
end
